-- Ythfflieeifakdaa's texts for the statement FnValPut, one behind the other (merge.py).
import Derived.Test.YthfflieeifakdaaQFnValPut0
section
namespace Go.Proofs.Ythfflieeifakdaa.PA
open Go.RowKit Go.Proofs.YthfflieeifakdaaW.PrintWords Go.Proofs.YthfflieeifakdaaW.PrintLast Go.Proofs.YthfflieeifakdaaW.PrintMore
attribute [local go_sem] max2_int min2_int max_two min_two max_three min_three max_four min_four
set_option linter.unusedVariables false
set_option linter.unusedSimpArgs false
mutual
def impl_valType.j0 : Nat → Int → Bool → Int → List (S25) → Option ((List (S50)) × Bool)
 | 0, _, _, _, _ => none
 | k + 1, x1, x34, x275000, x275001 => if x34 = true then (some (([] : List (S50)), false)) else (if 0 < (x275001.length : Int) then ((impl_valType.f k ((rd_T25 x275001 0).f0) ((rd_T25 x275001 0).f1) (wrap64 (x1 - 1))).bind fun bt277 => (if 1 < (x275001.length : Int) then ((impl_valType.f k ((rd_T25 x275001 1).f0) ((rd_T25 x275001 1).f1) (wrap64 (x1 - 1))).bind fun bt283 => (if bt277.2 = true then (if bt283.2 = true then (some ((([(⟨bt277.1⟩ : S50), (⟨bt283.1⟩ : S50)] : List (S50))), true)) else (some (([] : List (S50)), false))) else (some (([] : List (S50)), false)))) else (none))) else (none))
def impl_valType.f : Nat → Int → List (S25) → Int → Option ((List (S50)) × Bool)
 | 0, _, _, _ => none
 | k + 1, a0_0, l0_1, a1 => if a1 < 1 then (some (([] : List (S50)), false)) else (if (l0_1.length : Int) = 0 then (if a0_0 ≥ 0 then (some (([] : List (S50)), decide (a0_0 ≤ 9999))) else (some (([] : List (S50)), false))) else (if (l0_1.length : Int) = 2 then (impl_valType.j0 k a1 (a0_0 != 0) a0_0 l0_1) else (impl_valType.j0 k a1 true a0_0 l0_1)))
end
theorem impl_valType.mono_l : ∀ k, (∀ y0 y1 y2, LeO (impl_valType.f k y0 y1 y2) (impl_valType.f (k + 1) y0 y1 y2)) ∧ (∀ y0 y1 y2 y3, LeO (impl_valType.j0 k y0 y1 y2 y3) (impl_valType.j0 (k + 1) y0 y1 y2 y3))
 | 0 => ⟨fun _ _ _ r h => by simp [impl_valType.f] at h, fun _ _ _ _ r h => by simp [impl_valType.j0] at h⟩
 | k + 1 => by
  obtain ⟨ih0, ih1⟩ := impl_valType.mono_l k
  refine ⟨?_, ?_⟩
  ·intro y0 y1 y2
   unfold impl_valType.f
   repeat' first
   | (with_reducible exact ih0 _ _ _)
   | (with_reducible exact ih1 _ _ _ _)
   | (with_reducible exact LeO.refl _)
   | (with_reducible exact LeO.none _)
   | (with_reducible refine LeO.ite ?_ ?_)
   | (with_reducible refine LeO.bind ?_ (fun _ => ?_))
   | exact ih0 _ _ _
   | exact ih1 _ _ _ _
   | exact LeO.none _
   | refine LeO.ite ?_ ?_
   | refine LeO.bind ?_ (fun _ => ?_)
  ·intro y0 y1 y2 y3
   unfold impl_valType.j0
   repeat' first
   | (with_reducible exact ih0 _ _ _)
   | (with_reducible exact ih1 _ _ _ _)
   | (with_reducible exact LeO.refl _)
   | (with_reducible exact LeO.none _)
   | (with_reducible refine LeO.ite ?_ ?_)
   | (with_reducible refine LeO.bind ?_ (fun _ => ?_))
   | exact ih0 _ _ _
   | exact ih1 _ _ _ _
   | exact LeO.none _
   | refine LeO.ite ?_ ?_
   | refine LeO.bind ?_ (fun _ => ?_)
theorem impl_valType.mono : ∀ a0 a1 a2 k, LeO (impl_valType.f k a0 a1 a2) (impl_valType.f (k + 1) a0 a1 a2) := by
 intro a0 a1 a2 k
 obtain ⟨ih0, ih1⟩ := impl_valType.mono_l k
 exact ih0 a0 a1 a2
def impl_valType.T4 : Bool × List (List Nat × List Nat) := (true, [([], []), ([], []), ([1], [1]), ([2], [2]), ([3], [3]), ([4], [4]), ([5, 4], [4, 5]), ([6, 4], [4, 6]), ([4, 7], [4, 7]), ([0, 4, 0], [0]), ([8, 9, 0, 1, 2, 3, 4, 5, 6, 7, 8, 9], [8])])
def impl_valType.B4 : List Nat := [0, 0, 2, 6, 14, 30, 62, 126, 254, 31, 1023]
theorem impl_valType.tab4 : rtab .any (opsOf Try.f57 4) = impl_valType.T4 := by kernel_rfl
theorem impl_valType.bits4 : waitsOk impl_valType.T4.2 impl_valType.B4 = true := by kernel_rfl
set_option maxHeartbeats 8000000 in
set_option maxRecDepth 100000 in
theorem impl_valType.calls (k : Nat) : ∀ (a0_0 : Int) (A0_1 : Option Addr) (c0_1 : Nat) (l0_1 : List (S25)) (a1 : Int) (r1 : List (S50)) (r2 : Bool) (w : World) (hr0_1 : Kd.C k25 w A0_1 l0_1.length l0_1) (hc0_1 : l0_1.length ≤ c0_1) (h : impl_valType.f k a0_0 l0_1 a1 = some (r1, r2)),
  Calls Try.prog 57 #[.agg #[.int .i64 a0_0, .slice A0_1 l0_1.length c0_1], .int .i64 a1] w fun e w' => ∃ v0_ : Value, e = .returned (.tuple #[.agg #[v0_], .bool r2]) ∧ Kd.N k50 50 w' w.heap.size (fun k_ => (w.heap.size ≤ k_)) v0_ r1 ∧ Below w.heap.size w w' := by
 induction k using Nat.strongRecOn with
 | _ k ih =>
 intro a0_0 A0_1 c0_1 l0_1 a1 r1 r2 w hr0_1 hc0_1 h
 cases k with
 | zero => exact absurd h (by simp [impl_valType.f])
 | succ k =>
 simp only [impl_valType.f] at h
 have hu25 := Try.underlying25
 have hu50 := Try.underlying50
 have HR0_1 := Aside0.mk hr0_1
 have HC0_1 := Aside0.mk hc0_1
 clear hr0_1 hc0_1
 have HB := Aside0.mk (Below.refl w.heap.size w)
 have H : (if a1 < 1 then (some (([] : List (S50)), false)) else (if (l0_1.length : Int) = 0 then (if a0_0 ≥ 0 then (some (([] : List (S50)), decide (a0_0 ≤ 9999))) else (some (([] : List (S50)), false))) else (if (l0_1.length : Int) = 2 then (impl_valType.j0 k a1 (a0_0 != 0) a0_0 l0_1) else (impl_valType.j0 k a1 true a0_0 l0_1)))) = some (r1, r2) := h
 clear h
 by_cases c3 : a1 < 1
 ·rw [if_pos c3] at H
  have c3b0 : decide (a1 < 1) = true := decide_eq_true c3
  clear c3
  simp only [Option.some.injEq, Prod.mk.injEq] at H
  obtain ⟨rfl, rfl⟩ := H
  go_enter Try.func57, Try.ntmps57
  go_wp2_with (first | ((with_reducible refine gate_dst (N := 2) rfl ?_); refine zbx 2 #[.int .i64 a0_0, .slice A0_1 l0_1.length c0_1] 25 ?_; intro gb274 hg w4 hbox hb; have BK274 := Aside0.mk hbox; have GW274 := Aside0.mk ((y9 hg HB.out : w.heap.size ≤ gb274)); have GE274 := Aside0.mk ((y9 hg HB.out : w.heap.size ≤ gb274)); replace HB := Aside0.mk (below_step (y5 HB.out) hb); clear hb hbox hg) | ((with_reducible refine gate_dst (N := 4) rfl ?_); refine zbx 4 #[.slice none 0 0] 50 ?_; intro gb275 hg w5 hbox hb; have BK275 := Aside0.mk hbox; have GW275 := Aside0.mk ((y11 hg HB.out GE274.out : w.heap.size ≤ gb275)); have GE275 := Aside0.mk ((y11 hg HB.out GE274.out : w.heap.size ≤ gb275)); replace HB := Aside0.mk (below_step (y6 HB.out GE274.out) hb); have NB274_275 := zltn hg BK274; have NB275_274 := zgtn hg BK274; replace BK274 := zbb BK274 hb; clear hb hbox hg; have hnb6 := NB275_274.out; have hnc6 := NB274_275.out; have hcz7_0 := zh BK275; have hfz7_0 := zfr BK275 0))
  refine bodyPost_ret (results_ct rfl _ _ gb275 50 #[.slice none 0 0] (0, 0) _ rfl (by (with_reducible repeat (first | refine blk_drewN ?_ _ | refine blk_drew ?_ | refine blk_alloc ?_ _)); apply blk_put (i := 0); (case h => exact y0 BK275.out); (case e => rfl)) Try.underlying50 rfl (by kernel_rfl)) rfl ?_
  exact ⟨_, y19, y37, (y2 HB.out GE274.out GE275.out)⟩
 ·rw [if_neg c3] at H
  have c3b0 : decide (a1 < 1) = false := decide_eq_false c3
  clear c3
  by_cases c8 : (l0_1.length : Int) = 0
  ·rw [if_pos c8] at H
   have c8b0 : ((l0_1.length : Int) == 0) = true := beq_iff_eq.mpr c8
   have c8b1 : ((l0_1.length : Int) != 0) = false := bne_eq_false_iff_eq.mpr c8
   clear c8
   by_cases c9 : a0_0 ≥ 0
   ·rw [if_pos c9] at H
    have c9b0 : decide (0 ≤ a0_0) = true := decide_eq_true c9
    clear c9
    simp only [Option.some.injEq, Prod.mk.injEq] at H
    obtain ⟨rfl, rfl⟩ := H
    go_enter Try.func57, Try.ntmps57
    try go_wp2_with (first | ((with_reducible refine gate_dst (N := 2) rfl ?_); refine zbx 2 #[.int .i64 a0_0, .slice A0_1 l0_1.length c0_1] 25 ?_; intro gb274 hg w10 hbox hb; have BK274 := Aside0.mk hbox; have GW274 := Aside0.mk ((y9 hg HB.out : w.heap.size ≤ gb274)); have GE274 := Aside0.mk ((y9 hg HB.out : w.heap.size ≤ gb274)); replace HB := Aside0.mk (below_step (y5 HB.out) hb); clear hb hbox hg) | ((with_reducible refine gate_dst (N := 4) rfl ?_); refine zbx 4 #[.slice none 0 0] 50 ?_; intro gb275 hg w11 hbox hb; have BK275 := Aside0.mk hbox; have GW275 := Aside0.mk ((y11 hg HB.out GE274.out : w.heap.size ≤ gb275)); have GE275 := Aside0.mk ((y11 hg HB.out GE274.out : w.heap.size ≤ gb275)); replace HB := Aside0.mk (below_step (y6 HB.out GE274.out) hb); have NB274_275 := zltn hg BK274; have NB275_274 := zgtn hg BK274; replace BK274 := zbb BK274 hb; clear hb hbox hg; have hnb12 := NB274_275.out; have hnc12 := NB275_274.out; have hcz13_0 := zh BK274; have hcz13_1 := zh1 BK274; have hfz13_0 := zfr BK274 0; have hfz13_1 := zfr BK274 1))
    replace BK274 := Aside0.mk (blk_drew BK274.out)
    replace BK275 := Aside0.mk (blk_drew BK275.out)
    replace HB := Aside0.mk (below_drew1 HB.out)
    refine start_ (n := 11) (S := fun w' => w'.cell? ⟨gb274, 0, none⟩ = some (.int .i64 a0_0) ∧ w'.cell? ⟨gb274, 1, none⟩ = some (.slice A0_1 l0_1.length c0_1)) (ds := []) #[false, false, false, false, false, false, false, false, false, false, false] (by kernel_rfl) rfl rfl ⟨(blk_cell BK274.out 0).trans rfl, (blk_cell BK274.out 1).trans rfl⟩ (fun hHeld => ?_); refine with_tabW impl_valType.tab4 impl_valType.bits4 (fun HT_ HW_ => ?_)
    generalize w11.drew = w14 at BK274 BK275 HB hHeld ⊢
    refine zp 0 (some 17) HT_ ?_
    refine zp 1 (some 18) HT_ ?_
    refine zt2 2 (some 19) HT_ HW_ hHeld ?_
    refine zp 3 (some 20) HT_ ?_
    refine zp 4 (some 21) HT_ ?_
    refine zp 5 (some 22) HT_ ?_
    refine zt2 6 (some 23) HT_ HW_ hHeld ?_
    refine zp 7 (some 24) HT_ ?_
    refine zp 8 (some 25) HT_ ?_
    refine one_ (i := 9) (N := none) #[true, true, true, true, true, true, true, true, true, true, false] rfl rfl (one_of HT_.out (by kernel_rfl)) (by decide) (fun K hK => ?_)
    have hs15 : w14.cell? ⟨gb275, 0, none⟩ = some (.slice none 0 0) := (blk_cell BK275.out 0).trans rfl
    have hfs15 := zfr BK275 0
    have hns15_0 := NB274_275.out
    have hms15_0 := NB275_274.out
    refine skip_ (w1 := ?_) (by rfl) rfl ?_ ?_
    rotate_left
    ·go_simp
     rfl
    refine hK.out _ _ ⟨((cell_far (p := ⟨gb275, _, none⟩) NB274_275.out _).trans (hHeld.1)), ((cell_far (p := ⟨gb275, _, none⟩) NB274_275.out _).trans (hHeld.2))⟩ (fun hHeld => ?_)
    clear hK K
    refine zp 10 (some 5) HT_ ?_
    refine done_ (done_of HT_.out (by kernel_rfl)) ?_
    try go_wp2
    refine bodyPost_ret (results_ct rfl _ _ gb275 50 #[.slice none 0 0] (0, 0) _ rfl (by (with_reducible repeat (first | refine blk_drewN ?_ _ | refine blk_drew ?_ | refine blk_alloc ?_ _)); apply blk_put (i := 0); (case h => exact y0 BK275.out); (case e => rfl)) Try.underlying50 rfl (by kernel_rfl)) rfl ?_
    exact ⟨_, y19, y37, (y2 HB.out GE274.out GE275.out)⟩
   ·rw [if_neg c9] at H
    have c9b0 : decide (0 ≤ a0_0) = false := decide_eq_false c9
    clear c9
    simp only [Option.some.injEq, Prod.mk.injEq] at H
    obtain ⟨rfl, rfl⟩ := H
    go_enter Try.func57, Try.ntmps57
    try go_wp2_with (first | ((with_reducible refine gate_dst (N := 2) rfl ?_); refine zbx 2 #[.int .i64 a0_0, .slice A0_1 l0_1.length c0_1] 25 ?_; intro gb274 hg w16 hbox hb; have BK274 := Aside0.mk hbox; have GW274 := Aside0.mk ((y9 hg HB.out : w.heap.size ≤ gb274)); have GE274 := Aside0.mk ((y9 hg HB.out : w.heap.size ≤ gb274)); replace HB := Aside0.mk (below_step (y5 HB.out) hb); clear hb hbox hg) | ((with_reducible refine gate_dst (N := 4) rfl ?_); refine zbx 4 #[.slice none 0 0] 50 ?_; intro gb275 hg w17 hbox hb; have BK275 := Aside0.mk hbox; have GW275 := Aside0.mk ((y11 hg HB.out GE274.out : w.heap.size ≤ gb275)); have GE275 := Aside0.mk ((y11 hg HB.out GE274.out : w.heap.size ≤ gb275)); replace HB := Aside0.mk (below_step (y6 HB.out GE274.out) hb); have NB274_275 := zltn hg BK274; have NB275_274 := zgtn hg BK274; replace BK274 := zbb BK274 hb; clear hb hbox hg; have hnb18 := NB274_275.out; have hnc18 := NB275_274.out; have hcz19_0 := zh BK274; have hcz19_1 := zh1 BK274; have hfz19_0 := zfr BK274 0; have hfz19_1 := zfr BK274 1))
    replace BK274 := Aside0.mk (blk_drew BK274.out)
    replace BK275 := Aside0.mk (blk_drew BK275.out)
    replace HB := Aside0.mk (below_drew1 HB.out)
    refine start_ (n := 11) (S := fun w' => w'.cell? ⟨gb274, 0, none⟩ = some (.int .i64 a0_0) ∧ w'.cell? ⟨gb274, 1, none⟩ = some (.slice A0_1 l0_1.length c0_1)) (ds := []) #[false, false, false, false, false, false, false, false, false, false, false] (by kernel_rfl) rfl rfl ⟨(blk_cell BK274.out 0).trans rfl, (blk_cell BK274.out 1).trans rfl⟩ (fun hHeld => ?_); refine with_tabW impl_valType.tab4 impl_valType.bits4 (fun HT_ HW_ => ?_)
    generalize w17.drew = w20 at BK274 BK275 HB hHeld ⊢
    refine zp 0 (some 17) HT_ ?_
    refine zp 1 (some 18) HT_ ?_
    refine zt2 2 (some 19) HT_ HW_ hHeld ?_
    refine zp 3 (some 20) HT_ ?_
    refine zp 4 (some 21) HT_ ?_
    refine pure_ (i := 5) (N := some 22) (v := undef) (a' := ?_) #[true, true, true, true, true, true, false, false, false, false, false] rfl rfl (any_of HT_.out (by kernel_rfl)) (fun _ _ _ h => h) (Or.inr ⟨(by rfl), rfl⟩) ?_ ?_
    rotate_left
    ·simp only [Act.put, List.setIfInBounds_toArray, List.set_cons_zero, List.set_cons_succ, i64_w, i32_w]
     rfl
    refine pure_ (i := 6) (N := some 23) (v := undef) (a' := ?_) #[true, true, true, true, true, true, true, false, false, false, false] rfl rfl (any_of HT_.out (by kernel_rfl)) (fun _ _ _ h => h) (Or.inr ⟨(by rfl), rfl⟩) ?_ ?_
    rotate_left
    ·simp only [Act.put, List.setIfInBounds_toArray, List.set_cons_zero, List.set_cons_succ, i64_w, i32_w]
     rfl
    refine pure_ (i := 7) (N := some 24) (v := undef) (a' := ?_) #[true, true, true, true, true, true, true, true, false, false, false] rfl rfl (any_of HT_.out (by kernel_rfl)) (fun _ _ _ h => h) (Or.inr ⟨(by rfl), rfl⟩) ?_ ?_
    rotate_left
    ·simp only [Act.put, List.setIfInBounds_toArray, List.set_cons_zero, List.set_cons_succ, i64_w, i32_w]
     rfl
    refine zp 8 (some 25) HT_ ?_
    refine one_ (i := 9) (N := none) #[true, true, true, true, true, true, true, true, true, true, false] rfl rfl (one_of HT_.out (by kernel_rfl)) (by decide) (fun K hK => ?_)
    have hs21 : w20.cell? ⟨gb275, 0, none⟩ = some (.slice none 0 0) := (blk_cell BK275.out 0).trans rfl
    have hfs21 := zfr BK275 0
    have hns21_0 := NB274_275.out
    have hms21_0 := NB275_274.out
    refine skip_ (w1 := ?_) (by rfl) rfl ?_ ?_
    rotate_left
    ·go_simp
     rfl
    refine hK.out _ _ ⟨((cell_far (p := ⟨gb275, _, none⟩) NB274_275.out _).trans (hHeld.1)), ((cell_far (p := ⟨gb275, _, none⟩) NB274_275.out _).trans (hHeld.2))⟩ (fun hHeld => ?_)
    clear hK K
    refine zp 10 (some 5) HT_ ?_
    refine done_ (done_of HT_.out (by kernel_rfl)) ?_
    try go_wp2
    refine bodyPost_ret (results_ct rfl _ _ gb275 50 #[.slice none 0 0] (0, 0) _ rfl (by (with_reducible repeat (first | refine blk_drewN ?_ _ | refine blk_drew ?_ | refine blk_alloc ?_ _)); apply blk_put (i := 0); (case h => exact y0 BK275.out); (case e => rfl)) Try.underlying50 rfl (by kernel_rfl)) rfl ?_
    exact ⟨_, y19, y37, (y2 HB.out GE274.out GE275.out)⟩
  ·rw [if_neg c8] at H
   have c8b0 : ((l0_1.length : Int) == 0) = false := beq_eq_false_iff_ne.mpr c8
   have c8b1 : ((l0_1.length : Int) != 0) = true := bne_iff_ne.mpr c8
   have c8b2 : ¬ (l0_1 = []) := fun h_ => c8 (by rw [h_]; rfl)
   have HC22 := Aside0.mk H
   clear H
   go_enter Try.func57, Try.ntmps57
   go_upto_region 5 with (first | ((with_reducible refine gate_dst (N := 2) rfl ?_); refine zbx 2 #[.int .i64 a0_0, .slice A0_1 l0_1.length c0_1] 25 ?_; intro gb274 hg w23 hbox hb; have BK274 := Aside0.mk hbox; have GW274 := Aside0.mk ((y9 hg HB.out : w.heap.size ≤ gb274)); have GE274 := Aside0.mk ((y9 hg HB.out : w.heap.size ≤ gb274)); replace HB := Aside0.mk (below_step (y5 HB.out) hb); clear hb hbox hg) | ((with_reducible refine gate_dst (N := 4) rfl ?_); refine zbx 4 #[.slice none 0 0] 50 ?_; intro gb275 hg w24 hbox hb; have BK275 := Aside0.mk hbox; have GW275 := Aside0.mk ((y11 hg HB.out GE274.out : w.heap.size ≤ gb275)); have GE275 := Aside0.mk ((y11 hg HB.out GE274.out : w.heap.size ≤ gb275)); replace HB := Aside0.mk (below_step (y6 HB.out GE274.out) hb); have NB274_275 := zltn hg BK274; have NB275_274 := zgtn hg BK274; replace BK274 := zbb BK274 hb; clear hb hbox hg; have hnb25 := NB274_275.out; have hnc25 := NB275_274.out; have hcz26_0 := zh BK274; have hcz26_1 := zh1 BK274; have hfz26_0 := zfr BK274 0; have hfz26_1 := zfr BK274 1))
   (try simp only [Act.put, List.setIfInBounds_toArray, List.set_cons_zero, List.set_cons_succ])
   go_cut [34] (fun v34 wc => ∃ (kq : Nat) (x34_21 : Bool), v34 = .bool x34_21 ∧ Aside0 (impl_valType.j0 kq a1 x34_21 a0_0 l0_1 = some (r1, r2)) ∧ Aside0 (kq ≤ k) ∧ Aside0 (wc.heap[gb274]? = some (.cells #[.int .i64 a0_0, (.slice A0_1 l0_1.length c0_1)] 25 (0, 0))) ∧ Aside0 (wc.heap[gb275]? = some (.cells #[(.slice none 0 0)] 50 (0, 0))) ∧ Aside0 (Below w.heap.size w wc))
   case first =>
    have H := HC22.out
    clear HC22
    by_cases c27 : (l0_1.length : Int) = 2
    ·rw [if_pos c27] at H
     have c27b0 : ((l0_1.length : Int) == 2) = true := beq_iff_eq.mpr c27
     have c27b1 : ((l0_1.length : Int) != 2) = false := bne_eq_false_iff_eq.mpr c27
     clear c27
     (first | rw [c27b0] | (simp only [i64_w, i32_w]; rw [c27b0]) | skip)
     have H' := Aside0.mk H
     clear H
     have hnb28 := NB274_275.out
     have hnc28 := NB275_274.out
     have hcz29_0 := zh BK274
     have hcz29_1 := zh1 BK274
     have hfz29_0 := zfr BK274 0
     have hfz29_1 := zfr BK274 1
     go_wp2
     go_meet
     case rel => exact ⟨_, ((a0_0 != 0)), y34, H', ⟨y46⟩, ⟨(y0 BK274.out)⟩, ⟨(y0 BK275.out)⟩, ⟨(y2 HB.out GE274.out GE275.out)⟩⟩
    ·rw [if_neg c27] at H
     have c27b0 : ((l0_1.length : Int) == 2) = false := beq_eq_false_iff_ne.mpr c27
     have c27b1 : ((l0_1.length : Int) != 2) = true := bne_iff_ne.mpr c27
     (first | rw [c27b0] | (simp only [i64_w, i32_w]; rw [c27b0]) | skip)
     have H' := Aside0.mk H
     clear H
     have hnb30 := NB274_275.out
     have hnc30 := NB275_274.out
     have hcz31_0 := zh BK274
     have hcz31_1 := zh1 BK274
     have hfz31_0 := zfr BK274 0
     have hfz31_1 := zfr BK274 1
     go_wp2
     go_meet
     case rel => exact ⟨_, (true), y34, H', ⟨y46⟩, ⟨(y0 BK274.out)⟩, ⟨(y0 BK275.out)⟩, ⟨(y2 HB.out GE274.out GE275.out)⟩⟩
   case rest =>
    clear HC22
    try clear c1
    try clear c2
    try clear p2
    try clear c3
    try clear c3b0
    try clear c5
    try clear c6
    try clear c8
    try clear c8b0
    try clear c8b1
    try clear c8b2
    try clear c9
    try clear c9b0
    try clear c12
    try clear c18
    try clear c25
    try clear c27
    try clear c27b0
    try clear c27b1
    try clear c28
    try clear c30
    try clear hcz13_0
    try clear hcz13_1
    try clear hcz19_0
    try clear hcz19_1
    try clear hcz26_0
    try clear hcz26_1
    try clear hcz29_0
    try clear hcz29_1
    try clear hcz31_0
    try clear hcz31_1
    try clear hcz7_0
    try clear hfz13_0
    try clear hfz13_1
    try clear hfz19_0
    try clear hfz19_1
    try clear hfz26_0
    try clear hfz26_1
    try clear hfz29_0
    try clear hfz29_1
    try clear hfz31_0
    try clear hfz31_1
    try clear hfz7_0
    obtain ⟨kq, x34_21, rfl, HA, HJ21, BK274, BK275, HB⟩ := hcut
    cases kq with
    | zero => exact absurd HA.out (by simp [impl_valType.j0])
    | succ kj21 =>
     have H := HA.out
     clear HA
     simp only [impl_valType.j0] at H
     by_cases c32 : x34_21 = true
     ·subst c32
      rw [if_pos rfl] at H
      simp only [Option.some.injEq, Prod.mk.injEq] at H
      obtain ⟨rfl, rfl⟩ := H
      have hnb33 := NB275_274.out
      have hnc33 := NB274_275.out
      have hcz34_0 := zh BK275
      have hfz34_0 := zfr BK275 0
      go_wp2
      refine bodyPost_ret (results_ct rfl _ _ gb275 50 #[.slice none 0 0] (0, 0) _ rfl (by (with_reducible repeat (first | refine blk_drewN ?_ _ | refine blk_drew ?_ | refine blk_alloc ?_ _)); apply blk_put (i := 0); (case h => exact y0 BK275.out); (case e => rfl)) Try.underlying50 rfl (by kernel_rfl)) rfl ?_
      exact ⟨_, y19, y37, (y2 HB.out GE274.out GE275.out)⟩
     ·replace c32 := Bool.eq_false_iff.mpr c32
      subst c32
      rw [if_neg (show ¬ (false = true) by decide)] at H
      by_cases c35 : 0 < (l0_1.length : Int)
      ·rw [if_pos c35] at H
       have c35b0 : decide (0 < (l0_1.length : Int)) = true := decide_eq_true c35
       have c35b1 : decide (0 < l0_1.length) = true := decide_eq_true (by omega)
       clear c35
       obtain ⟨⟨t277, t280⟩, A360, H⟩ := ob H
       have A36 := Aside0.mk A360
       clear A360
       by_cases c37 : 1 < (l0_1.length : Int)
       ·rw [if_pos c37] at H
        have c37b0 : decide (1 < (l0_1.length : Int)) = true := decide_eq_true c37
        have c37b1 : decide (1 < l0_1.length) = true := decide_eq_true (by omega)
        clear c37
        obtain ⟨⟨t283, t286⟩, A380, H⟩ := ob H
        have A38 := Aside0.mk A380
        clear A380
        by_cases c39 : t280 = true
        ·subst c39
         rw [if_pos rfl] at H
         by_cases c40 : t286 = true
         ·subst c40
          rw [if_pos rfl] at H
          obtain ⟨y288, hy288⟩ : ∃ y_ : List (S50), y_ = (([(⟨t277⟩ : S50), (⟨t283⟩ : S50)] : List (S50))) := ⟨_, rfl⟩
          replace H : (some (y288, true)) = some (r1, r2) := by first | (rw [hy288]; with_reducible exact H) | (have H2_ := (Option.bind_some _ _).symm.trans H; rw [hy288]; with_reducible exact H2_) | (have H2_ := (Option.bind_some _ _).symm.trans H; with_reducible exact H2_) | with_reducible exact H | (rw [hy288]; exact H) | exact H
          have Ny288 := Aside0.mk hy288
          clear hy288
          simp only [Option.some.injEq, Prod.mk.injEq] at H
          obtain ⟨rfl, rfl⟩ := H
          have hnb41 := NB274_275.out
          have hnc41 := NB275_274.out
          have hcz42_0 := zh BK274
          have hcz42_1 := zh1 BK274
          have hfz42_0 := zfr BK274 0
          have hfz42_1 := zfr BK274 1
          have p276 : 0 ≤ (0 : Int) := (by omega)
          have q276 : 0 < (l0_1.length : Int) := of_decide_eq_true y23
          obtain ⟨ad276, A276_1, c276_1, e276, hx276_0, hx276_1, hl276_1, hi276_1⟩ := at_T25 HR0_1.out 0 p276 q276
          cases e276
          have qi276 : (0 < l0_1.length) = True := eq_true (by omega)
          (try rw [show ((0 : Int)).toNat = 0 from rfl] at hx276_0)
          (try rw [show 0 * 2 = 0 from rfl] at hx276_0)
          (try rw [Addr.add_zero'] at hx276_0)
          (try rw [show ((0 : Int)).toNat = 0 from rfl] at hx276_1)
          (try rw [show 0 * 2 = 0 from rfl] at hx276_1)
          (try rw [Addr.add_zero'] at hx276_1)
          replace hx276_0 := (HB.out.cell (World.block_lt_of_cell? w _ hx276_0)).trans hx276_0
          replace hx276_1 := (HB.out.cell (World.block_lt_of_cell? w _ hx276_1)).trans hx276_1
          have HR276_1 := Aside0.mk hi276_1
          have HC276_1 := Aside0.mk hl276_1
          clear hi276_1 hl276_1
          replace p276 := eq_true p276
          replace q276 := eq_true q276
          go_wp2_with (first | ((with_reducible refine gate_callee (f := 57) rfl ?_); refine goesL_ (some 43) rfl rfl Try.func57 (by kernel_rfl) rfl #[.agg #[.int .i64 ((rd_T25 l0_1 0).f0), .slice A276_1 ((rd_T25 l0_1 0).f1).length c276_1], .int .i64 (wrap64 (a1 - 1))] rfl y8 ?_; (with_reducible refine (ih kj21 (y57 HJ21.out) ((rd_T25 l0_1 0).f0) _ _ ((rd_T25 l0_1 0).f1) (wrap64 (a1 - 1)) t277 true _ ?side1 ?side2 A36.out).mono ?_); (case side1 => exact y15 HR276_1.out HB.out); (case side2 => exact HC276_1.out); rintro e w43 ⟨v278, rfl, ho0, hb⟩; refine ⟨_, rfl, ?_⟩; have HO279 := Aside0.mk (Kd.N_lower (Kd.N_mono (ok' := fun k_ => (w.heap.size ≤ k_) ∧ k_ ≠ gb274 ∧ k_ ≠ gb275) ho0 (fun k_ hk_ => ⟨(Nat.le_trans (below_size (y2 HB.out GE274.out GE275.out)) hk_), (Kd.freshB (g := gb274) (o := .cells #[.int .i64 a0_0, .slice (some ad276) l0_1.length c0_1] 25 (0, 0)) (y0 BK274.out) k_ hk_), (Kd.freshB (g := gb275) (o := .cells #[.slice none 0 0] 50 (0, 0)) (y0 BK275.out) k_ hk_)⟩)) (below_size (y2 HB.out GE274.out GE275.out))); replace BK274 := zbb BK274 hb; replace BK275 := zbb BK275 hb; replace HB := Aside0.mk (below_step (y2 HB.out GE274.out GE275.out) hb); (try clear hb); (try clear hb2); (try clear hk); (try clear hi); (try clear ho0)) | ((with_reducible refine gate_dst (N := 6) rfl ?_); refine zbx 6 #[.slice none 0 0] 50 ?_; intro gb281 hg w44 hbox hb; replace HO279 := Aside0.mk (Kd.N_below (Kd.N_elderB (y3 HO279.out) gb281 (Nat.le_of_eq hg.symm)) hb); have BK281 := Aside0.mk hbox; have GW281 := Aside0.mk ((y16 hg HB.out GE274.out GE275.out : w.heap.size ≤ gb281)); have GE281 := Aside0.mk ((y16 hg HB.out GE274.out GE275.out : w.heap.size ≤ gb281)); replace HB := Aside0.mk (below_step (y2 HB.out GE274.out GE275.out) hb); have NB274_281 := zltn hg BK274; have NB281_274 := zgtn hg BK274; replace BK274 := zbb BK274 hb; have NB275_281 := zltn hg BK275; have NB281_275 := zgtn hg BK275; replace BK275 := zbb BK275 hb; clear hb hbox hg; obtain ⟨Ao45, co45, eo45⟩ := Kd.N_slice HO279.out; subst eo45; have hnb46 := NB281_274.out; have hnc46 := NB274_281.out; have hnb47 := NB281_275.out; have hnc47 := NB275_281.out; have hcz48_0 := zh BK281; have hfz48_0 := zfr BK281 0; have hcz49_0 := zh BK274; have hcz49_1 := zh1 BK274; have hfz49_0 := zfr BK274 0; have hfz49_1 := zfr BK274 1; have p282 : 0 ≤ (1 : Int) := (by omega); have q282 : 1 < (l0_1.length : Int) := of_decide_eq_true y23; obtain ⟨ad282, A282_1, c282_1, e282, hx282_0, hx282_1, hl282_1, hi282_1⟩ := at_T25 HR0_1.out 1 p282 q282; obtain rfl : ad276 = ad282 := (by injection e282); (try simp only [show (1 : Int).toNat = 1 from rfl, Nat.reduceMul, Nat.reduceEqDiff, Go.Addr.add, ↓reduceIte] at hx282_0); (try simp only [show (1 : Int).toNat = 1 from rfl, Nat.reduceMul, Nat.reduceEqDiff, Go.Addr.add, ↓reduceIte] at hx282_1); have qi282 : (1 < l0_1.length) = True := eq_true (by omega); (try rw [show ((1 : Int)).toNat = 1 from rfl] at hx282_0); (try rw [show 1 * 2 = 2 from rfl] at hx282_0); (try rw [show ((1 : Int)).toNat = 1 from rfl] at hx282_1); (try rw [show 1 * 2 = 2 from rfl] at hx282_1); have hn282_0 : ad276.block ≠ gb281 := Nat.ne_of_lt (Nat.lt_of_lt_of_le (by have := World.block_lt_of_cell? _ _ hx282_0; first | rwa [add_block] at this | exact this) GW281.out); replace hx282_0 := (HB.out.cell (World.block_lt_of_cell? w _ hx282_0)).trans hx282_0; replace hx282_1 := (HB.out.cell (World.block_lt_of_cell? w _ hx282_1)).trans hx282_1; have HR282_1 := Aside0.mk hi282_1; have HC282_1 := Aside0.mk hl282_1; clear hi282_1 hl282_1; replace hx282_0 := (cell_far (p := ⟨gb281, 0, none⟩) (by first | (rw [add_block]; exact hn282_0) | (show (Addr.add _ _).block ≠ _; rw [add_block]; exact hn282_0) | exact hn282_0) (.slice Ao45 t277.length co45)).trans hx282_0; replace hx282_1 := (cell_far (p := ⟨gb281, 0, none⟩) (by first | (rw [add_block]; exact hn282_0) | (show (Addr.add _ _).block ≠ _; rw [add_block]; exact hn282_0) | exact hn282_0) (.slice Ao45 t277.length co45)).trans hx282_1; clear hn282_0; replace p282 := eq_true p282; replace q282 := eq_true q282) | ((with_reducible refine gate_callee (f := 57) rfl ?_); refine goesL_ (some 53) rfl rfl Try.func57 (by kernel_rfl) rfl #[.agg #[.int .i64 ((rd_T25 l0_1 1).f0), .slice A282_1 ((rd_T25 l0_1 1).f1).length c282_1], .int .i64 (wrap64 (a1 - 1))] rfl y8 ?_; (with_reducible refine (ih kj21 (y57 HJ21.out) ((rd_T25 l0_1 1).f0) _ _ ((rd_T25 l0_1 1).f1) (wrap64 (a1 - 1)) t283 true _ ?side1 ?side2 A38.out).mono ?_); (case side1 => exact y47 HR282_1.out HB.out GE274.out GE275.out GE281.out); (case side2 => exact HC282_1.out); rintro e w50 ⟨v284, rfl, ho0, hb⟩; refine ⟨_, rfl, ?_⟩; have HO285 := Aside0.mk (Kd.N_lower (Kd.N_mono (ok' := fun k_ => (w.heap.size ≤ k_) ∧ some k_ ≠ (.slice Ao45 t277.length co45 : Value).ownBlock ∧ k_ ≠ gb274 ∧ k_ ≠ gb275 ∧ k_ ≠ gb281) ho0 (fun k_ hk_ => ⟨(Nat.le_trans (below_size (y4 HB.out GE274.out GE275.out GE281.out)) hk_), (Kd.fresh' (Kd.N_lt (by (with_reducible repeat (first | apply Kd.N_alloc | apply Kd.N_drewN | apply Kd.N_drew)); exact (Kd.N_mono (Kd.N_far (p := ⟨gb281, 0, none⟩) (Kd.N_mono HO279.out (fun k_ hk => (⟨hk, hk.2⟩ : _ ∧ k_ ≠ gb281))) (fun _ hk => hk.2) (.slice Ao45 t277.length co45)) (fun _ h_ => h_.1)))) k_ hk_), (Kd.freshB (g := gb274) (o := .cells #[.int .i64 a0_0, .slice (some ad276) l0_1.length c0_1] 25 (0, 0)) (y13 NB274_281.out BK274.out) k_ hk_), (Kd.freshB (g := gb275) (o := .cells #[.slice none 0 0] 50 (0, 0)) (y13 NB275_281.out BK275.out) k_ hk_), (Kd.freshB (g := gb281) (o := .cells #[.slice Ao45 t277.length co45] 50 (0, 0)) (by (with_reducible repeat (first | refine blk_drewN ?_ _ | refine blk_drew ?_ | refine blk_alloc ?_ _)); apply blk_put (i := 0); (case h => exact y0 BK281.out); (case e => rfl)) k_ hk_)⟩)) (below_size (y4 HB.out GE274.out GE275.out GE281.out))); replace HO279 := Aside0.mk (Kd.N_elder' (by (with_reducible repeat (first | apply Kd.N_alloc | apply Kd.N_drewN | apply Kd.N_drew)); exact (Kd.N_mono (Kd.N_far (p := ⟨gb281, 0, none⟩) (Kd.N_mono HO279.out (fun k_ hk => (⟨hk, hk.2⟩ : _ ∧ k_ ≠ gb281))) (fun _ hk => hk.2) (.slice Ao45 t277.length co45)) (fun _ h_ => h_.1))) (Kd.N_base ho0) hb); replace BK274 := zbf BK274 NB274_281 hb; replace BK275 := zbf BK275 NB275_281 hb; replace BK281 := Aside0.mk (blk_below (g := gb281) (o := .cells #[.slice Ao45 t277.length co45] 50 (0, 0)) (by (with_reducible repeat (first | refine blk_drewN ?_ _ | refine blk_drew ?_ | refine blk_alloc ?_ _)); apply blk_put (i := 0); (case h => exact y0 BK281.out); (case e => rfl)) hb); replace HB := Aside0.mk (below_step (y4 HB.out GE274.out GE275.out GE281.out) hb); (try clear hb); (try clear hb2); (try clear hk); (try clear hi); (try clear ho0)) | ((with_reducible refine gate_dst (N := 8) rfl ?_); refine zbx 8 #[.slice none 0 0] 50 ?_; intro gb287 hg w51 hbox hb; replace HO279 := Aside0.mk (Kd.N_below (Kd.N_elderB (y3 HO279.out) gb287 (Nat.le_of_eq hg.symm)) hb); replace HO285 := Aside0.mk (Kd.N_below (Kd.N_elderB (y3 HO285.out) gb287 (Nat.le_of_eq hg.symm)) hb); have BK287 := Aside0.mk hbox; have GW287 := Aside0.mk ((y22 hg HB.out GE274.out GE275.out GE281.out : w.heap.size ≤ gb287)); have GE287 := Aside0.mk ((y22 hg HB.out GE274.out GE275.out GE281.out : w.heap.size ≤ gb287)); replace HB := Aside0.mk (below_step (y4 HB.out GE274.out GE275.out GE281.out) hb); have NB274_287 := zltn hg BK274; have NB287_274 := zgtn hg BK274; replace BK274 := zbb BK274 hb; have NB275_287 := zltn hg BK275; have NB287_275 := zgtn hg BK275; replace BK275 := zbb BK275 hb; have NB281_287 := zltn hg BK281; have NB287_281 := zgtn hg BK281; replace BK281 := zbb BK281 hb; clear hb hbox hg; obtain ⟨Ao52, co52, eo52⟩ := Kd.N_slice HO285.out; subst eo52; have hnb53 := NB287_274.out; have hnc53 := NB274_287.out; have hnb54 := NB287_275.out; have hnc54 := NB275_287.out; have hnb55 := NB287_281.out; have hnc55 := NB281_287.out; have hcz56_0 := zh BK287; have hfz56_0 := zfr BK287 0) | ((with_reducible refine gate_store (t := 50) (p := 8) rfl ?_); refine store_event (t := 50) (p := 8) (v := ?vo_w57) (w1 := (w51.setCell ⟨gb287, 0, none⟩ (.slice Ao52 t283.length co52))) ?hg ?ho ?hn ?hr ?_; (case ho => rfl); (case hg => rfl); (case hn => rfl); (case hr => first | (go_simp; done) | (go_simp; rfl)); intro w57 hw; have n0_ : Aside0 (Kd.N k50 50 w57 w.heap.size (fun k_ => (w.heap.size ≤ k_) ∧ some k_ ≠ (.slice Ao52 t283.length co52 : Value).ownBlock ∧ k_ ≠ gb274 ∧ k_ ≠ gb275 ∧ k_ ≠ gb281 ∧ k_ ≠ gb287) (.slice Ao45 t277.length co45) t277) := ⟨(by rw [hw]; exact (by (with_reducible repeat (first | apply Kd.N_alloc | apply Kd.N_drewN | apply Kd.N_drew)); exact Kd.N_mono (Kd.N_far (p := ⟨gb287, 0, none⟩) (Kd.N_mono HO279.out (fun k_ hk => (⟨hk, hk.2⟩ : _ ∧ k_ ≠ gb287))) (fun _ hk => hk.2) (.slice Ao52 t283.length co52)) (fun _ hk => ⟨hk.1.1.1.1.1, ⟨hk.1.1.2, ⟨hk.1.1.1.1.2.1, ⟨hk.1.1.1.1.2.2, ⟨hk.1.1.1.2, hk.1.2⟩⟩⟩⟩⟩)))⟩; have n1_ : Aside0 (Kd.N k50 50 w57 w.heap.size (fun k_ => (w.heap.size ≤ k_) ∧ some k_ ≠ (.slice Ao45 t277.length co45 : Value).ownBlock ∧ k_ ≠ gb274 ∧ k_ ≠ gb275 ∧ k_ ≠ gb281 ∧ k_ ≠ gb287) (.slice Ao52 t283.length co52) t283) := ⟨(by rw [hw]; exact (by (with_reducible repeat (first | apply Kd.N_alloc | apply Kd.N_drewN | apply Kd.N_drew)); exact Kd.N_mono (Kd.N_far (p := ⟨gb287, 0, none⟩) (Kd.N_mono HO285.out (fun k_ hk => (⟨hk, hk.2⟩ : _ ∧ k_ ≠ gb287))) (fun _ hk => hk.2) (.slice Ao52 t283.length co52)) (fun _ hk => ⟨hk.1.1.1, ⟨hk.1.1.2.1, ⟨hk.1.1.2.2.1, ⟨hk.1.1.2.2.2.1, ⟨hk.1.1.2.2.2.2, hk.1.2⟩⟩⟩⟩⟩)))⟩; have n2_ : Aside0 (w57.heap[gb274]? = some (.cells #[.int .i64 a0_0, .slice (some ad276) l0_1.length c0_1] 25 (0, 0))) := ⟨(by rw [hw]; exact (y13 NB274_287.out BK274.out))⟩; have n3_ : Aside0 (w57.heap[gb275]? = some (.cells #[.slice none 0 0] 50 (0, 0))) := ⟨(by rw [hw]; exact (y13 NB275_287.out BK275.out))⟩; have n4_ : Aside0 (w57.heap[gb281]? = some (.cells #[.slice Ao45 t277.length co45] 50 (0, 0))) := ⟨(by rw [hw]; exact (y13 NB281_287.out BK281.out))⟩; have n5_ : Aside0 (w57.heap[gb287]? = some (.cells #[.slice Ao52 t283.length co52] 50 (0, 0))) := ⟨(by rw [hw]; exact (by (with_reducible repeat (first | refine blk_drewN ?_ _ | refine blk_drew ?_ | refine blk_alloc ?_ _)); apply blk_put (i := 0); (case h => exact y0 BK287.out); (case e => rfl)))⟩; have n6_ : Aside0 (Below w.heap.size w w57) := ⟨(by rw [hw]; exact (y7 HB.out GE274.out GE275.out GE281.out GE287.out))⟩; clear hw; clear HO279; clear HO285; clear BK274; clear BK275; clear BK281; clear BK287; clear HB; have HO279 := n0_; have HO285 := n1_; have BK274 := n2_; have BK275 := n3_; have BK281 := n4_; have BK287 := n5_; have HB := n6_; clear n0_ n1_ n2_ n3_ n4_ n5_ n6_; have hcz58_0 := zh BK281; have hfz58_0 := zfr BK281 0; have hcz59_0 := zh BK287; have hfz59_0 := zfr BK287 0) | ((with_reducible refine gate_dst (N := 65) rfl ?_); refine Kd.N_lit k50 _ 50 ?hg (N' := 65) ?hd (xs := ([(⟨t277⟩ : S50), (⟨t283⟩ : S50)] : List (S50))) (inner := [.slice Ao45 t277.length co45, .slice Ao52 t283.length co52]) (ok := (fun k_ => (w.heap.size ≤ k_) ∧ k_ ≠ gb274 ∧ k_ ≠ gb275 ∧ k_ ≠ gb281 ∧ k_ ≠ gb287)) (okp := (fun k_ => (w.heap.size ≤ k_) ∧ k_ ≠ gb274 ∧ k_ ≠ gb275 ∧ k_ ≠ gb281 ∧ k_ ≠ gb287)) ?hr ?hp (fun _ hk => hk) ((show ∀ k_, w57.heap.size ≤ k_ → (fun k_ => (w.heap.size ≤ k_) ∧ k_ ≠ gb274 ∧ k_ ≠ gb275 ∧ k_ ≠ gb281 ∧ k_ ≠ gb287) k_ from fun k_ hk => ⟨(Nat.le_trans (below_size (y7 HB.out GE274.out GE275.out GE281.out GE287.out)) hk), Kd.freshB (g := gb274) (o := .cells #[.int .i64 a0_0, .slice (some ad276) l0_1.length c0_1] 25 (0, 0)) (y0 BK274.out) k_ hk, Kd.freshB (g := gb275) (o := .cells #[.slice none 0 0] 50 (0, 0)) (y0 BK275.out) k_ hk, Kd.freshB (g := gb281) (o := .cells #[.slice Ao45 t277.length co45] 50 (0, 0)) (y0 BK281.out) k_ hk, Kd.freshB (g := gb287) (o := .cells #[.slice Ao52 t283.length co52] 50 (0, 0)) (y0 BK287.out) k_ hk⟩) _ (Nat.le_refl _)) (Below.refl _ _) (Nat.le_refl _) (by simp) ?_; (case hd => rfl); (case hg => rfl); (case hr => first | (go_simp; done) | (go_simp; rfl)); (case hp => exact (Reps.one (show Kd.FK k50 _ _ (⟨t277⟩ : S50) [.slice Ao45 t277.length co45] from (k50_mkF _ _ (⟨t277⟩ : S50) (Kd.N_reads' (Kd.N_mono (ok' := (fun k_ => (w.heap.size ≤ k_) ∧ k_ ≠ gb274 ∧ k_ ≠ gb275 ∧ k_ ≠ gb281 ∧ k_ ≠ gb287)) (HO279.out) (fun k_ hk => ⟨hk.1, ⟨hk.2.2.1, ⟨hk.2.2.2.1, ⟨hk.2.2.2.2.1, hk.2.2.2.2.2⟩⟩⟩⟩))).2.1 (Kd.N_F (Kd.N_mono (ok' := (fun k_ => (w.heap.size ≤ k_) ∧ k_ ≠ gb274 ∧ k_ ≠ gb275 ∧ k_ ≠ gb281 ∧ k_ ≠ gb287)) (HO279.out) (fun k_ hk => ⟨hk.1, ⟨hk.2.2.1, ⟨hk.2.2.2.1, ⟨hk.2.2.2.2.1, hk.2.2.2.2.2⟩⟩⟩⟩))))) (Reps.one (show Kd.FK k50 _ _ (⟨t283⟩ : S50) [.slice Ao52 t283.length co52] from (k50_mkF _ _ (⟨t283⟩ : S50) (Kd.N_reads' (Kd.N_mono (ok' := (fun k_ => (w.heap.size ≤ k_) ∧ k_ ≠ gb274 ∧ k_ ≠ gb275 ∧ k_ ≠ gb281 ∧ k_ ≠ gb287)) (HO285.out) (fun k_ hk => ⟨hk.1, ⟨hk.2.2.1, ⟨hk.2.2.2.1, ⟨hk.2.2.2.2.1, hk.2.2.2.2.2⟩⟩⟩⟩))).2.1 (Kd.N_F (Kd.N_mono (ok' := (fun k_ => (w.heap.size ≤ k_) ∧ k_ ≠ gb274 ∧ k_ ≠ gb275 ∧ k_ ≠ gb281 ∧ k_ ≠ gb287)) (HO285.out) (fun k_ hk => ⟨hk.1, ⟨hk.2.2.1, ⟨hk.2.2.2.1, ⟨hk.2.2.2.2.1, hk.2.2.2.2.2⟩⟩⟩⟩))))) (Reps.none _ _)))); intro v289 w60 ho61 hb hg_ hnew_; clear hg_ hnew_; (first | rw [← Ny288.out] at ho61 | (simp only [Int.reduceToNat] at ho61; rw [← Ny288.out] at ho61)); have HO290 := Aside0.mk (Kd.N_lower ho61 (below_size (y7 HB.out GE274.out GE275.out GE281.out GE287.out))); replace BK274 := zbb BK274 hb; replace BK275 := zbb BK275 hb; replace BK281 := zbb BK281 hb; replace BK287 := zbb BK287 hb; replace HB := Aside0.mk (below_step (y7 HB.out GE274.out GE275.out GE281.out GE287.out) hb); clear HO279 HO285; clear hb ho61; obtain ⟨Ao62, co62, eo62⟩ := Kd.N_slice HO290.out; subst eo62; have hcz63_0 := zh BK275; have hfz63_0 := zfr BK275 0))
          refine bodyPost_ret (results_ct rfl _ _ gb275 50 #[.slice Ao62 y288.length co62] (0, 0) _ rfl (by (with_reducible repeat (first | refine blk_drewN ?_ _ | refine blk_drew ?_ | refine blk_alloc ?_ _)); apply blk_put (i := 0); (case h => exact y0 BK275.out); (case e => rfl)) Try.underlying50 rfl (by kernel_rfl)) rfl ?_
          exact ⟨_, y19, (by (with_reducible repeat (first | apply Kd.N_alloc | apply Kd.N_drewN | apply Kd.N_drew)); exact Kd.N_mono (Kd.N_far (p := ⟨gb275, 0, none⟩) (Kd.N_mono HO290.out (fun k_ hk => (⟨hk, hk.2.2.1⟩ : _ ∧ k_ ≠ gb275))) (fun _ hk => hk.2) (.slice Ao62 y288.length co62)) (fun _ hk => hk.1.1)), (y7 HB.out GE274.out GE275.out GE281.out GE287.out)⟩
         ·replace c40 := Bool.eq_false_iff.mpr c40
          subst c40
          rw [if_neg (show ¬ (false = true) by decide)] at H
          simp only [Option.some.injEq, Prod.mk.injEq] at H
          obtain ⟨rfl, rfl⟩ := H
          have hnb64 := NB274_275.out
          have hnc64 := NB275_274.out
          have hcz65_0 := zh BK274
          have hcz65_1 := zh1 BK274
          have hfz65_0 := zfr BK274 0
          have hfz65_1 := zfr BK274 1
          have p276 : 0 ≤ (0 : Int) := (by omega)
          have q276 : 0 < (l0_1.length : Int) := of_decide_eq_true y23
          obtain ⟨ad276, A276_1, c276_1, e276, hx276_0, hx276_1, hl276_1, hi276_1⟩ := at_T25 HR0_1.out 0 p276 q276
          cases e276
          have qi276 : (0 < l0_1.length) = True := eq_true (by omega)
          (try rw [show ((0 : Int)).toNat = 0 from rfl] at hx276_0)
          (try rw [show 0 * 2 = 0 from rfl] at hx276_0)
          (try rw [Addr.add_zero'] at hx276_0)
          (try rw [show ((0 : Int)).toNat = 0 from rfl] at hx276_1)
          (try rw [show 0 * 2 = 0 from rfl] at hx276_1)
          (try rw [Addr.add_zero'] at hx276_1)
          replace hx276_0 := (HB.out.cell (World.block_lt_of_cell? w _ hx276_0)).trans hx276_0
          replace hx276_1 := (HB.out.cell (World.block_lt_of_cell? w _ hx276_1)).trans hx276_1
          have HR276_1 := Aside0.mk hi276_1
          have HC276_1 := Aside0.mk hl276_1
          clear hi276_1 hl276_1
          replace p276 := eq_true p276
          replace q276 := eq_true q276
          go_wp2_with (first | ((with_reducible refine gate_callee (f := 57) rfl ?_); refine goesL_ (some 43) rfl rfl Try.func57 (by kernel_rfl) rfl #[.agg #[.int .i64 ((rd_T25 l0_1 0).f0), .slice A276_1 ((rd_T25 l0_1 0).f1).length c276_1], .int .i64 (wrap64 (a1 - 1))] rfl y8 ?_; (with_reducible refine (ih kj21 (y57 HJ21.out) ((rd_T25 l0_1 0).f0) _ _ ((rd_T25 l0_1 0).f1) (wrap64 (a1 - 1)) t277 true _ ?side1 ?side2 A36.out).mono ?_); (case side1 => exact y15 HR276_1.out HB.out); (case side2 => exact HC276_1.out); rintro e w66 ⟨v278, rfl, ho0, hb⟩; refine ⟨_, rfl, ?_⟩; have HO279 := Aside0.mk (Kd.N_lower (Kd.N_mono (ok' := fun k_ => (w.heap.size ≤ k_) ∧ k_ ≠ gb274 ∧ k_ ≠ gb275) ho0 (fun k_ hk_ => ⟨(Nat.le_trans (below_size (y2 HB.out GE274.out GE275.out)) hk_), (Kd.freshB (g := gb274) (o := .cells #[.int .i64 a0_0, .slice (some ad276) l0_1.length c0_1] 25 (0, 0)) (y0 BK274.out) k_ hk_), (Kd.freshB (g := gb275) (o := .cells #[.slice none 0 0] 50 (0, 0)) (y0 BK275.out) k_ hk_)⟩)) (below_size (y2 HB.out GE274.out GE275.out))); replace BK274 := zbb BK274 hb; replace BK275 := zbb BK275 hb; replace HB := Aside0.mk (below_step (y2 HB.out GE274.out GE275.out) hb); (try clear hb); (try clear hb2); (try clear hk); (try clear hi); (try clear ho0)) | ((with_reducible refine gate_dst (N := 6) rfl ?_); refine zbx 6 #[.slice none 0 0] 50 ?_; intro gb281 hg w67 hbox hb; replace HO279 := Aside0.mk (Kd.N_below (Kd.N_elderB (y3 HO279.out) gb281 (Nat.le_of_eq hg.symm)) hb); have BK281 := Aside0.mk hbox; have GW281 := Aside0.mk ((y16 hg HB.out GE274.out GE275.out : w.heap.size ≤ gb281)); have GE281 := Aside0.mk ((y16 hg HB.out GE274.out GE275.out : w.heap.size ≤ gb281)); replace HB := Aside0.mk (below_step (y2 HB.out GE274.out GE275.out) hb); have NB274_281 := zltn hg BK274; have NB281_274 := zgtn hg BK274; replace BK274 := zbb BK274 hb; have NB275_281 := zltn hg BK275; have NB281_275 := zgtn hg BK275; replace BK275 := zbb BK275 hb; clear hb hbox hg; obtain ⟨Ao68, co68, eo68⟩ := Kd.N_slice HO279.out; subst eo68; have hnb69 := NB281_274.out; have hnc69 := NB274_281.out; have hnb70 := NB281_275.out; have hnc70 := NB275_281.out; have hcz71_0 := zh BK281; have hfz71_0 := zfr BK281 0; have hcz72_0 := zh BK274; have hcz72_1 := zh1 BK274; have hfz72_0 := zfr BK274 0; have hfz72_1 := zfr BK274 1; have p282 : 0 ≤ (1 : Int) := (by omega); have q282 : 1 < (l0_1.length : Int) := of_decide_eq_true y23; obtain ⟨ad282, A282_1, c282_1, e282, hx282_0, hx282_1, hl282_1, hi282_1⟩ := at_T25 HR0_1.out 1 p282 q282; obtain rfl : ad276 = ad282 := (by injection e282); (try simp only [show (1 : Int).toNat = 1 from rfl, Nat.reduceMul, Nat.reduceEqDiff, Go.Addr.add, ↓reduceIte] at hx282_0); (try simp only [show (1 : Int).toNat = 1 from rfl, Nat.reduceMul, Nat.reduceEqDiff, Go.Addr.add, ↓reduceIte] at hx282_1); have qi282 : (1 < l0_1.length) = True := eq_true (by omega); (try rw [show ((1 : Int)).toNat = 1 from rfl] at hx282_0); (try rw [show 1 * 2 = 2 from rfl] at hx282_0); (try rw [show ((1 : Int)).toNat = 1 from rfl] at hx282_1); (try rw [show 1 * 2 = 2 from rfl] at hx282_1); have hn282_0 : ad276.block ≠ gb281 := Nat.ne_of_lt (Nat.lt_of_lt_of_le (by have := World.block_lt_of_cell? _ _ hx282_0; first | rwa [add_block] at this | exact this) GW281.out); replace hx282_0 := (HB.out.cell (World.block_lt_of_cell? w _ hx282_0)).trans hx282_0; replace hx282_1 := (HB.out.cell (World.block_lt_of_cell? w _ hx282_1)).trans hx282_1; have HR282_1 := Aside0.mk hi282_1; have HC282_1 := Aside0.mk hl282_1; clear hi282_1 hl282_1; replace hx282_0 := (cell_far (p := ⟨gb281, 0, none⟩) (by first | (rw [add_block]; exact hn282_0) | (show (Addr.add _ _).block ≠ _; rw [add_block]; exact hn282_0) | exact hn282_0) (.slice Ao68 t277.length co68)).trans hx282_0; replace hx282_1 := (cell_far (p := ⟨gb281, 0, none⟩) (by first | (rw [add_block]; exact hn282_0) | (show (Addr.add _ _).block ≠ _; rw [add_block]; exact hn282_0) | exact hn282_0) (.slice Ao68 t277.length co68)).trans hx282_1; clear hn282_0; replace p282 := eq_true p282; replace q282 := eq_true q282) | ((with_reducible refine gate_callee (f := 57) rfl ?_); refine goesL_ (some 53) rfl rfl Try.func57 (by kernel_rfl) rfl #[.agg #[.int .i64 ((rd_T25 l0_1 1).f0), .slice A282_1 ((rd_T25 l0_1 1).f1).length c282_1], .int .i64 (wrap64 (a1 - 1))] rfl y8 ?_; (with_reducible refine (ih kj21 (y57 HJ21.out) ((rd_T25 l0_1 1).f0) _ _ ((rd_T25 l0_1 1).f1) (wrap64 (a1 - 1)) t283 false _ ?side1 ?side2 A38.out).mono ?_); (case side1 => exact y47 HR282_1.out HB.out GE274.out GE275.out GE281.out); (case side2 => exact HC282_1.out); rintro e w73 ⟨v284, rfl, ho0, hb⟩; refine ⟨_, rfl, ?_⟩; have HO285 := Aside0.mk (Kd.N_lower (Kd.N_mono (ok' := fun k_ => (w.heap.size ≤ k_) ∧ some k_ ≠ (.slice Ao68 t277.length co68 : Value).ownBlock ∧ k_ ≠ gb274 ∧ k_ ≠ gb275 ∧ k_ ≠ gb281) ho0 (fun k_ hk_ => ⟨(Nat.le_trans (below_size (y4 HB.out GE274.out GE275.out GE281.out)) hk_), (Kd.fresh' (Kd.N_lt (by (with_reducible repeat (first | apply Kd.N_alloc | apply Kd.N_drewN | apply Kd.N_drew)); exact (Kd.N_mono (Kd.N_far (p := ⟨gb281, 0, none⟩) (Kd.N_mono HO279.out (fun k_ hk => (⟨hk, hk.2⟩ : _ ∧ k_ ≠ gb281))) (fun _ hk => hk.2) (.slice Ao68 t277.length co68)) (fun _ h_ => h_.1)))) k_ hk_), (Kd.freshB (g := gb274) (o := .cells #[.int .i64 a0_0, .slice (some ad276) l0_1.length c0_1] 25 (0, 0)) (y13 NB274_281.out BK274.out) k_ hk_), (Kd.freshB (g := gb275) (o := .cells #[.slice none 0 0] 50 (0, 0)) (y13 NB275_281.out BK275.out) k_ hk_), (Kd.freshB (g := gb281) (o := .cells #[.slice Ao68 t277.length co68] 50 (0, 0)) (by (with_reducible repeat (first | refine blk_drewN ?_ _ | refine blk_drew ?_ | refine blk_alloc ?_ _)); apply blk_put (i := 0); (case h => exact y0 BK281.out); (case e => rfl)) k_ hk_)⟩)) (below_size (y4 HB.out GE274.out GE275.out GE281.out))); replace HO279 := Aside0.mk (Kd.N_elder' (by (with_reducible repeat (first | apply Kd.N_alloc | apply Kd.N_drewN | apply Kd.N_drew)); exact (Kd.N_mono (Kd.N_far (p := ⟨gb281, 0, none⟩) (Kd.N_mono HO279.out (fun k_ hk => (⟨hk, hk.2⟩ : _ ∧ k_ ≠ gb281))) (fun _ hk => hk.2) (.slice Ao68 t277.length co68)) (fun _ h_ => h_.1))) (Kd.N_base ho0) hb); replace BK274 := zbf BK274 NB274_281 hb; replace BK275 := zbf BK275 NB275_281 hb; replace BK281 := Aside0.mk (blk_below (g := gb281) (o := .cells #[.slice Ao68 t277.length co68] 50 (0, 0)) (by (with_reducible repeat (first | refine blk_drewN ?_ _ | refine blk_drew ?_ | refine blk_alloc ?_ _)); apply blk_put (i := 0); (case h => exact y0 BK281.out); (case e => rfl)) hb); replace HB := Aside0.mk (below_step (y4 HB.out GE274.out GE275.out GE281.out) hb); (try clear hb); (try clear hb2); (try clear hk); (try clear hi); (try clear ho0)) | ((with_reducible refine gate_dst (N := 8) rfl ?_); refine zbx 8 #[.slice none 0 0] 50 ?_; intro gb287 hg w74 hbox hb; replace HO279 := Aside0.mk (Kd.N_below (Kd.N_elderB (y3 HO279.out) gb287 (Nat.le_of_eq hg.symm)) hb); replace HO285 := Aside0.mk (Kd.N_below (Kd.N_elderB (y3 HO285.out) gb287 (Nat.le_of_eq hg.symm)) hb); have BK287 := Aside0.mk hbox; have GW287 := Aside0.mk ((y22 hg HB.out GE274.out GE275.out GE281.out : w.heap.size ≤ gb287)); have GE287 := Aside0.mk ((y22 hg HB.out GE274.out GE275.out GE281.out : w.heap.size ≤ gb287)); replace HB := Aside0.mk (below_step (y4 HB.out GE274.out GE275.out GE281.out) hb); have NB274_287 := zltn hg BK274; have NB287_274 := zgtn hg BK274; replace BK274 := zbb BK274 hb; have NB275_287 := zltn hg BK275; have NB287_275 := zgtn hg BK275; replace BK275 := zbb BK275 hb; have NB281_287 := zltn hg BK281; have NB287_281 := zgtn hg BK281; replace BK281 := zbb BK281 hb; clear hb hbox hg; obtain ⟨Ao75, co75, eo75⟩ := Kd.N_slice HO285.out; subst eo75; have hnb76 := NB287_274.out; have hnc76 := NB274_287.out; have hnb77 := NB287_275.out; have hnc77 := NB275_287.out; have hnb78 := NB287_281.out; have hnc78 := NB281_287.out; have hcz79_0 := zh BK287; have hfz79_0 := zfr BK287 0; have hcz80_0 := zh BK275; have hfz80_0 := zfr BK275 0))
          refine bodyPost_ret (results_ct rfl _ _ gb275 50 #[.slice none 0 0] (0, 0) _ rfl (by (with_reducible repeat (first | refine blk_drewN ?_ _ | refine blk_drew ?_ | refine blk_alloc ?_ _)); refine blk_put (cs := #[.slice none 0 0]) ?_ 0 _ rfl; (with_reducible repeat (first | refine blk_drewN ?_ _ | refine blk_drew ?_ | refine blk_alloc ?_ _)); refine blk_far ?_ NB275_287.out _; (with_reducible repeat (first | refine blk_drewN ?_ _ | refine blk_drew ?_ | refine blk_alloc ?_ _)); exact BK275.out) Try.underlying50 rfl (by kernel_rfl)) rfl ?_
          exact ⟨_, y19, y37, (y7 HB.out GE274.out GE275.out GE281.out GE287.out)⟩
        ·replace c39 := Bool.eq_false_iff.mpr c39
         subst c39
         rw [if_neg (show ¬ (false = true) by decide)] at H
         simp only [Option.some.injEq, Prod.mk.injEq] at H
         obtain ⟨rfl, rfl⟩ := H
         have hnb81 := NB274_275.out
         have hnc81 := NB275_274.out
         have hcz82_0 := zh BK274
         have hcz82_1 := zh1 BK274
         have hfz82_0 := zfr BK274 0
         have hfz82_1 := zfr BK274 1
         have p276 : 0 ≤ (0 : Int) := (by omega)
         have q276 : 0 < (l0_1.length : Int) := of_decide_eq_true y23
         obtain ⟨ad276, A276_1, c276_1, e276, hx276_0, hx276_1, hl276_1, hi276_1⟩ := at_T25 HR0_1.out 0 p276 q276
         cases e276
         have qi276 : (0 < l0_1.length) = True := eq_true (by omega)
         (try rw [show ((0 : Int)).toNat = 0 from rfl] at hx276_0)
         (try rw [show 0 * 2 = 0 from rfl] at hx276_0)
         (try rw [Addr.add_zero'] at hx276_0)
         (try rw [show ((0 : Int)).toNat = 0 from rfl] at hx276_1)
         (try rw [show 0 * 2 = 0 from rfl] at hx276_1)
         (try rw [Addr.add_zero'] at hx276_1)
         replace hx276_0 := (HB.out.cell (World.block_lt_of_cell? w _ hx276_0)).trans hx276_0
         replace hx276_1 := (HB.out.cell (World.block_lt_of_cell? w _ hx276_1)).trans hx276_1
         have HR276_1 := Aside0.mk hi276_1
         have HC276_1 := Aside0.mk hl276_1
         clear hi276_1 hl276_1
         replace p276 := eq_true p276
         replace q276 := eq_true q276
         go_wp2_with (first | ((with_reducible refine gate_callee (f := 57) rfl ?_); refine goesL_ (some 43) rfl rfl Try.func57 (by kernel_rfl) rfl #[.agg #[.int .i64 ((rd_T25 l0_1 0).f0), .slice A276_1 ((rd_T25 l0_1 0).f1).length c276_1], .int .i64 (wrap64 (a1 - 1))] rfl y8 ?_; (with_reducible refine (ih kj21 (y57 HJ21.out) ((rd_T25 l0_1 0).f0) _ _ ((rd_T25 l0_1 0).f1) (wrap64 (a1 - 1)) t277 false _ ?side1 ?side2 A36.out).mono ?_); (case side1 => exact y15 HR276_1.out HB.out); (case side2 => exact HC276_1.out); rintro e w83 ⟨v278, rfl, ho0, hb⟩; refine ⟨_, rfl, ?_⟩; have HO279 := Aside0.mk (Kd.N_lower (Kd.N_mono (ok' := fun k_ => (w.heap.size ≤ k_) ∧ k_ ≠ gb274 ∧ k_ ≠ gb275) ho0 (fun k_ hk_ => ⟨(Nat.le_trans (below_size (y2 HB.out GE274.out GE275.out)) hk_), (Kd.freshB (g := gb274) (o := .cells #[.int .i64 a0_0, .slice (some ad276) l0_1.length c0_1] 25 (0, 0)) (y0 BK274.out) k_ hk_), (Kd.freshB (g := gb275) (o := .cells #[.slice none 0 0] 50 (0, 0)) (y0 BK275.out) k_ hk_)⟩)) (below_size (y2 HB.out GE274.out GE275.out))); replace BK274 := zbb BK274 hb; replace BK275 := zbb BK275 hb; replace HB := Aside0.mk (below_step (y2 HB.out GE274.out GE275.out) hb); (try clear hb); (try clear hb2); (try clear hk); (try clear hi); (try clear ho0)) | ((with_reducible refine gate_dst (N := 6) rfl ?_); refine zbx 6 #[.slice none 0 0] 50 ?_; intro gb281 hg w84 hbox hb; replace HO279 := Aside0.mk (Kd.N_below (Kd.N_elderB (y3 HO279.out) gb281 (Nat.le_of_eq hg.symm)) hb); have BK281 := Aside0.mk hbox; have GW281 := Aside0.mk ((y16 hg HB.out GE274.out GE275.out : w.heap.size ≤ gb281)); have GE281 := Aside0.mk ((y16 hg HB.out GE274.out GE275.out : w.heap.size ≤ gb281)); replace HB := Aside0.mk (below_step (y2 HB.out GE274.out GE275.out) hb); have NB274_281 := zltn hg BK274; have NB281_274 := zgtn hg BK274; replace BK274 := zbb BK274 hb; have NB275_281 := zltn hg BK275; have NB281_275 := zgtn hg BK275; replace BK275 := zbb BK275 hb; clear hb hbox hg; obtain ⟨Ao85, co85, eo85⟩ := Kd.N_slice HO279.out; subst eo85; have hnb86 := NB281_274.out; have hnc86 := NB274_281.out; have hnb87 := NB281_275.out; have hnc87 := NB275_281.out; have hcz88_0 := zh BK281; have hfz88_0 := zfr BK281 0; have hcz89_0 := zh BK274; have hcz89_1 := zh1 BK274; have hfz89_0 := zfr BK274 0; have hfz89_1 := zfr BK274 1; have p282 : 0 ≤ (1 : Int) := (by omega); have q282 : 1 < (l0_1.length : Int) := of_decide_eq_true y23; obtain ⟨ad282, A282_1, c282_1, e282, hx282_0, hx282_1, hl282_1, hi282_1⟩ := at_T25 HR0_1.out 1 p282 q282; obtain rfl : ad276 = ad282 := (by injection e282); (try simp only [show (1 : Int).toNat = 1 from rfl, Nat.reduceMul, Nat.reduceEqDiff, Go.Addr.add, ↓reduceIte] at hx282_0); (try simp only [show (1 : Int).toNat = 1 from rfl, Nat.reduceMul, Nat.reduceEqDiff, Go.Addr.add, ↓reduceIte] at hx282_1); have qi282 : (1 < l0_1.length) = True := eq_true (by omega); (try rw [show ((1 : Int)).toNat = 1 from rfl] at hx282_0); (try rw [show 1 * 2 = 2 from rfl] at hx282_0); (try rw [show ((1 : Int)).toNat = 1 from rfl] at hx282_1); (try rw [show 1 * 2 = 2 from rfl] at hx282_1); have hn282_0 : ad276.block ≠ gb281 := Nat.ne_of_lt (Nat.lt_of_lt_of_le (by have := World.block_lt_of_cell? _ _ hx282_0; first | rwa [add_block] at this | exact this) GW281.out); replace hx282_0 := (HB.out.cell (World.block_lt_of_cell? w _ hx282_0)).trans hx282_0; replace hx282_1 := (HB.out.cell (World.block_lt_of_cell? w _ hx282_1)).trans hx282_1; have HR282_1 := Aside0.mk hi282_1; have HC282_1 := Aside0.mk hl282_1; clear hi282_1 hl282_1; replace hx282_0 := (cell_far (p := ⟨gb281, 0, none⟩) (by first | (rw [add_block]; exact hn282_0) | (show (Addr.add _ _).block ≠ _; rw [add_block]; exact hn282_0) | exact hn282_0) (.slice Ao85 t277.length co85)).trans hx282_0; replace hx282_1 := (cell_far (p := ⟨gb281, 0, none⟩) (by first | (rw [add_block]; exact hn282_0) | (show (Addr.add _ _).block ≠ _; rw [add_block]; exact hn282_0) | exact hn282_0) (.slice Ao85 t277.length co85)).trans hx282_1; clear hn282_0; replace p282 := eq_true p282; replace q282 := eq_true q282) | ((with_reducible refine gate_callee (f := 57) rfl ?_); refine goesL_ (some 53) rfl rfl Try.func57 (by kernel_rfl) rfl #[.agg #[.int .i64 ((rd_T25 l0_1 1).f0), .slice A282_1 ((rd_T25 l0_1 1).f1).length c282_1], .int .i64 (wrap64 (a1 - 1))] rfl y8 ?_; (with_reducible refine (ih kj21 (y57 HJ21.out) ((rd_T25 l0_1 1).f0) _ _ ((rd_T25 l0_1 1).f1) (wrap64 (a1 - 1)) t283 t286 _ ?side1 ?side2 A38.out).mono ?_); (case side1 => exact y47 HR282_1.out HB.out GE274.out GE275.out GE281.out); (case side2 => exact HC282_1.out); rintro e w90 ⟨v284, rfl, ho0, hb⟩; refine ⟨_, rfl, ?_⟩; have HO285 := Aside0.mk (Kd.N_lower (Kd.N_mono (ok' := fun k_ => (w.heap.size ≤ k_) ∧ some k_ ≠ (.slice Ao85 t277.length co85 : Value).ownBlock ∧ k_ ≠ gb274 ∧ k_ ≠ gb275 ∧ k_ ≠ gb281) ho0 (fun k_ hk_ => ⟨(Nat.le_trans (below_size (y4 HB.out GE274.out GE275.out GE281.out)) hk_), (Kd.fresh' (Kd.N_lt (by (with_reducible repeat (first | apply Kd.N_alloc | apply Kd.N_drewN | apply Kd.N_drew)); exact (Kd.N_mono (Kd.N_far (p := ⟨gb281, 0, none⟩) (Kd.N_mono HO279.out (fun k_ hk => (⟨hk, hk.2⟩ : _ ∧ k_ ≠ gb281))) (fun _ hk => hk.2) (.slice Ao85 t277.length co85)) (fun _ h_ => h_.1)))) k_ hk_), (Kd.freshB (g := gb274) (o := .cells #[.int .i64 a0_0, .slice (some ad276) l0_1.length c0_1] 25 (0, 0)) (y13 NB274_281.out BK274.out) k_ hk_), (Kd.freshB (g := gb275) (o := .cells #[.slice none 0 0] 50 (0, 0)) (y13 NB275_281.out BK275.out) k_ hk_), (Kd.freshB (g := gb281) (o := .cells #[.slice Ao85 t277.length co85] 50 (0, 0)) (by (with_reducible repeat (first | refine blk_drewN ?_ _ | refine blk_drew ?_ | refine blk_alloc ?_ _)); apply blk_put (i := 0); (case h => exact y0 BK281.out); (case e => rfl)) k_ hk_)⟩)) (below_size (y4 HB.out GE274.out GE275.out GE281.out))); replace HO279 := Aside0.mk (Kd.N_elder' (by (with_reducible repeat (first | apply Kd.N_alloc | apply Kd.N_drewN | apply Kd.N_drew)); exact (Kd.N_mono (Kd.N_far (p := ⟨gb281, 0, none⟩) (Kd.N_mono HO279.out (fun k_ hk => (⟨hk, hk.2⟩ : _ ∧ k_ ≠ gb281))) (fun _ hk => hk.2) (.slice Ao85 t277.length co85)) (fun _ h_ => h_.1))) (Kd.N_base ho0) hb); replace BK274 := zbf BK274 NB274_281 hb; replace BK275 := zbf BK275 NB275_281 hb; replace BK281 := Aside0.mk (blk_below (g := gb281) (o := .cells #[.slice Ao85 t277.length co85] 50 (0, 0)) (by (with_reducible repeat (first | refine blk_drewN ?_ _ | refine blk_drew ?_ | refine blk_alloc ?_ _)); apply blk_put (i := 0); (case h => exact y0 BK281.out); (case e => rfl)) hb); replace HB := Aside0.mk (below_step (y4 HB.out GE274.out GE275.out GE281.out) hb); (try clear hb); (try clear hb2); (try clear hk); (try clear hi); (try clear ho0)) | ((with_reducible refine gate_dst (N := 8) rfl ?_); refine zbx 8 #[.slice none 0 0] 50 ?_; intro gb287 hg w91 hbox hb; replace HO279 := Aside0.mk (Kd.N_below (Kd.N_elderB (y3 HO279.out) gb287 (Nat.le_of_eq hg.symm)) hb); replace HO285 := Aside0.mk (Kd.N_below (Kd.N_elderB (y3 HO285.out) gb287 (Nat.le_of_eq hg.symm)) hb); have BK287 := Aside0.mk hbox; have GW287 := Aside0.mk ((y22 hg HB.out GE274.out GE275.out GE281.out : w.heap.size ≤ gb287)); have GE287 := Aside0.mk ((y22 hg HB.out GE274.out GE275.out GE281.out : w.heap.size ≤ gb287)); replace HB := Aside0.mk (below_step (y4 HB.out GE274.out GE275.out GE281.out) hb); have NB274_287 := zltn hg BK274; have NB287_274 := zgtn hg BK274; replace BK274 := zbb BK274 hb; have NB275_287 := zltn hg BK275; have NB287_275 := zgtn hg BK275; replace BK275 := zbb BK275 hb; have NB281_287 := zltn hg BK281; have NB287_281 := zgtn hg BK281; replace BK281 := zbb BK281 hb; clear hb hbox hg; obtain ⟨Ao92, co92, eo92⟩ := Kd.N_slice HO285.out; subst eo92; have hnb93 := NB287_274.out; have hnc93 := NB274_287.out; have hnb94 := NB287_275.out; have hnc94 := NB275_287.out; have hnb95 := NB287_281.out; have hnc95 := NB281_287.out; have hcz96_0 := zh BK287; have hfz96_0 := zfr BK287 0; have hcz97_0 := zh BK275; have hfz97_0 := zfr BK275 0))
         refine bodyPost_ret (results_ct rfl _ _ gb275 50 #[.slice none 0 0] (0, 0) _ rfl (by (with_reducible repeat (first | refine blk_drewN ?_ _ | refine blk_drew ?_ | refine blk_alloc ?_ _)); refine blk_put (cs := #[.slice none 0 0]) ?_ 0 _ rfl; (with_reducible repeat (first | refine blk_drewN ?_ _ | refine blk_drew ?_ | refine blk_alloc ?_ _)); refine blk_far ?_ NB275_287.out _; (with_reducible repeat (first | refine blk_drewN ?_ _ | refine blk_drew ?_ | refine blk_alloc ?_ _)); exact BK275.out) Try.underlying50 rfl (by kernel_rfl)) rfl ?_
         exact ⟨_, y19, y37, (y7 HB.out GE274.out GE275.out GE281.out GE287.out)⟩
       ·rw [if_neg c37] at H
        exact absurd H (by simp)
      ·rw [if_neg c35] at H
       exact absurd H (by simp)
end Go.Proofs.Ythfflieeifakdaa.PA
end
section
namespace Go.Proofs.Ythfflieeifakdaa.PA
open Go.RowKit Go.Proofs.YthfflieeifakdaaW.PrintWords Go.Proofs.YthfflieeifakdaaW.PrintLast Go.Proofs.YthfflieeifakdaaW.PrintMore
attribute [local go_sem] max2_int min2_int max_two min_two max_three min_three max_four min_four
set_option linter.unusedVariables false
set_option linter.unusedSimpArgs false
def impl_valTyped.f (k : Nat) (a0_0 : Int) (l0_1 : List (S25)) : Option ((List (S50)) × Bool) := (impl_valType.f k a0_0 l0_1 4).bind fun bt293 => (some (bt293.1, bt293.2))
theorem impl_valTyped.mono : ∀ a0 a1 k, LeO (impl_valTyped.f k a0 a1) (impl_valTyped.f (k + 1) a0 a1) := by
 intro a0 a1 k
 unfold impl_valTyped.f
 repeat' first
   | (with_reducible exact impl_valType.mono _ _ _ _)
   | (with_reducible exact LeO.refl _)
   | (with_reducible exact LeO.none _)
   | (with_reducible refine LeO.ite ?_ ?_)
   | (with_reducible refine LeO.bind ?_ (fun _ => ?_))
   | exact impl_valType.mono _ _ _ _
   | exact LeO.none _
   | refine LeO.ite ?_ ?_
   | refine LeO.bind ?_ (fun _ => ?_)
set_option maxHeartbeats 8000000 in
set_option maxRecDepth 100000 in
theorem impl_valTyped.calls (k : Nat) (a0_0 : Int) (A0_1 : Option Addr) (c0_1 : Nat) (l0_1 : List (S25)) (r1 : List (S50)) (r2 : Bool) (w : World) (hr0_1 : Kd.C k25 w A0_1 l0_1.length l0_1) (hc0_1 : l0_1.length ≤ c0_1) (h : impl_valTyped.f k a0_0 l0_1 = some (r1, r2)) :
  Calls Try.prog 38 #[.agg #[.int .i64 a0_0, .slice A0_1 l0_1.length c0_1]] w fun e w' => ∃ v0_ : Value, e = .returned (.tuple #[.agg #[v0_], .bool r2]) ∧ Kd.N k50 50 w' w.heap.size (fun k_ => (w.heap.size ≤ k_)) v0_ r1 ∧ Below w.heap.size w w' := by
 have hu25 := Try.underlying25
 have hu50 := Try.underlying50
 have HR0_1 := Aside0.mk hr0_1
 have HC0_1 := Aside0.mk hc0_1
 clear hr0_1 hc0_1
 have HB := Aside0.mk (Below.refl w.heap.size w)
 have H : ((impl_valType.f k a0_0 l0_1 4).bind fun bt293 => (some (bt293.1, bt293.2))) = some (r1, r2) := h
 clear h
 obtain ⟨⟨t293, t296⟩, A20, H⟩ := ob H
 have A2 := Aside0.mk A20
 clear A20
 simp only [Option.some.injEq, Prod.mk.injEq] at H
 obtain ⟨rfl, rfl⟩ := H
 go_enter Try.func38, Try.ntmps38
 go_wp2_with (first | ((with_reducible refine gate_dst (N := 1) rfl ?_); refine zbx 1 #[.int .i64 a0_0, .slice A0_1 l0_1.length c0_1] 25 ?_; intro gb291 hg w3 hbox hb; have BK291 := Aside0.mk hbox; have GW291 := Aside0.mk ((y9 hg HB.out : w.heap.size ≤ gb291)); have GE291 := Aside0.mk ((y9 hg HB.out : w.heap.size ≤ gb291)); replace HB := Aside0.mk (below_step (y5 HB.out) hb); clear hb hbox hg) | ((with_reducible refine gate_dst (N := 2) rfl ?_); refine zbx 2 #[.slice none 0 0] 50 ?_; intro gb292 hg w4 hbox hb; have BK292 := Aside0.mk hbox; have GW292 := Aside0.mk ((y11 hg HB.out GE291.out : w.heap.size ≤ gb292)); have GE292 := Aside0.mk ((y11 hg HB.out GE291.out : w.heap.size ≤ gb292)); replace HB := Aside0.mk (below_step (y6 HB.out GE291.out) hb); have NB291_292 := zltn hg BK291; have NB292_291 := zgtn hg BK291; replace BK291 := zbb BK291 hb; clear hb hbox hg; have hnb5 := NB291_292.out; have hnc5 := NB292_291.out; have hcz6_0 := zh BK291; have hcz6_1 := zh1 BK291; have hfz6_0 := zfr BK291 0; have hfz6_1 := zfr BK291 1) | ((with_reducible refine gate_callee (f := 57) rfl ?_); refine goesL_ (some 5) rfl rfl Try.func57 (by kernel_rfl) rfl #[.agg #[.int .i64 a0_0, .slice A0_1 l0_1.length c0_1], .int .i64 4] rfl y8 ?_; (with_reducible refine (impl_valType.calls k a0_0 _ _ l0_1 4 t293 t296 _ ?side1 ?side2 A2.out).mono ?_); (case side1 => exact y15 HR0_1.out HB.out); (case side2 => exact HC0_1.out); rintro e w7 ⟨v294, rfl, ho0, hb⟩; refine ⟨_, rfl, ?_⟩; have HO295 := Aside0.mk (Kd.N_lower (Kd.N_mono (ok' := fun k_ => (w.heap.size ≤ k_) ∧ k_ ≠ gb291 ∧ k_ ≠ gb292) ho0 (fun k_ hk_ => ⟨(Nat.le_trans (below_size (y2 HB.out GE291.out GE292.out)) hk_), (Kd.freshB (g := gb291) (o := .cells #[.int .i64 a0_0, .slice A0_1 l0_1.length c0_1] 25 (0, 0)) (y0 BK291.out) k_ hk_), (Kd.freshB (g := gb292) (o := .cells #[.slice none 0 0] 50 (0, 0)) (y0 BK292.out) k_ hk_)⟩)) (below_size (y2 HB.out GE291.out GE292.out))); replace BK291 := zbb BK291 hb; replace BK292 := zbb BK292 hb; replace HB := Aside0.mk (below_step (y2 HB.out GE291.out GE292.out) hb); (try clear hb); (try clear hb2); (try clear hk); (try clear hi); (try clear ho0); obtain ⟨Ao8, co8, eo8⟩ := Kd.N_slice HO295.out; subst eo8; have hcz9_0 := zh BK292; have hfz9_0 := zfr BK292 0))
 refine bodyPost_ret (results_ct rfl _ _ gb292 50 #[.slice Ao8 t293.length co8] (0, 0) _ rfl (by (with_reducible repeat (first | refine blk_drewN ?_ _ | refine blk_drew ?_ | refine blk_alloc ?_ _)); apply blk_put (i := 0); (case h => exact y0 BK292.out); (case e => rfl)) Try.underlying50 rfl (by kernel_rfl)) rfl ?_
 exact ⟨_, y19, (by (with_reducible repeat (first | apply Kd.N_alloc | apply Kd.N_drewN | apply Kd.N_drew)); exact Kd.N_mono (Kd.N_far (p := ⟨gb292, 0, none⟩) (Kd.N_mono HO295.out (fun k_ hk => (⟨hk, hk.2.2⟩ : _ ∧ k_ ≠ gb292))) (fun _ hk => hk.2) (.slice Ao8 t293.length co8)) (fun _ hk => hk.1.1)), (y2 HB.out GE291.out GE292.out)⟩
end Go.Proofs.Ythfflieeifakdaa.PA
end
section
namespace Go.Proofs.Ythfflieeifakdaa.PA
open Go.RowKit Go.Proofs.YthfflieeifakdaaW.PrintWords Go.Proofs.YthfflieeifakdaaW.PrintLast Go.Proofs.YthfflieeifakdaaW.PrintMore
attribute [local go_sem] max2_int min2_int max_two min_two max_three min_three max_four min_four
set_option linter.unusedVariables false
set_option linter.unusedSimpArgs false
def impl_Val_parts.f (a0_0 : Int) (l0_1 : List (S25)) : Option ((List (S25))) := some l0_1
set_option maxHeartbeats 8000000 in
set_option maxRecDepth 100000 in
theorem impl_Val_parts.calls (a0_0 : Int) (P0_1_ : Nat → Prop) (A0_1 : Option Addr) (c0_1 : Nat) (l0_1 : List (S25)) (r : List (S25)) (w : World) (hs0_1 : Kd.V k25 25 w w.heap.size (fun k_ => P0_1_ k_) (.slice A0_1 l0_1.length c0_1) l0_1) (h : impl_Val_parts.f a0_0 l0_1 = some r) :
  Calls Try.prog 76 #[.agg #[.int .i64 a0_0, .slice A0_1 l0_1.length c0_1]] w fun e w' => ∃ v0_ : Value, e = .returned (v0_) ∧ Kd.V k25 25 w' w.heap.size (fun k_ => (P0_1_ k_ ∨ w.heap.size ≤ k_)) v0_ r ∧ Below w.heap.size w w' := by
 have hu25 := Try.underlying25
 have HO0_1 := Aside0.mk (show Kd.V k25 25 w w.heap.size (fun k_ => (P0_1_ k_ ∨ w.heap.size ≤ k_)) (.slice A0_1 l0_1.length c0_1) l0_1 from Kd.V_mono hs0_1 (fun k_ hk => .inl hk))
 have HB := Aside0.mk (Below.refl w.heap.size w)
 have H : (some l0_1) = some r := h
 clear h
 obtain rfl := Option.some.inj H
 go_enter Try.func76, Try.ntmps76
 go_wp2_with (first | ((with_reducible refine gate_dst (N := 1) rfl ?_); refine zbx 1 #[.int .i64 a0_0, .slice A0_1 l0_1.length c0_1] 25 ?_; intro gb102 hg w2 hbox hb; replace HO0_1 := Aside0.mk (Kd.V_below (Kd.V_elderB (y10 HO0_1.out) gb102 (Nat.le_of_eq hg.symm)) hb); have BK102 := Aside0.mk hbox; have GW102 := Aside0.mk ((y9 hg HB.out : w.heap.size ≤ gb102)); have GE102 := Aside0.mk ((y9 hg HB.out : w.heap.size ≤ gb102)); replace HB := Aside0.mk (below_step (y5 HB.out) hb); clear hb hbox hg; have hcz3_0 := zh BK102; have hcz3_1 := zh1 BK102; have hfz3_0 := zfr BK102 0; have hfz3_1 := zfr BK102 1))
 go_ret
 exact ⟨_, y19, (by (with_reducible repeat (first | apply Kd.V_alloc | apply Kd.V_drewN | apply Kd.V_drew)); exact Kd.V_mono HO0_1.out (fun _ hk => hk.1)), (y6 HB.out GE102.out)⟩
end Go.Proofs.Ythfflieeifakdaa.PA
end
section
namespace Go.Proofs.Ythfflieeifakdaa.PA
open Go.RowKit Go.Proofs.YthfflieeifakdaaW.PrintWords Go.Proofs.YthfflieeifakdaaW.PrintLast Go.Proofs.YthfflieeifakdaaW.PrintMore
attribute [local go_sem] max2_int min2_int max_two min_two max_three min_three max_four min_four
set_option linter.unusedVariables false
set_option linter.unusedSimpArgs false
def impl_Val.l0 : Nat → List Int → Int → Int → Int → List (S25) → Option (Int × (List (S25)) × Bool)
 | 0, _, _, _, _, _ => none
 | k + 1, x10, x11, x12, x298000, x298001 => if x12 < x11 then (if 0 ≤ x12 then (if x12 < (x10.length : Int) then ((impl_Val_parts.f x298000 x298001).bind fun t300 => (if (t300.length : Int) = 2 then (if (rd x10 x12) < 0 then (some (0, ([] : List (S25)), false)) else (if (rd x10 x12) > 1 then (some (0, ([] : List (S25)), false)) else (if 0 ≤ (rd x10 x12) then (if (rd x10 x12) < (t300.length : Int) then (impl_Val.l0 k x10 x11 (wrap64 (x12 + 1)) ((rd_T25 t300 (rd x10 x12)).f0) ((rd_T25 t300 (rd x10 x12)).f1)) else (none)) else (none)))) else (some (0, ([] : List (S25)), false)))) else (none)) else (none)) else (some (x298000, x298001, true))
def impl_Val.f (k : Nat) (a0_0 : Int) (l0_1 : List (S25)) (l1 : List Int) : Option (Int × (List (S25)) × Bool) := impl_Val.l0 k l1 (l1.length : Int) 0 a0_0 l0_1
theorem impl_Val.mono_l : ∀ k, (∀ y0 y1 y2 y3 y4, LeO (impl_Val.l0 k y0 y1 y2 y3 y4) (impl_Val.l0 (k + 1) y0 y1 y2 y3 y4))
 | 0 => fun _ _ _ _ _ r h => by simp [impl_Val.l0] at h
 | k + 1 => by
  have ih0 := impl_Val.mono_l k
  ·intro y0 y1 y2 y3 y4
   unfold impl_Val.l0
   repeat' first
   | (with_reducible exact ih0 _ _ _ _ _)
   | (with_reducible exact LeO.refl _)
   | (with_reducible exact LeO.none _)
   | (with_reducible refine LeO.ite ?_ ?_)
   | (with_reducible refine LeO.bind ?_ (fun _ => ?_))
   | exact ih0 _ _ _ _ _
   | exact LeO.none _
   | refine LeO.ite ?_ ?_
   | refine LeO.bind ?_ (fun _ => ?_)
theorem impl_Val.mono : ∀ a0 a1 a2 k, LeO (impl_Val.f k a0 a1 a2) (impl_Val.f (k + 1) a0 a1 a2) := by
 intro a0 a1 a2 k
 have ih0 := impl_Val.mono_l k
 unfold impl_Val.f
 repeat' first
   | (with_reducible exact ih0 _ _ _ _ _)
   | (with_reducible exact LeO.refl _)
   | (with_reducible exact LeO.none _)
   | (with_reducible refine LeO.ite ?_ ?_)
   | (with_reducible refine LeO.bind ?_ (fun _ => ?_))
   | exact ih0 _ _ _ _ _
   | exact LeO.none _
   | refine LeO.ite ?_ ?_
   | refine LeO.bind ?_ (fun _ => ?_)
set_option maxHeartbeats 8000000 in
set_option maxRecDepth 100000 in
theorem impl_Val.calls (k : Nat) (a0_0 : Int) (P0_1_ : Nat → Prop) (A0_1 : Option Addr) (c0_1 : Nat) (l0_1 : List (S25)) (A1 : Option Addr) (c1 : Nat) (l1 : List Int) (r1 : Int) (r2 : List (S25)) (r3 : Bool) (w : World) (hs0_1 : Kd.V k25 25 w w.heap.size (fun k_ => P0_1_ k_) (.slice A0_1 l0_1.length c0_1) l0_1) (hr1 : Kd.C (Kd.int .i64) w A1 l1.length l1) (hc1 : l1.length ≤ c1) (h : impl_Val.f k a0_0 l0_1 l1 = some (r1, r2, r3)) :
  Calls Try.prog 39 #[.agg #[.int .i64 a0_0, .slice A0_1 l0_1.length c0_1], .slice A1 l1.length c1] w fun e w' => ∃ v1_ : Value, e = .returned (.tuple #[.agg #[.int .i64 r1, v1_], .bool r3]) ∧ Kd.V k25 25 w' w.heap.size (fun k_ => (P0_1_ k_ ∨ w.heap.size ≤ k_)) v1_ r2 ∧ Below w.heap.size w w' := by
 have hu25 := Try.underlying25
 have hna25 : ∀ (v : Value) (W : World), (nilAhead 199 25 v "loop.example/handfast/impl.parts").run Try.prog W = .ok (some false) W := fun _ _ => by kernel_rfl
 have hme25 : ∀ (v : Value) (W : World), (method 199 25 v "loop.example/handfast/impl.parts").run Try.prog W = .ok (76, v) W := fun _ _ => by kernel_rfl
 have HO0_1 := Aside0.mk (show Kd.V k25 25 w w.heap.size (fun k_ => (P0_1_ k_ ∨ w.heap.size ≤ k_)) (.slice A0_1 l0_1.length c0_1) l0_1 from Kd.V_mono hs0_1 (fun k_ hk => .inl hk))
 have HR1 := Aside0.mk hr1
 have HC1 := Aside0.mk hc1
 clear hr1 hc1
 have HB := Aside0.mk (Below.refl w.heap.size w)
 have H : (impl_Val.l0 k l1 (l1.length : Int) 0 a0_0 l0_1) = some (r1, r2, r3) := h
 clear h
 have H' := Aside0.mk H
 clear H
 go_enter Try.func39, Try.ntmps39
 go_wp2_with (first | ((with_reducible refine gate_dst (N := 2) rfl ?_); refine zbx 2 #[.int .i64 a0_0, .slice A0_1 l0_1.length c0_1] 25 ?_; intro gb297 hg w3 hbox hb; replace HO0_1 := Aside0.mk (Kd.V_below (Kd.V_elderB (y10 HO0_1.out) gb297 (Nat.le_of_eq hg.symm)) hb); have BK297 := Aside0.mk hbox; have GW297 := Aside0.mk ((y9 hg HB.out : w.heap.size ≤ gb297)); have GE297 := Aside0.mk ((y9 hg HB.out : w.heap.size ≤ gb297)); replace HB := Aside0.mk (below_step (y5 HB.out) hb); clear hb hbox hg) | ((with_reducible refine gate_dst (N := 4) rfl ?_); refine zbx 4 #[.int .i64 0, .slice none 0 0] 25 ?_; intro gb298 hg w4 hbox hb; replace HO0_1 := Aside0.mk (Kd.V_below (Kd.V_elderB (y10 HO0_1.out) gb298 (Nat.le_of_eq hg.symm)) hb); have BK298 := Aside0.mk hbox; have GW298 := Aside0.mk ((y11 hg HB.out GE297.out : w.heap.size ≤ gb298)); have GE298 := Aside0.mk ((y11 hg HB.out GE297.out : w.heap.size ≤ gb298)); replace HB := Aside0.mk (below_step (y6 HB.out GE297.out) hb); have NB297_298 := zltn hg BK297; have NB298_297 := zgtn hg BK297; replace BK297 := zbb BK297 hb; clear hb hbox hg))
 go_loopg [12] k (fun kq v12 w' => ∃ (x12_1 : Int) (x298000_1 : Int) (x298001_1 : List (S25)) (x299000_1 : Int) (u298001 : Value), v12 = .int .i64 x12_1 ∧ Aside0 (impl_Val.l0 kq l1 (l1.length : Int) x12_1 x298000_1 x298001_1 = some (r1, r2, r3)) ∧ Aside0 (kq ≤ k) ∧ Aside0 (Kd.V k25 25 w' w.heap.size (fun k_ => (P0_1_ k_ ∨ w.heap.size ≤ k_) ∧ k_ ≠ gb297 ∧ k_ ≠ gb298) u298001 x298001_1) ∧ Aside0 (w'.heap[gb297]? = some (.cells #[.int .i64 x298000_1, u298001] 25 (0, 0))) ∧ Aside0 (w'.heap[gb298]? = some (.cells #[.int .i64 x299000_1, (.slice none 0 0)] 25 (0, 0))) ∧ Aside0 (Below w.heap.size w w'))
 case atStart => exact ⟨(0), (a0_0), (l0_1), (0), (.slice A0_1 l0_1.length c0_1), y34, H', ⟨Nat.le_refl _⟩, ⟨(y74 HO0_1.out)⟩, ⟨(y0 BK297.out)⟩, ⟨(y0 BK298.out)⟩, ⟨(y2 HB.out GE297.out GE298.out)⟩⟩
 case round =>
  clear H'
  try clear c1
  try clear p2
  try clear c3
  (try clear BK297); (try clear BK298)
  obtain ⟨x12_1, x298000_1, x298001_1, x299000_1, u298001, rfl, HA, HK1, HO_298001, BK297, BK298, HB⟩ := hrel
  cases gk with
  | zero => exact absurd HA.out (by simp [impl_Val.l0])
  | succ k1 =>
   have H := HA.out
   clear HA
   simp only [impl_Val.l0] at H
   by_cases c5 : x12_1 < (l1.length : Int)
   ·rw [if_pos c5] at H
    have c5b0 : decide (x12_1 < (l1.length : Int)) = true := decide_eq_true c5
    clear c5
    by_cases c6 : 0 ≤ x12_1
    ·rw [if_pos c6] at H
     have c6b0 : decide (0 ≤ x12_1) = true := decide_eq_true c6
     clear c6
     by_cases c7 : x12_1 < (l1.length : Int)
     ·rw [if_pos c7] at H
      have c7b0 : decide (x12_1 < (l1.length : Int)) = true := decide_eq_true c7
      clear c7
      obtain ⟨t300, A80, H⟩ := ob H
      have A8 := Aside0.mk A80
      clear A80
      by_cases c9 : (t300.length : Int) = 2
      ·rw [if_pos c9] at H
       have c9b0 : ((t300.length : Int) == 2) = true := beq_iff_eq.mpr c9
       have c9b1 : ((t300.length : Int) != 2) = false := bne_eq_false_iff_eq.mpr c9
       clear c9
       by_cases c10 : (rd l1 x12_1) < 0
       ·rw [if_pos c10] at H
        have c10b0 : decide ((rd l1 x12_1) < 0) = true := decide_eq_true c10
        clear c10
        simp only [Option.some.injEq, Prod.mk.injEq] at H
        obtain ⟨rfl, rfl, rfl⟩ := H
        have p299 : 0 ≤ (x12_1 : Int) := of_decide_eq_true y23
        have q299 : x12_1 < (l1.length : Int) := of_decide_eq_true y23
        obtain ⟨ad299, e299, hx299_0⟩ := Kd.at_int HR1.out x12_1 p299 q299
        cases e299
        replace hx299_0 := (HB.out.cell (World.block_lt_of_cell? w _ hx299_0)).trans hx299_0
        replace p299 := eq_true p299
        replace q299 := eq_true q299
        have hnb11 := NB297_298.out
        have hnc11 := NB298_297.out
        have hcz12_0 := zh BK297
        have hcz12_1 := zh1 BK297
        have hfz12_0 := zfr BK297 0
        have hfz12_1 := zfr BK297 1
        obtain ⟨Ao13, co13, eo13⟩ := Kd.V_slice HO_298001.out
        subst eo13
        go_wp2_with (first | (go_at_call 76; (with_reducible refine (impl_Val_parts.calls x298000_1 (fun k_ => ((P0_1_ k_ ∨ w.heap.size ≤ k_) ∧ (k_ ≠ gb297 ∧ k_ ≠ gb298))) _ _ x298001_1 t300 _ ?side1 A8.out).mono ?_); (case side1 => exact HO_298001.out); rintro e w14 ⟨v301, rfl, ho0, hb⟩; replace HO_298001 := Aside0.mk (Kd.V_below (y10 HO_298001.out) hb); have HO302 := Aside0.mk (Kd.V_lower (Kd.V_mono (ok' := fun k_ => (P0_1_ k_ ∨ w.heap.size ≤ k_) ∧ k_ ≠ gb297 ∧ k_ ≠ gb298) ho0 (fun k_ hk_ => ⟨Or.elim hk_ (fun hs_ => hs_.1) (fun hn_ => (.inr (Nat.le_trans (below_size (y2 HB.out GE297.out GE298.out)) hn_))), Or.elim hk_ (fun hs_ => hs_.2.1) (fun hn_ => (Kd.freshB (g := gb297) (o := .cells #[.int .i64 x298000_1, .slice Ao13 x298001_1.length co13] 25 (0, 0)) (y0 BK297.out) k_ hn_)), Or.elim hk_ (fun hs_ => hs_.2.2) (fun hn_ => (Kd.freshB (g := gb298) (o := .cells #[.int .i64 x299000_1, .slice none 0 0] 25 (0, 0)) (y0 BK298.out) k_ hn_))⟩)) (below_size (y2 HB.out GE297.out GE298.out))); replace BK297 := zbb BK297 hb; replace BK298 := zbb BK298 hb; replace HB := Aside0.mk (below_step (y2 HB.out GE297.out GE298.out) hb); (try clear hb); (try clear hb2); (try clear hk); (try clear hi); (try clear ho0); obtain ⟨Ao15, co15, eo15⟩ := Kd.V_slice HO302.out; subst eo15) | ((with_reducible refine gate_dst (N := 9) rfl ?_); refine zbx 9 #[.int .i64 0, .slice none 0 0] 25 ?_; intro gb303 hg w16 hbox hb; replace HO_298001 := Aside0.mk (Kd.V_below (Kd.V_elderB (y10 HO_298001.out) gb303 (Nat.le_of_eq hg.symm)) hb); replace HO302 := Aside0.mk (Kd.V_below (Kd.V_elderB (y10 HO302.out) gb303 (Nat.le_of_eq hg.symm)) hb); have BK303 := Aside0.mk hbox; have GW303 := Aside0.mk ((y16 hg HB.out GE297.out GE298.out : w.heap.size ≤ gb303)); have GE303 := Aside0.mk ((y16 hg HB.out GE297.out GE298.out : w.heap.size ≤ gb303)); replace HB := Aside0.mk (below_step (y2 HB.out GE297.out GE298.out) hb); have NB297_303 := zltn hg BK297; have NB303_297 := zgtn hg BK297; replace BK297 := zbb BK297 hb; have NB298_303 := zltn hg BK298; have NB303_298 := zgtn hg BK298; replace BK298 := zbb BK298 hb; clear hb hbox hg; have hnb17 := NB303_297.out; have hnc17 := NB297_303.out; have hnb18 := NB303_298.out; have hnc18 := NB298_303.out; have hcz19_0 := zh BK303; have hcz19_1 := zh1 BK303; have hfz19_0 := zfr BK303 0; have hfz19_1 := zfr BK303 1; have hcz20_0 := zh BK298; have hcz20_1 := zh1 BK298; have hfz20_0 := zfr BK298 0; have hfz20_1 := zfr BK298 1))
        refine bodyPost_ret (results_ct rfl _ _ gb298 25 #[.int .i64 0, .slice none 0 0] (0, 0) _ rfl (by (with_reducible repeat (first | refine blk_drewN ?_ _ | refine blk_drew ?_ | refine blk_alloc ?_ _)); refine blk_put (cs := #[.int .i64 0, .slice none 0 0]) ?_ 1 _ rfl; (with_reducible repeat (first | refine blk_drewN ?_ _ | refine blk_drew ?_ | refine blk_alloc ?_ _)); apply blk_put (i := 0); (case h => exact y0 BK298.out); (case e => rfl)) Try.underlying25 rfl (by kernel_rfl)) rfl ?_
        exact ⟨_, y19, Kd.V_nil _ _ _ _ _, (y4 HB.out GE297.out GE298.out GE303.out)⟩
       ·rw [if_neg c10] at H
        have c10b0 : decide ((rd l1 x12_1) < 0) = false := decide_eq_false c10
        clear c10
        by_cases c21 : (rd l1 x12_1) > 1
        ·rw [if_pos c21] at H
         have c21b0 : decide (1 < (rd l1 x12_1)) = true := decide_eq_true c21
         clear c21
         simp only [Option.some.injEq, Prod.mk.injEq] at H
         obtain ⟨rfl, rfl, rfl⟩ := H
         have p299 : 0 ≤ (x12_1 : Int) := of_decide_eq_true y23
         have q299 : x12_1 < (l1.length : Int) := of_decide_eq_true y23
         obtain ⟨ad299, e299, hx299_0⟩ := Kd.at_int HR1.out x12_1 p299 q299
         cases e299
         replace hx299_0 := (HB.out.cell (World.block_lt_of_cell? w _ hx299_0)).trans hx299_0
         replace p299 := eq_true p299
         replace q299 := eq_true q299
         have hnb22 := NB297_298.out
         have hnc22 := NB298_297.out
         have hcz23_0 := zh BK297
         have hcz23_1 := zh1 BK297
         have hfz23_0 := zfr BK297 0
         have hfz23_1 := zfr BK297 1
         obtain ⟨Ao24, co24, eo24⟩ := Kd.V_slice HO_298001.out
         subst eo24
         go_wp2_with (first | (go_at_call 76; (with_reducible refine (impl_Val_parts.calls x298000_1 (fun k_ => ((P0_1_ k_ ∨ w.heap.size ≤ k_) ∧ (k_ ≠ gb297 ∧ k_ ≠ gb298))) _ _ x298001_1 t300 _ ?side1 A8.out).mono ?_); (case side1 => exact HO_298001.out); rintro e w25 ⟨v301, rfl, ho0, hb⟩; replace HO_298001 := Aside0.mk (Kd.V_below (y10 HO_298001.out) hb); have HO302 := Aside0.mk (Kd.V_lower (Kd.V_mono (ok' := fun k_ => (P0_1_ k_ ∨ w.heap.size ≤ k_) ∧ k_ ≠ gb297 ∧ k_ ≠ gb298) ho0 (fun k_ hk_ => ⟨Or.elim hk_ (fun hs_ => hs_.1) (fun hn_ => (.inr (Nat.le_trans (below_size (y2 HB.out GE297.out GE298.out)) hn_))), Or.elim hk_ (fun hs_ => hs_.2.1) (fun hn_ => (Kd.freshB (g := gb297) (o := .cells #[.int .i64 x298000_1, .slice Ao24 x298001_1.length co24] 25 (0, 0)) (y0 BK297.out) k_ hn_)), Or.elim hk_ (fun hs_ => hs_.2.2) (fun hn_ => (Kd.freshB (g := gb298) (o := .cells #[.int .i64 x299000_1, .slice none 0 0] 25 (0, 0)) (y0 BK298.out) k_ hn_))⟩)) (below_size (y2 HB.out GE297.out GE298.out))); replace BK297 := zbb BK297 hb; replace BK298 := zbb BK298 hb; replace HB := Aside0.mk (below_step (y2 HB.out GE297.out GE298.out) hb); (try clear hb); (try clear hb2); (try clear hk); (try clear hi); (try clear ho0); obtain ⟨Ao26, co26, eo26⟩ := Kd.V_slice HO302.out; subst eo26) | ((with_reducible refine gate_dst (N := 9) rfl ?_); refine zbx 9 #[.int .i64 0, .slice none 0 0] 25 ?_; intro gb304 hg w27 hbox hb; replace HO_298001 := Aside0.mk (Kd.V_below (Kd.V_elderB (y10 HO_298001.out) gb304 (Nat.le_of_eq hg.symm)) hb); replace HO302 := Aside0.mk (Kd.V_below (Kd.V_elderB (y10 HO302.out) gb304 (Nat.le_of_eq hg.symm)) hb); have BK304 := Aside0.mk hbox; have GW304 := Aside0.mk ((y16 hg HB.out GE297.out GE298.out : w.heap.size ≤ gb304)); have GE304 := Aside0.mk ((y16 hg HB.out GE297.out GE298.out : w.heap.size ≤ gb304)); replace HB := Aside0.mk (below_step (y2 HB.out GE297.out GE298.out) hb); have NB297_304 := zltn hg BK297; have NB304_297 := zgtn hg BK297; replace BK297 := zbb BK297 hb; have NB298_304 := zltn hg BK298; have NB304_298 := zgtn hg BK298; replace BK298 := zbb BK298 hb; clear hb hbox hg; have hnb28 := NB304_297.out; have hnc28 := NB297_304.out; have hnb29 := NB304_298.out; have hnc29 := NB298_304.out; have hcz30_0 := zh BK304; have hcz30_1 := zh1 BK304; have hfz30_0 := zfr BK304 0; have hfz30_1 := zfr BK304 1; have hcz31_0 := zh BK298; have hcz31_1 := zh1 BK298; have hfz31_0 := zfr BK298 0; have hfz31_1 := zfr BK298 1))
         refine bodyPost_ret (results_ct rfl _ _ gb298 25 #[.int .i64 0, .slice none 0 0] (0, 0) _ rfl (by (with_reducible repeat (first | refine blk_drewN ?_ _ | refine blk_drew ?_ | refine blk_alloc ?_ _)); refine blk_put (cs := #[.int .i64 0, .slice none 0 0]) ?_ 1 _ rfl; (with_reducible repeat (first | refine blk_drewN ?_ _ | refine blk_drew ?_ | refine blk_alloc ?_ _)); apply blk_put (i := 0); (case h => exact y0 BK298.out); (case e => rfl)) Try.underlying25 rfl (by kernel_rfl)) rfl ?_
         exact ⟨_, y19, Kd.V_nil _ _ _ _ _, (y4 HB.out GE297.out GE298.out GE304.out)⟩
        ·rw [if_neg c21] at H
         have c21b0 : decide (1 < (rd l1 x12_1)) = false := decide_eq_false c21
         clear c21
         by_cases c32 : 0 ≤ (rd l1 x12_1)
         ·rw [if_pos c32] at H
          have c32b0 : decide (0 ≤ (rd l1 x12_1)) = true := decide_eq_true c32
          clear c32
          by_cases c33 : (rd l1 x12_1) < (t300.length : Int)
          ·rw [if_pos c33] at H
           have c33b0 : decide ((rd l1 x12_1) < (t300.length : Int)) = true := decide_eq_true c33
           clear c33
           have H' := Aside0.mk H
           clear H
           have p299 : 0 ≤ (x12_1 : Int) := of_decide_eq_true y23
           have q299 : x12_1 < (l1.length : Int) := of_decide_eq_true y23
           obtain ⟨ad299, e299, hx299_0⟩ := Kd.at_int HR1.out x12_1 p299 q299
           cases e299
           replace hx299_0 := (HB.out.cell (World.block_lt_of_cell? w _ hx299_0)).trans hx299_0
           replace p299 := eq_true p299
           replace q299 := eq_true q299
           have hnb34 := NB297_298.out
           have hnc34 := NB298_297.out
           have hcz35_0 := zh BK297
           have hcz35_1 := zh1 BK297
           have hfz35_0 := zfr BK297 0
           have hfz35_1 := zfr BK297 1
           obtain ⟨Ao36, co36, eo36⟩ := Kd.V_slice HO_298001.out
           subst eo36
           go_wp2_with (first | (go_at_call 76; (with_reducible refine (impl_Val_parts.calls x298000_1 (fun k_ => ((P0_1_ k_ ∨ w.heap.size ≤ k_) ∧ (k_ ≠ gb297 ∧ k_ ≠ gb298))) _ _ x298001_1 t300 _ ?side1 A8.out).mono ?_); (case side1 => exact HO_298001.out); rintro e w37 ⟨v301, rfl, ho0, hb⟩; replace HO_298001 := Aside0.mk (Kd.V_below (y10 HO_298001.out) hb); have HO302 := Aside0.mk (Kd.V_lower (Kd.V_mono (ok' := fun k_ => (P0_1_ k_ ∨ w.heap.size ≤ k_) ∧ k_ ≠ gb297 ∧ k_ ≠ gb298) ho0 (fun k_ hk_ => ⟨Or.elim hk_ (fun hs_ => hs_.1) (fun hn_ => (.inr (Nat.le_trans (below_size (y2 HB.out GE297.out GE298.out)) hn_))), Or.elim hk_ (fun hs_ => hs_.2.1) (fun hn_ => (Kd.freshB (g := gb297) (o := .cells #[.int .i64 x298000_1, .slice Ao36 x298001_1.length co36] 25 (0, 0)) (y0 BK297.out) k_ hn_)), Or.elim hk_ (fun hs_ => hs_.2.2) (fun hn_ => (Kd.freshB (g := gb298) (o := .cells #[.int .i64 x299000_1, .slice none 0 0] 25 (0, 0)) (y0 BK298.out) k_ hn_))⟩)) (below_size (y2 HB.out GE297.out GE298.out))); replace BK297 := zbb BK297 hb; replace BK298 := zbb BK298 hb; replace HB := Aside0.mk (below_step (y2 HB.out GE297.out GE298.out) hb); (try clear hb); (try clear hb2); (try clear hk); (try clear hi); (try clear ho0); obtain ⟨Ao38, co38, eo38⟩ := Kd.V_slice HO302.out; subst eo38; have p305 : 0 ≤ ((rd l1 x12_1) : Int) := of_decide_eq_true y23; have q305 : (rd l1 x12_1) < (t300.length : Int) := of_decide_eq_true y23; obtain ⟨ad305, A305_1, c305_1, e305, hx305_0, hx305_1, hl305_1, hi305_1⟩ := at_T25 (Kd.V_reads' HO302.out).2.2 (rd l1 x12_1) p305 q305; cases e305; obtain ⟨ce305, hce305, hMe305, hcc305⟩ := Kd.V_get HO302.out z25 (rd l1 x12_1) p305 (by first | exact q305 | exact of_decide_eq_true y23 | (have e_ := (Kd.V_reads' HO302.out).1; omega)); obtain ⟨ua305_1, uc305_1, rfl, ul305_1, ge305_1⟩ := k25_openF hMe305; have hv305_1 := hcc305 1 _ rfl; rw [add_field _ _ 1 (by omega)] at hv305_1; replace hv305_1 := Option.some.inj (hv305_1.symm.trans hx305_1); injection hv305_1 with hva_ hvn_ hvc_; rw [hva_] at ge305_1; rw [hvc_] at ul305_1; have HL305_1 := Aside0.mk (show Kd.V k25 25 _ w.heap.size _ _ ((rd_T25 t300 (rd l1 x12_1)).f1) from Kd.V_mk ul305_1 ge305_1); clear hva_ hvn_ hvc_ ge305_1 ul305_1; clear hcc305 hce305; have HR305_1 := Aside0.mk hi305_1; have HC305_1 := Aside0.mk hl305_1; clear hi305_1 hl305_1; replace p305 := eq_true p305; replace q305 := eq_true q305; have hcz39_0 := zh BK297; have hcz39_1 := zh1 BK297; have hfz39_0 := zfr BK297 0; have hfz39_1 := zfr BK297 1))
           go_roundg k1
           case measure => have := HK1.out; omega
           case rel => exact ⟨(wrap64 (x12_1 + 1)), ((rd_T25 t300 (rd l1 x12_1)).f0), ((rd_T25 t300 (rd l1 x12_1)).f1), (x299000_1), (.slice A305_1 ((rd_T25 t300 (rd l1 x12_1)).f1).length c305_1), y34, H', ⟨(y57 HK1.out)⟩, ⟨(by (with_reducible repeat (first | apply Kd.V_alloc | apply Kd.V_drewN | apply Kd.V_drew)); exact Kd.V_mono (Kd.V_far (p := ⟨gb297, 1, none⟩) (Kd.V_far (p := ⟨gb297, 0, none⟩) (Kd.V_mono HL305_1.out (fun k_ hk => (⟨hk, hk.2.1⟩ : _ ∧ k_ ≠ gb297))) (fun _ hk => hk.2) (.int .i64 ((rd_T25 t300 (rd l1 x12_1)).f0))) (fun _ hk => hk.2) (.slice A305_1 ((rd_T25 t300 (rd l1 x12_1)).f1).length c305_1)) (fun _ hk => ⟨hk.1.1, ⟨hk.1.2.1, hk.1.2.2⟩⟩))⟩, ⟨(by (with_reducible repeat (first | refine blk_drewN ?_ _ | refine blk_drew ?_ | refine blk_alloc ?_ _)); refine blk_put (cs := #[.int .i64 ((rd_T25 t300 (rd l1 x12_1)).f0), .slice Ao36 x298001_1.length co36]) ?_ 1 _ rfl; (with_reducible repeat (first | refine blk_drewN ?_ _ | refine blk_drew ?_ | refine blk_alloc ?_ _)); refine blk_put (cs := #[.int .i64 x298000_1, .slice Ao36 x298001_1.length co36]) ?_ 0 _ rfl; (with_reducible repeat (first | refine blk_drewN ?_ _ | refine blk_drew ?_ | refine blk_alloc ?_ _)); exact BK297.out)⟩, ⟨(y1 NB298_297.out BK298.out)⟩, ⟨(y2 HB.out GE297.out GE298.out)⟩⟩
          ·rw [if_neg c33] at H
           exact absurd H (by simp)
         ·rw [if_neg c32] at H
          exact absurd H (by simp)
      ·rw [if_neg c9] at H
       have c9b0 : ((t300.length : Int) == 2) = false := beq_eq_false_iff_ne.mpr c9
       have c9b1 : ((t300.length : Int) != 2) = true := bne_iff_ne.mpr c9
       simp only [Option.some.injEq, Prod.mk.injEq] at H
       obtain ⟨rfl, rfl, rfl⟩ := H
       have p299 : 0 ≤ (x12_1 : Int) := of_decide_eq_true y23
       have q299 : x12_1 < (l1.length : Int) := of_decide_eq_true y23
       obtain ⟨ad299, e299, hx299_0⟩ := Kd.at_int HR1.out x12_1 p299 q299
       cases e299
       replace hx299_0 := (HB.out.cell (World.block_lt_of_cell? w _ hx299_0)).trans hx299_0
       replace p299 := eq_true p299
       replace q299 := eq_true q299
       have hnb40 := NB297_298.out
       have hnc40 := NB298_297.out
       have hcz41_0 := zh BK297
       have hcz41_1 := zh1 BK297
       have hfz41_0 := zfr BK297 0
       have hfz41_1 := zfr BK297 1
       obtain ⟨Ao42, co42, eo42⟩ := Kd.V_slice HO_298001.out
       subst eo42
       go_wp2_with (first | (go_at_call 76; (with_reducible refine (impl_Val_parts.calls x298000_1 (fun k_ => ((P0_1_ k_ ∨ w.heap.size ≤ k_) ∧ (k_ ≠ gb297 ∧ k_ ≠ gb298))) _ _ x298001_1 t300 _ ?side1 A8.out).mono ?_); (case side1 => exact HO_298001.out); rintro e w43 ⟨v301, rfl, ho0, hb⟩; replace HO_298001 := Aside0.mk (Kd.V_below (y10 HO_298001.out) hb); have HO302 := Aside0.mk (Kd.V_lower (Kd.V_mono (ok' := fun k_ => (P0_1_ k_ ∨ w.heap.size ≤ k_) ∧ k_ ≠ gb297 ∧ k_ ≠ gb298) ho0 (fun k_ hk_ => ⟨Or.elim hk_ (fun hs_ => hs_.1) (fun hn_ => (.inr (Nat.le_trans (below_size (y2 HB.out GE297.out GE298.out)) hn_))), Or.elim hk_ (fun hs_ => hs_.2.1) (fun hn_ => (Kd.freshB (g := gb297) (o := .cells #[.int .i64 x298000_1, .slice Ao42 x298001_1.length co42] 25 (0, 0)) (y0 BK297.out) k_ hn_)), Or.elim hk_ (fun hs_ => hs_.2.2) (fun hn_ => (Kd.freshB (g := gb298) (o := .cells #[.int .i64 x299000_1, .slice none 0 0] 25 (0, 0)) (y0 BK298.out) k_ hn_))⟩)) (below_size (y2 HB.out GE297.out GE298.out))); replace BK297 := zbb BK297 hb; replace BK298 := zbb BK298 hb; replace HB := Aside0.mk (below_step (y2 HB.out GE297.out GE298.out) hb); (try clear hb); (try clear hb2); (try clear hk); (try clear hi); (try clear ho0); obtain ⟨Ao44, co44, eo44⟩ := Kd.V_slice HO302.out; subst eo44) | ((with_reducible refine gate_dst (N := 9) rfl ?_); refine zbx 9 #[.int .i64 0, .slice none 0 0] 25 ?_; intro gb306 hg w45 hbox hb; replace HO_298001 := Aside0.mk (Kd.V_below (Kd.V_elderB (y10 HO_298001.out) gb306 (Nat.le_of_eq hg.symm)) hb); replace HO302 := Aside0.mk (Kd.V_below (Kd.V_elderB (y10 HO302.out) gb306 (Nat.le_of_eq hg.symm)) hb); have BK306 := Aside0.mk hbox; have GW306 := Aside0.mk ((y16 hg HB.out GE297.out GE298.out : w.heap.size ≤ gb306)); have GE306 := Aside0.mk ((y16 hg HB.out GE297.out GE298.out : w.heap.size ≤ gb306)); replace HB := Aside0.mk (below_step (y2 HB.out GE297.out GE298.out) hb); have NB297_306 := zltn hg BK297; have NB306_297 := zgtn hg BK297; replace BK297 := zbb BK297 hb; have NB298_306 := zltn hg BK298; have NB306_298 := zgtn hg BK298; replace BK298 := zbb BK298 hb; clear hb hbox hg; have hnb46 := NB306_297.out; have hnc46 := NB297_306.out; have hnb47 := NB306_298.out; have hnc47 := NB298_306.out; have hcz48_0 := zh BK306; have hcz48_1 := zh1 BK306; have hfz48_0 := zfr BK306 0; have hfz48_1 := zfr BK306 1; have hcz49_0 := zh BK298; have hcz49_1 := zh1 BK298; have hfz49_0 := zfr BK298 0; have hfz49_1 := zfr BK298 1))
       refine bodyPost_ret (results_ct rfl _ _ gb298 25 #[.int .i64 0, .slice none 0 0] (0, 0) _ rfl (by (with_reducible repeat (first | refine blk_drewN ?_ _ | refine blk_drew ?_ | refine blk_alloc ?_ _)); refine blk_put (cs := #[.int .i64 0, .slice none 0 0]) ?_ 1 _ rfl; (with_reducible repeat (first | refine blk_drewN ?_ _ | refine blk_drew ?_ | refine blk_alloc ?_ _)); apply blk_put (i := 0); (case h => exact y0 BK298.out); (case e => rfl)) Try.underlying25 rfl (by kernel_rfl)) rfl ?_
       exact ⟨_, y19, Kd.V_nil _ _ _ _ _, (y4 HB.out GE297.out GE298.out GE306.out)⟩
     ·rw [if_neg c7] at H
      exact absurd H (by simp)
    ·rw [if_neg c6] at H
     exact absurd H (by simp)
   ·rw [if_neg c5] at H
    have c5b0 : decide (x12_1 < (l1.length : Int)) = false := decide_eq_false c5
    clear c5
    simp only [Option.some.injEq, Prod.mk.injEq] at H
    obtain ⟨rfl, rfl, rfl⟩ := H
    have hnb50 := NB297_298.out
    have hnc50 := NB298_297.out
    have hcz51_0 := zh BK297
    have hcz51_1 := zh1 BK297
    have hfz51_0 := zfr BK297 0
    have hfz51_1 := zfr BK297 1
    have hcz52_0 := zh BK298
    have hcz52_1 := zh1 BK298
    have hfz52_0 := zfr BK298 0
    have hfz52_1 := zfr BK298 1
    obtain ⟨Ao53, co53, eo53⟩ := Kd.V_slice HO_298001.out
    subst eo53
    go_wp2
    refine bodyPost_ret (results_ct rfl _ _ gb298 25 #[.int .i64 x298000_1, .slice Ao53 x298001_1.length co53] (0, 0) _ rfl (by (with_reducible repeat (first | refine blk_drewN ?_ _ | refine blk_drew ?_ | refine blk_alloc ?_ _)); refine blk_put (cs := #[.int .i64 x298000_1, .slice none 0 0]) ?_ 1 _ rfl; (with_reducible repeat (first | refine blk_drewN ?_ _ | refine blk_drew ?_ | refine blk_alloc ?_ _)); apply blk_put (i := 0); (case h => exact y0 BK298.out); (case e => rfl)) Try.underlying25 rfl (by kernel_rfl)) rfl ?_
    exact ⟨_, y19, (by (with_reducible repeat (first | apply Kd.V_alloc | apply Kd.V_drewN | apply Kd.V_drew)); exact Kd.V_mono (Kd.V_far (p := ⟨gb298, 1, none⟩) (Kd.V_far (p := ⟨gb298, 0, none⟩) (Kd.V_mono HO_298001.out (fun k_ hk => (⟨hk, hk.2.2⟩ : _ ∧ k_ ≠ gb298))) (fun _ hk => hk.2) (.int .i64 x298000_1)) (fun _ hk => hk.2) (.slice Ao53 x298001_1.length co53)) (fun _ hk => hk.1.1)), (y2 HB.out GE297.out GE298.out)⟩
end Go.Proofs.Ythfflieeifakdaa.PA
end
section
namespace Go.Proofs.Ythfflieeifakdaa.PA
open Go.RowKit Go.Proofs.YthfflieeifakdaaW.PrintWords Go.Proofs.YthfflieeifakdaaW.PrintLast Go.Proofs.YthfflieeifakdaaW.PrintMore
attribute [local go_sem] max2_int min2_int max_two min_two max_three min_three max_four min_four
set_option linter.unusedVariables false
set_option linter.unusedSimpArgs false
def impl_valCopy.f : Nat → Int → List (S25) → Option (Int × (List (S25)))
 | 0, _, _ => none
 | k + 1, a0_0, l0_1 => if (l0_1.length : Int) = 0 then (some (a0_0, ([] : List (S25)))) else (if 0 < (l0_1.length : Int) then ((impl_valCopy.f k ((rd_T25 l0_1 0).f0) ((rd_T25 l0_1 0).f1)).bind fun bt310 => (if 1 < (l0_1.length : Int) then ((impl_valCopy.f k ((rd_T25 l0_1 1).f0) ((rd_T25 l0_1 1).f1)).bind fun bt315 => (some (0, (([(⟨bt310.1, bt310.2⟩ : S25), (⟨bt315.1, bt315.2⟩ : S25)] : List (S25)))))) else (none))) else (none))
theorem impl_valCopy.mono_l : ∀ k, (∀ y0 y1, LeO (impl_valCopy.f k y0 y1) (impl_valCopy.f (k + 1) y0 y1))
 | 0 => fun _ _ r h => by simp [impl_valCopy.f] at h
 | k + 1 => by
  have ih0 := impl_valCopy.mono_l k
  ·intro y0 y1
   unfold impl_valCopy.f
   repeat' first
   | (with_reducible exact ih0 _ _)
   | (with_reducible exact LeO.refl _)
   | (with_reducible exact LeO.none _)
   | (with_reducible refine LeO.ite ?_ ?_)
   | (with_reducible refine LeO.bind ?_ (fun _ => ?_))
   | exact ih0 _ _
   | exact LeO.none _
   | refine LeO.ite ?_ ?_
   | refine LeO.bind ?_ (fun _ => ?_)
theorem impl_valCopy.mono : ∀ a0 a1 k, LeO (impl_valCopy.f k a0 a1) (impl_valCopy.f (k + 1) a0 a1) := by
 intro a0 a1 k
 have ih0 := impl_valCopy.mono_l k
 exact ih0 a0 a1
def impl_valCopy.T3 : Bool × List (List Nat × List Nat) := (true, [([], []), ([0], [0]), ([1], [1]), ([2], [2]), ([3], [3]), ([], []), ([5], [5]), ([6], [6]), ([7], [7]), ([8, 4], [8]), ([4, 9], [4, 9]), ([10], [10]), ([11, 9, 0, 1, 2, 3, 4, 5, 6, 7, 8, 9, 10, 11], [11])])
def impl_valCopy.B3 : List Nat := [0, 1, 3, 7, 15, 0, 32, 96, 224, 511, 1023, 2047, 4095]
theorem impl_valCopy.tab3 : rtab .any (opsOf Try.f40 3) = impl_valCopy.T3 := by kernel_rfl
theorem impl_valCopy.bits3 : waitsOk impl_valCopy.T3.2 impl_valCopy.B3 = true := by kernel_rfl
set_option maxHeartbeats 8000000 in
set_option maxRecDepth 100000 in
theorem impl_valCopy.calls (k : Nat) : ∀ (a0_0 : Int) (A0_1 : Option Addr) (c0_1 : Nat) (l0_1 : List (S25)) (r1 : Int) (r2 : List (S25)) (w : World) (hr0_1 : Kd.C k25 w A0_1 l0_1.length l0_1) (hc0_1 : l0_1.length ≤ c0_1) (h : impl_valCopy.f k a0_0 l0_1 = some (r1, r2)),
  Calls Try.prog 40 #[.agg #[.int .i64 a0_0, .slice A0_1 l0_1.length c0_1]] w fun e w' => ∃ v1_ : Value, e = .returned (.agg #[.int .i64 r1, v1_]) ∧ Kd.N k25 25 w' w.heap.size (fun k_ => (w.heap.size ≤ k_)) v1_ r2 ∧ Below w.heap.size w w' := by
 induction k using Nat.strongRecOn with
 | _ k ih =>
 intro a0_0 A0_1 c0_1 l0_1 r1 r2 w hr0_1 hc0_1 h
 cases k with
 | zero => exact absurd h (by simp [impl_valCopy.f])
 | succ k =>
 simp only [impl_valCopy.f] at h
 have hu25 := Try.underlying25
 have HR0_1 := Aside0.mk hr0_1
 have HC0_1 := Aside0.mk hc0_1
 clear hr0_1 hc0_1
 have HB := Aside0.mk (Below.refl w.heap.size w)
 have H : (if (l0_1.length : Int) = 0 then (some (a0_0, ([] : List (S25)))) else (if 0 < (l0_1.length : Int) then ((impl_valCopy.f k ((rd_T25 l0_1 0).f0) ((rd_T25 l0_1 0).f1)).bind fun bt310 => (if 1 < (l0_1.length : Int) then ((impl_valCopy.f k ((rd_T25 l0_1 1).f0) ((rd_T25 l0_1 1).f1)).bind fun bt315 => (some (0, (([(⟨bt310.1, bt310.2⟩ : S25), (⟨bt315.1, bt315.2⟩ : S25)] : List (S25)))))) else (none))) else (none))) = some (r1, r2) := h
 clear h
 by_cases c2 : (l0_1.length : Int) = 0
 ·rw [if_pos c2] at H
  have c2b0 : ((l0_1.length : Int) == 0) = true := beq_iff_eq.mpr c2
  have c2b1 : ((l0_1.length : Int) != 0) = false := bne_eq_false_iff_eq.mpr c2
  clear c2
  simp only [Option.some.injEq, Prod.mk.injEq] at H
  obtain ⟨rfl, rfl⟩ := H
  go_enter Try.func40, Try.ntmps40
  go_wp2_with (first | ((with_reducible refine gate_dst (N := 1) rfl ?_); refine zbx 1 #[.int .i64 a0_0, .slice A0_1 l0_1.length c0_1] 25 ?_; intro gb307 hg w3 hbox hb; have BK307 := Aside0.mk hbox; have GW307 := Aside0.mk ((y9 hg HB.out : w.heap.size ≤ gb307)); have GE307 := Aside0.mk ((y9 hg HB.out : w.heap.size ≤ gb307)); replace HB := Aside0.mk (below_step (y5 HB.out) hb); clear hb hbox hg) | ((with_reducible refine gate_dst (N := 2) rfl ?_); refine zbx 2 #[.int .i64 0, .slice none 0 0] 25 ?_; intro gb308 hg w4 hbox hb; have BK308 := Aside0.mk hbox; have GW308 := Aside0.mk ((y11 hg HB.out GE307.out : w.heap.size ≤ gb308)); have GE308 := Aside0.mk ((y11 hg HB.out GE307.out : w.heap.size ≤ gb308)); replace HB := Aside0.mk (below_step (y6 HB.out GE307.out) hb); have NB307_308 := zltn hg BK307; have NB308_307 := zgtn hg BK307; replace BK307 := zbb BK307 hb; clear hb hbox hg; have hnb5 := NB307_308.out; have hnc5 := NB308_307.out; have hcz6_0 := zh BK307; have hcz6_1 := zh1 BK307; have hfz6_0 := zfr BK307 0; have hfz6_1 := zfr BK307 1; have hcz7_0 := zh BK308; have hcz7_1 := zh1 BK308; have hfz7_0 := zfr BK308 0; have hfz7_1 := zfr BK308 1))
  refine bodyPost_ret (results_cell_row rfl _ _ gb308 25 #[.int .i64 a0_0, .slice none 0 0] (0, 0) _ rfl (by (with_reducible repeat (first | refine blk_drewN ?_ _ | refine blk_drew ?_ | refine blk_alloc ?_ _)); refine blk_put (cs := #[.int .i64 a0_0, .slice none 0 0]) ?_ 1 _ rfl; (with_reducible repeat (first | refine blk_drewN ?_ _ | refine blk_drew ?_ | refine blk_alloc ?_ _)); apply blk_put (i := 0); (case h => exact y0 BK308.out); (case e => rfl)) Try.underlying25 rfl (by kernel_rfl)) rfl ?_
  exact ⟨_, y19, y37, (y2 HB.out GE307.out GE308.out)⟩
 ·rw [if_neg c2] at H
  have c2b0 : ((l0_1.length : Int) == 0) = false := beq_eq_false_iff_ne.mpr c2
  have c2b1 : ((l0_1.length : Int) != 0) = true := bne_iff_ne.mpr c2
  have c2b2 : ¬ (l0_1 = []) := fun h_ => c2 (by rw [h_]; rfl)
  by_cases c8 : 0 < (l0_1.length : Int)
  ·rw [if_pos c8] at H
   have c8b0 : decide (0 < (l0_1.length : Int)) = true := decide_eq_true c8
   have c8b1 : decide (0 < l0_1.length) = true := decide_eq_true (by omega)
   clear c8
   obtain ⟨⟨t310, t311⟩, A90, H⟩ := ob H
   have A9 := Aside0.mk A90
   clear A90
   by_cases c10 : 1 < (l0_1.length : Int)
   ·rw [if_pos c10] at H
    have c10b0 : decide (1 < (l0_1.length : Int)) = true := decide_eq_true c10
    have c10b1 : decide (1 < l0_1.length) = true := decide_eq_true (by omega)
    clear c10
    obtain ⟨⟨t315, t316⟩, A110, H⟩ := ob H
    have A11 := Aside0.mk A110
    clear A110
    obtain ⟨y319, hy319⟩ : ∃ y_ : List (S25), y_ = (([(⟨t310, t311⟩ : S25), (⟨t315, t316⟩ : S25)] : List (S25))) := ⟨_, rfl⟩
    replace H : (some (0, y319)) = some (r1, r2) := by first | (rw [hy319]; with_reducible exact H) | (have H2_ := (Option.bind_some _ _).symm.trans H; rw [hy319]; with_reducible exact H2_) | (have H2_ := (Option.bind_some _ _).symm.trans H; with_reducible exact H2_) | with_reducible exact H | (rw [hy319]; exact H) | exact H
    have Ny319 := Aside0.mk hy319
    clear hy319
    simp only [Option.some.injEq, Prod.mk.injEq] at H
    obtain ⟨rfl, rfl⟩ := H
    go_enter Try.func40, Try.ntmps40
    try go_wp2_with (first | ((with_reducible refine gate_dst (N := 1) rfl ?_); refine zbx 1 #[.int .i64 a0_0, .slice A0_1 l0_1.length c0_1] 25 ?_; intro gb307 hg w12 hbox hb; have BK307 := Aside0.mk hbox; have GW307 := Aside0.mk ((y9 hg HB.out : w.heap.size ≤ gb307)); have GE307 := Aside0.mk ((y9 hg HB.out : w.heap.size ≤ gb307)); replace HB := Aside0.mk (below_step (y5 HB.out) hb); clear hb hbox hg) | ((with_reducible refine gate_dst (N := 2) rfl ?_); refine zbx 2 #[.int .i64 0, .slice none 0 0] 25 ?_; intro gb308 hg w13 hbox hb; have BK308 := Aside0.mk hbox; have GW308 := Aside0.mk ((y11 hg HB.out GE307.out : w.heap.size ≤ gb308)); have GE308 := Aside0.mk ((y11 hg HB.out GE307.out : w.heap.size ≤ gb308)); replace HB := Aside0.mk (below_step (y6 HB.out GE307.out) hb); have NB307_308 := zltn hg BK307; have NB308_307 := zgtn hg BK307; replace BK307 := zbb BK307 hb; clear hb hbox hg; have hnb14 := NB307_308.out; have hnc14 := NB308_307.out; have hcz15_0 := zh BK307; have hcz15_1 := zh1 BK307; have hfz15_0 := zfr BK307 0; have hfz15_1 := zfr BK307 1))
    replace BK307 := Aside0.mk (blk_drew BK307.out)
    replace BK308 := Aside0.mk (blk_drew BK308.out)
    replace HB := Aside0.mk (below_drew1 HB.out)
    have p309 : 0 ≤ (0 : Int) := (by omega)
    have q309 : 0 < (l0_1.length : Int) := of_decide_eq_true y23
    obtain ⟨ad309, A309_1, c309_1, e309, hx309_0, hx309_1, hl309_1, hi309_1⟩ := at_T25 HR0_1.out 0 p309 q309
    have hw309_1 := hx309_1
    (try rw [show ((0 : Int)).toNat = 0 from rfl] at hw309_1)
    (try rw [show 0 * 2 = 0 from rfl] at hw309_1)
    (try rw [Addr.add_zero'] at hw309_1)
    have hw309_0 := hx309_0
    (try rw [show ((0 : Int)).toNat = 0 from rfl] at hw309_0)
    (try rw [show 0 * 2 = 0 from rfl] at hw309_0)
    (try rw [Addr.add_zero'] at hw309_0)
    cases e309
    have qi309 : (0 < l0_1.length) = True := eq_true (by omega)
    (try rw [show ((0 : Int)).toNat = 0 from rfl] at hx309_0)
    (try rw [show 0 * 2 = 0 from rfl] at hx309_0)
    (try rw [Addr.add_zero'] at hx309_0)
    (try rw [show ((0 : Int)).toNat = 0 from rfl] at hx309_1)
    (try rw [show 0 * 2 = 0 from rfl] at hx309_1)
    (try rw [Addr.add_zero'] at hx309_1)
    replace hx309_0 := (HB.out.cell (World.block_lt_of_cell? w _ hx309_0)).trans hx309_0
    replace hx309_1 := (HB.out.cell (World.block_lt_of_cell? w _ hx309_1)).trans hx309_1
    have HR309_1 := Aside0.mk hi309_1
    have HC309_1 := Aside0.mk hl309_1
    clear hi309_1 hl309_1
    replace p309 := eq_true p309
    replace q309 := eq_true q309
    have p314 : 0 ≤ (1 : Int) := (by omega)
    have q314 : 1 < (l0_1.length : Int) := of_decide_eq_true y23
    obtain ⟨ad314, A314_1, c314_1, e314, hx314_0, hx314_1, hl314_1, hi314_1⟩ := at_T25 HR0_1.out 1 p314 q314
    have hw314_1 := hx314_1
    (try rw [show ((1 : Int)).toNat = 1 from rfl] at hw314_1)
    (try rw [show 1 * 2 = 2 from rfl] at hw314_1)
    (try simp only [Nat.reduceMul, Nat.reduceEqDiff, Go.Addr.add, ↓reduceIte] at hw314_1)
    have hw314_0 := hx314_0
    (try rw [show ((1 : Int)).toNat = 1 from rfl] at hw314_0)
    (try rw [show 1 * 2 = 2 from rfl] at hw314_0)
    (try simp only [Nat.reduceMul, Nat.reduceEqDiff, Go.Addr.add, ↓reduceIte] at hw314_0)
    obtain rfl : ad309 = ad314 := (by injection e314)
    (try simp only [show (1 : Int).toNat = 1 from rfl, Nat.reduceMul, Nat.reduceEqDiff, Go.Addr.add, ↓reduceIte] at hx314_0)
    (try simp only [show (1 : Int).toNat = 1 from rfl, Nat.reduceMul, Nat.reduceEqDiff, Go.Addr.add, ↓reduceIte] at hx314_1)
    have qi314 : (1 < l0_1.length) = True := eq_true (by omega)
    (try rw [show ((1 : Int)).toNat = 1 from rfl] at hx314_0)
    (try rw [show 1 * 2 = 2 from rfl] at hx314_0)
    (try rw [show ((1 : Int)).toNat = 1 from rfl] at hx314_1)
    (try rw [show 1 * 2 = 2 from rfl] at hx314_1)
    replace hx314_0 := (HB.out.cell (World.block_lt_of_cell? w _ hx314_0)).trans hx314_0
    replace hx314_1 := (HB.out.cell (World.block_lt_of_cell? w _ hx314_1)).trans hx314_1
    have HR314_1 := Aside0.mk hi314_1
    have HC314_1 := Aside0.mk hl314_1
    clear hi314_1 hl314_1
    replace p314 := eq_true p314
    replace q314 := eq_true q314
    refine start_ (n := 13) (S := fun w' => w'.cell? ⟨gb307, 0, none⟩ = some (.int .i64 a0_0) ∧ w'.cell? ⟨gb307, 1, none⟩ = some (.slice (some ad309) l0_1.length c0_1) ∧ w'.cell? ad309 = some (.int .i64 ((rd_T25 l0_1 0).f0)) ∧ w'.cell? ⟨ad309.block, ad309.off + 1, none⟩ = some (.slice A309_1 ((rd_T25 l0_1 0).f1).length c309_1) ∧ w'.cell? ⟨ad309.block, ad309.off + 2, none⟩ = some (.int .i64 ((rd_T25 l0_1 1).f0)) ∧ w'.cell? ⟨ad309.block, ad309.off + 2 + 1, none⟩ = some (.slice A314_1 ((rd_T25 l0_1 1).f1).length c314_1)) (ds := []) #[false, false, false, false, false, false, false, false, false, false, false, false, false] (by kernel_rfl) rfl rfl ⟨(blk_cell BK307.out 0).trans rfl, (blk_cell BK307.out 1).trans rfl, ((HB.out.cell (World.block_lt_of_cell? w _ hw309_0)).trans hw309_0), ((HB.out.cell (World.block_lt_of_cell? w _ hw309_1)).trans hw309_1), ((HB.out.cell (World.block_lt_of_cell? w _ hw314_0)).trans hw314_0), ((HB.out.cell (World.block_lt_of_cell? w _ hw314_1)).trans hw314_1)⟩ (fun hHeld => ?_); refine with_tabW impl_valCopy.tab3 impl_valCopy.bits3 (fun HT_ HW_ => ?_)
    generalize w13.drew = w16 at BK307 BK308 HB HR309_1 HR314_1 hx309_0 hx309_1 hx314_0 hx314_1 hHeld ⊢
    refine zp 0 (some 10) HT_ ?_
    refine zp 5 (some 15) HT_ ?_
    refine zt6 1 (some 11) HT_ HW_ hHeld ?_
    refine zp 2 (some 12) HT_ ?_
    refine zt6 3 (some 13) HT_ HW_ hHeld ?_
    refine zt6 6 (some 16) HT_ HW_ hHeld ?_
    refine zp 7 (some 17) HT_ ?_
    refine zt6 8 (some 18) HT_ HW_ hHeld ?_
    refine one_ (i := 4) (N := some 14) #[true, true, true, true, true, true, true, true, true, false, false, false, false] rfl rfl (one_of HT_.out (by kernel_rfl)) (by decide) (fun K hK => ?_)
    refine goes_ Try.func40 (by kernel_rfl) rfl #[.agg #[.int .i64 ((rd_T25 l0_1 0).f0), .slice A309_1 ((rd_T25 l0_1 0).f1).length c309_1]] (by rfl) rfl rfl y8 ?_
    with_reducible refine (ih k (by omega) ((rd_T25 l0_1 0).f0) _ _ ((rd_T25 l0_1 0).f1) t310 t311 _ ?side1 ?side2 A9.out).mono ?_
    (case side1 => exact y15 HR309_1.out HB.out)
    (case side2 => exact HC309_1.out)
    rintro e w17 ⟨v312, rfl, ho0, hb⟩
    refine ⟨_, rfl, ?_⟩
    have HO313 := Aside0.mk (Kd.N_lower (Kd.N_mono (ok' := fun k_ => (w.heap.size ≤ k_) ∧ k_ ≠ gb307 ∧ k_ ≠ gb308) ho0 (fun k_ hk_ => ⟨(Nat.le_trans (below_size (y2 HB.out GE307.out GE308.out)) hk_), (Kd.freshB (g := gb307) (o := .cells #[.int .i64 a0_0, .slice (some ad309) l0_1.length c0_1] 25 (0, 0)) (y0 BK307.out) k_ hk_), (Kd.freshB (g := gb308) (o := .cells #[.int .i64 0, .slice none 0 0] 25 (0, 0)) (y0 BK308.out) k_ hk_)⟩)) (below_size (y2 HB.out GE307.out GE308.out)))
    replace BK307 := zbb BK307 hb
    replace BK308 := zbb BK308 hb
    replace HB := Aside0.mk (below_step (y2 HB.out GE307.out GE308.out) hb)
    (try clear hb)
    (try clear hb2)
    (try clear hk)
    (try clear hi)
    (try clear ho0)
    refine hK.out _ _ ⟨(blk_cell BK307.out 0).trans rfl, (blk_cell BK307.out 1).trans rfl, ((HB.out.cell (World.block_lt_of_cell? w _ hw309_0)).trans hw309_0), ((HB.out.cell (World.block_lt_of_cell? w _ hw309_1)).trans hw309_1), ((HB.out.cell (World.block_lt_of_cell? w _ hw314_0)).trans hw314_0), ((HB.out.cell (World.block_lt_of_cell? w _ hw314_1)).trans hw314_1)⟩ (fun hHeld => ?_)
    clear hK K
    refine norm_ (a' := ?_) ?_ ?_
    rotate_left
    ·show Act.put _ (some 14) _ = _
     simp only [Act.put, List.setIfInBounds_toArray, List.set_cons_zero, List.set_cons_succ, i64_w, i32_w]
     rfl
    refine one_ (i := 9) (N := some 19) #[true, true, true, true, true, true, true, true, true, true, false, false, false] rfl rfl (one_of HT_.out (by kernel_rfl)) (by decide) (fun K hK => ?_)
    refine goes_ Try.func40 (by kernel_rfl) rfl #[.agg #[.int .i64 ((rd_T25 l0_1 1).f0), .slice A314_1 ((rd_T25 l0_1 1).f1).length c314_1]] (by rfl) rfl rfl y8 ?_
    with_reducible refine (ih k (by omega) ((rd_T25 l0_1 1).f0) _ _ ((rd_T25 l0_1 1).f1) t315 t316 _ ?side1 ?side2 A11.out).mono ?_
    (case side1 => exact y15 HR314_1.out HB.out)
    (case side2 => exact HC314_1.out)
    rintro e w18 ⟨v317, rfl, ho0, hb⟩
    refine ⟨_, rfl, ?_⟩
    have HO318 := Aside0.mk (Kd.N_lower (Kd.N_mono (ok' := fun k_ => (w.heap.size ≤ k_) ∧ some k_ ≠ (v312 : Value).ownBlock ∧ k_ ≠ gb307 ∧ k_ ≠ gb308) ho0 (fun k_ hk_ => ⟨(Nat.le_trans (below_size (y2 HB.out GE307.out GE308.out)) hk_), (Kd.fresh' (Kd.N_lt (y3 HO313.out)) k_ hk_), (Kd.freshB (g := gb307) (o := .cells #[.int .i64 a0_0, .slice (some ad309) l0_1.length c0_1] 25 (0, 0)) (y0 BK307.out) k_ hk_), (Kd.freshB (g := gb308) (o := .cells #[.int .i64 0, .slice none 0 0] 25 (0, 0)) (y0 BK308.out) k_ hk_)⟩)) (below_size (y2 HB.out GE307.out GE308.out)))
    replace HO313 := Aside0.mk (Kd.N_elder' (y3 HO313.out) (Kd.N_base ho0) hb)
    replace BK307 := zbb BK307 hb
    replace BK308 := zbb BK308 hb
    replace HB := Aside0.mk (below_step (y2 HB.out GE307.out GE308.out) hb)
    (try clear hb)
    (try clear hb2)
    (try clear hk)
    (try clear hi)
    (try clear ho0)
    obtain ⟨Ao19, co19, eo19⟩ := Kd.N_slice HO313.out
    (first | subst eo19 | (injection eo19 with f1_ f2_ f3_; have f4_ := f1_.symm; have f5_ := f3_.symm; clear f1_ f2_ f3_; subst f4_; subst f5_))
    obtain ⟨Ao20, co20, eo20⟩ := Kd.N_slice HO318.out
    (first | subst eo20 | (injection eo20 with f1_ f2_ f3_; have f4_ := f1_.symm; have f5_ := f3_.symm; clear f1_ f2_ f3_; subst f4_; subst f5_))
    refine hK.out _ _ ⟨(blk_cell BK307.out 0).trans rfl, (blk_cell BK307.out 1).trans rfl, ((HB.out.cell (World.block_lt_of_cell? w _ hw309_0)).trans hw309_0), ((HB.out.cell (World.block_lt_of_cell? w _ hw309_1)).trans hw309_1), ((HB.out.cell (World.block_lt_of_cell? w _ hw314_0)).trans hw314_0), ((HB.out.cell (World.block_lt_of_cell? w _ hw314_1)).trans hw314_1)⟩ (fun hHeld => ?_)
    clear hK K
    refine norm_ (a' := ?_) ?_ ?_
    rotate_left
    ·show Act.put _ (some 19) _ = _
     simp only [Act.put, List.setIfInBounds_toArray, List.set_cons_zero, List.set_cons_succ, i64_w, i32_w]
     rfl
    refine one_ (i := 10) (N := some 20) #[true, true, true, true, true, true, true, true, true, true, true, false, false] rfl rfl (one_of HT_.out (by kernel_rfl)) (by decide) (fun K hK => ?_)
    refine Kd.N_lit_step k25 _ 25 ?hg (N' := 20) ?hd (xs := ([(⟨t310, t311⟩ : S25), (⟨t315, t316⟩ : S25)] : List (S25))) (inner := [.int .i64 t310, .slice Ao19 t311.length co19, .int .i64 t315, .slice Ao20 t316.length co20]) (ok := (fun k_ => (w.heap.size ≤ k_) ∧ k_ ≠ gb307 ∧ k_ ≠ gb308)) (okp := (fun k_ => (w.heap.size ≤ k_) ∧ k_ ≠ gb307 ∧ k_ ≠ gb308)) ?hr ?hp (fun _ hk => hk) ((show ∀ k_, w18.heap.size ≤ k_ → (fun k_ => (w.heap.size ≤ k_) ∧ k_ ≠ gb307 ∧ k_ ≠ gb308) k_ from fun k_ hk => ⟨(Nat.le_trans (below_size (y2 HB.out GE307.out GE308.out)) hk), Kd.freshB (g := gb307) (o := .cells #[.int .i64 a0_0, .slice (some ad309) l0_1.length c0_1] 25 (0, 0)) (y0 BK307.out) k_ hk, Kd.freshB (g := gb308) (o := .cells #[.int .i64 0, .slice none 0 0] 25 (0, 0)) (y0 BK308.out) k_ hk⟩) _ (Nat.le_refl _)) (Below.refl _ _) (Nat.le_refl _) (by simp) ?_; (case hd => rfl); (case hg => rfl); (case hr => first | (go_simp; done) | (go_simp; rfl)); (case hp => exact (Reps.c2 (show Kd.FK k25 _ _ (⟨t310, t311⟩ : S25) [.int .i64 t310, .slice Ao19 t311.length co19] from (k25_mkF _ _ (⟨t310, t311⟩ : S25) (Kd.N_reads' (Kd.N_mono (ok' := (fun k_ => (w.heap.size ≤ k_) ∧ k_ ≠ gb307 ∧ k_ ≠ gb308)) (HO313.out) (fun k_ hk => ⟨hk.1.1, ⟨hk.1.2.1, hk.1.2.2⟩⟩))).2.1 (Kd.N_F (Kd.N_mono (ok' := (fun k_ => (w.heap.size ≤ k_) ∧ k_ ≠ gb307 ∧ k_ ≠ gb308)) (HO313.out) (fun k_ hk => ⟨hk.1.1, ⟨hk.1.2.1, hk.1.2.2⟩⟩))))) (Reps.c2 (show Kd.FK k25 _ _ (⟨t315, t316⟩ : S25) [.int .i64 t315, .slice Ao20 t316.length co20] from (k25_mkF _ _ (⟨t315, t316⟩ : S25) (Kd.N_reads' (Kd.N_mono (ok' := (fun k_ => (w.heap.size ≤ k_) ∧ k_ ≠ gb307 ∧ k_ ≠ gb308)) (HO318.out) (fun k_ hk => ⟨hk.1, ⟨hk.2.2.1, hk.2.2.2⟩⟩))).2.1 (Kd.N_F (Kd.N_mono (ok' := (fun k_ => (w.heap.size ≤ k_) ∧ k_ ≠ gb307 ∧ k_ ≠ gb308)) (HO318.out) (fun k_ hk => ⟨hk.1, ⟨hk.2.2.1, hk.2.2.2⟩⟩))))) (Reps.none _ _))))
    intro v320 w21 ho22 hb hg_ hnew_
    clear hg_ hnew_
    (first | rw [← Ny319.out] at ho22 | (simp only [Int.reduceToNat] at ho22; rw [← Ny319.out] at ho22))
    have HO321 := Aside0.mk (Kd.N_lower ho22 (below_size (y2 HB.out GE307.out GE308.out)))
    replace BK307 := zbb BK307 hb
    replace BK308 := zbb BK308 hb
    replace HB := Aside0.mk (below_step (y2 HB.out GE307.out GE308.out) hb)
    clear HO313 HO318
    clear hb ho22
    obtain ⟨Ao23, co23, eo23⟩ := Kd.N_slice HO321.out
    (first | subst eo23 | (injection eo23 with f1_ f2_ f3_; have f4_ := f1_.symm; have f5_ := f3_.symm; clear f1_ f2_ f3_; subst f4_; subst f5_))
    refine hK.out _ _ ⟨(blk_cell BK307.out 0).trans rfl, (blk_cell BK307.out 1).trans rfl, ((HB.out.cell (World.block_lt_of_cell? w _ hw309_0)).trans hw309_0), ((HB.out.cell (World.block_lt_of_cell? w _ hw309_1)).trans hw309_1), ((HB.out.cell (World.block_lt_of_cell? w _ hw314_0)).trans hw314_0), ((HB.out.cell (World.block_lt_of_cell? w _ hw314_1)).trans hw314_1)⟩ (fun hHeld => ?_)
    clear hK K
    refine norm_ (a' := ?_) ?_ ?_
    rotate_left
    ·show Act.put _ (some 20) _ = _
     simp only [Act.put, List.setIfInBounds_toArray, List.set_cons_zero, List.set_cons_succ, i64_w, i32_w]
     rfl
    refine zp 11 (some 21) HT_ ?_
    refine one_ (i := 12) (N := none) #[true, true, true, true, true, true, true, true, true, true, true, true, true] rfl rfl (one_of HT_.out (by kernel_rfl)) (by decide) (fun K hK => ?_)
    have hs24 : w21.cell? ⟨gb308, 0, none⟩ = some (.int .i64 0) := (blk_cell BK308.out 0).trans rfl
    have hfs24 := zfr BK308 0
    have hns24_0 := NB307_308.out
    have hms24_0 := NB308_307.out
    have hs25 : w21.cell? ⟨gb308, 1, none⟩ = some (.slice none 0 0) := (blk_cell BK308.out 1).trans rfl
    have hfs25 := zfr BK308 1
    have hns25_0 := NB307_308.out
    have hms25_0 := NB308_307.out
    refine skip_ (w1 := ?_) (by rfl) rfl ?_ ?_
    rotate_left
    ·go_simp
     rfl
    refine hK.out _ _ ⟨((cell_far (p := ⟨gb308, _, none⟩) NB307_308.out _).trans (((cell_far (p := ⟨gb308, _, none⟩) NB307_308.out _).trans (hHeld.1)))), ((cell_far (p := ⟨gb308, _, none⟩) NB307_308.out _).trans (((cell_far (p := ⟨gb308, _, none⟩) NB307_308.out _).trans (hHeld.2.1)))), ((cell_far (p := ⟨gb308, _, none⟩) (by first | exact Nat.ne_of_lt (Nat.lt_of_lt_of_le (by have := World.block_lt_of_cell? _ _ hw309_0; first | rwa [add_block] at this | exact this) GW308.out) | (rw [add_block]; exact Nat.ne_of_lt (Nat.lt_of_lt_of_le (by have := World.block_lt_of_cell? _ _ hw309_0; first | rwa [add_block] at this | exact this) GW308.out)) | (show (Addr.add _ _).block ≠ _; rw [add_block]; exact Nat.ne_of_lt (Nat.lt_of_lt_of_le (by have := World.block_lt_of_cell? _ _ hw309_0; first | rwa [add_block] at this | exact this) GW308.out)) | (dsimp only; exact Nat.ne_of_lt (Nat.lt_of_lt_of_le (by have := World.block_lt_of_cell? _ _ hw309_0; first | rwa [add_block] at this | exact this) GW308.out))) _).trans (((cell_far (p := ⟨gb308, _, none⟩) (by first | exact Nat.ne_of_lt (Nat.lt_of_lt_of_le (by have := World.block_lt_of_cell? _ _ hw309_0; first | rwa [add_block] at this | exact this) GW308.out) | (rw [add_block]; exact Nat.ne_of_lt (Nat.lt_of_lt_of_le (by have := World.block_lt_of_cell? _ _ hw309_0; first | rwa [add_block] at this | exact this) GW308.out)) | (show (Addr.add _ _).block ≠ _; rw [add_block]; exact Nat.ne_of_lt (Nat.lt_of_lt_of_le (by have := World.block_lt_of_cell? _ _ hw309_0; first | rwa [add_block] at this | exact this) GW308.out)) | (dsimp only; exact Nat.ne_of_lt (Nat.lt_of_lt_of_le (by have := World.block_lt_of_cell? _ _ hw309_0; first | rwa [add_block] at this | exact this) GW308.out))) _).trans (hHeld.2.2.1)))), ((cell_far (p := ⟨gb308, _, none⟩) (by first | exact Nat.ne_of_lt (Nat.lt_of_lt_of_le (by have := World.block_lt_of_cell? _ _ hw309_1; first | rwa [add_block] at this | exact this) GW308.out) | (rw [add_block]; exact Nat.ne_of_lt (Nat.lt_of_lt_of_le (by have := World.block_lt_of_cell? _ _ hw309_1; first | rwa [add_block] at this | exact this) GW308.out)) | (show (Addr.add _ _).block ≠ _; rw [add_block]; exact Nat.ne_of_lt (Nat.lt_of_lt_of_le (by have := World.block_lt_of_cell? _ _ hw309_1; first | rwa [add_block] at this | exact this) GW308.out)) | (dsimp only; exact Nat.ne_of_lt (Nat.lt_of_lt_of_le (by have := World.block_lt_of_cell? _ _ hw309_1; first | rwa [add_block] at this | exact this) GW308.out))) _).trans (((cell_far (p := ⟨gb308, _, none⟩) (by first | exact Nat.ne_of_lt (Nat.lt_of_lt_of_le (by have := World.block_lt_of_cell? _ _ hw309_1; first | rwa [add_block] at this | exact this) GW308.out) | (rw [add_block]; exact Nat.ne_of_lt (Nat.lt_of_lt_of_le (by have := World.block_lt_of_cell? _ _ hw309_1; first | rwa [add_block] at this | exact this) GW308.out)) | (show (Addr.add _ _).block ≠ _; rw [add_block]; exact Nat.ne_of_lt (Nat.lt_of_lt_of_le (by have := World.block_lt_of_cell? _ _ hw309_1; first | rwa [add_block] at this | exact this) GW308.out)) | (dsimp only; exact Nat.ne_of_lt (Nat.lt_of_lt_of_le (by have := World.block_lt_of_cell? _ _ hw309_1; first | rwa [add_block] at this | exact this) GW308.out))) _).trans (hHeld.2.2.2.1)))), ((cell_far (p := ⟨gb308, _, none⟩) (by first | exact Nat.ne_of_lt (Nat.lt_of_lt_of_le (by have := World.block_lt_of_cell? _ _ hw314_0; first | rwa [add_block] at this | exact this) GW308.out) | (rw [add_block]; exact Nat.ne_of_lt (Nat.lt_of_lt_of_le (by have := World.block_lt_of_cell? _ _ hw314_0; first | rwa [add_block] at this | exact this) GW308.out)) | (show (Addr.add _ _).block ≠ _; rw [add_block]; exact Nat.ne_of_lt (Nat.lt_of_lt_of_le (by have := World.block_lt_of_cell? _ _ hw314_0; first | rwa [add_block] at this | exact this) GW308.out)) | (dsimp only; exact Nat.ne_of_lt (Nat.lt_of_lt_of_le (by have := World.block_lt_of_cell? _ _ hw314_0; first | rwa [add_block] at this | exact this) GW308.out))) _).trans (((cell_far (p := ⟨gb308, _, none⟩) (by first | exact Nat.ne_of_lt (Nat.lt_of_lt_of_le (by have := World.block_lt_of_cell? _ _ hw314_0; first | rwa [add_block] at this | exact this) GW308.out) | (rw [add_block]; exact Nat.ne_of_lt (Nat.lt_of_lt_of_le (by have := World.block_lt_of_cell? _ _ hw314_0; first | rwa [add_block] at this | exact this) GW308.out)) | (show (Addr.add _ _).block ≠ _; rw [add_block]; exact Nat.ne_of_lt (Nat.lt_of_lt_of_le (by have := World.block_lt_of_cell? _ _ hw314_0; first | rwa [add_block] at this | exact this) GW308.out)) | (dsimp only; exact Nat.ne_of_lt (Nat.lt_of_lt_of_le (by have := World.block_lt_of_cell? _ _ hw314_0; first | rwa [add_block] at this | exact this) GW308.out))) _).trans (hHeld.2.2.2.2.1)))), ((cell_far (p := ⟨gb308, _, none⟩) (by first | exact Nat.ne_of_lt (Nat.lt_of_lt_of_le (by have := World.block_lt_of_cell? _ _ hw314_1; first | rwa [add_block] at this | exact this) GW308.out) | (rw [add_block]; exact Nat.ne_of_lt (Nat.lt_of_lt_of_le (by have := World.block_lt_of_cell? _ _ hw314_1; first | rwa [add_block] at this | exact this) GW308.out)) | (show (Addr.add _ _).block ≠ _; rw [add_block]; exact Nat.ne_of_lt (Nat.lt_of_lt_of_le (by have := World.block_lt_of_cell? _ _ hw314_1; first | rwa [add_block] at this | exact this) GW308.out)) | (dsimp only; exact Nat.ne_of_lt (Nat.lt_of_lt_of_le (by have := World.block_lt_of_cell? _ _ hw314_1; first | rwa [add_block] at this | exact this) GW308.out))) _).trans (((cell_far (p := ⟨gb308, _, none⟩) (by first | exact Nat.ne_of_lt (Nat.lt_of_lt_of_le (by have := World.block_lt_of_cell? _ _ hw314_1; first | rwa [add_block] at this | exact this) GW308.out) | (rw [add_block]; exact Nat.ne_of_lt (Nat.lt_of_lt_of_le (by have := World.block_lt_of_cell? _ _ hw314_1; first | rwa [add_block] at this | exact this) GW308.out)) | (show (Addr.add _ _).block ≠ _; rw [add_block]; exact Nat.ne_of_lt (Nat.lt_of_lt_of_le (by have := World.block_lt_of_cell? _ _ hw314_1; first | rwa [add_block] at this | exact this) GW308.out)) | (dsimp only; exact Nat.ne_of_lt (Nat.lt_of_lt_of_le (by have := World.block_lt_of_cell? _ _ hw314_1; first | rwa [add_block] at this | exact this) GW308.out))) _).trans (hHeld.2.2.2.2.2))))⟩ (fun hHeld => ?_)
    clear hK K
    refine done_ (done_of HT_.out (by kernel_rfl)) ?_
    try go_wp2
    refine bodyPost_ret (results_cell_row rfl _ _ gb308 25 #[.int .i64 0, .slice Ao23 y319.length co23] (0, 0) _ rfl (by (with_reducible repeat (first | refine blk_drewN ?_ _ | refine blk_drew ?_ | refine blk_alloc ?_ _)); refine blk_put (cs := #[.int .i64 0, .slice none 0 0]) ?_ 1 _ rfl; (with_reducible repeat (first | refine blk_drewN ?_ _ | refine blk_drew ?_ | refine blk_alloc ?_ _)); apply blk_put (i := 0); (case h => exact y0 BK308.out); (case e => rfl)) Try.underlying25 rfl (by kernel_rfl)) rfl ?_
    exact ⟨_, y19, (by (with_reducible repeat (first | apply Kd.N_alloc | apply Kd.N_drewN | apply Kd.N_drew)); exact Kd.N_mono (Kd.N_far (p := ⟨gb308, 1, none⟩) (Kd.N_far (p := ⟨gb308, 0, none⟩) (Kd.N_mono HO321.out (fun k_ hk => (⟨hk, hk.2.2⟩ : _ ∧ k_ ≠ gb308))) (fun _ hk => hk.2) (.int .i64 0)) (fun _ hk => hk.2) (.slice Ao23 y319.length co23)) (fun _ hk => hk.1.1)), (y2 HB.out GE307.out GE308.out)⟩
   ·rw [if_neg c10] at H
    exact absurd H (by simp)
  ·rw [if_neg c8] at H
   exact absurd H (by simp)
end Go.Proofs.Ythfflieeifakdaa.PA
end
section
namespace Go.Proofs.Ythfflieeifakdaa.PA
open Go.RowKit Go.Proofs.YthfflieeifakdaaW.PrintWords Go.Proofs.YthfflieeifakdaaW.PrintLast Go.Proofs.YthfflieeifakdaaW.PrintMore
attribute [local go_sem] max2_int min2_int max_two min_two max_three min_three max_four min_four
set_option linter.unusedVariables false
set_option linter.unusedSimpArgs false
def impl_ValAt.f (k : Nat) (a0_0 : Int) (l0_1 : List (S25)) (l1 : List Int) : Option (Int × (List (S25)) × Bool) := (impl_valTyped.f k a0_0 l0_1).bind fun bt324 => (if bt324.2 = true then ((impl_Val.f k a0_0 l0_1 l1).bind fun bt329 => (if bt329.2.2 = true then ((impl_valCopy.f k bt329.1 bt329.2.1).bind fun bt335 => (some (bt335.1, bt335.2, true))) else (some (0, ([] : List (S25)), false)))) else (some (0, ([] : List (S25)), false)))
theorem impl_ValAt.mono : ∀ a0 a1 a2 k, LeO (impl_ValAt.f k a0 a1 a2) (impl_ValAt.f (k + 1) a0 a1 a2) := by
 intro a0 a1 a2 k
 unfold impl_ValAt.f
 repeat' first
   | (with_reducible exact impl_Val.mono _ _ _ _)
   | (with_reducible exact impl_valCopy.mono _ _ _)
   | (with_reducible exact impl_valTyped.mono _ _ _)
   | (with_reducible exact LeO.refl _)
   | (with_reducible exact LeO.none _)
   | (with_reducible refine LeO.ite ?_ ?_)
   | (with_reducible refine LeO.bind ?_ (fun _ => ?_))
   | exact impl_Val.mono _ _ _ _
   | exact impl_valCopy.mono _ _ _
   | exact impl_valTyped.mono _ _ _
   | exact LeO.none _
   | refine LeO.ite ?_ ?_
   | refine LeO.bind ?_ (fun _ => ?_)
set_option maxHeartbeats 8000000 in
set_option maxRecDepth 100000 in
theorem impl_ValAt.calls (k : Nat) (a0_0 : Int) (P0_1_ : Nat → Prop) (A0_1 : Option Addr) (c0_1 : Nat) (l0_1 : List (S25)) (A1 : Option Addr) (c1 : Nat) (l1 : List Int) (r1 : Int) (r2 : List (S25)) (r3 : Bool) (w : World) (hs0_1 : Kd.V k25 25 w w.heap.size (fun k_ => P0_1_ k_) (.slice A0_1 l0_1.length c0_1) l0_1) (hr1 : Kd.C (Kd.int .i64) w A1 l1.length l1) (hc1 : l1.length ≤ c1) (h : impl_ValAt.f k a0_0 l0_1 l1 = some (r1, r2, r3)) :
  Calls Try.prog 14 #[.agg #[.int .i64 a0_0, .slice A0_1 l0_1.length c0_1], .slice A1 l1.length c1] w fun e w' => ∃ v1_ : Value, e = .returned (.tuple #[.agg #[.int .i64 r1, v1_], .bool r3]) ∧ Kd.N k25 25 w' w.heap.size (fun k_ => (P0_1_ k_ ∨ w.heap.size ≤ k_)) v1_ r2 ∧ Below w.heap.size w w' := by
 have hu25 := Try.underlying25
 have hu50 := Try.underlying50
 have HO0_1 := Aside0.mk (show Kd.V k25 25 w w.heap.size (fun k_ => (P0_1_ k_ ∨ w.heap.size ≤ k_)) (.slice A0_1 l0_1.length c0_1) l0_1 from Kd.V_mono hs0_1 (fun k_ hk => .inl hk))
 have HR1 := Aside0.mk hr1
 have HC1 := Aside0.mk hc1
 clear hr1 hc1
 have HB := Aside0.mk (Below.refl w.heap.size w)
 have H : ((impl_valTyped.f k a0_0 l0_1).bind fun bt324 => (if bt324.2 = true then ((impl_Val.f k a0_0 l0_1 l1).bind fun bt329 => (if bt329.2.2 = true then ((impl_valCopy.f k bt329.1 bt329.2.1).bind fun bt335 => (some (bt335.1, bt335.2, true))) else (some (0, ([] : List (S25)), false)))) else (some (0, ([] : List (S25)), false)))) = some (r1, r2, r3) := h
 clear h
 obtain ⟨⟨t324, t327⟩, A30, H⟩ := ob H
 have A3 := Aside0.mk A30
 clear A30
 by_cases c4 : t327 = true
 ·subst c4
  rw [if_pos rfl] at H
  obtain ⟨⟨t329, t330, t333⟩, A50, H⟩ := ob H
  have A5 := Aside0.mk A50
  clear A50
  by_cases c6 : t333 = true
  ·subst c6
   rw [if_pos rfl] at H
   obtain ⟨⟨t335, t336⟩, A70, H⟩ := ob H
   have A7 := Aside0.mk A70
   clear A70
   simp only [Option.some.injEq, Prod.mk.injEq] at H
   obtain ⟨rfl, rfl, rfl⟩ := H
   go_enter Try.func14, Try.ntmps14
   go_wp2_with (first | ((with_reducible refine gate_dst (N := 2) rfl ?_); refine zbx 2 #[.int .i64 a0_0, .slice A0_1 l0_1.length c0_1] 25 ?_; intro gb322 hg w8 hbox hb; replace HO0_1 := Aside0.mk (Kd.V_below (Kd.V_elderB (y10 HO0_1.out) gb322 (Nat.le_of_eq hg.symm)) hb); have BK322 := Aside0.mk hbox; have GW322 := Aside0.mk ((y9 hg HB.out : w.heap.size ≤ gb322)); have GE322 := Aside0.mk ((y9 hg HB.out : w.heap.size ≤ gb322)); replace HB := Aside0.mk (below_step (y5 HB.out) hb); clear hb hbox hg) | ((with_reducible refine gate_dst (N := 4) rfl ?_); refine zbx 4 #[.int .i64 0, .slice none 0 0] 25 ?_; intro gb323 hg w9 hbox hb; replace HO0_1 := Aside0.mk (Kd.V_below (Kd.V_elderB (y10 HO0_1.out) gb323 (Nat.le_of_eq hg.symm)) hb); have BK323 := Aside0.mk hbox; have GW323 := Aside0.mk ((y11 hg HB.out GE322.out : w.heap.size ≤ gb323)); have GE323 := Aside0.mk ((y11 hg HB.out GE322.out : w.heap.size ≤ gb323)); replace HB := Aside0.mk (below_step (y6 HB.out GE322.out) hb); have NB322_323 := zltn hg BK322; have NB323_322 := zgtn hg BK322; replace BK322 := zbb BK322 hb; clear hb hbox hg; have hnb10 := NB322_323.out; have hnc10 := NB323_322.out; have hcz11_0 := zh BK322; have hcz11_1 := zh1 BK322; have hfz11_0 := zfr BK322 0; have hfz11_1 := zfr BK322 1) | ((with_reducible refine gate_callee (f := 38) rfl ?_); refine goesL_ (some 12) rfl rfl Try.func38 (by kernel_rfl) rfl #[.agg #[.int .i64 a0_0, .slice A0_1 l0_1.length c0_1]] rfl y8 ?_; (with_reducible refine (impl_valTyped.calls k a0_0 _ _ l0_1 t324 true _ ?side1 ?side2 A3.out).mono ?_); (case side1 => exact y35 HO0_1.out); (case side2 => exact (Kd.V_reads' HO0_1.out).2.1); rintro e w12 ⟨v325, rfl, ho0, hb⟩; refine ⟨_, rfl, ?_⟩; replace HO0_1 := Aside0.mk (Kd.V_elder' (y10 HO0_1.out) (Kd.N_base ho0) hb); have HO326 := Aside0.mk (Kd.N_lower (Kd.N_mono (ok' := fun k_ => (P0_1_ k_ ∨ w.heap.size ≤ k_) ∧ k_ ≠ gb322 ∧ k_ ≠ gb323) ho0 (fun k_ hk_ => ⟨(.inr (Nat.le_trans (below_size (y2 HB.out GE322.out GE323.out)) hk_)), (Kd.freshB (g := gb322) (o := .cells #[.int .i64 a0_0, .slice A0_1 l0_1.length c0_1] 25 (0, 0)) (y0 BK322.out) k_ hk_), (Kd.freshB (g := gb323) (o := .cells #[.int .i64 0, .slice none 0 0] 25 (0, 0)) (y0 BK323.out) k_ hk_)⟩)) (below_size (y2 HB.out GE322.out GE323.out))); replace BK322 := zbb BK322 hb; replace BK323 := zbb BK323 hb; replace HB := Aside0.mk (below_step (y2 HB.out GE322.out GE323.out) hb); (try clear hb); (try clear hb2); (try clear hk); (try clear hi); (try clear ho0)) | ((with_reducible refine gate_dst (N := 6) rfl ?_); refine zbx 6 #[.slice none 0 0] 50 ?_; intro gb328 hg w13 hbox hb; replace HO0_1 := Aside0.mk (Kd.V_below (Kd.V_elderB (y10 HO0_1.out) gb328 (Nat.le_of_eq hg.symm)) hb); replace HO326 := Aside0.mk (Kd.N_below (Kd.N_elderB (y3 HO326.out) gb328 (Nat.le_of_eq hg.symm)) hb); have BK328 := Aside0.mk hbox; have GW328 := Aside0.mk ((y16 hg HB.out GE322.out GE323.out : w.heap.size ≤ gb328)); have GE328 := Aside0.mk ((y16 hg HB.out GE322.out GE323.out : w.heap.size ≤ gb328)); replace HB := Aside0.mk (below_step (y2 HB.out GE322.out GE323.out) hb); have NB322_328 := zltn hg BK322; have NB328_322 := zgtn hg BK322; replace BK322 := zbb BK322 hb; have NB323_328 := zltn hg BK323; have NB328_323 := zgtn hg BK323; replace BK323 := zbb BK323 hb; clear hb hbox hg; obtain ⟨Ao14, co14, eo14⟩ := Kd.N_slice HO326.out; subst eo14; have hnb15 := NB328_322.out; have hnc15 := NB322_328.out; have hnb16 := NB328_323.out; have hnc16 := NB323_328.out; have hcz17_0 := zh BK328; have hfz17_0 := zfr BK328 0) | ((with_reducible refine gate_store (t := 50) (p := 6) rfl ?_); refine store_event (t := 50) (p := 6) (v := ?vo_w18) (w1 := (w13.setCell ⟨gb328, 0, none⟩ (.slice Ao14 t324.length co14))) ?hg ?ho ?hn ?hr ?_; (case ho => rfl); (case hg => rfl); (case hn => rfl); (case hr => first | (go_simp; done) | (go_simp; rfl)); intro w18 hw; have n0_ : Aside0 (Kd.V k25 25 w18 w.heap.size (fun k_ => (P0_1_ k_ ∨ w.heap.size ≤ k_) ∧ some k_ ≠ (.slice Ao14 t324.length co14 : Value).ownBlock ∧ k_ ≠ gb322 ∧ k_ ≠ gb323 ∧ k_ ≠ gb328) (.slice A0_1 l0_1.length c0_1) l0_1) := ⟨(by rw [hw]; exact (by (with_reducible repeat (first | apply Kd.V_alloc | apply Kd.V_drewN | apply Kd.V_drew)); exact Kd.V_mono (Kd.V_far (p := ⟨gb328, 0, none⟩) (Kd.V_mono HO0_1.out (fun k_ hk => (⟨hk, hk.2⟩ : _ ∧ k_ ≠ gb328))) (fun _ hk => hk.2) (.slice Ao14 t324.length co14)) (fun _ hk => ⟨hk.1.1.1.1.1, ⟨hk.1.1.2, ⟨hk.1.1.1.1.2, ⟨hk.1.1.1.2, hk.1.2⟩⟩⟩⟩)))⟩; have n1_ : Aside0 (Kd.N k50 50 w18 w.heap.size (fun k_ => (P0_1_ k_ ∨ w.heap.size ≤ k_) ∧ k_ ≠ gb322 ∧ k_ ≠ gb323 ∧ k_ ≠ gb328) (.slice Ao14 t324.length co14) t324) := ⟨(by rw [hw]; exact (by (with_reducible repeat (first | apply Kd.N_alloc | apply Kd.N_drewN | apply Kd.N_drew)); exact Kd.N_mono (Kd.N_far (p := ⟨gb328, 0, none⟩) (Kd.N_mono HO326.out (fun k_ hk => (⟨hk, hk.2⟩ : _ ∧ k_ ≠ gb328))) (fun _ hk => hk.2) (.slice Ao14 t324.length co14)) (fun _ hk => ⟨hk.1.1.1, ⟨hk.1.1.2.1, ⟨hk.1.1.2.2, hk.1.2⟩⟩⟩)))⟩; have n2_ : Aside0 (w18.heap[gb322]? = some (.cells #[.int .i64 a0_0, .slice A0_1 l0_1.length c0_1] 25 (0, 0))) := ⟨(by rw [hw]; exact (y13 NB322_328.out BK322.out))⟩; have n3_ : Aside0 (w18.heap[gb323]? = some (.cells #[.int .i64 0, .slice none 0 0] 25 (0, 0))) := ⟨(by rw [hw]; exact (y13 NB323_328.out BK323.out))⟩; have n4_ : Aside0 (w18.heap[gb328]? = some (.cells #[.slice Ao14 t324.length co14] 50 (0, 0))) := ⟨(by rw [hw]; exact (by (with_reducible repeat (first | refine blk_drewN ?_ _ | refine blk_drew ?_ | refine blk_alloc ?_ _)); apply blk_put (i := 0); (case h => exact y0 BK328.out); (case e => rfl)))⟩; have n5_ : Aside0 (Below w.heap.size w w18) := ⟨(by rw [hw]; exact (y4 HB.out GE322.out GE323.out GE328.out))⟩; clear hw; clear HO0_1; clear HO326; clear BK322; clear BK323; clear BK328; clear HB; have HO0_1 := n0_; have HO326 := n1_; have BK322 := n2_; have BK323 := n3_; have BK328 := n4_; have HB := n5_; clear n0_ n1_ n2_ n3_ n4_ n5_; have hcz19_0 := zh BK322; have hcz19_1 := zh1 BK322; have hfz19_0 := zfr BK322 0; have hfz19_1 := zfr BK322 1) | ((with_reducible refine gate_callee (f := 39) rfl ?_); refine goesL_ (some 21) rfl rfl Try.func39 (by kernel_rfl) rfl #[.agg #[.int .i64 a0_0, .slice A0_1 l0_1.length c0_1], .slice A1 l1.length c1] rfl y8 ?_; (with_reducible refine (impl_Val.calls k a0_0 (fun k_ => ((P0_1_ k_ ∨ w.heap.size ≤ k_) ∧ (some k_ ≠ (.slice Ao14 t324.length co14 : Value).ownBlock ∧ (k_ ≠ gb322 ∧ (k_ ≠ gb323 ∧ k_ ≠ gb328))))) _ _ l0_1 _ _ l1 t329 t330 true _ ?side1 ?side2 ?side3 A5.out).mono ?_); (case side1 => exact HO0_1.out); (case side2 => exact y15 HR1.out HB.out); (case side3 => exact HC1.out); rintro e w20 ⟨v331, rfl, ho0, hb⟩; refine ⟨_, rfl, ?_⟩; replace HO0_1 := Aside0.mk (Kd.V_below (y10 HO0_1.out) hb); have HO332 := Aside0.mk (Kd.V_lower (Kd.V_mono (ok' := fun k_ => (P0_1_ k_ ∨ w.heap.size ≤ k_) ∧ some k_ ≠ (.slice Ao14 t324.length co14 : Value).ownBlock ∧ k_ ≠ gb322 ∧ k_ ≠ gb323 ∧ k_ ≠ gb328) ho0 (fun k_ hk_ => ⟨Or.elim hk_ (fun hs_ => hs_.1) (fun hn_ => (.inr (Nat.le_trans (below_size (y4 HB.out GE322.out GE323.out GE328.out)) hn_))), Or.elim hk_ (fun hs_ => hs_.2.1) (fun hn_ => (Kd.fresh' (Kd.N_lt (y3 HO326.out)) k_ hn_)), Or.elim hk_ (fun hs_ => hs_.2.2.1) (fun hn_ => (Kd.freshB (g := gb322) (o := .cells #[.int .i64 a0_0, .slice A0_1 l0_1.length c0_1] 25 (0, 0)) (y0 BK322.out) k_ hn_)), Or.elim hk_ (fun hs_ => hs_.2.2.2.1) (fun hn_ => (Kd.freshB (g := gb323) (o := .cells #[.int .i64 0, .slice none 0 0] 25 (0, 0)) (y0 BK323.out) k_ hn_)), Or.elim hk_ (fun hs_ => hs_.2.2.2.2) (fun hn_ => (Kd.freshB (g := gb328) (o := .cells #[.slice Ao14 t324.length co14] 50 (0, 0)) (y0 BK328.out) k_ hn_))⟩)) (below_size (y4 HB.out GE322.out GE323.out GE328.out))); replace HO326 := Aside0.mk (Kd.N_below (y3 HO326.out) hb); replace BK322 := zbb BK322 hb; replace BK323 := zbb BK323 hb; replace BK328 := zbb BK328 hb; replace HB := Aside0.mk (below_step (y4 HB.out GE322.out GE323.out GE328.out) hb); (try clear hb); (try clear hb2); (try clear hk); (try clear hi); (try clear ho0)) | ((with_reducible refine gate_dst (N := 8) rfl ?_); refine zbx 8 #[.int .i64 0, .slice none 0 0] 25 ?_; intro gb334 hg w21 hbox hb; replace HO0_1 := Aside0.mk (Kd.V_below (Kd.V_elderB (y10 HO0_1.out) gb334 (Nat.le_of_eq hg.symm)) hb); replace HO326 := Aside0.mk (Kd.N_below (Kd.N_elderB (y3 HO326.out) gb334 (Nat.le_of_eq hg.symm)) hb); replace HO332 := Aside0.mk (Kd.V_below (Kd.V_elderB (y10 HO332.out) gb334 (Nat.le_of_eq hg.symm)) hb); have BK334 := Aside0.mk hbox; have GW334 := Aside0.mk ((y22 hg HB.out GE322.out GE323.out GE328.out : w.heap.size ≤ gb334)); have GE334 := Aside0.mk ((y22 hg HB.out GE322.out GE323.out GE328.out : w.heap.size ≤ gb334)); replace HB := Aside0.mk (below_step (y4 HB.out GE322.out GE323.out GE328.out) hb); have NB322_334 := zltn hg BK322; have NB334_322 := zgtn hg BK322; replace BK322 := zbb BK322 hb; have NB323_334 := zltn hg BK323; have NB334_323 := zgtn hg BK323; replace BK323 := zbb BK323 hb; have NB328_334 := zltn hg BK328; have NB334_328 := zgtn hg BK328; replace BK328 := zbb BK328 hb; clear hb hbox hg; have hnb22 := NB334_322.out; have hnc22 := NB322_334.out; have hnb23 := NB334_323.out; have hnc23 := NB323_334.out; have hnb24 := NB334_328.out; have hnc24 := NB328_334.out; have hcz25_0 := zh BK334; have hcz25_1 := zh1 BK334; have hfz25_0 := zfr BK334 0; have hfz25_1 := zfr BK334 1; obtain ⟨Ao26, co26, eo26⟩ := Kd.V_slice HO332.out; subst eo26) | ((with_reducible refine gate_callee (f := 40) rfl ?_); refine goesL_ (some 28) rfl rfl Try.func40 (by kernel_rfl) rfl #[.agg #[.int .i64 t329, .slice Ao26 t330.length co26]] rfl y8 ?_; (with_reducible refine (impl_valCopy.calls k t329 _ _ t330 t335 t336 _ ?side1 ?side2 A7.out).mono ?_); (case side1 => refine (Kd.V_reads' (e := 25) (base := w.heap.size) (ok := fun k_ => (((P0_1_ k_ ∨ w.heap.size ≤ k_) ∧ (some k_ ≠ (.slice Ao14 t324.length co14 : Value).ownBlock ∧ (k_ ≠ gb322 ∧ (k_ ≠ gb323 ∧ k_ ≠ gb328)))) ∧ k_ ≠ gb334)) (n := t330.length) (c := co26) ?_).2.2; exact (by (with_reducible repeat (first | apply Kd.V_alloc | apply Kd.V_drewN | apply Kd.V_drew)); exact (Kd.V_mono (Kd.V_far (p := ⟨gb334, 1, none⟩) (Kd.V_far (p := ⟨gb334, 0, none⟩) (Kd.V_mono HO332.out (fun k_ hk => (⟨hk, hk.2⟩ : _ ∧ k_ ≠ gb334))) (fun _ hk => hk.2) (.int .i64 t329)) (fun _ hk => hk.2) (.slice Ao26 t330.length co26)) (fun _ h_ => h_.1)))); (case side2 => exact (Kd.V_reads' HO332.out).2.1); rintro e w27 ⟨v337, rfl, ho0, hb⟩; refine ⟨_, rfl, ?_⟩; replace HO0_1 := Aside0.mk (Kd.V_elder' (by (with_reducible repeat (first | apply Kd.V_alloc | apply Kd.V_drewN | apply Kd.V_drew)); exact (Kd.V_mono (Kd.V_far (p := ⟨gb334, 1, none⟩) (Kd.V_far (p := ⟨gb334, 0, none⟩) (Kd.V_mono HO0_1.out (fun k_ hk => (⟨hk, hk.2⟩ : _ ∧ k_ ≠ gb334))) (fun _ hk => hk.2) (.int .i64 t329)) (fun _ hk => hk.2) (.slice Ao26 t330.length co26)) (fun _ h_ => h_.1))) (Kd.N_base ho0) hb); replace HO332 := Aside0.mk (Kd.V_elder' (by (with_reducible repeat (first | apply Kd.V_alloc | apply Kd.V_drewN | apply Kd.V_drew)); exact (Kd.V_mono (Kd.V_far (p := ⟨gb334, 1, none⟩) (Kd.V_far (p := ⟨gb334, 0, none⟩) (Kd.V_mono HO332.out (fun k_ hk => (⟨hk, hk.2⟩ : _ ∧ k_ ≠ gb334))) (fun _ hk => hk.2) (.int .i64 t329)) (fun _ hk => hk.2) (.slice Ao26 t330.length co26)) (fun _ h_ => h_.1))) (Kd.N_base ho0) hb); have HO338 := Aside0.mk (Kd.N_lower (Kd.N_mono (ok' := fun k_ => (P0_1_ k_ ∨ w.heap.size ≤ k_) ∧ some k_ ≠ (.slice Ao14 t324.length co14 : Value).ownBlock ∧ k_ ≠ gb322 ∧ k_ ≠ gb323 ∧ k_ ≠ gb328 ∧ k_ ≠ gb334) ho0 (fun k_ hk_ => ⟨(.inr (Nat.le_trans (below_size (y7 HB.out GE322.out GE323.out GE328.out GE334.out)) hk_)), (Kd.fresh' (Kd.N_lt (by (with_reducible repeat (first | apply Kd.N_alloc | apply Kd.N_drewN | apply Kd.N_drew)); exact (Kd.N_mono (Kd.N_far (p := ⟨gb334, 1, none⟩) (Kd.N_far (p := ⟨gb334, 0, none⟩) (Kd.N_mono HO326.out (fun k_ hk => (⟨hk, hk.2⟩ : _ ∧ k_ ≠ gb334))) (fun _ hk => hk.2) (.int .i64 t329)) (fun _ hk => hk.2) (.slice Ao26 t330.length co26)) (fun _ h_ => h_.1)))) k_ hk_), (Kd.freshB (g := gb322) (o := .cells #[.int .i64 a0_0, .slice A0_1 l0_1.length c0_1] 25 (0, 0)) (y1 NB322_334.out BK322.out) k_ hk_), (Kd.freshB (g := gb323) (o := .cells #[.int .i64 0, .slice none 0 0] 25 (0, 0)) (y1 NB323_334.out BK323.out) k_ hk_), (Kd.freshB (g := gb328) (o := .cells #[.slice Ao14 t324.length co14] 50 (0, 0)) (y1 NB328_334.out BK328.out) k_ hk_), (Kd.freshB (g := gb334) (o := .cells #[.int .i64 t329, .slice Ao26 t330.length co26] 25 (0, 0)) (by (with_reducible repeat (first | refine blk_drewN ?_ _ | refine blk_drew ?_ | refine blk_alloc ?_ _)); refine blk_put (cs := #[.int .i64 t329, .slice none 0 0]) ?_ 1 _ rfl; (with_reducible repeat (first | refine blk_drewN ?_ _ | refine blk_drew ?_ | refine blk_alloc ?_ _)); apply blk_put (i := 0); (case h => exact y0 BK334.out); (case e => rfl)) k_ hk_)⟩)) (below_size (y7 HB.out GE322.out GE323.out GE328.out GE334.out))); replace HO326 := Aside0.mk (Kd.N_elder' (by (with_reducible repeat (first | apply Kd.N_alloc | apply Kd.N_drewN | apply Kd.N_drew)); exact (Kd.N_mono (Kd.N_far (p := ⟨gb334, 1, none⟩) (Kd.N_far (p := ⟨gb334, 0, none⟩) (Kd.N_mono HO326.out (fun k_ hk => (⟨hk, hk.2⟩ : _ ∧ k_ ≠ gb334))) (fun _ hk => hk.2) (.int .i64 t329)) (fun _ hk => hk.2) (.slice Ao26 t330.length co26)) (fun _ h_ => h_.1))) (Kd.N_base ho0) hb); replace BK322 := Aside0.mk (blk_below (g := gb322) (o := .cells #[.int .i64 a0_0, .slice A0_1 l0_1.length c0_1] 25 (0, 0)) (y1 NB322_334.out BK322.out) hb); replace BK323 := Aside0.mk (blk_below (g := gb323) (o := .cells #[.int .i64 0, .slice none 0 0] 25 (0, 0)) (y1 NB323_334.out BK323.out) hb); replace BK328 := Aside0.mk (blk_below (g := gb328) (o := .cells #[.slice Ao14 t324.length co14] 50 (0, 0)) (y1 NB328_334.out BK328.out) hb); replace BK334 := Aside0.mk (blk_below (g := gb334) (o := .cells #[.int .i64 t329, .slice Ao26 t330.length co26] 25 (0, 0)) (by (with_reducible repeat (first | refine blk_drewN ?_ _ | refine blk_drew ?_ | refine blk_alloc ?_ _)); refine blk_put (cs := #[.int .i64 t329, .slice none 0 0]) ?_ 1 _ rfl; (with_reducible repeat (first | refine blk_drewN ?_ _ | refine blk_drew ?_ | refine blk_alloc ?_ _)); apply blk_put (i := 0); (case h => exact y0 BK334.out); (case e => rfl)) hb); replace HB := Aside0.mk (below_step (y7 HB.out GE322.out GE323.out GE328.out GE334.out) hb); (try clear hb); (try clear hb2); (try clear hk); (try clear hi); (try clear ho0); have hcz28_0 := zh BK323; have hcz28_1 := zh1 BK323; have hfz28_0 := zfr BK323 0; have hfz28_1 := zfr BK323 1; obtain ⟨Ao29, co29, eo29⟩ := Kd.N_slice HO338.out; subst eo29))
   refine bodyPost_ret (results_ct rfl _ _ gb323 25 #[.int .i64 t335, .slice Ao29 t336.length co29] (0, 0) _ rfl (by (with_reducible repeat (first | refine blk_drewN ?_ _ | refine blk_drew ?_ | refine blk_alloc ?_ _)); refine blk_put (cs := #[.int .i64 t335, .slice none 0 0]) ?_ 1 _ rfl; (with_reducible repeat (first | refine blk_drewN ?_ _ | refine blk_drew ?_ | refine blk_alloc ?_ _)); apply blk_put (i := 0); (case h => exact y0 BK323.out); (case e => rfl)) Try.underlying25 rfl (by kernel_rfl)) rfl ?_
   exact ⟨_, y19, (by (with_reducible repeat (first | apply Kd.N_alloc | apply Kd.N_drewN | apply Kd.N_drew)); exact Kd.N_mono (Kd.N_far (p := ⟨gb323, 1, none⟩) (Kd.N_far (p := ⟨gb323, 0, none⟩) (Kd.N_mono HO338.out (fun k_ hk => (⟨hk, hk.2.2.2.1⟩ : _ ∧ k_ ≠ gb323))) (fun _ hk => hk.2) (.int .i64 t335)) (fun _ hk => hk.2) (.slice Ao29 t336.length co29)) (fun _ hk => hk.1.1)), (y7 HB.out GE322.out GE323.out GE328.out GE334.out)⟩
  ·replace c6 := Bool.eq_false_iff.mpr c6
   subst c6
   rw [if_neg (show ¬ (false = true) by decide)] at H
   simp only [Option.some.injEq, Prod.mk.injEq] at H
   obtain ⟨rfl, rfl, rfl⟩ := H
   go_enter Try.func14, Try.ntmps14
   go_wp2_with (first | ((with_reducible refine gate_dst (N := 2) rfl ?_); refine zbx 2 #[.int .i64 a0_0, .slice A0_1 l0_1.length c0_1] 25 ?_; intro gb322 hg w30 hbox hb; replace HO0_1 := Aside0.mk (Kd.V_below (Kd.V_elderB (y10 HO0_1.out) gb322 (Nat.le_of_eq hg.symm)) hb); have BK322 := Aside0.mk hbox; have GW322 := Aside0.mk ((y9 hg HB.out : w.heap.size ≤ gb322)); have GE322 := Aside0.mk ((y9 hg HB.out : w.heap.size ≤ gb322)); replace HB := Aside0.mk (below_step (y5 HB.out) hb); clear hb hbox hg) | ((with_reducible refine gate_dst (N := 4) rfl ?_); refine zbx 4 #[.int .i64 0, .slice none 0 0] 25 ?_; intro gb323 hg w31 hbox hb; replace HO0_1 := Aside0.mk (Kd.V_below (Kd.V_elderB (y10 HO0_1.out) gb323 (Nat.le_of_eq hg.symm)) hb); have BK323 := Aside0.mk hbox; have GW323 := Aside0.mk ((y11 hg HB.out GE322.out : w.heap.size ≤ gb323)); have GE323 := Aside0.mk ((y11 hg HB.out GE322.out : w.heap.size ≤ gb323)); replace HB := Aside0.mk (below_step (y6 HB.out GE322.out) hb); have NB322_323 := zltn hg BK322; have NB323_322 := zgtn hg BK322; replace BK322 := zbb BK322 hb; clear hb hbox hg; have hnb32 := NB322_323.out; have hnc32 := NB323_322.out; have hcz33_0 := zh BK322; have hcz33_1 := zh1 BK322; have hfz33_0 := zfr BK322 0; have hfz33_1 := zfr BK322 1) | ((with_reducible refine gate_callee (f := 38) rfl ?_); refine goesL_ (some 12) rfl rfl Try.func38 (by kernel_rfl) rfl #[.agg #[.int .i64 a0_0, .slice A0_1 l0_1.length c0_1]] rfl y8 ?_; (with_reducible refine (impl_valTyped.calls k a0_0 _ _ l0_1 t324 true _ ?side1 ?side2 A3.out).mono ?_); (case side1 => exact y35 HO0_1.out); (case side2 => exact (Kd.V_reads' HO0_1.out).2.1); rintro e w34 ⟨v325, rfl, ho0, hb⟩; refine ⟨_, rfl, ?_⟩; replace HO0_1 := Aside0.mk (Kd.V_elder' (y10 HO0_1.out) (Kd.N_base ho0) hb); have HO326 := Aside0.mk (Kd.N_lower (Kd.N_mono (ok' := fun k_ => (P0_1_ k_ ∨ w.heap.size ≤ k_) ∧ k_ ≠ gb322 ∧ k_ ≠ gb323) ho0 (fun k_ hk_ => ⟨(.inr (Nat.le_trans (below_size (y2 HB.out GE322.out GE323.out)) hk_)), (Kd.freshB (g := gb322) (o := .cells #[.int .i64 a0_0, .slice A0_1 l0_1.length c0_1] 25 (0, 0)) (y0 BK322.out) k_ hk_), (Kd.freshB (g := gb323) (o := .cells #[.int .i64 0, .slice none 0 0] 25 (0, 0)) (y0 BK323.out) k_ hk_)⟩)) (below_size (y2 HB.out GE322.out GE323.out))); replace BK322 := zbb BK322 hb; replace BK323 := zbb BK323 hb; replace HB := Aside0.mk (below_step (y2 HB.out GE322.out GE323.out) hb); (try clear hb); (try clear hb2); (try clear hk); (try clear hi); (try clear ho0)) | ((with_reducible refine gate_dst (N := 6) rfl ?_); refine zbx 6 #[.slice none 0 0] 50 ?_; intro gb328 hg w35 hbox hb; replace HO0_1 := Aside0.mk (Kd.V_below (Kd.V_elderB (y10 HO0_1.out) gb328 (Nat.le_of_eq hg.symm)) hb); replace HO326 := Aside0.mk (Kd.N_below (Kd.N_elderB (y3 HO326.out) gb328 (Nat.le_of_eq hg.symm)) hb); have BK328 := Aside0.mk hbox; have GW328 := Aside0.mk ((y16 hg HB.out GE322.out GE323.out : w.heap.size ≤ gb328)); have GE328 := Aside0.mk ((y16 hg HB.out GE322.out GE323.out : w.heap.size ≤ gb328)); replace HB := Aside0.mk (below_step (y2 HB.out GE322.out GE323.out) hb); have NB322_328 := zltn hg BK322; have NB328_322 := zgtn hg BK322; replace BK322 := zbb BK322 hb; have NB323_328 := zltn hg BK323; have NB328_323 := zgtn hg BK323; replace BK323 := zbb BK323 hb; clear hb hbox hg; obtain ⟨Ao36, co36, eo36⟩ := Kd.N_slice HO326.out; subst eo36; have hnb37 := NB328_322.out; have hnc37 := NB322_328.out; have hnb38 := NB328_323.out; have hnc38 := NB323_328.out; have hcz39_0 := zh BK328; have hfz39_0 := zfr BK328 0) | ((with_reducible refine gate_store (t := 50) (p := 6) rfl ?_); refine store_event (t := 50) (p := 6) (v := ?vo_w40) (w1 := (w35.setCell ⟨gb328, 0, none⟩ (.slice Ao36 t324.length co36))) ?hg ?ho ?hn ?hr ?_; (case ho => rfl); (case hg => rfl); (case hn => rfl); (case hr => first | (go_simp; done) | (go_simp; rfl)); intro w40 hw; have n0_ : Aside0 (Kd.V k25 25 w40 w.heap.size (fun k_ => (P0_1_ k_ ∨ w.heap.size ≤ k_) ∧ some k_ ≠ (.slice Ao36 t324.length co36 : Value).ownBlock ∧ k_ ≠ gb322 ∧ k_ ≠ gb323 ∧ k_ ≠ gb328) (.slice A0_1 l0_1.length c0_1) l0_1) := ⟨(by rw [hw]; exact (by (with_reducible repeat (first | apply Kd.V_alloc | apply Kd.V_drewN | apply Kd.V_drew)); exact Kd.V_mono (Kd.V_far (p := ⟨gb328, 0, none⟩) (Kd.V_mono HO0_1.out (fun k_ hk => (⟨hk, hk.2⟩ : _ ∧ k_ ≠ gb328))) (fun _ hk => hk.2) (.slice Ao36 t324.length co36)) (fun _ hk => ⟨hk.1.1.1.1.1, ⟨hk.1.1.2, ⟨hk.1.1.1.1.2, ⟨hk.1.1.1.2, hk.1.2⟩⟩⟩⟩)))⟩; have n1_ : Aside0 (Kd.N k50 50 w40 w.heap.size (fun k_ => (P0_1_ k_ ∨ w.heap.size ≤ k_) ∧ k_ ≠ gb322 ∧ k_ ≠ gb323 ∧ k_ ≠ gb328) (.slice Ao36 t324.length co36) t324) := ⟨(by rw [hw]; exact (by (with_reducible repeat (first | apply Kd.N_alloc | apply Kd.N_drewN | apply Kd.N_drew)); exact Kd.N_mono (Kd.N_far (p := ⟨gb328, 0, none⟩) (Kd.N_mono HO326.out (fun k_ hk => (⟨hk, hk.2⟩ : _ ∧ k_ ≠ gb328))) (fun _ hk => hk.2) (.slice Ao36 t324.length co36)) (fun _ hk => ⟨hk.1.1.1, ⟨hk.1.1.2.1, ⟨hk.1.1.2.2, hk.1.2⟩⟩⟩)))⟩; have n2_ : Aside0 (w40.heap[gb322]? = some (.cells #[.int .i64 a0_0, .slice A0_1 l0_1.length c0_1] 25 (0, 0))) := ⟨(by rw [hw]; exact (y13 NB322_328.out BK322.out))⟩; have n3_ : Aside0 (w40.heap[gb323]? = some (.cells #[.int .i64 0, .slice none 0 0] 25 (0, 0))) := ⟨(by rw [hw]; exact (y13 NB323_328.out BK323.out))⟩; have n4_ : Aside0 (w40.heap[gb328]? = some (.cells #[.slice Ao36 t324.length co36] 50 (0, 0))) := ⟨(by rw [hw]; exact (by (with_reducible repeat (first | refine blk_drewN ?_ _ | refine blk_drew ?_ | refine blk_alloc ?_ _)); apply blk_put (i := 0); (case h => exact y0 BK328.out); (case e => rfl)))⟩; have n5_ : Aside0 (Below w.heap.size w w40) := ⟨(by rw [hw]; exact (y4 HB.out GE322.out GE323.out GE328.out))⟩; clear hw; clear HO0_1; clear HO326; clear BK322; clear BK323; clear BK328; clear HB; have HO0_1 := n0_; have HO326 := n1_; have BK322 := n2_; have BK323 := n3_; have BK328 := n4_; have HB := n5_; clear n0_ n1_ n2_ n3_ n4_ n5_; have hcz41_0 := zh BK322; have hcz41_1 := zh1 BK322; have hfz41_0 := zfr BK322 0; have hfz41_1 := zfr BK322 1) | ((with_reducible refine gate_callee (f := 39) rfl ?_); refine goesL_ (some 21) rfl rfl Try.func39 (by kernel_rfl) rfl #[.agg #[.int .i64 a0_0, .slice A0_1 l0_1.length c0_1], .slice A1 l1.length c1] rfl y8 ?_; (with_reducible refine (impl_Val.calls k a0_0 (fun k_ => ((P0_1_ k_ ∨ w.heap.size ≤ k_) ∧ (some k_ ≠ (.slice Ao36 t324.length co36 : Value).ownBlock ∧ (k_ ≠ gb322 ∧ (k_ ≠ gb323 ∧ k_ ≠ gb328))))) _ _ l0_1 _ _ l1 t329 t330 false _ ?side1 ?side2 ?side3 A5.out).mono ?_); (case side1 => exact HO0_1.out); (case side2 => exact y15 HR1.out HB.out); (case side3 => exact HC1.out); rintro e w42 ⟨v331, rfl, ho0, hb⟩; refine ⟨_, rfl, ?_⟩; replace HO0_1 := Aside0.mk (Kd.V_below (y10 HO0_1.out) hb); have HO332 := Aside0.mk (Kd.V_lower (Kd.V_mono (ok' := fun k_ => (P0_1_ k_ ∨ w.heap.size ≤ k_) ∧ some k_ ≠ (.slice Ao36 t324.length co36 : Value).ownBlock ∧ k_ ≠ gb322 ∧ k_ ≠ gb323 ∧ k_ ≠ gb328) ho0 (fun k_ hk_ => ⟨Or.elim hk_ (fun hs_ => hs_.1) (fun hn_ => (.inr (Nat.le_trans (below_size (y4 HB.out GE322.out GE323.out GE328.out)) hn_))), Or.elim hk_ (fun hs_ => hs_.2.1) (fun hn_ => (Kd.fresh' (Kd.N_lt (y3 HO326.out)) k_ hn_)), Or.elim hk_ (fun hs_ => hs_.2.2.1) (fun hn_ => (Kd.freshB (g := gb322) (o := .cells #[.int .i64 a0_0, .slice A0_1 l0_1.length c0_1] 25 (0, 0)) (y0 BK322.out) k_ hn_)), Or.elim hk_ (fun hs_ => hs_.2.2.2.1) (fun hn_ => (Kd.freshB (g := gb323) (o := .cells #[.int .i64 0, .slice none 0 0] 25 (0, 0)) (y0 BK323.out) k_ hn_)), Or.elim hk_ (fun hs_ => hs_.2.2.2.2) (fun hn_ => (Kd.freshB (g := gb328) (o := .cells #[.slice Ao36 t324.length co36] 50 (0, 0)) (y0 BK328.out) k_ hn_))⟩)) (below_size (y4 HB.out GE322.out GE323.out GE328.out))); replace HO326 := Aside0.mk (Kd.N_below (y3 HO326.out) hb); replace BK322 := zbb BK322 hb; replace BK323 := zbb BK323 hb; replace BK328 := zbb BK328 hb; replace HB := Aside0.mk (below_step (y4 HB.out GE322.out GE323.out GE328.out) hb); (try clear hb); (try clear hb2); (try clear hk); (try clear hi); (try clear ho0)) | ((with_reducible refine gate_dst (N := 8) rfl ?_); refine zbx 8 #[.int .i64 0, .slice none 0 0] 25 ?_; intro gb334 hg w43 hbox hb; replace HO0_1 := Aside0.mk (Kd.V_below (Kd.V_elderB (y10 HO0_1.out) gb334 (Nat.le_of_eq hg.symm)) hb); replace HO326 := Aside0.mk (Kd.N_below (Kd.N_elderB (y3 HO326.out) gb334 (Nat.le_of_eq hg.symm)) hb); replace HO332 := Aside0.mk (Kd.V_below (Kd.V_elderB (y10 HO332.out) gb334 (Nat.le_of_eq hg.symm)) hb); have BK334 := Aside0.mk hbox; have GW334 := Aside0.mk ((y22 hg HB.out GE322.out GE323.out GE328.out : w.heap.size ≤ gb334)); have GE334 := Aside0.mk ((y22 hg HB.out GE322.out GE323.out GE328.out : w.heap.size ≤ gb334)); replace HB := Aside0.mk (below_step (y4 HB.out GE322.out GE323.out GE328.out) hb); have NB322_334 := zltn hg BK322; have NB334_322 := zgtn hg BK322; replace BK322 := zbb BK322 hb; have NB323_334 := zltn hg BK323; have NB334_323 := zgtn hg BK323; replace BK323 := zbb BK323 hb; have NB328_334 := zltn hg BK328; have NB334_328 := zgtn hg BK328; replace BK328 := zbb BK328 hb; clear hb hbox hg; have hnb44 := NB334_322.out; have hnc44 := NB322_334.out; have hnb45 := NB334_323.out; have hnc45 := NB323_334.out; have hnb46 := NB334_328.out; have hnc46 := NB328_334.out; have hcz47_0 := zh BK334; have hcz47_1 := zh1 BK334; have hfz47_0 := zfr BK334 0; have hfz47_1 := zfr BK334 1; obtain ⟨Ao48, co48, eo48⟩ := Kd.V_slice HO332.out; subst eo48; have hcz49_0 := zh BK323; have hcz49_1 := zh1 BK323; have hfz49_0 := zfr BK323 0; have hfz49_1 := zfr BK323 1))
   refine bodyPost_ret (results_ct rfl _ _ gb323 25 #[.int .i64 0, .slice none 0 0] (0, 0) _ rfl (by (with_reducible repeat (first | refine blk_drewN ?_ _ | refine blk_drew ?_ | refine blk_alloc ?_ _)); refine blk_put (cs := #[.int .i64 0, .slice none 0 0]) ?_ 1 _ rfl; (with_reducible repeat (first | refine blk_drewN ?_ _ | refine blk_drew ?_ | refine blk_alloc ?_ _)); refine blk_put (cs := #[.int .i64 0, .slice none 0 0]) ?_ 0 _ rfl; (with_reducible repeat (first | refine blk_drewN ?_ _ | refine blk_drew ?_ | refine blk_alloc ?_ _)); refine blk_far ?_ NB323_334.out _; (with_reducible repeat (first | refine blk_drewN ?_ _ | refine blk_drew ?_ | refine blk_alloc ?_ _)); refine blk_far ?_ NB323_334.out _; (with_reducible repeat (first | refine blk_drewN ?_ _ | refine blk_drew ?_ | refine blk_alloc ?_ _)); exact BK323.out) Try.underlying25 rfl (by kernel_rfl)) rfl ?_
   exact ⟨_, y19, y37, (y7 HB.out GE322.out GE323.out GE328.out GE334.out)⟩
 ·replace c4 := Bool.eq_false_iff.mpr c4
  subst c4
  rw [if_neg (show ¬ (false = true) by decide)] at H
  simp only [Option.some.injEq, Prod.mk.injEq] at H
  obtain ⟨rfl, rfl, rfl⟩ := H
  go_enter Try.func14, Try.ntmps14
  go_wp2_with (first | ((with_reducible refine gate_dst (N := 2) rfl ?_); refine zbx 2 #[.int .i64 a0_0, .slice A0_1 l0_1.length c0_1] 25 ?_; intro gb322 hg w50 hbox hb; replace HO0_1 := Aside0.mk (Kd.V_below (Kd.V_elderB (y10 HO0_1.out) gb322 (Nat.le_of_eq hg.symm)) hb); have BK322 := Aside0.mk hbox; have GW322 := Aside0.mk ((y9 hg HB.out : w.heap.size ≤ gb322)); have GE322 := Aside0.mk ((y9 hg HB.out : w.heap.size ≤ gb322)); replace HB := Aside0.mk (below_step (y5 HB.out) hb); clear hb hbox hg) | ((with_reducible refine gate_dst (N := 4) rfl ?_); refine zbx 4 #[.int .i64 0, .slice none 0 0] 25 ?_; intro gb323 hg w51 hbox hb; replace HO0_1 := Aside0.mk (Kd.V_below (Kd.V_elderB (y10 HO0_1.out) gb323 (Nat.le_of_eq hg.symm)) hb); have BK323 := Aside0.mk hbox; have GW323 := Aside0.mk ((y11 hg HB.out GE322.out : w.heap.size ≤ gb323)); have GE323 := Aside0.mk ((y11 hg HB.out GE322.out : w.heap.size ≤ gb323)); replace HB := Aside0.mk (below_step (y6 HB.out GE322.out) hb); have NB322_323 := zltn hg BK322; have NB323_322 := zgtn hg BK322; replace BK322 := zbb BK322 hb; clear hb hbox hg; have hnb52 := NB322_323.out; have hnc52 := NB323_322.out; have hcz53_0 := zh BK322; have hcz53_1 := zh1 BK322; have hfz53_0 := zfr BK322 0; have hfz53_1 := zfr BK322 1) | ((with_reducible refine gate_callee (f := 38) rfl ?_); refine goesL_ (some 12) rfl rfl Try.func38 (by kernel_rfl) rfl #[.agg #[.int .i64 a0_0, .slice A0_1 l0_1.length c0_1]] rfl y8 ?_; (with_reducible refine (impl_valTyped.calls k a0_0 _ _ l0_1 t324 false _ ?side1 ?side2 A3.out).mono ?_); (case side1 => exact y35 HO0_1.out); (case side2 => exact (Kd.V_reads' HO0_1.out).2.1); rintro e w54 ⟨v325, rfl, ho0, hb⟩; refine ⟨_, rfl, ?_⟩; replace HO0_1 := Aside0.mk (Kd.V_elder' (y10 HO0_1.out) (Kd.N_base ho0) hb); have HO326 := Aside0.mk (Kd.N_lower (Kd.N_mono (ok' := fun k_ => (P0_1_ k_ ∨ w.heap.size ≤ k_) ∧ k_ ≠ gb322 ∧ k_ ≠ gb323) ho0 (fun k_ hk_ => ⟨(.inr (Nat.le_trans (below_size (y2 HB.out GE322.out GE323.out)) hk_)), (Kd.freshB (g := gb322) (o := .cells #[.int .i64 a0_0, .slice A0_1 l0_1.length c0_1] 25 (0, 0)) (y0 BK322.out) k_ hk_), (Kd.freshB (g := gb323) (o := .cells #[.int .i64 0, .slice none 0 0] 25 (0, 0)) (y0 BK323.out) k_ hk_)⟩)) (below_size (y2 HB.out GE322.out GE323.out))); replace BK322 := zbb BK322 hb; replace BK323 := zbb BK323 hb; replace HB := Aside0.mk (below_step (y2 HB.out GE322.out GE323.out) hb); (try clear hb); (try clear hb2); (try clear hk); (try clear hi); (try clear ho0)) | ((with_reducible refine gate_dst (N := 6) rfl ?_); refine zbx 6 #[.slice none 0 0] 50 ?_; intro gb328 hg w55 hbox hb; replace HO0_1 := Aside0.mk (Kd.V_below (Kd.V_elderB (y10 HO0_1.out) gb328 (Nat.le_of_eq hg.symm)) hb); replace HO326 := Aside0.mk (Kd.N_below (Kd.N_elderB (y3 HO326.out) gb328 (Nat.le_of_eq hg.symm)) hb); have BK328 := Aside0.mk hbox; have GW328 := Aside0.mk ((y16 hg HB.out GE322.out GE323.out : w.heap.size ≤ gb328)); have GE328 := Aside0.mk ((y16 hg HB.out GE322.out GE323.out : w.heap.size ≤ gb328)); replace HB := Aside0.mk (below_step (y2 HB.out GE322.out GE323.out) hb); have NB322_328 := zltn hg BK322; have NB328_322 := zgtn hg BK322; replace BK322 := zbb BK322 hb; have NB323_328 := zltn hg BK323; have NB328_323 := zgtn hg BK323; replace BK323 := zbb BK323 hb; clear hb hbox hg; obtain ⟨Ao56, co56, eo56⟩ := Kd.N_slice HO326.out; subst eo56; have hnb57 := NB328_322.out; have hnc57 := NB322_328.out; have hnb58 := NB328_323.out; have hnc58 := NB323_328.out; have hcz59_0 := zh BK328; have hfz59_0 := zfr BK328 0; have hcz60_0 := zh BK323; have hcz60_1 := zh1 BK323; have hfz60_0 := zfr BK323 0; have hfz60_1 := zfr BK323 1))
  refine bodyPost_ret (results_ct rfl _ _ gb323 25 #[.int .i64 0, .slice none 0 0] (0, 0) _ rfl (by (with_reducible repeat (first | refine blk_drewN ?_ _ | refine blk_drew ?_ | refine blk_alloc ?_ _)); refine blk_put (cs := #[.int .i64 0, .slice none 0 0]) ?_ 1 _ rfl; (with_reducible repeat (first | refine blk_drewN ?_ _ | refine blk_drew ?_ | refine blk_alloc ?_ _)); refine blk_put (cs := #[.int .i64 0, .slice none 0 0]) ?_ 0 _ rfl; (with_reducible repeat (first | refine blk_drewN ?_ _ | refine blk_drew ?_ | refine blk_alloc ?_ _)); refine blk_far ?_ NB323_328.out _; (with_reducible repeat (first | refine blk_drewN ?_ _ | refine blk_drew ?_ | refine blk_alloc ?_ _)); exact BK323.out) Try.underlying25 rfl (by kernel_rfl)) rfl ?_
  exact ⟨_, y19, y37, (y4 HB.out GE322.out GE323.out GE328.out)⟩
end Go.Proofs.Ythfflieeifakdaa.PA
end
section
namespace Go.Proofs.Ythfflieeifakdaa.PA
open Go.RowKit Go.Proofs.YthfflieeifakdaaW.PrintWords Go.Proofs.YthfflieeifakdaaW.PrintLast Go.Proofs.YthfflieeifakdaaW.PrintMore
attribute [local go_sem] max2_int min2_int max_two min_two max_three min_three max_four min_four
set_option linter.unusedVariables false
set_option linter.unusedSimpArgs false
mutual
def laws_lhVal.j0 : Nat → Bool → Int → List (S25) → Int → List (S25) → Option (Bool)
 | 0, _, _, _, _, _ => none
 | k + 1, x19, x340000, x340001, x341000, x341001 => if x19 = true then (some false) else (laws_lhVal.l0 k 0 x340000 x340001 x341000 x341001)
def laws_lhVal.l0 : Nat → Int → Int → List (S25) → Int → List (S25) → Option (Bool)
 | 0, _, _, _, _, _ => none
 | k + 1, x5, x340000, x340001, x341000, x341001 => if x5 < (x340001.length : Int) then (if 0 ≤ x5 then (if x5 < (x341001.length : Int) then ((laws_lhVal.f k ((rd_T25 x340001 x5).f0) ((rd_T25 x340001 x5).f1) ((rd_T25 x341001 x5).f0) ((rd_T25 x341001 x5).f1)).bind fun t343 => (if t343 = true then (laws_lhVal.l0 k (wrap64 (x5 + 1)) x340000 x340001 x341000 x341001) else (some false))) else (none)) else (none)) else (some true)
def laws_lhVal.f : Nat → Int → List (S25) → Int → List (S25) → Option (Bool)
 | 0, _, _, _, _ => none
 | k + 1, a0_0, l0_1, a1_0, l1_1 => if a0_0 = a1_0 then (laws_lhVal.j0 k ((l0_1.length : Int) != (l1_1.length : Int)) a0_0 l0_1 a1_0 l1_1) else (laws_lhVal.j0 k true a0_0 l0_1 a1_0 l1_1)
end
theorem laws_lhVal.mono_l : ∀ k, (∀ y0 y1 y2 y3, LeO (laws_lhVal.f k y0 y1 y2 y3) (laws_lhVal.f (k + 1) y0 y1 y2 y3)) ∧ (∀ y0 y1 y2 y3 y4, LeO (laws_lhVal.j0 k y0 y1 y2 y3 y4) (laws_lhVal.j0 (k + 1) y0 y1 y2 y3 y4)) ∧ (∀ y0 y1 y2 y3 y4, LeO (laws_lhVal.l0 k y0 y1 y2 y3 y4) (laws_lhVal.l0 (k + 1) y0 y1 y2 y3 y4))
 | 0 => ⟨fun _ _ _ _ r h => by simp [laws_lhVal.f] at h, fun _ _ _ _ _ r h => by simp [laws_lhVal.j0] at h, fun _ _ _ _ _ r h => by simp [laws_lhVal.l0] at h⟩
 | k + 1 => by
  obtain ⟨ih0, ih1, ih2⟩ := laws_lhVal.mono_l k
  refine ⟨?_, ?_, ?_⟩
  ·intro y0 y1 y2 y3
   unfold laws_lhVal.f
   repeat' first
   | (with_reducible exact ih0 _ _ _ _)
   | (with_reducible exact ih1 _ _ _ _ _)
   | (with_reducible exact ih2 _ _ _ _ _)
   | (with_reducible exact LeO.refl _)
   | (with_reducible exact LeO.none _)
   | (with_reducible refine LeO.ite ?_ ?_)
   | (with_reducible refine LeO.bind ?_ (fun _ => ?_))
   | exact ih0 _ _ _ _
   | exact ih1 _ _ _ _ _
   | exact ih2 _ _ _ _ _
   | exact LeO.none _
   | refine LeO.ite ?_ ?_
   | refine LeO.bind ?_ (fun _ => ?_)
  ·intro y0 y1 y2 y3 y4
   unfold laws_lhVal.j0
   repeat' first
   | (with_reducible exact ih0 _ _ _ _)
   | (with_reducible exact ih1 _ _ _ _ _)
   | (with_reducible exact ih2 _ _ _ _ _)
   | (with_reducible exact LeO.refl _)
   | (with_reducible exact LeO.none _)
   | (with_reducible refine LeO.ite ?_ ?_)
   | (with_reducible refine LeO.bind ?_ (fun _ => ?_))
   | exact ih0 _ _ _ _
   | exact ih1 _ _ _ _ _
   | exact ih2 _ _ _ _ _
   | exact LeO.none _
   | refine LeO.ite ?_ ?_
   | refine LeO.bind ?_ (fun _ => ?_)
  ·intro y0 y1 y2 y3 y4
   unfold laws_lhVal.l0
   repeat' first
   | (with_reducible exact ih0 _ _ _ _)
   | (with_reducible exact ih1 _ _ _ _ _)
   | (with_reducible exact ih2 _ _ _ _ _)
   | (with_reducible exact LeO.refl _)
   | (with_reducible exact LeO.none _)
   | (with_reducible refine LeO.ite ?_ ?_)
   | (with_reducible refine LeO.bind ?_ (fun _ => ?_))
   | exact ih0 _ _ _ _
   | exact ih1 _ _ _ _ _
   | exact ih2 _ _ _ _ _
   | exact LeO.none _
   | refine LeO.ite ?_ ?_
   | refine LeO.bind ?_ (fun _ => ?_)
theorem laws_lhVal.mono : ∀ a0 a1 a2 a3 k, LeO (laws_lhVal.f k a0 a1 a2 a3) (laws_lhVal.f (k + 1) a0 a1 a2 a3) := by
 intro a0 a1 a2 a3 k
 obtain ⟨ih0, ih1, ih2⟩ := laws_lhVal.mono_l k
 exact ih0 a0 a1 a2 a3
def laws_lhVal.T6 : Bool × List (List Nat × List Nat) := (true, [([], []), ([0], [0]), ([], []), ([1, 2], [1, 2]), ([3], [3]), ([], []), ([5], [5]), ([], []), ([6, 7], [6, 7]), ([8], [8]), ([4, 9], [4, 9]), ([10], [10])])
def laws_lhVal.B6 : List Nat := [0, 1, 0, 7, 15, 0, 32, 0, 224, 480, 1023, 2047]
theorem laws_lhVal.tab6 : rtab .any (opsOf Try.f15 6) = laws_lhVal.T6 := by kernel_rfl
theorem laws_lhVal.bits6 : waitsOk laws_lhVal.T6.2 laws_lhVal.B6 = true := by kernel_rfl
set_option maxHeartbeats 8000000 in
set_option maxRecDepth 100000 in
theorem laws_lhVal.calls (k : Nat) : ∀ (a0_0 : Int) (A0_1 : Option Addr) (c0_1 : Nat) (l0_1 : List (S25)) (a1_0 : Int) (A1_1 : Option Addr) (c1_1 : Nat) (l1_1 : List (S25)) (r : Bool) (w : World) (hr0_1 : Kd.C k25 w A0_1 l0_1.length l0_1) (hc0_1 : l0_1.length ≤ c0_1) (hr1_1 : Kd.C k25 w A1_1 l1_1.length l1_1) (hc1_1 : l1_1.length ≤ c1_1) (h : laws_lhVal.f k a0_0 l0_1 a1_0 l1_1 = some r),
  Calls Try.prog 15 #[.agg #[.int .i64 a0_0, .slice A0_1 l0_1.length c0_1], .agg #[.int .i64 a1_0, .slice A1_1 l1_1.length c1_1]] w fun e w' => e = .returned (.bool r) ∧ Below w.heap.size w w' := by
 induction k using Nat.strongRecOn with
 | _ k ih =>
 intro a0_0 A0_1 c0_1 l0_1 a1_0 A1_1 c1_1 l1_1 r w hr0_1 hc0_1 hr1_1 hc1_1 h
 cases k with
 | zero => exact absurd h (by simp [laws_lhVal.f])
 | succ k =>
 simp only [laws_lhVal.f] at h
 have hu25 := Try.underlying25
 have HR0_1 := Aside0.mk hr0_1
 have HC0_1 := Aside0.mk hc0_1
 clear hr0_1 hc0_1
 have HR1_1 := Aside0.mk hr1_1
 have HC1_1 := Aside0.mk hc1_1
 clear hr1_1 hc1_1
 have HB := Aside0.mk (Below.refl w.heap.size w)
 have H : (if a0_0 = a1_0 then (laws_lhVal.j0 k ((l0_1.length : Int) != (l1_1.length : Int)) a0_0 l0_1 a1_0 l1_1) else (laws_lhVal.j0 k true a0_0 l0_1 a1_0 l1_1)) = some r := h
 clear h
 have HC3 := Aside0.mk H
 clear H
 go_enter Try.func15, Try.ntmps15
 go_upto_region 1 with (first | ((with_reducible refine gate_dst (N := 2) rfl ?_); (try (refine gate_guard (by rfl) ?_; dsimp only)); refine zbx 2 #[.int .i64 a0_0, .slice A0_1 l0_1.length c0_1] 25 ?_; intro gb339 hg w4 hbox hb; have BK339 := Aside0.mk hbox; have GW339 := Aside0.mk ((y9 hg HB.out : w.heap.size ≤ gb339)); have GE339 := Aside0.mk ((y9 hg HB.out : w.heap.size ≤ gb339)); replace HB := Aside0.mk (below_step (y5 HB.out) hb); clear hb hbox hg) | ((with_reducible refine gate_dst (N := 3) rfl ?_); (try (refine gate_guard (by rfl) ?_; dsimp only)); refine zbx 3 #[.int .i64 a1_0, .slice A1_1 l1_1.length c1_1] 25 ?_; intro gb340 hg w5 hbox hb; have BK340 := Aside0.mk hbox; have GW340 := Aside0.mk ((y11 hg HB.out GE339.out : w.heap.size ≤ gb340)); have GE340 := Aside0.mk ((y11 hg HB.out GE339.out : w.heap.size ≤ gb340)); replace HB := Aside0.mk (below_step (y6 HB.out GE339.out) hb); have NB339_340 := zltn hg BK339; have NB340_339 := zgtn hg BK339; replace BK339 := zbb BK339 hb; clear hb hbox hg))
 (try simp only [Act.put, List.setIfInBounds_toArray, List.set_cons_zero, List.set_cons_succ])
 go_cut [19] (fun v19 wc => ∃ (kq : Nat) (x19_2 : Bool), v19 = .bool x19_2 ∧ Aside0 (laws_lhVal.j0 kq x19_2 a0_0 l0_1 a1_0 l1_1 = some r) ∧ Aside0 (kq ≤ k) ∧ Aside0 (wc.heap[gb339]? = some (.cells #[.int .i64 a0_0, (.slice A0_1 l0_1.length c0_1)] 25 (0, 0))) ∧ Aside0 (wc.heap[gb340]? = some (.cells #[.int .i64 a1_0, (.slice A1_1 l1_1.length c1_1)] 25 (0, 0))) ∧ Aside0 (Below w.heap.size w wc))
 case first =>
  have H := HC3.out
  clear HC3
  by_cases c6 : a0_0 = a1_0
  ·rw [if_pos c6] at H
   have c6b0 : (a0_0 == a1_0) = true := beq_iff_eq.mpr c6
   have c6b1 : (a0_0 != a1_0) = false := bne_eq_false_iff_eq.mpr c6
   clear c6
   (first | rw [c6b0] | (simp only [i64_w, i32_w]; rw [c6b0]) | skip)
   have H' := Aside0.mk H
   clear H
   have hnb7 := NB339_340.out
   have hnc7 := NB340_339.out
   have hcz8_0 := zh BK339
   have hcz8_1 := zh1 BK339
   have hfz8_0 := zfr BK339 0
   have hfz8_1 := zfr BK339 1
   have hcz9_0 := zh BK340
   have hcz9_1 := zh1 BK340
   have hfz9_0 := zfr BK340 0
   have hfz9_1 := zfr BK340 1
   go_wp2
   go_meet
   case rel => exact ⟨_, (((l0_1.length : Int) != (l1_1.length : Int))), y34, H', ⟨y46⟩, ⟨(y0 BK339.out)⟩, ⟨(y0 BK340.out)⟩, ⟨(y2 HB.out GE339.out GE340.out)⟩⟩
  ·rw [if_neg c6] at H
   have c6b0 : (a0_0 == a1_0) = false := beq_eq_false_iff_ne.mpr c6
   have c6b1 : (a0_0 != a1_0) = true := bne_iff_ne.mpr c6
   (first | rw [c6b0] | (simp only [i64_w, i32_w]; rw [c6b0]) | skip)
   have H' := Aside0.mk H
   clear H
   have hnb10 := NB339_340.out
   have hnc10 := NB340_339.out
   have hcz11_0 := zh BK339
   have hcz11_1 := zh1 BK339
   have hfz11_0 := zfr BK339 0
   have hfz11_1 := zfr BK339 1
   have hcz12_0 := zh BK340
   have hcz12_1 := zh1 BK340
   have hfz12_0 := zfr BK340 0
   have hfz12_1 := zfr BK340 1
   go_wp2
   go_meet
   case rel => exact ⟨_, (true), y34, H', ⟨y46⟩, ⟨(y0 BK339.out)⟩, ⟨(y0 BK340.out)⟩, ⟨(y2 HB.out GE339.out GE340.out)⟩⟩
 case rest =>
  clear HC3
  try clear c1
  try clear p2
  try clear c6
  try clear c6b0
  try clear c6b1
  try clear c7
  try clear c10
  try clear hcz11_0
  try clear hcz11_1
  try clear hcz12_0
  try clear hcz12_1
  try clear hcz8_0
  try clear hcz8_1
  try clear hcz9_0
  try clear hcz9_1
  try clear hfz11_0
  try clear hfz11_1
  try clear hfz12_0
  try clear hfz12_1
  try clear hfz8_0
  try clear hfz8_1
  try clear hfz9_0
  try clear hfz9_1
  obtain ⟨kq, x19_2, rfl, HA, HJ2, BK339, BK340, HB⟩ := hcut
  cases kq with
  | zero => exact absurd HA.out (by simp [laws_lhVal.j0])
  | succ kj2 =>
   have H := HA.out
   clear HA
   simp only [laws_lhVal.j0] at H
   by_cases c13 : x19_2 = true
   ·subst c13
    rw [if_pos rfl] at H
    obtain rfl := Option.some.inj H
    go_wp2
    go_ret
    exact ⟨y19, (y2 HB.out GE339.out GE340.out)⟩
   ·replace c13 := Bool.eq_false_iff.mpr c13
    subst c13
    rw [if_neg (show ¬ (false = true) by decide)] at H
    have H' := Aside0.mk H
    clear H
    go_wp2
    go_loopg [5] kj2 (fun kq v5 w' => ∃ (x5_2 : Int), v5 = .int .i64 x5_2 ∧ Aside0 (laws_lhVal.l0 kq x5_2 a0_0 l0_1 a1_0 l1_1 = some r) ∧ Aside0 (kq ≤ kj2) ∧ Aside0 (w'.heap[gb339]? = some (.cells #[.int .i64 a0_0, (.slice A0_1 l0_1.length c0_1)] 25 (0, 0))) ∧ Aside0 (w'.heap[gb340]? = some (.cells #[.int .i64 a1_0, (.slice A1_1 l1_1.length c1_1)] 25 (0, 0))) ∧ Aside0 (Below w.heap.size w w'))
    case atStart => exact ⟨(0), y34, H', ⟨Nat.le_refl _⟩, ⟨(y0 BK339.out)⟩, ⟨(y0 BK340.out)⟩, ⟨(y2 HB.out GE339.out GE340.out)⟩⟩
    case round =>
     clear H'
     try clear c1
     try clear p2
     try clear c6
     try clear c6b0
     try clear c6b1
     try clear c7
     try clear c10
     try clear c13
     try clear hcz11_0
     try clear hcz11_1
     try clear hcz12_0
     try clear hcz12_1
     try clear hcz8_0
     try clear hcz8_1
     try clear hcz9_0
     try clear hcz9_1
     try clear hfz11_0
     try clear hfz11_1
     try clear hfz12_0
     try clear hfz12_1
     try clear hfz8_0
     try clear hfz8_1
     try clear hfz9_0
     try clear hfz9_1
     try clear p2
     (try clear BK339); (try clear BK340)
     obtain ⟨x5_2, rfl, HA, HK2, BK339, BK340, HB⟩ := hrel
     cases gk with
     | zero => exact absurd HA.out (by simp [laws_lhVal.l0])
     | succ k2 =>
      have H := HA.out
      clear HA
      simp only [laws_lhVal.l0] at H
      by_cases c14 : x5_2 < (l0_1.length : Int)
      ·rw [if_pos c14] at H
       have c14b0 : decide (x5_2 < (l0_1.length : Int)) = true := decide_eq_true c14
       clear c14
       by_cases c15 : 0 ≤ x5_2
       ·rw [if_pos c15] at H
        have c15b0 : decide (0 ≤ x5_2) = true := decide_eq_true c15
        clear c15
        by_cases c16 : x5_2 < (l1_1.length : Int)
        ·rw [if_pos c16] at H
         have c16b0 : decide (x5_2 < (l1_1.length : Int)) = true := decide_eq_true c16
         clear c16
         obtain ⟨t343, A170, H⟩ := ob H
         have A17 := Aside0.mk A170
         clear A170
         by_cases c18 : t343 = true
         ·subst c18
          rw [if_pos rfl] at H
          have H' := Aside0.mk H
          clear H
          have hnb19 := NB339_340.out
          have hnc19 := NB340_339.out
          have hcz20_0 := zh BK339
          have hcz20_1 := zh1 BK339
          have hfz20_0 := zfr BK339 0
          have hfz20_1 := zfr BK339 1
          try go_wp2
          replace BK339 := Aside0.mk (blk_drew BK339.out)
          replace BK340 := Aside0.mk (blk_drew BK340.out)
          replace HB := Aside0.mk (below_drew1 HB.out)
          have p341 : 0 ≤ (x5_2 : Int) := of_decide_eq_true y23
          have q341 : x5_2 < (l0_1.length : Int) := of_decide_eq_true y23
          obtain ⟨ad341, A341_1, c341_1, e341, hx341_0, hx341_1, hl341_1, hi341_1⟩ := at_T25 HR0_1.out x5_2 p341 q341
          have hw341_1 := hx341_1
          have hw341_0 := hx341_0
          cases e341
          replace hx341_0 := (HB.out.cell (World.block_lt_of_cell? w _ hx341_0)).trans hx341_0
          replace hx341_1 := (HB.out.cell (World.block_lt_of_cell? w _ hx341_1)).trans hx341_1
          have HR341_1 := Aside0.mk hi341_1
          have HC341_1 := Aside0.mk hl341_1
          clear hi341_1 hl341_1
          replace p341 := eq_true p341
          replace q341 := eq_true q341
          have p342 : 0 ≤ (x5_2 : Int) := of_decide_eq_true y23
          have q342 : x5_2 < (l1_1.length : Int) := of_decide_eq_true y23
          obtain ⟨ad342, A342_1, c342_1, e342, hx342_0, hx342_1, hl342_1, hi342_1⟩ := at_T25 HR1_1.out x5_2 p342 q342
          have hw342_1 := hx342_1
          have hw342_0 := hx342_0
          cases e342
          replace hx342_0 := (HB.out.cell (World.block_lt_of_cell? w _ hx342_0)).trans hx342_0
          replace hx342_1 := (HB.out.cell (World.block_lt_of_cell? w _ hx342_1)).trans hx342_1
          have HR342_1 := Aside0.mk hi342_1
          have HC342_1 := Aside0.mk hl342_1
          clear hi342_1 hl342_1
          replace p342 := eq_true p342
          replace q342 := eq_true q342
          refine start_ (n := 12) (S := fun w' => w'.cell? ⟨gb339, 0, none⟩ = some (.int .i64 a0_0) ∧ w'.cell? ⟨gb339, 1, none⟩ = some (.slice (some ad341) l0_1.length c0_1) ∧ w'.cell? ⟨gb340, 0, none⟩ = some (.int .i64 a1_0) ∧ w'.cell? ⟨gb340, 1, none⟩ = some (.slice (some ad342) l1_1.length c1_1) ∧ w'.cell? (ad341.add ((x5_2).toNat * 2)) = some (.int .i64 ((rd_T25 l0_1 x5_2).f0)) ∧ w'.cell? ⟨(ad341.add ((x5_2).toNat * 2)).block, (ad341.add ((x5_2).toNat * 2)).off + 1, none⟩ = some (.slice A341_1 ((rd_T25 l0_1 x5_2).f1).length c341_1) ∧ w'.cell? (ad342.add ((x5_2).toNat * 2)) = some (.int .i64 ((rd_T25 l1_1 x5_2).f0)) ∧ w'.cell? ⟨(ad342.add ((x5_2).toNat * 2)).block, (ad342.add ((x5_2).toNat * 2)).off + 1, none⟩ = some (.slice A342_1 ((rd_T25 l1_1 x5_2).f1).length c342_1)) (ds := []) #[false, false, false, false, false, false, false, false, false, false, false, false] (by kernel_rfl) rfl rfl ⟨(blk_cell BK339.out 0).trans rfl, (blk_cell BK339.out 1).trans rfl, (blk_cell BK340.out 0).trans rfl, (blk_cell BK340.out 1).trans rfl, ((HB.out.cell (World.block_lt_of_cell? w _ hw341_0)).trans hw341_0), ((HB.out.cell (World.block_lt_of_cell? w _ hw341_1)).trans hw341_1), ((HB.out.cell (World.block_lt_of_cell? w _ hw342_0)).trans hw342_0), ((HB.out.cell (World.block_lt_of_cell? w _ hw342_1)).trans hw342_1)⟩ (fun hHeld => ?_); refine with_tabW laws_lhVal.tab6 laws_lhVal.bits6 (fun HT_ HW_ => ?_)
          generalize wr.drew = w21 at BK339 BK340 HB HR341_1 HR342_1 hx341_0 hx341_1 hx342_0 hx342_1 hHeld ⊢
          refine zp 0 (some 27) HT_ ?_
          refine zp 2 (some 29) HT_ ?_
          refine zp 5 (some 32) HT_ ?_
          refine zp 7 (some 34) HT_ ?_
          refine zt8 1 (some 28) HT_ HW_ hHeld ?_
          refine zp 3 (some 30) HT_ ?_
          refine zt8 4 (some 31) HT_ HW_ hHeld ?_
          refine zt8 6 (some 33) HT_ HW_ hHeld ?_
          refine zp 8 (some 35) HT_ ?_
          refine zt8 9 (some 36) HT_ HW_ hHeld ?_
          refine one_ (i := 10) (N := some 37) #[true, true, true, true, true, true, true, true, true, true, true, false] rfl rfl (one_of HT_.out (by kernel_rfl)) (by decide) (fun K hK => ?_)
          refine goes_ Try.func15 (by kernel_rfl) rfl #[.agg #[.int .i64 ((rd_T25 l0_1 x5_2).f0), .slice A341_1 ((rd_T25 l0_1 x5_2).f1).length c341_1], .agg #[.int .i64 ((rd_T25 l1_1 x5_2).f0), .slice A342_1 ((rd_T25 l1_1 x5_2).f1).length c342_1]] (by rfl) rfl rfl y8 ?_
          with_reducible refine (ih k2 (y87 HJ2.out HK2.out) ((rd_T25 l0_1 x5_2).f0) _ _ ((rd_T25 l0_1 x5_2).f1) ((rd_T25 l1_1 x5_2).f0) _ _ ((rd_T25 l1_1 x5_2).f1) true _ ?side1 ?side2 ?side3 ?side4 A17.out).mono ?_
          (case side1 => exact y15 HR341_1.out HB.out)
          (case side2 => exact HC341_1.out)
          (case side3 => exact y15 HR342_1.out HB.out)
          (case side4 => exact HC342_1.out)
          rintro e w22 ⟨rfl, hb⟩
          refine ⟨_, rfl, ?_⟩
          replace BK339 := zbb BK339 hb
          replace BK340 := zbb BK340 hb
          replace HB := Aside0.mk (below_step (y2 HB.out GE339.out GE340.out) hb)
          (try clear hb)
          (try clear hb2)
          (try clear hk)
          (try clear hi)
          refine hK.out _ _ ⟨(blk_cell BK339.out 0).trans rfl, (blk_cell BK339.out 1).trans rfl, (blk_cell BK340.out 0).trans rfl, (blk_cell BK340.out 1).trans rfl, ((HB.out.cell (World.block_lt_of_cell? w _ hw341_0)).trans hw341_0), ((HB.out.cell (World.block_lt_of_cell? w _ hw341_1)).trans hw341_1), ((HB.out.cell (World.block_lt_of_cell? w _ hw342_0)).trans hw342_0), ((HB.out.cell (World.block_lt_of_cell? w _ hw342_1)).trans hw342_1)⟩ (fun hHeld => ?_)
          clear hK K
          refine norm_ (a' := ?_) ?_ ?_
          rotate_left
          ·show Act.put _ (some 37) _ = _
           simp only [Act.put, List.setIfInBounds_toArray, List.set_cons_zero, List.set_cons_succ, i64_w, i32_w]
           rfl
          refine zp 11 (some 38) HT_ ?_
          refine done_ (done_of HT_.out (by kernel_rfl)) ?_
          try go_wp2
          go_roundg k2
          case measure => have := HJ2.out; have := HK2.out; omega
          case rel => exact ⟨(wrap64 (x5_2 + 1)), y34, H', ⟨(y87 HJ2.out HK2.out)⟩, ⟨(y0 BK339.out)⟩, ⟨(y0 BK340.out)⟩, ⟨(y2 HB.out GE339.out GE340.out)⟩⟩
         ·replace c18 := Bool.eq_false_iff.mpr c18
          subst c18
          rw [if_neg (show ¬ (false = true) by decide)] at H
          obtain rfl := Option.some.inj H
          have hnb23 := NB339_340.out
          have hnc23 := NB340_339.out
          have hcz24_0 := zh BK339
          have hcz24_1 := zh1 BK339
          have hfz24_0 := zfr BK339 0
          have hfz24_1 := zfr BK339 1
          try go_wp2
          replace BK339 := Aside0.mk (blk_drew BK339.out)
          replace BK340 := Aside0.mk (blk_drew BK340.out)
          replace HB := Aside0.mk (below_drew1 HB.out)
          have p341 : 0 ≤ (x5_2 : Int) := of_decide_eq_true y23
          have q341 : x5_2 < (l0_1.length : Int) := of_decide_eq_true y23
          obtain ⟨ad341, A341_1, c341_1, e341, hx341_0, hx341_1, hl341_1, hi341_1⟩ := at_T25 HR0_1.out x5_2 p341 q341
          have hw341_1 := hx341_1
          have hw341_0 := hx341_0
          cases e341
          replace hx341_0 := (HB.out.cell (World.block_lt_of_cell? w _ hx341_0)).trans hx341_0
          replace hx341_1 := (HB.out.cell (World.block_lt_of_cell? w _ hx341_1)).trans hx341_1
          have HR341_1 := Aside0.mk hi341_1
          have HC341_1 := Aside0.mk hl341_1
          clear hi341_1 hl341_1
          replace p341 := eq_true p341
          replace q341 := eq_true q341
          have p342 : 0 ≤ (x5_2 : Int) := of_decide_eq_true y23
          have q342 : x5_2 < (l1_1.length : Int) := of_decide_eq_true y23
          obtain ⟨ad342, A342_1, c342_1, e342, hx342_0, hx342_1, hl342_1, hi342_1⟩ := at_T25 HR1_1.out x5_2 p342 q342
          have hw342_1 := hx342_1
          have hw342_0 := hx342_0
          cases e342
          replace hx342_0 := (HB.out.cell (World.block_lt_of_cell? w _ hx342_0)).trans hx342_0
          replace hx342_1 := (HB.out.cell (World.block_lt_of_cell? w _ hx342_1)).trans hx342_1
          have HR342_1 := Aside0.mk hi342_1
          have HC342_1 := Aside0.mk hl342_1
          clear hi342_1 hl342_1
          replace p342 := eq_true p342
          replace q342 := eq_true q342
          refine start_ (n := 12) (S := fun w' => w'.cell? ⟨gb339, 0, none⟩ = some (.int .i64 a0_0) ∧ w'.cell? ⟨gb339, 1, none⟩ = some (.slice (some ad341) l0_1.length c0_1) ∧ w'.cell? ⟨gb340, 0, none⟩ = some (.int .i64 a1_0) ∧ w'.cell? ⟨gb340, 1, none⟩ = some (.slice (some ad342) l1_1.length c1_1) ∧ w'.cell? (ad341.add ((x5_2).toNat * 2)) = some (.int .i64 ((rd_T25 l0_1 x5_2).f0)) ∧ w'.cell? ⟨(ad341.add ((x5_2).toNat * 2)).block, (ad341.add ((x5_2).toNat * 2)).off + 1, none⟩ = some (.slice A341_1 ((rd_T25 l0_1 x5_2).f1).length c341_1) ∧ w'.cell? (ad342.add ((x5_2).toNat * 2)) = some (.int .i64 ((rd_T25 l1_1 x5_2).f0)) ∧ w'.cell? ⟨(ad342.add ((x5_2).toNat * 2)).block, (ad342.add ((x5_2).toNat * 2)).off + 1, none⟩ = some (.slice A342_1 ((rd_T25 l1_1 x5_2).f1).length c342_1)) (ds := []) #[false, false, false, false, false, false, false, false, false, false, false, false] (by kernel_rfl) rfl rfl ⟨(blk_cell BK339.out 0).trans rfl, (blk_cell BK339.out 1).trans rfl, (blk_cell BK340.out 0).trans rfl, (blk_cell BK340.out 1).trans rfl, ((HB.out.cell (World.block_lt_of_cell? w _ hw341_0)).trans hw341_0), ((HB.out.cell (World.block_lt_of_cell? w _ hw341_1)).trans hw341_1), ((HB.out.cell (World.block_lt_of_cell? w _ hw342_0)).trans hw342_0), ((HB.out.cell (World.block_lt_of_cell? w _ hw342_1)).trans hw342_1)⟩ (fun hHeld => ?_); refine with_tabW laws_lhVal.tab6 laws_lhVal.bits6 (fun HT_ HW_ => ?_)
          generalize wr.drew = w25 at BK339 BK340 HB HR341_1 HR342_1 hx341_0 hx341_1 hx342_0 hx342_1 hHeld ⊢
          refine zp 0 (some 27) HT_ ?_
          refine zp 2 (some 29) HT_ ?_
          refine zp 5 (some 32) HT_ ?_
          refine zp 7 (some 34) HT_ ?_
          refine zt8 1 (some 28) HT_ HW_ hHeld ?_
          refine zp 3 (some 30) HT_ ?_
          refine zt8 4 (some 31) HT_ HW_ hHeld ?_
          refine zt8 6 (some 33) HT_ HW_ hHeld ?_
          refine zp 8 (some 35) HT_ ?_
          refine zt8 9 (some 36) HT_ HW_ hHeld ?_
          refine one_ (i := 10) (N := some 37) #[true, true, true, true, true, true, true, true, true, true, true, false] rfl rfl (one_of HT_.out (by kernel_rfl)) (by decide) (fun K hK => ?_)
          refine goes_ Try.func15 (by kernel_rfl) rfl #[.agg #[.int .i64 ((rd_T25 l0_1 x5_2).f0), .slice A341_1 ((rd_T25 l0_1 x5_2).f1).length c341_1], .agg #[.int .i64 ((rd_T25 l1_1 x5_2).f0), .slice A342_1 ((rd_T25 l1_1 x5_2).f1).length c342_1]] (by rfl) rfl rfl y8 ?_
          with_reducible refine (ih k2 (y87 HJ2.out HK2.out) ((rd_T25 l0_1 x5_2).f0) _ _ ((rd_T25 l0_1 x5_2).f1) ((rd_T25 l1_1 x5_2).f0) _ _ ((rd_T25 l1_1 x5_2).f1) false _ ?side1 ?side2 ?side3 ?side4 A17.out).mono ?_
          (case side1 => exact y15 HR341_1.out HB.out)
          (case side2 => exact HC341_1.out)
          (case side3 => exact y15 HR342_1.out HB.out)
          (case side4 => exact HC342_1.out)
          rintro e w26 ⟨rfl, hb⟩
          refine ⟨_, rfl, ?_⟩
          replace BK339 := zbb BK339 hb
          replace BK340 := zbb BK340 hb
          replace HB := Aside0.mk (below_step (y2 HB.out GE339.out GE340.out) hb)
          (try clear hb)
          (try clear hb2)
          (try clear hk)
          (try clear hi)
          refine hK.out _ _ ⟨(blk_cell BK339.out 0).trans rfl, (blk_cell BK339.out 1).trans rfl, (blk_cell BK340.out 0).trans rfl, (blk_cell BK340.out 1).trans rfl, ((HB.out.cell (World.block_lt_of_cell? w _ hw341_0)).trans hw341_0), ((HB.out.cell (World.block_lt_of_cell? w _ hw341_1)).trans hw341_1), ((HB.out.cell (World.block_lt_of_cell? w _ hw342_0)).trans hw342_0), ((HB.out.cell (World.block_lt_of_cell? w _ hw342_1)).trans hw342_1)⟩ (fun hHeld => ?_)
          clear hK K
          refine norm_ (a' := ?_) ?_ ?_
          rotate_left
          ·show Act.put _ (some 37) _ = _
           simp only [Act.put, List.setIfInBounds_toArray, List.set_cons_zero, List.set_cons_succ, i64_w, i32_w]
           rfl
          refine zp 11 (some 38) HT_ ?_
          refine done_ (done_of HT_.out (by kernel_rfl)) ?_
          try go_wp2
          go_ret
          exact ⟨y19, (y2 HB.out GE339.out GE340.out)⟩
        ·rw [if_neg c16] at H
         exact absurd H (by simp)
       ·rw [if_neg c15] at H
        exact absurd H (by simp)
      ·rw [if_neg c14] at H
       have c14b0 : decide (x5_2 < (l0_1.length : Int)) = false := decide_eq_false c14
       clear c14
       obtain rfl := Option.some.inj H
       have hnb27 := NB339_340.out
       have hnc27 := NB340_339.out
       have hcz28_0 := zh BK339
       have hcz28_1 := zh1 BK339
       have hfz28_0 := zfr BK339 0
       have hfz28_1 := zfr BK339 1
       go_wp2
       go_ret
       exact ⟨y19, (y2 HB.out GE339.out GE340.out)⟩
end Go.Proofs.Ythfflieeifakdaa.PA
end
section
namespace Go.Proofs.Ythfflieeifakdaa.PA
open Go.RowKit Go.Proofs.YthfflieeifakdaaW.PrintWords Go.Proofs.YthfflieeifakdaaW.PrintLast Go.Proofs.YthfflieeifakdaaW.PrintMore
attribute [local go_sem] max2_int min2_int max_two min_two max_three min_three max_four min_four
set_option linter.unusedVariables false
set_option linter.unusedSimpArgs false
mutual
def impl_typeSame.l0 : Nat → Int → Int → List (S50) → List (S50) → Option (Bool)
 | 0, _, _, _, _ => none
 | k + 1, x15, x16, x493000, x494000 => if x16 < x15 then (if 0 ≤ x16 then (if x16 < (x493000.length : Int) then (if x16 < (x494000.length : Int) then ((impl_typeSame.f k ((rd_T50 x493000 x16).f0) ((rd_T50 x494000 x16).f0)).bind fun t496 => (if t496 = true then (impl_typeSame.l0 k x15 (wrap64 (x16 + 1)) x493000 x494000) else (some false))) else (none)) else (none)) else (none)) else (some true)
def impl_typeSame.f : Nat → List (S50) → List (S50) → Option (Bool)
 | 0, _, _ => none
 | k + 1, l0_0, l1_0 => if (l0_0.length : Int) = (l1_0.length : Int) then (impl_typeSame.l0 k (l0_0.length : Int) 0 l0_0 l1_0) else (some false)
end
theorem impl_typeSame.mono_l : ∀ k, (∀ y0 y1, LeO (impl_typeSame.f k y0 y1) (impl_typeSame.f (k + 1) y0 y1)) ∧ (∀ y0 y1 y2 y3, LeO (impl_typeSame.l0 k y0 y1 y2 y3) (impl_typeSame.l0 (k + 1) y0 y1 y2 y3))
 | 0 => ⟨fun _ _ r h => by simp [impl_typeSame.f] at h, fun _ _ _ _ r h => by simp [impl_typeSame.l0] at h⟩
 | k + 1 => by
  obtain ⟨ih0, ih1⟩ := impl_typeSame.mono_l k
  refine ⟨?_, ?_⟩
  ·intro y0 y1
   unfold impl_typeSame.f
   repeat' first
   | (with_reducible exact ih0 _ _)
   | (with_reducible exact ih1 _ _ _ _)
   | (with_reducible exact LeO.refl _)
   | (with_reducible exact LeO.none _)
   | (with_reducible refine LeO.ite ?_ ?_)
   | (with_reducible refine LeO.bind ?_ (fun _ => ?_))
   | exact ih0 _ _
   | exact ih1 _ _ _ _
   | exact LeO.none _
   | refine LeO.ite ?_ ?_
   | refine LeO.bind ?_ (fun _ => ?_)
  ·intro y0 y1 y2 y3
   unfold impl_typeSame.l0
   repeat' first
   | (with_reducible exact ih0 _ _)
   | (with_reducible exact ih1 _ _ _ _)
   | (with_reducible exact LeO.refl _)
   | (with_reducible exact LeO.none _)
   | (with_reducible refine LeO.ite ?_ ?_)
   | (with_reducible refine LeO.bind ?_ (fun _ => ?_))
   | exact ih0 _ _
   | exact ih1 _ _ _ _
   | exact LeO.none _
   | refine LeO.ite ?_ ?_
   | refine LeO.bind ?_ (fun _ => ?_)
theorem impl_typeSame.mono : ∀ a0 a1 k, LeO (impl_typeSame.f k a0 a1) (impl_typeSame.f (k + 1) a0 a1) := by
 intro a0 a1 k
 obtain ⟨ih0, ih1⟩ := impl_typeSame.mono_l k
 exact ih0 a0 a1
def impl_typeSame.T6 : Bool × List (List Nat × List Nat) := (true, [([], []), ([0], [0]), ([], []), ([1, 2], [1, 2]), ([3], [3]), ([], []), ([5], [5]), ([], []), ([6, 7], [6, 7]), ([8], [8]), ([4, 9], [4, 9]), ([10], [10])])
def impl_typeSame.B6 : List Nat := [0, 1, 0, 7, 15, 0, 32, 0, 224, 480, 1023, 2047]
theorem impl_typeSame.tab6 : rtab .any (opsOf Try.f46 6) = impl_typeSame.T6 := by kernel_rfl
theorem impl_typeSame.bits6 : waitsOk impl_typeSame.T6.2 impl_typeSame.B6 = true := by kernel_rfl
set_option maxHeartbeats 8000000 in
set_option maxRecDepth 100000 in
theorem impl_typeSame.calls (k : Nat) : ∀ (A0_0 : Option Addr) (c0_0 : Nat) (l0_0 : List (S50)) (A1_0 : Option Addr) (c1_0 : Nat) (l1_0 : List (S50)) (r : Bool) (w : World) (hr0_0 : Kd.C k50 w A0_0 l0_0.length l0_0) (hc0_0 : l0_0.length ≤ c0_0) (hr1_0 : Kd.C k50 w A1_0 l1_0.length l1_0) (hc1_0 : l1_0.length ≤ c1_0) (h : impl_typeSame.f k l0_0 l1_0 = some r),
  Calls Try.prog 46 #[.agg #[.slice A0_0 l0_0.length c0_0], .agg #[.slice A1_0 l1_0.length c1_0]] w fun e w' => e = .returned (.bool r) ∧ Below w.heap.size w w' := by
 induction k using Nat.strongRecOn with
 | _ k ih =>
 intro A0_0 c0_0 l0_0 A1_0 c1_0 l1_0 r w hr0_0 hc0_0 hr1_0 hc1_0 h
 cases k with
 | zero => exact absurd h (by simp [impl_typeSame.f])
 | succ k =>
 simp only [impl_typeSame.f] at h
 have hu50 := Try.underlying50
 have HR0_0 := Aside0.mk hr0_0
 have HC0_0 := Aside0.mk hc0_0
 clear hr0_0 hc0_0
 have HR1_0 := Aside0.mk hr1_0
 have HC1_0 := Aside0.mk hc1_0
 clear hr1_0 hc1_0
 have HB := Aside0.mk (Below.refl w.heap.size w)
 have H : (if (l0_0.length : Int) = (l1_0.length : Int) then (impl_typeSame.l0 k (l0_0.length : Int) 0 l0_0 l1_0) else (some false)) = some r := h
 clear h
 by_cases c3 : (l0_0.length : Int) = (l1_0.length : Int)
 ·rw [if_pos c3] at H
  have c3b0 : ((l0_0.length : Int) == (l1_0.length : Int)) = true := beq_iff_eq.mpr c3
  have c3b1 : ((l0_0.length : Int) != (l1_0.length : Int)) = false := bne_eq_false_iff_eq.mpr c3
  have c3b2 : (l0_0.length == l1_0.length) = true := by first | simpa using c3 | (simp at c3 ⊢; omega)
  clear c3
  have H' := Aside0.mk H
  clear H
  go_enter Try.func46, Try.ntmps46
  go_wp2_with (first | ((with_reducible refine gate_dst (N := 2) rfl ?_); refine zbx 2 #[.slice A0_0 l0_0.length c0_0] 50 ?_; intro gb492 hg w4 hbox hb; have BK492 := Aside0.mk hbox; have GW492 := Aside0.mk ((y9 hg HB.out : w.heap.size ≤ gb492)); have GE492 := Aside0.mk ((y9 hg HB.out : w.heap.size ≤ gb492)); replace HB := Aside0.mk (below_step (y5 HB.out) hb); clear hb hbox hg) | ((with_reducible refine gate_dst (N := 3) rfl ?_); refine zbx 3 #[.slice A1_0 l1_0.length c1_0] 50 ?_; intro gb493 hg w5 hbox hb; have BK493 := Aside0.mk hbox; have GW493 := Aside0.mk ((y11 hg HB.out GE492.out : w.heap.size ≤ gb493)); have GE493 := Aside0.mk ((y11 hg HB.out GE492.out : w.heap.size ≤ gb493)); replace HB := Aside0.mk (below_step (y6 HB.out GE492.out) hb); have NB492_493 := zltn hg BK492; have NB493_492 := zgtn hg BK492; replace BK492 := zbb BK492 hb; clear hb hbox hg; have hnb6 := NB492_493.out; have hnc6 := NB493_492.out; have hcz7_0 := zh BK492; have hfz7_0 := zfr BK492 0; have hcz8_0 := zh BK493; have hfz8_0 := zfr BK493 0))
  go_loopg [16] k (fun kq v16 w' => ∃ (x16_1 : Int), v16 = .int .i64 x16_1 ∧ Aside0 (impl_typeSame.l0 kq (l0_0.length : Int) x16_1 l0_0 l1_0 = some r) ∧ Aside0 (kq ≤ k) ∧ Aside0 (w'.heap[gb492]? = some (.cells #[(.slice A0_0 l0_0.length c0_0)] 50 (0, 0))) ∧ Aside0 (w'.heap[gb493]? = some (.cells #[(.slice A1_0 l1_0.length c1_0)] 50 (0, 0))) ∧ Aside0 (Below w.heap.size w w'))
  case atStart => exact ⟨(0), y34, H', ⟨Nat.le_refl _⟩, ⟨(y0 BK492.out)⟩, ⟨(y0 BK493.out)⟩, ⟨(y2 HB.out GE492.out GE493.out)⟩⟩
  case round =>
   clear H'
   try clear c1
   try clear p2
   try clear c3
   try clear c3b0
   try clear c3b1
   try clear c3b2
   try clear c4
   try clear c6
   try clear hcz7_0
   try clear hcz8_0
   try clear hfz7_0
   try clear hfz8_0
   (try clear BK492); (try clear BK493)
   obtain ⟨x16_1, rfl, HA, HK1, BK492, BK493, HB⟩ := hrel
   cases gk with
   | zero => exact absurd HA.out (by simp [impl_typeSame.l0])
   | succ k1 =>
    have H := HA.out
    clear HA
    simp only [impl_typeSame.l0] at H
    by_cases c9 : x16_1 < (l0_0.length : Int)
    ·rw [if_pos c9] at H
     have c9b0 : decide (x16_1 < (l0_0.length : Int)) = true := decide_eq_true c9
     clear c9
     by_cases c10 : 0 ≤ x16_1
     ·rw [if_pos c10] at H
      have c10b0 : decide (0 ≤ x16_1) = true := decide_eq_true c10
      clear c10
      by_cases c11 : x16_1 < (l0_0.length : Int)
      ·rw [if_pos c11] at H
       have c11b0 : decide (x16_1 < (l0_0.length : Int)) = true := decide_eq_true c11
       clear c11
       by_cases c12 : x16_1 < (l1_0.length : Int)
       ·rw [if_pos c12] at H
        have c12b0 : decide (x16_1 < (l1_0.length : Int)) = true := decide_eq_true c12
        clear c12
        obtain ⟨t496, A130, H⟩ := ob H
        have A13 := Aside0.mk A130
        clear A130
        by_cases c14 : t496 = true
        ·subst c14
         rw [if_pos rfl] at H
         have H' := Aside0.mk H
         clear H
         try go_wp2
         replace BK492 := Aside0.mk (blk_drew BK492.out)
         replace BK493 := Aside0.mk (blk_drew BK493.out)
         replace HB := Aside0.mk (below_drew1 HB.out)
         have p494 : 0 ≤ (x16_1 : Int) := of_decide_eq_true y23
         have q494 : x16_1 < (l0_0.length : Int) := of_decide_eq_true y23
         obtain ⟨ad494, A494_0, c494_0, e494, hx494_0, hl494_0, hi494_0⟩ := at_T50 HR0_0.out x16_1 p494 q494
         have hw494_0 := hx494_0
         cases e494
         replace hx494_0 := (HB.out.cell (World.block_lt_of_cell? w _ hx494_0)).trans hx494_0
         have HR494_0 := Aside0.mk hi494_0
         have HC494_0 := Aside0.mk hl494_0
         clear hi494_0 hl494_0
         replace p494 := eq_true p494
         replace q494 := eq_true q494
         have p495 : 0 ≤ (x16_1 : Int) := of_decide_eq_true y23
         have q495 : x16_1 < (l1_0.length : Int) := of_decide_eq_true y23
         obtain ⟨ad495, A495_0, c495_0, e495, hx495_0, hl495_0, hi495_0⟩ := at_T50 HR1_0.out x16_1 p495 q495
         have hw495_0 := hx495_0
         cases e495
         replace hx495_0 := (HB.out.cell (World.block_lt_of_cell? w _ hx495_0)).trans hx495_0
         have HR495_0 := Aside0.mk hi495_0
         have HC495_0 := Aside0.mk hl495_0
         clear hi495_0 hl495_0
         replace p495 := eq_true p495
         replace q495 := eq_true q495
         refine start_ (n := 12) (S := fun w' => w'.cell? ⟨gb492, 0, none⟩ = some (.slice (some ad494) l0_0.length c0_0) ∧ w'.cell? ⟨gb493, 0, none⟩ = some (.slice (some ad495) l1_0.length c1_0) ∧ w'.cell? (ad494.add (x16_1).toNat) = some (.slice A494_0 ((rd_T50 l0_0 x16_1).f0).length c494_0) ∧ w'.cell? (ad495.add (x16_1).toNat) = some (.slice A495_0 ((rd_T50 l1_0 x16_1).f0).length c495_0)) (ds := []) #[false, false, false, false, false, false, false, false, false, false, false, false] (by kernel_rfl) rfl rfl ⟨(blk_cell BK492.out 0).trans rfl, (blk_cell BK493.out 0).trans rfl, ((HB.out.cell (World.block_lt_of_cell? w _ hw494_0)).trans hw494_0), ((HB.out.cell (World.block_lt_of_cell? w _ hw495_0)).trans hw495_0)⟩ (fun hHeld => ?_); refine with_tabW impl_typeSame.tab6 impl_typeSame.bits6 (fun HT_ HW_ => ?_)
         generalize wr.drew = w15 at BK492 BK493 HB HR494_0 HR495_0 hx494_0 hx495_0 hHeld ⊢
         refine zp 0 (some 19) HT_ ?_
         refine zp 2 (some 21) HT_ ?_
         refine zp 5 (some 24) HT_ ?_
         refine zp 7 (some 26) HT_ ?_
         refine zt4 1 (some 20) HT_ HW_ hHeld ?_
         refine zp 3 (some 22) HT_ ?_
         refine zt4 4 (some 23) HT_ HW_ hHeld ?_
         refine zt4 6 (some 25) HT_ HW_ hHeld ?_
         refine zp 8 (some 27) HT_ ?_
         refine zt4 9 (some 28) HT_ HW_ hHeld ?_
         refine one_ (i := 10) (N := some 29) #[true, true, true, true, true, true, true, true, true, true, true, false] rfl rfl (one_of HT_.out (by kernel_rfl)) (by decide) (fun K hK => ?_)
         refine goes_ Try.func46 (by kernel_rfl) rfl #[.agg #[.slice A494_0 ((rd_T50 l0_0 x16_1).f0).length c494_0], .agg #[.slice A495_0 ((rd_T50 l1_0 x16_1).f0).length c495_0]] (by rfl) rfl rfl y8 ?_
         with_reducible refine (ih k1 (y57 HK1.out) _ _ ((rd_T50 l0_0 x16_1).f0) _ _ ((rd_T50 l1_0 x16_1).f0) true _ ?side1 ?side2 ?side3 ?side4 A13.out).mono ?_
         (case side1 => exact y15 HR494_0.out HB.out)
         (case side2 => exact HC494_0.out)
         (case side3 => exact y15 HR495_0.out HB.out)
         (case side4 => exact HC495_0.out)
         rintro e w16 ⟨rfl, hb⟩
         refine ⟨_, rfl, ?_⟩
         replace BK492 := zbb BK492 hb
         replace BK493 := zbb BK493 hb
         replace HB := Aside0.mk (below_step (y2 HB.out GE492.out GE493.out) hb)
         (try clear hb)
         (try clear hb2)
         (try clear hk)
         (try clear hi)
         refine hK.out _ _ ⟨(blk_cell BK492.out 0).trans rfl, (blk_cell BK493.out 0).trans rfl, ((HB.out.cell (World.block_lt_of_cell? w _ hw494_0)).trans hw494_0), ((HB.out.cell (World.block_lt_of_cell? w _ hw495_0)).trans hw495_0)⟩ (fun hHeld => ?_)
         clear hK K
         refine norm_ (a' := ?_) ?_ ?_
         rotate_left
         ·show Act.put _ (some 29) _ = _
          simp only [Act.put, List.setIfInBounds_toArray, List.set_cons_zero, List.set_cons_succ, i64_w, i32_w]
          rfl
         refine zp 11 (some 30) HT_ ?_
         refine done_ (done_of HT_.out (by kernel_rfl)) ?_
         try go_wp2
         go_roundg k1
         case measure => have := HK1.out; omega
         case rel => exact ⟨(wrap64 (x16_1 + 1)), y34, H', ⟨(y57 HK1.out)⟩, ⟨(y0 BK492.out)⟩, ⟨(y0 BK493.out)⟩, ⟨(y2 HB.out GE492.out GE493.out)⟩⟩
        ·replace c14 := Bool.eq_false_iff.mpr c14
         subst c14
         rw [if_neg (show ¬ (false = true) by decide)] at H
         obtain rfl := Option.some.inj H
         try go_wp2
         replace BK492 := Aside0.mk (blk_drew BK492.out)
         replace BK493 := Aside0.mk (blk_drew BK493.out)
         replace HB := Aside0.mk (below_drew1 HB.out)
         have p494 : 0 ≤ (x16_1 : Int) := of_decide_eq_true y23
         have q494 : x16_1 < (l0_0.length : Int) := of_decide_eq_true y23
         obtain ⟨ad494, A494_0, c494_0, e494, hx494_0, hl494_0, hi494_0⟩ := at_T50 HR0_0.out x16_1 p494 q494
         have hw494_0 := hx494_0
         cases e494
         replace hx494_0 := (HB.out.cell (World.block_lt_of_cell? w _ hx494_0)).trans hx494_0
         have HR494_0 := Aside0.mk hi494_0
         have HC494_0 := Aside0.mk hl494_0
         clear hi494_0 hl494_0
         replace p494 := eq_true p494
         replace q494 := eq_true q494
         have p495 : 0 ≤ (x16_1 : Int) := of_decide_eq_true y23
         have q495 : x16_1 < (l1_0.length : Int) := of_decide_eq_true y23
         obtain ⟨ad495, A495_0, c495_0, e495, hx495_0, hl495_0, hi495_0⟩ := at_T50 HR1_0.out x16_1 p495 q495
         have hw495_0 := hx495_0
         cases e495
         replace hx495_0 := (HB.out.cell (World.block_lt_of_cell? w _ hx495_0)).trans hx495_0
         have HR495_0 := Aside0.mk hi495_0
         have HC495_0 := Aside0.mk hl495_0
         clear hi495_0 hl495_0
         replace p495 := eq_true p495
         replace q495 := eq_true q495
         refine start_ (n := 12) (S := fun w' => w'.cell? ⟨gb492, 0, none⟩ = some (.slice (some ad494) l0_0.length c0_0) ∧ w'.cell? ⟨gb493, 0, none⟩ = some (.slice (some ad495) l1_0.length c1_0) ∧ w'.cell? (ad494.add (x16_1).toNat) = some (.slice A494_0 ((rd_T50 l0_0 x16_1).f0).length c494_0) ∧ w'.cell? (ad495.add (x16_1).toNat) = some (.slice A495_0 ((rd_T50 l1_0 x16_1).f0).length c495_0)) (ds := []) #[false, false, false, false, false, false, false, false, false, false, false, false] (by kernel_rfl) rfl rfl ⟨(blk_cell BK492.out 0).trans rfl, (blk_cell BK493.out 0).trans rfl, ((HB.out.cell (World.block_lt_of_cell? w _ hw494_0)).trans hw494_0), ((HB.out.cell (World.block_lt_of_cell? w _ hw495_0)).trans hw495_0)⟩ (fun hHeld => ?_); refine with_tabW impl_typeSame.tab6 impl_typeSame.bits6 (fun HT_ HW_ => ?_)
         generalize wr.drew = w17 at BK492 BK493 HB HR494_0 HR495_0 hx494_0 hx495_0 hHeld ⊢
         refine zp 0 (some 19) HT_ ?_
         refine zp 2 (some 21) HT_ ?_
         refine zp 5 (some 24) HT_ ?_
         refine zp 7 (some 26) HT_ ?_
         refine zt4 1 (some 20) HT_ HW_ hHeld ?_
         refine zp 3 (some 22) HT_ ?_
         refine zt4 4 (some 23) HT_ HW_ hHeld ?_
         refine zt4 6 (some 25) HT_ HW_ hHeld ?_
         refine zp 8 (some 27) HT_ ?_
         refine zt4 9 (some 28) HT_ HW_ hHeld ?_
         refine one_ (i := 10) (N := some 29) #[true, true, true, true, true, true, true, true, true, true, true, false] rfl rfl (one_of HT_.out (by kernel_rfl)) (by decide) (fun K hK => ?_)
         refine goes_ Try.func46 (by kernel_rfl) rfl #[.agg #[.slice A494_0 ((rd_T50 l0_0 x16_1).f0).length c494_0], .agg #[.slice A495_0 ((rd_T50 l1_0 x16_1).f0).length c495_0]] (by rfl) rfl rfl y8 ?_
         with_reducible refine (ih k1 (y57 HK1.out) _ _ ((rd_T50 l0_0 x16_1).f0) _ _ ((rd_T50 l1_0 x16_1).f0) false _ ?side1 ?side2 ?side3 ?side4 A13.out).mono ?_
         (case side1 => exact y15 HR494_0.out HB.out)
         (case side2 => exact HC494_0.out)
         (case side3 => exact y15 HR495_0.out HB.out)
         (case side4 => exact HC495_0.out)
         rintro e w18 ⟨rfl, hb⟩
         refine ⟨_, rfl, ?_⟩
         replace BK492 := zbb BK492 hb
         replace BK493 := zbb BK493 hb
         replace HB := Aside0.mk (below_step (y2 HB.out GE492.out GE493.out) hb)
         (try clear hb)
         (try clear hb2)
         (try clear hk)
         (try clear hi)
         refine hK.out _ _ ⟨(blk_cell BK492.out 0).trans rfl, (blk_cell BK493.out 0).trans rfl, ((HB.out.cell (World.block_lt_of_cell? w _ hw494_0)).trans hw494_0), ((HB.out.cell (World.block_lt_of_cell? w _ hw495_0)).trans hw495_0)⟩ (fun hHeld => ?_)
         clear hK K
         refine norm_ (a' := ?_) ?_ ?_
         rotate_left
         ·show Act.put _ (some 29) _ = _
          simp only [Act.put, List.setIfInBounds_toArray, List.set_cons_zero, List.set_cons_succ, i64_w, i32_w]
          rfl
         refine zp 11 (some 30) HT_ ?_
         refine done_ (done_of HT_.out (by kernel_rfl)) ?_
         try go_wp2
         go_ret
         exact ⟨y19, (y2 HB.out GE492.out GE493.out)⟩
       ·rw [if_neg c12] at H
        exact absurd H (by simp)
      ·rw [if_neg c11] at H
       exact absurd H (by simp)
     ·rw [if_neg c10] at H
      exact absurd H (by simp)
    ·rw [if_neg c9] at H
     have c9b0 : decide (x16_1 < (l0_0.length : Int)) = false := decide_eq_false c9
     clear c9
     obtain rfl := Option.some.inj H
     go_wp2
     go_ret
     exact ⟨y19, (y2 HB.out GE492.out GE493.out)⟩
 ·rw [if_neg c3] at H
  have c3b0 : ((l0_0.length : Int) == (l1_0.length : Int)) = false := beq_eq_false_iff_ne.mpr c3
  have c3b1 : ((l0_0.length : Int) != (l1_0.length : Int)) = true := bne_iff_ne.mpr c3
  have c3b2 : (l0_0.length == l1_0.length) = false := by first | simpa using c3 | (simp at c3 ⊢; omega)
  obtain rfl := Option.some.inj H
  go_enter Try.func46, Try.ntmps46
  go_wp2_with (first | ((with_reducible refine gate_dst (N := 2) rfl ?_); refine zbx 2 #[.slice A0_0 l0_0.length c0_0] 50 ?_; intro gb492 hg w19 hbox hb; have BK492 := Aside0.mk hbox; have GW492 := Aside0.mk ((y9 hg HB.out : w.heap.size ≤ gb492)); have GE492 := Aside0.mk ((y9 hg HB.out : w.heap.size ≤ gb492)); replace HB := Aside0.mk (below_step (y5 HB.out) hb); clear hb hbox hg) | ((with_reducible refine gate_dst (N := 3) rfl ?_); refine zbx 3 #[.slice A1_0 l1_0.length c1_0] 50 ?_; intro gb493 hg w20 hbox hb; have BK493 := Aside0.mk hbox; have GW493 := Aside0.mk ((y11 hg HB.out GE492.out : w.heap.size ≤ gb493)); have GE493 := Aside0.mk ((y11 hg HB.out GE492.out : w.heap.size ≤ gb493)); replace HB := Aside0.mk (below_step (y6 HB.out GE492.out) hb); have NB492_493 := zltn hg BK492; have NB493_492 := zgtn hg BK492; replace BK492 := zbb BK492 hb; clear hb hbox hg; have hnb21 := NB492_493.out; have hnc21 := NB493_492.out; have hcz22_0 := zh BK492; have hfz22_0 := zfr BK492 0; have hcz23_0 := zh BK493; have hfz23_0 := zfr BK493 0))
  go_ret
  exact ⟨y19, (y2 HB.out GE492.out GE493.out)⟩
end Go.Proofs.Ythfflieeifakdaa.PA
end
section
namespace Go.Proofs.Ythfflieeifakdaa.PA
open Go.RowKit Go.Proofs.YthfflieeifakdaaW.PrintWords Go.Proofs.YthfflieeifakdaaW.PrintLast Go.Proofs.YthfflieeifakdaaW.PrintMore
attribute [local go_sem] max2_int min2_int max_two min_two max_three min_three max_four min_four
set_option linter.unusedVariables false
set_option linter.unusedSimpArgs false
mutual
def impl_valWith.l0 : Nat → List Int → List (S25) → List (S25) → Int → Int → Int → List (S25) → Option (Int × (List (S25)))
 | 0, _, _, _, _, _, _, _ => none
 | k + 1, x1, x7, x19, x20, x21, x499000, x499001 => if x21 < x20 then (if 0 ≤ x21 then (if x21 < (x19.length : Int) then (if 0 < (x1.length : Int) then (if x21 = (rd x1 0) then (if 1 ≤ (x1.length : Int) then ((impl_valWith.f k ((rd_T25 x19 x21).f0) ((rd_T25 x19 x21).f1) (x1.drop 1) x499000 x499001).bind fun bt511 => (if x21 < (x7.length : Int) then (impl_valWith.l0 k x1 (x7.set (x21 : Int).toNat (⟨bt511.1, bt511.2⟩ : S25)) x19 x20 (wrap64 (x21 + 1)) x499000 x499001) else (none))) else (none)) else ((impl_valCopy.f k ((rd_T25 x19 x21).f0) ((rd_T25 x19 x21).f1)).bind fun bt516 => (if x21 < (x7.length : Int) then (impl_valWith.l0 k x1 (x7.set (x21 : Int).toNat (⟨bt516.1, bt516.2⟩ : S25)) x19 x20 (wrap64 (x21 + 1)) x499000 x499001) else (none)))) else (none)) else (none)) else (none)) else (some (0, x7))
def impl_valWith.f : Nat → Int → List (S25) → List Int → Int → List (S25) → Option (Int × (List (S25)))
 | 0, _, _, _, _, _ => none
 | k + 1, a0_0, l0_1, l1, a2_0, l2_1 => if (l1.length : Int) = 0 then ((impl_valCopy.f k a2_0 l2_1).bind fun bt500 => (some (bt500.1, bt500.2))) else (impl_valWith.l0 k l1 (([(⟨0, ([] : List (S25))⟩ : S25), (⟨0, ([] : List (S25))⟩ : S25)] : List (S25))) l0_1 (l0_1.length : Int) 0 a2_0 l2_1)
end
theorem impl_valWith.mono_l : ∀ k, (∀ y0 y1 y2 y3 y4, LeO (impl_valWith.f k y0 y1 y2 y3 y4) (impl_valWith.f (k + 1) y0 y1 y2 y3 y4)) ∧ (∀ y0 y1 y2 y3 y4 y5 y6, LeO (impl_valWith.l0 k y0 y1 y2 y3 y4 y5 y6) (impl_valWith.l0 (k + 1) y0 y1 y2 y3 y4 y5 y6))
 | 0 => ⟨fun _ _ _ _ _ r h => by simp [impl_valWith.f] at h, fun _ _ _ _ _ _ _ r h => by simp [impl_valWith.l0] at h⟩
 | k + 1 => by
  obtain ⟨ih0, ih1⟩ := impl_valWith.mono_l k
  refine ⟨?_, ?_⟩
  ·intro y0 y1 y2 y3 y4
   unfold impl_valWith.f
   repeat' first
   | (with_reducible exact ih0 _ _ _ _ _)
   | (with_reducible exact ih1 _ _ _ _ _ _ _)
   | (with_reducible exact impl_valCopy.mono _ _ _)
   | (with_reducible exact LeO.refl _)
   | (with_reducible exact LeO.none _)
   | (with_reducible refine LeO.ite ?_ ?_)
   | (with_reducible refine LeO.bind ?_ (fun _ => ?_))
   | exact ih0 _ _ _ _ _
   | exact ih1 _ _ _ _ _ _ _
   | exact impl_valCopy.mono _ _ _
   | exact LeO.none _
   | refine LeO.ite ?_ ?_
   | refine LeO.bind ?_ (fun _ => ?_)
  ·intro y0 y1 y2 y3 y4 y5 y6
   unfold impl_valWith.l0
   repeat' first
   | (with_reducible exact ih0 _ _ _ _ _)
   | (with_reducible exact ih1 _ _ _ _ _ _ _)
   | (with_reducible exact impl_valCopy.mono _ _ _)
   | (with_reducible exact LeO.refl _)
   | (with_reducible exact LeO.none _)
   | (with_reducible refine LeO.ite ?_ ?_)
   | (with_reducible refine LeO.bind ?_ (fun _ => ?_))
   | exact ih0 _ _ _ _ _
   | exact ih1 _ _ _ _ _ _ _
   | exact impl_valCopy.mono _ _ _
   | exact LeO.none _
   | refine LeO.ite ?_ ?_
   | refine LeO.bind ?_ (fun _ => ?_)
theorem impl_valWith.mono : ∀ a0 a1 a2 a3 a4 k, LeO (impl_valWith.f k a0 a1 a2 a3 a4) (impl_valWith.f (k + 1) a0 a1 a2 a3 a4) := by
 intro a0 a1 a2 a3 a4 k
 obtain ⟨ih0, ih1⟩ := impl_valWith.mono_l k
 exact ih0 a0 a1 a2 a3 a4
def impl_valWith.T8 : Bool × List (List Nat × List Nat) := (true, [([], []), ([], []), ([], []), ([], []), ([3], [3]), ([], []), ([2, 4, 5], [2, 4, 5]), ([0, 1, 0, 1, 2, 3, 4, 5, 6], [0, 1]), ([7, 6, 6, 0, 1, 2, 3, 4, 5, 6], [6, 7])])
def impl_valWith.B8 : List Nat := [0, 0, 0, 0, 8, 0, 60, 127, 255]
theorem impl_valWith.tab8 : rtab .any (opsOf Try.f47 8) = impl_valWith.T8 := by kernel_rfl
theorem impl_valWith.bits8 : waitsOk impl_valWith.T8.2 impl_valWith.B8 = true := by kernel_rfl
set_option maxHeartbeats 8000000 in
set_option maxRecDepth 100000 in
theorem impl_valWith.calls (k : Nat) : ∀ (a0_0 : Int) (P0_1_ : Nat → Prop) (A0_1 : Option Addr) (c0_1 : Nat) (l0_1 : List (S25)) (A1 : Option Addr) (c1 : Nat) (l1 : List Int) (a2_0 : Int) (P2_1_ : Nat → Prop) (A2_1 : Option Addr) (c2_1 : Nat) (l2_1 : List (S25)) (r1 : Int) (r2 : List (S25)) (w : World) (hs0_1 : Kd.V k25 25 w w.heap.size (fun k_ => P0_1_ k_) (.slice A0_1 l0_1.length c0_1) l0_1) (hr1 : Kd.C (Kd.int .i64) w A1 l1.length l1) (hc1 : l1.length ≤ c1) (hs2_1 : Kd.V k25 25 w w.heap.size (fun k_ => P2_1_ k_) (.slice A2_1 l2_1.length c2_1) l2_1) (h : impl_valWith.f k a0_0 l0_1 l1 a2_0 l2_1 = some (r1, r2)),
  Calls Try.prog 47 #[.agg #[.int .i64 a0_0, .slice A0_1 l0_1.length c0_1], .slice A1 l1.length c1, .agg #[.int .i64 a2_0, .slice A2_1 l2_1.length c2_1]] w fun e w' => ∃ v1_ : Value, e = .returned (.agg #[.int .i64 r1, v1_]) ∧ Kd.N k25 25 w' w.heap.size (fun k_ => ((P0_1_ k_ ∨ P2_1_ k_) ∨ w.heap.size ≤ k_)) v1_ r2 ∧ Below w.heap.size w w' := by
 induction k using Nat.strongRecOn with
 | _ k ih =>
 intro a0_0 P0_1_ A0_1 c0_1 l0_1 A1 c1 l1 a2_0 P2_1_ A2_1 c2_1 l2_1 r1 r2 w hs0_1 hr1 hc1 hs2_1 h
 cases k with
 | zero => exact absurd h (by simp [impl_valWith.f])
 | succ k =>
 simp only [impl_valWith.f] at h
 have hu25 := Try.underlying25
 have HO0_1 := Aside0.mk (show Kd.V k25 25 w w.heap.size (fun k_ => ((P0_1_ k_ ∨ P2_1_ k_) ∨ w.heap.size ≤ k_)) (.slice A0_1 l0_1.length c0_1) l0_1 from Kd.V_mono hs0_1 (fun k_ hk => .inl (.inl hk)))
 have HR1 := Aside0.mk hr1
 have HC1 := Aside0.mk hc1
 clear hr1 hc1
 have HO2_1 := Aside0.mk (show Kd.V k25 25 w w.heap.size (fun k_ => ((P0_1_ k_ ∨ P2_1_ k_) ∨ w.heap.size ≤ k_)) (.slice A2_1 l2_1.length c2_1) l2_1 from Kd.V_mono hs2_1 (fun k_ hk => .inl (.inr hk)))
 have HB := Aside0.mk (Below.refl w.heap.size w)
 have H : (if (l1.length : Int) = 0 then ((impl_valCopy.f k a2_0 l2_1).bind fun bt500 => (some (bt500.1, bt500.2))) else (impl_valWith.l0 k l1 (([(⟨0, ([] : List (S25))⟩ : S25), (⟨0, ([] : List (S25))⟩ : S25)] : List (S25))) l0_1 (l0_1.length : Int) 0 a2_0 l2_1)) = some (r1, r2) := h
 clear h
 by_cases c4 : (l1.length : Int) = 0
 ·rw [if_pos c4] at H
  have c4b0 : ((l1.length : Int) == 0) = true := beq_iff_eq.mpr c4
  have c4b1 : ((l1.length : Int) != 0) = false := bne_eq_false_iff_eq.mpr c4
  clear c4
  obtain ⟨⟨t500, t501⟩, A50, H⟩ := ob H
  have A5 := Aside0.mk A50
  clear A50
  simp only [Option.some.injEq, Prod.mk.injEq] at H
  obtain ⟨rfl, rfl⟩ := H
  go_enter Try.func47, Try.ntmps47
  go_wp2_with (first | ((with_reducible refine gate_dst (N := 3) rfl ?_); refine zbx 3 #[.int .i64 a0_0, .slice A0_1 l0_1.length c0_1] 25 ?_; intro gb497 hg w6 hbox hb; replace HO0_1 := Aside0.mk (Kd.V_below (Kd.V_elderB (y10 HO0_1.out) gb497 (Nat.le_of_eq hg.symm)) hb); replace HO2_1 := Aside0.mk (Kd.V_below (Kd.V_elderB (y10 HO2_1.out) gb497 (Nat.le_of_eq hg.symm)) hb); have BK497 := Aside0.mk hbox; have GW497 := Aside0.mk ((y9 hg HB.out : w.heap.size ≤ gb497)); have GE497 := Aside0.mk ((y9 hg HB.out : w.heap.size ≤ gb497)); replace HB := Aside0.mk (below_step (y5 HB.out) hb); clear hb hbox hg) | ((with_reducible refine gate_dst (N := 5) rfl ?_); refine zbx 5 #[.int .i64 a2_0, .slice A2_1 l2_1.length c2_1] 25 ?_; intro gb498 hg w7 hbox hb; replace HO0_1 := Aside0.mk (Kd.V_below (Kd.V_elderB (y10 HO0_1.out) gb498 (Nat.le_of_eq hg.symm)) hb); replace HO2_1 := Aside0.mk (Kd.V_below (Kd.V_elderB (y10 HO2_1.out) gb498 (Nat.le_of_eq hg.symm)) hb); have BK498 := Aside0.mk hbox; have GW498 := Aside0.mk ((y11 hg HB.out GE497.out : w.heap.size ≤ gb498)); have GE498 := Aside0.mk ((y11 hg HB.out GE497.out : w.heap.size ≤ gb498)); replace HB := Aside0.mk (below_step (y6 HB.out GE497.out) hb); have NB497_498 := zltn hg BK497; have NB498_497 := zgtn hg BK497; replace BK497 := zbb BK497 hb; clear hb hbox hg) | ((with_reducible refine gate_dst (N := 6) rfl ?_); refine zbx 6 #[.int .i64 0, .slice none 0 0] 25 ?_; intro gb499 hg w8 hbox hb; replace HO0_1 := Aside0.mk (Kd.V_below (Kd.V_elderB (y10 HO0_1.out) gb499 (Nat.le_of_eq hg.symm)) hb); replace HO2_1 := Aside0.mk (Kd.V_below (Kd.V_elderB (y10 HO2_1.out) gb499 (Nat.le_of_eq hg.symm)) hb); have BK499 := Aside0.mk hbox; have GW499 := Aside0.mk ((y16 hg HB.out GE497.out GE498.out : w.heap.size ≤ gb499)); have GE499 := Aside0.mk ((y16 hg HB.out GE497.out GE498.out : w.heap.size ≤ gb499)); replace HB := Aside0.mk (below_step (y2 HB.out GE497.out GE498.out) hb); have NB497_499 := zltn hg BK497; have NB499_497 := zgtn hg BK497; replace BK497 := zbb BK497 hb; have NB498_499 := zltn hg BK498; have NB499_498 := zgtn hg BK498; replace BK498 := zbb BK498 hb; clear hb hbox hg; have hnb9 := NB498_497.out; have hnc9 := NB497_498.out; have hnb10 := NB498_499.out; have hnc10 := NB499_498.out; have hcz11_0 := zh BK498; have hcz11_1 := zh1 BK498; have hfz11_0 := zfr BK498 0; have hfz11_1 := zfr BK498 1) | ((with_reducible refine gate_callee (f := 40) rfl ?_); refine goesL_ (some 14) rfl rfl Try.func40 (by kernel_rfl) rfl #[.agg #[.int .i64 a2_0, .slice A2_1 l2_1.length c2_1]] rfl y8 ?_; (with_reducible refine (impl_valCopy.calls k a2_0 _ _ l2_1 t500 t501 _ ?side1 ?side2 A5.out).mono ?_); (case side1 => exact y35 HO2_1.out); (case side2 => exact (Kd.V_reads' HO2_1.out).2.1); rintro e w12 ⟨v502, rfl, ho0, hb⟩; refine ⟨_, rfl, ?_⟩; replace HO0_1 := Aside0.mk (Kd.V_elder' (y10 HO0_1.out) (Kd.N_base ho0) hb); replace HO2_1 := Aside0.mk (Kd.V_elder' (y10 HO2_1.out) (Kd.N_base ho0) hb); have HO503 := Aside0.mk (Kd.N_lower (Kd.N_mono (ok' := fun k_ => ((P0_1_ k_ ∨ P2_1_ k_) ∨ w.heap.size ≤ k_) ∧ k_ ≠ gb497 ∧ k_ ≠ gb498 ∧ k_ ≠ gb499) ho0 (fun k_ hk_ => ⟨(.inr (Nat.le_trans (below_size (y4 HB.out GE497.out GE498.out GE499.out)) hk_)), (Kd.freshB (g := gb497) (o := .cells #[.int .i64 a0_0, .slice A0_1 l0_1.length c0_1] 25 (0, 0)) (y0 BK497.out) k_ hk_), (Kd.freshB (g := gb498) (o := .cells #[.int .i64 a2_0, .slice A2_1 l2_1.length c2_1] 25 (0, 0)) (y0 BK498.out) k_ hk_), (Kd.freshB (g := gb499) (o := .cells #[.int .i64 0, .slice none 0 0] 25 (0, 0)) (y0 BK499.out) k_ hk_)⟩)) (below_size (y4 HB.out GE497.out GE498.out GE499.out))); replace BK497 := zbb BK497 hb; replace BK498 := zbb BK498 hb; replace BK499 := zbb BK499 hb; replace HB := Aside0.mk (below_step (y4 HB.out GE497.out GE498.out GE499.out) hb); (try clear hb); (try clear hb2); (try clear hk); (try clear hi); (try clear ho0); have hnb13 := NB499_497.out; have hnc13 := NB497_499.out; have hcz14_0 := zh BK499; have hcz14_1 := zh1 BK499; have hfz14_0 := zfr BK499 0; have hfz14_1 := zfr BK499 1; obtain ⟨Ao15, co15, eo15⟩ := Kd.N_slice HO503.out; subst eo15))
  refine bodyPost_ret (results_cell_row rfl _ _ gb499 25 #[.int .i64 t500, .slice Ao15 t501.length co15] (0, 0) _ rfl (by (with_reducible repeat (first | refine blk_drewN ?_ _ | refine blk_drew ?_ | refine blk_alloc ?_ _)); refine blk_put (cs := #[.int .i64 t500, .slice none 0 0]) ?_ 1 _ rfl; (with_reducible repeat (first | refine blk_drewN ?_ _ | refine blk_drew ?_ | refine blk_alloc ?_ _)); apply blk_put (i := 0); (case h => exact y0 BK499.out); (case e => rfl)) Try.underlying25 rfl (by kernel_rfl)) rfl ?_
  exact ⟨_, y19, (by (with_reducible repeat (first | apply Kd.N_alloc | apply Kd.N_drewN | apply Kd.N_drew)); exact Kd.N_mono (Kd.N_far (p := ⟨gb499, 1, none⟩) (Kd.N_far (p := ⟨gb499, 0, none⟩) (Kd.N_mono HO503.out (fun k_ hk => (⟨hk, hk.2.2.2⟩ : _ ∧ k_ ≠ gb499))) (fun _ hk => hk.2) (.int .i64 t500)) (fun _ hk => hk.2) (.slice Ao15 t501.length co15)) (fun _ hk => hk.1.1)), (y4 HB.out GE497.out GE498.out GE499.out)⟩
 ·rw [if_neg c4] at H
  have c4b0 : ((l1.length : Int) == 0) = false := beq_eq_false_iff_ne.mpr c4
  have c4b1 : ((l1.length : Int) != 0) = true := bne_iff_ne.mpr c4
  have c4b2 : ¬ (l1 = []) := fun h_ => c4 (by rw [h_]; rfl)
  obtain ⟨y504, hy504⟩ : ∃ y_ : List (S25), y_ = (([(⟨0, ([] : List (S25))⟩ : S25), (⟨0, ([] : List (S25))⟩ : S25)] : List (S25))) := ⟨_, rfl⟩
  replace H : (impl_valWith.l0 k l1 y504 l0_1 (l0_1.length : Int) 0 a2_0 l2_1) = some (r1, r2) := by first | (rw [hy504]; with_reducible exact H) | (have H2_ := (Option.bind_some _ _).symm.trans H; rw [hy504]; with_reducible exact H2_) | (have H2_ := (Option.bind_some _ _).symm.trans H; with_reducible exact H2_) | with_reducible exact H | (rw [hy504]; exact H) | exact H
  have Ny504 := Aside0.mk hy504
  clear hy504
  have H' := Aside0.mk H
  clear H
  go_enter Try.func47, Try.ntmps47
  go_wp2_with (first | ((with_reducible refine gate_dst (N := 3) rfl ?_); refine zbx 3 #[.int .i64 a0_0, .slice A0_1 l0_1.length c0_1] 25 ?_; intro gb497 hg w16 hbox hb; replace HO0_1 := Aside0.mk (Kd.V_below (Kd.V_elderB (y10 HO0_1.out) gb497 (Nat.le_of_eq hg.symm)) hb); replace HO2_1 := Aside0.mk (Kd.V_below (Kd.V_elderB (y10 HO2_1.out) gb497 (Nat.le_of_eq hg.symm)) hb); have BK497 := Aside0.mk hbox; have GW497 := Aside0.mk ((y9 hg HB.out : w.heap.size ≤ gb497)); have GE497 := Aside0.mk ((y9 hg HB.out : w.heap.size ≤ gb497)); replace HB := Aside0.mk (below_step (y5 HB.out) hb); clear hb hbox hg) | ((with_reducible refine gate_dst (N := 5) rfl ?_); refine zbx 5 #[.int .i64 a2_0, .slice A2_1 l2_1.length c2_1] 25 ?_; intro gb498 hg w17 hbox hb; replace HO0_1 := Aside0.mk (Kd.V_below (Kd.V_elderB (y10 HO0_1.out) gb498 (Nat.le_of_eq hg.symm)) hb); replace HO2_1 := Aside0.mk (Kd.V_below (Kd.V_elderB (y10 HO2_1.out) gb498 (Nat.le_of_eq hg.symm)) hb); have BK498 := Aside0.mk hbox; have GW498 := Aside0.mk ((y11 hg HB.out GE497.out : w.heap.size ≤ gb498)); have GE498 := Aside0.mk ((y11 hg HB.out GE497.out : w.heap.size ≤ gb498)); replace HB := Aside0.mk (below_step (y6 HB.out GE497.out) hb); have NB497_498 := zltn hg BK497; have NB498_497 := zgtn hg BK497; replace BK497 := zbb BK497 hb; clear hb hbox hg) | ((with_reducible refine gate_dst (N := 6) rfl ?_); refine zbx 6 #[.int .i64 0, .slice none 0 0] 25 ?_; intro gb499 hg w18 hbox hb; replace HO0_1 := Aside0.mk (Kd.V_below (Kd.V_elderB (y10 HO0_1.out) gb499 (Nat.le_of_eq hg.symm)) hb); replace HO2_1 := Aside0.mk (Kd.V_below (Kd.V_elderB (y10 HO2_1.out) gb499 (Nat.le_of_eq hg.symm)) hb); have BK499 := Aside0.mk hbox; have GW499 := Aside0.mk ((y16 hg HB.out GE497.out GE498.out : w.heap.size ≤ gb499)); have GE499 := Aside0.mk ((y16 hg HB.out GE497.out GE498.out : w.heap.size ≤ gb499)); replace HB := Aside0.mk (below_step (y2 HB.out GE497.out GE498.out) hb); have NB497_499 := zltn hg BK497; have NB499_497 := zgtn hg BK497; replace BK497 := zbb BK497 hb; have NB498_499 := zltn hg BK498; have NB499_498 := zgtn hg BK498; replace BK498 := zbb BK498 hb; clear hb hbox hg) | ((with_reducible refine gate_dst (N := 17) rfl ?_); refine Kd.N_lit k25 _ 25 ?hg (N' := 17) ?hd (xs := ([(⟨0, ([] : List (S25))⟩ : S25), (⟨0, ([] : List (S25))⟩ : S25)] : List (S25))) (inner := [.int .i64 0, .slice none 0 0, .int .i64 0, .slice none 0 0]) (ok := (fun k_ => ((P0_1_ k_ ∨ P2_1_ k_) ∨ w.heap.size ≤ k_) ∧ k_ ≠ gb497 ∧ k_ ≠ gb498 ∧ k_ ≠ gb499)) (okp := (fun k_ => ((P0_1_ k_ ∨ P2_1_ k_) ∨ w.heap.size ≤ k_) ∧ k_ ≠ gb497 ∧ k_ ≠ gb498 ∧ k_ ≠ gb499)) ?hr ?hp (fun _ hk => hk) ((show ∀ k_, w18.heap.size ≤ k_ → (fun k_ => ((P0_1_ k_ ∨ P2_1_ k_) ∨ w.heap.size ≤ k_) ∧ k_ ≠ gb497 ∧ k_ ≠ gb498 ∧ k_ ≠ gb499) k_ from fun k_ hk => ⟨(.inr (Nat.le_trans (below_size (y4 HB.out GE497.out GE498.out GE499.out)) hk)), Kd.freshB (g := gb497) (o := .cells #[.int .i64 a0_0, .slice A0_1 l0_1.length c0_1] 25 (0, 0)) (y0 BK497.out) k_ hk, Kd.freshB (g := gb498) (o := .cells #[.int .i64 a2_0, .slice A2_1 l2_1.length c2_1] 25 (0, 0)) (y0 BK498.out) k_ hk, Kd.freshB (g := gb499) (o := .cells #[.int .i64 0, .slice none 0 0] 25 (0, 0)) (y0 BK499.out) k_ hk⟩) _ (Nat.le_refl _)) (Below.refl _ _) (Nat.le_refl _) (by simp) ?_; (case hd => rfl); (case hg => rfl); (case hr => first | (go_simp; done) | (go_simp; rfl)); (case hp => exact (Reps.c2 (show Kd.FK k25 _ _ (⟨0, ([] : List (S25))⟩ : S25) [.int .i64 0, .slice none 0 0] from (k25_mkF _ _ (⟨0, ([] : List (S25))⟩ : S25) (Nat.le_refl _) (Kd.F_nil _ _ _))) (Reps.c2 (show Kd.FK k25 _ _ (⟨0, ([] : List (S25))⟩ : S25) [.int .i64 0, .slice none 0 0] from (k25_mkF _ _ (⟨0, ([] : List (S25))⟩ : S25) (Nat.le_refl _) (Kd.F_nil _ _ _))) (Reps.none _ _)))); intro v505 w19 ho20 hb hg_ hnew_; clear hg_ hnew_; (first | rw [← Ny504.out] at ho20 | (simp only [Int.reduceToNat] at ho20; rw [← Ny504.out] at ho20)); replace HO0_1 := Aside0.mk (Kd.V_elder' (y10 HO0_1.out) (Kd.N_base ho20) hb); replace HO2_1 := Aside0.mk (Kd.V_elder' (y10 HO2_1.out) (Kd.N_base ho20) hb); have HO506 := Aside0.mk (Kd.N_lower ho20 (below_size (y4 HB.out GE497.out GE498.out GE499.out))); replace BK497 := zbb BK497 hb; replace BK498 := zbb BK498 hb; replace BK499 := zbb BK499 hb; replace HB := Aside0.mk (below_step (y4 HB.out GE497.out GE498.out GE499.out) hb); clear hb ho20; have hnb21 := NB497_498.out; have hnc21 := NB498_497.out; have hnb22 := NB497_499.out; have hnc22 := NB499_497.out; have hcz23_0 := zh BK497; have hcz23_1 := zh1 BK497; have hfz23_0 := zfr BK497 0; have hfz23_1 := zfr BK497 1))
  go_loopg [21] k (fun kq v21 w' => ∃ (x7_1 : List (S25)) (x21_1 : Int) (x498000_1 : Int) (x498001_1 : List (S25)) (x499000_1 : Int) (x499001_1 : List (S25)) (x500000_1 : Int) (u498001 : Value) (u499001 : Value), v21 = .int .i64 x21_1 ∧ Aside0 (impl_valWith.l0 kq l1 x7_1 l0_1 (l0_1.length : Int) x21_1 x499000_1 x499001_1 = some (r1, r2)) ∧ Aside0 (kq ≤ k) ∧ Aside0 (Kd.N k25 25 w' w.heap.size (fun k_ => ((P0_1_ k_ ∨ P2_1_ k_) ∨ w.heap.size ≤ k_) ∧ k_ ≠ gb497 ∧ k_ ≠ gb498 ∧ k_ ≠ gb499) v505 x7_1) ∧ Aside0 (Kd.V k25 25 w' w.heap.size (fun k_ => ((P0_1_ k_ ∨ P2_1_ k_) ∨ w.heap.size ≤ k_) ∧ some k_ ≠ (v505 : Value).ownBlock ∧ k_ ≠ gb497 ∧ k_ ≠ gb498 ∧ k_ ≠ gb499) (.slice A0_1 l0_1.length c0_1) l0_1) ∧ Aside0 (Kd.V k25 25 w' w.heap.size (fun k_ => ((P0_1_ k_ ∨ P2_1_ k_) ∨ w.heap.size ≤ k_) ∧ some k_ ≠ (v505 : Value).ownBlock ∧ k_ ≠ gb497 ∧ k_ ≠ gb498 ∧ k_ ≠ gb499) u498001 x498001_1) ∧ Aside0 (Kd.V k25 25 w' w.heap.size (fun k_ => ((P0_1_ k_ ∨ P2_1_ k_) ∨ w.heap.size ≤ k_) ∧ some k_ ≠ (v505 : Value).ownBlock ∧ k_ ≠ gb497 ∧ k_ ≠ gb498 ∧ k_ ≠ gb499) u499001 x499001_1) ∧ Aside0 (w'.heap[gb497]? = some (.cells #[.int .i64 x498000_1, u498001] 25 (0, 0))) ∧ Aside0 (w'.heap[gb498]? = some (.cells #[.int .i64 x499000_1, u499001] 25 (0, 0))) ∧ Aside0 (w'.heap[gb499]? = some (.cells #[.int .i64 x500000_1, (.slice none 0 0)] 25 (0, 0))) ∧ Aside0 (Below w.heap.size w w'))
  case atStart => exact ⟨(y504), (0), (a0_0), (l0_1), (a2_0), (l2_1), (0), (.slice A0_1 l0_1.length c0_1), (.slice A2_1 l2_1.length c2_1), y34, H', ⟨Nat.le_refl _⟩, ⟨(y3 HO506.out)⟩, ⟨(y68 HO0_1.out)⟩, ⟨(y68 HO0_1.out)⟩, ⟨(y68 HO2_1.out)⟩, ⟨(y0 BK497.out)⟩, ⟨(y0 BK498.out)⟩, ⟨(y0 BK499.out)⟩, ⟨(y4 HB.out GE497.out GE498.out GE499.out)⟩⟩
  case round =>
   clear H'
   try clear c1
   try clear c2
   try clear p2
   try clear c4
   try clear c4b0
   try clear c4b1
   try clear c4b2
   try clear c9
   try clear c10
   try clear c13
   try clear c21
   try clear c22
   try clear hcz11_0
   try clear hcz11_1
   try clear hcz14_0
   try clear hcz14_1
   try clear hcz23_0
   try clear hcz23_1
   try clear hfz11_0
   try clear hfz11_1
   try clear hfz14_0
   try clear hfz14_1
   try clear hfz23_0
   try clear hfz23_1
   (try clear BK497); (try clear BK498); (try clear BK499)
   obtain ⟨x7_1, x21_1, x498000_1, x498001_1, x499000_1, x499001_1, x500000_1, u498001, u499001, rfl, HA, HK1, HO_7, HO_19, HO_498001, HO_499001, BK497, BK498, BK499, HB⟩ := hrel
   cases gk with
   | zero => exact absurd HA.out (by simp [impl_valWith.l0])
   | succ k1 =>
    have H := HA.out
    clear HA
    simp only [impl_valWith.l0] at H
    by_cases c24 : x21_1 < (l0_1.length : Int)
    ·rw [if_pos c24] at H
     have c24b0 : decide (x21_1 < (l0_1.length : Int)) = true := decide_eq_true c24
     clear c24
     by_cases c25 : 0 ≤ x21_1
     ·rw [if_pos c25] at H
      have c25b0 : decide (0 ≤ x21_1) = true := decide_eq_true c25
      clear c25
      by_cases c26 : x21_1 < (l0_1.length : Int)
      ·rw [if_pos c26] at H
       have c26b0 : decide (x21_1 < (l0_1.length : Int)) = true := decide_eq_true c26
       clear c26
       by_cases c27 : 0 < (l1.length : Int)
       ·rw [if_pos c27] at H
        have c27b0 : decide (0 < (l1.length : Int)) = true := decide_eq_true c27
        have c27b1 : decide (0 < l1.length) = true := decide_eq_true (by omega)
        clear c27
        by_cases c28 : x21_1 = (rd l1 0)
        ·rw [if_pos c28] at H
         have c28b0 : (x21_1 == (rd l1 0)) = true := beq_iff_eq.mpr c28
         have c28b1 : (x21_1 != (rd l1 0)) = false := bne_eq_false_iff_eq.mpr c28
         clear c28
         by_cases c29 : 1 ≤ (l1.length : Int)
         ·rw [if_pos c29] at H
          have c29b0 := eq_true c29
          have c29b1 : decide (1 ≤ (l1.length : Int)) = true := decide_eq_true c29
          clear c29
          obtain ⟨⟨t511, t512⟩, A300, H⟩ := ob H
          have A30 := Aside0.mk A300
          clear A300
          by_cases c31 : x21_1 < (x7_1.length : Int)
          ·rw [if_pos c31] at H
           have c31b0 : decide (x21_1 < (x7_1.length : Int)) = true := decide_eq_true c31
           clear c31
           obtain ⟨y515, hy515⟩ : ∃ y_ : List (S25), y_ = (x7_1.set (x21_1 : Int).toNat (⟨t511, t512⟩ : S25)) := ⟨_, rfl⟩
           replace H : (impl_valWith.l0 k1 l1 y515 l0_1 (l0_1.length : Int) (wrap64 (x21_1 + 1)) x499000_1 x499001_1) = some (r1, r2) := by first | (rw [hy515]; with_reducible exact H) | (have H2_ := (Option.bind_some _ _).symm.trans H; rw [hy515]; with_reducible exact H2_) | (have H2_ := (Option.bind_some _ _).symm.trans H; with_reducible exact H2_) | with_reducible exact H | (rw [hy515]; exact H) | exact H
           have Ny515 := Aside0.mk hy515
           clear hy515
           have H' := Aside0.mk H
           clear H
           have p507 : 0 ≤ (x21_1 : Int) := of_decide_eq_true y23
           have q507 : x21_1 < (l0_1.length : Int) := of_decide_eq_true y23
           obtain ⟨ad507, A507_1, c507_1, e507, hx507_0, hx507_1, hl507_1, hi507_1⟩ := at_T25 (Kd.V_reads' HO_19.out).2.2 x21_1 p507 q507
           cases e507
           obtain ⟨ce507, hce507, hMe507, hcc507⟩ := Kd.V_get HO_19.out z25 x21_1 p507 (by first | exact q507 | exact of_decide_eq_true y23 | (have e_ := (Kd.V_reads' HO_19.out).1; omega))
           obtain ⟨ua507_1, uc507_1, rfl, ul507_1, ge507_1⟩ := k25_openF hMe507
           have hv507_1 := hcc507 1 _ rfl
           rw [add_field _ _ 1 (by omega)] at hv507_1
           replace hv507_1 := Option.some.inj (hv507_1.symm.trans hx507_1)
           injection hv507_1 with hva_ hvn_ hvc_
           rw [hva_] at ge507_1
           rw [hvc_] at ul507_1
           have HL507_1 := Aside0.mk (show Kd.V k25 25 _ w.heap.size _ _ ((rd_T25 l0_1 x21_1).f1) from Kd.V_mk ul507_1 ge507_1)
           clear hva_ hvn_ hvc_ ge507_1 ul507_1
           clear hcc507 hce507
           have HR507_1 := Aside0.mk hi507_1
           have HC507_1 := Aside0.mk hl507_1
           clear hi507_1 hl507_1
           replace p507 := eq_true p507
           replace q507 := eq_true q507
           try go_wp2_with (first | ((with_reducible refine gate_dst (N := 9) rfl ?_); refine zbx 9 #[.int .i64 0, .slice none 0 0] 25 ?_; intro gb508 hg w33 hbox hb; replace HO_7 := Aside0.mk (Kd.N_below (Kd.N_elderB (y3 HO_7.out) gb508 (Nat.le_of_eq hg.symm)) hb); replace HO_19 := Aside0.mk (Kd.V_below (Kd.V_elderB (y10 HO_19.out) gb508 (Nat.le_of_eq hg.symm)) hb); replace HO_498001 := Aside0.mk (Kd.V_below (Kd.V_elderB (y10 HO_498001.out) gb508 (Nat.le_of_eq hg.symm)) hb); replace HO_499001 := Aside0.mk (Kd.V_below (Kd.V_elderB (y10 HO_499001.out) gb508 (Nat.le_of_eq hg.symm)) hb); replace HL507_1 := Aside0.mk (Kd.V_below (Kd.V_elderB (y10 HL507_1.out) gb508 (Nat.le_of_eq hg.symm)) hb); replace HR507_1 := Aside0.mk (Kd.C_below (y85 HR507_1.out) hb); have BK508 := Aside0.mk hbox; have GW508 := Aside0.mk ((y22 hg HB.out GE497.out GE498.out GE499.out : w.heap.size ≤ gb508)); have GE508 := Aside0.mk ((y22 hg HB.out GE497.out GE498.out GE499.out : w.heap.size ≤ gb508)); replace HB := Aside0.mk (below_step (y4 HB.out GE497.out GE498.out GE499.out) hb); have NB497_508 := zltn hg BK497; have NB508_497 := zgtn hg BK497; replace BK497 := zbb BK497 hb; have NB498_508 := zltn hg BK498; have NB508_498 := zgtn hg BK498; replace BK498 := zbb BK498 hb; have NB499_508 := zltn hg BK499; have NB508_499 := zgtn hg BK499; replace BK499 := zbb BK499 hb; clear hb hbox hg; have hnb34 := NB508_497.out; have hnc34 := NB497_508.out; have hnb35 := NB508_498.out; have hnc35 := NB498_508.out; have hnb36 := NB508_499.out; have hnc36 := NB499_508.out; have hcz37_0 := zh BK508; have hcz37_1 := zh1 BK508; have hfz37_0 := zfr BK508 0; have hfz37_1 := zfr BK508 1; have p509 : 0 ≤ (0 : Int) := (by omega); have q509 : 0 < (l1.length : Int) := of_decide_eq_true y23; obtain ⟨ad509, e509, hx509_0⟩ := Kd.at_int HR1.out 0 p509 q509; cases e509; have qi509 : (0 < l1.length) = True := eq_true (by omega); (try rw [show ((0 : Int)).toNat = 0 from rfl] at hx509_0); (try rw [Addr.add_zero'] at hx509_0); have hn509_0 : ad509.block ≠ gb508 := Nat.ne_of_lt (Nat.lt_of_lt_of_le (by have := World.block_lt_of_cell? _ _ hx509_0; first | rwa [add_block] at this | exact this) GW508.out); have hn509_1 : ad509.block ≠ gb508 := Nat.ne_of_lt (Nat.lt_of_lt_of_le (by have := World.block_lt_of_cell? _ _ hx509_0; first | rwa [add_block] at this | exact this) GW508.out); replace hx509_0 := (HB.out.cell (World.block_lt_of_cell? w _ hx509_0)).trans hx509_0; replace hx509_0 := (cell_far (p := ⟨gb508, 0, none⟩) (by first | (rw [add_block]; exact hn509_0) | (show (Addr.add _ _).block ≠ _; rw [add_block]; exact hn509_0) | exact hn509_0) (.int .i64 ((rd_T25 l0_1 x21_1).f0))).trans hx509_0; replace hx509_0 := (cell_far (p := ⟨gb508, 1, none⟩) (by first | (rw [add_block]; exact hn509_1) | (show (Addr.add _ _).block ≠ _; rw [add_block]; exact hn509_1) | exact hn509_1) (.slice A507_1 ((rd_T25 l0_1 x21_1).f1).length c507_1)).trans hx509_0; clear hn509_0; clear hn509_1; replace p509 := eq_true p509; replace q509 := eq_true q509))
           have n0_ : Aside0 (Kd.N k25 25 ((w33.setCell ⟨gb508, 0, none⟩ (.int .i64 ((rd_T25 l0_1 x21_1).f0))).setCell ⟨gb508, 1, none⟩ (.slice A507_1 ((rd_T25 l0_1 x21_1).f1).length c507_1)) w.heap.size (fun k_ => ((P0_1_ k_ ∨ P2_1_ k_) ∨ w.heap.size ≤ k_) ∧ k_ ≠ gb497 ∧ k_ ≠ gb498 ∧ k_ ≠ gb499 ∧ k_ ≠ gb508) v505 x7_1) := ⟨(by (with_reducible repeat (first | apply Kd.N_alloc | apply Kd.N_drewN | apply Kd.N_drew)); exact Kd.N_mono (Kd.N_far (p := ⟨gb508, 1, none⟩) (Kd.N_far (p := ⟨gb508, 0, none⟩) (Kd.N_mono HO_7.out (fun k_ hk => (⟨hk, hk.2⟩ : _ ∧ k_ ≠ gb508))) (fun _ hk => hk.2) (.int .i64 ((rd_T25 l0_1 x21_1).f0))) (fun _ hk => hk.2) (.slice A507_1 ((rd_T25 l0_1 x21_1).f1).length c507_1)) (fun _ hk => ⟨hk.1.1.1, ⟨hk.1.1.2.1, ⟨hk.1.1.2.2.1, ⟨hk.1.1.2.2.2, hk.1.2⟩⟩⟩⟩))⟩
           have n1_ : Aside0 (Kd.V k25 25 ((w33.setCell ⟨gb508, 0, none⟩ (.int .i64 ((rd_T25 l0_1 x21_1).f0))).setCell ⟨gb508, 1, none⟩ (.slice A507_1 ((rd_T25 l0_1 x21_1).f1).length c507_1)) w.heap.size (fun k_ => ((P0_1_ k_ ∨ P2_1_ k_) ∨ w.heap.size ≤ k_) ∧ some k_ ≠ (v505 : Value).ownBlock ∧ k_ ≠ gb497 ∧ k_ ≠ gb498 ∧ k_ ≠ gb499 ∧ k_ ≠ gb508) (.slice (some ad507) l0_1.length c0_1) l0_1) := ⟨(by (with_reducible repeat (first | apply Kd.V_alloc | apply Kd.V_drewN | apply Kd.V_drew)); exact Kd.V_mono (Kd.V_far (p := ⟨gb508, 1, none⟩) (Kd.V_far (p := ⟨gb508, 0, none⟩) (Kd.V_mono HO_19.out (fun k_ hk => (⟨hk, hk.2⟩ : _ ∧ k_ ≠ gb508))) (fun _ hk => hk.2) (.int .i64 ((rd_T25 l0_1 x21_1).f0))) (fun _ hk => hk.2) (.slice A507_1 ((rd_T25 l0_1 x21_1).f1).length c507_1)) (fun _ hk => ⟨hk.1.1.1, ⟨hk.1.1.2.1, ⟨hk.1.1.2.2.1, ⟨hk.1.1.2.2.2.1, ⟨hk.1.1.2.2.2.2, hk.1.2⟩⟩⟩⟩⟩))⟩
           have n2_ : Aside0 (Kd.V k25 25 ((w33.setCell ⟨gb508, 0, none⟩ (.int .i64 ((rd_T25 l0_1 x21_1).f0))).setCell ⟨gb508, 1, none⟩ (.slice A507_1 ((rd_T25 l0_1 x21_1).f1).length c507_1)) w.heap.size (fun k_ => ((P0_1_ k_ ∨ P2_1_ k_) ∨ w.heap.size ≤ k_) ∧ some k_ ≠ (v505 : Value).ownBlock ∧ k_ ≠ gb497 ∧ k_ ≠ gb498 ∧ k_ ≠ gb499 ∧ k_ ≠ gb508) u498001 x498001_1) := ⟨(by (with_reducible repeat (first | apply Kd.V_alloc | apply Kd.V_drewN | apply Kd.V_drew)); exact Kd.V_mono (Kd.V_far (p := ⟨gb508, 1, none⟩) (Kd.V_far (p := ⟨gb508, 0, none⟩) (Kd.V_mono HO_498001.out (fun k_ hk => (⟨hk, hk.2⟩ : _ ∧ k_ ≠ gb508))) (fun _ hk => hk.2) (.int .i64 ((rd_T25 l0_1 x21_1).f0))) (fun _ hk => hk.2) (.slice A507_1 ((rd_T25 l0_1 x21_1).f1).length c507_1)) (fun _ hk => ⟨hk.1.1.1, ⟨hk.1.1.2.1, ⟨hk.1.1.2.2.1, ⟨hk.1.1.2.2.2.1, ⟨hk.1.1.2.2.2.2, hk.1.2⟩⟩⟩⟩⟩))⟩
           have n3_ : Aside0 (Kd.V k25 25 ((w33.setCell ⟨gb508, 0, none⟩ (.int .i64 ((rd_T25 l0_1 x21_1).f0))).setCell ⟨gb508, 1, none⟩ (.slice A507_1 ((rd_T25 l0_1 x21_1).f1).length c507_1)) w.heap.size (fun k_ => ((P0_1_ k_ ∨ P2_1_ k_) ∨ w.heap.size ≤ k_) ∧ some k_ ≠ (v505 : Value).ownBlock ∧ k_ ≠ gb497 ∧ k_ ≠ gb498 ∧ k_ ≠ gb499 ∧ k_ ≠ gb508) u499001 x499001_1) := ⟨(by (with_reducible repeat (first | apply Kd.V_alloc | apply Kd.V_drewN | apply Kd.V_drew)); exact Kd.V_mono (Kd.V_far (p := ⟨gb508, 1, none⟩) (Kd.V_far (p := ⟨gb508, 0, none⟩) (Kd.V_mono HO_499001.out (fun k_ hk => (⟨hk, hk.2⟩ : _ ∧ k_ ≠ gb508))) (fun _ hk => hk.2) (.int .i64 ((rd_T25 l0_1 x21_1).f0))) (fun _ hk => hk.2) (.slice A507_1 ((rd_T25 l0_1 x21_1).f1).length c507_1)) (fun _ hk => ⟨hk.1.1.1, ⟨hk.1.1.2.1, ⟨hk.1.1.2.2.1, ⟨hk.1.1.2.2.2.1, ⟨hk.1.1.2.2.2.2, hk.1.2⟩⟩⟩⟩⟩))⟩
           have n4_ : Aside0 (Kd.V k25 25 ((w33.setCell ⟨gb508, 0, none⟩ (.int .i64 ((rd_T25 l0_1 x21_1).f0))).setCell ⟨gb508, 1, none⟩ (.slice A507_1 ((rd_T25 l0_1 x21_1).f1).length c507_1)) w.heap.size (fun k_ => ((P0_1_ k_ ∨ P2_1_ k_) ∨ w.heap.size ≤ k_) ∧ some k_ ≠ (v505 : Value).ownBlock ∧ k_ ≠ gb497 ∧ k_ ≠ gb498 ∧ k_ ≠ gb499 ∧ k_ ≠ gb508) (.slice A507_1 ((rd_T25 l0_1 x21_1).f1).length c507_1) ((rd_T25 l0_1 x21_1).f1)) := ⟨(by (with_reducible repeat (first | apply Kd.V_alloc | apply Kd.V_drewN | apply Kd.V_drew)); exact Kd.V_mono (Kd.V_far (p := ⟨gb508, 1, none⟩) (Kd.V_far (p := ⟨gb508, 0, none⟩) (Kd.V_mono HL507_1.out (fun k_ hk => (⟨hk, hk.2⟩ : _ ∧ k_ ≠ gb508))) (fun _ hk => hk.2) (.int .i64 ((rd_T25 l0_1 x21_1).f0))) (fun _ hk => hk.2) (.slice A507_1 ((rd_T25 l0_1 x21_1).f1).length c507_1)) (fun _ hk => ⟨hk.1.1.1, ⟨hk.1.1.2.1, ⟨hk.1.1.2.2.1, ⟨hk.1.1.2.2.2.1, ⟨hk.1.1.2.2.2.2, hk.1.2⟩⟩⟩⟩⟩))⟩
           have n5_ : Aside0 (((w33.setCell ⟨gb508, 0, none⟩ (.int .i64 ((rd_T25 l0_1 x21_1).f0))).setCell ⟨gb508, 1, none⟩ (.slice A507_1 ((rd_T25 l0_1 x21_1).f1).length c507_1)).heap[gb497]? = some (.cells #[.int .i64 x498000_1, u498001] 25 (0, 0))) := ⟨(y1 NB497_508.out BK497.out)⟩
           have n6_ : Aside0 (((w33.setCell ⟨gb508, 0, none⟩ (.int .i64 ((rd_T25 l0_1 x21_1).f0))).setCell ⟨gb508, 1, none⟩ (.slice A507_1 ((rd_T25 l0_1 x21_1).f1).length c507_1)).heap[gb498]? = some (.cells #[.int .i64 x499000_1, u499001] 25 (0, 0))) := ⟨(y1 NB498_508.out BK498.out)⟩
           have n7_ : Aside0 (((w33.setCell ⟨gb508, 0, none⟩ (.int .i64 ((rd_T25 l0_1 x21_1).f0))).setCell ⟨gb508, 1, none⟩ (.slice A507_1 ((rd_T25 l0_1 x21_1).f1).length c507_1)).heap[gb499]? = some (.cells #[.int .i64 x500000_1, .slice none 0 0] 25 (0, 0))) := ⟨(y1 NB499_508.out BK499.out)⟩
           have n8_ : Aside0 (((w33.setCell ⟨gb508, 0, none⟩ (.int .i64 ((rd_T25 l0_1 x21_1).f0))).setCell ⟨gb508, 1, none⟩ (.slice A507_1 ((rd_T25 l0_1 x21_1).f1).length c507_1)).heap[gb508]? = some (.cells #[.int .i64 ((rd_T25 l0_1 x21_1).f0), .slice A507_1 ((rd_T25 l0_1 x21_1).f1).length c507_1] 25 (0, 0))) := ⟨(by (with_reducible repeat (first | refine blk_drewN ?_ _ | refine blk_drew ?_ | refine blk_alloc ?_ _)); refine blk_put (cs := #[.int .i64 ((rd_T25 l0_1 x21_1).f0), .slice none 0 0]) ?_ 1 _ rfl; (with_reducible repeat (first | refine blk_drewN ?_ _ | refine blk_drew ?_ | refine blk_alloc ?_ _)); refine blk_put (cs := #[.int .i64 0, .slice none 0 0]) ?_ 0 _ rfl; (with_reducible repeat (first | refine blk_drewN ?_ _ | refine blk_drew ?_ | refine blk_alloc ?_ _)); exact BK508.out)⟩
           have n9_ : Aside0 (Below w.heap.size w ((w33.setCell ⟨gb508, 0, none⟩ (.int .i64 ((rd_T25 l0_1 x21_1).f0))).setCell ⟨gb508, 1, none⟩ (.slice A507_1 ((rd_T25 l0_1 x21_1).f1).length c507_1))) := ⟨(y7 HB.out GE497.out GE498.out GE499.out GE508.out)⟩
           (try clear HO_7)
           (try clear HO_19)
           (try clear HO_498001)
           (try clear HO_499001)
           (try clear HL507_1)
           (try clear BK497)
           (try clear BK498)
           (try clear BK499)
           (try clear BK508)
           (try clear HB)
           generalize ((w33.setCell ⟨gb508, 0, none⟩ (.int .i64 ((rd_T25 l0_1 x21_1).f0))).setCell ⟨gb508, 1, none⟩ (.slice A507_1 ((rd_T25 l0_1 x21_1).f1).length c507_1)) = w38 at n0_ n1_ n2_ n3_ n4_ n5_ n6_ n7_ n8_ n9_ ⊢
           have HO_7 := n0_
           have HO_19 := n1_
           have HO_498001 := n2_
           have HO_499001 := n3_
           have HL507_1 := n4_
           have BK497 := n5_
           have BK498 := n6_
           have BK499 := n7_
           have BK508 := n8_
           have HB := n9_
           clear n0_ n1_ n2_ n3_ n4_ n5_ n6_ n7_ n8_ n9_
           replace HO_7 := Aside0.mk (Kd.N_drew HO_7.out)
           replace HO_19 := Aside0.mk (Kd.V_drew HO_19.out)
           replace HO_498001 := Aside0.mk (Kd.V_drew HO_498001.out)
           replace HO_499001 := Aside0.mk (Kd.V_drew HO_499001.out)
           replace HL507_1 := Aside0.mk (Kd.V_drew HL507_1.out)
           replace BK497 := Aside0.mk (blk_drew BK497.out)
           replace BK498 := Aside0.mk (blk_drew BK498.out)
           replace BK499 := Aside0.mk (blk_drew BK499.out)
           replace BK508 := Aside0.mk (blk_drew BK508.out)
           replace HB := Aside0.mk (below_drew1 HB.out)
           obtain ⟨i040, hi040, _, hsz40, _⟩ := info_parts info3
           obtain ⟨A40, hcut40, hA40, hC40⟩ := print_drop_of (P := Try.prog) (Value.int .i64) 0 26 3 .i64 Try.underlying26 hi040 hsz40 (some ad509) c1 l1 1 (by omega) (of_decide_eq_true y23) HC1.out
           have HR510 := Aside0.mk (Kd.C_of_reads (h1 := fun _ => rfl) (hA40 _ (Kd.reads_of_C HR1.out)))
           have HC510 := Aside0.mk hC40
           clear hA40 hC40 hi040 hsz40
           obtain ⟨Ao41, co41, eo41⟩ := Kd.V_slice HO_499001.out
           (first | subst eo41 | (injection eo41 with f1_ f2_ f3_; have f4_ := f1_.symm; have f5_ := f3_.symm; clear f1_ f2_ f3_; subst f4_; subst f5_))
           refine start_ (n := 9) (S := fun w' => w'.cell? ⟨gb508, 0, none⟩ = some (.int .i64 ((rd_T25 l0_1 x21_1).f0)) ∧ w'.cell? ⟨gb508, 1, none⟩ = some (.slice A507_1 ((rd_T25 l0_1 x21_1).f1).length c507_1) ∧ w'.cell? ⟨gb498, 0, none⟩ = some (.int .i64 x499000_1) ∧ w'.cell? ⟨gb498, 1, none⟩ = some (.slice Ao41 x499001_1.length co41)) (ds := [8]) #[false, false, false, false, false, false, false, false, false] (by kernel_rfl) rfl rfl ⟨(blk_cell BK508.out 0).trans rfl, (blk_cell BK508.out 1).trans rfl, (blk_cell BK498.out 0).trans rfl, (blk_cell BK498.out 1).trans rfl⟩ (fun hHeld => ?_); refine with_tabW impl_valWith.tab8 impl_valWith.bits8 (fun HT_ HW_ => ?_)
           generalize w38.drew = w39 at HO_7 HO_19 HO_498001 HO_499001 HL507_1 BK497 BK498 BK499 BK508 HB HR510 hHeld ⊢
           refine zp 0 (some 31) HT_ ?_
           refine zp 1 (some 32) HT_ ?_
           refine zp 3 (some 34) HT_ ?_
           refine zp 4 (some 35) HT_ ?_
           refine zt4 2 (some 33) HT_ HW_ hHeld ?_
           refine zt4 5 (some 36) HT_ HW_ hHeld ?_
           refine one_ (i := 6) (N := some 37) #[true, true, true, true, true, true, true, false, false] rfl rfl (one_of HT_.out (by kernel_rfl)) (by decide) (fun K hK => ?_)
           refine goes_ Try.func47 (by kernel_rfl) rfl #[.agg #[.int .i64 ((rd_T25 l0_1 x21_1).f0), .slice A507_1 ((rd_T25 l0_1 x21_1).f1).length c507_1], .slice A40 (l1.drop 1).length (c1 - 1), .agg #[.int .i64 x499000_1, .slice Ao41 x499001_1.length co41]] (by rfl) rfl rfl (by (try simp only [List.map_toArray, List.map_cons, List.map_nil]); first | done | (rw [show (l1.drop 1).length = (l1.length - 1) from List.length_drop] <;> rfl) | rfl | (simp only [List.length_drop, List.length_take]; rfl)) ?_
           with_reducible refine (ih k1 (y57 HK1.out) ((rd_T25 l0_1 x21_1).f0) (fun k_ => (((P0_1_ k_ ∨ P2_1_ k_) ∨ w.heap.size ≤ k_) ∧ (some k_ ≠ (v505 : Value).ownBlock ∧ (k_ ≠ gb497 ∧ (k_ ≠ gb498 ∧ (k_ ≠ gb499 ∧ k_ ≠ gb508)))))) _ _ ((rd_T25 l0_1 x21_1).f1) _ _ (l1.drop 1) x499000_1 (fun k_ => (((P0_1_ k_ ∨ P2_1_ k_) ∨ w.heap.size ≤ k_) ∧ (some k_ ≠ (v505 : Value).ownBlock ∧ (k_ ≠ gb497 ∧ (k_ ≠ gb498 ∧ (k_ ≠ gb499 ∧ k_ ≠ gb508)))))) _ _ x499001_1 t511 t512 _ ?side1 ?side2 ?side3 ?side4 A30.out).mono ?_
           (case side1 => exact HL507_1.out)
           (case side2 => exact y15 HR510.out HB.out)
           (case side3 => exact HC510.out)
           (case side4 => exact HO_499001.out)
           rintro e w42 ⟨v513, rfl, ho0, hb⟩
           refine ⟨_, rfl, ?_⟩
           replace HO_19 := Aside0.mk (Kd.V_elder' (y10 HO_19.out) (Kd.N_base ho0) hb)
           replace HO_498001 := Aside0.mk (Kd.V_elder' (y10 HO_498001.out) (Kd.N_base ho0) hb)
           replace HO_499001 := Aside0.mk (Kd.V_elder' (y10 HO_499001.out) (Kd.N_base ho0) hb)
           replace HL507_1 := Aside0.mk (Kd.V_elder' (y10 HL507_1.out) (Kd.N_base ho0) hb)
           have HO514 := Aside0.mk (Kd.N_lower (Kd.N_mono (ok' := fun k_ => ((P0_1_ k_ ∨ P2_1_ k_) ∨ w.heap.size ≤ k_) ∧ some k_ ≠ (v505 : Value).ownBlock ∧ k_ ≠ gb497 ∧ k_ ≠ gb498 ∧ k_ ≠ gb499 ∧ k_ ≠ gb508) ho0 (fun k_ hk_ => ⟨Or.elim hk_ (fun hs_ => Or.elim hs_ (fun hs_ => hs_.1) (fun hs_ => hs_.1)) (fun hn_ => (.inr (Nat.le_trans (below_size (y7 HB.out GE497.out GE498.out GE499.out GE508.out)) hn_))), Or.elim hk_ (fun hs_ => Or.elim hs_ (fun hs_ => hs_.2.1) (fun hs_ => hs_.2.1)) (fun hn_ => (Kd.fresh' (Kd.N_lt (y3 HO_7.out)) k_ hn_)), Or.elim hk_ (fun hs_ => Or.elim hs_ (fun hs_ => hs_.2.2.1) (fun hs_ => hs_.2.2.1)) (fun hn_ => (Kd.freshB (g := gb497) (o := .cells #[.int .i64 x498000_1, u498001] 25 (0, 0)) (y0 BK497.out) k_ hn_)), Or.elim hk_ (fun hs_ => Or.elim hs_ (fun hs_ => hs_.2.2.2.1) (fun hs_ => hs_.2.2.2.1)) (fun hn_ => (Kd.freshB (g := gb498) (o := .cells #[.int .i64 x499000_1, .slice Ao41 x499001_1.length co41] 25 (0, 0)) (y0 BK498.out) k_ hn_)), Or.elim hk_ (fun hs_ => Or.elim hs_ (fun hs_ => hs_.2.2.2.2.1) (fun hs_ => hs_.2.2.2.2.1)) (fun hn_ => (Kd.freshB (g := gb499) (o := .cells #[.int .i64 x500000_1, .slice none 0 0] 25 (0, 0)) (y0 BK499.out) k_ hn_)), Or.elim hk_ (fun hs_ => Or.elim hs_ (fun hs_ => hs_.2.2.2.2.2) (fun hs_ => hs_.2.2.2.2.2)) (fun hn_ => (Kd.freshB (g := gb508) (o := .cells #[.int .i64 ((rd_T25 l0_1 x21_1).f0), .slice A507_1 ((rd_T25 l0_1 x21_1).f1).length c507_1] 25 (0, 0)) (y0 BK508.out) k_ hn_))⟩)) (below_size (y7 HB.out GE497.out GE498.out GE499.out GE508.out)))
           replace HO_7 := Aside0.mk (Kd.N_elder' (y3 HO_7.out) (Kd.N_base ho0) hb)
           replace BK497 := zbb BK497 hb
           replace BK498 := zbb BK498 hb
           replace BK499 := zbb BK499 hb
           replace BK508 := zbb BK508 hb
           replace HB := Aside0.mk (below_step (y7 HB.out GE497.out GE498.out GE499.out GE508.out) hb)
           (try clear hb)
           (try clear hb2)
           (try clear hk)
           (try clear hi)
           (try clear ho0)
           have p32 : 0 ≤ (x21_1 : Int) := of_decide_eq_true y23
           have q32 : (x21_1 : Int) < ((x7_1.length : Int) : Int) := of_decide_eq_true y23
           obtain ⟨go32, co32, eo32, gb32, gl32, cl32, HG32⟩ := Kd.N_form HO_7.out (by omega)
           (first | cases eo32 | (injection eo32 with ea_ en_ ec_; (first | subst ea_ | (injection ea_ with ea_; subst ea_)); subst ec_; clear en_))
           have GB32 := Aside0.mk gb32
           have GG32 := Aside0.mk HG32
           clear gb32 gl32 HG32
           obtain ⟨ce32, hcl32, hM32, hcc32, hfr32⟩ := Kd.N_elem HO_7.out z25 (x21_1 : Int) p32 q32
           obtain ⟨ua32_1, uc32_1, rfl, ul32_1, ge32_1⟩ := k25_openF hM32
           have hx32_0 : World.cell? _ ⟨go32, (x21_1 : Int).toNat * 2, none⟩ = some (.int .i64 ((rd_T25 x7_1 x21_1).f0)) := hcc32 0 _ rfl
           have hx32_1 : World.cell? _ ⟨go32, (x21_1 : Int).toNat * 2 + 1, none⟩ = some (.slice ua32_1 ((rd_T25 x7_1 x21_1).f1).length uc32_1) := hcc32 1 _ rfl
           have hf32_0 : World.frozen? _ ⟨go32, (x21_1 : Int).toNat * 2, none⟩ = false := hfr32 0
           have hf32_1 : World.frozen? _ ⟨go32, (x21_1 : Int).toNat * 2 + 1, none⟩ = false := hfr32 1
           clear hcl32 hcc32 hfr32 hM32
           replace p32 := eq_true p32
           replace q32 := eq_true q32
           obtain ⟨Ao43, co43, eo43⟩ := Kd.N_slice HO514.out
           (first | subst eo43 | (injection eo43 with f1_ f2_ f3_; have f4_ := f1_.symm; have f5_ := f3_.symm; clear f1_ f2_ f3_; subst f4_; subst f5_))
           have HX44 := Aside0.mk (show Kd.N k25 25 _ w.heap.size (fun k_ => ((P0_1_ k_ ∨ P2_1_ k_) ∨ w.heap.size ≤ k_) ∧ some k_ ≠ (.slice Ao43 t512.length co43 : Value).ownBlock ∧ k_ ≠ gb497 ∧ k_ ≠ gb498 ∧ k_ ≠ gb499 ∧ k_ ≠ gb508) (.slice (some ⟨go32, 0, none⟩) x7_1.length co32) x7_1 from (Kd.N_mono (HO_7.out) (fun k_ hk => ⟨hk.1.1, ⟨hk.2, ⟨hk.1.2.1, ⟨hk.1.2.2.1, ⟨hk.1.2.2.2.1, hk.1.2.2.2.2⟩⟩⟩⟩⟩)))
           replace HX44 := Aside0.mk (show Kd.N k25 25 _ w.heap.size (fun k_ => ((P0_1_ k_ ∨ P2_1_ k_) ∨ w.heap.size ≤ k_) ∧ k_ ≠ gb497 ∧ k_ ≠ gb498 ∧ k_ ≠ gb499 ∧ k_ ≠ gb508) (.slice (some ⟨go32, 0, none⟩) x7_1.length co32) x7_1 from Kd.N_mono HX44.out (fun k_ hk => ⟨hk.1, ⟨hk.2.2.1, ⟨hk.2.2.2.1, ⟨hk.2.2.2.2.1, hk.2.2.2.2.2⟩⟩⟩⟩))
           obtain ⟨ce44, hcl44, hM44, hcc44, hfr44⟩ := Kd.N_elem HX44.out z25 (x21_1 : Int) (of_decide_eq_true y23) (by have h_ : (x21_1 : Int) < ((x7_1.length : Int) : Int) := of_decide_eq_true y23; first | exact h_ | (have e_ := (Kd.N_reads' HO_7.out).1; omega) | simpa using h_)
           obtain ⟨ua44_1, uc44_1, rfl, ul44_1, ge44_1⟩ := k25_openF hM44
           have HP44 := (Kd.N_seg HX44.out (x21_1 : Int) (of_decide_eq_true y23) (by have h_ : (x21_1 : Int) < ((x7_1.length : Int) : Int) := of_decide_eq_true y23; first | exact h_ | (have e_ := (Kd.N_reads' HO_7.out).1; omega) | simpa using h_) (seg := [.int .i64 t511, .slice Ao43 t512.length co43]) (j := 0) hcl44 hcc44 (show 2 ≤ 2 from by decide) (x' := (⟨t511, t512⟩ : S25)) (k25_mkF _ _ (⟨t511, t512⟩ : S25) (Kd.N_reads' (Kd.N_mono (ok' := (fun k_ => ((fun k_ => ((P0_1_ k_ ∨ P2_1_ k_) ∨ w.heap.size ≤ k_) ∧ k_ ≠ gb497 ∧ k_ ≠ gb498 ∧ k_ ≠ gb499 ∧ k_ ≠ gb508)) k_ ∧ k_ ≠ go32)) (HO514.out) (fun k_ hk => ⟨⟨hk.1, ⟨hk.2.2.1, ⟨hk.2.2.2.1, ⟨hk.2.2.2.2.1, hk.2.2.2.2.2⟩⟩⟩⟩, fun e_ => (hk.2.1) (by rw [e_]; rfl)⟩))).2.1 (Kd.N_F (Kd.N_mono (ok' := (fun k_ => ((fun k_ => ((P0_1_ k_ ∨ P2_1_ k_) ∨ w.heap.size ≤ k_) ∧ k_ ≠ gb497 ∧ k_ ≠ gb498 ∧ k_ ≠ gb499 ∧ k_ ≠ gb508)) k_ ∧ k_ ≠ go32)) (HO514.out) (fun k_ hk => ⟨⟨hk.1, ⟨hk.2.2.1, ⟨hk.2.2.2.1, ⟨hk.2.2.2.2.1, hk.2.2.2.2.2⟩⟩⟩⟩, fun e_ => (hk.2.1) (by rw [e_]; rfl)⟩)))) (fun _ hk => hk)).1
           rw [← Ny515.out] at HP44
           have HQ44 := Aside0.mk HP44
           clear hcl44 hcc44 hfr44 hM44 HP44
           refine hK.out _ _ ⟨(blk_cell BK508.out 0).trans rfl, (blk_cell BK508.out 1).trans rfl, (blk_cell BK498.out 0).trans rfl, (blk_cell BK498.out 1).trans rfl⟩ (fun hHeld => ?_)
           clear hK K
           refine norm_ (a' := ?_) ?_ ?_
           rotate_left
           ·show Act.put _ (some 37) _ = _
            simp only [Act.put, List.setIfInBounds_toArray, List.set_cons_zero, List.set_cons_succ, i64_w, i32_w]
            rfl
           refine zp 7 (some 38) HT_ ?_
           refine last_ (i := 8) (N := none) #[true, true, true, true, true, true, true, true, true] rfl rfl (one_of HT_.out (by kernel_rfl)) (by decide) (fun K hK => ?_)
           refine skip_ (w1 := ?_) (by rfl) rfl ?_ ?_
           rotate_left
           ·go_simp
            rfl
           refine hK.out _ _ ?_
           clear hK K
           refine done_ (done_of HT_.out (by kernel_rfl)) ?_
           try go_wp2
           go_roundg k1
           case measure => have := HK1.out; omega
           case rel => exact ⟨(y515), (wrap64 (x21_1 + 1)), (x498000_1), (x498001_1), (x499000_1), (x499001_1), (x500000_1), (u498001), (.slice Ao41 x499001_1.length co41), y34, H', ⟨(y57 HK1.out)⟩, ⟨(y92 HQ44.out)⟩, ⟨(by (with_reducible repeat (first | apply Kd.V_alloc | apply Kd.V_drewN | apply Kd.V_drew)); exact Kd.V_mono (Kd.V_far (p := ⟨go32, (x21_1 : Int).toNat * 2 + 1, none⟩) (Kd.V_far (p := ⟨go32, (x21_1 : Int).toNat * 2, none⟩) (Kd.V_mono HO_19.out (fun k_ hk => (⟨hk, fun e_ => hk.1.2.1 (by rw [e_]; rfl)⟩ : _ ∧ k_ ≠ go32))) (fun _ hk => hk.2) (.int .i64 t511)) (fun _ hk => hk.2) (.slice Ao43 t512.length co43)) (fun _ hk => ⟨hk.1.1.1, ⟨hk.1.1.2.1, ⟨hk.1.1.2.2.1, ⟨hk.1.1.2.2.2.1, hk.1.1.2.2.2.2.1⟩⟩⟩⟩))⟩, ⟨(by (with_reducible repeat (first | apply Kd.V_alloc | apply Kd.V_drewN | apply Kd.V_drew)); exact Kd.V_mono (Kd.V_far (p := ⟨go32, (x21_1 : Int).toNat * 2 + 1, none⟩) (Kd.V_far (p := ⟨go32, (x21_1 : Int).toNat * 2, none⟩) (Kd.V_mono HO_498001.out (fun k_ hk => (⟨hk, fun e_ => hk.1.2.1 (by rw [e_]; rfl)⟩ : _ ∧ k_ ≠ go32))) (fun _ hk => hk.2) (.int .i64 t511)) (fun _ hk => hk.2) (.slice Ao43 t512.length co43)) (fun _ hk => ⟨hk.1.1.1, ⟨hk.1.1.2.1, ⟨hk.1.1.2.2.1, ⟨hk.1.1.2.2.2.1, hk.1.1.2.2.2.2.1⟩⟩⟩⟩))⟩, ⟨(by (with_reducible repeat (first | apply Kd.V_alloc | apply Kd.V_drewN | apply Kd.V_drew)); exact Kd.V_mono (Kd.V_far (p := ⟨go32, (x21_1 : Int).toNat * 2 + 1, none⟩) (Kd.V_far (p := ⟨go32, (x21_1 : Int).toNat * 2, none⟩) (Kd.V_mono HO_499001.out (fun k_ hk => (⟨hk, fun e_ => hk.1.2.1 (by rw [e_]; rfl)⟩ : _ ∧ k_ ≠ go32))) (fun _ hk => hk.2) (.int .i64 t511)) (fun _ hk => hk.2) (.slice Ao43 t512.length co43)) (fun _ hk => ⟨hk.1.1.1, ⟨hk.1.1.2.1, ⟨hk.1.1.2.2.1, ⟨hk.1.1.2.2.2.1, hk.1.1.2.2.2.2.1⟩⟩⟩⟩))⟩, ⟨(y50 HQ44.out BK497.out)⟩, ⟨(y49 HQ44.out BK498.out)⟩, ⟨(y48 HQ44.out BK499.out)⟩, ⟨(y65 HB.out GB32.out GE497.out GE498.out GE499.out GE508.out)⟩⟩
          ·rw [if_neg c31] at H
           exact absurd H (by simp)
         ·rw [if_neg c29] at H
          exact absurd H (by simp)
        ·rw [if_neg c28] at H
         have c28b0 : (x21_1 == (rd l1 0)) = false := beq_eq_false_iff_ne.mpr c28
         have c28b1 : (x21_1 != (rd l1 0)) = true := bne_iff_ne.mpr c28
         obtain ⟨⟨t516, t517⟩, A450, H⟩ := ob H
         have A45 := Aside0.mk A450
         clear A450
         by_cases c46 : x21_1 < (x7_1.length : Int)
         ·rw [if_pos c46] at H
          have c46b0 : decide (x21_1 < (x7_1.length : Int)) = true := decide_eq_true c46
          clear c46
          obtain ⟨y520, hy520⟩ : ∃ y_ : List (S25), y_ = (x7_1.set (x21_1 : Int).toNat (⟨t516, t517⟩ : S25)) := ⟨_, rfl⟩
          replace H : (impl_valWith.l0 k1 l1 y520 l0_1 (l0_1.length : Int) (wrap64 (x21_1 + 1)) x499000_1 x499001_1) = some (r1, r2) := by first | (rw [hy520]; with_reducible exact H) | (have H2_ := (Option.bind_some _ _).symm.trans H; rw [hy520]; with_reducible exact H2_) | (have H2_ := (Option.bind_some _ _).symm.trans H; with_reducible exact H2_) | with_reducible exact H | (rw [hy520]; exact H) | exact H
          have Ny520 := Aside0.mk hy520
          clear hy520
          have H' := Aside0.mk H
          clear H
          have p507 : 0 ≤ (x21_1 : Int) := of_decide_eq_true y23
          have q507 : x21_1 < (l0_1.length : Int) := of_decide_eq_true y23
          obtain ⟨ad507, A507_1, c507_1, e507, hx507_0, hx507_1, hl507_1, hi507_1⟩ := at_T25 (Kd.V_reads' HO_19.out).2.2 x21_1 p507 q507
          cases e507
          obtain ⟨ce507, hce507, hMe507, hcc507⟩ := Kd.V_get HO_19.out z25 x21_1 p507 (by first | exact q507 | exact of_decide_eq_true y23 | (have e_ := (Kd.V_reads' HO_19.out).1; omega))
          obtain ⟨ua507_1, uc507_1, rfl, ul507_1, ge507_1⟩ := k25_openF hMe507
          have hv507_1 := hcc507 1 _ rfl
          rw [add_field _ _ 1 (by omega)] at hv507_1
          replace hv507_1 := Option.some.inj (hv507_1.symm.trans hx507_1)
          injection hv507_1 with hva_ hvn_ hvc_
          rw [hva_] at ge507_1
          rw [hvc_] at ul507_1
          have HL507_1 := Aside0.mk (show Kd.V k25 25 _ w.heap.size _ _ ((rd_T25 l0_1 x21_1).f1) from Kd.V_mk ul507_1 ge507_1)
          clear hva_ hvn_ hvc_ ge507_1 ul507_1
          clear hcc507 hce507
          have HR507_1 := Aside0.mk hi507_1
          have HC507_1 := Aside0.mk hl507_1
          clear hi507_1 hl507_1
          replace p507 := eq_true p507
          replace q507 := eq_true q507
          go_wp2_with (first | ((with_reducible refine gate_dst (N := 9) rfl ?_); refine zbx 9 #[.int .i64 0, .slice none 0 0] 25 ?_; intro gb508 hg w48 hbox hb; replace HO_7 := Aside0.mk (Kd.N_below (Kd.N_elderB (y3 HO_7.out) gb508 (Nat.le_of_eq hg.symm)) hb); replace HO_19 := Aside0.mk (Kd.V_below (Kd.V_elderB (y10 HO_19.out) gb508 (Nat.le_of_eq hg.symm)) hb); replace HO_498001 := Aside0.mk (Kd.V_below (Kd.V_elderB (y10 HO_498001.out) gb508 (Nat.le_of_eq hg.symm)) hb); replace HO_499001 := Aside0.mk (Kd.V_below (Kd.V_elderB (y10 HO_499001.out) gb508 (Nat.le_of_eq hg.symm)) hb); replace HL507_1 := Aside0.mk (Kd.V_below (Kd.V_elderB (y10 HL507_1.out) gb508 (Nat.le_of_eq hg.symm)) hb); replace HR507_1 := Aside0.mk (Kd.C_below (y85 HR507_1.out) hb); have BK508 := Aside0.mk hbox; have GW508 := Aside0.mk ((y22 hg HB.out GE497.out GE498.out GE499.out : w.heap.size ≤ gb508)); have GE508 := Aside0.mk ((y22 hg HB.out GE497.out GE498.out GE499.out : w.heap.size ≤ gb508)); replace HB := Aside0.mk (below_step (y4 HB.out GE497.out GE498.out GE499.out) hb); have NB497_508 := zltn hg BK497; have NB508_497 := zgtn hg BK497; replace BK497 := zbb BK497 hb; have NB498_508 := zltn hg BK498; have NB508_498 := zgtn hg BK498; replace BK498 := zbb BK498 hb; have NB499_508 := zltn hg BK499; have NB508_499 := zgtn hg BK499; replace BK499 := zbb BK499 hb; clear hb hbox hg; have hnb49 := NB508_497.out; have hnc49 := NB497_508.out; have hnb50 := NB508_498.out; have hnc50 := NB498_508.out; have hnb51 := NB508_499.out; have hnc51 := NB499_508.out; have hcz52_0 := zh BK508; have hcz52_1 := zh1 BK508; have hfz52_0 := zfr BK508 0; have hfz52_1 := zfr BK508 1; have p509 : 0 ≤ (0 : Int) := (by omega); have q509 : 0 < (l1.length : Int) := of_decide_eq_true y23; obtain ⟨ad509, e509, hx509_0⟩ := Kd.at_int HR1.out 0 p509 q509; cases e509; have qi509 : (0 < l1.length) = True := eq_true (by omega); (try rw [show ((0 : Int)).toNat = 0 from rfl] at hx509_0); (try rw [Addr.add_zero'] at hx509_0); have hn509_0 : ad509.block ≠ gb508 := Nat.ne_of_lt (Nat.lt_of_lt_of_le (by have := World.block_lt_of_cell? _ _ hx509_0; first | rwa [add_block] at this | exact this) GW508.out); have hn509_1 : ad509.block ≠ gb508 := Nat.ne_of_lt (Nat.lt_of_lt_of_le (by have := World.block_lt_of_cell? _ _ hx509_0; first | rwa [add_block] at this | exact this) GW508.out); replace hx509_0 := (HB.out.cell (World.block_lt_of_cell? w _ hx509_0)).trans hx509_0; replace hx509_0 := (cell_far (p := ⟨gb508, 0, none⟩) (by first | (rw [add_block]; exact hn509_0) | (show (Addr.add _ _).block ≠ _; rw [add_block]; exact hn509_0) | exact hn509_0) (.int .i64 ((rd_T25 l0_1 x21_1).f0))).trans hx509_0; replace hx509_0 := (cell_far (p := ⟨gb508, 1, none⟩) (by first | (rw [add_block]; exact hn509_1) | (show (Addr.add _ _).block ≠ _; rw [add_block]; exact hn509_1) | exact hn509_1) (.slice A507_1 ((rd_T25 l0_1 x21_1).f1).length c507_1)).trans hx509_0; clear hn509_0; clear hn509_1; replace p509 := eq_true p509; replace q509 := eq_true q509) | ((with_reducible refine gate_callee (f := 40) rfl ?_); refine goesL_ (some 42) rfl rfl Try.func40 (by kernel_rfl) rfl #[.agg #[.int .i64 ((rd_T25 l0_1 x21_1).f0), .slice A507_1 ((rd_T25 l0_1 x21_1).f1).length c507_1]] rfl y8 ?_; (with_reducible refine (impl_valCopy.calls k1 ((rd_T25 l0_1 x21_1).f0) _ _ ((rd_T25 l0_1 x21_1).f1) t516 t517 _ ?side1 ?side2 A45.out).mono ?_); (case side1 => repeat (first | exact ((Kd.V_reads' (by (with_reducible repeat (first | apply Kd.V_alloc | apply Kd.V_drewN | apply Kd.V_drew)); exact (Kd.V_mono (Kd.V_far (p := ⟨gb508, 1, none⟩) (Kd.V_far (p := ⟨gb508, 0, none⟩) (Kd.V_mono HL507_1.out (fun k_ hk => (⟨hk, hk.2⟩ : _ ∧ k_ ≠ gb508))) (fun _ hk => hk.2) (.int .i64 ((rd_T25 l0_1 x21_1).f0))) (fun _ hk => hk.2) (.slice A507_1 ((rd_T25 l0_1 x21_1).f1).length c507_1)) (fun _ h_ => h_.1)))).2.2) | (with_reducible refine Kd.C_alloc ?_ _) | (with_reducible refine Kd.C_drewN ?_ _) | (with_reducible refine Kd.C_drew ?_))); (case side2 => exact HC507_1.out); rintro e w53 ⟨v518, rfl, ho0, hb⟩; refine ⟨_, rfl, ?_⟩; replace HO_19 := Aside0.mk (Kd.V_elder' (by (with_reducible repeat (first | apply Kd.V_alloc | apply Kd.V_drewN | apply Kd.V_drew)); exact (Kd.V_mono (Kd.V_far (p := ⟨gb508, 1, none⟩) (Kd.V_far (p := ⟨gb508, 0, none⟩) (Kd.V_mono HO_19.out (fun k_ hk => (⟨hk, hk.2⟩ : _ ∧ k_ ≠ gb508))) (fun _ hk => hk.2) (.int .i64 ((rd_T25 l0_1 x21_1).f0))) (fun _ hk => hk.2) (.slice A507_1 ((rd_T25 l0_1 x21_1).f1).length c507_1)) (fun _ h_ => h_.1))) (Kd.N_base ho0) hb); replace HO_498001 := Aside0.mk (Kd.V_elder' (by (with_reducible repeat (first | apply Kd.V_alloc | apply Kd.V_drewN | apply Kd.V_drew)); exact (Kd.V_mono (Kd.V_far (p := ⟨gb508, 1, none⟩) (Kd.V_far (p := ⟨gb508, 0, none⟩) (Kd.V_mono HO_498001.out (fun k_ hk => (⟨hk, hk.2⟩ : _ ∧ k_ ≠ gb508))) (fun _ hk => hk.2) (.int .i64 ((rd_T25 l0_1 x21_1).f0))) (fun _ hk => hk.2) (.slice A507_1 ((rd_T25 l0_1 x21_1).f1).length c507_1)) (fun _ h_ => h_.1))) (Kd.N_base ho0) hb); replace HO_499001 := Aside0.mk (Kd.V_elder' (by (with_reducible repeat (first | apply Kd.V_alloc | apply Kd.V_drewN | apply Kd.V_drew)); exact (Kd.V_mono (Kd.V_far (p := ⟨gb508, 1, none⟩) (Kd.V_far (p := ⟨gb508, 0, none⟩) (Kd.V_mono HO_499001.out (fun k_ hk => (⟨hk, hk.2⟩ : _ ∧ k_ ≠ gb508))) (fun _ hk => hk.2) (.int .i64 ((rd_T25 l0_1 x21_1).f0))) (fun _ hk => hk.2) (.slice A507_1 ((rd_T25 l0_1 x21_1).f1).length c507_1)) (fun _ h_ => h_.1))) (Kd.N_base ho0) hb); have HO519 := Aside0.mk (Kd.N_lower (Kd.N_mono (ok' := fun k_ => ((P0_1_ k_ ∨ P2_1_ k_) ∨ w.heap.size ≤ k_) ∧ some k_ ≠ (v505 : Value).ownBlock ∧ k_ ≠ gb497 ∧ k_ ≠ gb498 ∧ k_ ≠ gb499 ∧ k_ ≠ gb508) ho0 (fun k_ hk_ => ⟨(.inr (Nat.le_trans (below_size (y7 HB.out GE497.out GE498.out GE499.out GE508.out)) hk_)), (Kd.fresh' (Kd.N_lt (by (with_reducible repeat (first | apply Kd.N_alloc | apply Kd.N_drewN | apply Kd.N_drew)); exact (Kd.N_mono (Kd.N_far (p := ⟨gb508, 1, none⟩) (Kd.N_far (p := ⟨gb508, 0, none⟩) (Kd.N_mono HO_7.out (fun k_ hk => (⟨hk, hk.2⟩ : _ ∧ k_ ≠ gb508))) (fun _ hk => hk.2) (.int .i64 ((rd_T25 l0_1 x21_1).f0))) (fun _ hk => hk.2) (.slice A507_1 ((rd_T25 l0_1 x21_1).f1).length c507_1)) (fun _ h_ => h_.1)))) k_ hk_), (Kd.freshB (g := gb497) (o := .cells #[.int .i64 x498000_1, u498001] 25 (0, 0)) (y1 NB497_508.out BK497.out) k_ hk_), (Kd.freshB (g := gb498) (o := .cells #[.int .i64 x499000_1, u499001] 25 (0, 0)) (y1 NB498_508.out BK498.out) k_ hk_), (Kd.freshB (g := gb499) (o := .cells #[.int .i64 x500000_1, .slice none 0 0] 25 (0, 0)) (y1 NB499_508.out BK499.out) k_ hk_), (Kd.freshB (g := gb508) (o := .cells #[.int .i64 ((rd_T25 l0_1 x21_1).f0), .slice A507_1 ((rd_T25 l0_1 x21_1).f1).length c507_1] 25 (0, 0)) (by (with_reducible repeat (first | refine blk_drewN ?_ _ | refine blk_drew ?_ | refine blk_alloc ?_ _)); refine blk_put (cs := #[.int .i64 ((rd_T25 l0_1 x21_1).f0), .slice none 0 0]) ?_ 1 _ rfl; (with_reducible repeat (first | refine blk_drewN ?_ _ | refine blk_drew ?_ | refine blk_alloc ?_ _)); apply blk_put (i := 0); (case h => exact y0 BK508.out); (case e => rfl)) k_ hk_)⟩)) (below_size (y7 HB.out GE497.out GE498.out GE499.out GE508.out))); replace HO_7 := Aside0.mk (Kd.N_elder' (by (with_reducible repeat (first | apply Kd.N_alloc | apply Kd.N_drewN | apply Kd.N_drew)); exact (Kd.N_mono (Kd.N_far (p := ⟨gb508, 1, none⟩) (Kd.N_far (p := ⟨gb508, 0, none⟩) (Kd.N_mono HO_7.out (fun k_ hk => (⟨hk, hk.2⟩ : _ ∧ k_ ≠ gb508))) (fun _ hk => hk.2) (.int .i64 ((rd_T25 l0_1 x21_1).f0))) (fun _ hk => hk.2) (.slice A507_1 ((rd_T25 l0_1 x21_1).f1).length c507_1)) (fun _ h_ => h_.1))) (Kd.N_base ho0) hb); replace BK497 := Aside0.mk (blk_below (g := gb497) (o := .cells #[.int .i64 x498000_1, u498001] 25 (0, 0)) (y1 NB497_508.out BK497.out) hb); replace BK498 := Aside0.mk (blk_below (g := gb498) (o := .cells #[.int .i64 x499000_1, u499001] 25 (0, 0)) (y1 NB498_508.out BK498.out) hb); replace BK499 := Aside0.mk (blk_below (g := gb499) (o := .cells #[.int .i64 x500000_1, .slice none 0 0] 25 (0, 0)) (y1 NB499_508.out BK499.out) hb); replace HR507_1 := Aside0.mk (Kd.C_below ((Kd.V_reads' (by (with_reducible repeat (first | apply Kd.V_alloc | apply Kd.V_drewN | apply Kd.V_drew)); exact (Kd.V_mono (Kd.V_far (p := ⟨gb508, 1, none⟩) (Kd.V_far (p := ⟨gb508, 0, none⟩) (Kd.V_mono HL507_1.out (fun k_ hk => (⟨hk, hk.2⟩ : _ ∧ k_ ≠ gb508))) (fun _ hk => hk.2) (.int .i64 ((rd_T25 l0_1 x21_1).f0))) (fun _ hk => hk.2) (.slice A507_1 ((rd_T25 l0_1 x21_1).f1).length c507_1)) (fun _ h_ => h_.1)))).2.2) hb); replace HL507_1 := Aside0.mk (Kd.V_elder' (by (with_reducible repeat (first | apply Kd.V_alloc | apply Kd.V_drewN | apply Kd.V_drew)); exact (Kd.V_mono (Kd.V_far (p := ⟨gb508, 1, none⟩) (Kd.V_far (p := ⟨gb508, 0, none⟩) (Kd.V_mono HL507_1.out (fun k_ hk => (⟨hk, hk.2⟩ : _ ∧ k_ ≠ gb508))) (fun _ hk => hk.2) (.int .i64 ((rd_T25 l0_1 x21_1).f0))) (fun _ hk => hk.2) (.slice A507_1 ((rd_T25 l0_1 x21_1).f1).length c507_1)) (fun _ h_ => h_.1))) (Kd.N_base ho0) hb); replace BK508 := Aside0.mk (blk_below (g := gb508) (o := .cells #[.int .i64 ((rd_T25 l0_1 x21_1).f0), .slice A507_1 ((rd_T25 l0_1 x21_1).f1).length c507_1] 25 (0, 0)) (by (with_reducible repeat (first | refine blk_drewN ?_ _ | refine blk_drew ?_ | refine blk_alloc ?_ _)); refine blk_put (cs := #[.int .i64 ((rd_T25 l0_1 x21_1).f0), .slice none 0 0]) ?_ 1 _ rfl; (with_reducible repeat (first | refine blk_drewN ?_ _ | refine blk_drew ?_ | refine blk_alloc ?_ _)); apply blk_put (i := 0); (case h => exact y0 BK508.out); (case e => rfl)) hb); replace HB := Aside0.mk (below_step (y7 HB.out GE497.out GE498.out GE499.out GE508.out) hb); (try clear hb); (try clear hb2); (try clear hk); (try clear hi); (try clear ho0); have p47 : 0 ≤ (x21_1 : Int) := of_decide_eq_true y23; have q47 : (x21_1 : Int) < ((x7_1.length : Int) : Int) := of_decide_eq_true y23; obtain ⟨go47, co47, eo47, gb47, gl47, cl47, HG47⟩ := Kd.N_form HO_7.out (by omega); (first | cases eo47 | (injection eo47 with ea_ en_ ec_; (first | subst ea_ | (injection ea_ with ea_; subst ea_)); subst ec_; clear en_)); have GB47 := Aside0.mk gb47; have GG47 := Aside0.mk HG47; clear gb47 gl47 HG47; obtain ⟨ce47, hcl47, hM47, hcc47, hfr47⟩ := Kd.N_elem HO_7.out z25 (x21_1 : Int) p47 q47; obtain ⟨ua47_1, uc47_1, rfl, ul47_1, ge47_1⟩ := k25_openF hM47; have hx47_0 : w53.cell? ⟨go47, (x21_1 : Int).toNat * 2, none⟩ = some (.int .i64 ((rd_T25 x7_1 x21_1).f0)) := hcc47 0 _ rfl; have hx47_1 : w53.cell? ⟨go47, (x21_1 : Int).toNat * 2 + 1, none⟩ = some (.slice ua47_1 ((rd_T25 x7_1 x21_1).f1).length uc47_1) := hcc47 1 _ rfl; have hf47_0 : w53.frozen? ⟨go47, (x21_1 : Int).toNat * 2, none⟩ = false := hfr47 0; have hf47_1 : w53.frozen? ⟨go47, (x21_1 : Int).toNat * 2 + 1, none⟩ = false := hfr47 1; clear hcl47 hcc47 hfr47 hM47; replace p47 := eq_true p47; replace q47 := eq_true q47; obtain ⟨Ao54, co54, eo54⟩ := Kd.N_slice HO519.out; subst eo54; have n_ := Aside0.mk (Kd.N_mono (ok' := (fun k_ => ((P0_1_ k_ ∨ P2_1_ k_) ∨ w.heap.size ≤ k_) ∧ some k_ ≠ (.slice Ao54 t517.length co54 : Value).ownBlock ∧ k_ ≠ gb497 ∧ k_ ≠ gb498 ∧ k_ ≠ gb499 ∧ k_ ≠ gb508)) HO_7.out (fun k_ hk => ⟨hk.1.1.1, ⟨hk.2, ⟨hk.1.1.2.1, ⟨hk.1.1.2.2.1, ⟨hk.1.1.2.2.2, hk.1.2⟩⟩⟩⟩⟩)); clear HO_7; have HO_7 := n_; clear n_; have HX55 := Aside0.mk (show Kd.N k25 25 w53 w.heap.size (fun k_ => ((P0_1_ k_ ∨ P2_1_ k_) ∨ w.heap.size ≤ k_) ∧ k_ ≠ gb497 ∧ k_ ≠ gb498 ∧ k_ ≠ gb499 ∧ k_ ≠ gb508) (.slice (some ⟨go47, 0, none⟩) x7_1.length co47) x7_1 from (by (with_reducible repeat (first | apply Kd.N_alloc | apply Kd.N_drewN | apply Kd.N_drew)); exact Kd.N_mono HO_7.out (fun _ hk => ⟨hk.1, ⟨hk.2.2.1, ⟨hk.2.2.2.1, ⟨hk.2.2.2.2.1, hk.2.2.2.2.2⟩⟩⟩⟩))); obtain ⟨ce55, hcl55, hM55, hcc55, hfr55⟩ := Kd.N_elem HX55.out z25 (x21_1 : Int) (of_decide_eq_true y23) (by have h_ : (x21_1 : Int) < ((x7_1.length : Int) : Int) := of_decide_eq_true y23; first | exact h_ | (have e_ := (Kd.N_reads' HO_7.out).1; omega) | simpa using h_); obtain ⟨ua55_1, uc55_1, rfl, ul55_1, ge55_1⟩ := k25_openF hM55; have HP55 := Kd.N_seg HX55.out (x21_1 : Int) (of_decide_eq_true y23) (by have h_ : (x21_1 : Int) < ((x7_1.length : Int) : Int) := of_decide_eq_true y23; first | exact h_ | (have e_ := (Kd.N_reads' HO_7.out).1; omega) | simpa using h_) (seg := [.int .i64 t516, .slice Ao54 t517.length co54]) (j := 0) hcl55 hcc55 (show 2 ≤ 2 from by decide) (x' := (⟨t516, t517⟩ : S25)) (k25_mkF _ _ (⟨t516, t517⟩ : S25) (Kd.N_reads' (Kd.N_mono (ok' := (fun k_ => ((fun k_ => ((P0_1_ k_ ∨ P2_1_ k_) ∨ w.heap.size ≤ k_) ∧ k_ ≠ gb497 ∧ k_ ≠ gb498 ∧ k_ ≠ gb499 ∧ k_ ≠ gb508)) k_ ∧ k_ ≠ go47)) (HO519.out) (fun k_ hk => ⟨⟨hk.1, ⟨hk.2.2.1, ⟨hk.2.2.2.1, ⟨hk.2.2.2.2.1, hk.2.2.2.2.2⟩⟩⟩⟩, fun e_ => (hk.2.1) (by rw [e_]; rfl)⟩))).2.1 (Kd.N_F (Kd.N_mono (ok' := (fun k_ => ((fun k_ => ((P0_1_ k_ ∨ P2_1_ k_) ∨ w.heap.size ≤ k_) ∧ k_ ≠ gb497 ∧ k_ ≠ gb498 ∧ k_ ≠ gb499 ∧ k_ ≠ gb508)) k_ ∧ k_ ≠ go47)) (HO519.out) (fun k_ hk => ⟨⟨hk.1, ⟨hk.2.2.1, ⟨hk.2.2.2.1, ⟨hk.2.2.2.2.1, hk.2.2.2.2.2⟩⟩⟩⟩, fun e_ => (hk.2.1) (by rw [e_]; rfl)⟩)))) (fun _ hk => hk); have hx55_0 := hcc55 0 _ rfl; (try simp only [show (k25).sz = 2 from rfl, Nat.mul_one, Nat.add_zero] at hx55_0); have hf55_0 := hfr55 0; (try simp only [show (k25).sz = 2 from rfl, Nat.mul_one, Nat.add_zero] at hf55_0); have hx55_1 := hcc55 1 _ rfl; (try simp only [show (k25).sz = 2 from rfl, Nat.mul_one, Nat.add_zero] at hx55_1); have hf55_1 := hfr55 1; (try simp only [show (k25).sz = 2 from rfl, Nat.mul_one, Nat.add_zero] at hf55_1); clear hcl55 hcc55 hfr55 hM55) | ((with_reducible refine gate_store (t := 25) (p := 43) rfl ?_); refine store_event (t := 25) (p := 43) (v := ?vo_w56) (w1 := ((w53.setCell ⟨go47, (x21_1 : Int).toNat * 2, none⟩ (.int .i64 t516)).setCell ⟨go47, (x21_1 : Int).toNat * 2 + 1, none⟩ (.slice Ao54 t517.length co54))) ?hg ?ho ?hn ?hr ?_; (case ho => rfl); (case hg => rfl); (case hn => rfl); (case hr => first | (go_simp; done) | (go_simp; rfl)); intro w56 hw; have hg : w53.grownBy w56 (some go47) := (by rw [hw]; exact HP55.2); have hp_ : Kd.N k25 25 w56 w.heap.size (fun k_ => ((P0_1_ k_ ∨ P2_1_ k_) ∨ w.heap.size ≤ k_) ∧ k_ ≠ gb497 ∧ k_ ≠ gb498 ∧ k_ ≠ gb499 ∧ k_ ≠ gb508) (.slice (some ⟨go47, 0, none⟩) x7_1.length co47) y520 := (by rw [hw, Ny520.out]; exact HP55.1); clear HP55; replace HO_19 := Aside0.mk (Kd.V_afterv (v := (.slice (some ⟨go47, 0, none⟩) x7_1.length co47)) (v1 := (.slice (some ⟨go47, 0, none⟩) x7_1.length co47)) (ok := (fun k_ => ((P0_1_ k_ ∨ P2_1_ k_) ∨ w.heap.size ≤ k_) ∧ some k_ ≠ (.slice Ao54 t517.length co54 : Value).ownBlock ∧ k_ ≠ gb497 ∧ k_ ≠ gb498 ∧ k_ ≠ gb499 ∧ k_ ≠ gb508)) (y55 HO_19.out) hg (.inl rfl)); replace HO_498001 := Aside0.mk (Kd.V_afterv (v := (.slice (some ⟨go47, 0, none⟩) x7_1.length co47)) (v1 := (.slice (some ⟨go47, 0, none⟩) x7_1.length co47)) (ok := (fun k_ => ((P0_1_ k_ ∨ P2_1_ k_) ∨ w.heap.size ≤ k_) ∧ some k_ ≠ (.slice Ao54 t517.length co54 : Value).ownBlock ∧ k_ ≠ gb497 ∧ k_ ≠ gb498 ∧ k_ ≠ gb499 ∧ k_ ≠ gb508)) (y55 HO_498001.out) hg (.inl rfl)); replace HO_499001 := Aside0.mk (Kd.V_afterv (v := (.slice (some ⟨go47, 0, none⟩) x7_1.length co47)) (v1 := (.slice (some ⟨go47, 0, none⟩) x7_1.length co47)) (ok := (fun k_ => ((P0_1_ k_ ∨ P2_1_ k_) ∨ w.heap.size ≤ k_) ∧ some k_ ≠ (.slice Ao54 t517.length co54 : Value).ownBlock ∧ k_ ≠ gb497 ∧ k_ ≠ gb498 ∧ k_ ≠ gb499 ∧ k_ ≠ gb508)) (y55 HO_499001.out) hg (.inl rfl)); replace BK497 := Aside0.mk (blk_grown (g := gb497) (o := .cells #[.int .i64 x498000_1, u498001] 25 (0, 0)) (y0 BK497.out) hg (Kd.N_away HO_7.out (fun _ hk => hk.2.2.1))); replace BK498 := Aside0.mk (blk_grown (g := gb498) (o := .cells #[.int .i64 x499000_1, u499001] 25 (0, 0)) (y0 BK498.out) hg (Kd.N_away HO_7.out (fun _ hk => hk.2.2.2.1))); replace BK499 := Aside0.mk (blk_grown (g := gb499) (o := .cells #[.int .i64 x500000_1, .slice none 0 0] 25 (0, 0)) (y0 BK499.out) hg (Kd.N_away HO_7.out (fun _ hk => hk.2.2.2.2.1))); replace HL507_1 := Aside0.mk (Kd.V_afterv (v := (.slice (some ⟨go47, 0, none⟩) x7_1.length co47)) (v1 := (.slice (some ⟨go47, 0, none⟩) x7_1.length co47)) (ok := (fun k_ => ((P0_1_ k_ ∨ P2_1_ k_) ∨ w.heap.size ≤ k_) ∧ some k_ ≠ (.slice Ao54 t517.length co54 : Value).ownBlock ∧ k_ ≠ gb497 ∧ k_ ≠ gb498 ∧ k_ ≠ gb499 ∧ k_ ≠ gb508)) (y55 HL507_1.out) hg (.inl rfl)); replace BK508 := Aside0.mk (blk_grown (g := gb508) (o := .cells #[.int .i64 ((rd_T25 l0_1 x21_1).f0), .slice A507_1 ((rd_T25 l0_1 x21_1).f1).length c507_1] 25 (0, 0)) (y0 BK508.out) hg (Kd.N_away HO_7.out (fun _ hk => hk.2.2.2.2.2))); replace HO_7 := Aside0.mk (hp_); replace HB := Aside0.mk ((by rw [hw]; exact below_set (below_set (HB.out) GB47.out) GB47.out : Below w.heap.size w w56)); clear HO519; clear hg hw hp_))
          go_roundg k1
          case measure => have := HK1.out; omega
          case rel => exact ⟨(y520), (wrap64 (x21_1 + 1)), (x498000_1), (x498001_1), (x499000_1), (x499001_1), (x500000_1), (u498001), (u499001), y34, H', ⟨(y57 HK1.out)⟩, ⟨(y92 HO_7.out)⟩, ⟨(y64 HO_19.out)⟩, ⟨(y64 HO_498001.out)⟩, ⟨(y64 HO_499001.out)⟩, ⟨(y0 BK497.out)⟩, ⟨(y0 BK498.out)⟩, ⟨(y0 BK499.out)⟩, ⟨(y7 HB.out GE497.out GE498.out GE499.out GE508.out)⟩⟩
         ·rw [if_neg c46] at H
          exact absurd H (by simp)
       ·rw [if_neg c27] at H
        exact absurd H (by simp)
      ·rw [if_neg c26] at H
       exact absurd H (by simp)
     ·rw [if_neg c25] at H
      exact absurd H (by simp)
    ·rw [if_neg c24] at H
     have c24b0 : decide (x21_1 < (l0_1.length : Int)) = false := decide_eq_false c24
     clear c24
     simp only [Option.some.injEq, Prod.mk.injEq] at H
     obtain ⟨rfl, rfl⟩ := H
     obtain ⟨Ao57, co57, eo57⟩ := Kd.N_slice HO_7.out
     subst eo57
     have hnb58 := NB499_497.out
     have hnc58 := NB497_499.out
     have hnb59 := NB499_498.out
     have hnc59 := NB498_499.out
     have hcz60_0 := zh BK499
     have hcz60_1 := zh1 BK499
     have hfz60_0 := zfr BK499 0
     have hfz60_1 := zfr BK499 1
     go_wp2
     refine bodyPost_ret (results_cell_row rfl _ _ gb499 25 #[.int .i64 0, .slice Ao57 x7_1.length co57] (0, 0) _ rfl (by (with_reducible repeat (first | refine blk_drewN ?_ _ | refine blk_drew ?_ | refine blk_alloc ?_ _)); refine blk_put (cs := #[.int .i64 0, .slice none 0 0]) ?_ 1 _ rfl; (with_reducible repeat (first | refine blk_drewN ?_ _ | refine blk_drew ?_ | refine blk_alloc ?_ _)); apply blk_put (i := 0); (case h => exact y0 BK499.out); (case e => rfl)) Try.underlying25 rfl (by kernel_rfl)) rfl ?_
     exact ⟨_, y19, (by (with_reducible repeat (first | apply Kd.N_alloc | apply Kd.N_drewN | apply Kd.N_drew)); exact Kd.N_mono (Kd.N_far (p := ⟨gb499, 1, none⟩) (Kd.N_far (p := ⟨gb499, 0, none⟩) (Kd.N_mono HO_7.out (fun k_ hk => (⟨hk, hk.2.2.2⟩ : _ ∧ k_ ≠ gb499))) (fun _ hk => hk.2) (.int .i64 0)) (fun _ hk => hk.2) (.slice Ao57 x7_1.length co57)) (fun _ hk => hk.1.1)), (y4 HB.out GE497.out GE498.out GE499.out)⟩
end Go.Proofs.Ythfflieeifakdaa.PA
end
