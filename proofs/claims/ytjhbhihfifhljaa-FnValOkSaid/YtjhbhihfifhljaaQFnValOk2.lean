-- Ytjhbhihfifhljaa's texts for the statement FnValOk, one behind the other (merge.py).
import Derived.Test.YtjhbhihfifhljaaQFnValOk0
import Derived.Test.YtjhbhihfifhljaaQFnValOk1
import Derived.OpenShut
import Derived.Laws.BitsLemmas
section
namespace Go.Proofs.Ytjhbhihfifhljaa.PA
open Go.RowKit Go.Proofs.YtjhbhihfifhljaaW.PrintWords Go.Proofs.YtjhbhihfifhljaaW.PrintLast Go.Proofs.YtjhbhihfifhljaaW.PrintMore
attribute [local go_sem] max2_int min2_int max_two min_two max_three min_three max_four min_four
set_option linter.unusedVariables false
set_option linter.unusedSimpArgs false
mutual
def impl_valType.j0 : Nat → Int → Bool → Int → List (S55) → Option ((List (S30)) × Bool)
 | 0, _, _, _, _ => none
 | k + 1, x1, x34, x709000, x709001 => if x34 = true then (some (([] : List (S30)), false)) else (if 0 < (x709001.length : Int) then ((impl_valType.f k ((rd_T55 x709001 0).f0) ((rd_T55 x709001 0).f1) (wrap64 (x1 - 1))).bind fun bt711 => (if 1 < (x709001.length : Int) then ((impl_valType.f k ((rd_T55 x709001 1).f0) ((rd_T55 x709001 1).f1) (wrap64 (x1 - 1))).bind fun bt717 => (if bt711.2 = true then (if bt717.2 = true then (some ((([(⟨bt711.1⟩ : S30), (⟨bt717.1⟩ : S30)] : List (S30))), true)) else (some (([] : List (S30)), false))) else (some (([] : List (S30)), false)))) else (none))) else (none))
def impl_valType.f : Nat → Int → List (S55) → Int → Option ((List (S30)) × Bool)
 | 0, _, _, _ => none
 | k + 1, a0_0, l0_1, a1 => if a1 < 1 then (some (([] : List (S30)), false)) else (if (l0_1.length : Int) = 0 then (if a0_0 ≥ 0 then (some (([] : List (S30)), decide (a0_0 ≤ 9999))) else (some (([] : List (S30)), false))) else (if (l0_1.length : Int) = 2 then (impl_valType.j0 k a1 (a0_0 != 0) a0_0 l0_1) else (impl_valType.j0 k a1 true a0_0 l0_1)))
end
theorem impl_valType.mono_l : ∀ k, (∀ y0 y1 y2, LeO (impl_valType.f k y0 y1 y2) (impl_valType.f (k + 1) y0 y1 y2)) ∧ (∀ y0 y1 y2 y3, LeO (impl_valType.j0 k y0 y1 y2 y3) (impl_valType.j0 (k + 1) y0 y1 y2 y3))
 | 0 => ⟨fun _ _ _ r h => by simp [impl_valType.f] at h, fun _ _ _ _ r h => by simp [impl_valType.j0] at h⟩
 | k + 1 => by
  obtain ⟨ih0, ih1⟩ := impl_valType.mono_l k
  refine ⟨?_, ?_⟩
  ·intro y0 y1 y2
   unfold impl_valType.f
   repeat' first
   | (with_reducible exact ih0 _ _ _)
   | (with_reducible exact ih1 _ _ _ _)
   | (with_reducible exact LeO.refl _)
   | (with_reducible exact LeO.none _)
   | (with_reducible refine LeO.ite ?_ ?_)
   | (with_reducible refine LeO.bind ?_ (fun _ => ?_))
   | exact ih0 _ _ _
   | exact ih1 _ _ _ _
   | exact LeO.none _
   | refine LeO.ite ?_ ?_
   | refine LeO.bind ?_ (fun _ => ?_)
  ·intro y0 y1 y2 y3
   unfold impl_valType.j0
   repeat' first
   | (with_reducible exact ih0 _ _ _)
   | (with_reducible exact ih1 _ _ _ _)
   | (with_reducible exact LeO.refl _)
   | (with_reducible exact LeO.none _)
   | (with_reducible refine LeO.ite ?_ ?_)
   | (with_reducible refine LeO.bind ?_ (fun _ => ?_))
   | exact ih0 _ _ _
   | exact ih1 _ _ _ _
   | exact LeO.none _
   | refine LeO.ite ?_ ?_
   | refine LeO.bind ?_ (fun _ => ?_)
theorem impl_valType.mono : ∀ a0 a1 a2 k, LeO (impl_valType.f k a0 a1 a2) (impl_valType.f (k + 1) a0 a1 a2) := by
 intro a0 a1 a2 k
 obtain ⟨ih0, ih1⟩ := impl_valType.mono_l k
 exact ih0 a0 a1 a2
def impl_valType.T4 : Bool × List (List Nat × List Nat) := (true, [([], []), ([], []), ([1], [1]), ([2], [2]), ([3], [3]), ([4], [4]), ([5, 4], [4, 5]), ([6, 4], [4, 6]), ([4, 7], [4, 7]), ([0, 4, 0], [0]), ([8, 9, 0, 1, 2, 3, 4, 5, 6, 7, 8, 9], [8])])
def impl_valType.B4 : List Nat := [0, 0, 2, 6, 14, 30, 62, 126, 254, 31, 1023]
theorem impl_valType.tab4 : rtab .any (opsOf Try.f88 4) = impl_valType.T4 := by kernel_rfl
theorem impl_valType.bits4 : waitsOk impl_valType.T4.2 impl_valType.B4 = true := by kernel_rfl
set_option maxHeartbeats 8000000 in
set_option maxRecDepth 100000 in
theorem impl_valType.calls (k : Nat) : ∀ (a0_0 : Int) (A0_1 : Option Addr) (c0_1 : Nat) (l0_1 : List (S55)) (a1 : Int) (r1 : List (S30)) (r2 : Bool) (w : World) (hr0_1 : Kd.C k55 w A0_1 l0_1.length l0_1) (hc0_1 : l0_1.length ≤ c0_1) (h : impl_valType.f k a0_0 l0_1 a1 = some (r1, r2)),
  Calls Try.prog 88 #[.agg #[.int .i64 a0_0, .slice A0_1 l0_1.length c0_1], .int .i64 a1] w fun e w' => ∃ v0_ : Value, e = .returned (.tuple #[.agg #[v0_], .bool r2]) ∧ Kd.N k30 30 w' w.heap.size (fun k_ => (w.heap.size ≤ k_)) v0_ r1 ∧ Below w.heap.size w w' := by
 induction k using Nat.strongRecOn with
 | _ k ih =>
 intro a0_0 A0_1 c0_1 l0_1 a1 r1 r2 w hr0_1 hc0_1 h
 cases k with
 | zero => exact absurd h (by simp [impl_valType.f])
 | succ k =>
 simp only [impl_valType.f] at h
 have hu55 := Try.underlying55
 have hu30 := Try.underlying30
 have HR0_1 := Aside0.mk hr0_1
 have HC0_1 := Aside0.mk hc0_1
 clear hr0_1 hc0_1
 have HB := Aside0.mk (Below.refl w.heap.size w)
 have H : (if a1 < 1 then (some (([] : List (S30)), false)) else (if (l0_1.length : Int) = 0 then (if a0_0 ≥ 0 then (some (([] : List (S30)), decide (a0_0 ≤ 9999))) else (some (([] : List (S30)), false))) else (if (l0_1.length : Int) = 2 then (impl_valType.j0 k a1 (a0_0 != 0) a0_0 l0_1) else (impl_valType.j0 k a1 true a0_0 l0_1)))) = some (r1, r2) := h
 clear h
 by_cases c3 : a1 < 1
 ·rw [if_pos c3] at H
  have c3b0 : decide (a1 < 1) = true := decide_eq_true c3
  clear c3
  simp only [Option.some.injEq, Prod.mk.injEq] at H
  obtain ⟨rfl, rfl⟩ := H
  go_enter Try.func88, Try.ntmps88
  go_wp2_with (first | ((with_reducible refine gate_dst (N := 2) rfl ?_); refine zbx 2 #[.int .i64 a0_0, .slice A0_1 l0_1.length c0_1] 55 ?_; intro gb708 hg w4 hbox hb; have BK708 := Aside0.mk hbox; have GW708 := Aside0.mk ((y5 hg HB.out : w.heap.size ≤ gb708)); have GE708 := Aside0.mk ((y5 hg HB.out : w.heap.size ≤ gb708)); replace HB := Aside0.mk (below_step (y2 HB.out) hb); clear hb hbox hg) | ((with_reducible refine gate_dst (N := 4) rfl ?_); refine zbx 4 #[.slice none 0 0] 30 ?_; intro gb709 hg w5 hbox hb; have BK709 := Aside0.mk hbox; have GW709 := Aside0.mk ((y6 hg HB.out GE708.out : w.heap.size ≤ gb709)); have GE709 := Aside0.mk ((y6 hg HB.out GE708.out : w.heap.size ≤ gb709)); replace HB := Aside0.mk (below_step (y3 HB.out GE708.out) hb); have NB708_709 := zltn hg BK708; have NB709_708 := zgtn hg BK708; replace BK708 := zbb BK708 hb; clear hb hbox hg; have hnb6 := NB709_708.out; have hnc6 := NB708_709.out; have hcz7_0 := zh BK709; have hfz7_0 := zfr BK709 0))
  refine bodyPost_ret (results_ct rfl _ _ gb709 30 #[.slice none 0 0] (0, 0) _ rfl (by (with_reducible repeat (first | refine blk_drewN ?_ _ | refine blk_drew ?_ | refine blk_alloc ?_ _)); apply blk_put (i := 0); (case h => exact y0 BK709.out); (case e => rfl)) Try.underlying30 rfl (by kernel_rfl)) rfl ?_
  exact ⟨_, y14, y36, (y1 HB.out GE708.out GE709.out)⟩
 ·rw [if_neg c3] at H
  have c3b0 : decide (a1 < 1) = false := decide_eq_false c3
  clear c3
  by_cases c8 : (l0_1.length : Int) = 0
  ·rw [if_pos c8] at H
   have c8b0 : ((l0_1.length : Int) == 0) = true := beq_iff_eq.mpr c8
   have c8b1 : ((l0_1.length : Int) != 0) = false := bne_eq_false_iff_eq.mpr c8
   clear c8
   by_cases c9 : a0_0 ≥ 0
   ·rw [if_pos c9] at H
    have c9b0 : decide (0 ≤ a0_0) = true := decide_eq_true c9
    clear c9
    simp only [Option.some.injEq, Prod.mk.injEq] at H
    obtain ⟨rfl, rfl⟩ := H
    go_enter Try.func88, Try.ntmps88
    try go_wp2_with (first | ((with_reducible refine gate_dst (N := 2) rfl ?_); refine zbx 2 #[.int .i64 a0_0, .slice A0_1 l0_1.length c0_1] 55 ?_; intro gb708 hg w10 hbox hb; have BK708 := Aside0.mk hbox; have GW708 := Aside0.mk ((y5 hg HB.out : w.heap.size ≤ gb708)); have GE708 := Aside0.mk ((y5 hg HB.out : w.heap.size ≤ gb708)); replace HB := Aside0.mk (below_step (y2 HB.out) hb); clear hb hbox hg) | ((with_reducible refine gate_dst (N := 4) rfl ?_); refine zbx 4 #[.slice none 0 0] 30 ?_; intro gb709 hg w11 hbox hb; have BK709 := Aside0.mk hbox; have GW709 := Aside0.mk ((y6 hg HB.out GE708.out : w.heap.size ≤ gb709)); have GE709 := Aside0.mk ((y6 hg HB.out GE708.out : w.heap.size ≤ gb709)); replace HB := Aside0.mk (below_step (y3 HB.out GE708.out) hb); have NB708_709 := zltn hg BK708; have NB709_708 := zgtn hg BK708; replace BK708 := zbb BK708 hb; clear hb hbox hg; have hnb12 := NB708_709.out; have hnc12 := NB709_708.out; have hcz13_0 := zh BK708; have hcz13_1 := zh1 BK708; have hfz13_0 := zfr BK708 0; have hfz13_1 := zfr BK708 1))
    replace BK708 := Aside0.mk (blk_drew BK708.out)
    replace BK709 := Aside0.mk (blk_drew BK709.out)
    replace HB := Aside0.mk (below_drew1 HB.out)
    refine start_ (n := 11) (S := fun w' => w'.cell? ⟨gb708, 0, none⟩ = some (.int .i64 a0_0) ∧ w'.cell? ⟨gb708, 1, none⟩ = some (.slice A0_1 l0_1.length c0_1)) (ds := []) #[false, false, false, false, false, false, false, false, false, false, false] (by kernel_rfl) rfl rfl ⟨(blk_cell BK708.out 0).trans rfl, (blk_cell BK708.out 1).trans rfl⟩ (fun hHeld => ?_); refine with_tabW impl_valType.tab4 impl_valType.bits4 (fun HT_ HW_ => ?_)
    generalize w11.drew = w14 at BK708 BK709 HB hHeld ⊢
    refine zp 0 (some 17) HT_ ?_
    refine zp 1 (some 18) HT_ ?_
    refine zt2 2 (some 19) HT_ HW_ hHeld ?_
    refine zp 3 (some 20) HT_ ?_
    refine zp 4 (some 21) HT_ ?_
    refine zp 5 (some 22) HT_ ?_
    refine zt2 6 (some 23) HT_ HW_ hHeld ?_
    refine zp 7 (some 24) HT_ ?_
    refine zp 8 (some 25) HT_ ?_
    refine one_ (i := 9) (N := none) #[true, true, true, true, true, true, true, true, true, true, false] rfl rfl (one_of HT_.out (by kernel_rfl)) (by decide) (fun K hK => ?_)
    have hs15 : w14.cell? ⟨gb709, 0, none⟩ = some (.slice none 0 0) := (blk_cell BK709.out 0).trans rfl
    have hfs15 := zfr BK709 0
    have hns15_0 := NB708_709.out
    have hms15_0 := NB709_708.out
    refine skip_ (w1 := ?_) (by rfl) rfl ?_ ?_
    rotate_left
    ·go_simp
     rfl
    refine hK.out _ _ ⟨((cell_far (p := ⟨gb709, _, none⟩) NB708_709.out _).trans (hHeld.1)), ((cell_far (p := ⟨gb709, _, none⟩) NB708_709.out _).trans (hHeld.2))⟩ (fun hHeld => ?_)
    clear hK K
    refine zp 10 (some 5) HT_ ?_
    refine done_ (done_of HT_.out (by kernel_rfl)) ?_
    try go_wp2
    refine bodyPost_ret (results_ct rfl _ _ gb709 30 #[.slice none 0 0] (0, 0) _ rfl (by (with_reducible repeat (first | refine blk_drewN ?_ _ | refine blk_drew ?_ | refine blk_alloc ?_ _)); apply blk_put (i := 0); (case h => exact y0 BK709.out); (case e => rfl)) Try.underlying30 rfl (by kernel_rfl)) rfl ?_
    exact ⟨_, y14, y36, (y1 HB.out GE708.out GE709.out)⟩
   ·rw [if_neg c9] at H
    have c9b0 : decide (0 ≤ a0_0) = false := decide_eq_false c9
    clear c9
    simp only [Option.some.injEq, Prod.mk.injEq] at H
    obtain ⟨rfl, rfl⟩ := H
    go_enter Try.func88, Try.ntmps88
    try go_wp2_with (first | ((with_reducible refine gate_dst (N := 2) rfl ?_); refine zbx 2 #[.int .i64 a0_0, .slice A0_1 l0_1.length c0_1] 55 ?_; intro gb708 hg w16 hbox hb; have BK708 := Aside0.mk hbox; have GW708 := Aside0.mk ((y5 hg HB.out : w.heap.size ≤ gb708)); have GE708 := Aside0.mk ((y5 hg HB.out : w.heap.size ≤ gb708)); replace HB := Aside0.mk (below_step (y2 HB.out) hb); clear hb hbox hg) | ((with_reducible refine gate_dst (N := 4) rfl ?_); refine zbx 4 #[.slice none 0 0] 30 ?_; intro gb709 hg w17 hbox hb; have BK709 := Aside0.mk hbox; have GW709 := Aside0.mk ((y6 hg HB.out GE708.out : w.heap.size ≤ gb709)); have GE709 := Aside0.mk ((y6 hg HB.out GE708.out : w.heap.size ≤ gb709)); replace HB := Aside0.mk (below_step (y3 HB.out GE708.out) hb); have NB708_709 := zltn hg BK708; have NB709_708 := zgtn hg BK708; replace BK708 := zbb BK708 hb; clear hb hbox hg; have hnb18 := NB708_709.out; have hnc18 := NB709_708.out; have hcz19_0 := zh BK708; have hcz19_1 := zh1 BK708; have hfz19_0 := zfr BK708 0; have hfz19_1 := zfr BK708 1))
    replace BK708 := Aside0.mk (blk_drew BK708.out)
    replace BK709 := Aside0.mk (blk_drew BK709.out)
    replace HB := Aside0.mk (below_drew1 HB.out)
    refine start_ (n := 11) (S := fun w' => w'.cell? ⟨gb708, 0, none⟩ = some (.int .i64 a0_0) ∧ w'.cell? ⟨gb708, 1, none⟩ = some (.slice A0_1 l0_1.length c0_1)) (ds := []) #[false, false, false, false, false, false, false, false, false, false, false] (by kernel_rfl) rfl rfl ⟨(blk_cell BK708.out 0).trans rfl, (blk_cell BK708.out 1).trans rfl⟩ (fun hHeld => ?_); refine with_tabW impl_valType.tab4 impl_valType.bits4 (fun HT_ HW_ => ?_)
    generalize w17.drew = w20 at BK708 BK709 HB hHeld ⊢
    refine zp 0 (some 17) HT_ ?_
    refine zp 1 (some 18) HT_ ?_
    refine zt2 2 (some 19) HT_ HW_ hHeld ?_
    refine zp 3 (some 20) HT_ ?_
    refine zp 4 (some 21) HT_ ?_
    refine pure_ (i := 5) (N := some 22) (v := undef) (a' := ?_) #[true, true, true, true, true, true, false, false, false, false, false] rfl rfl (any_of HT_.out (by kernel_rfl)) (fun _ _ _ h => h) (Or.inr ⟨(by rfl), rfl⟩) ?_ ?_
    rotate_left
    ·simp only [Act.put, List.setIfInBounds_toArray, List.set_cons_zero, List.set_cons_succ, i64_w, i32_w]
     rfl
    refine pure_ (i := 6) (N := some 23) (v := undef) (a' := ?_) #[true, true, true, true, true, true, true, false, false, false, false] rfl rfl (any_of HT_.out (by kernel_rfl)) (fun _ _ _ h => h) (Or.inr ⟨(by rfl), rfl⟩) ?_ ?_
    rotate_left
    ·simp only [Act.put, List.setIfInBounds_toArray, List.set_cons_zero, List.set_cons_succ, i64_w, i32_w]
     rfl
    refine pure_ (i := 7) (N := some 24) (v := undef) (a' := ?_) #[true, true, true, true, true, true, true, true, false, false, false] rfl rfl (any_of HT_.out (by kernel_rfl)) (fun _ _ _ h => h) (Or.inr ⟨(by rfl), rfl⟩) ?_ ?_
    rotate_left
    ·simp only [Act.put, List.setIfInBounds_toArray, List.set_cons_zero, List.set_cons_succ, i64_w, i32_w]
     rfl
    refine zp 8 (some 25) HT_ ?_
    refine one_ (i := 9) (N := none) #[true, true, true, true, true, true, true, true, true, true, false] rfl rfl (one_of HT_.out (by kernel_rfl)) (by decide) (fun K hK => ?_)
    have hs21 : w20.cell? ⟨gb709, 0, none⟩ = some (.slice none 0 0) := (blk_cell BK709.out 0).trans rfl
    have hfs21 := zfr BK709 0
    have hns21_0 := NB708_709.out
    have hms21_0 := NB709_708.out
    refine skip_ (w1 := ?_) (by rfl) rfl ?_ ?_
    rotate_left
    ·go_simp
     rfl
    refine hK.out _ _ ⟨((cell_far (p := ⟨gb709, _, none⟩) NB708_709.out _).trans (hHeld.1)), ((cell_far (p := ⟨gb709, _, none⟩) NB708_709.out _).trans (hHeld.2))⟩ (fun hHeld => ?_)
    clear hK K
    refine zp 10 (some 5) HT_ ?_
    refine done_ (done_of HT_.out (by kernel_rfl)) ?_
    try go_wp2
    refine bodyPost_ret (results_ct rfl _ _ gb709 30 #[.slice none 0 0] (0, 0) _ rfl (by (with_reducible repeat (first | refine blk_drewN ?_ _ | refine blk_drew ?_ | refine blk_alloc ?_ _)); apply blk_put (i := 0); (case h => exact y0 BK709.out); (case e => rfl)) Try.underlying30 rfl (by kernel_rfl)) rfl ?_
    exact ⟨_, y14, y36, (y1 HB.out GE708.out GE709.out)⟩
  ·rw [if_neg c8] at H
   have c8b0 : ((l0_1.length : Int) == 0) = false := beq_eq_false_iff_ne.mpr c8
   have c8b1 : ((l0_1.length : Int) != 0) = true := bne_iff_ne.mpr c8
   have c8b2 : ¬ (l0_1 = []) := fun h_ => c8 (by rw [h_]; rfl)
   have HC22 := Aside0.mk H
   clear H
   go_enter Try.func88, Try.ntmps88
   go_upto_region 5 with (first | ((with_reducible refine gate_dst (N := 2) rfl ?_); refine zbx 2 #[.int .i64 a0_0, .slice A0_1 l0_1.length c0_1] 55 ?_; intro gb708 hg w23 hbox hb; have BK708 := Aside0.mk hbox; have GW708 := Aside0.mk ((y5 hg HB.out : w.heap.size ≤ gb708)); have GE708 := Aside0.mk ((y5 hg HB.out : w.heap.size ≤ gb708)); replace HB := Aside0.mk (below_step (y2 HB.out) hb); clear hb hbox hg) | ((with_reducible refine gate_dst (N := 4) rfl ?_); refine zbx 4 #[.slice none 0 0] 30 ?_; intro gb709 hg w24 hbox hb; have BK709 := Aside0.mk hbox; have GW709 := Aside0.mk ((y6 hg HB.out GE708.out : w.heap.size ≤ gb709)); have GE709 := Aside0.mk ((y6 hg HB.out GE708.out : w.heap.size ≤ gb709)); replace HB := Aside0.mk (below_step (y3 HB.out GE708.out) hb); have NB708_709 := zltn hg BK708; have NB709_708 := zgtn hg BK708; replace BK708 := zbb BK708 hb; clear hb hbox hg; have hnb25 := NB708_709.out; have hnc25 := NB709_708.out; have hcz26_0 := zh BK708; have hcz26_1 := zh1 BK708; have hfz26_0 := zfr BK708 0; have hfz26_1 := zfr BK708 1))
   (try simp only [Act.put, List.setIfInBounds_toArray, List.set_cons_zero, List.set_cons_succ])
   go_cut [34] (fun v34 wc => ∃ (kq : Nat) (x34_21 : Bool), v34 = .bool x34_21 ∧ Aside0 (impl_valType.j0 kq a1 x34_21 a0_0 l0_1 = some (r1, r2)) ∧ Aside0 (kq ≤ k) ∧ Aside0 (wc.heap[gb708]? = some (.cells #[.int .i64 a0_0, (.slice A0_1 l0_1.length c0_1)] 55 (0, 0))) ∧ Aside0 (wc.heap[gb709]? = some (.cells #[(.slice none 0 0)] 30 (0, 0))) ∧ Aside0 (Below w.heap.size w wc))
   case first =>
    have H := HC22.out
    clear HC22
    by_cases c27 : (l0_1.length : Int) = 2
    ·rw [if_pos c27] at H
     have c27b0 : ((l0_1.length : Int) == 2) = true := beq_iff_eq.mpr c27
     have c27b1 : ((l0_1.length : Int) != 2) = false := bne_eq_false_iff_eq.mpr c27
     clear c27
     (first | rw [c27b0] | (simp only [i64_w, i32_w]; rw [c27b0]) | skip)
     have H' := Aside0.mk H
     clear H
     have hnb28 := NB708_709.out
     have hnc28 := NB709_708.out
     have hcz29_0 := zh BK708
     have hcz29_1 := zh1 BK708
     have hfz29_0 := zfr BK708 0
     have hfz29_1 := zfr BK708 1
     go_wp2
     go_meet
     case rel => exact ⟨_, ((a0_0 != 0)), y26, H', ⟨y43⟩, ⟨(y0 BK708.out)⟩, ⟨(y0 BK709.out)⟩, ⟨(y1 HB.out GE708.out GE709.out)⟩⟩
    ·rw [if_neg c27] at H
     have c27b0 : ((l0_1.length : Int) == 2) = false := beq_eq_false_iff_ne.mpr c27
     have c27b1 : ((l0_1.length : Int) != 2) = true := bne_iff_ne.mpr c27
     (first | rw [c27b0] | (simp only [i64_w, i32_w]; rw [c27b0]) | skip)
     have H' := Aside0.mk H
     clear H
     have hnb30 := NB708_709.out
     have hnc30 := NB709_708.out
     have hcz31_0 := zh BK708
     have hcz31_1 := zh1 BK708
     have hfz31_0 := zfr BK708 0
     have hfz31_1 := zfr BK708 1
     go_wp2
     go_meet
     case rel => exact ⟨_, (true), y26, H', ⟨y43⟩, ⟨(y0 BK708.out)⟩, ⟨(y0 BK709.out)⟩, ⟨(y1 HB.out GE708.out GE709.out)⟩⟩
   case rest =>
    clear HC22
    try clear c1
    try clear c2
    try clear p2
    try clear c3
    try clear c3b0
    try clear c6
    try clear c8
    try clear c8b0
    try clear c8b1
    try clear c8b2
    try clear c9
    try clear c9b0
    try clear c12
    try clear c18
    try clear c25
    try clear c27
    try clear c27b0
    try clear c27b1
    try clear c28
    try clear c30
    try clear hcz13_0
    try clear hcz13_1
    try clear hcz19_0
    try clear hcz19_1
    try clear hcz26_0
    try clear hcz26_1
    try clear hcz29_0
    try clear hcz29_1
    try clear hcz31_0
    try clear hcz31_1
    try clear hcz7_0
    try clear hfz13_0
    try clear hfz13_1
    try clear hfz19_0
    try clear hfz19_1
    try clear hfz26_0
    try clear hfz26_1
    try clear hfz29_0
    try clear hfz29_1
    try clear hfz31_0
    try clear hfz31_1
    try clear hfz7_0
    obtain ⟨kq, x34_21, rfl, HA, HJ21, BK708, BK709, HB⟩ := hcut
    cases kq with
    | zero => exact absurd HA.out (by simp [impl_valType.j0])
    | succ kj21 =>
     have H := HA.out
     clear HA
     simp only [impl_valType.j0] at H
     by_cases c32 : x34_21 = true
     ·subst c32
      rw [if_pos rfl] at H
      simp only [Option.some.injEq, Prod.mk.injEq] at H
      obtain ⟨rfl, rfl⟩ := H
      have hnb33 := NB709_708.out
      have hnc33 := NB708_709.out
      have hcz34_0 := zh BK709
      have hfz34_0 := zfr BK709 0
      go_wp2
      refine bodyPost_ret (results_ct rfl _ _ gb709 30 #[.slice none 0 0] (0, 0) _ rfl (by (with_reducible repeat (first | refine blk_drewN ?_ _ | refine blk_drew ?_ | refine blk_alloc ?_ _)); apply blk_put (i := 0); (case h => exact y0 BK709.out); (case e => rfl)) Try.underlying30 rfl (by kernel_rfl)) rfl ?_
      exact ⟨_, y14, y36, (y1 HB.out GE708.out GE709.out)⟩
     ·replace c32 := Bool.eq_false_iff.mpr c32
      subst c32
      rw [if_neg (show ¬ (false = true) by decide)] at H
      by_cases c35 : 0 < (l0_1.length : Int)
      ·rw [if_pos c35] at H
       have c35b0 : decide (0 < (l0_1.length : Int)) = true := decide_eq_true c35
       have c35b1 : decide (0 < l0_1.length) = true := decide_eq_true (by omega)
       clear c35
       obtain ⟨⟨t711, t714⟩, A360, H⟩ := ob H
       have A36 := Aside0.mk A360
       clear A360
       by_cases c37 : 1 < (l0_1.length : Int)
       ·rw [if_pos c37] at H
        have c37b0 : decide (1 < (l0_1.length : Int)) = true := decide_eq_true c37
        have c37b1 : decide (1 < l0_1.length) = true := decide_eq_true (by omega)
        clear c37
        obtain ⟨⟨t717, t720⟩, A380, H⟩ := ob H
        have A38 := Aside0.mk A380
        clear A380
        by_cases c39 : t714 = true
        ·subst c39
         rw [if_pos rfl] at H
         by_cases c40 : t720 = true
         ·subst c40
          rw [if_pos rfl] at H
          obtain ⟨y722, hy722⟩ : ∃ y_ : List (S30), y_ = (([(⟨t711⟩ : S30), (⟨t717⟩ : S30)] : List (S30))) := ⟨_, rfl⟩
          replace H : (some (y722, true)) = some (r1, r2) := by first | (rw [hy722]; with_reducible exact H) | (have H2_ := (Option.bind_some _ _).symm.trans H; rw [hy722]; with_reducible exact H2_) | (have H2_ := (Option.bind_some _ _).symm.trans H; with_reducible exact H2_) | with_reducible exact H | (rw [hy722]; exact H) | exact H
          have Ny722 := Aside0.mk hy722
          clear hy722
          simp only [Option.some.injEq, Prod.mk.injEq] at H
          obtain ⟨rfl, rfl⟩ := H
          have hnb41 := NB708_709.out
          have hnc41 := NB709_708.out
          have hcz42_0 := zh BK708
          have hcz42_1 := zh1 BK708
          have hfz42_0 := zfr BK708 0
          have hfz42_1 := zfr BK708 1
          have p710 : 0 ≤ (0 : Int) := (by omega)
          have q710 : 0 < (l0_1.length : Int) := of_decide_eq_true y19
          obtain ⟨ad710, A710_1, c710_1, e710, hx710_0, hx710_1, hl710_1, hi710_1⟩ := at_T55 HR0_1.out 0 p710 q710
          cases e710
          have qi710 : (0 < l0_1.length) = True := eq_true (by omega)
          (try rw [show ((0 : Int)).toNat = 0 from rfl] at hx710_0)
          (try rw [show 0 * 2 = 0 from rfl] at hx710_0)
          (try rw [Addr.add_zero'] at hx710_0)
          (try rw [show ((0 : Int)).toNat = 0 from rfl] at hx710_1)
          (try rw [show 0 * 2 = 0 from rfl] at hx710_1)
          (try rw [Addr.add_zero'] at hx710_1)
          replace hx710_0 := (HB.out.cell (World.block_lt_of_cell? w _ hx710_0)).trans hx710_0
          replace hx710_1 := (HB.out.cell (World.block_lt_of_cell? w _ hx710_1)).trans hx710_1
          have HR710_1 := Aside0.mk hi710_1
          have HC710_1 := Aside0.mk hl710_1
          clear hi710_1 hl710_1
          replace p710 := eq_true p710
          replace q710 := eq_true q710
          go_wp2_with (first | ((with_reducible refine gate_callee (f := 88) rfl ?_); refine goesL_ (some 43) rfl rfl Try.func88 (by kernel_rfl) rfl #[.agg #[.int .i64 ((rd_T55 l0_1 0).f0), .slice A710_1 ((rd_T55 l0_1 0).f1).length c710_1], .int .i64 (wrap64 (a1 - 1))] rfl y4 ?_; (with_reducible refine (ih kj21 (y46 HJ21.out) ((rd_T55 l0_1 0).f0) _ _ ((rd_T55 l0_1 0).f1) (wrap64 (a1 - 1)) t711 true _ ?side1 ?side2 A36.out).mono ?_); (case side1 => exact y8 HR710_1.out HB.out); (case side2 => exact HC710_1.out); rintro e w43 ⟨v712, rfl, ho0, hb⟩; refine ⟨_, rfl, ?_⟩; have HO713 := Aside0.mk (Kd.N_lower (Kd.N_mono (ok' := fun k_ => (w.heap.size ≤ k_) ∧ k_ ≠ gb708 ∧ k_ ≠ gb709) ho0 (fun k_ hk_ => ⟨(Nat.le_trans (below_size (y1 HB.out GE708.out GE709.out)) hk_), (Kd.freshB (g := gb708) (o := .cells #[.int .i64 a0_0, .slice (some ad710) l0_1.length c0_1] 55 (0, 0)) (y0 BK708.out) k_ hk_), (Kd.freshB (g := gb709) (o := .cells #[.slice none 0 0] 30 (0, 0)) (y0 BK709.out) k_ hk_)⟩)) (below_size (y1 HB.out GE708.out GE709.out))); replace BK708 := zbb BK708 hb; replace BK709 := zbb BK709 hb; replace HB := Aside0.mk (below_step (y1 HB.out GE708.out GE709.out) hb); (try clear hb); (try clear hb2); (try clear hk); (try clear hi); (try clear ho0)) | ((with_reducible refine gate_dst (N := 6) rfl ?_); refine zbx 6 #[.slice none 0 0] 30 ?_; intro gb715 hg w44 hbox hb; replace HO713 := Aside0.mk (Kd.N_below (Kd.N_elderB (y9 HO713.out) gb715 (Nat.le_of_eq hg.symm)) hb); have BK715 := Aside0.mk hbox; have GW715 := Aside0.mk ((y20 hg HB.out GE708.out GE709.out : w.heap.size ≤ gb715)); have GE715 := Aside0.mk ((y20 hg HB.out GE708.out GE709.out : w.heap.size ≤ gb715)); replace HB := Aside0.mk (below_step (y1 HB.out GE708.out GE709.out) hb); have NB708_715 := zltn hg BK708; have NB715_708 := zgtn hg BK708; replace BK708 := zbb BK708 hb; have NB709_715 := zltn hg BK709; have NB715_709 := zgtn hg BK709; replace BK709 := zbb BK709 hb; clear hb hbox hg; obtain ⟨Ao45, co45, eo45⟩ := Kd.N_slice HO713.out; subst eo45; have hnb46 := NB715_708.out; have hnc46 := NB708_715.out; have hnb47 := NB715_709.out; have hnc47 := NB709_715.out; have hcz48_0 := zh BK715; have hfz48_0 := zfr BK715 0; have hcz49_0 := zh BK708; have hcz49_1 := zh1 BK708; have hfz49_0 := zfr BK708 0; have hfz49_1 := zfr BK708 1; have p716 : 0 ≤ (1 : Int) := (by omega); have q716 : 1 < (l0_1.length : Int) := of_decide_eq_true y19; obtain ⟨ad716, A716_1, c716_1, e716, hx716_0, hx716_1, hl716_1, hi716_1⟩ := at_T55 HR0_1.out 1 p716 q716; obtain rfl : ad710 = ad716 := (by injection e716); (try simp only [show (1 : Int).toNat = 1 from rfl, Nat.reduceMul, Nat.reduceEqDiff, Go.Addr.add, ↓reduceIte] at hx716_0); (try simp only [show (1 : Int).toNat = 1 from rfl, Nat.reduceMul, Nat.reduceEqDiff, Go.Addr.add, ↓reduceIte] at hx716_1); have qi716 : (1 < l0_1.length) = True := eq_true (by omega); (try rw [show ((1 : Int)).toNat = 1 from rfl] at hx716_0); (try rw [show 1 * 2 = 2 from rfl] at hx716_0); (try rw [show ((1 : Int)).toNat = 1 from rfl] at hx716_1); (try rw [show 1 * 2 = 2 from rfl] at hx716_1); have hn716_0 : ad710.block ≠ gb715 := Nat.ne_of_lt (Nat.lt_of_lt_of_le (by have := World.block_lt_of_cell? _ _ hx716_0; first | rwa [add_block] at this | exact this) GW715.out); replace hx716_0 := (HB.out.cell (World.block_lt_of_cell? w _ hx716_0)).trans hx716_0; replace hx716_1 := (HB.out.cell (World.block_lt_of_cell? w _ hx716_1)).trans hx716_1; have HR716_1 := Aside0.mk hi716_1; have HC716_1 := Aside0.mk hl716_1; clear hi716_1 hl716_1; replace hx716_0 := (cell_far (p := ⟨gb715, 0, none⟩) (by first | (rw [add_block]; exact hn716_0) | (show (Addr.add _ _).block ≠ _; rw [add_block]; exact hn716_0) | exact hn716_0) (.slice Ao45 t711.length co45)).trans hx716_0; replace hx716_1 := (cell_far (p := ⟨gb715, 0, none⟩) (by first | (rw [add_block]; exact hn716_0) | (show (Addr.add _ _).block ≠ _; rw [add_block]; exact hn716_0) | exact hn716_0) (.slice Ao45 t711.length co45)).trans hx716_1; clear hn716_0; replace p716 := eq_true p716; replace q716 := eq_true q716) | ((with_reducible refine gate_callee (f := 88) rfl ?_); refine goesL_ (some 53) rfl rfl Try.func88 (by kernel_rfl) rfl #[.agg #[.int .i64 ((rd_T55 l0_1 1).f0), .slice A716_1 ((rd_T55 l0_1 1).f1).length c716_1], .int .i64 (wrap64 (a1 - 1))] rfl y4 ?_; (with_reducible refine (ih kj21 (y46 HJ21.out) ((rd_T55 l0_1 1).f0) _ _ ((rd_T55 l0_1 1).f1) (wrap64 (a1 - 1)) t717 true _ ?side1 ?side2 A38.out).mono ?_); (case side1 => exact y38 HR716_1.out HB.out GE708.out GE709.out GE715.out); (case side2 => exact HC716_1.out); rintro e w50 ⟨v718, rfl, ho0, hb⟩; refine ⟨_, rfl, ?_⟩; have HO719 := Aside0.mk (Kd.N_lower (Kd.N_mono (ok' := fun k_ => (w.heap.size ≤ k_) ∧ some k_ ≠ (.slice Ao45 t711.length co45 : Value).ownBlock ∧ k_ ≠ gb708 ∧ k_ ≠ gb709 ∧ k_ ≠ gb715) ho0 (fun k_ hk_ => ⟨(Nat.le_trans (below_size (y7 HB.out GE708.out GE709.out GE715.out)) hk_), (Kd.fresh' (Kd.N_lt (by (with_reducible repeat (first | apply Kd.N_alloc | apply Kd.N_drewN | apply Kd.N_drew)); exact (Kd.N_mono (Kd.N_far (p := ⟨gb715, 0, none⟩) (Kd.N_mono HO713.out (fun k_ hk => (⟨hk, hk.2⟩ : _ ∧ k_ ≠ gb715))) (fun _ hk => hk.2) (.slice Ao45 t711.length co45)) (fun _ h_ => h_.1)))) k_ hk_), (Kd.freshB (g := gb708) (o := .cells #[.int .i64 a0_0, .slice (some ad710) l0_1.length c0_1] 55 (0, 0)) (y21 NB708_715.out BK708.out) k_ hk_), (Kd.freshB (g := gb709) (o := .cells #[.slice none 0 0] 30 (0, 0)) (y21 NB709_715.out BK709.out) k_ hk_), (Kd.freshB (g := gb715) (o := .cells #[.slice Ao45 t711.length co45] 30 (0, 0)) (by (with_reducible repeat (first | refine blk_drewN ?_ _ | refine blk_drew ?_ | refine blk_alloc ?_ _)); apply blk_put (i := 0); (case h => exact y0 BK715.out); (case e => rfl)) k_ hk_)⟩)) (below_size (y7 HB.out GE708.out GE709.out GE715.out))); replace HO713 := Aside0.mk (Kd.N_elder' (by (with_reducible repeat (first | apply Kd.N_alloc | apply Kd.N_drewN | apply Kd.N_drew)); exact (Kd.N_mono (Kd.N_far (p := ⟨gb715, 0, none⟩) (Kd.N_mono HO713.out (fun k_ hk => (⟨hk, hk.2⟩ : _ ∧ k_ ≠ gb715))) (fun _ hk => hk.2) (.slice Ao45 t711.length co45)) (fun _ h_ => h_.1))) (Kd.N_base ho0) hb); replace BK708 := zbf BK708 NB708_715 hb; replace BK709 := zbf BK709 NB709_715 hb; replace BK715 := Aside0.mk (blk_below (g := gb715) (o := .cells #[.slice Ao45 t711.length co45] 30 (0, 0)) (by (with_reducible repeat (first | refine blk_drewN ?_ _ | refine blk_drew ?_ | refine blk_alloc ?_ _)); apply blk_put (i := 0); (case h => exact y0 BK715.out); (case e => rfl)) hb); replace HB := Aside0.mk (below_step (y7 HB.out GE708.out GE709.out GE715.out) hb); (try clear hb); (try clear hb2); (try clear hk); (try clear hi); (try clear ho0)) | ((with_reducible refine gate_dst (N := 8) rfl ?_); refine zbx 8 #[.slice none 0 0] 30 ?_; intro gb721 hg w51 hbox hb; replace HO713 := Aside0.mk (Kd.N_below (Kd.N_elderB (y9 HO713.out) gb721 (Nat.le_of_eq hg.symm)) hb); replace HO719 := Aside0.mk (Kd.N_below (Kd.N_elderB (y9 HO719.out) gb721 (Nat.le_of_eq hg.symm)) hb); have BK721 := Aside0.mk hbox; have GW721 := Aside0.mk ((y29 hg HB.out GE708.out GE709.out GE715.out : w.heap.size ≤ gb721)); have GE721 := Aside0.mk ((y29 hg HB.out GE708.out GE709.out GE715.out : w.heap.size ≤ gb721)); replace HB := Aside0.mk (below_step (y7 HB.out GE708.out GE709.out GE715.out) hb); have NB708_721 := zltn hg BK708; have NB721_708 := zgtn hg BK708; replace BK708 := zbb BK708 hb; have NB709_721 := zltn hg BK709; have NB721_709 := zgtn hg BK709; replace BK709 := zbb BK709 hb; have NB715_721 := zltn hg BK715; have NB721_715 := zgtn hg BK715; replace BK715 := zbb BK715 hb; clear hb hbox hg; obtain ⟨Ao52, co52, eo52⟩ := Kd.N_slice HO719.out; subst eo52; have hnb53 := NB721_708.out; have hnc53 := NB708_721.out; have hnb54 := NB721_709.out; have hnc54 := NB709_721.out; have hnb55 := NB721_715.out; have hnc55 := NB715_721.out; have hcz56_0 := zh BK721; have hfz56_0 := zfr BK721 0) | ((with_reducible refine gate_store (t := 30) (p := 8) rfl ?_); refine store_event (t := 30) (p := 8) (v := ?vo_w57) (w1 := (w51.setCell ⟨gb721, 0, none⟩ (.slice Ao52 t717.length co52))) ?hg ?ho ?hn ?hr ?_; (case ho => rfl); (case hg => rfl); (case hn => rfl); (case hr => first | (go_simp; done) | (go_simp; rfl)); intro w57 hw; have n0_ : Aside0 (Kd.N k30 30 w57 w.heap.size (fun k_ => (w.heap.size ≤ k_) ∧ some k_ ≠ (.slice Ao52 t717.length co52 : Value).ownBlock ∧ k_ ≠ gb708 ∧ k_ ≠ gb709 ∧ k_ ≠ gb715 ∧ k_ ≠ gb721) (.slice Ao45 t711.length co45) t711) := ⟨(by rw [hw]; exact (by (with_reducible repeat (first | apply Kd.N_alloc | apply Kd.N_drewN | apply Kd.N_drew)); exact Kd.N_mono (Kd.N_far (p := ⟨gb721, 0, none⟩) (Kd.N_mono HO713.out (fun k_ hk => (⟨hk, hk.2⟩ : _ ∧ k_ ≠ gb721))) (fun _ hk => hk.2) (.slice Ao52 t717.length co52)) (fun _ hk => ⟨hk.1.1.1.1.1, ⟨hk.1.1.2, ⟨hk.1.1.1.1.2.1, ⟨hk.1.1.1.1.2.2, ⟨hk.1.1.1.2, hk.1.2⟩⟩⟩⟩⟩)))⟩; have n1_ : Aside0 (Kd.N k30 30 w57 w.heap.size (fun k_ => (w.heap.size ≤ k_) ∧ some k_ ≠ (.slice Ao45 t711.length co45 : Value).ownBlock ∧ k_ ≠ gb708 ∧ k_ ≠ gb709 ∧ k_ ≠ gb715 ∧ k_ ≠ gb721) (.slice Ao52 t717.length co52) t717) := ⟨(by rw [hw]; exact (by (with_reducible repeat (first | apply Kd.N_alloc | apply Kd.N_drewN | apply Kd.N_drew)); exact Kd.N_mono (Kd.N_far (p := ⟨gb721, 0, none⟩) (Kd.N_mono HO719.out (fun k_ hk => (⟨hk, hk.2⟩ : _ ∧ k_ ≠ gb721))) (fun _ hk => hk.2) (.slice Ao52 t717.length co52)) (fun _ hk => ⟨hk.1.1.1, ⟨hk.1.1.2.1, ⟨hk.1.1.2.2.1, ⟨hk.1.1.2.2.2.1, ⟨hk.1.1.2.2.2.2, hk.1.2⟩⟩⟩⟩⟩)))⟩; have n2_ : Aside0 (w57.heap[gb708]? = some (.cells #[.int .i64 a0_0, .slice (some ad710) l0_1.length c0_1] 55 (0, 0))) := ⟨(by rw [hw]; exact (y21 NB708_721.out BK708.out))⟩; have n3_ : Aside0 (w57.heap[gb709]? = some (.cells #[.slice none 0 0] 30 (0, 0))) := ⟨(by rw [hw]; exact (y21 NB709_721.out BK709.out))⟩; have n4_ : Aside0 (w57.heap[gb715]? = some (.cells #[.slice Ao45 t711.length co45] 30 (0, 0))) := ⟨(by rw [hw]; exact (y21 NB715_721.out BK715.out))⟩; have n5_ : Aside0 (w57.heap[gb721]? = some (.cells #[.slice Ao52 t717.length co52] 30 (0, 0))) := ⟨(by rw [hw]; exact (by (with_reducible repeat (first | refine blk_drewN ?_ _ | refine blk_drew ?_ | refine blk_alloc ?_ _)); apply blk_put (i := 0); (case h => exact y0 BK721.out); (case e => rfl)))⟩; have n6_ : Aside0 (Below w.heap.size w w57) := ⟨(by rw [hw]; exact (y16 HB.out GE708.out GE709.out GE715.out GE721.out))⟩; clear hw; clear HO713; clear HO719; clear BK708; clear BK709; clear BK715; clear BK721; clear HB; have HO713 := n0_; have HO719 := n1_; have BK708 := n2_; have BK709 := n3_; have BK715 := n4_; have BK721 := n5_; have HB := n6_; clear n0_ n1_ n2_ n3_ n4_ n5_ n6_; have hcz58_0 := zh BK715; have hfz58_0 := zfr BK715 0; have hcz59_0 := zh BK721; have hfz59_0 := zfr BK721 0) | ((with_reducible refine gate_dst (N := 65) rfl ?_); refine Kd.N_lit k30 _ 30 ?hg (N' := 65) ?hd (xs := ([(⟨t711⟩ : S30), (⟨t717⟩ : S30)] : List (S30))) (inner := [.slice Ao45 t711.length co45, .slice Ao52 t717.length co52]) (ok := (fun k_ => (w.heap.size ≤ k_) ∧ k_ ≠ gb708 ∧ k_ ≠ gb709 ∧ k_ ≠ gb715 ∧ k_ ≠ gb721)) (okp := (fun k_ => (w.heap.size ≤ k_) ∧ k_ ≠ gb708 ∧ k_ ≠ gb709 ∧ k_ ≠ gb715 ∧ k_ ≠ gb721)) ?hr ?hp (fun _ hk => hk) ((show ∀ k_, w57.heap.size ≤ k_ → (fun k_ => (w.heap.size ≤ k_) ∧ k_ ≠ gb708 ∧ k_ ≠ gb709 ∧ k_ ≠ gb715 ∧ k_ ≠ gb721) k_ from fun k_ hk => ⟨(Nat.le_trans (below_size (y16 HB.out GE708.out GE709.out GE715.out GE721.out)) hk), Kd.freshB (g := gb708) (o := .cells #[.int .i64 a0_0, .slice (some ad710) l0_1.length c0_1] 55 (0, 0)) (y0 BK708.out) k_ hk, Kd.freshB (g := gb709) (o := .cells #[.slice none 0 0] 30 (0, 0)) (y0 BK709.out) k_ hk, Kd.freshB (g := gb715) (o := .cells #[.slice Ao45 t711.length co45] 30 (0, 0)) (y0 BK715.out) k_ hk, Kd.freshB (g := gb721) (o := .cells #[.slice Ao52 t717.length co52] 30 (0, 0)) (y0 BK721.out) k_ hk⟩) _ (Nat.le_refl _)) (Below.refl _ _) (Nat.le_refl _) (by simp) ?_; (case hd => rfl); (case hg => rfl); (case hr => first | (go_simp; done) | (go_simp; rfl)); (case hp => exact (Reps.one (show Kd.FK k30 _ _ (⟨t711⟩ : S30) [.slice Ao45 t711.length co45] from (k30_mkF _ _ (⟨t711⟩ : S30) (Kd.N_reads' (Kd.N_mono (ok' := (fun k_ => (w.heap.size ≤ k_) ∧ k_ ≠ gb708 ∧ k_ ≠ gb709 ∧ k_ ≠ gb715 ∧ k_ ≠ gb721)) (HO713.out) (fun k_ hk => ⟨hk.1, ⟨hk.2.2.1, ⟨hk.2.2.2.1, ⟨hk.2.2.2.2.1, hk.2.2.2.2.2⟩⟩⟩⟩))).2.1 (Kd.N_F (Kd.N_mono (ok' := (fun k_ => (w.heap.size ≤ k_) ∧ k_ ≠ gb708 ∧ k_ ≠ gb709 ∧ k_ ≠ gb715 ∧ k_ ≠ gb721)) (HO713.out) (fun k_ hk => ⟨hk.1, ⟨hk.2.2.1, ⟨hk.2.2.2.1, ⟨hk.2.2.2.2.1, hk.2.2.2.2.2⟩⟩⟩⟩))))) (Reps.one (show Kd.FK k30 _ _ (⟨t717⟩ : S30) [.slice Ao52 t717.length co52] from (k30_mkF _ _ (⟨t717⟩ : S30) (Kd.N_reads' (Kd.N_mono (ok' := (fun k_ => (w.heap.size ≤ k_) ∧ k_ ≠ gb708 ∧ k_ ≠ gb709 ∧ k_ ≠ gb715 ∧ k_ ≠ gb721)) (HO719.out) (fun k_ hk => ⟨hk.1, ⟨hk.2.2.1, ⟨hk.2.2.2.1, ⟨hk.2.2.2.2.1, hk.2.2.2.2.2⟩⟩⟩⟩))).2.1 (Kd.N_F (Kd.N_mono (ok' := (fun k_ => (w.heap.size ≤ k_) ∧ k_ ≠ gb708 ∧ k_ ≠ gb709 ∧ k_ ≠ gb715 ∧ k_ ≠ gb721)) (HO719.out) (fun k_ hk => ⟨hk.1, ⟨hk.2.2.1, ⟨hk.2.2.2.1, ⟨hk.2.2.2.2.1, hk.2.2.2.2.2⟩⟩⟩⟩))))) (Reps.none _ _)))); intro v723 w60 ho61 hb hg_ hnew_; clear hg_ hnew_; (first | rw [← Ny722.out] at ho61 | (simp only [Int.reduceToNat] at ho61; rw [← Ny722.out] at ho61)); have HO724 := Aside0.mk (Kd.N_lower ho61 (below_size (y16 HB.out GE708.out GE709.out GE715.out GE721.out))); replace BK708 := zbb BK708 hb; replace BK709 := zbb BK709 hb; replace BK715 := zbb BK715 hb; replace BK721 := zbb BK721 hb; replace HB := Aside0.mk (below_step (y16 HB.out GE708.out GE709.out GE715.out GE721.out) hb); clear HO713 HO719; clear hb ho61; obtain ⟨Ao62, co62, eo62⟩ := Kd.N_slice HO724.out; subst eo62; have hcz63_0 := zh BK709; have hfz63_0 := zfr BK709 0))
          refine bodyPost_ret (results_ct rfl _ _ gb709 30 #[.slice Ao62 y722.length co62] (0, 0) _ rfl (by (with_reducible repeat (first | refine blk_drewN ?_ _ | refine blk_drew ?_ | refine blk_alloc ?_ _)); apply blk_put (i := 0); (case h => exact y0 BK709.out); (case e => rfl)) Try.underlying30 rfl (by kernel_rfl)) rfl ?_
          exact ⟨_, y14, (by (with_reducible repeat (first | apply Kd.N_alloc | apply Kd.N_drewN | apply Kd.N_drew)); exact Kd.N_mono (Kd.N_far (p := ⟨gb709, 0, none⟩) (Kd.N_mono HO724.out (fun k_ hk => (⟨hk, hk.2.2.1⟩ : _ ∧ k_ ≠ gb709))) (fun _ hk => hk.2) (.slice Ao62 y722.length co62)) (fun _ hk => hk.1.1)), (y16 HB.out GE708.out GE709.out GE715.out GE721.out)⟩
         ·replace c40 := Bool.eq_false_iff.mpr c40
          subst c40
          rw [if_neg (show ¬ (false = true) by decide)] at H
          simp only [Option.some.injEq, Prod.mk.injEq] at H
          obtain ⟨rfl, rfl⟩ := H
          have hnb64 := NB708_709.out
          have hnc64 := NB709_708.out
          have hcz65_0 := zh BK708
          have hcz65_1 := zh1 BK708
          have hfz65_0 := zfr BK708 0
          have hfz65_1 := zfr BK708 1
          have p710 : 0 ≤ (0 : Int) := (by omega)
          have q710 : 0 < (l0_1.length : Int) := of_decide_eq_true y19
          obtain ⟨ad710, A710_1, c710_1, e710, hx710_0, hx710_1, hl710_1, hi710_1⟩ := at_T55 HR0_1.out 0 p710 q710
          cases e710
          have qi710 : (0 < l0_1.length) = True := eq_true (by omega)
          (try rw [show ((0 : Int)).toNat = 0 from rfl] at hx710_0)
          (try rw [show 0 * 2 = 0 from rfl] at hx710_0)
          (try rw [Addr.add_zero'] at hx710_0)
          (try rw [show ((0 : Int)).toNat = 0 from rfl] at hx710_1)
          (try rw [show 0 * 2 = 0 from rfl] at hx710_1)
          (try rw [Addr.add_zero'] at hx710_1)
          replace hx710_0 := (HB.out.cell (World.block_lt_of_cell? w _ hx710_0)).trans hx710_0
          replace hx710_1 := (HB.out.cell (World.block_lt_of_cell? w _ hx710_1)).trans hx710_1
          have HR710_1 := Aside0.mk hi710_1
          have HC710_1 := Aside0.mk hl710_1
          clear hi710_1 hl710_1
          replace p710 := eq_true p710
          replace q710 := eq_true q710
          go_wp2_with (first | ((with_reducible refine gate_callee (f := 88) rfl ?_); refine goesL_ (some 43) rfl rfl Try.func88 (by kernel_rfl) rfl #[.agg #[.int .i64 ((rd_T55 l0_1 0).f0), .slice A710_1 ((rd_T55 l0_1 0).f1).length c710_1], .int .i64 (wrap64 (a1 - 1))] rfl y4 ?_; (with_reducible refine (ih kj21 (y46 HJ21.out) ((rd_T55 l0_1 0).f0) _ _ ((rd_T55 l0_1 0).f1) (wrap64 (a1 - 1)) t711 true _ ?side1 ?side2 A36.out).mono ?_); (case side1 => exact y8 HR710_1.out HB.out); (case side2 => exact HC710_1.out); rintro e w66 ⟨v712, rfl, ho0, hb⟩; refine ⟨_, rfl, ?_⟩; have HO713 := Aside0.mk (Kd.N_lower (Kd.N_mono (ok' := fun k_ => (w.heap.size ≤ k_) ∧ k_ ≠ gb708 ∧ k_ ≠ gb709) ho0 (fun k_ hk_ => ⟨(Nat.le_trans (below_size (y1 HB.out GE708.out GE709.out)) hk_), (Kd.freshB (g := gb708) (o := .cells #[.int .i64 a0_0, .slice (some ad710) l0_1.length c0_1] 55 (0, 0)) (y0 BK708.out) k_ hk_), (Kd.freshB (g := gb709) (o := .cells #[.slice none 0 0] 30 (0, 0)) (y0 BK709.out) k_ hk_)⟩)) (below_size (y1 HB.out GE708.out GE709.out))); replace BK708 := zbb BK708 hb; replace BK709 := zbb BK709 hb; replace HB := Aside0.mk (below_step (y1 HB.out GE708.out GE709.out) hb); (try clear hb); (try clear hb2); (try clear hk); (try clear hi); (try clear ho0)) | ((with_reducible refine gate_dst (N := 6) rfl ?_); refine zbx 6 #[.slice none 0 0] 30 ?_; intro gb715 hg w67 hbox hb; replace HO713 := Aside0.mk (Kd.N_below (Kd.N_elderB (y9 HO713.out) gb715 (Nat.le_of_eq hg.symm)) hb); have BK715 := Aside0.mk hbox; have GW715 := Aside0.mk ((y20 hg HB.out GE708.out GE709.out : w.heap.size ≤ gb715)); have GE715 := Aside0.mk ((y20 hg HB.out GE708.out GE709.out : w.heap.size ≤ gb715)); replace HB := Aside0.mk (below_step (y1 HB.out GE708.out GE709.out) hb); have NB708_715 := zltn hg BK708; have NB715_708 := zgtn hg BK708; replace BK708 := zbb BK708 hb; have NB709_715 := zltn hg BK709; have NB715_709 := zgtn hg BK709; replace BK709 := zbb BK709 hb; clear hb hbox hg; obtain ⟨Ao68, co68, eo68⟩ := Kd.N_slice HO713.out; subst eo68; have hnb69 := NB715_708.out; have hnc69 := NB708_715.out; have hnb70 := NB715_709.out; have hnc70 := NB709_715.out; have hcz71_0 := zh BK715; have hfz71_0 := zfr BK715 0; have hcz72_0 := zh BK708; have hcz72_1 := zh1 BK708; have hfz72_0 := zfr BK708 0; have hfz72_1 := zfr BK708 1; have p716 : 0 ≤ (1 : Int) := (by omega); have q716 : 1 < (l0_1.length : Int) := of_decide_eq_true y19; obtain ⟨ad716, A716_1, c716_1, e716, hx716_0, hx716_1, hl716_1, hi716_1⟩ := at_T55 HR0_1.out 1 p716 q716; obtain rfl : ad710 = ad716 := (by injection e716); (try simp only [show (1 : Int).toNat = 1 from rfl, Nat.reduceMul, Nat.reduceEqDiff, Go.Addr.add, ↓reduceIte] at hx716_0); (try simp only [show (1 : Int).toNat = 1 from rfl, Nat.reduceMul, Nat.reduceEqDiff, Go.Addr.add, ↓reduceIte] at hx716_1); have qi716 : (1 < l0_1.length) = True := eq_true (by omega); (try rw [show ((1 : Int)).toNat = 1 from rfl] at hx716_0); (try rw [show 1 * 2 = 2 from rfl] at hx716_0); (try rw [show ((1 : Int)).toNat = 1 from rfl] at hx716_1); (try rw [show 1 * 2 = 2 from rfl] at hx716_1); have hn716_0 : ad710.block ≠ gb715 := Nat.ne_of_lt (Nat.lt_of_lt_of_le (by have := World.block_lt_of_cell? _ _ hx716_0; first | rwa [add_block] at this | exact this) GW715.out); replace hx716_0 := (HB.out.cell (World.block_lt_of_cell? w _ hx716_0)).trans hx716_0; replace hx716_1 := (HB.out.cell (World.block_lt_of_cell? w _ hx716_1)).trans hx716_1; have HR716_1 := Aside0.mk hi716_1; have HC716_1 := Aside0.mk hl716_1; clear hi716_1 hl716_1; replace hx716_0 := (cell_far (p := ⟨gb715, 0, none⟩) (by first | (rw [add_block]; exact hn716_0) | (show (Addr.add _ _).block ≠ _; rw [add_block]; exact hn716_0) | exact hn716_0) (.slice Ao68 t711.length co68)).trans hx716_0; replace hx716_1 := (cell_far (p := ⟨gb715, 0, none⟩) (by first | (rw [add_block]; exact hn716_0) | (show (Addr.add _ _).block ≠ _; rw [add_block]; exact hn716_0) | exact hn716_0) (.slice Ao68 t711.length co68)).trans hx716_1; clear hn716_0; replace p716 := eq_true p716; replace q716 := eq_true q716) | ((with_reducible refine gate_callee (f := 88) rfl ?_); refine goesL_ (some 53) rfl rfl Try.func88 (by kernel_rfl) rfl #[.agg #[.int .i64 ((rd_T55 l0_1 1).f0), .slice A716_1 ((rd_T55 l0_1 1).f1).length c716_1], .int .i64 (wrap64 (a1 - 1))] rfl y4 ?_; (with_reducible refine (ih kj21 (y46 HJ21.out) ((rd_T55 l0_1 1).f0) _ _ ((rd_T55 l0_1 1).f1) (wrap64 (a1 - 1)) t717 false _ ?side1 ?side2 A38.out).mono ?_); (case side1 => exact y38 HR716_1.out HB.out GE708.out GE709.out GE715.out); (case side2 => exact HC716_1.out); rintro e w73 ⟨v718, rfl, ho0, hb⟩; refine ⟨_, rfl, ?_⟩; have HO719 := Aside0.mk (Kd.N_lower (Kd.N_mono (ok' := fun k_ => (w.heap.size ≤ k_) ∧ some k_ ≠ (.slice Ao68 t711.length co68 : Value).ownBlock ∧ k_ ≠ gb708 ∧ k_ ≠ gb709 ∧ k_ ≠ gb715) ho0 (fun k_ hk_ => ⟨(Nat.le_trans (below_size (y7 HB.out GE708.out GE709.out GE715.out)) hk_), (Kd.fresh' (Kd.N_lt (by (with_reducible repeat (first | apply Kd.N_alloc | apply Kd.N_drewN | apply Kd.N_drew)); exact (Kd.N_mono (Kd.N_far (p := ⟨gb715, 0, none⟩) (Kd.N_mono HO713.out (fun k_ hk => (⟨hk, hk.2⟩ : _ ∧ k_ ≠ gb715))) (fun _ hk => hk.2) (.slice Ao68 t711.length co68)) (fun _ h_ => h_.1)))) k_ hk_), (Kd.freshB (g := gb708) (o := .cells #[.int .i64 a0_0, .slice (some ad710) l0_1.length c0_1] 55 (0, 0)) (y21 NB708_715.out BK708.out) k_ hk_), (Kd.freshB (g := gb709) (o := .cells #[.slice none 0 0] 30 (0, 0)) (y21 NB709_715.out BK709.out) k_ hk_), (Kd.freshB (g := gb715) (o := .cells #[.slice Ao68 t711.length co68] 30 (0, 0)) (by (with_reducible repeat (first | refine blk_drewN ?_ _ | refine blk_drew ?_ | refine blk_alloc ?_ _)); apply blk_put (i := 0); (case h => exact y0 BK715.out); (case e => rfl)) k_ hk_)⟩)) (below_size (y7 HB.out GE708.out GE709.out GE715.out))); replace HO713 := Aside0.mk (Kd.N_elder' (by (with_reducible repeat (first | apply Kd.N_alloc | apply Kd.N_drewN | apply Kd.N_drew)); exact (Kd.N_mono (Kd.N_far (p := ⟨gb715, 0, none⟩) (Kd.N_mono HO713.out (fun k_ hk => (⟨hk, hk.2⟩ : _ ∧ k_ ≠ gb715))) (fun _ hk => hk.2) (.slice Ao68 t711.length co68)) (fun _ h_ => h_.1))) (Kd.N_base ho0) hb); replace BK708 := zbf BK708 NB708_715 hb; replace BK709 := zbf BK709 NB709_715 hb; replace BK715 := Aside0.mk (blk_below (g := gb715) (o := .cells #[.slice Ao68 t711.length co68] 30 (0, 0)) (by (with_reducible repeat (first | refine blk_drewN ?_ _ | refine blk_drew ?_ | refine blk_alloc ?_ _)); apply blk_put (i := 0); (case h => exact y0 BK715.out); (case e => rfl)) hb); replace HB := Aside0.mk (below_step (y7 HB.out GE708.out GE709.out GE715.out) hb); (try clear hb); (try clear hb2); (try clear hk); (try clear hi); (try clear ho0)) | ((with_reducible refine gate_dst (N := 8) rfl ?_); refine zbx 8 #[.slice none 0 0] 30 ?_; intro gb721 hg w74 hbox hb; replace HO713 := Aside0.mk (Kd.N_below (Kd.N_elderB (y9 HO713.out) gb721 (Nat.le_of_eq hg.symm)) hb); replace HO719 := Aside0.mk (Kd.N_below (Kd.N_elderB (y9 HO719.out) gb721 (Nat.le_of_eq hg.symm)) hb); have BK721 := Aside0.mk hbox; have GW721 := Aside0.mk ((y29 hg HB.out GE708.out GE709.out GE715.out : w.heap.size ≤ gb721)); have GE721 := Aside0.mk ((y29 hg HB.out GE708.out GE709.out GE715.out : w.heap.size ≤ gb721)); replace HB := Aside0.mk (below_step (y7 HB.out GE708.out GE709.out GE715.out) hb); have NB708_721 := zltn hg BK708; have NB721_708 := zgtn hg BK708; replace BK708 := zbb BK708 hb; have NB709_721 := zltn hg BK709; have NB721_709 := zgtn hg BK709; replace BK709 := zbb BK709 hb; have NB715_721 := zltn hg BK715; have NB721_715 := zgtn hg BK715; replace BK715 := zbb BK715 hb; clear hb hbox hg; obtain ⟨Ao75, co75, eo75⟩ := Kd.N_slice HO719.out; subst eo75; have hnb76 := NB721_708.out; have hnc76 := NB708_721.out; have hnb77 := NB721_709.out; have hnc77 := NB709_721.out; have hnb78 := NB721_715.out; have hnc78 := NB715_721.out; have hcz79_0 := zh BK721; have hfz79_0 := zfr BK721 0; have hcz80_0 := zh BK709; have hfz80_0 := zfr BK709 0))
          refine bodyPost_ret (results_ct rfl _ _ gb709 30 #[.slice none 0 0] (0, 0) _ rfl (by (with_reducible repeat (first | refine blk_drewN ?_ _ | refine blk_drew ?_ | refine blk_alloc ?_ _)); refine blk_put (cs := #[.slice none 0 0]) ?_ 0 _ rfl; (with_reducible repeat (first | refine blk_drewN ?_ _ | refine blk_drew ?_ | refine blk_alloc ?_ _)); refine blk_far ?_ NB709_721.out _; (with_reducible repeat (first | refine blk_drewN ?_ _ | refine blk_drew ?_ | refine blk_alloc ?_ _)); exact BK709.out) Try.underlying30 rfl (by kernel_rfl)) rfl ?_
          exact ⟨_, y14, y36, (y16 HB.out GE708.out GE709.out GE715.out GE721.out)⟩
        ·replace c39 := Bool.eq_false_iff.mpr c39
         subst c39
         rw [if_neg (show ¬ (false = true) by decide)] at H
         simp only [Option.some.injEq, Prod.mk.injEq] at H
         obtain ⟨rfl, rfl⟩ := H
         have hnb81 := NB708_709.out
         have hnc81 := NB709_708.out
         have hcz82_0 := zh BK708
         have hcz82_1 := zh1 BK708
         have hfz82_0 := zfr BK708 0
         have hfz82_1 := zfr BK708 1
         have p710 : 0 ≤ (0 : Int) := (by omega)
         have q710 : 0 < (l0_1.length : Int) := of_decide_eq_true y19
         obtain ⟨ad710, A710_1, c710_1, e710, hx710_0, hx710_1, hl710_1, hi710_1⟩ := at_T55 HR0_1.out 0 p710 q710
         cases e710
         have qi710 : (0 < l0_1.length) = True := eq_true (by omega)
         (try rw [show ((0 : Int)).toNat = 0 from rfl] at hx710_0)
         (try rw [show 0 * 2 = 0 from rfl] at hx710_0)
         (try rw [Addr.add_zero'] at hx710_0)
         (try rw [show ((0 : Int)).toNat = 0 from rfl] at hx710_1)
         (try rw [show 0 * 2 = 0 from rfl] at hx710_1)
         (try rw [Addr.add_zero'] at hx710_1)
         replace hx710_0 := (HB.out.cell (World.block_lt_of_cell? w _ hx710_0)).trans hx710_0
         replace hx710_1 := (HB.out.cell (World.block_lt_of_cell? w _ hx710_1)).trans hx710_1
         have HR710_1 := Aside0.mk hi710_1
         have HC710_1 := Aside0.mk hl710_1
         clear hi710_1 hl710_1
         replace p710 := eq_true p710
         replace q710 := eq_true q710
         go_wp2_with (first | ((with_reducible refine gate_callee (f := 88) rfl ?_); refine goesL_ (some 43) rfl rfl Try.func88 (by kernel_rfl) rfl #[.agg #[.int .i64 ((rd_T55 l0_1 0).f0), .slice A710_1 ((rd_T55 l0_1 0).f1).length c710_1], .int .i64 (wrap64 (a1 - 1))] rfl y4 ?_; (with_reducible refine (ih kj21 (y46 HJ21.out) ((rd_T55 l0_1 0).f0) _ _ ((rd_T55 l0_1 0).f1) (wrap64 (a1 - 1)) t711 false _ ?side1 ?side2 A36.out).mono ?_); (case side1 => exact y8 HR710_1.out HB.out); (case side2 => exact HC710_1.out); rintro e w83 ⟨v712, rfl, ho0, hb⟩; refine ⟨_, rfl, ?_⟩; have HO713 := Aside0.mk (Kd.N_lower (Kd.N_mono (ok' := fun k_ => (w.heap.size ≤ k_) ∧ k_ ≠ gb708 ∧ k_ ≠ gb709) ho0 (fun k_ hk_ => ⟨(Nat.le_trans (below_size (y1 HB.out GE708.out GE709.out)) hk_), (Kd.freshB (g := gb708) (o := .cells #[.int .i64 a0_0, .slice (some ad710) l0_1.length c0_1] 55 (0, 0)) (y0 BK708.out) k_ hk_), (Kd.freshB (g := gb709) (o := .cells #[.slice none 0 0] 30 (0, 0)) (y0 BK709.out) k_ hk_)⟩)) (below_size (y1 HB.out GE708.out GE709.out))); replace BK708 := zbb BK708 hb; replace BK709 := zbb BK709 hb; replace HB := Aside0.mk (below_step (y1 HB.out GE708.out GE709.out) hb); (try clear hb); (try clear hb2); (try clear hk); (try clear hi); (try clear ho0)) | ((with_reducible refine gate_dst (N := 6) rfl ?_); refine zbx 6 #[.slice none 0 0] 30 ?_; intro gb715 hg w84 hbox hb; replace HO713 := Aside0.mk (Kd.N_below (Kd.N_elderB (y9 HO713.out) gb715 (Nat.le_of_eq hg.symm)) hb); have BK715 := Aside0.mk hbox; have GW715 := Aside0.mk ((y20 hg HB.out GE708.out GE709.out : w.heap.size ≤ gb715)); have GE715 := Aside0.mk ((y20 hg HB.out GE708.out GE709.out : w.heap.size ≤ gb715)); replace HB := Aside0.mk (below_step (y1 HB.out GE708.out GE709.out) hb); have NB708_715 := zltn hg BK708; have NB715_708 := zgtn hg BK708; replace BK708 := zbb BK708 hb; have NB709_715 := zltn hg BK709; have NB715_709 := zgtn hg BK709; replace BK709 := zbb BK709 hb; clear hb hbox hg; obtain ⟨Ao85, co85, eo85⟩ := Kd.N_slice HO713.out; subst eo85; have hnb86 := NB715_708.out; have hnc86 := NB708_715.out; have hnb87 := NB715_709.out; have hnc87 := NB709_715.out; have hcz88_0 := zh BK715; have hfz88_0 := zfr BK715 0; have hcz89_0 := zh BK708; have hcz89_1 := zh1 BK708; have hfz89_0 := zfr BK708 0; have hfz89_1 := zfr BK708 1; have p716 : 0 ≤ (1 : Int) := (by omega); have q716 : 1 < (l0_1.length : Int) := of_decide_eq_true y19; obtain ⟨ad716, A716_1, c716_1, e716, hx716_0, hx716_1, hl716_1, hi716_1⟩ := at_T55 HR0_1.out 1 p716 q716; obtain rfl : ad710 = ad716 := (by injection e716); (try simp only [show (1 : Int).toNat = 1 from rfl, Nat.reduceMul, Nat.reduceEqDiff, Go.Addr.add, ↓reduceIte] at hx716_0); (try simp only [show (1 : Int).toNat = 1 from rfl, Nat.reduceMul, Nat.reduceEqDiff, Go.Addr.add, ↓reduceIte] at hx716_1); have qi716 : (1 < l0_1.length) = True := eq_true (by omega); (try rw [show ((1 : Int)).toNat = 1 from rfl] at hx716_0); (try rw [show 1 * 2 = 2 from rfl] at hx716_0); (try rw [show ((1 : Int)).toNat = 1 from rfl] at hx716_1); (try rw [show 1 * 2 = 2 from rfl] at hx716_1); have hn716_0 : ad710.block ≠ gb715 := Nat.ne_of_lt (Nat.lt_of_lt_of_le (by have := World.block_lt_of_cell? _ _ hx716_0; first | rwa [add_block] at this | exact this) GW715.out); replace hx716_0 := (HB.out.cell (World.block_lt_of_cell? w _ hx716_0)).trans hx716_0; replace hx716_1 := (HB.out.cell (World.block_lt_of_cell? w _ hx716_1)).trans hx716_1; have HR716_1 := Aside0.mk hi716_1; have HC716_1 := Aside0.mk hl716_1; clear hi716_1 hl716_1; replace hx716_0 := (cell_far (p := ⟨gb715, 0, none⟩) (by first | (rw [add_block]; exact hn716_0) | (show (Addr.add _ _).block ≠ _; rw [add_block]; exact hn716_0) | exact hn716_0) (.slice Ao85 t711.length co85)).trans hx716_0; replace hx716_1 := (cell_far (p := ⟨gb715, 0, none⟩) (by first | (rw [add_block]; exact hn716_0) | (show (Addr.add _ _).block ≠ _; rw [add_block]; exact hn716_0) | exact hn716_0) (.slice Ao85 t711.length co85)).trans hx716_1; clear hn716_0; replace p716 := eq_true p716; replace q716 := eq_true q716) | ((with_reducible refine gate_callee (f := 88) rfl ?_); refine goesL_ (some 53) rfl rfl Try.func88 (by kernel_rfl) rfl #[.agg #[.int .i64 ((rd_T55 l0_1 1).f0), .slice A716_1 ((rd_T55 l0_1 1).f1).length c716_1], .int .i64 (wrap64 (a1 - 1))] rfl y4 ?_; (with_reducible refine (ih kj21 (y46 HJ21.out) ((rd_T55 l0_1 1).f0) _ _ ((rd_T55 l0_1 1).f1) (wrap64 (a1 - 1)) t717 t720 _ ?side1 ?side2 A38.out).mono ?_); (case side1 => exact y38 HR716_1.out HB.out GE708.out GE709.out GE715.out); (case side2 => exact HC716_1.out); rintro e w90 ⟨v718, rfl, ho0, hb⟩; refine ⟨_, rfl, ?_⟩; have HO719 := Aside0.mk (Kd.N_lower (Kd.N_mono (ok' := fun k_ => (w.heap.size ≤ k_) ∧ some k_ ≠ (.slice Ao85 t711.length co85 : Value).ownBlock ∧ k_ ≠ gb708 ∧ k_ ≠ gb709 ∧ k_ ≠ gb715) ho0 (fun k_ hk_ => ⟨(Nat.le_trans (below_size (y7 HB.out GE708.out GE709.out GE715.out)) hk_), (Kd.fresh' (Kd.N_lt (by (with_reducible repeat (first | apply Kd.N_alloc | apply Kd.N_drewN | apply Kd.N_drew)); exact (Kd.N_mono (Kd.N_far (p := ⟨gb715, 0, none⟩) (Kd.N_mono HO713.out (fun k_ hk => (⟨hk, hk.2⟩ : _ ∧ k_ ≠ gb715))) (fun _ hk => hk.2) (.slice Ao85 t711.length co85)) (fun _ h_ => h_.1)))) k_ hk_), (Kd.freshB (g := gb708) (o := .cells #[.int .i64 a0_0, .slice (some ad710) l0_1.length c0_1] 55 (0, 0)) (y21 NB708_715.out BK708.out) k_ hk_), (Kd.freshB (g := gb709) (o := .cells #[.slice none 0 0] 30 (0, 0)) (y21 NB709_715.out BK709.out) k_ hk_), (Kd.freshB (g := gb715) (o := .cells #[.slice Ao85 t711.length co85] 30 (0, 0)) (by (with_reducible repeat (first | refine blk_drewN ?_ _ | refine blk_drew ?_ | refine blk_alloc ?_ _)); apply blk_put (i := 0); (case h => exact y0 BK715.out); (case e => rfl)) k_ hk_)⟩)) (below_size (y7 HB.out GE708.out GE709.out GE715.out))); replace HO713 := Aside0.mk (Kd.N_elder' (by (with_reducible repeat (first | apply Kd.N_alloc | apply Kd.N_drewN | apply Kd.N_drew)); exact (Kd.N_mono (Kd.N_far (p := ⟨gb715, 0, none⟩) (Kd.N_mono HO713.out (fun k_ hk => (⟨hk, hk.2⟩ : _ ∧ k_ ≠ gb715))) (fun _ hk => hk.2) (.slice Ao85 t711.length co85)) (fun _ h_ => h_.1))) (Kd.N_base ho0) hb); replace BK708 := zbf BK708 NB708_715 hb; replace BK709 := zbf BK709 NB709_715 hb; replace BK715 := Aside0.mk (blk_below (g := gb715) (o := .cells #[.slice Ao85 t711.length co85] 30 (0, 0)) (by (with_reducible repeat (first | refine blk_drewN ?_ _ | refine blk_drew ?_ | refine blk_alloc ?_ _)); apply blk_put (i := 0); (case h => exact y0 BK715.out); (case e => rfl)) hb); replace HB := Aside0.mk (below_step (y7 HB.out GE708.out GE709.out GE715.out) hb); (try clear hb); (try clear hb2); (try clear hk); (try clear hi); (try clear ho0)) | ((with_reducible refine gate_dst (N := 8) rfl ?_); refine zbx 8 #[.slice none 0 0] 30 ?_; intro gb721 hg w91 hbox hb; replace HO713 := Aside0.mk (Kd.N_below (Kd.N_elderB (y9 HO713.out) gb721 (Nat.le_of_eq hg.symm)) hb); replace HO719 := Aside0.mk (Kd.N_below (Kd.N_elderB (y9 HO719.out) gb721 (Nat.le_of_eq hg.symm)) hb); have BK721 := Aside0.mk hbox; have GW721 := Aside0.mk ((y29 hg HB.out GE708.out GE709.out GE715.out : w.heap.size ≤ gb721)); have GE721 := Aside0.mk ((y29 hg HB.out GE708.out GE709.out GE715.out : w.heap.size ≤ gb721)); replace HB := Aside0.mk (below_step (y7 HB.out GE708.out GE709.out GE715.out) hb); have NB708_721 := zltn hg BK708; have NB721_708 := zgtn hg BK708; replace BK708 := zbb BK708 hb; have NB709_721 := zltn hg BK709; have NB721_709 := zgtn hg BK709; replace BK709 := zbb BK709 hb; have NB715_721 := zltn hg BK715; have NB721_715 := zgtn hg BK715; replace BK715 := zbb BK715 hb; clear hb hbox hg; obtain ⟨Ao92, co92, eo92⟩ := Kd.N_slice HO719.out; subst eo92; have hnb93 := NB721_708.out; have hnc93 := NB708_721.out; have hnb94 := NB721_709.out; have hnc94 := NB709_721.out; have hnb95 := NB721_715.out; have hnc95 := NB715_721.out; have hcz96_0 := zh BK721; have hfz96_0 := zfr BK721 0; have hcz97_0 := zh BK709; have hfz97_0 := zfr BK709 0))
         refine bodyPost_ret (results_ct rfl _ _ gb709 30 #[.slice none 0 0] (0, 0) _ rfl (by (with_reducible repeat (first | refine blk_drewN ?_ _ | refine blk_drew ?_ | refine blk_alloc ?_ _)); refine blk_put (cs := #[.slice none 0 0]) ?_ 0 _ rfl; (with_reducible repeat (first | refine blk_drewN ?_ _ | refine blk_drew ?_ | refine blk_alloc ?_ _)); refine blk_far ?_ NB709_721.out _; (with_reducible repeat (first | refine blk_drewN ?_ _ | refine blk_drew ?_ | refine blk_alloc ?_ _)); exact BK709.out) Try.underlying30 rfl (by kernel_rfl)) rfl ?_
         exact ⟨_, y14, y36, (y16 HB.out GE708.out GE709.out GE715.out GE721.out)⟩
       ·rw [if_neg c37] at H
        exact absurd H (by simp)
      ·rw [if_neg c35] at H
       exact absurd H (by simp)
end Go.Proofs.Ytjhbhihfifhljaa.PA
end
section
namespace Go.Proofs.Ytjhbhihfifhljaa.PA
open Go.RowKit Go.Proofs.YtjhbhihfifhljaaW.PrintWords Go.Proofs.YtjhbhihfifhljaaW.PrintLast Go.Proofs.YtjhbhihfifhljaaW.PrintMore
attribute [local go_sem] max2_int min2_int max_two min_two max_three min_three max_four min_four
set_option linter.unusedVariables false
set_option linter.unusedSimpArgs false
def impl_valTyped.f (k : Nat) (a0_0 : Int) (l0_1 : List (S55)) : Option ((List (S30)) × Bool) := (impl_valType.f k a0_0 l0_1 4).bind fun bt727 => (some (bt727.1, bt727.2))
theorem impl_valTyped.mono : ∀ a0 a1 k, LeO (impl_valTyped.f k a0 a1) (impl_valTyped.f (k + 1) a0 a1) := by
 intro a0 a1 k
 unfold impl_valTyped.f
 repeat' first
   | (with_reducible exact impl_valType.mono _ _ _ _)
   | (with_reducible exact LeO.refl _)
   | (with_reducible exact LeO.none _)
   | (with_reducible refine LeO.ite ?_ ?_)
   | (with_reducible refine LeO.bind ?_ (fun _ => ?_))
   | exact impl_valType.mono _ _ _ _
   | exact LeO.none _
   | refine LeO.ite ?_ ?_
   | refine LeO.bind ?_ (fun _ => ?_)
set_option maxHeartbeats 8000000 in
set_option maxRecDepth 100000 in
theorem impl_valTyped.calls (k : Nat) (a0_0 : Int) (A0_1 : Option Addr) (c0_1 : Nat) (l0_1 : List (S55)) (r1 : List (S30)) (r2 : Bool) (w : World) (hr0_1 : Kd.C k55 w A0_1 l0_1.length l0_1) (hc0_1 : l0_1.length ≤ c0_1) (h : impl_valTyped.f k a0_0 l0_1 = some (r1, r2)) :
  Calls Try.prog 69 #[.agg #[.int .i64 a0_0, .slice A0_1 l0_1.length c0_1]] w fun e w' => ∃ v0_ : Value, e = .returned (.tuple #[.agg #[v0_], .bool r2]) ∧ Kd.N k30 30 w' w.heap.size (fun k_ => (w.heap.size ≤ k_)) v0_ r1 ∧ Below w.heap.size w w' := by
 have hu55 := Try.underlying55
 have hu30 := Try.underlying30
 have HR0_1 := Aside0.mk hr0_1
 have HC0_1 := Aside0.mk hc0_1
 clear hr0_1 hc0_1
 have HB := Aside0.mk (Below.refl w.heap.size w)
 have H : ((impl_valType.f k a0_0 l0_1 4).bind fun bt727 => (some (bt727.1, bt727.2))) = some (r1, r2) := h
 clear h
 obtain ⟨⟨t727, t730⟩, A20, H⟩ := ob H
 have A2 := Aside0.mk A20
 clear A20
 simp only [Option.some.injEq, Prod.mk.injEq] at H
 obtain ⟨rfl, rfl⟩ := H
 go_enter Try.func69, Try.ntmps69
 go_wp2_with (first | ((with_reducible refine gate_dst (N := 1) rfl ?_); refine zbx 1 #[.int .i64 a0_0, .slice A0_1 l0_1.length c0_1] 55 ?_; intro gb725 hg w3 hbox hb; have BK725 := Aside0.mk hbox; have GW725 := Aside0.mk ((y5 hg HB.out : w.heap.size ≤ gb725)); have GE725 := Aside0.mk ((y5 hg HB.out : w.heap.size ≤ gb725)); replace HB := Aside0.mk (below_step (y2 HB.out) hb); clear hb hbox hg) | ((with_reducible refine gate_dst (N := 2) rfl ?_); refine zbx 2 #[.slice none 0 0] 30 ?_; intro gb726 hg w4 hbox hb; have BK726 := Aside0.mk hbox; have GW726 := Aside0.mk ((y6 hg HB.out GE725.out : w.heap.size ≤ gb726)); have GE726 := Aside0.mk ((y6 hg HB.out GE725.out : w.heap.size ≤ gb726)); replace HB := Aside0.mk (below_step (y3 HB.out GE725.out) hb); have NB725_726 := zltn hg BK725; have NB726_725 := zgtn hg BK725; replace BK725 := zbb BK725 hb; clear hb hbox hg; have hnb5 := NB725_726.out; have hnc5 := NB726_725.out; have hcz6_0 := zh BK725; have hcz6_1 := zh1 BK725; have hfz6_0 := zfr BK725 0; have hfz6_1 := zfr BK725 1) | ((with_reducible refine gate_callee (f := 88) rfl ?_); refine goesL_ (some 5) rfl rfl Try.func88 (by kernel_rfl) rfl #[.agg #[.int .i64 a0_0, .slice A0_1 l0_1.length c0_1], .int .i64 4] rfl y4 ?_; (with_reducible refine (impl_valType.calls k a0_0 _ _ l0_1 4 t727 t730 _ ?side1 ?side2 A2.out).mono ?_); (case side1 => exact y8 HR0_1.out HB.out); (case side2 => exact HC0_1.out); rintro e w7 ⟨v728, rfl, ho0, hb⟩; refine ⟨_, rfl, ?_⟩; have HO729 := Aside0.mk (Kd.N_lower (Kd.N_mono (ok' := fun k_ => (w.heap.size ≤ k_) ∧ k_ ≠ gb725 ∧ k_ ≠ gb726) ho0 (fun k_ hk_ => ⟨(Nat.le_trans (below_size (y1 HB.out GE725.out GE726.out)) hk_), (Kd.freshB (g := gb725) (o := .cells #[.int .i64 a0_0, .slice A0_1 l0_1.length c0_1] 55 (0, 0)) (y0 BK725.out) k_ hk_), (Kd.freshB (g := gb726) (o := .cells #[.slice none 0 0] 30 (0, 0)) (y0 BK726.out) k_ hk_)⟩)) (below_size (y1 HB.out GE725.out GE726.out))); replace BK725 := zbb BK725 hb; replace BK726 := zbb BK726 hb; replace HB := Aside0.mk (below_step (y1 HB.out GE725.out GE726.out) hb); (try clear hb); (try clear hb2); (try clear hk); (try clear hi); (try clear ho0); obtain ⟨Ao8, co8, eo8⟩ := Kd.N_slice HO729.out; subst eo8; have hcz9_0 := zh BK726; have hfz9_0 := zfr BK726 0))
 refine bodyPost_ret (results_ct rfl _ _ gb726 30 #[.slice Ao8 t727.length co8] (0, 0) _ rfl (by (with_reducible repeat (first | refine blk_drewN ?_ _ | refine blk_drew ?_ | refine blk_alloc ?_ _)); apply blk_put (i := 0); (case h => exact y0 BK726.out); (case e => rfl)) Try.underlying30 rfl (by kernel_rfl)) rfl ?_
 exact ⟨_, y14, (by (with_reducible repeat (first | apply Kd.N_alloc | apply Kd.N_drewN | apply Kd.N_drew)); exact Kd.N_mono (Kd.N_far (p := ⟨gb726, 0, none⟩) (Kd.N_mono HO729.out (fun k_ hk => (⟨hk, hk.2.2⟩ : _ ∧ k_ ≠ gb726))) (fun _ hk => hk.2) (.slice Ao8 t727.length co8)) (fun _ hk => hk.1.1)), (y1 HB.out GE725.out GE726.out)⟩
end Go.Proofs.Ytjhbhihfifhljaa.PA
end
section
namespace Go.Proofs.Ytjhbhihfifhljaa.PA
open Go.RowKit Go.Proofs.YtjhbhihfifhljaaW.PrintWords Go.Proofs.YtjhbhihfifhljaaW.PrintLast Go.Proofs.YtjhbhihfifhljaaW.PrintMore
attribute [local go_sem] max2_int min2_int max_two min_two max_three min_three max_four min_four
set_option linter.unusedVariables false
set_option linter.unusedSimpArgs false
mutual
def impl_typeSame.l0 : Nat → Int → Int → List (S30) → List (S30) → Option (Bool)
 | 0, _, _, _, _ => none
 | k + 1, x15, x16, x732000, x733000 => if x16 < x15 then (if 0 ≤ x16 then (if x16 < (x732000.length : Int) then (if x16 < (x733000.length : Int) then ((impl_typeSame.f k ((rd_T30 x732000 x16).f0) ((rd_T30 x733000 x16).f0)).bind fun t735 => (if t735 = true then (impl_typeSame.l0 k x15 (wrap64 (x16 + 1)) x732000 x733000) else (some false))) else (none)) else (none)) else (none)) else (some true)
def impl_typeSame.f : Nat → List (S30) → List (S30) → Option (Bool)
 | 0, _, _ => none
 | k + 1, l0_0, l1_0 => if (l0_0.length : Int) = (l1_0.length : Int) then (impl_typeSame.l0 k (l0_0.length : Int) 0 l0_0 l1_0) else (some false)
end
theorem impl_typeSame.mono_l : ∀ k, (∀ y0 y1, LeO (impl_typeSame.f k y0 y1) (impl_typeSame.f (k + 1) y0 y1)) ∧ (∀ y0 y1 y2 y3, LeO (impl_typeSame.l0 k y0 y1 y2 y3) (impl_typeSame.l0 (k + 1) y0 y1 y2 y3))
 | 0 => ⟨fun _ _ r h => by simp [impl_typeSame.f] at h, fun _ _ _ _ r h => by simp [impl_typeSame.l0] at h⟩
 | k + 1 => by
  obtain ⟨ih0, ih1⟩ := impl_typeSame.mono_l k
  refine ⟨?_, ?_⟩
  ·intro y0 y1
   unfold impl_typeSame.f
   repeat' first
   | (with_reducible exact ih0 _ _)
   | (with_reducible exact ih1 _ _ _ _)
   | (with_reducible exact LeO.refl _)
   | (with_reducible exact LeO.none _)
   | (with_reducible refine LeO.ite ?_ ?_)
   | (with_reducible refine LeO.bind ?_ (fun _ => ?_))
   | exact ih0 _ _
   | exact ih1 _ _ _ _
   | exact LeO.none _
   | refine LeO.ite ?_ ?_
   | refine LeO.bind ?_ (fun _ => ?_)
  ·intro y0 y1 y2 y3
   unfold impl_typeSame.l0
   repeat' first
   | (with_reducible exact ih0 _ _)
   | (with_reducible exact ih1 _ _ _ _)
   | (with_reducible exact LeO.refl _)
   | (with_reducible exact LeO.none _)
   | (with_reducible refine LeO.ite ?_ ?_)
   | (with_reducible refine LeO.bind ?_ (fun _ => ?_))
   | exact ih0 _ _
   | exact ih1 _ _ _ _
   | exact LeO.none _
   | refine LeO.ite ?_ ?_
   | refine LeO.bind ?_ (fun _ => ?_)
theorem impl_typeSame.mono : ∀ a0 a1 k, LeO (impl_typeSame.f k a0 a1) (impl_typeSame.f (k + 1) a0 a1) := by
 intro a0 a1 k
 obtain ⟨ih0, ih1⟩ := impl_typeSame.mono_l k
 exact ih0 a0 a1
def impl_typeSame.T6 : Bool × List (List Nat × List Nat) := (true, [([], []), ([0], [0]), ([], []), ([1, 2], [1, 2]), ([3], [3]), ([], []), ([5], [5]), ([], []), ([6, 7], [6, 7]), ([8], [8]), ([4, 9], [4, 9]), ([10], [10])])
def impl_typeSame.B6 : List Nat := [0, 1, 0, 7, 15, 0, 32, 0, 224, 480, 1023, 2047]
theorem impl_typeSame.tab6 : rtab .any (opsOf Try.f70 6) = impl_typeSame.T6 := by kernel_rfl
theorem impl_typeSame.bits6 : waitsOk impl_typeSame.T6.2 impl_typeSame.B6 = true := by kernel_rfl
set_option maxHeartbeats 8000000 in
set_option maxRecDepth 100000 in
theorem impl_typeSame.calls (k : Nat) : ∀ (A0_0 : Option Addr) (c0_0 : Nat) (l0_0 : List (S30)) (A1_0 : Option Addr) (c1_0 : Nat) (l1_0 : List (S30)) (r : Bool) (w : World) (hr0_0 : Kd.C k30 w A0_0 l0_0.length l0_0) (hc0_0 : l0_0.length ≤ c0_0) (hr1_0 : Kd.C k30 w A1_0 l1_0.length l1_0) (hc1_0 : l1_0.length ≤ c1_0) (h : impl_typeSame.f k l0_0 l1_0 = some r),
  Calls Try.prog 70 #[.agg #[.slice A0_0 l0_0.length c0_0], .agg #[.slice A1_0 l1_0.length c1_0]] w fun e w' => e = .returned (.bool r) ∧ Below w.heap.size w w' := by
 induction k using Nat.strongRecOn with
 | _ k ih =>
 intro A0_0 c0_0 l0_0 A1_0 c1_0 l1_0 r w hr0_0 hc0_0 hr1_0 hc1_0 h
 cases k with
 | zero => exact absurd h (by simp [impl_typeSame.f])
 | succ k =>
 simp only [impl_typeSame.f] at h
 have hu30 := Try.underlying30
 have HR0_0 := Aside0.mk hr0_0
 have HC0_0 := Aside0.mk hc0_0
 clear hr0_0 hc0_0
 have HR1_0 := Aside0.mk hr1_0
 have HC1_0 := Aside0.mk hc1_0
 clear hr1_0 hc1_0
 have HB := Aside0.mk (Below.refl w.heap.size w)
 have H : (if (l0_0.length : Int) = (l1_0.length : Int) then (impl_typeSame.l0 k (l0_0.length : Int) 0 l0_0 l1_0) else (some false)) = some r := h
 clear h
 by_cases c3 : (l0_0.length : Int) = (l1_0.length : Int)
 ·rw [if_pos c3] at H
  have c3b0 : ((l0_0.length : Int) == (l1_0.length : Int)) = true := beq_iff_eq.mpr c3
  have c3b1 : ((l0_0.length : Int) != (l1_0.length : Int)) = false := bne_eq_false_iff_eq.mpr c3
  have c3b2 : (l0_0.length == l1_0.length) = true := by first | simpa using c3 | (simp at c3 ⊢; omega)
  clear c3
  have H' := Aside0.mk H
  clear H
  go_enter Try.func70, Try.ntmps70
  go_wp2_with (first | ((with_reducible refine gate_dst (N := 2) rfl ?_); refine zbx 2 #[.slice A0_0 l0_0.length c0_0] 30 ?_; intro gb731 hg w4 hbox hb; have BK731 := Aside0.mk hbox; have GW731 := Aside0.mk ((y5 hg HB.out : w.heap.size ≤ gb731)); have GE731 := Aside0.mk ((y5 hg HB.out : w.heap.size ≤ gb731)); replace HB := Aside0.mk (below_step (y2 HB.out) hb); clear hb hbox hg) | ((with_reducible refine gate_dst (N := 3) rfl ?_); refine zbx 3 #[.slice A1_0 l1_0.length c1_0] 30 ?_; intro gb732 hg w5 hbox hb; have BK732 := Aside0.mk hbox; have GW732 := Aside0.mk ((y6 hg HB.out GE731.out : w.heap.size ≤ gb732)); have GE732 := Aside0.mk ((y6 hg HB.out GE731.out : w.heap.size ≤ gb732)); replace HB := Aside0.mk (below_step (y3 HB.out GE731.out) hb); have NB731_732 := zltn hg BK731; have NB732_731 := zgtn hg BK731; replace BK731 := zbb BK731 hb; clear hb hbox hg; have hnb6 := NB731_732.out; have hnc6 := NB732_731.out; have hcz7_0 := zh BK731; have hfz7_0 := zfr BK731 0; have hcz8_0 := zh BK732; have hfz8_0 := zfr BK732 0))
  go_loopg [16] k (fun kq v16 w' => ∃ (x16_1 : Int), v16 = .int .i64 x16_1 ∧ Aside0 (impl_typeSame.l0 kq (l0_0.length : Int) x16_1 l0_0 l1_0 = some r) ∧ Aside0 (kq ≤ k) ∧ Aside0 (w'.heap[gb731]? = some (.cells #[(.slice A0_0 l0_0.length c0_0)] 30 (0, 0))) ∧ Aside0 (w'.heap[gb732]? = some (.cells #[(.slice A1_0 l1_0.length c1_0)] 30 (0, 0))) ∧ Aside0 (Below w.heap.size w w'))
  case atStart => exact ⟨(0), y26, H', ⟨Nat.le_refl _⟩, ⟨(y0 BK731.out)⟩, ⟨(y0 BK732.out)⟩, ⟨(y1 HB.out GE731.out GE732.out)⟩⟩
  case round =>
   clear H'
   try clear c1
   try clear p2
   try clear c3
   try clear c3b0
   try clear c3b1
   try clear c3b2
   try clear c6
   try clear c7
   try clear hcz7_0
   try clear hcz8_0
   try clear hfz7_0
   try clear hfz8_0
   obtain ⟨x16_1, rfl, HA, HK1, BK731, BK732, HB⟩ := hrel
   cases gk with
   | zero => exact absurd HA.out (by simp [impl_typeSame.l0])
   | succ k1 =>
    have H := HA.out
    clear HA
    simp only [impl_typeSame.l0] at H
    by_cases c9 : x16_1 < (l0_0.length : Int)
    ·rw [if_pos c9] at H
     have c9b0 : decide (x16_1 < (l0_0.length : Int)) = true := decide_eq_true c9
     clear c9
     by_cases c10 : 0 ≤ x16_1
     ·rw [if_pos c10] at H
      have c10b0 : decide (0 ≤ x16_1) = true := decide_eq_true c10
      clear c10
      by_cases c11 : x16_1 < (l0_0.length : Int)
      ·rw [if_pos c11] at H
       have c11b0 : decide (x16_1 < (l0_0.length : Int)) = true := decide_eq_true c11
       clear c11
       by_cases c12 : x16_1 < (l1_0.length : Int)
       ·rw [if_pos c12] at H
        have c12b0 : decide (x16_1 < (l1_0.length : Int)) = true := decide_eq_true c12
        clear c12
        obtain ⟨t735, A130, H⟩ := ob H
        have A13 := Aside0.mk A130
        clear A130
        by_cases c14 : t735 = true
        ·subst c14
         rw [if_pos rfl] at H
         have H' := Aside0.mk H
         clear H
         try go_wp2
         replace BK731 := Aside0.mk (blk_drew BK731.out)
         replace BK732 := Aside0.mk (blk_drew BK732.out)
         replace HB := Aside0.mk (below_drew1 HB.out)
         have p733 : 0 ≤ (x16_1 : Int) := of_decide_eq_true y19
         have q733 : x16_1 < (l0_0.length : Int) := of_decide_eq_true y19
         obtain ⟨ad733, A733_0, c733_0, e733, hx733_0, hl733_0, hi733_0⟩ := at_T30 HR0_0.out x16_1 p733 q733
         have hw733_0 := hx733_0
         cases e733
         replace hx733_0 := (HB.out.cell (World.block_lt_of_cell? w _ hx733_0)).trans hx733_0
         have HR733_0 := Aside0.mk hi733_0
         have HC733_0 := Aside0.mk hl733_0
         clear hi733_0 hl733_0
         replace p733 := eq_true p733
         replace q733 := eq_true q733
         have p734 : 0 ≤ (x16_1 : Int) := of_decide_eq_true y19
         have q734 : x16_1 < (l1_0.length : Int) := of_decide_eq_true y19
         obtain ⟨ad734, A734_0, c734_0, e734, hx734_0, hl734_0, hi734_0⟩ := at_T30 HR1_0.out x16_1 p734 q734
         have hw734_0 := hx734_0
         cases e734
         replace hx734_0 := (HB.out.cell (World.block_lt_of_cell? w _ hx734_0)).trans hx734_0
         have HR734_0 := Aside0.mk hi734_0
         have HC734_0 := Aside0.mk hl734_0
         clear hi734_0 hl734_0
         replace p734 := eq_true p734
         replace q734 := eq_true q734
         refine start_ (n := 12) (S := fun w' => w'.cell? ⟨gb731, 0, none⟩ = some (.slice (some ad733) l0_0.length c0_0) ∧ w'.cell? ⟨gb732, 0, none⟩ = some (.slice (some ad734) l1_0.length c1_0) ∧ w'.cell? (ad733.add (x16_1).toNat) = some (.slice A733_0 ((rd_T30 l0_0 x16_1).f0).length c733_0) ∧ w'.cell? (ad734.add (x16_1).toNat) = some (.slice A734_0 ((rd_T30 l1_0 x16_1).f0).length c734_0)) (ds := []) #[false, false, false, false, false, false, false, false, false, false, false, false] (by kernel_rfl) rfl rfl ⟨(blk_cell BK731.out 0).trans rfl, (blk_cell BK732.out 0).trans rfl, ((HB.out.cell (World.block_lt_of_cell? w _ hw733_0)).trans hw733_0), ((HB.out.cell (World.block_lt_of_cell? w _ hw734_0)).trans hw734_0)⟩ (fun hHeld => ?_); refine with_tabW impl_typeSame.tab6 impl_typeSame.bits6 (fun HT_ HW_ => ?_)
         generalize wr.drew = w15 at BK731 BK732 HB HR733_0 HR734_0 hx733_0 hx734_0 hHeld ⊢
         refine zp 0 (some 19) HT_ ?_
         refine zp 2 (some 21) HT_ ?_
         refine zp 5 (some 24) HT_ ?_
         refine zp 7 (some 26) HT_ ?_
         refine zt4 1 (some 20) HT_ HW_ hHeld ?_
         refine zp 3 (some 22) HT_ ?_
         refine zt4 4 (some 23) HT_ HW_ hHeld ?_
         refine zt4 6 (some 25) HT_ HW_ hHeld ?_
         refine zp 8 (some 27) HT_ ?_
         refine zt4 9 (some 28) HT_ HW_ hHeld ?_
         refine one_ (i := 10) (N := some 29) #[true, true, true, true, true, true, true, true, true, true, true, false] rfl rfl (one_of HT_.out (by kernel_rfl)) (by decide) (fun K hK => ?_)
         refine goes_ Try.func70 (by kernel_rfl) rfl #[.agg #[.slice A733_0 ((rd_T30 l0_0 x16_1).f0).length c733_0], .agg #[.slice A734_0 ((rd_T30 l1_0 x16_1).f0).length c734_0]] (by rfl) rfl rfl y4 ?_
         with_reducible refine (ih k1 (y46 HK1.out) _ _ ((rd_T30 l0_0 x16_1).f0) _ _ ((rd_T30 l1_0 x16_1).f0) true _ ?side1 ?side2 ?side3 ?side4 A13.out).mono ?_
         (case side1 => exact y8 HR733_0.out HB.out)
         (case side2 => exact HC733_0.out)
         (case side3 => exact y8 HR734_0.out HB.out)
         (case side4 => exact HC734_0.out)
         rintro e w16 ⟨rfl, hb⟩
         refine ⟨_, rfl, ?_⟩
         replace BK731 := zbb BK731 hb
         replace BK732 := zbb BK732 hb
         replace HB := Aside0.mk (below_step (y1 HB.out GE731.out GE732.out) hb)
         (try clear hb)
         (try clear hb2)
         (try clear hk)
         (try clear hi)
         refine hK.out _ _ ⟨(blk_cell BK731.out 0).trans rfl, (blk_cell BK732.out 0).trans rfl, ((HB.out.cell (World.block_lt_of_cell? w _ hw733_0)).trans hw733_0), ((HB.out.cell (World.block_lt_of_cell? w _ hw734_0)).trans hw734_0)⟩ (fun hHeld => ?_)
         clear hK K
         refine norm_ (a' := ?_) ?_ ?_
         rotate_left
         ·show Act.put _ (some 29) _ = _
          simp only [Act.put, List.setIfInBounds_toArray, List.set_cons_zero, List.set_cons_succ, i64_w, i32_w]
          rfl
         refine zp 11 (some 30) HT_ ?_
         refine done_ (done_of HT_.out (by kernel_rfl)) ?_
         try go_wp2
         go_roundg k1
         case measure => have := HK1.out; omega
         case rel => exact ⟨(wrap64 (x16_1 + 1)), y26, H', ⟨(y46 HK1.out)⟩, ⟨(y0 BK731.out)⟩, ⟨(y0 BK732.out)⟩, ⟨(y1 HB.out GE731.out GE732.out)⟩⟩
        ·replace c14 := Bool.eq_false_iff.mpr c14
         subst c14
         rw [if_neg (show ¬ (false = true) by decide)] at H
         obtain rfl := Option.some.inj H
         try go_wp2
         replace BK731 := Aside0.mk (blk_drew BK731.out)
         replace BK732 := Aside0.mk (blk_drew BK732.out)
         replace HB := Aside0.mk (below_drew1 HB.out)
         have p733 : 0 ≤ (x16_1 : Int) := of_decide_eq_true y19
         have q733 : x16_1 < (l0_0.length : Int) := of_decide_eq_true y19
         obtain ⟨ad733, A733_0, c733_0, e733, hx733_0, hl733_0, hi733_0⟩ := at_T30 HR0_0.out x16_1 p733 q733
         have hw733_0 := hx733_0
         cases e733
         replace hx733_0 := (HB.out.cell (World.block_lt_of_cell? w _ hx733_0)).trans hx733_0
         have HR733_0 := Aside0.mk hi733_0
         have HC733_0 := Aside0.mk hl733_0
         clear hi733_0 hl733_0
         replace p733 := eq_true p733
         replace q733 := eq_true q733
         have p734 : 0 ≤ (x16_1 : Int) := of_decide_eq_true y19
         have q734 : x16_1 < (l1_0.length : Int) := of_decide_eq_true y19
         obtain ⟨ad734, A734_0, c734_0, e734, hx734_0, hl734_0, hi734_0⟩ := at_T30 HR1_0.out x16_1 p734 q734
         have hw734_0 := hx734_0
         cases e734
         replace hx734_0 := (HB.out.cell (World.block_lt_of_cell? w _ hx734_0)).trans hx734_0
         have HR734_0 := Aside0.mk hi734_0
         have HC734_0 := Aside0.mk hl734_0
         clear hi734_0 hl734_0
         replace p734 := eq_true p734
         replace q734 := eq_true q734
         refine start_ (n := 12) (S := fun w' => w'.cell? ⟨gb731, 0, none⟩ = some (.slice (some ad733) l0_0.length c0_0) ∧ w'.cell? ⟨gb732, 0, none⟩ = some (.slice (some ad734) l1_0.length c1_0) ∧ w'.cell? (ad733.add (x16_1).toNat) = some (.slice A733_0 ((rd_T30 l0_0 x16_1).f0).length c733_0) ∧ w'.cell? (ad734.add (x16_1).toNat) = some (.slice A734_0 ((rd_T30 l1_0 x16_1).f0).length c734_0)) (ds := []) #[false, false, false, false, false, false, false, false, false, false, false, false] (by kernel_rfl) rfl rfl ⟨(blk_cell BK731.out 0).trans rfl, (blk_cell BK732.out 0).trans rfl, ((HB.out.cell (World.block_lt_of_cell? w _ hw733_0)).trans hw733_0), ((HB.out.cell (World.block_lt_of_cell? w _ hw734_0)).trans hw734_0)⟩ (fun hHeld => ?_); refine with_tabW impl_typeSame.tab6 impl_typeSame.bits6 (fun HT_ HW_ => ?_)
         generalize wr.drew = w17 at BK731 BK732 HB HR733_0 HR734_0 hx733_0 hx734_0 hHeld ⊢
         refine zp 0 (some 19) HT_ ?_
         refine zp 2 (some 21) HT_ ?_
         refine zp 5 (some 24) HT_ ?_
         refine zp 7 (some 26) HT_ ?_
         refine zt4 1 (some 20) HT_ HW_ hHeld ?_
         refine zp 3 (some 22) HT_ ?_
         refine zt4 4 (some 23) HT_ HW_ hHeld ?_
         refine zt4 6 (some 25) HT_ HW_ hHeld ?_
         refine zp 8 (some 27) HT_ ?_
         refine zt4 9 (some 28) HT_ HW_ hHeld ?_
         refine one_ (i := 10) (N := some 29) #[true, true, true, true, true, true, true, true, true, true, true, false] rfl rfl (one_of HT_.out (by kernel_rfl)) (by decide) (fun K hK => ?_)
         refine goes_ Try.func70 (by kernel_rfl) rfl #[.agg #[.slice A733_0 ((rd_T30 l0_0 x16_1).f0).length c733_0], .agg #[.slice A734_0 ((rd_T30 l1_0 x16_1).f0).length c734_0]] (by rfl) rfl rfl y4 ?_
         with_reducible refine (ih k1 (y46 HK1.out) _ _ ((rd_T30 l0_0 x16_1).f0) _ _ ((rd_T30 l1_0 x16_1).f0) false _ ?side1 ?side2 ?side3 ?side4 A13.out).mono ?_
         (case side1 => exact y8 HR733_0.out HB.out)
         (case side2 => exact HC733_0.out)
         (case side3 => exact y8 HR734_0.out HB.out)
         (case side4 => exact HC734_0.out)
         rintro e w18 ⟨rfl, hb⟩
         refine ⟨_, rfl, ?_⟩
         replace BK731 := zbb BK731 hb
         replace BK732 := zbb BK732 hb
         replace HB := Aside0.mk (below_step (y1 HB.out GE731.out GE732.out) hb)
         (try clear hb)
         (try clear hb2)
         (try clear hk)
         (try clear hi)
         refine hK.out _ _ ⟨(blk_cell BK731.out 0).trans rfl, (blk_cell BK732.out 0).trans rfl, ((HB.out.cell (World.block_lt_of_cell? w _ hw733_0)).trans hw733_0), ((HB.out.cell (World.block_lt_of_cell? w _ hw734_0)).trans hw734_0)⟩ (fun hHeld => ?_)
         clear hK K
         refine norm_ (a' := ?_) ?_ ?_
         rotate_left
         ·show Act.put _ (some 29) _ = _
          simp only [Act.put, List.setIfInBounds_toArray, List.set_cons_zero, List.set_cons_succ, i64_w, i32_w]
          rfl
         refine zp 11 (some 30) HT_ ?_
         refine done_ (done_of HT_.out (by kernel_rfl)) ?_
         try go_wp2
         go_ret
         exact ⟨y14, (y1 HB.out GE731.out GE732.out)⟩
       ·rw [if_neg c12] at H
        exact absurd H (by simp)
      ·rw [if_neg c11] at H
       exact absurd H (by simp)
     ·rw [if_neg c10] at H
      exact absurd H (by simp)
    ·rw [if_neg c9] at H
     have c9b0 : decide (x16_1 < (l0_0.length : Int)) = false := decide_eq_false c9
     clear c9
     obtain rfl := Option.some.inj H
     go_wp2
     go_ret
     exact ⟨y14, (y1 HB.out GE731.out GE732.out)⟩
 ·rw [if_neg c3] at H
  have c3b0 : ((l0_0.length : Int) == (l1_0.length : Int)) = false := beq_eq_false_iff_ne.mpr c3
  have c3b1 : ((l0_0.length : Int) != (l1_0.length : Int)) = true := bne_iff_ne.mpr c3
  have c3b2 : (l0_0.length == l1_0.length) = false := by first | simpa using c3 | (simp at c3 ⊢; omega)
  obtain rfl := Option.some.inj H
  go_enter Try.func70, Try.ntmps70
  go_wp2_with (first | ((with_reducible refine gate_dst (N := 2) rfl ?_); refine zbx 2 #[.slice A0_0 l0_0.length c0_0] 30 ?_; intro gb731 hg w19 hbox hb; have BK731 := Aside0.mk hbox; have GW731 := Aside0.mk ((y5 hg HB.out : w.heap.size ≤ gb731)); have GE731 := Aside0.mk ((y5 hg HB.out : w.heap.size ≤ gb731)); replace HB := Aside0.mk (below_step (y2 HB.out) hb); clear hb hbox hg) | ((with_reducible refine gate_dst (N := 3) rfl ?_); refine zbx 3 #[.slice A1_0 l1_0.length c1_0] 30 ?_; intro gb732 hg w20 hbox hb; have BK732 := Aside0.mk hbox; have GW732 := Aside0.mk ((y6 hg HB.out GE731.out : w.heap.size ≤ gb732)); have GE732 := Aside0.mk ((y6 hg HB.out GE731.out : w.heap.size ≤ gb732)); replace HB := Aside0.mk (below_step (y3 HB.out GE731.out) hb); have NB731_732 := zltn hg BK731; have NB732_731 := zgtn hg BK731; replace BK731 := zbb BK731 hb; clear hb hbox hg; have hnb21 := NB731_732.out; have hnc21 := NB732_731.out; have hcz22_0 := zh BK731; have hfz22_0 := zfr BK731 0; have hcz23_0 := zh BK732; have hfz23_0 := zfr BK732 0))
  go_ret
  exact ⟨y14, (y1 HB.out GE731.out GE732.out)⟩
end Go.Proofs.Ytjhbhihfifhljaa.PA
end
section
namespace Go.Proofs.Ytjhbhihfifhljaa.PA
open Go.RowKit Go.Proofs.YtjhbhihfifhljaaW.PrintWords Go.Proofs.YtjhbhihfifhljaaW.PrintLast Go.Proofs.YtjhbhihfifhljaaW.PrintMore
attribute [local go_sem] max2_int min2_int max_two min_two max_three min_three max_four min_four
set_option linter.unusedVariables false
set_option linter.unusedSimpArgs false
def impl_ValOk.f (k : Nat) (l0_0 : List (S30)) (a1_0 : Int) (l1_1 : List (S55)) : Option (Bool) := (impl_TypeOk.f k l0_0).bind fun t738 => (if t738 = true then ((impl_valTyped.f k a1_0 l1_1).bind fun bt739 => (if bt739.2 = true then ((impl_typeSame.f k bt739.1 l0_0).bind fun t744 => (some t744)) else (some false))) else (some false))
theorem impl_ValOk.mono : ∀ a0 a1 a2 k, LeO (impl_ValOk.f k a0 a1 a2) (impl_ValOk.f (k + 1) a0 a1 a2) := by
 intro a0 a1 a2 k
 unfold impl_ValOk.f
 repeat' first
   | (with_reducible exact impl_TypeOk.mono _ _)
   | (with_reducible exact impl_typeSame.mono _ _ _)
   | (with_reducible exact impl_valTyped.mono _ _ _)
   | (with_reducible exact LeO.refl _)
   | (with_reducible exact LeO.none _)
   | (with_reducible refine LeO.ite ?_ ?_)
   | (with_reducible refine LeO.bind ?_ (fun _ => ?_))
   | exact impl_TypeOk.mono _ _
   | exact impl_typeSame.mono _ _ _
   | exact impl_valTyped.mono _ _ _
   | exact LeO.none _
   | refine LeO.ite ?_ ?_
   | refine LeO.bind ?_ (fun _ => ?_)
set_option maxHeartbeats 8000000 in
set_option maxRecDepth 100000 in
theorem impl_ValOk.calls (k : Nat) (A0_0 : Option Addr) (c0_0 : Nat) (l0_0 : List (S30)) (a1_0 : Int) (A1_1 : Option Addr) (c1_1 : Nat) (l1_1 : List (S55)) (r : Bool) (w : World) (hr0_0 : Kd.C k30 w A0_0 l0_0.length l0_0) (hc0_0 : l0_0.length ≤ c0_0) (hr1_1 : Kd.C k55 w A1_1 l1_1.length l1_1) (hc1_1 : l1_1.length ≤ c1_1) (h : impl_ValOk.f k l0_0 a1_0 l1_1 = some r) :
  Calls Try.prog 35 #[.agg #[.slice A0_0 l0_0.length c0_0], .agg #[.int .i64 a1_0, .slice A1_1 l1_1.length c1_1]] w fun e w' => e = .returned (.bool r) ∧ Below w.heap.size w w' := by
 have hu30 := Try.underlying30
 have hu55 := Try.underlying55
 have HR0_0 := Aside0.mk hr0_0
 have HC0_0 := Aside0.mk hc0_0
 clear hr0_0 hc0_0
 have HR1_1 := Aside0.mk hr1_1
 have HC1_1 := Aside0.mk hc1_1
 clear hr1_1 hc1_1
 have HB := Aside0.mk (Below.refl w.heap.size w)
 have H : ((impl_TypeOk.f k l0_0).bind fun t738 => (if t738 = true then ((impl_valTyped.f k a1_0 l1_1).bind fun bt739 => (if bt739.2 = true then ((impl_typeSame.f k bt739.1 l0_0).bind fun t744 => (some t744)) else (some false))) else (some false))) = some r := h
 clear h
 obtain ⟨t738, A30, H⟩ := ob H
 have A3 := Aside0.mk A30
 clear A30
 by_cases c4 : t738 = true
 ·subst c4
  rw [if_pos rfl] at H
  obtain ⟨⟨t739, t742⟩, A50, H⟩ := ob H
  have A5 := Aside0.mk A50
  clear A50
  by_cases c6 : t742 = true
  ·subst c6
   rw [if_pos rfl] at H
   obtain ⟨t744, A70, H⟩ := ob H
   have A7 := Aside0.mk A70
   clear A70
   obtain rfl := Option.some.inj H
   go_enter Try.func35, Try.ntmps35
   go_wp2_with (first | ((with_reducible refine gate_dst (N := 2) rfl ?_); refine zbx 2 #[.slice A0_0 l0_0.length c0_0] 30 ?_; intro gb736 hg w8 hbox hb; have BK736 := Aside0.mk hbox; have GW736 := Aside0.mk ((y5 hg HB.out : w.heap.size ≤ gb736)); have GE736 := Aside0.mk ((y5 hg HB.out : w.heap.size ≤ gb736)); replace HB := Aside0.mk (below_step (y2 HB.out) hb); clear hb hbox hg) | ((with_reducible refine gate_dst (N := 3) rfl ?_); refine zbx 3 #[.int .i64 a1_0, .slice A1_1 l1_1.length c1_1] 55 ?_; intro gb737 hg w9 hbox hb; have BK737 := Aside0.mk hbox; have GW737 := Aside0.mk ((y6 hg HB.out GE736.out : w.heap.size ≤ gb737)); have GE737 := Aside0.mk ((y6 hg HB.out GE736.out : w.heap.size ≤ gb737)); replace HB := Aside0.mk (below_step (y3 HB.out GE736.out) hb); have NB736_737 := zltn hg BK736; have NB737_736 := zgtn hg BK736; replace BK736 := zbb BK736 hb; clear hb hbox hg; have hnb10 := NB736_737.out; have hnc10 := NB737_736.out; have hcz11_0 := zh BK736; have hfz11_0 := zfr BK736 0) | ((with_reducible refine gate_callee (f := 18) rfl ?_); refine goesL_ (some 8) rfl rfl Try.func18 (by kernel_rfl) rfl #[.agg #[.slice A0_0 l0_0.length c0_0]] rfl y4 ?_; (with_reducible refine (impl_TypeOk.calls k _ _ l0_0 true _ ?side1 ?side2 A3.out).mono ?_); (case side1 => exact y8 HR0_0.out HB.out); (case side2 => exact HC0_0.out); rintro e w12 ⟨rfl, hb⟩; refine ⟨_, rfl, ?_⟩; replace BK736 := zbb BK736 hb; replace BK737 := zbb BK737 hb; replace HB := Aside0.mk (below_step (y1 HB.out GE736.out GE737.out) hb); (try clear hb); (try clear hb2); (try clear hk); (try clear hi); have hcz13_0 := zh BK737; have hcz13_1 := zh1 BK737; have hfz13_0 := zfr BK737 0; have hfz13_1 := zfr BK737 1) | ((with_reducible refine gate_callee (f := 69) rfl ?_); refine goesL_ (some 12) rfl rfl Try.func69 (by kernel_rfl) rfl #[.agg #[.int .i64 a1_0, .slice A1_1 l1_1.length c1_1]] rfl y4 ?_; (with_reducible refine (impl_valTyped.calls k a1_0 _ _ l1_1 t739 true _ ?side1 ?side2 A5.out).mono ?_); (case side1 => exact y8 HR1_1.out HB.out); (case side2 => exact HC1_1.out); rintro e w14 ⟨v740, rfl, ho0, hb⟩; refine ⟨_, rfl, ?_⟩; have HO741 := Aside0.mk (Kd.N_lower (Kd.N_mono (ok' := fun k_ => k_ ≠ gb736 ∧ k_ ≠ gb737) ho0 (fun k_ hk_ => ⟨(Kd.freshB (g := gb736) (o := .cells #[.slice A0_0 l0_0.length c0_0] 30 (0, 0)) (y0 BK736.out) k_ hk_), (Kd.freshB (g := gb737) (o := .cells #[.int .i64 a1_0, .slice A1_1 l1_1.length c1_1] 55 (0, 0)) (y0 BK737.out) k_ hk_)⟩)) (below_size (y1 HB.out GE736.out GE737.out))); replace BK736 := zbb BK736 hb; replace BK737 := zbb BK737 hb; replace HB := Aside0.mk (below_step (y1 HB.out GE736.out GE737.out) hb); (try clear hb); (try clear hb2); (try clear hk); (try clear hi); (try clear ho0)) | ((with_reducible refine gate_dst (N := 5) rfl ?_); refine zbx 5 #[.slice none 0 0] 30 ?_; intro gb743 hg w15 hbox hb; replace HO741 := Aside0.mk (Kd.N_below (Kd.N_elderB (y9 HO741.out) gb743 (Nat.le_of_eq hg.symm)) hb); have BK743 := Aside0.mk hbox; have GW743 := Aside0.mk ((y20 hg HB.out GE736.out GE737.out : w.heap.size ≤ gb743)); have GE743 := Aside0.mk ((y20 hg HB.out GE736.out GE737.out : w.heap.size ≤ gb743)); replace HB := Aside0.mk (below_step (y1 HB.out GE736.out GE737.out) hb); have NB736_743 := zltn hg BK736; have NB743_736 := zgtn hg BK736; replace BK736 := zbb BK736 hb; have NB737_743 := zltn hg BK737; have NB743_737 := zgtn hg BK737; replace BK737 := zbb BK737 hb; clear hb hbox hg; obtain ⟨Ao16, co16, eo16⟩ := Kd.N_slice HO741.out; subst eo16; have hnb17 := NB743_736.out; have hnc17 := NB736_743.out; have hnb18 := NB743_737.out; have hnc18 := NB737_743.out; have hcz19_0 := zh BK743; have hfz19_0 := zfr BK743 0; have hcz20_0 := zh BK736; have hfz20_0 := zfr BK736 0) | (go_at_call 70; (with_reducible refine (impl_typeSame.calls k _ _ t739 _ _ l0_0 t744 _ ?side1 ?side2 ?side3 ?side4 A7.out).mono ?_); (case side1 => refine (Kd.N_reads' (e := 30) (base := w.heap.size) (ok := fun k_ => ((k_ ≠ gb736 ∧ k_ ≠ gb737) ∧ k_ ≠ gb743)) (n := t739.length) (c := co16) ?_).2.2; exact (by (with_reducible repeat (first | apply Kd.N_alloc | apply Kd.N_drewN | apply Kd.N_drew)); exact (Kd.N_mono (Kd.N_far (p := ⟨gb743, 0, none⟩) (Kd.N_mono HO741.out (fun k_ hk => (⟨hk, hk.2⟩ : _ ∧ k_ ≠ gb743))) (fun _ hk => hk.2) (.slice Ao16 t739.length co16)) (fun _ h_ => h_.1)))); (case side2 => exact (Kd.N_reads' HO741.out).2.1); (case side3 => exact y38 HR0_0.out HB.out GE736.out GE737.out GE743.out); (case side4 => exact HC0_0.out); rintro e w21 ⟨rfl, hb⟩; replace HO741 := Aside0.mk (Kd.N_below (by (with_reducible repeat (first | apply Kd.N_alloc | apply Kd.N_drewN | apply Kd.N_drew)); exact (Kd.N_mono (Kd.N_far (p := ⟨gb743, 0, none⟩) (Kd.N_mono HO741.out (fun k_ hk => (⟨hk, hk.2⟩ : _ ∧ k_ ≠ gb743))) (fun _ hk => hk.2) (.slice Ao16 t739.length co16)) (fun _ h_ => h_.1))) hb); replace BK736 := zbf BK736 NB736_743 hb; replace BK737 := zbf BK737 NB737_743 hb; replace BK743 := Aside0.mk (blk_below (g := gb743) (o := .cells #[.slice Ao16 t739.length co16] 30 (0, 0)) (by (with_reducible repeat (first | refine blk_drewN ?_ _ | refine blk_drew ?_ | refine blk_alloc ?_ _)); apply blk_put (i := 0); (case h => exact y0 BK743.out); (case e => rfl)) hb); replace HB := Aside0.mk (below_step (y7 HB.out GE736.out GE737.out GE743.out) hb); (try clear hb); (try clear hb2); (try clear hk); (try clear hi)))
   go_ret
   exact ⟨y14, (y7 HB.out GE736.out GE737.out GE743.out)⟩
  ·replace c6 := Bool.eq_false_iff.mpr c6
   subst c6
   rw [if_neg (show ¬ (false = true) by decide)] at H
   obtain rfl := Option.some.inj H
   go_enter Try.func35, Try.ntmps35
   go_wp2_with (first | ((with_reducible refine gate_dst (N := 2) rfl ?_); refine zbx 2 #[.slice A0_0 l0_0.length c0_0] 30 ?_; intro gb736 hg w22 hbox hb; have BK736 := Aside0.mk hbox; have GW736 := Aside0.mk ((y5 hg HB.out : w.heap.size ≤ gb736)); have GE736 := Aside0.mk ((y5 hg HB.out : w.heap.size ≤ gb736)); replace HB := Aside0.mk (below_step (y2 HB.out) hb); clear hb hbox hg) | ((with_reducible refine gate_dst (N := 3) rfl ?_); refine zbx 3 #[.int .i64 a1_0, .slice A1_1 l1_1.length c1_1] 55 ?_; intro gb737 hg w23 hbox hb; have BK737 := Aside0.mk hbox; have GW737 := Aside0.mk ((y6 hg HB.out GE736.out : w.heap.size ≤ gb737)); have GE737 := Aside0.mk ((y6 hg HB.out GE736.out : w.heap.size ≤ gb737)); replace HB := Aside0.mk (below_step (y3 HB.out GE736.out) hb); have NB736_737 := zltn hg BK736; have NB737_736 := zgtn hg BK736; replace BK736 := zbb BK736 hb; clear hb hbox hg; have hnb24 := NB736_737.out; have hnc24 := NB737_736.out; have hcz25_0 := zh BK736; have hfz25_0 := zfr BK736 0) | ((with_reducible refine gate_callee (f := 18) rfl ?_); refine goesL_ (some 8) rfl rfl Try.func18 (by kernel_rfl) rfl #[.agg #[.slice A0_0 l0_0.length c0_0]] rfl y4 ?_; (with_reducible refine (impl_TypeOk.calls k _ _ l0_0 true _ ?side1 ?side2 A3.out).mono ?_); (case side1 => exact y8 HR0_0.out HB.out); (case side2 => exact HC0_0.out); rintro e w26 ⟨rfl, hb⟩; refine ⟨_, rfl, ?_⟩; replace BK736 := zbb BK736 hb; replace BK737 := zbb BK737 hb; replace HB := Aside0.mk (below_step (y1 HB.out GE736.out GE737.out) hb); (try clear hb); (try clear hb2); (try clear hk); (try clear hi); have hcz27_0 := zh BK737; have hcz27_1 := zh1 BK737; have hfz27_0 := zfr BK737 0; have hfz27_1 := zfr BK737 1) | ((with_reducible refine gate_callee (f := 69) rfl ?_); refine goesL_ (some 12) rfl rfl Try.func69 (by kernel_rfl) rfl #[.agg #[.int .i64 a1_0, .slice A1_1 l1_1.length c1_1]] rfl y4 ?_; (with_reducible refine (impl_valTyped.calls k a1_0 _ _ l1_1 t739 false _ ?side1 ?side2 A5.out).mono ?_); (case side1 => exact y8 HR1_1.out HB.out); (case side2 => exact HC1_1.out); rintro e w28 ⟨v740, rfl, ho0, hb⟩; refine ⟨_, rfl, ?_⟩; have HO741 := Aside0.mk (Kd.N_lower (Kd.N_mono (ok' := fun k_ => k_ ≠ gb736 ∧ k_ ≠ gb737) ho0 (fun k_ hk_ => ⟨(Kd.freshB (g := gb736) (o := .cells #[.slice A0_0 l0_0.length c0_0] 30 (0, 0)) (y0 BK736.out) k_ hk_), (Kd.freshB (g := gb737) (o := .cells #[.int .i64 a1_0, .slice A1_1 l1_1.length c1_1] 55 (0, 0)) (y0 BK737.out) k_ hk_)⟩)) (below_size (y1 HB.out GE736.out GE737.out))); replace BK736 := zbb BK736 hb; replace BK737 := zbb BK737 hb; replace HB := Aside0.mk (below_step (y1 HB.out GE736.out GE737.out) hb); (try clear hb); (try clear hb2); (try clear hk); (try clear hi); (try clear ho0)) | ((with_reducible refine gate_dst (N := 5) rfl ?_); refine zbx 5 #[.slice none 0 0] 30 ?_; intro gb743 hg w29 hbox hb; replace HO741 := Aside0.mk (Kd.N_below (Kd.N_elderB (y9 HO741.out) gb743 (Nat.le_of_eq hg.symm)) hb); have BK743 := Aside0.mk hbox; have GW743 := Aside0.mk ((y20 hg HB.out GE736.out GE737.out : w.heap.size ≤ gb743)); have GE743 := Aside0.mk ((y20 hg HB.out GE736.out GE737.out : w.heap.size ≤ gb743)); replace HB := Aside0.mk (below_step (y1 HB.out GE736.out GE737.out) hb); have NB736_743 := zltn hg BK736; have NB743_736 := zgtn hg BK736; replace BK736 := zbb BK736 hb; have NB737_743 := zltn hg BK737; have NB743_737 := zgtn hg BK737; replace BK737 := zbb BK737 hb; clear hb hbox hg; obtain ⟨Ao30, co30, eo30⟩ := Kd.N_slice HO741.out; subst eo30; have hnb31 := NB743_736.out; have hnc31 := NB736_743.out; have hnb32 := NB743_737.out; have hnc32 := NB737_743.out; have hcz33_0 := zh BK743; have hfz33_0 := zfr BK743 0))
   go_ret
   exact ⟨y14, (y7 HB.out GE736.out GE737.out GE743.out)⟩
 ·replace c4 := Bool.eq_false_iff.mpr c4
  subst c4
  rw [if_neg (show ¬ (false = true) by decide)] at H
  obtain rfl := Option.some.inj H
  go_enter Try.func35, Try.ntmps35
  go_wp2_with (first | ((with_reducible refine gate_dst (N := 2) rfl ?_); refine zbx 2 #[.slice A0_0 l0_0.length c0_0] 30 ?_; intro gb736 hg w34 hbox hb; have BK736 := Aside0.mk hbox; have GW736 := Aside0.mk ((y5 hg HB.out : w.heap.size ≤ gb736)); have GE736 := Aside0.mk ((y5 hg HB.out : w.heap.size ≤ gb736)); replace HB := Aside0.mk (below_step (y2 HB.out) hb); clear hb hbox hg) | ((with_reducible refine gate_dst (N := 3) rfl ?_); refine zbx 3 #[.int .i64 a1_0, .slice A1_1 l1_1.length c1_1] 55 ?_; intro gb737 hg w35 hbox hb; have BK737 := Aside0.mk hbox; have GW737 := Aside0.mk ((y6 hg HB.out GE736.out : w.heap.size ≤ gb737)); have GE737 := Aside0.mk ((y6 hg HB.out GE736.out : w.heap.size ≤ gb737)); replace HB := Aside0.mk (below_step (y3 HB.out GE736.out) hb); have NB736_737 := zltn hg BK736; have NB737_736 := zgtn hg BK736; replace BK736 := zbb BK736 hb; clear hb hbox hg; have hnb36 := NB736_737.out; have hnc36 := NB737_736.out; have hcz37_0 := zh BK736; have hfz37_0 := zfr BK736 0) | ((with_reducible refine gate_callee (f := 18) rfl ?_); refine goesL_ (some 8) rfl rfl Try.func18 (by kernel_rfl) rfl #[.agg #[.slice A0_0 l0_0.length c0_0]] rfl y4 ?_; (with_reducible refine (impl_TypeOk.calls k _ _ l0_0 false _ ?side1 ?side2 A3.out).mono ?_); (case side1 => exact y8 HR0_0.out HB.out); (case side2 => exact HC0_0.out); rintro e w38 ⟨rfl, hb⟩; refine ⟨_, rfl, ?_⟩; replace BK736 := zbb BK736 hb; replace BK737 := zbb BK737 hb; replace HB := Aside0.mk (below_step (y1 HB.out GE736.out GE737.out) hb); (try clear hb); (try clear hb2); (try clear hk); (try clear hi)))
  go_ret
  exact ⟨y14, (y1 HB.out GE736.out GE737.out)⟩
end Go.Proofs.Ytjhbhihfifhljaa.PA
end
section
namespace Go.Proofs.Ytjhbhihfifhljaa.PA
open Go.RowKit Go.Proofs.YtjhbhihfifhljaaW.PrintWords Go.Proofs.YtjhbhihfifhljaaW.PrintLast Go.Proofs.YtjhbhihfifhljaaW.PrintMore
attribute [local go_sem] max2_int min2_int max_two min_two max_three min_three max_four min_four
set_option linter.unusedVariables false
set_option linter.unusedSimpArgs false
mutual
def spec_l1Deep.j0 : Nat → Int → Bool → List (S30) → Option (Bool)
 | 0, _, _, _ => none
 | k + 1, x1, x19, x112000 => if x19 = true then (some false) else (spec_l1Deep.l0 k x1 0 x112000)
def spec_l1Deep.l0 : Nat → Int → Int → List (S30) → Option (Bool)
 | 0, _, _, _ => none
 | k + 1, x1, x5, x112000 => if x5 < (x112000.length : Int) then (if 0 ≤ x5 then ((spec_l1Deep.f k ((rd_T30 x112000 x5).f0) (wrap64 (x1 - 1))).bind fun t113 => (if t113 = true then (spec_l1Deep.l0 k x1 (wrap64 (x5 + 1)) x112000) else (some false))) else (none)) else (some true)
def spec_l1Deep.f : Nat → List (S30) → Int → Option (Bool)
 | 0, _, _ => none
 | k + 1, l0_0, a1 => if a1 < 1 then (spec_l1Deep.j0 k a1 true l0_0) else (if (l0_0.length : Int) = 0 then (spec_l1Deep.j0 k a1 false l0_0) else (spec_l1Deep.j0 k a1 ((l0_0.length : Int) != 2) l0_0))
end
theorem spec_l1Deep.mono_l : ∀ k, (∀ y0 y1, LeO (spec_l1Deep.f k y0 y1) (spec_l1Deep.f (k + 1) y0 y1)) ∧ (∀ y0 y1 y2, LeO (spec_l1Deep.j0 k y0 y1 y2) (spec_l1Deep.j0 (k + 1) y0 y1 y2)) ∧ (∀ y0 y1 y2, LeO (spec_l1Deep.l0 k y0 y1 y2) (spec_l1Deep.l0 (k + 1) y0 y1 y2))
 | 0 => ⟨fun _ _ r h => by simp [spec_l1Deep.f] at h, fun _ _ _ r h => by simp [spec_l1Deep.j0] at h, fun _ _ _ r h => by simp [spec_l1Deep.l0] at h⟩
 | k + 1 => by
  obtain ⟨ih0, ih1, ih2⟩ := spec_l1Deep.mono_l k
  refine ⟨?_, ?_, ?_⟩
  ·intro y0 y1
   unfold spec_l1Deep.f
   repeat' first
   | (with_reducible exact ih0 _ _)
   | (with_reducible exact ih1 _ _ _)
   | (with_reducible exact ih2 _ _ _)
   | (with_reducible exact LeO.refl _)
   | (with_reducible exact LeO.none _)
   | (with_reducible refine LeO.ite ?_ ?_)
   | (with_reducible refine LeO.bind ?_ (fun _ => ?_))
   | exact ih0 _ _
   | exact ih1 _ _ _
   | exact ih2 _ _ _
   | exact LeO.none _
   | refine LeO.ite ?_ ?_
   | refine LeO.bind ?_ (fun _ => ?_)
  ·intro y0 y1 y2
   unfold spec_l1Deep.j0
   repeat' first
   | (with_reducible exact ih0 _ _)
   | (with_reducible exact ih1 _ _ _)
   | (with_reducible exact ih2 _ _ _)
   | (with_reducible exact LeO.refl _)
   | (with_reducible exact LeO.none _)
   | (with_reducible refine LeO.ite ?_ ?_)
   | (with_reducible refine LeO.bind ?_ (fun _ => ?_))
   | exact ih0 _ _
   | exact ih1 _ _ _
   | exact ih2 _ _ _
   | exact LeO.none _
   | refine LeO.ite ?_ ?_
   | refine LeO.bind ?_ (fun _ => ?_)
  ·intro y0 y1 y2
   unfold spec_l1Deep.l0
   repeat' first
   | (with_reducible exact ih0 _ _)
   | (with_reducible exact ih1 _ _ _)
   | (with_reducible exact ih2 _ _ _)
   | (with_reducible exact LeO.refl _)
   | (with_reducible exact LeO.none _)
   | (with_reducible refine LeO.ite ?_ ?_)
   | (with_reducible refine LeO.bind ?_ (fun _ => ?_))
   | exact ih0 _ _
   | exact ih1 _ _ _
   | exact ih2 _ _ _
   | exact LeO.none _
   | refine LeO.ite ?_ ?_
   | refine LeO.bind ?_ (fun _ => ?_)
theorem spec_l1Deep.mono : ∀ a0 a1 k, LeO (spec_l1Deep.f k a0 a1) (spec_l1Deep.f (k + 1) a0 a1) := by
 intro a0 a1 k
 obtain ⟨ih0, ih1, ih2⟩ := spec_l1Deep.mono_l k
 exact ih0 a0 a1
set_option maxHeartbeats 8000000 in
set_option maxRecDepth 100000 in
theorem spec_l1Deep.calls (k : Nat) : ∀ (A0_0 : Option Addr) (c0_0 : Nat) (l0_0 : List (S30)) (a1 : Int) (r : Bool) (w : World) (hr0_0 : Kd.C k30 w A0_0 l0_0.length l0_0) (hc0_0 : l0_0.length ≤ c0_0) (h : spec_l1Deep.f k l0_0 a1 = some r),
  Calls Try.prog 47 #[.agg #[.slice A0_0 l0_0.length c0_0], .int .i64 a1] w fun e w' => e = .returned (.bool r) ∧ Below w.heap.size w w' := by
 induction k using Nat.strongRecOn with
 | _ k ih =>
 intro A0_0 c0_0 l0_0 a1 r w hr0_0 hc0_0 h
 cases k with
 | zero => exact absurd h (by simp [spec_l1Deep.f])
 | succ k =>
 simp only [spec_l1Deep.f] at h
 have hu30 := Try.underlying30
 have HR0_0 := Aside0.mk hr0_0
 have HC0_0 := Aside0.mk hc0_0
 clear hr0_0 hc0_0
 have HB := Aside0.mk (Below.refl w.heap.size w)
 have H : (if a1 < 1 then (spec_l1Deep.j0 k a1 true l0_0) else (if (l0_0.length : Int) = 0 then (spec_l1Deep.j0 k a1 false l0_0) else (spec_l1Deep.j0 k a1 ((l0_0.length : Int) != 2) l0_0))) = some r := h
 clear h
 have HC3 := Aside0.mk H
 clear H
 go_enter Try.func47, Try.ntmps47
 go_upto_region 1 with (first | ((with_reducible refine gate_dst (N := 2) rfl ?_); (try (refine gate_guard (by rfl) ?_; dsimp only)); refine zbx 2 #[.slice A0_0 l0_0.length c0_0] 30 ?_; intro gb111 hg w4 hbox hb; have BK111 := Aside0.mk hbox; have GW111 := Aside0.mk ((y5 hg HB.out : w.heap.size ≤ gb111)); have GE111 := Aside0.mk ((y5 hg HB.out : w.heap.size ≤ gb111)); replace HB := Aside0.mk (below_step (y2 HB.out) hb); clear hb hbox hg))
 (try simp only [Act.put, List.setIfInBounds_toArray, List.set_cons_zero, List.set_cons_succ])
 go_cut [19] (fun v19 wc => ∃ (kq : Nat) (x19_2 : Bool), v19 = .bool x19_2 ∧ Aside0 (spec_l1Deep.j0 kq a1 x19_2 l0_0 = some r) ∧ Aside0 (kq ≤ k) ∧ Aside0 (wc.heap[gb111]? = some (.cells #[(.slice A0_0 l0_0.length c0_0)] 30 (0, 0))) ∧ Aside0 (Below w.heap.size w wc))
 case first =>
  have H := HC3.out
  clear HC3
  by_cases c5 : a1 < 1
  ·rw [if_pos c5] at H
   have c5b0 : decide (a1 < 1) = true := decide_eq_true c5
   clear c5
   (first | rw [c5b0] | (simp only [i64_w, i32_w]; rw [c5b0]) | skip)
   have H' := Aside0.mk H
   clear H
   go_wp2
   go_meet
   case rel => exact ⟨_, (true), y26, H', ⟨y43⟩, ⟨(y0 BK111.out)⟩, ⟨(y3 HB.out GE111.out)⟩⟩
  ·rw [if_neg c5] at H
   have c5b0 : decide (a1 < 1) = false := decide_eq_false c5
   clear c5
   (first | rw [c5b0] | (simp only [i64_w, i32_w]; rw [c5b0]) | skip)
   by_cases c6 : (l0_0.length : Int) = 0
   ·rw [if_pos c6] at H
    have c6b0 : ((l0_0.length : Int) == 0) = true := beq_iff_eq.mpr c6
    have c6b1 : ((l0_0.length : Int) != 0) = false := bne_eq_false_iff_eq.mpr c6
    clear c6
    have H' := Aside0.mk H
    clear H
    have hcz7_0 := zh BK111
    have hfz7_0 := zfr BK111 0
    go_wp2
    go_meet
    case rel => exact ⟨_, (false), y26, H', ⟨y43⟩, ⟨(y0 BK111.out)⟩, ⟨(y3 HB.out GE111.out)⟩⟩
   ·rw [if_neg c6] at H
    have c6b0 : ((l0_0.length : Int) == 0) = false := beq_eq_false_iff_ne.mpr c6
    have c6b1 : ((l0_0.length : Int) != 0) = true := bne_iff_ne.mpr c6
    have c6b2 : ¬ (l0_0 = []) := fun h_ => c6 (by rw [h_]; rfl)
    have H' := Aside0.mk H
    clear H
    have hcz8_0 := zh BK111
    have hfz8_0 := zfr BK111 0
    go_wp2
    go_meet
    case rel => exact ⟨_, (((l0_0.length : Int) != 2)), y26, H', ⟨y43⟩, ⟨(y0 BK111.out)⟩, ⟨(y3 HB.out GE111.out)⟩⟩
 case rest =>
  clear HC3
  try clear p2
  try clear c4
  try clear c5
  try clear c5b0
  try clear c6
  try clear c6b0
  try clear c6b1
  try clear c6b2
  try clear hcz7_0
  try clear hcz8_0
  try clear hfz7_0
  try clear hfz8_0
  obtain ⟨kq, x19_2, rfl, HA, HJ2, BK111, HB⟩ := hcut
  cases kq with
  | zero => exact absurd HA.out (by simp [spec_l1Deep.j0])
  | succ kj2 =>
   have H := HA.out
   clear HA
   simp only [spec_l1Deep.j0] at H
   by_cases c9 : x19_2 = true
   ·subst c9
    rw [if_pos rfl] at H
    obtain rfl := Option.some.inj H
    go_wp2
    go_ret
    exact ⟨y14, (y3 HB.out GE111.out)⟩
   ·replace c9 := Bool.eq_false_iff.mpr c9
    subst c9
    rw [if_neg (show ¬ (false = true) by decide)] at H
    have H' := Aside0.mk H
    clear H
    go_wp2
    go_loopg [5] kj2 (fun kq v5 w' => ∃ (x5_2 : Int), v5 = .int .i64 x5_2 ∧ Aside0 (spec_l1Deep.l0 kq a1 x5_2 l0_0 = some r) ∧ Aside0 (kq ≤ kj2) ∧ Aside0 (w'.heap[gb111]? = some (.cells #[(.slice A0_0 l0_0.length c0_0)] 30 (0, 0))) ∧ Aside0 (Below w.heap.size w w'))
    case atStart => exact ⟨(0), y26, H', ⟨Nat.le_refl _⟩, ⟨(y0 BK111.out)⟩, ⟨(y3 HB.out GE111.out)⟩⟩
    case round =>
     clear H'
     try clear p2
     try clear c4
     try clear c5
     try clear c5b0
     try clear c6
     try clear c6b0
     try clear c6b1
     try clear c6b2
     try clear c9
     try clear hcz7_0
     try clear hcz8_0
     try clear hfz7_0
     try clear hfz8_0
     try clear p2
     obtain ⟨x5_2, rfl, HA, HK2, BK111, HB⟩ := hrel
     cases gk with
     | zero => exact absurd HA.out (by simp [spec_l1Deep.l0])
     | succ k2 =>
      have H := HA.out
      clear HA
      simp only [spec_l1Deep.l0] at H
      by_cases c10 : x5_2 < (l0_0.length : Int)
      ·rw [if_pos c10] at H
       have c10b0 : decide (x5_2 < (l0_0.length : Int)) = true := decide_eq_true c10
       clear c10
       by_cases c11 : 0 ≤ x5_2
       ·rw [if_pos c11] at H
        have c11b0 : decide (0 ≤ x5_2) = true := decide_eq_true c11
        clear c11
        obtain ⟨t113, A120, H⟩ := ob H
        have A12 := Aside0.mk A120
        clear A120
        by_cases c13 : t113 = true
        ·subst c13
         rw [if_pos rfl] at H
         have H' := Aside0.mk H
         clear H
         have hcz14_0 := zh BK111
         have hfz14_0 := zfr BK111 0
         have p112 : 0 ≤ (x5_2 : Int) := of_decide_eq_true y19
         have q112 : x5_2 < (l0_0.length : Int) := of_decide_eq_true y19
         obtain ⟨ad112, A112_0, c112_0, e112, hx112_0, hl112_0, hi112_0⟩ := at_T30 HR0_0.out x5_2 p112 q112
         cases e112
         replace hx112_0 := (HB.out.cell (World.block_lt_of_cell? w _ hx112_0)).trans hx112_0
         have HR112_0 := Aside0.mk hi112_0
         have HC112_0 := Aside0.mk hl112_0
         clear hi112_0 hl112_0
         replace p112 := eq_true p112
         replace q112 := eq_true q112
         go_wp2_with (first | ((with_reducible refine gate_callee (f := 47) rfl ?_); refine goesL_ (some 34) rfl rfl Try.func47 (by kernel_rfl) rfl #[.agg #[.slice A112_0 ((rd_T30 l0_0 x5_2).f0).length c112_0], .int .i64 (wrap64 (a1 - 1))] rfl y4 ?_; (with_reducible refine (ih k2 (y79 HJ2.out HK2.out) _ _ ((rd_T30 l0_0 x5_2).f0) (wrap64 (a1 - 1)) true _ ?side1 ?side2 A12.out).mono ?_); (case side1 => exact y8 HR112_0.out HB.out); (case side2 => exact HC112_0.out); rintro e w15 ⟨rfl, hb⟩; refine ⟨_, rfl, ?_⟩; replace BK111 := zbb BK111 hb; replace HB := Aside0.mk (below_step (y3 HB.out GE111.out) hb); (try clear hb); (try clear hb2); (try clear hk); (try clear hi)))
         go_roundg k2
         case measure => have := HJ2.out; have := HK2.out; omega
         case rel => exact ⟨(wrap64 (x5_2 + 1)), y26, H', ⟨(y79 HJ2.out HK2.out)⟩, ⟨(y0 BK111.out)⟩, ⟨(y3 HB.out GE111.out)⟩⟩
        ·replace c13 := Bool.eq_false_iff.mpr c13
         subst c13
         rw [if_neg (show ¬ (false = true) by decide)] at H
         obtain rfl := Option.some.inj H
         have hcz16_0 := zh BK111
         have hfz16_0 := zfr BK111 0
         have p112 : 0 ≤ (x5_2 : Int) := of_decide_eq_true y19
         have q112 : x5_2 < (l0_0.length : Int) := of_decide_eq_true y19
         obtain ⟨ad112, A112_0, c112_0, e112, hx112_0, hl112_0, hi112_0⟩ := at_T30 HR0_0.out x5_2 p112 q112
         cases e112
         replace hx112_0 := (HB.out.cell (World.block_lt_of_cell? w _ hx112_0)).trans hx112_0
         have HR112_0 := Aside0.mk hi112_0
         have HC112_0 := Aside0.mk hl112_0
         clear hi112_0 hl112_0
         replace p112 := eq_true p112
         replace q112 := eq_true q112
         go_wp2_with (first | ((with_reducible refine gate_callee (f := 47) rfl ?_); refine goesL_ (some 34) rfl rfl Try.func47 (by kernel_rfl) rfl #[.agg #[.slice A112_0 ((rd_T30 l0_0 x5_2).f0).length c112_0], .int .i64 (wrap64 (a1 - 1))] rfl y4 ?_; (with_reducible refine (ih k2 (y79 HJ2.out HK2.out) _ _ ((rd_T30 l0_0 x5_2).f0) (wrap64 (a1 - 1)) false _ ?side1 ?side2 A12.out).mono ?_); (case side1 => exact y8 HR112_0.out HB.out); (case side2 => exact HC112_0.out); rintro e w17 ⟨rfl, hb⟩; refine ⟨_, rfl, ?_⟩; replace BK111 := zbb BK111 hb; replace HB := Aside0.mk (below_step (y3 HB.out GE111.out) hb); (try clear hb); (try clear hb2); (try clear hk); (try clear hi)))
         go_ret
         exact ⟨y14, (y3 HB.out GE111.out)⟩
       ·rw [if_neg c11] at H
        exact absurd H (by simp)
      ·rw [if_neg c10] at H
       have c10b0 : decide (x5_2 < (l0_0.length : Int)) = false := decide_eq_false c10
       clear c10
       obtain rfl := Option.some.inj H
       have hcz18_0 := zh BK111
       have hfz18_0 := zfr BK111 0
       go_wp2
       go_ret
       exact ⟨y14, (y3 HB.out GE111.out)⟩
end Go.Proofs.Ytjhbhihfifhljaa.PA
end
section
namespace Go.Proofs.Ytjhbhihfifhljaa.PA
open Go.RowKit Go.Proofs.YtjhbhihfifhljaaW.PrintWords Go.Proofs.YtjhbhihfifhljaaW.PrintLast Go.Proofs.YtjhbhihfifhljaaW.PrintMore
attribute [local go_sem] max2_int min2_int max_two min_two max_three min_three max_four min_four
set_option linter.unusedVariables false
set_option linter.unusedSimpArgs false
def spec_TypeOk.f (k : Nat) (l0_0 : List (S30)) : Option (Bool) := (spec_l1Deep.f k l0_0 4).bind fun t115 => (some t115)
theorem spec_TypeOk.mono : ∀ a0 k, LeO (spec_TypeOk.f k a0) (spec_TypeOk.f (k + 1) a0) := by
 intro a0 k
 unfold spec_TypeOk.f
 repeat' first
   | (with_reducible exact spec_l1Deep.mono _ _ _)
   | (with_reducible exact LeO.refl _)
   | (with_reducible exact LeO.none _)
   | (with_reducible refine LeO.ite ?_ ?_)
   | (with_reducible refine LeO.bind ?_ (fun _ => ?_))
   | exact spec_l1Deep.mono _ _ _
   | exact LeO.none _
   | refine LeO.ite ?_ ?_
   | refine LeO.bind ?_ (fun _ => ?_)
set_option maxHeartbeats 8000000 in
set_option maxRecDepth 100000 in
theorem spec_TypeOk.calls (k : Nat) (A0_0 : Option Addr) (c0_0 : Nat) (l0_0 : List (S30)) (r : Bool) (w : World) (hr0_0 : Kd.C k30 w A0_0 l0_0.length l0_0) (hc0_0 : l0_0.length ≤ c0_0) (h : spec_TypeOk.f k l0_0 = some r) :
  Calls Try.prog 16 #[.agg #[.slice A0_0 l0_0.length c0_0]] w fun e w' => e = .returned (.bool r) ∧ Below w.heap.size w w' := by
 have hu30 := Try.underlying30
 have HR0_0 := Aside0.mk hr0_0
 have HC0_0 := Aside0.mk hc0_0
 clear hr0_0 hc0_0
 have HB := Aside0.mk (Below.refl w.heap.size w)
 have H : ((spec_l1Deep.f k l0_0 4).bind fun t115 => (some t115)) = some r := h
 clear h
 obtain ⟨t115, A20, H⟩ := ob H
 have A2 := Aside0.mk A20
 clear A20
 obtain rfl := Option.some.inj H
 go_enter Try.func16, Try.ntmps16
 go_wp2_with (first | ((with_reducible refine gate_dst (N := 1) rfl ?_); refine zbx 1 #[.slice A0_0 l0_0.length c0_0] 30 ?_; intro gb114 hg w3 hbox hb; have BK114 := Aside0.mk hbox; have GW114 := Aside0.mk ((y5 hg HB.out : w.heap.size ≤ gb114)); have GE114 := Aside0.mk ((y5 hg HB.out : w.heap.size ≤ gb114)); replace HB := Aside0.mk (below_step (y2 HB.out) hb); clear hb hbox hg; have hcz4_0 := zh BK114; have hfz4_0 := zfr BK114 0) | ((with_reducible refine gate_callee (f := 47) rfl ?_); refine goesL_ (some 4) rfl rfl Try.func47 (by kernel_rfl) rfl #[.agg #[.slice A0_0 l0_0.length c0_0], .int .i64 4] rfl y4 ?_; (with_reducible refine (spec_l1Deep.calls k _ _ l0_0 4 t115 _ ?side1 ?side2 A2.out).mono ?_); (case side1 => exact y8 HR0_0.out HB.out); (case side2 => exact HC0_0.out); rintro e w5 ⟨rfl, hb⟩; refine ⟨_, rfl, ?_⟩; replace BK114 := zbb BK114 hb; replace HB := Aside0.mk (below_step (y3 HB.out GE114.out) hb); (try clear hb); (try clear hb2); (try clear hk); (try clear hi)))
 go_ret
 exact ⟨y14, (y3 HB.out GE114.out)⟩
end Go.Proofs.Ytjhbhihfifhljaa.PA
end
section
namespace Go.Proofs.Ytjhbhihfifhljaa.PA
open Go.RowKit Go.Proofs.YtjhbhihfifhljaaW.PrintWords Go.Proofs.YtjhbhihfifhljaaW.PrintLast Go.Proofs.YtjhbhihfifhljaaW.PrintMore
attribute [local go_sem] max2_int min2_int max_two min_two max_three min_three max_four min_four
set_option linter.unusedVariables false
set_option linter.unusedSimpArgs false
def spec_l6In.f (a0 : Int) (a1 : Int) (a2 : Int) : Option (Bool) := if a0 ≥ a1 then (some (decide (a0 ≤ a2))) else (some false)
set_option maxHeartbeats 8000000 in
set_option maxRecDepth 100000 in
theorem spec_l6In.calls (a0 : Int) (a1 : Int) (a2 : Int) (r : Bool) (w : World) (h : spec_l6In.f a0 a1 a2 = some r) :
  Calls Try.prog 65 #[.int .i64 a0, .int .i64 a1, .int .i64 a2] w fun e w' => e = .returned (.bool r) ∧ Drawn0 w w' := by
 have H : (if a0 ≥ a1 then (some (decide (a0 ≤ a2))) else (some false)) = some r := h
 clear h
 by_cases c4 : a0 ≥ a1
 ·rw [if_pos c4] at H
  have c4b0 : decide (a1 ≤ a0) = true := decide_eq_true c4
  clear c4
  obtain rfl := Option.some.inj H
  go_enter Try.func65, Try.ntmps65
  go_wp2
  go_ret
  exact ⟨y26, y37⟩
 ·rw [if_neg c4] at H
  have c4b0 : decide (a1 ≤ a0) = false := decide_eq_false c4
  clear c4
  obtain rfl := Option.some.inj H
  go_enter Try.func65, Try.ntmps65
  go_wp2
  go_ret
  exact ⟨y26, y37⟩
end Go.Proofs.Ytjhbhihfifhljaa.PA
end
section
namespace Go.Proofs.Ytjhbhihfifhljaa.PA
open Go.RowKit Go.Proofs.YtjhbhihfifhljaaW.PrintWords Go.Proofs.YtjhbhihfifhljaaW.PrintLast Go.Proofs.YtjhbhihfifhljaaW.PrintMore
attribute [local go_sem] max2_int min2_int max_two min_two max_three min_three max_four min_four
set_option linter.unusedVariables false
set_option linter.unusedSimpArgs false
mutual
def spec_l1Val.j0 : Nat → Bool → List (S30) → Int → List (S55) → Option (Bool)
 | 0, _, _, _, _ => none
 | k + 1, x29, x746000, x747000, x747001 => if x29 = true then (some false) else (spec_l1Val.l0 k 0 x746000 x747000 x747001)
def spec_l1Val.l0 : Nat → Int → List (S30) → Int → List (S55) → Option (Bool)
 | 0, _, _, _, _ => none
 | k + 1, x5, x746000, x747000, x747001 => if x5 < (x747001.length : Int) then (if 0 ≤ x5 then (if x5 < (x746000.length : Int) then ((spec_l1Val.f k ((rd_T30 x746000 x5).f0) ((rd_T55 x747001 x5).f0) ((rd_T55 x747001 x5).f1)).bind fun t751 => (if t751 = true then (spec_l1Val.l0 k (wrap64 (x5 + 1)) x746000 x747000 x747001) else (some false))) else (none)) else (none)) else (some true)
def spec_l1Val.f : Nat → List (S30) → Int → List (S55) → Option (Bool)
 | 0, _, _, _ => none
 | k + 1, l0_0, a1_0, l1_1 => if (l1_1.length : Int) = (l0_0.length : Int) then (if (l1_1.length : Int) > 0 then (if a1_0 = 0 then ((spec_l6In.f a1_0 0 9999).bind fun t747 => (spec_l1Val.j0 k (!t747) l0_0 a1_0 l1_1)) else (spec_l1Val.j0 k true l0_0 a1_0 l1_1)) else ((spec_l6In.f a1_0 0 9999).bind fun t748 => (spec_l1Val.j0 k (!t748) l0_0 a1_0 l1_1))) else (spec_l1Val.j0 k true l0_0 a1_0 l1_1)
end
theorem spec_l1Val.mono_l : ∀ k, (∀ y0 y1 y2, LeO (spec_l1Val.f k y0 y1 y2) (spec_l1Val.f (k + 1) y0 y1 y2)) ∧ (∀ y0 y1 y2 y3, LeO (spec_l1Val.j0 k y0 y1 y2 y3) (spec_l1Val.j0 (k + 1) y0 y1 y2 y3)) ∧ (∀ y0 y1 y2 y3, LeO (spec_l1Val.l0 k y0 y1 y2 y3) (spec_l1Val.l0 (k + 1) y0 y1 y2 y3))
 | 0 => ⟨fun _ _ _ r h => by simp [spec_l1Val.f] at h, fun _ _ _ _ r h => by simp [spec_l1Val.j0] at h, fun _ _ _ _ r h => by simp [spec_l1Val.l0] at h⟩
 | k + 1 => by
  obtain ⟨ih0, ih1, ih2⟩ := spec_l1Val.mono_l k
  refine ⟨?_, ?_, ?_⟩
  ·intro y0 y1 y2
   unfold spec_l1Val.f
   repeat' first
   | (with_reducible exact ih0 _ _ _)
   | (with_reducible exact ih1 _ _ _ _)
   | (with_reducible exact ih2 _ _ _ _)
   | (with_reducible exact LeO.refl _)
   | (with_reducible exact LeO.none _)
   | (with_reducible refine LeO.ite ?_ ?_)
   | (with_reducible refine LeO.bind ?_ (fun _ => ?_))
   | exact ih0 _ _ _
   | exact ih1 _ _ _ _
   | exact ih2 _ _ _ _
   | exact LeO.none _
   | refine LeO.ite ?_ ?_
   | refine LeO.bind ?_ (fun _ => ?_)
  ·intro y0 y1 y2 y3
   unfold spec_l1Val.j0
   repeat' first
   | (with_reducible exact ih0 _ _ _)
   | (with_reducible exact ih1 _ _ _ _)
   | (with_reducible exact ih2 _ _ _ _)
   | (with_reducible exact LeO.refl _)
   | (with_reducible exact LeO.none _)
   | (with_reducible refine LeO.ite ?_ ?_)
   | (with_reducible refine LeO.bind ?_ (fun _ => ?_))
   | exact ih0 _ _ _
   | exact ih1 _ _ _ _
   | exact ih2 _ _ _ _
   | exact LeO.none _
   | refine LeO.ite ?_ ?_
   | refine LeO.bind ?_ (fun _ => ?_)
  ·intro y0 y1 y2 y3
   unfold spec_l1Val.l0
   repeat' first
   | (with_reducible exact ih0 _ _ _)
   | (with_reducible exact ih1 _ _ _ _)
   | (with_reducible exact ih2 _ _ _ _)
   | (with_reducible exact LeO.refl _)
   | (with_reducible exact LeO.none _)
   | (with_reducible refine LeO.ite ?_ ?_)
   | (with_reducible refine LeO.bind ?_ (fun _ => ?_))
   | exact ih0 _ _ _
   | exact ih1 _ _ _ _
   | exact ih2 _ _ _ _
   | exact LeO.none _
   | refine LeO.ite ?_ ?_
   | refine LeO.bind ?_ (fun _ => ?_)
theorem spec_l1Val.mono : ∀ a0 a1 a2 k, LeO (spec_l1Val.f k a0 a1 a2) (spec_l1Val.f (k + 1) a0 a1 a2) := by
 intro a0 a1 a2 k
 obtain ⟨ih0, ih1, ih2⟩ := spec_l1Val.mono_l k
 exact ih0 a0 a1 a2
def spec_l1Val.T6 : Bool × List (List Nat × List Nat) := (true, [([], []), ([0], [0]), ([], []), ([1, 2], [1, 2]), ([3], [3]), ([], []), ([5], [5]), ([], []), ([6, 7], [6, 7]), ([8], [8]), ([4, 9], [4, 9]), ([10], [10])])
def spec_l1Val.B6 : List Nat := [0, 1, 0, 7, 15, 0, 32, 0, 224, 480, 1023, 2047]
theorem spec_l1Val.tab6 : rtab .any (opsOf Try.f71 6) = spec_l1Val.T6 := by kernel_rfl
theorem spec_l1Val.bits6 : waitsOk spec_l1Val.T6.2 spec_l1Val.B6 = true := by kernel_rfl
set_option maxHeartbeats 8000000 in
set_option maxRecDepth 100000 in
theorem spec_l1Val.calls (k : Nat) : ∀ (A0_0 : Option Addr) (c0_0 : Nat) (l0_0 : List (S30)) (a1_0 : Int) (A1_1 : Option Addr) (c1_1 : Nat) (l1_1 : List (S55)) (r : Bool) (w : World) (hr0_0 : Kd.C k30 w A0_0 l0_0.length l0_0) (hc0_0 : l0_0.length ≤ c0_0) (hr1_1 : Kd.C k55 w A1_1 l1_1.length l1_1) (hc1_1 : l1_1.length ≤ c1_1) (h : spec_l1Val.f k l0_0 a1_0 l1_1 = some r),
  Calls Try.prog 71 #[.agg #[.slice A0_0 l0_0.length c0_0], .agg #[.int .i64 a1_0, .slice A1_1 l1_1.length c1_1]] w fun e w' => e = .returned (.bool r) ∧ Below w.heap.size w w' := by
 induction k using Nat.strongRecOn with
 | _ k ih =>
 intro A0_0 c0_0 l0_0 a1_0 A1_1 c1_1 l1_1 r w hr0_0 hc0_0 hr1_1 hc1_1 h
 cases k with
 | zero => exact absurd h (by simp [spec_l1Val.f])
 | succ k =>
 simp only [spec_l1Val.f] at h
 have hu30 := Try.underlying30
 have hu55 := Try.underlying55
 have HR0_0 := Aside0.mk hr0_0
 have HC0_0 := Aside0.mk hc0_0
 clear hr0_0 hc0_0
 have HR1_1 := Aside0.mk hr1_1
 have HC1_1 := Aside0.mk hc1_1
 clear hr1_1 hc1_1
 have HB := Aside0.mk (Below.refl w.heap.size w)
 have H : (if (l1_1.length : Int) = (l0_0.length : Int) then (if (l1_1.length : Int) > 0 then (if a1_0 = 0 then ((spec_l6In.f a1_0 0 9999).bind fun t747 => (spec_l1Val.j0 k (!t747) l0_0 a1_0 l1_1)) else (spec_l1Val.j0 k true l0_0 a1_0 l1_1)) else ((spec_l6In.f a1_0 0 9999).bind fun t748 => (spec_l1Val.j0 k (!t748) l0_0 a1_0 l1_1))) else (spec_l1Val.j0 k true l0_0 a1_0 l1_1)) = some r := h
 clear h
 have HC3 := Aside0.mk H
 clear H
 go_enter Try.func71, Try.ntmps71
 go_upto_region 1 with (first | ((with_reducible refine gate_dst (N := 2) rfl ?_); (try (refine gate_guard (by rfl) ?_; dsimp only)); refine zbx 2 #[.slice A0_0 l0_0.length c0_0] 30 ?_; intro gb745 hg w4 hbox hb; have BK745 := Aside0.mk hbox; have GW745 := Aside0.mk ((y5 hg HB.out : w.heap.size ≤ gb745)); have GE745 := Aside0.mk ((y5 hg HB.out : w.heap.size ≤ gb745)); replace HB := Aside0.mk (below_step (y2 HB.out) hb); clear hb hbox hg) | ((with_reducible refine gate_dst (N := 3) rfl ?_); (try (refine gate_guard (by rfl) ?_; dsimp only)); refine zbx 3 #[.int .i64 a1_0, .slice A1_1 l1_1.length c1_1] 55 ?_; intro gb746 hg w5 hbox hb; have BK746 := Aside0.mk hbox; have GW746 := Aside0.mk ((y6 hg HB.out GE745.out : w.heap.size ≤ gb746)); have GE746 := Aside0.mk ((y6 hg HB.out GE745.out : w.heap.size ≤ gb746)); replace HB := Aside0.mk (below_step (y3 HB.out GE745.out) hb); have NB745_746 := zltn hg BK745; have NB746_745 := zgtn hg BK745; replace BK745 := zbb BK745 hb; clear hb hbox hg))
 (try simp only [Act.put, List.setIfInBounds_toArray, List.set_cons_zero, List.set_cons_succ])
 go_cut [29] (fun v29 wc => ∃ (kq : Nat) (x29_2 : Bool), v29 = .bool x29_2 ∧ Aside0 (spec_l1Val.j0 kq x29_2 l0_0 a1_0 l1_1 = some r) ∧ Aside0 (kq ≤ k) ∧ Aside0 (wc.heap[gb745]? = some (.cells #[(.slice A0_0 l0_0.length c0_0)] 30 (0, 0))) ∧ Aside0 (wc.heap[gb746]? = some (.cells #[.int .i64 a1_0, (.slice A1_1 l1_1.length c1_1)] 55 (0, 0))) ∧ Aside0 (Below w.heap.size w wc))
 case first =>
  have H := HC3.out
  clear HC3
  by_cases c6 : (l1_1.length : Int) = (l0_0.length : Int)
  ·rw [if_pos c6] at H
   have c6b0 : ((l1_1.length : Int) == (l0_0.length : Int)) = true := beq_iff_eq.mpr c6
   have c6b1 : ((l1_1.length : Int) != (l0_0.length : Int)) = false := bne_eq_false_iff_eq.mpr c6
   have c6b2 : (l1_1.length == l0_0.length) = true := by first | simpa using c6 | (simp at c6 ⊢; omega)
   clear c6
   (first | rw [c6b0] | (simp only [i64_w, i32_w]; rw [c6b0]) | skip)
   by_cases c7 : (l1_1.length : Int) > 0
   ·rw [if_pos c7] at H
    have c7b0 : decide (0 < (l1_1.length : Int)) = true := decide_eq_true c7
    have c7b1 : decide (0 < l1_1.length) = true := decide_eq_true (by omega)
    clear c7
    by_cases c8 : a1_0 = 0
    ·rw [if_pos c8] at H
     have c8b0 : (a1_0 == 0) = true := beq_iff_eq.mpr c8
     have c8b1 : (a1_0 != 0) = false := bne_eq_false_iff_eq.mpr c8
     clear c8
     obtain ⟨t747, A90, H⟩ := ob H
     have A9 := Aside0.mk A90
     clear A90
     have H' := Aside0.mk H
     clear H
     have hnb10 := NB746_745.out
     have hnc10 := NB745_746.out
     have hcz11_0 := zh BK746
     have hcz11_1 := zh1 BK746
     have hfz11_0 := zfr BK746 0
     have hfz11_1 := zfr BK746 1
     have hcz12_0 := zh BK745
     have hfz12_0 := zfr BK745 0
     go_wp2_with (first | (go_at_call 65; (with_reducible refine (spec_l6In.calls a1_0 0 9999 t747 _ A9.out).mono ?_); rintro e w' ⟨rfl, ⟨nd, rfl⟩⟩))
     go_meet
     case rel => exact ⟨_, (!t747), y26, H', ⟨y43⟩, ⟨(y0 BK745.out)⟩, ⟨(y0 BK746.out)⟩, ⟨(y1 HB.out GE745.out GE746.out)⟩⟩
    ·rw [if_neg c8] at H
     have c8b0 : (a1_0 == 0) = false := beq_eq_false_iff_ne.mpr c8
     have c8b1 : (a1_0 != 0) = true := bne_iff_ne.mpr c8
     have H' := Aside0.mk H
     clear H
     have hnb13 := NB746_745.out
     have hnc13 := NB745_746.out
     have hcz14_0 := zh BK746
     have hcz14_1 := zh1 BK746
     have hfz14_0 := zfr BK746 0
     have hfz14_1 := zfr BK746 1
     have hcz15_0 := zh BK745
     have hfz15_0 := zfr BK745 0
     go_wp2
     go_meet
     case rel => exact ⟨_, (true), y26, H', ⟨y43⟩, ⟨(y0 BK745.out)⟩, ⟨(y0 BK746.out)⟩, ⟨(y1 HB.out GE745.out GE746.out)⟩⟩
   ·rw [if_neg c7] at H
    have c7b0 : decide (0 < (l1_1.length : Int)) = false := decide_eq_false c7
    have c7b1 : decide (0 < l1_1.length) = false := decide_eq_false (by omega)
    clear c7
    obtain ⟨t748, A160, H⟩ := ob H
    have A16 := Aside0.mk A160
    clear A160
    have H' := Aside0.mk H
    clear H
    have hnb17 := NB746_745.out
    have hnc17 := NB745_746.out
    have hcz18_0 := zh BK746
    have hcz18_1 := zh1 BK746
    have hfz18_0 := zfr BK746 0
    have hfz18_1 := zfr BK746 1
    have hcz19_0 := zh BK745
    have hfz19_0 := zfr BK745 0
    go_wp2_with (first | (go_at_call 65; (with_reducible refine (spec_l6In.calls a1_0 0 9999 t748 _ A16.out).mono ?_); rintro e w' ⟨rfl, ⟨nd, rfl⟩⟩))
    go_meet
    case rel => exact ⟨_, (!t748), y26, H', ⟨y43⟩, ⟨(y0 BK745.out)⟩, ⟨(y0 BK746.out)⟩, ⟨(y1 HB.out GE745.out GE746.out)⟩⟩
  ·rw [if_neg c6] at H
   have c6b0 : ((l1_1.length : Int) == (l0_0.length : Int)) = false := beq_eq_false_iff_ne.mpr c6
   have c6b1 : ((l1_1.length : Int) != (l0_0.length : Int)) = true := bne_iff_ne.mpr c6
   have c6b2 : (l1_1.length == l0_0.length) = false := by first | simpa using c6 | (simp at c6 ⊢; omega)
   (first | rw [c6b0] | (simp only [i64_w, i32_w]; rw [c6b0]) | skip)
   have H' := Aside0.mk H
   clear H
   have hnb20 := NB746_745.out
   have hnc20 := NB745_746.out
   have hcz21_0 := zh BK746
   have hcz21_1 := zh1 BK746
   have hfz21_0 := zfr BK746 0
   have hfz21_1 := zfr BK746 1
   have hcz22_0 := zh BK745
   have hfz22_0 := zfr BK745 0
   go_wp2
   go_meet
   case rel => exact ⟨_, (true), y26, H', ⟨y43⟩, ⟨(y0 BK745.out)⟩, ⟨(y0 BK746.out)⟩, ⟨(y1 HB.out GE745.out GE746.out)⟩⟩
 case rest =>
  clear HC3
  try clear c1
  try clear c2
  try clear p2
  try clear c6
  try clear c6b0
  try clear c6b1
  try clear c6b2
  try clear c7
  try clear c7b0
  try clear c7b1
  try clear c8
  try clear c8b0
  try clear c8b1
  try clear c10
  try clear c13
  try clear c17
  try clear c20
  try clear hcz11_0
  try clear hcz11_1
  try clear hcz12_0
  try clear hcz14_0
  try clear hcz14_1
  try clear hcz15_0
  try clear hcz18_0
  try clear hcz18_1
  try clear hcz19_0
  try clear hcz21_0
  try clear hcz21_1
  try clear hcz22_0
  try clear hfz11_0
  try clear hfz11_1
  try clear hfz12_0
  try clear hfz14_0
  try clear hfz14_1
  try clear hfz15_0
  try clear hfz18_0
  try clear hfz18_1
  try clear hfz19_0
  try clear hfz21_0
  try clear hfz21_1
  try clear hfz22_0
  obtain ⟨kq, x29_2, rfl, HA, HJ2, BK745, BK746, HB⟩ := hcut
  cases kq with
  | zero => exact absurd HA.out (by simp [spec_l1Val.j0])
  | succ kj2 =>
   have H := HA.out
   clear HA
   simp only [spec_l1Val.j0] at H
   by_cases c23 : x29_2 = true
   ·subst c23
    rw [if_pos rfl] at H
    obtain rfl := Option.some.inj H
    go_wp2
    go_ret
    exact ⟨y14, (y1 HB.out GE745.out GE746.out)⟩
   ·replace c23 := Bool.eq_false_iff.mpr c23
    subst c23
    rw [if_neg (show ¬ (false = true) by decide)] at H
    have H' := Aside0.mk H
    clear H
    go_wp2
    go_loopg [5] kj2 (fun kq v5 w' => ∃ (x5_2 : Int), v5 = .int .i64 x5_2 ∧ Aside0 (spec_l1Val.l0 kq x5_2 l0_0 a1_0 l1_1 = some r) ∧ Aside0 (kq ≤ kj2) ∧ Aside0 (w'.heap[gb745]? = some (.cells #[(.slice A0_0 l0_0.length c0_0)] 30 (0, 0))) ∧ Aside0 (w'.heap[gb746]? = some (.cells #[.int .i64 a1_0, (.slice A1_1 l1_1.length c1_1)] 55 (0, 0))) ∧ Aside0 (Below w.heap.size w w'))
    case atStart => exact ⟨(0), y26, H', ⟨Nat.le_refl _⟩, ⟨(y0 BK745.out)⟩, ⟨(y0 BK746.out)⟩, ⟨(y1 HB.out GE745.out GE746.out)⟩⟩
    case round =>
     clear H'
     try clear c1
     try clear c2
     try clear p2
     try clear c6
     try clear c6b0
     try clear c6b1
     try clear c6b2
     try clear c7
     try clear c7b0
     try clear c7b1
     try clear c8
     try clear c8b0
     try clear c8b1
     try clear c10
     try clear c13
     try clear c17
     try clear c20
     try clear c23
     try clear hcz11_0
     try clear hcz11_1
     try clear hcz12_0
     try clear hcz14_0
     try clear hcz14_1
     try clear hcz15_0
     try clear hcz18_0
     try clear hcz18_1
     try clear hcz19_0
     try clear hcz21_0
     try clear hcz21_1
     try clear hcz22_0
     try clear hfz11_0
     try clear hfz11_1
     try clear hfz12_0
     try clear hfz14_0
     try clear hfz14_1
     try clear hfz15_0
     try clear hfz18_0
     try clear hfz18_1
     try clear hfz19_0
     try clear hfz21_0
     try clear hfz21_1
     try clear hfz22_0
     try clear p2
     obtain ⟨x5_2, rfl, HA, HK2, BK745, BK746, HB⟩ := hrel
     cases gk with
     | zero => exact absurd HA.out (by simp [spec_l1Val.l0])
     | succ k2 =>
      have H := HA.out
      clear HA
      simp only [spec_l1Val.l0] at H
      by_cases c24 : x5_2 < (l1_1.length : Int)
      ·rw [if_pos c24] at H
       have c24b0 : decide (x5_2 < (l1_1.length : Int)) = true := decide_eq_true c24
       clear c24
       by_cases c25 : 0 ≤ x5_2
       ·rw [if_pos c25] at H
        have c25b0 : decide (0 ≤ x5_2) = true := decide_eq_true c25
        clear c25
        by_cases c26 : x5_2 < (l0_0.length : Int)
        ·rw [if_pos c26] at H
         have c26b0 : decide (x5_2 < (l0_0.length : Int)) = true := decide_eq_true c26
         clear c26
         obtain ⟨t751, A270, H⟩ := ob H
         have A27 := Aside0.mk A270
         clear A270
         by_cases c28 : t751 = true
         ·subst c28
          rw [if_pos rfl] at H
          have H' := Aside0.mk H
          clear H
          have hnb29 := NB746_745.out
          have hnc29 := NB745_746.out
          have hcz30_0 := zh BK746
          have hcz30_1 := zh1 BK746
          have hfz30_0 := zfr BK746 0
          have hfz30_1 := zfr BK746 1
          try go_wp2
          replace BK745 := Aside0.mk (blk_drew BK745.out)
          replace BK746 := Aside0.mk (blk_drew BK746.out)
          replace HB := Aside0.mk (below_drew1 HB.out)
          have p749 : 0 ≤ (x5_2 : Int) := of_decide_eq_true y19
          have q749 : x5_2 < (l0_0.length : Int) := of_decide_eq_true y19
          obtain ⟨ad749, A749_0, c749_0, e749, hx749_0, hl749_0, hi749_0⟩ := at_T30 HR0_0.out x5_2 p749 q749
          have hw749_0 := hx749_0
          cases e749
          replace hx749_0 := (HB.out.cell (World.block_lt_of_cell? w _ hx749_0)).trans hx749_0
          have HR749_0 := Aside0.mk hi749_0
          have HC749_0 := Aside0.mk hl749_0
          clear hi749_0 hl749_0
          replace p749 := eq_true p749
          replace q749 := eq_true q749
          have p750 : 0 ≤ (x5_2 : Int) := of_decide_eq_true y19
          have q750 : x5_2 < (l1_1.length : Int) := of_decide_eq_true y19
          obtain ⟨ad750, A750_1, c750_1, e750, hx750_0, hx750_1, hl750_1, hi750_1⟩ := at_T55 HR1_1.out x5_2 p750 q750
          have hw750_1 := hx750_1
          have hw750_0 := hx750_0
          cases e750
          replace hx750_0 := (HB.out.cell (World.block_lt_of_cell? w _ hx750_0)).trans hx750_0
          replace hx750_1 := (HB.out.cell (World.block_lt_of_cell? w _ hx750_1)).trans hx750_1
          have HR750_1 := Aside0.mk hi750_1
          have HC750_1 := Aside0.mk hl750_1
          clear hi750_1 hl750_1
          replace p750 := eq_true p750
          replace q750 := eq_true q750
          refine start_ (n := 12) (S := fun w' => w'.cell? ⟨gb745, 0, none⟩ = some (.slice (some ad749) l0_0.length c0_0) ∧ w'.cell? ⟨gb746, 0, none⟩ = some (.int .i64 a1_0) ∧ w'.cell? ⟨gb746, 1, none⟩ = some (.slice (some ad750) l1_1.length c1_1) ∧ w'.cell? (ad749.add (x5_2).toNat) = some (.slice A749_0 ((rd_T30 l0_0 x5_2).f0).length c749_0) ∧ w'.cell? (ad750.add ((x5_2).toNat * 2)) = some (.int .i64 ((rd_T55 l1_1 x5_2).f0)) ∧ w'.cell? ⟨(ad750.add ((x5_2).toNat * 2)).block, (ad750.add ((x5_2).toNat * 2)).off + 1, none⟩ = some (.slice A750_1 ((rd_T55 l1_1 x5_2).f1).length c750_1)) (ds := []) #[false, false, false, false, false, false, false, false, false, false, false, false] (by kernel_rfl) rfl rfl ⟨(blk_cell BK745.out 0).trans rfl, (blk_cell BK746.out 0).trans rfl, (blk_cell BK746.out 1).trans rfl, ((HB.out.cell (World.block_lt_of_cell? w _ hw749_0)).trans hw749_0), ((HB.out.cell (World.block_lt_of_cell? w _ hw750_0)).trans hw750_0), ((HB.out.cell (World.block_lt_of_cell? w _ hw750_1)).trans hw750_1)⟩ (fun hHeld => ?_); refine with_tabW spec_l1Val.tab6 spec_l1Val.bits6 (fun HT_ HW_ => ?_)
          generalize wr.drew = w31 at BK745 BK746 HB HR749_0 HR750_1 hx749_0 hx750_0 hx750_1 hHeld ⊢
          refine zp 0 (some 37) HT_ ?_
          refine zp 2 (some 39) HT_ ?_
          refine zp 5 (some 42) HT_ ?_
          refine zp 7 (some 44) HT_ ?_
          refine zt6 1 (some 38) HT_ HW_ hHeld ?_
          refine zp 3 (some 40) HT_ ?_
          refine zt6 4 (some 41) HT_ HW_ hHeld ?_
          refine zt6 6 (some 43) HT_ HW_ hHeld ?_
          refine zp 8 (some 45) HT_ ?_
          refine zt6 9 (some 46) HT_ HW_ hHeld ?_
          refine one_ (i := 10) (N := some 47) #[true, true, true, true, true, true, true, true, true, true, true, false] rfl rfl (one_of HT_.out (by kernel_rfl)) (by decide) (fun K hK => ?_)
          refine goes_ Try.func71 (by kernel_rfl) rfl #[.agg #[.slice A749_0 ((rd_T30 l0_0 x5_2).f0).length c749_0], .agg #[.int .i64 ((rd_T55 l1_1 x5_2).f0), .slice A750_1 ((rd_T55 l1_1 x5_2).f1).length c750_1]] (by rfl) rfl rfl y4 ?_
          with_reducible refine (ih k2 (y79 HJ2.out HK2.out) _ _ ((rd_T30 l0_0 x5_2).f0) ((rd_T55 l1_1 x5_2).f0) _ _ ((rd_T55 l1_1 x5_2).f1) true _ ?side1 ?side2 ?side3 ?side4 A27.out).mono ?_
          (case side1 => exact y8 HR749_0.out HB.out)
          (case side2 => exact HC749_0.out)
          (case side3 => exact y8 HR750_1.out HB.out)
          (case side4 => exact HC750_1.out)
          rintro e w32 ⟨rfl, hb⟩
          refine ⟨_, rfl, ?_⟩
          replace BK745 := zbb BK745 hb
          replace BK746 := zbb BK746 hb
          replace HB := Aside0.mk (below_step (y1 HB.out GE745.out GE746.out) hb)
          (try clear hb)
          (try clear hb2)
          (try clear hk)
          (try clear hi)
          refine hK.out _ _ ⟨(blk_cell BK745.out 0).trans rfl, (blk_cell BK746.out 0).trans rfl, (blk_cell BK746.out 1).trans rfl, ((HB.out.cell (World.block_lt_of_cell? w _ hw749_0)).trans hw749_0), ((HB.out.cell (World.block_lt_of_cell? w _ hw750_0)).trans hw750_0), ((HB.out.cell (World.block_lt_of_cell? w _ hw750_1)).trans hw750_1)⟩ (fun hHeld => ?_)
          clear hK K
          refine norm_ (a' := ?_) ?_ ?_
          rotate_left
          ·show Act.put _ (some 47) _ = _
           simp only [Act.put, List.setIfInBounds_toArray, List.set_cons_zero, List.set_cons_succ, i64_w, i32_w]
           rfl
          refine zp 11 (some 48) HT_ ?_
          refine done_ (done_of HT_.out (by kernel_rfl)) ?_
          try go_wp2
          go_roundg k2
          case measure => have := HJ2.out; have := HK2.out; omega
          case rel => exact ⟨(wrap64 (x5_2 + 1)), y26, H', ⟨(y79 HJ2.out HK2.out)⟩, ⟨(y0 BK745.out)⟩, ⟨(y0 BK746.out)⟩, ⟨(y1 HB.out GE745.out GE746.out)⟩⟩
         ·replace c28 := Bool.eq_false_iff.mpr c28
          subst c28
          rw [if_neg (show ¬ (false = true) by decide)] at H
          obtain rfl := Option.some.inj H
          have hnb33 := NB746_745.out
          have hnc33 := NB745_746.out
          have hcz34_0 := zh BK746
          have hcz34_1 := zh1 BK746
          have hfz34_0 := zfr BK746 0
          have hfz34_1 := zfr BK746 1
          try go_wp2
          replace BK745 := Aside0.mk (blk_drew BK745.out)
          replace BK746 := Aside0.mk (blk_drew BK746.out)
          replace HB := Aside0.mk (below_drew1 HB.out)
          have p749 : 0 ≤ (x5_2 : Int) := of_decide_eq_true y19
          have q749 : x5_2 < (l0_0.length : Int) := of_decide_eq_true y19
          obtain ⟨ad749, A749_0, c749_0, e749, hx749_0, hl749_0, hi749_0⟩ := at_T30 HR0_0.out x5_2 p749 q749
          have hw749_0 := hx749_0
          cases e749
          replace hx749_0 := (HB.out.cell (World.block_lt_of_cell? w _ hx749_0)).trans hx749_0
          have HR749_0 := Aside0.mk hi749_0
          have HC749_0 := Aside0.mk hl749_0
          clear hi749_0 hl749_0
          replace p749 := eq_true p749
          replace q749 := eq_true q749
          have p750 : 0 ≤ (x5_2 : Int) := of_decide_eq_true y19
          have q750 : x5_2 < (l1_1.length : Int) := of_decide_eq_true y19
          obtain ⟨ad750, A750_1, c750_1, e750, hx750_0, hx750_1, hl750_1, hi750_1⟩ := at_T55 HR1_1.out x5_2 p750 q750
          have hw750_1 := hx750_1
          have hw750_0 := hx750_0
          cases e750
          replace hx750_0 := (HB.out.cell (World.block_lt_of_cell? w _ hx750_0)).trans hx750_0
          replace hx750_1 := (HB.out.cell (World.block_lt_of_cell? w _ hx750_1)).trans hx750_1
          have HR750_1 := Aside0.mk hi750_1
          have HC750_1 := Aside0.mk hl750_1
          clear hi750_1 hl750_1
          replace p750 := eq_true p750
          replace q750 := eq_true q750
          refine start_ (n := 12) (S := fun w' => w'.cell? ⟨gb745, 0, none⟩ = some (.slice (some ad749) l0_0.length c0_0) ∧ w'.cell? ⟨gb746, 0, none⟩ = some (.int .i64 a1_0) ∧ w'.cell? ⟨gb746, 1, none⟩ = some (.slice (some ad750) l1_1.length c1_1) ∧ w'.cell? (ad749.add (x5_2).toNat) = some (.slice A749_0 ((rd_T30 l0_0 x5_2).f0).length c749_0) ∧ w'.cell? (ad750.add ((x5_2).toNat * 2)) = some (.int .i64 ((rd_T55 l1_1 x5_2).f0)) ∧ w'.cell? ⟨(ad750.add ((x5_2).toNat * 2)).block, (ad750.add ((x5_2).toNat * 2)).off + 1, none⟩ = some (.slice A750_1 ((rd_T55 l1_1 x5_2).f1).length c750_1)) (ds := []) #[false, false, false, false, false, false, false, false, false, false, false, false] (by kernel_rfl) rfl rfl ⟨(blk_cell BK745.out 0).trans rfl, (blk_cell BK746.out 0).trans rfl, (blk_cell BK746.out 1).trans rfl, ((HB.out.cell (World.block_lt_of_cell? w _ hw749_0)).trans hw749_0), ((HB.out.cell (World.block_lt_of_cell? w _ hw750_0)).trans hw750_0), ((HB.out.cell (World.block_lt_of_cell? w _ hw750_1)).trans hw750_1)⟩ (fun hHeld => ?_); refine with_tabW spec_l1Val.tab6 spec_l1Val.bits6 (fun HT_ HW_ => ?_)
          generalize wr.drew = w35 at BK745 BK746 HB HR749_0 HR750_1 hx749_0 hx750_0 hx750_1 hHeld ⊢
          refine zp 0 (some 37) HT_ ?_
          refine zp 2 (some 39) HT_ ?_
          refine zp 5 (some 42) HT_ ?_
          refine zp 7 (some 44) HT_ ?_
          refine zt6 1 (some 38) HT_ HW_ hHeld ?_
          refine zp 3 (some 40) HT_ ?_
          refine zt6 4 (some 41) HT_ HW_ hHeld ?_
          refine zt6 6 (some 43) HT_ HW_ hHeld ?_
          refine zp 8 (some 45) HT_ ?_
          refine zt6 9 (some 46) HT_ HW_ hHeld ?_
          refine one_ (i := 10) (N := some 47) #[true, true, true, true, true, true, true, true, true, true, true, false] rfl rfl (one_of HT_.out (by kernel_rfl)) (by decide) (fun K hK => ?_)
          refine goes_ Try.func71 (by kernel_rfl) rfl #[.agg #[.slice A749_0 ((rd_T30 l0_0 x5_2).f0).length c749_0], .agg #[.int .i64 ((rd_T55 l1_1 x5_2).f0), .slice A750_1 ((rd_T55 l1_1 x5_2).f1).length c750_1]] (by rfl) rfl rfl y4 ?_
          with_reducible refine (ih k2 (y79 HJ2.out HK2.out) _ _ ((rd_T30 l0_0 x5_2).f0) ((rd_T55 l1_1 x5_2).f0) _ _ ((rd_T55 l1_1 x5_2).f1) false _ ?side1 ?side2 ?side3 ?side4 A27.out).mono ?_
          (case side1 => exact y8 HR749_0.out HB.out)
          (case side2 => exact HC749_0.out)
          (case side3 => exact y8 HR750_1.out HB.out)
          (case side4 => exact HC750_1.out)
          rintro e w36 ⟨rfl, hb⟩
          refine ⟨_, rfl, ?_⟩
          replace BK745 := zbb BK745 hb
          replace BK746 := zbb BK746 hb
          replace HB := Aside0.mk (below_step (y1 HB.out GE745.out GE746.out) hb)
          (try clear hb)
          (try clear hb2)
          (try clear hk)
          (try clear hi)
          refine hK.out _ _ ⟨(blk_cell BK745.out 0).trans rfl, (blk_cell BK746.out 0).trans rfl, (blk_cell BK746.out 1).trans rfl, ((HB.out.cell (World.block_lt_of_cell? w _ hw749_0)).trans hw749_0), ((HB.out.cell (World.block_lt_of_cell? w _ hw750_0)).trans hw750_0), ((HB.out.cell (World.block_lt_of_cell? w _ hw750_1)).trans hw750_1)⟩ (fun hHeld => ?_)
          clear hK K
          refine norm_ (a' := ?_) ?_ ?_
          rotate_left
          ·show Act.put _ (some 47) _ = _
           simp only [Act.put, List.setIfInBounds_toArray, List.set_cons_zero, List.set_cons_succ, i64_w, i32_w]
           rfl
          refine zp 11 (some 48) HT_ ?_
          refine done_ (done_of HT_.out (by kernel_rfl)) ?_
          try go_wp2
          go_ret
          exact ⟨y14, (y1 HB.out GE745.out GE746.out)⟩
        ·rw [if_neg c26] at H
         exact absurd H (by simp)
       ·rw [if_neg c25] at H
        exact absurd H (by simp)
      ·rw [if_neg c24] at H
       have c24b0 : decide (x5_2 < (l1_1.length : Int)) = false := decide_eq_false c24
       clear c24
       obtain rfl := Option.some.inj H
       have hnb37 := NB746_745.out
       have hnc37 := NB745_746.out
       have hcz38_0 := zh BK746
       have hcz38_1 := zh1 BK746
       have hfz38_0 := zfr BK746 0
       have hfz38_1 := zfr BK746 1
       go_wp2
       go_ret
       exact ⟨y14, (y1 HB.out GE745.out GE746.out)⟩
end Go.Proofs.Ytjhbhihfifhljaa.PA
end
section
namespace Go.Proofs.Ytjhbhihfifhljaa.PA
open Go.RowKit Go.Proofs.YtjhbhihfifhljaaW.PrintWords Go.Proofs.YtjhbhihfifhljaaW.PrintLast Go.Proofs.YtjhbhihfifhljaaW.PrintMore
attribute [local go_sem] max2_int min2_int max_two min_two max_three min_three max_four min_four
set_option linter.unusedVariables false
set_option linter.unusedSimpArgs false
def spec_ValOk.f (k : Nat) (l0_0 : List (S30)) (a1_0 : Int) (l1_1 : List (S55)) : Option (Bool) := (spec_TypeOk.f k l0_0).bind fun t754 => (if t754 = true then ((spec_l1Val.f k l0_0 a1_0 l1_1).bind fun t755 => (some t755)) else (some false))
theorem spec_ValOk.mono : ∀ a0 a1 a2 k, LeO (spec_ValOk.f k a0 a1 a2) (spec_ValOk.f (k + 1) a0 a1 a2) := by
 intro a0 a1 a2 k
 unfold spec_ValOk.f
 repeat' first
   | (with_reducible exact spec_TypeOk.mono _ _)
   | (with_reducible exact spec_l1Val.mono _ _ _ _)
   | (with_reducible exact LeO.refl _)
   | (with_reducible exact LeO.none _)
   | (with_reducible refine LeO.ite ?_ ?_)
   | (with_reducible refine LeO.bind ?_ (fun _ => ?_))
   | exact spec_TypeOk.mono _ _
   | exact spec_l1Val.mono _ _ _ _
   | exact LeO.none _
   | refine LeO.ite ?_ ?_
   | refine LeO.bind ?_ (fun _ => ?_)
set_option maxHeartbeats 8000000 in
set_option maxRecDepth 100000 in
theorem spec_ValOk.calls (k : Nat) (A0_0 : Option Addr) (c0_0 : Nat) (l0_0 : List (S30)) (a1_0 : Int) (A1_1 : Option Addr) (c1_1 : Nat) (l1_1 : List (S55)) (r : Bool) (w : World) (hr0_0 : Kd.C k30 w A0_0 l0_0.length l0_0) (hc0_0 : l0_0.length ≤ c0_0) (hr1_1 : Kd.C k55 w A1_1 l1_1.length l1_1) (hc1_1 : l1_1.length ≤ c1_1) (h : spec_ValOk.f k l0_0 a1_0 l1_1 = some r) :
  Calls Try.prog 36 #[.agg #[.slice A0_0 l0_0.length c0_0], .agg #[.int .i64 a1_0, .slice A1_1 l1_1.length c1_1]] w fun e w' => e = .returned (.bool r) ∧ Below w.heap.size w w' := by
 have hu30 := Try.underlying30
 have hu55 := Try.underlying55
 have HR0_0 := Aside0.mk hr0_0
 have HC0_0 := Aside0.mk hc0_0
 clear hr0_0 hc0_0
 have HR1_1 := Aside0.mk hr1_1
 have HC1_1 := Aside0.mk hc1_1
 clear hr1_1 hc1_1
 have HB := Aside0.mk (Below.refl w.heap.size w)
 have H : ((spec_TypeOk.f k l0_0).bind fun t754 => (if t754 = true then ((spec_l1Val.f k l0_0 a1_0 l1_1).bind fun t755 => (some t755)) else (some false))) = some r := h
 clear h
 obtain ⟨t754, A30, H⟩ := ob H
 have A3 := Aside0.mk A30
 clear A30
 by_cases c4 : t754 = true
 ·subst c4
  rw [if_pos rfl] at H
  obtain ⟨t755, A50, H⟩ := ob H
  have A5 := Aside0.mk A50
  clear A50
  obtain rfl := Option.some.inj H
  go_enter Try.func36, Try.ntmps36
  go_wp2_with (first | ((with_reducible refine gate_dst (N := 2) rfl ?_); refine zbx 2 #[.slice A0_0 l0_0.length c0_0] 30 ?_; intro gb752 hg w6 hbox hb; have BK752 := Aside0.mk hbox; have GW752 := Aside0.mk ((y5 hg HB.out : w.heap.size ≤ gb752)); have GE752 := Aside0.mk ((y5 hg HB.out : w.heap.size ≤ gb752)); replace HB := Aside0.mk (below_step (y2 HB.out) hb); clear hb hbox hg) | ((with_reducible refine gate_dst (N := 3) rfl ?_); refine zbx 3 #[.int .i64 a1_0, .slice A1_1 l1_1.length c1_1] 55 ?_; intro gb753 hg w7 hbox hb; have BK753 := Aside0.mk hbox; have GW753 := Aside0.mk ((y6 hg HB.out GE752.out : w.heap.size ≤ gb753)); have GE753 := Aside0.mk ((y6 hg HB.out GE752.out : w.heap.size ≤ gb753)); replace HB := Aside0.mk (below_step (y3 HB.out GE752.out) hb); have NB752_753 := zltn hg BK752; have NB753_752 := zgtn hg BK752; replace BK752 := zbb BK752 hb; clear hb hbox hg; have hnb8 := NB752_753.out; have hnc8 := NB753_752.out; have hcz9_0 := zh BK752; have hfz9_0 := zfr BK752 0) | ((with_reducible refine gate_callee (f := 16) rfl ?_); refine goesL_ (some 6) rfl rfl Try.func16 (by kernel_rfl) rfl #[.agg #[.slice A0_0 l0_0.length c0_0]] rfl y4 ?_; (with_reducible refine (spec_TypeOk.calls k _ _ l0_0 true _ ?side1 ?side2 A3.out).mono ?_); (case side1 => exact y8 HR0_0.out HB.out); (case side2 => exact HC0_0.out); rintro e w10 ⟨rfl, hb⟩; refine ⟨_, rfl, ?_⟩; replace BK752 := zbb BK752 hb; replace BK753 := zbb BK753 hb; replace HB := Aside0.mk (below_step (y1 HB.out GE752.out GE753.out) hb); (try clear hb); (try clear hb2); (try clear hk); (try clear hi); have hcz11_0 := zh BK752; have hfz11_0 := zfr BK752 0; have hcz12_0 := zh BK753; have hcz12_1 := zh1 BK753; have hfz12_0 := zfr BK753 0; have hfz12_1 := zfr BK753 1) | (go_at_call 71; (with_reducible refine (spec_l1Val.calls k _ _ l0_0 a1_0 _ _ l1_1 t755 _ ?side1 ?side2 ?side3 ?side4 A5.out).mono ?_); (case side1 => exact y8 HR0_0.out HB.out); (case side2 => exact HC0_0.out); (case side3 => exact y8 HR1_1.out HB.out); (case side4 => exact HC1_1.out); rintro e w13 ⟨rfl, hb⟩; replace BK752 := zbb BK752 hb; replace BK753 := zbb BK753 hb; replace HB := Aside0.mk (below_step (y1 HB.out GE752.out GE753.out) hb); (try clear hb); (try clear hb2); (try clear hk); (try clear hi)))
  go_ret
  exact ⟨y14, (y1 HB.out GE752.out GE753.out)⟩
 ·replace c4 := Bool.eq_false_iff.mpr c4
  subst c4
  rw [if_neg (show ¬ (false = true) by decide)] at H
  obtain rfl := Option.some.inj H
  go_enter Try.func36, Try.ntmps36
  go_wp2_with (first | ((with_reducible refine gate_dst (N := 2) rfl ?_); refine zbx 2 #[.slice A0_0 l0_0.length c0_0] 30 ?_; intro gb752 hg w14 hbox hb; have BK752 := Aside0.mk hbox; have GW752 := Aside0.mk ((y5 hg HB.out : w.heap.size ≤ gb752)); have GE752 := Aside0.mk ((y5 hg HB.out : w.heap.size ≤ gb752)); replace HB := Aside0.mk (below_step (y2 HB.out) hb); clear hb hbox hg) | ((with_reducible refine gate_dst (N := 3) rfl ?_); refine zbx 3 #[.int .i64 a1_0, .slice A1_1 l1_1.length c1_1] 55 ?_; intro gb753 hg w15 hbox hb; have BK753 := Aside0.mk hbox; have GW753 := Aside0.mk ((y6 hg HB.out GE752.out : w.heap.size ≤ gb753)); have GE753 := Aside0.mk ((y6 hg HB.out GE752.out : w.heap.size ≤ gb753)); replace HB := Aside0.mk (below_step (y3 HB.out GE752.out) hb); have NB752_753 := zltn hg BK752; have NB753_752 := zgtn hg BK752; replace BK752 := zbb BK752 hb; clear hb hbox hg; have hnb16 := NB752_753.out; have hnc16 := NB753_752.out; have hcz17_0 := zh BK752; have hfz17_0 := zfr BK752 0) | ((with_reducible refine gate_callee (f := 16) rfl ?_); refine goesL_ (some 6) rfl rfl Try.func16 (by kernel_rfl) rfl #[.agg #[.slice A0_0 l0_0.length c0_0]] rfl y4 ?_; (with_reducible refine (spec_TypeOk.calls k _ _ l0_0 false _ ?side1 ?side2 A3.out).mono ?_); (case side1 => exact y8 HR0_0.out HB.out); (case side2 => exact HC0_0.out); rintro e w18 ⟨rfl, hb⟩; refine ⟨_, rfl, ?_⟩; replace BK752 := zbb BK752 hb; replace BK753 := zbb BK753 hb; replace HB := Aside0.mk (below_step (y1 HB.out GE752.out GE753.out) hb); (try clear hb); (try clear hb2); (try clear hk); (try clear hi)))
  go_ret
  exact ⟨y14, (y1 HB.out GE752.out GE753.out)⟩
end Go.Proofs.Ytjhbhihfifhljaa.PA
end
section
namespace Go.Proofs.Ytjhbhihfifhljaa.PA
open Go.RowKit Go.Proofs.YtjhbhihfifhljaaW.PrintWords Go.Proofs.YtjhbhihfifhljaaW.PrintLast Go.Proofs.YtjhbhihfifhljaaW.PrintMore
attribute [local go_sem] max2_int min2_int max_two min_two max_three min_three max_four min_four
set_option linter.unusedVariables false
set_option linter.unusedSimpArgs false
mutual
def laws_FnValOk.j0 : Nat → List Int → List Int → Bool → Option (Bool)
 | 0, _, _, _ => none
 | k + 1, x0, x1, x16 => if x16 = true then (some true) else ((spec_DrawValOk.f k x0).bind fun bt756 => ((spec_DrawTypeOk.f k x1).bind fun t765 => ((impl_ValOk.f k bt756.1 bt756.2.1 bt756.2.2).bind fun t769 => ((spec_ValOk.f k bt756.1 bt756.2.1 bt756.2.2).bind fun t770 => (if (t769 != t770) = true then (laws_FnValOk.j1 k t769 true bt756.1 bt756.2.1 bt756.2.2 t765) else (laws_FnValOk.j1 k t769 (!t769) bt756.1 bt756.2.1 bt756.2.2 t765))))))
def laws_FnValOk.j1 : Nat → Bool → Bool → List (S30) → Int → List (S55) → List (S30) → Option (Bool)
 | 0, _, _, _, _, _, _ => none
 | k + 1, x8, x35, x764000, x765000, x765001, x769000 => if x35 = true then ((spec_ValOk.f k x764000 x765000 x765001).bind fun t771 => (some (x8 == t771))) else ((impl_ValOk.f k x769000 x765000 x765001).bind fun t772 => ((impl_TypeOk.f k x769000).bind fun t773 => (if t773 = true then ((impl_TypeText.f k x769000).bind fun t774 => ((impl_TypeText.f k x764000).bind fun t775 => (some (t772 == (t774.toList == t775.toList))))) else (some (t772 == false)))))
end
def laws_FnValOk.f (k : Nat) (l0 : List Int) (l1 : List Int) : Option (Bool) := if (l0.length : Int) > 1048576 then (laws_FnValOk.j0 k l0 l1 true) else (laws_FnValOk.j0 k l0 l1 (decide ((l1.length : Int) > 1048576)))
theorem laws_FnValOk.mono_l : ∀ k, (∀ y0 y1 y2, LeO (laws_FnValOk.j0 k y0 y1 y2) (laws_FnValOk.j0 (k + 1) y0 y1 y2)) ∧ (∀ y0 y1 y2 y3 y4 y5, LeO (laws_FnValOk.j1 k y0 y1 y2 y3 y4 y5) (laws_FnValOk.j1 (k + 1) y0 y1 y2 y3 y4 y5))
 | 0 => ⟨fun _ _ _ r h => by simp [laws_FnValOk.j0] at h, fun _ _ _ _ _ _ r h => by simp [laws_FnValOk.j1] at h⟩
 | k + 1 => by
  obtain ⟨ih0, ih1⟩ := laws_FnValOk.mono_l k
  refine ⟨?_, ?_⟩
  ·intro y0 y1 y2
   unfold laws_FnValOk.j0
   repeat' first
   | (with_reducible exact ih0 _ _ _)
   | (with_reducible exact ih1 _ _ _ _ _ _)
   | (with_reducible exact impl_TypeOk.mono _ _)
   | (with_reducible exact impl_TypeText.mono _ _)
   | (with_reducible exact impl_ValOk.mono _ _ _ _)
   | (with_reducible exact spec_DrawTypeOk.mono _ _)
   | (with_reducible exact spec_DrawValOk.mono _ _)
   | (with_reducible exact spec_ValOk.mono _ _ _ _)
   | (with_reducible exact LeO.refl _)
   | (with_reducible exact LeO.none _)
   | (with_reducible refine LeO.ite ?_ ?_)
   | (with_reducible refine LeO.bind ?_ (fun _ => ?_))
   | exact ih0 _ _ _
   | exact ih1 _ _ _ _ _ _
   | exact impl_TypeOk.mono _ _
   | exact impl_TypeText.mono _ _
   | exact impl_ValOk.mono _ _ _ _
   | exact spec_DrawTypeOk.mono _ _
   | exact spec_DrawValOk.mono _ _
   | exact spec_ValOk.mono _ _ _ _
   | exact LeO.none _
   | refine LeO.ite ?_ ?_
   | refine LeO.bind ?_ (fun _ => ?_)
  ·intro y0 y1 y2 y3 y4 y5
   unfold laws_FnValOk.j1
   repeat' first
   | (with_reducible exact ih0 _ _ _)
   | (with_reducible exact ih1 _ _ _ _ _ _)
   | (with_reducible exact impl_TypeOk.mono _ _)
   | (with_reducible exact impl_TypeText.mono _ _)
   | (with_reducible exact impl_ValOk.mono _ _ _ _)
   | (with_reducible exact spec_DrawTypeOk.mono _ _)
   | (with_reducible exact spec_DrawValOk.mono _ _)
   | (with_reducible exact spec_ValOk.mono _ _ _ _)
   | (with_reducible exact LeO.refl _)
   | (with_reducible exact LeO.none _)
   | (with_reducible refine LeO.ite ?_ ?_)
   | (with_reducible refine LeO.bind ?_ (fun _ => ?_))
   | exact ih0 _ _ _
   | exact ih1 _ _ _ _ _ _
   | exact impl_TypeOk.mono _ _
   | exact impl_TypeText.mono _ _
   | exact impl_ValOk.mono _ _ _ _
   | exact spec_DrawTypeOk.mono _ _
   | exact spec_DrawValOk.mono _ _
   | exact spec_ValOk.mono _ _ _ _
   | exact LeO.none _
   | refine LeO.ite ?_ ?_
   | refine LeO.bind ?_ (fun _ => ?_)
theorem laws_FnValOk.mono : ∀ a0 a1 k, LeO (laws_FnValOk.f k a0 a1) (laws_FnValOk.f (k + 1) a0 a1) := by
 intro a0 a1 k
 obtain ⟨ih0, ih1⟩ := laws_FnValOk.mono_l k
 unfold laws_FnValOk.f
 repeat' first
   | (with_reducible exact ih0 _ _ _)
   | (with_reducible exact ih1 _ _ _ _ _ _)
   | (with_reducible exact impl_TypeOk.mono _ _)
   | (with_reducible exact impl_TypeText.mono _ _)
   | (with_reducible exact impl_ValOk.mono _ _ _ _)
   | (with_reducible exact spec_DrawTypeOk.mono _ _)
   | (with_reducible exact spec_DrawValOk.mono _ _)
   | (with_reducible exact spec_ValOk.mono _ _ _ _)
   | (with_reducible exact LeO.refl _)
   | (with_reducible exact LeO.none _)
   | (with_reducible refine LeO.ite ?_ ?_)
   | (with_reducible refine LeO.bind ?_ (fun _ => ?_))
   | exact ih0 _ _ _
   | exact ih1 _ _ _ _ _ _
   | exact impl_TypeOk.mono _ _
   | exact impl_TypeText.mono _ _
   | exact impl_ValOk.mono _ _ _ _
   | exact spec_DrawTypeOk.mono _ _
   | exact spec_DrawValOk.mono _ _
   | exact spec_ValOk.mono _ _ _ _
   | exact LeO.none _
   | refine LeO.ite ?_ ?_
   | refine LeO.bind ?_ (fun _ => ?_)
def laws_FnValOk.T8 : Bool × List (List Nat × List Nat) := (true, [([], []), ([], []), ([0, 1], [0, 1]), ([], []), ([3, 2], [3]), ([4, 4], [4]), ([5], [5]), ([6, 5, 5], [5, 6]), ([5], [5]), ([8, 7, 5], [5, 8]), ([7, 9, 5], [5, 7, 9]), ([5, 10], [5, 10]), ([2, 11], [2, 11]), ([12, 9, 0, 1, 2, 3, 4, 5, 6, 7, 8, 9, 10, 11, 12], [12])])
def laws_FnValOk.B8 : List Nat := [0, 0, 3, 0, 15, 31, 63, 127, 63, 511, 1023, 2047, 4095, 8191]
theorem laws_FnValOk.tab8 : rtab .any (opsOf Try.f11 8) = laws_FnValOk.T8 := by kernel_rfl
theorem laws_FnValOk.bits8 : waitsOk laws_FnValOk.T8.2 laws_FnValOk.B8 = true := by kernel_rfl
set_option maxHeartbeats 8000000 in
set_option maxRecDepth 100000 in
theorem laws_FnValOk.calls (k : Nat) (A0 : Option Addr) (c0 : Nat) (l0 : List Int) (A1 : Option Addr) (c1 : Nat) (l1 : List Int) (r : Bool) (w : World) (hr0 : Kd.C (Kd.int .u8) w A0 l0.length l0) (hc0 : l0.length ≤ c0) (hr1 : Kd.C (Kd.int .u8) w A1 l1.length l1) (hc1 : l1.length ≤ c1) (h : laws_FnValOk.f k l0 l1 = some r) (hr_ : Aside0 (r = true)) :
  Calls Try.prog 11 #[.slice A0 l0.length c0, .slice A1 l1.length c1] w fun e w' => e = .returned (.bool r) ∧ Below w.heap.size w w' := by
 have hu30 := Try.underlying30
 have hu55 := Try.underlying55
 have HR0 := Aside0.mk hr0
 have HC0 := Aside0.mk hc0
 clear hr0 hc0
 have HR1 := Aside0.mk hr1
 have HC1 := Aside0.mk hc1
 clear hr1 hc1
 have HB := Aside0.mk (Below.refl w.heap.size w)
 have H : (if (l0.length : Int) > 1048576 then (laws_FnValOk.j0 k l0 l1 true) else (laws_FnValOk.j0 k l0 l1 (decide ((l1.length : Int) > 1048576)))) = some r := h
 clear h
 have HC3 := Aside0.mk H
 clear H
 go_enter Try.func11, Try.ntmps11
 go_upto_region 1 with (fail)
 go_cut [16] (fun v16 wc => ∃ (kq : Nat) (x16_2 : Bool), v16 = .bool x16_2 ∧ Aside0 (laws_FnValOk.j0 kq l0 l1 x16_2 = some r) ∧ Aside0 (kq ≤ k) ∧ Aside0 (Below w.heap.size w wc))
 case first =>
  have H := HC3.out
  clear HC3
  by_cases c4 : (l0.length : Int) > 1048576
  ·rw [if_pos c4] at H
   have c4b0 : decide (1048576 < (l0.length : Int)) = true := decide_eq_true c4
   have c4b1 : decide (1048576 < l0.length) = true := decide_eq_true (by omega)
   clear c4
   (first | rw [c4b0] | (simp only [i64_w, i32_w]; rw [c4b0]) | skip)
   have H' := Aside0.mk H
   clear H
   go_wp2
   go_meet
   case rel => exact ⟨_, (true), y26, H', ⟨y43⟩, ⟨(y2 HB.out)⟩⟩
  ·rw [if_neg c4] at H
   have c4b0 : decide (1048576 < (l0.length : Int)) = false := decide_eq_false c4
   have c4b1 : decide (1048576 < l0.length) = false := decide_eq_false (by omega)
   clear c4
   (first | rw [c4b0] | (simp only [i64_w, i32_w]; rw [c4b0]) | skip)
   have H' := Aside0.mk H
   clear H
   go_wp2
   go_meet
   case rel => exact ⟨_, (decide ((l1.length : Int) > 1048576)), y26, H', ⟨y43⟩, ⟨(y2 HB.out)⟩⟩
 case rest =>
  clear HC3
  try clear c1
  try clear p2
  try clear c4
  try clear c4b0
  try clear c4b1
  obtain ⟨kq, x16_2, rfl, HA, HJ2, HB⟩ := hcut
  cases kq with
  | zero => exact absurd HA.out (by simp [laws_FnValOk.j0])
  | succ kj2 =>
   have H := HA.out
   clear HA
   simp only [laws_FnValOk.j0] at H
   by_cases c5 : x16_2 = true
   ·subst c5
    rw [if_pos rfl] at H
    clear hr_
    obtain rfl := Option.some.inj H
    go_wp2
    go_ret
    exact ⟨y14, (y2 HB.out)⟩
   ·replace c5 := Bool.eq_false_iff.mpr c5
    subst c5
    rw [if_neg (show ¬ (false = true) by decide)] at H
    obtain ⟨⟨t756, t759, t760⟩, A60, H⟩ := ob H
    have A6 := Aside0.mk A60
    clear A60
    obtain ⟨t765, A70, H⟩ := ob H
    have A7 := Aside0.mk A70
    clear A70
    obtain ⟨t769, A80, H⟩ := ob H
    have A8 := Aside0.mk A80
    clear A80
    have HC9 := Aside0.mk H
    clear H
    go_upto_region 6 with (first | ((with_reducible refine gate_callee (f := 34) rfl ?_); refine goesL_ (some 19) rfl rfl Try.func34 (by kernel_rfl) rfl #[.slice A0 l0.length c0] rfl y4 ?_; (with_reducible refine (spec_DrawValOk.calls kj2 _ _ l0 t756 t759 t760 _ ?side1 ?side2 A6.out).mono ?_); (case side1 => exact y8 HR0.out HB.out); (case side2 => exact HC0.out); rintro e w10 ⟨v757, v761, rfl, ho0, ho1, hb⟩; refine ⟨_, rfl, ?_⟩; have HO758 := Aside0.mk (Kd.V_lower (Kd.V_mono (ok' := fun k_ => True) ho0 (fun k_ hk_ => trivial)) (below_size (y2 HB.out))); have HO762 := Aside0.mk (Kd.V_lower (Kd.V_mono (ok' := fun k_ => True) ho1 (fun k_ hk_ => trivial)) (below_size (y2 HB.out))); replace HB := Aside0.mk (below_step (y2 HB.out) hb); (try clear hb); (try clear hb2); (try clear hk); (try clear hi); (try clear ho0); (try clear ho1)) | ((with_reducible refine gate_dst (N := 5) rfl ?_); (try (refine gate_guard (by rfl) ?_; dsimp only)); refine zbx 5 #[.slice none 0 0] 30 ?_; intro gb763 hg w11 hbox hb; replace HO758 := Aside0.mk (Kd.V_below (Kd.V_elderB (y13 HO758.out) gb763 (Nat.le_of_eq hg.symm)) hb); replace HO762 := Aside0.mk (Kd.V_below (Kd.V_elderB (y13 HO762.out) gb763 (Nat.le_of_eq hg.symm)) hb); have BK763 := Aside0.mk hbox; have GW763 := Aside0.mk ((y5 hg HB.out : w.heap.size ≤ gb763)); have GE763 := Aside0.mk ((y5 hg HB.out : w.heap.size ≤ gb763)); replace HB := Aside0.mk (below_step (y2 HB.out) hb); clear hb hbox hg) | ((with_reducible refine gate_dst (N := 6) rfl ?_); (try (refine gate_guard (by rfl) ?_; dsimp only)); refine zbx 6 #[.int .i64 0, .slice none 0 0] 55 ?_; intro gb764 hg w12 hbox hb; replace HO758 := Aside0.mk (Kd.V_below (Kd.V_elderB (y13 HO758.out) gb764 (Nat.le_of_eq hg.symm)) hb); replace HO762 := Aside0.mk (Kd.V_below (Kd.V_elderB (y13 HO762.out) gb764 (Nat.le_of_eq hg.symm)) hb); have BK764 := Aside0.mk hbox; have GW764 := Aside0.mk ((y6 hg HB.out GE763.out : w.heap.size ≤ gb764)); have GE764 := Aside0.mk ((y6 hg HB.out GE763.out : w.heap.size ≤ gb764)); replace HB := Aside0.mk (below_step (y3 HB.out GE763.out) hb); have NB763_764 := zltn hg BK763; have NB764_763 := zgtn hg BK763; replace BK763 := zbb BK763 hb; clear hb hbox hg; obtain ⟨Ao13, co13, eo13⟩ := Kd.V_slice HO758.out; subst eo13; have hnb14 := NB763_764.out; have hnc14 := NB764_763.out; have hcz15_0 := zh BK763; have hfz15_0 := zfr BK763 0; have hcz16_0 := zh BK764; have hcz16_1 := zh1 BK764; have hfz16_0 := zfr BK764 0; have hfz16_1 := zfr BK764 1; obtain ⟨Ao17, co17, eo17⟩ := Kd.V_slice HO762.out; subst eo17) | ((with_reducible refine gate_callee (f := 20) rfl ?_); refine goesL_ (some 23) rfl rfl Try.func20 (by kernel_rfl) rfl #[.slice A1 l1.length c1] rfl y4 ?_; (with_reducible refine (spec_DrawTypeOk.calls kj2 _ _ l1 t765 _ ?side1 ?side2 A7.out).mono ?_); (case side1 => exact y69 HR1.out HB.out GE763.out GE764.out); (case side2 => exact HC1.out); rintro e w18 ⟨v766, rfl, ho0, hb⟩; refine ⟨_, rfl, ?_⟩; replace HO758 := Aside0.mk (Kd.V_elder' (by (with_reducible repeat (first | apply Kd.V_alloc | apply Kd.V_drewN | apply Kd.V_drew)); exact (Kd.V_mono (Kd.V_mono (Kd.V_far (p := ⟨gb764, 1, none⟩) (Kd.V_far (p := ⟨gb764, 0, none⟩) (Kd.V_far (p := ⟨gb763, 0, none⟩) (Kd.V_mono (Kd.V_mono HO758.out (fun k_ hk => (⟨hk, hk.1.2⟩ : _ ∧ k_ ≠ gb763))) (fun k_ hk => (⟨hk, hk.1.2⟩ : _ ∧ k_ ≠ gb764))) (fun _ hk => hk.1.2) (.slice Ao13 t756.length co13)) (fun _ hk => hk.2) (.int .i64 t759)) (fun _ hk => hk.2) (.slice Ao17 t760.length co17)) (fun _ h_ => h_.1)) (fun _ h_ => h_.1))) (Kd.N_base ho0) hb); replace HO762 := Aside0.mk (Kd.V_elder' (by (with_reducible repeat (first | apply Kd.V_alloc | apply Kd.V_drewN | apply Kd.V_drew)); exact (Kd.V_mono (Kd.V_mono (Kd.V_far (p := ⟨gb764, 1, none⟩) (Kd.V_far (p := ⟨gb764, 0, none⟩) (Kd.V_far (p := ⟨gb763, 0, none⟩) (Kd.V_mono (Kd.V_mono HO762.out (fun k_ hk => (⟨hk, hk.1.2⟩ : _ ∧ k_ ≠ gb763))) (fun k_ hk => (⟨hk, hk.1.2⟩ : _ ∧ k_ ≠ gb764))) (fun _ hk => hk.1.2) (.slice Ao13 t756.length co13)) (fun _ hk => hk.2) (.int .i64 t759)) (fun _ hk => hk.2) (.slice Ao17 t760.length co17)) (fun _ h_ => h_.1)) (fun _ h_ => h_.1))) (Kd.N_base ho0) hb); have HO767 := Aside0.mk (Kd.N_lower (Kd.N_mono (ok' := fun k_ => k_ ≠ gb763 ∧ k_ ≠ gb764) ho0 (fun k_ hk_ => ⟨(Kd.freshB (g := gb763) (o := .cells #[.slice Ao13 t756.length co13] 30 (0, 0)) (by (with_reducible repeat (first | refine blk_drewN ?_ _ | refine blk_drew ?_ | refine blk_alloc ?_ _)); refine blk_far ?_ NB763_764.out _; (with_reducible repeat (first | refine blk_drewN ?_ _ | refine blk_drew ?_ | refine blk_alloc ?_ _)); refine blk_far ?_ NB763_764.out _; (with_reducible repeat (first | refine blk_drewN ?_ _ | refine blk_drew ?_ | refine blk_alloc ?_ _)); apply blk_put (i := 0); (case h => exact y0 BK763.out); (case e => rfl)) k_ hk_), (Kd.freshB (g := gb764) (o := .cells #[.int .i64 t759, .slice Ao17 t760.length co17] 55 (0, 0)) (by (with_reducible repeat (first | refine blk_drewN ?_ _ | refine blk_drew ?_ | refine blk_alloc ?_ _)); refine blk_put (cs := #[.int .i64 t759, .slice none 0 0]) ?_ 1 _ rfl; (with_reducible repeat (first | refine blk_drewN ?_ _ | refine blk_drew ?_ | refine blk_alloc ?_ _)); refine blk_put (cs := #[.int .i64 0, .slice none 0 0]) ?_ 0 _ rfl; (with_reducible repeat (first | refine blk_drewN ?_ _ | refine blk_drew ?_ | refine blk_alloc ?_ _)); refine blk_far ?_ NB764_763.out _; (with_reducible repeat (first | refine blk_drewN ?_ _ | refine blk_drew ?_ | refine blk_alloc ?_ _)); exact BK764.out) k_ hk_)⟩)) (below_size (y1 HB.out GE763.out GE764.out))); replace BK763 := Aside0.mk (blk_below (g := gb763) (o := .cells #[.slice Ao13 t756.length co13] 30 (0, 0)) (by (with_reducible repeat (first | refine blk_drewN ?_ _ | refine blk_drew ?_ | refine blk_alloc ?_ _)); refine blk_far ?_ NB763_764.out _; (with_reducible repeat (first | refine blk_drewN ?_ _ | refine blk_drew ?_ | refine blk_alloc ?_ _)); refine blk_far ?_ NB763_764.out _; (with_reducible repeat (first | refine blk_drewN ?_ _ | refine blk_drew ?_ | refine blk_alloc ?_ _)); apply blk_put (i := 0); (case h => exact y0 BK763.out); (case e => rfl)) hb); replace BK764 := Aside0.mk (blk_below (g := gb764) (o := .cells #[.int .i64 t759, .slice Ao17 t760.length co17] 55 (0, 0)) (by (with_reducible repeat (first | refine blk_drewN ?_ _ | refine blk_drew ?_ | refine blk_alloc ?_ _)); refine blk_put (cs := #[.int .i64 t759, .slice none 0 0]) ?_ 1 _ rfl; (with_reducible repeat (first | refine blk_drewN ?_ _ | refine blk_drew ?_ | refine blk_alloc ?_ _)); refine blk_put (cs := #[.int .i64 0, .slice none 0 0]) ?_ 0 _ rfl; (with_reducible repeat (first | refine blk_drewN ?_ _ | refine blk_drew ?_ | refine blk_alloc ?_ _)); refine blk_far ?_ NB764_763.out _; (with_reducible repeat (first | refine blk_drewN ?_ _ | refine blk_drew ?_ | refine blk_alloc ?_ _)); exact BK764.out) hb); replace HB := Aside0.mk (below_step (y1 HB.out GE763.out GE764.out) hb); (try clear hb); (try clear hb2); (try clear hk); (try clear hi); (try clear ho0)) | ((with_reducible refine gate_dst (N := 7) rfl ?_); (try (refine gate_guard (by rfl) ?_; dsimp only)); refine zbx 7 #[.slice none 0 0] 30 ?_; intro gb768 hg w19 hbox hb; replace HO758 := Aside0.mk (Kd.V_below (Kd.V_elderB (y13 HO758.out) gb768 (Nat.le_of_eq hg.symm)) hb); replace HO762 := Aside0.mk (Kd.V_below (Kd.V_elderB (y13 HO762.out) gb768 (Nat.le_of_eq hg.symm)) hb); replace HO767 := Aside0.mk (Kd.N_below (Kd.N_elderB (y9 HO767.out) gb768 (Nat.le_of_eq hg.symm)) hb); have BK768 := Aside0.mk hbox; have GW768 := Aside0.mk ((y20 hg HB.out GE763.out GE764.out : w.heap.size ≤ gb768)); have GE768 := Aside0.mk ((y20 hg HB.out GE763.out GE764.out : w.heap.size ≤ gb768)); replace HB := Aside0.mk (below_step (y1 HB.out GE763.out GE764.out) hb); have NB763_768 := zltn hg BK763; have NB768_763 := zgtn hg BK763; replace BK763 := zbb BK763 hb; have NB764_768 := zltn hg BK764; have NB768_764 := zgtn hg BK764; replace BK764 := zbb BK764 hb; clear hb hbox hg; obtain ⟨Ao20, co20, eo20⟩ := Kd.N_slice HO767.out; subst eo20; have hnb21 := NB768_763.out; have hnc21 := NB763_768.out; have hnb22 := NB768_764.out; have hnc22 := NB764_768.out; have hcz23_0 := zh BK768; have hfz23_0 := zfr BK768 0; have hcz24_0 := zh BK763; have hfz24_0 := zfr BK763 0; have hcz25_0 := zh BK764; have hcz25_1 := zh1 BK764; have hfz25_0 := zfr BK764 0; have hfz25_1 := zfr BK764 1) | ((with_reducible refine gate_callee (f := 35) rfl ?_); refine goesL_ (some 26) rfl rfl Try.func35 (by kernel_rfl) rfl #[.agg #[.slice Ao13 t756.length co13], .agg #[.int .i64 t759, .slice Ao17 t760.length co17]] rfl y4 ?_; (with_reducible refine (impl_ValOk.calls kj2 _ _ t756 t759 _ _ t760 t769 _ ?side1 ?side2 ?side3 ?side4 A8.out).mono ?_); (case side1 => refine (Kd.V_reads' (e := 30) (base := w.heap.size) (ok := fun k_ => ((((True ∧ k_ ≠ gb763) ∧ k_ ≠ gb764) ∧ some k_ ≠ (.slice Ao20 t765.length co20 : Value).ownBlock) ∧ k_ ≠ gb768)) (n := t756.length) (c := co13) ?_).2.2; exact (by (with_reducible repeat (first | apply Kd.V_alloc | apply Kd.V_drewN | apply Kd.V_drew)); exact (Kd.V_mono (Kd.V_far (p := ⟨gb768, 0, none⟩) (Kd.V_mono HO758.out (fun k_ hk => (⟨hk, hk.2⟩ : _ ∧ k_ ≠ gb768))) (fun _ hk => hk.2) (.slice Ao20 t765.length co20)) (fun _ h_ => h_.1)))); (case side2 => exact (Kd.V_reads' HO758.out).2.1); (case side3 => refine (Kd.V_reads' (e := 55) (base := w.heap.size) (ok := fun k_ => ((((True ∧ k_ ≠ gb763) ∧ k_ ≠ gb764) ∧ some k_ ≠ (.slice Ao20 t765.length co20 : Value).ownBlock) ∧ k_ ≠ gb768)) (n := t760.length) (c := co17) ?_).2.2; exact (by (with_reducible repeat (first | apply Kd.V_alloc | apply Kd.V_drewN | apply Kd.V_drew)); exact (Kd.V_mono (Kd.V_far (p := ⟨gb768, 0, none⟩) (Kd.V_mono HO762.out (fun k_ hk => (⟨hk, hk.2⟩ : _ ∧ k_ ≠ gb768))) (fun _ hk => hk.2) (.slice Ao20 t765.length co20)) (fun _ h_ => h_.1)))); (case side4 => exact (Kd.V_reads' HO762.out).2.1); rintro e w26 ⟨rfl, hb⟩; refine ⟨_, rfl, ?_⟩; replace HO758 := Aside0.mk (Kd.V_below (by (with_reducible repeat (first | apply Kd.V_alloc | apply Kd.V_drewN | apply Kd.V_drew)); exact (Kd.V_mono (Kd.V_far (p := ⟨gb768, 0, none⟩) (Kd.V_mono HO758.out (fun k_ hk => (⟨hk, hk.2⟩ : _ ∧ k_ ≠ gb768))) (fun _ hk => hk.2) (.slice Ao20 t765.length co20)) (fun _ h_ => h_.1))) hb); replace HO762 := Aside0.mk (Kd.V_below (by (with_reducible repeat (first | apply Kd.V_alloc | apply Kd.V_drewN | apply Kd.V_drew)); exact (Kd.V_mono (Kd.V_far (p := ⟨gb768, 0, none⟩) (Kd.V_mono HO762.out (fun k_ hk => (⟨hk, hk.2⟩ : _ ∧ k_ ≠ gb768))) (fun _ hk => hk.2) (.slice Ao20 t765.length co20)) (fun _ h_ => h_.1))) hb); replace HO767 := Aside0.mk (Kd.N_below (by (with_reducible repeat (first | apply Kd.N_alloc | apply Kd.N_drewN | apply Kd.N_drew)); exact (Kd.N_mono (Kd.N_far (p := ⟨gb768, 0, none⟩) (Kd.N_mono HO767.out (fun k_ hk => (⟨hk, hk.2⟩ : _ ∧ k_ ≠ gb768))) (fun _ hk => hk.2) (.slice Ao20 t765.length co20)) (fun _ h_ => h_.1))) hb); replace BK763 := zbf BK763 NB763_768 hb; replace BK764 := zbf BK764 NB764_768 hb; replace BK768 := Aside0.mk (blk_below (g := gb768) (o := .cells #[.slice Ao20 t765.length co20] 30 (0, 0)) (by (with_reducible repeat (first | refine blk_drewN ?_ _ | refine blk_drew ?_ | refine blk_alloc ?_ _)); apply blk_put (i := 0); (case h => exact y0 BK768.out); (case e => rfl)) hb); replace HB := Aside0.mk (below_step (y7 HB.out GE763.out GE764.out GE768.out) hb); (try clear hb); (try clear hb2); (try clear hk); (try clear hi)))
    (try simp only [Act.put, List.setIfInBounds_toArray, List.set_cons_zero, List.set_cons_succ])
    go_cut [35] (fun v35 wc => ∃ (kq : Nat) (x35_8 : Bool), v35 = .bool x35_8 ∧ Aside0 (laws_FnValOk.j1 kq t769 x35_8 t756 t759 t760 t765 = some r) ∧ Aside0 (kq ≤ kj2) ∧ Aside0 (Kd.V k30 30 wc w.heap.size (fun k_ => some k_ ≠ ((.slice Ao20 t765.length co20) : Value).ownBlock ∧ k_ ≠ gb763 ∧ k_ ≠ gb764 ∧ k_ ≠ gb768) (.slice Ao13 t756.length co13) t756) ∧ Aside0 (Kd.V k55 55 wc w.heap.size (fun k_ => some k_ ≠ ((.slice Ao20 t765.length co20) : Value).ownBlock ∧ k_ ≠ gb763 ∧ k_ ≠ gb764 ∧ k_ ≠ gb768) (.slice Ao17 t760.length co17) t760) ∧ Aside0 (Kd.N k30 30 wc w.heap.size (fun k_ => k_ ≠ gb763 ∧ k_ ≠ gb764 ∧ k_ ≠ gb768) (.slice Ao20 t765.length co20) t765) ∧ Aside0 (wc.heap[gb763]? = some (.cells #[(.slice Ao13 t756.length co13)] 30 (0, 0))) ∧ Aside0 (wc.heap[gb764]? = some (.cells #[.int .i64 t759, (.slice Ao17 t760.length co17)] 55 (0, 0))) ∧ Aside0 (wc.heap[gb768]? = some (.cells #[(.slice Ao20 t765.length co20)] 30 (0, 0))) ∧ Aside0 (Below w.heap.size w wc))
    case first =>
     have H := HC9.out
     clear HC9
     obtain ⟨t770, A270, H⟩ := ob H
     have A27 := Aside0.mk A270
     clear A270
     by_cases c28 : (t769 != t770) = true
     ·rw [if_pos c28] at H
      have c28b0 : (t769 != t770) = true := c28
      (try (have c28b1 : decide (t769 = t770) = false := by simpa using c28))
      (try (have c28b2 : (t769 == t770) = false := by simpa using c28))
      (try (have c28b3 : ¬ (t769 = t770) := by simpa using c28))
      clear c28
      (first | rw [c28b0] | (simp only [i64_w, i32_w]; rw [c28b0]) | skip)
      have H' := Aside0.mk H
      clear H
      have hnb29 := NB763_764.out
      have hnc29 := NB764_763.out
      have hnb30 := NB763_768.out
      have hnc30 := NB768_763.out
      have hcz31_0 := zh BK763
      have hfz31_0 := zfr BK763 0
      have hnb32 := NB764_768.out
      have hnc32 := NB768_764.out
      have hcz33_0 := zh BK764
      have hcz33_1 := zh1 BK764
      have hfz33_0 := zfr BK764 0
      have hfz33_1 := zfr BK764 1
      go_wp2_with (first | ((with_reducible refine gate_callee (f := 36) rfl ?_); refine goesL_ (some 30) rfl rfl Try.func36 (by kernel_rfl) rfl #[.agg #[.slice Ao13 t756.length co13], .agg #[.int .i64 t759, .slice Ao17 t760.length co17]] rfl y4 ?_; (with_reducible refine (spec_ValOk.calls kj2 _ _ t756 t759 _ _ t760 t770 _ ?side1 ?side2 ?side3 ?side4 A27.out).mono ?_); (case side1 => exact y31 HO758.out); (case side2 => exact (Kd.V_reads' HO758.out).2.1); (case side3 => exact y31 HO762.out); (case side4 => exact (Kd.V_reads' HO762.out).2.1); rintro e w34 ⟨rfl, hb⟩; refine ⟨_, rfl, ?_⟩; replace HO758 := Aside0.mk (Kd.V_below (y13 HO758.out) hb); replace HO762 := Aside0.mk (Kd.V_below (y13 HO762.out) hb); replace HO767 := Aside0.mk (Kd.N_below (y9 HO767.out) hb); replace BK763 := zbb BK763 hb; replace BK764 := zbb BK764 hb; replace BK768 := zbb BK768 hb; replace HB := Aside0.mk (below_step (y7 HB.out GE763.out GE764.out GE768.out) hb); (try clear hb); (try clear hb2); (try clear hk); (try clear hi)))
      go_meet
      case rel => exact ⟨_, (true), y26, H', ⟨(y49 HJ2.out)⟩, ⟨(y51 HO758.out)⟩, ⟨(y51 HO762.out)⟩, ⟨(y47 HO767.out)⟩, ⟨(y0 BK763.out)⟩, ⟨(y0 BK764.out)⟩, ⟨(y0 BK768.out)⟩, ⟨(y7 HB.out GE763.out GE764.out GE768.out)⟩⟩
     ·rw [if_neg c28] at H
      have c28b0 : (t769 != t770) = false := by simpa using c28
      (try (have c28b1 : decide (t769 = t770) = true := by simpa using c28))
      (try (have c28b2 : (t769 == t770) = true := by simpa using c28))
      clear c28
      (first | rw [c28b0] | (simp only [i64_w, i32_w]; rw [c28b0]) | skip)
      have H' := Aside0.mk H
      clear H
      have hnb35 := NB763_764.out
      have hnc35 := NB764_763.out
      have hnb36 := NB763_768.out
      have hnc36 := NB768_763.out
      have hcz37_0 := zh BK763
      have hfz37_0 := zfr BK763 0
      have hnb38 := NB764_768.out
      have hnc38 := NB768_764.out
      have hcz39_0 := zh BK764
      have hcz39_1 := zh1 BK764
      have hfz39_0 := zfr BK764 0
      have hfz39_1 := zfr BK764 1
      go_wp2_with (first | ((with_reducible refine gate_callee (f := 36) rfl ?_); refine goesL_ (some 30) rfl rfl Try.func36 (by kernel_rfl) rfl #[.agg #[.slice Ao13 t756.length co13], .agg #[.int .i64 t759, .slice Ao17 t760.length co17]] rfl y4 ?_; (with_reducible refine (spec_ValOk.calls kj2 _ _ t756 t759 _ _ t760 t770 _ ?side1 ?side2 ?side3 ?side4 A27.out).mono ?_); (case side1 => exact y31 HO758.out); (case side2 => exact (Kd.V_reads' HO758.out).2.1); (case side3 => exact y31 HO762.out); (case side4 => exact (Kd.V_reads' HO762.out).2.1); rintro e w40 ⟨rfl, hb⟩; refine ⟨_, rfl, ?_⟩; replace HO758 := Aside0.mk (Kd.V_below (y13 HO758.out) hb); replace HO762 := Aside0.mk (Kd.V_below (y13 HO762.out) hb); replace HO767 := Aside0.mk (Kd.N_below (y9 HO767.out) hb); replace BK763 := zbb BK763 hb; replace BK764 := zbb BK764 hb; replace BK768 := zbb BK768 hb; replace HB := Aside0.mk (below_step (y7 HB.out GE763.out GE764.out GE768.out) hb); (try clear hb); (try clear hb2); (try clear hk); (try clear hi)))
      go_meet
      case rel => exact ⟨_, (!t769), y26, H', ⟨(y49 HJ2.out)⟩, ⟨(y51 HO758.out)⟩, ⟨(y51 HO762.out)⟩, ⟨(y47 HO767.out)⟩, ⟨(y0 BK763.out)⟩, ⟨(y0 BK764.out)⟩, ⟨(y0 BK768.out)⟩, ⟨(y7 HB.out GE763.out GE764.out GE768.out)⟩⟩
    case rest =>
     clear HC9
     try clear c1
     try clear c2
     try clear p2
     try clear c3
     try clear c4
     try clear c4b0
     try clear c4b1
     try clear c5
     try clear c11
     try clear c14
     try clear c20
     try clear c21
     try clear c22
     try clear c28
     try clear c28b0
     try clear c28b1
     try clear c28b2
     try clear c29
     try clear c30
     try clear c32
     try clear c34
     try clear c35
     try clear c36
     try clear c38
     try clear hcz15_0
     try clear hcz16_0
     try clear hcz16_1
     try clear hcz23_0
     try clear hcz24_0
     try clear hcz25_0
     try clear hcz25_1
     try clear hcz31_0
     try clear hcz33_0
     try clear hcz33_1
     try clear hcz37_0
     try clear hcz39_0
     try clear hcz39_1
     try clear hfz15_0
     try clear hfz16_0
     try clear hfz16_1
     try clear hfz23_0
     try clear hfz24_0
     try clear hfz25_0
     try clear hfz25_1
     try clear hfz31_0
     try clear hfz33_0
     try clear hfz33_1
     try clear hfz37_0
     try clear hfz39_0
     try clear hfz39_1
     try clear p2
     obtain ⟨kq, x35_8, rfl, HA, HJ8, HO_764000, HO_765001, HO_769000, BK763, BK764, BK768, HB⟩ := hcut
     cases kq with
     | zero => exact absurd HA.out (by simp [laws_FnValOk.j1])
     | succ kj8 =>
      have H := HA.out
      clear HA
      simp only [laws_FnValOk.j1] at H
      by_cases c41 : x35_8 = true
      ·subst c41
       rw [if_pos rfl] at H
       obtain ⟨t771, A420, H⟩ := ob H
       have A42 := Aside0.mk A420
       clear A420
       clear hr_
       obtain rfl := Option.some.inj H
       have hnb43 := NB763_764.out
       have hnc43 := NB764_763.out
       have hnb44 := NB763_768.out
       have hnc44 := NB768_763.out
       have hcz45_0 := zh BK763
       have hfz45_0 := zfr BK763 0
       have hnb46 := NB764_768.out
       have hnc46 := NB768_764.out
       have hcz47_0 := zh BK764
       have hcz47_1 := zh1 BK764
       have hfz47_0 := zfr BK764 0
       have hfz47_1 := zfr BK764 1
       go_wp2_with (first | ((with_reducible refine gate_callee (f := 36) rfl ?_); refine goesL_ (some 39) rfl rfl Try.func36 (by kernel_rfl) rfl #[.agg #[.slice Ao13 t756.length co13], .agg #[.int .i64 t759, .slice Ao17 t760.length co17]] rfl y4 ?_; (with_reducible refine (spec_ValOk.calls kj8 _ _ t756 t759 _ _ t760 t771 _ ?side1 ?side2 ?side3 ?side4 A42.out).mono ?_); (case side1 => exact y31 HO_764000.out); (case side2 => exact (Kd.V_reads' HO_764000.out).2.1); (case side3 => exact y31 HO_765001.out); (case side4 => exact (Kd.V_reads' HO_765001.out).2.1); rintro e w48 ⟨rfl, hb⟩; refine ⟨_, rfl, ?_⟩; replace HO_764000 := Aside0.mk (Kd.V_below (y13 HO_764000.out) hb); replace HO_765001 := Aside0.mk (Kd.V_below (y13 HO_765001.out) hb); replace HO_769000 := Aside0.mk (Kd.N_below (y9 HO_769000.out) hb); replace BK763 := zbb BK763 hb; replace BK764 := zbb BK764 hb; replace BK768 := zbb BK768 hb; replace HB := Aside0.mk (below_step (y7 HB.out GE763.out GE764.out GE768.out) hb); (try clear hb); (try clear hb2); (try clear hk); (try clear hi)))
       go_ret
       exact ⟨y14, (y7 HB.out GE763.out GE764.out GE768.out)⟩
      ·replace c41 := Bool.eq_false_iff.mpr c41
       subst c41
       rw [if_neg (show ¬ (false = true) by decide)] at H
       obtain ⟨t772, A490, H⟩ := ob H
       have A49 := Aside0.mk A490
       clear A490
       obtain ⟨t773, A500, H⟩ := ob H
       have A50 := Aside0.mk A500
       clear A500
       by_cases c51 : t773 = true
       ·subst c51
        rw [if_pos rfl] at H
        obtain ⟨t774, A520, H⟩ := ob H
        have A52 := Aside0.mk A520
        clear A520
        obtain ⟨t775, A530, H⟩ := ob H
        have A53 := Aside0.mk A530
        clear A530
        clear hr_
        obtain rfl := Option.some.inj H
        try go_wp2
        replace HO_764000 := Aside0.mk (Kd.V_drew HO_764000.out)
        replace HO_765001 := Aside0.mk (Kd.V_drew HO_765001.out)
        replace HO_769000 := Aside0.mk (Kd.N_drew HO_769000.out)
        replace BK763 := Aside0.mk (blk_drew BK763.out)
        replace BK764 := Aside0.mk (blk_drew BK764.out)
        replace BK768 := Aside0.mk (blk_drew BK768.out)
        replace HB := Aside0.mk (below_drew1 HB.out)
        refine start_ (n := 14) (S := fun w' => w'.cell? ⟨gb768, 0, none⟩ = some (.slice Ao20 t765.length co20) ∧ w'.cell? ⟨gb764, 0, none⟩ = some (.int .i64 t759) ∧ w'.cell? ⟨gb764, 1, none⟩ = some (.slice Ao17 t760.length co17) ∧ w'.cell? ⟨gb763, 0, none⟩ = some (.slice Ao13 t756.length co13)) (ds := []) #[false, false, false, false, false, false, false, false, false, false, false, false, false, false] (by kernel_rfl) rfl rfl ⟨(blk_cell BK768.out 0).trans rfl, (blk_cell BK764.out 0).trans rfl, (blk_cell BK764.out 1).trans rfl, (blk_cell BK763.out 0).trans rfl⟩ (fun hHeld => ?_); refine with_tabW laws_FnValOk.tab8 laws_FnValOk.bits8 (fun HT_ HW_ => ?_)
        generalize wc.drew = w54 at HO_764000 HO_765001 HO_769000 BK763 BK764 BK768 HB hHeld ⊢
        refine zt4 0 (some 41) HT_ HW_ hHeld ?_
        refine zt4 1 (some 42) HT_ HW_ hHeld ?_
        refine zt4 3 (some 44) HT_ HW_ hHeld ?_
        refine one_ (i := 2) (N := some 43) #[true, true, true, true, false, false, false, false, false, false, false, false, false, false] rfl rfl (one_of HT_.out (by kernel_rfl)) (by decide) (fun K hK => ?_)
        refine goes_ Try.func35 (by kernel_rfl) rfl #[.agg #[.slice Ao20 t765.length co20], .agg #[.int .i64 t759, .slice Ao17 t760.length co17]] (by rfl) rfl rfl y4 ?_
        with_reducible refine (impl_ValOk.calls kj8 _ _ t765 t759 _ _ t760 t772 _ ?side1 ?side2 ?side3 ?side4 A49.out).mono ?_
        (case side1 => exact y27 HO_769000.out)
        (case side2 => exact (Kd.N_reads' HO_769000.out).2.1)
        (case side3 => exact y31 HO_765001.out)
        (case side4 => exact (Kd.V_reads' HO_765001.out).2.1)
        rintro e w55 ⟨rfl, hb⟩
        refine ⟨_, rfl, ?_⟩
        replace HO_764000 := Aside0.mk (Kd.V_below (y13 HO_764000.out) hb)
        replace HO_765001 := Aside0.mk (Kd.V_below (y13 HO_765001.out) hb)
        replace HO_769000 := Aside0.mk (Kd.N_below (y9 HO_769000.out) hb)
        replace BK763 := zbb BK763 hb
        replace BK764 := zbb BK764 hb
        replace BK768 := zbb BK768 hb
        replace HB := Aside0.mk (below_step (y7 HB.out GE763.out GE764.out GE768.out) hb)
        (try clear hb)
        (try clear hb2)
        (try clear hk)
        (try clear hi)
        refine hK.out _ _ ⟨(blk_cell BK768.out 0).trans rfl, (blk_cell BK764.out 0).trans rfl, (blk_cell BK764.out 1).trans rfl, (blk_cell BK763.out 0).trans rfl⟩ (fun hHeld => ?_)
        clear hK K
        refine norm_ (a' := ?_) ?_ ?_
        rotate_left
        ·show Act.put _ (some 43) _ = _
         simp only [Act.put, List.setIfInBounds_toArray, List.set_cons_zero, List.set_cons_succ, i64_w, i32_w]
         rfl
        refine one_ (i := 4) (N := some 45) #[true, true, true, true, true, false, false, false, false, false, false, false, false, false] rfl rfl (one_of HT_.out (by kernel_rfl)) (by decide) (fun K hK => ?_)
        refine goes_ Try.func18 (by kernel_rfl) rfl #[.agg #[.slice Ao20 t765.length co20]] (by rfl) rfl rfl y4 ?_
        with_reducible refine (impl_TypeOk.calls kj8 _ _ t765 true _ ?side1 ?side2 A50.out).mono ?_
        (case side1 => exact y27 HO_769000.out)
        (case side2 => exact (Kd.N_reads' HO_769000.out).2.1)
        rintro e w56 ⟨rfl, hb⟩
        refine ⟨_, rfl, ?_⟩
        replace HO_764000 := Aside0.mk (Kd.V_below (y13 HO_764000.out) hb)
        replace HO_765001 := Aside0.mk (Kd.V_below (y13 HO_765001.out) hb)
        replace HO_769000 := Aside0.mk (Kd.N_below (y9 HO_769000.out) hb)
        replace BK763 := zbb BK763 hb
        replace BK764 := zbb BK764 hb
        replace BK768 := zbb BK768 hb
        replace HB := Aside0.mk (below_step (y7 HB.out GE763.out GE764.out GE768.out) hb)
        (try clear hb)
        (try clear hb2)
        (try clear hk)
        (try clear hi)
        refine hK.out _ _ ⟨(blk_cell BK768.out 0).trans rfl, (blk_cell BK764.out 0).trans rfl, (blk_cell BK764.out 1).trans rfl, (blk_cell BK763.out 0).trans rfl⟩ (fun hHeld => ?_)
        clear hK K
        refine norm_ (a' := ?_) ?_ ?_
        rotate_left
        ·show Act.put _ (some 45) _ = _
         simp only [Act.put, List.setIfInBounds_toArray, List.set_cons_zero, List.set_cons_succ, i64_w, i32_w]
         rfl
        refine zp 5 (some 46) HT_ ?_
        refine zt4 6 (some 47) HT_ HW_ hHeld ?_
        refine zt4 8 (some 49) HT_ HW_ hHeld ?_
        refine one_ (i := 7) (N := some 48) #[true, true, true, true, true, true, true, true, true, false, false, false, false, false] rfl rfl (one_of HT_.out (by kernel_rfl)) (by decide) (fun K hK => ?_)
        refine goes_ Try.func23 (by kernel_rfl) rfl #[.agg #[.slice Ao20 t765.length co20]] (by rfl) rfl rfl y4 ?_
        with_reducible refine (impl_TypeText.calls kj8 _ _ t765 t774 _ ?side1 ?side2 A52.out).mono ?_
        (case side1 => exact y27 HO_769000.out)
        (case side2 => exact (Kd.N_reads' HO_769000.out).2.1)
        rintro e w57 ⟨rfl, hb⟩
        refine ⟨_, rfl, ?_⟩
        replace HO_764000 := Aside0.mk (Kd.V_below (y13 HO_764000.out) hb)
        replace HO_765001 := Aside0.mk (Kd.V_below (y13 HO_765001.out) hb)
        replace HO_769000 := Aside0.mk (Kd.N_below (y9 HO_769000.out) hb)
        replace BK763 := zbb BK763 hb
        replace BK764 := zbb BK764 hb
        replace BK768 := zbb BK768 hb
        replace HB := Aside0.mk (below_step (y7 HB.out GE763.out GE764.out GE768.out) hb)
        (try clear hb)
        (try clear hb2)
        (try clear hk)
        (try clear hi)
        refine hK.out _ _ ⟨(blk_cell BK768.out 0).trans rfl, (blk_cell BK764.out 0).trans rfl, (blk_cell BK764.out 1).trans rfl, (blk_cell BK763.out 0).trans rfl⟩ (fun hHeld => ?_)
        clear hK K
        refine norm_ (a' := ?_) ?_ ?_
        rotate_left
        ·show Act.put _ (some 48) _ = _
         simp only [Act.put, List.setIfInBounds_toArray, List.set_cons_zero, List.set_cons_succ, i64_w, i32_w]
         rfl
        refine one_ (i := 9) (N := some 50) #[true, true, true, true, true, true, true, true, true, true, false, false, false, false] rfl rfl (one_of HT_.out (by kernel_rfl)) (by decide) (fun K hK => ?_)
        refine goes_ Try.func23 (by kernel_rfl) rfl #[.agg #[.slice Ao13 t756.length co13]] (by rfl) rfl rfl y4 ?_
        with_reducible refine (impl_TypeText.calls kj8 _ _ t756 t775 _ ?side1 ?side2 A53.out).mono ?_
        (case side1 => exact y31 HO_764000.out)
        (case side2 => exact (Kd.V_reads' HO_764000.out).2.1)
        rintro e w58 ⟨rfl, hb⟩
        refine ⟨_, rfl, ?_⟩
        replace HO_764000 := Aside0.mk (Kd.V_below (y13 HO_764000.out) hb)
        replace HO_765001 := Aside0.mk (Kd.V_below (y13 HO_765001.out) hb)
        replace HO_769000 := Aside0.mk (Kd.N_below (y9 HO_769000.out) hb)
        replace BK763 := zbb BK763 hb
        replace BK764 := zbb BK764 hb
        replace BK768 := zbb BK768 hb
        replace HB := Aside0.mk (below_step (y7 HB.out GE763.out GE764.out GE768.out) hb)
        (try clear hb)
        (try clear hb2)
        (try clear hk)
        (try clear hi)
        refine hK.out _ _ ⟨(blk_cell BK768.out 0).trans rfl, (blk_cell BK764.out 0).trans rfl, (blk_cell BK764.out 1).trans rfl, (blk_cell BK763.out 0).trans rfl⟩ (fun hHeld => ?_)
        clear hK K
        refine norm_ (a' := ?_) ?_ ?_
        rotate_left
        ·show Act.put _ (some 50) _ = _
         simp only [Act.put, List.setIfInBounds_toArray, List.set_cons_zero, List.set_cons_succ, i64_w, i32_w]
         rfl
        refine zp 10 (some 51) HT_ ?_
        refine zp 11 (some 52) HT_ ?_
        refine zp 12 (some 53) HT_ ?_
        refine zp 13 (some 4) HT_ ?_
        refine done_ (done_of HT_.out (by kernel_rfl)) ?_
        try go_wp2
        go_ret
        exact ⟨y14, (y7 HB.out GE763.out GE764.out GE768.out)⟩
       ·replace c51 := Bool.eq_false_iff.mpr c51
        subst c51
        rw [if_neg (show ¬ (false = true) by decide)] at H
        clear hr_
        obtain rfl := Option.some.inj H
        try go_wp2
        replace HO_764000 := Aside0.mk (Kd.V_drew HO_764000.out)
        replace HO_765001 := Aside0.mk (Kd.V_drew HO_765001.out)
        replace HO_769000 := Aside0.mk (Kd.N_drew HO_769000.out)
        replace BK763 := Aside0.mk (blk_drew BK763.out)
        replace BK764 := Aside0.mk (blk_drew BK764.out)
        replace BK768 := Aside0.mk (blk_drew BK768.out)
        replace HB := Aside0.mk (below_drew1 HB.out)
        refine start_ (n := 14) (S := fun w' => w'.cell? ⟨gb768, 0, none⟩ = some (.slice Ao20 t765.length co20) ∧ w'.cell? ⟨gb764, 0, none⟩ = some (.int .i64 t759) ∧ w'.cell? ⟨gb764, 1, none⟩ = some (.slice Ao17 t760.length co17)) (ds := []) #[false, false, false, false, false, false, false, false, false, false, false, false, false, false] (by kernel_rfl) rfl rfl ⟨(blk_cell BK768.out 0).trans rfl, (blk_cell BK764.out 0).trans rfl, (blk_cell BK764.out 1).trans rfl⟩ (fun hHeld => ?_); refine with_tabW laws_FnValOk.tab8 laws_FnValOk.bits8 (fun HT_ HW_ => ?_)
        generalize wc.drew = w59 at HO_764000 HO_765001 HO_769000 BK763 BK764 BK768 HB hHeld ⊢
        refine zt3 0 (some 41) HT_ HW_ hHeld ?_
        refine zt3 1 (some 42) HT_ HW_ hHeld ?_
        refine zt3 3 (some 44) HT_ HW_ hHeld ?_
        refine one_ (i := 2) (N := some 43) #[true, true, true, true, false, false, false, false, false, false, false, false, false, false] rfl rfl (one_of HT_.out (by kernel_rfl)) (by decide) (fun K hK => ?_)
        refine goes_ Try.func35 (by kernel_rfl) rfl #[.agg #[.slice Ao20 t765.length co20], .agg #[.int .i64 t759, .slice Ao17 t760.length co17]] (by rfl) rfl rfl y4 ?_
        with_reducible refine (impl_ValOk.calls kj8 _ _ t765 t759 _ _ t760 t772 _ ?side1 ?side2 ?side3 ?side4 A49.out).mono ?_
        (case side1 => exact y27 HO_769000.out)
        (case side2 => exact (Kd.N_reads' HO_769000.out).2.1)
        (case side3 => exact y31 HO_765001.out)
        (case side4 => exact (Kd.V_reads' HO_765001.out).2.1)
        rintro e w60 ⟨rfl, hb⟩
        refine ⟨_, rfl, ?_⟩
        replace HO_764000 := Aside0.mk (Kd.V_below (y13 HO_764000.out) hb)
        replace HO_765001 := Aside0.mk (Kd.V_below (y13 HO_765001.out) hb)
        replace HO_769000 := Aside0.mk (Kd.N_below (y9 HO_769000.out) hb)
        replace BK763 := zbb BK763 hb
        replace BK764 := zbb BK764 hb
        replace BK768 := zbb BK768 hb
        replace HB := Aside0.mk (below_step (y7 HB.out GE763.out GE764.out GE768.out) hb)
        (try clear hb)
        (try clear hb2)
        (try clear hk)
        (try clear hi)
        refine hK.out _ _ ⟨(blk_cell BK768.out 0).trans rfl, (blk_cell BK764.out 0).trans rfl, (blk_cell BK764.out 1).trans rfl⟩ (fun hHeld => ?_)
        clear hK K
        refine norm_ (a' := ?_) ?_ ?_
        rotate_left
        ·show Act.put _ (some 43) _ = _
         simp only [Act.put, List.setIfInBounds_toArray, List.set_cons_zero, List.set_cons_succ, i64_w, i32_w]
         rfl
        refine one_ (i := 4) (N := some 45) #[true, true, true, true, true, false, false, false, false, false, false, false, false, false] rfl rfl (one_of HT_.out (by kernel_rfl)) (by decide) (fun K hK => ?_)
        refine goes_ Try.func18 (by kernel_rfl) rfl #[.agg #[.slice Ao20 t765.length co20]] (by rfl) rfl rfl y4 ?_
        with_reducible refine (impl_TypeOk.calls kj8 _ _ t765 false _ ?side1 ?side2 A50.out).mono ?_
        (case side1 => exact y27 HO_769000.out)
        (case side2 => exact (Kd.N_reads' HO_769000.out).2.1)
        rintro e w61 ⟨rfl, hb⟩
        refine ⟨_, rfl, ?_⟩
        replace HO_764000 := Aside0.mk (Kd.V_below (y13 HO_764000.out) hb)
        replace HO_765001 := Aside0.mk (Kd.V_below (y13 HO_765001.out) hb)
        replace HO_769000 := Aside0.mk (Kd.N_below (y9 HO_769000.out) hb)
        replace BK763 := zbb BK763 hb
        replace BK764 := zbb BK764 hb
        replace BK768 := zbb BK768 hb
        replace HB := Aside0.mk (below_step (y7 HB.out GE763.out GE764.out GE768.out) hb)
        (try clear hb)
        (try clear hb2)
        (try clear hk)
        (try clear hi)
        refine hK.out _ _ ⟨(blk_cell BK768.out 0).trans rfl, (blk_cell BK764.out 0).trans rfl, (blk_cell BK764.out 1).trans rfl⟩ (fun hHeld => ?_)
        clear hK K
        refine norm_ (a' := ?_) ?_ ?_
        rotate_left
        ·show Act.put _ (some 45) _ = _
         simp only [Act.put, List.setIfInBounds_toArray, List.set_cons_zero, List.set_cons_succ, i64_w, i32_w]
         rfl
        refine zp 5 (some 46) HT_ ?_
        refine pure_ (i := 6) (N := some 47) (v := undef) (a' := ?_) #[true, true, true, true, true, true, true, false, false, false, false, false, false, false] rfl rfl (any_of HT_.out (by kernel_rfl)) (fun _ _ _ h => h) (Or.inr ⟨(by rfl), rfl⟩) ?_ ?_
        rotate_left
        ·simp only [Act.put, List.setIfInBounds_toArray, List.set_cons_zero, List.set_cons_succ, i64_w, i32_w]
         rfl
        refine pure_ (i := 7) (N := some 48) (v := undef) (a' := ?_) #[true, true, true, true, true, true, true, true, false, false, false, false, false, false] rfl rfl (any_of HT_.out (by kernel_rfl)) (fun _ _ _ h => h) (Or.inr ⟨(by rfl), rfl⟩) ?_ ?_
        rotate_left
        ·simp only [Act.put, List.setIfInBounds_toArray, List.set_cons_zero, List.set_cons_succ, i64_w, i32_w]
         rfl
        refine pure_ (i := 8) (N := some 49) (v := undef) (a' := ?_) #[true, true, true, true, true, true, true, true, true, false, false, false, false, false] rfl rfl (any_of HT_.out (by kernel_rfl)) (fun _ _ _ h => h) (Or.inr ⟨(by rfl), rfl⟩) ?_ ?_
        rotate_left
        ·simp only [Act.put, List.setIfInBounds_toArray, List.set_cons_zero, List.set_cons_succ, i64_w, i32_w]
         rfl
        refine pure_ (i := 9) (N := some 50) (v := undef) (a' := ?_) #[true, true, true, true, true, true, true, true, true, true, false, false, false, false] rfl rfl (any_of HT_.out (by kernel_rfl)) (fun _ _ _ h => h) (Or.inr ⟨(by rfl), rfl⟩) ?_ ?_
        rotate_left
        ·simp only [Act.put, List.setIfInBounds_toArray, List.set_cons_zero, List.set_cons_succ, i64_w, i32_w]
         rfl
        refine pure_ (i := 10) (N := some 51) (v := undef) (a' := ?_) #[true, true, true, true, true, true, true, true, true, true, true, false, false, false] rfl rfl (any_of HT_.out (by kernel_rfl)) (fun _ _ _ h => h) (Or.inr ⟨(by rfl), rfl⟩) ?_ ?_
        rotate_left
        ·simp only [Act.put, List.setIfInBounds_toArray, List.set_cons_zero, List.set_cons_succ, i64_w, i32_w]
         rfl
        refine zp 11 (some 52) HT_ ?_
        refine zp 12 (some 53) HT_ ?_
        refine zp 13 (some 4) HT_ ?_
        refine done_ (done_of HT_.out (by kernel_rfl)) ?_
        try go_wp2
        go_ret
        exact ⟨y14, (y7 HB.out GE763.out GE764.out GE768.out)⟩
def laws_FnValOk.Pure : Prop := ∀ (l0 : List Int) (l1 : List Int), l0.length ≤ maxLen → l0.length * 1 ≤ 140737488351232 → (∀ x ∈ l0, (Lit.int .u8 x).wf = true) → l1.length ≤ maxLen → l1.length * 1 ≤ 140737488351232 → (∀ x ∈ l1, (Lit.int .u8 x).wf = true) → ∃ k, laws_FnValOk.f k l0 l1 = some true
theorem laws_FnValOk.walk (P : laws_FnValOk.Pure) (a0 : Option Addr) (len0 cap0 : Nat) (z0 : List Int) (a1 : Option Addr) (len1 cap1 : Nat) (z1 : List Int) (w : World) (w0 : (a0 = none ∧ len0 = 0 ∧ cap0 = 0 ∧ z0 = []) ∨ ∃ x, a0 = some x ∧ len0 ≤ cap0 ∧ cap0 ≤ maxLen ∧ z0.length = cap0 ∧ (∀ i, i < z0.length → w.cell? (x.add i) = some (.int .u8 (z0.getD i 0))) ∧ ∀ n ∈ z0, (Lit.int .u8 n).wf = true) (y0 : len0 * 1 ≤ 140737488351232) (w1 : (a1 = none ∧ len1 = 0 ∧ cap1 = 0 ∧ z1 = []) ∨ ∃ x, a1 = some x ∧ len1 ≤ cap1 ∧ cap1 ≤ maxLen ∧ z1.length = cap1 ∧ (∀ i, i < z1.length → w.cell? (x.add i) = some (.int .u8 (z1.getD i 0))) ∧ ∀ n ∈ z1, (Lit.int .u8 n).wf = true) (y1 : len1 * 1 ≤ 140737488351232) :
  Calls Try.prog 11 #[.slice a0 len0 cap0, .slice a1 len1 cap1] w fun e w' => e = .returned (.bool true) ∧ Below w.heap.size w w' := by
 obtain ⟨l0, rfl, hr0, hm0, hw0, hc0⟩ := ReadsInt.ofRowC w0
 obtain ⟨l1, rfl, hr1, hm1, hw1, hc1⟩ := ReadsInt.ofRowC w1
 obtain ⟨k, h⟩ := P l0 l1 hm0 y0 hw0 hm1 y1 hw1
 refine (laws_FnValOk.calls k _ _ l0 _ _ l1 true w (Kd.C_of_reads (d := (0 : Int)) (h1 := fun _ => rfl) hr0) hc0 (Kd.C_of_reads (d := (0 : Int)) (h1 := fun _ => rfl) hr1) hc1 h ⟨rfl⟩).mono ?_
 rintro e w' ⟨rfl, hd⟩
 exact ⟨rfl, hd⟩
end Go.Proofs.Ytjhbhihfifhljaa.PA
end
section
namespace Go.Proofs.Ytjhbhihfifhljaa.Draw
open Go.RowKit Go.Proofs.Ytjhbhihfifhljaa.PA Go.Proofs.YtjhbhihfifhljaaW.PrintWords Go.Proofs.YtjhbhihfifhljaaW.PrintLast
def Bytes (s : List Int) : Prop := s.length ≤ 2000 ∧ ∀ x ∈ s, 0 ≤ x ∧ x ≤ 255
theorem rd_byte {s : List Int} (h : Bytes s) (i : Int) : 0 ≤ rd s i ∧ rd s i ≤ 255 := by
  unfold rd
  rw [List.getD_eq_getElem?_getD]
  cases e : s[i.toNat]? with
  | none => simp
  | some x => exact h.2 x (List.mem_of_getElem? e)
theorem w64 {x : Int} (h0 : -9223372036854775808 ≤ x) (h1 : x ≤ 9223372036854775807) : wrap64 x = x := by unfold wrap64; omega
theorem w01 : wrap64 (0 + 1) = 1 := by rw [w64 (by omega) (by omega)]; rfl
theorem w12 : wrap64 (1 + 1) = 2 := by rw [w64 (by omega) (by omega)]; rfl
theorem xor_nonneg (a b : Nat) (ha : a < 2 ^ 62) (hb : b < 2 ^ 62) : 0 ≤ Go.bits .xor .i64 a b := by
  have hp : (2 : Nat) ^ 62 ≤ 2 ^ IntKind.i64.bits := Nat.pow_le_pow_right (by decide) (by decide)
  have ha' : a % 2 ^ IntKind.i64.bits = a := Nat.mod_eq_of_lt (Nat.lt_of_lt_of_le ha hp)
  have hb' : b % 2 ^ IntKind.i64.bits = b := Nat.mod_eq_of_lt (Nat.lt_of_lt_of_le hb hp)
  simp only [Go.bits, BitVec.ofInt_natCast, BitVec.toNat_xor, BitVec.toNat_ofNat, ha', hb']
  rw [IntKind.wrap_i64]
  have := Nat.xor_lt_two_pow ha hb
  omega
theorem xor_nonneg' (x y : Int) (hx : 0 ≤ x) (hx1 : x < 4611686018427387904) (hy : 0 ≤ y) (hy1 : y < 4611686018427387904) : 0 ≤ Go.bits .xor .i64 x y := by
  obtain ⟨a, rfl⟩ := Int.eq_ofNat_of_zero_le hx
  obtain ⟨b, rfl⟩ := Int.eq_ofNat_of_zero_le hy
  exact xor_nonneg a b (by omega) (by omega)
theorem tmod_range (x n : Int) (hx : 0 ≤ x) (hn : 1 ≤ n) : 0 ≤ Int.tmod x n ∧ Int.tmod x n < n := by
  rw [Int.tmod_eq_emod_of_nonneg hx]
  exact ⟨Int.emod_nonneg _ (by omega), Int.emod_lt_of_pos _ (by omega)⟩
theorem tdiv_range (x n : Int) (hx : 0 ≤ x) (hn : 1 ≤ n) : 0 ≤ Int.tdiv x n ∧ Int.tdiv x n ≤ x := by
  rw [Int.tdiv_eq_ediv_of_nonneg hx]
  exact ⟨Int.ediv_nonneg hx (by omega), Int.ediv_le_self _ hx⟩
theorem pick_ev (s : List Int) (hs : Bytes s) (p n : Int) (hp : 0 ≤ p) (hp1 : p ≤ 1099511627776) (hn : 1 ≤ n) :
    ∃ r, (∀ k, 2 ≤ k → spec_l6Rd_pick.f k s p n = some (r, p + 1)) ∧ 0 ≤ r ∧ r < n := by
  have e1 : wrap64 (p + 1) = p + 1 := w64 (by omega) (by omega)
  have e2 : wrap64 (p + 1 - 1) = p := by rw [w64 (by omega) (by omega)]; omega
  by_cases h0 : (s.length : Int) = 0
  · refine ⟨0, fun k hk => ?_, by omega, by omega⟩
    obtain ⟨k, rfl⟩ : ∃ m, k = m + 1 := ⟨k - 1, by omega⟩
    simp only [spec_l6Rd_pick.f]
    rw [if_neg (by omega), e1, show ((s.length : Int) == 0) = true from beq_iff_eq.2 h0]
    simp only [spec_l6Rd_pick.j0, if_true]
  have hl : 0 < s.length := by omega
  have hl2 := hs.1
  have hb : ((s.length : Int) == 0) = false := by simpa using h0
  by_cases hlt : p < (s.length : Int)
  · have hr := rd_byte hs p
    have hq := tmod_range (rd s p) n hr.1 hn
    refine ⟨_, fun k hk => ?_, hq.1, hq.2⟩
    obtain ⟨k, rfl⟩ : ∃ m, k = m + 1 := ⟨k - 1, by omega⟩
    simp only [spec_l6Rd_pick.f]
    rw [if_neg (by omega), e1, hb]
    simp only [spec_l6Rd_pick.j0, e2]
    rw [if_neg (by simp), if_pos hlt, if_pos hp, if_neg (by omega), w64 (by omega) (by omega)]
  · have m1 := tmod_range p (s.length : Int) hp (by omega)
    have e3 : wrap64 (p * 7) = p * 7 := w64 (by omega) (by omega)
    have e4 : wrap64 (p * 7 + 3) = p * 7 + 3 := w64 (by omega) (by omega)
    have m2 := tmod_range (p * 7 + 3) (s.length : Int) (by omega) (by omega)
    have d1 := tdiv_range p (s.length : Int) hp (by omega)
    have r1 := rd_byte hs (Int.tmod p (s.length : Int))
    have r2 := rd_byte hs (Int.tmod (p * 7 + 3) (s.length : Int))
    generalize ha : rd s (Int.tmod p (s.length : Int)) = a at *
    generalize hc : rd s (Int.tmod (p * 7 + 3) (s.length : Int)) = c at *
    generalize hd : Int.tdiv p (s.length : Int) = d at *
    have e5 : wrap64 (wrap64 (wrap64 (wrap64 (wrap64 a * 131) + wrap64 (wrap64 c * 1117)) + wrap64 (p * 29)) + wrap64 (wrap64 d * 53)) = a * 131 + c * 1117 + p * 29 + d * 53 := by
      rw [w64 (x := a) (by omega) (by omega), w64 (x := c) (by omega) (by omega), w64 (x := d) (by omega) (by omega), w64 (x := a * 131) (by omega) (by omega), w64 (x := c * 1117) (by omega) (by omega), w64 (x := d * 53) (by omega) (by omega), w64 (x := p * 29) (by omega) (by omega), w64 (x := a * 131 + c * 1117) (by omega) (by omega), w64 (x := a * 131 + c * 1117 + p * 29) (by omega) (by omega), w64 (by omega) (by omega)]
    generalize hx : a * 131 + c * 1117 + p * 29 + d * 53 = x at *
    have d2 := tdiv_range x 64 (by omega) (by omega)
    have e6 : wrap64 (Int.tdiv x 64) = Int.tdiv x 64 := w64 (by omega) (by omega)
    have hxor := xor_nonneg' x (Int.tdiv x 64) (by omega) (by omega) d2.1 (by omega)
    have hq := tmod_range (Go.bits .xor .i64 x (Int.tdiv x 64)) n hxor hn
    refine ⟨_, fun k hk => ?_, hq.1, hq.2⟩
    obtain ⟨k, rfl⟩ : ∃ m, k = m + 1 := ⟨k - 1, by omega⟩
    simp only [spec_l6Rd_pick.f]
    rw [if_neg (by omega), e1, hb]
    simp only [spec_l6Rd_pick.j0, e2, e3, e4, ha, hc, hd, e5, e6]
    rw [if_neg (by simp), if_neg hlt, if_neg h0, if_pos m1.1, if_pos m1.2, if_pos m2.1, if_pos m2.2, if_neg (by omega)]
theorem open_ev (l : List Int) (h : ∀ x ∈ l, (Lit.int .u8 x).wf = true) : ∃ s, spec_l6Open.f l = some (s, 0) ∧ Bytes s := by
  have hb : ∀ x ∈ l, 0 ≤ x ∧ x ≤ 255 := fun x hx => bounds_u8 (h x hx)
  unfold spec_l6Open.f
  by_cases hl : (l.length : Int) > 2000
  · rw [if_pos hl, if_pos (by omega)]
    exact ⟨_, rfl, by rw [List.length_take]; omega, fun x hx => hb x (List.mem_of_mem_take hx)⟩
  · rw [if_neg hl]
    exact ⟨_, rfl, by omega, hb⟩
def Dph : Nat → List S30 → Prop
  | 0, l => l = []
  | n + 1, l => ∀ x ∈ l, Dph n x.f0
theorem dph_nil (n : Nat) : Dph n [] := by cases n <;> simp [Dph]
theorem type_ev (s : List Int) (hs : Bytes s) : ∀ (d : Nat), d ≤ 1000 → ∀ (p : Int), 0 ≤ p → p + 2 ^ d ≤ 1099511627776 →
    ∃ r q, (∀ k, 3 * d + 4 ≤ k → spec_l71Type.f k s p d = some (r, q)) ∧ r.length ≤ 2 ∧ p ≤ q ∧ q + 1 ≤ p + 2 ^ d ∧ Dph d r := by
  intro d
  induction d with
  | zero =>
    intro hd p hp hp1
    refine ⟨[], p, fun k hk => ?_, by simp, by omega, by simp, dph_nil _⟩
    obtain ⟨k, rfl⟩ : ∃ m, k = m + 2 := ⟨k - 2, by omega⟩
    simp only [spec_l71Type.f]
    rw [if_pos (by omega)]
    simp only [spec_l71Type.j0, if_true]
  | succ d ih =>
    intro hd p hp hp1
    have hpow : (2 : Int) ^ (d + 1) = 2 ^ d + 2 ^ d := by rw [Int.pow_succ]; omega
    have hpos : (1 : Int) ≤ 2 ^ d := by have := Int.pow_pos (n := 2) (m := d) (by decide); omega
    rw [hpow] at hp1 ⊢
    generalize (2 : Int) ^ d = e at *
    by_cases h2 : (((d + 1 : Nat) : Int)) < 2
    · refine ⟨[], p, fun k hk => ?_, by simp, by omega, by omega, dph_nil _⟩
      obtain ⟨k, rfl⟩ : ∃ m, k = m + 2 := ⟨k - 2, by omega⟩
      simp only [spec_l71Type.f]
      rw [if_pos h2]
      simp only [spec_l71Type.j0, if_true]
    · obtain ⟨r, hr, hr0, hr1⟩ := pick_ev s hs p 3 hp (by omega) (by omega)
      by_cases hrp : r > 0
      · refine ⟨[], p + 1, fun k hk => ?_, by simp, by omega, by omega, dph_nil _⟩
        obtain ⟨k, rfl⟩ : ∃ m, k = m + 2 := ⟨k - 2, by omega⟩
        simp only [spec_l71Type.f]
        rw [if_neg h2, hr (k + 1) (by omega)]
        simp only [Option.bind_some, spec_l71Type.j0]
        rw [if_pos (by simpa using hrp)]
      · obtain ⟨a, q1, h1, _, hq1, hq1', da⟩ := ih (by omega) (p + 1) (by omega) (by omega)
        obtain ⟨b, q2, h3, _, hq2, hq2', db⟩ := ih (by omega) q1 (by omega) (by omega)
        have ew : wrap64 (((d + 1 : Nat) : Int) - 1) = (d : Int) := by
          rw [w64 (by omega) (by omega)]; omega
        refine ⟨[⟨a⟩, ⟨b⟩], q2, fun k hk => ?_, by simp, by omega, by omega, ?_⟩
        rotate_left
        · intro x hx
          rcases List.mem_cons.1 hx with rfl | hx
          · exact da
          · rw [List.mem_singleton.1 hx]; exact db
        · obtain ⟨k, rfl⟩ : ∃ m, k = m + 2 := ⟨k - 2, by omega⟩
          simp only [spec_l71Type.f]
          rw [if_neg h2, hr (k + 1) (by omega)]
          simp only [Option.bind_some, spec_l71Type.j0]
          rw [if_neg (by simpa using hrp), ew, h1 k (by omega)]
          simp only [Option.bind_some]
          rw [h3 k (by omega)]
          simp only [Option.bind_some]
end Go.Proofs.Ytjhbhihfifhljaa.Draw
end
section
namespace Go.Proofs.Ytjhbhihfifhljaa.PA
open Go.RowKit Go.Proofs.YtjhbhihfifhljaaW.PrintWords Go.Proofs.YtjhbhihfifhljaaW.PrintLast Go.Proofs.YtjhbhihfifhljaaW.PrintMore
attribute [local go_sem] max2_int min2_int max_two min_two max_three min_three max_four min_four
set_option linter.unusedVariables false
set_option linter.unusedSimpArgs false
def spec_l1Say.f : Nat → List (S30) → Option (ByteArray)
 | 0, _ => none
 | k + 1, l0_0 => if (l0_0.length : Int) = 0 then (some (⟨#[105]⟩ : ByteArray)) else (if 0 < (l0_0.length : Int) then ((spec_l1Say.f k ((rd_T30 l0_0 0).f0)).bind fun t307 => (if 1 + t307.size ≤ 9223372036854775807 then (if 1 + t307.size + 1 ≤ 9223372036854775807 then (if 1 < (l0_0.length : Int) then ((spec_l1Say.f k ((rd_T30 l0_0 1).f0)).bind fun t309 => (if 1 + t307.size + 1 + t309.size ≤ 9223372036854775807 then (if 1 + t307.size + 1 + t309.size + 1 ≤ 9223372036854775807 then (some (((((⟨#[40]⟩ : ByteArray) ++ t307) ++ (⟨#[44]⟩ : ByteArray)) ++ t309) ++ (⟨#[41]⟩ : ByteArray))) else (none)) else (none))) else (none)) else (none)) else (none))) else (none))
theorem spec_l1Say.mono_l : ∀ k, (∀ y0, LeO (spec_l1Say.f k y0) (spec_l1Say.f (k + 1) y0))
 | 0 => fun _ r h => by simp [spec_l1Say.f] at h
 | k + 1 => by
  have ih0 := spec_l1Say.mono_l k
  ·intro y0
   unfold spec_l1Say.f
   repeat' first
   | (with_reducible exact ih0 _)
   | (with_reducible exact LeO.refl _)
   | (with_reducible exact LeO.none _)
   | (with_reducible refine LeO.ite ?_ ?_)
   | (with_reducible refine LeO.bind ?_ (fun _ => ?_))
   | exact ih0 _
   | exact LeO.none _
   | refine LeO.ite ?_ ?_
   | refine LeO.bind ?_ (fun _ => ?_)
theorem spec_l1Say.mono : ∀ a0 k, LeO (spec_l1Say.f k a0) (spec_l1Say.f (k + 1) a0) := by
 intro a0 k
 have ih0 := spec_l1Say.mono_l k
 exact ih0 a0
def spec_l1Say.T3 : Bool × List (List Nat × List Nat) := (true, [([], []), ([0], [0]), ([1], [1]), ([2], [2]), ([3], [3]), ([4], [4]), ([5], [5]), ([], []), ([7], [7]), ([8], [8]), ([9], [9]), ([10, 4], [10]), ([6, 11], [6, 11]), ([12], [12]), ([13, 11, 0, 1, 2, 3, 4, 5, 6, 7, 8, 9, 10, 11, 12, 13], [13])])
def spec_l1Say.B3 : List Nat := [0, 1, 3, 7, 15, 31, 63, 0, 128, 384, 896, 1951, 4095, 8191, 16383]
theorem spec_l1Say.tab3 : rtab .any (opsOf Try.f55 3) = spec_l1Say.T3 := by kernel_rfl
theorem spec_l1Say.bits3 : waitsOk spec_l1Say.T3.2 spec_l1Say.B3 = true := by kernel_rfl
set_option maxHeartbeats 8000000 in
set_option maxRecDepth 100000 in
theorem spec_l1Say.calls (k : Nat) : ∀ (A0_0 : Option Addr) (c0_0 : Nat) (l0_0 : List (S30)) (r : ByteArray) (w : World) (hr0_0 : Kd.C k30 w A0_0 l0_0.length l0_0) (hc0_0 : l0_0.length ≤ c0_0) (h : spec_l1Say.f k l0_0 = some r),
  Calls Try.prog 55 #[.agg #[.slice A0_0 l0_0.length c0_0]] w fun e w' => e = .returned (.string r) ∧ Below w.heap.size w w' := by
 induction k using Nat.strongRecOn with
 | _ k ih =>
 intro A0_0 c0_0 l0_0 r w hr0_0 hc0_0 h
 cases k with
 | zero => exact absurd h (by simp [spec_l1Say.f])
 | succ k =>
 simp only [spec_l1Say.f] at h
 have hu30 := Try.underlying30
 have HR0_0 := Aside0.mk hr0_0
 have HC0_0 := Aside0.mk hc0_0
 clear hr0_0 hc0_0
 have HB := Aside0.mk (Below.refl w.heap.size w)
 have H : (if (l0_0.length : Int) = 0 then (some (⟨#[105]⟩ : ByteArray)) else (if 0 < (l0_0.length : Int) then ((spec_l1Say.f k ((rd_T30 l0_0 0).f0)).bind fun t307 => (if 1 + t307.size ≤ 9223372036854775807 then (if 1 + t307.size + 1 ≤ 9223372036854775807 then (if 1 < (l0_0.length : Int) then ((spec_l1Say.f k ((rd_T30 l0_0 1).f0)).bind fun t309 => (if 1 + t307.size + 1 + t309.size ≤ 9223372036854775807 then (if 1 + t307.size + 1 + t309.size + 1 ≤ 9223372036854775807 then (some (((((⟨#[40]⟩ : ByteArray) ++ t307) ++ (⟨#[44]⟩ : ByteArray)) ++ t309) ++ (⟨#[41]⟩ : ByteArray))) else (none)) else (none))) else (none)) else (none)) else (none))) else (none))) = some r := h
 clear h
 by_cases c2 : (l0_0.length : Int) = 0
 ·rw [if_pos c2] at H
  have c2b0 : ((l0_0.length : Int) == 0) = true := beq_iff_eq.mpr c2
  have c2b1 : ((l0_0.length : Int) != 0) = false := bne_eq_false_iff_eq.mpr c2
  clear c2
  obtain rfl := Option.some.inj H
  go_enter Try.func55, Try.ntmps55
  go_wp2_with (first | ((with_reducible refine gate_dst (N := 1) rfl ?_); refine zbx 1 #[.slice A0_0 l0_0.length c0_0] 30 ?_; intro gb305 hg w3 hbox hb; have BK305 := Aside0.mk hbox; have GW305 := Aside0.mk ((y5 hg HB.out : w.heap.size ≤ gb305)); have GE305 := Aside0.mk ((y5 hg HB.out : w.heap.size ≤ gb305)); replace HB := Aside0.mk (below_step (y2 HB.out) hb); clear hb hbox hg; have hcz4_0 := zh BK305; have hfz4_0 := zfr BK305 0))
  go_ret
  exact ⟨y14, (y3 HB.out GE305.out)⟩
 ·rw [if_neg c2] at H
  have c2b0 : ((l0_0.length : Int) == 0) = false := beq_eq_false_iff_ne.mpr c2
  have c2b1 : ((l0_0.length : Int) != 0) = true := bne_iff_ne.mpr c2
  have c2b2 : ¬ (l0_0 = []) := fun h_ => c2 (by rw [h_]; rfl)
  by_cases c5 : 0 < (l0_0.length : Int)
  ·rw [if_pos c5] at H
   have c5b0 : decide (0 < (l0_0.length : Int)) = true := decide_eq_true c5
   have c5b1 : decide (0 < l0_0.length) = true := decide_eq_true (by omega)
   clear c5
   obtain ⟨t307, A60, H⟩ := ob H
   have A6 := Aside0.mk A60
   clear A60
   by_cases c7 : 1 + t307.size ≤ 9223372036854775807
   ·rw [if_pos c7] at H
    have c7b0 := eq_true c7
    have c7b1 : decide (1 + t307.size ≤ 9223372036854775807) = true := decide_eq_true c7
    try have c7b2 : (9223372036854775807 < 1 + t307.size) = False := eq_false (Nat.not_lt.2 c7)
    by_cases c8 : 1 + t307.size + 1 ≤ 9223372036854775807
    ·rw [if_pos c8] at H
     have c8b0 := eq_true c8
     have c8b1 : decide (1 + t307.size + 1 ≤ 9223372036854775807) = true := decide_eq_true c8
     try have c8b2 : (9223372036854775807 < 1 + t307.size + 1) = False := eq_false (Nat.not_lt.2 c8)
     by_cases c9 : 1 < (l0_0.length : Int)
     ·rw [if_pos c9] at H
      have c9b0 : decide (1 < (l0_0.length : Int)) = true := decide_eq_true c9
      have c9b1 : decide (1 < l0_0.length) = true := decide_eq_true (by omega)
      clear c9
      obtain ⟨t309, A100, H⟩ := ob H
      have A10 := Aside0.mk A100
      clear A100
      by_cases c11 : 1 + t307.size + 1 + t309.size ≤ 9223372036854775807
      ·rw [if_pos c11] at H
       have c11b0 := eq_true c11
       have c11b1 : decide (1 + t307.size + 1 + t309.size ≤ 9223372036854775807) = true := decide_eq_true c11
       try have c11b2 : (9223372036854775807 < 1 + t307.size + 1 + t309.size) = False := eq_false (Nat.not_lt.2 c11)
       by_cases c12 : 1 + t307.size + 1 + t309.size + 1 ≤ 9223372036854775807
       ·rw [if_pos c12] at H
        have c12b0 := eq_true c12
        have c12b1 : decide (1 + t307.size + 1 + t309.size + 1 ≤ 9223372036854775807) = true := decide_eq_true c12
        try have c12b2 : (9223372036854775807 < 1 + t307.size + 1 + t309.size + 1) = False := eq_false (Nat.not_lt.2 c12)
        obtain rfl := Option.some.inj H
        go_enter Try.func55, Try.ntmps55
        try go_wp2_with (first | ((with_reducible refine gate_dst (N := 1) rfl ?_); refine zbx 1 #[.slice A0_0 l0_0.length c0_0] 30 ?_; intro gb305 hg w13 hbox hb; have BK305 := Aside0.mk hbox; have GW305 := Aside0.mk ((y5 hg HB.out : w.heap.size ≤ gb305)); have GE305 := Aside0.mk ((y5 hg HB.out : w.heap.size ≤ gb305)); replace HB := Aside0.mk (below_step (y2 HB.out) hb); clear hb hbox hg; have hcz14_0 := zh BK305; have hfz14_0 := zfr BK305 0))
        replace BK305 := Aside0.mk (blk_drew BK305.out)
        replace HB := Aside0.mk (below_drew1 HB.out)
        have p306 : 0 ≤ (0 : Int) := (by omega)
        have q306 : 0 < (l0_0.length : Int) := of_decide_eq_true y19
        obtain ⟨ad306, A306_0, c306_0, e306, hx306_0, hl306_0, hi306_0⟩ := at_T30 HR0_0.out 0 p306 q306
        have hw306_0 := hx306_0
        (try rw [show ((0 : Int)).toNat = 0 from rfl] at hw306_0)
        (try rw [show 0 * 1 = 0 from rfl] at hw306_0)
        (try rw [Addr.add_zero'] at hw306_0)
        cases e306
        have qi306 : (0 < l0_0.length) = True := eq_true (by omega)
        (try rw [show ((0 : Int)).toNat = 0 from rfl] at hx306_0)
        (try rw [Addr.add_zero'] at hx306_0)
        replace hx306_0 := (HB.out.cell (World.block_lt_of_cell? w _ hx306_0)).trans hx306_0
        have HR306_0 := Aside0.mk hi306_0
        have HC306_0 := Aside0.mk hl306_0
        clear hi306_0 hl306_0
        replace p306 := eq_true p306
        replace q306 := eq_true q306
        have p308 : 0 ≤ (1 : Int) := (by omega)
        have q308 : 1 < (l0_0.length : Int) := of_decide_eq_true y19
        obtain ⟨ad308, A308_0, c308_0, e308, hx308_0, hl308_0, hi308_0⟩ := at_T30 HR0_0.out 1 p308 q308
        have hw308_0 := hx308_0
        (try rw [show ((1 : Int)).toNat = 1 from rfl] at hw308_0)
        (try rw [show 1 * 1 = 1 from rfl] at hw308_0)
        (try simp only [Nat.reduceMul, Nat.reduceEqDiff, Go.Addr.add, ↓reduceIte] at hw308_0)
        obtain rfl : ad306 = ad308 := (by injection e308)
        (try simp only [show (1 : Int).toNat = 1 from rfl, Nat.reduceMul, Nat.reduceEqDiff, Go.Addr.add, ↓reduceIte] at hx308_0)
        have qi308 : (1 < l0_0.length) = True := eq_true (by omega)
        (try rw [show ((1 : Int)).toNat = 1 from rfl] at hx308_0)
        replace hx308_0 := (HB.out.cell (World.block_lt_of_cell? w _ hx308_0)).trans hx308_0
        have HR308_0 := Aside0.mk hi308_0
        have HC308_0 := Aside0.mk hl308_0
        clear hi308_0 hl308_0
        replace p308 := eq_true p308
        replace q308 := eq_true q308
        refine start_ (n := 15) (S := fun w' => w'.cell? ⟨gb305, 0, none⟩ = some (.slice (some ad306) l0_0.length c0_0) ∧ w'.cell? ad306 = some (.slice A306_0 ((rd_T30 l0_0 0).f0).length c306_0) ∧ w'.cell? ⟨ad306.block, ad306.off + 1, none⟩ = some (.slice A308_0 ((rd_T30 l0_0 1).f0).length c308_0)) (ds := []) #[false, false, false, false, false, false, false, false, false, false, false, false, false, false, false] (by kernel_rfl) rfl rfl ⟨(blk_cell BK305.out 0).trans rfl, ((HB.out.cell (World.block_lt_of_cell? w _ hw306_0)).trans hw306_0), ((HB.out.cell (World.block_lt_of_cell? w _ hw308_0)).trans hw308_0)⟩ (fun hHeld => ?_); refine with_tabW spec_l1Say.tab3 spec_l1Say.bits3 (fun HT_ HW_ => ?_)
        generalize w13.drew = w15 at BK305 HB HR306_0 HR308_0 hx306_0 hx308_0 hHeld ⊢
        refine zp 0 (some 7) HT_ ?_
        refine zp 7 (some 14) HT_ ?_
        refine zt3 1 (some 8) HT_ HW_ hHeld ?_
        refine zp 2 (some 9) HT_ ?_
        refine zt3 3 (some 10) HT_ HW_ hHeld ?_
        refine zt3 8 (some 15) HT_ HW_ hHeld ?_
        refine zp 9 (some 16) HT_ ?_
        refine zt3 10 (some 17) HT_ HW_ hHeld ?_
        refine one_ (i := 4) (N := some 11) #[true, true, true, true, true, false, false, true, true, true, true, false, false, false, false] rfl rfl (one_of HT_.out (by kernel_rfl)) (by decide) (fun K hK => ?_)
        refine goes_ Try.func55 (by kernel_rfl) rfl #[.agg #[.slice A306_0 ((rd_T30 l0_0 0).f0).length c306_0]] (by rfl) rfl rfl y4 ?_
        with_reducible refine (ih k (by omega) _ _ ((rd_T30 l0_0 0).f0) t307 _ ?side1 ?side2 A6.out).mono ?_
        (case side1 => exact y8 HR306_0.out HB.out)
        (case side2 => exact HC306_0.out)
        rintro e w16 ⟨rfl, hb⟩
        refine ⟨_, rfl, ?_⟩
        replace BK305 := zbb BK305 hb
        replace HB := Aside0.mk (below_step (y3 HB.out GE305.out) hb)
        (try clear hb)
        (try clear hb2)
        (try clear hk)
        (try clear hi)
        refine hK.out _ _ ⟨(blk_cell BK305.out 0).trans rfl, ((HB.out.cell (World.block_lt_of_cell? w _ hw306_0)).trans hw306_0), ((HB.out.cell (World.block_lt_of_cell? w _ hw308_0)).trans hw308_0)⟩ (fun hHeld => ?_)
        clear hK K
        refine norm_ (a' := ?_) ?_ ?_
        rotate_left
        ·show Act.put _ (some 11) _ = _
         simp only [Act.put, List.setIfInBounds_toArray, List.set_cons_zero, List.set_cons_succ, i64_w, i32_w]
         rfl
        refine zp 5 (some 12) HT_ ?_
        refine zp 6 (some 13) HT_ ?_
        refine one_ (i := 11) (N := some 18) #[true, true, true, true, true, true, true, true, true, true, true, true, false, false, false] rfl rfl (one_of HT_.out (by kernel_rfl)) (by decide) (fun K hK => ?_)
        refine goes_ Try.func55 (by kernel_rfl) rfl #[.agg #[.slice A308_0 ((rd_T30 l0_0 1).f0).length c308_0]] (by rfl) rfl rfl y4 ?_
        with_reducible refine (ih k (by omega) _ _ ((rd_T30 l0_0 1).f0) t309 _ ?side1 ?side2 A10.out).mono ?_
        (case side1 => exact y8 HR308_0.out HB.out)
        (case side2 => exact HC308_0.out)
        rintro e w17 ⟨rfl, hb⟩
        refine ⟨_, rfl, ?_⟩
        replace BK305 := zbb BK305 hb
        replace HB := Aside0.mk (below_step (y3 HB.out GE305.out) hb)
        (try clear hb)
        (try clear hb2)
        (try clear hk)
        (try clear hi)
        refine hK.out _ _ ⟨(blk_cell BK305.out 0).trans rfl, ((HB.out.cell (World.block_lt_of_cell? w _ hw306_0)).trans hw306_0), ((HB.out.cell (World.block_lt_of_cell? w _ hw308_0)).trans hw308_0)⟩ (fun hHeld => ?_)
        clear hK K
        refine norm_ (a' := ?_) ?_ ?_
        rotate_left
        ·show Act.put _ (some 18) _ = _
         simp only [Act.put, List.setIfInBounds_toArray, List.set_cons_zero, List.set_cons_succ, i64_w, i32_w]
         rfl
        refine zp 12 (some 19) HT_ ?_
        refine zp 13 (some 20) HT_ ?_
        refine zp 14 (some 2) HT_ ?_
        refine done_ (done_of HT_.out (by kernel_rfl)) ?_
        try go_wp2
        go_ret
        exact ⟨y14, (y3 HB.out GE305.out)⟩
       ·rw [if_neg c12] at H
        exact absurd H (by simp)
      ·rw [if_neg c11] at H
       exact absurd H (by simp)
     ·rw [if_neg c9] at H
      exact absurd H (by simp)
    ·rw [if_neg c8] at H
     exact absurd H (by simp)
   ·rw [if_neg c7] at H
    exact absurd H (by simp)
  ·rw [if_neg c5] at H
   exact absurd H (by simp)
end Go.Proofs.Ytjhbhihfifhljaa.PA
end
section
namespace Go.Proofs.Ytjhbhihfifhljaa.PA
open Go.RowKit Go.Proofs.YtjhbhihfifhljaaW.PrintWords Go.Proofs.YtjhbhihfifhljaaW.PrintLast Go.Proofs.YtjhbhihfifhljaaW.PrintMore
attribute [local go_sem] max2_int min2_int max_two min_two max_three min_three max_four min_four
set_option linter.unusedVariables false
set_option linter.unusedSimpArgs false
def spec_TypeText.f (k : Nat) (l0_0 : List (S30)) : Option (ByteArray) := (spec_TypeOk.f k l0_0).bind fun t311 => (if t311 = true then ((spec_l1Say.f k l0_0).bind fun t312 => (some t312)) else (some (⟨#[]⟩ : ByteArray)))
theorem spec_TypeText.mono : ∀ a0 k, LeO (spec_TypeText.f k a0) (spec_TypeText.f (k + 1) a0) := by
 intro a0 k
 unfold spec_TypeText.f
 repeat' first
   | (with_reducible exact spec_TypeOk.mono _ _)
   | (with_reducible exact spec_l1Say.mono _ _)
   | (with_reducible exact LeO.refl _)
   | (with_reducible exact LeO.none _)
   | (with_reducible refine LeO.ite ?_ ?_)
   | (with_reducible refine LeO.bind ?_ (fun _ => ?_))
   | exact spec_TypeOk.mono _ _
   | exact spec_l1Say.mono _ _
   | exact LeO.none _
   | refine LeO.ite ?_ ?_
   | refine LeO.bind ?_ (fun _ => ?_)
set_option maxHeartbeats 8000000 in
set_option maxRecDepth 100000 in
theorem spec_TypeText.calls (k : Nat) (A0_0 : Option Addr) (c0_0 : Nat) (l0_0 : List (S30)) (r : ByteArray) (w : World) (hr0_0 : Kd.C k30 w A0_0 l0_0.length l0_0) (hc0_0 : l0_0.length ≤ c0_0) (h : spec_TypeText.f k l0_0 = some r) :
  Calls Try.prog 22 #[.agg #[.slice A0_0 l0_0.length c0_0]] w fun e w' => e = .returned (.string r) ∧ Below w.heap.size w w' := by
 have hu30 := Try.underlying30
 have HR0_0 := Aside0.mk hr0_0
 have HC0_0 := Aside0.mk hc0_0
 clear hr0_0 hc0_0
 have HB := Aside0.mk (Below.refl w.heap.size w)
 have H : ((spec_TypeOk.f k l0_0).bind fun t311 => (if t311 = true then ((spec_l1Say.f k l0_0).bind fun t312 => (some t312)) else (some (⟨#[]⟩ : ByteArray)))) = some r := h
 clear h
 obtain ⟨t311, A20, H⟩ := ob H
 have A2 := Aside0.mk A20
 clear A20
 by_cases c3 : t311 = true
 ·subst c3
  rw [if_pos rfl] at H
  obtain ⟨t312, A40, H⟩ := ob H
  have A4 := Aside0.mk A40
  clear A40
  obtain rfl := Option.some.inj H
  go_enter Try.func22, Try.ntmps22
  go_wp2_with (first | ((with_reducible refine gate_dst (N := 1) rfl ?_); refine zbx 1 #[.slice A0_0 l0_0.length c0_0] 30 ?_; intro gb310 hg w5 hbox hb; have BK310 := Aside0.mk hbox; have GW310 := Aside0.mk ((y5 hg HB.out : w.heap.size ≤ gb310)); have GE310 := Aside0.mk ((y5 hg HB.out : w.heap.size ≤ gb310)); replace HB := Aside0.mk (below_step (y2 HB.out) hb); clear hb hbox hg; have hcz6_0 := zh BK310; have hfz6_0 := zfr BK310 0) | ((with_reducible refine gate_callee (f := 16) rfl ?_); refine goesL_ (some 4) rfl rfl Try.func16 (by kernel_rfl) rfl #[.agg #[.slice A0_0 l0_0.length c0_0]] rfl y4 ?_; (with_reducible refine (spec_TypeOk.calls k _ _ l0_0 true _ ?side1 ?side2 A2.out).mono ?_); (case side1 => exact y8 HR0_0.out HB.out); (case side2 => exact HC0_0.out); rintro e w7 ⟨rfl, hb⟩; refine ⟨_, rfl, ?_⟩; replace BK310 := zbb BK310 hb; replace HB := Aside0.mk (below_step (y3 HB.out GE310.out) hb); (try clear hb); (try clear hb2); (try clear hk); (try clear hi); have hcz8_0 := zh BK310; have hfz8_0 := zfr BK310 0) | ((with_reducible refine gate_callee (f := 55) rfl ?_); refine goesL_ (some 7) rfl rfl Try.func55 (by kernel_rfl) rfl #[.agg #[.slice A0_0 l0_0.length c0_0]] rfl y4 ?_; (with_reducible refine (spec_l1Say.calls k _ _ l0_0 t312 _ ?side1 ?side2 A4.out).mono ?_); (case side1 => exact y8 HR0_0.out HB.out); (case side2 => exact HC0_0.out); rintro e w9 ⟨rfl, hb⟩; refine ⟨_, rfl, ?_⟩; replace BK310 := zbb BK310 hb; replace HB := Aside0.mk (below_step (y3 HB.out GE310.out) hb); (try clear hb); (try clear hb2); (try clear hk); (try clear hi)))
  go_ret
  exact ⟨y14, (y3 HB.out GE310.out)⟩
 ·replace c3 := Bool.eq_false_iff.mpr c3
  subst c3
  rw [if_neg (show ¬ (false = true) by decide)] at H
  obtain rfl := Option.some.inj H
  go_enter Try.func22, Try.ntmps22
  go_wp2_with (first | ((with_reducible refine gate_dst (N := 1) rfl ?_); refine zbx 1 #[.slice A0_0 l0_0.length c0_0] 30 ?_; intro gb310 hg w10 hbox hb; have BK310 := Aside0.mk hbox; have GW310 := Aside0.mk ((y5 hg HB.out : w.heap.size ≤ gb310)); have GE310 := Aside0.mk ((y5 hg HB.out : w.heap.size ≤ gb310)); replace HB := Aside0.mk (below_step (y2 HB.out) hb); clear hb hbox hg; have hcz11_0 := zh BK310; have hfz11_0 := zfr BK310 0) | ((with_reducible refine gate_callee (f := 16) rfl ?_); refine goesL_ (some 4) rfl rfl Try.func16 (by kernel_rfl) rfl #[.agg #[.slice A0_0 l0_0.length c0_0]] rfl y4 ?_; (with_reducible refine (spec_TypeOk.calls k _ _ l0_0 false _ ?side1 ?side2 A2.out).mono ?_); (case side1 => exact y8 HR0_0.out HB.out); (case side2 => exact HC0_0.out); rintro e w12 ⟨rfl, hb⟩; refine ⟨_, rfl, ?_⟩; replace BK310 := zbb BK310 hb; replace HB := Aside0.mk (below_step (y3 HB.out GE310.out) hb); (try clear hb); (try clear hb2); (try clear hk); (try clear hi)))
  go_ret
  exact ⟨y14, (y3 HB.out GE310.out)⟩
end Go.Proofs.Ytjhbhihfifhljaa.PA
end
section
namespace Go.Proofs.Ytjhbhihfifhljaa.PA
open Go.RowKit Go.Proofs.YtjhbhihfifhljaaW.PrintWords Go.Proofs.YtjhbhihfifhljaaW.PrintLast Go.Proofs.YtjhbhihfifhljaaW.PrintMore
attribute [local go_sem] max2_int min2_int max_two min_two max_three min_three max_four min_four
set_option linter.unusedVariables false
set_option linter.unusedSimpArgs false
def spec_DrawTypeText.f (k : Nat) (l0 : List Int) : Option ((List (S30))) := (spec_l6Open.f l0).bind fun bt339 => ((spec_l71Deep.f k bt339.1 bt339.2).bind fun bt342 => (some bt342.1))
theorem spec_DrawTypeText.mono : ∀ a0 k, LeO (spec_DrawTypeText.f k a0) (spec_DrawTypeText.f (k + 1) a0) := by
 intro a0 k
 unfold spec_DrawTypeText.f
 repeat' first
   | (with_reducible exact spec_l71Deep.mono _ _ _)
   | (with_reducible exact LeO.refl _)
   | (with_reducible exact LeO.none _)
   | (with_reducible refine LeO.ite ?_ ?_)
   | (with_reducible refine LeO.bind ?_ (fun _ => ?_))
   | exact spec_l71Deep.mono _ _ _
   | exact LeO.none _
   | refine LeO.ite ?_ ?_
   | refine LeO.bind ?_ (fun _ => ?_)
set_option maxHeartbeats 8000000 in
set_option maxRecDepth 100000 in
theorem spec_DrawTypeText.calls (k : Nat) (A0 : Option Addr) (c0 : Nat) (l0 : List Int) (r : List (S30)) (w : World) (hr0 : Kd.C (Kd.int .u8) w A0 l0.length l0) (hc0 : l0.length ≤ c0) (h : spec_DrawTypeText.f k l0 = some r) :
  Calls Try.prog 24 #[.slice A0 l0.length c0] w fun e w' => ∃ v0_ : Value, e = .returned (.agg #[v0_]) ∧ Kd.N k30 30 w' w.heap.size (fun k_ => (w.heap.size ≤ k_)) v0_ r ∧ Below w.heap.size w w' := by
 have hu30 := Try.underlying30
 have HR0 := Aside0.mk hr0
 have HC0 := Aside0.mk hc0
 clear hr0 hc0
 have HB := Aside0.mk (Below.refl w.heap.size w)
 have H : ((spec_l6Open.f l0).bind fun bt339 => ((spec_l71Deep.f k bt339.1 bt339.2).bind fun bt342 => (some bt342.1))) = some r := h
 clear h
 obtain ⟨⟨t339, t340⟩, A20, H⟩ := ob H
 have A2 := Aside0.mk A20
 clear A20
 obtain ⟨⟨t342, t345⟩, A30, H⟩ := ob H
 have A3 := Aside0.mk A30
 clear A30
 obtain rfl := Option.some.inj H
 go_enter Try.func24, Try.ntmps24
 go_wp2_with (first | ((with_reducible refine gate_dst (N := 2) rfl ?_); refine zbx 2 #[.slice none 0 0] 30 ?_; intro gb338 hg w4 hbox hb; have BK338 := Aside0.mk hbox; have GW338 := Aside0.mk ((y5 hg HB.out : w.heap.size ≤ gb338)); have GE338 := Aside0.mk ((y5 hg HB.out : w.heap.size ≤ gb338)); replace HB := Aside0.mk (below_step (y2 HB.out) hb); clear hb hbox hg) | ((with_reducible refine gate_callee (f := 52) rfl ?_); refine goesL_ (some 4) rfl rfl Try.func52 (by kernel_rfl) rfl #[.slice A0 l0.length c0] rfl y4 ?_; (with_reducible refine (spec_l6Open.calls _ _ l0 t339 t340 w _ ?side1 ?side2 ?side3 A2.out).mono ?_); (case side1 => exact y3 HB.out GE338.out); (case side2 => exact HR0.out); (case side3 => exact HC0.out); rintro e w5 ⟨g341, rfl, hi, hb, hb2⟩; refine ⟨_, rfl, ?_⟩; replace HB := Aside0.mk (hb); have HI341 := Aside0.mk (hi); have NB341_338 := Aside0.mk (IsS95.ne_blk hi (blk_below (g := gb338) (o := .cells #[.slice none 0 0] 30 (0, 0)) (y0 BK338.out) hb2) (by decide)); have NB338_341 := Aside0.mk (Ne.symm (IsS95.ne_blk hi (blk_below (g := gb338) (o := .cells #[.slice none 0 0] 30 (0, 0)) (y0 BK338.out) hb2) (by decide))); replace BK338 := Aside0.mk (blk_below (g := gb338) (o := .cells #[.slice none 0 0] 30 (0, 0)) (y0 BK338.out) hb2); (try clear hb); (try clear hb2); (try clear hk); (try clear hi)) | ((with_reducible refine gate_callee (f := 51) rfl ?_); refine goesL_ (some 5) rfl rfl Try.func51 (by kernel_rfl) rfl #[.pointer (some ⟨g341, 0, none⟩)] rfl y4 ?_; (with_reducible refine (spec_l71Deep.calls k g341 t339 t340 t342 t345 w _ ?side1 ?side2 A3.out).mono ?_); (case side1 => exact y24 HI341.out NB341_338.out); (case side2 => exact y23 HB.out HI341.out GE338.out); rintro e w6 ⟨v343, rfl, ho0, hi, hb, hk⟩; refine ⟨_, rfl, ?_⟩; have HO344 := Aside0.mk (Kd.N_lower (Kd.N_mono (ok' := fun k_ => (w.heap.size ≤ k_) ∧ k_ ≠ gb338 ∧ k_ ≠ g341) ho0 (fun k_ hk_ => ⟨(Nat.le_trans (below_size (y23 HB.out HI341.out GE338.out)) hk_), (Kd.freshB (g := gb338) (o := .cells #[.slice none 0 0] 30 (0, 0)) (y0 BK338.out) k_ hk_), (IsS95.fresh (y24 HI341.out NB341_338.out) k_ hk_)⟩)) (below_size (y23 HB.out HI341.out GE338.out))); replace BK338 := Aside0.mk (KeepBut.blk hk (g' := gb338) (o := .cells #[.slice none 0 0] 30 (0, 0)) (y0 BK338.out) NB338_341.out (by simp)); replace HB := Aside0.mk (hb); replace HI341 := Aside0.mk (hi); (try clear hb); (try clear hb2); (try clear hk); (try clear hi); (try clear ho0); obtain ⟨Ao7, co7, eo7⟩ := Kd.N_slice HO344.out; subst eo7; have hnb8 := NB338_341.out; have hnc8 := NB341_338.out; have hcz9_0 := zh BK338; have hfz9_0 := zfr BK338 0))
 refine bodyPost_ret (results_cell_row rfl _ _ gb338 30 #[.slice Ao7 t342.length co7] (0, 0) _ rfl (by (with_reducible repeat (first | refine blk_drewN ?_ _ | refine blk_drew ?_ | refine blk_alloc ?_ _)); apply blk_put (i := 0); (case h => exact y0 BK338.out); (case e => rfl)) Try.underlying30 rfl (by kernel_rfl)) rfl ?_
 exact ⟨_, y14, (by (with_reducible repeat (first | apply Kd.N_alloc | apply Kd.N_drewN | apply Kd.N_drew)); exact Kd.N_mono (Kd.N_far (p := ⟨gb338, 0, none⟩) (Kd.N_mono HO344.out (fun k_ hk => (⟨hk, hk.2.1⟩ : _ ∧ k_ ≠ gb338))) (fun _ hk => hk.2) (.slice Ao7 t342.length co7)) (fun _ hk => hk.1.1)), (y23 HB.out HI341.out GE338.out)⟩
end Go.Proofs.Ytjhbhihfifhljaa.PA
end
section
namespace Go.Proofs.Ytjhbhihfifhljaa.PA
open Go.RowKit Go.Proofs.YtjhbhihfifhljaaW.PrintWords Go.Proofs.YtjhbhihfifhljaaW.PrintLast Go.Proofs.YtjhbhihfifhljaaW.PrintMore
attribute [local go_sem] max2_int min2_int max_two min_two max_three min_three max_four min_four
set_option linter.unusedVariables false
set_option linter.unusedSimpArgs false
mutual
def laws_lhType.l0 : Nat → Int → List (S30) → List (S30) → Option (Bool)
 | 0, _, _, _ => none
 | k + 1, x5, x347000, x348000 => if x5 < (x347000.length : Int) then (if 0 ≤ x5 then (if x5 < (x348000.length : Int) then ((laws_lhType.f k ((rd_T30 x347000 x5).f0) ((rd_T30 x348000 x5).f0)).bind fun t350 => (if t350 = true then (laws_lhType.l0 k (wrap64 (x5 + 1)) x347000 x348000) else (some false))) else (none)) else (none)) else (some true)
def laws_lhType.f : Nat → List (S30) → List (S30) → Option (Bool)
 | 0, _, _ => none
 | k + 1, l0_0, l1_0 => if (l0_0.length : Int) = (l1_0.length : Int) then (laws_lhType.l0 k 0 l0_0 l1_0) else (some false)
end
theorem laws_lhType.mono_l : ∀ k, (∀ y0 y1, LeO (laws_lhType.f k y0 y1) (laws_lhType.f (k + 1) y0 y1)) ∧ (∀ y0 y1 y2, LeO (laws_lhType.l0 k y0 y1 y2) (laws_lhType.l0 (k + 1) y0 y1 y2))
 | 0 => ⟨fun _ _ r h => by simp [laws_lhType.f] at h, fun _ _ _ r h => by simp [laws_lhType.l0] at h⟩
 | k + 1 => by
  obtain ⟨ih0, ih1⟩ := laws_lhType.mono_l k
  refine ⟨?_, ?_⟩
  ·intro y0 y1
   unfold laws_lhType.f
   repeat' first
   | (with_reducible exact ih0 _ _)
   | (with_reducible exact ih1 _ _ _)
   | (with_reducible exact LeO.refl _)
   | (with_reducible exact LeO.none _)
   | (with_reducible refine LeO.ite ?_ ?_)
   | (with_reducible refine LeO.bind ?_ (fun _ => ?_))
   | exact ih0 _ _
   | exact ih1 _ _ _
   | exact LeO.none _
   | refine LeO.ite ?_ ?_
   | refine LeO.bind ?_ (fun _ => ?_)
  ·intro y0 y1 y2
   unfold laws_lhType.l0
   repeat' first
   | (with_reducible exact ih0 _ _)
   | (with_reducible exact ih1 _ _ _)
   | (with_reducible exact LeO.refl _)
   | (with_reducible exact LeO.none _)
   | (with_reducible refine LeO.ite ?_ ?_)
   | (with_reducible refine LeO.bind ?_ (fun _ => ?_))
   | exact ih0 _ _
   | exact ih1 _ _ _
   | exact LeO.none _
   | refine LeO.ite ?_ ?_
   | refine LeO.bind ?_ (fun _ => ?_)
theorem laws_lhType.mono : ∀ a0 a1 k, LeO (laws_lhType.f k a0 a1) (laws_lhType.f (k + 1) a0 a1) := by
 intro a0 a1 k
 obtain ⟨ih0, ih1⟩ := laws_lhType.mono_l k
 exact ih0 a0 a1
def laws_lhType.T6 : Bool × List (List Nat × List Nat) := (true, [([], []), ([0], [0]), ([], []), ([1, 2], [1, 2]), ([3], [3]), ([], []), ([5], [5]), ([], []), ([6, 7], [6, 7]), ([8], [8]), ([4, 9], [4, 9]), ([10], [10])])
def laws_lhType.B6 : List Nat := [0, 1, 0, 7, 15, 0, 32, 0, 224, 480, 1023, 2047]
theorem laws_lhType.tab6 : rtab .any (opsOf Try.f25 6) = laws_lhType.T6 := by kernel_rfl
theorem laws_lhType.bits6 : waitsOk laws_lhType.T6.2 laws_lhType.B6 = true := by kernel_rfl
set_option maxHeartbeats 8000000 in
set_option maxRecDepth 100000 in
theorem laws_lhType.calls (k : Nat) : ∀ (A0_0 : Option Addr) (c0_0 : Nat) (l0_0 : List (S30)) (A1_0 : Option Addr) (c1_0 : Nat) (l1_0 : List (S30)) (r : Bool) (w : World) (hr0_0 : Kd.C k30 w A0_0 l0_0.length l0_0) (hc0_0 : l0_0.length ≤ c0_0) (hr1_0 : Kd.C k30 w A1_0 l1_0.length l1_0) (hc1_0 : l1_0.length ≤ c1_0) (h : laws_lhType.f k l0_0 l1_0 = some r),
  Calls Try.prog 25 #[.agg #[.slice A0_0 l0_0.length c0_0], .agg #[.slice A1_0 l1_0.length c1_0]] w fun e w' => e = .returned (.bool r) ∧ Below w.heap.size w w' := by
 induction k using Nat.strongRecOn with
 | _ k ih =>
 intro A0_0 c0_0 l0_0 A1_0 c1_0 l1_0 r w hr0_0 hc0_0 hr1_0 hc1_0 h
 cases k with
 | zero => exact absurd h (by simp [laws_lhType.f])
 | succ k =>
 simp only [laws_lhType.f] at h
 have hu30 := Try.underlying30
 have HR0_0 := Aside0.mk hr0_0
 have HC0_0 := Aside0.mk hc0_0
 clear hr0_0 hc0_0
 have HR1_0 := Aside0.mk hr1_0
 have HC1_0 := Aside0.mk hc1_0
 clear hr1_0 hc1_0
 have HB := Aside0.mk (Below.refl w.heap.size w)
 have H : (if (l0_0.length : Int) = (l1_0.length : Int) then (laws_lhType.l0 k 0 l0_0 l1_0) else (some false)) = some r := h
 clear h
 by_cases c3 : (l0_0.length : Int) = (l1_0.length : Int)
 ·rw [if_pos c3] at H
  have c3b0 : ((l0_0.length : Int) == (l1_0.length : Int)) = true := beq_iff_eq.mpr c3
  have c3b1 : ((l0_0.length : Int) != (l1_0.length : Int)) = false := bne_eq_false_iff_eq.mpr c3
  have c3b2 : (l0_0.length == l1_0.length) = true := by first | simpa using c3 | (simp at c3 ⊢; omega)
  clear c3
  have H' := Aside0.mk H
  clear H
  go_enter Try.func25, Try.ntmps25
  go_wp2_with (first | ((with_reducible refine gate_dst (N := 2) rfl ?_); refine zbx 2 #[.slice A0_0 l0_0.length c0_0] 30 ?_; intro gb346 hg w4 hbox hb; have BK346 := Aside0.mk hbox; have GW346 := Aside0.mk ((y5 hg HB.out : w.heap.size ≤ gb346)); have GE346 := Aside0.mk ((y5 hg HB.out : w.heap.size ≤ gb346)); replace HB := Aside0.mk (below_step (y2 HB.out) hb); clear hb hbox hg) | ((with_reducible refine gate_dst (N := 3) rfl ?_); refine zbx 3 #[.slice A1_0 l1_0.length c1_0] 30 ?_; intro gb347 hg w5 hbox hb; have BK347 := Aside0.mk hbox; have GW347 := Aside0.mk ((y6 hg HB.out GE346.out : w.heap.size ≤ gb347)); have GE347 := Aside0.mk ((y6 hg HB.out GE346.out : w.heap.size ≤ gb347)); replace HB := Aside0.mk (below_step (y3 HB.out GE346.out) hb); have NB346_347 := zltn hg BK346; have NB347_346 := zgtn hg BK346; replace BK346 := zbb BK346 hb; clear hb hbox hg; have hnb6 := NB346_347.out; have hnc6 := NB347_346.out; have hcz7_0 := zh BK346; have hfz7_0 := zfr BK346 0; have hcz8_0 := zh BK347; have hfz8_0 := zfr BK347 0))
  go_loopg [5] k (fun kq v5 w' => ∃ (x5_1 : Int), v5 = .int .i64 x5_1 ∧ Aside0 (laws_lhType.l0 kq x5_1 l0_0 l1_0 = some r) ∧ Aside0 (kq ≤ k) ∧ Aside0 (w'.heap[gb346]? = some (.cells #[(.slice A0_0 l0_0.length c0_0)] 30 (0, 0))) ∧ Aside0 (w'.heap[gb347]? = some (.cells #[(.slice A1_0 l1_0.length c1_0)] 30 (0, 0))) ∧ Aside0 (Below w.heap.size w w'))
  case atStart => exact ⟨(0), y26, H', ⟨Nat.le_refl _⟩, ⟨(y0 BK346.out)⟩, ⟨(y0 BK347.out)⟩, ⟨(y1 HB.out GE346.out GE347.out)⟩⟩
  case round =>
   clear H'
   try clear c1
   try clear c2
   try clear p2
   try clear c3
   try clear c3b0
   try clear c3b1
   try clear c3b2
   try clear c6
   try clear hcz7_0
   try clear hcz8_0
   try clear hfz7_0
   try clear hfz8_0
   obtain ⟨x5_1, rfl, HA, HK1, BK346, BK347, HB⟩ := hrel
   cases gk with
   | zero => exact absurd HA.out (by simp [laws_lhType.l0])
   | succ k1 =>
    have H := HA.out
    clear HA
    simp only [laws_lhType.l0] at H
    by_cases c9 : x5_1 < (l0_0.length : Int)
    ·rw [if_pos c9] at H
     have c9b0 : decide (x5_1 < (l0_0.length : Int)) = true := decide_eq_true c9
     clear c9
     by_cases c10 : 0 ≤ x5_1
     ·rw [if_pos c10] at H
      have c10b0 : decide (0 ≤ x5_1) = true := decide_eq_true c10
      clear c10
      by_cases c11 : x5_1 < (l1_0.length : Int)
      ·rw [if_pos c11] at H
       have c11b0 : decide (x5_1 < (l1_0.length : Int)) = true := decide_eq_true c11
       clear c11
       obtain ⟨t350, A120, H⟩ := ob H
       have A12 := Aside0.mk A120
       clear A120
       by_cases c13 : t350 = true
       ·subst c13
        rw [if_pos rfl] at H
        have H' := Aside0.mk H
        clear H
        have hnb14 := NB346_347.out
        have hnc14 := NB347_346.out
        have hcz15_0 := zh BK346
        have hfz15_0 := zfr BK346 0
        try go_wp2
        replace BK346 := Aside0.mk (blk_drew BK346.out)
        replace BK347 := Aside0.mk (blk_drew BK347.out)
        replace HB := Aside0.mk (below_drew1 HB.out)
        have p348 : 0 ≤ (x5_1 : Int) := of_decide_eq_true y19
        have q348 : x5_1 < (l0_0.length : Int) := of_decide_eq_true y19
        obtain ⟨ad348, A348_0, c348_0, e348, hx348_0, hl348_0, hi348_0⟩ := at_T30 HR0_0.out x5_1 p348 q348
        have hw348_0 := hx348_0
        cases e348
        replace hx348_0 := (HB.out.cell (World.block_lt_of_cell? w _ hx348_0)).trans hx348_0
        have HR348_0 := Aside0.mk hi348_0
        have HC348_0 := Aside0.mk hl348_0
        clear hi348_0 hl348_0
        replace p348 := eq_true p348
        replace q348 := eq_true q348
        have p349 : 0 ≤ (x5_1 : Int) := of_decide_eq_true y19
        have q349 : x5_1 < (l1_0.length : Int) := of_decide_eq_true y19
        obtain ⟨ad349, A349_0, c349_0, e349, hx349_0, hl349_0, hi349_0⟩ := at_T30 HR1_0.out x5_1 p349 q349
        have hw349_0 := hx349_0
        cases e349
        replace hx349_0 := (HB.out.cell (World.block_lt_of_cell? w _ hx349_0)).trans hx349_0
        have HR349_0 := Aside0.mk hi349_0
        have HC349_0 := Aside0.mk hl349_0
        clear hi349_0 hl349_0
        replace p349 := eq_true p349
        replace q349 := eq_true q349
        refine start_ (n := 12) (S := fun w' => w'.cell? ⟨gb346, 0, none⟩ = some (.slice (some ad348) l0_0.length c0_0) ∧ w'.cell? ⟨gb347, 0, none⟩ = some (.slice (some ad349) l1_0.length c1_0) ∧ w'.cell? (ad348.add (x5_1).toNat) = some (.slice A348_0 ((rd_T30 l0_0 x5_1).f0).length c348_0) ∧ w'.cell? (ad349.add (x5_1).toNat) = some (.slice A349_0 ((rd_T30 l1_0 x5_1).f0).length c349_0)) (ds := []) #[false, false, false, false, false, false, false, false, false, false, false, false] (by kernel_rfl) rfl rfl ⟨(blk_cell BK346.out 0).trans rfl, (blk_cell BK347.out 0).trans rfl, ((HB.out.cell (World.block_lt_of_cell? w _ hw348_0)).trans hw348_0), ((HB.out.cell (World.block_lt_of_cell? w _ hw349_0)).trans hw349_0)⟩ (fun hHeld => ?_); refine with_tabW laws_lhType.tab6 laws_lhType.bits6 (fun HT_ HW_ => ?_)
        generalize wr.drew = w16 at BK346 BK347 HB HR348_0 HR349_0 hx348_0 hx349_0 hHeld ⊢
        refine zp 0 (some 20) HT_ ?_
        refine zp 2 (some 22) HT_ ?_
        refine zp 5 (some 25) HT_ ?_
        refine zp 7 (some 27) HT_ ?_
        refine zt4 1 (some 21) HT_ HW_ hHeld ?_
        refine zp 3 (some 23) HT_ ?_
        refine zt4 4 (some 24) HT_ HW_ hHeld ?_
        refine zt4 6 (some 26) HT_ HW_ hHeld ?_
        refine zp 8 (some 28) HT_ ?_
        refine zt4 9 (some 29) HT_ HW_ hHeld ?_
        refine one_ (i := 10) (N := some 30) #[true, true, true, true, true, true, true, true, true, true, true, false] rfl rfl (one_of HT_.out (by kernel_rfl)) (by decide) (fun K hK => ?_)
        refine goes_ Try.func25 (by kernel_rfl) rfl #[.agg #[.slice A348_0 ((rd_T30 l0_0 x5_1).f0).length c348_0], .agg #[.slice A349_0 ((rd_T30 l1_0 x5_1).f0).length c349_0]] (by rfl) rfl rfl y4 ?_
        with_reducible refine (ih k1 (y46 HK1.out) _ _ ((rd_T30 l0_0 x5_1).f0) _ _ ((rd_T30 l1_0 x5_1).f0) true _ ?side1 ?side2 ?side3 ?side4 A12.out).mono ?_
        (case side1 => exact y8 HR348_0.out HB.out)
        (case side2 => exact HC348_0.out)
        (case side3 => exact y8 HR349_0.out HB.out)
        (case side4 => exact HC349_0.out)
        rintro e w17 ⟨rfl, hb⟩
        refine ⟨_, rfl, ?_⟩
        replace BK346 := zbb BK346 hb
        replace BK347 := zbb BK347 hb
        replace HB := Aside0.mk (below_step (y1 HB.out GE346.out GE347.out) hb)
        (try clear hb)
        (try clear hb2)
        (try clear hk)
        (try clear hi)
        refine hK.out _ _ ⟨(blk_cell BK346.out 0).trans rfl, (blk_cell BK347.out 0).trans rfl, ((HB.out.cell (World.block_lt_of_cell? w _ hw348_0)).trans hw348_0), ((HB.out.cell (World.block_lt_of_cell? w _ hw349_0)).trans hw349_0)⟩ (fun hHeld => ?_)
        clear hK K
        refine norm_ (a' := ?_) ?_ ?_
        rotate_left
        ·show Act.put _ (some 30) _ = _
         simp only [Act.put, List.setIfInBounds_toArray, List.set_cons_zero, List.set_cons_succ, i64_w, i32_w]
         rfl
        refine zp 11 (some 31) HT_ ?_
        refine done_ (done_of HT_.out (by kernel_rfl)) ?_
        try go_wp2
        go_roundg k1
        case measure => have := HK1.out; omega
        case rel => exact ⟨(wrap64 (x5_1 + 1)), y26, H', ⟨(y46 HK1.out)⟩, ⟨(y0 BK346.out)⟩, ⟨(y0 BK347.out)⟩, ⟨(y1 HB.out GE346.out GE347.out)⟩⟩
       ·replace c13 := Bool.eq_false_iff.mpr c13
        subst c13
        rw [if_neg (show ¬ (false = true) by decide)] at H
        obtain rfl := Option.some.inj H
        have hnb18 := NB346_347.out
        have hnc18 := NB347_346.out
        have hcz19_0 := zh BK346
        have hfz19_0 := zfr BK346 0
        try go_wp2
        replace BK346 := Aside0.mk (blk_drew BK346.out)
        replace BK347 := Aside0.mk (blk_drew BK347.out)
        replace HB := Aside0.mk (below_drew1 HB.out)
        have p348 : 0 ≤ (x5_1 : Int) := of_decide_eq_true y19
        have q348 : x5_1 < (l0_0.length : Int) := of_decide_eq_true y19
        obtain ⟨ad348, A348_0, c348_0, e348, hx348_0, hl348_0, hi348_0⟩ := at_T30 HR0_0.out x5_1 p348 q348
        have hw348_0 := hx348_0
        cases e348
        replace hx348_0 := (HB.out.cell (World.block_lt_of_cell? w _ hx348_0)).trans hx348_0
        have HR348_0 := Aside0.mk hi348_0
        have HC348_0 := Aside0.mk hl348_0
        clear hi348_0 hl348_0
        replace p348 := eq_true p348
        replace q348 := eq_true q348
        have p349 : 0 ≤ (x5_1 : Int) := of_decide_eq_true y19
        have q349 : x5_1 < (l1_0.length : Int) := of_decide_eq_true y19
        obtain ⟨ad349, A349_0, c349_0, e349, hx349_0, hl349_0, hi349_0⟩ := at_T30 HR1_0.out x5_1 p349 q349
        have hw349_0 := hx349_0
        cases e349
        replace hx349_0 := (HB.out.cell (World.block_lt_of_cell? w _ hx349_0)).trans hx349_0
        have HR349_0 := Aside0.mk hi349_0
        have HC349_0 := Aside0.mk hl349_0
        clear hi349_0 hl349_0
        replace p349 := eq_true p349
        replace q349 := eq_true q349
        refine start_ (n := 12) (S := fun w' => w'.cell? ⟨gb346, 0, none⟩ = some (.slice (some ad348) l0_0.length c0_0) ∧ w'.cell? ⟨gb347, 0, none⟩ = some (.slice (some ad349) l1_0.length c1_0) ∧ w'.cell? (ad348.add (x5_1).toNat) = some (.slice A348_0 ((rd_T30 l0_0 x5_1).f0).length c348_0) ∧ w'.cell? (ad349.add (x5_1).toNat) = some (.slice A349_0 ((rd_T30 l1_0 x5_1).f0).length c349_0)) (ds := []) #[false, false, false, false, false, false, false, false, false, false, false, false] (by kernel_rfl) rfl rfl ⟨(blk_cell BK346.out 0).trans rfl, (blk_cell BK347.out 0).trans rfl, ((HB.out.cell (World.block_lt_of_cell? w _ hw348_0)).trans hw348_0), ((HB.out.cell (World.block_lt_of_cell? w _ hw349_0)).trans hw349_0)⟩ (fun hHeld => ?_); refine with_tabW laws_lhType.tab6 laws_lhType.bits6 (fun HT_ HW_ => ?_)
        generalize wr.drew = w20 at BK346 BK347 HB HR348_0 HR349_0 hx348_0 hx349_0 hHeld ⊢
        refine zp 0 (some 20) HT_ ?_
        refine zp 2 (some 22) HT_ ?_
        refine zp 5 (some 25) HT_ ?_
        refine zp 7 (some 27) HT_ ?_
        refine zt4 1 (some 21) HT_ HW_ hHeld ?_
        refine zp 3 (some 23) HT_ ?_
        refine zt4 4 (some 24) HT_ HW_ hHeld ?_
        refine zt4 6 (some 26) HT_ HW_ hHeld ?_
        refine zp 8 (some 28) HT_ ?_
        refine zt4 9 (some 29) HT_ HW_ hHeld ?_
        refine one_ (i := 10) (N := some 30) #[true, true, true, true, true, true, true, true, true, true, true, false] rfl rfl (one_of HT_.out (by kernel_rfl)) (by decide) (fun K hK => ?_)
        refine goes_ Try.func25 (by kernel_rfl) rfl #[.agg #[.slice A348_0 ((rd_T30 l0_0 x5_1).f0).length c348_0], .agg #[.slice A349_0 ((rd_T30 l1_0 x5_1).f0).length c349_0]] (by rfl) rfl rfl y4 ?_
        with_reducible refine (ih k1 (y46 HK1.out) _ _ ((rd_T30 l0_0 x5_1).f0) _ _ ((rd_T30 l1_0 x5_1).f0) false _ ?side1 ?side2 ?side3 ?side4 A12.out).mono ?_
        (case side1 => exact y8 HR348_0.out HB.out)
        (case side2 => exact HC348_0.out)
        (case side3 => exact y8 HR349_0.out HB.out)
        (case side4 => exact HC349_0.out)
        rintro e w21 ⟨rfl, hb⟩
        refine ⟨_, rfl, ?_⟩
        replace BK346 := zbb BK346 hb
        replace BK347 := zbb BK347 hb
        replace HB := Aside0.mk (below_step (y1 HB.out GE346.out GE347.out) hb)
        (try clear hb)
        (try clear hb2)
        (try clear hk)
        (try clear hi)
        refine hK.out _ _ ⟨(blk_cell BK346.out 0).trans rfl, (blk_cell BK347.out 0).trans rfl, ((HB.out.cell (World.block_lt_of_cell? w _ hw348_0)).trans hw348_0), ((HB.out.cell (World.block_lt_of_cell? w _ hw349_0)).trans hw349_0)⟩ (fun hHeld => ?_)
        clear hK K
        refine norm_ (a' := ?_) ?_ ?_
        rotate_left
        ·show Act.put _ (some 30) _ = _
         simp only [Act.put, List.setIfInBounds_toArray, List.set_cons_zero, List.set_cons_succ, i64_w, i32_w]
         rfl
        refine zp 11 (some 31) HT_ ?_
        refine done_ (done_of HT_.out (by kernel_rfl)) ?_
        try go_wp2
        go_ret
        exact ⟨y14, (y1 HB.out GE346.out GE347.out)⟩
      ·rw [if_neg c11] at H
       exact absurd H (by simp)
     ·rw [if_neg c10] at H
      exact absurd H (by simp)
    ·rw [if_neg c9] at H
     have c9b0 : decide (x5_1 < (l0_0.length : Int)) = false := decide_eq_false c9
     clear c9
     obtain rfl := Option.some.inj H
     have hnb22 := NB346_347.out
     have hnc22 := NB347_346.out
     have hcz23_0 := zh BK346
     have hfz23_0 := zfr BK346 0
     go_wp2
     go_ret
     exact ⟨y14, (y1 HB.out GE346.out GE347.out)⟩
 ·rw [if_neg c3] at H
  have c3b0 : ((l0_0.length : Int) == (l1_0.length : Int)) = false := beq_eq_false_iff_ne.mpr c3
  have c3b1 : ((l0_0.length : Int) != (l1_0.length : Int)) = true := bne_iff_ne.mpr c3
  have c3b2 : (l0_0.length == l1_0.length) = false := by first | simpa using c3 | (simp at c3 ⊢; omega)
  obtain rfl := Option.some.inj H
  go_enter Try.func25, Try.ntmps25
  go_wp2_with (first | ((with_reducible refine gate_dst (N := 2) rfl ?_); refine zbx 2 #[.slice A0_0 l0_0.length c0_0] 30 ?_; intro gb346 hg w24 hbox hb; have BK346 := Aside0.mk hbox; have GW346 := Aside0.mk ((y5 hg HB.out : w.heap.size ≤ gb346)); have GE346 := Aside0.mk ((y5 hg HB.out : w.heap.size ≤ gb346)); replace HB := Aside0.mk (below_step (y2 HB.out) hb); clear hb hbox hg) | ((with_reducible refine gate_dst (N := 3) rfl ?_); refine zbx 3 #[.slice A1_0 l1_0.length c1_0] 30 ?_; intro gb347 hg w25 hbox hb; have BK347 := Aside0.mk hbox; have GW347 := Aside0.mk ((y6 hg HB.out GE346.out : w.heap.size ≤ gb347)); have GE347 := Aside0.mk ((y6 hg HB.out GE346.out : w.heap.size ≤ gb347)); replace HB := Aside0.mk (below_step (y3 HB.out GE346.out) hb); have NB346_347 := zltn hg BK346; have NB347_346 := zgtn hg BK346; replace BK346 := zbb BK346 hb; clear hb hbox hg; have hnb26 := NB346_347.out; have hnc26 := NB347_346.out; have hcz27_0 := zh BK346; have hfz27_0 := zfr BK346 0; have hcz28_0 := zh BK347; have hfz28_0 := zfr BK347 0))
  go_ret
  exact ⟨y14, (y1 HB.out GE346.out GE347.out)⟩
end Go.Proofs.Ytjhbhihfifhljaa.PA
end
section
namespace Go.Proofs.Ytjhbhihfifhljaa.Types
open Go.RowKit Go.Proofs.Ytjhbhihfifhljaa.PA Go.Proofs.YtjhbhihfifhljaaW.PrintWords Go.Proofs.YtjhbhihfifhljaaW.PrintLast Go.Proofs.Ytjhbhihfifhljaa.Draw
abbrev Ty := List S30
theorem rd0 (a : S30) (l : Ty) : rd_T30 (a :: l) 0 = a := rfl
theorem rd1 (a b : S30) (l : Ty) : rd_T30 (a :: b :: l) 1 = b := rfl
def dp : Nat → Ty → Bool
  | 0, _ => false
  | _ + 1, [] => true
  | n + 1, [a, b] => dp n a.f0 && dp n b.f0
  | _ + 1, _ => false
theorem dp_nil (n : Nat) : dp (n + 1) [] = true := rfl
theorem dp_two (n : Nat) (a b : S30) : dp (n + 1) [a, b] = (dp n a.f0 && dp n b.f0) := rfl
theorem dp_odd (n : Nat) (l : Ty) (h0 : l.length ≠ 0) (h2 : l.length ≠ 2) : dp n l = false := by
  cases n with
  | zero => rfl
  | succ n =>
    match l with
    | [] => simp at h0
    | [_] => rfl
    | [_, _] => simp at h2
    | _ :: _ :: _ :: _ => rfl
theorem two_of {l : Ty} (h : l.length = 2) : ∃ a b, l = [a, b] := by
  match l with
  | [a, b] => exact ⟨a, b, rfl⟩
theorem shape (l : Ty) : l = [] ∨ (∃ a b, l = [a, b]) ∨ (l.length ≠ 0 ∧ l.length ≠ 2) := by
  match l with
  | [] => exact .inl rfl
  | [_] => exact .inr (.inr ⟨by simp, by simp⟩)
  | [a, b] => exact .inr (.inl ⟨a, b, rfl⟩)
  | _ :: _ :: _ :: _ => exact .inr (.inr ⟨by simp, by simp⟩)
theorem pred_cast (n : Nat) (hn : n ≤ 1000) : wrap64 (((n + 1 : Nat) : Int) - 1) = (n : Int) := by rw [w64 (by omega) (by omega)]; omega
theorem deep_ev : ∀ (n : Nat), n ≤ 1000 → ∀ (l : Ty) (k : Nat), 5 * n + 3 ≤ k → spec_l1Deep.f k l n = some (dp n l) := by
  intro n
  induction n with
  | zero =>
    intro _ l k hk
    obtain ⟨k, rfl⟩ : ∃ m, k = m + 2 := ⟨k - 2, by omega⟩
    simp only [spec_l1Deep.f]
    rw [if_pos (by omega)]
    simp only [spec_l1Deep.j0, if_true]
    rfl
  | succ n ih =>
    intro hn l k hk
    obtain ⟨k, rfl⟩ : ∃ m, k = m + 5 := ⟨k - 5, by omega⟩
    have hp := pred_cast n (by omega)
    simp only [spec_l1Deep.f]
    rw [if_neg (by omega)]
    rcases shape l with rfl | ⟨a, b, rfl⟩ | ⟨h0, h2⟩
    · rw [if_pos (by simp)]
      simp only [spec_l1Deep.j0, spec_l1Deep.l0]
      rw [if_neg (by simp), if_neg (by simp)]
      rfl
    · rw [if_neg (by simp)]
      simp only [spec_l1Deep.j0]
      rw [if_neg (by simp)]
      simp only [spec_l1Deep.l0, hp, w01, w12]
      rw [if_pos (by simp), if_pos (by omega), rd0, ih (by omega) _ _ (by omega), dp_two]
      simp only [Option.bind_some]
      cases ha : dp n a.f0 with
      | false => simp
      | true =>
        rw [if_pos rfl, if_pos (by simp), if_pos (by omega), rd1, ih (by omega) _ _ (by omega)]
        simp only [Option.bind_some]
        cases hb : dp n b.f0 with
        | false => simp
        | true => rw [if_pos rfl, if_neg (by simp)]; rfl
    · rw [if_neg (by omega), dp_odd _ _ h0 h2]
      simp only [spec_l1Deep.j0]
      rw [if_pos (by simp; omega)]
theorem specOk_ev (l : Ty) (k : Nat) (hk : 23 ≤ k) : spec_TypeOk.f k l = some (dp 4 l) := by
  unfold spec_TypeOk.f
  rw [show (4 : Int) = ((4 : Nat) : Int) from rfl, deep_ev 4 (by omega) l k (by omega)]; rfl
theorem fits_ev : ∀ (n : Nat), n ≤ 1000 → ∀ (l : Ty) (k : Nat), n + 1 ≤ k → impl_typeFits.f k l n = some (dp n l) := by
  intro n
  induction n with
  | zero =>
    intro _ l k hk
    obtain ⟨k, rfl⟩ : ∃ m, k = m + 1 := ⟨k - 1, by omega⟩
    simp only [impl_typeFits.f]
    rw [if_pos (by omega)]; rfl
  | succ n ih =>
    intro hn l k hk
    obtain ⟨k, rfl⟩ : ∃ m, k = m + 1 := ⟨k - 1, by omega⟩
    have hp := pred_cast n (by omega)
    simp only [impl_typeFits.f]
    rw [if_neg (by omega)]
    rcases shape l with rfl | ⟨a, b, rfl⟩ | ⟨h0, h2⟩
    · rw [if_pos (by simp)]; rfl
    · rw [if_neg (by simp), if_pos (by simp), if_pos (by simp), hp, rd0, ih (by omega) _ _ (by omega), dp_two]
      simp only [Option.bind_some]
      cases ha : dp n a.f0 with
      | false => simp
      | true => rw [if_pos rfl, if_pos (by simp), rd1, ih (by omega) _ _ (by omega)]; simp
    · rw [if_neg (by omega), if_neg (by omega), dp_odd _ _ h0 h2]
theorem implOk_ev (l : Ty) (k : Nat) (hk : 5 ≤ k) : impl_TypeOk.f k l = some (dp 4 l) := by
  unfold impl_TypeOk.f
  rw [show (4 : Int) = ((4 : Nat) : Int) from rfl, fits_ev 4 (by omega) l k (by omega)]; rfl
def tx : Nat → Ty → ByteArray
  | n + 1, [a, b] => ((((⟨#[40]⟩ : ByteArray) ++ tx n a.f0) ++ (⟨#[44]⟩ : ByteArray)) ++ tx n b.f0) ++ (⟨#[41]⟩ : ByteArray)
  | _, _ => ⟨#[105]⟩
theorem tx_two (n : Nat) (a b : S30) : tx (n + 1) [a, b] = ((((⟨#[40]⟩ : ByteArray) ++ tx n a.f0) ++ (⟨#[44]⟩ : ByteArray)) ++ tx n b.f0) ++ (⟨#[41]⟩ : ByteArray) := rfl
theorem tx_nil (n : Nat) : tx n [] = ⟨#[105]⟩ := by cases n <;> rfl
theorem tx_size (n : Nat) : ∀ l, (tx n l).size + 3 ≤ 4 * 2 ^ n := by
  induction n with
  | zero => intro l; simp [tx]; decide
  | succ n ih =>
    intro l
    have hp : 1 ≤ 2 ^ n := Nat.one_le_two_pow
    have h1 : (⟨#[105]⟩ : ByteArray).size = 1 := rfl
    rw [Nat.pow_succ]
    match l with
    | [a, b] =>
      have ha := ih a.f0
      have hb := ih b.f0
      rw [tx_two]
      simp only [ByteArray.size_append, show (⟨#[40]⟩ : ByteArray).size = 1 from rfl, show (⟨#[44]⟩ : ByteArray).size = 1 from rfl, show (⟨#[41]⟩ : ByteArray).size = 1 from rfl]
      omega
    | [] => show (⟨#[105]⟩ : ByteArray).size + 3 ≤ _; omega
    | [_] => show (⟨#[105]⟩ : ByteArray).size + 3 ≤ _; omega
    | _ :: _ :: _ :: _ => show (⟨#[105]⟩ : ByteArray).size + 3 ≤ _; omega
theorem say_ev : ∀ (n : Nat), n ≤ 20 → ∀ (l : Ty) (k : Nat), dp n l = true → n + 1 ≤ k → spec_l1Say.f k l = some (tx n l) := by
  intro n
  induction n with
  | zero => intro _ l k h; simp [dp] at h
  | succ n ih =>
    intro hn l k h hk
    obtain ⟨k, rfl⟩ : ∃ m, k = m + 1 := ⟨k - 1, by omega⟩
    simp only [spec_l1Say.f]
    rcases shape l with rfl | ⟨a, b, rfl⟩ | ⟨h0, h2⟩
    · rw [if_pos (by simp)]; rfl
    · rw [dp_two, Bool.and_eq_true] at h
      have s1 := tx_size n a.f0
      have s2 := tx_size n b.f0
      have hup : 2 ^ n ≤ 2 ^ 20 := Nat.pow_le_pow_right (by decide) (by omega)
      have e20 : (2 : Nat) ^ 20 = 1048576 := rfl
      rw [if_neg (by simp), if_pos (by simp), rd0, ih (by omega) _ _ h.1 (by omega)]
      simp only [Option.bind_some]
      rw [if_pos (by omega), if_pos (by omega), if_pos (by simp), rd1, ih (by omega) _ _ h.2 (by omega)]
      simp only [Option.bind_some]
      rw [if_pos (by omega), if_pos (by omega), tx_two]
    · rw [dp_odd _ _ h0 h2] at h; cases h
theorem words_ev : ∀ (n : Nat), n ≤ 20 → ∀ (l : Ty) (k : Nat), dp n l = true → n + 1 ≤ k → impl_typeWords.f k l = some (tx n l) := by
  intro n
  induction n with
  | zero => intro _ l k h; simp [dp] at h
  | succ n ih =>
    intro hn l k h hk
    obtain ⟨k, rfl⟩ : ∃ m, k = m + 1 := ⟨k - 1, by omega⟩
    simp only [impl_typeWords.f, impl_typeIsNum.f, Option.bind_some]
    rcases shape l with rfl | ⟨a, b, rfl⟩ | ⟨h0, h2⟩
    · rw [if_pos (by simp)]; rfl
    · rw [dp_two, Bool.and_eq_true] at h
      have s1 := tx_size n a.f0
      have s2 := tx_size n b.f0
      have hup : 2 ^ n ≤ 2 ^ 20 := Nat.pow_le_pow_right (by decide) (by omega)
      have e20 : (2 : Nat) ^ 20 = 1048576 := rfl
      rw [if_neg (by simp), if_pos (by simp), rd0, ih (by omega) _ _ h.1 (by omega)]
      simp only [Option.bind_some]
      rw [if_pos (by omega), if_pos (by omega), if_pos (by simp), rd1, ih (by omega) _ _ h.2 (by omega)]
      simp only [Option.bind_some]
      rw [if_pos (by omega), if_pos (by omega), tx_two]
    · rw [dp_odd _ _ h0 h2] at h; cases h
def text (l : Ty) : ByteArray := if dp 4 l = true then tx 4 l else ⟨#[]⟩
theorem specText_ev (l : Ty) (k : Nat) (hk : 23 ≤ k) : spec_TypeText.f k l = some (text l) := by
  unfold spec_TypeText.f text
  rw [specOk_ev l k hk]
  simp only [Option.bind_some]
  by_cases h : dp 4 l = true
  · rw [if_pos h, if_pos h, say_ev 4 (by omega) l k h (by omega)]; rfl
  · rw [if_neg h, if_neg h]
theorem implText_ev (l : Ty) (k : Nat) (hk : 5 ≤ k) : impl_TypeText.f k l = some (text l) := by
  unfold impl_TypeText.f text
  rw [implOk_ev l k hk]
  simp only [Option.bind_some]
  by_cases h : dp 4 l = true
  · rw [if_pos h, if_pos h, words_ev 4 (by omega) l k h (by omega)]; rfl
  · rw [if_neg h, if_neg h]
def teq : Nat → Ty → Ty → Bool
  | _ + 1, [], [] => true
  | n + 1, [a, b], [c, d] => teq n a.f0 c.f0 && teq n b.f0 d.f0
  | _, _, _ => false
theorem lh_ev : ∀ (n : Nat) (a b : Ty) (k : Nat), dp n a = true → dp n b = true → 4 * n ≤ k → laws_lhType.f k a b = some (teq n a b) := by
  intro n
  induction n with
  | zero => intro a b k h; simp [dp] at h
  | succ n ih =>
    intro a b k ha hb hk
    obtain ⟨k, rfl⟩ : ∃ m, k = m + 4 := ⟨k - 4, by omega⟩
    simp only [laws_lhType.f]
    rcases shape a with rfl | ⟨a1, a2, rfl⟩ | ⟨h0, h2⟩
    · rcases shape b with rfl | ⟨b1, b2, rfl⟩ | ⟨h0, h2⟩
      · rw [if_pos rfl]; simp only [laws_lhType.l0]; rw [if_neg (by simp)]; rfl
      · rw [if_neg (by simp)]; rfl
      · rw [dp_odd _ _ h0 h2] at hb; cases hb
    · rcases shape b with rfl | ⟨b1, b2, rfl⟩ | ⟨h0, h2⟩
      · rw [if_neg (by simp)]; rfl
      · rw [dp_two, Bool.and_eq_true] at ha hb
        rw [if_pos (by simp)]
        simp only [laws_lhType.l0, w01, w12]
        rw [if_pos (by simp), if_pos (by omega), if_pos (by simp), rd0, rd0, ih _ _ _ ha.1 hb.1 (by omega)]
        simp only [Option.bind_some]
        have e : teq (n + 1) [a1, a2] [b1, b2] = (teq n a1.f0 b1.f0 && teq n a2.f0 b2.f0) := rfl
        rw [e]
        cases h1 : teq n a1.f0 b1.f0 with
        | false => simp
        | true =>
          rw [if_pos rfl, if_pos (by simp), if_pos (by omega), if_pos (by simp), rd1, rd1, ih _ _ _ ha.2 hb.2 (by omega)]
          simp only [Option.bind_some]
          cases h2 : teq n a2.f0 b2.f0 with
          | false => simp
          | true => rw [if_pos rfl, if_neg (by simp)]; rfl
      · rw [dp_odd _ _ h0 h2] at hb; cases hb
    · rw [dp_odd _ _ h0 h2] at ha; cases ha
theorem teq_eq : ∀ (n : Nat) (a b : Ty), teq n a b = true → a = b := by
  intro n
  induction n with
  | zero => intro a b h; simp [teq] at h
  | succ n ih =>
    intro a b h
    unfold teq at h
    split at h
    · rfl
    · rename_i m x y z u he
      cases he
      rw [Bool.and_eq_true] at h
      have h1 := ih _ _ h.1
      have h2 := ih _ _ h.2
      cases x; cases y; cases z; cases u
      simp_all
    · cases h
theorem teq_refl : ∀ (n : Nat) (a : Ty), dp n a = true → teq n a a = true := by
  intro n
  induction n with
  | zero => intro a h; simp [dp] at h
  | succ n ih =>
    intro a h
    rcases shape a with rfl | ⟨a1, a2, rfl⟩ | ⟨h0, h2⟩
    · rfl
    · rw [dp_two, Bool.and_eq_true] at h
      show (teq n a1.f0 a1.f0 && teq n a2.f0 a2.f0) = true
      rw [ih _ h.1, ih _ h.2]; rfl
    · rw [dp_odd _ _ h0 h2] at h; cases h
theorem toList_app (a b : ByteArray) : (a ++ b).toList = a.toList ++ b.toList := by
  rw [ByteArray.toList_eq, ByteArray.toList_eq, ByteArray.toList_eq]; simp
theorem lit_toList (c : UInt8) : (⟨#[c]⟩ : ByteArray).toList = [c] := by rw [ByteArray.toList_eq]
theorem tx_inj : ∀ (n : Nat) (a b : Ty) (r s : List UInt8), dp n a = true → dp n b = true → (tx n a).toList ++ r = (tx n b).toList ++ s → teq n a b = true ∧ r = s := by
  intro n
  induction n with
  | zero => intro a b r s h; simp [dp] at h
  | succ n ih =>
    intro a b r s ha hb h
    rcases shape a with rfl | ⟨a1, a2, rfl⟩ | ⟨h0, h2⟩
    · rcases shape b with rfl | ⟨b1, b2, rfl⟩ | ⟨h0, h2⟩
      · rw [tx_nil] at h
        exact ⟨rfl, List.append_cancel_left h⟩
      · rw [tx_nil, tx_two] at h
        simp only [toList_app, lit_toList, List.cons_append, List.nil_append, List.append_assoc] at h
        injection h with h1 _
        exact absurd h1 (by decide)
      · rw [dp_odd _ _ h0 h2] at hb; cases hb
    · rcases shape b with rfl | ⟨b1, b2, rfl⟩ | ⟨h0, h2⟩
      · rw [tx_nil, tx_two] at h
        simp only [toList_app, lit_toList, List.cons_append, List.nil_append, List.append_assoc] at h
        injection h with h1 _
        exact absurd h1 (by decide)
      · rw [dp_two, Bool.and_eq_true] at ha hb
        rw [tx_two, tx_two] at h
        simp only [toList_app, lit_toList, List.cons_append, List.nil_append, List.append_assoc] at h
        injection h with _ h
        obtain ⟨e1, h⟩ := ih _ _ _ _ ha.1 hb.1 h
        injection h with _ h
        obtain ⟨e2, h⟩ := ih _ _ _ _ ha.2 hb.2 h
        injection h with _ h
        refine ⟨?_, h⟩
        show (teq n a1.f0 b1.f0 && teq n a2.f0 b2.f0) = true
        rw [e1, e2]; rfl
      · rw [dp_odd _ _ h0 h2] at hb; cases hb
    · rw [dp_odd _ _ h0 h2] at ha; cases ha
theorem text_teq (a b : Ty) (ha : dp 4 a = true) (hb : dp 4 b = true) : ((text a).toList == (text b).toList) = teq 4 a b := by
  unfold text
  rw [if_pos ha, if_pos hb]
  by_cases h : (tx 4 a).toList = (tx 4 b).toList
  · rw [beq_iff_eq.2 h, (tx_inj 4 a b [] [] ha hb (by simpa using h)).1]
  · cases e : teq 4 a b with
    | false => exact beq_eq_false_iff_ne.2 h
    | true => exact absurd (by rw [teq_eq _ _ _ e]) h
theorem tx_pos (n : Nat) (l : Ty) : 0 < (tx n l).size := by
  unfold tx
  split
  · simp only [ByteArray.size_append, show (⟨#[40]⟩ : ByteArray).size = 1 from rfl]; omega
  · decide
theorem deepLoop_ev (s : List Int) (p : Int) : ∀ (d i : Nat), i + d = 5 → ∀ (l : Ty), ∃ r, (∀ k' , d + 1 ≤ k' → spec_l71Deep.l0 k' i s p l = some (r, p)) ∧ ∀ n, Dph n l → Dph (n + d) r := by
  intro d
  induction d with
  | zero =>
    intro i hi l
    have hh : ∀ k', 0 + 1 ≤ k' → spec_l71Deep.l0 k' i s p l = some (l, p) := by
      intro k' hk'
      obtain ⟨k', rfl⟩ : ∃ m, k' = m + 1 := ⟨k' - 1, by omega⟩
      simp only [spec_l71Deep.l0]
      rw [if_neg (by omega)]
    exact ⟨l, hh, fun n h => h⟩
  | succ d ih =>
    intro i hi l
    obtain ⟨r, hr, hd⟩ := ih (i + 1) (by omega) [⟨l⟩, ⟨[]⟩]
    have hh : ∀ k', d + 1 + 1 ≤ k' → spec_l71Deep.l0 k' i s p l = some (r, p) := by
      intro k' hk'
      obtain ⟨k', rfl⟩ : ∃ m, k' = m + 1 := ⟨k' - 1, by omega⟩
      simp only [spec_l71Deep.l0]
      rw [if_pos (by omega), w64 (by omega) (by omega)]
      exact hr k' (by omega)
    refine ⟨r, hh, fun n h => ?_⟩
    have := hd (n + 1) (by
      intro x hx
      rcases List.mem_cons.1 hx with rfl | hx
      · exact h
      · rw [List.mem_singleton.1 hx]; exact dph_nil _)
    rwa [show n + (d + 1) = n + 1 + d from by omega]
theorem dph_mono : ∀ (n : Nat) (l : Ty), Dph n l → Dph (n + 1) l := by
  intro n
  induction n with
  | zero => intro l h; rw [show l = [] from h]; exact dph_nil _
  | succ n ih => intro l h x hx; exact ih _ (h x hx)
theorem dph_le (n m : Nat) (h : n ≤ m) (l : Ty) (hd : Dph n l) : Dph m l := by
  induction m with
  | zero => obtain rfl : n = 0 := by omega
            exact hd
  | succ m ih =>
    by_cases e : n = m + 1
    · subst e; exact hd
    · exact dph_mono _ _ (ih (by omega))
theorem l71Deep_ev (s : List Int) (hs : Bytes s) (p : Int) (hp : 0 ≤ p) (hp1 : p ≤ 1099511627000) : ∃ r q, (∀ k, 20 ≤ k → spec_l71Deep.f k s p = some (r, q)) ∧ p ≤ q ∧ q ≤ p + 100 ∧ Dph 10 r := by
  obtain ⟨c, hc, c0, c1⟩ := pick_ev s hs p 4 hp (by omega) (by omega)
  obtain ⟨cn, rfl⟩ := Int.eq_ofNat_of_zero_le c0
  have hpow : (2 : Int) ^ (1 + cn) ≤ 16 := by
    have : (2 : Nat) ^ (1 + cn) ≤ 2 ^ 4 := Nat.pow_le_pow_right (by decide) (by omega)
    exact_mod_cast this
  obtain ⟨t, q1, ht, hl, hq1, hq2, dt⟩ := type_ev s hs (1 + cn) (by omega) (p + 1) (by omega) (by omega)
  obtain ⟨c', hc', c0', c1'⟩ := pick_ev s hs q1 12 (by omega) (by omega) (by omega)
  have ew : wrap64 (1 + (cn : Int)) = ((1 + cn : Nat) : Int) := by rw [w64 (by omega) (by omega)]; omega
  obtain ⟨rl, hrl, hrd⟩ := deepLoop_ev s (q1 + 1) 5 0 rfl t
  have hh : ∃ r, (∀ k, 20 ≤ k → spec_l71Deep.f k s p = some (r, q1 + 1)) ∧ Dph 10 r := by
    by_cases e0 : c' = 0
    · refine ⟨rl, fun k hk => ?_, dph_le _ _ (by omega) _ (hrd _ dt)⟩
      unfold spec_l71Deep.f
      rw [hc k (by omega)]; simp only [Option.bind_some]
      rw [ew, ht k (by omega)]; simp only [Option.bind_some]
      rw [hc' k (by omega)]; simp only [Option.bind_some]
      rw [if_pos e0]
      exact hrl k (by omega)
    · by_cases e1 : c' = 1
      · refine ⟨t ++ [⟨[]⟩], fun k hk => ?_, dph_le (1 + cn) _ (by omega) _ (by
          rw [Nat.add_comm] at dt ⊢
          intro x hx
          rcases List.mem_append.1 hx with hx | hx
          · exact dt x hx
          · rw [List.mem_singleton.1 hx]; exact dph_nil _)⟩
        unfold spec_l71Deep.f
        rw [hc k (by omega)]; simp only [Option.bind_some]
        rw [ew, ht k (by omega)]; simp only [Option.bind_some]
        rw [hc' k (by omega)]; simp only [Option.bind_some]
        rw [if_neg e0, if_pos e1, if_pos (by omega)]
      · refine ⟨t, fun k hk => ?_, dph_le _ _ (by omega) _ dt⟩
        unfold spec_l71Deep.f
        rw [hc k (by omega)]; simp only [Option.bind_some]
        rw [ew, ht k (by omega)]; simp only [Option.bind_some]
        rw [hc' k (by omega)]; simp only [Option.bind_some]
        rw [if_neg e0, if_neg e1]
  obtain ⟨r, hr, hd⟩ := hh
  exact ⟨r, q1 + 1, hr, by omega, by omega, hd⟩
theorem drawText_ev (l : List Int) (h : ∀ x ∈ l, (Lit.int .u8 x).wf = true) : ∃ r, ∀ k, 20 ≤ k → spec_DrawTypeText.f k l = some r := by
  obtain ⟨s, ho, hs⟩ := open_ev l h
  obtain ⟨r, q, hr, _⟩ := l71Deep_ev s hs 0 (by omega) (by omega)
  refine ⟨r, fun k hk => ?_⟩
  unfold spec_DrawTypeText.f
  rw [ho]; simp only [Option.bind_some]
  rw [hr k hk]; rfl
end Go.Proofs.Ytjhbhihfifhljaa.Types
end
section
namespace Go.Proofs.Ytjhbhihfifhljaa.PA
open Go.RowKit Go.Proofs.YtjhbhihfifhljaaW.PrintWords Go.Proofs.YtjhbhihfifhljaaW.PrintLast Go.Proofs.YtjhbhihfifhljaaW.PrintMore
attribute [local go_sem] max2_int min2_int max_two min_two max_three min_three max_four min_four
set_option linter.unusedVariables false
set_option linter.unusedSimpArgs false
def impl_Type_parts.f (l0_0 : List (S30)) : Option ((List (S30))) := some l0_0
set_option maxHeartbeats 8000000 in
set_option maxRecDepth 100000 in
theorem impl_Type_parts.calls (P0_0_ : Nat → Prop) (A0_0 : Option Addr) (c0_0 : Nat) (l0_0 : List (S30)) (r : List (S30)) (w : World) (hs0_0 : Kd.V k30 30 w w.heap.size (fun k_ => P0_0_ k_) (.slice A0_0 l0_0.length c0_0) l0_0) (h : impl_Type_parts.f l0_0 = some r) :
  Calls Try.prog 104 #[.agg #[.slice A0_0 l0_0.length c0_0]] w fun e w' => ∃ v0_ : Value, e = .returned (v0_) ∧ Kd.V k30 30 w' w.heap.size (fun k_ => (P0_0_ k_ ∨ w.heap.size ≤ k_)) v0_ r ∧ Below w.heap.size w w' := by
 have hu30 := Try.underlying30
 have HO0_0 := Aside0.mk (show Kd.V k30 30 w w.heap.size (fun k_ => (P0_0_ k_ ∨ w.heap.size ≤ k_)) (.slice A0_0 l0_0.length c0_0) l0_0 from Kd.V_mono hs0_0 (fun k_ hk => .inl hk))
 have HB := Aside0.mk (Below.refl w.heap.size w)
 have H : (some l0_0) = some r := h
 clear h
 obtain rfl := Option.some.inj H
 go_enter Try.func104, Try.ntmps104
 go_wp2_with (first | ((with_reducible refine gate_dst (N := 1) rfl ?_); refine zbx 1 #[.slice A0_0 l0_0.length c0_0] 30 ?_; intro gb101 hg w2 hbox hb; replace HO0_0 := Aside0.mk (Kd.V_below (Kd.V_elderB (y13 HO0_0.out) gb101 (Nat.le_of_eq hg.symm)) hb); have BK101 := Aside0.mk hbox; have GW101 := Aside0.mk ((y5 hg HB.out : w.heap.size ≤ gb101)); have GE101 := Aside0.mk ((y5 hg HB.out : w.heap.size ≤ gb101)); replace HB := Aside0.mk (below_step (y2 HB.out) hb); clear hb hbox hg; have hcz3_0 := zh BK101; have hfz3_0 := zfr BK101 0))
 go_ret
 exact ⟨_, y14, (by (with_reducible repeat (first | apply Kd.V_alloc | apply Kd.V_drewN | apply Kd.V_drew)); exact Kd.V_mono HO0_0.out (fun _ hk => hk.1)), (y3 HB.out GE101.out)⟩
end Go.Proofs.Ytjhbhihfifhljaa.PA
end
