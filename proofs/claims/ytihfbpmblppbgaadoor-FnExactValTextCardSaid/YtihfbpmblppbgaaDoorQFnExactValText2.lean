-- YtihfbpmblppbgaaDoor's texts for the statement FnExactValText, one behind the other (merge.py).
import Derived.Test.YtihfbpmblppbgaaDoorQFnExactValText0
import Derived.Test.YtihfbpmblppbgaaDoorQFnExactValText1
import Derived.Lib.ItoaNum
import Derived.OpenShut
import Derived.Deep.Slices
import Derived.WalkKit
import Derived.ProofKit
import Derived.ShutString
import Derived.ChangeOld
import Derived.Below
import Derived.SizedLaws
import Derived.ChangeSlices
import Derived.Test.YtihfbpmblppbgaaDoorRows
import Derived.Test.YtihfbpmblppbgaaDoorCards
import Derived.Test.YtihfbpmblppbgaaDoorTie
import Derived.SevenTiedAt
import Derived.LaidMore
import Derived.LaidLaws
import Derived.Handed
import Derived.Stop.Joined
import Derived.Lib.LaidTab
import Derived.Stop.LaidErr
section
namespace Go.Proofs.YtihfbpmblppbgaaDoor.PA
open Go.RowKit Go.Proofs.YtihfbpmblppbgaaDoorW.PrintWords Go.Proofs.YtihfbpmblppbgaaDoorW.PrintLast Go.Proofs.YtihfbpmblppbgaaDoorW.PrintMore
attribute [local go_sem] max2_int min2_int max_two min_two max_three min_three max_four min_four
set_option linter.unusedVariables false
set_option linter.unusedSimpArgs false
def spec_l71Val.f : Nat → List Int → Int → List (S41) → Option (Int × (List (S25)) × Int)
 | 0, _, _, _ => none
 | k + 1, s0_0, s0_1, l1_0 => if (l1_0.length : Int) = 0 then ((some (([0, 1, 2, 3, 7, 50, 9999] : List Int) : List Int)).bind fun y109 => ((spec_l6Rd_pick.f k s0_0 s0_1 7).bind fun bt112 => (if 0 ≤ bt112.1 then (if bt112.1 < (y109.length : Int) then (some (rd y109 bt112.1, ([] : List (S25)), bt112.2)) else (none)) else (none)))) else (if 0 < (l1_0.length : Int) then ((spec_l71Val.f k s0_0 s0_1 ((rd_T41 l1_0 0).f0)).bind fun bt116 => (if 1 < (l1_0.length : Int) then ((spec_l71Val.f k s0_0 bt116.2.2 ((rd_T41 l1_0 1).f0)).bind fun bt122 => (some (0, (([(⟨bt116.1, bt116.2.1⟩ : S25), (⟨bt122.1, bt122.2.1⟩ : S25)] : List (S25))), bt122.2.2))) else (none))) else (none))
theorem spec_l71Val.mono_l : ∀ k, (∀ y0 y1 y2, LeO (spec_l71Val.f k y0 y1 y2) (spec_l71Val.f (k + 1) y0 y1 y2))
 | 0 => fun _ _ _ r h => by simp [spec_l71Val.f] at h
 | k + 1 => by
  have ih0 := spec_l71Val.mono_l k
  ·intro y0 y1 y2
   unfold spec_l71Val.f
   repeat' first
   | (with_reducible exact ih0 _ _ _)
   | (with_reducible exact spec_l6Rd_pick.mono _ _ _ _)
   | (with_reducible exact LeO.refl _)
   | (with_reducible exact LeO.none _)
   | (with_reducible refine LeO.ite ?_ ?_)
   | (with_reducible refine LeO.bind ?_ (fun _ => ?_))
   | exact ih0 _ _ _
   | exact spec_l6Rd_pick.mono _ _ _ _
   | exact LeO.none _
   | refine LeO.ite ?_ ?_
   | refine LeO.bind ?_ (fun _ => ?_)
theorem spec_l71Val.mono : ∀ a0 a1 a2 k, LeO (spec_l71Val.f k a0 a1 a2) (spec_l71Val.f (k + 1) a0 a1 a2) := by
 intro a0 a1 a2 k
 have ih0 := spec_l71Val.mono_l k
 exact ih0 a0 a1 a2
def spec_l71Val.T3 : Bool × List (List Nat × List Nat) := (true, [([], []), ([], []), ([1], [1]), ([2], [2]), ([3], [3]), ([0, 4], [0, 4]), ([], []), ([], []), ([7], [7]), ([8], [8]), ([9], [9]), ([6, 10, 5], [6, 10]), ([5, 11], [5, 11]), ([12], [12]), ([13, 11, 0, 1, 2, 3, 4, 5, 6, 7, 8, 9, 10, 11, 12, 13], [13])])
def spec_l71Val.B3 : List Nat := [0, 0, 2, 6, 14, 31, 0, 0, 128, 384, 896, 2047, 4095, 8191, 16383]
theorem spec_l71Val.tab3 : rtab .any (opsOf Tryd.f23 3) = spec_l71Val.T3 := by kernel_rfl
theorem spec_l71Val.bits3 : waitsOk spec_l71Val.T3.2 spec_l71Val.B3 = true := by kernel_rfl
set_option maxHeartbeats 8000000 in
set_option maxRecDepth 100000 in
theorem spec_l71Val.calls (k : Nat) : ∀ (g : Nat) (s0_0 : List Int) (s0_1 : Int) (P1_0_ : Nat → Prop) (A1_0 : Option Addr) (c1_0 : Nat) (l1_0 : List (S41)) (r1 : Int) (r2 : List (S25)) (r3 : Int) (w0 w : World) (hI : IsS51 w0 w g s0_0 s0_1) (hB : Below w0.heap.size w0 w) (hs1_0 : Kd.V k41 41 w w.heap.size (fun k_ => P1_0_ k_ ∧ k_ ≠ g) (.slice A1_0 l1_0.length c1_0) l1_0) (h : spec_l71Val.f k s0_0 s0_1 l1_0 = some (r1, r2, r3)),
  Calls Tryd.prog 23 #[.pointer (some ⟨g, 0, none⟩), .agg #[.slice A1_0 l1_0.length c1_0]] w fun e w' => ∃ v1_ : Value, e = .returned (.agg #[.int .i64 r1, v1_]) ∧ Kd.N k25 25 w' w.heap.size (fun k_ => (P1_0_ k_ ∨ w.heap.size ≤ k_)) v1_ r2 ∧ IsS51 w0 w' g s0_0 r3 ∧ Below w0.heap.size w0 w' ∧ KeepBut w w' g none := by
 induction k using Nat.strongRecOn with
 | _ k ih =>
 intro g s0_0 s0_1 P1_0_ A1_0 c1_0 l1_0 r1 r2 r3 w0 w hI hB hs1_0 h
 cases k with
 | zero => exact absurd h (by simp [spec_l71Val.f])
 | succ k =>
 simp only [spec_l71Val.f] at h
 have hu41 := Tryd.underlying41
 have hu25 := Tryd.underlying25
 have HO1_0 := Aside0.mk (show Kd.V k41 41 w w.heap.size (fun k_ => (P1_0_ k_ ∨ w.heap.size ≤ k_) ∧ k_ ≠ g) (.slice A1_0 l1_0.length c1_0) l1_0 from Kd.V_mono hs1_0 (fun k_ hk => ⟨.inl hk.1, hk.2⟩))
 have HI0 := Aside0.mk hI
 have HK := Aside0.mk (KeepBut.refl w g none)
 have HL := Aside0.mk hB.size
 clear hI
 have HW0 := Aside0.mk hB.size
 have HB := Aside0.mk hB
 clear hB
 have H : (if (l1_0.length : Int) = 0 then ((some (([0, 1, 2, 3, 7, 50, 9999] : List Int) : List Int)).bind fun y109 => ((spec_l6Rd_pick.f k s0_0 s0_1 7).bind fun bt112 => (if 0 ≤ bt112.1 then (if bt112.1 < (y109.length : Int) then (some (rd y109 bt112.1, ([] : List (S25)), bt112.2)) else (none)) else (none)))) else (if 0 < (l1_0.length : Int) then ((spec_l71Val.f k s0_0 s0_1 ((rd_T41 l1_0 0).f0)).bind fun bt116 => (if 1 < (l1_0.length : Int) then ((spec_l71Val.f k s0_0 bt116.2.2 ((rd_T41 l1_0 1).f0)).bind fun bt122 => (some (0, (([(⟨bt116.1, bt116.2.1⟩ : S25), (⟨bt122.1, bt122.2.1⟩ : S25)] : List (S25))), bt122.2.2))) else (none))) else (none))) = some (r1, r2, r3) := h
 clear h
 have HZ3 := Aside0.mk H
 clear H
 go_enter Tryd.func23, Tryd.ntmps23
 go_upto_if 8 with (first | ((with_reducible refine gate_dst (N := 3) rfl ?_); refine zbx 3 #[.slice A1_0 l1_0.length c1_0] 41 ?_; intro gb107 hg w4 hbox hb; replace HO1_0 := Aside0.mk (Kd.V_below (Kd.V_elderB (y28 HO1_0.out) gb107 (Nat.le_of_eq hg.symm)) hb); replace HB := Aside0.mk (below_step (y32 HB.out HI0.out) hb); have BK107 := Aside0.mk hbox; have GW107 := Aside0.mk ((by rw [hg]; exact (keep_size (w := w) (g := g) (row := none) (y29 HK.out)) : w.heap.size ≤ gb107)); have GE107 := Aside0.mk ((Nat.le_trans HW0.out (by rw [hg]; exact (keep_size (w := w) (g := g) (row := none) (y29 HK.out)) : w.heap.size ≤ gb107) : w0.heap.size ≤ gb107)); replace HK := Aside0.mk (KeepBut.trans (y29 HK.out) (KeepBut.of_below hb g none) (.inl rfl)); have NB0_107 := Aside0.mk ((by rw [hg]; exact Nat.ne_of_lt (IsS51.lt (show IsS51 w0 _ g s0_0 s0_1 from by repeat (first | (with_reducible first | exact HI0.out | apply IsS51.alloc | apply IsS51.drewN | apply IsS51.drew | apply IsS51.set_1) | exact HI0.out))) : g ≠ gb107)); have NB107_0 := Aside0.mk ((by rw [hg]; exact Nat.ne_of_gt (IsS51.lt (show IsS51 w0 _ g s0_0 s0_1 from by repeat (first | (with_reducible first | exact HI0.out | apply IsS51.alloc | apply IsS51.drewN | apply IsS51.drew | apply IsS51.set_1) | exact HI0.out))) : gb107 ≠ g)); replace HI0 := Aside0.mk (IsS51.below (y33 HI0.out) hb); clear hb hbox hg) | ((with_reducible refine gate_dst (N := 4) rfl ?_); refine zbx 4 #[.int .i64 0, .slice none 0 0] 25 ?_; intro gb108 hg w5 hbox hb; replace HO1_0 := Aside0.mk (Kd.V_below (Kd.V_elderB (y28 HO1_0.out) gb108 (Nat.le_of_eq hg.symm)) hb); replace HB := Aside0.mk (below_step (y14 HB.out HI0.out GE107.out) hb); have BK108 := Aside0.mk hbox; have GW108 := Aside0.mk ((by rw [hg]; exact (keep_size (w := w) (g := g) (row := none) (y16 HK.out GW107.out)) : w.heap.size ≤ gb108)); have GE108 := Aside0.mk ((Nat.le_trans HW0.out (by rw [hg]; exact (keep_size (w := w) (g := g) (row := none) (y16 HK.out GW107.out)) : w.heap.size ≤ gb108) : w0.heap.size ≤ gb108)); replace HK := Aside0.mk (KeepBut.trans (y16 HK.out GW107.out) (KeepBut.of_below hb g none) (.inl rfl)); have NB107_108 := zltn hg BK107; have NB108_107 := zgtn hg BK107; replace BK107 := zbb BK107 hb; have NB0_108 := Aside0.mk ((by rw [hg]; exact Nat.ne_of_lt (IsS51.lt (show IsS51 w0 _ g s0_0 s0_1 from by repeat (first | (with_reducible first | exact HI0.out | apply IsS51.alloc | apply IsS51.drewN | apply IsS51.drew | apply IsS51.set_1 | refine IsS51.far ?_ NB0_107.out _) | exact HI0.out))) : g ≠ gb108)); have NB108_0 := Aside0.mk ((by rw [hg]; exact Nat.ne_of_gt (IsS51.lt (show IsS51 w0 _ g s0_0 s0_1 from by repeat (first | (with_reducible first | exact HI0.out | apply IsS51.alloc | apply IsS51.drewN | apply IsS51.drew | apply IsS51.set_1 | refine IsS51.far ?_ NB0_107.out _) | exact HI0.out))) : gb108 ≠ g)); replace HI0 := Aside0.mk (IsS51.below (y17 HI0.out NB0_107.out) hb); clear hb hbox hg; have hnb6 := NB107_108.out; have hnc6 := NB108_107.out; have hnb7 := NB107_0.out; have hnc7 := NB0_107.out; have hcz8_0 := zh BK107; have hfz8_0 := zfr BK107 0))
 (try simp only [Act.put, List.setIfInBounds_toArray, List.set_cons_zero, List.set_cons_succ])
 have H := HZ3.out
 clear HZ3
 by_cases c9 : (l1_0.length : Int) = 0
 ·rw [if_pos c9] at H
  have c9b0 : ((l1_0.length : Int) == 0) = true := beq_iff_eq.mpr c9
  have c9b1 : ((l1_0.length : Int) != 0) = false := bne_eq_false_iff_eq.mpr c9
  clear c9
  (first | rw [c9b0] | (simp only [i64_w, i32_w]; rw [c9b0]) | skip)
  obtain ⟨y109, hy109⟩ : ∃ y_ : List Int, y_ = (([0, 1, 2, 3, 7, 50, 9999] : List Int)) := ⟨_, rfl⟩
  replace H : ((spec_l6Rd_pick.f k s0_0 s0_1 7).bind fun bt112 => (if 0 ≤ bt112.1 then (if bt112.1 < (y109.length : Int) then (some (rd y109 bt112.1, ([] : List (S25)), bt112.2)) else (none)) else (none))) = some (r1, r2, r3) := by first | (rw [hy109]; with_reducible exact H) | (have H2_ := (Option.bind_some _ _).symm.trans H; rw [hy109]; with_reducible exact H2_) | (have H2_ := (Option.bind_some _ _).symm.trans H; with_reducible exact H2_) | with_reducible exact H | (rw [hy109]; exact H) | exact H
  have Ny109 := Aside0.mk hy109
  clear hy109
  obtain ⟨⟨t112, t113⟩, A100, H⟩ := ob H
  have A10 := Aside0.mk A100
  clear A100
  by_cases c11 : 0 ≤ t112
  ·rw [if_pos c11] at H
   have c11b0 : decide (0 ≤ t112) = true := decide_eq_true c11
   clear c11
   by_cases c12 : t112 < (y109.length : Int)
   ·rw [if_pos c12] at H
    have c12b0 : decide (t112 < (y109.length : Int)) = true := decide_eq_true c12
    clear c12
    simp only [Option.some.injEq, Prod.mk.injEq] at H
    obtain ⟨rfl, rfl, rfl⟩ := H
    go_wp2_with (first | ((with_reducible refine gate_dst (N := 9) rfl ?_); refine Kd.R_lit (Kd.int .i64) _ 3 ?hg (N := 9) ?hd (xs := ([0, 1, 2, 3, 7, 50, 9999] : List Int)) (inner := [.int .i64 0, .int .i64 1, .int .i64 2, .int .i64 3, .int .i64 7, .int .i64 50, .int .i64 9999]) (ok := fun _ => True) (okp := fun _ => True) ?hr ?hp (fun _ hk => hk) trivial (Below.refl _ _) (Nat.le_refl _) (by simp) ?_; (case hd => rfl); (case hg => rfl); (case hr => first | (go_simp; done) | (go_simp; rfl)); (case hp => exact (Reps.one (show Kd.M (Kd.int .i64) _ _ _ 0 [.int .i64 0] from rfl) (Reps.one (show Kd.M (Kd.int .i64) _ _ _ 1 [.int .i64 1] from rfl) (Reps.one (show Kd.M (Kd.int .i64) _ _ _ 2 [.int .i64 2] from rfl) (Reps.one (show Kd.M (Kd.int .i64) _ _ _ 3 [.int .i64 3] from rfl) (Reps.one (show Kd.M (Kd.int .i64) _ _ _ 7 [.int .i64 7] from rfl) (Reps.one (show Kd.M (Kd.int .i64) _ _ _ 50 [.int .i64 50] from rfl) (Reps.one (show Kd.M (Kd.int .i64) _ _ _ 9999 [.int .i64 9999] from rfl) (Reps.none _ _))))))))); intro v110 w13 ho14 hb hg_ hnew_; clear hg_ hnew_; (first | rw [← Ny109.out] at ho14 | (simp only [Int.reduceToNat] at ho14; rw [← Ny109.out] at ho14)); replace HO1_0 := Aside0.mk (Kd.V_elder' (y28 HO1_0.out) (Kd.R_base ho14) hb); have HO111 := Aside0.mk (Kd.R_lower (Kd.R_newM (M := fun k_ => (w.heap.size ≤ k_)) ho14 (keep_size (w := w) (g := g) (row := none) (y11 HK.out GW107.out GW108.out)) (fun k_ h_ => h_)) (keep_size (w := w) (g := g) (row := none) (y11 HK.out GW107.out GW108.out))); replace BK107 := zbb BK107 hb; replace BK108 := zbb BK108 hb; replace HK := Aside0.mk (KeepBut.trans (y11 HK.out GW107.out GW108.out) (KeepBut.of_below hb g none) (.inl rfl)); replace HB := Aside0.mk (below_step (y30 HB.out HI0.out GE107.out GE108.out) hb); replace HI0 := Aside0.mk (IsS51.below (y24 HI0.out NB0_107.out NB0_108.out) hb); clear hb ho14) | ((with_reducible refine gate_callee (f := 15) rfl ?_); refine goesL_ (some 11) rfl rfl Tryd.func15 (by kernel_rfl) rfl #[.pointer (some ⟨g, 0, none⟩), .int .i64 7] rfl y4 ?_; (with_reducible refine (spec_l6Rd_pick.calls k g s0_0 s0_1 7 t112 t113 w0 _ ?side1 ?side2 A10.out).mono ?_); (case side1 => exact y24 HI0.out NB0_107.out NB0_108.out); (case side2 => exact y30 HB.out HI0.out GE107.out GE108.out); rintro e w15 ⟨rfl, hi, hb, hk⟩; refine ⟨_, rfl, ?_⟩; replace HO1_0 := Aside0.mk (Kd.V_mono (Kd.V_keep (Kd.V_mono (ok := fun k_ => ((((((P1_0_ k_ ∨ w.heap.size ≤ k_)) ∧ k_ ≠ g) ∧ k_ ≠ gb107) ∧ k_ ≠ gb108) ∧ some k_ ≠ (v110 : Value).ownBlock)) (y28 HO1_0.out) (fun k_ hk_ => (⟨hk_, hk_.1.1.1.2⟩ : _ ∧ k_ ≠ g))) hk (fun _ h => h.2)) (fun _ h => h.1)); replace BK107 := Aside0.mk (KeepBut.blk hk (g' := gb107) (o := .cells #[.slice A1_0 l1_0.length c1_0] 41 (0, 0)) (y1 BK107.out) NB107_0.out (by simp)); replace BK108 := Aside0.mk (KeepBut.blk hk (g' := gb108) (o := .cells #[.int .i64 0, .slice none 0 0] 25 (0, 0)) (y1 BK108.out) NB108_0.out (by simp)); replace HO111 := Aside0.mk (Kd.R_mono (Kd.R_keep (IsS51.apart (show IsS51 w0 _ g s0_0 s0_1 from by repeat (first | (with_reducible first | exact HI0.out | apply IsS51.alloc | apply IsS51.drewN | apply IsS51.drew | apply IsS51.set_1 | refine IsS51.far ?_ NB0_107.out _ | refine IsS51.far ?_ NB0_108.out _) | exact HI0.out)) (y15 HO111.out) (by decide)) hk (fun _ h => h.2)) (fun _ h => h.1)); replace HK := Aside0.mk (KeepBut.trans (y11 HK.out GW107.out GW108.out) hk (.inl rfl)); replace HB := Aside0.mk (hb); replace HI0 := Aside0.mk (hi); (try clear hb); (try clear hb2); (try clear hk); (try clear hi); obtain ⟨Ao16, co16, eo16⟩ := Kd.R_slice HO111.out; subst eo16; have p114 : 0 ≤ (t112 : Int) := of_decide_eq_true y19; have q114 : t112 < (y109.length : Int) := of_decide_eq_true y19; obtain ⟨ad114, e114, hx114_0⟩ := Kd.at_int (Kd.R_reads' HO111.out).2.2 t112 p114 q114; cases e114; replace p114 := eq_true p114; replace q114 := eq_true q114; have hnb17 := NB108_107.out; have hnc17 := NB107_108.out; have hnb18 := NB108_0.out; have hnc18 := NB0_108.out; have hcz19_0 := zh BK108; have hcz19_1 := zh1 BK108; have hfz19_0 := zfr BK108 0; have hfz19_1 := zfr BK108 1))
    refine bodyPost_ret (results_cell_row rfl _ _ gb108 25 #[.int .i64 (rd y109 t112), .slice none 0 0] (0, 0) _ rfl (by (with_reducible repeat (first | refine blk_drewN ?_ _ | refine blk_drew ?_ | refine blk_alloc ?_ _)); refine blk_put (cs := #[.int .i64 (rd y109 t112), .slice none 0 0]) ?_ 1 _ rfl; (with_reducible repeat (first | refine blk_drewN ?_ _ | refine blk_drew ?_ | refine blk_alloc ?_ _)); apply blk_put (i := 0); (case h => exact y1 BK108.out); (case e => rfl)) Tryd.underlying25 rfl (by kernel_rfl)) rfl ?_
    exact ⟨_, y7, y31, (y24 HI0.out NB0_107.out NB0_108.out), (y30 HB.out HI0.out GE107.out GE108.out), (y11 HK.out GW107.out GW108.out)⟩
   ·rw [if_neg c12] at H
    exact absurd H (by simp)
  ·rw [if_neg c11] at H
   exact absurd H (by simp)
 ·rw [if_neg c9] at H
  have c9b0 : ((l1_0.length : Int) == 0) = false := beq_eq_false_iff_ne.mpr c9
  have c9b1 : ((l1_0.length : Int) != 0) = true := bne_iff_ne.mpr c9
  have c9b2 : ¬ (l1_0 = []) := fun h_ => c9 (by rw [h_]; rfl)
  (first | rw [c9b0] | (simp only [i64_w, i32_w]; rw [c9b0]) | skip)
  by_cases c20 : 0 < (l1_0.length : Int)
  ·rw [if_pos c20] at H
   have c20b0 : decide (0 < (l1_0.length : Int)) = true := decide_eq_true c20
   have c20b1 : decide (0 < l1_0.length) = true := decide_eq_true (by omega)
   clear c20
   obtain ⟨⟨t116, t117, t120⟩, A210, H⟩ := ob H
   have A21 := Aside0.mk A210
   clear A210
   by_cases c22 : 1 < (l1_0.length : Int)
   ·rw [if_pos c22] at H
    have c22b0 : decide (1 < (l1_0.length : Int)) = true := decide_eq_true c22
    have c22b1 : decide (1 < l1_0.length) = true := decide_eq_true (by omega)
    clear c22
    obtain ⟨⟨t122, t123, t126⟩, A230, H⟩ := ob H
    have A23 := Aside0.mk A230
    clear A230
    obtain ⟨y127, hy127⟩ : ∃ y_ : List (S25), y_ = (([(⟨t116, t117⟩ : S25), (⟨t122, t123⟩ : S25)] : List (S25))) := ⟨_, rfl⟩
    replace H : (some (0, y127, t126)) = some (r1, r2, r3) := by first | (rw [hy127]; with_reducible exact H) | (have H2_ := (Option.bind_some _ _).symm.trans H; rw [hy127]; with_reducible exact H2_) | (have H2_ := (Option.bind_some _ _).symm.trans H; with_reducible exact H2_) | with_reducible exact H | (rw [hy127]; exact H) | exact H
    have Ny127 := Aside0.mk hy127
    clear hy127
    simp only [Option.some.injEq, Prod.mk.injEq] at H
    obtain ⟨rfl, rfl, rfl⟩ := H
    try go_wp2
    replace HO1_0 := Aside0.mk (Kd.V_drew HO1_0.out)
    replace BK107 := Aside0.mk (blk_drew BK107.out)
    replace BK108 := Aside0.mk (blk_drew BK108.out)
    replace HI0 := Aside0.mk (IsS51.drew HI0.out)
    replace HK := Aside0.mk (keep_drew HK.out)
    replace HB := Aside0.mk (below_drew1 HB.out)
    have p115 : 0 ≤ (0 : Int) := (by omega)
    have q115 : 0 < (l1_0.length : Int) := of_decide_eq_true y19
    obtain ⟨ad115, A115_0, c115_0, e115, hx115_0, hl115_0, hi115_0⟩ := at_T41 (Kd.V_reads' HO1_0.out).2.2 0 p115 q115
    cases e115
    obtain ⟨ce115, hce115, hMe115, hcc115⟩ := Kd.V_get HO1_0.out z41 0 p115 (by first | exact q115 | exact of_decide_eq_true y19 | (have e_ := (Kd.V_reads' HO1_0.out).1; omega))
    obtain ⟨ua115_0, uc115_0, rfl, ul115_0, ge115_0⟩ := k41_openF hMe115
    have hv115_0 := hcc115 0 _ rfl
    rw [Nat.add_zero, show (k41).sz = 1 from rfl, Nat.mul_one] at hv115_0
    replace hv115_0 := Option.some.inj (hv115_0.symm.trans hx115_0)
    injection hv115_0 with hva_ hvn_ hvc_
    rw [hva_] at ge115_0
    rw [hvc_] at ul115_0
    have HL115_0 := Aside0.mk (show Kd.V k41 41 _ w.heap.size _ _ ((rd_T41 l1_0 0).f0) from Kd.V_mk ul115_0 ge115_0)
    clear hva_ hvn_ hvc_ ge115_0 ul115_0
    clear hcc115 hce115
    have qi115 : (0 < l1_0.length) = True := eq_true (by omega)
    (try rw [show ((0 : Int)).toNat = 0 from rfl] at hx115_0)
    (try rw [Addr.add_zero'] at hx115_0)
    have HR115_0 := Aside0.mk hi115_0
    have HC115_0 := Aside0.mk hl115_0
    clear hi115_0 hl115_0
    replace p115 := eq_true p115
    replace q115 := eq_true q115
    have p121 : 0 ≤ (1 : Int) := (by omega)
    have q121 : 1 < (l1_0.length : Int) := of_decide_eq_true y19
    obtain ⟨ad121, A121_0, c121_0, e121, hx121_0, hl121_0, hi121_0⟩ := at_T41 (Kd.V_reads' HO1_0.out).2.2 1 p121 q121
    obtain rfl : ad115 = ad121 := (by injection e121)
    obtain ⟨ce121, hce121, hMe121, hcc121⟩ := Kd.V_get HO1_0.out z41 1 p121 (by first | exact q121 | exact of_decide_eq_true y19 | (have e_ := (Kd.V_reads' HO1_0.out).1; omega))
    obtain ⟨ua121_0, uc121_0, rfl, ul121_0, ge121_0⟩ := k41_openF hMe121
    have hv121_0 := hcc121 0 _ rfl
    rw [Nat.add_zero, show (k41).sz = 1 from rfl, Nat.mul_one] at hv121_0
    replace hv121_0 := Option.some.inj (hv121_0.symm.trans hx121_0)
    injection hv121_0 with hva_ hvn_ hvc_
    rw [hva_] at ge121_0
    rw [hvc_] at ul121_0
    have HL121_0 := Aside0.mk (show Kd.V k41 41 _ w.heap.size _ _ ((rd_T41 l1_0 1).f0) from Kd.V_mk ul121_0 ge121_0)
    clear hva_ hvn_ hvc_ ge121_0 ul121_0
    clear hcc121 hce121
    (try simp only [show (1 : Int).toNat = 1 from rfl, Nat.reduceMul, Nat.reduceEqDiff, Go.Addr.add, ↓reduceIte] at hx121_0)
    have qi121 : (1 < l1_0.length) = True := eq_true (by omega)
    (try rw [show ((1 : Int)).toNat = 1 from rfl] at hx121_0)
    have HR121_0 := Aside0.mk hi121_0
    have HC121_0 := Aside0.mk hl121_0
    clear hi121_0 hl121_0
    replace p121 := eq_true p121
    replace q121 := eq_true q121
    refine start_ (n := 15) (S := fun w' => w'.cell? ⟨gb107, 0, none⟩ = some (.slice (some ad115) l1_0.length c1_0) ∧ w'.cell? ad115 = some (.slice A115_0 ((rd_T41 l1_0 0).f0).length c115_0) ∧ w'.cell? ⟨ad115.block, ad115.off + 1, none⟩ = some (.slice A121_0 ((rd_T41 l1_0 1).f0).length c121_0)) (ds := []) #[false, false, false, false, false, false, false, false, false, false, false, false, false, false, false] (by kernel_rfl) rfl rfl ⟨(blk_cell BK107.out 0).trans rfl, hx115_0, hx121_0⟩ (fun hHeld => ?_); refine with_tabW spec_l71Val.tab3 spec_l71Val.bits3 (fun HT_ HW_ => ?_)
    generalize w5.drew = w24 at HO1_0 BK107 BK108 HI0 HK HB HL115_0 HL121_0 HR115_0 HR121_0 hx115_0 hx121_0 hHeld ⊢
    refine zp 0 (some 15) HT_ ?_
    refine zp 1 (some 16) HT_ ?_
    refine zp 6 (some 21) HT_ ?_
    refine zp 7 (some 22) HT_ ?_
    refine zt3 2 (some 17) HT_ HW_ hHeld ?_
    refine zp 3 (some 18) HT_ ?_
    refine zt3 4 (some 19) HT_ HW_ hHeld ?_
    refine zt3 8 (some 23) HT_ HW_ hHeld ?_
    refine zp 9 (some 24) HT_ ?_
    refine zt3 10 (some 25) HT_ HW_ hHeld ?_
    refine one_ (i := 5) (N := some 20) #[true, true, true, true, true, true, true, true, true, true, true, false, false, false, false] rfl rfl (one_of HT_.out (by kernel_rfl)) (by decide) (fun K hK => ?_)
    refine goes_ Tryd.func23 (by kernel_rfl) rfl #[.pointer (some ⟨g, 0, none⟩), .agg #[.slice A115_0 ((rd_T41 l1_0 0).f0).length c115_0]] (by rfl) rfl rfl y4 ?_
    with_reducible refine (ih k (by omega) g s0_0 s0_1 (fun k_ => ((((P1_0_ k_ ∨ w.heap.size ≤ k_) ∧ k_ ≠ g) ∧ k_ ≠ gb107) ∧ k_ ≠ gb108)) _ _ ((rd_T41 l1_0 0).f0) t116 t117 t120 w0 _ ?side1 ?side2 ?side3 A21.out).mono ?_
    (case side1 => exact y24 HI0.out NB0_107.out NB0_108.out)
    (case side2 => exact y30 HB.out HI0.out GE107.out GE108.out)
    (case side3 => exact Kd.V_mono (HL115_0.out) (fun k_ hk_ => ⟨hk_, hk_.1.1.2⟩))
    rintro e w25 ⟨v118, rfl, ho0, hi, hb, hk⟩
    have HS1_ := keep_cell hk (hHeld.2.1) (by first | (rw [add_block]; exact (show _ from by have h_ := hf_V_in HO1_0.out (by have h0_ : (0 : Int) < (l1_0.length : Int) := (by first | exact of_eq_true (by assumption) | exact Int.lt_trans (by decide : (0 : Int) < 1) (of_eq_true (by assumption))); omega) (by decide); first | exact h_ | exact h_.1 | exact h_.2 | exact h_.1.1 | exact h_.1.2 | exact h_.2.1 | exact h_.2.2 | exact h_.1.1.1 | exact h_.1.1.2 | exact h_.1.2.1 | exact h_.1.2.2 | exact h_.2.1.1 | exact h_.2.1.2 | exact h_.2.2.1 | exact h_.2.2.2 | exact h_.1.1.1.1 | exact h_.1.1.1.2 | exact h_.1.1.2.1 | exact h_.1.1.2.2 | exact h_.1.2.1.1 | exact h_.1.2.1.2 | exact h_.1.2.2.1 | exact h_.1.2.2.2 | exact h_.2.1.1.1 | exact h_.2.1.1.2 | exact h_.2.1.2.1 | exact h_.2.1.2.2 | exact h_.2.2.1.1 | exact h_.2.2.1.2 | exact h_.2.2.2.1 | exact h_.2.2.2.2 | exact h_.1.1.1.1.1 | exact h_.1.1.1.1.2 | exact h_.1.1.1.2.1 | exact h_.1.1.1.2.2 | exact h_.1.1.2.1.1 | exact h_.1.1.2.1.2 | exact h_.1.1.2.2.1 | exact h_.1.1.2.2.2 | exact h_.1.2.1.1.1 | exact h_.1.2.1.1.2 | exact h_.1.2.1.2.1 | exact h_.1.2.1.2.2 | exact h_.1.2.2.1.1 | exact h_.1.2.2.1.2 | exact h_.1.2.2.2.1 | exact h_.1.2.2.2.2 | exact h_.2.1.1.1.1 | exact h_.2.1.1.1.2 | exact h_.2.1.1.2.1 | exact h_.2.1.1.2.2 | exact h_.2.1.2.1.1 | exact h_.2.1.2.1.2 | exact h_.2.1.2.2.1 | exact h_.2.1.2.2.2 | exact h_.2.2.1.1.1 | exact h_.2.2.1.1.2 | exact h_.2.2.1.2.1 | exact h_.2.2.1.2.2 | exact h_.2.2.2.1.1 | exact h_.2.2.2.1.2 | exact h_.2.2.2.2.1 | exact h_.2.2.2.2.2)) | (show (Addr.add _ _).block ≠ _; rw [add_block]; exact (show _ from by have h_ := hf_V_in HO1_0.out (by have h0_ : (0 : Int) < (l1_0.length : Int) := (by first | exact of_eq_true (by assumption) | exact Int.lt_trans (by decide : (0 : Int) < 1) (of_eq_true (by assumption))); omega) (by decide); first | exact h_ | exact h_.1 | exact h_.2 | exact h_.1.1 | exact h_.1.2 | exact h_.2.1 | exact h_.2.2 | exact h_.1.1.1 | exact h_.1.1.2 | exact h_.1.2.1 | exact h_.1.2.2 | exact h_.2.1.1 | exact h_.2.1.2 | exact h_.2.2.1 | exact h_.2.2.2 | exact h_.1.1.1.1 | exact h_.1.1.1.2 | exact h_.1.1.2.1 | exact h_.1.1.2.2 | exact h_.1.2.1.1 | exact h_.1.2.1.2 | exact h_.1.2.2.1 | exact h_.1.2.2.2 | exact h_.2.1.1.1 | exact h_.2.1.1.2 | exact h_.2.1.2.1 | exact h_.2.1.2.2 | exact h_.2.2.1.1 | exact h_.2.2.1.2 | exact h_.2.2.2.1 | exact h_.2.2.2.2 | exact h_.1.1.1.1.1 | exact h_.1.1.1.1.2 | exact h_.1.1.1.2.1 | exact h_.1.1.1.2.2 | exact h_.1.1.2.1.1 | exact h_.1.1.2.1.2 | exact h_.1.1.2.2.1 | exact h_.1.1.2.2.2 | exact h_.1.2.1.1.1 | exact h_.1.2.1.1.2 | exact h_.1.2.1.2.1 | exact h_.1.2.1.2.2 | exact h_.1.2.2.1.1 | exact h_.1.2.2.1.2 | exact h_.1.2.2.2.1 | exact h_.1.2.2.2.2 | exact h_.2.1.1.1.1 | exact h_.2.1.1.1.2 | exact h_.2.1.1.2.1 | exact h_.2.1.1.2.2 | exact h_.2.1.2.1.1 | exact h_.2.1.2.1.2 | exact h_.2.1.2.2.1 | exact h_.2.1.2.2.2 | exact h_.2.2.1.1.1 | exact h_.2.2.1.1.2 | exact h_.2.2.1.2.1 | exact h_.2.2.1.2.2 | exact h_.2.2.2.1.1 | exact h_.2.2.2.1.2 | exact h_.2.2.2.2.1 | exact h_.2.2.2.2.2)) | exact (show _ from by have h_ := hf_V_in HO1_0.out (by have h0_ : (0 : Int) < (l1_0.length : Int) := (by first | exact of_eq_true (by assumption) | exact Int.lt_trans (by decide : (0 : Int) < 1) (of_eq_true (by assumption))); omega) (by decide); first | exact h_ | exact h_.1 | exact h_.2 | exact h_.1.1 | exact h_.1.2 | exact h_.2.1 | exact h_.2.2 | exact h_.1.1.1 | exact h_.1.1.2 | exact h_.1.2.1 | exact h_.1.2.2 | exact h_.2.1.1 | exact h_.2.1.2 | exact h_.2.2.1 | exact h_.2.2.2 | exact h_.1.1.1.1 | exact h_.1.1.1.2 | exact h_.1.1.2.1 | exact h_.1.1.2.2 | exact h_.1.2.1.1 | exact h_.1.2.1.2 | exact h_.1.2.2.1 | exact h_.1.2.2.2 | exact h_.2.1.1.1 | exact h_.2.1.1.2 | exact h_.2.1.2.1 | exact h_.2.1.2.2 | exact h_.2.2.1.1 | exact h_.2.2.1.2 | exact h_.2.2.2.1 | exact h_.2.2.2.2 | exact h_.1.1.1.1.1 | exact h_.1.1.1.1.2 | exact h_.1.1.1.2.1 | exact h_.1.1.1.2.2 | exact h_.1.1.2.1.1 | exact h_.1.1.2.1.2 | exact h_.1.1.2.2.1 | exact h_.1.1.2.2.2 | exact h_.1.2.1.1.1 | exact h_.1.2.1.1.2 | exact h_.1.2.1.2.1 | exact h_.1.2.1.2.2 | exact h_.1.2.2.1.1 | exact h_.1.2.2.1.2 | exact h_.1.2.2.2.1 | exact h_.1.2.2.2.2 | exact h_.2.1.1.1.1 | exact h_.2.1.1.1.2 | exact h_.2.1.1.2.1 | exact h_.2.1.1.2.2 | exact h_.2.1.2.1.1 | exact h_.2.1.2.1.2 | exact h_.2.1.2.2.1 | exact h_.2.1.2.2.2 | exact h_.2.2.1.1.1 | exact h_.2.2.1.1.2 | exact h_.2.2.1.2.1 | exact h_.2.2.1.2.2 | exact h_.2.2.2.1.1 | exact h_.2.2.2.1.2 | exact h_.2.2.2.2.1 | exact h_.2.2.2.2.2))
    have HS2_ := keep_cell hk (hHeld.2.2) (by first | (rw [add_block]; exact (show _ from by have h_ := hf_V_in HO1_0.out (by have h0_ : (0 : Int) < (l1_0.length : Int) := (by first | exact of_eq_true (by assumption) | exact Int.lt_trans (by decide : (0 : Int) < 1) (of_eq_true (by assumption))); omega) (by decide); first | exact h_ | exact h_.1 | exact h_.2 | exact h_.1.1 | exact h_.1.2 | exact h_.2.1 | exact h_.2.2 | exact h_.1.1.1 | exact h_.1.1.2 | exact h_.1.2.1 | exact h_.1.2.2 | exact h_.2.1.1 | exact h_.2.1.2 | exact h_.2.2.1 | exact h_.2.2.2 | exact h_.1.1.1.1 | exact h_.1.1.1.2 | exact h_.1.1.2.1 | exact h_.1.1.2.2 | exact h_.1.2.1.1 | exact h_.1.2.1.2 | exact h_.1.2.2.1 | exact h_.1.2.2.2 | exact h_.2.1.1.1 | exact h_.2.1.1.2 | exact h_.2.1.2.1 | exact h_.2.1.2.2 | exact h_.2.2.1.1 | exact h_.2.2.1.2 | exact h_.2.2.2.1 | exact h_.2.2.2.2 | exact h_.1.1.1.1.1 | exact h_.1.1.1.1.2 | exact h_.1.1.1.2.1 | exact h_.1.1.1.2.2 | exact h_.1.1.2.1.1 | exact h_.1.1.2.1.2 | exact h_.1.1.2.2.1 | exact h_.1.1.2.2.2 | exact h_.1.2.1.1.1 | exact h_.1.2.1.1.2 | exact h_.1.2.1.2.1 | exact h_.1.2.1.2.2 | exact h_.1.2.2.1.1 | exact h_.1.2.2.1.2 | exact h_.1.2.2.2.1 | exact h_.1.2.2.2.2 | exact h_.2.1.1.1.1 | exact h_.2.1.1.1.2 | exact h_.2.1.1.2.1 | exact h_.2.1.1.2.2 | exact h_.2.1.2.1.1 | exact h_.2.1.2.1.2 | exact h_.2.1.2.2.1 | exact h_.2.1.2.2.2 | exact h_.2.2.1.1.1 | exact h_.2.2.1.1.2 | exact h_.2.2.1.2.1 | exact h_.2.2.1.2.2 | exact h_.2.2.2.1.1 | exact h_.2.2.2.1.2 | exact h_.2.2.2.2.1 | exact h_.2.2.2.2.2)) | (show (Addr.add _ _).block ≠ _; rw [add_block]; exact (show _ from by have h_ := hf_V_in HO1_0.out (by have h0_ : (0 : Int) < (l1_0.length : Int) := (by first | exact of_eq_true (by assumption) | exact Int.lt_trans (by decide : (0 : Int) < 1) (of_eq_true (by assumption))); omega) (by decide); first | exact h_ | exact h_.1 | exact h_.2 | exact h_.1.1 | exact h_.1.2 | exact h_.2.1 | exact h_.2.2 | exact h_.1.1.1 | exact h_.1.1.2 | exact h_.1.2.1 | exact h_.1.2.2 | exact h_.2.1.1 | exact h_.2.1.2 | exact h_.2.2.1 | exact h_.2.2.2 | exact h_.1.1.1.1 | exact h_.1.1.1.2 | exact h_.1.1.2.1 | exact h_.1.1.2.2 | exact h_.1.2.1.1 | exact h_.1.2.1.2 | exact h_.1.2.2.1 | exact h_.1.2.2.2 | exact h_.2.1.1.1 | exact h_.2.1.1.2 | exact h_.2.1.2.1 | exact h_.2.1.2.2 | exact h_.2.2.1.1 | exact h_.2.2.1.2 | exact h_.2.2.2.1 | exact h_.2.2.2.2 | exact h_.1.1.1.1.1 | exact h_.1.1.1.1.2 | exact h_.1.1.1.2.1 | exact h_.1.1.1.2.2 | exact h_.1.1.2.1.1 | exact h_.1.1.2.1.2 | exact h_.1.1.2.2.1 | exact h_.1.1.2.2.2 | exact h_.1.2.1.1.1 | exact h_.1.2.1.1.2 | exact h_.1.2.1.2.1 | exact h_.1.2.1.2.2 | exact h_.1.2.2.1.1 | exact h_.1.2.2.1.2 | exact h_.1.2.2.2.1 | exact h_.1.2.2.2.2 | exact h_.2.1.1.1.1 | exact h_.2.1.1.1.2 | exact h_.2.1.1.2.1 | exact h_.2.1.1.2.2 | exact h_.2.1.2.1.1 | exact h_.2.1.2.1.2 | exact h_.2.1.2.2.1 | exact h_.2.1.2.2.2 | exact h_.2.2.1.1.1 | exact h_.2.2.1.1.2 | exact h_.2.2.1.2.1 | exact h_.2.2.1.2.2 | exact h_.2.2.2.1.1 | exact h_.2.2.2.1.2 | exact h_.2.2.2.2.1 | exact h_.2.2.2.2.2)) | exact (show _ from by have h_ := hf_V_in HO1_0.out (by have h0_ : (0 : Int) < (l1_0.length : Int) := (by first | exact of_eq_true (by assumption) | exact Int.lt_trans (by decide : (0 : Int) < 1) (of_eq_true (by assumption))); omega) (by decide); first | exact h_ | exact h_.1 | exact h_.2 | exact h_.1.1 | exact h_.1.2 | exact h_.2.1 | exact h_.2.2 | exact h_.1.1.1 | exact h_.1.1.2 | exact h_.1.2.1 | exact h_.1.2.2 | exact h_.2.1.1 | exact h_.2.1.2 | exact h_.2.2.1 | exact h_.2.2.2 | exact h_.1.1.1.1 | exact h_.1.1.1.2 | exact h_.1.1.2.1 | exact h_.1.1.2.2 | exact h_.1.2.1.1 | exact h_.1.2.1.2 | exact h_.1.2.2.1 | exact h_.1.2.2.2 | exact h_.2.1.1.1 | exact h_.2.1.1.2 | exact h_.2.1.2.1 | exact h_.2.1.2.2 | exact h_.2.2.1.1 | exact h_.2.2.1.2 | exact h_.2.2.2.1 | exact h_.2.2.2.2 | exact h_.1.1.1.1.1 | exact h_.1.1.1.1.2 | exact h_.1.1.1.2.1 | exact h_.1.1.1.2.2 | exact h_.1.1.2.1.1 | exact h_.1.1.2.1.2 | exact h_.1.1.2.2.1 | exact h_.1.1.2.2.2 | exact h_.1.2.1.1.1 | exact h_.1.2.1.1.2 | exact h_.1.2.1.2.1 | exact h_.1.2.1.2.2 | exact h_.1.2.2.1.1 | exact h_.1.2.2.1.2 | exact h_.1.2.2.2.1 | exact h_.1.2.2.2.2 | exact h_.2.1.1.1.1 | exact h_.2.1.1.1.2 | exact h_.2.1.1.2.1 | exact h_.2.1.1.2.2 | exact h_.2.1.2.1.1 | exact h_.2.1.2.1.2 | exact h_.2.1.2.2.1 | exact h_.2.1.2.2.2 | exact h_.2.2.1.1.1 | exact h_.2.2.1.1.2 | exact h_.2.2.1.2.1 | exact h_.2.2.1.2.2 | exact h_.2.2.2.1.1 | exact h_.2.2.2.1.2 | exact h_.2.2.2.2.1 | exact h_.2.2.2.2.2))
    refine ⟨_, rfl, ?_⟩
    replace HO1_0 := Aside0.mk (Kd.V_mono (Kd.V_told (Kd.V_oldK (Kd.V_mono (ok := fun k_ => (((((P1_0_ k_ ∨ w.heap.size ≤ k_)) ∧ k_ ≠ g) ∧ k_ ≠ gb107) ∧ k_ ≠ gb108)) (y28 HO1_0.out) (fun k_ hk_ => (⟨hk_, hk_.1.1.2⟩ : _ ∧ k_ ≠ g))) hk) (Kd.N_base ho0)) (fun _ h_ => h_.1))
    replace HL115_0 := Aside0.mk (Kd.V_mono (Kd.V_told (Kd.V_oldK (Kd.V_mono (ok := fun k_ => (((((P1_0_ k_ ∨ w.heap.size ≤ k_)) ∧ k_ ≠ g) ∧ k_ ≠ gb107) ∧ k_ ≠ gb108)) (y28 HL115_0.out) (fun k_ hk_ => (⟨hk_, hk_.1.1.2⟩ : _ ∧ k_ ≠ g))) hk) (Kd.N_base ho0)) (fun _ h_ => h_.1))
    replace HL121_0 := Aside0.mk (Kd.V_mono (Kd.V_told (Kd.V_oldK (Kd.V_mono (ok := fun k_ => (((((P1_0_ k_ ∨ w.heap.size ≤ k_)) ∧ k_ ≠ g) ∧ k_ ≠ gb107) ∧ k_ ≠ gb108)) (y28 HL121_0.out) (fun k_ hk_ => (⟨hk_, hk_.1.1.2⟩ : _ ∧ k_ ≠ g))) hk) (Kd.N_base ho0)) (fun _ h_ => h_.1))
    have HO119 := Aside0.mk (Kd.N_lower (Kd.N_mono (ok' := fun k_ => (P1_0_ k_ ∨ w.heap.size ≤ k_) ∧ k_ ≠ gb107 ∧ k_ ≠ gb108 ∧ k_ ≠ g) ho0 (fun k_ hk_ => ⟨Or.elim hk_ (fun hs_ => hs_.1.1.1) (fun hn_ => (.inr (Nat.le_trans (keep_size (w := w) (g := g) (row := none) (y11 HK.out GW107.out GW108.out)) hn_))), Or.elim hk_ (fun hs_ => hs_.1.2) (fun hn_ => (Kd.freshB (g := gb107) (o := .cells #[.slice (some ad115) l1_0.length c1_0] 41 (0, 0)) (y1 BK107.out) k_ hn_)), Or.elim hk_ (fun hs_ => hs_.2) (fun hn_ => (Kd.freshB (g := gb108) (o := .cells #[.int .i64 0, .slice none 0 0] 25 (0, 0)) (y1 BK108.out) k_ hn_)), Or.elim hk_ (fun hs_ => hs_.1.1.2) (fun hn_ => (IsS51.fresh (y24 HI0.out NB0_107.out NB0_108.out) k_ hn_))⟩)) (keep_size (w := w) (g := g) (row := none) (y11 HK.out GW107.out GW108.out)))
    replace BK107 := Aside0.mk (KeepBut.blk hk (g' := gb107) (o := .cells #[.slice (some ad115) l1_0.length c1_0] 41 (0, 0)) (y1 BK107.out) NB107_0.out (by simp))
    replace BK108 := Aside0.mk (KeepBut.blk hk (g' := gb108) (o := .cells #[.int .i64 0, .slice none 0 0] 25 (0, 0)) (y1 BK108.out) NB108_0.out (by simp))
    replace HK := Aside0.mk (KeepBut.trans (y11 HK.out GW107.out GW108.out) hk (.inl rfl))
    replace HB := Aside0.mk (hb)
    replace HI0 := Aside0.mk (hi)
    (try clear hb)
    (try clear hb2)
    (try clear hk)
    (try clear hi)
    (try clear ho0)
    refine hK.out _ _ ⟨(blk_cell BK107.out 0).trans rfl, HS1_, HS2_⟩ (fun hHeld => ?_)
    clear hK K
    refine norm_ (a' := ?_) ?_ ?_
    rotate_left
    ·show Act.put _ (some 20) _ = _
     simp only [Act.put, List.setIfInBounds_toArray, List.set_cons_zero, List.set_cons_succ, i64_w, i32_w]
     rfl
    refine one_ (i := 11) (N := some 26) #[true, true, true, true, true, true, true, true, true, true, true, true, false, false, false] rfl rfl (one_of HT_.out (by kernel_rfl)) (by decide) (fun K hK => ?_)
    refine goes_ Tryd.func23 (by kernel_rfl) rfl #[.pointer (some ⟨g, 0, none⟩), .agg #[.slice A121_0 ((rd_T41 l1_0 1).f0).length c121_0]] (by rfl) rfl rfl y4 ?_
    with_reducible refine (ih k (by omega) g s0_0 t120 (fun k_ => (((((P1_0_ k_ ∨ w.heap.size ≤ k_) ∧ k_ ≠ g) ∧ k_ ≠ gb107) ∧ k_ ≠ gb108) ∧ some k_ ≠ (v118 : Value).ownBlock)) _ _ ((rd_T41 l1_0 1).f0) t122 t123 t126 w0 _ ?side1 ?side2 ?side3 A23.out).mono ?_
    (case side1 => exact y24 HI0.out NB0_107.out NB0_108.out)
    (case side2 => exact y30 HB.out HI0.out GE107.out GE108.out)
    (case side3 => exact Kd.V_mono (HL121_0.out) (fun k_ hk_ => ⟨hk_, hk_.1.1.1.2⟩))
    rintro e w26 ⟨v124, rfl, ho0, hi, hb, hk⟩
    have HS1_ := keep_cell hk (hHeld.2.1) (by first | (rw [add_block]; exact (show _ from by have h_ := hf_V_in HO1_0.out (by have h0_ : (0 : Int) < (l1_0.length : Int) := (by first | exact of_eq_true (by assumption) | exact Int.lt_trans (by decide : (0 : Int) < 1) (of_eq_true (by assumption))); omega) (by decide); first | exact h_ | exact h_.1 | exact h_.2 | exact h_.1.1 | exact h_.1.2 | exact h_.2.1 | exact h_.2.2 | exact h_.1.1.1 | exact h_.1.1.2 | exact h_.1.2.1 | exact h_.1.2.2 | exact h_.2.1.1 | exact h_.2.1.2 | exact h_.2.2.1 | exact h_.2.2.2 | exact h_.1.1.1.1 | exact h_.1.1.1.2 | exact h_.1.1.2.1 | exact h_.1.1.2.2 | exact h_.1.2.1.1 | exact h_.1.2.1.2 | exact h_.1.2.2.1 | exact h_.1.2.2.2 | exact h_.2.1.1.1 | exact h_.2.1.1.2 | exact h_.2.1.2.1 | exact h_.2.1.2.2 | exact h_.2.2.1.1 | exact h_.2.2.1.2 | exact h_.2.2.2.1 | exact h_.2.2.2.2 | exact h_.1.1.1.1.1 | exact h_.1.1.1.1.2 | exact h_.1.1.1.2.1 | exact h_.1.1.1.2.2 | exact h_.1.1.2.1.1 | exact h_.1.1.2.1.2 | exact h_.1.1.2.2.1 | exact h_.1.1.2.2.2 | exact h_.1.2.1.1.1 | exact h_.1.2.1.1.2 | exact h_.1.2.1.2.1 | exact h_.1.2.1.2.2 | exact h_.1.2.2.1.1 | exact h_.1.2.2.1.2 | exact h_.1.2.2.2.1 | exact h_.1.2.2.2.2 | exact h_.2.1.1.1.1 | exact h_.2.1.1.1.2 | exact h_.2.1.1.2.1 | exact h_.2.1.1.2.2 | exact h_.2.1.2.1.1 | exact h_.2.1.2.1.2 | exact h_.2.1.2.2.1 | exact h_.2.1.2.2.2 | exact h_.2.2.1.1.1 | exact h_.2.2.1.1.2 | exact h_.2.2.1.2.1 | exact h_.2.2.1.2.2 | exact h_.2.2.2.1.1 | exact h_.2.2.2.1.2 | exact h_.2.2.2.2.1 | exact h_.2.2.2.2.2)) | (show (Addr.add _ _).block ≠ _; rw [add_block]; exact (show _ from by have h_ := hf_V_in HO1_0.out (by have h0_ : (0 : Int) < (l1_0.length : Int) := (by first | exact of_eq_true (by assumption) | exact Int.lt_trans (by decide : (0 : Int) < 1) (of_eq_true (by assumption))); omega) (by decide); first | exact h_ | exact h_.1 | exact h_.2 | exact h_.1.1 | exact h_.1.2 | exact h_.2.1 | exact h_.2.2 | exact h_.1.1.1 | exact h_.1.1.2 | exact h_.1.2.1 | exact h_.1.2.2 | exact h_.2.1.1 | exact h_.2.1.2 | exact h_.2.2.1 | exact h_.2.2.2 | exact h_.1.1.1.1 | exact h_.1.1.1.2 | exact h_.1.1.2.1 | exact h_.1.1.2.2 | exact h_.1.2.1.1 | exact h_.1.2.1.2 | exact h_.1.2.2.1 | exact h_.1.2.2.2 | exact h_.2.1.1.1 | exact h_.2.1.1.2 | exact h_.2.1.2.1 | exact h_.2.1.2.2 | exact h_.2.2.1.1 | exact h_.2.2.1.2 | exact h_.2.2.2.1 | exact h_.2.2.2.2 | exact h_.1.1.1.1.1 | exact h_.1.1.1.1.2 | exact h_.1.1.1.2.1 | exact h_.1.1.1.2.2 | exact h_.1.1.2.1.1 | exact h_.1.1.2.1.2 | exact h_.1.1.2.2.1 | exact h_.1.1.2.2.2 | exact h_.1.2.1.1.1 | exact h_.1.2.1.1.2 | exact h_.1.2.1.2.1 | exact h_.1.2.1.2.2 | exact h_.1.2.2.1.1 | exact h_.1.2.2.1.2 | exact h_.1.2.2.2.1 | exact h_.1.2.2.2.2 | exact h_.2.1.1.1.1 | exact h_.2.1.1.1.2 | exact h_.2.1.1.2.1 | exact h_.2.1.1.2.2 | exact h_.2.1.2.1.1 | exact h_.2.1.2.1.2 | exact h_.2.1.2.2.1 | exact h_.2.1.2.2.2 | exact h_.2.2.1.1.1 | exact h_.2.2.1.1.2 | exact h_.2.2.1.2.1 | exact h_.2.2.1.2.2 | exact h_.2.2.2.1.1 | exact h_.2.2.2.1.2 | exact h_.2.2.2.2.1 | exact h_.2.2.2.2.2)) | exact (show _ from by have h_ := hf_V_in HO1_0.out (by have h0_ : (0 : Int) < (l1_0.length : Int) := (by first | exact of_eq_true (by assumption) | exact Int.lt_trans (by decide : (0 : Int) < 1) (of_eq_true (by assumption))); omega) (by decide); first | exact h_ | exact h_.1 | exact h_.2 | exact h_.1.1 | exact h_.1.2 | exact h_.2.1 | exact h_.2.2 | exact h_.1.1.1 | exact h_.1.1.2 | exact h_.1.2.1 | exact h_.1.2.2 | exact h_.2.1.1 | exact h_.2.1.2 | exact h_.2.2.1 | exact h_.2.2.2 | exact h_.1.1.1.1 | exact h_.1.1.1.2 | exact h_.1.1.2.1 | exact h_.1.1.2.2 | exact h_.1.2.1.1 | exact h_.1.2.1.2 | exact h_.1.2.2.1 | exact h_.1.2.2.2 | exact h_.2.1.1.1 | exact h_.2.1.1.2 | exact h_.2.1.2.1 | exact h_.2.1.2.2 | exact h_.2.2.1.1 | exact h_.2.2.1.2 | exact h_.2.2.2.1 | exact h_.2.2.2.2 | exact h_.1.1.1.1.1 | exact h_.1.1.1.1.2 | exact h_.1.1.1.2.1 | exact h_.1.1.1.2.2 | exact h_.1.1.2.1.1 | exact h_.1.1.2.1.2 | exact h_.1.1.2.2.1 | exact h_.1.1.2.2.2 | exact h_.1.2.1.1.1 | exact h_.1.2.1.1.2 | exact h_.1.2.1.2.1 | exact h_.1.2.1.2.2 | exact h_.1.2.2.1.1 | exact h_.1.2.2.1.2 | exact h_.1.2.2.2.1 | exact h_.1.2.2.2.2 | exact h_.2.1.1.1.1 | exact h_.2.1.1.1.2 | exact h_.2.1.1.2.1 | exact h_.2.1.1.2.2 | exact h_.2.1.2.1.1 | exact h_.2.1.2.1.2 | exact h_.2.1.2.2.1 | exact h_.2.1.2.2.2 | exact h_.2.2.1.1.1 | exact h_.2.2.1.1.2 | exact h_.2.2.1.2.1 | exact h_.2.2.1.2.2 | exact h_.2.2.2.1.1 | exact h_.2.2.2.1.2 | exact h_.2.2.2.2.1 | exact h_.2.2.2.2.2))
    have HS2_ := keep_cell hk (hHeld.2.2) (by first | (rw [add_block]; exact (show _ from by have h_ := hf_V_in HO1_0.out (by have h0_ : (0 : Int) < (l1_0.length : Int) := (by first | exact of_eq_true (by assumption) | exact Int.lt_trans (by decide : (0 : Int) < 1) (of_eq_true (by assumption))); omega) (by decide); first | exact h_ | exact h_.1 | exact h_.2 | exact h_.1.1 | exact h_.1.2 | exact h_.2.1 | exact h_.2.2 | exact h_.1.1.1 | exact h_.1.1.2 | exact h_.1.2.1 | exact h_.1.2.2 | exact h_.2.1.1 | exact h_.2.1.2 | exact h_.2.2.1 | exact h_.2.2.2 | exact h_.1.1.1.1 | exact h_.1.1.1.2 | exact h_.1.1.2.1 | exact h_.1.1.2.2 | exact h_.1.2.1.1 | exact h_.1.2.1.2 | exact h_.1.2.2.1 | exact h_.1.2.2.2 | exact h_.2.1.1.1 | exact h_.2.1.1.2 | exact h_.2.1.2.1 | exact h_.2.1.2.2 | exact h_.2.2.1.1 | exact h_.2.2.1.2 | exact h_.2.2.2.1 | exact h_.2.2.2.2 | exact h_.1.1.1.1.1 | exact h_.1.1.1.1.2 | exact h_.1.1.1.2.1 | exact h_.1.1.1.2.2 | exact h_.1.1.2.1.1 | exact h_.1.1.2.1.2 | exact h_.1.1.2.2.1 | exact h_.1.1.2.2.2 | exact h_.1.2.1.1.1 | exact h_.1.2.1.1.2 | exact h_.1.2.1.2.1 | exact h_.1.2.1.2.2 | exact h_.1.2.2.1.1 | exact h_.1.2.2.1.2 | exact h_.1.2.2.2.1 | exact h_.1.2.2.2.2 | exact h_.2.1.1.1.1 | exact h_.2.1.1.1.2 | exact h_.2.1.1.2.1 | exact h_.2.1.1.2.2 | exact h_.2.1.2.1.1 | exact h_.2.1.2.1.2 | exact h_.2.1.2.2.1 | exact h_.2.1.2.2.2 | exact h_.2.2.1.1.1 | exact h_.2.2.1.1.2 | exact h_.2.2.1.2.1 | exact h_.2.2.1.2.2 | exact h_.2.2.2.1.1 | exact h_.2.2.2.1.2 | exact h_.2.2.2.2.1 | exact h_.2.2.2.2.2)) | (show (Addr.add _ _).block ≠ _; rw [add_block]; exact (show _ from by have h_ := hf_V_in HO1_0.out (by have h0_ : (0 : Int) < (l1_0.length : Int) := (by first | exact of_eq_true (by assumption) | exact Int.lt_trans (by decide : (0 : Int) < 1) (of_eq_true (by assumption))); omega) (by decide); first | exact h_ | exact h_.1 | exact h_.2 | exact h_.1.1 | exact h_.1.2 | exact h_.2.1 | exact h_.2.2 | exact h_.1.1.1 | exact h_.1.1.2 | exact h_.1.2.1 | exact h_.1.2.2 | exact h_.2.1.1 | exact h_.2.1.2 | exact h_.2.2.1 | exact h_.2.2.2 | exact h_.1.1.1.1 | exact h_.1.1.1.2 | exact h_.1.1.2.1 | exact h_.1.1.2.2 | exact h_.1.2.1.1 | exact h_.1.2.1.2 | exact h_.1.2.2.1 | exact h_.1.2.2.2 | exact h_.2.1.1.1 | exact h_.2.1.1.2 | exact h_.2.1.2.1 | exact h_.2.1.2.2 | exact h_.2.2.1.1 | exact h_.2.2.1.2 | exact h_.2.2.2.1 | exact h_.2.2.2.2 | exact h_.1.1.1.1.1 | exact h_.1.1.1.1.2 | exact h_.1.1.1.2.1 | exact h_.1.1.1.2.2 | exact h_.1.1.2.1.1 | exact h_.1.1.2.1.2 | exact h_.1.1.2.2.1 | exact h_.1.1.2.2.2 | exact h_.1.2.1.1.1 | exact h_.1.2.1.1.2 | exact h_.1.2.1.2.1 | exact h_.1.2.1.2.2 | exact h_.1.2.2.1.1 | exact h_.1.2.2.1.2 | exact h_.1.2.2.2.1 | exact h_.1.2.2.2.2 | exact h_.2.1.1.1.1 | exact h_.2.1.1.1.2 | exact h_.2.1.1.2.1 | exact h_.2.1.1.2.2 | exact h_.2.1.2.1.1 | exact h_.2.1.2.1.2 | exact h_.2.1.2.2.1 | exact h_.2.1.2.2.2 | exact h_.2.2.1.1.1 | exact h_.2.2.1.1.2 | exact h_.2.2.1.2.1 | exact h_.2.2.1.2.2 | exact h_.2.2.2.1.1 | exact h_.2.2.2.1.2 | exact h_.2.2.2.2.1 | exact h_.2.2.2.2.2)) | exact (show _ from by have h_ := hf_V_in HO1_0.out (by have h0_ : (0 : Int) < (l1_0.length : Int) := (by first | exact of_eq_true (by assumption) | exact Int.lt_trans (by decide : (0 : Int) < 1) (of_eq_true (by assumption))); omega) (by decide); first | exact h_ | exact h_.1 | exact h_.2 | exact h_.1.1 | exact h_.1.2 | exact h_.2.1 | exact h_.2.2 | exact h_.1.1.1 | exact h_.1.1.2 | exact h_.1.2.1 | exact h_.1.2.2 | exact h_.2.1.1 | exact h_.2.1.2 | exact h_.2.2.1 | exact h_.2.2.2 | exact h_.1.1.1.1 | exact h_.1.1.1.2 | exact h_.1.1.2.1 | exact h_.1.1.2.2 | exact h_.1.2.1.1 | exact h_.1.2.1.2 | exact h_.1.2.2.1 | exact h_.1.2.2.2 | exact h_.2.1.1.1 | exact h_.2.1.1.2 | exact h_.2.1.2.1 | exact h_.2.1.2.2 | exact h_.2.2.1.1 | exact h_.2.2.1.2 | exact h_.2.2.2.1 | exact h_.2.2.2.2 | exact h_.1.1.1.1.1 | exact h_.1.1.1.1.2 | exact h_.1.1.1.2.1 | exact h_.1.1.1.2.2 | exact h_.1.1.2.1.1 | exact h_.1.1.2.1.2 | exact h_.1.1.2.2.1 | exact h_.1.1.2.2.2 | exact h_.1.2.1.1.1 | exact h_.1.2.1.1.2 | exact h_.1.2.1.2.1 | exact h_.1.2.1.2.2 | exact h_.1.2.2.1.1 | exact h_.1.2.2.1.2 | exact h_.1.2.2.2.1 | exact h_.1.2.2.2.2 | exact h_.2.1.1.1.1 | exact h_.2.1.1.1.2 | exact h_.2.1.1.2.1 | exact h_.2.1.1.2.2 | exact h_.2.1.2.1.1 | exact h_.2.1.2.1.2 | exact h_.2.1.2.2.1 | exact h_.2.1.2.2.2 | exact h_.2.2.1.1.1 | exact h_.2.2.1.1.2 | exact h_.2.2.1.2.1 | exact h_.2.2.1.2.2 | exact h_.2.2.2.1.1 | exact h_.2.2.2.1.2 | exact h_.2.2.2.2.1 | exact h_.2.2.2.2.2))
    refine ⟨_, rfl, ?_⟩
    replace HO1_0 := Aside0.mk (Kd.V_mono (Kd.V_told (Kd.V_oldK (Kd.V_mono (ok := fun k_ => ((((((P1_0_ k_ ∨ w.heap.size ≤ k_)) ∧ k_ ≠ g) ∧ k_ ≠ gb107) ∧ k_ ≠ gb108) ∧ some k_ ≠ (v118 : Value).ownBlock)) (y28 HO1_0.out) (fun k_ hk_ => (⟨hk_, hk_.1.1.1.2⟩ : _ ∧ k_ ≠ g))) hk) (Kd.N_base ho0)) (fun _ h_ => h_.1))
    replace HL115_0 := Aside0.mk (Kd.V_mono (Kd.V_told (Kd.V_oldK (Kd.V_mono (ok := fun k_ => ((((((P1_0_ k_ ∨ w.heap.size ≤ k_)) ∧ k_ ≠ g) ∧ k_ ≠ gb107) ∧ k_ ≠ gb108) ∧ some k_ ≠ (v118 : Value).ownBlock)) (y28 HL115_0.out) (fun k_ hk_ => (⟨hk_, hk_.1.1.1.2⟩ : _ ∧ k_ ≠ g))) hk) (Kd.N_base ho0)) (fun _ h_ => h_.1))
    replace HL121_0 := Aside0.mk (Kd.V_mono (Kd.V_told (Kd.V_oldK (Kd.V_mono (ok := fun k_ => ((((((P1_0_ k_ ∨ w.heap.size ≤ k_)) ∧ k_ ≠ g) ∧ k_ ≠ gb107) ∧ k_ ≠ gb108) ∧ some k_ ≠ (v118 : Value).ownBlock)) (y28 HL121_0.out) (fun k_ hk_ => (⟨hk_, hk_.1.1.1.2⟩ : _ ∧ k_ ≠ g))) hk) (Kd.N_base ho0)) (fun _ h_ => h_.1))
    have HO125 := Aside0.mk (Kd.N_lower (Kd.N_mono (ok' := fun k_ => (P1_0_ k_ ∨ w.heap.size ≤ k_) ∧ some k_ ≠ (v118 : Value).ownBlock ∧ k_ ≠ gb107 ∧ k_ ≠ gb108 ∧ k_ ≠ g) ho0 (fun k_ hk_ => ⟨Or.elim hk_ (fun hs_ => hs_.1.1.1.1) (fun hn_ => (.inr (Nat.le_trans (keep_size (w := w) (g := g) (row := none) (y11 HK.out GW107.out GW108.out)) hn_))), Or.elim hk_ (fun hs_ => hs_.2) (fun hn_ => (Kd.fresh' (Kd.N_lt (y12 HO119.out)) k_ hn_)), Or.elim hk_ (fun hs_ => hs_.1.1.2) (fun hn_ => (Kd.freshB (g := gb107) (o := .cells #[.slice (some ad115) l1_0.length c1_0] 41 (0, 0)) (y1 BK107.out) k_ hn_)), Or.elim hk_ (fun hs_ => hs_.1.2) (fun hn_ => (Kd.freshB (g := gb108) (o := .cells #[.int .i64 0, .slice none 0 0] 25 (0, 0)) (y1 BK108.out) k_ hn_)), Or.elim hk_ (fun hs_ => hs_.1.1.1.2) (fun hn_ => (IsS51.fresh (y24 HI0.out NB0_107.out NB0_108.out) k_ hn_))⟩)) (keep_size (w := w) (g := g) (row := none) (y11 HK.out GW107.out GW108.out)))
    replace BK107 := Aside0.mk (KeepBut.blk hk (g' := gb107) (o := .cells #[.slice (some ad115) l1_0.length c1_0] 41 (0, 0)) (y1 BK107.out) NB107_0.out (by simp))
    replace BK108 := Aside0.mk (KeepBut.blk hk (g' := gb108) (o := .cells #[.int .i64 0, .slice none 0 0] 25 (0, 0)) (y1 BK108.out) NB108_0.out (by simp))
    replace HO119 := Aside0.mk (Kd.N_mono (Kd.N_told (Kd.N_oldK (Kd.N_mono (ok := fun k_ => (((P1_0_ k_ ∨ w.heap.size ≤ k_)) ∧ (k_ ≠ gb107 ∧ (k_ ≠ gb108 ∧ k_ ≠ g)))) (y12 HO119.out) (fun k_ hk_ => (⟨hk_, hk_.2.2.2⟩ : _ ∧ k_ ≠ g))) hk) (Kd.N_base ho0)) (fun _ h_ => h_.1))
    replace HK := Aside0.mk (KeepBut.trans (y11 HK.out GW107.out GW108.out) hk (.inl rfl))
    replace HB := Aside0.mk (hb)
    replace HI0 := Aside0.mk (hi)
    (try clear hb)
    (try clear hb2)
    (try clear hk)
    (try clear hi)
    (try clear ho0)
    obtain ⟨Ao27, co27, eo27⟩ := Kd.N_slice HO119.out
    (first | subst eo27 | (injection eo27 with f1_ f2_ f3_; have f4_ := f1_.symm; have f5_ := f3_.symm; clear f1_ f2_ f3_; subst f4_; subst f5_))
    obtain ⟨Ao28, co28, eo28⟩ := Kd.N_slice HO125.out
    (first | subst eo28 | (injection eo28 with f1_ f2_ f3_; have f4_ := f1_.symm; have f5_ := f3_.symm; clear f1_ f2_ f3_; subst f4_; subst f5_))
    refine hK.out _ _ ⟨(blk_cell BK107.out 0).trans rfl, HS1_, HS2_⟩ (fun hHeld => ?_)
    clear hK K
    refine norm_ (a' := ?_) ?_ ?_
    rotate_left
    ·show Act.put _ (some 26) _ = _
     simp only [Act.put, List.setIfInBounds_toArray, List.set_cons_zero, List.set_cons_succ, i64_w, i32_w]
     rfl
    refine one_ (i := 12) (N := some 27) #[true, true, true, true, true, true, true, true, true, true, true, true, true, false, false] rfl rfl (one_of HT_.out (by kernel_rfl)) (by decide) (fun K hK => ?_)
    refine Kd.N_lit_step k25 _ 25 ?hg (N' := 27) ?hd (xs := ([(⟨t116, t117⟩ : S25), (⟨t122, t123⟩ : S25)] : List (S25))) (inner := [.int .i64 t116, .slice Ao27 t117.length co27, .int .i64 t122, .slice Ao28 t123.length co28]) (ok := (fun k_ => (P1_0_ k_ ∨ w.heap.size ≤ k_) ∧ k_ ≠ gb107 ∧ k_ ≠ gb108 ∧ k_ ≠ g)) (okp := (fun k_ => (P1_0_ k_ ∨ w.heap.size ≤ k_) ∧ k_ ≠ gb107 ∧ k_ ≠ gb108 ∧ k_ ≠ g)) ?hr ?hp (fun _ hk => hk) ((show ∀ k_, w26.heap.size ≤ k_ → (fun k_ => (P1_0_ k_ ∨ w.heap.size ≤ k_) ∧ k_ ≠ gb107 ∧ k_ ≠ gb108 ∧ k_ ≠ g) k_ from fun k_ hk => ⟨(.inr (Nat.le_trans (keep_size (w := w) (g := g) (row := none) (y11 HK.out GW107.out GW108.out)) hk)), Kd.freshB (g := gb107) (o := .cells #[.slice (some ad115) l1_0.length c1_0] 41 (0, 0)) (y1 BK107.out) k_ hk, Kd.freshB (g := gb108) (o := .cells #[.int .i64 0, .slice none 0 0] 25 (0, 0)) (y1 BK108.out) k_ hk, IsS51.fresh (y24 HI0.out NB0_107.out NB0_108.out) k_ hk⟩) _ (Nat.le_refl _)) (Below.refl _ _) (Nat.le_refl _) (by simp) ?_; (case hd => rfl); (case hg => rfl); (case hr => first | (go_simp; done) | (go_simp; rfl)); (case hp => exact (Reps.c2 (show Kd.FK k25 _ _ (⟨t116, t117⟩ : S25) [.int .i64 t116, .slice Ao27 t117.length co27] from (k25_mkF _ _ (⟨t116, t117⟩ : S25) (Kd.N_reads' (Kd.N_mono (ok' := (fun k_ => (P1_0_ k_ ∨ w.heap.size ≤ k_) ∧ k_ ≠ gb107 ∧ k_ ≠ gb108 ∧ k_ ≠ g)) (HO119.out) (fun k_ hk => ⟨hk.1.1, ⟨hk.1.2.1, ⟨hk.1.2.2.1, hk.1.2.2.2⟩⟩⟩))).2.1 (Kd.N_F (Kd.N_mono (ok' := (fun k_ => (P1_0_ k_ ∨ w.heap.size ≤ k_) ∧ k_ ≠ gb107 ∧ k_ ≠ gb108 ∧ k_ ≠ g)) (HO119.out) (fun k_ hk => ⟨hk.1.1, ⟨hk.1.2.1, ⟨hk.1.2.2.1, hk.1.2.2.2⟩⟩⟩))))) (Reps.c2 (show Kd.FK k25 _ _ (⟨t122, t123⟩ : S25) [.int .i64 t122, .slice Ao28 t123.length co28] from (k25_mkF _ _ (⟨t122, t123⟩ : S25) (Kd.N_reads' (Kd.N_mono (ok' := (fun k_ => (P1_0_ k_ ∨ w.heap.size ≤ k_) ∧ k_ ≠ gb107 ∧ k_ ≠ gb108 ∧ k_ ≠ g)) (HO125.out) (fun k_ hk => ⟨hk.1, ⟨hk.2.2.1, ⟨hk.2.2.2.1, hk.2.2.2.2⟩⟩⟩))).2.1 (Kd.N_F (Kd.N_mono (ok' := (fun k_ => (P1_0_ k_ ∨ w.heap.size ≤ k_) ∧ k_ ≠ gb107 ∧ k_ ≠ gb108 ∧ k_ ≠ g)) (HO125.out) (fun k_ hk => ⟨hk.1, ⟨hk.2.2.1, ⟨hk.2.2.2.1, hk.2.2.2.2⟩⟩⟩))))) (Reps.none _ _))))
    intro v128 w29 ho30 hb hg_ hnew_
    have HS1_ := (hb.cell (World.block_lt_of_cell? _ _ (hHeld.2.1))).trans (hHeld.2.1)
    have HS2_ := (hb.cell (World.block_lt_of_cell? _ _ (hHeld.2.2))).trans (hHeld.2.2)
    clear hg_ hnew_
    (first | rw [← Ny127.out] at ho30 | (simp only [Int.reduceToNat] at ho30; rw [← Ny127.out] at ho30))
    replace HO1_0 := Aside0.mk (Kd.V_elder' (y28 HO1_0.out) (Kd.N_base ho30) hb)
    replace HL115_0 := Aside0.mk (Kd.V_elder' (y28 HL115_0.out) (Kd.N_base ho30) hb)
    replace HL121_0 := Aside0.mk (Kd.V_elder' (y28 HL121_0.out) (Kd.N_base ho30) hb)
    have HO129 := Aside0.mk (Kd.N_lower ho30 (keep_size (w := w) (g := g) (row := none) (y11 HK.out GW107.out GW108.out)))
    replace BK107 := zbb BK107 hb
    replace BK108 := zbb BK108 hb
    replace HK := Aside0.mk (KeepBut.trans (y11 HK.out GW107.out GW108.out) (KeepBut.of_below hb g none) (.inl rfl))
    replace HB := Aside0.mk (below_step (y30 HB.out HI0.out GE107.out GE108.out) hb)
    replace HI0 := Aside0.mk (IsS51.below (y24 HI0.out NB0_107.out NB0_108.out) hb)
    clear HO119 HO125
    clear hb ho30
    obtain ⟨Ao31, co31, eo31⟩ := Kd.N_slice HO129.out
    (first | subst eo31 | (injection eo31 with f1_ f2_ f3_; have f4_ := f1_.symm; have f5_ := f3_.symm; clear f1_ f2_ f3_; subst f4_; subst f5_))
    refine hK.out _ _ ⟨(blk_cell BK107.out 0).trans rfl, HS1_, HS2_⟩ (fun hHeld => ?_)
    clear hK K
    refine norm_ (a' := ?_) ?_ ?_
    rotate_left
    ·show Act.put _ (some 27) _ = _
     simp only [Act.put, List.setIfInBounds_toArray, List.set_cons_zero, List.set_cons_succ, i64_w, i32_w]
     rfl
    refine zp 13 (some 28) HT_ ?_
    refine one_ (i := 14) (N := none) #[true, true, true, true, true, true, true, true, true, true, true, true, true, true, true] rfl rfl (one_of HT_.out (by kernel_rfl)) (by decide) (fun K hK => ?_)
    have hs32 : w29.cell? ⟨gb108, 0, none⟩ = some (.int .i64 0) := (blk_cell BK108.out 0).trans rfl
    have hfs32 := zfr BK108 0
    have hns32_0 := NB107_108.out
    have hms32_0 := NB108_107.out
    have hs33 : w29.cell? ⟨gb108, 1, none⟩ = some (.slice none 0 0) := (blk_cell BK108.out 1).trans rfl
    have hfs33 := zfr BK108 1
    have hns33_0 := NB107_108.out
    have hms33_0 := NB108_107.out
    refine skip_ (w1 := ?_) (by rfl) rfl ?_ ?_
    rotate_left
    ·go_simp
     rfl
    refine hK.out _ _ ⟨((cell_far (p := ⟨gb108, _, none⟩) NB107_108.out _).trans (((cell_far (p := ⟨gb108, _, none⟩) NB107_108.out _).trans (hHeld.1)))), ((cell_far (p := ⟨gb108, _, none⟩) (by first | exact (hf_V_away HO1_0.out (by first | exact Int.ofNat_lt.1 (of_eq_true (by assumption)) | exact Int.ofNat_lt.1 (Int.lt_trans (by decide : (0 : Int) < 1) (of_eq_true (by assumption)))) (by decide) (fun _ hk => hk.1.1.1.2)) | (rw [add_block]; exact (hf_V_away HO1_0.out (by first | exact Int.ofNat_lt.1 (of_eq_true (by assumption)) | exact Int.ofNat_lt.1 (Int.lt_trans (by decide : (0 : Int) < 1) (of_eq_true (by assumption)))) (by decide) (fun _ hk => hk.1.1.1.2))) | (show (Addr.add _ _).block ≠ _; rw [add_block]; exact (hf_V_away HO1_0.out (by first | exact Int.ofNat_lt.1 (of_eq_true (by assumption)) | exact Int.ofNat_lt.1 (Int.lt_trans (by decide : (0 : Int) < 1) (of_eq_true (by assumption)))) (by decide) (fun _ hk => hk.1.1.1.2))) | (dsimp only; exact (hf_V_away HO1_0.out (by first | exact Int.ofNat_lt.1 (of_eq_true (by assumption)) | exact Int.ofNat_lt.1 (Int.lt_trans (by decide : (0 : Int) < 1) (of_eq_true (by assumption)))) (by decide) (fun _ hk => hk.1.1.1.2)))) _).trans (((cell_far (p := ⟨gb108, _, none⟩) (by first | exact (hf_V_away HO1_0.out (by first | exact Int.ofNat_lt.1 (of_eq_true (by assumption)) | exact Int.ofNat_lt.1 (Int.lt_trans (by decide : (0 : Int) < 1) (of_eq_true (by assumption)))) (by decide) (fun _ hk => hk.1.1.1.2)) | (rw [add_block]; exact (hf_V_away HO1_0.out (by first | exact Int.ofNat_lt.1 (of_eq_true (by assumption)) | exact Int.ofNat_lt.1 (Int.lt_trans (by decide : (0 : Int) < 1) (of_eq_true (by assumption)))) (by decide) (fun _ hk => hk.1.1.1.2))) | (show (Addr.add _ _).block ≠ _; rw [add_block]; exact (hf_V_away HO1_0.out (by first | exact Int.ofNat_lt.1 (of_eq_true (by assumption)) | exact Int.ofNat_lt.1 (Int.lt_trans (by decide : (0 : Int) < 1) (of_eq_true (by assumption)))) (by decide) (fun _ hk => hk.1.1.1.2))) | (dsimp only; exact (hf_V_away HO1_0.out (by first | exact Int.ofNat_lt.1 (of_eq_true (by assumption)) | exact Int.ofNat_lt.1 (Int.lt_trans (by decide : (0 : Int) < 1) (of_eq_true (by assumption)))) (by decide) (fun _ hk => hk.1.1.1.2)))) _).trans (hHeld.2.1)))), ((cell_far (p := ⟨gb108, _, none⟩) (by first | exact (hf_V_away HO1_0.out (by first | exact Int.ofNat_lt.1 (of_eq_true (by assumption)) | exact Int.ofNat_lt.1 (Int.lt_trans (by decide : (0 : Int) < 1) (of_eq_true (by assumption)))) (by decide) (fun _ hk => hk.1.1.1.2)) | (rw [add_block]; exact (hf_V_away HO1_0.out (by first | exact Int.ofNat_lt.1 (of_eq_true (by assumption)) | exact Int.ofNat_lt.1 (Int.lt_trans (by decide : (0 : Int) < 1) (of_eq_true (by assumption)))) (by decide) (fun _ hk => hk.1.1.1.2))) | (show (Addr.add _ _).block ≠ _; rw [add_block]; exact (hf_V_away HO1_0.out (by first | exact Int.ofNat_lt.1 (of_eq_true (by assumption)) | exact Int.ofNat_lt.1 (Int.lt_trans (by decide : (0 : Int) < 1) (of_eq_true (by assumption)))) (by decide) (fun _ hk => hk.1.1.1.2))) | (dsimp only; exact (hf_V_away HO1_0.out (by first | exact Int.ofNat_lt.1 (of_eq_true (by assumption)) | exact Int.ofNat_lt.1 (Int.lt_trans (by decide : (0 : Int) < 1) (of_eq_true (by assumption)))) (by decide) (fun _ hk => hk.1.1.1.2)))) _).trans (((cell_far (p := ⟨gb108, _, none⟩) (by first | exact (hf_V_away HO1_0.out (by first | exact Int.ofNat_lt.1 (of_eq_true (by assumption)) | exact Int.ofNat_lt.1 (Int.lt_trans (by decide : (0 : Int) < 1) (of_eq_true (by assumption)))) (by decide) (fun _ hk => hk.1.1.1.2)) | (rw [add_block]; exact (hf_V_away HO1_0.out (by first | exact Int.ofNat_lt.1 (of_eq_true (by assumption)) | exact Int.ofNat_lt.1 (Int.lt_trans (by decide : (0 : Int) < 1) (of_eq_true (by assumption)))) (by decide) (fun _ hk => hk.1.1.1.2))) | (show (Addr.add _ _).block ≠ _; rw [add_block]; exact (hf_V_away HO1_0.out (by first | exact Int.ofNat_lt.1 (of_eq_true (by assumption)) | exact Int.ofNat_lt.1 (Int.lt_trans (by decide : (0 : Int) < 1) (of_eq_true (by assumption)))) (by decide) (fun _ hk => hk.1.1.1.2))) | (dsimp only; exact (hf_V_away HO1_0.out (by first | exact Int.ofNat_lt.1 (of_eq_true (by assumption)) | exact Int.ofNat_lt.1 (Int.lt_trans (by decide : (0 : Int) < 1) (of_eq_true (by assumption)))) (by decide) (fun _ hk => hk.1.1.1.2)))) _).trans (hHeld.2.2))))⟩ (fun hHeld => ?_)
    clear hK K
    refine done_ (done_of HT_.out (by kernel_rfl)) ?_
    try go_wp2
    refine bodyPost_ret (results_cell_row rfl _ _ gb108 25 #[.int .i64 0, .slice Ao31 y127.length co31] (0, 0) _ rfl (by (with_reducible repeat (first | refine blk_drewN ?_ _ | refine blk_drew ?_ | refine blk_alloc ?_ _)); refine blk_put (cs := #[.int .i64 0, .slice none 0 0]) ?_ 1 _ rfl; (with_reducible repeat (first | refine blk_drewN ?_ _ | refine blk_drew ?_ | refine blk_alloc ?_ _)); apply blk_put (i := 0); (case h => exact y1 BK108.out); (case e => rfl)) Tryd.underlying25 rfl (by kernel_rfl)) rfl ?_
    exact ⟨_, y7, (by (with_reducible repeat (first | apply Kd.N_alloc | apply Kd.N_drewN | apply Kd.N_drew)); exact Kd.N_mono (Kd.N_far (p := ⟨gb108, 1, none⟩) (Kd.N_far (p := ⟨gb108, 0, none⟩) (Kd.N_mono HO129.out (fun k_ hk => (⟨hk, hk.2.2.1⟩ : _ ∧ k_ ≠ gb108))) (fun _ hk => hk.2) (.int .i64 0)) (fun _ hk => hk.2) (.slice Ao31 y127.length co31)) (fun _ hk => hk.1.1)), (y24 HI0.out NB0_107.out NB0_108.out), (y30 HB.out HI0.out GE107.out GE108.out), (y11 HK.out GW107.out GW108.out)⟩
   ·rw [if_neg c22] at H
    exact absurd H (by simp)
  ·rw [if_neg c20] at H
   exact absurd H (by simp)
end Go.Proofs.YtihfbpmblppbgaaDoor.PA
end
section
namespace Go.Proofs.YtihfbpmblppbgaaDoor.PA
open Go.RowKit Go.Proofs.YtihfbpmblppbgaaDoorW.PrintWords Go.Proofs.YtihfbpmblppbgaaDoorW.PrintLast Go.Proofs.YtihfbpmblppbgaaDoorW.PrintMore
attribute [local go_sem] max2_int min2_int max_two min_two max_three min_three max_four min_four
set_option linter.unusedVariables false
set_option linter.unusedSimpArgs false
def spec_l71Bad.l0 : Nat → Int → List Int → Int → Int → List (S25) → Option (Int × (List (S25)) × Int)
 | 0, _, _, _, _, _ => none
 | k + 1, x6, x1000, x1001, x138000, x138001 => if x6 < 5 then (spec_l71Bad.l0 k (wrap64 (x6 + 1)) x1000 x1001 0 (([(⟨x138000, x138001⟩ : S25), (⟨0, ([] : List (S25))⟩ : S25)] : List (S25)))) else (some (x138000, x138001, x1001))
def spec_l71Bad.f (k : Nat) (s0_0 : List Int) (s0_1 : Int) (l1_0 : List (S41)) : Option (Int × (List (S25)) × Int) := (spec_l71Val.f k s0_0 s0_1 l1_0).bind fun bt132 => ((spec_l6Rd_pick.f k s0_0 bt132.2.2 12).bind fun bt138 => (if bt138.1 = 0 then ((some (([(-1), 1, 9999, 10000] : List Int) : List Int)).bind fun y140 => ((spec_l6Rd_pick.f k s0_0 bt138.2 4).bind fun bt143 => (if 0 ≤ bt143.1 then (if bt143.1 < (y140.length : Int) then (some (rd y140 bt143.1, bt132.2.1, bt143.2)) else (none)) else (none)))) else (if bt138.1 = 1 then (if bt132.2.1.length < 4398046511104 then (some (bt132.1, (bt132.2.1 ++ [(⟨0, ([] : List (S25))⟩ : S25)]), bt138.2)) else (none)) else (if bt138.1 = 2 then (spec_l71Bad.l0 k 0 s0_0 bt138.2 bt132.1 bt132.2.1) else (some (bt132.1, bt132.2.1, bt138.2))))))
theorem spec_l71Bad.mono_l : ∀ k, (∀ y0 y1 y2 y3 y4, LeO (spec_l71Bad.l0 k y0 y1 y2 y3 y4) (spec_l71Bad.l0 (k + 1) y0 y1 y2 y3 y4))
 | 0 => fun _ _ _ _ _ r h => by simp [spec_l71Bad.l0] at h
 | k + 1 => by
  have ih0 := spec_l71Bad.mono_l k
  ·intro y0 y1 y2 y3 y4
   unfold spec_l71Bad.l0
   repeat' first
   | (with_reducible exact ih0 _ _ _ _ _)
   | (with_reducible exact spec_l6Rd_pick.mono _ _ _ _)
   | (with_reducible exact spec_l71Val.mono _ _ _ _)
   | (with_reducible exact LeO.refl _)
   | (with_reducible exact LeO.none _)
   | (with_reducible refine LeO.ite ?_ ?_)
   | (with_reducible refine LeO.bind ?_ (fun _ => ?_))
   | exact ih0 _ _ _ _ _
   | exact spec_l6Rd_pick.mono _ _ _ _
   | exact spec_l71Val.mono _ _ _ _
   | exact LeO.none _
   | refine LeO.ite ?_ ?_
   | refine LeO.bind ?_ (fun _ => ?_)
theorem spec_l71Bad.mono : ∀ a0 a1 a2 k, LeO (spec_l71Bad.f k a0 a1 a2) (spec_l71Bad.f (k + 1) a0 a1 a2) := by
 intro a0 a1 a2 k
 have ih0 := spec_l71Bad.mono_l k
 unfold spec_l71Bad.f
 repeat' first
   | (with_reducible exact ih0 _ _ _ _ _)
   | (with_reducible exact spec_l6Rd_pick.mono _ _ _ _)
   | (with_reducible exact spec_l71Val.mono _ _ _ _)
   | (with_reducible exact LeO.refl _)
   | (with_reducible exact LeO.none _)
   | (with_reducible refine LeO.ite ?_ ?_)
   | (with_reducible refine LeO.bind ?_ (fun _ => ?_))
   | exact ih0 _ _ _ _ _
   | exact spec_l6Rd_pick.mono _ _ _ _
   | exact spec_l71Val.mono _ _ _ _
   | exact LeO.none _
   | refine LeO.ite ?_ ?_
   | refine LeO.bind ?_ (fun _ => ?_)
set_option maxHeartbeats 8000000 in
set_option maxRecDepth 100000 in
theorem spec_l71Bad.calls (k : Nat) (g : Nat) (s0_0 : List Int) (s0_1 : Int) (P1_0_ : Nat → Prop) (A1_0 : Option Addr) (c1_0 : Nat) (l1_0 : List (S41)) (r1 : Int) (r2 : List (S25)) (r3 : Int) (w0 w : World) (hI : IsS51 w0 w g s0_0 s0_1) (hB : Below w0.heap.size w0 w) (hs1_0 : Kd.V k41 41 w w.heap.size (fun k_ => P1_0_ k_ ∧ k_ ≠ g) (.slice A1_0 l1_0.length c1_0) l1_0) (h : spec_l71Bad.f k s0_0 s0_1 l1_0 = some (r1, r2, r3)) :
  Calls Tryd.prog 13 #[.pointer (some ⟨g, 0, none⟩), .agg #[.slice A1_0 l1_0.length c1_0]] w fun e w' => ∃ v1_ : Value, e = .returned (.agg #[.int .i64 r1, v1_]) ∧ Kd.N k25 25 w' w.heap.size (fun k_ => (P1_0_ k_ ∨ w.heap.size ≤ k_)) v1_ r2 ∧ IsS51 w0 w' g s0_0 r3 ∧ Below w0.heap.size w0 w' ∧ KeepBut w w' g none := by
 have hu41 := Tryd.underlying41
 have hu25 := Tryd.underlying25
 have HO1_0 := Aside0.mk (show Kd.V k41 41 w w.heap.size (fun k_ => (P1_0_ k_ ∨ w.heap.size ≤ k_) ∧ k_ ≠ g) (.slice A1_0 l1_0.length c1_0) l1_0 from Kd.V_mono hs1_0 (fun k_ hk => ⟨.inl hk.1, hk.2⟩))
 have HI0 := Aside0.mk hI
 have HK := Aside0.mk (KeepBut.refl w g none)
 have HL := Aside0.mk hB.size
 clear hI
 have HW0 := Aside0.mk hB.size
 have HB := Aside0.mk hB
 clear hB
 have H : ((spec_l71Val.f k s0_0 s0_1 l1_0).bind fun bt132 => ((spec_l6Rd_pick.f k s0_0 bt132.2.2 12).bind fun bt138 => (if bt138.1 = 0 then ((some (([(-1), 1, 9999, 10000] : List Int) : List Int)).bind fun y140 => ((spec_l6Rd_pick.f k s0_0 bt138.2 4).bind fun bt143 => (if 0 ≤ bt143.1 then (if bt143.1 < (y140.length : Int) then (some (rd y140 bt143.1, bt132.2.1, bt143.2)) else (none)) else (none)))) else (if bt138.1 = 1 then (if bt132.2.1.length < 4398046511104 then (some (bt132.1, (bt132.2.1 ++ [(⟨0, ([] : List (S25))⟩ : S25)]), bt138.2)) else (none)) else (if bt138.1 = 2 then (spec_l71Bad.l0 k 0 s0_0 bt138.2 bt132.1 bt132.2.1) else (some (bt132.1, bt132.2.1, bt138.2))))))) = some (r1, r2, r3) := h
 clear h
 obtain ⟨⟨t132, t133, t136⟩, A30, H⟩ := ob H
 have A3 := Aside0.mk A30
 clear A30
 obtain ⟨⟨t138, t139⟩, A40, H⟩ := ob H
 have A4 := Aside0.mk A40
 clear A40
 have HZ5 := Aside0.mk H
 clear H
 go_enter Tryd.func13, Tryd.ntmps13
 go_upto_if 12 with (first | ((with_reducible refine gate_dst (N := 3) rfl ?_); refine zbx 3 #[.slice A1_0 l1_0.length c1_0] 41 ?_; intro gb130 hg w6 hbox hb; replace HO1_0 := Aside0.mk (Kd.V_below (Kd.V_elderB (y28 HO1_0.out) gb130 (Nat.le_of_eq hg.symm)) hb); replace HB := Aside0.mk (below_step (y32 HB.out HI0.out) hb); have BK130 := Aside0.mk hbox; have GW130 := Aside0.mk ((by rw [hg]; exact (keep_size (w := w) (g := g) (row := none) (y29 HK.out)) : w.heap.size ≤ gb130)); have GE130 := Aside0.mk ((Nat.le_trans HW0.out (by rw [hg]; exact (keep_size (w := w) (g := g) (row := none) (y29 HK.out)) : w.heap.size ≤ gb130) : w0.heap.size ≤ gb130)); replace HK := Aside0.mk (KeepBut.trans (y29 HK.out) (KeepBut.of_below hb g none) (.inl rfl)); have NB0_130 := Aside0.mk ((by rw [hg]; exact Nat.ne_of_lt (IsS51.lt (show IsS51 w0 _ g s0_0 s0_1 from by repeat (first | (with_reducible first | exact HI0.out | apply IsS51.alloc | apply IsS51.drewN | apply IsS51.drew | apply IsS51.set_1) | exact HI0.out))) : g ≠ gb130)); have NB130_0 := Aside0.mk ((by rw [hg]; exact Nat.ne_of_gt (IsS51.lt (show IsS51 w0 _ g s0_0 s0_1 from by repeat (first | (with_reducible first | exact HI0.out | apply IsS51.alloc | apply IsS51.drewN | apply IsS51.drew | apply IsS51.set_1) | exact HI0.out))) : gb130 ≠ g)); replace HI0 := Aside0.mk (IsS51.below (y33 HI0.out) hb); clear hb hbox hg) | ((with_reducible refine gate_dst (N := 4) rfl ?_); refine zbx 4 #[.int .i64 0, .slice none 0 0] 25 ?_; intro gb131 hg w7 hbox hb; replace HO1_0 := Aside0.mk (Kd.V_below (Kd.V_elderB (y28 HO1_0.out) gb131 (Nat.le_of_eq hg.symm)) hb); replace HB := Aside0.mk (below_step (y14 HB.out HI0.out GE130.out) hb); have BK131 := Aside0.mk hbox; have GW131 := Aside0.mk ((by rw [hg]; exact (keep_size (w := w) (g := g) (row := none) (y16 HK.out GW130.out)) : w.heap.size ≤ gb131)); have GE131 := Aside0.mk ((Nat.le_trans HW0.out (by rw [hg]; exact (keep_size (w := w) (g := g) (row := none) (y16 HK.out GW130.out)) : w.heap.size ≤ gb131) : w0.heap.size ≤ gb131)); replace HK := Aside0.mk (KeepBut.trans (y16 HK.out GW130.out) (KeepBut.of_below hb g none) (.inl rfl)); have NB130_131 := zltn hg BK130; have NB131_130 := zgtn hg BK130; replace BK130 := zbb BK130 hb; have NB0_131 := Aside0.mk ((by rw [hg]; exact Nat.ne_of_lt (IsS51.lt (show IsS51 w0 _ g s0_0 s0_1 from by repeat (first | (with_reducible first | exact HI0.out | apply IsS51.alloc | apply IsS51.drewN | apply IsS51.drew | apply IsS51.set_1 | refine IsS51.far ?_ NB0_130.out _) | exact HI0.out))) : g ≠ gb131)); have NB131_0 := Aside0.mk ((by rw [hg]; exact Nat.ne_of_gt (IsS51.lt (show IsS51 w0 _ g s0_0 s0_1 from by repeat (first | (with_reducible first | exact HI0.out | apply IsS51.alloc | apply IsS51.drewN | apply IsS51.drew | apply IsS51.set_1 | refine IsS51.far ?_ NB0_130.out _) | exact HI0.out))) : gb131 ≠ g)); replace HI0 := Aside0.mk (IsS51.below (y17 HI0.out NB0_130.out) hb); clear hb hbox hg; have hnb8 := NB130_131.out; have hnc8 := NB131_130.out; have hnb9 := NB130_0.out; have hnc9 := NB0_130.out; have hcz10_0 := zh BK130; have hfz10_0 := zfr BK130 0) | ((with_reducible refine gate_callee (f := 23) rfl ?_); refine goesL_ (some 9) rfl rfl Tryd.func23 (by kernel_rfl) rfl #[.pointer (some ⟨g, 0, none⟩), .agg #[.slice A1_0 l1_0.length c1_0]] rfl y4 ?_; (with_reducible refine (spec_l71Val.calls k g s0_0 s0_1 (fun k_ => ((((P1_0_ k_ ∨ w.heap.size ≤ k_) ∧ k_ ≠ g) ∧ k_ ≠ gb130) ∧ k_ ≠ gb131)) _ _ l1_0 t132 t133 t136 w0 _ ?side1 ?side2 ?side3 A3.out).mono ?_); (case side1 => exact y24 HI0.out NB0_130.out NB0_131.out); (case side2 => exact y30 HB.out HI0.out GE130.out GE131.out); (case side3 => exact Kd.V_mono (HO1_0.out) (fun k_ hk_ => ⟨hk_, hk_.1.1.2⟩)); rintro e w11 ⟨v134, rfl, ho0, hi, hb, hk⟩; refine ⟨_, rfl, ?_⟩; replace HO1_0 := Aside0.mk (Kd.V_mono (Kd.V_told (Kd.V_oldK (Kd.V_mono (ok := fun k_ => (((((P1_0_ k_ ∨ w.heap.size ≤ k_)) ∧ k_ ≠ g) ∧ k_ ≠ gb130) ∧ k_ ≠ gb131)) (y28 HO1_0.out) (fun k_ hk_ => (⟨hk_, hk_.1.1.2⟩ : _ ∧ k_ ≠ g))) hk) (Kd.N_base ho0)) (fun _ h_ => h_.1)); have HO135 := Aside0.mk (Kd.N_lower (Kd.N_mono (ok' := fun k_ => (P1_0_ k_ ∨ w.heap.size ≤ k_) ∧ k_ ≠ gb130 ∧ k_ ≠ gb131 ∧ k_ ≠ g) ho0 (fun k_ hk_ => ⟨Or.elim hk_ (fun hs_ => hs_.1.1.1) (fun hn_ => (.inr (Nat.le_trans (keep_size (w := w) (g := g) (row := none) (y11 HK.out GW130.out GW131.out)) hn_))), Or.elim hk_ (fun hs_ => hs_.1.2) (fun hn_ => (Kd.freshB (g := gb130) (o := .cells #[.slice A1_0 l1_0.length c1_0] 41 (0, 0)) (y1 BK130.out) k_ hn_)), Or.elim hk_ (fun hs_ => hs_.2) (fun hn_ => (Kd.freshB (g := gb131) (o := .cells #[.int .i64 0, .slice none 0 0] 25 (0, 0)) (y1 BK131.out) k_ hn_)), Or.elim hk_ (fun hs_ => hs_.1.1.2) (fun hn_ => (IsS51.fresh (y24 HI0.out NB0_130.out NB0_131.out) k_ hn_))⟩)) (keep_size (w := w) (g := g) (row := none) (y11 HK.out GW130.out GW131.out))); replace BK130 := Aside0.mk (KeepBut.blk hk (g' := gb130) (o := .cells #[.slice A1_0 l1_0.length c1_0] 41 (0, 0)) (y1 BK130.out) NB130_0.out (by simp)); replace BK131 := Aside0.mk (KeepBut.blk hk (g' := gb131) (o := .cells #[.int .i64 0, .slice none 0 0] 25 (0, 0)) (y1 BK131.out) NB131_0.out (by simp)); replace HK := Aside0.mk (KeepBut.trans (y11 HK.out GW130.out GW131.out) hk (.inl rfl)); replace HB := Aside0.mk (hb); replace HI0 := Aside0.mk (hi); (try clear hb); (try clear hb2); (try clear hk); (try clear hi); (try clear ho0)) | ((with_reducible refine gate_dst (N := 5) rfl ?_); refine zbx 5 #[.int .i64 0, .slice none 0 0] 25 ?_; intro gb137 hg w12 hbox hb; replace HO1_0 := Aside0.mk (Kd.V_below (Kd.V_elderB (y28 HO1_0.out) gb137 (Nat.le_of_eq hg.symm)) hb); replace HO135 := Aside0.mk (Kd.N_below (Kd.N_elderB (y12 HO135.out) gb137 (Nat.le_of_eq hg.symm)) hb); replace HB := Aside0.mk (below_step (y30 HB.out HI0.out GE130.out GE131.out) hb); have BK137 := Aside0.mk hbox; have GW137 := Aside0.mk ((by rw [hg]; exact (keep_size (w := w) (g := g) (row := none) (y11 HK.out GW130.out GW131.out)) : w.heap.size ≤ gb137)); have GE137 := Aside0.mk ((Nat.le_trans HW0.out (by rw [hg]; exact (keep_size (w := w) (g := g) (row := none) (y11 HK.out GW130.out GW131.out)) : w.heap.size ≤ gb137) : w0.heap.size ≤ gb137)); replace HK := Aside0.mk (KeepBut.trans (y11 HK.out GW130.out GW131.out) (KeepBut.of_below hb g none) (.inl rfl)); have NB130_137 := zltn hg BK130; have NB137_130 := zgtn hg BK130; replace BK130 := zbb BK130 hb; have NB131_137 := zltn hg BK131; have NB137_131 := zgtn hg BK131; replace BK131 := zbb BK131 hb; have NB0_137 := Aside0.mk ((by rw [hg]; exact Nat.ne_of_lt (IsS51.lt (show IsS51 w0 _ g s0_0 t136 from by repeat (first | (with_reducible first | exact HI0.out | apply IsS51.alloc | apply IsS51.drewN | apply IsS51.drew | apply IsS51.set_1 | refine IsS51.far ?_ NB0_130.out _ | refine IsS51.far ?_ NB0_131.out _) | exact HI0.out))) : g ≠ gb137)); have NB137_0 := Aside0.mk ((by rw [hg]; exact Nat.ne_of_gt (IsS51.lt (show IsS51 w0 _ g s0_0 t136 from by repeat (first | (with_reducible first | exact HI0.out | apply IsS51.alloc | apply IsS51.drewN | apply IsS51.drew | apply IsS51.set_1 | refine IsS51.far ?_ NB0_130.out _ | refine IsS51.far ?_ NB0_131.out _) | exact HI0.out))) : gb137 ≠ g)); replace HI0 := Aside0.mk (IsS51.below (y24 HI0.out NB0_130.out NB0_131.out) hb); clear hb hbox hg; have hnb13 := NB137_130.out; have hnc13 := NB130_137.out; have hnb14 := NB137_131.out; have hnc14 := NB131_137.out; have hnb15 := NB137_0.out; have hnc15 := NB0_137.out; have hcz16_0 := zh BK137; have hcz16_1 := zh1 BK137; have hfz16_0 := zfr BK137 0; have hfz16_1 := zfr BK137 1; obtain ⟨Ao17, co17, eo17⟩ := Kd.N_slice HO135.out; subst eo17) | ((with_reducible refine gate_callee (f := 15) rfl ?_); refine goesL_ (some 11) rfl rfl Tryd.func15 (by kernel_rfl) rfl #[.pointer (some ⟨g, 0, none⟩), .int .i64 12] rfl y4 ?_; (with_reducible refine (spec_l6Rd_pick.calls k g s0_0 t136 12 t138 t139 w0 _ ?side1 ?side2 A4.out).mono ?_); (case side1 => exact y18 HI0.out NB0_130.out NB0_131.out NB0_137.out); (case side2 => exact y22 HB.out HI0.out GE130.out GE131.out GE137.out); rintro e w18 ⟨rfl, hi, hb, hk⟩; refine ⟨_, rfl, ?_⟩; replace HO1_0 := Aside0.mk (Kd.V_mono (Kd.V_keep (Kd.V_mono (ok := fun k_ => (((((((P1_0_ k_ ∨ w.heap.size ≤ k_)) ∧ k_ ≠ g) ∧ k_ ≠ gb130) ∧ k_ ≠ gb131) ∧ some k_ ≠ (.slice Ao17 t133.length co17 : Value).ownBlock) ∧ k_ ≠ gb137)) (by (with_reducible repeat (first | apply Kd.V_alloc | apply Kd.V_drewN | apply Kd.V_drew)); exact (Kd.V_mono (Kd.V_far (p := ⟨gb137, 1, none⟩) (Kd.V_far (p := ⟨gb137, 0, none⟩) (Kd.V_mono HO1_0.out (fun k_ hk => (⟨hk, hk.2⟩ : _ ∧ k_ ≠ gb137))) (fun _ hk => hk.2) (.int .i64 t132)) (fun _ hk => hk.2) (.slice Ao17 t133.length co17)) (fun _ h_ => h_.1))) (fun k_ hk_ => (⟨hk_, hk_.1.1.1.1.2⟩ : _ ∧ k_ ≠ g))) hk (fun _ h => h.2)) (fun _ h => h.1)); replace BK130 := Aside0.mk (KeepBut.blk hk (g' := gb130) (o := .cells #[.slice A1_0 l1_0.length c1_0] 41 (0, 0)) (y23 NB130_137.out BK130.out) NB130_0.out (by simp)); replace BK131 := Aside0.mk (KeepBut.blk hk (g' := gb131) (o := .cells #[.int .i64 0, .slice none 0 0] 25 (0, 0)) (y23 NB131_137.out BK131.out) NB131_0.out (by simp)); replace HO135 := Aside0.mk (Kd.N_mono (Kd.N_keep (Kd.N_mono (ok := fun k_ => ((((P1_0_ k_ ∨ w.heap.size ≤ k_)) ∧ (k_ ≠ gb130 ∧ (k_ ≠ gb131 ∧ k_ ≠ g))) ∧ k_ ≠ gb137)) (by (with_reducible repeat (first | apply Kd.N_alloc | apply Kd.N_drewN | apply Kd.N_drew)); exact (Kd.N_mono (Kd.N_far (p := ⟨gb137, 1, none⟩) (Kd.N_far (p := ⟨gb137, 0, none⟩) (Kd.N_mono HO135.out (fun k_ hk => (⟨hk, hk.2⟩ : _ ∧ k_ ≠ gb137))) (fun _ hk => hk.2) (.int .i64 t132)) (fun _ hk => hk.2) (.slice Ao17 t133.length co17)) (fun _ h_ => h_.1))) (fun k_ hk_ => (⟨hk_, hk_.1.2.2.2⟩ : _ ∧ k_ ≠ g))) hk (fun _ h => h.2)) (fun _ h => h.1)); replace BK137 := Aside0.mk (KeepBut.blk hk (g' := gb137) (o := .cells #[.int .i64 t132, .slice Ao17 t133.length co17] 25 (0, 0)) (by (with_reducible repeat (first | refine blk_drewN ?_ _ | refine blk_drew ?_ | refine blk_alloc ?_ _)); refine blk_put (cs := #[.int .i64 t132, .slice none 0 0]) ?_ 1 _ rfl; (with_reducible repeat (first | refine blk_drewN ?_ _ | refine blk_drew ?_ | refine blk_alloc ?_ _)); apply blk_put (i := 0); (case h => exact y1 BK137.out); (case e => rfl)) NB137_0.out (by simp)); replace HK := Aside0.mk (KeepBut.trans (y13 HK.out GW130.out GW131.out GW137.out) hk (.inl rfl)); replace HB := Aside0.mk (hb); replace HI0 := Aside0.mk (hi); (try clear hb); (try clear hb2); (try clear hk); (try clear hi)))
 (try simp only [Act.put, List.setIfInBounds_toArray, List.set_cons_zero, List.set_cons_succ])
 have H := HZ5.out
 clear HZ5
 by_cases c19 : t138 = 0
 ·rw [if_pos c19] at H
  have c19b0 : (t138 == 0) = true := beq_iff_eq.mpr c19
  have c19b1 : (t138 != 0) = false := bne_eq_false_iff_eq.mpr c19
  clear c19
  (first | rw [c19b0] | (simp only [i64_w, i32_w]; rw [c19b0]) | skip)
  obtain ⟨y140, hy140⟩ : ∃ y_ : List Int, y_ = (([(-1), 1, 9999, 10000] : List Int)) := ⟨_, rfl⟩
  replace H : ((spec_l6Rd_pick.f k s0_0 t139 4).bind fun bt143 => (if 0 ≤ bt143.1 then (if bt143.1 < (y140.length : Int) then (some (rd y140 bt143.1, t133, bt143.2)) else (none)) else (none))) = some (r1, r2, r3) := by first | (rw [hy140]; with_reducible exact H) | (have H2_ := (Option.bind_some _ _).symm.trans H; rw [hy140]; with_reducible exact H2_) | (have H2_ := (Option.bind_some _ _).symm.trans H; with_reducible exact H2_) | with_reducible exact H | (rw [hy140]; exact H) | exact H
  have Ny140 := Aside0.mk hy140
  clear hy140
  obtain ⟨⟨t143, t144⟩, A200, H⟩ := ob H
  have A20 := Aside0.mk A200
  clear A200
  by_cases c21 : 0 ≤ t143
  ·rw [if_pos c21] at H
   have c21b0 : decide (0 ≤ t143) = true := decide_eq_true c21
   clear c21
   by_cases c22 : t143 < (y140.length : Int)
   ·rw [if_pos c22] at H
    have c22b0 : decide (t143 < (y140.length : Int)) = true := decide_eq_true c22
    clear c22
    simp only [Option.some.injEq, Prod.mk.injEq] at H
    obtain ⟨rfl, rfl, rfl⟩ := H
    go_wp2_with (first | ((with_reducible refine gate_dst (N := 14) rfl ?_); refine Kd.R_lit (Kd.int .i64) _ 3 ?hg (N := 14) ?hd (xs := ([(-1), 1, 9999, 10000] : List Int)) (inner := [.int .i64 (-1), .int .i64 1, .int .i64 9999, .int .i64 10000]) (ok := fun _ => True) (okp := fun _ => True) ?hr ?hp (fun _ hk => hk) trivial (Below.refl _ _) (Nat.le_refl _) (by simp) ?_; (case hd => rfl); (case hg => rfl); (case hr => first | (go_simp; done) | (go_simp; rfl)); (case hp => exact (Reps.one (show Kd.M (Kd.int .i64) _ _ _ (-1) [.int .i64 (-1)] from rfl) (Reps.one (show Kd.M (Kd.int .i64) _ _ _ 1 [.int .i64 1] from rfl) (Reps.one (show Kd.M (Kd.int .i64) _ _ _ 9999 [.int .i64 9999] from rfl) (Reps.one (show Kd.M (Kd.int .i64) _ _ _ 10000 [.int .i64 10000] from rfl) (Reps.none _ _)))))); intro v141 w23 ho24 hb hg_ hnew_; clear hg_ hnew_; (first | rw [← Ny140.out] at ho24 | (simp only [Int.reduceToNat] at ho24; rw [← Ny140.out] at ho24)); replace HO1_0 := Aside0.mk (Kd.V_elder' (y28 HO1_0.out) (Kd.R_base ho24) hb); replace HO135 := Aside0.mk (Kd.N_elder' (y12 HO135.out) (Kd.R_base ho24) hb); have HO142 := Aside0.mk (Kd.R_lower (Kd.R_newM (M := fun k_ => (w.heap.size ≤ k_)) ho24 (keep_size (w := w) (g := g) (row := none) (y13 HK.out GW130.out GW131.out GW137.out)) (fun k_ h_ => h_)) (keep_size (w := w) (g := g) (row := none) (y13 HK.out GW130.out GW131.out GW137.out))); replace BK130 := zbb BK130 hb; replace BK131 := zbb BK131 hb; replace BK137 := zbb BK137 hb; replace HK := Aside0.mk (KeepBut.trans (y13 HK.out GW130.out GW131.out GW137.out) (KeepBut.of_below hb g none) (.inl rfl)); replace HB := Aside0.mk (below_step (y22 HB.out HI0.out GE130.out GE131.out GE137.out) hb); replace HI0 := Aside0.mk (IsS51.below (y18 HI0.out NB0_130.out NB0_131.out NB0_137.out) hb); clear hb ho24) | ((with_reducible refine gate_callee (f := 15) rfl ?_); refine goesL_ (some 16) rfl rfl Tryd.func15 (by kernel_rfl) rfl #[.pointer (some ⟨g, 0, none⟩), .int .i64 4] rfl y4 ?_; (with_reducible refine (spec_l6Rd_pick.calls k g s0_0 t139 4 t143 t144 w0 _ ?side1 ?side2 A20.out).mono ?_); (case side1 => exact y18 HI0.out NB0_130.out NB0_131.out NB0_137.out); (case side2 => exact y22 HB.out HI0.out GE130.out GE131.out GE137.out); rintro e w25 ⟨rfl, hi, hb, hk⟩; refine ⟨_, rfl, ?_⟩; replace HO1_0 := Aside0.mk (Kd.V_mono (Kd.V_keep (Kd.V_mono (ok := fun k_ => ((((((((P1_0_ k_ ∨ w.heap.size ≤ k_)) ∧ k_ ≠ g) ∧ k_ ≠ gb130) ∧ k_ ≠ gb131) ∧ some k_ ≠ (.slice Ao17 t133.length co17 : Value).ownBlock) ∧ k_ ≠ gb137) ∧ some k_ ≠ (v141 : Value).ownBlock)) (y28 HO1_0.out) (fun k_ hk_ => (⟨hk_, hk_.1.1.1.1.1.2⟩ : _ ∧ k_ ≠ g))) hk (fun _ h => h.2)) (fun _ h => h.1)); replace BK130 := Aside0.mk (KeepBut.blk hk (g' := gb130) (o := .cells #[.slice A1_0 l1_0.length c1_0] 41 (0, 0)) (y1 BK130.out) NB130_0.out (by simp)); replace BK131 := Aside0.mk (KeepBut.blk hk (g' := gb131) (o := .cells #[.int .i64 0, .slice none 0 0] 25 (0, 0)) (y1 BK131.out) NB131_0.out (by simp)); replace HO135 := Aside0.mk (Kd.N_mono (Kd.N_keep (Kd.N_mono (ok := fun k_ => (((((P1_0_ k_ ∨ w.heap.size ≤ k_)) ∧ (k_ ≠ gb130 ∧ (k_ ≠ gb131 ∧ k_ ≠ g))) ∧ k_ ≠ gb137) ∧ some k_ ≠ (v141 : Value).ownBlock)) (y12 HO135.out) (fun k_ hk_ => (⟨hk_, hk_.1.1.2.2.2⟩ : _ ∧ k_ ≠ g))) hk (fun _ h => h.2)) (fun _ h => h.1)); replace BK137 := Aside0.mk (KeepBut.blk hk (g' := gb137) (o := .cells #[.int .i64 t132, .slice Ao17 t133.length co17] 25 (0, 0)) (y1 BK137.out) NB137_0.out (by simp)); replace HO142 := Aside0.mk (Kd.R_mono (Kd.R_keep (IsS51.apart (show IsS51 w0 _ g s0_0 t139 from by repeat (first | (with_reducible first | exact HI0.out | apply IsS51.alloc | apply IsS51.drewN | apply IsS51.drew | apply IsS51.set_1 | refine IsS51.far ?_ NB0_130.out _ | refine IsS51.far ?_ NB0_131.out _ | refine IsS51.far ?_ NB0_137.out _) | exact HI0.out)) (y15 HO142.out) (by decide)) hk (fun _ h => h.2)) (fun _ h => h.1)); replace HK := Aside0.mk (KeepBut.trans (y13 HK.out GW130.out GW131.out GW137.out) hk (.inl rfl)); replace HB := Aside0.mk (hb); replace HI0 := Aside0.mk (hi); (try clear hb); (try clear hb2); (try clear hk); (try clear hi); obtain ⟨Ao26, co26, eo26⟩ := Kd.R_slice HO142.out; subst eo26; have p145 : 0 ≤ (t143 : Int) := of_decide_eq_true y19; have q145 : t143 < (y140.length : Int) := of_decide_eq_true y19; obtain ⟨ad145, e145, hx145_0⟩ := Kd.at_int (Kd.R_reads' HO142.out).2.2 t143 p145 q145; cases e145; replace p145 := eq_true p145; replace q145 := eq_true q145; have hnb27 := NB137_130.out; have hnc27 := NB130_137.out; have hnb28 := NB137_131.out; have hnc28 := NB131_137.out; have hnb29 := NB137_0.out; have hnc29 := NB0_137.out; have hcz30_0 := zh BK137; have hcz30_1 := zh1 BK137; have hfz30_0 := zfr BK137 0; have hfz30_1 := zfr BK137 1; have hnb31 := NB131_130.out; have hnc31 := NB130_131.out; have hnb32 := NB131_0.out; have hnc32 := NB0_131.out; have hcz33_0 := zh BK131; have hcz33_1 := zh1 BK131; have hfz33_0 := zfr BK131 0; have hfz33_1 := zfr BK131 1))
    refine bodyPost_ret (results_cell_row rfl _ _ gb131 25 #[.int .i64 (rd y140 t143), .slice Ao17 t133.length co17] (0, 0) _ rfl (by (with_reducible repeat (first | refine blk_drewN ?_ _ | refine blk_drew ?_ | refine blk_alloc ?_ _)); refine blk_put (cs := #[.int .i64 (rd y140 t143), .slice none 0 0]) ?_ 1 _ rfl; (with_reducible repeat (first | refine blk_drewN ?_ _ | refine blk_drew ?_ | refine blk_alloc ?_ _)); refine blk_put (cs := #[.int .i64 0, .slice none 0 0]) ?_ 0 _ rfl; (with_reducible repeat (first | refine blk_drewN ?_ _ | refine blk_drew ?_ | refine blk_alloc ?_ _)); refine blk_far ?_ NB131_137.out _; (with_reducible repeat (first | refine blk_drewN ?_ _ | refine blk_drew ?_ | refine blk_alloc ?_ _)); exact BK131.out) Tryd.underlying25 rfl (by kernel_rfl)) rfl ?_
    exact ⟨_, y7, (by (with_reducible repeat (first | apply Kd.N_alloc | apply Kd.N_drewN | apply Kd.N_drew)); exact Kd.N_mono (Kd.N_far (p := ⟨gb131, 1, none⟩) (Kd.N_far (p := ⟨gb131, 0, none⟩) (Kd.N_far (p := ⟨gb137, 0, none⟩) (Kd.N_mono (Kd.N_mono HO135.out (fun k_ hk => (⟨hk, hk.1.2⟩ : _ ∧ k_ ≠ gb137))) (fun k_ hk => (⟨hk, hk.1.1.1.2.2.1⟩ : _ ∧ k_ ≠ gb131))) (fun _ hk => hk.1.2) (.int .i64 (rd y140 t143))) (fun _ hk => hk.2) (.int .i64 (rd y140 t143))) (fun _ hk => hk.2) (.slice Ao17 t133.length co17)) (fun _ hk => hk.1.1.1.1.1)), (y18 HI0.out NB0_130.out NB0_131.out NB0_137.out), (y22 HB.out HI0.out GE130.out GE131.out GE137.out), (y13 HK.out GW130.out GW131.out GW137.out)⟩
   ·rw [if_neg c22] at H
    exact absurd H (by simp)
  ·rw [if_neg c21] at H
   exact absurd H (by simp)
 ·rw [if_neg c19] at H
  have c19b0 : (t138 == 0) = false := beq_eq_false_iff_ne.mpr c19
  have c19b1 : (t138 != 0) = true := bne_iff_ne.mpr c19
  (first | rw [c19b0] | (simp only [i64_w, i32_w]; rw [c19b0]) | skip)
  by_cases c34 : t138 = 1
  ·rw [if_pos c34] at H
   have c34b0 : (t138 == 1) = true := beq_iff_eq.mpr c34
   have c34b1 : (t138 != 1) = false := bne_eq_false_iff_eq.mpr c34
   clear c34
   by_cases c35 : t133.length < 4398046511104
   ·rw [if_pos c35] at H
    have LMc35 := Aside0.mk c35
    clear c35
    obtain ⟨y146, hy146⟩ : ∃ y_ : List (S25), y_ = (t133 ++ [(⟨0, ([] : List (S25))⟩ : S25)]) := ⟨_, rfl⟩
    replace H : (some (t132, y146, t139)) = some (r1, r2, r3) := by first | (rw [hy146]; with_reducible exact H) | (have H2_ := (Option.bind_some _ _).symm.trans H; rw [hy146]; with_reducible exact H2_) | (have H2_ := (Option.bind_some _ _).symm.trans H; with_reducible exact H2_) | with_reducible exact H | (rw [hy146]; exact H) | exact H
    have Ny146 := Aside0.mk hy146
    clear hy146
    simp only [Option.some.injEq, Prod.mk.injEq] at H
    obtain ⟨rfl, rfl, rfl⟩ := H
    have hnb36 := NB137_130.out
    have hnc36 := NB130_137.out
    have hnb37 := NB137_131.out
    have hnc37 := NB131_137.out
    have hnb38 := NB137_0.out
    have hnc38 := NB0_137.out
    have hcz39_0 := zh BK137
    have hcz39_1 := zh1 BK137
    have hfz39_0 := zfr BK137 0
    have hfz39_1 := zfr BK137 1
    go_wp2_with (first | ((with_reducible refine gate_builtin (b := .append) (xs := #[.tmp 23, .tmp 25]) rfl ?_); at_builtin; refine Kd.N_append k25 w.heap.size rfl (.tmp 23) (.tmp 25) 23 25 (.agg #[(.int .i64 0), (.slice none 0 0)]) 32 rfl Tryd.underlying23 info25 rfl (by decide) (by omega) (.slice Ao17 t133.length co17) t133 (⟨0, ([] : List (S25))⟩ : S25) [.int .i64 0, .slice none 0 0] (fun k_ => (P1_0_ k_ ∨ w.heap.size ≤ k_) ∧ k_ ≠ gb130 ∧ k_ ≠ gb131 ∧ k_ ≠ gb137 ∧ k_ ≠ g) (fun k_ => ((fun k_ => (P1_0_ k_ ∨ w.heap.size ≤ k_) ∧ k_ ≠ gb130 ∧ k_ ≠ gb131 ∧ k_ ≠ gb137 ∧ k_ ≠ g)) k_ ∧ some k_ ≠ (.slice Ao17 t133.length co17 : Value).ownBlock) rfl rfl ?aP (fun _ hk => hk) ?aF ?aO (Below.refl _ _) ?aS ?aL ?_; (case aP => exact (k25_mkF _ _ (⟨0, ([] : List (S25))⟩ : S25) (Nat.le_refl _) (Kd.F_nil _ _ _))); (case aF => exact (fun k_ hk => ⟨(.inr (Nat.le_trans (keep_size (w := w) (g := g) (row := none) (y13 HK.out GW130.out GW131.out GW137.out)) hk)), Kd.freshB (g := gb130) (o := .cells #[.slice A1_0 l1_0.length c1_0] 41 (0, 0)) (y1 BK130.out) k_ hk, Kd.freshB (g := gb131) (o := .cells #[.int .i64 0, .slice none 0 0] 25 (0, 0)) (y1 BK131.out) k_ hk, Kd.freshB (g := gb137) (o := .cells #[.int .i64 t132, .slice Ao17 t133.length co17] 25 (0, 0)) (y1 BK137.out) k_ hk, IsS51.fresh (y18 HI0.out NB0_130.out NB0_131.out NB0_137.out) k_ hk⟩)); (case aO => exact (y39 HO135.out)); (case aS => exact (keep_size (w := w) (g := g) (row := none) (y13 HK.out GW130.out GW131.out GW137.out))); (case aL => exact y41 LMc35.out); intro v147 w40 ho hb hg hat; rw [← Ny146.out] at ho; replace HO1_0 := Aside0.mk (Kd.V_afterv (ok := (fun k_ => (P1_0_ k_ ∨ w.heap.size ≤ k_) ∧ k_ ≠ g ∧ k_ ≠ gb130 ∧ k_ ≠ gb131 ∧ k_ ≠ gb137)) (by (with_reducible repeat (first | apply Kd.V_alloc | apply Kd.V_drewN | apply Kd.V_drew)); exact Kd.V_mono HO1_0.out (fun _ hk => ⟨⟨hk.1.1.1.1.1, ⟨hk.1.1.1.1.2, ⟨hk.1.1.1.2, ⟨hk.1.1.2, hk.2⟩⟩⟩⟩, hk.1.2⟩)) hg hat); replace BK130 := Aside0.mk (blk_grown (g := gb130) (o := .cells #[.slice A1_0 l1_0.length c1_0] 41 (0, 0)) (y1 BK130.out) hg (Kd.N_ne HO135.out BK130.out (by decide))); replace BK131 := Aside0.mk (blk_grown (g := gb131) (o := .cells #[.int .i64 0, .slice none 0 0] 25 (0, 0)) (y1 BK131.out) hg (Kd.N_away HO135.out (fun _ hk => hk.1.2.2.1))); replace BK137 := Aside0.mk (blk_grown (g := gb137) (o := .cells #[.int .i64 t132, .slice Ao17 t133.length co17] 25 (0, 0)) (y1 BK137.out) hg (Kd.N_away HO135.out (fun _ hk => hk.2))); replace HB := Aside0.mk (below_weaken (y22 HB.out HI0.out GE130.out GE131.out GE137.out) HL.out hb); replace HI0 := Aside0.mk (IsS51.grown (y18 HI0.out NB0_130.out NB0_131.out NB0_137.out) hg (IsS51.own_neN HI0.out HO135.out (by decide))); replace HK := Aside0.mk (KeepBut.trans (y13 HK.out GW130.out GW131.out GW137.out) (KeepBut.of_grown hg g) (Kd.N_base2 HO135.out)); have HO148 := Aside0.mk (ho); clear HO135; clear ho hb hg hat; obtain ⟨Ao41, co41, eo41⟩ := Kd.N_slice HO148.out; subst eo41; have hcz42_0 := zh BK137; have hcz42_1 := zh1 BK137; have hfz42_0 := zfr BK137 0; have hfz42_1 := zfr BK137 1; have hnb43 := NB131_130.out; have hnc43 := NB130_131.out; have hnb44 := NB131_0.out; have hnc44 := NB0_131.out; have hcz45_0 := zh BK131; have hcz45_1 := zh1 BK131; have hfz45_0 := zfr BK131 0; have hfz45_1 := zfr BK131 1))
    refine bodyPost_ret (results_cell_row rfl _ _ gb131 25 #[.int .i64 t132, .slice Ao41 y146.length co41] (0, 0) _ rfl (by (with_reducible repeat (first | refine blk_drewN ?_ _ | refine blk_drew ?_ | refine blk_alloc ?_ _)); refine blk_put (cs := #[.int .i64 t132, .slice none 0 0]) ?_ 1 _ rfl; (with_reducible repeat (first | refine blk_drewN ?_ _ | refine blk_drew ?_ | refine blk_alloc ?_ _)); refine blk_put (cs := #[.int .i64 0, .slice none 0 0]) ?_ 0 _ rfl; (with_reducible repeat (first | refine blk_drewN ?_ _ | refine blk_drew ?_ | refine blk_alloc ?_ _)); refine blk_far ?_ NB131_137.out _; (with_reducible repeat (first | refine blk_drewN ?_ _ | refine blk_drew ?_ | refine blk_alloc ?_ _)); exact BK131.out) Tryd.underlying25 rfl (by kernel_rfl)) rfl ?_
    exact ⟨_, y7, (by (with_reducible repeat (first | apply Kd.N_alloc | apply Kd.N_drewN | apply Kd.N_drew)); exact Kd.N_mono (Kd.N_far (p := ⟨gb131, 1, none⟩) (Kd.N_far (p := ⟨gb131, 0, none⟩) (Kd.N_far (p := ⟨gb137, 1, none⟩) (Kd.N_mono (Kd.N_mono HO148.out (fun k_ hk => (⟨hk, hk.2.2.2.1⟩ : _ ∧ k_ ≠ gb137))) (fun k_ hk => (⟨hk, hk.1.2.2.1⟩ : _ ∧ k_ ≠ gb131))) (fun _ hk => hk.1.2) (.slice Ao41 y146.length co41)) (fun _ hk => hk.2) (.int .i64 t132)) (fun _ hk => hk.2) (.slice Ao41 y146.length co41)) (fun _ hk => hk.1.1.1)), (y18 HI0.out NB0_130.out NB0_131.out NB0_137.out), (y22 HB.out HI0.out GE130.out GE131.out GE137.out), (y13 HK.out GW130.out GW131.out GW137.out)⟩
   ·rw [if_neg c35] at H
    exact absurd H (by simp)
  ·rw [if_neg c34] at H
   have c34b0 : (t138 == 1) = false := beq_eq_false_iff_ne.mpr c34
   have c34b1 : (t138 != 1) = true := bne_iff_ne.mpr c34
   by_cases c46 : t138 = 2
   ·rw [if_pos c46] at H
    have c46b0 : (t138 == 2) = true := beq_iff_eq.mpr c46
    have c46b1 : (t138 != 2) = false := bne_eq_false_iff_eq.mpr c46
    clear c46
    have H' := Aside0.mk H
    clear H
    go_wp2
    go_loopg [6] k (fun kq v6 w' => ∃ (x6_1 : Int) (x138000_1 : Int) (x138001_1 : List (S25)) (u138001 : Value), v6 = .int .i64 x6_1 ∧ Aside0 (spec_l71Bad.l0 kq x6_1 s0_0 t139 x138000_1 x138001_1 = some (r1, r2, r3)) ∧ Aside0 (kq ≤ k) ∧ Aside0 (Kd.V k41 41 w' w.heap.size (fun k_ => (P1_0_ k_ ∨ w.heap.size ≤ k_) ∧ some k_ ≠ (u138001 : Value).ownBlock ∧ k_ ≠ gb130 ∧ k_ ≠ gb131 ∧ k_ ≠ gb137 ∧ k_ ≠ g) (.slice A1_0 l1_0.length c1_0) l1_0) ∧ Aside0 (Kd.N k25 25 w' w.heap.size (fun k_ => (P1_0_ k_ ∨ w.heap.size ≤ k_) ∧ k_ ≠ gb130 ∧ k_ ≠ gb131 ∧ k_ ≠ gb137 ∧ k_ ≠ g) u138001 x138001_1) ∧ Aside0 (w'.heap[gb130]? = some (.cells #[(.slice A1_0 l1_0.length c1_0)] 41 (0, 0))) ∧ Aside0 (w'.heap[gb131]? = some (.cells #[.int .i64 0, (.slice none 0 0)] 25 (0, 0))) ∧ Aside0 (w'.heap[gb137]? = some (.cells #[.int .i64 x138000_1, u138001] 25 (0, 0))) ∧ Aside0 (IsS51 w0 w' g s0_0 t139) ∧ Aside0 (KeepBut w w' g none) ∧ Aside0 (Below w0.heap.size w0 w'))
    case atStart => exact ⟨(0), (t132), (t133), (.slice Ao17 t133.length co17), y26, H', ⟨Nat.le_refl _⟩, ⟨(by (with_reducible repeat (first | apply Kd.V_alloc | apply Kd.V_drewN | apply Kd.V_drew)); exact Kd.V_mono HO1_0.out (fun _ hk => ⟨hk.1.1.1.1.1, ⟨hk.1.2, ⟨hk.1.1.1.2, ⟨hk.1.1.2, ⟨hk.2, hk.1.1.1.1.2⟩⟩⟩⟩⟩))⟩, ⟨(y39 HO135.out)⟩, ⟨(y1 BK130.out)⟩, ⟨(y1 BK131.out)⟩, ⟨(y1 BK137.out)⟩, ⟨(y18 HI0.out NB0_130.out NB0_131.out NB0_137.out)⟩, ⟨(y13 HK.out GW130.out GW131.out GW137.out)⟩, ⟨(y22 HB.out HI0.out GE130.out GE131.out GE137.out)⟩⟩
    case round =>
     clear H'
     try clear c1
     try clear p1
     try clear q1
     try clear hx1
     try clear c2
     try clear p2
     try clear c3
     try clear c4
     try clear c8
     try clear c9
     try clear c13
     try clear c14
     try clear p14
     try clear q14
     try clear hx14
     try clear c15
     try clear c19
     try clear c19b0
     try clear c19b1
     try clear c21
     try clear c21b0
     try clear c22
     try clear c22b0
     try clear c23
     try clear c27
     try clear c28
     try clear c29
     try clear c31
     try clear c32
     try clear c34
     try clear c34b0
     try clear c34b1
     try clear c35
     try clear c36
     try clear c37
     try clear c38
     try clear c43
     try clear c44
     try clear c46
     try clear c46b0
     try clear c46b1
     try clear hcz10_0
     try clear hcz16_0
     try clear hcz16_1
     try clear hcz30_0
     try clear hcz30_1
     try clear hcz33_0
     try clear hcz33_1
     try clear hcz39_0
     try clear hcz39_1
     try clear hcz42_0
     try clear hcz42_1
     try clear hcz45_0
     try clear hcz45_1
     try clear hfz10_0
     try clear hfz16_0
     try clear hfz16_1
     try clear hfz30_0
     try clear hfz30_1
     try clear hfz33_0
     try clear hfz33_1
     try clear hfz39_0
     try clear hfz39_1
     try clear hfz42_0
     try clear hfz42_1
     try clear hfz45_0
     try clear hfz45_1
     try clear hx145_0
     try clear p145
     try clear q145
     (try clear BK130); (try clear BK131); (try clear BK137)
     obtain ⟨x6_1, x138000_1, x138001_1, u138001, rfl, HA, HK1, HO_131000, HO_138001, BK130, BK131, BK137, HI0, HK, HB⟩ := hrel
     cases gk with
     | zero => exact absurd HA.out (by simp [spec_l71Bad.l0])
     | succ k1 =>
      have H := HA.out
      clear HA
      simp only [spec_l71Bad.l0] at H
      by_cases c47 : x6_1 < 5
      ·rw [if_pos c47] at H
       have c47b0 : decide (x6_1 < 5) = true := decide_eq_true c47
       clear c47
       obtain ⟨y149, hy149⟩ : ∃ y_ : List (S25), y_ = (([(⟨x138000_1, x138001_1⟩ : S25), (⟨0, ([] : List (S25))⟩ : S25)] : List (S25))) := ⟨_, rfl⟩
       replace H : (spec_l71Bad.l0 k1 (wrap64 (x6_1 + 1)) s0_0 t139 0 y149) = some (r1, r2, r3) := by first | (rw [hy149]; with_reducible exact H) | (have H2_ := (Option.bind_some _ _).symm.trans H; rw [hy149]; with_reducible exact H2_) | (have H2_ := (Option.bind_some _ _).symm.trans H; with_reducible exact H2_) | with_reducible exact H | (rw [hy149]; exact H) | exact H
       have Ny149 := Aside0.mk hy149
       clear hy149
       have H' := Aside0.mk H
       clear H
       have hnb48 := NB137_130.out
       have hnc48 := NB130_137.out
       have hnb49 := NB137_131.out
       have hnc49 := NB131_137.out
       have hnb50 := NB137_0.out
       have hnc50 := NB0_137.out
       have hcz51_0 := zh BK137
       have hcz51_1 := zh1 BK137
       have hfz51_0 := zfr BK137 0
       have hfz51_1 := zfr BK137 1
       obtain ⟨Ao52, co52, eo52⟩ := Kd.N_slice HO_138001.out
       subst eo52
       go_wp2_with (first | ((with_reducible refine gate_dst (N := 36) rfl ?_); refine Kd.N_lit k25 _ 25 ?hg (N' := 36) ?hd (xs := ([(⟨x138000_1, x138001_1⟩ : S25), (⟨0, ([] : List (S25))⟩ : S25)] : List (S25))) (inner := [.int .i64 x138000_1, .slice Ao52 x138001_1.length co52, .int .i64 0, .slice none 0 0]) (ok := (fun k_ => (P1_0_ k_ ∨ w.heap.size ≤ k_) ∧ k_ ≠ gb130 ∧ k_ ≠ gb131 ∧ k_ ≠ gb137 ∧ k_ ≠ g)) (okp := (fun k_ => (P1_0_ k_ ∨ w.heap.size ≤ k_) ∧ k_ ≠ gb130 ∧ k_ ≠ gb131 ∧ k_ ≠ gb137 ∧ k_ ≠ g)) ?hr ?hp (fun _ hk => hk) ((show ∀ k_, wr.heap.size ≤ k_ → (fun k_ => (P1_0_ k_ ∨ w.heap.size ≤ k_) ∧ k_ ≠ gb130 ∧ k_ ≠ gb131 ∧ k_ ≠ gb137 ∧ k_ ≠ g) k_ from fun k_ hk => ⟨(.inr (Nat.le_trans (keep_size (w := w) (g := g) (row := none) (y13 HK.out GW130.out GW131.out GW137.out)) hk)), Kd.freshB (g := gb130) (o := .cells #[.slice A1_0 l1_0.length c1_0] 41 (0, 0)) (y1 BK130.out) k_ hk, Kd.freshB (g := gb131) (o := .cells #[.int .i64 0, .slice none 0 0] 25 (0, 0)) (y1 BK131.out) k_ hk, Kd.freshB (g := gb137) (o := .cells #[.int .i64 x138000_1, .slice Ao52 x138001_1.length co52] 25 (0, 0)) (y1 BK137.out) k_ hk, IsS51.fresh (y18 HI0.out NB0_130.out NB0_131.out NB0_137.out) k_ hk⟩) _ (Nat.le_refl _)) (Below.refl _ _) (Nat.le_refl _) (by simp) ?_; (case hd => rfl); (case hg => rfl); (case hr => first | (go_simp; done) | (go_simp; rfl)); (case hp => exact (Reps.c2 (show Kd.FK k25 _ _ (⟨x138000_1, x138001_1⟩ : S25) [.int .i64 x138000_1, .slice Ao52 x138001_1.length co52] from (k25_mkF _ _ (⟨x138000_1, x138001_1⟩ : S25) (Kd.N_reads' (Kd.N_mono (ok' := (fun k_ => (P1_0_ k_ ∨ w.heap.size ≤ k_) ∧ k_ ≠ gb130 ∧ k_ ≠ gb131 ∧ k_ ≠ gb137 ∧ k_ ≠ g)) (HO_138001.out) (fun k_ hk => ⟨hk.1, ⟨hk.2.1, ⟨hk.2.2.1, ⟨hk.2.2.2.1, hk.2.2.2.2⟩⟩⟩⟩))).2.1 (Kd.N_F (Kd.N_mono (ok' := (fun k_ => (P1_0_ k_ ∨ w.heap.size ≤ k_) ∧ k_ ≠ gb130 ∧ k_ ≠ gb131 ∧ k_ ≠ gb137 ∧ k_ ≠ g)) (HO_138001.out) (fun k_ hk => ⟨hk.1, ⟨hk.2.1, ⟨hk.2.2.1, ⟨hk.2.2.2.1, hk.2.2.2.2⟩⟩⟩⟩))))) (Reps.c2 (show Kd.FK k25 _ _ (⟨0, ([] : List (S25))⟩ : S25) [.int .i64 0, .slice none 0 0] from (k25_mkF _ _ (⟨0, ([] : List (S25))⟩ : S25) (Nat.le_refl _) (Kd.F_nil _ _ _))) (Reps.none _ _)))); intro v150 w53 ho54 hb hg_ hnew_; clear hg_ hnew_; (first | rw [← Ny149.out] at ho54 | (simp only [Int.reduceToNat] at ho54; rw [← Ny149.out] at ho54)); replace HO_131000 := Aside0.mk (Kd.V_elder' (y28 HO_131000.out) (Kd.N_base ho54) hb); have HO151 := Aside0.mk (Kd.N_lower ho54 (keep_size (w := w) (g := g) (row := none) (y13 HK.out GW130.out GW131.out GW137.out))); replace BK130 := zbb BK130 hb; replace BK131 := zbb BK131 hb; replace BK137 := zbb BK137 hb; replace HK := Aside0.mk (KeepBut.trans (y13 HK.out GW130.out GW131.out GW137.out) (KeepBut.of_below hb g none) (.inl rfl)); replace HB := Aside0.mk (below_step (y22 HB.out HI0.out GE130.out GE131.out GE137.out) hb); replace HI0 := Aside0.mk (IsS51.below (y18 HI0.out NB0_130.out NB0_131.out NB0_137.out) hb); clear HO_138001; clear hb ho54; obtain ⟨Ao55, co55, eo55⟩ := Kd.N_slice HO151.out; subst eo55; have hcz56_0 := zh BK137; have hcz56_1 := zh1 BK137; have hfz56_0 := zfr BK137 0; have hfz56_1 := zfr BK137 1))
       go_roundg k1
       case measure => have := HK1.out; omega
       case rel => exact ⟨(wrap64 (x6_1 + 1)), (0), (y149), (.slice Ao55 y149.length co55), y26, H', ⟨(y41 HK1.out)⟩, ⟨(by (with_reducible repeat (first | apply Kd.V_alloc | apply Kd.V_drewN | apply Kd.V_drew)); exact Kd.V_mono (Kd.V_far (p := ⟨gb137, 1, none⟩) (Kd.V_far (p := ⟨gb137, 0, none⟩) (Kd.V_mono HO_131000.out (fun k_ hk => (⟨hk, hk.1.2.2.2.2.1⟩ : _ ∧ k_ ≠ gb137))) (fun _ hk => hk.2) (.int .i64 0)) (fun _ hk => hk.2) (.slice Ao55 y149.length co55)) (fun _ hk => ⟨hk.1.1.1, ⟨hk.1.2, ⟨hk.1.1.2.2.1, ⟨hk.1.1.2.2.2.1, ⟨hk.1.1.2.2.2.2.1, hk.1.1.2.2.2.2.2⟩⟩⟩⟩⟩))⟩, ⟨(by (with_reducible repeat (first | apply Kd.N_alloc | apply Kd.N_drewN | apply Kd.N_drew)); exact Kd.N_mono (Kd.N_far (p := ⟨gb137, 1, none⟩) (Kd.N_far (p := ⟨gb137, 0, none⟩) (Kd.N_mono HO151.out (fun k_ hk => (⟨hk, hk.2.2.2.1⟩ : _ ∧ k_ ≠ gb137))) (fun _ hk => hk.2) (.int .i64 0)) (fun _ hk => hk.2) (.slice Ao55 y149.length co55)) (fun _ hk => ⟨hk.1.1, ⟨hk.1.2.1, ⟨hk.1.2.2.1, ⟨hk.1.2.2.2.1, hk.1.2.2.2.2⟩⟩⟩⟩))⟩, ⟨(y23 NB130_137.out BK130.out)⟩, ⟨(y23 NB131_137.out BK131.out)⟩, ⟨(by (with_reducible repeat (first | refine blk_drewN ?_ _ | refine blk_drew ?_ | refine blk_alloc ?_ _)); refine blk_put (cs := #[.int .i64 0, .slice Ao52 x138001_1.length co52]) ?_ 1 _ rfl; (with_reducible repeat (first | refine blk_drewN ?_ _ | refine blk_drew ?_ | refine blk_alloc ?_ _)); refine blk_put (cs := #[.int .i64 x138000_1, .slice Ao52 x138001_1.length co52]) ?_ 0 _ rfl; (with_reducible repeat (first | refine blk_drewN ?_ _ | refine blk_drew ?_ | refine blk_alloc ?_ _)); exact BK137.out)⟩, ⟨(y18 HI0.out NB0_130.out NB0_131.out NB0_137.out)⟩, ⟨(y13 HK.out GW130.out GW131.out GW137.out)⟩, ⟨(y22 HB.out HI0.out GE130.out GE131.out GE137.out)⟩⟩
      ·rw [if_neg c47] at H
       have c47b0 : decide (x6_1 < 5) = false := decide_eq_false c47
       clear c47
       simp only [Option.some.injEq, Prod.mk.injEq] at H
       obtain ⟨rfl, rfl, rfl⟩ := H
       have hnb57 := NB137_130.out
       have hnc57 := NB130_137.out
       have hnb58 := NB137_131.out
       have hnc58 := NB131_137.out
       have hnb59 := NB137_0.out
       have hnc59 := NB0_137.out
       have hcz60_0 := zh BK137
       have hcz60_1 := zh1 BK137
       have hfz60_0 := zfr BK137 0
       have hfz60_1 := zfr BK137 1
       have hnb61 := NB131_130.out
       have hnc61 := NB130_131.out
       have hnb62 := NB131_0.out
       have hnc62 := NB0_131.out
       have hcz63_0 := zh BK131
       have hcz63_1 := zh1 BK131
       have hfz63_0 := zfr BK131 0
       have hfz63_1 := zfr BK131 1
       obtain ⟨Ao64, co64, eo64⟩ := Kd.N_slice HO_138001.out
       subst eo64
       go_wp2
       refine bodyPost_ret (results_cell_row rfl _ _ gb131 25 #[.int .i64 x138000_1, .slice Ao64 x138001_1.length co64] (0, 0) _ rfl (by (with_reducible repeat (first | refine blk_drewN ?_ _ | refine blk_drew ?_ | refine blk_alloc ?_ _)); refine blk_put (cs := #[.int .i64 x138000_1, .slice none 0 0]) ?_ 1 _ rfl; (with_reducible repeat (first | refine blk_drewN ?_ _ | refine blk_drew ?_ | refine blk_alloc ?_ _)); apply blk_put (i := 0); (case h => exact y1 BK131.out); (case e => rfl)) Tryd.underlying25 rfl (by kernel_rfl)) rfl ?_
       exact ⟨_, y7, (by (with_reducible repeat (first | apply Kd.N_alloc | apply Kd.N_drewN | apply Kd.N_drew)); exact Kd.N_mono (Kd.N_far (p := ⟨gb131, 1, none⟩) (Kd.N_far (p := ⟨gb131, 0, none⟩) (Kd.N_mono HO_138001.out (fun k_ hk => (⟨hk, hk.2.2.1⟩ : _ ∧ k_ ≠ gb131))) (fun _ hk => hk.2) (.int .i64 x138000_1)) (fun _ hk => hk.2) (.slice Ao64 x138001_1.length co64)) (fun _ hk => hk.1.1)), (y18 HI0.out NB0_130.out NB0_131.out NB0_137.out), (y22 HB.out HI0.out GE130.out GE131.out GE137.out), (y13 HK.out GW130.out GW131.out GW137.out)⟩
   ·rw [if_neg c46] at H
    have c46b0 : (t138 == 2) = false := beq_eq_false_iff_ne.mpr c46
    have c46b1 : (t138 != 2) = true := bne_iff_ne.mpr c46
    simp only [Option.some.injEq, Prod.mk.injEq] at H
    obtain ⟨rfl, rfl, rfl⟩ := H
    have hnb65 := NB137_130.out
    have hnc65 := NB130_137.out
    have hnb66 := NB137_131.out
    have hnc66 := NB131_137.out
    have hnb67 := NB137_0.out
    have hnc67 := NB0_137.out
    have hcz68_0 := zh BK137
    have hcz68_1 := zh1 BK137
    have hfz68_0 := zfr BK137 0
    have hfz68_1 := zfr BK137 1
    have hnb69 := NB131_130.out
    have hnc69 := NB130_131.out
    have hnb70 := NB131_0.out
    have hnc70 := NB0_131.out
    have hcz71_0 := zh BK131
    have hcz71_1 := zh1 BK131
    have hfz71_0 := zfr BK131 0
    have hfz71_1 := zfr BK131 1
    go_wp2
    refine bodyPost_ret (results_cell_row rfl _ _ gb131 25 #[.int .i64 t132, .slice Ao17 t133.length co17] (0, 0) _ rfl (by (with_reducible repeat (first | refine blk_drewN ?_ _ | refine blk_drew ?_ | refine blk_alloc ?_ _)); refine blk_put (cs := #[.int .i64 t132, .slice none 0 0]) ?_ 1 _ rfl; (with_reducible repeat (first | refine blk_drewN ?_ _ | refine blk_drew ?_ | refine blk_alloc ?_ _)); apply blk_put (i := 0); (case h => exact y1 BK131.out); (case e => rfl)) Tryd.underlying25 rfl (by kernel_rfl)) rfl ?_
    exact ⟨_, y7, (by (with_reducible repeat (first | apply Kd.N_alloc | apply Kd.N_drewN | apply Kd.N_drew)); exact Kd.N_mono (Kd.N_far (p := ⟨gb131, 1, none⟩) (Kd.N_far (p := ⟨gb131, 0, none⟩) (Kd.N_mono HO135.out (fun k_ hk => (⟨hk, hk.1.2.2.1⟩ : _ ∧ k_ ≠ gb131))) (fun _ hk => hk.2) (.int .i64 t132)) (fun _ hk => hk.2) (.slice Ao17 t133.length co17)) (fun _ hk => hk.1.1.1)), (y18 HI0.out NB0_130.out NB0_131.out NB0_137.out), (y22 HB.out HI0.out GE130.out GE131.out GE137.out), (y13 HK.out GW130.out GW131.out GW137.out)⟩
end Go.Proofs.YtihfbpmblppbgaaDoor.PA
end
section
set_option linter.unusedVariables false
namespace Go.Proofs.YtihfbpmblppbgaaDoor.Vals
open Go.RowKit Go.Proofs.YtihfbpmblppbgaaDoor.PA Go.Proofs.YtihfbpmblppbgaaDoorW.PrintWords Go.Proofs.YtihfbpmblppbgaaDoorW.PrintLast Go.Proofs.YtihfbpmblppbgaaDoor.Draw Go.Proofs.YtihfbpmblppbgaaDoor.Types Go.Proofs.YtihfbpmblppbgaaDoor.Paths
abbrev Vl := List S25
theorem rv0 (a : S25) (l : Vl) : rd_T25 (a :: l) 0 = a := rfl
theorem rv1 (a b : S25) (l : Vl) : rd_T25 (a :: b :: l) 1 = b := rfl
theorem shapeV (l : Vl) : l = [] ∨ (∃ a b, l = [a, b]) ∨ (l.length ≠ 0 ∧ l.length ≠ 2) := by
  match l with
  | [] => exact .inl rfl
  | [_] => exact .inr (.inr ⟨by simp, by simp⟩)
  | [a, b] => exact .inr (.inl ⟨a, b, rfl⟩)
  | _ :: _ :: _ :: _ => exact .inr (.inr ⟨by simp, by simp⟩)
def vt : Nat → Int → Vl → Option Ty
  | 0, _, _ => none
  | _ + 1, x, [] => if 0 ≤ x ∧ x ≤ 9999 then some [] else none
  | n + 1, x, [a, b] => if x = 0 then (vt n a.f0 a.f1).bind fun s => (vt n b.f0 b.f1).bind fun t => some [⟨s⟩, ⟨t⟩] else none
  | _ + 1, _, _ => none
theorem vt_nil (n : Nat) (x : Int) : vt (n + 1) x [] = if 0 ≤ x ∧ x ≤ 9999 then some [] else none := rfl
theorem vt_two (n : Nat) (x : Int) (a b : S25) : vt (n + 1) x [a, b] = if x = 0 then (vt n a.f0 a.f1).bind fun s => (vt n b.f0 b.f1).bind fun t => some [⟨s⟩, ⟨t⟩] else none := rfl
theorem vt_odd (n : Nat) (x : Int) (l : Vl) (h0 : l.length ≠ 0) (h2 : l.length ≠ 2) : vt n x l = none := by
  cases n with
  | zero => rfl
  | succ n =>
    match l with
    | [] => simp at h0
    | [_] => rfl
    | [_, _] => simp at h2
    | _ :: _ :: _ :: _ => rfl
theorem vt_cases {n : Nat} {x : Int} {l : Vl} {t : Ty} (h : vt (n + 1) x l = some t) :
    (l = [] ∧ t = [] ∧ 0 ≤ x ∧ x ≤ 9999) ∨ ∃ a b s u, l = [a, b] ∧ x = 0 ∧ t = [⟨s⟩, ⟨u⟩] ∧ vt n a.f0 a.f1 = some s ∧ vt n b.f0 b.f1 = some u := by
  rcases shapeV l with rfl | ⟨a, b, rfl⟩ | ⟨h0, h2⟩
  · rw [vt_nil] at h
    split at h
    · rename_i hx
      cases h
      exact .inl ⟨rfl, rfl, hx.1, hx.2⟩
    · cases h
  · rw [vt_two] at h
    split at h
    · rename_i hx
      cases e1 : vt n a.f0 a.f1 with
      | none => rw [e1] at h; cases h
      | some s =>
        cases e2 : vt n b.f0 b.f1 with
        | none => rw [e1, e2] at h; cases h
        | some u =>
          rw [e1, e2] at h
          cases h
          exact .inr ⟨a, b, s, u, rfl, hx, rfl, e1, e2⟩
    · cases h
  · rw [vt_odd _ _ _ h0 h2] at h; cases h
theorem vt_dp : ∀ (n : Nat) (x : Int) (l : Vl) (t : Ty), vt n x l = some t → dp n t = true := by
  intro n
  induction n with
  | zero => intro x l t h; cases h
  | succ n ih =>
    intro x l t h
    rcases vt_cases h with ⟨_, rfl, _, _⟩ | ⟨a, b, s, u, _, _, rfl, h1, h2⟩
    · rfl
    · rw [dp_two, ih _ _ _ h1, ih _ _ _ h2]; rfl
theorem vt_succ : ∀ (n : Nat) (x : Int) (l : Vl) (t : Ty), vt n x l = some t → vt (n + 1) x l = some t := by
  intro n
  induction n with
  | zero => intro x l t h; cases h
  | succ n ih =>
    intro x l t h
    rcases vt_cases h with ⟨rfl, rfl, h0, h1⟩ | ⟨a, b, s, u, rfl, rfl, rfl, h1, h2⟩
    · rw [vt_nil, if_pos ⟨h0, h1⟩]
    · rw [vt_two, if_pos rfl, ih _ _ _ h1, ih _ _ _ h2]; rfl
theorem valType_ev : ∀ (n : Nat), n ≤ 1000 → ∀ (x : Int) (l : Vl) (k : Nat), 2 * n + 2 ≤ k → impl_valType.f k x l n = some (at_ (vt n x l)) := by
  intro n
  induction n with
  | zero =>
    intro _ x l k hk
    obtain ⟨k, rfl⟩ : ∃ m, k = m + 1 := ⟨k - 1, by omega⟩
    simp only [impl_valType.f]
    rw [if_pos (by omega)]; rfl
  | succ n ih =>
    intro hn x l k hk
    obtain ⟨k, rfl⟩ : ∃ m, k = m + 2 := ⟨k - 2, by omega⟩
    have hp := pred_cast n (by omega)
    simp only [impl_valType.f]
    rw [if_neg (by omega)]
    rcases shapeV l with rfl | ⟨a, b, rfl⟩ | ⟨h0, h2⟩
    · rw [if_pos (by simp), vt_nil]
      by_cases h0 : x ≥ 0
      · rw [if_pos h0]
        by_cases h9 : x ≤ 9999
        · rw [if_pos ⟨h0, h9⟩, decide_eq_true h9]; rfl
        · rw [if_neg (fun h => h9 h.2), decide_eq_false h9]; rfl
      · rw [if_neg h0, if_neg (fun h => h0 h.1)]; rfl
    · rw [if_neg (by simp), if_pos (by simp), vt_two]
      simp only [impl_valType.j0, hp, rv0, rv1]
      by_cases hx : x = 0
      · rw [if_neg (by simp [hx]), if_pos (by simp), if_pos hx, ih (by omega) _ _ _ (by omega)]; simp only [Option.bind_some]
        rw [if_pos (by simp), ih (by omega) _ _ _ (by omega)]; simp only [Option.bind_some]
        cases vt n a.f0 a.f1 with
        | none => rfl
        | some s =>
          cases vt n b.f0 b.f1 with
          | none => rfl
          | some u => rfl
      · rw [if_pos (by simpa using hx), if_neg hx]; rfl
    · rw [if_neg (by omega), if_neg (by omega), vt_odd _ _ _ h0 h2]
      simp only [impl_valType.j0, if_true]; rfl
theorem typed_ev (x : Int) (l : Vl) (k : Nat) (hk : 10 ≤ k) : impl_valTyped.f k x l = some (at_ (vt 4 x l)) := by
  unfold impl_valTyped.f
  rw [show (4 : Int) = ((4 : Nat) : Int) from rfl, valType_ev 4 (by omega) x l k (by omega)]; rfl
def vm (n : Nat) (t : Ty) (x : Int) (l : Vl) : Bool := match vt n x l with | some s => teq n s t | none => false
def vo (t : Ty) (x : Int) (l : Vl) : Bool := dp 4 t && vm 4 t x l
theorem vm_two (n : Nat) (x : Int) (a b : S41) (c d : S25) : vm (n + 1) [a, b] x [c, d] = ((x == 0) && (vm n a.f0 c.f0 c.f1 && vm n b.f0 d.f0 d.f1)) := by
  unfold vm
  rw [vt_two]
  by_cases hx : x = 0
  · rw [if_pos hx, beq_iff_eq.2 hx]
    cases vt n c.f0 c.f1 with
    | none => rfl
    | some s =>
      cases vt n d.f0 d.f1 with
      | none => simp
      | some u => rfl
  · rw [if_neg hx, beq_eq_false_iff_ne.2 hx]; rfl
theorem l1Val_ev : ∀ (n : Nat) (t : Ty) (x : Int) (l : Vl) (k : Nat), dp n t = true → 5 * n ≤ k → spec_l1Val.f k t x l = some (vm n t x l) := by
  intro n
  induction n with
  | zero => intro t x l k h; simp [dp] at h
  | succ n ih =>
    intro t x l k h hk
    obtain ⟨k, rfl⟩ : ∃ m, k = m + 5 := ⟨k - 5, by omega⟩
    simp only [spec_l1Val.f, spec_l6In.f]
    have bad : ∀ m t x l, spec_l1Val.j0 (m + 1) true t x l = some false := fun m t x l => by simp only [spec_l1Val.j0, if_true]
    rcases Types.shape t with rfl | ⟨a, b, rfl⟩ | ⟨h0, h2⟩
    · rcases shapeV l with rfl | ⟨c, d, rfl⟩ | ⟨g0, g2⟩
      · rw [if_pos (by simp), if_neg (by simp)]
        simp only [vm, vt_nil]
        by_cases hx : x ≥ 0
        · rw [if_pos hx]; simp only [Option.bind_some]
          by_cases h9 : x ≤ 9999
          · rw [decide_eq_true h9, if_pos ⟨hx, h9⟩]
            simp only [spec_l1Val.j0, spec_l1Val.l0, Bool.not_true]
            rw [if_neg (by simp), if_neg (by simp)]; rfl
          · rw [decide_eq_false h9, if_neg (fun h => h9 h.2)]
            exact bad _ _ _ _
        · rw [if_neg hx, if_neg (fun h => hx h.1)]; simp only [Option.bind_some]
          exact bad _ _ _ _
      · rw [if_neg (by simp), bad]
        simp only [vm]
        cases e : vt (n + 1) x [c, d] with
        | none => rfl
        | some s =>
          rcases vt_cases e with ⟨h, _⟩ | ⟨_, _, s, u, _, _, rfl, _, _⟩
          · cases h
          · rfl
      · rw [if_neg (by simp; simpa using g0), bad]
        simp only [vm, vt_odd _ _ _ g0 g2]
    · rcases shapeV l with rfl | ⟨c, d, rfl⟩ | ⟨g0, g2⟩
      · rw [if_neg (by simp), bad]
        simp only [vm, vt_nil]
        split
        · rename_i h; split at h
          · cases h; rfl
          · cases h
        · rfl
      · rw [if_pos (by simp), if_pos (by simp), vm_two]
        by_cases hx : x = 0
        · rw [if_pos hx, if_pos (by omega)]; simp only [Option.bind_some]
          rw [decide_eq_true (by omega)]
          rw [dp_two, Bool.and_eq_true] at h
          simp only [spec_l1Val.j0, spec_l1Val.l0, Bool.not_true, w01, w12]
          rw [if_neg (by simp), if_pos (by simp), if_pos (by omega), if_pos (by simp), rd0, rv0, ih _ _ _ _ h.1 (by omega)]; simp only [Option.bind_some]
          rw [beq_iff_eq.2 hx, Bool.true_and]
          cases e1 : vm n a.f0 c.f0 c.f1 with
          | false => rw [if_neg (by simp)]; rfl
          | true =>
            rw [if_pos rfl, if_pos (by simp), if_pos (by omega), if_pos (by simp), rd1, rv1, ih _ _ _ _ h.2 (by omega)]; simp only [Option.bind_some]
            cases e2 : vm n b.f0 d.f0 d.f1 with
            | false => rw [if_neg (by simp)]; rfl
            | true => rw [if_pos rfl, if_neg (by simp)]; rfl
        · rw [if_neg hx, bad, beq_eq_false_iff_ne.2 hx]; rfl
      · rw [if_neg (by simp; omega), bad]
        simp only [vm, vt_odd _ _ _ g0 g2]
    · rw [dp_odd _ _ h0 h2] at h; cases h
theorem specValOk_ev (t : Ty) (x : Int) (l : Vl) (k : Nat) (hk : 23 ≤ k) : spec_ValOk.f k t x l = some (vo t x l) := by
  unfold spec_ValOk.f vo
  rw [specOk_ev t k (by omega)]; simp only [Option.bind_some]
  cases d : dp 4 t with
  | false => rfl
  | true =>
    simp only [if_true, Bool.true_and]
    rw [l1Val_ev 4 t x l k d (by omega)]; rfl
theorem teq_self (t u : Ty) (n : Nat) (ht : dp n t = true) (hu : dp n u = true) : teq n t u = teq n u t := by
  cases e : teq n t u with
  | true => rw [teq_eq _ _ _ e, teq_refl _ _ hu]
  | false =>
    cases e2 : teq n u t with
    | true => rw [teq_eq _ _ _ e2, teq_refl _ _ ht] at e; cases e
    | false => rfl
theorem vo_iff (t : Ty) (x : Int) (l : Vl) : vo t x l = true ↔ vt 4 x l = some t := by
  unfold vo vm
  constructor
  · intro h
    rw [Bool.and_eq_true] at h
    cases e : vt 4 x l with
    | none => rw [e] at h; cases h.2
    | some s => rw [e] at h; rw [teq_eq _ _ _ h.2]
  · intro h
    have d := vt_dp _ _ _ _ h
    rw [h, d]
    exact teq_refl 4 t d
def pv : List Int → Int → Vl → Option (Int × Vl)
  | [], x, l => some (x, l)
  | i :: r, _, [a, b] => if i = 0 then pv r a.f0 a.f1 else if i = 1 then pv r b.f0 b.f1 else none
  | _ :: _, _, _ => none
theorem pv_nil (x : Int) (l : Vl) : pv [] x l = some (x, l) := by cases l <;> rfl
theorem pv_two (i : Int) (r : List Int) (x : Int) (a b : S25) : pv (i :: r) x [a, b] = if i = 0 then pv r a.f0 a.f1 else if i = 1 then pv r b.f0 b.f1 else none := rfl
theorem pv_odd (i : Int) (r : List Int) (x : Int) (l : Vl) (h : l.length ≠ 2) : pv (i :: r) x l = none := by
  match l with
  | [] => rfl
  | [_] => rfl
  | [_, _] => simp at h
  | _ :: _ :: _ :: _ => rfl
theorem pv_app (p q : List Int) : ∀ x l, pv (p ++ q) x l = (pv p x l).bind fun r => pv q r.1 r.2 := by
  induction p with
  | nil => intro x l; rw [List.nil_append, pv_nil]; rfl
  | cons i r ih =>
    intro x l
    by_cases h : l.length = 2
    · rcases shapeV l with rfl | ⟨a, b, rfl⟩ | ⟨_, h2⟩
      · simp at h
      · rw [List.cons_append, pv_two, pv_two]
        split
        · exact ih _ _
        · split
          · exact ih _ _
          · rfl
      · exact absurd h h2
    · rw [List.cons_append, pv_odd _ _ _ _ h, pv_odd _ _ _ _ h]; rfl
theorem vt_pv (n : Nat) : ∀ (p : List Int) (x : Int) (l : Vl) (t : Ty), vt n x l = some t →
    (∀ y m, pv p x l = some (y, m) → ∃ u, pf p t = some u ∧ vt n y m = some u) ∧ (pv p x l = none → pf p t = none) := by
  intro p
  induction p with
  | nil =>
    intro x l t h
    rw [pv_nil]
    exact ⟨fun y m e => by cases e; exact ⟨t, pf_nil t, h⟩, fun e => by cases e⟩
  | cons i r ih =>
    intro x l t h
    cases n with
    | zero => cases h
    | succ n =>
      rcases vt_cases h with ⟨rfl, rfl, _, _⟩ | ⟨a, b, s, u, rfl, rfl, rfl, h1, h2⟩
      · exact ⟨fun y m e => (by cases e), fun _ => rfl⟩
      · rw [pv_two, pf_two]
        by_cases h0 : i = 0
        · rw [if_pos h0, if_pos h0]; exact ih _ _ _ (vt_succ _ _ _ _ h1)
        · rw [if_neg h0, if_neg h0]
          by_cases h3 : i = 1
          · rw [if_pos h3, if_pos h3]; exact ih _ _ _ (vt_succ _ _ _ _ h2)
          · rw [if_neg h3, if_neg h3]; exact ⟨fun y m e => (by cases e), fun _ => rfl⟩
def av (o : Option (Int × Vl)) : Int × Vl × Bool := match o with | some r => (r.1, r.2, true) | none => (0, [], false)
def vat (x : Int) (l : Vl) (p : List Int) : Int × Vl × Bool := if (vt 4 x l).isSome = true then av (pv p x l) else (0, [], false)
theorem type_dp (s : List Int) : ∀ (k d : Nat) (p : Int) (r : Ty) (q : Int), d ≤ 1000 → spec_l71Type.f k s p d = some (r, q) → dp (d + 1) r = true := by
  intro k
  induction k using Nat.strongRecOn with
  | _ k ih =>
    intro d p r q hd h
    match k, ih, h with
    | 0, _, h => simp [spec_l71Type.f] at h
    | 1, _, h =>
      simp only [spec_l71Type.f] at h
      split at h
      · simp [spec_l71Type.j0] at h
      · cases e : spec_l6Rd_pick.f 0 s p 3 with
        | none => rw [e] at h; cases h
        | some c => rw [e] at h; simp [spec_l71Type.j0] at h
    | k + 2, ih, h =>
      simp only [spec_l71Type.f] at h
      split at h
      · simp only [spec_l71Type.j0, if_true] at h
        cases h; rfl
      · rename_i h2
        cases e : spec_l6Rd_pick.f (k + 1) s p 3 with
        | none => rw [e] at h; cases h
        | some c =>
          rw [e] at h
          simp only [Option.bind_some, spec_l71Type.j0] at h
          split at h
          · cases h; rfl
          · obtain ⟨d, rfl⟩ : ∃ m, d = m + 1 := ⟨d - 1, by omega⟩
            have ew : wrap64 (((d + 1 : Nat) : Int) - 1) = (d : Int) := pred_cast d (by omega)
            rw [ew] at h
            cases e1 : spec_l71Type.f k s c.2 d with
            | none => rw [e1] at h; cases h
            | some a =>
              rw [e1] at h
              simp only [Option.bind_some] at h
              cases e2 : spec_l71Type.f k s a.2 d with
              | none => rw [e2] at h; cases h
              | some b =>
                rw [e2] at h
                cases h
                rw [dp_two, ih k (by omega) d _ a.1 a.2 (by omega) e1, ih k (by omega) d _ b.1 b.2 (by omega) e2]; rfl
theorem val_ev (s : List Int) (hs : Bytes s) : ∀ (n : Nat) (t : Ty) (p : Int), dp n t = true → 0 ≤ p → p + 2 ^ n ≤ 1099511000000 →
    ∃ x l q, (∀ k, n + 3 ≤ k → spec_l71Val.f k s p t = some (x, l, q)) ∧ p ≤ q ∧ q ≤ p + 2 ^ n ∧ l.length ≤ 2 := by
  intro n
  induction n with
  | zero => intro t p h; simp [dp] at h
  | succ n ih =>
    intro t p h hp hp1
    have hpow : (2 : Int) ^ (n + 1) = 2 ^ n + 2 ^ n := by rw [Int.pow_succ]; omega
    have hpos : (1 : Int) ≤ 2 ^ n := by have := Int.pow_pos (n := 2) (m := n) (by decide); omega
    rw [hpow] at hp1 ⊢
    generalize (2 : Int) ^ n = e at *
    rcases Types.shape t with rfl | ⟨a, b, rfl⟩ | ⟨h0, h2⟩
    · obtain ⟨c, hc, c0, c1⟩ := pick_ev s hs p 7 hp (by omega) (by omega)
      refine ⟨rd [0, 1, 2, 3, 7, 50, 9999] c, [], p + 1, fun k hk => ?_, by omega, by omega, by simp⟩
      obtain ⟨k, rfl⟩ : ∃ m, k = m + 1 := ⟨k - 1, by omega⟩
      simp only [spec_l71Val.f]
      rw [if_pos (by simp)]; simp only [Option.bind_some]
      rw [hc k (by omega)]; simp only [Option.bind_some]
      rw [if_pos c0, if_pos (by simp; omega)]
    · rw [dp_two, Bool.and_eq_true] at h
      obtain ⟨x1, l1, q1, h1, g1, g2, _⟩ := ih a.f0 p h.1 hp (by omega)
      obtain ⟨x2, l2, q2, h3, g3, g4, _⟩ := ih b.f0 q1 h.2 (by omega) (by omega)
      refine ⟨0, [⟨x1, l1⟩, ⟨x2, l2⟩], q2, fun k hk => ?_, by omega, by omega, by simp⟩
      obtain ⟨k, rfl⟩ : ∃ m, k = m + 1 := ⟨k - 1, by omega⟩
      simp only [spec_l71Val.f]
      rw [if_neg (by simp), if_pos (by simp), rd0, h1 k (by omega)]; simp only [Option.bind_some]
      rw [if_pos (by simp), rd1, h3 k (by omega)]; rfl
    · rw [dp_odd _ _ h0 h2] at h; cases h
theorem badLoop_ev (s : List Int) (p : Int) : ∀ (d i : Nat), i + d = 5 → ∀ (x : Int) (l : Vl), ∃ y m, ∀ k, d + 1 ≤ k → spec_l71Bad.l0 k i s p x l = some (y, m, p) := by
  intro d
  induction d with
  | zero =>
    intro i hi x l
    refine ⟨x, l, fun k hk => ?_⟩
    obtain ⟨k, rfl⟩ : ∃ m, k = m + 1 := ⟨k - 1, by omega⟩
    simp only [spec_l71Bad.l0]
    rw [if_neg (by omega)]
  | succ d ih =>
    intro i hi x l
    obtain ⟨y, m, h⟩ := ih (i + 1) (by omega) 0 [⟨x, l⟩, ⟨0, []⟩]
    refine ⟨y, m, fun k hk => ?_⟩
    obtain ⟨k, rfl⟩ : ∃ m, k = m + 1 := ⟨k - 1, by omega⟩
    simp only [spec_l71Bad.l0]
    rw [if_pos (by omega), w64 (by omega) (by omega)]
    exact h k (by omega)
theorem pow20 (n : Nat) (hn : n ≤ 20) : (2 : Int) ^ n ≤ 1048576 := by
  have h : (2 : Nat) ^ n ≤ 2 ^ 20 := Nat.pow_le_pow_right (by decide) hn
  have e : (2 : Nat) ^ 20 = 1048576 := rfl
  rw [e] at h
  have := Int.ofNat_le.2 h
  rwa [Int.natCast_pow] at this
theorem bad_ev (s : List Int) (hs : Bytes s) (n : Nat) (hn : n ≤ 20) (t : Ty) (d : dp n t = true) (p : Int) (hp : 0 ≤ p) (hp1 : p ≤ 1099500000000) :
    ∃ x l q, (∀ k, n + 12 ≤ k → spec_l71Bad.f k s p t = some (x, l, q)) ∧ p ≤ q ∧ q ≤ p + 1048578 := by
  have hmax := pow20 n hn
  obtain ⟨x, l, q, hv, g1, g2, hl⟩ := val_ev s hs n t p d hp (by omega)
  generalize (2 : Int) ^ n = e at *
  obtain ⟨c, hc, c0, c1⟩ := pick_ev s hs q 12 (by omega) (by omega) (by omega)
  by_cases e0 : c = 0
  · obtain ⟨c', hc', c0', c1'⟩ := pick_ev s hs (q + 1) 4 (by omega) (by omega) (by omega)
    refine ⟨rd [(-1), 1, 9999, 10000] c', l, q + 1 + 1, fun k hk => ?_, by omega, by omega⟩
    unfold spec_l71Bad.f
    rw [hv k (by omega)]; simp only [Option.bind_some]
    rw [hc k (by omega)]; simp only [Option.bind_some]
    rw [if_pos e0, hc' k (by omega)]; simp only [Option.bind_some]
    rw [if_pos c0', if_pos (by simp; omega)]
  · by_cases e1 : c = 1
    · refine ⟨x, l ++ [⟨0, []⟩], q + 1, fun k hk => ?_, by omega, by omega⟩
      unfold spec_l71Bad.f
      rw [hv k (by omega)]; simp only [Option.bind_some]
      rw [hc k (by omega)]; simp only [Option.bind_some]
      rw [if_neg e0, if_pos e1, if_pos (by omega)]
    · by_cases e2 : c = 2
      · obtain ⟨y, m, hm⟩ := badLoop_ev s (q + 1) 5 0 rfl x l
        refine ⟨y, m, q + 1, fun k hk => ?_, by omega, by omega⟩
        unfold spec_l71Bad.f
        rw [hv k (by omega)]; simp only [Option.bind_some]
        rw [hc k (by omega)]; simp only [Option.bind_some]
        rw [if_neg e0, if_neg e1, if_pos e2]
        exact hm k (by omega)
      · refine ⟨x, l, q + 1, fun k hk => ?_, by omega, by omega⟩
        unfold spec_l71Bad.f
        rw [hv k (by omega)]; simp only [Option.bind_some]
        rw [hc k (by omega)]; simp only [Option.bind_some]
        rw [if_neg e0, if_neg e1, if_neg e2]
theorem typeN_ev (s : List Int) (hs : Bytes s) (d : Nat) (hd : d ≤ 20) (p : Int) (hp : 0 ≤ p) (hp1 : p ≤ 1099500000000) :
    ∃ r q, (∀ k, 3 * d + 4 ≤ k → spec_l71Type.f k s p d = some (r, q)) ∧ p ≤ q ∧ q ≤ p + 1048576 ∧ dp (d + 1) r = true := by
  have hmax := pow20 d hd
  obtain ⟨r, q, hr, _, h1, h2, _⟩ := type_ev s hs d (by omega) p hp (by omega)
  exact ⟨r, q, hr, h1, by omega, type_dp s _ d p r q (by omega) (hr (3 * d + 4) (Nat.le_refl _))⟩
end Go.Proofs.YtihfbpmblppbgaaDoor.Vals
end
section
set_option linter.unusedVariables false
set_option linter.unusedSimpArgs false
namespace Go.Proofs.YtihfbpmblppbgaaDoor.Ats
open Go.RowKit Go.Proofs.YtihfbpmblppbgaaDoor.PA Go.Proofs.YtihfbpmblppbgaaDoorW.PrintWords Go.Proofs.YtihfbpmblppbgaaDoorW.PrintLast Go.Proofs.YtihfbpmblppbgaaDoor.Draw Go.Proofs.YtihfbpmblppbgaaDoor.Types Go.Proofs.YtihfbpmblppbgaaDoor.Paths Go.Proofs.YtihfbpmblppbgaaDoor.Vals
def st : Nat → Vl → Option Ty
  | 0, _ => none
  | _ + 1, [] => some []
  | n + 1, [a, b] => (st n a.f1).bind fun s => (st n b.f1).bind fun t => some [⟨s⟩, ⟨t⟩]
  | _ + 1, _ => none
theorem st_nil (n : Nat) : st (n + 1) [] = some [] := rfl
theorem st_two (n : Nat) (a b : S25) : st (n + 1) [a, b] = (st n a.f1).bind fun s => (st n b.f1).bind fun t => some [⟨s⟩, ⟨t⟩] := rfl
theorem st_odd (n : Nat) (l : Vl) (h0 : l.length ≠ 0) (h2 : l.length ≠ 2) : st n l = none := by
  cases n with
  | zero => rfl
  | succ n =>
    match l with
    | [] => simp at h0
    | [_] => rfl
    | [_, _] => simp at h2
    | _ :: _ :: _ :: _ => rfl
theorem st_vt : ∀ (n : Nat) (x : Int) (l : Vl) (t : Ty), vt n x l = some t → st n l = some t := by
  intro n
  induction n with
  | zero => intro x l t h; cases h
  | succ n ih =>
    intro x l t h
    rcases vt_cases h with ⟨rfl, rfl, _, _⟩ | ⟨a, b, s, u, rfl, rfl, rfl, h1, h2⟩
    · rfl
    · rw [st_two, ih _ _ _ h1, ih _ _ _ h2]; rfl
theorem of_ev : ∀ (n : Nat), n ≤ 1000 → ∀ (x : Int) (l : Vl) (k : Nat), 5 * n + 3 ≤ k →
    (∀ t, st n l = some t → spec_l1Of.f k x l n = some (t, true)) ∧ (st n l = none → ∃ t, spec_l1Of.f k x l n = some (t, false)) := by
  intro n
  induction n with
  | zero =>
    intro _ x l k hk
    obtain ⟨k, rfl⟩ : ∃ m, k = m + 2 := ⟨k - 2, by omega⟩
    refine ⟨fun t h => (by cases h), fun _ => ⟨[], ?_⟩⟩
    simp only [spec_l1Of.f]
    rw [if_pos (by omega)]
    simp only [spec_l1Of.j0, if_true]
  | succ n ih =>
    intro hn x l k hk
    obtain ⟨k, rfl⟩ : ∃ m, k = m + 5 := ⟨k - 5, by omega⟩
    have hp := pred_cast n (by omega)
    simp only [spec_l1Of.f]
    rw [if_neg (by omega)]
    rcases shapeV l with rfl | ⟨a, b, rfl⟩ | ⟨h0, h2⟩
    · rw [if_pos (by simp)]
      refine ⟨fun t h => ?_, fun h => (by cases h)⟩
      cases h
      simp only [spec_l1Of.j0, spec_l1Of.l0]
      rw [if_neg (by simp), if_neg (by simp)]
    · rw [if_neg (by simp), show ((([a, b] : Vl).length : Int) != 2) = false from by simp]
      simp only [spec_l1Of.j0, spec_l1Of.l0, hp, w01, w12]
      rw [if_neg (by simp), if_pos (by simp), if_pos (by omega), rv0, st_two]
      have i1 := ih (by omega) a.f0 a.f1 (k + 2) (by omega)
      cases e1 : st n a.f1 with
      | none =>
        obtain ⟨t, h1⟩ := i1.2 e1
        rw [h1]; simp only [Option.bind_some]
        exact ⟨fun t h => (by cases h), fun _ => ⟨[], by rw [if_neg (by simp)]⟩⟩
      | some s =>
        rw [i1.1 s e1]; simp only [Option.bind_some, if_true]
        rw [if_pos (by simp), if_pos (by simp), if_pos (by omega), rv1]
        have i2 := ih (by omega) b.f0 b.f1 (k + 1) (by omega)
        cases e2 : st n b.f1 with
        | none =>
          obtain ⟨t, h1⟩ := i2.2 e2
          rw [h1]; simp only [Option.bind_some]
          exact ⟨fun t h => (by cases h), fun _ => ⟨_, by rw [if_neg (by simp)]⟩⟩
        | some u =>
          rw [i2.1 u e2]; simp only [Option.bind_some, if_true]
          rw [if_pos (by simp), if_neg (by simp)]
          exact ⟨fun t h => (by cases h; rfl), fun h => (by cases h)⟩
    · rw [if_neg (by omega), show ((l.length : Int) != 2) = true from by simp; omega]
      refine ⟨fun t h => (by rw [st_odd _ _ h0 h2] at h; cases h), fun _ => ⟨[], ?_⟩⟩
      simp only [spec_l1Of.j0, if_true]
theorem any_ok (x : Int) (l : Vl) (k : Nat) (hk : 25 ≤ k) : spec_l1Any.f k x l = some (vt 4 x l).isSome := by
  unfold spec_l1Any.f
  rw [show (4 : Int) = ((4 : Nat) : Int) from rfl]
  have h := of_ev 4 (by omega) x l k (by omega)
  cases e : st 4 l with
  | none =>
    obtain ⟨t, h1⟩ := h.2 e
    rw [h1]; simp only [Option.bind_some]
    rw [if_neg (by simp)]
    cases e2 : vt 4 x l with
    | none => rfl
    | some t => rw [st_vt _ _ _ _ e2] at e; cases e
  | some t =>
    rw [h.1 t e]; simp only [Option.bind_some, if_true]
    rw [specValOk_ev t x l k (by omega)]; simp only [Option.bind_some]
    cases e2 : vt 4 x l with
    | none =>
      cases e3 : vo t x l with
      | false => rfl
      | true => rw [(vo_iff t x l).1 e3] at e2; cases e2
    | some u =>
      have := st_vt _ _ _ _ e2
      rw [e] at this
      cases this
      rw [(vo_iff t x l).2 e2]; rfl
theorem vat_vt (x : Int) (l : Vl) (p : List Int) : ∃ t, vt 4 (vat x l p).1 (vat x l p).2.1 = some t := by
  unfold vat
  cases e : vt 4 x l with
  | none => exact ⟨[], rfl⟩
  | some t =>
    simp only [Option.isSome_some, if_true]
    cases e2 : pv p x l with
    | none => exact ⟨[], rfl⟩
    | some r =>
      obtain ⟨u, _, hu⟩ := (vt_pv 4 p x l t e).1 r.1 r.2 e2
      exact ⟨u, hu⟩
end Go.Proofs.YtihfbpmblppbgaaDoor.Ats
end
section
namespace Go.Proofs.YtihfbpmblppbgaaDoor.PA
open Go.RowKit Go.Proofs.YtihfbpmblppbgaaDoorW.PrintWords Go.Proofs.YtihfbpmblppbgaaDoorW.PrintLast Go.Proofs.YtihfbpmblppbgaaDoorW.PrintMore
attribute [local go_sem] max2_int min2_int max_two min_two max_three min_three max_four min_four
set_option linter.unusedVariables false
set_option linter.unusedSimpArgs false
def spec_DrawValText.f (k : Nat) (l0 : List Int) : Option (Int × (List (S25))) := (spec_l6Open.f l0).bind fun bt167 => ((spec_l6Rd_pick.f k bt167.1 bt167.2 4).bind fun bt170 => ((spec_l71Type.f k bt167.1 bt170.2 (wrap64 (1 + bt170.1))).bind fun bt172 => ((spec_l71Bad.f k bt167.1 bt172.2 bt172.1).bind fun bt176 => (some (bt176.1, bt176.2.1)))))
theorem spec_DrawValText.mono : ∀ a0 k, LeO (spec_DrawValText.f k a0) (spec_DrawValText.f (k + 1) a0) := by
 intro a0 k
 unfold spec_DrawValText.f
 repeat' first
   | (with_reducible exact spec_l6Rd_pick.mono _ _ _ _)
   | (with_reducible exact spec_l71Bad.mono _ _ _ _)
   | (with_reducible exact spec_l71Type.mono _ _ _ _)
   | (with_reducible exact LeO.refl _)
   | (with_reducible exact LeO.none _)
   | (with_reducible refine LeO.ite ?_ ?_)
   | (with_reducible refine LeO.bind ?_ (fun _ => ?_))
   | exact spec_l6Rd_pick.mono _ _ _ _
   | exact spec_l71Bad.mono _ _ _ _
   | exact spec_l71Type.mono _ _ _ _
   | exact LeO.none _
   | refine LeO.ite ?_ ?_
   | refine LeO.bind ?_ (fun _ => ?_)
set_option maxHeartbeats 8000000 in
set_option maxRecDepth 100000 in
theorem spec_DrawValText.calls (k : Nat) (A0 : Option Addr) (c0 : Nat) (l0 : List Int) (r1 : Int) (r2 : List (S25)) (w : World) (hr0 : Kd.C (Kd.int .u8) w A0 l0.length l0) (hc0 : l0.length ≤ c0) (h : spec_DrawValText.f k l0 = some (r1, r2)) :
  Calls Tryd.prog 6 #[.slice A0 l0.length c0] w fun e w' => ∃ v1_ : Value, e = .returned (.agg #[.int .i64 r1, v1_]) ∧ Kd.N k25 25 w' w.heap.size (fun k_ => (w.heap.size ≤ k_)) v1_ r2 ∧ Below w.heap.size w w' := by
 have hu25 := Tryd.underlying25
 have HR0 := Aside0.mk hr0
 have HC0 := Aside0.mk hc0
 clear hr0 hc0
 have HB := Aside0.mk (Below.refl w.heap.size w)
 have H : ((spec_l6Open.f l0).bind fun bt167 => ((spec_l6Rd_pick.f k bt167.1 bt167.2 4).bind fun bt170 => ((spec_l71Type.f k bt167.1 bt170.2 (wrap64 (1 + bt170.1))).bind fun bt172 => ((spec_l71Bad.f k bt167.1 bt172.2 bt172.1).bind fun bt176 => (some (bt176.1, bt176.2.1)))))) = some (r1, r2) := h
 clear h
 obtain ⟨⟨t167, t168⟩, A20, H⟩ := ob H
 have A2 := Aside0.mk A20
 clear A20
 obtain ⟨⟨t170, t171⟩, A30, H⟩ := ob H
 have A3 := Aside0.mk A30
 clear A30
 obtain ⟨⟨t172, t175⟩, A40, H⟩ := ob H
 have A4 := Aside0.mk A40
 clear A40
 obtain ⟨⟨t176, t177, t180⟩, A50, H⟩ := ob H
 have A5 := Aside0.mk A50
 clear A50
 simp only [Option.some.injEq, Prod.mk.injEq] at H
 obtain ⟨rfl, rfl⟩ := H
 go_enter Tryd.func6, Tryd.ntmps6
 go_wp2_with (first | ((with_reducible refine gate_dst (N := 2) rfl ?_); refine zbx 2 #[.int .i64 0, .slice none 0 0] 25 ?_; intro gb166 hg w6 hbox hb; have BK166 := Aside0.mk hbox; have GW166 := Aside0.mk ((y5 hg HB.out : w.heap.size ≤ gb166)); have GE166 := Aside0.mk ((y5 hg HB.out : w.heap.size ≤ gb166)); replace HB := Aside0.mk (below_step (y2 HB.out) hb); clear hb hbox hg) | ((with_reducible refine gate_callee (f := 12) rfl ?_); refine goesL_ (some 5) rfl rfl Tryd.func12 (by kernel_rfl) rfl #[.slice A0 l0.length c0] rfl y4 ?_; (with_reducible refine (spec_l6Open.calls _ _ l0 t167 t168 w _ ?side1 ?side2 ?side3 A2.out).mono ?_); (case side1 => exact y0 HB.out GE166.out); (case side2 => exact HR0.out); (case side3 => exact HC0.out); rintro e w7 ⟨g169, rfl, hi, hb, hb2⟩; refine ⟨_, rfl, ?_⟩; replace HB := Aside0.mk (hb); have HI169 := Aside0.mk (hi); have NB169_166 := Aside0.mk (IsS51.ne_blk hi (blk_below (g := gb166) (o := .cells #[.int .i64 0, .slice none 0 0] 25 (0, 0)) (y1 BK166.out) hb2) (by decide)); have NB166_169 := Aside0.mk (Ne.symm (IsS51.ne_blk hi (blk_below (g := gb166) (o := .cells #[.int .i64 0, .slice none 0 0] 25 (0, 0)) (y1 BK166.out) hb2) (by decide))); replace BK166 := Aside0.mk (blk_below (g := gb166) (o := .cells #[.int .i64 0, .slice none 0 0] 25 (0, 0)) (y1 BK166.out) hb2); (try clear hb); (try clear hb2); (try clear hk); (try clear hi)) | ((with_reducible refine gate_callee (f := 15) rfl ?_); refine goesL_ (some 9) rfl rfl Tryd.func15 (by kernel_rfl) rfl #[.pointer (some ⟨g169, 0, none⟩), .int .i64 4] rfl y4 ?_; (with_reducible refine (spec_l6Rd_pick.calls k g169 t167 t168 4 t170 t171 w _ ?side1 ?side2 A3.out).mono ?_); (case side1 => exact y17 HI169.out NB169_166.out); (case side2 => exact y14 HB.out HI169.out GE166.out); rintro e w8 ⟨rfl, hi, hb, hk⟩; refine ⟨_, rfl, ?_⟩; replace BK166 := Aside0.mk (KeepBut.blk hk (g' := gb166) (o := .cells #[.int .i64 0, .slice none 0 0] 25 (0, 0)) (y1 BK166.out) NB166_169.out (by simp)); replace HB := Aside0.mk (hb); replace HI169 := Aside0.mk (hi); (try clear hb); (try clear hb2); (try clear hk); (try clear hi)) | ((with_reducible refine gate_callee (f := 14) rfl ?_); refine goesL_ (some 11) rfl rfl Tryd.func14 (by kernel_rfl) rfl #[.pointer (some ⟨g169, 0, none⟩), .int .i64 (wrap64 (1 + t170))] rfl y4 ?_; (with_reducible refine (spec_l71Type.calls k g169 t167 t171 (wrap64 (1 + t170)) t172 t175 w _ ?side1 ?side2 A4.out).mono ?_); (case side1 => exact y17 HI169.out NB169_166.out); (case side2 => exact y14 HB.out HI169.out GE166.out); rintro e w9 ⟨v173, rfl, ho0, hi, hb, hk⟩; refine ⟨_, rfl, ?_⟩; have HO174 := Aside0.mk (Kd.N_lower (Kd.N_mono (ok' := fun k_ => (w.heap.size ≤ k_) ∧ k_ ≠ gb166 ∧ k_ ≠ g169) ho0 (fun k_ hk_ => ⟨(Nat.le_trans (below_size (y14 HB.out HI169.out GE166.out)) hk_), (Kd.freshB (g := gb166) (o := .cells #[.int .i64 0, .slice none 0 0] 25 (0, 0)) (y1 BK166.out) k_ hk_), (IsS51.fresh (y17 HI169.out NB169_166.out) k_ hk_)⟩)) (below_size (y14 HB.out HI169.out GE166.out))); replace BK166 := Aside0.mk (KeepBut.blk hk (g' := gb166) (o := .cells #[.int .i64 0, .slice none 0 0] 25 (0, 0)) (y1 BK166.out) NB166_169.out (by simp)); replace HB := Aside0.mk (hb); replace HI169 := Aside0.mk (hi); (try clear hb); (try clear hb2); (try clear hk); (try clear hi); (try clear ho0); obtain ⟨Ao10, co10, eo10⟩ := Kd.N_slice HO174.out; subst eo10) | ((with_reducible refine gate_callee (f := 13) rfl ?_); refine goesL_ (some 12) rfl rfl Tryd.func13 (by kernel_rfl) rfl #[.pointer (some ⟨g169, 0, none⟩), .agg #[.slice Ao10 t172.length co10]] rfl y4 ?_; (with_reducible refine (spec_l71Bad.calls k g169 t167 t175 (fun k_ => ((w.heap.size ≤ k_) ∧ (k_ ≠ gb166 ∧ k_ ≠ g169))) _ _ t172 t176 t177 t180 w _ ?side1 ?side2 ?side3 A5.out).mono ?_); (case side1 => exact y17 HI169.out NB169_166.out); (case side2 => exact y14 HB.out HI169.out GE166.out); (case side3 => exact Kd.V_mono (Kd.N_V (HO174.out)) (fun k_ hk_ => ⟨hk_, hk_.2.2⟩)); rintro e w11 ⟨v178, rfl, ho0, hi, hb, hk⟩; refine ⟨_, rfl, ?_⟩; replace HO174 := Aside0.mk (Kd.N_mono (Kd.N_told (Kd.N_oldK (Kd.N_mono (ok := fun k_ => (((w.heap.size ≤ k_)) ∧ (k_ ≠ gb166 ∧ k_ ≠ g169))) (y12 HO174.out) (fun k_ hk_ => (⟨hk_, hk_.2.2⟩ : _ ∧ k_ ≠ g169))) hk) (Kd.N_base ho0)) (fun _ h_ => h_.1)); have HO179 := Aside0.mk (Kd.N_lower (Kd.N_mono (ok' := fun k_ => (w.heap.size ≤ k_) ∧ k_ ≠ gb166 ∧ k_ ≠ g169) ho0 (fun k_ hk_ => ⟨Or.elim hk_ (fun hs_ => hs_.1) (fun hn_ => (Nat.le_trans (below_size (y14 HB.out HI169.out GE166.out)) hn_)), Or.elim hk_ (fun hs_ => hs_.2.1) (fun hn_ => (Kd.freshB (g := gb166) (o := .cells #[.int .i64 0, .slice none 0 0] 25 (0, 0)) (y1 BK166.out) k_ hn_)), Or.elim hk_ (fun hs_ => hs_.2.2) (fun hn_ => (IsS51.fresh (y17 HI169.out NB169_166.out) k_ hn_))⟩)) (below_size (y14 HB.out HI169.out GE166.out))); replace BK166 := Aside0.mk (KeepBut.blk hk (g' := gb166) (o := .cells #[.int .i64 0, .slice none 0 0] 25 (0, 0)) (y1 BK166.out) NB166_169.out (by simp)); replace HB := Aside0.mk (hb); replace HI169 := Aside0.mk (hi); (try clear hb); (try clear hb2); (try clear hk); (try clear hi); (try clear ho0); have hnb12 := NB166_169.out; have hnc12 := NB169_166.out; have hcz13_0 := zh BK166; have hcz13_1 := zh1 BK166; have hfz13_0 := zfr BK166 0; have hfz13_1 := zfr BK166 1; obtain ⟨Ao14, co14, eo14⟩ := Kd.N_slice HO179.out; subst eo14))
 refine bodyPost_ret (results_cell_row rfl _ _ gb166 25 #[.int .i64 t176, .slice Ao14 t177.length co14] (0, 0) _ rfl (by (with_reducible repeat (first | refine blk_drewN ?_ _ | refine blk_drew ?_ | refine blk_alloc ?_ _)); refine blk_put (cs := #[.int .i64 t176, .slice none 0 0]) ?_ 1 _ rfl; (with_reducible repeat (first | refine blk_drewN ?_ _ | refine blk_drew ?_ | refine blk_alloc ?_ _)); apply blk_put (i := 0); (case h => exact y1 BK166.out); (case e => rfl)) Tryd.underlying25 rfl (by kernel_rfl)) rfl ?_
 exact ⟨_, y7, (by (with_reducible repeat (first | apply Kd.N_alloc | apply Kd.N_drewN | apply Kd.N_drew)); exact Kd.N_mono (Kd.N_far (p := ⟨gb166, 1, none⟩) (Kd.N_far (p := ⟨gb166, 0, none⟩) (Kd.N_mono HO179.out (fun k_ hk => (⟨hk, hk.2.1⟩ : _ ∧ k_ ≠ gb166))) (fun _ hk => hk.2) (.int .i64 t176)) (fun _ hk => hk.2) (.slice Ao14 t177.length co14)) (fun _ hk => hk.1.1)), (y14 HB.out HI169.out GE166.out)⟩
end Go.Proofs.YtihfbpmblppbgaaDoor.PA
end
section
set_option linter.unusedVariables false
set_option linter.unusedSimpArgs false
namespace Go.Proofs.YtihfbpmblppbgaaDoor.Texts
open Go.RowKit Go.Proofs.YtihfbpmblppbgaaDoor.PA Go.Proofs.YtihfbpmblppbgaaDoorW.PrintWords Go.Proofs.YtihfbpmblppbgaaDoorW.PrintLast Go.Proofs.YtihfbpmblppbgaaDoor.Draw Go.Proofs.YtihfbpmblppbgaaDoor.Types Go.Proofs.YtihfbpmblppbgaaDoor.Paths Go.Proofs.YtihfbpmblppbgaaDoor.Vals Go.Proofs.YtihfbpmblppbgaaDoor.Ats
def dg (x : Int) : ByteArray := ⟨(Lib.itoa x).toArray⟩
theorem dg_nat (n : Nat) : dg n = ⟨(Lib.decDigits n).toArray⟩ := by
  unfold dg Lib.itoa
  rw [if_neg (by omega), show ((n : Int)).toNat = n by omega]
theorem dg_one (n : Nat) (h : n < 10) : dg n = ⟨#[UInt8.ofNat (48 + n)]⟩ := by
  rw [dg_nat, Lib.decDigits, dif_pos h]
theorem dg_more (n : Nat) (h : ¬ n < 10) : dg n = dg ((n / 10 : Nat) : Int) ++ ⟨#[UInt8.ofNat (48 + n % 10)]⟩ := by
  rw [dg_nat, dg_nat, Lib.decDigits, dif_neg h]
  apply ByteArray.ext
  rw [ByteArray.data_append]
  simp
theorem dg_size : ∀ (m n : Nat), n < 10 ^ (m + 1) → (dg n).size ≤ m + 1 ∧ 1 ≤ (dg n).size := by
  intro m
  induction m with
  | zero => intro n h; rw [dg_one n (by omega)]; exact ⟨Nat.le_refl _, Nat.le_refl _⟩
  | succ m ih =>
    intro n h
    by_cases c : n < 10
    · rw [dg_one n c]; exact ⟨by show 1 ≤ m + 1 + 1; omega, Nat.le_refl _⟩
    · rw [dg_more n c, ByteArray.size_append]
      have hp : 10 ^ (m + 1 + 1) = 10 * 10 ^ (m + 1) := by rw [Nat.pow_succ]; omega
      have := ih (n / 10) (by rw [hp] at h; omega)
      have e : (⟨#[UInt8.ofNat (48 + n % 10)]⟩ : ByteArray).size = 1 := rfl
      omega
theorem nums_one (n : Nat) (h : n < 10) : strOfNums [wrap64 (48 + (n : Int)) % 256] = ⟨#[UInt8.ofNat (48 + n)]⟩ := by
  rw [w64 (by omega) (by omega), show (48 + (n : Int)) % 256 = ((48 + n : Nat) : Int) by omega]
  simp only [strOfNums, List.map_cons, List.map_nil, Int.toNat_natCast]
theorem dec_ev : ∀ (m n k : Nat), n < 10 ^ (m + 1) → m ≤ 10 → m + 1 ≤ k → spec_l6Dec.f k n = some (dg n) := by
  intro m
  induction m with
  | zero =>
    intro n k h hm hk
    obtain ⟨k, rfl⟩ : ∃ m, k = m + 1 := ⟨k - 1, by omega⟩
    simp only [spec_l6Dec.f]
    rw [if_neg (by omega), if_neg (by omega), if_pos (by omega), nums_one n (by omega), dg_one n (by omega)]
  | succ m ih =>
    intro n k h hm hk
    obtain ⟨k, rfl⟩ : ∃ m, k = m + 1 := ⟨k - 1, by omega⟩
    simp only [spec_l6Dec.f]
    rw [if_neg (by omega), if_neg (by omega)]
    by_cases c : n < 10
    · rw [if_pos (by omega), nums_one n c, dg_one n c]
    · have hp : 10 ^ (m + 1 + 1) = 10 * 10 ^ (m + 1) := by rw [Nat.pow_succ]; omega
      have hb : 10 ^ (m + 1 + 1) ≤ 10 ^ 12 := Nat.pow_le_pow_right (by omega) (by omega)
      have e1 : Int.tdiv (n : Int) 10 = ((n / 10 : Nat) : Int) := by rw [Int.tdiv_eq_ediv_of_nonneg (by omega)]; omega
      have e2 : Int.tmod (n : Int) 10 = ((n % 10 : Nat) : Int) := by rw [Int.tmod_eq_emod_of_nonneg (by omega)]; omega
      have hs := dg_size m (n / 10) (by rw [hp] at h; omega)
      rw [if_neg (by omega), e1, e2, w64 (x := ((n / 10 : Nat) : Int)) (by omega) (by omega), ih (n / 10) k (by rw [hp] at h; omega) (by omega) (by omega)]
      simp only [Option.bind_some]
      rw [nums_one (n % 10) (by omega), if_pos (by have e : (⟨#[UInt8.ofNat (48 + n % 10)]⟩ : ByteArray).size = 1 := rfl
                                                   rw [e]; omega), dg_more n c]
def vx : Nat → Int → Vl → ByteArray
  | n + 1, _, [a, b] => ((((⟨#[40]⟩ : ByteArray) ++ vx n a.f0 a.f1) ++ (⟨#[44]⟩ : ByteArray)) ++ vx n b.f0 b.f1) ++ (⟨#[41]⟩ : ByteArray)
  | _, x, _ => dg x
theorem vx_two (n : Nat) (x : Int) (a b : S25) : vx (n + 1) x [a, b] = ((((⟨#[40]⟩ : ByteArray) ++ vx n a.f0 a.f1) ++ (⟨#[44]⟩ : ByteArray)) ++ vx n b.f0 b.f1) ++ (⟨#[41]⟩ : ByteArray) := rfl
theorem vx_nil (n : Nat) (x : Int) : vx n x [] = dg x := by cases n <;> rfl
theorem num_size (x : Int) (h0 : 0 ≤ x) (h1 : x ≤ 9999) : (dg x).size ≤ 4 ∧ 1 ≤ (dg x).size := by
  obtain ⟨n, rfl⟩ := Int.eq_ofNat_of_zero_le h0
  exact dg_size 3 n (by omega)
theorem vx_size : ∀ (n : Nat) (x : Int) (l : Vl) (t : Ty), vt n x l = some t → (vx n x l).size + 3 ≤ 8 * 2 ^ n ∧ 1 ≤ (vx n x l).size := by
  intro n
  induction n with
  | zero => intro x l t h; cases h
  | succ n ih =>
    intro x l t h
    have hp : 2 ^ (n + 1) = 2 * 2 ^ n := by rw [Nat.pow_succ]; omega
    have h1p : 1 ≤ 2 ^ n := Nat.one_le_two_pow
    rcases vt_cases h with ⟨rfl, rfl, h0, h1⟩ | ⟨a, b, s, u, rfl, rfl, rfl, h1, h2⟩
    · rw [vx_nil]
      have := num_size x h0 h1
      omega
    · have g1 := ih _ _ _ h1
      have g2 := ih _ _ _ h2
      rw [vx_two]
      simp only [ByteArray.size_append]
      have e1 : (⟨#[40]⟩ : ByteArray).size = 1 := rfl
      have e2 : (⟨#[44]⟩ : ByteArray).size = 1 := rfl
      have e3 : (⟨#[41]⟩ : ByteArray).size = 1 := rfl
      rw [e1, e2, e3]
      omega
theorem vx_succ : ∀ (n : Nat) (x : Int) (l : Vl) (t : Ty), vt n x l = some t → vx (n + 1) x l = vx n x l := by
  intro n
  induction n with
  | zero => intro x l t h; cases h
  | succ n ih =>
    intro x l t h
    rcases vt_cases h with ⟨rfl, rfl, h0, h1⟩ | ⟨a, b, s, u, rfl, rfl, rfl, h1, h2⟩
    · rw [vx_nil, vx_nil]
    · rw [vx_two, vx_two, ih _ _ _ h1, ih _ _ _ h2]
theorem words_ev : ∀ (n : Nat), n ≤ 20 → ∀ (x : Int) (l : Vl) (t : Ty) (k : Nat), vt n x l = some t → n + 1 ≤ k → impl_valWords.f k x l = some (vx n x l) := by
  intro n
  induction n with
  | zero => intro _ x l t k h; cases h
  | succ n ih =>
    intro hn x l t k h hk
    obtain ⟨k, rfl⟩ : ∃ m, k = m + 1 := ⟨k - 1, by omega⟩
    simp only [impl_valWords.f]
    have h' := h
    rcases vt_cases h with ⟨rfl, rfl, h0, h1⟩ | ⟨a, b, s, u, rfl, rfl, rfl, h1, h2⟩
    · rw [if_pos (by simp)]
      unfold strconv_Itoa_25.f
      rw [if_pos ⟨by omega, by omega⟩, vx_nil]; rfl
    · have hb : (2 : Nat) ^ n ≤ 2 ^ 20 := Nat.pow_le_pow_right (by omega) (by omega)
      have g1 := vx_size _ _ _ _ h1
      have g2 := vx_size _ _ _ _ h2
      rw [if_neg (by simp), if_pos (by simp), rv0, ih (by omega) _ _ _ _ h1 (by omega)]; simp only [Option.bind_some]
      rw [if_pos (by omega), if_pos (by omega), if_pos (by simp), rv1, ih (by omega) _ _ _ _ h2 (by omega)]; simp only [Option.bind_some]
      rw [if_pos (by omega), if_pos (by omega), vx_two]
theorem show_ev : ∀ (n : Nat), n ≤ 20 → ∀ (x : Int) (l : Vl) (t : Ty) (k : Nat), vt n x l = some t → n + 6 ≤ k → spec_l1Show.f k x l = some (vx n x l) := by
  intro n
  induction n with
  | zero => intro _ x l t k h; cases h
  | succ n ih =>
    intro hn x l t k h hk
    obtain ⟨k, rfl⟩ : ∃ m, k = m + 1 := ⟨k - 1, by omega⟩
    simp only [spec_l1Show.f]
    rcases vt_cases h with ⟨rfl, rfl, h0, h1⟩ | ⟨a, b, s, u, rfl, rfl, rfl, h1, h2⟩
    · rw [if_pos (by simp)]
      obtain ⟨m, rfl⟩ := Int.eq_ofNat_of_zero_le h0
      rw [dec_ev 3 m k (by omega) (by omega) (by omega), vx_nil]; rfl
    · have hb : (2 : Nat) ^ n ≤ 2 ^ 20 := Nat.pow_le_pow_right (by omega) (by omega)
      have g1 := vx_size _ _ _ _ h1
      have g2 := vx_size _ _ _ _ h2
      rw [if_neg (by simp), if_pos (by simp), rv0, ih (by omega) _ _ _ _ h1 (by omega)]; simp only [Option.bind_some]
      rw [if_pos (by omega), if_pos (by omega), if_pos (by simp), rv1, ih (by omega) _ _ _ _ h2 (by omega)]; simp only [Option.bind_some]
      rw [if_pos (by omega), if_pos (by omega), vx_two]
def vtext (x : Int) (l : Vl) : ByteArray := if (vt 4 x l).isSome = true then vx 4 x l else ⟨#[]⟩
theorem implText_ev (x : Int) (l : Vl) (k : Nat) (hk : 20 ≤ k) : impl_ValText.f k x l = some (vtext x l) := by
  unfold impl_ValText.f vtext
  rw [typed_ev x l k (by omega)]; simp only [Option.bind_some]
  cases e : vt 4 x l with
  | none => rfl
  | some t =>
    simp only [at_, if_true, Option.isSome_some]
    rw [words_ev 4 (by omega) x l t k e (by omega)]; rfl
theorem specText_ev (x : Int) (l : Vl) (k : Nat) (hk : 40 ≤ k) : spec_ValText.f k x l = some (vtext x l) := by
  unfold spec_ValText.f vtext
  rw [any_ok x l k (by omega)]; simp only [Option.bind_some]
  cases e : vt 4 x l with
  | none => rfl
  | some t =>
    simp only [if_true, Option.isSome_some]
    rw [show_ev 4 (by omega) x l t k e (by omega)]; rfl
theorem vtext_some {x : Int} {l : Vl} {t : Ty} (h : vt 4 x l = some t) : vtext x l = vx 4 x l := by
  unfold vtext; rw [h]; rfl
theorem vtext_none {x : Int} {l : Vl} (h : vt 4 x l = none) : vtext x l = ⟨#[]⟩ := by
  unfold vtext; rw [h]; rfl
theorem nil_list : (⟨#[]⟩ : ByteArray).toList = [] := by rw [ByteArray.toList_eq]
theorem vtext_empty (x : Int) (l : Vl) : ((vtext x l).toList = [] ↔ vt 4 x l = none) := by
  constructor
  · intro h
    cases e : vt 4 x l with
    | none => rfl
    | some t =>
      rw [vtext_some e] at h
      have := (vx_size 4 x l t e).2
      rw [ByteArray.toList_eq] at h
      have h2 : (vx 4 x l).size = 0 := by
        show (vx 4 x l).data.size = 0
        rw [← Array.length_toList, h]; rfl
      omega
  · intro h; rw [vtext_none h]; exact nil_list
theorem drawText_ev (l : List Int) (h : ∀ x ∈ l, (Lit.int .u8 x).wf = true) : ∃ x v, ∀ k, 60 ≤ k → spec_DrawValText.f k l = some (x, v) := by
  obtain ⟨s, ho, hs⟩ := open_ev l h
  obtain ⟨c, hc, c0, c1⟩ := pick_ev s hs 0 4 (by omega) (by omega) (by omega)
  obtain ⟨cn, rfl⟩ := Int.eq_ofNat_of_zero_le c0
  have ew : wrap64 (1 + (cn : Int)) = ((1 + cn : Nat) : Int) := by rw [w64 (by omega) (by omega)]; omega
  obtain ⟨t, q1, ht, g1, g2, d1⟩ := typeN_ev s hs (1 + cn) (by omega) (0 + 1) (by omega) (by omega)
  obtain ⟨x, v, q2, hx, g3, g4⟩ := bad_ev s hs (1 + cn + 1) (by omega) t d1 q1 (by omega) (by omega)
  refine ⟨x, v, fun k hk => ?_⟩
  unfold spec_DrawValText.f
  rw [ho]; simp only [Option.bind_some]
  rw [hc k (by omega)]; simp only [Option.bind_some]
  rw [ew, ht k (by omega)]; simp only [Option.bind_some]
  rw [hx k (by omega)]; rfl
end Go.Proofs.YtihfbpmblppbgaaDoor.Texts
end
section
namespace Go.Proofs.YtihfbpmblppbgaaDoor.Open
open Go.ChangeShapes Go.WideShapes Go.ChangeAt Go.RowKit Go.Deep Go.Proofs.YtihfbpmblppbgaaDoor.PA Go.Proofs.YtihfbpmblppbgaaDoorW.PrintWords Go.Proofs.YtihfbpmblppbgaaDoorW.PrintLast
section
variable {H : Type} {enc : TypeId × Value → H} {P : Program} {w : World} {base : Nat} {spare : Nat → Bool} {held : Bool}
theorem struct1n {t : TypeId} {f0 : Field} {fuel : Nat} {cs : List Value} {x : DataW H × List MemPlace} (ht : P.underlying t = some (.struct #[f0])) (h : DataW.trod enc P w base spare held fuel t cs = some x) :
    ∃ y0 n, fuel = n + 1 ∧ cs.length = P.cellsOf t ∧ DataW.trod enc P w base spare held n f0.type ((cs.drop f0.offset).take (P.cellsOf f0.type)) = some y0 := by
  obtain ⟨xs, n, hfu, _, hl, hlen, hf⟩ := DataW.trod_struct ht h
  match xs, hlen with
  | [y0], _ => exact ⟨y0, n, hfu, hl, by simpa using hf 0 f0 rfl⟩
end
end Go.Proofs.YtihfbpmblppbgaaDoor.Open
end
section
set_option linter.unusedVariables false
namespace Go.Proofs.YtihfbpmblppbgaaDoor.ExT
open Go.RowKit Go.Proofs.YtihfbpmblppbgaaDoor.PA Go.Proofs.YtihfbpmblppbgaaDoorW.PrintWords Go.Proofs.YtihfbpmblppbgaaDoorW.PrintLast Go.Proofs.YtihfbpmblppbgaaDoor.Draw Go.Proofs.YtihfbpmblppbgaaDoor.Types Go.Proofs.YtihfbpmblppbgaaDoor.Open
theorem rdI_mid (pre r : Ty) (x : S41) : rd_T41 (pre ++ x :: r) (pre.length : Int) = x := by
  unfold rd_T41
  rw [Int.toNat_natCast, List.getD_eq_getElem?_getD, List.getElem?_append_right (Nat.le_refl _)]
  simp
def left (a : Nat) (n : Nat) : Int := if n ≤ a then ((a - n : Nat) : Int) else -1
theorem left_neg (a n : Nat) : left a n < 0 ↔ a < n := by unfold left; split <;> omega
theorem left_ok (a n : Nat) (h : n ≤ a) : left a n = ((a - n : Nat) : Int) := by unfold left; rw [if_pos h]
theorem left_bad (a n : Nat) (h : a < n) : left a n = -1 := by unfold left; rw [if_neg (by omega)]
end Go.Proofs.YtihfbpmblppbgaaDoor.ExT
end
section
namespace Go.Proofs.YtihfbpmblppbgaaDoor.OpenV
open Go.ChangeShapes Go.WideShapes Go.ChangeAt Go.RowKit Go.Deep Go.Proofs.YtihfbpmblppbgaaDoor.PA Go.Proofs.YtihfbpmblppbgaaDoorW.PrintWords Go.Proofs.YtihfbpmblppbgaaDoorW.PrintLast
section
variable {H : Type} {enc : TypeId × Value → H} {P : Program} {w : World} {base : Nat} {spare : Nat → Bool} {held : Bool}
theorem struct2n {t : TypeId} {f0 f1 : Field} {fuel : Nat} {cs : List Value} {x : DataW H × List MemPlace} (ht : P.underlying t = some (.struct #[f0, f1])) (h : DataW.trod enc P w base spare held fuel t cs = some x) :
    ∃ y0 y1 n, fuel = n + 1 ∧ cs.length = P.cellsOf t ∧ DataW.trod enc P w base spare held n f0.type ((cs.drop f0.offset).take (P.cellsOf f0.type)) = some y0 ∧ DataW.trod enc P w base spare held n f1.type ((cs.drop f1.offset).take (P.cellsOf f1.type)) = some y1 := by
  obtain ⟨xs, n, hfu, _, hl, hlen, hf⟩ := DataW.trod_struct ht h
  match xs, hlen with
  | [y0, y1], _ => exact ⟨y0, y1, n, hfu, hl, by simpa using hf 0 f0 rfl, by simpa using hf 1 f1 rfl⟩
end
theorem two_of {α : Type} {l : List α} (h : l.length = 2) : ∃ a b, l = [a, b] := by
  match l, h with
  | [a, b], _ => exact ⟨a, b, rfl⟩
inductive BdV : List S31 → Prop
  | mk {l : List S31} : l.length ≤ 9223372036854775807 → (∀ x ∈ l, (Lit.int .i64 x.f0).wf = true) → (∀ x ∈ l, BdV x.f1) → BdV l
theorem openV {H : Type} {enc : TypeId × Value → H} {W : World} : ∀ (m : Nat) (cs : List Value) (x : DataW H × List MemPlace),
    DataW.trod enc Tryd.prog W 0 (fun _ => true) true m 31 cs = some x → ∃ y : S31, (Kd.upto F31 2 [31] m).K W y cs ∧ (Lit.int .i64 y.f0).wf = true ∧ BdV y.f1 := by
  intro m
  induction m using Nat.strongRecOn with
  | _ m ih =>
    intro cs x h
    obtain ⟨y0, y1, n, rfl, hl, hf0, hf⟩ := struct2n Tryd.underlying31 h
    have hc : Tryd.prog.cellsOf 31 = 2 := by kernel_rfl
    have hci : Tryd.prog.cellsOf 3 = 1 := by kernel_rfl
    have hcs : Tryd.prog.cellsOf 29 = 1 := by kernel_rfl
    rw [hc] at hl
    obtain ⟨u, v, rfl⟩ := two_of hl
    have h0 : DataW.trod enc Tryd.prog W 0 (fun _ => true) true n 3 (([u, v].drop 0).take (Tryd.prog.cellsOf 3)) = some y0 := hf0
    have h1 : DataW.trod enc Tryd.prog W 0 (fun _ => true) true n 29 (([u, v].drop 1).take (Tryd.prog.cellsOf 29)) = some y1 := hf
    rw [hci] at h0
    rw [hcs] at h1
    simp only [List.drop_zero, List.drop_succ_cons, List.take_succ_cons, List.take_zero] at h0 h1
    obtain ⟨i, hi, _, hwi⟩ := DataW.trod_int Tryd.underlying3 h0
    simp only [List.cons.injEq, and_true] at hi
    subst hi
    rcases DataW.trod_slice Tryd.underlying29 h1 with ⟨hv, _⟩ | ⟨a, len, cap, elems, rest, n', rfl, hv, _, _, hlc, hcm, hel, hE, _, _⟩
    · refine ⟨⟨i, []⟩, ⟨_, _, rfl, rfl, none, 0, by simpa using hv, Nat.le_refl 0, ⟨rfl, by simp, fun h => absurd h (by simp)⟩⟩, hwi, .mk (by simp) (fun x hx => by cases hx) (fun x hx => by cases hx)⟩
    · rw [hc] at hE
      have key : ∀ i, i < len → ∃ y : S31, ∃ c, W.cells? 0 (a.add (i * 2)) 2 = some c ∧ (Kd.upto F31 2 [31] n').K W y c ∧ (Lit.int .i64 y.f0).wf = true ∧ BdV y.f1 := by
        intro i hi
        have e := hE i hi
        rw [List.getElem?_eq_getElem (by rw [hel]; exact hi)] at e
        obtain ⟨c, h1, h2⟩ := Option.bind_eq_some_iff.1 e
        obtain ⟨y, hy, hw, hb⟩ := ih n' (by omega) c _ h2
        exact ⟨y, c, h1, hy, hw, hb⟩
      have : Inhabited S31 := ⟨⟨0, []⟩⟩
      obtain ⟨f, hff⟩ := choose_lt key
      have hm : maxLen = 9223372036854775807 := by decide
      refine ⟨⟨i, (List.range len).map f⟩, ⟨_, _, rfl, rfl, some a, cap, ?_, ?_, ⟨?_, ?_, fun _ => ⟨a, rfl, fun j p hj => ?_⟩⟩⟩, hwi, .mk ?_ ?_ ?_⟩
      · simpa using hv
      · simpa using hlc
      · simp
      · simp; omega
      · simp only [List.getElem?_map] at hj
        rcases Nat.lt_or_ge j len with hj' | hj'
        · rw [List.getElem?_range hj'] at hj
          simp at hj
          subst hj
          obtain ⟨c, h1, h2, _⟩ := hff j hj'
          obtain ⟨_, hcl, hcc⟩ := World.cells?_some h1
          refine ⟨c, ?_, Kd.upto_K_le mono31 sz31 (Nat.le_succ n') h2, fun i u hu => ?_⟩
          · rw [hcl, sz31]
          · have hi : i < 2 := by
              rw [← hcl]
              exact (List.getElem?_eq_some_iff.1 hu).1
            have := hcc i hi
            rw [hu, Go.Deep.add_add] at this
            rwa [sz31]
        · rw [List.getElem?_eq_none (by simpa using hj')] at hj
          cases hj
      · simp; omega
      · intro x hx
        obtain ⟨j, hj, rfl⟩ := List.mem_map.1 hx
        obtain ⟨c, _, _, h3, _⟩ := hff j (List.mem_range.1 hj)
        exact h3
      · intro x hx
        obtain ⟨j, hj, rfl⟩ := List.mem_map.1 hx
        obtain ⟨c, _, _, _, h3⟩ := hff j (List.mem_range.1 hj)
        exact h3
theorem argV {H : Type} {enc : TypeId × Value → H} {W : World} {cs : Array Value} {d : DataW H} {ps : List MemPlace} (h : DataW.Trod enc Tryd.prog W 0 (fun _ => true) true 31 (.agg cs) d ps) :
    ∃ (n : Int) (a : Option Addr) (c : Nat) (l : List S31), cs = #[.int .i64 n, .slice a l.length c] ∧ Kd.C k31 W a l.length l ∧ l.length ≤ c ∧ ((Lit.int .i64 n).wf = true ∧ BdV l) := by
  obtain ⟨m, hm⟩ := h
  obtain ⟨y, hK, hw, hB⟩ := openV m _ _ hm
  cases m with
  | zero => exact hK.elim
  | succ n =>
    obtain ⟨_, _, e, rfl, A, c, rfl, l0, g0⟩ := hK
    refine ⟨y.f0, A, c, y.f1, ?_, Kd.fix_C g0, l0, hw, hB⟩
    have e' : cs.toList = [.int .i64 y.f0, .slice A y.f1.length c] := e
    exact Array.toList_inj.1 e'
end Go.Proofs.YtihfbpmblppbgaaDoor.OpenV
end
section
set_option linter.unusedVariables false
namespace Go.Proofs.YtihfbpmblppbgaaDoor.ExV
open Go.RowKit Go.Proofs.YtihfbpmblppbgaaDoor.PA Go.Proofs.YtihfbpmblppbgaaDoorW.PrintWords Go.Proofs.YtihfbpmblppbgaaDoorW.PrintLast Go.Proofs.YtihfbpmblppbgaaDoor.Draw Go.Proofs.YtihfbpmblppbgaaDoor.Types Go.Proofs.YtihfbpmblppbgaaDoor.Vals Go.Proofs.YtihfbpmblppbgaaDoor.OpenV
open Go.Proofs.YtihfbpmblppbgaaDoor.ExT (left left_neg left_ok left_bad)
abbrev Lv := List S31
mutual
def cnt : S31 → Nat
  | ⟨_, l⟩ => cnts l
def cnts : List S31 → Nat
  | [] => 0
  | x :: r => 1 + cnt x + cnts r
end
mutual
def cvt : S31 → S25
  | ⟨x, l⟩ => ⟨x, cvl l⟩
def cvl : List S31 → List S25
  | [] => []
  | x :: r => cvt x :: cvl r
end
theorem cnt_f0 (x : S31) : cnt x = cnts x.f1 := by cases x; rw [cnt]
theorem cvt_f0 (x : S31) : cvt x = ⟨x.f0, cvl x.f1⟩ := by cases x; rw [cvt]
theorem cnts_cons (x : S31) (r : Lv) : cnts (x :: r) = 1 + cnts x.f1 + cnts r := by rw [cnts, cnt_f0]
theorem cvl_cons (x : S31) (r : Lv) : cvl (x :: r) = ⟨x.f0, cvl x.f1⟩ :: cvl r := by rw [cvl, cvt_f0]
theorem cvl_length : ∀ l : Lv, (cvl l).length = l.length
  | [] => by rw [cvl]; rfl
  | x :: r => by rw [cvl_cons, List.length_cons, List.length_cons, cvl_length r]
theorem cnts_len : ∀ l : Lv, l.length ≤ cnts l
  | [] => by simp
  | x :: r => by rw [cnts_cons, List.length_cons]; have := cnts_len r; omega
theorem cnts_app : ∀ l r : Lv, cnts (l ++ r) = cnts l + cnts r
  | [], r => by rw [List.nil_append, cnts]; omega
  | x :: l, r => by rw [List.cons_append, cnts_cons, cnts_cons, cnts_app l r]; omega
theorem cvl_app : ∀ l r : Lv, cvl (l ++ r) = cvl l ++ cvl r
  | [], r => by rw [List.nil_append, cvl]; rfl
  | x :: l, r => by rw [List.cons_append, cvl_cons, cvl_cons, cvl_app l r]; rfl
theorem rdL_mid (pre r : Lv) (x : S31) : rd_T31 (pre ++ x :: r) (pre.length : Int) = x := by
  unfold rd_T31
  rw [Int.toNat_natCast, List.getD_eq_getElem?_getD, List.getElem?_append_right (Nat.le_refl _)]
  simp
theorem rdI_mid (pre r : Vl) (x : S25) : rd_T25 (pre ++ x :: r) (pre.length : Int) = x := by
  unfold rd_T25
  rw [Int.toNat_natCast, List.getD_eq_getElem?_getD, List.getElem?_append_right (Nat.le_refl _)]
  simp
theorem bdV_len {l : Lv} (h : BdV l) : l.length ≤ 9223372036854775807 := by cases h; assumption
theorem bdV_mem {l : Lv} (h : BdV l) {x : S31} (hx : x ∈ l) : BdV x.f1 := by cases h with | mk _ _ h => exact h x hx
theorem szLoop_ev (a : Nat) (ha : a ≤ 1048576) (IH : ∀ b, b < a → ∀ (l : Lv), BdV l → ∀ k, 3 * b + 5 ≤ k → laws_szValS.f k l b = some (left b (cnts l))) :
    ∀ (r pre : Lv) (b k : Nat), BdV (pre ++ r) → b < a → pre.length + r.length ≤ 1048576 → 3 * b + 5 + r.length ≤ k →
    laws_szValS.l0 k (pre ++ r) b pre.length = some (left (b + r.length) (cnts r)) := by
  intro r
  induction r with
  | nil =>
    intro pre b k hB hb hl hk
    obtain ⟨k, rfl⟩ : ∃ m, k = m + 1 := ⟨k - 1, by omega⟩
    simp only [laws_szValS.l0]
    rw [if_neg (by simp), left_ok _ _ (by rw [cnts]; omega), cnts]; rfl
  | cons x r ih =>
    intro pre b k hB hb hl hk
    simp only [List.length_cons] at hl hk
    obtain ⟨k, rfl⟩ : ∃ m, k = m + 1 := ⟨k - 1, by omega⟩
    simp only [laws_szValS.l0, laws_szVal.F]
    have hlen : ((pre ++ x :: r).length : Int) = pre.length + 1 + r.length := by simp; omega
    rw [if_pos (by omega), if_pos (by omega), rdL_mid, IH b hb x.f1 (bdV_mem hB (by simp)) k (by omega)]; simp only [Option.bind_some]
    have hc := cnts_len r
    rw [cnts_cons, List.length_cons]
    by_cases h : cnts x.f1 ≤ b
    · have e := left_ok b _ h
      rw [e, if_neg (by omega)]; simp only [Option.bind_some]
      rw [if_neg (by omega), w64 (by omega) (by omega)]
      have ea : pre ++ x :: r = (pre ++ [x]) ++ r := by simp
      have el : (pre.length : Int) + 1 = ((pre ++ [x]).length : Int) := by simp
      rw [el, ea, ih (pre ++ [x]) (b - cnts x.f1) k (by rw [← ea]; exact hB) (by omega) (by simp; omega) (by omega)]
      congr 1
      unfold left
      by_cases h2 : cnts r ≤ b - cnts x.f1 + r.length
      · rw [if_pos h2, if_pos (by omega)]; omega
      · rw [if_neg h2, if_neg (by omega)]
    · rw [left_bad b _ (by omega), if_pos (by omega)]; simp only [Option.bind_some]
      rw [if_pos (by omega), left_bad _ _ (by omega)]
theorem szS_ev : ∀ (a : Nat), a ≤ 1048576 → ∀ (l : Lv), BdV l → ∀ k, 3 * a + 5 ≤ k → laws_szValS.f k l a = some (left a (cnts l)) := by
  intro a
  induction a using Nat.strongRecOn with
  | _ a IH =>
    intro ha l hB k hk
    obtain ⟨k, rfl⟩ : ∃ m, k = m + 2 := ⟨k - 2, by omega⟩
    simp only [laws_szValS.f]
    have hn := bdV_len hB
    have hc := cnts_len l
    rw [w64 (by omega) (by omega)]
    by_cases h : (a : Int) - (l.length : Int) < 0
    · rw [if_pos h, left_bad _ _ (by omega)]
    · rw [if_neg h]
      by_cases h0 : l.length = 0
      · obtain rfl : l = [] := List.length_eq_zero_iff.1 h0
        simp only [laws_szValS.l0]
        rw [if_neg (by simp), cnts, left_ok _ _ (by omega)]; simp
      · have := szLoop_ev a ha (fun b hb l hB k hk => IH b hb (by omega) l hB k hk) l [] (a - l.length) (k + 1) (by simpa using hB) (by omega) (by simp; omega) (by omega)
        simp only [List.nil_append, List.length_nil] at this
        rw [show (a : Int) - (l.length : Int) = ((a - l.length : Nat) : Int) by omega]
        rw [show a - l.length + l.length = a by omega] at this
        exact this
theorem sz_ev (x : Int) (l : Lv) (hB : BdV l) (a : Nat) (ha : a ≤ 1048576) (k : Nat) (hk : 3145733 ≤ k) : laws_szVal.f k x l a = some (left a (cnts l)) := by
  unfold laws_szVal.f laws_szVal.F
  rw [szS_ev a ha l hB k (by omega)]; simp only [Option.bind_some]
  by_cases h : cnts l ≤ a
  · rw [left_ok _ _ h, if_neg (by omega)]
  · rw [left_bad _ _ (by omega)]; rfl
theorem toLoop_ev (c : Nat) (hc : c ≤ 1048576) (IH : ∀ (l : Lv), cnts l < c → ∀ k, 3 * cnts l + 6 ≤ k → laws_toValS.f k l = some (cvl l)) :
    ∀ (r pre : Lv) (k : Nat), cnts (pre ++ r) ≤ c → 3 * cnts r + 5 ≤ k →
    laws_toValS.l0 k (pre ++ r) (cvl pre ++ List.replicate r.length z25) pre.length = some (cvl (pre ++ r)) := by
  intro r
  induction r with
  | nil =>
    intro pre k h1 hk
    obtain ⟨k, rfl⟩ : ∃ m, k = m + 1 := ⟨k - 1, by omega⟩
    simp only [laws_toValS.l0]
    rw [if_neg (by simp)]
    simp
  | cons x r ih =>
    intro pre k h1 hk
    have e1 := cnts_app pre (x :: r)
    rw [cnts_cons] at e1 hk
    have e2 := cnts_len pre
    have e3 := cnts_len r
    obtain ⟨k, rfl⟩ : ∃ m, k = m + 1 := ⟨k - 1, by omega⟩
    simp only [laws_toValS.l0, laws_toVal.F]
    have hlen : ((pre ++ x :: r).length : Int) = pre.length + 1 + r.length := by simp; omega
    rw [if_pos (by omega), if_pos (by omega), rdL_mid, IH x.f1 (by omega) k (by omega)]; simp only [Option.bind_some]
    rw [if_pos (by rw [List.length_append, cvl_length, List.length_replicate, List.length_cons]; omega), w64 (by omega) (by omega)]
    have ea : pre ++ x :: r = (pre ++ [x]) ++ r := by simp
    have el : (pre.length : Int) + 1 = ((pre ++ [x]).length : Int) := by simp
    have es : (cvl pre ++ List.replicate (r.length + 1) z25).set (pre.length : Int).toNat (⟨x.f0, cvl x.f1⟩ : S25) = cvl (pre ++ [x]) ++ List.replicate r.length z25 := by
      rw [Int.toNat_natCast, List.set_append_right _ _ (by rw [cvl_length]; exact Nat.le_refl _), cvl_length, Nat.sub_self, List.replicate_succ, List.set_cons_zero, cvl_app, cvl_cons, cvl]
      simp
    rw [List.length_cons, es, el, ea]
    exact ih (pre ++ [x]) k (by rw [← ea]; exact h1) (by omega)
theorem toS_ev : ∀ (c : Nat), c ≤ 1048576 → ∀ (l : Lv), cnts l ≤ c → ∀ k, 3 * cnts l + 6 ≤ k → laws_toValS.f k l = some (cvl l) := by
  intro c
  induction c using Nat.strongRecOn with
  | _ c IH =>
    intro hc l hl k hk
    obtain ⟨k, rfl⟩ : ∃ m, k = m + 1 := ⟨k - 1, by omega⟩
    simp only [laws_toValS.f]
    have h1 := cnts_len l
    rw [if_pos (by omega), if_pos (by omega), Int.toNat_natCast]
    have := toLoop_ev (cnts l) (by omega) (fun l' hl' k hk => IH (cnts l') (by omega) (by omega) l' (Nat.le_refl _) k hk) l [] k (by simp) (by omega)
    simp only [List.nil_append, List.length_nil] at this
    rw [cvl] at this
    simpa using this
theorem to_ev (x : Int) (l : Lv) (h : cnts l ≤ 1048576) (k : Nat) (hk : 3145740 ≤ k) : laws_toVal.f k x l = some (x, cvl l) := by
  unfold laws_toVal.f laws_toVal.F
  rw [toS_ev 1048576 (Nat.le_refl _) l h k (by omega)]; rfl
mutual
def siz1 : S25 → Nat
  | ⟨_, l⟩ => siz l
def siz : List S25 → Nat
  | [] => 0
  | x :: r => 1 + siz1 x + siz r
end
theorem siz1_f0 (x : S25) : siz1 x = siz x.f1 := by cases x; rw [siz1]
theorem siz_cons (x : S25) (r : Vl) : siz (x :: r) = 1 + siz x.f1 + siz r := by rw [siz, siz1_f0]
theorem siz_len : ∀ l : Vl, l.length ≤ siz l
  | [] => by simp
  | x :: r => by rw [siz_cons, List.length_cons]; have := siz_len r; omega
theorem siz_app : ∀ l r : Vl, siz (l ++ r) = siz l + siz r
  | [], r => by rw [List.nil_append, siz]; omega
  | x :: l, r => by rw [List.cons_append, siz_cons, siz_cons, siz_app l r]; omega
theorem siz_cvl : ∀ (c : Nat) (l : Lv), cnts l ≤ c → siz (cvl l) = cnts l := by
  intro c
  induction c with
  | zero =>
    intro l h
    match l with
    | [] => rw [cvl, siz, cnts]
    | x :: r => rw [cnts_cons] at h; omega
  | succ c ih =>
    intro l h
    match l with
    | [] => rw [cvl, siz, cnts]
    | x :: r =>
      rw [cnts_cons] at h ⊢
      rw [cvl_cons, siz_cons, ih x.f1 (by omega), ih r (by omega)]
theorem siz_vt : ∀ (n : Nat) (x : Int) (l : Vl) (t : Ty), vt n x l = some t → siz l + 2 ≤ 2 ^ (n + 1) := by
  intro n
  induction n with
  | zero => intro x l t h; cases h
  | succ n ih =>
    intro x l t h
    rcases vt_cases h with ⟨rfl, rfl, _, _⟩ | ⟨a, b, s, u, rfl, rfl, rfl, h1, h2⟩
    · rw [siz]; have : 2 ^ 1 ≤ 2 ^ (n + 1 + 1) := Nat.pow_le_pow_right (by decide) (by omega)
      omega
    · have ha := ih _ _ _ h1
      have hb := ih _ _ _ h2
      rw [siz_cons, siz_cons, siz, Nat.pow_succ]
      omega
theorem sameLoop_ev (c : Nat) (hc : c ≤ 1048576) (IH : ∀ (l : Vl), siz l < c → ∀ k, 3 * siz l + 6 ≤ k → laws_eqValS.f k l l = some true) :
    ∀ (r pre : Vl) (k : Nat), siz (pre ++ r) ≤ c → 3 * siz r + 5 ≤ k → laws_eqValS.l0 k (pre ++ r) (pre ++ r) pre.length = some true := by
  intro r
  induction r with
  | nil =>
    intro pre k h1 hk
    obtain ⟨k, rfl⟩ : ∃ m, k = m + 1 := ⟨k - 1, by omega⟩
    simp only [laws_eqValS.l0]
    rw [if_neg (by simp)]
  | cons x r ih =>
    intro pre k h1 hk
    have e1 := siz_app pre (x :: r)
    rw [siz_cons] at e1 hk
    have e2 := siz_len pre
    obtain ⟨k, rfl⟩ : ∃ m, k = m + 1 := ⟨k - 1, by omega⟩
    simp only [laws_eqValS.l0, laws_eqVal.F, if_true]
    have hlen : ((pre ++ x :: r).length : Int) = pre.length + 1 + r.length := by simp; omega
    rw [if_pos (by omega), if_pos (by omega), if_pos (by omega), rdI_mid, IH x.f1 (by omega) k (by omega)]; simp only [Option.bind_some, if_true]
    rw [w64 (by omega) (by omega)]
    have ea : pre ++ x :: r = (pre ++ [x]) ++ r := by simp
    have el : (pre.length : Int) + 1 = ((pre ++ [x]).length : Int) := by simp
    rw [el, ea]
    exact ih (pre ++ [x]) k (by rw [← ea]; exact h1) (by omega)
theorem sameS_ev : ∀ (c : Nat), c ≤ 1048576 → ∀ (l : Vl), siz l ≤ c → ∀ k, 3 * siz l + 6 ≤ k → laws_eqValS.f k l l = some true := by
  intro c
  induction c using Nat.strongRecOn with
  | _ c IH =>
    intro hc l hl k hk
    obtain ⟨k, rfl⟩ : ∃ m, k = m + 1 := ⟨k - 1, by omega⟩
    simp only [laws_eqValS.f, if_true]
    have := sameLoop_ev (siz l) (by omega) (fun l' hl' k hk => IH (siz l') (by omega) (by omega) l' (Nat.le_refl _) k hk) l [] k (by simp) (by omega)
    simpa using this
theorem same_ev (x : Int) (l : Vl) (h : siz l ≤ 1048576) (k : Nat) (hk : 3145740 ≤ k) : laws_eqVal.f k x l x l = some true := by
  unfold laws_eqVal.f laws_eqVal.F
  rw [if_pos rfl, sameS_ev 1048576 (Nat.le_refl _) l h k (by omega)]; rfl
end Go.Proofs.YtihfbpmblppbgaaDoor.ExV
end
section
set_option linter.unusedSimpArgs false
set_option linter.unusedVariables false
namespace Go.Proofs.YtihfbpmblppbgaaDoor.Pure
open Go.RowKit Go.Proofs.YtihfbpmblppbgaaDoor.PA Go.Proofs.YtihfbpmblppbgaaDoorW.PrintWords Go.Proofs.YtihfbpmblppbgaaDoorW.PrintLast Go.Proofs.YtihfbpmblppbgaaDoor.Draw Go.Proofs.YtihfbpmblppbgaaDoor.Types Go.Proofs.YtihfbpmblppbgaaDoor.Paths Go.Proofs.YtihfbpmblppbgaaDoor.Vals Go.Proofs.YtihfbpmblppbgaaDoor.Ats Go.Proofs.YtihfbpmblppbgaaDoor.Texts Go.Proofs.YtihfbpmblppbgaaDoor.OpenV
theorem FnExactValText (x : Int) (v : List S31) (hV : (Lit.int .i64 x).wf = true ∧ BdV v) : ∃ k, laws_FnExactValText.f k x v = some true := by
  obtain ⟨k, hk⟩ : ∃ k : Nat, 3145800 ≤ k := ⟨3145800, Nat.le_refl _⟩
  refine ⟨k, ?_⟩
  unfold laws_FnExactValText.f
  rw [show (1048576 : Int) = ((1048576 : Nat) : Int) from rfl, ExV.sz_ev x v hV.2 _ (by omega) k (by omega)]; simp only [Option.bind_some]
  by_cases h2 : ExV.cnts v ≤ 1048576
  · rw [ExT.left_ok _ _ h2, if_neg (by omega), ExV.to_ev x v h2 k (by omega)]; simp only [Option.bind_some]
    rw [specText_ev _ _ k (by omega)]; simp only [Option.bind_some]
    rw [implText_ev _ _ k (by omega)]; simp only [Option.bind_some]
    rw [if_pos trivial, ExV.same_ev _ _ (by rw [ExV.siz_cvl _ v (Nat.le_refl _)]; omega) k (by omega)]; rfl
  · rw [ExT.left_bad _ _ (by omega)]; rfl
end Go.Proofs.YtihfbpmblppbgaaDoor.Pure
end
section
namespace Go.Proofs.YtihfbpmblppbgaaDoorW.PrintWords
open Go.ChangeShapes Go.WideShapes
end Go.Proofs.YtihfbpmblppbgaaDoorW.PrintWords
end
section
namespace Go.Proofs.YtihfbpmblppbgaaDoor.fnExactValText
open Go.ChangeShapes Go.WideShapes Go.ChangeAt Go.RowKit Go.Proofs.YtihfbpmblppbgaaDoor.PA Go.Proofs.YtihfbpmblppbgaaDoor.Open Go.Proofs.YtihfbpmblppbgaaDoor.OpenV Go.Proofs.YtihfbpmblppbgaaDoorW.PrintWords
open Go.ChangeMaps (open_string shut_string)
set_option linter.unusedVariables false
theorem own : ownKnob Tryd.prog.godebug = none := by kernel_rfl
theorem laidOut : laidOutB Tryd.prog = true := by kernel_rfl
def IsRow (k : IntKind) (w : World) (a : Option Addr) (len cap : Nat) (zs : List Int) : Prop :=
  (a = none ∧ len = 0 ∧ cap = 0 ∧ zs = []) ∨
  ∃ x, a = some x ∧ len ≤ cap ∧ cap ≤ maxLen ∧ zs.length = cap ∧ (∀ i, i < zs.length → w.cell? (x.add i) = some (.int k (zs.getD i 0))) ∧ ∀ n ∈ zs, (Lit.int k n).wf = true
theorem door_met (os : Os) (args : Array Value) : laidMetH Tryd.prog Rows.fnExactValTextRow.laid ((World.doorLaid Tryd.prog 400 os).forCall (fun _ _ => 0) ⟨#[], args, []⟩).memory :=
  laidMetH_of_parts3 (fuel := 8) (laidMet_of_run' 8 (by kernel_rfl) (by kernel_rfl)) (by kernel_rfl) (by kernel_rfl)
theorem hG_of {W : World} (h : laidMetH Tryd.prog Rows.fnExactValTextRow.laid W) : PA.HfG W := by
  rw [MakeChecks.laidMetH_plain _ _ _ (by kernel_rfl)] at h
  have h1 : laidMet Tryd.prog (("internal/strconv.uint64pow10", Lib.tabData .u64 Lib.pow10Tab) :: []) W := laidMet.tail (laidMet.tail (h))
  exact Lib.tabIs_of_head (g := 0) (t := 67) (e := 61) (n := 20) (by kernel_rfl) (by kernel_rfl) (by kernel_rfl) (by kernel_rfl) (by kernel_rfl) (by kernel_rfl) h1
set_option maxRecDepth 100000 in
theorem lifted (os : Os) (started : os.Started) (H : Type) (enc : TypeId × Value → H) :
    ReturnsInHanded {} Tryd.checked os 5 .any (fun w args => (Rows.fnExactValTextSpec.pre enc Tryd.prog Tryd.f5 [] false w args ∧ laidMetH Tryd.prog Rows.fnExactValTextRow.laid w) ∧ sizedMet enc Tryd.prog Tryd.f5 (OpenSpec.ofChange Rows.fnExactValTextSpec) false w args) (Rows.fnExactValTextSpec.post enc Tryd.prog Tryd.f5 false true false false) := by
  refine returnsInHanded_of_change_and (C := Tryd.checked) (X := fun w _ => laidMetH Tryd.prog Rows.fnExactValTextRow.laid w) (fun _ _ _ hh h => h.of_heap hh) own started (by kernel_rfl) Tryd.func5
    (ChangeSpec.witness_shaped (enc := enc) (C := Tryd.checked) (os := os) (X := fun w _ => laidMetH Tryd.prog Rows.fnExactValTextRow.laid w) false (World.doorLaid Tryd.prog 400 os) #[.agg #[.int .i64 0, .slice none 0 0]] 8 rfl (World.shaped_of_RefB (by kernel_rfl) (by kernel_rfl)) (by kernel_rfl) (by kernel_rfl) (by kernel_rfl) (door_met os _)) ?_
  intro W base args ds gs before hval0 hW hcnd hsz0 hL _
  have hsz : (DataW.weightsEach Tryd.prog (Tryd.f5.params.toList ++ Rows.fnExactValTextSpec.plain.varTypes Tryd.prog) (ds ++ gs)).all (· ≤ reachBytes) = true := hsz0
  have hval : ∀ (j : Nat) t v, Tryd.f5.params[j]? = some t → args[j]? = some v → Value.okWide Tryd.prog W .any base t v := hval0
  have hW' := hW
  obtain ⟨p, q, hA0, hV, rfl, hfz, hnd⟩ := hW
  have hA : DataW.TrodAll enc Tryd.prog W 0 (fun _ => true) true Tryd.f5.params.toList args.toList ds p := hA0
  rw [Tryd.params5] at hA hval hsz
  obtain ⟨v0, vs0, d0, ds0, p0, q0, hargs, rfl, rfl, h0, r0⟩ := trodAll_cons hA
  obtain ⟨rfl, rfl, rfl⟩ := trodAll_nil r0
  obtain rfl : args = #[v0] := by cases args; simp_all
  obtain ⟨rfl, rfl⟩ := trodVars_none hV
  have k0 := h0
  have lt0 : ∀ x ∈ p0, x.block < W.heap.size := by obtain ⟨m, hm⟩ := k0; exact DataW.trod_lt m _ _ _ hm
  obtain ⟨cs0, rfl, _⟩ := okWide_struct Tryd.underlying31 (hval 0 31 v0 rfl rfl)
  obtain ⟨n0, a0, cap0, l0, rfl, c0, b0, bd0⟩ := argV h0
  clear hA0 hval0 hsz0 hsz
  obtain ⟨k, hk⟩ := Pure.FnExactValText n0 l0 bd0
  refine (laws_FnExactValText.calls k n0 _ _ l0 true W (hG_of hL) c0 b0 hk ⟨rfl⟩).mono fun e W' ⟨he, bel⟩ => ?_
  subst he
  exact ⟨_, rfl, _, _, _, [], _, [], hW', trodAll_mk1 (shut_bool Tryd.underlying4 _), (trodAll_cons_mk (Below.trod laidOut (by kernel_rfl) (of_decide_eq_true (by kernel_rfl)) k0 bel lt0) trodAll_mk0), rfl, bel.frame _, fun h => by cases h⟩
theorem over : Rows.fnExactValTextRow.holds Tryd.pinned (OpenSpec.ofChange Rows.fnExactValTextSpec) :=
  OpenClaim.holds_of_wide 5 Tryd.f5 rfl rfl rfl rfl rfl rfl rfl ⟨rfl, rfl, rfl, rfl, rfl⟩ rfl rfl rfl rfl rfl (by kernel_rfl) Tryd.func5 (by kernel_rfl)
    (of_decide_eq_true (by kernel_rfl)) (by unfold Func.isWrapper; first | (rw [if_pos (by decide +kernel)]; kernel_rfl) | (rw [if_neg (by decide +kernel)]; exact ⟨rfl, rfl⟩))
    (fun os started H enc _ => lifted os started H enc)
theorem proved : Rows.FnExactValTextCardSaid :=
  Claim7.holds_tied_plain_at .later [] [.data, .data, .data] true (true, "a07b6d3d28acb34c1de5728bde9dbfe512a8988594525e74e366f2e6260a8b10") false
    over (fun _ h => by cases h) (by kernel_rfl) (fun _ h => by cases h) fnExactValText_row_tie rfl ⟨rfl, rfl⟩ (by kernel_rfl) rfl
    (fun f fn hf hfn => by
      obtain rfl : f = 5 := Option.some.inj ((show Tryd.prog.funcNamed "loop.example/handfast/laws.FnExactValText" = some 5 by kernel_rfl).symm.trans hf) |>.symm
      obtain rfl : fn = Tryd.f5 := (Option.some.inj (Tryd.func5.symm.trans hfn)).symm
      exact ⟨by kernel_rfl, fun j t ht => by
        rw [Tryd.params5] at ht
        have hm : t ∈ [31] := by simpa using Array.mem_of_getElem? ht
        have hall : ([31].all fun u => !Tryd.prog.wantsStandIn u) = true := by kernel_rfl
        exact (show Tryd.prog.wantsStandIn t = false by simpa using List.all_eq_true.1 hall t hm)⟩)
    (by kernel_rfl)
#print axioms proved
end Go.Proofs.YtihfbpmblppbgaaDoor.fnExactValText
namespace Go.Proofs.YtihfbpmblppbgaaDoor
theorem fnExactValText_holds : Rows.FnExactValTextCardSaid := fnExactValText.proved
end Go.Proofs.YtihfbpmblppbgaaDoor
end
