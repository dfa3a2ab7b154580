-- YtihfbpmblppbgaaDoor's texts for the statement FnValTextPair, one behind the other (merge.py).
import Derived.Test.YtihfbpmblppbgaaDoorQFnValTextPair0
section
namespace Go.Proofs.YtihfbpmblppbgaaDoor.PA
open Go.RowKit Go.Proofs.YtihfbpmblppbgaaDoorW.PrintWords Go.Proofs.YtihfbpmblppbgaaDoorW.PrintLast Go.Proofs.YtihfbpmblppbgaaDoorW.PrintMore
attribute [local go_sem] max2_int min2_int max_two min_two max_three min_three max_four min_four
set_option linter.unusedVariables false
set_option linter.unusedSimpArgs false
def spec_l71Val.f : Nat → List Int → Int → List (S41) → Option (Int × (List (S25)) × Int)
 | 0, _, _, _ => none
 | k + 1, s0_0, s0_1, l1_0 => if (l1_0.length : Int) = 0 then ((some (([0, 1, 2, 3, 7, 50, 9999] : List Int) : List Int)).bind fun y109 => ((spec_l6Rd_pick.f k s0_0 s0_1 7).bind fun bt112 => (if 0 ≤ bt112.1 then (if bt112.1 < (y109.length : Int) then (some (rd y109 bt112.1, ([] : List (S25)), bt112.2)) else (none)) else (none)))) else (if 0 < (l1_0.length : Int) then ((spec_l71Val.f k s0_0 s0_1 ((rd_T41 l1_0 0).f0)).bind fun bt116 => (if 1 < (l1_0.length : Int) then ((spec_l71Val.f k s0_0 bt116.2.2 ((rd_T41 l1_0 1).f0)).bind fun bt122 => (some (0, (([(⟨bt116.1, bt116.2.1⟩ : S25), (⟨bt122.1, bt122.2.1⟩ : S25)] : List (S25))), bt122.2.2))) else (none))) else (none))
theorem spec_l71Val.mono_l : ∀ k, (∀ y0 y1 y2, LeO (spec_l71Val.f k y0 y1 y2) (spec_l71Val.f (k + 1) y0 y1 y2))
 | 0 => fun _ _ _ r h => by simp [spec_l71Val.f] at h
 | k + 1 => by
  have ih0 := spec_l71Val.mono_l k
  ·intro y0 y1 y2
   unfold spec_l71Val.f
   repeat' first
   | (with_reducible exact ih0 _ _ _)
   | (with_reducible exact spec_l6Rd_pick.mono _ _ _ _)
   | (with_reducible exact LeO.refl _)
   | (with_reducible exact LeO.none _)
   | (with_reducible refine LeO.ite ?_ ?_)
   | (with_reducible refine LeO.bind ?_ (fun _ => ?_))
   | exact ih0 _ _ _
   | exact spec_l6Rd_pick.mono _ _ _ _
   | exact LeO.none _
   | refine LeO.ite ?_ ?_
   | refine LeO.bind ?_ (fun _ => ?_)
theorem spec_l71Val.mono : ∀ a0 a1 a2 k, LeO (spec_l71Val.f k a0 a1 a2) (spec_l71Val.f (k + 1) a0 a1 a2) := by
 intro a0 a1 a2 k
 have ih0 := spec_l71Val.mono_l k
 exact ih0 a0 a1 a2
def spec_l71Val.T3 : Bool × List (List Nat × List Nat) := (true, [([], []), ([], []), ([1], [1]), ([2], [2]), ([3], [3]), ([0, 4], [0, 4]), ([], []), ([], []), ([7], [7]), ([8], [8]), ([9], [9]), ([6, 10, 5], [6, 10]), ([5, 11], [5, 11]), ([12], [12]), ([13, 11, 0, 1, 2, 3, 4, 5, 6, 7, 8, 9, 10, 11, 12, 13], [13])])
def spec_l71Val.B3 : List Nat := [0, 0, 2, 6, 14, 31, 0, 0, 128, 384, 896, 2047, 4095, 8191, 16383]
theorem spec_l71Val.tab3 : rtab .any (opsOf Tryd.f23 3) = spec_l71Val.T3 := by kernel_rfl
theorem spec_l71Val.bits3 : waitsOk spec_l71Val.T3.2 spec_l71Val.B3 = true := by kernel_rfl
set_option maxHeartbeats 8000000 in
set_option maxRecDepth 100000 in
theorem spec_l71Val.calls (k : Nat) : ∀ (g : Nat) (s0_0 : List Int) (s0_1 : Int) (P1_0_ : Nat → Prop) (A1_0 : Option Addr) (c1_0 : Nat) (l1_0 : List (S41)) (r1 : Int) (r2 : List (S25)) (r3 : Int) (w0 w : World) (hI : IsS51 w0 w g s0_0 s0_1) (hB : Below w0.heap.size w0 w) (hs1_0 : Kd.V k41 41 w w.heap.size (fun k_ => P1_0_ k_ ∧ k_ ≠ g) (.slice A1_0 l1_0.length c1_0) l1_0) (h : spec_l71Val.f k s0_0 s0_1 l1_0 = some (r1, r2, r3)),
  Calls Tryd.prog 23 #[.pointer (some ⟨g, 0, none⟩), .agg #[.slice A1_0 l1_0.length c1_0]] w fun e w' => ∃ v1_ : Value, e = .returned (.agg #[.int .i64 r1, v1_]) ∧ Kd.N k25 25 w' w.heap.size (fun k_ => (P1_0_ k_ ∨ w.heap.size ≤ k_)) v1_ r2 ∧ IsS51 w0 w' g s0_0 r3 ∧ Below w0.heap.size w0 w' ∧ KeepBut w w' g none := by
 induction k using Nat.strongRecOn with
 | _ k ih =>
 intro g s0_0 s0_1 P1_0_ A1_0 c1_0 l1_0 r1 r2 r3 w0 w hI hB hs1_0 h
 cases k with
 | zero => exact absurd h (by simp [spec_l71Val.f])
 | succ k =>
 simp only [spec_l71Val.f] at h
 have hu41 := Tryd.underlying41
 have hu25 := Tryd.underlying25
 have HO1_0 := Aside0.mk (show Kd.V k41 41 w w.heap.size (fun k_ => (P1_0_ k_ ∨ w.heap.size ≤ k_) ∧ k_ ≠ g) (.slice A1_0 l1_0.length c1_0) l1_0 from Kd.V_mono hs1_0 (fun k_ hk => ⟨.inl hk.1, hk.2⟩))
 have HI0 := Aside0.mk hI
 have HK := Aside0.mk (KeepBut.refl w g none)
 have HL := Aside0.mk hB.size
 clear hI
 have HW0 := Aside0.mk hB.size
 have HB := Aside0.mk hB
 clear hB
 have H : (if (l1_0.length : Int) = 0 then ((some (([0, 1, 2, 3, 7, 50, 9999] : List Int) : List Int)).bind fun y109 => ((spec_l6Rd_pick.f k s0_0 s0_1 7).bind fun bt112 => (if 0 ≤ bt112.1 then (if bt112.1 < (y109.length : Int) then (some (rd y109 bt112.1, ([] : List (S25)), bt112.2)) else (none)) else (none)))) else (if 0 < (l1_0.length : Int) then ((spec_l71Val.f k s0_0 s0_1 ((rd_T41 l1_0 0).f0)).bind fun bt116 => (if 1 < (l1_0.length : Int) then ((spec_l71Val.f k s0_0 bt116.2.2 ((rd_T41 l1_0 1).f0)).bind fun bt122 => (some (0, (([(⟨bt116.1, bt116.2.1⟩ : S25), (⟨bt122.1, bt122.2.1⟩ : S25)] : List (S25))), bt122.2.2))) else (none))) else (none))) = some (r1, r2, r3) := h
 clear h
 have HZ3 := Aside0.mk H
 clear H
 go_enter Tryd.func23, Tryd.ntmps23
 go_upto_if 8 with (first | ((with_reducible refine gate_dst (N := 3) rfl ?_); refine zbx 3 #[.slice A1_0 l1_0.length c1_0] 41 ?_; intro gb107 hg w4 hbox hb; replace HO1_0 := Aside0.mk (Kd.V_below (Kd.V_elderB (y28 HO1_0.out) gb107 (Nat.le_of_eq hg.symm)) hb); replace HB := Aside0.mk (below_step (y32 HB.out HI0.out) hb); have BK107 := Aside0.mk hbox; have GW107 := Aside0.mk ((by rw [hg]; exact (keep_size (w := w) (g := g) (row := none) (y29 HK.out)) : w.heap.size ≤ gb107)); have GE107 := Aside0.mk ((Nat.le_trans HW0.out (by rw [hg]; exact (keep_size (w := w) (g := g) (row := none) (y29 HK.out)) : w.heap.size ≤ gb107) : w0.heap.size ≤ gb107)); replace HK := Aside0.mk (KeepBut.trans (y29 HK.out) (KeepBut.of_below hb g none) (.inl rfl)); have NB0_107 := Aside0.mk ((by rw [hg]; exact Nat.ne_of_lt (IsS51.lt (show IsS51 w0 _ g s0_0 s0_1 from by repeat (first | (with_reducible first | exact HI0.out | apply IsS51.alloc | apply IsS51.drewN | apply IsS51.drew | apply IsS51.set_1) | exact HI0.out))) : g ≠ gb107)); have NB107_0 := Aside0.mk ((by rw [hg]; exact Nat.ne_of_gt (IsS51.lt (show IsS51 w0 _ g s0_0 s0_1 from by repeat (first | (with_reducible first | exact HI0.out | apply IsS51.alloc | apply IsS51.drewN | apply IsS51.drew | apply IsS51.set_1) | exact HI0.out))) : gb107 ≠ g)); replace HI0 := Aside0.mk (IsS51.below (y33 HI0.out) hb); clear hb hbox hg) | ((with_reducible refine gate_dst (N := 4) rfl ?_); refine zbx 4 #[.int .i64 0, .slice none 0 0] 25 ?_; intro gb108 hg w5 hbox hb; replace HO1_0 := Aside0.mk (Kd.V_below (Kd.V_elderB (y28 HO1_0.out) gb108 (Nat.le_of_eq hg.symm)) hb); replace HB := Aside0.mk (below_step (y14 HB.out HI0.out GE107.out) hb); have BK108 := Aside0.mk hbox; have GW108 := Aside0.mk ((by rw [hg]; exact (keep_size (w := w) (g := g) (row := none) (y16 HK.out GW107.out)) : w.heap.size ≤ gb108)); have GE108 := Aside0.mk ((Nat.le_trans HW0.out (by rw [hg]; exact (keep_size (w := w) (g := g) (row := none) (y16 HK.out GW107.out)) : w.heap.size ≤ gb108) : w0.heap.size ≤ gb108)); replace HK := Aside0.mk (KeepBut.trans (y16 HK.out GW107.out) (KeepBut.of_below hb g none) (.inl rfl)); have NB107_108 := zltn hg BK107; have NB108_107 := zgtn hg BK107; replace BK107 := zbb BK107 hb; have NB0_108 := Aside0.mk ((by rw [hg]; exact Nat.ne_of_lt (IsS51.lt (show IsS51 w0 _ g s0_0 s0_1 from by repeat (first | (with_reducible first | exact HI0.out | apply IsS51.alloc | apply IsS51.drewN | apply IsS51.drew | apply IsS51.set_1 | refine IsS51.far ?_ NB0_107.out _) | exact HI0.out))) : g ≠ gb108)); have NB108_0 := Aside0.mk ((by rw [hg]; exact Nat.ne_of_gt (IsS51.lt (show IsS51 w0 _ g s0_0 s0_1 from by repeat (first | (with_reducible first | exact HI0.out | apply IsS51.alloc | apply IsS51.drewN | apply IsS51.drew | apply IsS51.set_1 | refine IsS51.far ?_ NB0_107.out _) | exact HI0.out))) : gb108 ≠ g)); replace HI0 := Aside0.mk (IsS51.below (y17 HI0.out NB0_107.out) hb); clear hb hbox hg; have hnb6 := NB107_108.out; have hnc6 := NB108_107.out; have hnb7 := NB107_0.out; have hnc7 := NB0_107.out; have hcz8_0 := zh BK107; have hfz8_0 := zfr BK107 0))
 (try simp only [Act.put, List.setIfInBounds_toArray, List.set_cons_zero, List.set_cons_succ])
 have H := HZ3.out
 clear HZ3
 by_cases c9 : (l1_0.length : Int) = 0
 ·rw [if_pos c9] at H
  have c9b0 : ((l1_0.length : Int) == 0) = true := beq_iff_eq.mpr c9
  have c9b1 : ((l1_0.length : Int) != 0) = false := bne_eq_false_iff_eq.mpr c9
  clear c9
  (first | rw [c9b0] | (simp only [i64_w, i32_w]; rw [c9b0]) | skip)
  obtain ⟨y109, hy109⟩ : ∃ y_ : List Int, y_ = (([0, 1, 2, 3, 7, 50, 9999] : List Int)) := ⟨_, rfl⟩
  replace H : ((spec_l6Rd_pick.f k s0_0 s0_1 7).bind fun bt112 => (if 0 ≤ bt112.1 then (if bt112.1 < (y109.length : Int) then (some (rd y109 bt112.1, ([] : List (S25)), bt112.2)) else (none)) else (none))) = some (r1, r2, r3) := by first | (rw [hy109]; with_reducible exact H) | (have H2_ := (Option.bind_some _ _).symm.trans H; rw [hy109]; with_reducible exact H2_) | (have H2_ := (Option.bind_some _ _).symm.trans H; with_reducible exact H2_) | with_reducible exact H | (rw [hy109]; exact H) | exact H
  have Ny109 := Aside0.mk hy109
  clear hy109
  obtain ⟨⟨t112, t113⟩, A100, H⟩ := ob H
  have A10 := Aside0.mk A100
  clear A100
  by_cases c11 : 0 ≤ t112
  ·rw [if_pos c11] at H
   have c11b0 : decide (0 ≤ t112) = true := decide_eq_true c11
   clear c11
   by_cases c12 : t112 < (y109.length : Int)
   ·rw [if_pos c12] at H
    have c12b0 : decide (t112 < (y109.length : Int)) = true := decide_eq_true c12
    clear c12
    simp only [Option.some.injEq, Prod.mk.injEq] at H
    obtain ⟨rfl, rfl, rfl⟩ := H
    go_wp2_with (first | ((with_reducible refine gate_dst (N := 9) rfl ?_); refine Kd.R_lit (Kd.int .i64) _ 3 ?hg (N := 9) ?hd (xs := ([0, 1, 2, 3, 7, 50, 9999] : List Int)) (inner := [.int .i64 0, .int .i64 1, .int .i64 2, .int .i64 3, .int .i64 7, .int .i64 50, .int .i64 9999]) (ok := fun _ => True) (okp := fun _ => True) ?hr ?hp (fun _ hk => hk) trivial (Below.refl _ _) (Nat.le_refl _) (by simp) ?_; (case hd => rfl); (case hg => rfl); (case hr => first | (go_simp; done) | (go_simp; rfl)); (case hp => exact (Reps.one (show Kd.M (Kd.int .i64) _ _ _ 0 [.int .i64 0] from rfl) (Reps.one (show Kd.M (Kd.int .i64) _ _ _ 1 [.int .i64 1] from rfl) (Reps.one (show Kd.M (Kd.int .i64) _ _ _ 2 [.int .i64 2] from rfl) (Reps.one (show Kd.M (Kd.int .i64) _ _ _ 3 [.int .i64 3] from rfl) (Reps.one (show Kd.M (Kd.int .i64) _ _ _ 7 [.int .i64 7] from rfl) (Reps.one (show Kd.M (Kd.int .i64) _ _ _ 50 [.int .i64 50] from rfl) (Reps.one (show Kd.M (Kd.int .i64) _ _ _ 9999 [.int .i64 9999] from rfl) (Reps.none _ _))))))))); intro v110 w13 ho14 hb hg_ hnew_; clear hg_ hnew_; (first | rw [← Ny109.out] at ho14 | (simp only [Int.reduceToNat] at ho14; rw [← Ny109.out] at ho14)); replace HO1_0 := Aside0.mk (Kd.V_elder' (y28 HO1_0.out) (Kd.R_base ho14) hb); have HO111 := Aside0.mk (Kd.R_lower (Kd.R_newM (M := fun k_ => (w.heap.size ≤ k_)) ho14 (keep_size (w := w) (g := g) (row := none) (y11 HK.out GW107.out GW108.out)) (fun k_ h_ => h_)) (keep_size (w := w) (g := g) (row := none) (y11 HK.out GW107.out GW108.out))); replace BK107 := zbb BK107 hb; replace BK108 := zbb BK108 hb; replace HK := Aside0.mk (KeepBut.trans (y11 HK.out GW107.out GW108.out) (KeepBut.of_below hb g none) (.inl rfl)); replace HB := Aside0.mk (below_step (y30 HB.out HI0.out GE107.out GE108.out) hb); replace HI0 := Aside0.mk (IsS51.below (y24 HI0.out NB0_107.out NB0_108.out) hb); clear hb ho14) | ((with_reducible refine gate_callee (f := 15) rfl ?_); refine goesL_ (some 11) rfl rfl Tryd.func15 (by kernel_rfl) rfl #[.pointer (some ⟨g, 0, none⟩), .int .i64 7] rfl y4 ?_; (with_reducible refine (spec_l6Rd_pick.calls k g s0_0 s0_1 7 t112 t113 w0 _ ?side1 ?side2 A10.out).mono ?_); (case side1 => exact y24 HI0.out NB0_107.out NB0_108.out); (case side2 => exact y30 HB.out HI0.out GE107.out GE108.out); rintro e w15 ⟨rfl, hi, hb, hk⟩; refine ⟨_, rfl, ?_⟩; replace HO1_0 := Aside0.mk (Kd.V_mono (Kd.V_keep (Kd.V_mono (ok := fun k_ => ((((((P1_0_ k_ ∨ w.heap.size ≤ k_)) ∧ k_ ≠ g) ∧ k_ ≠ gb107) ∧ k_ ≠ gb108) ∧ some k_ ≠ (v110 : Value).ownBlock)) (y28 HO1_0.out) (fun k_ hk_ => (⟨hk_, hk_.1.1.1.2⟩ : _ ∧ k_ ≠ g))) hk (fun _ h => h.2)) (fun _ h => h.1)); replace BK107 := Aside0.mk (KeepBut.blk hk (g' := gb107) (o := .cells #[.slice A1_0 l1_0.length c1_0] 41 (0, 0)) (y1 BK107.out) NB107_0.out (by simp)); replace BK108 := Aside0.mk (KeepBut.blk hk (g' := gb108) (o := .cells #[.int .i64 0, .slice none 0 0] 25 (0, 0)) (y1 BK108.out) NB108_0.out (by simp)); replace HO111 := Aside0.mk (Kd.R_mono (Kd.R_keep (IsS51.apart (show IsS51 w0 _ g s0_0 s0_1 from by repeat (first | (with_reducible first | exact HI0.out | apply IsS51.alloc | apply IsS51.drewN | apply IsS51.drew | apply IsS51.set_1 | refine IsS51.far ?_ NB0_107.out _ | refine IsS51.far ?_ NB0_108.out _) | exact HI0.out)) (y15 HO111.out) (by decide)) hk (fun _ h => h.2)) (fun _ h => h.1)); replace HK := Aside0.mk (KeepBut.trans (y11 HK.out GW107.out GW108.out) hk (.inl rfl)); replace HB := Aside0.mk (hb); replace HI0 := Aside0.mk (hi); (try clear hb); (try clear hb2); (try clear hk); (try clear hi); obtain ⟨Ao16, co16, eo16⟩ := Kd.R_slice HO111.out; subst eo16; have p114 : 0 ≤ (t112 : Int) := of_decide_eq_true y19; have q114 : t112 < (y109.length : Int) := of_decide_eq_true y19; obtain ⟨ad114, e114, hx114_0⟩ := Kd.at_int (Kd.R_reads' HO111.out).2.2 t112 p114 q114; cases e114; replace p114 := eq_true p114; replace q114 := eq_true q114; have hnb17 := NB108_107.out; have hnc17 := NB107_108.out; have hnb18 := NB108_0.out; have hnc18 := NB0_108.out; have hcz19_0 := zh BK108; have hcz19_1 := zh1 BK108; have hfz19_0 := zfr BK108 0; have hfz19_1 := zfr BK108 1))
    refine bodyPost_ret (results_cell_row rfl _ _ gb108 25 #[.int .i64 (rd y109 t112), .slice none 0 0] (0, 0) _ rfl (by (with_reducible repeat (first | refine blk_drewN ?_ _ | refine blk_drew ?_ | refine blk_alloc ?_ _)); refine blk_put (cs := #[.int .i64 (rd y109 t112), .slice none 0 0]) ?_ 1 _ rfl; (with_reducible repeat (first | refine blk_drewN ?_ _ | refine blk_drew ?_ | refine blk_alloc ?_ _)); apply blk_put (i := 0); (case h => exact y1 BK108.out); (case e => rfl)) Tryd.underlying25 rfl (by kernel_rfl)) rfl ?_
    exact ⟨_, y7, y31, (y24 HI0.out NB0_107.out NB0_108.out), (y30 HB.out HI0.out GE107.out GE108.out), (y11 HK.out GW107.out GW108.out)⟩
   ·rw [if_neg c12] at H
    exact absurd H (by simp)
  ·rw [if_neg c11] at H
   exact absurd H (by simp)
 ·rw [if_neg c9] at H
  have c9b0 : ((l1_0.length : Int) == 0) = false := beq_eq_false_iff_ne.mpr c9
  have c9b1 : ((l1_0.length : Int) != 0) = true := bne_iff_ne.mpr c9
  have c9b2 : ¬ (l1_0 = []) := fun h_ => c9 (by rw [h_]; rfl)
  (first | rw [c9b0] | (simp only [i64_w, i32_w]; rw [c9b0]) | skip)
  by_cases c20 : 0 < (l1_0.length : Int)
  ·rw [if_pos c20] at H
   have c20b0 : decide (0 < (l1_0.length : Int)) = true := decide_eq_true c20
   have c20b1 : decide (0 < l1_0.length) = true := decide_eq_true (by omega)
   clear c20
   obtain ⟨⟨t116, t117, t120⟩, A210, H⟩ := ob H
   have A21 := Aside0.mk A210
   clear A210
   by_cases c22 : 1 < (l1_0.length : Int)
   ·rw [if_pos c22] at H
    have c22b0 : decide (1 < (l1_0.length : Int)) = true := decide_eq_true c22
    have c22b1 : decide (1 < l1_0.length) = true := decide_eq_true (by omega)
    clear c22
    obtain ⟨⟨t122, t123, t126⟩, A230, H⟩ := ob H
    have A23 := Aside0.mk A230
    clear A230
    obtain ⟨y127, hy127⟩ : ∃ y_ : List (S25), y_ = (([(⟨t116, t117⟩ : S25), (⟨t122, t123⟩ : S25)] : List (S25))) := ⟨_, rfl⟩
    replace H : (some (0, y127, t126)) = some (r1, r2, r3) := by first | (rw [hy127]; with_reducible exact H) | (have H2_ := (Option.bind_some _ _).symm.trans H; rw [hy127]; with_reducible exact H2_) | (have H2_ := (Option.bind_some _ _).symm.trans H; with_reducible exact H2_) | with_reducible exact H | (rw [hy127]; exact H) | exact H
    have Ny127 := Aside0.mk hy127
    clear hy127
    simp only [Option.some.injEq, Prod.mk.injEq] at H
    obtain ⟨rfl, rfl, rfl⟩ := H
    try go_wp2
    replace HO1_0 := Aside0.mk (Kd.V_drew HO1_0.out)
    replace BK107 := Aside0.mk (blk_drew BK107.out)
    replace BK108 := Aside0.mk (blk_drew BK108.out)
    replace HI0 := Aside0.mk (IsS51.drew HI0.out)
    replace HK := Aside0.mk (keep_drew HK.out)
    replace HB := Aside0.mk (below_drew1 HB.out)
    have p115 : 0 ≤ (0 : Int) := (by omega)
    have q115 : 0 < (l1_0.length : Int) := of_decide_eq_true y19
    obtain ⟨ad115, A115_0, c115_0, e115, hx115_0, hl115_0, hi115_0⟩ := at_T41 (Kd.V_reads' HO1_0.out).2.2 0 p115 q115
    cases e115
    obtain ⟨ce115, hce115, hMe115, hcc115⟩ := Kd.V_get HO1_0.out z41 0 p115 (by first | exact q115 | exact of_decide_eq_true y19 | (have e_ := (Kd.V_reads' HO1_0.out).1; omega))
    obtain ⟨ua115_0, uc115_0, rfl, ul115_0, ge115_0⟩ := k41_openF hMe115
    have hv115_0 := hcc115 0 _ rfl
    rw [Nat.add_zero, show (k41).sz = 1 from rfl, Nat.mul_one] at hv115_0
    replace hv115_0 := Option.some.inj (hv115_0.symm.trans hx115_0)
    injection hv115_0 with hva_ hvn_ hvc_
    rw [hva_] at ge115_0
    rw [hvc_] at ul115_0
    have HL115_0 := Aside0.mk (show Kd.V k41 41 _ w.heap.size _ _ ((rd_T41 l1_0 0).f0) from Kd.V_mk ul115_0 ge115_0)
    clear hva_ hvn_ hvc_ ge115_0 ul115_0
    clear hcc115 hce115
    have qi115 : (0 < l1_0.length) = True := eq_true (by omega)
    (try rw [show ((0 : Int)).toNat = 0 from rfl] at hx115_0)
    (try rw [Addr.add_zero'] at hx115_0)
    have HR115_0 := Aside0.mk hi115_0
    have HC115_0 := Aside0.mk hl115_0
    clear hi115_0 hl115_0
    replace p115 := eq_true p115
    replace q115 := eq_true q115
    have p121 : 0 ≤ (1 : Int) := (by omega)
    have q121 : 1 < (l1_0.length : Int) := of_decide_eq_true y19
    obtain ⟨ad121, A121_0, c121_0, e121, hx121_0, hl121_0, hi121_0⟩ := at_T41 (Kd.V_reads' HO1_0.out).2.2 1 p121 q121
    obtain rfl : ad115 = ad121 := (by injection e121)
    obtain ⟨ce121, hce121, hMe121, hcc121⟩ := Kd.V_get HO1_0.out z41 1 p121 (by first | exact q121 | exact of_decide_eq_true y19 | (have e_ := (Kd.V_reads' HO1_0.out).1; omega))
    obtain ⟨ua121_0, uc121_0, rfl, ul121_0, ge121_0⟩ := k41_openF hMe121
    have hv121_0 := hcc121 0 _ rfl
    rw [Nat.add_zero, show (k41).sz = 1 from rfl, Nat.mul_one] at hv121_0
    replace hv121_0 := Option.some.inj (hv121_0.symm.trans hx121_0)
    injection hv121_0 with hva_ hvn_ hvc_
    rw [hva_] at ge121_0
    rw [hvc_] at ul121_0
    have HL121_0 := Aside0.mk (show Kd.V k41 41 _ w.heap.size _ _ ((rd_T41 l1_0 1).f0) from Kd.V_mk ul121_0 ge121_0)
    clear hva_ hvn_ hvc_ ge121_0 ul121_0
    clear hcc121 hce121
    (try simp only [show (1 : Int).toNat = 1 from rfl, Nat.reduceMul, Nat.reduceEqDiff, Go.Addr.add, ↓reduceIte] at hx121_0)
    have qi121 : (1 < l1_0.length) = True := eq_true (by omega)
    (try rw [show ((1 : Int)).toNat = 1 from rfl] at hx121_0)
    have HR121_0 := Aside0.mk hi121_0
    have HC121_0 := Aside0.mk hl121_0
    clear hi121_0 hl121_0
    replace p121 := eq_true p121
    replace q121 := eq_true q121
    refine start_ (n := 15) (S := fun w' => w'.cell? ⟨gb107, 0, none⟩ = some (.slice (some ad115) l1_0.length c1_0) ∧ w'.cell? ad115 = some (.slice A115_0 ((rd_T41 l1_0 0).f0).length c115_0) ∧ w'.cell? ⟨ad115.block, ad115.off + 1, none⟩ = some (.slice A121_0 ((rd_T41 l1_0 1).f0).length c121_0)) (ds := []) #[false, false, false, false, false, false, false, false, false, false, false, false, false, false, false] (by kernel_rfl) rfl rfl ⟨(blk_cell BK107.out 0).trans rfl, hx115_0, hx121_0⟩ (fun hHeld => ?_); refine with_tabW spec_l71Val.tab3 spec_l71Val.bits3 (fun HT_ HW_ => ?_)
    generalize w5.drew = w24 at HO1_0 BK107 BK108 HI0 HK HB HL115_0 HL121_0 HR115_0 HR121_0 hx115_0 hx121_0 hHeld ⊢
    refine zp 0 (some 15) HT_ ?_
    refine zp 1 (some 16) HT_ ?_
    refine zp 6 (some 21) HT_ ?_
    refine zp 7 (some 22) HT_ ?_
    refine zt3 2 (some 17) HT_ HW_ hHeld ?_
    refine zp 3 (some 18) HT_ ?_
    refine zt3 4 (some 19) HT_ HW_ hHeld ?_
    refine zt3 8 (some 23) HT_ HW_ hHeld ?_
    refine zp 9 (some 24) HT_ ?_
    refine zt3 10 (some 25) HT_ HW_ hHeld ?_
    refine one_ (i := 5) (N := some 20) #[true, true, true, true, true, true, true, true, true, true, true, false, false, false, false] rfl rfl (one_of HT_.out (by kernel_rfl)) (by decide) (fun K hK => ?_)
    refine goes_ Tryd.func23 (by kernel_rfl) rfl #[.pointer (some ⟨g, 0, none⟩), .agg #[.slice A115_0 ((rd_T41 l1_0 0).f0).length c115_0]] (by rfl) rfl rfl y4 ?_
    with_reducible refine (ih k (by omega) g s0_0 s0_1 (fun k_ => ((((P1_0_ k_ ∨ w.heap.size ≤ k_) ∧ k_ ≠ g) ∧ k_ ≠ gb107) ∧ k_ ≠ gb108)) _ _ ((rd_T41 l1_0 0).f0) t116 t117 t120 w0 _ ?side1 ?side2 ?side3 A21.out).mono ?_
    (case side1 => exact y24 HI0.out NB0_107.out NB0_108.out)
    (case side2 => exact y30 HB.out HI0.out GE107.out GE108.out)
    (case side3 => exact Kd.V_mono (HL115_0.out) (fun k_ hk_ => ⟨hk_, hk_.1.1.2⟩))
    rintro e w25 ⟨v118, rfl, ho0, hi, hb, hk⟩
    have HS1_ := keep_cell hk (hHeld.2.1) (by first | (rw [add_block]; exact (show _ from by have h_ := hf_V_in HO1_0.out (by have h0_ : (0 : Int) < (l1_0.length : Int) := (by first | exact of_eq_true (by assumption) | exact Int.lt_trans (by decide : (0 : Int) < 1) (of_eq_true (by assumption))); omega) (by decide); first | exact h_ | exact h_.1 | exact h_.2 | exact h_.1.1 | exact h_.1.2 | exact h_.2.1 | exact h_.2.2 | exact h_.1.1.1 | exact h_.1.1.2 | exact h_.1.2.1 | exact h_.1.2.2 | exact h_.2.1.1 | exact h_.2.1.2 | exact h_.2.2.1 | exact h_.2.2.2 | exact h_.1.1.1.1 | exact h_.1.1.1.2 | exact h_.1.1.2.1 | exact h_.1.1.2.2 | exact h_.1.2.1.1 | exact h_.1.2.1.2 | exact h_.1.2.2.1 | exact h_.1.2.2.2 | exact h_.2.1.1.1 | exact h_.2.1.1.2 | exact h_.2.1.2.1 | exact h_.2.1.2.2 | exact h_.2.2.1.1 | exact h_.2.2.1.2 | exact h_.2.2.2.1 | exact h_.2.2.2.2 | exact h_.1.1.1.1.1 | exact h_.1.1.1.1.2 | exact h_.1.1.1.2.1 | exact h_.1.1.1.2.2 | exact h_.1.1.2.1.1 | exact h_.1.1.2.1.2 | exact h_.1.1.2.2.1 | exact h_.1.1.2.2.2 | exact h_.1.2.1.1.1 | exact h_.1.2.1.1.2 | exact h_.1.2.1.2.1 | exact h_.1.2.1.2.2 | exact h_.1.2.2.1.1 | exact h_.1.2.2.1.2 | exact h_.1.2.2.2.1 | exact h_.1.2.2.2.2 | exact h_.2.1.1.1.1 | exact h_.2.1.1.1.2 | exact h_.2.1.1.2.1 | exact h_.2.1.1.2.2 | exact h_.2.1.2.1.1 | exact h_.2.1.2.1.2 | exact h_.2.1.2.2.1 | exact h_.2.1.2.2.2 | exact h_.2.2.1.1.1 | exact h_.2.2.1.1.2 | exact h_.2.2.1.2.1 | exact h_.2.2.1.2.2 | exact h_.2.2.2.1.1 | exact h_.2.2.2.1.2 | exact h_.2.2.2.2.1 | exact h_.2.2.2.2.2)) | (show (Addr.add _ _).block ≠ _; rw [add_block]; exact (show _ from by have h_ := hf_V_in HO1_0.out (by have h0_ : (0 : Int) < (l1_0.length : Int) := (by first | exact of_eq_true (by assumption) | exact Int.lt_trans (by decide : (0 : Int) < 1) (of_eq_true (by assumption))); omega) (by decide); first | exact h_ | exact h_.1 | exact h_.2 | exact h_.1.1 | exact h_.1.2 | exact h_.2.1 | exact h_.2.2 | exact h_.1.1.1 | exact h_.1.1.2 | exact h_.1.2.1 | exact h_.1.2.2 | exact h_.2.1.1 | exact h_.2.1.2 | exact h_.2.2.1 | exact h_.2.2.2 | exact h_.1.1.1.1 | exact h_.1.1.1.2 | exact h_.1.1.2.1 | exact h_.1.1.2.2 | exact h_.1.2.1.1 | exact h_.1.2.1.2 | exact h_.1.2.2.1 | exact h_.1.2.2.2 | exact h_.2.1.1.1 | exact h_.2.1.1.2 | exact h_.2.1.2.1 | exact h_.2.1.2.2 | exact h_.2.2.1.1 | exact h_.2.2.1.2 | exact h_.2.2.2.1 | exact h_.2.2.2.2 | exact h_.1.1.1.1.1 | exact h_.1.1.1.1.2 | exact h_.1.1.1.2.1 | exact h_.1.1.1.2.2 | exact h_.1.1.2.1.1 | exact h_.1.1.2.1.2 | exact h_.1.1.2.2.1 | exact h_.1.1.2.2.2 | exact h_.1.2.1.1.1 | exact h_.1.2.1.1.2 | exact h_.1.2.1.2.1 | exact h_.1.2.1.2.2 | exact h_.1.2.2.1.1 | exact h_.1.2.2.1.2 | exact h_.1.2.2.2.1 | exact h_.1.2.2.2.2 | exact h_.2.1.1.1.1 | exact h_.2.1.1.1.2 | exact h_.2.1.1.2.1 | exact h_.2.1.1.2.2 | exact h_.2.1.2.1.1 | exact h_.2.1.2.1.2 | exact h_.2.1.2.2.1 | exact h_.2.1.2.2.2 | exact h_.2.2.1.1.1 | exact h_.2.2.1.1.2 | exact h_.2.2.1.2.1 | exact h_.2.2.1.2.2 | exact h_.2.2.2.1.1 | exact h_.2.2.2.1.2 | exact h_.2.2.2.2.1 | exact h_.2.2.2.2.2)) | exact (show _ from by have h_ := hf_V_in HO1_0.out (by have h0_ : (0 : Int) < (l1_0.length : Int) := (by first | exact of_eq_true (by assumption) | exact Int.lt_trans (by decide : (0 : Int) < 1) (of_eq_true (by assumption))); omega) (by decide); first | exact h_ | exact h_.1 | exact h_.2 | exact h_.1.1 | exact h_.1.2 | exact h_.2.1 | exact h_.2.2 | exact h_.1.1.1 | exact h_.1.1.2 | exact h_.1.2.1 | exact h_.1.2.2 | exact h_.2.1.1 | exact h_.2.1.2 | exact h_.2.2.1 | exact h_.2.2.2 | exact h_.1.1.1.1 | exact h_.1.1.1.2 | exact h_.1.1.2.1 | exact h_.1.1.2.2 | exact h_.1.2.1.1 | exact h_.1.2.1.2 | exact h_.1.2.2.1 | exact h_.1.2.2.2 | exact h_.2.1.1.1 | exact h_.2.1.1.2 | exact h_.2.1.2.1 | exact h_.2.1.2.2 | exact h_.2.2.1.1 | exact h_.2.2.1.2 | exact h_.2.2.2.1 | exact h_.2.2.2.2 | exact h_.1.1.1.1.1 | exact h_.1.1.1.1.2 | exact h_.1.1.1.2.1 | exact h_.1.1.1.2.2 | exact h_.1.1.2.1.1 | exact h_.1.1.2.1.2 | exact h_.1.1.2.2.1 | exact h_.1.1.2.2.2 | exact h_.1.2.1.1.1 | exact h_.1.2.1.1.2 | exact h_.1.2.1.2.1 | exact h_.1.2.1.2.2 | exact h_.1.2.2.1.1 | exact h_.1.2.2.1.2 | exact h_.1.2.2.2.1 | exact h_.1.2.2.2.2 | exact h_.2.1.1.1.1 | exact h_.2.1.1.1.2 | exact h_.2.1.1.2.1 | exact h_.2.1.1.2.2 | exact h_.2.1.2.1.1 | exact h_.2.1.2.1.2 | exact h_.2.1.2.2.1 | exact h_.2.1.2.2.2 | exact h_.2.2.1.1.1 | exact h_.2.2.1.1.2 | exact h_.2.2.1.2.1 | exact h_.2.2.1.2.2 | exact h_.2.2.2.1.1 | exact h_.2.2.2.1.2 | exact h_.2.2.2.2.1 | exact h_.2.2.2.2.2))
    have HS2_ := keep_cell hk (hHeld.2.2) (by first | (rw [add_block]; exact (show _ from by have h_ := hf_V_in HO1_0.out (by have h0_ : (0 : Int) < (l1_0.length : Int) := (by first | exact of_eq_true (by assumption) | exact Int.lt_trans (by decide : (0 : Int) < 1) (of_eq_true (by assumption))); omega) (by decide); first | exact h_ | exact h_.1 | exact h_.2 | exact h_.1.1 | exact h_.1.2 | exact h_.2.1 | exact h_.2.2 | exact h_.1.1.1 | exact h_.1.1.2 | exact h_.1.2.1 | exact h_.1.2.2 | exact h_.2.1.1 | exact h_.2.1.2 | exact h_.2.2.1 | exact h_.2.2.2 | exact h_.1.1.1.1 | exact h_.1.1.1.2 | exact h_.1.1.2.1 | exact h_.1.1.2.2 | exact h_.1.2.1.1 | exact h_.1.2.1.2 | exact h_.1.2.2.1 | exact h_.1.2.2.2 | exact h_.2.1.1.1 | exact h_.2.1.1.2 | exact h_.2.1.2.1 | exact h_.2.1.2.2 | exact h_.2.2.1.1 | exact h_.2.2.1.2 | exact h_.2.2.2.1 | exact h_.2.2.2.2 | exact h_.1.1.1.1.1 | exact h_.1.1.1.1.2 | exact h_.1.1.1.2.1 | exact h_.1.1.1.2.2 | exact h_.1.1.2.1.1 | exact h_.1.1.2.1.2 | exact h_.1.1.2.2.1 | exact h_.1.1.2.2.2 | exact h_.1.2.1.1.1 | exact h_.1.2.1.1.2 | exact h_.1.2.1.2.1 | exact h_.1.2.1.2.2 | exact h_.1.2.2.1.1 | exact h_.1.2.2.1.2 | exact h_.1.2.2.2.1 | exact h_.1.2.2.2.2 | exact h_.2.1.1.1.1 | exact h_.2.1.1.1.2 | exact h_.2.1.1.2.1 | exact h_.2.1.1.2.2 | exact h_.2.1.2.1.1 | exact h_.2.1.2.1.2 | exact h_.2.1.2.2.1 | exact h_.2.1.2.2.2 | exact h_.2.2.1.1.1 | exact h_.2.2.1.1.2 | exact h_.2.2.1.2.1 | exact h_.2.2.1.2.2 | exact h_.2.2.2.1.1 | exact h_.2.2.2.1.2 | exact h_.2.2.2.2.1 | exact h_.2.2.2.2.2)) | (show (Addr.add _ _).block ≠ _; rw [add_block]; exact (show _ from by have h_ := hf_V_in HO1_0.out (by have h0_ : (0 : Int) < (l1_0.length : Int) := (by first | exact of_eq_true (by assumption) | exact Int.lt_trans (by decide : (0 : Int) < 1) (of_eq_true (by assumption))); omega) (by decide); first | exact h_ | exact h_.1 | exact h_.2 | exact h_.1.1 | exact h_.1.2 | exact h_.2.1 | exact h_.2.2 | exact h_.1.1.1 | exact h_.1.1.2 | exact h_.1.2.1 | exact h_.1.2.2 | exact h_.2.1.1 | exact h_.2.1.2 | exact h_.2.2.1 | exact h_.2.2.2 | exact h_.1.1.1.1 | exact h_.1.1.1.2 | exact h_.1.1.2.1 | exact h_.1.1.2.2 | exact h_.1.2.1.1 | exact h_.1.2.1.2 | exact h_.1.2.2.1 | exact h_.1.2.2.2 | exact h_.2.1.1.1 | exact h_.2.1.1.2 | exact h_.2.1.2.1 | exact h_.2.1.2.2 | exact h_.2.2.1.1 | exact h_.2.2.1.2 | exact h_.2.2.2.1 | exact h_.2.2.2.2 | exact h_.1.1.1.1.1 | exact h_.1.1.1.1.2 | exact h_.1.1.1.2.1 | exact h_.1.1.1.2.2 | exact h_.1.1.2.1.1 | exact h_.1.1.2.1.2 | exact h_.1.1.2.2.1 | exact h_.1.1.2.2.2 | exact h_.1.2.1.1.1 | exact h_.1.2.1.1.2 | exact h_.1.2.1.2.1 | exact h_.1.2.1.2.2 | exact h_.1.2.2.1.1 | exact h_.1.2.2.1.2 | exact h_.1.2.2.2.1 | exact h_.1.2.2.2.2 | exact h_.2.1.1.1.1 | exact h_.2.1.1.1.2 | exact h_.2.1.1.2.1 | exact h_.2.1.1.2.2 | exact h_.2.1.2.1.1 | exact h_.2.1.2.1.2 | exact h_.2.1.2.2.1 | exact h_.2.1.2.2.2 | exact h_.2.2.1.1.1 | exact h_.2.2.1.1.2 | exact h_.2.2.1.2.1 | exact h_.2.2.1.2.2 | exact h_.2.2.2.1.1 | exact h_.2.2.2.1.2 | exact h_.2.2.2.2.1 | exact h_.2.2.2.2.2)) | exact (show _ from by have h_ := hf_V_in HO1_0.out (by have h0_ : (0 : Int) < (l1_0.length : Int) := (by first | exact of_eq_true (by assumption) | exact Int.lt_trans (by decide : (0 : Int) < 1) (of_eq_true (by assumption))); omega) (by decide); first | exact h_ | exact h_.1 | exact h_.2 | exact h_.1.1 | exact h_.1.2 | exact h_.2.1 | exact h_.2.2 | exact h_.1.1.1 | exact h_.1.1.2 | exact h_.1.2.1 | exact h_.1.2.2 | exact h_.2.1.1 | exact h_.2.1.2 | exact h_.2.2.1 | exact h_.2.2.2 | exact h_.1.1.1.1 | exact h_.1.1.1.2 | exact h_.1.1.2.1 | exact h_.1.1.2.2 | exact h_.1.2.1.1 | exact h_.1.2.1.2 | exact h_.1.2.2.1 | exact h_.1.2.2.2 | exact h_.2.1.1.1 | exact h_.2.1.1.2 | exact h_.2.1.2.1 | exact h_.2.1.2.2 | exact h_.2.2.1.1 | exact h_.2.2.1.2 | exact h_.2.2.2.1 | exact h_.2.2.2.2 | exact h_.1.1.1.1.1 | exact h_.1.1.1.1.2 | exact h_.1.1.1.2.1 | exact h_.1.1.1.2.2 | exact h_.1.1.2.1.1 | exact h_.1.1.2.1.2 | exact h_.1.1.2.2.1 | exact h_.1.1.2.2.2 | exact h_.1.2.1.1.1 | exact h_.1.2.1.1.2 | exact h_.1.2.1.2.1 | exact h_.1.2.1.2.2 | exact h_.1.2.2.1.1 | exact h_.1.2.2.1.2 | exact h_.1.2.2.2.1 | exact h_.1.2.2.2.2 | exact h_.2.1.1.1.1 | exact h_.2.1.1.1.2 | exact h_.2.1.1.2.1 | exact h_.2.1.1.2.2 | exact h_.2.1.2.1.1 | exact h_.2.1.2.1.2 | exact h_.2.1.2.2.1 | exact h_.2.1.2.2.2 | exact h_.2.2.1.1.1 | exact h_.2.2.1.1.2 | exact h_.2.2.1.2.1 | exact h_.2.2.1.2.2 | exact h_.2.2.2.1.1 | exact h_.2.2.2.1.2 | exact h_.2.2.2.2.1 | exact h_.2.2.2.2.2))
    refine ⟨_, rfl, ?_⟩
    replace HO1_0 := Aside0.mk (Kd.V_mono (Kd.V_told (Kd.V_oldK (Kd.V_mono (ok := fun k_ => (((((P1_0_ k_ ∨ w.heap.size ≤ k_)) ∧ k_ ≠ g) ∧ k_ ≠ gb107) ∧ k_ ≠ gb108)) (y28 HO1_0.out) (fun k_ hk_ => (⟨hk_, hk_.1.1.2⟩ : _ ∧ k_ ≠ g))) hk) (Kd.N_base ho0)) (fun _ h_ => h_.1))
    replace HL115_0 := Aside0.mk (Kd.V_mono (Kd.V_told (Kd.V_oldK (Kd.V_mono (ok := fun k_ => (((((P1_0_ k_ ∨ w.heap.size ≤ k_)) ∧ k_ ≠ g) ∧ k_ ≠ gb107) ∧ k_ ≠ gb108)) (y28 HL115_0.out) (fun k_ hk_ => (⟨hk_, hk_.1.1.2⟩ : _ ∧ k_ ≠ g))) hk) (Kd.N_base ho0)) (fun _ h_ => h_.1))
    replace HL121_0 := Aside0.mk (Kd.V_mono (Kd.V_told (Kd.V_oldK (Kd.V_mono (ok := fun k_ => (((((P1_0_ k_ ∨ w.heap.size ≤ k_)) ∧ k_ ≠ g) ∧ k_ ≠ gb107) ∧ k_ ≠ gb108)) (y28 HL121_0.out) (fun k_ hk_ => (⟨hk_, hk_.1.1.2⟩ : _ ∧ k_ ≠ g))) hk) (Kd.N_base ho0)) (fun _ h_ => h_.1))
    have HO119 := Aside0.mk (Kd.N_lower (Kd.N_mono (ok' := fun k_ => (P1_0_ k_ ∨ w.heap.size ≤ k_) ∧ k_ ≠ gb107 ∧ k_ ≠ gb108 ∧ k_ ≠ g) ho0 (fun k_ hk_ => ⟨Or.elim hk_ (fun hs_ => hs_.1.1.1) (fun hn_ => (.inr (Nat.le_trans (keep_size (w := w) (g := g) (row := none) (y11 HK.out GW107.out GW108.out)) hn_))), Or.elim hk_ (fun hs_ => hs_.1.2) (fun hn_ => (Kd.freshB (g := gb107) (o := .cells #[.slice (some ad115) l1_0.length c1_0] 41 (0, 0)) (y1 BK107.out) k_ hn_)), Or.elim hk_ (fun hs_ => hs_.2) (fun hn_ => (Kd.freshB (g := gb108) (o := .cells #[.int .i64 0, .slice none 0 0] 25 (0, 0)) (y1 BK108.out) k_ hn_)), Or.elim hk_ (fun hs_ => hs_.1.1.2) (fun hn_ => (IsS51.fresh (y24 HI0.out NB0_107.out NB0_108.out) k_ hn_))⟩)) (keep_size (w := w) (g := g) (row := none) (y11 HK.out GW107.out GW108.out)))
    replace BK107 := Aside0.mk (KeepBut.blk hk (g' := gb107) (o := .cells #[.slice (some ad115) l1_0.length c1_0] 41 (0, 0)) (y1 BK107.out) NB107_0.out (by simp))
    replace BK108 := Aside0.mk (KeepBut.blk hk (g' := gb108) (o := .cells #[.int .i64 0, .slice none 0 0] 25 (0, 0)) (y1 BK108.out) NB108_0.out (by simp))
    replace HK := Aside0.mk (KeepBut.trans (y11 HK.out GW107.out GW108.out) hk (.inl rfl))
    replace HB := Aside0.mk (hb)
    replace HI0 := Aside0.mk (hi)
    (try clear hb)
    (try clear hb2)
    (try clear hk)
    (try clear hi)
    (try clear ho0)
    refine hK.out _ _ ⟨(blk_cell BK107.out 0).trans rfl, HS1_, HS2_⟩ (fun hHeld => ?_)
    clear hK K
    refine norm_ (a' := ?_) ?_ ?_
    rotate_left
    ·show Act.put _ (some 20) _ = _
     simp only [Act.put, List.setIfInBounds_toArray, List.set_cons_zero, List.set_cons_succ, i64_w, i32_w]
     rfl
    refine one_ (i := 11) (N := some 26) #[true, true, true, true, true, true, true, true, true, true, true, true, false, false, false] rfl rfl (one_of HT_.out (by kernel_rfl)) (by decide) (fun K hK => ?_)
    refine goes_ Tryd.func23 (by kernel_rfl) rfl #[.pointer (some ⟨g, 0, none⟩), .agg #[.slice A121_0 ((rd_T41 l1_0 1).f0).length c121_0]] (by rfl) rfl rfl y4 ?_
    with_reducible refine (ih k (by omega) g s0_0 t120 (fun k_ => (((((P1_0_ k_ ∨ w.heap.size ≤ k_) ∧ k_ ≠ g) ∧ k_ ≠ gb107) ∧ k_ ≠ gb108) ∧ some k_ ≠ (v118 : Value).ownBlock)) _ _ ((rd_T41 l1_0 1).f0) t122 t123 t126 w0 _ ?side1 ?side2 ?side3 A23.out).mono ?_
    (case side1 => exact y24 HI0.out NB0_107.out NB0_108.out)
    (case side2 => exact y30 HB.out HI0.out GE107.out GE108.out)
    (case side3 => exact Kd.V_mono (HL121_0.out) (fun k_ hk_ => ⟨hk_, hk_.1.1.1.2⟩))
    rintro e w26 ⟨v124, rfl, ho0, hi, hb, hk⟩
    have HS1_ := keep_cell hk (hHeld.2.1) (by first | (rw [add_block]; exact (show _ from by have h_ := hf_V_in HO1_0.out (by have h0_ : (0 : Int) < (l1_0.length : Int) := (by first | exact of_eq_true (by assumption) | exact Int.lt_trans (by decide : (0 : Int) < 1) (of_eq_true (by assumption))); omega) (by decide); first | exact h_ | exact h_.1 | exact h_.2 | exact h_.1.1 | exact h_.1.2 | exact h_.2.1 | exact h_.2.2 | exact h_.1.1.1 | exact h_.1.1.2 | exact h_.1.2.1 | exact h_.1.2.2 | exact h_.2.1.1 | exact h_.2.1.2 | exact h_.2.2.1 | exact h_.2.2.2 | exact h_.1.1.1.1 | exact h_.1.1.1.2 | exact h_.1.1.2.1 | exact h_.1.1.2.2 | exact h_.1.2.1.1 | exact h_.1.2.1.2 | exact h_.1.2.2.1 | exact h_.1.2.2.2 | exact h_.2.1.1.1 | exact h_.2.1.1.2 | exact h_.2.1.2.1 | exact h_.2.1.2.2 | exact h_.2.2.1.1 | exact h_.2.2.1.2 | exact h_.2.2.2.1 | exact h_.2.2.2.2 | exact h_.1.1.1.1.1 | exact h_.1.1.1.1.2 | exact h_.1.1.1.2.1 | exact h_.1.1.1.2.2 | exact h_.1.1.2.1.1 | exact h_.1.1.2.1.2 | exact h_.1.1.2.2.1 | exact h_.1.1.2.2.2 | exact h_.1.2.1.1.1 | exact h_.1.2.1.1.2 | exact h_.1.2.1.2.1 | exact h_.1.2.1.2.2 | exact h_.1.2.2.1.1 | exact h_.1.2.2.1.2 | exact h_.1.2.2.2.1 | exact h_.1.2.2.2.2 | exact h_.2.1.1.1.1 | exact h_.2.1.1.1.2 | exact h_.2.1.1.2.1 | exact h_.2.1.1.2.2 | exact h_.2.1.2.1.1 | exact h_.2.1.2.1.2 | exact h_.2.1.2.2.1 | exact h_.2.1.2.2.2 | exact h_.2.2.1.1.1 | exact h_.2.2.1.1.2 | exact h_.2.2.1.2.1 | exact h_.2.2.1.2.2 | exact h_.2.2.2.1.1 | exact h_.2.2.2.1.2 | exact h_.2.2.2.2.1 | exact h_.2.2.2.2.2)) | (show (Addr.add _ _).block ≠ _; rw [add_block]; exact (show _ from by have h_ := hf_V_in HO1_0.out (by have h0_ : (0 : Int) < (l1_0.length : Int) := (by first | exact of_eq_true (by assumption) | exact Int.lt_trans (by decide : (0 : Int) < 1) (of_eq_true (by assumption))); omega) (by decide); first | exact h_ | exact h_.1 | exact h_.2 | exact h_.1.1 | exact h_.1.2 | exact h_.2.1 | exact h_.2.2 | exact h_.1.1.1 | exact h_.1.1.2 | exact h_.1.2.1 | exact h_.1.2.2 | exact h_.2.1.1 | exact h_.2.1.2 | exact h_.2.2.1 | exact h_.2.2.2 | exact h_.1.1.1.1 | exact h_.1.1.1.2 | exact h_.1.1.2.1 | exact h_.1.1.2.2 | exact h_.1.2.1.1 | exact h_.1.2.1.2 | exact h_.1.2.2.1 | exact h_.1.2.2.2 | exact h_.2.1.1.1 | exact h_.2.1.1.2 | exact h_.2.1.2.1 | exact h_.2.1.2.2 | exact h_.2.2.1.1 | exact h_.2.2.1.2 | exact h_.2.2.2.1 | exact h_.2.2.2.2 | exact h_.1.1.1.1.1 | exact h_.1.1.1.1.2 | exact h_.1.1.1.2.1 | exact h_.1.1.1.2.2 | exact h_.1.1.2.1.1 | exact h_.1.1.2.1.2 | exact h_.1.1.2.2.1 | exact h_.1.1.2.2.2 | exact h_.1.2.1.1.1 | exact h_.1.2.1.1.2 | exact h_.1.2.1.2.1 | exact h_.1.2.1.2.2 | exact h_.1.2.2.1.1 | exact h_.1.2.2.1.2 | exact h_.1.2.2.2.1 | exact h_.1.2.2.2.2 | exact h_.2.1.1.1.1 | exact h_.2.1.1.1.2 | exact h_.2.1.1.2.1 | exact h_.2.1.1.2.2 | exact h_.2.1.2.1.1 | exact h_.2.1.2.1.2 | exact h_.2.1.2.2.1 | exact h_.2.1.2.2.2 | exact h_.2.2.1.1.1 | exact h_.2.2.1.1.2 | exact h_.2.2.1.2.1 | exact h_.2.2.1.2.2 | exact h_.2.2.2.1.1 | exact h_.2.2.2.1.2 | exact h_.2.2.2.2.1 | exact h_.2.2.2.2.2)) | exact (show _ from by have h_ := hf_V_in HO1_0.out (by have h0_ : (0 : Int) < (l1_0.length : Int) := (by first | exact of_eq_true (by assumption) | exact Int.lt_trans (by decide : (0 : Int) < 1) (of_eq_true (by assumption))); omega) (by decide); first | exact h_ | exact h_.1 | exact h_.2 | exact h_.1.1 | exact h_.1.2 | exact h_.2.1 | exact h_.2.2 | exact h_.1.1.1 | exact h_.1.1.2 | exact h_.1.2.1 | exact h_.1.2.2 | exact h_.2.1.1 | exact h_.2.1.2 | exact h_.2.2.1 | exact h_.2.2.2 | exact h_.1.1.1.1 | exact h_.1.1.1.2 | exact h_.1.1.2.1 | exact h_.1.1.2.2 | exact h_.1.2.1.1 | exact h_.1.2.1.2 | exact h_.1.2.2.1 | exact h_.1.2.2.2 | exact h_.2.1.1.1 | exact h_.2.1.1.2 | exact h_.2.1.2.1 | exact h_.2.1.2.2 | exact h_.2.2.1.1 | exact h_.2.2.1.2 | exact h_.2.2.2.1 | exact h_.2.2.2.2 | exact h_.1.1.1.1.1 | exact h_.1.1.1.1.2 | exact h_.1.1.1.2.1 | exact h_.1.1.1.2.2 | exact h_.1.1.2.1.1 | exact h_.1.1.2.1.2 | exact h_.1.1.2.2.1 | exact h_.1.1.2.2.2 | exact h_.1.2.1.1.1 | exact h_.1.2.1.1.2 | exact h_.1.2.1.2.1 | exact h_.1.2.1.2.2 | exact h_.1.2.2.1.1 | exact h_.1.2.2.1.2 | exact h_.1.2.2.2.1 | exact h_.1.2.2.2.2 | exact h_.2.1.1.1.1 | exact h_.2.1.1.1.2 | exact h_.2.1.1.2.1 | exact h_.2.1.1.2.2 | exact h_.2.1.2.1.1 | exact h_.2.1.2.1.2 | exact h_.2.1.2.2.1 | exact h_.2.1.2.2.2 | exact h_.2.2.1.1.1 | exact h_.2.2.1.1.2 | exact h_.2.2.1.2.1 | exact h_.2.2.1.2.2 | exact h_.2.2.2.1.1 | exact h_.2.2.2.1.2 | exact h_.2.2.2.2.1 | exact h_.2.2.2.2.2))
    have HS2_ := keep_cell hk (hHeld.2.2) (by first | (rw [add_block]; exact (show _ from by have h_ := hf_V_in HO1_0.out (by have h0_ : (0 : Int) < (l1_0.length : Int) := (by first | exact of_eq_true (by assumption) | exact Int.lt_trans (by decide : (0 : Int) < 1) (of_eq_true (by assumption))); omega) (by decide); first | exact h_ | exact h_.1 | exact h_.2 | exact h_.1.1 | exact h_.1.2 | exact h_.2.1 | exact h_.2.2 | exact h_.1.1.1 | exact h_.1.1.2 | exact h_.1.2.1 | exact h_.1.2.2 | exact h_.2.1.1 | exact h_.2.1.2 | exact h_.2.2.1 | exact h_.2.2.2 | exact h_.1.1.1.1 | exact h_.1.1.1.2 | exact h_.1.1.2.1 | exact h_.1.1.2.2 | exact h_.1.2.1.1 | exact h_.1.2.1.2 | exact h_.1.2.2.1 | exact h_.1.2.2.2 | exact h_.2.1.1.1 | exact h_.2.1.1.2 | exact h_.2.1.2.1 | exact h_.2.1.2.2 | exact h_.2.2.1.1 | exact h_.2.2.1.2 | exact h_.2.2.2.1 | exact h_.2.2.2.2 | exact h_.1.1.1.1.1 | exact h_.1.1.1.1.2 | exact h_.1.1.1.2.1 | exact h_.1.1.1.2.2 | exact h_.1.1.2.1.1 | exact h_.1.1.2.1.2 | exact h_.1.1.2.2.1 | exact h_.1.1.2.2.2 | exact h_.1.2.1.1.1 | exact h_.1.2.1.1.2 | exact h_.1.2.1.2.1 | exact h_.1.2.1.2.2 | exact h_.1.2.2.1.1 | exact h_.1.2.2.1.2 | exact h_.1.2.2.2.1 | exact h_.1.2.2.2.2 | exact h_.2.1.1.1.1 | exact h_.2.1.1.1.2 | exact h_.2.1.1.2.1 | exact h_.2.1.1.2.2 | exact h_.2.1.2.1.1 | exact h_.2.1.2.1.2 | exact h_.2.1.2.2.1 | exact h_.2.1.2.2.2 | exact h_.2.2.1.1.1 | exact h_.2.2.1.1.2 | exact h_.2.2.1.2.1 | exact h_.2.2.1.2.2 | exact h_.2.2.2.1.1 | exact h_.2.2.2.1.2 | exact h_.2.2.2.2.1 | exact h_.2.2.2.2.2)) | (show (Addr.add _ _).block ≠ _; rw [add_block]; exact (show _ from by have h_ := hf_V_in HO1_0.out (by have h0_ : (0 : Int) < (l1_0.length : Int) := (by first | exact of_eq_true (by assumption) | exact Int.lt_trans (by decide : (0 : Int) < 1) (of_eq_true (by assumption))); omega) (by decide); first | exact h_ | exact h_.1 | exact h_.2 | exact h_.1.1 | exact h_.1.2 | exact h_.2.1 | exact h_.2.2 | exact h_.1.1.1 | exact h_.1.1.2 | exact h_.1.2.1 | exact h_.1.2.2 | exact h_.2.1.1 | exact h_.2.1.2 | exact h_.2.2.1 | exact h_.2.2.2 | exact h_.1.1.1.1 | exact h_.1.1.1.2 | exact h_.1.1.2.1 | exact h_.1.1.2.2 | exact h_.1.2.1.1 | exact h_.1.2.1.2 | exact h_.1.2.2.1 | exact h_.1.2.2.2 | exact h_.2.1.1.1 | exact h_.2.1.1.2 | exact h_.2.1.2.1 | exact h_.2.1.2.2 | exact h_.2.2.1.1 | exact h_.2.2.1.2 | exact h_.2.2.2.1 | exact h_.2.2.2.2 | exact h_.1.1.1.1.1 | exact h_.1.1.1.1.2 | exact h_.1.1.1.2.1 | exact h_.1.1.1.2.2 | exact h_.1.1.2.1.1 | exact h_.1.1.2.1.2 | exact h_.1.1.2.2.1 | exact h_.1.1.2.2.2 | exact h_.1.2.1.1.1 | exact h_.1.2.1.1.2 | exact h_.1.2.1.2.1 | exact h_.1.2.1.2.2 | exact h_.1.2.2.1.1 | exact h_.1.2.2.1.2 | exact h_.1.2.2.2.1 | exact h_.1.2.2.2.2 | exact h_.2.1.1.1.1 | exact h_.2.1.1.1.2 | exact h_.2.1.1.2.1 | exact h_.2.1.1.2.2 | exact h_.2.1.2.1.1 | exact h_.2.1.2.1.2 | exact h_.2.1.2.2.1 | exact h_.2.1.2.2.2 | exact h_.2.2.1.1.1 | exact h_.2.2.1.1.2 | exact h_.2.2.1.2.1 | exact h_.2.2.1.2.2 | exact h_.2.2.2.1.1 | exact h_.2.2.2.1.2 | exact h_.2.2.2.2.1 | exact h_.2.2.2.2.2)) | exact (show _ from by have h_ := hf_V_in HO1_0.out (by have h0_ : (0 : Int) < (l1_0.length : Int) := (by first | exact of_eq_true (by assumption) | exact Int.lt_trans (by decide : (0 : Int) < 1) (of_eq_true (by assumption))); omega) (by decide); first | exact h_ | exact h_.1 | exact h_.2 | exact h_.1.1 | exact h_.1.2 | exact h_.2.1 | exact h_.2.2 | exact h_.1.1.1 | exact h_.1.1.2 | exact h_.1.2.1 | exact h_.1.2.2 | exact h_.2.1.1 | exact h_.2.1.2 | exact h_.2.2.1 | exact h_.2.2.2 | exact h_.1.1.1.1 | exact h_.1.1.1.2 | exact h_.1.1.2.1 | exact h_.1.1.2.2 | exact h_.1.2.1.1 | exact h_.1.2.1.2 | exact h_.1.2.2.1 | exact h_.1.2.2.2 | exact h_.2.1.1.1 | exact h_.2.1.1.2 | exact h_.2.1.2.1 | exact h_.2.1.2.2 | exact h_.2.2.1.1 | exact h_.2.2.1.2 | exact h_.2.2.2.1 | exact h_.2.2.2.2 | exact h_.1.1.1.1.1 | exact h_.1.1.1.1.2 | exact h_.1.1.1.2.1 | exact h_.1.1.1.2.2 | exact h_.1.1.2.1.1 | exact h_.1.1.2.1.2 | exact h_.1.1.2.2.1 | exact h_.1.1.2.2.2 | exact h_.1.2.1.1.1 | exact h_.1.2.1.1.2 | exact h_.1.2.1.2.1 | exact h_.1.2.1.2.2 | exact h_.1.2.2.1.1 | exact h_.1.2.2.1.2 | exact h_.1.2.2.2.1 | exact h_.1.2.2.2.2 | exact h_.2.1.1.1.1 | exact h_.2.1.1.1.2 | exact h_.2.1.1.2.1 | exact h_.2.1.1.2.2 | exact h_.2.1.2.1.1 | exact h_.2.1.2.1.2 | exact h_.2.1.2.2.1 | exact h_.2.1.2.2.2 | exact h_.2.2.1.1.1 | exact h_.2.2.1.1.2 | exact h_.2.2.1.2.1 | exact h_.2.2.1.2.2 | exact h_.2.2.2.1.1 | exact h_.2.2.2.1.2 | exact h_.2.2.2.2.1 | exact h_.2.2.2.2.2))
    refine ⟨_, rfl, ?_⟩
    replace HO1_0 := Aside0.mk (Kd.V_mono (Kd.V_told (Kd.V_oldK (Kd.V_mono (ok := fun k_ => ((((((P1_0_ k_ ∨ w.heap.size ≤ k_)) ∧ k_ ≠ g) ∧ k_ ≠ gb107) ∧ k_ ≠ gb108) ∧ some k_ ≠ (v118 : Value).ownBlock)) (y28 HO1_0.out) (fun k_ hk_ => (⟨hk_, hk_.1.1.1.2⟩ : _ ∧ k_ ≠ g))) hk) (Kd.N_base ho0)) (fun _ h_ => h_.1))
    replace HL115_0 := Aside0.mk (Kd.V_mono (Kd.V_told (Kd.V_oldK (Kd.V_mono (ok := fun k_ => ((((((P1_0_ k_ ∨ w.heap.size ≤ k_)) ∧ k_ ≠ g) ∧ k_ ≠ gb107) ∧ k_ ≠ gb108) ∧ some k_ ≠ (v118 : Value).ownBlock)) (y28 HL115_0.out) (fun k_ hk_ => (⟨hk_, hk_.1.1.1.2⟩ : _ ∧ k_ ≠ g))) hk) (Kd.N_base ho0)) (fun _ h_ => h_.1))
    replace HL121_0 := Aside0.mk (Kd.V_mono (Kd.V_told (Kd.V_oldK (Kd.V_mono (ok := fun k_ => ((((((P1_0_ k_ ∨ w.heap.size ≤ k_)) ∧ k_ ≠ g) ∧ k_ ≠ gb107) ∧ k_ ≠ gb108) ∧ some k_ ≠ (v118 : Value).ownBlock)) (y28 HL121_0.out) (fun k_ hk_ => (⟨hk_, hk_.1.1.1.2⟩ : _ ∧ k_ ≠ g))) hk) (Kd.N_base ho0)) (fun _ h_ => h_.1))
    have HO125 := Aside0.mk (Kd.N_lower (Kd.N_mono (ok' := fun k_ => (P1_0_ k_ ∨ w.heap.size ≤ k_) ∧ some k_ ≠ (v118 : Value).ownBlock ∧ k_ ≠ gb107 ∧ k_ ≠ gb108 ∧ k_ ≠ g) ho0 (fun k_ hk_ => ⟨Or.elim hk_ (fun hs_ => hs_.1.1.1.1) (fun hn_ => (.inr (Nat.le_trans (keep_size (w := w) (g := g) (row := none) (y11 HK.out GW107.out GW108.out)) hn_))), Or.elim hk_ (fun hs_ => hs_.2) (fun hn_ => (Kd.fresh' (Kd.N_lt (y12 HO119.out)) k_ hn_)), Or.elim hk_ (fun hs_ => hs_.1.1.2) (fun hn_ => (Kd.freshB (g := gb107) (o := .cells #[.slice (some ad115) l1_0.length c1_0] 41 (0, 0)) (y1 BK107.out) k_ hn_)), Or.elim hk_ (fun hs_ => hs_.1.2) (fun hn_ => (Kd.freshB (g := gb108) (o := .cells #[.int .i64 0, .slice none 0 0] 25 (0, 0)) (y1 BK108.out) k_ hn_)), Or.elim hk_ (fun hs_ => hs_.1.1.1.2) (fun hn_ => (IsS51.fresh (y24 HI0.out NB0_107.out NB0_108.out) k_ hn_))⟩)) (keep_size (w := w) (g := g) (row := none) (y11 HK.out GW107.out GW108.out)))
    replace BK107 := Aside0.mk (KeepBut.blk hk (g' := gb107) (o := .cells #[.slice (some ad115) l1_0.length c1_0] 41 (0, 0)) (y1 BK107.out) NB107_0.out (by simp))
    replace BK108 := Aside0.mk (KeepBut.blk hk (g' := gb108) (o := .cells #[.int .i64 0, .slice none 0 0] 25 (0, 0)) (y1 BK108.out) NB108_0.out (by simp))
    replace HO119 := Aside0.mk (Kd.N_mono (Kd.N_told (Kd.N_oldK (Kd.N_mono (ok := fun k_ => (((P1_0_ k_ ∨ w.heap.size ≤ k_)) ∧ (k_ ≠ gb107 ∧ (k_ ≠ gb108 ∧ k_ ≠ g)))) (y12 HO119.out) (fun k_ hk_ => (⟨hk_, hk_.2.2.2⟩ : _ ∧ k_ ≠ g))) hk) (Kd.N_base ho0)) (fun _ h_ => h_.1))
    replace HK := Aside0.mk (KeepBut.trans (y11 HK.out GW107.out GW108.out) hk (.inl rfl))
    replace HB := Aside0.mk (hb)
    replace HI0 := Aside0.mk (hi)
    (try clear hb)
    (try clear hb2)
    (try clear hk)
    (try clear hi)
    (try clear ho0)
    obtain ⟨Ao27, co27, eo27⟩ := Kd.N_slice HO119.out
    (first | subst eo27 | (injection eo27 with f1_ f2_ f3_; have f4_ := f1_.symm; have f5_ := f3_.symm; clear f1_ f2_ f3_; subst f4_; subst f5_))
    obtain ⟨Ao28, co28, eo28⟩ := Kd.N_slice HO125.out
    (first | subst eo28 | (injection eo28 with f1_ f2_ f3_; have f4_ := f1_.symm; have f5_ := f3_.symm; clear f1_ f2_ f3_; subst f4_; subst f5_))
    refine hK.out _ _ ⟨(blk_cell BK107.out 0).trans rfl, HS1_, HS2_⟩ (fun hHeld => ?_)
    clear hK K
    refine norm_ (a' := ?_) ?_ ?_
    rotate_left
    ·show Act.put _ (some 26) _ = _
     simp only [Act.put, List.setIfInBounds_toArray, List.set_cons_zero, List.set_cons_succ, i64_w, i32_w]
     rfl
    refine one_ (i := 12) (N := some 27) #[true, true, true, true, true, true, true, true, true, true, true, true, true, false, false] rfl rfl (one_of HT_.out (by kernel_rfl)) (by decide) (fun K hK => ?_)
    refine Kd.N_lit_step k25 _ 25 ?hg (N' := 27) ?hd (xs := ([(⟨t116, t117⟩ : S25), (⟨t122, t123⟩ : S25)] : List (S25))) (inner := [.int .i64 t116, .slice Ao27 t117.length co27, .int .i64 t122, .slice Ao28 t123.length co28]) (ok := (fun k_ => (P1_0_ k_ ∨ w.heap.size ≤ k_) ∧ k_ ≠ gb107 ∧ k_ ≠ gb108 ∧ k_ ≠ g)) (okp := (fun k_ => (P1_0_ k_ ∨ w.heap.size ≤ k_) ∧ k_ ≠ gb107 ∧ k_ ≠ gb108 ∧ k_ ≠ g)) ?hr ?hp (fun _ hk => hk) ((show ∀ k_, w26.heap.size ≤ k_ → (fun k_ => (P1_0_ k_ ∨ w.heap.size ≤ k_) ∧ k_ ≠ gb107 ∧ k_ ≠ gb108 ∧ k_ ≠ g) k_ from fun k_ hk => ⟨(.inr (Nat.le_trans (keep_size (w := w) (g := g) (row := none) (y11 HK.out GW107.out GW108.out)) hk)), Kd.freshB (g := gb107) (o := .cells #[.slice (some ad115) l1_0.length c1_0] 41 (0, 0)) (y1 BK107.out) k_ hk, Kd.freshB (g := gb108) (o := .cells #[.int .i64 0, .slice none 0 0] 25 (0, 0)) (y1 BK108.out) k_ hk, IsS51.fresh (y24 HI0.out NB0_107.out NB0_108.out) k_ hk⟩) _ (Nat.le_refl _)) (Below.refl _ _) (Nat.le_refl _) (by simp) ?_; (case hd => rfl); (case hg => rfl); (case hr => first | (go_simp; done) | (go_simp; rfl)); (case hp => exact (Reps.c2 (show Kd.FK k25 _ _ (⟨t116, t117⟩ : S25) [.int .i64 t116, .slice Ao27 t117.length co27] from (k25_mkF _ _ (⟨t116, t117⟩ : S25) (Kd.N_reads' (Kd.N_mono (ok' := (fun k_ => (P1_0_ k_ ∨ w.heap.size ≤ k_) ∧ k_ ≠ gb107 ∧ k_ ≠ gb108 ∧ k_ ≠ g)) (HO119.out) (fun k_ hk => ⟨hk.1.1, ⟨hk.1.2.1, ⟨hk.1.2.2.1, hk.1.2.2.2⟩⟩⟩))).2.1 (Kd.N_F (Kd.N_mono (ok' := (fun k_ => (P1_0_ k_ ∨ w.heap.size ≤ k_) ∧ k_ ≠ gb107 ∧ k_ ≠ gb108 ∧ k_ ≠ g)) (HO119.out) (fun k_ hk => ⟨hk.1.1, ⟨hk.1.2.1, ⟨hk.1.2.2.1, hk.1.2.2.2⟩⟩⟩))))) (Reps.c2 (show Kd.FK k25 _ _ (⟨t122, t123⟩ : S25) [.int .i64 t122, .slice Ao28 t123.length co28] from (k25_mkF _ _ (⟨t122, t123⟩ : S25) (Kd.N_reads' (Kd.N_mono (ok' := (fun k_ => (P1_0_ k_ ∨ w.heap.size ≤ k_) ∧ k_ ≠ gb107 ∧ k_ ≠ gb108 ∧ k_ ≠ g)) (HO125.out) (fun k_ hk => ⟨hk.1, ⟨hk.2.2.1, ⟨hk.2.2.2.1, hk.2.2.2.2⟩⟩⟩))).2.1 (Kd.N_F (Kd.N_mono (ok' := (fun k_ => (P1_0_ k_ ∨ w.heap.size ≤ k_) ∧ k_ ≠ gb107 ∧ k_ ≠ gb108 ∧ k_ ≠ g)) (HO125.out) (fun k_ hk => ⟨hk.1, ⟨hk.2.2.1, ⟨hk.2.2.2.1, hk.2.2.2.2⟩⟩⟩))))) (Reps.none _ _))))
    intro v128 w29 ho30 hb hg_ hnew_
    have HS1_ := (hb.cell (World.block_lt_of_cell? _ _ (hHeld.2.1))).trans (hHeld.2.1)
    have HS2_ := (hb.cell (World.block_lt_of_cell? _ _ (hHeld.2.2))).trans (hHeld.2.2)
    clear hg_ hnew_
    (first | rw [← Ny127.out] at ho30 | (simp only [Int.reduceToNat] at ho30; rw [← Ny127.out] at ho30))
    replace HO1_0 := Aside0.mk (Kd.V_elder' (y28 HO1_0.out) (Kd.N_base ho30) hb)
    replace HL115_0 := Aside0.mk (Kd.V_elder' (y28 HL115_0.out) (Kd.N_base ho30) hb)
    replace HL121_0 := Aside0.mk (Kd.V_elder' (y28 HL121_0.out) (Kd.N_base ho30) hb)
    have HO129 := Aside0.mk (Kd.N_lower ho30 (keep_size (w := w) (g := g) (row := none) (y11 HK.out GW107.out GW108.out)))
    replace BK107 := zbb BK107 hb
    replace BK108 := zbb BK108 hb
    replace HK := Aside0.mk (KeepBut.trans (y11 HK.out GW107.out GW108.out) (KeepBut.of_below hb g none) (.inl rfl))
    replace HB := Aside0.mk (below_step (y30 HB.out HI0.out GE107.out GE108.out) hb)
    replace HI0 := Aside0.mk (IsS51.below (y24 HI0.out NB0_107.out NB0_108.out) hb)
    clear HO119 HO125
    clear hb ho30
    obtain ⟨Ao31, co31, eo31⟩ := Kd.N_slice HO129.out
    (first | subst eo31 | (injection eo31 with f1_ f2_ f3_; have f4_ := f1_.symm; have f5_ := f3_.symm; clear f1_ f2_ f3_; subst f4_; subst f5_))
    refine hK.out _ _ ⟨(blk_cell BK107.out 0).trans rfl, HS1_, HS2_⟩ (fun hHeld => ?_)
    clear hK K
    refine norm_ (a' := ?_) ?_ ?_
    rotate_left
    ·show Act.put _ (some 27) _ = _
     simp only [Act.put, List.setIfInBounds_toArray, List.set_cons_zero, List.set_cons_succ, i64_w, i32_w]
     rfl
    refine zp 13 (some 28) HT_ ?_
    refine one_ (i := 14) (N := none) #[true, true, true, true, true, true, true, true, true, true, true, true, true, true, true] rfl rfl (one_of HT_.out (by kernel_rfl)) (by decide) (fun K hK => ?_)
    have hs32 : w29.cell? ⟨gb108, 0, none⟩ = some (.int .i64 0) := (blk_cell BK108.out 0).trans rfl
    have hfs32 := zfr BK108 0
    have hns32_0 := NB107_108.out
    have hms32_0 := NB108_107.out
    have hs33 : w29.cell? ⟨gb108, 1, none⟩ = some (.slice none 0 0) := (blk_cell BK108.out 1).trans rfl
    have hfs33 := zfr BK108 1
    have hns33_0 := NB107_108.out
    have hms33_0 := NB108_107.out
    refine skip_ (w1 := ?_) (by rfl) rfl ?_ ?_
    rotate_left
    ·go_simp
     rfl
    refine hK.out _ _ ⟨((cell_far (p := ⟨gb108, _, none⟩) NB107_108.out _).trans (((cell_far (p := ⟨gb108, _, none⟩) NB107_108.out _).trans (hHeld.1)))), ((cell_far (p := ⟨gb108, _, none⟩) (by first | exact (hf_V_away HO1_0.out (by first | exact Int.ofNat_lt.1 (of_eq_true (by assumption)) | exact Int.ofNat_lt.1 (Int.lt_trans (by decide : (0 : Int) < 1) (of_eq_true (by assumption)))) (by decide) (fun _ hk => hk.1.1.1.2)) | (rw [add_block]; exact (hf_V_away HO1_0.out (by first | exact Int.ofNat_lt.1 (of_eq_true (by assumption)) | exact Int.ofNat_lt.1 (Int.lt_trans (by decide : (0 : Int) < 1) (of_eq_true (by assumption)))) (by decide) (fun _ hk => hk.1.1.1.2))) | (show (Addr.add _ _).block ≠ _; rw [add_block]; exact (hf_V_away HO1_0.out (by first | exact Int.ofNat_lt.1 (of_eq_true (by assumption)) | exact Int.ofNat_lt.1 (Int.lt_trans (by decide : (0 : Int) < 1) (of_eq_true (by assumption)))) (by decide) (fun _ hk => hk.1.1.1.2))) | (dsimp only; exact (hf_V_away HO1_0.out (by first | exact Int.ofNat_lt.1 (of_eq_true (by assumption)) | exact Int.ofNat_lt.1 (Int.lt_trans (by decide : (0 : Int) < 1) (of_eq_true (by assumption)))) (by decide) (fun _ hk => hk.1.1.1.2)))) _).trans (((cell_far (p := ⟨gb108, _, none⟩) (by first | exact (hf_V_away HO1_0.out (by first | exact Int.ofNat_lt.1 (of_eq_true (by assumption)) | exact Int.ofNat_lt.1 (Int.lt_trans (by decide : (0 : Int) < 1) (of_eq_true (by assumption)))) (by decide) (fun _ hk => hk.1.1.1.2)) | (rw [add_block]; exact (hf_V_away HO1_0.out (by first | exact Int.ofNat_lt.1 (of_eq_true (by assumption)) | exact Int.ofNat_lt.1 (Int.lt_trans (by decide : (0 : Int) < 1) (of_eq_true (by assumption)))) (by decide) (fun _ hk => hk.1.1.1.2))) | (show (Addr.add _ _).block ≠ _; rw [add_block]; exact (hf_V_away HO1_0.out (by first | exact Int.ofNat_lt.1 (of_eq_true (by assumption)) | exact Int.ofNat_lt.1 (Int.lt_trans (by decide : (0 : Int) < 1) (of_eq_true (by assumption)))) (by decide) (fun _ hk => hk.1.1.1.2))) | (dsimp only; exact (hf_V_away HO1_0.out (by first | exact Int.ofNat_lt.1 (of_eq_true (by assumption)) | exact Int.ofNat_lt.1 (Int.lt_trans (by decide : (0 : Int) < 1) (of_eq_true (by assumption)))) (by decide) (fun _ hk => hk.1.1.1.2)))) _).trans (hHeld.2.1)))), ((cell_far (p := ⟨gb108, _, none⟩) (by first | exact (hf_V_away HO1_0.out (by first | exact Int.ofNat_lt.1 (of_eq_true (by assumption)) | exact Int.ofNat_lt.1 (Int.lt_trans (by decide : (0 : Int) < 1) (of_eq_true (by assumption)))) (by decide) (fun _ hk => hk.1.1.1.2)) | (rw [add_block]; exact (hf_V_away HO1_0.out (by first | exact Int.ofNat_lt.1 (of_eq_true (by assumption)) | exact Int.ofNat_lt.1 (Int.lt_trans (by decide : (0 : Int) < 1) (of_eq_true (by assumption)))) (by decide) (fun _ hk => hk.1.1.1.2))) | (show (Addr.add _ _).block ≠ _; rw [add_block]; exact (hf_V_away HO1_0.out (by first | exact Int.ofNat_lt.1 (of_eq_true (by assumption)) | exact Int.ofNat_lt.1 (Int.lt_trans (by decide : (0 : Int) < 1) (of_eq_true (by assumption)))) (by decide) (fun _ hk => hk.1.1.1.2))) | (dsimp only; exact (hf_V_away HO1_0.out (by first | exact Int.ofNat_lt.1 (of_eq_true (by assumption)) | exact Int.ofNat_lt.1 (Int.lt_trans (by decide : (0 : Int) < 1) (of_eq_true (by assumption)))) (by decide) (fun _ hk => hk.1.1.1.2)))) _).trans (((cell_far (p := ⟨gb108, _, none⟩) (by first | exact (hf_V_away HO1_0.out (by first | exact Int.ofNat_lt.1 (of_eq_true (by assumption)) | exact Int.ofNat_lt.1 (Int.lt_trans (by decide : (0 : Int) < 1) (of_eq_true (by assumption)))) (by decide) (fun _ hk => hk.1.1.1.2)) | (rw [add_block]; exact (hf_V_away HO1_0.out (by first | exact Int.ofNat_lt.1 (of_eq_true (by assumption)) | exact Int.ofNat_lt.1 (Int.lt_trans (by decide : (0 : Int) < 1) (of_eq_true (by assumption)))) (by decide) (fun _ hk => hk.1.1.1.2))) | (show (Addr.add _ _).block ≠ _; rw [add_block]; exact (hf_V_away HO1_0.out (by first | exact Int.ofNat_lt.1 (of_eq_true (by assumption)) | exact Int.ofNat_lt.1 (Int.lt_trans (by decide : (0 : Int) < 1) (of_eq_true (by assumption)))) (by decide) (fun _ hk => hk.1.1.1.2))) | (dsimp only; exact (hf_V_away HO1_0.out (by first | exact Int.ofNat_lt.1 (of_eq_true (by assumption)) | exact Int.ofNat_lt.1 (Int.lt_trans (by decide : (0 : Int) < 1) (of_eq_true (by assumption)))) (by decide) (fun _ hk => hk.1.1.1.2)))) _).trans (hHeld.2.2))))⟩ (fun hHeld => ?_)
    clear hK K
    refine done_ (done_of HT_.out (by kernel_rfl)) ?_
    try go_wp2
    refine bodyPost_ret (results_cell_row rfl _ _ gb108 25 #[.int .i64 0, .slice Ao31 y127.length co31] (0, 0) _ rfl (by (with_reducible repeat (first | refine blk_drewN ?_ _ | refine blk_drew ?_ | refine blk_alloc ?_ _)); refine blk_put (cs := #[.int .i64 0, .slice none 0 0]) ?_ 1 _ rfl; (with_reducible repeat (first | refine blk_drewN ?_ _ | refine blk_drew ?_ | refine blk_alloc ?_ _)); apply blk_put (i := 0); (case h => exact y1 BK108.out); (case e => rfl)) Tryd.underlying25 rfl (by kernel_rfl)) rfl ?_
    exact ⟨_, y7, (by (with_reducible repeat (first | apply Kd.N_alloc | apply Kd.N_drewN | apply Kd.N_drew)); exact Kd.N_mono (Kd.N_far (p := ⟨gb108, 1, none⟩) (Kd.N_far (p := ⟨gb108, 0, none⟩) (Kd.N_mono HO129.out (fun k_ hk => (⟨hk, hk.2.2.1⟩ : _ ∧ k_ ≠ gb108))) (fun _ hk => hk.2) (.int .i64 0)) (fun _ hk => hk.2) (.slice Ao31 y127.length co31)) (fun _ hk => hk.1.1)), (y24 HI0.out NB0_107.out NB0_108.out), (y30 HB.out HI0.out GE107.out GE108.out), (y11 HK.out GW107.out GW108.out)⟩
   ·rw [if_neg c22] at H
    exact absurd H (by simp)
  ·rw [if_neg c20] at H
   exact absurd H (by simp)
end Go.Proofs.YtihfbpmblppbgaaDoor.PA
end
section
namespace Go.Proofs.YtihfbpmblppbgaaDoor.PA
open Go.RowKit Go.Proofs.YtihfbpmblppbgaaDoorW.PrintWords Go.Proofs.YtihfbpmblppbgaaDoorW.PrintLast Go.Proofs.YtihfbpmblppbgaaDoorW.PrintMore
attribute [local go_sem] max2_int min2_int max_two min_two max_three min_three max_four min_four
set_option linter.unusedVariables false
set_option linter.unusedSimpArgs false
def spec_l71Bad.l0 : Nat → Int → List Int → Int → Int → List (S25) → Option (Int × (List (S25)) × Int)
 | 0, _, _, _, _, _ => none
 | k + 1, x6, x1000, x1001, x138000, x138001 => if x6 < 5 then (spec_l71Bad.l0 k (wrap64 (x6 + 1)) x1000 x1001 0 (([(⟨x138000, x138001⟩ : S25), (⟨0, ([] : List (S25))⟩ : S25)] : List (S25)))) else (some (x138000, x138001, x1001))
def spec_l71Bad.f (k : Nat) (s0_0 : List Int) (s0_1 : Int) (l1_0 : List (S41)) : Option (Int × (List (S25)) × Int) := (spec_l71Val.f k s0_0 s0_1 l1_0).bind fun bt132 => ((spec_l6Rd_pick.f k s0_0 bt132.2.2 12).bind fun bt138 => (if bt138.1 = 0 then ((some (([(-1), 1, 9999, 10000] : List Int) : List Int)).bind fun y140 => ((spec_l6Rd_pick.f k s0_0 bt138.2 4).bind fun bt143 => (if 0 ≤ bt143.1 then (if bt143.1 < (y140.length : Int) then (some (rd y140 bt143.1, bt132.2.1, bt143.2)) else (none)) else (none)))) else (if bt138.1 = 1 then (if bt132.2.1.length < 4398046511104 then (some (bt132.1, (bt132.2.1 ++ [(⟨0, ([] : List (S25))⟩ : S25)]), bt138.2)) else (none)) else (if bt138.1 = 2 then (spec_l71Bad.l0 k 0 s0_0 bt138.2 bt132.1 bt132.2.1) else (some (bt132.1, bt132.2.1, bt138.2))))))
theorem spec_l71Bad.mono_l : ∀ k, (∀ y0 y1 y2 y3 y4, LeO (spec_l71Bad.l0 k y0 y1 y2 y3 y4) (spec_l71Bad.l0 (k + 1) y0 y1 y2 y3 y4))
 | 0 => fun _ _ _ _ _ r h => by simp [spec_l71Bad.l0] at h
 | k + 1 => by
  have ih0 := spec_l71Bad.mono_l k
  ·intro y0 y1 y2 y3 y4
   unfold spec_l71Bad.l0
   repeat' first
   | (with_reducible exact ih0 _ _ _ _ _)
   | (with_reducible exact spec_l6Rd_pick.mono _ _ _ _)
   | (with_reducible exact spec_l71Val.mono _ _ _ _)
   | (with_reducible exact LeO.refl _)
   | (with_reducible exact LeO.none _)
   | (with_reducible refine LeO.ite ?_ ?_)
   | (with_reducible refine LeO.bind ?_ (fun _ => ?_))
   | exact ih0 _ _ _ _ _
   | exact spec_l6Rd_pick.mono _ _ _ _
   | exact spec_l71Val.mono _ _ _ _
   | exact LeO.none _
   | refine LeO.ite ?_ ?_
   | refine LeO.bind ?_ (fun _ => ?_)
theorem spec_l71Bad.mono : ∀ a0 a1 a2 k, LeO (spec_l71Bad.f k a0 a1 a2) (spec_l71Bad.f (k + 1) a0 a1 a2) := by
 intro a0 a1 a2 k
 have ih0 := spec_l71Bad.mono_l k
 unfold spec_l71Bad.f
 repeat' first
   | (with_reducible exact ih0 _ _ _ _ _)
   | (with_reducible exact spec_l6Rd_pick.mono _ _ _ _)
   | (with_reducible exact spec_l71Val.mono _ _ _ _)
   | (with_reducible exact LeO.refl _)
   | (with_reducible exact LeO.none _)
   | (with_reducible refine LeO.ite ?_ ?_)
   | (with_reducible refine LeO.bind ?_ (fun _ => ?_))
   | exact ih0 _ _ _ _ _
   | exact spec_l6Rd_pick.mono _ _ _ _
   | exact spec_l71Val.mono _ _ _ _
   | exact LeO.none _
   | refine LeO.ite ?_ ?_
   | refine LeO.bind ?_ (fun _ => ?_)
set_option maxHeartbeats 8000000 in
set_option maxRecDepth 100000 in
theorem spec_l71Bad.calls (k : Nat) (g : Nat) (s0_0 : List Int) (s0_1 : Int) (P1_0_ : Nat → Prop) (A1_0 : Option Addr) (c1_0 : Nat) (l1_0 : List (S41)) (r1 : Int) (r2 : List (S25)) (r3 : Int) (w0 w : World) (hI : IsS51 w0 w g s0_0 s0_1) (hB : Below w0.heap.size w0 w) (hs1_0 : Kd.V k41 41 w w.heap.size (fun k_ => P1_0_ k_ ∧ k_ ≠ g) (.slice A1_0 l1_0.length c1_0) l1_0) (h : spec_l71Bad.f k s0_0 s0_1 l1_0 = some (r1, r2, r3)) :
  Calls Tryd.prog 13 #[.pointer (some ⟨g, 0, none⟩), .agg #[.slice A1_0 l1_0.length c1_0]] w fun e w' => ∃ v1_ : Value, e = .returned (.agg #[.int .i64 r1, v1_]) ∧ Kd.N k25 25 w' w.heap.size (fun k_ => (P1_0_ k_ ∨ w.heap.size ≤ k_)) v1_ r2 ∧ IsS51 w0 w' g s0_0 r3 ∧ Below w0.heap.size w0 w' ∧ KeepBut w w' g none := by
 have hu41 := Tryd.underlying41
 have hu25 := Tryd.underlying25
 have HO1_0 := Aside0.mk (show Kd.V k41 41 w w.heap.size (fun k_ => (P1_0_ k_ ∨ w.heap.size ≤ k_) ∧ k_ ≠ g) (.slice A1_0 l1_0.length c1_0) l1_0 from Kd.V_mono hs1_0 (fun k_ hk => ⟨.inl hk.1, hk.2⟩))
 have HI0 := Aside0.mk hI
 have HK := Aside0.mk (KeepBut.refl w g none)
 have HL := Aside0.mk hB.size
 clear hI
 have HW0 := Aside0.mk hB.size
 have HB := Aside0.mk hB
 clear hB
 have H : ((spec_l71Val.f k s0_0 s0_1 l1_0).bind fun bt132 => ((spec_l6Rd_pick.f k s0_0 bt132.2.2 12).bind fun bt138 => (if bt138.1 = 0 then ((some (([(-1), 1, 9999, 10000] : List Int) : List Int)).bind fun y140 => ((spec_l6Rd_pick.f k s0_0 bt138.2 4).bind fun bt143 => (if 0 ≤ bt143.1 then (if bt143.1 < (y140.length : Int) then (some (rd y140 bt143.1, bt132.2.1, bt143.2)) else (none)) else (none)))) else (if bt138.1 = 1 then (if bt132.2.1.length < 4398046511104 then (some (bt132.1, (bt132.2.1 ++ [(⟨0, ([] : List (S25))⟩ : S25)]), bt138.2)) else (none)) else (if bt138.1 = 2 then (spec_l71Bad.l0 k 0 s0_0 bt138.2 bt132.1 bt132.2.1) else (some (bt132.1, bt132.2.1, bt138.2))))))) = some (r1, r2, r3) := h
 clear h
 obtain ⟨⟨t132, t133, t136⟩, A30, H⟩ := ob H
 have A3 := Aside0.mk A30
 clear A30
 obtain ⟨⟨t138, t139⟩, A40, H⟩ := ob H
 have A4 := Aside0.mk A40
 clear A40
 have HZ5 := Aside0.mk H
 clear H
 go_enter Tryd.func13, Tryd.ntmps13
 go_upto_if 12 with (first | ((with_reducible refine gate_dst (N := 3) rfl ?_); refine zbx 3 #[.slice A1_0 l1_0.length c1_0] 41 ?_; intro gb130 hg w6 hbox hb; replace HO1_0 := Aside0.mk (Kd.V_below (Kd.V_elderB (y28 HO1_0.out) gb130 (Nat.le_of_eq hg.symm)) hb); replace HB := Aside0.mk (below_step (y32 HB.out HI0.out) hb); have BK130 := Aside0.mk hbox; have GW130 := Aside0.mk ((by rw [hg]; exact (keep_size (w := w) (g := g) (row := none) (y29 HK.out)) : w.heap.size ≤ gb130)); have GE130 := Aside0.mk ((Nat.le_trans HW0.out (by rw [hg]; exact (keep_size (w := w) (g := g) (row := none) (y29 HK.out)) : w.heap.size ≤ gb130) : w0.heap.size ≤ gb130)); replace HK := Aside0.mk (KeepBut.trans (y29 HK.out) (KeepBut.of_below hb g none) (.inl rfl)); have NB0_130 := Aside0.mk ((by rw [hg]; exact Nat.ne_of_lt (IsS51.lt (show IsS51 w0 _ g s0_0 s0_1 from by repeat (first | (with_reducible first | exact HI0.out | apply IsS51.alloc | apply IsS51.drewN | apply IsS51.drew | apply IsS51.set_1) | exact HI0.out))) : g ≠ gb130)); have NB130_0 := Aside0.mk ((by rw [hg]; exact Nat.ne_of_gt (IsS51.lt (show IsS51 w0 _ g s0_0 s0_1 from by repeat (first | (with_reducible first | exact HI0.out | apply IsS51.alloc | apply IsS51.drewN | apply IsS51.drew | apply IsS51.set_1) | exact HI0.out))) : gb130 ≠ g)); replace HI0 := Aside0.mk (IsS51.below (y33 HI0.out) hb); clear hb hbox hg) | ((with_reducible refine gate_dst (N := 4) rfl ?_); refine zbx 4 #[.int .i64 0, .slice none 0 0] 25 ?_; intro gb131 hg w7 hbox hb; replace HO1_0 := Aside0.mk (Kd.V_below (Kd.V_elderB (y28 HO1_0.out) gb131 (Nat.le_of_eq hg.symm)) hb); replace HB := Aside0.mk (below_step (y14 HB.out HI0.out GE130.out) hb); have BK131 := Aside0.mk hbox; have GW131 := Aside0.mk ((by rw [hg]; exact (keep_size (w := w) (g := g) (row := none) (y16 HK.out GW130.out)) : w.heap.size ≤ gb131)); have GE131 := Aside0.mk ((Nat.le_trans HW0.out (by rw [hg]; exact (keep_size (w := w) (g := g) (row := none) (y16 HK.out GW130.out)) : w.heap.size ≤ gb131) : w0.heap.size ≤ gb131)); replace HK := Aside0.mk (KeepBut.trans (y16 HK.out GW130.out) (KeepBut.of_below hb g none) (.inl rfl)); have NB130_131 := zltn hg BK130; have NB131_130 := zgtn hg BK130; replace BK130 := zbb BK130 hb; have NB0_131 := Aside0.mk ((by rw [hg]; exact Nat.ne_of_lt (IsS51.lt (show IsS51 w0 _ g s0_0 s0_1 from by repeat (first | (with_reducible first | exact HI0.out | apply IsS51.alloc | apply IsS51.drewN | apply IsS51.drew | apply IsS51.set_1 | refine IsS51.far ?_ NB0_130.out _) | exact HI0.out))) : g ≠ gb131)); have NB131_0 := Aside0.mk ((by rw [hg]; exact Nat.ne_of_gt (IsS51.lt (show IsS51 w0 _ g s0_0 s0_1 from by repeat (first | (with_reducible first | exact HI0.out | apply IsS51.alloc | apply IsS51.drewN | apply IsS51.drew | apply IsS51.set_1 | refine IsS51.far ?_ NB0_130.out _) | exact HI0.out))) : gb131 ≠ g)); replace HI0 := Aside0.mk (IsS51.below (y17 HI0.out NB0_130.out) hb); clear hb hbox hg; have hnb8 := NB130_131.out; have hnc8 := NB131_130.out; have hnb9 := NB130_0.out; have hnc9 := NB0_130.out; have hcz10_0 := zh BK130; have hfz10_0 := zfr BK130 0) | ((with_reducible refine gate_callee (f := 23) rfl ?_); refine goesL_ (some 9) rfl rfl Tryd.func23 (by kernel_rfl) rfl #[.pointer (some ⟨g, 0, none⟩), .agg #[.slice A1_0 l1_0.length c1_0]] rfl y4 ?_; (with_reducible refine (spec_l71Val.calls k g s0_0 s0_1 (fun k_ => ((((P1_0_ k_ ∨ w.heap.size ≤ k_) ∧ k_ ≠ g) ∧ k_ ≠ gb130) ∧ k_ ≠ gb131)) _ _ l1_0 t132 t133 t136 w0 _ ?side1 ?side2 ?side3 A3.out).mono ?_); (case side1 => exact y24 HI0.out NB0_130.out NB0_131.out); (case side2 => exact y30 HB.out HI0.out GE130.out GE131.out); (case side3 => exact Kd.V_mono (HO1_0.out) (fun k_ hk_ => ⟨hk_, hk_.1.1.2⟩)); rintro e w11 ⟨v134, rfl, ho0, hi, hb, hk⟩; refine ⟨_, rfl, ?_⟩; replace HO1_0 := Aside0.mk (Kd.V_mono (Kd.V_told (Kd.V_oldK (Kd.V_mono (ok := fun k_ => (((((P1_0_ k_ ∨ w.heap.size ≤ k_)) ∧ k_ ≠ g) ∧ k_ ≠ gb130) ∧ k_ ≠ gb131)) (y28 HO1_0.out) (fun k_ hk_ => (⟨hk_, hk_.1.1.2⟩ : _ ∧ k_ ≠ g))) hk) (Kd.N_base ho0)) (fun _ h_ => h_.1)); have HO135 := Aside0.mk (Kd.N_lower (Kd.N_mono (ok' := fun k_ => (P1_0_ k_ ∨ w.heap.size ≤ k_) ∧ k_ ≠ gb130 ∧ k_ ≠ gb131 ∧ k_ ≠ g) ho0 (fun k_ hk_ => ⟨Or.elim hk_ (fun hs_ => hs_.1.1.1) (fun hn_ => (.inr (Nat.le_trans (keep_size (w := w) (g := g) (row := none) (y11 HK.out GW130.out GW131.out)) hn_))), Or.elim hk_ (fun hs_ => hs_.1.2) (fun hn_ => (Kd.freshB (g := gb130) (o := .cells #[.slice A1_0 l1_0.length c1_0] 41 (0, 0)) (y1 BK130.out) k_ hn_)), Or.elim hk_ (fun hs_ => hs_.2) (fun hn_ => (Kd.freshB (g := gb131) (o := .cells #[.int .i64 0, .slice none 0 0] 25 (0, 0)) (y1 BK131.out) k_ hn_)), Or.elim hk_ (fun hs_ => hs_.1.1.2) (fun hn_ => (IsS51.fresh (y24 HI0.out NB0_130.out NB0_131.out) k_ hn_))⟩)) (keep_size (w := w) (g := g) (row := none) (y11 HK.out GW130.out GW131.out))); replace BK130 := Aside0.mk (KeepBut.blk hk (g' := gb130) (o := .cells #[.slice A1_0 l1_0.length c1_0] 41 (0, 0)) (y1 BK130.out) NB130_0.out (by simp)); replace BK131 := Aside0.mk (KeepBut.blk hk (g' := gb131) (o := .cells #[.int .i64 0, .slice none 0 0] 25 (0, 0)) (y1 BK131.out) NB131_0.out (by simp)); replace HK := Aside0.mk (KeepBut.trans (y11 HK.out GW130.out GW131.out) hk (.inl rfl)); replace HB := Aside0.mk (hb); replace HI0 := Aside0.mk (hi); (try clear hb); (try clear hb2); (try clear hk); (try clear hi); (try clear ho0)) | ((with_reducible refine gate_dst (N := 5) rfl ?_); refine zbx 5 #[.int .i64 0, .slice none 0 0] 25 ?_; intro gb137 hg w12 hbox hb; replace HO1_0 := Aside0.mk (Kd.V_below (Kd.V_elderB (y28 HO1_0.out) gb137 (Nat.le_of_eq hg.symm)) hb); replace HO135 := Aside0.mk (Kd.N_below (Kd.N_elderB (y12 HO135.out) gb137 (Nat.le_of_eq hg.symm)) hb); replace HB := Aside0.mk (below_step (y30 HB.out HI0.out GE130.out GE131.out) hb); have BK137 := Aside0.mk hbox; have GW137 := Aside0.mk ((by rw [hg]; exact (keep_size (w := w) (g := g) (row := none) (y11 HK.out GW130.out GW131.out)) : w.heap.size ≤ gb137)); have GE137 := Aside0.mk ((Nat.le_trans HW0.out (by rw [hg]; exact (keep_size (w := w) (g := g) (row := none) (y11 HK.out GW130.out GW131.out)) : w.heap.size ≤ gb137) : w0.heap.size ≤ gb137)); replace HK := Aside0.mk (KeepBut.trans (y11 HK.out GW130.out GW131.out) (KeepBut.of_below hb g none) (.inl rfl)); have NB130_137 := zltn hg BK130; have NB137_130 := zgtn hg BK130; replace BK130 := zbb BK130 hb; have NB131_137 := zltn hg BK131; have NB137_131 := zgtn hg BK131; replace BK131 := zbb BK131 hb; have NB0_137 := Aside0.mk ((by rw [hg]; exact Nat.ne_of_lt (IsS51.lt (show IsS51 w0 _ g s0_0 t136 from by repeat (first | (with_reducible first | exact HI0.out | apply IsS51.alloc | apply IsS51.drewN | apply IsS51.drew | apply IsS51.set_1 | refine IsS51.far ?_ NB0_130.out _ | refine IsS51.far ?_ NB0_131.out _) | exact HI0.out))) : g ≠ gb137)); have NB137_0 := Aside0.mk ((by rw [hg]; exact Nat.ne_of_gt (IsS51.lt (show IsS51 w0 _ g s0_0 t136 from by repeat (first | (with_reducible first | exact HI0.out | apply IsS51.alloc | apply IsS51.drewN | apply IsS51.drew | apply IsS51.set_1 | refine IsS51.far ?_ NB0_130.out _ | refine IsS51.far ?_ NB0_131.out _) | exact HI0.out))) : gb137 ≠ g)); replace HI0 := Aside0.mk (IsS51.below (y24 HI0.out NB0_130.out NB0_131.out) hb); clear hb hbox hg; have hnb13 := NB137_130.out; have hnc13 := NB130_137.out; have hnb14 := NB137_131.out; have hnc14 := NB131_137.out; have hnb15 := NB137_0.out; have hnc15 := NB0_137.out; have hcz16_0 := zh BK137; have hcz16_1 := zh1 BK137; have hfz16_0 := zfr BK137 0; have hfz16_1 := zfr BK137 1; obtain ⟨Ao17, co17, eo17⟩ := Kd.N_slice HO135.out; subst eo17) | ((with_reducible refine gate_callee (f := 15) rfl ?_); refine goesL_ (some 11) rfl rfl Tryd.func15 (by kernel_rfl) rfl #[.pointer (some ⟨g, 0, none⟩), .int .i64 12] rfl y4 ?_; (with_reducible refine (spec_l6Rd_pick.calls k g s0_0 t136 12 t138 t139 w0 _ ?side1 ?side2 A4.out).mono ?_); (case side1 => exact y18 HI0.out NB0_130.out NB0_131.out NB0_137.out); (case side2 => exact y22 HB.out HI0.out GE130.out GE131.out GE137.out); rintro e w18 ⟨rfl, hi, hb, hk⟩; refine ⟨_, rfl, ?_⟩; replace HO1_0 := Aside0.mk (Kd.V_mono (Kd.V_keep (Kd.V_mono (ok := fun k_ => (((((((P1_0_ k_ ∨ w.heap.size ≤ k_)) ∧ k_ ≠ g) ∧ k_ ≠ gb130) ∧ k_ ≠ gb131) ∧ some k_ ≠ (.slice Ao17 t133.length co17 : Value).ownBlock) ∧ k_ ≠ gb137)) (by (with_reducible repeat (first | apply Kd.V_alloc | apply Kd.V_drewN | apply Kd.V_drew)); exact (Kd.V_mono (Kd.V_far (p := ⟨gb137, 1, none⟩) (Kd.V_far (p := ⟨gb137, 0, none⟩) (Kd.V_mono HO1_0.out (fun k_ hk => (⟨hk, hk.2⟩ : _ ∧ k_ ≠ gb137))) (fun _ hk => hk.2) (.int .i64 t132)) (fun _ hk => hk.2) (.slice Ao17 t133.length co17)) (fun _ h_ => h_.1))) (fun k_ hk_ => (⟨hk_, hk_.1.1.1.1.2⟩ : _ ∧ k_ ≠ g))) hk (fun _ h => h.2)) (fun _ h => h.1)); replace BK130 := Aside0.mk (KeepBut.blk hk (g' := gb130) (o := .cells #[.slice A1_0 l1_0.length c1_0] 41 (0, 0)) (y23 NB130_137.out BK130.out) NB130_0.out (by simp)); replace BK131 := Aside0.mk (KeepBut.blk hk (g' := gb131) (o := .cells #[.int .i64 0, .slice none 0 0] 25 (0, 0)) (y23 NB131_137.out BK131.out) NB131_0.out (by simp)); replace HO135 := Aside0.mk (Kd.N_mono (Kd.N_keep (Kd.N_mono (ok := fun k_ => ((((P1_0_ k_ ∨ w.heap.size ≤ k_)) ∧ (k_ ≠ gb130 ∧ (k_ ≠ gb131 ∧ k_ ≠ g))) ∧ k_ ≠ gb137)) (by (with_reducible repeat (first | apply Kd.N_alloc | apply Kd.N_drewN | apply Kd.N_drew)); exact (Kd.N_mono (Kd.N_far (p := ⟨gb137, 1, none⟩) (Kd.N_far (p := ⟨gb137, 0, none⟩) (Kd.N_mono HO135.out (fun k_ hk => (⟨hk, hk.2⟩ : _ ∧ k_ ≠ gb137))) (fun _ hk => hk.2) (.int .i64 t132)) (fun _ hk => hk.2) (.slice Ao17 t133.length co17)) (fun _ h_ => h_.1))) (fun k_ hk_ => (⟨hk_, hk_.1.2.2.2⟩ : _ ∧ k_ ≠ g))) hk (fun _ h => h.2)) (fun _ h => h.1)); replace BK137 := Aside0.mk (KeepBut.blk hk (g' := gb137) (o := .cells #[.int .i64 t132, .slice Ao17 t133.length co17] 25 (0, 0)) (by (with_reducible repeat (first | refine blk_drewN ?_ _ | refine blk_drew ?_ | refine blk_alloc ?_ _)); refine blk_put (cs := #[.int .i64 t132, .slice none 0 0]) ?_ 1 _ rfl; (with_reducible repeat (first | refine blk_drewN ?_ _ | refine blk_drew ?_ | refine blk_alloc ?_ _)); apply blk_put (i := 0); (case h => exact y1 BK137.out); (case e => rfl)) NB137_0.out (by simp)); replace HK := Aside0.mk (KeepBut.trans (y13 HK.out GW130.out GW131.out GW137.out) hk (.inl rfl)); replace HB := Aside0.mk (hb); replace HI0 := Aside0.mk (hi); (try clear hb); (try clear hb2); (try clear hk); (try clear hi)))
 (try simp only [Act.put, List.setIfInBounds_toArray, List.set_cons_zero, List.set_cons_succ])
 have H := HZ5.out
 clear HZ5
 by_cases c19 : t138 = 0
 ·rw [if_pos c19] at H
  have c19b0 : (t138 == 0) = true := beq_iff_eq.mpr c19
  have c19b1 : (t138 != 0) = false := bne_eq_false_iff_eq.mpr c19
  clear c19
  (first | rw [c19b0] | (simp only [i64_w, i32_w]; rw [c19b0]) | skip)
  obtain ⟨y140, hy140⟩ : ∃ y_ : List Int, y_ = (([(-1), 1, 9999, 10000] : List Int)) := ⟨_, rfl⟩
  replace H : ((spec_l6Rd_pick.f k s0_0 t139 4).bind fun bt143 => (if 0 ≤ bt143.1 then (if bt143.1 < (y140.length : Int) then (some (rd y140 bt143.1, t133, bt143.2)) else (none)) else (none))) = some (r1, r2, r3) := by first | (rw [hy140]; with_reducible exact H) | (have H2_ := (Option.bind_some _ _).symm.trans H; rw [hy140]; with_reducible exact H2_) | (have H2_ := (Option.bind_some _ _).symm.trans H; with_reducible exact H2_) | with_reducible exact H | (rw [hy140]; exact H) | exact H
  have Ny140 := Aside0.mk hy140
  clear hy140
  obtain ⟨⟨t143, t144⟩, A200, H⟩ := ob H
  have A20 := Aside0.mk A200
  clear A200
  by_cases c21 : 0 ≤ t143
  ·rw [if_pos c21] at H
   have c21b0 : decide (0 ≤ t143) = true := decide_eq_true c21
   clear c21
   by_cases c22 : t143 < (y140.length : Int)
   ·rw [if_pos c22] at H
    have c22b0 : decide (t143 < (y140.length : Int)) = true := decide_eq_true c22
    clear c22
    simp only [Option.some.injEq, Prod.mk.injEq] at H
    obtain ⟨rfl, rfl, rfl⟩ := H
    go_wp2_with (first | ((with_reducible refine gate_dst (N := 14) rfl ?_); refine Kd.R_lit (Kd.int .i64) _ 3 ?hg (N := 14) ?hd (xs := ([(-1), 1, 9999, 10000] : List Int)) (inner := [.int .i64 (-1), .int .i64 1, .int .i64 9999, .int .i64 10000]) (ok := fun _ => True) (okp := fun _ => True) ?hr ?hp (fun _ hk => hk) trivial (Below.refl _ _) (Nat.le_refl _) (by simp) ?_; (case hd => rfl); (case hg => rfl); (case hr => first | (go_simp; done) | (go_simp; rfl)); (case hp => exact (Reps.one (show Kd.M (Kd.int .i64) _ _ _ (-1) [.int .i64 (-1)] from rfl) (Reps.one (show Kd.M (Kd.int .i64) _ _ _ 1 [.int .i64 1] from rfl) (Reps.one (show Kd.M (Kd.int .i64) _ _ _ 9999 [.int .i64 9999] from rfl) (Reps.one (show Kd.M (Kd.int .i64) _ _ _ 10000 [.int .i64 10000] from rfl) (Reps.none _ _)))))); intro v141 w23 ho24 hb hg_ hnew_; clear hg_ hnew_; (first | rw [← Ny140.out] at ho24 | (simp only [Int.reduceToNat] at ho24; rw [← Ny140.out] at ho24)); replace HO1_0 := Aside0.mk (Kd.V_elder' (y28 HO1_0.out) (Kd.R_base ho24) hb); replace HO135 := Aside0.mk (Kd.N_elder' (y12 HO135.out) (Kd.R_base ho24) hb); have HO142 := Aside0.mk (Kd.R_lower (Kd.R_newM (M := fun k_ => (w.heap.size ≤ k_)) ho24 (keep_size (w := w) (g := g) (row := none) (y13 HK.out GW130.out GW131.out GW137.out)) (fun k_ h_ => h_)) (keep_size (w := w) (g := g) (row := none) (y13 HK.out GW130.out GW131.out GW137.out))); replace BK130 := zbb BK130 hb; replace BK131 := zbb BK131 hb; replace BK137 := zbb BK137 hb; replace HK := Aside0.mk (KeepBut.trans (y13 HK.out GW130.out GW131.out GW137.out) (KeepBut.of_below hb g none) (.inl rfl)); replace HB := Aside0.mk (below_step (y22 HB.out HI0.out GE130.out GE131.out GE137.out) hb); replace HI0 := Aside0.mk (IsS51.below (y18 HI0.out NB0_130.out NB0_131.out NB0_137.out) hb); clear hb ho24) | ((with_reducible refine gate_callee (f := 15) rfl ?_); refine goesL_ (some 16) rfl rfl Tryd.func15 (by kernel_rfl) rfl #[.pointer (some ⟨g, 0, none⟩), .int .i64 4] rfl y4 ?_; (with_reducible refine (spec_l6Rd_pick.calls k g s0_0 t139 4 t143 t144 w0 _ ?side1 ?side2 A20.out).mono ?_); (case side1 => exact y18 HI0.out NB0_130.out NB0_131.out NB0_137.out); (case side2 => exact y22 HB.out HI0.out GE130.out GE131.out GE137.out); rintro e w25 ⟨rfl, hi, hb, hk⟩; refine ⟨_, rfl, ?_⟩; replace HO1_0 := Aside0.mk (Kd.V_mono (Kd.V_keep (Kd.V_mono (ok := fun k_ => ((((((((P1_0_ k_ ∨ w.heap.size ≤ k_)) ∧ k_ ≠ g) ∧ k_ ≠ gb130) ∧ k_ ≠ gb131) ∧ some k_ ≠ (.slice Ao17 t133.length co17 : Value).ownBlock) ∧ k_ ≠ gb137) ∧ some k_ ≠ (v141 : Value).ownBlock)) (y28 HO1_0.out) (fun k_ hk_ => (⟨hk_, hk_.1.1.1.1.1.2⟩ : _ ∧ k_ ≠ g))) hk (fun _ h => h.2)) (fun _ h => h.1)); replace BK130 := Aside0.mk (KeepBut.blk hk (g' := gb130) (o := .cells #[.slice A1_0 l1_0.length c1_0] 41 (0, 0)) (y1 BK130.out) NB130_0.out (by simp)); replace BK131 := Aside0.mk (KeepBut.blk hk (g' := gb131) (o := .cells #[.int .i64 0, .slice none 0 0] 25 (0, 0)) (y1 BK131.out) NB131_0.out (by simp)); replace HO135 := Aside0.mk (Kd.N_mono (Kd.N_keep (Kd.N_mono (ok := fun k_ => (((((P1_0_ k_ ∨ w.heap.size ≤ k_)) ∧ (k_ ≠ gb130 ∧ (k_ ≠ gb131 ∧ k_ ≠ g))) ∧ k_ ≠ gb137) ∧ some k_ ≠ (v141 : Value).ownBlock)) (y12 HO135.out) (fun k_ hk_ => (⟨hk_, hk_.1.1.2.2.2⟩ : _ ∧ k_ ≠ g))) hk (fun _ h => h.2)) (fun _ h => h.1)); replace BK137 := Aside0.mk (KeepBut.blk hk (g' := gb137) (o := .cells #[.int .i64 t132, .slice Ao17 t133.length co17] 25 (0, 0)) (y1 BK137.out) NB137_0.out (by simp)); replace HO142 := Aside0.mk (Kd.R_mono (Kd.R_keep (IsS51.apart (show IsS51 w0 _ g s0_0 t139 from by repeat (first | (with_reducible first | exact HI0.out | apply IsS51.alloc | apply IsS51.drewN | apply IsS51.drew | apply IsS51.set_1 | refine IsS51.far ?_ NB0_130.out _ | refine IsS51.far ?_ NB0_131.out _ | refine IsS51.far ?_ NB0_137.out _) | exact HI0.out)) (y15 HO142.out) (by decide)) hk (fun _ h => h.2)) (fun _ h => h.1)); replace HK := Aside0.mk (KeepBut.trans (y13 HK.out GW130.out GW131.out GW137.out) hk (.inl rfl)); replace HB := Aside0.mk (hb); replace HI0 := Aside0.mk (hi); (try clear hb); (try clear hb2); (try clear hk); (try clear hi); obtain ⟨Ao26, co26, eo26⟩ := Kd.R_slice HO142.out; subst eo26; have p145 : 0 ≤ (t143 : Int) := of_decide_eq_true y19; have q145 : t143 < (y140.length : Int) := of_decide_eq_true y19; obtain ⟨ad145, e145, hx145_0⟩ := Kd.at_int (Kd.R_reads' HO142.out).2.2 t143 p145 q145; cases e145; replace p145 := eq_true p145; replace q145 := eq_true q145; have hnb27 := NB137_130.out; have hnc27 := NB130_137.out; have hnb28 := NB137_131.out; have hnc28 := NB131_137.out; have hnb29 := NB137_0.out; have hnc29 := NB0_137.out; have hcz30_0 := zh BK137; have hcz30_1 := zh1 BK137; have hfz30_0 := zfr BK137 0; have hfz30_1 := zfr BK137 1; have hnb31 := NB131_130.out; have hnc31 := NB130_131.out; have hnb32 := NB131_0.out; have hnc32 := NB0_131.out; have hcz33_0 := zh BK131; have hcz33_1 := zh1 BK131; have hfz33_0 := zfr BK131 0; have hfz33_1 := zfr BK131 1))
    refine bodyPost_ret (results_cell_row rfl _ _ gb131 25 #[.int .i64 (rd y140 t143), .slice Ao17 t133.length co17] (0, 0) _ rfl (by (with_reducible repeat (first | refine blk_drewN ?_ _ | refine blk_drew ?_ | refine blk_alloc ?_ _)); refine blk_put (cs := #[.int .i64 (rd y140 t143), .slice none 0 0]) ?_ 1 _ rfl; (with_reducible repeat (first | refine blk_drewN ?_ _ | refine blk_drew ?_ | refine blk_alloc ?_ _)); refine blk_put (cs := #[.int .i64 0, .slice none 0 0]) ?_ 0 _ rfl; (with_reducible repeat (first | refine blk_drewN ?_ _ | refine blk_drew ?_ | refine blk_alloc ?_ _)); refine blk_far ?_ NB131_137.out _; (with_reducible repeat (first | refine blk_drewN ?_ _ | refine blk_drew ?_ | refine blk_alloc ?_ _)); exact BK131.out) Tryd.underlying25 rfl (by kernel_rfl)) rfl ?_
    exact ⟨_, y7, (by (with_reducible repeat (first | apply Kd.N_alloc | apply Kd.N_drewN | apply Kd.N_drew)); exact Kd.N_mono (Kd.N_far (p := ⟨gb131, 1, none⟩) (Kd.N_far (p := ⟨gb131, 0, none⟩) (Kd.N_far (p := ⟨gb137, 0, none⟩) (Kd.N_mono (Kd.N_mono HO135.out (fun k_ hk => (⟨hk, hk.1.2⟩ : _ ∧ k_ ≠ gb137))) (fun k_ hk => (⟨hk, hk.1.1.1.2.2.1⟩ : _ ∧ k_ ≠ gb131))) (fun _ hk => hk.1.2) (.int .i64 (rd y140 t143))) (fun _ hk => hk.2) (.int .i64 (rd y140 t143))) (fun _ hk => hk.2) (.slice Ao17 t133.length co17)) (fun _ hk => hk.1.1.1.1.1)), (y18 HI0.out NB0_130.out NB0_131.out NB0_137.out), (y22 HB.out HI0.out GE130.out GE131.out GE137.out), (y13 HK.out GW130.out GW131.out GW137.out)⟩
   ·rw [if_neg c22] at H
    exact absurd H (by simp)
  ·rw [if_neg c21] at H
   exact absurd H (by simp)
 ·rw [if_neg c19] at H
  have c19b0 : (t138 == 0) = false := beq_eq_false_iff_ne.mpr c19
  have c19b1 : (t138 != 0) = true := bne_iff_ne.mpr c19
  (first | rw [c19b0] | (simp only [i64_w, i32_w]; rw [c19b0]) | skip)
  by_cases c34 : t138 = 1
  ·rw [if_pos c34] at H
   have c34b0 : (t138 == 1) = true := beq_iff_eq.mpr c34
   have c34b1 : (t138 != 1) = false := bne_eq_false_iff_eq.mpr c34
   clear c34
   by_cases c35 : t133.length < 4398046511104
   ·rw [if_pos c35] at H
    have LMc35 := Aside0.mk c35
    clear c35
    obtain ⟨y146, hy146⟩ : ∃ y_ : List (S25), y_ = (t133 ++ [(⟨0, ([] : List (S25))⟩ : S25)]) := ⟨_, rfl⟩
    replace H : (some (t132, y146, t139)) = some (r1, r2, r3) := by first | (rw [hy146]; with_reducible exact H) | (have H2_ := (Option.bind_some _ _).symm.trans H; rw [hy146]; with_reducible exact H2_) | (have H2_ := (Option.bind_some _ _).symm.trans H; with_reducible exact H2_) | with_reducible exact H | (rw [hy146]; exact H) | exact H
    have Ny146 := Aside0.mk hy146
    clear hy146
    simp only [Option.some.injEq, Prod.mk.injEq] at H
    obtain ⟨rfl, rfl, rfl⟩ := H
    have hnb36 := NB137_130.out
    have hnc36 := NB130_137.out
    have hnb37 := NB137_131.out
    have hnc37 := NB131_137.out
    have hnb38 := NB137_0.out
    have hnc38 := NB0_137.out
    have hcz39_0 := zh BK137
    have hcz39_1 := zh1 BK137
    have hfz39_0 := zfr BK137 0
    have hfz39_1 := zfr BK137 1
    go_wp2_with (first | ((with_reducible refine gate_builtin (b := .append) (xs := #[.tmp 23, .tmp 25]) rfl ?_); at_builtin; refine Kd.N_append k25 w.heap.size rfl (.tmp 23) (.tmp 25) 23 25 (.agg #[(.int .i64 0), (.slice none 0 0)]) 32 rfl Tryd.underlying23 info25 rfl (by decide) (by omega) (.slice Ao17 t133.length co17) t133 (⟨0, ([] : List (S25))⟩ : S25) [.int .i64 0, .slice none 0 0] (fun k_ => (P1_0_ k_ ∨ w.heap.size ≤ k_) ∧ k_ ≠ gb130 ∧ k_ ≠ gb131 ∧ k_ ≠ gb137 ∧ k_ ≠ g) (fun k_ => ((fun k_ => (P1_0_ k_ ∨ w.heap.size ≤ k_) ∧ k_ ≠ gb130 ∧ k_ ≠ gb131 ∧ k_ ≠ gb137 ∧ k_ ≠ g)) k_ ∧ some k_ ≠ (.slice Ao17 t133.length co17 : Value).ownBlock) rfl rfl ?aP (fun _ hk => hk) ?aF ?aO (Below.refl _ _) ?aS ?aL ?_; (case aP => exact (k25_mkF _ _ (⟨0, ([] : List (S25))⟩ : S25) (Nat.le_refl _) (Kd.F_nil _ _ _))); (case aF => exact (fun k_ hk => ⟨(.inr (Nat.le_trans (keep_size (w := w) (g := g) (row := none) (y13 HK.out GW130.out GW131.out GW137.out)) hk)), Kd.freshB (g := gb130) (o := .cells #[.slice A1_0 l1_0.length c1_0] 41 (0, 0)) (y1 BK130.out) k_ hk, Kd.freshB (g := gb131) (o := .cells #[.int .i64 0, .slice none 0 0] 25 (0, 0)) (y1 BK131.out) k_ hk, Kd.freshB (g := gb137) (o := .cells #[.int .i64 t132, .slice Ao17 t133.length co17] 25 (0, 0)) (y1 BK137.out) k_ hk, IsS51.fresh (y18 HI0.out NB0_130.out NB0_131.out NB0_137.out) k_ hk⟩)); (case aO => exact (y39 HO135.out)); (case aS => exact (keep_size (w := w) (g := g) (row := none) (y13 HK.out GW130.out GW131.out GW137.out))); (case aL => exact y41 LMc35.out); intro v147 w40 ho hb hg hat; rw [← Ny146.out] at ho; replace HO1_0 := Aside0.mk (Kd.V_afterv (ok := (fun k_ => (P1_0_ k_ ∨ w.heap.size ≤ k_) ∧ k_ ≠ g ∧ k_ ≠ gb130 ∧ k_ ≠ gb131 ∧ k_ ≠ gb137)) (by (with_reducible repeat (first | apply Kd.V_alloc | apply Kd.V_drewN | apply Kd.V_drew)); exact Kd.V_mono HO1_0.out (fun _ hk => ⟨⟨hk.1.1.1.1.1, ⟨hk.1.1.1.1.2, ⟨hk.1.1.1.2, ⟨hk.1.1.2, hk.2⟩⟩⟩⟩, hk.1.2⟩)) hg hat); replace BK130 := Aside0.mk (blk_grown (g := gb130) (o := .cells #[.slice A1_0 l1_0.length c1_0] 41 (0, 0)) (y1 BK130.out) hg (Kd.N_ne HO135.out BK130.out (by decide))); replace BK131 := Aside0.mk (blk_grown (g := gb131) (o := .cells #[.int .i64 0, .slice none 0 0] 25 (0, 0)) (y1 BK131.out) hg (Kd.N_away HO135.out (fun _ hk => hk.1.2.2.1))); replace BK137 := Aside0.mk (blk_grown (g := gb137) (o := .cells #[.int .i64 t132, .slice Ao17 t133.length co17] 25 (0, 0)) (y1 BK137.out) hg (Kd.N_away HO135.out (fun _ hk => hk.2))); replace HB := Aside0.mk (below_weaken (y22 HB.out HI0.out GE130.out GE131.out GE137.out) HL.out hb); replace HI0 := Aside0.mk (IsS51.grown (y18 HI0.out NB0_130.out NB0_131.out NB0_137.out) hg (IsS51.own_neN HI0.out HO135.out (by decide))); replace HK := Aside0.mk (KeepBut.trans (y13 HK.out GW130.out GW131.out GW137.out) (KeepBut.of_grown hg g) (Kd.N_base2 HO135.out)); have HO148 := Aside0.mk (ho); clear HO135; clear ho hb hg hat; obtain ⟨Ao41, co41, eo41⟩ := Kd.N_slice HO148.out; subst eo41; have hcz42_0 := zh BK137; have hcz42_1 := zh1 BK137; have hfz42_0 := zfr BK137 0; have hfz42_1 := zfr BK137 1; have hnb43 := NB131_130.out; have hnc43 := NB130_131.out; have hnb44 := NB131_0.out; have hnc44 := NB0_131.out; have hcz45_0 := zh BK131; have hcz45_1 := zh1 BK131; have hfz45_0 := zfr BK131 0; have hfz45_1 := zfr BK131 1))
    refine bodyPost_ret (results_cell_row rfl _ _ gb131 25 #[.int .i64 t132, .slice Ao41 y146.length co41] (0, 0) _ rfl (by (with_reducible repeat (first | refine blk_drewN ?_ _ | refine blk_drew ?_ | refine blk_alloc ?_ _)); refine blk_put (cs := #[.int .i64 t132, .slice none 0 0]) ?_ 1 _ rfl; (with_reducible repeat (first | refine blk_drewN ?_ _ | refine blk_drew ?_ | refine blk_alloc ?_ _)); refine blk_put (cs := #[.int .i64 0, .slice none 0 0]) ?_ 0 _ rfl; (with_reducible repeat (first | refine blk_drewN ?_ _ | refine blk_drew ?_ | refine blk_alloc ?_ _)); refine blk_far ?_ NB131_137.out _; (with_reducible repeat (first | refine blk_drewN ?_ _ | refine blk_drew ?_ | refine blk_alloc ?_ _)); exact BK131.out) Tryd.underlying25 rfl (by kernel_rfl)) rfl ?_
    exact ⟨_, y7, (by (with_reducible repeat (first | apply Kd.N_alloc | apply Kd.N_drewN | apply Kd.N_drew)); exact Kd.N_mono (Kd.N_far (p := ⟨gb131, 1, none⟩) (Kd.N_far (p := ⟨gb131, 0, none⟩) (Kd.N_far (p := ⟨gb137, 1, none⟩) (Kd.N_mono (Kd.N_mono HO148.out (fun k_ hk => (⟨hk, hk.2.2.2.1⟩ : _ ∧ k_ ≠ gb137))) (fun k_ hk => (⟨hk, hk.1.2.2.1⟩ : _ ∧ k_ ≠ gb131))) (fun _ hk => hk.1.2) (.slice Ao41 y146.length co41)) (fun _ hk => hk.2) (.int .i64 t132)) (fun _ hk => hk.2) (.slice Ao41 y146.length co41)) (fun _ hk => hk.1.1.1)), (y18 HI0.out NB0_130.out NB0_131.out NB0_137.out), (y22 HB.out HI0.out GE130.out GE131.out GE137.out), (y13 HK.out GW130.out GW131.out GW137.out)⟩
   ·rw [if_neg c35] at H
    exact absurd H (by simp)
  ·rw [if_neg c34] at H
   have c34b0 : (t138 == 1) = false := beq_eq_false_iff_ne.mpr c34
   have c34b1 : (t138 != 1) = true := bne_iff_ne.mpr c34
   by_cases c46 : t138 = 2
   ·rw [if_pos c46] at H
    have c46b0 : (t138 == 2) = true := beq_iff_eq.mpr c46
    have c46b1 : (t138 != 2) = false := bne_eq_false_iff_eq.mpr c46
    clear c46
    have H' := Aside0.mk H
    clear H
    go_wp2
    go_loopg [6] k (fun kq v6 w' => ∃ (x6_1 : Int) (x138000_1 : Int) (x138001_1 : List (S25)) (u138001 : Value), v6 = .int .i64 x6_1 ∧ Aside0 (spec_l71Bad.l0 kq x6_1 s0_0 t139 x138000_1 x138001_1 = some (r1, r2, r3)) ∧ Aside0 (kq ≤ k) ∧ Aside0 (Kd.V k41 41 w' w.heap.size (fun k_ => (P1_0_ k_ ∨ w.heap.size ≤ k_) ∧ some k_ ≠ (u138001 : Value).ownBlock ∧ k_ ≠ gb130 ∧ k_ ≠ gb131 ∧ k_ ≠ gb137 ∧ k_ ≠ g) (.slice A1_0 l1_0.length c1_0) l1_0) ∧ Aside0 (Kd.N k25 25 w' w.heap.size (fun k_ => (P1_0_ k_ ∨ w.heap.size ≤ k_) ∧ k_ ≠ gb130 ∧ k_ ≠ gb131 ∧ k_ ≠ gb137 ∧ k_ ≠ g) u138001 x138001_1) ∧ Aside0 (w'.heap[gb130]? = some (.cells #[(.slice A1_0 l1_0.length c1_0)] 41 (0, 0))) ∧ Aside0 (w'.heap[gb131]? = some (.cells #[.int .i64 0, (.slice none 0 0)] 25 (0, 0))) ∧ Aside0 (w'.heap[gb137]? = some (.cells #[.int .i64 x138000_1, u138001] 25 (0, 0))) ∧ Aside0 (IsS51 w0 w' g s0_0 t139) ∧ Aside0 (KeepBut w w' g none) ∧ Aside0 (Below w0.heap.size w0 w'))
    case atStart => exact ⟨(0), (t132), (t133), (.slice Ao17 t133.length co17), y26, H', ⟨Nat.le_refl _⟩, ⟨(by (with_reducible repeat (first | apply Kd.V_alloc | apply Kd.V_drewN | apply Kd.V_drew)); exact Kd.V_mono HO1_0.out (fun _ hk => ⟨hk.1.1.1.1.1, ⟨hk.1.2, ⟨hk.1.1.1.2, ⟨hk.1.1.2, ⟨hk.2, hk.1.1.1.1.2⟩⟩⟩⟩⟩))⟩, ⟨(y39 HO135.out)⟩, ⟨(y1 BK130.out)⟩, ⟨(y1 BK131.out)⟩, ⟨(y1 BK137.out)⟩, ⟨(y18 HI0.out NB0_130.out NB0_131.out NB0_137.out)⟩, ⟨(y13 HK.out GW130.out GW131.out GW137.out)⟩, ⟨(y22 HB.out HI0.out GE130.out GE131.out GE137.out)⟩⟩
    case round =>
     clear H'
     try clear c1
     try clear p1
     try clear q1
     try clear hx1
     try clear c2
     try clear p2
     try clear c3
     try clear c4
     try clear c8
     try clear c9
     try clear c13
     try clear c14
     try clear p14
     try clear q14
     try clear hx14
     try clear c15
     try clear c19
     try clear c19b0
     try clear c19b1
     try clear c21
     try clear c21b0
     try clear c22
     try clear c22b0
     try clear c23
     try clear c27
     try clear c28
     try clear c29
     try clear c31
     try clear c32
     try clear c34
     try clear c34b0
     try clear c34b1
     try clear c35
     try clear c36
     try clear c37
     try clear c38
     try clear c43
     try clear c44
     try clear c46
     try clear c46b0
     try clear c46b1
     try clear hcz10_0
     try clear hcz16_0
     try clear hcz16_1
     try clear hcz30_0
     try clear hcz30_1
     try clear hcz33_0
     try clear hcz33_1
     try clear hcz39_0
     try clear hcz39_1
     try clear hcz42_0
     try clear hcz42_1
     try clear hcz45_0
     try clear hcz45_1
     try clear hfz10_0
     try clear hfz16_0
     try clear hfz16_1
     try clear hfz30_0
     try clear hfz30_1
     try clear hfz33_0
     try clear hfz33_1
     try clear hfz39_0
     try clear hfz39_1
     try clear hfz42_0
     try clear hfz42_1
     try clear hfz45_0
     try clear hfz45_1
     try clear hx145_0
     try clear p145
     try clear q145
     (try clear BK130); (try clear BK131); (try clear BK137)
     obtain ⟨x6_1, x138000_1, x138001_1, u138001, rfl, HA, HK1, HO_131000, HO_138001, BK130, BK131, BK137, HI0, HK, HB⟩ := hrel
     cases gk with
     | zero => exact absurd HA.out (by simp [spec_l71Bad.l0])
     | succ k1 =>
      have H := HA.out
      clear HA
      simp only [spec_l71Bad.l0] at H
      by_cases c47 : x6_1 < 5
      ·rw [if_pos c47] at H
       have c47b0 : decide (x6_1 < 5) = true := decide_eq_true c47
       clear c47
       obtain ⟨y149, hy149⟩ : ∃ y_ : List (S25), y_ = (([(⟨x138000_1, x138001_1⟩ : S25), (⟨0, ([] : List (S25))⟩ : S25)] : List (S25))) := ⟨_, rfl⟩
       replace H : (spec_l71Bad.l0 k1 (wrap64 (x6_1 + 1)) s0_0 t139 0 y149) = some (r1, r2, r3) := by first | (rw [hy149]; with_reducible exact H) | (have H2_ := (Option.bind_some _ _).symm.trans H; rw [hy149]; with_reducible exact H2_) | (have H2_ := (Option.bind_some _ _).symm.trans H; with_reducible exact H2_) | with_reducible exact H | (rw [hy149]; exact H) | exact H
       have Ny149 := Aside0.mk hy149
       clear hy149
       have H' := Aside0.mk H
       clear H
       have hnb48 := NB137_130.out
       have hnc48 := NB130_137.out
       have hnb49 := NB137_131.out
       have hnc49 := NB131_137.out
       have hnb50 := NB137_0.out
       have hnc50 := NB0_137.out
       have hcz51_0 := zh BK137
       have hcz51_1 := zh1 BK137
       have hfz51_0 := zfr BK137 0
       have hfz51_1 := zfr BK137 1
       obtain ⟨Ao52, co52, eo52⟩ := Kd.N_slice HO_138001.out
       subst eo52
       go_wp2_with (first | ((with_reducible refine gate_dst (N := 36) rfl ?_); refine Kd.N_lit k25 _ 25 ?hg (N' := 36) ?hd (xs := ([(⟨x138000_1, x138001_1⟩ : S25), (⟨0, ([] : List (S25))⟩ : S25)] : List (S25))) (inner := [.int .i64 x138000_1, .slice Ao52 x138001_1.length co52, .int .i64 0, .slice none 0 0]) (ok := (fun k_ => (P1_0_ k_ ∨ w.heap.size ≤ k_) ∧ k_ ≠ gb130 ∧ k_ ≠ gb131 ∧ k_ ≠ gb137 ∧ k_ ≠ g)) (okp := (fun k_ => (P1_0_ k_ ∨ w.heap.size ≤ k_) ∧ k_ ≠ gb130 ∧ k_ ≠ gb131 ∧ k_ ≠ gb137 ∧ k_ ≠ g)) ?hr ?hp (fun _ hk => hk) ((show ∀ k_, wr.heap.size ≤ k_ → (fun k_ => (P1_0_ k_ ∨ w.heap.size ≤ k_) ∧ k_ ≠ gb130 ∧ k_ ≠ gb131 ∧ k_ ≠ gb137 ∧ k_ ≠ g) k_ from fun k_ hk => ⟨(.inr (Nat.le_trans (keep_size (w := w) (g := g) (row := none) (y13 HK.out GW130.out GW131.out GW137.out)) hk)), Kd.freshB (g := gb130) (o := .cells #[.slice A1_0 l1_0.length c1_0] 41 (0, 0)) (y1 BK130.out) k_ hk, Kd.freshB (g := gb131) (o := .cells #[.int .i64 0, .slice none 0 0] 25 (0, 0)) (y1 BK131.out) k_ hk, Kd.freshB (g := gb137) (o := .cells #[.int .i64 x138000_1, .slice Ao52 x138001_1.length co52] 25 (0, 0)) (y1 BK137.out) k_ hk, IsS51.fresh (y18 HI0.out NB0_130.out NB0_131.out NB0_137.out) k_ hk⟩) _ (Nat.le_refl _)) (Below.refl _ _) (Nat.le_refl _) (by simp) ?_; (case hd => rfl); (case hg => rfl); (case hr => first | (go_simp; done) | (go_simp; rfl)); (case hp => exact (Reps.c2 (show Kd.FK k25 _ _ (⟨x138000_1, x138001_1⟩ : S25) [.int .i64 x138000_1, .slice Ao52 x138001_1.length co52] from (k25_mkF _ _ (⟨x138000_1, x138001_1⟩ : S25) (Kd.N_reads' (Kd.N_mono (ok' := (fun k_ => (P1_0_ k_ ∨ w.heap.size ≤ k_) ∧ k_ ≠ gb130 ∧ k_ ≠ gb131 ∧ k_ ≠ gb137 ∧ k_ ≠ g)) (HO_138001.out) (fun k_ hk => ⟨hk.1, ⟨hk.2.1, ⟨hk.2.2.1, ⟨hk.2.2.2.1, hk.2.2.2.2⟩⟩⟩⟩))).2.1 (Kd.N_F (Kd.N_mono (ok' := (fun k_ => (P1_0_ k_ ∨ w.heap.size ≤ k_) ∧ k_ ≠ gb130 ∧ k_ ≠ gb131 ∧ k_ ≠ gb137 ∧ k_ ≠ g)) (HO_138001.out) (fun k_ hk => ⟨hk.1, ⟨hk.2.1, ⟨hk.2.2.1, ⟨hk.2.2.2.1, hk.2.2.2.2⟩⟩⟩⟩))))) (Reps.c2 (show Kd.FK k25 _ _ (⟨0, ([] : List (S25))⟩ : S25) [.int .i64 0, .slice none 0 0] from (k25_mkF _ _ (⟨0, ([] : List (S25))⟩ : S25) (Nat.le_refl _) (Kd.F_nil _ _ _))) (Reps.none _ _)))); intro v150 w53 ho54 hb hg_ hnew_; clear hg_ hnew_; (first | rw [← Ny149.out] at ho54 | (simp only [Int.reduceToNat] at ho54; rw [← Ny149.out] at ho54)); replace HO_131000 := Aside0.mk (Kd.V_elder' (y28 HO_131000.out) (Kd.N_base ho54) hb); have HO151 := Aside0.mk (Kd.N_lower ho54 (keep_size (w := w) (g := g) (row := none) (y13 HK.out GW130.out GW131.out GW137.out))); replace BK130 := zbb BK130 hb; replace BK131 := zbb BK131 hb; replace BK137 := zbb BK137 hb; replace HK := Aside0.mk (KeepBut.trans (y13 HK.out GW130.out GW131.out GW137.out) (KeepBut.of_below hb g none) (.inl rfl)); replace HB := Aside0.mk (below_step (y22 HB.out HI0.out GE130.out GE131.out GE137.out) hb); replace HI0 := Aside0.mk (IsS51.below (y18 HI0.out NB0_130.out NB0_131.out NB0_137.out) hb); clear HO_138001; clear hb ho54; obtain ⟨Ao55, co55, eo55⟩ := Kd.N_slice HO151.out; subst eo55; have hcz56_0 := zh BK137; have hcz56_1 := zh1 BK137; have hfz56_0 := zfr BK137 0; have hfz56_1 := zfr BK137 1))
       go_roundg k1
       case measure => have := HK1.out; omega
       case rel => exact ⟨(wrap64 (x6_1 + 1)), (0), (y149), (.slice Ao55 y149.length co55), y26, H', ⟨(y41 HK1.out)⟩, ⟨(by (with_reducible repeat (first | apply Kd.V_alloc | apply Kd.V_drewN | apply Kd.V_drew)); exact Kd.V_mono (Kd.V_far (p := ⟨gb137, 1, none⟩) (Kd.V_far (p := ⟨gb137, 0, none⟩) (Kd.V_mono HO_131000.out (fun k_ hk => (⟨hk, hk.1.2.2.2.2.1⟩ : _ ∧ k_ ≠ gb137))) (fun _ hk => hk.2) (.int .i64 0)) (fun _ hk => hk.2) (.slice Ao55 y149.length co55)) (fun _ hk => ⟨hk.1.1.1, ⟨hk.1.2, ⟨hk.1.1.2.2.1, ⟨hk.1.1.2.2.2.1, ⟨hk.1.1.2.2.2.2.1, hk.1.1.2.2.2.2.2⟩⟩⟩⟩⟩))⟩, ⟨(by (with_reducible repeat (first | apply Kd.N_alloc | apply Kd.N_drewN | apply Kd.N_drew)); exact Kd.N_mono (Kd.N_far (p := ⟨gb137, 1, none⟩) (Kd.N_far (p := ⟨gb137, 0, none⟩) (Kd.N_mono HO151.out (fun k_ hk => (⟨hk, hk.2.2.2.1⟩ : _ ∧ k_ ≠ gb137))) (fun _ hk => hk.2) (.int .i64 0)) (fun _ hk => hk.2) (.slice Ao55 y149.length co55)) (fun _ hk => ⟨hk.1.1, ⟨hk.1.2.1, ⟨hk.1.2.2.1, ⟨hk.1.2.2.2.1, hk.1.2.2.2.2⟩⟩⟩⟩))⟩, ⟨(y23 NB130_137.out BK130.out)⟩, ⟨(y23 NB131_137.out BK131.out)⟩, ⟨(by (with_reducible repeat (first | refine blk_drewN ?_ _ | refine blk_drew ?_ | refine blk_alloc ?_ _)); refine blk_put (cs := #[.int .i64 0, .slice Ao52 x138001_1.length co52]) ?_ 1 _ rfl; (with_reducible repeat (first | refine blk_drewN ?_ _ | refine blk_drew ?_ | refine blk_alloc ?_ _)); refine blk_put (cs := #[.int .i64 x138000_1, .slice Ao52 x138001_1.length co52]) ?_ 0 _ rfl; (with_reducible repeat (first | refine blk_drewN ?_ _ | refine blk_drew ?_ | refine blk_alloc ?_ _)); exact BK137.out)⟩, ⟨(y18 HI0.out NB0_130.out NB0_131.out NB0_137.out)⟩, ⟨(y13 HK.out GW130.out GW131.out GW137.out)⟩, ⟨(y22 HB.out HI0.out GE130.out GE131.out GE137.out)⟩⟩
      ·rw [if_neg c47] at H
       have c47b0 : decide (x6_1 < 5) = false := decide_eq_false c47
       clear c47
       simp only [Option.some.injEq, Prod.mk.injEq] at H
       obtain ⟨rfl, rfl, rfl⟩ := H
       have hnb57 := NB137_130.out
       have hnc57 := NB130_137.out
       have hnb58 := NB137_131.out
       have hnc58 := NB131_137.out
       have hnb59 := NB137_0.out
       have hnc59 := NB0_137.out
       have hcz60_0 := zh BK137
       have hcz60_1 := zh1 BK137
       have hfz60_0 := zfr BK137 0
       have hfz60_1 := zfr BK137 1
       have hnb61 := NB131_130.out
       have hnc61 := NB130_131.out
       have hnb62 := NB131_0.out
       have hnc62 := NB0_131.out
       have hcz63_0 := zh BK131
       have hcz63_1 := zh1 BK131
       have hfz63_0 := zfr BK131 0
       have hfz63_1 := zfr BK131 1
       obtain ⟨Ao64, co64, eo64⟩ := Kd.N_slice HO_138001.out
       subst eo64
       go_wp2
       refine bodyPost_ret (results_cell_row rfl _ _ gb131 25 #[.int .i64 x138000_1, .slice Ao64 x138001_1.length co64] (0, 0) _ rfl (by (with_reducible repeat (first | refine blk_drewN ?_ _ | refine blk_drew ?_ | refine blk_alloc ?_ _)); refine blk_put (cs := #[.int .i64 x138000_1, .slice none 0 0]) ?_ 1 _ rfl; (with_reducible repeat (first | refine blk_drewN ?_ _ | refine blk_drew ?_ | refine blk_alloc ?_ _)); apply blk_put (i := 0); (case h => exact y1 BK131.out); (case e => rfl)) Tryd.underlying25 rfl (by kernel_rfl)) rfl ?_
       exact ⟨_, y7, (by (with_reducible repeat (first | apply Kd.N_alloc | apply Kd.N_drewN | apply Kd.N_drew)); exact Kd.N_mono (Kd.N_far (p := ⟨gb131, 1, none⟩) (Kd.N_far (p := ⟨gb131, 0, none⟩) (Kd.N_mono HO_138001.out (fun k_ hk => (⟨hk, hk.2.2.1⟩ : _ ∧ k_ ≠ gb131))) (fun _ hk => hk.2) (.int .i64 x138000_1)) (fun _ hk => hk.2) (.slice Ao64 x138001_1.length co64)) (fun _ hk => hk.1.1)), (y18 HI0.out NB0_130.out NB0_131.out NB0_137.out), (y22 HB.out HI0.out GE130.out GE131.out GE137.out), (y13 HK.out GW130.out GW131.out GW137.out)⟩
   ·rw [if_neg c46] at H
    have c46b0 : (t138 == 2) = false := beq_eq_false_iff_ne.mpr c46
    have c46b1 : (t138 != 2) = true := bne_iff_ne.mpr c46
    simp only [Option.some.injEq, Prod.mk.injEq] at H
    obtain ⟨rfl, rfl, rfl⟩ := H
    have hnb65 := NB137_130.out
    have hnc65 := NB130_137.out
    have hnb66 := NB137_131.out
    have hnc66 := NB131_137.out
    have hnb67 := NB137_0.out
    have hnc67 := NB0_137.out
    have hcz68_0 := zh BK137
    have hcz68_1 := zh1 BK137
    have hfz68_0 := zfr BK137 0
    have hfz68_1 := zfr BK137 1
    have hnb69 := NB131_130.out
    have hnc69 := NB130_131.out
    have hnb70 := NB131_0.out
    have hnc70 := NB0_131.out
    have hcz71_0 := zh BK131
    have hcz71_1 := zh1 BK131
    have hfz71_0 := zfr BK131 0
    have hfz71_1 := zfr BK131 1
    go_wp2
    refine bodyPost_ret (results_cell_row rfl _ _ gb131 25 #[.int .i64 t132, .slice Ao17 t133.length co17] (0, 0) _ rfl (by (with_reducible repeat (first | refine blk_drewN ?_ _ | refine blk_drew ?_ | refine blk_alloc ?_ _)); refine blk_put (cs := #[.int .i64 t132, .slice none 0 0]) ?_ 1 _ rfl; (with_reducible repeat (first | refine blk_drewN ?_ _ | refine blk_drew ?_ | refine blk_alloc ?_ _)); apply blk_put (i := 0); (case h => exact y1 BK131.out); (case e => rfl)) Tryd.underlying25 rfl (by kernel_rfl)) rfl ?_
    exact ⟨_, y7, (by (with_reducible repeat (first | apply Kd.N_alloc | apply Kd.N_drewN | apply Kd.N_drew)); exact Kd.N_mono (Kd.N_far (p := ⟨gb131, 1, none⟩) (Kd.N_far (p := ⟨gb131, 0, none⟩) (Kd.N_mono HO135.out (fun k_ hk => (⟨hk, hk.1.2.2.1⟩ : _ ∧ k_ ≠ gb131))) (fun _ hk => hk.2) (.int .i64 t132)) (fun _ hk => hk.2) (.slice Ao17 t133.length co17)) (fun _ hk => hk.1.1.1)), (y18 HI0.out NB0_130.out NB0_131.out NB0_137.out), (y22 HB.out HI0.out GE130.out GE131.out GE137.out), (y13 HK.out GW130.out GW131.out GW137.out)⟩
end Go.Proofs.YtihfbpmblppbgaaDoor.PA
end
section
namespace Go.Proofs.YtihfbpmblppbgaaDoor.PA
open Go.RowKit Go.Proofs.YtihfbpmblppbgaaDoorW.PrintWords Go.Proofs.YtihfbpmblppbgaaDoorW.PrintLast Go.Proofs.YtihfbpmblppbgaaDoorW.PrintMore
attribute [local go_sem] max2_int min2_int max_two min_two max_three min_three max_four min_four
set_option linter.unusedVariables false
set_option linter.unusedSimpArgs false
mutual
def spec_l71Type.j0 : Nat → Int → Bool → List Int → Int → Option ((List (S41)) × Int)
 | 0, _, _, _, _ => none
 | k + 1, x1, x11, x1000, x1001 => if x11 = true then (some (([] : List (S41)), x1001)) else ((spec_l71Type.f k x1000 x1001 (wrap64 (x1 - 1))).bind fun bt155 => ((spec_l71Type.f k x1000 bt155.2 (wrap64 (x1 - 1))).bind fun bt159 => (some ((([(⟨bt155.1⟩ : S41), (⟨bt159.1⟩ : S41)] : List (S41))), bt159.2))))
def spec_l71Type.f : Nat → List Int → Int → Int → Option ((List (S41)) × Int)
 | 0, _, _, _ => none
 | k + 1, s0_0, s0_1, a1 => if a1 < 2 then (spec_l71Type.j0 k a1 true s0_0 s0_1) else ((spec_l6Rd_pick.f k s0_0 s0_1 3).bind fun bt153 => (spec_l71Type.j0 k a1 (decide (bt153.1 > 0)) s0_0 bt153.2))
end
theorem spec_l71Type.mono_l : ∀ k, (∀ y0 y1 y2, LeO (spec_l71Type.f k y0 y1 y2) (spec_l71Type.f (k + 1) y0 y1 y2)) ∧ (∀ y0 y1 y2 y3, LeO (spec_l71Type.j0 k y0 y1 y2 y3) (spec_l71Type.j0 (k + 1) y0 y1 y2 y3))
 | 0 => ⟨fun _ _ _ r h => by simp [spec_l71Type.f] at h, fun _ _ _ _ r h => by simp [spec_l71Type.j0] at h⟩
 | k + 1 => by
  obtain ⟨ih0, ih1⟩ := spec_l71Type.mono_l k
  refine ⟨?_, ?_⟩
  ·intro y0 y1 y2
   unfold spec_l71Type.f
   repeat' first
   | (with_reducible exact ih0 _ _ _)
   | (with_reducible exact ih1 _ _ _ _)
   | (with_reducible exact spec_l6Rd_pick.mono _ _ _ _)
   | (with_reducible exact LeO.refl _)
   | (with_reducible exact LeO.none _)
   | (with_reducible refine LeO.ite ?_ ?_)
   | (with_reducible refine LeO.bind ?_ (fun _ => ?_))
   | exact ih0 _ _ _
   | exact ih1 _ _ _ _
   | exact spec_l6Rd_pick.mono _ _ _ _
   | exact LeO.none _
   | refine LeO.ite ?_ ?_
   | refine LeO.bind ?_ (fun _ => ?_)
  ·intro y0 y1 y2 y3
   unfold spec_l71Type.j0
   repeat' first
   | (with_reducible exact ih0 _ _ _)
   | (with_reducible exact ih1 _ _ _ _)
   | (with_reducible exact spec_l6Rd_pick.mono _ _ _ _)
   | (with_reducible exact LeO.refl _)
   | (with_reducible exact LeO.none _)
   | (with_reducible refine LeO.ite ?_ ?_)
   | (with_reducible refine LeO.bind ?_ (fun _ => ?_))
   | exact ih0 _ _ _
   | exact ih1 _ _ _ _
   | exact spec_l6Rd_pick.mono _ _ _ _
   | exact LeO.none _
   | refine LeO.ite ?_ ?_
   | refine LeO.bind ?_ (fun _ => ?_)
theorem spec_l71Type.mono : ∀ a0 a1 a2 k, LeO (spec_l71Type.f k a0 a1 a2) (spec_l71Type.f (k + 1) a0 a1 a2) := by
 intro a0 a1 a2 k
 obtain ⟨ih0, ih1⟩ := spec_l71Type.mono_l k
 exact ih0 a0 a1 a2
set_option maxHeartbeats 8000000 in
set_option maxRecDepth 100000 in
theorem spec_l71Type.calls (k : Nat) : ∀ (g : Nat) (s0_0 : List Int) (s0_1 : Int) (a1 : Int) (r1 : List (S41)) (r2 : Int) (w0 w : World) (hI : IsS51 w0 w g s0_0 s0_1) (hB : Below w0.heap.size w0 w) (h : spec_l71Type.f k s0_0 s0_1 a1 = some (r1, r2)),
  Calls Tryd.prog 14 #[.pointer (some ⟨g, 0, none⟩), .int .i64 a1] w fun e w' => ∃ v0_ : Value, e = .returned (.agg #[v0_]) ∧ Kd.N k41 41 w' w.heap.size (fun k_ => (w.heap.size ≤ k_)) v0_ r1 ∧ IsS51 w0 w' g s0_0 r2 ∧ Below w0.heap.size w0 w' ∧ KeepBut w w' g none := by
 induction k using Nat.strongRecOn with
 | _ k ih =>
 intro g s0_0 s0_1 a1 r1 r2 w0 w hI hB h
 cases k with
 | zero => exact absurd h (by simp [spec_l71Type.f])
 | succ k =>
 simp only [spec_l71Type.f] at h
 have hu41 := Tryd.underlying41
 have HI0 := Aside0.mk hI
 have HK := Aside0.mk (KeepBut.refl w g none)
 have HL := Aside0.mk hB.size
 clear hI
 have HW0 := Aside0.mk hB.size
 have HB := Aside0.mk hB
 clear hB
 have H : (if a1 < 2 then (spec_l71Type.j0 k a1 true s0_0 s0_1) else ((spec_l6Rd_pick.f k s0_0 s0_1 3).bind fun bt153 => (spec_l71Type.j0 k a1 (decide (bt153.1 > 0)) s0_0 bt153.2))) = some (r1, r2) := h
 clear h
 have HC3 := Aside0.mk H
 clear H
 go_enter Tryd.func14, Tryd.ntmps14
 go_upto_region 1 with (first | ((with_reducible refine gate_dst (N := 4) rfl ?_); refine zbx 4 #[.slice none 0 0] 41 ?_; intro gb152 hg w4 hbox hb; replace HB := Aside0.mk (below_step (y32 HB.out HI0.out) hb); have BK152 := Aside0.mk hbox; have GW152 := Aside0.mk ((by rw [hg]; exact (keep_size (w := w) (g := g) (row := none) (y29 HK.out)) : w.heap.size ≤ gb152)); have GE152 := Aside0.mk ((Nat.le_trans HW0.out (by rw [hg]; exact (keep_size (w := w) (g := g) (row := none) (y29 HK.out)) : w.heap.size ≤ gb152) : w0.heap.size ≤ gb152)); replace HK := Aside0.mk (KeepBut.trans (y29 HK.out) (KeepBut.of_below hb g none) (.inl rfl)); have NB0_152 := Aside0.mk ((by rw [hg]; exact Nat.ne_of_lt (IsS51.lt (show IsS51 w0 _ g s0_0 s0_1 from by repeat (first | (with_reducible first | exact HI0.out | apply IsS51.alloc | apply IsS51.drewN | apply IsS51.drew | apply IsS51.set_1) | exact HI0.out))) : g ≠ gb152)); have NB152_0 := Aside0.mk ((by rw [hg]; exact Nat.ne_of_gt (IsS51.lt (show IsS51 w0 _ g s0_0 s0_1 from by repeat (first | (with_reducible first | exact HI0.out | apply IsS51.alloc | apply IsS51.drewN | apply IsS51.drew | apply IsS51.set_1) | exact HI0.out))) : gb152 ≠ g)); replace HI0 := Aside0.mk (IsS51.below (y33 HI0.out) hb); clear hb hbox hg))
 (try simp only [Act.put, List.setIfInBounds_toArray, List.set_cons_zero, List.set_cons_succ])
 go_cut [11] (fun v11 wc => ∃ (kq : Nat) (x11_2 : Bool) (x1001_2 : Int), v11 = .bool x11_2 ∧ Aside0 (spec_l71Type.j0 kq a1 x11_2 s0_0 x1001_2 = some (r1, r2)) ∧ Aside0 (kq ≤ k) ∧ Aside0 (wc.heap[gb152]? = some (.cells #[(.slice none 0 0)] 41 (0, 0))) ∧ Aside0 (IsS51 w0 wc g s0_0 x1001_2) ∧ Aside0 (KeepBut w wc g none) ∧ Aside0 (Below w0.heap.size w0 wc))
 case first =>
  have H := HC3.out
  clear HC3
  by_cases c5 : a1 < 2
  ·rw [if_pos c5] at H
   have c5b0 : decide (a1 < 2) = true := decide_eq_true c5
   clear c5
   (first | rw [c5b0] | (simp only [i64_w, i32_w]; rw [c5b0]) | skip)
   have H' := Aside0.mk H
   clear H
   go_wp2
   go_meet
   case rel => exact ⟨_, (true), (s0_1), y26, H', ⟨y36⟩, ⟨(y1 BK152.out)⟩, ⟨(y17 HI0.out NB0_152.out)⟩, ⟨(y16 HK.out GW152.out)⟩, ⟨(y14 HB.out HI0.out GE152.out)⟩⟩
  ·rw [if_neg c5] at H
   have c5b0 : decide (a1 < 2) = false := decide_eq_false c5
   clear c5
   (first | rw [c5b0] | (simp only [i64_w, i32_w]; rw [c5b0]) | skip)
   obtain ⟨⟨t153, t154⟩, A60, H⟩ := ob H
   have A6 := Aside0.mk A60
   clear A60
   have H' := Aside0.mk H
   clear H
   go_wp2_with (first | (go_at_call 15; (with_reducible refine (spec_l6Rd_pick.calls k g s0_0 s0_1 3 t153 t154 w0 _ ?side1 ?side2 A6.out).mono ?_); (case side1 => exact y17 HI0.out NB0_152.out); (case side2 => exact y14 HB.out HI0.out GE152.out); rintro e w7 ⟨rfl, hi, hb, hk⟩; replace BK152 := Aside0.mk (KeepBut.blk hk (g' := gb152) (o := .cells #[.slice none 0 0] 41 (0, 0)) (y1 BK152.out) NB152_0.out (by simp)); replace HK := Aside0.mk (KeepBut.trans (y16 HK.out GW152.out) hk (.inl rfl)); replace HB := Aside0.mk (hb); replace HI0 := Aside0.mk (hi); (try clear hb); (try clear hb2); (try clear hk); (try clear hi)))
   go_meet
   case rel => exact ⟨_, (decide (t153 > 0)), (t154), y26, H', ⟨y36⟩, ⟨(y1 BK152.out)⟩, ⟨(y17 HI0.out NB0_152.out)⟩, ⟨(y16 HK.out GW152.out)⟩, ⟨(y14 HB.out HI0.out GE152.out)⟩⟩
 case rest =>
  clear HC3
  try clear c1
  try clear p2
  try clear c5
  try clear c5b0
  obtain ⟨kq, x11_2, x1001_2, rfl, HA, HJ2, BK152, HI0, HK, HB⟩ := hcut
  cases kq with
  | zero => exact absurd HA.out (by simp [spec_l71Type.j0])
  | succ kj2 =>
   have H := HA.out
   clear HA
   simp only [spec_l71Type.j0] at H
   by_cases c8 : x11_2 = true
   ·subst c8
    rw [if_pos rfl] at H
    simp only [Option.some.injEq, Prod.mk.injEq] at H
    obtain ⟨rfl, rfl⟩ := H
    have hnb9 := NB152_0.out
    have hnc9 := NB0_152.out
    have hcz10_0 := zh BK152
    have hfz10_0 := zfr BK152 0
    go_wp2
    refine bodyPost_ret (results_cell_row rfl _ _ gb152 41 #[.slice none 0 0] (0, 0) _ rfl (by (with_reducible repeat (first | refine blk_drewN ?_ _ | refine blk_drew ?_ | refine blk_alloc ?_ _)); apply blk_put (i := 0); (case h => exact y1 BK152.out); (case e => rfl)) Tryd.underlying41 rfl (by kernel_rfl)) rfl ?_
    exact ⟨_, y7, y31, (y17 HI0.out NB0_152.out), (y14 HB.out HI0.out GE152.out), (y16 HK.out GW152.out)⟩
   ·replace c8 := Bool.eq_false_iff.mpr c8
    subst c8
    rw [if_neg (show ¬ (false = true) by decide)] at H
    obtain ⟨⟨t155, t158⟩, A110, H⟩ := ob H
    have A11 := Aside0.mk A110
    clear A110
    obtain ⟨⟨t159, t162⟩, A120, H⟩ := ob H
    have A12 := Aside0.mk A120
    clear A120
    obtain ⟨y163, hy163⟩ : ∃ y_ : List (S41), y_ = (([(⟨t155⟩ : S41), (⟨t159⟩ : S41)] : List (S41))) := ⟨_, rfl⟩
    replace H : (some (y163, t162)) = some (r1, r2) := by first | (rw [hy163]; with_reducible exact H) | (have H2_ := (Option.bind_some _ _).symm.trans H; rw [hy163]; with_reducible exact H2_) | (have H2_ := (Option.bind_some _ _).symm.trans H; with_reducible exact H2_) | with_reducible exact H | (rw [hy163]; exact H) | exact H
    have Ny163 := Aside0.mk hy163
    clear hy163
    simp only [Option.some.injEq, Prod.mk.injEq] at H
    obtain ⟨rfl, rfl⟩ := H
    go_wp2_with (first | ((with_reducible refine gate_callee (f := 14) rfl ?_); refine goesL_ (some 16) rfl rfl Tryd.func14 (by kernel_rfl) rfl #[.pointer (some ⟨g, 0, none⟩), .int .i64 (wrap64 (a1 - 1))] rfl y4 ?_; (with_reducible refine (ih kj2 (y41 HJ2.out) g s0_0 x1001_2 (wrap64 (a1 - 1)) t155 t158 w0 _ ?side1 ?side2 A11.out).mono ?_); (case side1 => exact y17 HI0.out NB0_152.out); (case side2 => exact y14 HB.out HI0.out GE152.out); rintro e w13 ⟨v156, rfl, ho0, hi, hb, hk⟩; refine ⟨_, rfl, ?_⟩; have HO157 := Aside0.mk (Kd.N_lower (Kd.N_mono (ok' := fun k_ => (w.heap.size ≤ k_) ∧ k_ ≠ gb152 ∧ k_ ≠ g) ho0 (fun k_ hk_ => ⟨(Nat.le_trans (keep_size (w := w) (g := g) (row := none) (y16 HK.out GW152.out)) hk_), (Kd.freshB (g := gb152) (o := .cells #[.slice none 0 0] 41 (0, 0)) (y1 BK152.out) k_ hk_), (IsS51.fresh (y17 HI0.out NB0_152.out) k_ hk_)⟩)) (keep_size (w := w) (g := g) (row := none) (y16 HK.out GW152.out))); replace BK152 := Aside0.mk (KeepBut.blk hk (g' := gb152) (o := .cells #[.slice none 0 0] 41 (0, 0)) (y1 BK152.out) NB152_0.out (by simp)); replace HK := Aside0.mk (KeepBut.trans (y16 HK.out GW152.out) hk (.inl rfl)); replace HB := Aside0.mk (hb); replace HI0 := Aside0.mk (hi); (try clear hb); (try clear hb2); (try clear hk); (try clear hi); (try clear ho0)) | ((with_reducible refine gate_callee (f := 14) rfl ?_); refine goesL_ (some 20) rfl rfl Tryd.func14 (by kernel_rfl) rfl #[.pointer (some ⟨g, 0, none⟩), .int .i64 (wrap64 (a1 - 1))] rfl y4 ?_; (with_reducible refine (ih kj2 (y41 HJ2.out) g s0_0 t158 (wrap64 (a1 - 1)) t159 t162 w0 _ ?side1 ?side2 A12.out).mono ?_); (case side1 => exact y17 HI0.out NB0_152.out); (case side2 => exact y14 HB.out HI0.out GE152.out); rintro e w14 ⟨v160, rfl, ho0, hi, hb, hk⟩; refine ⟨_, rfl, ?_⟩; have HO161 := Aside0.mk (Kd.N_lower (Kd.N_mono (ok' := fun k_ => (w.heap.size ≤ k_) ∧ some k_ ≠ (v156 : Value).ownBlock ∧ k_ ≠ gb152 ∧ k_ ≠ g) ho0 (fun k_ hk_ => ⟨(Nat.le_trans (keep_size (w := w) (g := g) (row := none) (y16 HK.out GW152.out)) hk_), (Kd.fresh' (Kd.N_lt (y12 HO157.out)) k_ hk_), (Kd.freshB (g := gb152) (o := .cells #[.slice none 0 0] 41 (0, 0)) (y1 BK152.out) k_ hk_), (IsS51.fresh (y17 HI0.out NB0_152.out) k_ hk_)⟩)) (keep_size (w := w) (g := g) (row := none) (y16 HK.out GW152.out))); replace BK152 := Aside0.mk (KeepBut.blk hk (g' := gb152) (o := .cells #[.slice none 0 0] 41 (0, 0)) (y1 BK152.out) NB152_0.out (by simp)); replace HO157 := Aside0.mk (Kd.N_mono (Kd.N_told (Kd.N_oldK (Kd.N_mono (ok := fun k_ => (((w.heap.size ≤ k_)) ∧ (k_ ≠ gb152 ∧ k_ ≠ g))) (y12 HO157.out) (fun k_ hk_ => (⟨hk_, hk_.2.2⟩ : _ ∧ k_ ≠ g))) hk) (Kd.N_base ho0)) (fun _ h_ => h_.1)); replace HK := Aside0.mk (KeepBut.trans (y16 HK.out GW152.out) hk (.inl rfl)); replace HB := Aside0.mk (hb); replace HI0 := Aside0.mk (hi); (try clear hb); (try clear hb2); (try clear hk); (try clear hi); (try clear ho0); obtain ⟨Ao15, co15, eo15⟩ := Kd.N_slice HO157.out; subst eo15; obtain ⟨Ao16, co16, eo16⟩ := Kd.N_slice HO161.out; subst eo16) | ((with_reducible refine gate_dst (N := 21) rfl ?_); refine Kd.N_lit k41 _ 41 ?hg (N' := 21) ?hd (xs := ([(⟨t155⟩ : S41), (⟨t159⟩ : S41)] : List (S41))) (inner := [.slice Ao15 t155.length co15, .slice Ao16 t159.length co16]) (ok := (fun k_ => (w.heap.size ≤ k_) ∧ k_ ≠ gb152 ∧ k_ ≠ g)) (okp := (fun k_ => (w.heap.size ≤ k_) ∧ k_ ≠ gb152 ∧ k_ ≠ g)) ?hr ?hp (fun _ hk => hk) ((show ∀ k_, w14.heap.size ≤ k_ → (fun k_ => (w.heap.size ≤ k_) ∧ k_ ≠ gb152 ∧ k_ ≠ g) k_ from fun k_ hk => ⟨(Nat.le_trans (keep_size (w := w) (g := g) (row := none) (y16 HK.out GW152.out)) hk), Kd.freshB (g := gb152) (o := .cells #[.slice none 0 0] 41 (0, 0)) (y1 BK152.out) k_ hk, IsS51.fresh (y17 HI0.out NB0_152.out) k_ hk⟩) _ (Nat.le_refl _)) (Below.refl _ _) (Nat.le_refl _) (by simp) ?_; (case hd => rfl); (case hg => rfl); (case hr => first | (go_simp; done) | (go_simp; rfl)); (case hp => exact (Reps.one (show Kd.FK k41 _ _ (⟨t155⟩ : S41) [.slice Ao15 t155.length co15] from (k41_mkF _ _ (⟨t155⟩ : S41) (Kd.N_reads' (Kd.N_mono (ok' := (fun k_ => (w.heap.size ≤ k_) ∧ k_ ≠ gb152 ∧ k_ ≠ g)) (HO157.out) (fun k_ hk => ⟨hk.1.1, ⟨hk.1.2.1, hk.1.2.2⟩⟩))).2.1 (Kd.N_F (Kd.N_mono (ok' := (fun k_ => (w.heap.size ≤ k_) ∧ k_ ≠ gb152 ∧ k_ ≠ g)) (HO157.out) (fun k_ hk => ⟨hk.1.1, ⟨hk.1.2.1, hk.1.2.2⟩⟩))))) (Reps.one (show Kd.FK k41 _ _ (⟨t159⟩ : S41) [.slice Ao16 t159.length co16] from (k41_mkF _ _ (⟨t159⟩ : S41) (Kd.N_reads' (Kd.N_mono (ok' := (fun k_ => (w.heap.size ≤ k_) ∧ k_ ≠ gb152 ∧ k_ ≠ g)) (HO161.out) (fun k_ hk => ⟨hk.1, ⟨hk.2.2.1, hk.2.2.2⟩⟩))).2.1 (Kd.N_F (Kd.N_mono (ok' := (fun k_ => (w.heap.size ≤ k_) ∧ k_ ≠ gb152 ∧ k_ ≠ g)) (HO161.out) (fun k_ hk => ⟨hk.1, ⟨hk.2.2.1, hk.2.2.2⟩⟩))))) (Reps.none _ _)))); intro v164 w17 ho18 hb hg_ hnew_; clear hg_ hnew_; (first | rw [← Ny163.out] at ho18 | (simp only [Int.reduceToNat] at ho18; rw [← Ny163.out] at ho18)); have HO165 := Aside0.mk (Kd.N_lower ho18 (keep_size (w := w) (g := g) (row := none) (y16 HK.out GW152.out))); replace BK152 := zbb BK152 hb; replace HK := Aside0.mk (KeepBut.trans (y16 HK.out GW152.out) (KeepBut.of_below hb g none) (.inl rfl)); replace HB := Aside0.mk (below_step (y14 HB.out HI0.out GE152.out) hb); replace HI0 := Aside0.mk (IsS51.below (y17 HI0.out NB0_152.out) hb); clear HO157 HO161; clear hb ho18; obtain ⟨Ao19, co19, eo19⟩ := Kd.N_slice HO165.out; subst eo19; have hnb20 := NB152_0.out; have hnc20 := NB0_152.out; have hcz21_0 := zh BK152; have hfz21_0 := zfr BK152 0))
    refine bodyPost_ret (results_cell_row rfl _ _ gb152 41 #[.slice Ao19 y163.length co19] (0, 0) _ rfl (by (with_reducible repeat (first | refine blk_drewN ?_ _ | refine blk_drew ?_ | refine blk_alloc ?_ _)); apply blk_put (i := 0); (case h => exact y1 BK152.out); (case e => rfl)) Tryd.underlying41 rfl (by kernel_rfl)) rfl ?_
    exact ⟨_, y7, (by (with_reducible repeat (first | apply Kd.N_alloc | apply Kd.N_drewN | apply Kd.N_drew)); exact Kd.N_mono (Kd.N_far (p := ⟨gb152, 0, none⟩) (Kd.N_mono HO165.out (fun k_ hk => (⟨hk, hk.2.1⟩ : _ ∧ k_ ≠ gb152))) (fun _ hk => hk.2) (.slice Ao19 y163.length co19)) (fun _ hk => hk.1.1)), (y17 HI0.out NB0_152.out), (y14 HB.out HI0.out GE152.out), (y16 HK.out GW152.out)⟩
end Go.Proofs.YtihfbpmblppbgaaDoor.PA
end
section
namespace Go.Proofs.YtihfbpmblppbgaaDoor.PA
open Go.RowKit Go.Proofs.YtihfbpmblppbgaaDoorW.PrintWords Go.Proofs.YtihfbpmblppbgaaDoorW.PrintLast Go.Proofs.YtihfbpmblppbgaaDoorW.PrintMore
attribute [local go_sem] max2_int min2_int max_two min_two max_three min_three max_four min_four
set_option linter.unusedVariables false
set_option linter.unusedSimpArgs false
def spec_DrawValText.f (k : Nat) (l0 : List Int) : Option (Int × (List (S25))) := (spec_l6Open.f l0).bind fun bt167 => ((spec_l6Rd_pick.f k bt167.1 bt167.2 4).bind fun bt170 => ((spec_l71Type.f k bt167.1 bt170.2 (wrap64 (1 + bt170.1))).bind fun bt172 => ((spec_l71Bad.f k bt167.1 bt172.2 bt172.1).bind fun bt176 => (some (bt176.1, bt176.2.1)))))
theorem spec_DrawValText.mono : ∀ a0 k, LeO (spec_DrawValText.f k a0) (spec_DrawValText.f (k + 1) a0) := by
 intro a0 k
 unfold spec_DrawValText.f
 repeat' first
   | (with_reducible exact spec_l6Rd_pick.mono _ _ _ _)
   | (with_reducible exact spec_l71Bad.mono _ _ _ _)
   | (with_reducible exact spec_l71Type.mono _ _ _ _)
   | (with_reducible exact LeO.refl _)
   | (with_reducible exact LeO.none _)
   | (with_reducible refine LeO.ite ?_ ?_)
   | (with_reducible refine LeO.bind ?_ (fun _ => ?_))
   | exact spec_l6Rd_pick.mono _ _ _ _
   | exact spec_l71Bad.mono _ _ _ _
   | exact spec_l71Type.mono _ _ _ _
   | exact LeO.none _
   | refine LeO.ite ?_ ?_
   | refine LeO.bind ?_ (fun _ => ?_)
set_option maxHeartbeats 8000000 in
set_option maxRecDepth 100000 in
theorem spec_DrawValText.calls (k : Nat) (A0 : Option Addr) (c0 : Nat) (l0 : List Int) (r1 : Int) (r2 : List (S25)) (w : World) (hr0 : Kd.C (Kd.int .u8) w A0 l0.length l0) (hc0 : l0.length ≤ c0) (h : spec_DrawValText.f k l0 = some (r1, r2)) :
  Calls Tryd.prog 6 #[.slice A0 l0.length c0] w fun e w' => ∃ v1_ : Value, e = .returned (.agg #[.int .i64 r1, v1_]) ∧ Kd.N k25 25 w' w.heap.size (fun k_ => (w.heap.size ≤ k_)) v1_ r2 ∧ Below w.heap.size w w' := by
 have hu25 := Tryd.underlying25
 have HR0 := Aside0.mk hr0
 have HC0 := Aside0.mk hc0
 clear hr0 hc0
 have HB := Aside0.mk (Below.refl w.heap.size w)
 have H : ((spec_l6Open.f l0).bind fun bt167 => ((spec_l6Rd_pick.f k bt167.1 bt167.2 4).bind fun bt170 => ((spec_l71Type.f k bt167.1 bt170.2 (wrap64 (1 + bt170.1))).bind fun bt172 => ((spec_l71Bad.f k bt167.1 bt172.2 bt172.1).bind fun bt176 => (some (bt176.1, bt176.2.1)))))) = some (r1, r2) := h
 clear h
 obtain ⟨⟨t167, t168⟩, A20, H⟩ := ob H
 have A2 := Aside0.mk A20
 clear A20
 obtain ⟨⟨t170, t171⟩, A30, H⟩ := ob H
 have A3 := Aside0.mk A30
 clear A30
 obtain ⟨⟨t172, t175⟩, A40, H⟩ := ob H
 have A4 := Aside0.mk A40
 clear A40
 obtain ⟨⟨t176, t177, t180⟩, A50, H⟩ := ob H
 have A5 := Aside0.mk A50
 clear A50
 simp only [Option.some.injEq, Prod.mk.injEq] at H
 obtain ⟨rfl, rfl⟩ := H
 go_enter Tryd.func6, Tryd.ntmps6
 go_wp2_with (first | ((with_reducible refine gate_dst (N := 2) rfl ?_); refine zbx 2 #[.int .i64 0, .slice none 0 0] 25 ?_; intro gb166 hg w6 hbox hb; have BK166 := Aside0.mk hbox; have GW166 := Aside0.mk ((y5 hg HB.out : w.heap.size ≤ gb166)); have GE166 := Aside0.mk ((y5 hg HB.out : w.heap.size ≤ gb166)); replace HB := Aside0.mk (below_step (y2 HB.out) hb); clear hb hbox hg) | ((with_reducible refine gate_callee (f := 12) rfl ?_); refine goesL_ (some 5) rfl rfl Tryd.func12 (by kernel_rfl) rfl #[.slice A0 l0.length c0] rfl y4 ?_; (with_reducible refine (spec_l6Open.calls _ _ l0 t167 t168 w _ ?side1 ?side2 ?side3 A2.out).mono ?_); (case side1 => exact y0 HB.out GE166.out); (case side2 => exact HR0.out); (case side3 => exact HC0.out); rintro e w7 ⟨g169, rfl, hi, hb, hb2⟩; refine ⟨_, rfl, ?_⟩; replace HB := Aside0.mk (hb); have HI169 := Aside0.mk (hi); have NB169_166 := Aside0.mk (IsS51.ne_blk hi (blk_below (g := gb166) (o := .cells #[.int .i64 0, .slice none 0 0] 25 (0, 0)) (y1 BK166.out) hb2) (by decide)); have NB166_169 := Aside0.mk (Ne.symm (IsS51.ne_blk hi (blk_below (g := gb166) (o := .cells #[.int .i64 0, .slice none 0 0] 25 (0, 0)) (y1 BK166.out) hb2) (by decide))); replace BK166 := Aside0.mk (blk_below (g := gb166) (o := .cells #[.int .i64 0, .slice none 0 0] 25 (0, 0)) (y1 BK166.out) hb2); (try clear hb); (try clear hb2); (try clear hk); (try clear hi)) | ((with_reducible refine gate_callee (f := 15) rfl ?_); refine goesL_ (some 9) rfl rfl Tryd.func15 (by kernel_rfl) rfl #[.pointer (some ⟨g169, 0, none⟩), .int .i64 4] rfl y4 ?_; (with_reducible refine (spec_l6Rd_pick.calls k g169 t167 t168 4 t170 t171 w _ ?side1 ?side2 A3.out).mono ?_); (case side1 => exact y17 HI169.out NB169_166.out); (case side2 => exact y14 HB.out HI169.out GE166.out); rintro e w8 ⟨rfl, hi, hb, hk⟩; refine ⟨_, rfl, ?_⟩; replace BK166 := Aside0.mk (KeepBut.blk hk (g' := gb166) (o := .cells #[.int .i64 0, .slice none 0 0] 25 (0, 0)) (y1 BK166.out) NB166_169.out (by simp)); replace HB := Aside0.mk (hb); replace HI169 := Aside0.mk (hi); (try clear hb); (try clear hb2); (try clear hk); (try clear hi)) | ((with_reducible refine gate_callee (f := 14) rfl ?_); refine goesL_ (some 11) rfl rfl Tryd.func14 (by kernel_rfl) rfl #[.pointer (some ⟨g169, 0, none⟩), .int .i64 (wrap64 (1 + t170))] rfl y4 ?_; (with_reducible refine (spec_l71Type.calls k g169 t167 t171 (wrap64 (1 + t170)) t172 t175 w _ ?side1 ?side2 A4.out).mono ?_); (case side1 => exact y17 HI169.out NB169_166.out); (case side2 => exact y14 HB.out HI169.out GE166.out); rintro e w9 ⟨v173, rfl, ho0, hi, hb, hk⟩; refine ⟨_, rfl, ?_⟩; have HO174 := Aside0.mk (Kd.N_lower (Kd.N_mono (ok' := fun k_ => (w.heap.size ≤ k_) ∧ k_ ≠ gb166 ∧ k_ ≠ g169) ho0 (fun k_ hk_ => ⟨(Nat.le_trans (below_size (y14 HB.out HI169.out GE166.out)) hk_), (Kd.freshB (g := gb166) (o := .cells #[.int .i64 0, .slice none 0 0] 25 (0, 0)) (y1 BK166.out) k_ hk_), (IsS51.fresh (y17 HI169.out NB169_166.out) k_ hk_)⟩)) (below_size (y14 HB.out HI169.out GE166.out))); replace BK166 := Aside0.mk (KeepBut.blk hk (g' := gb166) (o := .cells #[.int .i64 0, .slice none 0 0] 25 (0, 0)) (y1 BK166.out) NB166_169.out (by simp)); replace HB := Aside0.mk (hb); replace HI169 := Aside0.mk (hi); (try clear hb); (try clear hb2); (try clear hk); (try clear hi); (try clear ho0); obtain ⟨Ao10, co10, eo10⟩ := Kd.N_slice HO174.out; subst eo10) | ((with_reducible refine gate_callee (f := 13) rfl ?_); refine goesL_ (some 12) rfl rfl Tryd.func13 (by kernel_rfl) rfl #[.pointer (some ⟨g169, 0, none⟩), .agg #[.slice Ao10 t172.length co10]] rfl y4 ?_; (with_reducible refine (spec_l71Bad.calls k g169 t167 t175 (fun k_ => ((w.heap.size ≤ k_) ∧ (k_ ≠ gb166 ∧ k_ ≠ g169))) _ _ t172 t176 t177 t180 w _ ?side1 ?side2 ?side3 A5.out).mono ?_); (case side1 => exact y17 HI169.out NB169_166.out); (case side2 => exact y14 HB.out HI169.out GE166.out); (case side3 => exact Kd.V_mono (Kd.N_V (HO174.out)) (fun k_ hk_ => ⟨hk_, hk_.2.2⟩)); rintro e w11 ⟨v178, rfl, ho0, hi, hb, hk⟩; refine ⟨_, rfl, ?_⟩; replace HO174 := Aside0.mk (Kd.N_mono (Kd.N_told (Kd.N_oldK (Kd.N_mono (ok := fun k_ => (((w.heap.size ≤ k_)) ∧ (k_ ≠ gb166 ∧ k_ ≠ g169))) (y12 HO174.out) (fun k_ hk_ => (⟨hk_, hk_.2.2⟩ : _ ∧ k_ ≠ g169))) hk) (Kd.N_base ho0)) (fun _ h_ => h_.1)); have HO179 := Aside0.mk (Kd.N_lower (Kd.N_mono (ok' := fun k_ => (w.heap.size ≤ k_) ∧ k_ ≠ gb166 ∧ k_ ≠ g169) ho0 (fun k_ hk_ => ⟨Or.elim hk_ (fun hs_ => hs_.1) (fun hn_ => (Nat.le_trans (below_size (y14 HB.out HI169.out GE166.out)) hn_)), Or.elim hk_ (fun hs_ => hs_.2.1) (fun hn_ => (Kd.freshB (g := gb166) (o := .cells #[.int .i64 0, .slice none 0 0] 25 (0, 0)) (y1 BK166.out) k_ hn_)), Or.elim hk_ (fun hs_ => hs_.2.2) (fun hn_ => (IsS51.fresh (y17 HI169.out NB169_166.out) k_ hn_))⟩)) (below_size (y14 HB.out HI169.out GE166.out))); replace BK166 := Aside0.mk (KeepBut.blk hk (g' := gb166) (o := .cells #[.int .i64 0, .slice none 0 0] 25 (0, 0)) (y1 BK166.out) NB166_169.out (by simp)); replace HB := Aside0.mk (hb); replace HI169 := Aside0.mk (hi); (try clear hb); (try clear hb2); (try clear hk); (try clear hi); (try clear ho0); have hnb12 := NB166_169.out; have hnc12 := NB169_166.out; have hcz13_0 := zh BK166; have hcz13_1 := zh1 BK166; have hfz13_0 := zfr BK166 0; have hfz13_1 := zfr BK166 1; obtain ⟨Ao14, co14, eo14⟩ := Kd.N_slice HO179.out; subst eo14))
 refine bodyPost_ret (results_cell_row rfl _ _ gb166 25 #[.int .i64 t176, .slice Ao14 t177.length co14] (0, 0) _ rfl (by (with_reducible repeat (first | refine blk_drewN ?_ _ | refine blk_drew ?_ | refine blk_alloc ?_ _)); refine blk_put (cs := #[.int .i64 t176, .slice none 0 0]) ?_ 1 _ rfl; (with_reducible repeat (first | refine blk_drewN ?_ _ | refine blk_drew ?_ | refine blk_alloc ?_ _)); apply blk_put (i := 0); (case h => exact y1 BK166.out); (case e => rfl)) Tryd.underlying25 rfl (by kernel_rfl)) rfl ?_
 exact ⟨_, y7, (by (with_reducible repeat (first | apply Kd.N_alloc | apply Kd.N_drewN | apply Kd.N_drew)); exact Kd.N_mono (Kd.N_far (p := ⟨gb166, 1, none⟩) (Kd.N_far (p := ⟨gb166, 0, none⟩) (Kd.N_mono HO179.out (fun k_ hk => (⟨hk, hk.2.1⟩ : _ ∧ k_ ≠ gb166))) (fun _ hk => hk.2) (.int .i64 t176)) (fun _ hk => hk.2) (.slice Ao14 t177.length co14)) (fun _ hk => hk.1.1)), (y14 HB.out HI169.out GE166.out)⟩
end Go.Proofs.YtihfbpmblppbgaaDoor.PA
end
section
namespace Go.Proofs.YtihfbpmblppbgaaDoor.PA
open Go.RowKit Go.Proofs.YtihfbpmblppbgaaDoorW.PrintWords Go.Proofs.YtihfbpmblppbgaaDoorW.PrintLast Go.Proofs.YtihfbpmblppbgaaDoorW.PrintMore
attribute [local go_sem] max2_int min2_int max_two min_two max_three min_three max_four min_four
set_option linter.unusedVariables false
set_option linter.unusedSimpArgs false
mutual
def impl_valType.j0 : Nat → Int → Bool → Int → List (S25) → Option ((List (S41)) × Bool)
 | 0, _, _, _, _ => none
 | k + 1, x1, x34, x199000, x199001 => if x34 = true then (some (([] : List (S41)), false)) else (if 0 < (x199001.length : Int) then ((impl_valType.f k ((rd_T25 x199001 0).f0) ((rd_T25 x199001 0).f1) (wrap64 (x1 - 1))).bind fun bt201 => (if 1 < (x199001.length : Int) then ((impl_valType.f k ((rd_T25 x199001 1).f0) ((rd_T25 x199001 1).f1) (wrap64 (x1 - 1))).bind fun bt207 => (if bt201.2 = true then (if bt207.2 = true then (some ((([(⟨bt201.1⟩ : S41), (⟨bt207.1⟩ : S41)] : List (S41))), true)) else (some (([] : List (S41)), false))) else (some (([] : List (S41)), false)))) else (none))) else (none))
def impl_valType.f : Nat → Int → List (S25) → Int → Option ((List (S41)) × Bool)
 | 0, _, _, _ => none
 | k + 1, a0_0, l0_1, a1 => if a1 < 1 then (some (([] : List (S41)), false)) else (if (l0_1.length : Int) = 0 then (if a0_0 ≥ 0 then (some (([] : List (S41)), decide (a0_0 ≤ 9999))) else (some (([] : List (S41)), false))) else (if (l0_1.length : Int) = 2 then (impl_valType.j0 k a1 (a0_0 != 0) a0_0 l0_1) else (impl_valType.j0 k a1 true a0_0 l0_1)))
end
theorem impl_valType.mono_l : ∀ k, (∀ y0 y1 y2, LeO (impl_valType.f k y0 y1 y2) (impl_valType.f (k + 1) y0 y1 y2)) ∧ (∀ y0 y1 y2 y3, LeO (impl_valType.j0 k y0 y1 y2 y3) (impl_valType.j0 (k + 1) y0 y1 y2 y3))
 | 0 => ⟨fun _ _ _ r h => by simp [impl_valType.f] at h, fun _ _ _ _ r h => by simp [impl_valType.j0] at h⟩
 | k + 1 => by
  obtain ⟨ih0, ih1⟩ := impl_valType.mono_l k
  refine ⟨?_, ?_⟩
  ·intro y0 y1 y2
   unfold impl_valType.f
   repeat' first
   | (with_reducible exact ih0 _ _ _)
   | (with_reducible exact ih1 _ _ _ _)
   | (with_reducible exact LeO.refl _)
   | (with_reducible exact LeO.none _)
   | (with_reducible refine LeO.ite ?_ ?_)
   | (with_reducible refine LeO.bind ?_ (fun _ => ?_))
   | exact ih0 _ _ _
   | exact ih1 _ _ _ _
   | exact LeO.none _
   | refine LeO.ite ?_ ?_
   | refine LeO.bind ?_ (fun _ => ?_)
  ·intro y0 y1 y2 y3
   unfold impl_valType.j0
   repeat' first
   | (with_reducible exact ih0 _ _ _)
   | (with_reducible exact ih1 _ _ _ _)
   | (with_reducible exact LeO.refl _)
   | (with_reducible exact LeO.none _)
   | (with_reducible refine LeO.ite ?_ ?_)
   | (with_reducible refine LeO.bind ?_ (fun _ => ?_))
   | exact ih0 _ _ _
   | exact ih1 _ _ _ _
   | exact LeO.none _
   | refine LeO.ite ?_ ?_
   | refine LeO.bind ?_ (fun _ => ?_)
theorem impl_valType.mono : ∀ a0 a1 a2 k, LeO (impl_valType.f k a0 a1 a2) (impl_valType.f (k + 1) a0 a1 a2) := by
 intro a0 a1 a2 k
 obtain ⟨ih0, ih1⟩ := impl_valType.mono_l k
 exact ih0 a0 a1 a2
def impl_valType.T4 : Bool × List (List Nat × List Nat) := (true, [([], []), ([], []), ([1], [1]), ([2], [2]), ([3], [3]), ([4], [4]), ([5, 4], [4, 5]), ([6, 4], [4, 6]), ([4, 7], [4, 7]), ([0, 4, 0], [0]), ([8, 9, 0, 1, 2, 3, 4, 5, 6, 7, 8, 9], [8])])
def impl_valType.B4 : List Nat := [0, 0, 2, 6, 14, 30, 62, 126, 254, 31, 1023]
theorem impl_valType.tab4 : rtab .any (opsOf Tryd.f24 4) = impl_valType.T4 := by kernel_rfl
theorem impl_valType.bits4 : waitsOk impl_valType.T4.2 impl_valType.B4 = true := by kernel_rfl
set_option maxHeartbeats 8000000 in
set_option maxRecDepth 100000 in
theorem impl_valType.calls (k : Nat) : ∀ (a0_0 : Int) (A0_1 : Option Addr) (c0_1 : Nat) (l0_1 : List (S25)) (a1 : Int) (r1 : List (S41)) (r2 : Bool) (w : World) (hr0_1 : Kd.C k25 w A0_1 l0_1.length l0_1) (hc0_1 : l0_1.length ≤ c0_1) (h : impl_valType.f k a0_0 l0_1 a1 = some (r1, r2)),
  Calls Tryd.prog 24 #[.agg #[.int .i64 a0_0, .slice A0_1 l0_1.length c0_1], .int .i64 a1] w fun e w' => ∃ v0_ : Value, e = .returned (.tuple #[.agg #[v0_], .bool r2]) ∧ Kd.N k41 41 w' w.heap.size (fun k_ => (w.heap.size ≤ k_)) v0_ r1 ∧ Below w.heap.size w w' := by
 induction k using Nat.strongRecOn with
 | _ k ih =>
 intro a0_0 A0_1 c0_1 l0_1 a1 r1 r2 w hr0_1 hc0_1 h
 cases k with
 | zero => exact absurd h (by simp [impl_valType.f])
 | succ k =>
 simp only [impl_valType.f] at h
 have hu25 := Tryd.underlying25
 have hu41 := Tryd.underlying41
 have HR0_1 := Aside0.mk hr0_1
 have HC0_1 := Aside0.mk hc0_1
 clear hr0_1 hc0_1
 have HB := Aside0.mk (Below.refl w.heap.size w)
 have H : (if a1 < 1 then (some (([] : List (S41)), false)) else (if (l0_1.length : Int) = 0 then (if a0_0 ≥ 0 then (some (([] : List (S41)), decide (a0_0 ≤ 9999))) else (some (([] : List (S41)), false))) else (if (l0_1.length : Int) = 2 then (impl_valType.j0 k a1 (a0_0 != 0) a0_0 l0_1) else (impl_valType.j0 k a1 true a0_0 l0_1)))) = some (r1, r2) := h
 clear h
 by_cases c3 : a1 < 1
 ·rw [if_pos c3] at H
  have c3b0 : decide (a1 < 1) = true := decide_eq_true c3
  clear c3
  simp only [Option.some.injEq, Prod.mk.injEq] at H
  obtain ⟨rfl, rfl⟩ := H
  go_enter Tryd.func24, Tryd.ntmps24
  go_wp2_with (first | ((with_reducible refine gate_dst (N := 2) rfl ?_); refine zbx 2 #[.int .i64 a0_0, .slice A0_1 l0_1.length c0_1] 25 ?_; intro gb198 hg w4 hbox hb; have BK198 := Aside0.mk hbox; have GW198 := Aside0.mk ((y5 hg HB.out : w.heap.size ≤ gb198)); have GE198 := Aside0.mk ((y5 hg HB.out : w.heap.size ≤ gb198)); replace HB := Aside0.mk (below_step (y2 HB.out) hb); clear hb hbox hg) | ((with_reducible refine gate_dst (N := 4) rfl ?_); refine zbx 4 #[.slice none 0 0] 41 ?_; intro gb199 hg w5 hbox hb; have BK199 := Aside0.mk hbox; have GW199 := Aside0.mk ((y8 hg HB.out GE198.out : w.heap.size ≤ gb199)); have GE199 := Aside0.mk ((y8 hg HB.out GE198.out : w.heap.size ≤ gb199)); replace HB := Aside0.mk (below_step (y0 HB.out GE198.out) hb); have NB198_199 := zltn hg BK198; have NB199_198 := zgtn hg BK198; replace BK198 := zbb BK198 hb; clear hb hbox hg; have hnb6 := NB199_198.out; have hnc6 := NB198_199.out; have hcz7_0 := zh BK199; have hfz7_0 := zfr BK199 0))
  refine bodyPost_ret (results_ct rfl _ _ gb199 41 #[.slice none 0 0] (0, 0) _ rfl (by (with_reducible repeat (first | refine blk_drewN ?_ _ | refine blk_drew ?_ | refine blk_alloc ?_ _)); apply blk_put (i := 0); (case h => exact y1 BK199.out); (case e => rfl)) Tryd.underlying41 rfl (by kernel_rfl)) rfl ?_
  exact ⟨_, y7, y31, (y3 HB.out GE198.out GE199.out)⟩
 ·rw [if_neg c3] at H
  have c3b0 : decide (a1 < 1) = false := decide_eq_false c3
  clear c3
  by_cases c8 : (l0_1.length : Int) = 0
  ·rw [if_pos c8] at H
   have c8b0 : ((l0_1.length : Int) == 0) = true := beq_iff_eq.mpr c8
   have c8b1 : ((l0_1.length : Int) != 0) = false := bne_eq_false_iff_eq.mpr c8
   clear c8
   by_cases c9 : a0_0 ≥ 0
   ·rw [if_pos c9] at H
    have c9b0 : decide (0 ≤ a0_0) = true := decide_eq_true c9
    clear c9
    simp only [Option.some.injEq, Prod.mk.injEq] at H
    obtain ⟨rfl, rfl⟩ := H
    go_enter Tryd.func24, Tryd.ntmps24
    try go_wp2_with (first | ((with_reducible refine gate_dst (N := 2) rfl ?_); refine zbx 2 #[.int .i64 a0_0, .slice A0_1 l0_1.length c0_1] 25 ?_; intro gb198 hg w10 hbox hb; have BK198 := Aside0.mk hbox; have GW198 := Aside0.mk ((y5 hg HB.out : w.heap.size ≤ gb198)); have GE198 := Aside0.mk ((y5 hg HB.out : w.heap.size ≤ gb198)); replace HB := Aside0.mk (below_step (y2 HB.out) hb); clear hb hbox hg) | ((with_reducible refine gate_dst (N := 4) rfl ?_); refine zbx 4 #[.slice none 0 0] 41 ?_; intro gb199 hg w11 hbox hb; have BK199 := Aside0.mk hbox; have GW199 := Aside0.mk ((y8 hg HB.out GE198.out : w.heap.size ≤ gb199)); have GE199 := Aside0.mk ((y8 hg HB.out GE198.out : w.heap.size ≤ gb199)); replace HB := Aside0.mk (below_step (y0 HB.out GE198.out) hb); have NB198_199 := zltn hg BK198; have NB199_198 := zgtn hg BK198; replace BK198 := zbb BK198 hb; clear hb hbox hg; have hnb12 := NB198_199.out; have hnc12 := NB199_198.out; have hcz13_0 := zh BK198; have hcz13_1 := zh1 BK198; have hfz13_0 := zfr BK198 0; have hfz13_1 := zfr BK198 1))
    replace BK198 := Aside0.mk (blk_drew BK198.out)
    replace BK199 := Aside0.mk (blk_drew BK199.out)
    replace HB := Aside0.mk (below_drew1 HB.out)
    refine start_ (n := 11) (S := fun w' => w'.cell? ⟨gb198, 0, none⟩ = some (.int .i64 a0_0) ∧ w'.cell? ⟨gb198, 1, none⟩ = some (.slice A0_1 l0_1.length c0_1)) (ds := []) #[false, false, false, false, false, false, false, false, false, false, false] (by kernel_rfl) rfl rfl ⟨(blk_cell BK198.out 0).trans rfl, (blk_cell BK198.out 1).trans rfl⟩ (fun hHeld => ?_); refine with_tabW impl_valType.tab4 impl_valType.bits4 (fun HT_ HW_ => ?_)
    generalize w11.drew = w14 at BK198 BK199 HB hHeld ⊢
    refine zp 0 (some 17) HT_ ?_
    refine zp 1 (some 18) HT_ ?_
    refine zt2 2 (some 19) HT_ HW_ hHeld ?_
    refine zp 3 (some 20) HT_ ?_
    refine zp 4 (some 21) HT_ ?_
    refine zp 5 (some 22) HT_ ?_
    refine zt2 6 (some 23) HT_ HW_ hHeld ?_
    refine zp 7 (some 24) HT_ ?_
    refine zp 8 (some 25) HT_ ?_
    refine one_ (i := 9) (N := none) #[true, true, true, true, true, true, true, true, true, true, false] rfl rfl (one_of HT_.out (by kernel_rfl)) (by decide) (fun K hK => ?_)
    have hs15 : w14.cell? ⟨gb199, 0, none⟩ = some (.slice none 0 0) := (blk_cell BK199.out 0).trans rfl
    have hfs15 := zfr BK199 0
    have hns15_0 := NB198_199.out
    have hms15_0 := NB199_198.out
    refine skip_ (w1 := ?_) (by rfl) rfl ?_ ?_
    rotate_left
    ·go_simp
     rfl
    refine hK.out _ _ ⟨((cell_far (p := ⟨gb199, _, none⟩) NB198_199.out _).trans (hHeld.1)), ((cell_far (p := ⟨gb199, _, none⟩) NB198_199.out _).trans (hHeld.2))⟩ (fun hHeld => ?_)
    clear hK K
    refine zp 10 (some 5) HT_ ?_
    refine done_ (done_of HT_.out (by kernel_rfl)) ?_
    try go_wp2
    refine bodyPost_ret (results_ct rfl _ _ gb199 41 #[.slice none 0 0] (0, 0) _ rfl (by (with_reducible repeat (first | refine blk_drewN ?_ _ | refine blk_drew ?_ | refine blk_alloc ?_ _)); apply blk_put (i := 0); (case h => exact y1 BK199.out); (case e => rfl)) Tryd.underlying41 rfl (by kernel_rfl)) rfl ?_
    exact ⟨_, y7, y31, (y3 HB.out GE198.out GE199.out)⟩
   ·rw [if_neg c9] at H
    have c9b0 : decide (0 ≤ a0_0) = false := decide_eq_false c9
    clear c9
    simp only [Option.some.injEq, Prod.mk.injEq] at H
    obtain ⟨rfl, rfl⟩ := H
    go_enter Tryd.func24, Tryd.ntmps24
    try go_wp2_with (first | ((with_reducible refine gate_dst (N := 2) rfl ?_); refine zbx 2 #[.int .i64 a0_0, .slice A0_1 l0_1.length c0_1] 25 ?_; intro gb198 hg w16 hbox hb; have BK198 := Aside0.mk hbox; have GW198 := Aside0.mk ((y5 hg HB.out : w.heap.size ≤ gb198)); have GE198 := Aside0.mk ((y5 hg HB.out : w.heap.size ≤ gb198)); replace HB := Aside0.mk (below_step (y2 HB.out) hb); clear hb hbox hg) | ((with_reducible refine gate_dst (N := 4) rfl ?_); refine zbx 4 #[.slice none 0 0] 41 ?_; intro gb199 hg w17 hbox hb; have BK199 := Aside0.mk hbox; have GW199 := Aside0.mk ((y8 hg HB.out GE198.out : w.heap.size ≤ gb199)); have GE199 := Aside0.mk ((y8 hg HB.out GE198.out : w.heap.size ≤ gb199)); replace HB := Aside0.mk (below_step (y0 HB.out GE198.out) hb); have NB198_199 := zltn hg BK198; have NB199_198 := zgtn hg BK198; replace BK198 := zbb BK198 hb; clear hb hbox hg; have hnb18 := NB198_199.out; have hnc18 := NB199_198.out; have hcz19_0 := zh BK198; have hcz19_1 := zh1 BK198; have hfz19_0 := zfr BK198 0; have hfz19_1 := zfr BK198 1))
    replace BK198 := Aside0.mk (blk_drew BK198.out)
    replace BK199 := Aside0.mk (blk_drew BK199.out)
    replace HB := Aside0.mk (below_drew1 HB.out)
    refine start_ (n := 11) (S := fun w' => w'.cell? ⟨gb198, 0, none⟩ = some (.int .i64 a0_0) ∧ w'.cell? ⟨gb198, 1, none⟩ = some (.slice A0_1 l0_1.length c0_1)) (ds := []) #[false, false, false, false, false, false, false, false, false, false, false] (by kernel_rfl) rfl rfl ⟨(blk_cell BK198.out 0).trans rfl, (blk_cell BK198.out 1).trans rfl⟩ (fun hHeld => ?_); refine with_tabW impl_valType.tab4 impl_valType.bits4 (fun HT_ HW_ => ?_)
    generalize w17.drew = w20 at BK198 BK199 HB hHeld ⊢
    refine zp 0 (some 17) HT_ ?_
    refine zp 1 (some 18) HT_ ?_
    refine zt2 2 (some 19) HT_ HW_ hHeld ?_
    refine zp 3 (some 20) HT_ ?_
    refine zp 4 (some 21) HT_ ?_
    refine pure_ (i := 5) (N := some 22) (v := undef) (a' := ?_) #[true, true, true, true, true, true, false, false, false, false, false] rfl rfl (any_of HT_.out (by kernel_rfl)) (fun _ _ _ h => h) (Or.inr ⟨(by rfl), rfl⟩) ?_ ?_
    rotate_left
    ·simp only [Act.put, List.setIfInBounds_toArray, List.set_cons_zero, List.set_cons_succ, i64_w, i32_w]
     rfl
    refine pure_ (i := 6) (N := some 23) (v := undef) (a' := ?_) #[true, true, true, true, true, true, true, false, false, false, false] rfl rfl (any_of HT_.out (by kernel_rfl)) (fun _ _ _ h => h) (Or.inr ⟨(by rfl), rfl⟩) ?_ ?_
    rotate_left
    ·simp only [Act.put, List.setIfInBounds_toArray, List.set_cons_zero, List.set_cons_succ, i64_w, i32_w]
     rfl
    refine pure_ (i := 7) (N := some 24) (v := undef) (a' := ?_) #[true, true, true, true, true, true, true, true, false, false, false] rfl rfl (any_of HT_.out (by kernel_rfl)) (fun _ _ _ h => h) (Or.inr ⟨(by rfl), rfl⟩) ?_ ?_
    rotate_left
    ·simp only [Act.put, List.setIfInBounds_toArray, List.set_cons_zero, List.set_cons_succ, i64_w, i32_w]
     rfl
    refine zp 8 (some 25) HT_ ?_
    refine one_ (i := 9) (N := none) #[true, true, true, true, true, true, true, true, true, true, false] rfl rfl (one_of HT_.out (by kernel_rfl)) (by decide) (fun K hK => ?_)
    have hs21 : w20.cell? ⟨gb199, 0, none⟩ = some (.slice none 0 0) := (blk_cell BK199.out 0).trans rfl
    have hfs21 := zfr BK199 0
    have hns21_0 := NB198_199.out
    have hms21_0 := NB199_198.out
    refine skip_ (w1 := ?_) (by rfl) rfl ?_ ?_
    rotate_left
    ·go_simp
     rfl
    refine hK.out _ _ ⟨((cell_far (p := ⟨gb199, _, none⟩) NB198_199.out _).trans (hHeld.1)), ((cell_far (p := ⟨gb199, _, none⟩) NB198_199.out _).trans (hHeld.2))⟩ (fun hHeld => ?_)
    clear hK K
    refine zp 10 (some 5) HT_ ?_
    refine done_ (done_of HT_.out (by kernel_rfl)) ?_
    try go_wp2
    refine bodyPost_ret (results_ct rfl _ _ gb199 41 #[.slice none 0 0] (0, 0) _ rfl (by (with_reducible repeat (first | refine blk_drewN ?_ _ | refine blk_drew ?_ | refine blk_alloc ?_ _)); apply blk_put (i := 0); (case h => exact y1 BK199.out); (case e => rfl)) Tryd.underlying41 rfl (by kernel_rfl)) rfl ?_
    exact ⟨_, y7, y31, (y3 HB.out GE198.out GE199.out)⟩
  ·rw [if_neg c8] at H
   have c8b0 : ((l0_1.length : Int) == 0) = false := beq_eq_false_iff_ne.mpr c8
   have c8b1 : ((l0_1.length : Int) != 0) = true := bne_iff_ne.mpr c8
   have c8b2 : ¬ (l0_1 = []) := fun h_ => c8 (by rw [h_]; rfl)
   have HC22 := Aside0.mk H
   clear H
   go_enter Tryd.func24, Tryd.ntmps24
   go_upto_region 5 with (first | ((with_reducible refine gate_dst (N := 2) rfl ?_); refine zbx 2 #[.int .i64 a0_0, .slice A0_1 l0_1.length c0_1] 25 ?_; intro gb198 hg w23 hbox hb; have BK198 := Aside0.mk hbox; have GW198 := Aside0.mk ((y5 hg HB.out : w.heap.size ≤ gb198)); have GE198 := Aside0.mk ((y5 hg HB.out : w.heap.size ≤ gb198)); replace HB := Aside0.mk (below_step (y2 HB.out) hb); clear hb hbox hg) | ((with_reducible refine gate_dst (N := 4) rfl ?_); refine zbx 4 #[.slice none 0 0] 41 ?_; intro gb199 hg w24 hbox hb; have BK199 := Aside0.mk hbox; have GW199 := Aside0.mk ((y8 hg HB.out GE198.out : w.heap.size ≤ gb199)); have GE199 := Aside0.mk ((y8 hg HB.out GE198.out : w.heap.size ≤ gb199)); replace HB := Aside0.mk (below_step (y0 HB.out GE198.out) hb); have NB198_199 := zltn hg BK198; have NB199_198 := zgtn hg BK198; replace BK198 := zbb BK198 hb; clear hb hbox hg; have hnb25 := NB198_199.out; have hnc25 := NB199_198.out; have hcz26_0 := zh BK198; have hcz26_1 := zh1 BK198; have hfz26_0 := zfr BK198 0; have hfz26_1 := zfr BK198 1))
   (try simp only [Act.put, List.setIfInBounds_toArray, List.set_cons_zero, List.set_cons_succ])
   go_cut [34] (fun v34 wc => ∃ (kq : Nat) (x34_21 : Bool), v34 = .bool x34_21 ∧ Aside0 (impl_valType.j0 kq a1 x34_21 a0_0 l0_1 = some (r1, r2)) ∧ Aside0 (kq ≤ k) ∧ Aside0 (wc.heap[gb198]? = some (.cells #[.int .i64 a0_0, (.slice A0_1 l0_1.length c0_1)] 25 (0, 0))) ∧ Aside0 (wc.heap[gb199]? = some (.cells #[(.slice none 0 0)] 41 (0, 0))) ∧ Aside0 (Below w.heap.size w wc))
   case first =>
    have H := HC22.out
    clear HC22
    by_cases c27 : (l0_1.length : Int) = 2
    ·rw [if_pos c27] at H
     have c27b0 : ((l0_1.length : Int) == 2) = true := beq_iff_eq.mpr c27
     have c27b1 : ((l0_1.length : Int) != 2) = false := bne_eq_false_iff_eq.mpr c27
     clear c27
     (first | rw [c27b0] | (simp only [i64_w, i32_w]; rw [c27b0]) | skip)
     have H' := Aside0.mk H
     clear H
     have hnb28 := NB198_199.out
     have hnc28 := NB199_198.out
     have hcz29_0 := zh BK198
     have hcz29_1 := zh1 BK198
     have hfz29_0 := zfr BK198 0
     have hfz29_1 := zfr BK198 1
     go_wp2
     go_meet
     case rel => exact ⟨_, ((a0_0 != 0)), y26, H', ⟨y36⟩, ⟨(y1 BK198.out)⟩, ⟨(y1 BK199.out)⟩, ⟨(y3 HB.out GE198.out GE199.out)⟩⟩
    ·rw [if_neg c27] at H
     have c27b0 : ((l0_1.length : Int) == 2) = false := beq_eq_false_iff_ne.mpr c27
     have c27b1 : ((l0_1.length : Int) != 2) = true := bne_iff_ne.mpr c27
     (first | rw [c27b0] | (simp only [i64_w, i32_w]; rw [c27b0]) | skip)
     have H' := Aside0.mk H
     clear H
     have hnb30 := NB198_199.out
     have hnc30 := NB199_198.out
     have hcz31_0 := zh BK198
     have hcz31_1 := zh1 BK198
     have hfz31_0 := zfr BK198 0
     have hfz31_1 := zfr BK198 1
     go_wp2
     go_meet
     case rel => exact ⟨_, (true), y26, H', ⟨y36⟩, ⟨(y1 BK198.out)⟩, ⟨(y1 BK199.out)⟩, ⟨(y3 HB.out GE198.out GE199.out)⟩⟩
   case rest =>
    clear HC22
    try clear c1
    try clear c2
    try clear p2
    try clear c3
    try clear c3b0
    try clear c6
    try clear c8
    try clear c8b0
    try clear c8b1
    try clear c8b2
    try clear c9
    try clear c9b0
    try clear c12
    try clear c18
    try clear c24
    try clear c25
    try clear c27
    try clear c27b0
    try clear c27b1
    try clear c28
    try clear c30
    try clear hcz13_0
    try clear hcz13_1
    try clear hcz19_0
    try clear hcz19_1
    try clear hcz26_0
    try clear hcz26_1
    try clear hcz29_0
    try clear hcz29_1
    try clear hcz31_0
    try clear hcz31_1
    try clear hcz7_0
    try clear hfz13_0
    try clear hfz13_1
    try clear hfz19_0
    try clear hfz19_1
    try clear hfz26_0
    try clear hfz26_1
    try clear hfz29_0
    try clear hfz29_1
    try clear hfz31_0
    try clear hfz31_1
    try clear hfz7_0
    obtain ⟨kq, x34_21, rfl, HA, HJ21, BK198, BK199, HB⟩ := hcut
    cases kq with
    | zero => exact absurd HA.out (by simp [impl_valType.j0])
    | succ kj21 =>
     have H := HA.out
     clear HA
     simp only [impl_valType.j0] at H
     by_cases c32 : x34_21 = true
     ·subst c32
      rw [if_pos rfl] at H
      simp only [Option.some.injEq, Prod.mk.injEq] at H
      obtain ⟨rfl, rfl⟩ := H
      have hnb33 := NB199_198.out
      have hnc33 := NB198_199.out
      have hcz34_0 := zh BK199
      have hfz34_0 := zfr BK199 0
      go_wp2
      refine bodyPost_ret (results_ct rfl _ _ gb199 41 #[.slice none 0 0] (0, 0) _ rfl (by (with_reducible repeat (first | refine blk_drewN ?_ _ | refine blk_drew ?_ | refine blk_alloc ?_ _)); apply blk_put (i := 0); (case h => exact y1 BK199.out); (case e => rfl)) Tryd.underlying41 rfl (by kernel_rfl)) rfl ?_
      exact ⟨_, y7, y31, (y3 HB.out GE198.out GE199.out)⟩
     ·replace c32 := Bool.eq_false_iff.mpr c32
      subst c32
      rw [if_neg (show ¬ (false = true) by decide)] at H
      by_cases c35 : 0 < (l0_1.length : Int)
      ·rw [if_pos c35] at H
       have c35b0 : decide (0 < (l0_1.length : Int)) = true := decide_eq_true c35
       have c35b1 : decide (0 < l0_1.length) = true := decide_eq_true (by omega)
       clear c35
       obtain ⟨⟨t201, t204⟩, A360, H⟩ := ob H
       have A36 := Aside0.mk A360
       clear A360
       by_cases c37 : 1 < (l0_1.length : Int)
       ·rw [if_pos c37] at H
        have c37b0 : decide (1 < (l0_1.length : Int)) = true := decide_eq_true c37
        have c37b1 : decide (1 < l0_1.length) = true := decide_eq_true (by omega)
        clear c37
        obtain ⟨⟨t207, t210⟩, A380, H⟩ := ob H
        have A38 := Aside0.mk A380
        clear A380
        by_cases c39 : t204 = true
        ·subst c39
         rw [if_pos rfl] at H
         by_cases c40 : t210 = true
         ·subst c40
          rw [if_pos rfl] at H
          obtain ⟨y212, hy212⟩ : ∃ y_ : List (S41), y_ = (([(⟨t201⟩ : S41), (⟨t207⟩ : S41)] : List (S41))) := ⟨_, rfl⟩
          replace H : (some (y212, true)) = some (r1, r2) := by first | (rw [hy212]; with_reducible exact H) | (have H2_ := (Option.bind_some _ _).symm.trans H; rw [hy212]; with_reducible exact H2_) | (have H2_ := (Option.bind_some _ _).symm.trans H; with_reducible exact H2_) | with_reducible exact H | (rw [hy212]; exact H) | exact H
          have Ny212 := Aside0.mk hy212
          clear hy212
          simp only [Option.some.injEq, Prod.mk.injEq] at H
          obtain ⟨rfl, rfl⟩ := H
          have hnb41 := NB198_199.out
          have hnc41 := NB199_198.out
          have hcz42_0 := zh BK198
          have hcz42_1 := zh1 BK198
          have hfz42_0 := zfr BK198 0
          have hfz42_1 := zfr BK198 1
          have p200 : 0 ≤ (0 : Int) := (by omega)
          have q200 : 0 < (l0_1.length : Int) := of_decide_eq_true y19
          obtain ⟨ad200, A200_1, c200_1, e200, hx200_0, hx200_1, hl200_1, hi200_1⟩ := at_T25 HR0_1.out 0 p200 q200
          cases e200
          have qi200 : (0 < l0_1.length) = True := eq_true (by omega)
          (try rw [show ((0 : Int)).toNat = 0 from rfl] at hx200_0)
          (try rw [show 0 * 2 = 0 from rfl] at hx200_0)
          (try rw [Addr.add_zero'] at hx200_0)
          (try rw [show ((0 : Int)).toNat = 0 from rfl] at hx200_1)
          (try rw [show 0 * 2 = 0 from rfl] at hx200_1)
          (try rw [Addr.add_zero'] at hx200_1)
          replace hx200_0 := (HB.out.cell (World.block_lt_of_cell? w _ hx200_0)).trans hx200_0
          replace hx200_1 := (HB.out.cell (World.block_lt_of_cell? w _ hx200_1)).trans hx200_1
          have HR200_1 := Aside0.mk hi200_1
          have HC200_1 := Aside0.mk hl200_1
          clear hi200_1 hl200_1
          replace p200 := eq_true p200
          replace q200 := eq_true q200
          go_wp2_with (first | ((with_reducible refine gate_callee (f := 24) rfl ?_); refine goesL_ (some 43) rfl rfl Tryd.func24 (by kernel_rfl) rfl #[.agg #[.int .i64 ((rd_T25 l0_1 0).f0), .slice A200_1 ((rd_T25 l0_1 0).f1).length c200_1], .int .i64 (wrap64 (a1 - 1))] rfl y4 ?_; (with_reducible refine (ih kj21 (y41 HJ21.out) ((rd_T25 l0_1 0).f0) _ _ ((rd_T25 l0_1 0).f1) (wrap64 (a1 - 1)) t201 true _ ?side1 ?side2 A36.out).mono ?_); (case side1 => exact y9 HR200_1.out HB.out); (case side2 => exact HC200_1.out); rintro e w43 ⟨v202, rfl, ho0, hb⟩; refine ⟨_, rfl, ?_⟩; have HO203 := Aside0.mk (Kd.N_lower (Kd.N_mono (ok' := fun k_ => (w.heap.size ≤ k_) ∧ k_ ≠ gb198 ∧ k_ ≠ gb199) ho0 (fun k_ hk_ => ⟨(Nat.le_trans (below_size (y3 HB.out GE198.out GE199.out)) hk_), (Kd.freshB (g := gb198) (o := .cells #[.int .i64 a0_0, .slice (some ad200) l0_1.length c0_1] 25 (0, 0)) (y1 BK198.out) k_ hk_), (Kd.freshB (g := gb199) (o := .cells #[.slice none 0 0] 41 (0, 0)) (y1 BK199.out) k_ hk_)⟩)) (below_size (y3 HB.out GE198.out GE199.out))); replace BK198 := zbb BK198 hb; replace BK199 := zbb BK199 hb; replace HB := Aside0.mk (below_step (y3 HB.out GE198.out GE199.out) hb); (try clear hb); (try clear hb2); (try clear hk); (try clear hi); (try clear ho0)) | ((with_reducible refine gate_dst (N := 6) rfl ?_); refine zbx 6 #[.slice none 0 0] 41 ?_; intro gb205 hg w44 hbox hb; replace HO203 := Aside0.mk (Kd.N_below (Kd.N_elderB (y12 HO203.out) gb205 (Nat.le_of_eq hg.symm)) hb); have BK205 := Aside0.mk hbox; have GW205 := Aside0.mk ((y27 hg HB.out GE198.out GE199.out : w.heap.size ≤ gb205)); have GE205 := Aside0.mk ((y27 hg HB.out GE198.out GE199.out : w.heap.size ≤ gb205)); replace HB := Aside0.mk (below_step (y3 HB.out GE198.out GE199.out) hb); have NB198_205 := zltn hg BK198; have NB205_198 := zgtn hg BK198; replace BK198 := zbb BK198 hb; have NB199_205 := zltn hg BK199; have NB205_199 := zgtn hg BK199; replace BK199 := zbb BK199 hb; clear hb hbox hg; obtain ⟨Ao45, co45, eo45⟩ := Kd.N_slice HO203.out; subst eo45; have hnb46 := NB205_198.out; have hnc46 := NB198_205.out; have hnb47 := NB205_199.out; have hnc47 := NB199_205.out; have hcz48_0 := zh BK205; have hfz48_0 := zfr BK205 0; have hcz49_0 := zh BK198; have hcz49_1 := zh1 BK198; have hfz49_0 := zfr BK198 0; have hfz49_1 := zfr BK198 1; have p206 : 0 ≤ (1 : Int) := (by omega); have q206 : 1 < (l0_1.length : Int) := of_decide_eq_true y19; obtain ⟨ad206, A206_1, c206_1, e206, hx206_0, hx206_1, hl206_1, hi206_1⟩ := at_T25 HR0_1.out 1 p206 q206; obtain rfl : ad200 = ad206 := (by injection e206); (try simp only [show (1 : Int).toNat = 1 from rfl, Nat.reduceMul, Nat.reduceEqDiff, Go.Addr.add, ↓reduceIte] at hx206_0); (try simp only [show (1 : Int).toNat = 1 from rfl, Nat.reduceMul, Nat.reduceEqDiff, Go.Addr.add, ↓reduceIte] at hx206_1); have qi206 : (1 < l0_1.length) = True := eq_true (by omega); (try rw [show ((1 : Int)).toNat = 1 from rfl] at hx206_0); (try rw [show 1 * 2 = 2 from rfl] at hx206_0); (try rw [show ((1 : Int)).toNat = 1 from rfl] at hx206_1); (try rw [show 1 * 2 = 2 from rfl] at hx206_1); have hn206_0 : ad200.block ≠ gb205 := Nat.ne_of_lt (Nat.lt_of_lt_of_le (by have := World.block_lt_of_cell? _ _ hx206_0; first | rwa [add_block] at this | exact this) GW205.out); replace hx206_0 := (HB.out.cell (World.block_lt_of_cell? w _ hx206_0)).trans hx206_0; replace hx206_1 := (HB.out.cell (World.block_lt_of_cell? w _ hx206_1)).trans hx206_1; have HR206_1 := Aside0.mk hi206_1; have HC206_1 := Aside0.mk hl206_1; clear hi206_1 hl206_1; replace hx206_0 := (cell_far (p := ⟨gb205, 0, none⟩) (by first | (rw [add_block]; exact hn206_0) | (show (Addr.add _ _).block ≠ _; rw [add_block]; exact hn206_0) | exact hn206_0) (.slice Ao45 t201.length co45)).trans hx206_0; replace hx206_1 := (cell_far (p := ⟨gb205, 0, none⟩) (by first | (rw [add_block]; exact hn206_0) | (show (Addr.add _ _).block ≠ _; rw [add_block]; exact hn206_0) | exact hn206_0) (.slice Ao45 t201.length co45)).trans hx206_1; clear hn206_0; replace p206 := eq_true p206; replace q206 := eq_true q206) | ((with_reducible refine gate_callee (f := 24) rfl ?_); refine goesL_ (some 53) rfl rfl Tryd.func24 (by kernel_rfl) rfl #[.agg #[.int .i64 ((rd_T25 l0_1 1).f0), .slice A206_1 ((rd_T25 l0_1 1).f1).length c206_1], .int .i64 (wrap64 (a1 - 1))] rfl y4 ?_; (with_reducible refine (ih kj21 (y41 HJ21.out) ((rd_T25 l0_1 1).f0) _ _ ((rd_T25 l0_1 1).f1) (wrap64 (a1 - 1)) t207 true _ ?side1 ?side2 A38.out).mono ?_); (case side1 => exact y34 HR206_1.out HB.out GE198.out GE199.out GE205.out); (case side2 => exact HC206_1.out); rintro e w50 ⟨v208, rfl, ho0, hb⟩; refine ⟨_, rfl, ?_⟩; have HO209 := Aside0.mk (Kd.N_lower (Kd.N_mono (ok' := fun k_ => (w.heap.size ≤ k_) ∧ some k_ ≠ (.slice Ao45 t201.length co45 : Value).ownBlock ∧ k_ ≠ gb198 ∧ k_ ≠ gb199 ∧ k_ ≠ gb205) ho0 (fun k_ hk_ => ⟨(Nat.le_trans (below_size (y6 HB.out GE198.out GE199.out GE205.out)) hk_), (Kd.fresh' (Kd.N_lt (by (with_reducible repeat (first | apply Kd.N_alloc | apply Kd.N_drewN | apply Kd.N_drew)); exact (Kd.N_mono (Kd.N_far (p := ⟨gb205, 0, none⟩) (Kd.N_mono HO203.out (fun k_ hk => (⟨hk, hk.2⟩ : _ ∧ k_ ≠ gb205))) (fun _ hk => hk.2) (.slice Ao45 t201.length co45)) (fun _ h_ => h_.1)))) k_ hk_), (Kd.freshB (g := gb198) (o := .cells #[.int .i64 a0_0, .slice (some ad200) l0_1.length c0_1] 25 (0, 0)) (y10 NB198_205.out BK198.out) k_ hk_), (Kd.freshB (g := gb199) (o := .cells #[.slice none 0 0] 41 (0, 0)) (y10 NB199_205.out BK199.out) k_ hk_), (Kd.freshB (g := gb205) (o := .cells #[.slice Ao45 t201.length co45] 41 (0, 0)) (by (with_reducible repeat (first | refine blk_drewN ?_ _ | refine blk_drew ?_ | refine blk_alloc ?_ _)); apply blk_put (i := 0); (case h => exact y1 BK205.out); (case e => rfl)) k_ hk_)⟩)) (below_size (y6 HB.out GE198.out GE199.out GE205.out))); replace HO203 := Aside0.mk (Kd.N_elder' (by (with_reducible repeat (first | apply Kd.N_alloc | apply Kd.N_drewN | apply Kd.N_drew)); exact (Kd.N_mono (Kd.N_far (p := ⟨gb205, 0, none⟩) (Kd.N_mono HO203.out (fun k_ hk => (⟨hk, hk.2⟩ : _ ∧ k_ ≠ gb205))) (fun _ hk => hk.2) (.slice Ao45 t201.length co45)) (fun _ h_ => h_.1))) (Kd.N_base ho0) hb); replace BK198 := zbf BK198 NB198_205 hb; replace BK199 := zbf BK199 NB199_205 hb; replace BK205 := Aside0.mk (blk_below (g := gb205) (o := .cells #[.slice Ao45 t201.length co45] 41 (0, 0)) (by (with_reducible repeat (first | refine blk_drewN ?_ _ | refine blk_drew ?_ | refine blk_alloc ?_ _)); apply blk_put (i := 0); (case h => exact y1 BK205.out); (case e => rfl)) hb); replace HB := Aside0.mk (below_step (y6 HB.out GE198.out GE199.out GE205.out) hb); (try clear hb); (try clear hb2); (try clear hk); (try clear hi); (try clear ho0)) | ((with_reducible refine gate_dst (N := 8) rfl ?_); refine zbx 8 #[.slice none 0 0] 41 ?_; intro gb211 hg w51 hbox hb; replace HO203 := Aside0.mk (Kd.N_below (Kd.N_elderB (y12 HO203.out) gb211 (Nat.le_of_eq hg.symm)) hb); replace HO209 := Aside0.mk (Kd.N_below (Kd.N_elderB (y12 HO209.out) gb211 (Nat.le_of_eq hg.symm)) hb); have BK211 := Aside0.mk hbox; have GW211 := Aside0.mk ((y25 hg HB.out GE198.out GE199.out GE205.out : w.heap.size ≤ gb211)); have GE211 := Aside0.mk ((y25 hg HB.out GE198.out GE199.out GE205.out : w.heap.size ≤ gb211)); replace HB := Aside0.mk (below_step (y6 HB.out GE198.out GE199.out GE205.out) hb); have NB198_211 := zltn hg BK198; have NB211_198 := zgtn hg BK198; replace BK198 := zbb BK198 hb; have NB199_211 := zltn hg BK199; have NB211_199 := zgtn hg BK199; replace BK199 := zbb BK199 hb; have NB205_211 := zltn hg BK205; have NB211_205 := zgtn hg BK205; replace BK205 := zbb BK205 hb; clear hb hbox hg; obtain ⟨Ao52, co52, eo52⟩ := Kd.N_slice HO209.out; subst eo52; have hnb53 := NB211_198.out; have hnc53 := NB198_211.out; have hnb54 := NB211_199.out; have hnc54 := NB199_211.out; have hnb55 := NB211_205.out; have hnc55 := NB205_211.out; have hcz56_0 := zh BK211; have hfz56_0 := zfr BK211 0) | ((with_reducible refine gate_store (t := 41) (p := 8) rfl ?_); refine store_event (t := 41) (p := 8) (v := ?vo_w57) (w1 := (w51.setCell ⟨gb211, 0, none⟩ (.slice Ao52 t207.length co52))) ?hg ?ho ?hn ?hr ?_; (case ho => rfl); (case hg => rfl); (case hn => rfl); (case hr => first | (go_simp; done) | (go_simp; rfl)); intro w57 hw; have n0_ : Aside0 (Kd.N k41 41 w57 w.heap.size (fun k_ => (w.heap.size ≤ k_) ∧ some k_ ≠ (.slice Ao52 t207.length co52 : Value).ownBlock ∧ k_ ≠ gb198 ∧ k_ ≠ gb199 ∧ k_ ≠ gb205 ∧ k_ ≠ gb211) (.slice Ao45 t201.length co45) t201) := ⟨(by rw [hw]; exact (by (with_reducible repeat (first | apply Kd.N_alloc | apply Kd.N_drewN | apply Kd.N_drew)); exact Kd.N_mono (Kd.N_far (p := ⟨gb211, 0, none⟩) (Kd.N_mono HO203.out (fun k_ hk => (⟨hk, hk.2⟩ : _ ∧ k_ ≠ gb211))) (fun _ hk => hk.2) (.slice Ao52 t207.length co52)) (fun _ hk => ⟨hk.1.1.1.1.1, ⟨hk.1.1.2, ⟨hk.1.1.1.1.2.1, ⟨hk.1.1.1.1.2.2, ⟨hk.1.1.1.2, hk.1.2⟩⟩⟩⟩⟩)))⟩; have n1_ : Aside0 (Kd.N k41 41 w57 w.heap.size (fun k_ => (w.heap.size ≤ k_) ∧ some k_ ≠ (.slice Ao45 t201.length co45 : Value).ownBlock ∧ k_ ≠ gb198 ∧ k_ ≠ gb199 ∧ k_ ≠ gb205 ∧ k_ ≠ gb211) (.slice Ao52 t207.length co52) t207) := ⟨(by rw [hw]; exact (by (with_reducible repeat (first | apply Kd.N_alloc | apply Kd.N_drewN | apply Kd.N_drew)); exact Kd.N_mono (Kd.N_far (p := ⟨gb211, 0, none⟩) (Kd.N_mono HO209.out (fun k_ hk => (⟨hk, hk.2⟩ : _ ∧ k_ ≠ gb211))) (fun _ hk => hk.2) (.slice Ao52 t207.length co52)) (fun _ hk => ⟨hk.1.1.1, ⟨hk.1.1.2.1, ⟨hk.1.1.2.2.1, ⟨hk.1.1.2.2.2.1, ⟨hk.1.1.2.2.2.2, hk.1.2⟩⟩⟩⟩⟩)))⟩; have n2_ : Aside0 (w57.heap[gb198]? = some (.cells #[.int .i64 a0_0, .slice (some ad200) l0_1.length c0_1] 25 (0, 0))) := ⟨(by rw [hw]; exact (y10 NB198_211.out BK198.out))⟩; have n3_ : Aside0 (w57.heap[gb199]? = some (.cells #[.slice none 0 0] 41 (0, 0))) := ⟨(by rw [hw]; exact (y10 NB199_211.out BK199.out))⟩; have n4_ : Aside0 (w57.heap[gb205]? = some (.cells #[.slice Ao45 t201.length co45] 41 (0, 0))) := ⟨(by rw [hw]; exact (y10 NB205_211.out BK205.out))⟩; have n5_ : Aside0 (w57.heap[gb211]? = some (.cells #[.slice Ao52 t207.length co52] 41 (0, 0))) := ⟨(by rw [hw]; exact (by (with_reducible repeat (first | refine blk_drewN ?_ _ | refine blk_drew ?_ | refine blk_alloc ?_ _)); apply blk_put (i := 0); (case h => exact y1 BK211.out); (case e => rfl)))⟩; have n6_ : Aside0 (Below w.heap.size w w57) := ⟨(by rw [hw]; exact (y20 HB.out GE198.out GE199.out GE205.out GE211.out))⟩; clear hw; clear HO203; clear HO209; clear BK198; clear BK199; clear BK205; clear BK211; clear HB; have HO203 := n0_; have HO209 := n1_; have BK198 := n2_; have BK199 := n3_; have BK205 := n4_; have BK211 := n5_; have HB := n6_; clear n0_ n1_ n2_ n3_ n4_ n5_ n6_; have hcz58_0 := zh BK205; have hfz58_0 := zfr BK205 0; have hcz59_0 := zh BK211; have hfz59_0 := zfr BK211 0) | ((with_reducible refine gate_dst (N := 65) rfl ?_); refine Kd.N_lit k41 _ 41 ?hg (N' := 65) ?hd (xs := ([(⟨t201⟩ : S41), (⟨t207⟩ : S41)] : List (S41))) (inner := [.slice Ao45 t201.length co45, .slice Ao52 t207.length co52]) (ok := (fun k_ => (w.heap.size ≤ k_) ∧ k_ ≠ gb198 ∧ k_ ≠ gb199 ∧ k_ ≠ gb205 ∧ k_ ≠ gb211)) (okp := (fun k_ => (w.heap.size ≤ k_) ∧ k_ ≠ gb198 ∧ k_ ≠ gb199 ∧ k_ ≠ gb205 ∧ k_ ≠ gb211)) ?hr ?hp (fun _ hk => hk) ((show ∀ k_, w57.heap.size ≤ k_ → (fun k_ => (w.heap.size ≤ k_) ∧ k_ ≠ gb198 ∧ k_ ≠ gb199 ∧ k_ ≠ gb205 ∧ k_ ≠ gb211) k_ from fun k_ hk => ⟨(Nat.le_trans (below_size (y20 HB.out GE198.out GE199.out GE205.out GE211.out)) hk), Kd.freshB (g := gb198) (o := .cells #[.int .i64 a0_0, .slice (some ad200) l0_1.length c0_1] 25 (0, 0)) (y1 BK198.out) k_ hk, Kd.freshB (g := gb199) (o := .cells #[.slice none 0 0] 41 (0, 0)) (y1 BK199.out) k_ hk, Kd.freshB (g := gb205) (o := .cells #[.slice Ao45 t201.length co45] 41 (0, 0)) (y1 BK205.out) k_ hk, Kd.freshB (g := gb211) (o := .cells #[.slice Ao52 t207.length co52] 41 (0, 0)) (y1 BK211.out) k_ hk⟩) _ (Nat.le_refl _)) (Below.refl _ _) (Nat.le_refl _) (by simp) ?_; (case hd => rfl); (case hg => rfl); (case hr => first | (go_simp; done) | (go_simp; rfl)); (case hp => exact (Reps.one (show Kd.FK k41 _ _ (⟨t201⟩ : S41) [.slice Ao45 t201.length co45] from (k41_mkF _ _ (⟨t201⟩ : S41) (Kd.N_reads' (Kd.N_mono (ok' := (fun k_ => (w.heap.size ≤ k_) ∧ k_ ≠ gb198 ∧ k_ ≠ gb199 ∧ k_ ≠ gb205 ∧ k_ ≠ gb211)) (HO203.out) (fun k_ hk => ⟨hk.1, ⟨hk.2.2.1, ⟨hk.2.2.2.1, ⟨hk.2.2.2.2.1, hk.2.2.2.2.2⟩⟩⟩⟩))).2.1 (Kd.N_F (Kd.N_mono (ok' := (fun k_ => (w.heap.size ≤ k_) ∧ k_ ≠ gb198 ∧ k_ ≠ gb199 ∧ k_ ≠ gb205 ∧ k_ ≠ gb211)) (HO203.out) (fun k_ hk => ⟨hk.1, ⟨hk.2.2.1, ⟨hk.2.2.2.1, ⟨hk.2.2.2.2.1, hk.2.2.2.2.2⟩⟩⟩⟩))))) (Reps.one (show Kd.FK k41 _ _ (⟨t207⟩ : S41) [.slice Ao52 t207.length co52] from (k41_mkF _ _ (⟨t207⟩ : S41) (Kd.N_reads' (Kd.N_mono (ok' := (fun k_ => (w.heap.size ≤ k_) ∧ k_ ≠ gb198 ∧ k_ ≠ gb199 ∧ k_ ≠ gb205 ∧ k_ ≠ gb211)) (HO209.out) (fun k_ hk => ⟨hk.1, ⟨hk.2.2.1, ⟨hk.2.2.2.1, ⟨hk.2.2.2.2.1, hk.2.2.2.2.2⟩⟩⟩⟩))).2.1 (Kd.N_F (Kd.N_mono (ok' := (fun k_ => (w.heap.size ≤ k_) ∧ k_ ≠ gb198 ∧ k_ ≠ gb199 ∧ k_ ≠ gb205 ∧ k_ ≠ gb211)) (HO209.out) (fun k_ hk => ⟨hk.1, ⟨hk.2.2.1, ⟨hk.2.2.2.1, ⟨hk.2.2.2.2.1, hk.2.2.2.2.2⟩⟩⟩⟩))))) (Reps.none _ _)))); intro v213 w60 ho61 hb hg_ hnew_; clear hg_ hnew_; (first | rw [← Ny212.out] at ho61 | (simp only [Int.reduceToNat] at ho61; rw [← Ny212.out] at ho61)); have HO214 := Aside0.mk (Kd.N_lower ho61 (below_size (y20 HB.out GE198.out GE199.out GE205.out GE211.out))); replace BK198 := zbb BK198 hb; replace BK199 := zbb BK199 hb; replace BK205 := zbb BK205 hb; replace BK211 := zbb BK211 hb; replace HB := Aside0.mk (below_step (y20 HB.out GE198.out GE199.out GE205.out GE211.out) hb); clear HO203 HO209; clear hb ho61; obtain ⟨Ao62, co62, eo62⟩ := Kd.N_slice HO214.out; subst eo62; have hcz63_0 := zh BK199; have hfz63_0 := zfr BK199 0))
          refine bodyPost_ret (results_ct rfl _ _ gb199 41 #[.slice Ao62 y212.length co62] (0, 0) _ rfl (by (with_reducible repeat (first | refine blk_drewN ?_ _ | refine blk_drew ?_ | refine blk_alloc ?_ _)); apply blk_put (i := 0); (case h => exact y1 BK199.out); (case e => rfl)) Tryd.underlying41 rfl (by kernel_rfl)) rfl ?_
          exact ⟨_, y7, (by (with_reducible repeat (first | apply Kd.N_alloc | apply Kd.N_drewN | apply Kd.N_drew)); exact Kd.N_mono (Kd.N_far (p := ⟨gb199, 0, none⟩) (Kd.N_mono HO214.out (fun k_ hk => (⟨hk, hk.2.2.1⟩ : _ ∧ k_ ≠ gb199))) (fun _ hk => hk.2) (.slice Ao62 y212.length co62)) (fun _ hk => hk.1.1)), (y20 HB.out GE198.out GE199.out GE205.out GE211.out)⟩
         ·replace c40 := Bool.eq_false_iff.mpr c40
          subst c40
          rw [if_neg (show ¬ (false = true) by decide)] at H
          simp only [Option.some.injEq, Prod.mk.injEq] at H
          obtain ⟨rfl, rfl⟩ := H
          have hnb64 := NB198_199.out
          have hnc64 := NB199_198.out
          have hcz65_0 := zh BK198
          have hcz65_1 := zh1 BK198
          have hfz65_0 := zfr BK198 0
          have hfz65_1 := zfr BK198 1
          have p200 : 0 ≤ (0 : Int) := (by omega)
          have q200 : 0 < (l0_1.length : Int) := of_decide_eq_true y19
          obtain ⟨ad200, A200_1, c200_1, e200, hx200_0, hx200_1, hl200_1, hi200_1⟩ := at_T25 HR0_1.out 0 p200 q200
          cases e200
          have qi200 : (0 < l0_1.length) = True := eq_true (by omega)
          (try rw [show ((0 : Int)).toNat = 0 from rfl] at hx200_0)
          (try rw [show 0 * 2 = 0 from rfl] at hx200_0)
          (try rw [Addr.add_zero'] at hx200_0)
          (try rw [show ((0 : Int)).toNat = 0 from rfl] at hx200_1)
          (try rw [show 0 * 2 = 0 from rfl] at hx200_1)
          (try rw [Addr.add_zero'] at hx200_1)
          replace hx200_0 := (HB.out.cell (World.block_lt_of_cell? w _ hx200_0)).trans hx200_0
          replace hx200_1 := (HB.out.cell (World.block_lt_of_cell? w _ hx200_1)).trans hx200_1
          have HR200_1 := Aside0.mk hi200_1
          have HC200_1 := Aside0.mk hl200_1
          clear hi200_1 hl200_1
          replace p200 := eq_true p200
          replace q200 := eq_true q200
          go_wp2_with (first | ((with_reducible refine gate_callee (f := 24) rfl ?_); refine goesL_ (some 43) rfl rfl Tryd.func24 (by kernel_rfl) rfl #[.agg #[.int .i64 ((rd_T25 l0_1 0).f0), .slice A200_1 ((rd_T25 l0_1 0).f1).length c200_1], .int .i64 (wrap64 (a1 - 1))] rfl y4 ?_; (with_reducible refine (ih kj21 (y41 HJ21.out) ((rd_T25 l0_1 0).f0) _ _ ((rd_T25 l0_1 0).f1) (wrap64 (a1 - 1)) t201 true _ ?side1 ?side2 A36.out).mono ?_); (case side1 => exact y9 HR200_1.out HB.out); (case side2 => exact HC200_1.out); rintro e w66 ⟨v202, rfl, ho0, hb⟩; refine ⟨_, rfl, ?_⟩; have HO203 := Aside0.mk (Kd.N_lower (Kd.N_mono (ok' := fun k_ => (w.heap.size ≤ k_) ∧ k_ ≠ gb198 ∧ k_ ≠ gb199) ho0 (fun k_ hk_ => ⟨(Nat.le_trans (below_size (y3 HB.out GE198.out GE199.out)) hk_), (Kd.freshB (g := gb198) (o := .cells #[.int .i64 a0_0, .slice (some ad200) l0_1.length c0_1] 25 (0, 0)) (y1 BK198.out) k_ hk_), (Kd.freshB (g := gb199) (o := .cells #[.slice none 0 0] 41 (0, 0)) (y1 BK199.out) k_ hk_)⟩)) (below_size (y3 HB.out GE198.out GE199.out))); replace BK198 := zbb BK198 hb; replace BK199 := zbb BK199 hb; replace HB := Aside0.mk (below_step (y3 HB.out GE198.out GE199.out) hb); (try clear hb); (try clear hb2); (try clear hk); (try clear hi); (try clear ho0)) | ((with_reducible refine gate_dst (N := 6) rfl ?_); refine zbx 6 #[.slice none 0 0] 41 ?_; intro gb205 hg w67 hbox hb; replace HO203 := Aside0.mk (Kd.N_below (Kd.N_elderB (y12 HO203.out) gb205 (Nat.le_of_eq hg.symm)) hb); have BK205 := Aside0.mk hbox; have GW205 := Aside0.mk ((y27 hg HB.out GE198.out GE199.out : w.heap.size ≤ gb205)); have GE205 := Aside0.mk ((y27 hg HB.out GE198.out GE199.out : w.heap.size ≤ gb205)); replace HB := Aside0.mk (below_step (y3 HB.out GE198.out GE199.out) hb); have NB198_205 := zltn hg BK198; have NB205_198 := zgtn hg BK198; replace BK198 := zbb BK198 hb; have NB199_205 := zltn hg BK199; have NB205_199 := zgtn hg BK199; replace BK199 := zbb BK199 hb; clear hb hbox hg; obtain ⟨Ao68, co68, eo68⟩ := Kd.N_slice HO203.out; subst eo68; have hnb69 := NB205_198.out; have hnc69 := NB198_205.out; have hnb70 := NB205_199.out; have hnc70 := NB199_205.out; have hcz71_0 := zh BK205; have hfz71_0 := zfr BK205 0; have hcz72_0 := zh BK198; have hcz72_1 := zh1 BK198; have hfz72_0 := zfr BK198 0; have hfz72_1 := zfr BK198 1; have p206 : 0 ≤ (1 : Int) := (by omega); have q206 : 1 < (l0_1.length : Int) := of_decide_eq_true y19; obtain ⟨ad206, A206_1, c206_1, e206, hx206_0, hx206_1, hl206_1, hi206_1⟩ := at_T25 HR0_1.out 1 p206 q206; obtain rfl : ad200 = ad206 := (by injection e206); (try simp only [show (1 : Int).toNat = 1 from rfl, Nat.reduceMul, Nat.reduceEqDiff, Go.Addr.add, ↓reduceIte] at hx206_0); (try simp only [show (1 : Int).toNat = 1 from rfl, Nat.reduceMul, Nat.reduceEqDiff, Go.Addr.add, ↓reduceIte] at hx206_1); have qi206 : (1 < l0_1.length) = True := eq_true (by omega); (try rw [show ((1 : Int)).toNat = 1 from rfl] at hx206_0); (try rw [show 1 * 2 = 2 from rfl] at hx206_0); (try rw [show ((1 : Int)).toNat = 1 from rfl] at hx206_1); (try rw [show 1 * 2 = 2 from rfl] at hx206_1); have hn206_0 : ad200.block ≠ gb205 := Nat.ne_of_lt (Nat.lt_of_lt_of_le (by have := World.block_lt_of_cell? _ _ hx206_0; first | rwa [add_block] at this | exact this) GW205.out); replace hx206_0 := (HB.out.cell (World.block_lt_of_cell? w _ hx206_0)).trans hx206_0; replace hx206_1 := (HB.out.cell (World.block_lt_of_cell? w _ hx206_1)).trans hx206_1; have HR206_1 := Aside0.mk hi206_1; have HC206_1 := Aside0.mk hl206_1; clear hi206_1 hl206_1; replace hx206_0 := (cell_far (p := ⟨gb205, 0, none⟩) (by first | (rw [add_block]; exact hn206_0) | (show (Addr.add _ _).block ≠ _; rw [add_block]; exact hn206_0) | exact hn206_0) (.slice Ao68 t201.length co68)).trans hx206_0; replace hx206_1 := (cell_far (p := ⟨gb205, 0, none⟩) (by first | (rw [add_block]; exact hn206_0) | (show (Addr.add _ _).block ≠ _; rw [add_block]; exact hn206_0) | exact hn206_0) (.slice Ao68 t201.length co68)).trans hx206_1; clear hn206_0; replace p206 := eq_true p206; replace q206 := eq_true q206) | ((with_reducible refine gate_callee (f := 24) rfl ?_); refine goesL_ (some 53) rfl rfl Tryd.func24 (by kernel_rfl) rfl #[.agg #[.int .i64 ((rd_T25 l0_1 1).f0), .slice A206_1 ((rd_T25 l0_1 1).f1).length c206_1], .int .i64 (wrap64 (a1 - 1))] rfl y4 ?_; (with_reducible refine (ih kj21 (y41 HJ21.out) ((rd_T25 l0_1 1).f0) _ _ ((rd_T25 l0_1 1).f1) (wrap64 (a1 - 1)) t207 false _ ?side1 ?side2 A38.out).mono ?_); (case side1 => exact y34 HR206_1.out HB.out GE198.out GE199.out GE205.out); (case side2 => exact HC206_1.out); rintro e w73 ⟨v208, rfl, ho0, hb⟩; refine ⟨_, rfl, ?_⟩; have HO209 := Aside0.mk (Kd.N_lower (Kd.N_mono (ok' := fun k_ => (w.heap.size ≤ k_) ∧ some k_ ≠ (.slice Ao68 t201.length co68 : Value).ownBlock ∧ k_ ≠ gb198 ∧ k_ ≠ gb199 ∧ k_ ≠ gb205) ho0 (fun k_ hk_ => ⟨(Nat.le_trans (below_size (y6 HB.out GE198.out GE199.out GE205.out)) hk_), (Kd.fresh' (Kd.N_lt (by (with_reducible repeat (first | apply Kd.N_alloc | apply Kd.N_drewN | apply Kd.N_drew)); exact (Kd.N_mono (Kd.N_far (p := ⟨gb205, 0, none⟩) (Kd.N_mono HO203.out (fun k_ hk => (⟨hk, hk.2⟩ : _ ∧ k_ ≠ gb205))) (fun _ hk => hk.2) (.slice Ao68 t201.length co68)) (fun _ h_ => h_.1)))) k_ hk_), (Kd.freshB (g := gb198) (o := .cells #[.int .i64 a0_0, .slice (some ad200) l0_1.length c0_1] 25 (0, 0)) (y10 NB198_205.out BK198.out) k_ hk_), (Kd.freshB (g := gb199) (o := .cells #[.slice none 0 0] 41 (0, 0)) (y10 NB199_205.out BK199.out) k_ hk_), (Kd.freshB (g := gb205) (o := .cells #[.slice Ao68 t201.length co68] 41 (0, 0)) (by (with_reducible repeat (first | refine blk_drewN ?_ _ | refine blk_drew ?_ | refine blk_alloc ?_ _)); apply blk_put (i := 0); (case h => exact y1 BK205.out); (case e => rfl)) k_ hk_)⟩)) (below_size (y6 HB.out GE198.out GE199.out GE205.out))); replace HO203 := Aside0.mk (Kd.N_elder' (by (with_reducible repeat (first | apply Kd.N_alloc | apply Kd.N_drewN | apply Kd.N_drew)); exact (Kd.N_mono (Kd.N_far (p := ⟨gb205, 0, none⟩) (Kd.N_mono HO203.out (fun k_ hk => (⟨hk, hk.2⟩ : _ ∧ k_ ≠ gb205))) (fun _ hk => hk.2) (.slice Ao68 t201.length co68)) (fun _ h_ => h_.1))) (Kd.N_base ho0) hb); replace BK198 := zbf BK198 NB198_205 hb; replace BK199 := zbf BK199 NB199_205 hb; replace BK205 := Aside0.mk (blk_below (g := gb205) (o := .cells #[.slice Ao68 t201.length co68] 41 (0, 0)) (by (with_reducible repeat (first | refine blk_drewN ?_ _ | refine blk_drew ?_ | refine blk_alloc ?_ _)); apply blk_put (i := 0); (case h => exact y1 BK205.out); (case e => rfl)) hb); replace HB := Aside0.mk (below_step (y6 HB.out GE198.out GE199.out GE205.out) hb); (try clear hb); (try clear hb2); (try clear hk); (try clear hi); (try clear ho0)) | ((with_reducible refine gate_dst (N := 8) rfl ?_); refine zbx 8 #[.slice none 0 0] 41 ?_; intro gb211 hg w74 hbox hb; replace HO203 := Aside0.mk (Kd.N_below (Kd.N_elderB (y12 HO203.out) gb211 (Nat.le_of_eq hg.symm)) hb); replace HO209 := Aside0.mk (Kd.N_below (Kd.N_elderB (y12 HO209.out) gb211 (Nat.le_of_eq hg.symm)) hb); have BK211 := Aside0.mk hbox; have GW211 := Aside0.mk ((y25 hg HB.out GE198.out GE199.out GE205.out : w.heap.size ≤ gb211)); have GE211 := Aside0.mk ((y25 hg HB.out GE198.out GE199.out GE205.out : w.heap.size ≤ gb211)); replace HB := Aside0.mk (below_step (y6 HB.out GE198.out GE199.out GE205.out) hb); have NB198_211 := zltn hg BK198; have NB211_198 := zgtn hg BK198; replace BK198 := zbb BK198 hb; have NB199_211 := zltn hg BK199; have NB211_199 := zgtn hg BK199; replace BK199 := zbb BK199 hb; have NB205_211 := zltn hg BK205; have NB211_205 := zgtn hg BK205; replace BK205 := zbb BK205 hb; clear hb hbox hg; obtain ⟨Ao75, co75, eo75⟩ := Kd.N_slice HO209.out; subst eo75; have hnb76 := NB211_198.out; have hnc76 := NB198_211.out; have hnb77 := NB211_199.out; have hnc77 := NB199_211.out; have hnb78 := NB211_205.out; have hnc78 := NB205_211.out; have hcz79_0 := zh BK211; have hfz79_0 := zfr BK211 0; have hcz80_0 := zh BK199; have hfz80_0 := zfr BK199 0))
          refine bodyPost_ret (results_ct rfl _ _ gb199 41 #[.slice none 0 0] (0, 0) _ rfl (by (with_reducible repeat (first | refine blk_drewN ?_ _ | refine blk_drew ?_ | refine blk_alloc ?_ _)); refine blk_put (cs := #[.slice none 0 0]) ?_ 0 _ rfl; (with_reducible repeat (first | refine blk_drewN ?_ _ | refine blk_drew ?_ | refine blk_alloc ?_ _)); refine blk_far ?_ NB199_211.out _; (with_reducible repeat (first | refine blk_drewN ?_ _ | refine blk_drew ?_ | refine blk_alloc ?_ _)); exact BK199.out) Tryd.underlying41 rfl (by kernel_rfl)) rfl ?_
          exact ⟨_, y7, y31, (y20 HB.out GE198.out GE199.out GE205.out GE211.out)⟩
        ·replace c39 := Bool.eq_false_iff.mpr c39
         subst c39
         rw [if_neg (show ¬ (false = true) by decide)] at H
         simp only [Option.some.injEq, Prod.mk.injEq] at H
         obtain ⟨rfl, rfl⟩ := H
         have hnb81 := NB198_199.out
         have hnc81 := NB199_198.out
         have hcz82_0 := zh BK198
         have hcz82_1 := zh1 BK198
         have hfz82_0 := zfr BK198 0
         have hfz82_1 := zfr BK198 1
         have p200 : 0 ≤ (0 : Int) := (by omega)
         have q200 : 0 < (l0_1.length : Int) := of_decide_eq_true y19
         obtain ⟨ad200, A200_1, c200_1, e200, hx200_0, hx200_1, hl200_1, hi200_1⟩ := at_T25 HR0_1.out 0 p200 q200
         cases e200
         have qi200 : (0 < l0_1.length) = True := eq_true (by omega)
         (try rw [show ((0 : Int)).toNat = 0 from rfl] at hx200_0)
         (try rw [show 0 * 2 = 0 from rfl] at hx200_0)
         (try rw [Addr.add_zero'] at hx200_0)
         (try rw [show ((0 : Int)).toNat = 0 from rfl] at hx200_1)
         (try rw [show 0 * 2 = 0 from rfl] at hx200_1)
         (try rw [Addr.add_zero'] at hx200_1)
         replace hx200_0 := (HB.out.cell (World.block_lt_of_cell? w _ hx200_0)).trans hx200_0
         replace hx200_1 := (HB.out.cell (World.block_lt_of_cell? w _ hx200_1)).trans hx200_1
         have HR200_1 := Aside0.mk hi200_1
         have HC200_1 := Aside0.mk hl200_1
         clear hi200_1 hl200_1
         replace p200 := eq_true p200
         replace q200 := eq_true q200
         go_wp2_with (first | ((with_reducible refine gate_callee (f := 24) rfl ?_); refine goesL_ (some 43) rfl rfl Tryd.func24 (by kernel_rfl) rfl #[.agg #[.int .i64 ((rd_T25 l0_1 0).f0), .slice A200_1 ((rd_T25 l0_1 0).f1).length c200_1], .int .i64 (wrap64 (a1 - 1))] rfl y4 ?_; (with_reducible refine (ih kj21 (y41 HJ21.out) ((rd_T25 l0_1 0).f0) _ _ ((rd_T25 l0_1 0).f1) (wrap64 (a1 - 1)) t201 false _ ?side1 ?side2 A36.out).mono ?_); (case side1 => exact y9 HR200_1.out HB.out); (case side2 => exact HC200_1.out); rintro e w83 ⟨v202, rfl, ho0, hb⟩; refine ⟨_, rfl, ?_⟩; have HO203 := Aside0.mk (Kd.N_lower (Kd.N_mono (ok' := fun k_ => (w.heap.size ≤ k_) ∧ k_ ≠ gb198 ∧ k_ ≠ gb199) ho0 (fun k_ hk_ => ⟨(Nat.le_trans (below_size (y3 HB.out GE198.out GE199.out)) hk_), (Kd.freshB (g := gb198) (o := .cells #[.int .i64 a0_0, .slice (some ad200) l0_1.length c0_1] 25 (0, 0)) (y1 BK198.out) k_ hk_), (Kd.freshB (g := gb199) (o := .cells #[.slice none 0 0] 41 (0, 0)) (y1 BK199.out) k_ hk_)⟩)) (below_size (y3 HB.out GE198.out GE199.out))); replace BK198 := zbb BK198 hb; replace BK199 := zbb BK199 hb; replace HB := Aside0.mk (below_step (y3 HB.out GE198.out GE199.out) hb); (try clear hb); (try clear hb2); (try clear hk); (try clear hi); (try clear ho0)) | ((with_reducible refine gate_dst (N := 6) rfl ?_); refine zbx 6 #[.slice none 0 0] 41 ?_; intro gb205 hg w84 hbox hb; replace HO203 := Aside0.mk (Kd.N_below (Kd.N_elderB (y12 HO203.out) gb205 (Nat.le_of_eq hg.symm)) hb); have BK205 := Aside0.mk hbox; have GW205 := Aside0.mk ((y27 hg HB.out GE198.out GE199.out : w.heap.size ≤ gb205)); have GE205 := Aside0.mk ((y27 hg HB.out GE198.out GE199.out : w.heap.size ≤ gb205)); replace HB := Aside0.mk (below_step (y3 HB.out GE198.out GE199.out) hb); have NB198_205 := zltn hg BK198; have NB205_198 := zgtn hg BK198; replace BK198 := zbb BK198 hb; have NB199_205 := zltn hg BK199; have NB205_199 := zgtn hg BK199; replace BK199 := zbb BK199 hb; clear hb hbox hg; obtain ⟨Ao85, co85, eo85⟩ := Kd.N_slice HO203.out; subst eo85; have hnb86 := NB205_198.out; have hnc86 := NB198_205.out; have hnb87 := NB205_199.out; have hnc87 := NB199_205.out; have hcz88_0 := zh BK205; have hfz88_0 := zfr BK205 0; have hcz89_0 := zh BK198; have hcz89_1 := zh1 BK198; have hfz89_0 := zfr BK198 0; have hfz89_1 := zfr BK198 1; have p206 : 0 ≤ (1 : Int) := (by omega); have q206 : 1 < (l0_1.length : Int) := of_decide_eq_true y19; obtain ⟨ad206, A206_1, c206_1, e206, hx206_0, hx206_1, hl206_1, hi206_1⟩ := at_T25 HR0_1.out 1 p206 q206; obtain rfl : ad200 = ad206 := (by injection e206); (try simp only [show (1 : Int).toNat = 1 from rfl, Nat.reduceMul, Nat.reduceEqDiff, Go.Addr.add, ↓reduceIte] at hx206_0); (try simp only [show (1 : Int).toNat = 1 from rfl, Nat.reduceMul, Nat.reduceEqDiff, Go.Addr.add, ↓reduceIte] at hx206_1); have qi206 : (1 < l0_1.length) = True := eq_true (by omega); (try rw [show ((1 : Int)).toNat = 1 from rfl] at hx206_0); (try rw [show 1 * 2 = 2 from rfl] at hx206_0); (try rw [show ((1 : Int)).toNat = 1 from rfl] at hx206_1); (try rw [show 1 * 2 = 2 from rfl] at hx206_1); have hn206_0 : ad200.block ≠ gb205 := Nat.ne_of_lt (Nat.lt_of_lt_of_le (by have := World.block_lt_of_cell? _ _ hx206_0; first | rwa [add_block] at this | exact this) GW205.out); replace hx206_0 := (HB.out.cell (World.block_lt_of_cell? w _ hx206_0)).trans hx206_0; replace hx206_1 := (HB.out.cell (World.block_lt_of_cell? w _ hx206_1)).trans hx206_1; have HR206_1 := Aside0.mk hi206_1; have HC206_1 := Aside0.mk hl206_1; clear hi206_1 hl206_1; replace hx206_0 := (cell_far (p := ⟨gb205, 0, none⟩) (by first | (rw [add_block]; exact hn206_0) | (show (Addr.add _ _).block ≠ _; rw [add_block]; exact hn206_0) | exact hn206_0) (.slice Ao85 t201.length co85)).trans hx206_0; replace hx206_1 := (cell_far (p := ⟨gb205, 0, none⟩) (by first | (rw [add_block]; exact hn206_0) | (show (Addr.add _ _).block ≠ _; rw [add_block]; exact hn206_0) | exact hn206_0) (.slice Ao85 t201.length co85)).trans hx206_1; clear hn206_0; replace p206 := eq_true p206; replace q206 := eq_true q206) | ((with_reducible refine gate_callee (f := 24) rfl ?_); refine goesL_ (some 53) rfl rfl Tryd.func24 (by kernel_rfl) rfl #[.agg #[.int .i64 ((rd_T25 l0_1 1).f0), .slice A206_1 ((rd_T25 l0_1 1).f1).length c206_1], .int .i64 (wrap64 (a1 - 1))] rfl y4 ?_; (with_reducible refine (ih kj21 (y41 HJ21.out) ((rd_T25 l0_1 1).f0) _ _ ((rd_T25 l0_1 1).f1) (wrap64 (a1 - 1)) t207 t210 _ ?side1 ?side2 A38.out).mono ?_); (case side1 => exact y34 HR206_1.out HB.out GE198.out GE199.out GE205.out); (case side2 => exact HC206_1.out); rintro e w90 ⟨v208, rfl, ho0, hb⟩; refine ⟨_, rfl, ?_⟩; have HO209 := Aside0.mk (Kd.N_lower (Kd.N_mono (ok' := fun k_ => (w.heap.size ≤ k_) ∧ some k_ ≠ (.slice Ao85 t201.length co85 : Value).ownBlock ∧ k_ ≠ gb198 ∧ k_ ≠ gb199 ∧ k_ ≠ gb205) ho0 (fun k_ hk_ => ⟨(Nat.le_trans (below_size (y6 HB.out GE198.out GE199.out GE205.out)) hk_), (Kd.fresh' (Kd.N_lt (by (with_reducible repeat (first | apply Kd.N_alloc | apply Kd.N_drewN | apply Kd.N_drew)); exact (Kd.N_mono (Kd.N_far (p := ⟨gb205, 0, none⟩) (Kd.N_mono HO203.out (fun k_ hk => (⟨hk, hk.2⟩ : _ ∧ k_ ≠ gb205))) (fun _ hk => hk.2) (.slice Ao85 t201.length co85)) (fun _ h_ => h_.1)))) k_ hk_), (Kd.freshB (g := gb198) (o := .cells #[.int .i64 a0_0, .slice (some ad200) l0_1.length c0_1] 25 (0, 0)) (y10 NB198_205.out BK198.out) k_ hk_), (Kd.freshB (g := gb199) (o := .cells #[.slice none 0 0] 41 (0, 0)) (y10 NB199_205.out BK199.out) k_ hk_), (Kd.freshB (g := gb205) (o := .cells #[.slice Ao85 t201.length co85] 41 (0, 0)) (by (with_reducible repeat (first | refine blk_drewN ?_ _ | refine blk_drew ?_ | refine blk_alloc ?_ _)); apply blk_put (i := 0); (case h => exact y1 BK205.out); (case e => rfl)) k_ hk_)⟩)) (below_size (y6 HB.out GE198.out GE199.out GE205.out))); replace HO203 := Aside0.mk (Kd.N_elder' (by (with_reducible repeat (first | apply Kd.N_alloc | apply Kd.N_drewN | apply Kd.N_drew)); exact (Kd.N_mono (Kd.N_far (p := ⟨gb205, 0, none⟩) (Kd.N_mono HO203.out (fun k_ hk => (⟨hk, hk.2⟩ : _ ∧ k_ ≠ gb205))) (fun _ hk => hk.2) (.slice Ao85 t201.length co85)) (fun _ h_ => h_.1))) (Kd.N_base ho0) hb); replace BK198 := zbf BK198 NB198_205 hb; replace BK199 := zbf BK199 NB199_205 hb; replace BK205 := Aside0.mk (blk_below (g := gb205) (o := .cells #[.slice Ao85 t201.length co85] 41 (0, 0)) (by (with_reducible repeat (first | refine blk_drewN ?_ _ | refine blk_drew ?_ | refine blk_alloc ?_ _)); apply blk_put (i := 0); (case h => exact y1 BK205.out); (case e => rfl)) hb); replace HB := Aside0.mk (below_step (y6 HB.out GE198.out GE199.out GE205.out) hb); (try clear hb); (try clear hb2); (try clear hk); (try clear hi); (try clear ho0)) | ((with_reducible refine gate_dst (N := 8) rfl ?_); refine zbx 8 #[.slice none 0 0] 41 ?_; intro gb211 hg w91 hbox hb; replace HO203 := Aside0.mk (Kd.N_below (Kd.N_elderB (y12 HO203.out) gb211 (Nat.le_of_eq hg.symm)) hb); replace HO209 := Aside0.mk (Kd.N_below (Kd.N_elderB (y12 HO209.out) gb211 (Nat.le_of_eq hg.symm)) hb); have BK211 := Aside0.mk hbox; have GW211 := Aside0.mk ((y25 hg HB.out GE198.out GE199.out GE205.out : w.heap.size ≤ gb211)); have GE211 := Aside0.mk ((y25 hg HB.out GE198.out GE199.out GE205.out : w.heap.size ≤ gb211)); replace HB := Aside0.mk (below_step (y6 HB.out GE198.out GE199.out GE205.out) hb); have NB198_211 := zltn hg BK198; have NB211_198 := zgtn hg BK198; replace BK198 := zbb BK198 hb; have NB199_211 := zltn hg BK199; have NB211_199 := zgtn hg BK199; replace BK199 := zbb BK199 hb; have NB205_211 := zltn hg BK205; have NB211_205 := zgtn hg BK205; replace BK205 := zbb BK205 hb; clear hb hbox hg; obtain ⟨Ao92, co92, eo92⟩ := Kd.N_slice HO209.out; subst eo92; have hnb93 := NB211_198.out; have hnc93 := NB198_211.out; have hnb94 := NB211_199.out; have hnc94 := NB199_211.out; have hnb95 := NB211_205.out; have hnc95 := NB205_211.out; have hcz96_0 := zh BK211; have hfz96_0 := zfr BK211 0; have hcz97_0 := zh BK199; have hfz97_0 := zfr BK199 0))
         refine bodyPost_ret (results_ct rfl _ _ gb199 41 #[.slice none 0 0] (0, 0) _ rfl (by (with_reducible repeat (first | refine blk_drewN ?_ _ | refine blk_drew ?_ | refine blk_alloc ?_ _)); refine blk_put (cs := #[.slice none 0 0]) ?_ 0 _ rfl; (with_reducible repeat (first | refine blk_drewN ?_ _ | refine blk_drew ?_ | refine blk_alloc ?_ _)); refine blk_far ?_ NB199_211.out _; (with_reducible repeat (first | refine blk_drewN ?_ _ | refine blk_drew ?_ | refine blk_alloc ?_ _)); exact BK199.out) Tryd.underlying41 rfl (by kernel_rfl)) rfl ?_
         exact ⟨_, y7, y31, (y20 HB.out GE198.out GE199.out GE205.out GE211.out)⟩
       ·rw [if_neg c37] at H
        exact absurd H (by simp)
      ·rw [if_neg c35] at H
       exact absurd H (by simp)
end Go.Proofs.YtihfbpmblppbgaaDoor.PA
end
section
namespace Go.Proofs.YtihfbpmblppbgaaDoor.PA
open Go.RowKit Go.Proofs.YtihfbpmblppbgaaDoorW.PrintWords Go.Proofs.YtihfbpmblppbgaaDoorW.PrintLast Go.Proofs.YtihfbpmblppbgaaDoorW.PrintMore
attribute [local go_sem] max2_int min2_int max_two min_two max_three min_three max_four min_four
set_option linter.unusedVariables false
set_option linter.unusedSimpArgs false
def impl_valTyped.f (k : Nat) (a0_0 : Int) (l0_1 : List (S25)) : Option ((List (S41)) × Bool) := (impl_valType.f k a0_0 l0_1 4).bind fun bt217 => (some (bt217.1, bt217.2))
theorem impl_valTyped.mono : ∀ a0 a1 k, LeO (impl_valTyped.f k a0 a1) (impl_valTyped.f (k + 1) a0 a1) := by
 intro a0 a1 k
 unfold impl_valTyped.f
 repeat' first
   | (with_reducible exact impl_valType.mono _ _ _ _)
   | (with_reducible exact LeO.refl _)
   | (with_reducible exact LeO.none _)
   | (with_reducible refine LeO.ite ?_ ?_)
   | (with_reducible refine LeO.bind ?_ (fun _ => ?_))
   | exact impl_valType.mono _ _ _ _
   | exact LeO.none _
   | refine LeO.ite ?_ ?_
   | refine LeO.bind ?_ (fun _ => ?_)
set_option maxHeartbeats 8000000 in
set_option maxRecDepth 100000 in
theorem impl_valTyped.calls (k : Nat) (a0_0 : Int) (A0_1 : Option Addr) (c0_1 : Nat) (l0_1 : List (S25)) (r1 : List (S41)) (r2 : Bool) (w : World) (hr0_1 : Kd.C k25 w A0_1 l0_1.length l0_1) (hc0_1 : l0_1.length ≤ c0_1) (h : impl_valTyped.f k a0_0 l0_1 = some (r1, r2)) :
  Calls Tryd.prog 16 #[.agg #[.int .i64 a0_0, .slice A0_1 l0_1.length c0_1]] w fun e w' => ∃ v0_ : Value, e = .returned (.tuple #[.agg #[v0_], .bool r2]) ∧ Kd.N k41 41 w' w.heap.size (fun k_ => (w.heap.size ≤ k_)) v0_ r1 ∧ Below w.heap.size w w' := by
 have hu25 := Tryd.underlying25
 have hu41 := Tryd.underlying41
 have HR0_1 := Aside0.mk hr0_1
 have HC0_1 := Aside0.mk hc0_1
 clear hr0_1 hc0_1
 have HB := Aside0.mk (Below.refl w.heap.size w)
 have H : ((impl_valType.f k a0_0 l0_1 4).bind fun bt217 => (some (bt217.1, bt217.2))) = some (r1, r2) := h
 clear h
 obtain ⟨⟨t217, t220⟩, A20, H⟩ := ob H
 have A2 := Aside0.mk A20
 clear A20
 simp only [Option.some.injEq, Prod.mk.injEq] at H
 obtain ⟨rfl, rfl⟩ := H
 go_enter Tryd.func16, Tryd.ntmps16
 go_wp2_with (first | ((with_reducible refine gate_dst (N := 1) rfl ?_); refine zbx 1 #[.int .i64 a0_0, .slice A0_1 l0_1.length c0_1] 25 ?_; intro gb215 hg w3 hbox hb; have BK215 := Aside0.mk hbox; have GW215 := Aside0.mk ((y5 hg HB.out : w.heap.size ≤ gb215)); have GE215 := Aside0.mk ((y5 hg HB.out : w.heap.size ≤ gb215)); replace HB := Aside0.mk (below_step (y2 HB.out) hb); clear hb hbox hg) | ((with_reducible refine gate_dst (N := 2) rfl ?_); refine zbx 2 #[.slice none 0 0] 41 ?_; intro gb216 hg w4 hbox hb; have BK216 := Aside0.mk hbox; have GW216 := Aside0.mk ((y8 hg HB.out GE215.out : w.heap.size ≤ gb216)); have GE216 := Aside0.mk ((y8 hg HB.out GE215.out : w.heap.size ≤ gb216)); replace HB := Aside0.mk (below_step (y0 HB.out GE215.out) hb); have NB215_216 := zltn hg BK215; have NB216_215 := zgtn hg BK215; replace BK215 := zbb BK215 hb; clear hb hbox hg; have hnb5 := NB215_216.out; have hnc5 := NB216_215.out; have hcz6_0 := zh BK215; have hcz6_1 := zh1 BK215; have hfz6_0 := zfr BK215 0; have hfz6_1 := zfr BK215 1) | ((with_reducible refine gate_callee (f := 24) rfl ?_); refine goesL_ (some 5) rfl rfl Tryd.func24 (by kernel_rfl) rfl #[.agg #[.int .i64 a0_0, .slice A0_1 l0_1.length c0_1], .int .i64 4] rfl y4 ?_; (with_reducible refine (impl_valType.calls k a0_0 _ _ l0_1 4 t217 t220 _ ?side1 ?side2 A2.out).mono ?_); (case side1 => exact y9 HR0_1.out HB.out); (case side2 => exact HC0_1.out); rintro e w7 ⟨v218, rfl, ho0, hb⟩; refine ⟨_, rfl, ?_⟩; have HO219 := Aside0.mk (Kd.N_lower (Kd.N_mono (ok' := fun k_ => (w.heap.size ≤ k_) ∧ k_ ≠ gb215 ∧ k_ ≠ gb216) ho0 (fun k_ hk_ => ⟨(Nat.le_trans (below_size (y3 HB.out GE215.out GE216.out)) hk_), (Kd.freshB (g := gb215) (o := .cells #[.int .i64 a0_0, .slice A0_1 l0_1.length c0_1] 25 (0, 0)) (y1 BK215.out) k_ hk_), (Kd.freshB (g := gb216) (o := .cells #[.slice none 0 0] 41 (0, 0)) (y1 BK216.out) k_ hk_)⟩)) (below_size (y3 HB.out GE215.out GE216.out))); replace BK215 := zbb BK215 hb; replace BK216 := zbb BK216 hb; replace HB := Aside0.mk (below_step (y3 HB.out GE215.out GE216.out) hb); (try clear hb); (try clear hb2); (try clear hk); (try clear hi); (try clear ho0); obtain ⟨Ao8, co8, eo8⟩ := Kd.N_slice HO219.out; subst eo8; have hcz9_0 := zh BK216; have hfz9_0 := zfr BK216 0))
 refine bodyPost_ret (results_ct rfl _ _ gb216 41 #[.slice Ao8 t217.length co8] (0, 0) _ rfl (by (with_reducible repeat (first | refine blk_drewN ?_ _ | refine blk_drew ?_ | refine blk_alloc ?_ _)); apply blk_put (i := 0); (case h => exact y1 BK216.out); (case e => rfl)) Tryd.underlying41 rfl (by kernel_rfl)) rfl ?_
 exact ⟨_, y7, (by (with_reducible repeat (first | apply Kd.N_alloc | apply Kd.N_drewN | apply Kd.N_drew)); exact Kd.N_mono (Kd.N_far (p := ⟨gb216, 0, none⟩) (Kd.N_mono HO219.out (fun k_ hk => (⟨hk, hk.2.2⟩ : _ ∧ k_ ≠ gb216))) (fun _ hk => hk.2) (.slice Ao8 t217.length co8)) (fun _ hk => hk.1.1)), (y3 HB.out GE215.out GE216.out)⟩
end Go.Proofs.YtihfbpmblppbgaaDoor.PA
end
section
namespace Go.Proofs.YtihfbpmblppbgaaDoor.PA
open Go.RowKit Go.Proofs.YtihfbpmblppbgaaDoorW.PrintWords Go.Proofs.YtihfbpmblppbgaaDoorW.PrintLast Go.Proofs.YtihfbpmblppbgaaDoorW.PrintMore
attribute [local go_sem] max2_int min2_int max_two min_two max_three min_three max_four min_four
set_option linter.unusedVariables false
set_option linter.unusedSimpArgs false
def strconv_Itoa_25.f (a0 : Int) : Option ByteArray := if -9223372036854775808 ≤ a0 ∧ a0 ≤ 9223372036854775807 then some ⟨(Lib.itoa a0).toArray⟩ else none
theorem strconv_Itoa_25.calls (a0 : Int) (r : ByteArray) (w : World) (hG : HfG w) (h : strconv_Itoa_25.f a0 = some r) :
  Calls Tryd.prog 25 #[.int .i64 a0] w fun e w' => e = .returned (.string r) ∧ Below w.heap.size w w' := by
 unfold strconv_Itoa_25.f at h
 by_cases c : -9223372036854775808 ≤ a0 ∧ a0 ≤ 9223372036854775807
 ·rw [if_pos c] at h
  obtain rfl := Option.some.inj h
  exact itoa_calls a0 c.1 c.2 w hG
 ·rw [if_neg c] at h; cases h
end Go.Proofs.YtihfbpmblppbgaaDoor.PA
end
section
namespace Go.Proofs.YtihfbpmblppbgaaDoor.PA
open Go.RowKit Go.Proofs.YtihfbpmblppbgaaDoorW.PrintWords Go.Proofs.YtihfbpmblppbgaaDoorW.PrintLast Go.Proofs.YtihfbpmblppbgaaDoorW.PrintMore
attribute [local go_sem] max2_int min2_int max_two min_two max_three min_three max_four min_four
set_option linter.unusedVariables false
set_option linter.unusedSimpArgs false
def impl_valWords.f : Nat → Int → List (S25) → Option (ByteArray)
 | 0, _, _ => none
 | k + 1, a0_0, l0_1 => if (l0_1.length : Int) = 0 then ((strconv_Itoa_25.f a0_0).bind fun t260 => (some t260)) else (if 0 < (l0_1.length : Int) then ((impl_valWords.f k ((rd_T25 l0_1 0).f0) ((rd_T25 l0_1 0).f1)).bind fun t262 => (if 1 + t262.size ≤ 9223372036854775807 then (if 1 + t262.size + 1 ≤ 9223372036854775807 then (if 1 < (l0_1.length : Int) then ((impl_valWords.f k ((rd_T25 l0_1 1).f0) ((rd_T25 l0_1 1).f1)).bind fun t264 => (if 1 + t262.size + 1 + t264.size ≤ 9223372036854775807 then (if 1 + t262.size + 1 + t264.size + 1 ≤ 9223372036854775807 then (some (((((⟨#[40]⟩ : ByteArray) ++ t262) ++ (⟨#[44]⟩ : ByteArray)) ++ t264) ++ (⟨#[41]⟩ : ByteArray))) else (none)) else (none))) else (none)) else (none)) else (none))) else (none))
theorem impl_valWords.mono_l : ∀ k, (∀ y0 y1, LeO (impl_valWords.f k y0 y1) (impl_valWords.f (k + 1) y0 y1))
 | 0 => fun _ _ r h => by simp [impl_valWords.f] at h
 | k + 1 => by
  have ih0 := impl_valWords.mono_l k
  ·intro y0 y1
   unfold impl_valWords.f
   repeat' first
   | (with_reducible exact ih0 _ _)
   | (with_reducible exact LeO.refl _)
   | (with_reducible exact LeO.none _)
   | (with_reducible refine LeO.ite ?_ ?_)
   | (with_reducible refine LeO.bind ?_ (fun _ => ?_))
   | exact ih0 _ _
   | exact LeO.none _
   | refine LeO.ite ?_ ?_
   | refine LeO.bind ?_ (fun _ => ?_)
theorem impl_valWords.mono : ∀ a0 a1 k, LeO (impl_valWords.f k a0 a1) (impl_valWords.f (k + 1) a0 a1) := by
 intro a0 a1 k
 have ih0 := impl_valWords.mono_l k
 exact ih0 a0 a1
def impl_valWords.T3 : Bool × List (List Nat × List Nat) := (true, [([], []), ([0], [0]), ([1], [1]), ([2], [2]), ([3], [3]), ([4], [4]), ([5], [5]), ([], []), ([7], [7]), ([8], [8]), ([9], [9]), ([10, 4], [10]), ([6, 11], [6, 11]), ([12], [12]), ([13, 11, 0, 1, 2, 3, 4, 5, 6, 7, 8, 9, 10, 11, 12, 13], [13])])
def impl_valWords.B3 : List Nat := [0, 1, 3, 7, 15, 31, 63, 0, 128, 384, 896, 1951, 4095, 8191, 16383]
theorem impl_valWords.tab3 : rtab .any (opsOf Tryd.f17 3) = impl_valWords.T3 := by kernel_rfl
theorem impl_valWords.bits3 : waitsOk impl_valWords.T3.2 impl_valWords.B3 = true := by kernel_rfl
set_option maxHeartbeats 8000000 in
set_option maxRecDepth 100000 in
theorem impl_valWords.calls (k : Nat) : ∀ (a0_0 : Int) (A0_1 : Option Addr) (c0_1 : Nat) (l0_1 : List (S25)) (r : ByteArray) (w : World) (hG : HfG w) (hr0_1 : Kd.C k25 w A0_1 l0_1.length l0_1) (hc0_1 : l0_1.length ≤ c0_1) (h : impl_valWords.f k a0_0 l0_1 = some r),
  Calls Tryd.prog 17 #[.agg #[.int .i64 a0_0, .slice A0_1 l0_1.length c0_1]] w fun e w' => e = .returned (.string r) ∧ Below w.heap.size w w' := by
 induction k using Nat.strongRecOn with
 | _ k ih =>
 intro a0_0 A0_1 c0_1 l0_1 r w hG hr0_1 hc0_1 h
 cases k with
 | zero => exact absurd h (by simp [impl_valWords.f])
 | succ k =>
 simp only [impl_valWords.f] at h
 have hu25 := Tryd.underlying25
 have HR0_1 := Aside0.mk hr0_1
 have HC0_1 := Aside0.mk hc0_1
 clear hr0_1 hc0_1
 have HB := Aside0.mk (Below.refl w.heap.size w)
 have HG := Aside0.mk hG
 clear hG
 have H : (if (l0_1.length : Int) = 0 then ((strconv_Itoa_25.f a0_0).bind fun t260 => (some t260)) else (if 0 < (l0_1.length : Int) then ((impl_valWords.f k ((rd_T25 l0_1 0).f0) ((rd_T25 l0_1 0).f1)).bind fun t262 => (if 1 + t262.size ≤ 9223372036854775807 then (if 1 + t262.size + 1 ≤ 9223372036854775807 then (if 1 < (l0_1.length : Int) then ((impl_valWords.f k ((rd_T25 l0_1 1).f0) ((rd_T25 l0_1 1).f1)).bind fun t264 => (if 1 + t262.size + 1 + t264.size ≤ 9223372036854775807 then (if 1 + t262.size + 1 + t264.size + 1 ≤ 9223372036854775807 then (some (((((⟨#[40]⟩ : ByteArray) ++ t262) ++ (⟨#[44]⟩ : ByteArray)) ++ t264) ++ (⟨#[41]⟩ : ByteArray))) else (none)) else (none))) else (none)) else (none)) else (none))) else (none))) = some r := h
 clear h
 have HZ2 := Aside0.mk H
 clear H
 go_enter Tryd.func17, Tryd.ntmps17
 go_upto_if 6 with (first | ((with_reducible refine gate_dst (N := 1) rfl ?_); refine zbx 1 #[.int .i64 a0_0, .slice A0_1 l0_1.length c0_1] 25 ?_; intro gb259 hg w3 hbox hb; have BK259 := Aside0.mk hbox; have GW259 := Aside0.mk ((y5 hg HB.out : w.heap.size ≤ gb259)); have GE259 := Aside0.mk ((y5 hg HB.out : w.heap.size ≤ gb259)); replace HB := Aside0.mk (below_step (y2 HB.out) hb); clear hb hbox hg; have hcz4_0 := zh BK259; have hcz4_1 := zh1 BK259; have hfz4_0 := zfr BK259 0; have hfz4_1 := zfr BK259 1))
 (try simp only [Act.put, List.setIfInBounds_toArray, List.set_cons_zero, List.set_cons_succ])
 have H := HZ2.out
 clear HZ2
 by_cases c5 : (l0_1.length : Int) = 0
 ·rw [if_pos c5] at H
  have c5b0 : ((l0_1.length : Int) == 0) = true := beq_iff_eq.mpr c5
  have c5b1 : ((l0_1.length : Int) != 0) = false := bne_eq_false_iff_eq.mpr c5
  clear c5
  (first | rw [c5b0] | (simp only [i64_w, i32_w]; rw [c5b0]) | skip)
  obtain ⟨t260, A60, H⟩ := ob H
  have A6 := Aside0.mk A60
  clear A60
  obtain rfl := Option.some.inj H
  have hcz7_0 := zh BK259
  have hcz7_1 := zh1 BK259
  have hfz7_0 := zfr BK259 0
  have hfz7_1 := zfr BK259 1
  go_wp2_with (first | ((with_reducible refine gate_callee (f := 25) rfl ?_); refine goesL_ (some 9) rfl rfl Tryd.func25 (by kernel_rfl) rfl #[.int .i64 a0_0] rfl y4 ?_; (with_reducible refine (strconv_Itoa_25.calls (hG := ?sideG) a0_0 t260 _ A6.out).mono ?_); (case sideG => exact hf_gd HG.out (y0 HB.out GE259.out)); rintro e w8 ⟨rfl, hb⟩; refine ⟨_, rfl, ?_⟩; replace BK259 := zbb BK259 hb; replace HB := Aside0.mk (below_step (y0 HB.out GE259.out) hb); (try clear hb); (try clear hb2); (try clear hk); (try clear hi)))
  go_ret
  exact ⟨y7, (y0 HB.out GE259.out)⟩
 ·rw [if_neg c5] at H
  have c5b0 : ((l0_1.length : Int) == 0) = false := beq_eq_false_iff_ne.mpr c5
  have c5b1 : ((l0_1.length : Int) != 0) = true := bne_iff_ne.mpr c5
  have c5b2 : ¬ (l0_1 = []) := fun h_ => c5 (by rw [h_]; rfl)
  (first | rw [c5b0] | (simp only [i64_w, i32_w]; rw [c5b0]) | skip)
  by_cases c9 : 0 < (l0_1.length : Int)
  ·rw [if_pos c9] at H
   have c9b0 : decide (0 < (l0_1.length : Int)) = true := decide_eq_true c9
   have c9b1 : decide (0 < l0_1.length) = true := decide_eq_true (by omega)
   clear c9
   obtain ⟨t262, A100, H⟩ := ob H
   have A10 := Aside0.mk A100
   clear A100
   by_cases c11 : 1 + t262.size ≤ 9223372036854775807
   ·rw [if_pos c11] at H
    have c11b0 := eq_true c11
    have c11b1 : decide (1 + t262.size ≤ 9223372036854775807) = true := decide_eq_true c11
    try have c11b2 : (9223372036854775807 < 1 + t262.size) = False := eq_false (Nat.not_lt.2 c11)
    by_cases c12 : 1 + t262.size + 1 ≤ 9223372036854775807
    ·rw [if_pos c12] at H
     have c12b0 := eq_true c12
     have c12b1 : decide (1 + t262.size + 1 ≤ 9223372036854775807) = true := decide_eq_true c12
     try have c12b2 : (9223372036854775807 < 1 + t262.size + 1) = False := eq_false (Nat.not_lt.2 c12)
     by_cases c13 : 1 < (l0_1.length : Int)
     ·rw [if_pos c13] at H
      have c13b0 : decide (1 < (l0_1.length : Int)) = true := decide_eq_true c13
      have c13b1 : decide (1 < l0_1.length) = true := decide_eq_true (by omega)
      clear c13
      obtain ⟨t264, A140, H⟩ := ob H
      have A14 := Aside0.mk A140
      clear A140
      by_cases c15 : 1 + t262.size + 1 + t264.size ≤ 9223372036854775807
      ·rw [if_pos c15] at H
       have c15b0 := eq_true c15
       have c15b1 : decide (1 + t262.size + 1 + t264.size ≤ 9223372036854775807) = true := decide_eq_true c15
       try have c15b2 : (9223372036854775807 < 1 + t262.size + 1 + t264.size) = False := eq_false (Nat.not_lt.2 c15)
       by_cases c16 : 1 + t262.size + 1 + t264.size + 1 ≤ 9223372036854775807
       ·rw [if_pos c16] at H
        have c16b0 := eq_true c16
        have c16b1 : decide (1 + t262.size + 1 + t264.size + 1 ≤ 9223372036854775807) = true := decide_eq_true c16
        try have c16b2 : (9223372036854775807 < 1 + t262.size + 1 + t264.size + 1) = False := eq_false (Nat.not_lt.2 c16)
        obtain rfl := Option.some.inj H
        try go_wp2
        replace BK259 := Aside0.mk (blk_drew BK259.out)
        replace HB := Aside0.mk (below_drew1 HB.out)
        have p261 : 0 ≤ (0 : Int) := (by omega)
        have q261 : 0 < (l0_1.length : Int) := of_decide_eq_true y19
        obtain ⟨ad261, A261_1, c261_1, e261, hx261_0, hx261_1, hl261_1, hi261_1⟩ := at_T25 HR0_1.out 0 p261 q261
        have hw261_1 := hx261_1
        (try rw [show ((0 : Int)).toNat = 0 from rfl] at hw261_1)
        (try rw [show 0 * 2 = 0 from rfl] at hw261_1)
        (try rw [Addr.add_zero'] at hw261_1)
        have hw261_0 := hx261_0
        (try rw [show ((0 : Int)).toNat = 0 from rfl] at hw261_0)
        (try rw [show 0 * 2 = 0 from rfl] at hw261_0)
        (try rw [Addr.add_zero'] at hw261_0)
        cases e261
        have qi261 : (0 < l0_1.length) = True := eq_true (by omega)
        (try rw [show ((0 : Int)).toNat = 0 from rfl] at hx261_0)
        (try rw [show 0 * 2 = 0 from rfl] at hx261_0)
        (try rw [Addr.add_zero'] at hx261_0)
        (try rw [show ((0 : Int)).toNat = 0 from rfl] at hx261_1)
        (try rw [show 0 * 2 = 0 from rfl] at hx261_1)
        (try rw [Addr.add_zero'] at hx261_1)
        replace hx261_0 := (HB.out.cell (World.block_lt_of_cell? w _ hx261_0)).trans hx261_0
        replace hx261_1 := (HB.out.cell (World.block_lt_of_cell? w _ hx261_1)).trans hx261_1
        have HR261_1 := Aside0.mk hi261_1
        have HC261_1 := Aside0.mk hl261_1
        clear hi261_1 hl261_1
        replace p261 := eq_true p261
        replace q261 := eq_true q261
        have p263 : 0 ≤ (1 : Int) := (by omega)
        have q263 : 1 < (l0_1.length : Int) := of_decide_eq_true y19
        obtain ⟨ad263, A263_1, c263_1, e263, hx263_0, hx263_1, hl263_1, hi263_1⟩ := at_T25 HR0_1.out 1 p263 q263
        have hw263_1 := hx263_1
        (try rw [show ((1 : Int)).toNat = 1 from rfl] at hw263_1)
        (try rw [show 1 * 2 = 2 from rfl] at hw263_1)
        (try simp only [Nat.reduceMul, Nat.reduceEqDiff, Go.Addr.add, ↓reduceIte] at hw263_1)
        have hw263_0 := hx263_0
        (try rw [show ((1 : Int)).toNat = 1 from rfl] at hw263_0)
        (try rw [show 1 * 2 = 2 from rfl] at hw263_0)
        (try simp only [Nat.reduceMul, Nat.reduceEqDiff, Go.Addr.add, ↓reduceIte] at hw263_0)
        obtain rfl : ad261 = ad263 := (by injection e263)
        (try simp only [show (1 : Int).toNat = 1 from rfl, Nat.reduceMul, Nat.reduceEqDiff, Go.Addr.add, ↓reduceIte] at hx263_0)
        (try simp only [show (1 : Int).toNat = 1 from rfl, Nat.reduceMul, Nat.reduceEqDiff, Go.Addr.add, ↓reduceIte] at hx263_1)
        have qi263 : (1 < l0_1.length) = True := eq_true (by omega)
        (try rw [show ((1 : Int)).toNat = 1 from rfl] at hx263_0)
        (try rw [show 1 * 2 = 2 from rfl] at hx263_0)
        (try rw [show ((1 : Int)).toNat = 1 from rfl] at hx263_1)
        (try rw [show 1 * 2 = 2 from rfl] at hx263_1)
        replace hx263_0 := (HB.out.cell (World.block_lt_of_cell? w _ hx263_0)).trans hx263_0
        replace hx263_1 := (HB.out.cell (World.block_lt_of_cell? w _ hx263_1)).trans hx263_1
        have HR263_1 := Aside0.mk hi263_1
        have HC263_1 := Aside0.mk hl263_1
        clear hi263_1 hl263_1
        replace p263 := eq_true p263
        replace q263 := eq_true q263
        refine start_ (n := 15) (S := fun w' => w'.cell? ⟨gb259, 0, none⟩ = some (.int .i64 a0_0) ∧ w'.cell? ⟨gb259, 1, none⟩ = some (.slice (some ad261) l0_1.length c0_1) ∧ w'.cell? ad261 = some (.int .i64 ((rd_T25 l0_1 0).f0)) ∧ w'.cell? ⟨ad261.block, ad261.off + 1, none⟩ = some (.slice A261_1 ((rd_T25 l0_1 0).f1).length c261_1) ∧ w'.cell? ⟨ad261.block, ad261.off + 2, none⟩ = some (.int .i64 ((rd_T25 l0_1 1).f0)) ∧ w'.cell? ⟨ad261.block, ad261.off + 2 + 1, none⟩ = some (.slice A263_1 ((rd_T25 l0_1 1).f1).length c263_1)) (ds := []) #[false, false, false, false, false, false, false, false, false, false, false, false, false, false, false] (by kernel_rfl) rfl rfl ⟨(blk_cell BK259.out 0).trans rfl, (blk_cell BK259.out 1).trans rfl, ((HB.out.cell (World.block_lt_of_cell? w _ hw261_0)).trans hw261_0), ((HB.out.cell (World.block_lt_of_cell? w _ hw261_1)).trans hw261_1), ((HB.out.cell (World.block_lt_of_cell? w _ hw263_0)).trans hw263_0), ((HB.out.cell (World.block_lt_of_cell? w _ hw263_1)).trans hw263_1)⟩ (fun hHeld => ?_); refine with_tabW impl_valWords.tab3 impl_valWords.bits3 (fun HT_ HW_ => ?_)
        generalize w3.drew = w17 at BK259 HB HR261_1 HR263_1 hx261_0 hx261_1 hx263_0 hx263_1 hHeld ⊢
        refine zp 0 (some 10) HT_ ?_
        refine zp 7 (some 17) HT_ ?_
        refine zt6 1 (some 11) HT_ HW_ hHeld ?_
        refine zp 2 (some 12) HT_ ?_
        refine zt6 3 (some 13) HT_ HW_ hHeld ?_
        refine zt6 8 (some 18) HT_ HW_ hHeld ?_
        refine zp 9 (some 19) HT_ ?_
        refine zt6 10 (some 20) HT_ HW_ hHeld ?_
        refine one_ (i := 4) (N := some 14) #[true, true, true, true, true, false, false, true, true, true, true, false, false, false, false] rfl rfl (one_of HT_.out (by kernel_rfl)) (by decide) (fun K hK => ?_)
        refine goes_ Tryd.func17 (by kernel_rfl) rfl #[.agg #[.int .i64 ((rd_T25 l0_1 0).f0), .slice A261_1 ((rd_T25 l0_1 0).f1).length c261_1]] (by rfl) rfl rfl y4 ?_
        with_reducible refine (ih (hG := ?sideG) k (by omega) ((rd_T25 l0_1 0).f0) _ _ ((rd_T25 l0_1 0).f1) t262 _ ?side1 ?side2 A10.out).mono ?_
        (case sideG => exact hf_gd HG.out (y0 HB.out GE259.out))
        (case side1 => exact y9 HR261_1.out HB.out)
        (case side2 => exact HC261_1.out)
        rintro e w18 ⟨rfl, hb⟩
        refine ⟨_, rfl, ?_⟩
        replace BK259 := zbb BK259 hb
        replace HB := Aside0.mk (below_step (y0 HB.out GE259.out) hb)
        (try clear hb)
        (try clear hb2)
        (try clear hk)
        (try clear hi)
        refine hK.out _ _ ⟨(blk_cell BK259.out 0).trans rfl, (blk_cell BK259.out 1).trans rfl, ((HB.out.cell (World.block_lt_of_cell? w _ hw261_0)).trans hw261_0), ((HB.out.cell (World.block_lt_of_cell? w _ hw261_1)).trans hw261_1), ((HB.out.cell (World.block_lt_of_cell? w _ hw263_0)).trans hw263_0), ((HB.out.cell (World.block_lt_of_cell? w _ hw263_1)).trans hw263_1)⟩ (fun hHeld => ?_)
        clear hK K
        refine norm_ (a' := ?_) ?_ ?_
        rotate_left
        ·show Act.put _ (some 14) _ = _
         simp only [Act.put, List.setIfInBounds_toArray, List.set_cons_zero, List.set_cons_succ, i64_w, i32_w]
         rfl
        refine zp 5 (some 15) HT_ ?_
        refine zp 6 (some 16) HT_ ?_
        refine one_ (i := 11) (N := some 21) #[true, true, true, true, true, true, true, true, true, true, true, true, false, false, false] rfl rfl (one_of HT_.out (by kernel_rfl)) (by decide) (fun K hK => ?_)
        refine goes_ Tryd.func17 (by kernel_rfl) rfl #[.agg #[.int .i64 ((rd_T25 l0_1 1).f0), .slice A263_1 ((rd_T25 l0_1 1).f1).length c263_1]] (by rfl) rfl rfl y4 ?_
        with_reducible refine (ih (hG := ?sideG) k (by omega) ((rd_T25 l0_1 1).f0) _ _ ((rd_T25 l0_1 1).f1) t264 _ ?side1 ?side2 A14.out).mono ?_
        (case sideG => exact hf_gd HG.out (y0 HB.out GE259.out))
        (case side1 => exact y9 HR263_1.out HB.out)
        (case side2 => exact HC263_1.out)
        rintro e w19 ⟨rfl, hb⟩
        refine ⟨_, rfl, ?_⟩
        replace BK259 := zbb BK259 hb
        replace HB := Aside0.mk (below_step (y0 HB.out GE259.out) hb)
        (try clear hb)
        (try clear hb2)
        (try clear hk)
        (try clear hi)
        refine hK.out _ _ ⟨(blk_cell BK259.out 0).trans rfl, (blk_cell BK259.out 1).trans rfl, ((HB.out.cell (World.block_lt_of_cell? w _ hw261_0)).trans hw261_0), ((HB.out.cell (World.block_lt_of_cell? w _ hw261_1)).trans hw261_1), ((HB.out.cell (World.block_lt_of_cell? w _ hw263_0)).trans hw263_0), ((HB.out.cell (World.block_lt_of_cell? w _ hw263_1)).trans hw263_1)⟩ (fun hHeld => ?_)
        clear hK K
        refine norm_ (a' := ?_) ?_ ?_
        rotate_left
        ·show Act.put _ (some 21) _ = _
         simp only [Act.put, List.setIfInBounds_toArray, List.set_cons_zero, List.set_cons_succ, i64_w, i32_w]
         rfl
        refine zp 12 (some 22) HT_ ?_
        refine zp 13 (some 23) HT_ ?_
        refine zp 14 (some 2) HT_ ?_
        refine done_ (done_of HT_.out (by kernel_rfl)) ?_
        try go_wp2
        go_ret
        exact ⟨y7, (y0 HB.out GE259.out)⟩
       ·rw [if_neg c16] at H
        exact absurd H (by simp)
      ·rw [if_neg c15] at H
       exact absurd H (by simp)
     ·rw [if_neg c13] at H
      exact absurd H (by simp)
    ·rw [if_neg c12] at H
     exact absurd H (by simp)
   ·rw [if_neg c11] at H
    exact absurd H (by simp)
  ·rw [if_neg c9] at H
   exact absurd H (by simp)
end Go.Proofs.YtihfbpmblppbgaaDoor.PA
end
section
namespace Go.Proofs.YtihfbpmblppbgaaDoor.PA
open Go.RowKit Go.Proofs.YtihfbpmblppbgaaDoorW.PrintWords Go.Proofs.YtihfbpmblppbgaaDoorW.PrintLast Go.Proofs.YtihfbpmblppbgaaDoorW.PrintMore
attribute [local go_sem] max2_int min2_int max_two min_two max_three min_three max_four min_four
set_option linter.unusedVariables false
set_option linter.unusedSimpArgs false
def impl_ValText.f (k : Nat) (a0_0 : Int) (l0_1 : List (S25)) : Option (ByteArray) := (impl_valTyped.f k a0_0 l0_1).bind fun bt266 => (if bt266.2 = true then ((impl_valWords.f k a0_0 l0_1).bind fun t271 => (some t271)) else (some (⟨#[]⟩ : ByteArray)))
theorem impl_ValText.mono : ∀ a0 a1 k, LeO (impl_ValText.f k a0 a1) (impl_ValText.f (k + 1) a0 a1) := by
 intro a0 a1 k
 unfold impl_ValText.f
 repeat' first
   | (with_reducible exact impl_valTyped.mono _ _ _)
   | (with_reducible exact impl_valWords.mono _ _ _)
   | (with_reducible exact LeO.refl _)
   | (with_reducible exact LeO.none _)
   | (with_reducible refine LeO.ite ?_ ?_)
   | (with_reducible refine LeO.bind ?_ (fun _ => ?_))
   | exact impl_valTyped.mono _ _ _
   | exact impl_valWords.mono _ _ _
   | exact LeO.none _
   | refine LeO.ite ?_ ?_
   | refine LeO.bind ?_ (fun _ => ?_)
set_option maxHeartbeats 8000000 in
set_option maxRecDepth 100000 in
theorem impl_ValText.calls (k : Nat) (a0_0 : Int) (A0_1 : Option Addr) (c0_1 : Nat) (l0_1 : List (S25)) (r : ByteArray) (w : World) (hG : HfG w) (hr0_1 : Kd.C k25 w A0_1 l0_1.length l0_1) (hc0_1 : l0_1.length ≤ c0_1) (h : impl_ValText.f k a0_0 l0_1 = some r) :
  Calls Tryd.prog 7 #[.agg #[.int .i64 a0_0, .slice A0_1 l0_1.length c0_1]] w fun e w' => e = .returned (.string r) ∧ Below w.heap.size w w' := by
 have hu25 := Tryd.underlying25
 have hu41 := Tryd.underlying41
 have HR0_1 := Aside0.mk hr0_1
 have HC0_1 := Aside0.mk hc0_1
 clear hr0_1 hc0_1
 have HB := Aside0.mk (Below.refl w.heap.size w)
 have HG := Aside0.mk hG
 clear hG
 have H : ((impl_valTyped.f k a0_0 l0_1).bind fun bt266 => (if bt266.2 = true then ((impl_valWords.f k a0_0 l0_1).bind fun t271 => (some t271)) else (some (⟨#[]⟩ : ByteArray)))) = some r := h
 clear h
 obtain ⟨⟨t266, t269⟩, A20, H⟩ := ob H
 have A2 := Aside0.mk A20
 clear A20
 have HZ3 := Aside0.mk H
 clear H
 go_enter Tryd.func7, Tryd.ntmps7
 go_upto_if 11 with (first | ((with_reducible refine gate_dst (N := 1) rfl ?_); refine zbx 1 #[.int .i64 a0_0, .slice A0_1 l0_1.length c0_1] 25 ?_; intro gb265 hg w4 hbox hb; have BK265 := Aside0.mk hbox; have GW265 := Aside0.mk ((y5 hg HB.out : w.heap.size ≤ gb265)); have GE265 := Aside0.mk ((y5 hg HB.out : w.heap.size ≤ gb265)); replace HB := Aside0.mk (below_step (y2 HB.out) hb); clear hb hbox hg; have hcz5_0 := zh BK265; have hcz5_1 := zh1 BK265; have hfz5_0 := zfr BK265 0; have hfz5_1 := zfr BK265 1) | ((with_reducible refine gate_callee (f := 16) rfl ?_); refine goesL_ (some 7) rfl rfl Tryd.func16 (by kernel_rfl) rfl #[.agg #[.int .i64 a0_0, .slice A0_1 l0_1.length c0_1]] rfl y4 ?_; (with_reducible refine (impl_valTyped.calls k a0_0 _ _ l0_1 t266 t269 _ ?side1 ?side2 A2.out).mono ?_); (case side1 => exact y9 HR0_1.out HB.out); (case side2 => exact HC0_1.out); rintro e w6 ⟨v267, rfl, ho0, hb⟩; refine ⟨_, rfl, ?_⟩; have HO268 := Aside0.mk (Kd.N_lower (Kd.N_mono (ok' := fun k_ => k_ ≠ gb265) ho0 (fun k_ hk_ => (Kd.freshB (g := gb265) (o := .cells #[.int .i64 a0_0, .slice A0_1 l0_1.length c0_1] 25 (0, 0)) (y1 BK265.out) k_ hk_))) (below_size (y0 HB.out GE265.out))); replace BK265 := zbb BK265 hb; replace HB := Aside0.mk (below_step (y0 HB.out GE265.out) hb); (try clear hb); (try clear hb2); (try clear hk); (try clear hi); (try clear ho0)) | ((with_reducible refine gate_dst (N := 3) rfl ?_); refine zbx 3 #[.slice none 0 0] 41 ?_; intro gb270 hg w7 hbox hb; replace HO268 := Aside0.mk (Kd.N_below (Kd.N_elderB (y12 HO268.out) gb270 (Nat.le_of_eq hg.symm)) hb); have BK270 := Aside0.mk hbox; have GW270 := Aside0.mk ((y8 hg HB.out GE265.out : w.heap.size ≤ gb270)); have GE270 := Aside0.mk ((y8 hg HB.out GE265.out : w.heap.size ≤ gb270)); replace HB := Aside0.mk (below_step (y0 HB.out GE265.out) hb); have NB265_270 := zltn hg BK265; have NB270_265 := zgtn hg BK265; replace BK265 := zbb BK265 hb; clear hb hbox hg; obtain ⟨Ao8, co8, eo8⟩ := Kd.N_slice HO268.out; subst eo8; have hnb9 := NB270_265.out; have hnc9 := NB265_270.out; have hcz10_0 := zh BK270; have hfz10_0 := zfr BK270 0))
 (try simp only [Act.put, List.setIfInBounds_toArray, List.set_cons_zero, List.set_cons_succ])
 have H := HZ3.out
 clear HZ3
 by_cases c11 : t269 = true
 ·subst c11
  rw [if_pos rfl] at H
  obtain ⟨t271, A120, H⟩ := ob H
  have A12 := Aside0.mk A120
  clear A120
  obtain rfl := Option.some.inj H
  have hnb13 := NB265_270.out
  have hnc13 := NB270_265.out
  have hcz14_0 := zh BK265
  have hcz14_1 := zh1 BK265
  have hfz14_0 := zfr BK265 0
  have hfz14_1 := zfr BK265 1
  go_wp2_with (first | ((with_reducible refine gate_callee (f := 17) rfl ?_); refine goesL_ (some 13) rfl rfl Tryd.func17 (by kernel_rfl) rfl #[.agg #[.int .i64 a0_0, .slice A0_1 l0_1.length c0_1]] rfl y4 ?_; (with_reducible refine (impl_valWords.calls (hG := ?sideG) k a0_0 _ _ l0_1 t271 _ ?side1 ?side2 A12.out).mono ?_); (case sideG => exact hf_gd HG.out (y3 HB.out GE265.out GE270.out)); (case side1 => exact y38 HR0_1.out HB.out GE265.out GE270.out); (case side2 => exact HC0_1.out); rintro e w15 ⟨rfl, hb⟩; refine ⟨_, rfl, ?_⟩; replace HO268 := Aside0.mk (Kd.N_below (by (with_reducible repeat (first | apply Kd.N_alloc | apply Kd.N_drewN | apply Kd.N_drew)); exact (Kd.N_mono (Kd.N_far (p := ⟨gb270, 0, none⟩) (Kd.N_mono HO268.out (fun k_ hk => (⟨hk, hk.2⟩ : _ ∧ k_ ≠ gb270))) (fun _ hk => hk.2) (.slice Ao8 t266.length co8)) (fun _ h_ => h_.1))) hb); replace BK265 := zbf BK265 NB265_270 hb; replace BK270 := Aside0.mk (blk_below (g := gb270) (o := .cells #[.slice Ao8 t266.length co8] 41 (0, 0)) (by (with_reducible repeat (first | refine blk_drewN ?_ _ | refine blk_drew ?_ | refine blk_alloc ?_ _)); apply blk_put (i := 0); (case h => exact y1 BK270.out); (case e => rfl)) hb); replace HB := Aside0.mk (below_step (y3 HB.out GE265.out GE270.out) hb); (try clear hb); (try clear hb2); (try clear hk); (try clear hi)))
  go_ret
  exact ⟨y7, (y3 HB.out GE265.out GE270.out)⟩
 ·replace c11 := Bool.eq_false_iff.mpr c11
  subst c11
  rw [if_neg (show ¬ (false = true) by decide)] at H
  obtain rfl := Option.some.inj H
  go_wp2
  go_ret
  exact ⟨y7, (y3 HB.out GE265.out GE270.out)⟩
end Go.Proofs.YtihfbpmblppbgaaDoor.PA
end
section
namespace Go.Proofs.YtihfbpmblppbgaaDoor.PA
open Go.RowKit Go.Proofs.YtihfbpmblppbgaaDoorW.PrintWords Go.Proofs.YtihfbpmblppbgaaDoorW.PrintLast Go.Proofs.YtihfbpmblppbgaaDoorW.PrintMore
attribute [local go_sem] max2_int min2_int max_two min_two max_three min_three max_four min_four
set_option linter.unusedVariables false
set_option linter.unusedSimpArgs false
mutual
def spec_l1Of.j0 : Nat → Int → Bool → Int → List (S25) → Option ((List (S41)) × Bool)
 | 0, _, _, _, _ => none
 | k + 1, x1, x24, x273000, x273001 => if x24 = true then (some (([] : List (S41)), false)) else (spec_l1Of.l0 k x1 0 x273000 x273001 ([] : List (S41)))
def spec_l1Of.l0 : Nat → Int → Int → Int → List (S25) → List (S41) → Option ((List (S41)) × Bool)
 | 0, _, _, _, _, _ => none
 | k + 1, x1, x7, x273000, x273001, x275000 => if x7 < (x273001.length : Int) then (if 0 ≤ x7 then ((spec_l1Of.f k ((rd_T25 x273001 x7).f0) ((rd_T25 x273001 x7).f1) (wrap64 (x1 - 1))).bind fun bt276 => (if bt276.2 = true then (if x275000.length < 5864062014805 then (spec_l1Of.l0 k x1 (wrap64 (x7 + 1)) x273000 x273001 (x275000 ++ [(⟨bt276.1⟩ : S41)])) else (none)) else (some (x275000, false)))) else (none)) else (some (x275000, true))
def spec_l1Of.f : Nat → Int → List (S25) → Int → Option ((List (S41)) × Bool)
 | 0, _, _, _ => none
 | k + 1, a0_0, l0_1, a1 => if a1 < 1 then (spec_l1Of.j0 k a1 true a0_0 l0_1) else (if (l0_1.length : Int) = 0 then (spec_l1Of.j0 k a1 false a0_0 l0_1) else (spec_l1Of.j0 k a1 ((l0_1.length : Int) != 2) a0_0 l0_1))
end
theorem spec_l1Of.mono_l : ∀ k, (∀ y0 y1 y2, LeO (spec_l1Of.f k y0 y1 y2) (spec_l1Of.f (k + 1) y0 y1 y2)) ∧ (∀ y0 y1 y2 y3, LeO (spec_l1Of.j0 k y0 y1 y2 y3) (spec_l1Of.j0 (k + 1) y0 y1 y2 y3)) ∧ (∀ y0 y1 y2 y3 y4, LeO (spec_l1Of.l0 k y0 y1 y2 y3 y4) (spec_l1Of.l0 (k + 1) y0 y1 y2 y3 y4))
 | 0 => ⟨fun _ _ _ r h => by simp [spec_l1Of.f] at h, fun _ _ _ _ r h => by simp [spec_l1Of.j0] at h, fun _ _ _ _ _ r h => by simp [spec_l1Of.l0] at h⟩
 | k + 1 => by
  obtain ⟨ih0, ih1, ih2⟩ := spec_l1Of.mono_l k
  refine ⟨?_, ?_, ?_⟩
  ·intro y0 y1 y2
   unfold spec_l1Of.f
   repeat' first
   | (with_reducible exact ih0 _ _ _)
   | (with_reducible exact ih1 _ _ _ _)
   | (with_reducible exact ih2 _ _ _ _ _)
   | (with_reducible exact LeO.refl _)
   | (with_reducible exact LeO.none _)
   | (with_reducible refine LeO.ite ?_ ?_)
   | (with_reducible refine LeO.bind ?_ (fun _ => ?_))
   | exact ih0 _ _ _
   | exact ih1 _ _ _ _
   | exact ih2 _ _ _ _ _
   | exact LeO.none _
   | refine LeO.ite ?_ ?_
   | refine LeO.bind ?_ (fun _ => ?_)
  ·intro y0 y1 y2 y3
   unfold spec_l1Of.j0
   repeat' first
   | (with_reducible exact ih0 _ _ _)
   | (with_reducible exact ih1 _ _ _ _)
   | (with_reducible exact ih2 _ _ _ _ _)
   | (with_reducible exact LeO.refl _)
   | (with_reducible exact LeO.none _)
   | (with_reducible refine LeO.ite ?_ ?_)
   | (with_reducible refine LeO.bind ?_ (fun _ => ?_))
   | exact ih0 _ _ _
   | exact ih1 _ _ _ _
   | exact ih2 _ _ _ _ _
   | exact LeO.none _
   | refine LeO.ite ?_ ?_
   | refine LeO.bind ?_ (fun _ => ?_)
  ·intro y0 y1 y2 y3 y4
   unfold spec_l1Of.l0
   repeat' first
   | (with_reducible exact ih0 _ _ _)
   | (with_reducible exact ih1 _ _ _ _)
   | (with_reducible exact ih2 _ _ _ _ _)
   | (with_reducible exact LeO.refl _)
   | (with_reducible exact LeO.none _)
   | (with_reducible refine LeO.ite ?_ ?_)
   | (with_reducible refine LeO.bind ?_ (fun _ => ?_))
   | exact ih0 _ _ _
   | exact ih1 _ _ _ _
   | exact ih2 _ _ _ _ _
   | exact LeO.none _
   | refine LeO.ite ?_ ?_
   | refine LeO.bind ?_ (fun _ => ?_)
theorem spec_l1Of.mono : ∀ a0 a1 a2 k, LeO (spec_l1Of.f k a0 a1 a2) (spec_l1Of.f (k + 1) a0 a1 a2) := by
 intro a0 a1 a2 k
 obtain ⟨ih0, ih1, ih2⟩ := spec_l1Of.mono_l k
 exact ih0 a0 a1 a2
set_option maxHeartbeats 8000000 in
set_option maxRecDepth 100000 in
theorem spec_l1Of.calls (k : Nat) : ∀ (a0_0 : Int) (A0_1 : Option Addr) (c0_1 : Nat) (l0_1 : List (S25)) (a1 : Int) (r1 : List (S41)) (r2 : Bool) (w : World) (hr0_1 : Kd.C k25 w A0_1 l0_1.length l0_1) (hc0_1 : l0_1.length ≤ c0_1) (h : spec_l1Of.f k a0_0 l0_1 a1 = some (r1, r2)),
  Calls Tryd.prog 26 #[.agg #[.int .i64 a0_0, .slice A0_1 l0_1.length c0_1], .int .i64 a1] w fun e w' => ∃ v0_ : Value, e = .returned (.tuple #[.agg #[v0_], .bool r2]) ∧ Kd.R k41 41 w' w.heap.size (fun _ => True) v0_ r1 ∧ Below w.heap.size w w' := by
 induction k using Nat.strongRecOn with
 | _ k ih =>
 intro a0_0 A0_1 c0_1 l0_1 a1 r1 r2 w hr0_1 hc0_1 h
 cases k with
 | zero => exact absurd h (by simp [spec_l1Of.f])
 | succ k =>
 simp only [spec_l1Of.f] at h
 have hu25 := Tryd.underlying25
 have hu41 := Tryd.underlying41
 have HR0_1 := Aside0.mk hr0_1
 have HC0_1 := Aside0.mk hc0_1
 clear hr0_1 hc0_1
 have HB := Aside0.mk (Below.refl w.heap.size w)
 have H : (if a1 < 1 then (spec_l1Of.j0 k a1 true a0_0 l0_1) else (if (l0_1.length : Int) = 0 then (spec_l1Of.j0 k a1 false a0_0 l0_1) else (spec_l1Of.j0 k a1 ((l0_1.length : Int) != 2) a0_0 l0_1))) = some (r1, r2) := h
 clear h
 have HC3 := Aside0.mk H
 clear H
 go_enter Tryd.func26, Tryd.ntmps26
 go_upto_region 2 with (first | ((with_reducible refine gate_dst (N := 2) rfl ?_); (try (refine gate_guard (by rfl) ?_; dsimp only)); refine zbx 2 #[.int .i64 a0_0, .slice A0_1 l0_1.length c0_1] 25 ?_; intro gb272 hg w4 hbox hb; have BK272 := Aside0.mk hbox; have GW272 := Aside0.mk ((y5 hg HB.out : w.heap.size ≤ gb272)); have GE272 := Aside0.mk ((y5 hg HB.out : w.heap.size ≤ gb272)); replace HB := Aside0.mk (below_step (y2 HB.out) hb); clear hb hbox hg) | ((with_reducible refine gate_dst (N := 4) rfl ?_); (try (refine gate_guard (by rfl) ?_; dsimp only)); refine zbx 4 #[.slice none 0 0] 41 ?_; intro gb273 hg w5 hbox hb; have BK273 := Aside0.mk hbox; have GW273 := Aside0.mk ((y8 hg HB.out GE272.out : w.heap.size ≤ gb273)); have GE273 := Aside0.mk ((y8 hg HB.out GE272.out : w.heap.size ≤ gb273)); replace HB := Aside0.mk (below_step (y0 HB.out GE272.out) hb); have NB272_273 := zltn hg BK272; have NB273_272 := zgtn hg BK272; replace BK272 := zbb BK272 hb; clear hb hbox hg) | ((with_reducible refine gate_dst (N := 6) rfl ?_); (try (refine gate_guard (by rfl) ?_; dsimp only)); refine zbx 6 #[.slice none 0 0] 41 ?_; intro gb274 hg w6 hbox hb; have BK274 := Aside0.mk hbox; have GW274 := Aside0.mk ((y27 hg HB.out GE272.out GE273.out : w.heap.size ≤ gb274)); have GE274 := Aside0.mk ((y27 hg HB.out GE272.out GE273.out : w.heap.size ≤ gb274)); replace HB := Aside0.mk (below_step (y3 HB.out GE272.out GE273.out) hb); have NB272_274 := zltn hg BK272; have NB274_272 := zgtn hg BK272; replace BK272 := zbb BK272 hb; have NB273_274 := zltn hg BK273; have NB274_273 := zgtn hg BK273; replace BK273 := zbb BK273 hb; clear hb hbox hg; have hnb7 := NB274_272.out; have hnc7 := NB272_274.out; have hnb8 := NB274_273.out; have hnc8 := NB273_274.out; have hcz9_0 := zh BK274; have hfz9_0 := zfr BK274 0))
 (try simp only [Act.put, List.setIfInBounds_toArray, List.set_cons_zero, List.set_cons_succ])
 go_cut [24] (fun v24 wc => ∃ (kq : Nat) (x24_2 : Bool), v24 = .bool x24_2 ∧ Aside0 (spec_l1Of.j0 kq a1 x24_2 a0_0 l0_1 = some (r1, r2)) ∧ Aside0 (kq ≤ k) ∧ Aside0 (wc.heap[gb272]? = some (.cells #[.int .i64 a0_0, (.slice A0_1 l0_1.length c0_1)] 25 (0, 0))) ∧ Aside0 (wc.heap[gb273]? = some (.cells #[(.slice none 0 0)] 41 (0, 0))) ∧ Aside0 (wc.heap[gb274]? = some (.cells #[(.slice none 0 0)] 41 (0, 0))) ∧ Aside0 (Below w.heap.size w wc))
 case first =>
  have H := HC3.out
  clear HC3
  by_cases c10 : a1 < 1
  ·rw [if_pos c10] at H
   have c10b0 : decide (a1 < 1) = true := decide_eq_true c10
   clear c10
   (first | rw [c10b0] | (simp only [i64_w, i32_w]; rw [c10b0]) | skip)
   have H' := Aside0.mk H
   clear H
   go_wp2
   go_meet
   case rel => exact ⟨_, (true), y26, H', ⟨y36⟩, ⟨(y10 NB272_274.out BK272.out)⟩, ⟨(y10 NB273_274.out BK273.out)⟩, ⟨(by (with_reducible repeat (first | refine blk_drewN ?_ _ | refine blk_drew ?_ | refine blk_alloc ?_ _)); refine blk_put (cs := #[.slice none 0 0]) ?_ 0 _ rfl; (with_reducible repeat (first | refine blk_drewN ?_ _ | refine blk_drew ?_ | refine blk_alloc ?_ _)); exact BK274.out)⟩, ⟨(y6 HB.out GE272.out GE273.out GE274.out)⟩⟩
  ·rw [if_neg c10] at H
   have c10b0 : decide (a1 < 1) = false := decide_eq_false c10
   clear c10
   (first | rw [c10b0] | (simp only [i64_w, i32_w]; rw [c10b0]) | skip)
   by_cases c11 : (l0_1.length : Int) = 0
   ·rw [if_pos c11] at H
    have c11b0 : ((l0_1.length : Int) == 0) = true := beq_iff_eq.mpr c11
    have c11b1 : ((l0_1.length : Int) != 0) = false := bne_eq_false_iff_eq.mpr c11
    clear c11
    have H' := Aside0.mk H
    clear H
    have hnb12 := NB272_273.out
    have hnc12 := NB273_272.out
    have hnb13 := NB272_274.out
    have hnc13 := NB274_272.out
    have hcz14_0 := zh BK272
    have hcz14_1 := zh1 BK272
    have hfz14_0 := zfr BK272 0
    have hfz14_1 := zfr BK272 1
    go_wp2
    go_meet
    case rel => exact ⟨_, (false), y26, H', ⟨y36⟩, ⟨(y10 NB272_274.out BK272.out)⟩, ⟨(y10 NB273_274.out BK273.out)⟩, ⟨(by (with_reducible repeat (first | refine blk_drewN ?_ _ | refine blk_drew ?_ | refine blk_alloc ?_ _)); refine blk_put (cs := #[.slice none 0 0]) ?_ 0 _ rfl; (with_reducible repeat (first | refine blk_drewN ?_ _ | refine blk_drew ?_ | refine blk_alloc ?_ _)); exact BK274.out)⟩, ⟨(y6 HB.out GE272.out GE273.out GE274.out)⟩⟩
   ·rw [if_neg c11] at H
    have c11b0 : ((l0_1.length : Int) == 0) = false := beq_eq_false_iff_ne.mpr c11
    have c11b1 : ((l0_1.length : Int) != 0) = true := bne_iff_ne.mpr c11
    have c11b2 : ¬ (l0_1 = []) := fun h_ => c11 (by rw [h_]; rfl)
    have H' := Aside0.mk H
    clear H
    have hnb15 := NB272_273.out
    have hnc15 := NB273_272.out
    have hnb16 := NB272_274.out
    have hnc16 := NB274_272.out
    have hcz17_0 := zh BK272
    have hcz17_1 := zh1 BK272
    have hfz17_0 := zfr BK272 0
    have hfz17_1 := zfr BK272 1
    go_wp2
    go_meet
    case rel => exact ⟨_, (((l0_1.length : Int) != 2)), y26, H', ⟨y36⟩, ⟨(y10 NB272_274.out BK272.out)⟩, ⟨(y10 NB273_274.out BK273.out)⟩, ⟨(by (with_reducible repeat (first | refine blk_drewN ?_ _ | refine blk_drew ?_ | refine blk_alloc ?_ _)); refine blk_put (cs := #[.slice none 0 0]) ?_ 0 _ rfl; (with_reducible repeat (first | refine blk_drewN ?_ _ | refine blk_drew ?_ | refine blk_alloc ?_ _)); exact BK274.out)⟩, ⟨(y6 HB.out GE272.out GE273.out GE274.out)⟩⟩
 case rest =>
  clear HC3
  try clear c1
  try clear c2
  try clear p2
  try clear c7
  try clear c8
  try clear c10
  try clear c10b0
  try clear c11
  try clear c11b0
  try clear c11b1
  try clear c11b2
  try clear c12
  try clear c13
  try clear c15
  try clear c16
  try clear hcz14_0
  try clear hcz14_1
  try clear hcz17_0
  try clear hcz17_1
  try clear hcz9_0
  try clear hfz14_0
  try clear hfz14_1
  try clear hfz17_0
  try clear hfz17_1
  try clear hfz9_0
  obtain ⟨kq, x24_2, rfl, HA, HJ2, BK272, BK273, BK274, HB⟩ := hcut
  cases kq with
  | zero => exact absurd HA.out (by simp [spec_l1Of.j0])
  | succ kj2 =>
   have H := HA.out
   clear HA
   simp only [spec_l1Of.j0] at H
   by_cases c18 : x24_2 = true
   ·subst c18
    rw [if_pos rfl] at H
    simp only [Option.some.injEq, Prod.mk.injEq] at H
    obtain ⟨rfl, rfl⟩ := H
    have hnb19 := NB274_272.out
    have hnc19 := NB272_274.out
    have hnb20 := NB274_273.out
    have hnc20 := NB273_274.out
    have hcz21_0 := zh BK274
    have hfz21_0 := zfr BK274 0
    have hnb22 := NB273_272.out
    have hnc22 := NB272_273.out
    have hcz23_0 := zh BK273
    have hfz23_0 := zfr BK273 0
    go_wp2
    refine bodyPost_ret (results_ct rfl _ _ gb273 41 #[.slice none 0 0] (0, 0) _ rfl (by (with_reducible repeat (first | refine blk_drewN ?_ _ | refine blk_drew ?_ | refine blk_alloc ?_ _)); apply blk_put (i := 0); (case h => exact y1 BK273.out); (case e => rfl)) Tryd.underlying41 rfl (by kernel_rfl)) rfl ?_
    exact ⟨_, y7, y31, (y6 HB.out GE272.out GE273.out GE274.out)⟩
   ·replace c18 := Bool.eq_false_iff.mpr c18
    subst c18
    rw [if_neg (show ¬ (false = true) by decide)] at H
    have H' := Aside0.mk H
    clear H
    go_wp2
    go_loopg [7] kj2 (fun kq v7 w' => ∃ (x7_2 : Int) (x275000_2 : List (S41)) (u275000 : Value), v7 = .int .i64 x7_2 ∧ Aside0 (spec_l1Of.l0 kq a1 x7_2 a0_0 l0_1 x275000_2 = some (r1, r2)) ∧ Aside0 (kq ≤ kj2) ∧ Aside0 (Kd.R k41 41 w' w.heap.size (fun k_ => k_ ≠ gb273 ∧ k_ ≠ gb274) u275000 x275000_2) ∧ Aside0 (w'.heap[gb272]? = some (.cells #[.int .i64 a0_0, (.slice A0_1 l0_1.length c0_1)] 25 (0, 0))) ∧ Aside0 (w'.heap[gb273]? = some (.cells #[(.slice none 0 0)] 41 (0, 0))) ∧ Aside0 (w'.heap[gb274]? = some (.cells #[u275000] 41 (0, 0))) ∧ Aside0 (Below w.heap.size w w'))
    case atStart => exact ⟨(0), (([] : List (S41))), (.slice none 0 0), y26, H', ⟨Nat.le_refl _⟩, ⟨y31⟩, ⟨(y1 BK272.out)⟩, ⟨(y1 BK273.out)⟩, ⟨(y1 BK274.out)⟩, ⟨(y6 HB.out GE272.out GE273.out GE274.out)⟩⟩
    case round =>
     clear H'
     try clear c1
     try clear c2
     try clear p2
     try clear c7
     try clear c8
     try clear c10
     try clear c10b0
     try clear c11
     try clear c11b0
     try clear c11b1
     try clear c11b2
     try clear c12
     try clear c13
     try clear c15
     try clear c16
     try clear c18
     try clear c19
     try clear c20
     try clear c22
     try clear hcz14_0
     try clear hcz14_1
     try clear hcz17_0
     try clear hcz17_1
     try clear hcz21_0
     try clear hcz23_0
     try clear hcz9_0
     try clear hfz14_0
     try clear hfz14_1
     try clear hfz17_0
     try clear hfz17_1
     try clear hfz21_0
     try clear hfz23_0
     try clear hfz9_0
     try clear p2
     (try clear BK272); (try clear BK273); (try clear BK274)
     obtain ⟨x7_2, x275000_2, u275000, rfl, HA, HK2, HO_275000, BK272, BK273, BK274, HB⟩ := hrel
     cases gk with
     | zero => exact absurd HA.out (by simp [spec_l1Of.l0])
     | succ k2 =>
      have H := HA.out
      clear HA
      simp only [spec_l1Of.l0] at H
      by_cases c24 : x7_2 < (l0_1.length : Int)
      ·rw [if_pos c24] at H
       have c24b0 : decide (x7_2 < (l0_1.length : Int)) = true := decide_eq_true c24
       clear c24
       by_cases c25 : 0 ≤ x7_2
       ·rw [if_pos c25] at H
        have c25b0 : decide (0 ≤ x7_2) = true := decide_eq_true c25
        clear c25
        obtain ⟨⟨t276, t279⟩, A260, H⟩ := ob H
        have A26 := Aside0.mk A260
        clear A260
        by_cases c27 : t279 = true
        ·subst c27
         rw [if_pos rfl] at H
         by_cases c28 : x275000_2.length < 5864062014805
         ·rw [if_pos c28] at H
          have LMc28 := Aside0.mk c28
          clear c28
          obtain ⟨y281, hy281⟩ : ∃ y_ : List (S41), y_ = (x275000_2 ++ [(⟨t276⟩ : S41)]) := ⟨_, rfl⟩
          replace H : (spec_l1Of.l0 k2 a1 (wrap64 (x7_2 + 1)) a0_0 l0_1 y281) = some (r1, r2) := by first | (rw [hy281]; with_reducible exact H) | (have H2_ := (Option.bind_some _ _).symm.trans H; rw [hy281]; with_reducible exact H2_) | (have H2_ := (Option.bind_some _ _).symm.trans H; with_reducible exact H2_) | with_reducible exact H | (rw [hy281]; exact H) | exact H
          have Ny281 := Aside0.mk hy281
          clear hy281
          have H' := Aside0.mk H
          clear H
          have hnb29 := NB272_273.out
          have hnc29 := NB273_272.out
          have hnb30 := NB272_274.out
          have hnc30 := NB274_272.out
          have hcz31_0 := zh BK272
          have hcz31_1 := zh1 BK272
          have hfz31_0 := zfr BK272 0
          have hfz31_1 := zfr BK272 1
          have p275 : 0 ≤ (x7_2 : Int) := of_decide_eq_true y19
          have q275 : x7_2 < (l0_1.length : Int) := of_decide_eq_true y19
          obtain ⟨ad275, A275_1, c275_1, e275, hx275_0, hx275_1, hl275_1, hi275_1⟩ := at_T25 HR0_1.out x7_2 p275 q275
          cases e275
          replace hx275_0 := (HB.out.cell (World.block_lt_of_cell? w _ hx275_0)).trans hx275_0
          replace hx275_1 := (HB.out.cell (World.block_lt_of_cell? w _ hx275_1)).trans hx275_1
          have HR275_1 := Aside0.mk hi275_1
          have HC275_1 := Aside0.mk hl275_1
          clear hi275_1 hl275_1
          replace p275 := eq_true p275
          replace q275 := eq_true q275
          go_wp2_with (first | ((with_reducible refine gate_callee (f := 26) rfl ?_); refine goesL_ (some 41) rfl rfl Tryd.func26 (by kernel_rfl) rfl #[.agg #[.int .i64 ((rd_T25 l0_1 x7_2).f0), .slice A275_1 ((rd_T25 l0_1 x7_2).f1).length c275_1], .int .i64 (wrap64 (a1 - 1))] rfl y4 ?_; (with_reducible refine (ih k2 (y43 HJ2.out HK2.out) ((rd_T25 l0_1 x7_2).f0) _ _ ((rd_T25 l0_1 x7_2).f1) (wrap64 (a1 - 1)) t276 true _ ?side1 ?side2 A26.out).mono ?_); (case side1 => exact y9 HR275_1.out HB.out); (case side2 => exact HC275_1.out); rintro e w32 ⟨v277, rfl, ho0, hb⟩; refine ⟨_, rfl, ?_⟩; have HO278 := Aside0.mk (Kd.R_lower (Kd.R_newB (Kd.R_newB (Kd.R_new' ho0 (Kd.R_lt (y15 HO_275000.out))) (g := gb273) (o := .cells #[.slice none 0 0] 41 (0, 0)) (y1 BK273.out)) (g := gb274) (o := .cells #[u275000] 41 (0, 0)) (y1 BK274.out)) (below_size (y6 HB.out GE272.out GE273.out GE274.out))); replace HO_275000 := Aside0.mk (Kd.R_elder' (y15 HO_275000.out) (Kd.R_base ho0) hb); replace BK272 := zbb BK272 hb; replace BK273 := zbb BK273 hb; replace BK274 := zbb BK274 hb; replace HB := Aside0.mk (below_step (y6 HB.out GE272.out GE273.out GE274.out) hb); (try clear hb); (try clear hb2); (try clear hk); (try clear hi); (try clear ho0)) | ((with_reducible refine gate_dst (N := 8) rfl ?_); (try (refine gate_guard (by rfl) ?_; dsimp only)); refine zbx 8 #[.slice none 0 0] 41 ?_; intro gb280 hg w33 hbox hb; replace HO_275000 := Aside0.mk (Kd.R_below (Kd.R_elderB (y15 HO_275000.out) gb280 (Nat.le_of_eq hg.symm)) hb); replace HO278 := Aside0.mk (Kd.R_below (Kd.R_elderB (y15 HO278.out) gb280 (Nat.le_of_eq hg.symm)) hb); have BK280 := Aside0.mk hbox; have GW280 := Aside0.mk ((y25 hg HB.out GE272.out GE273.out GE274.out : w.heap.size ≤ gb280)); have GE280 := Aside0.mk ((y25 hg HB.out GE272.out GE273.out GE274.out : w.heap.size ≤ gb280)); replace HB := Aside0.mk (below_step (y6 HB.out GE272.out GE273.out GE274.out) hb); have NB272_280 := zltn hg BK272; have NB280_272 := zgtn hg BK272; replace BK272 := zbb BK272 hb; have NB273_280 := zltn hg BK273; have NB280_273 := zgtn hg BK273; replace BK273 := zbb BK273 hb; have NB274_280 := zltn hg BK274; have NB280_274 := zgtn hg BK274; replace BK274 := zbb BK274 hb; clear hb hbox hg; obtain ⟨Ao34, co34, eo34⟩ := Kd.R_slice HO278.out; subst eo34; have hnb35 := NB280_272.out; have hnc35 := NB272_280.out; have hnb36 := NB280_273.out; have hnc36 := NB273_280.out; have hnb37 := NB280_274.out; have hnc37 := NB274_280.out; have hcz38_0 := zh BK280; have hfz38_0 := zfr BK280 0) | ((with_reducible refine gate_store (t := 41) (p := 8) rfl ?_); refine store_event (t := 41) (p := 8) (v := ?vo_w39) (w1 := (w33.setCell ⟨gb280, 0, none⟩ (.slice Ao34 t276.length co34))) ?hg ?ho ?hn ?hr ?_; (case ho => rfl); (case hg => rfl); (case hn => rfl); (case hr => first | (go_simp; done) | (go_simp; rfl)); intro w39 hw; have n0_ : Aside0 (Kd.R k41 41 w39 w.heap.size (fun k_ => some k_ ≠ (.slice Ao34 t276.length co34 : Value).ownBlock ∧ k_ ≠ gb273 ∧ k_ ≠ gb274 ∧ k_ ≠ gb280) u275000 x275000_2) := ⟨(by rw [hw]; exact (by (with_reducible repeat (first | apply Kd.R_alloc | apply Kd.R_drewN | apply Kd.R_drew)); exact Kd.R_mono (Kd.R_far (p := ⟨gb280, 0, none⟩) (Kd.R_mono HO_275000.out (fun k_ hk => (⟨hk, hk.2⟩ : _ ∧ k_ ≠ gb280))) (fun _ hk => hk.2) (.slice Ao34 t276.length co34)) (fun _ hk => ⟨hk.1.1.2, ⟨hk.1.1.1.1, ⟨hk.1.1.1.2, hk.1.2⟩⟩⟩)))⟩; have n1_ : Aside0 (Kd.R k41 41 w39 w.heap.size (fun k_ => some k_ ≠ (u275000 : Value).ownBlock ∧ k_ ≠ gb273 ∧ k_ ≠ gb274 ∧ k_ ≠ gb280) (.slice Ao34 t276.length co34) t276) := ⟨(by rw [hw]; exact (by (with_reducible repeat (first | apply Kd.R_alloc | apply Kd.R_drewN | apply Kd.R_drew)); exact Kd.R_mono (Kd.R_far (p := ⟨gb280, 0, none⟩) (Kd.R_mono HO278.out (fun k_ hk => (⟨hk, hk.2⟩ : _ ∧ k_ ≠ gb280))) (fun _ hk => hk.2) (.slice Ao34 t276.length co34)) (fun _ hk => ⟨hk.1.1.1.1.2, ⟨hk.1.1.1.2, ⟨hk.1.1.2, hk.1.2⟩⟩⟩)))⟩; have n2_ : Aside0 (w39.heap[gb272]? = some (.cells #[.int .i64 a0_0, .slice (some ad275) l0_1.length c0_1] 25 (0, 0))) := ⟨(by rw [hw]; exact (y10 NB272_280.out BK272.out))⟩; have n3_ : Aside0 (w39.heap[gb273]? = some (.cells #[.slice none 0 0] 41 (0, 0))) := ⟨(by rw [hw]; exact (y10 NB273_280.out BK273.out))⟩; have n4_ : Aside0 (w39.heap[gb274]? = some (.cells #[u275000] 41 (0, 0))) := ⟨(by rw [hw]; exact (y10 NB274_280.out BK274.out))⟩; have n5_ : Aside0 (w39.heap[gb280]? = some (.cells #[.slice Ao34 t276.length co34] 41 (0, 0))) := ⟨(by rw [hw]; exact (by (with_reducible repeat (first | refine blk_drewN ?_ _ | refine blk_drew ?_ | refine blk_alloc ?_ _)); apply blk_put (i := 0); (case h => exact y1 BK280.out); (case e => rfl)))⟩; have n6_ : Aside0 (Below w.heap.size w w39) := ⟨(by rw [hw]; exact (y20 HB.out GE272.out GE273.out GE274.out GE280.out))⟩; clear hw; clear HO_275000; clear HO278; clear BK272; clear BK273; clear BK274; clear BK280; clear HB; have HO_275000 := n0_; have HO278 := n1_; have BK272 := n2_; have BK273 := n3_; have BK274 := n4_; have BK280 := n5_; have HB := n6_; clear n0_ n1_ n2_ n3_ n4_ n5_ n6_; have hnb40 := NB274_273.out; have hnc40 := NB273_274.out; have hcz41_0 := zh BK274; have hfz41_0 := zfr BK274 0; have hcz42_0 := zh BK280; have hfz42_0 := zfr BK280 0) | ((with_reducible refine gate_builtin (b := .append) (xs := #[.tmp 48, .tmp 50]) rfl ?_); (try (refine gate_guard (by rfl) ?_; dsimp only)); at_builtin; refine Kd.R_append k41 (w0 := w) w.heap.size rfl (.tmp 48) (.tmp 50) 39 41 (.agg #[(.slice none 0 0)]) 24 rfl Tryd.underlying39 info41 rfl (by decide) (by omega) u275000 x275000_2 (⟨t276⟩ : S41) [.slice Ao34 t276.length co34] (fun k_ => k_ ≠ gb273 ∧ k_ ≠ gb274 ∧ k_ ≠ gb280) (fun k_ => ((fun k_ => k_ ≠ gb273 ∧ k_ ≠ gb274 ∧ k_ ≠ gb280)) k_ ∧ some k_ ≠ (u275000 : Value).ownBlock) rfl rfl ?aP (fun _ hk => hk) ?aF ?aO ?aB ?aS ?aL ?_; (case aP => exact k41_mkM _ _ _ (⟨t276⟩ : S41) (Kd.R_mono (HO278.out) (fun k_ hk => ⟨⟨hk.2.1, ⟨hk.2.2.1, hk.2.2.2⟩⟩, hk.1⟩))); (case aB => exact (y20 HB.out GE272.out GE273.out GE274.out GE280.out)); (case aF => exact (fun k_ hk => ⟨Kd.freshB (g := gb273) (o := .cells #[.slice none 0 0] 41 (0, 0)) (y1 BK273.out) k_ hk, Kd.freshB (g := gb274) (o := .cells #[u275000] 41 (0, 0)) (y1 BK274.out) k_ hk, Kd.freshB (g := gb280) (o := .cells #[.slice Ao34 t276.length co34] 41 (0, 0)) (y1 BK280.out) k_ hk⟩)); (case aO => exact (by (with_reducible repeat (first | apply Kd.R_alloc | apply Kd.R_drewN | apply Kd.R_drew)); exact Kd.R_mono HO_275000.out (fun _ hk => ⟨hk.2.1, ⟨hk.2.2.1, hk.2.2.2⟩⟩))); (case aS => exact (below_size (y20 HB.out GE272.out GE273.out GE274.out GE280.out))); (case aL => exact y41 LMc28.out); intro v282 w43 ho hb hg hat; rw [← Ny281.out] at ho; replace BK272 := Aside0.mk (blk_grown (g := gb272) (o := .cells #[.int .i64 a0_0, .slice (some ad275) l0_1.length c0_1] 25 (0, 0)) (y1 BK272.out) hg (Kd.R_ne HO_275000.out BK272.out (by decide))); replace BK273 := Aside0.mk (blk_grown (g := gb273) (o := .cells #[.slice none 0 0] 41 (0, 0)) (y1 BK273.out) hg (Kd.R_away HO_275000.out (fun _ hk => hk.2.1))); replace BK274 := Aside0.mk (blk_grown (g := gb274) (o := .cells #[u275000] 41 (0, 0)) (y1 BK274.out) hg (Kd.R_away HO_275000.out (fun _ hk => hk.2.2.1))); replace BK280 := Aside0.mk (blk_grown (g := gb280) (o := .cells #[.slice Ao34 t276.length co34] 41 (0, 0)) (y1 BK280.out) hg (Kd.R_away HO_275000.out (fun _ hk => hk.2.2.2))); replace HB := Aside0.mk (hb); have HO283 := Aside0.mk (ho); clear HO278 HO_275000; clear ho hb hg hat; obtain ⟨Ao44, co44, eo44⟩ := Kd.R_slice HO283.out; subst eo44; have hcz45_0 := zh BK274; have hfz45_0 := zfr BK274 0))
          go_roundg k2
          case measure => have := HJ2.out; have := HK2.out; omega
          case rel => exact ⟨(wrap64 (x7_2 + 1)), (y281), (.slice Ao44 y281.length co44), y26, H', ⟨(y43 HJ2.out HK2.out)⟩, ⟨(by (with_reducible repeat (first | apply Kd.R_alloc | apply Kd.R_drewN | apply Kd.R_drew)); exact Kd.R_mono (Kd.R_far (p := ⟨gb274, 0, none⟩) (Kd.R_mono HO283.out (fun k_ hk => (⟨hk, hk.2.1⟩ : _ ∧ k_ ≠ gb274))) (fun _ hk => hk.2) (.slice Ao44 y281.length co44)) (fun _ hk => ⟨hk.1.1, hk.1.2.1⟩))⟩, ⟨(y10 NB272_274.out BK272.out)⟩, ⟨(y10 NB273_274.out BK273.out)⟩, ⟨(by (with_reducible repeat (first | refine blk_drewN ?_ _ | refine blk_drew ?_ | refine blk_alloc ?_ _)); refine blk_put (cs := #[u275000]) ?_ 0 _ rfl; (with_reducible repeat (first | refine blk_drewN ?_ _ | refine blk_drew ?_ | refine blk_alloc ?_ _)); exact BK274.out)⟩, ⟨(y20 HB.out GE272.out GE273.out GE274.out GE280.out)⟩⟩
         ·rw [if_neg c28] at H
          exact absurd H (by simp)
        ·replace c27 := Bool.eq_false_iff.mpr c27
         subst c27
         rw [if_neg (show ¬ (false = true) by decide)] at H
         simp only [Option.some.injEq, Prod.mk.injEq] at H
         obtain ⟨rfl, rfl⟩ := H
         have hnb46 := NB272_273.out
         have hnc46 := NB273_272.out
         have hnb47 := NB272_274.out
         have hnc47 := NB274_272.out
         have hcz48_0 := zh BK272
         have hcz48_1 := zh1 BK272
         have hfz48_0 := zfr BK272 0
         have hfz48_1 := zfr BK272 1
         have p275 : 0 ≤ (x7_2 : Int) := of_decide_eq_true y19
         have q275 : x7_2 < (l0_1.length : Int) := of_decide_eq_true y19
         obtain ⟨ad275, A275_1, c275_1, e275, hx275_0, hx275_1, hl275_1, hi275_1⟩ := at_T25 HR0_1.out x7_2 p275 q275
         cases e275
         replace hx275_0 := (HB.out.cell (World.block_lt_of_cell? w _ hx275_0)).trans hx275_0
         replace hx275_1 := (HB.out.cell (World.block_lt_of_cell? w _ hx275_1)).trans hx275_1
         have HR275_1 := Aside0.mk hi275_1
         have HC275_1 := Aside0.mk hl275_1
         clear hi275_1 hl275_1
         replace p275 := eq_true p275
         replace q275 := eq_true q275
         go_wp2_with (first | ((with_reducible refine gate_callee (f := 26) rfl ?_); refine goesL_ (some 41) rfl rfl Tryd.func26 (by kernel_rfl) rfl #[.agg #[.int .i64 ((rd_T25 l0_1 x7_2).f0), .slice A275_1 ((rd_T25 l0_1 x7_2).f1).length c275_1], .int .i64 (wrap64 (a1 - 1))] rfl y4 ?_; (with_reducible refine (ih k2 (y43 HJ2.out HK2.out) ((rd_T25 l0_1 x7_2).f0) _ _ ((rd_T25 l0_1 x7_2).f1) (wrap64 (a1 - 1)) t276 false _ ?side1 ?side2 A26.out).mono ?_); (case side1 => exact y9 HR275_1.out HB.out); (case side2 => exact HC275_1.out); rintro e w49 ⟨v277, rfl, ho0, hb⟩; refine ⟨_, rfl, ?_⟩; have HO278 := Aside0.mk (Kd.R_lower (Kd.R_newB (Kd.R_newB (Kd.R_new' ho0 (Kd.R_lt (y15 HO_275000.out))) (g := gb273) (o := .cells #[.slice none 0 0] 41 (0, 0)) (y1 BK273.out)) (g := gb274) (o := .cells #[u275000] 41 (0, 0)) (y1 BK274.out)) (below_size (y6 HB.out GE272.out GE273.out GE274.out))); replace HO_275000 := Aside0.mk (Kd.R_elder' (y15 HO_275000.out) (Kd.R_base ho0) hb); replace BK272 := zbb BK272 hb; replace BK273 := zbb BK273 hb; replace BK274 := zbb BK274 hb; replace HB := Aside0.mk (below_step (y6 HB.out GE272.out GE273.out GE274.out) hb); (try clear hb); (try clear hb2); (try clear hk); (try clear hi); (try clear ho0)) | ((with_reducible refine gate_dst (N := 8) rfl ?_); (try (refine gate_guard (by rfl) ?_; dsimp only)); refine zbx 8 #[.slice none 0 0] 41 ?_; intro gb280 hg w50 hbox hb; replace HO_275000 := Aside0.mk (Kd.R_below (Kd.R_elderB (y15 HO_275000.out) gb280 (Nat.le_of_eq hg.symm)) hb); replace HO278 := Aside0.mk (Kd.R_below (Kd.R_elderB (y15 HO278.out) gb280 (Nat.le_of_eq hg.symm)) hb); have BK280 := Aside0.mk hbox; have GW280 := Aside0.mk ((y25 hg HB.out GE272.out GE273.out GE274.out : w.heap.size ≤ gb280)); have GE280 := Aside0.mk ((y25 hg HB.out GE272.out GE273.out GE274.out : w.heap.size ≤ gb280)); replace HB := Aside0.mk (below_step (y6 HB.out GE272.out GE273.out GE274.out) hb); have NB272_280 := zltn hg BK272; have NB280_272 := zgtn hg BK272; replace BK272 := zbb BK272 hb; have NB273_280 := zltn hg BK273; have NB280_273 := zgtn hg BK273; replace BK273 := zbb BK273 hb; have NB274_280 := zltn hg BK274; have NB280_274 := zgtn hg BK274; replace BK274 := zbb BK274 hb; clear hb hbox hg; obtain ⟨Ao51, co51, eo51⟩ := Kd.R_slice HO278.out; subst eo51; have hnb52 := NB280_272.out; have hnc52 := NB272_280.out; have hnb53 := NB280_273.out; have hnc53 := NB273_280.out; have hnb54 := NB280_274.out; have hnc54 := NB274_280.out; have hcz55_0 := zh BK280; have hfz55_0 := zfr BK280 0; have hnb56 := NB274_273.out; have hnc56 := NB273_274.out; have hcz57_0 := zh BK274; have hfz57_0 := zfr BK274 0; obtain ⟨Ao58, co58, eo58⟩ := Kd.R_slice HO_275000.out; subst eo58; have hcz59_0 := zh BK273; have hfz59_0 := zfr BK273 0))
         refine bodyPost_ret (results_ct rfl _ _ gb273 41 #[.slice Ao58 x275000_2.length co58] (0, 0) _ rfl (by (with_reducible repeat (first | refine blk_drewN ?_ _ | refine blk_drew ?_ | refine blk_alloc ?_ _)); refine blk_put (cs := #[.slice none 0 0]) ?_ 0 _ rfl; (with_reducible repeat (first | refine blk_drewN ?_ _ | refine blk_drew ?_ | refine blk_alloc ?_ _)); refine blk_far ?_ NB273_280.out _; (with_reducible repeat (first | refine blk_drewN ?_ _ | refine blk_drew ?_ | refine blk_alloc ?_ _)); exact BK273.out) Tryd.underlying41 rfl (by kernel_rfl)) rfl ?_
         exact ⟨_, y7, (by (with_reducible repeat (first | apply Kd.R_alloc | apply Kd.R_drewN | apply Kd.R_drew)); exact Kd.R_mono (Kd.R_far (p := ⟨gb273, 0, none⟩) (Kd.R_far (p := ⟨gb280, 0, none⟩) (Kd.R_mono (Kd.R_mono HO_275000.out (fun k_ hk => (⟨hk, hk.2⟩ : _ ∧ k_ ≠ gb280))) (fun k_ hk => (⟨hk, hk.1.1.1.1⟩ : _ ∧ k_ ≠ gb273))) (fun _ hk => hk.1.2) (.slice Ao51 t276.length co51)) (fun _ hk => hk.2) (.slice Ao58 x275000_2.length co58)) (fun _ hk => trivial)), (y20 HB.out GE272.out GE273.out GE274.out GE280.out)⟩
       ·rw [if_neg c25] at H
        exact absurd H (by simp)
      ·rw [if_neg c24] at H
       have c24b0 : decide (x7_2 < (l0_1.length : Int)) = false := decide_eq_false c24
       clear c24
       simp only [Option.some.injEq, Prod.mk.injEq] at H
       obtain ⟨rfl, rfl⟩ := H
       have hnb60 := NB272_273.out
       have hnc60 := NB273_272.out
       have hnb61 := NB272_274.out
       have hnc61 := NB274_272.out
       have hcz62_0 := zh BK272
       have hcz62_1 := zh1 BK272
       have hfz62_0 := zfr BK272 0
       have hfz62_1 := zfr BK272 1
       have hnb63 := NB274_273.out
       have hnc63 := NB273_274.out
       have hcz64_0 := zh BK274
       have hfz64_0 := zfr BK274 0
       obtain ⟨Ao65, co65, eo65⟩ := Kd.R_slice HO_275000.out
       subst eo65
       have hcz66_0 := zh BK273
       have hfz66_0 := zfr BK273 0
       go_wp2
       refine bodyPost_ret (results_ct rfl _ _ gb273 41 #[.slice Ao65 x275000_2.length co65] (0, 0) _ rfl (by (with_reducible repeat (first | refine blk_drewN ?_ _ | refine blk_drew ?_ | refine blk_alloc ?_ _)); apply blk_put (i := 0); (case h => exact y1 BK273.out); (case e => rfl)) Tryd.underlying41 rfl (by kernel_rfl)) rfl ?_
       exact ⟨_, y7, (by (with_reducible repeat (first | apply Kd.R_alloc | apply Kd.R_drewN | apply Kd.R_drew)); exact Kd.R_mono (Kd.R_far (p := ⟨gb273, 0, none⟩) (Kd.R_mono HO_275000.out (fun k_ hk => (⟨hk, hk.1⟩ : _ ∧ k_ ≠ gb273))) (fun _ hk => hk.2) (.slice Ao65 x275000_2.length co65)) (fun _ hk => trivial)), (y6 HB.out GE272.out GE273.out GE274.out)⟩
end Go.Proofs.YtihfbpmblppbgaaDoor.PA
end
section
namespace Go.Proofs.YtihfbpmblppbgaaDoor.PA
open Go.RowKit Go.Proofs.YtihfbpmblppbgaaDoorW.PrintWords Go.Proofs.YtihfbpmblppbgaaDoorW.PrintLast Go.Proofs.YtihfbpmblppbgaaDoorW.PrintMore
attribute [local go_sem] max2_int min2_int max_two min_two max_three min_three max_four min_four
set_option linter.unusedVariables false
set_option linter.unusedSimpArgs false
mutual
def spec_l1Deep.j0 : Nat → Int → Bool → List (S41) → Option (Bool)
 | 0, _, _, _ => none
 | k + 1, x1, x19, x285000 => if x19 = true then (some false) else (spec_l1Deep.l0 k x1 0 x285000)
def spec_l1Deep.l0 : Nat → Int → Int → List (S41) → Option (Bool)
 | 0, _, _, _ => none
 | k + 1, x1, x5, x285000 => if x5 < (x285000.length : Int) then (if 0 ≤ x5 then ((spec_l1Deep.f k ((rd_T41 x285000 x5).f0) (wrap64 (x1 - 1))).bind fun t286 => (if t286 = true then (spec_l1Deep.l0 k x1 (wrap64 (x5 + 1)) x285000) else (some false))) else (none)) else (some true)
def spec_l1Deep.f : Nat → List (S41) → Int → Option (Bool)
 | 0, _, _ => none
 | k + 1, l0_0, a1 => if a1 < 1 then (spec_l1Deep.j0 k a1 true l0_0) else (if (l0_0.length : Int) = 0 then (spec_l1Deep.j0 k a1 false l0_0) else (spec_l1Deep.j0 k a1 ((l0_0.length : Int) != 2) l0_0))
end
theorem spec_l1Deep.mono_l : ∀ k, (∀ y0 y1, LeO (spec_l1Deep.f k y0 y1) (spec_l1Deep.f (k + 1) y0 y1)) ∧ (∀ y0 y1 y2, LeO (spec_l1Deep.j0 k y0 y1 y2) (spec_l1Deep.j0 (k + 1) y0 y1 y2)) ∧ (∀ y0 y1 y2, LeO (spec_l1Deep.l0 k y0 y1 y2) (spec_l1Deep.l0 (k + 1) y0 y1 y2))
 | 0 => ⟨fun _ _ r h => by simp [spec_l1Deep.f] at h, fun _ _ _ r h => by simp [spec_l1Deep.j0] at h, fun _ _ _ r h => by simp [spec_l1Deep.l0] at h⟩
 | k + 1 => by
  obtain ⟨ih0, ih1, ih2⟩ := spec_l1Deep.mono_l k
  refine ⟨?_, ?_, ?_⟩
  ·intro y0 y1
   unfold spec_l1Deep.f
   repeat' first
   | (with_reducible exact ih0 _ _)
   | (with_reducible exact ih1 _ _ _)
   | (with_reducible exact ih2 _ _ _)
   | (with_reducible exact LeO.refl _)
   | (with_reducible exact LeO.none _)
   | (with_reducible refine LeO.ite ?_ ?_)
   | (with_reducible refine LeO.bind ?_ (fun _ => ?_))
   | exact ih0 _ _
   | exact ih1 _ _ _
   | exact ih2 _ _ _
   | exact LeO.none _
   | refine LeO.ite ?_ ?_
   | refine LeO.bind ?_ (fun _ => ?_)
  ·intro y0 y1 y2
   unfold spec_l1Deep.j0
   repeat' first
   | (with_reducible exact ih0 _ _)
   | (with_reducible exact ih1 _ _ _)
   | (with_reducible exact ih2 _ _ _)
   | (with_reducible exact LeO.refl _)
   | (with_reducible exact LeO.none _)
   | (with_reducible refine LeO.ite ?_ ?_)
   | (with_reducible refine LeO.bind ?_ (fun _ => ?_))
   | exact ih0 _ _
   | exact ih1 _ _ _
   | exact ih2 _ _ _
   | exact LeO.none _
   | refine LeO.ite ?_ ?_
   | refine LeO.bind ?_ (fun _ => ?_)
  ·intro y0 y1 y2
   unfold spec_l1Deep.l0
   repeat' first
   | (with_reducible exact ih0 _ _)
   | (with_reducible exact ih1 _ _ _)
   | (with_reducible exact ih2 _ _ _)
   | (with_reducible exact LeO.refl _)
   | (with_reducible exact LeO.none _)
   | (with_reducible refine LeO.ite ?_ ?_)
   | (with_reducible refine LeO.bind ?_ (fun _ => ?_))
   | exact ih0 _ _
   | exact ih1 _ _ _
   | exact ih2 _ _ _
   | exact LeO.none _
   | refine LeO.ite ?_ ?_
   | refine LeO.bind ?_ (fun _ => ?_)
theorem spec_l1Deep.mono : ∀ a0 a1 k, LeO (spec_l1Deep.f k a0 a1) (spec_l1Deep.f (k + 1) a0 a1) := by
 intro a0 a1 k
 obtain ⟨ih0, ih1, ih2⟩ := spec_l1Deep.mono_l k
 exact ih0 a0 a1
set_option maxHeartbeats 8000000 in
set_option maxRecDepth 100000 in
theorem spec_l1Deep.calls (k : Nat) : ∀ (A0_0 : Option Addr) (c0_0 : Nat) (l0_0 : List (S41)) (a1 : Int) (r : Bool) (w : World) (hr0_0 : Kd.C k41 w A0_0 l0_0.length l0_0) (hc0_0 : l0_0.length ≤ c0_0) (h : spec_l1Deep.f k l0_0 a1 = some r),
  Calls Tryd.prog 33 #[.agg #[.slice A0_0 l0_0.length c0_0], .int .i64 a1] w fun e w' => e = .returned (.bool r) ∧ Below w.heap.size w w' := by
 induction k using Nat.strongRecOn with
 | _ k ih =>
 intro A0_0 c0_0 l0_0 a1 r w hr0_0 hc0_0 h
 cases k with
 | zero => exact absurd h (by simp [spec_l1Deep.f])
 | succ k =>
 simp only [spec_l1Deep.f] at h
 have hu41 := Tryd.underlying41
 have HR0_0 := Aside0.mk hr0_0
 have HC0_0 := Aside0.mk hc0_0
 clear hr0_0 hc0_0
 have HB := Aside0.mk (Below.refl w.heap.size w)
 have H : (if a1 < 1 then (spec_l1Deep.j0 k a1 true l0_0) else (if (l0_0.length : Int) = 0 then (spec_l1Deep.j0 k a1 false l0_0) else (spec_l1Deep.j0 k a1 ((l0_0.length : Int) != 2) l0_0))) = some r := h
 clear h
 have HC3 := Aside0.mk H
 clear H
 go_enter Tryd.func33, Tryd.ntmps33
 go_upto_region 1 with (first | ((with_reducible refine gate_dst (N := 2) rfl ?_); (try (refine gate_guard (by rfl) ?_; dsimp only)); refine zbx 2 #[.slice A0_0 l0_0.length c0_0] 41 ?_; intro gb284 hg w4 hbox hb; have BK284 := Aside0.mk hbox; have GW284 := Aside0.mk ((y5 hg HB.out : w.heap.size ≤ gb284)); have GE284 := Aside0.mk ((y5 hg HB.out : w.heap.size ≤ gb284)); replace HB := Aside0.mk (below_step (y2 HB.out) hb); clear hb hbox hg))
 (try simp only [Act.put, List.setIfInBounds_toArray, List.set_cons_zero, List.set_cons_succ])
 go_cut [19] (fun v19 wc => ∃ (kq : Nat) (x19_2 : Bool), v19 = .bool x19_2 ∧ Aside0 (spec_l1Deep.j0 kq a1 x19_2 l0_0 = some r) ∧ Aside0 (kq ≤ k) ∧ Aside0 (wc.heap[gb284]? = some (.cells #[(.slice A0_0 l0_0.length c0_0)] 41 (0, 0))) ∧ Aside0 (Below w.heap.size w wc))
 case first =>
  have H := HC3.out
  clear HC3
  by_cases c5 : a1 < 1
  ·rw [if_pos c5] at H
   have c5b0 : decide (a1 < 1) = true := decide_eq_true c5
   clear c5
   (first | rw [c5b0] | (simp only [i64_w, i32_w]; rw [c5b0]) | skip)
   have H' := Aside0.mk H
   clear H
   go_wp2
   go_meet
   case rel => exact ⟨_, (true), y26, H', ⟨y36⟩, ⟨(y1 BK284.out)⟩, ⟨(y0 HB.out GE284.out)⟩⟩
  ·rw [if_neg c5] at H
   have c5b0 : decide (a1 < 1) = false := decide_eq_false c5
   clear c5
   (first | rw [c5b0] | (simp only [i64_w, i32_w]; rw [c5b0]) | skip)
   by_cases c6 : (l0_0.length : Int) = 0
   ·rw [if_pos c6] at H
    have c6b0 : ((l0_0.length : Int) == 0) = true := beq_iff_eq.mpr c6
    have c6b1 : ((l0_0.length : Int) != 0) = false := bne_eq_false_iff_eq.mpr c6
    clear c6
    have H' := Aside0.mk H
    clear H
    have hcz7_0 := zh BK284
    have hfz7_0 := zfr BK284 0
    go_wp2
    go_meet
    case rel => exact ⟨_, (false), y26, H', ⟨y36⟩, ⟨(y1 BK284.out)⟩, ⟨(y0 HB.out GE284.out)⟩⟩
   ·rw [if_neg c6] at H
    have c6b0 : ((l0_0.length : Int) == 0) = false := beq_eq_false_iff_ne.mpr c6
    have c6b1 : ((l0_0.length : Int) != 0) = true := bne_iff_ne.mpr c6
    have c6b2 : ¬ (l0_0 = []) := fun h_ => c6 (by rw [h_]; rfl)
    have H' := Aside0.mk H
    clear H
    have hcz8_0 := zh BK284
    have hfz8_0 := zfr BK284 0
    go_wp2
    go_meet
    case rel => exact ⟨_, (((l0_0.length : Int) != 2)), y26, H', ⟨y36⟩, ⟨(y1 BK284.out)⟩, ⟨(y0 HB.out GE284.out)⟩⟩
 case rest =>
  clear HC3
  try clear p2
  try clear c3
  try clear c5
  try clear c5b0
  try clear c6
  try clear c6b0
  try clear c6b1
  try clear c6b2
  try clear hcz7_0
  try clear hcz8_0
  try clear hfz7_0
  try clear hfz8_0
  obtain ⟨kq, x19_2, rfl, HA, HJ2, BK284, HB⟩ := hcut
  cases kq with
  | zero => exact absurd HA.out (by simp [spec_l1Deep.j0])
  | succ kj2 =>
   have H := HA.out
   clear HA
   simp only [spec_l1Deep.j0] at H
   by_cases c9 : x19_2 = true
   ·subst c9
    rw [if_pos rfl] at H
    obtain rfl := Option.some.inj H
    go_wp2
    go_ret
    exact ⟨y7, (y0 HB.out GE284.out)⟩
   ·replace c9 := Bool.eq_false_iff.mpr c9
    subst c9
    rw [if_neg (show ¬ (false = true) by decide)] at H
    have H' := Aside0.mk H
    clear H
    go_wp2
    go_loopg [5] kj2 (fun kq v5 w' => ∃ (x5_2 : Int), v5 = .int .i64 x5_2 ∧ Aside0 (spec_l1Deep.l0 kq a1 x5_2 l0_0 = some r) ∧ Aside0 (kq ≤ kj2) ∧ Aside0 (w'.heap[gb284]? = some (.cells #[(.slice A0_0 l0_0.length c0_0)] 41 (0, 0))) ∧ Aside0 (Below w.heap.size w w'))
    case atStart => exact ⟨(0), y26, H', ⟨Nat.le_refl _⟩, ⟨(y1 BK284.out)⟩, ⟨(y0 HB.out GE284.out)⟩⟩
    case round =>
     clear H'
     try clear p2
     try clear c3
     try clear c5
     try clear c5b0
     try clear c6
     try clear c6b0
     try clear c6b1
     try clear c6b2
     try clear c9
     try clear hcz7_0
     try clear hcz8_0
     try clear hfz7_0
     try clear hfz8_0
     try clear p2
     (try clear BK284)
     obtain ⟨x5_2, rfl, HA, HK2, BK284, HB⟩ := hrel
     cases gk with
     | zero => exact absurd HA.out (by simp [spec_l1Deep.l0])
     | succ k2 =>
      have H := HA.out
      clear HA
      simp only [spec_l1Deep.l0] at H
      by_cases c10 : x5_2 < (l0_0.length : Int)
      ·rw [if_pos c10] at H
       have c10b0 : decide (x5_2 < (l0_0.length : Int)) = true := decide_eq_true c10
       clear c10
       by_cases c11 : 0 ≤ x5_2
       ·rw [if_pos c11] at H
        have c11b0 : decide (0 ≤ x5_2) = true := decide_eq_true c11
        clear c11
        obtain ⟨t286, A120, H⟩ := ob H
        have A12 := Aside0.mk A120
        clear A120
        have HZ13 := Aside0.mk H
        clear H
        have hcz14_0 := zh BK284
        have hfz14_0 := zfr BK284 0
        have p285 : 0 ≤ (x5_2 : Int) := of_decide_eq_true y19
        have q285 : x5_2 < (l0_0.length : Int) := of_decide_eq_true y19
        obtain ⟨ad285, A285_0, c285_0, e285, hx285_0, hl285_0, hi285_0⟩ := at_T41 HR0_0.out x5_2 p285 q285
        cases e285
        replace hx285_0 := (HB.out.cell (World.block_lt_of_cell? w _ hx285_0)).trans hx285_0
        have HR285_0 := Aside0.mk hi285_0
        have HC285_0 := Aside0.mk hl285_0
        clear hi285_0 hl285_0
        replace p285 := eq_true p285
        replace q285 := eq_true q285
        go_upto_if 35 with (first | ((with_reducible refine gate_callee (f := 33) rfl ?_); refine goesL_ (some 34) rfl rfl Tryd.func33 (by kernel_rfl) rfl #[.agg #[.slice A285_0 ((rd_T41 l0_0 x5_2).f0).length c285_0], .int .i64 (wrap64 (a1 - 1))] rfl y4 ?_; (with_reducible refine (ih k2 (y43 HJ2.out HK2.out) _ _ ((rd_T41 l0_0 x5_2).f0) (wrap64 (a1 - 1)) t286 _ ?side1 ?side2 A12.out).mono ?_); (case side1 => exact y9 HR285_0.out HB.out); (case side2 => exact HC285_0.out); rintro e w15 ⟨rfl, hb⟩; refine ⟨_, rfl, ?_⟩; replace BK284 := zbb BK284 hb; replace HB := Aside0.mk (below_step (y0 HB.out GE284.out) hb); (try clear hb); (try clear hb2); (try clear hk); (try clear hi)))
        (try simp only [Act.put, List.setIfInBounds_toArray, List.set_cons_zero, List.set_cons_succ])
        have H := HZ13.out
        clear HZ13
        by_cases c16 : t286 = true
        ·subst c16
         rw [if_pos rfl] at H
         have H' := Aside0.mk H
         clear H
         go_wp2
         go_roundg k2
         case measure => have := HJ2.out; have := HK2.out; omega
         case rel => exact ⟨(wrap64 (x5_2 + 1)), y26, H', ⟨(y43 HJ2.out HK2.out)⟩, ⟨(y1 BK284.out)⟩, ⟨(y0 HB.out GE284.out)⟩⟩
        ·replace c16 := Bool.eq_false_iff.mpr c16
         subst c16
         rw [if_neg (show ¬ (false = true) by decide)] at H
         obtain rfl := Option.some.inj H
         go_wp2
         go_ret
         exact ⟨y7, (y0 HB.out GE284.out)⟩
       ·rw [if_neg c11] at H
        exact absurd H (by simp)
      ·rw [if_neg c10] at H
       have c10b0 : decide (x5_2 < (l0_0.length : Int)) = false := decide_eq_false c10
       clear c10
       obtain rfl := Option.some.inj H
       have hcz17_0 := zh BK284
       have hfz17_0 := zfr BK284 0
       go_wp2
       go_ret
       exact ⟨y7, (y0 HB.out GE284.out)⟩
end Go.Proofs.YtihfbpmblppbgaaDoor.PA
end
section
namespace Go.Proofs.YtihfbpmblppbgaaDoor.PA
open Go.RowKit Go.Proofs.YtihfbpmblppbgaaDoorW.PrintWords Go.Proofs.YtihfbpmblppbgaaDoorW.PrintLast Go.Proofs.YtihfbpmblppbgaaDoorW.PrintMore
attribute [local go_sem] max2_int min2_int max_two min_two max_three min_three max_four min_four
set_option linter.unusedVariables false
set_option linter.unusedSimpArgs false
def spec_TypeOk.f (k : Nat) (l0_0 : List (S41)) : Option (Bool) := (spec_l1Deep.f k l0_0 4).bind fun t288 => (some t288)
theorem spec_TypeOk.mono : ∀ a0 k, LeO (spec_TypeOk.f k a0) (spec_TypeOk.f (k + 1) a0) := by
 intro a0 k
 unfold spec_TypeOk.f
 repeat' first
   | (with_reducible exact spec_l1Deep.mono _ _ _)
   | (with_reducible exact LeO.refl _)
   | (with_reducible exact LeO.none _)
   | (with_reducible refine LeO.ite ?_ ?_)
   | (with_reducible refine LeO.bind ?_ (fun _ => ?_))
   | exact spec_l1Deep.mono _ _ _
   | exact LeO.none _
   | refine LeO.ite ?_ ?_
   | refine LeO.bind ?_ (fun _ => ?_)
set_option maxHeartbeats 8000000 in
set_option maxRecDepth 100000 in
theorem spec_TypeOk.calls (k : Nat) (A0_0 : Option Addr) (c0_0 : Nat) (l0_0 : List (S41)) (r : Bool) (w : World) (hr0_0 : Kd.C k41 w A0_0 l0_0.length l0_0) (hc0_0 : l0_0.length ≤ c0_0) (h : spec_TypeOk.f k l0_0 = some r) :
  Calls Tryd.prog 30 #[.agg #[.slice A0_0 l0_0.length c0_0]] w fun e w' => e = .returned (.bool r) ∧ Below w.heap.size w w' := by
 have hu41 := Tryd.underlying41
 have HR0_0 := Aside0.mk hr0_0
 have HC0_0 := Aside0.mk hc0_0
 clear hr0_0 hc0_0
 have HB := Aside0.mk (Below.refl w.heap.size w)
 have H : ((spec_l1Deep.f k l0_0 4).bind fun t288 => (some t288)) = some r := h
 clear h
 obtain ⟨t288, A20, H⟩ := ob H
 have A2 := Aside0.mk A20
 clear A20
 obtain rfl := Option.some.inj H
 go_enter Tryd.func30, Tryd.ntmps30
 go_wp2_with (first | ((with_reducible refine gate_dst (N := 1) rfl ?_); refine zbx 1 #[.slice A0_0 l0_0.length c0_0] 41 ?_; intro gb287 hg w3 hbox hb; have BK287 := Aside0.mk hbox; have GW287 := Aside0.mk ((y5 hg HB.out : w.heap.size ≤ gb287)); have GE287 := Aside0.mk ((y5 hg HB.out : w.heap.size ≤ gb287)); replace HB := Aside0.mk (below_step (y2 HB.out) hb); clear hb hbox hg; have hcz4_0 := zh BK287; have hfz4_0 := zfr BK287 0) | ((with_reducible refine gate_callee (f := 33) rfl ?_); refine goesL_ (some 4) rfl rfl Tryd.func33 (by kernel_rfl) rfl #[.agg #[.slice A0_0 l0_0.length c0_0], .int .i64 4] rfl y4 ?_; (with_reducible refine (spec_l1Deep.calls k _ _ l0_0 4 t288 _ ?side1 ?side2 A2.out).mono ?_); (case side1 => exact y9 HR0_0.out HB.out); (case side2 => exact HC0_0.out); rintro e w5 ⟨rfl, hb⟩; refine ⟨_, rfl, ?_⟩; replace BK287 := zbb BK287 hb; replace HB := Aside0.mk (below_step (y0 HB.out GE287.out) hb); (try clear hb); (try clear hb2); (try clear hk); (try clear hi)))
 go_ret
 exact ⟨y7, (y0 HB.out GE287.out)⟩
end Go.Proofs.YtihfbpmblppbgaaDoor.PA
end
section
namespace Go.Proofs.YtihfbpmblppbgaaDoor.PA
open Go.RowKit Go.Proofs.YtihfbpmblppbgaaDoorW.PrintWords Go.Proofs.YtihfbpmblppbgaaDoorW.PrintLast Go.Proofs.YtihfbpmblppbgaaDoorW.PrintMore
attribute [local go_sem] max2_int min2_int max_two min_two max_three min_three max_four min_four
set_option linter.unusedVariables false
set_option linter.unusedSimpArgs false
def spec_l6In.f (a0 : Int) (a1 : Int) (a2 : Int) : Option (Bool) := if a0 ≥ a1 then (some (decide (a0 ≤ a2))) else (some false)
set_option maxHeartbeats 8000000 in
set_option maxRecDepth 100000 in
theorem spec_l6In.calls (a0 : Int) (a1 : Int) (a2 : Int) (r : Bool) (w : World) (h : spec_l6In.f a0 a1 a2 = some r) :
  Calls Tryd.prog 34 #[.int .i64 a0, .int .i64 a1, .int .i64 a2] w fun e w' => e = .returned (.bool r) ∧ Drawn0 w w' := by
 have H : (if a0 ≥ a1 then (some (decide (a0 ≤ a2))) else (some false)) = some r := h
 clear h
 by_cases c4 : a0 ≥ a1
 ·rw [if_pos c4] at H
  have c4b0 : decide (a1 ≤ a0) = true := decide_eq_true c4
  clear c4
  obtain rfl := Option.some.inj H
  go_enter Tryd.func34, Tryd.ntmps34
  go_wp2
  go_ret
  exact ⟨y26, y35⟩
 ·rw [if_neg c4] at H
  have c4b0 : decide (a1 ≤ a0) = false := decide_eq_false c4
  clear c4
  obtain rfl := Option.some.inj H
  go_enter Tryd.func34, Tryd.ntmps34
  go_wp2
  go_ret
  exact ⟨y26, y35⟩
end Go.Proofs.YtihfbpmblppbgaaDoor.PA
end
section
namespace Go.Proofs.YtihfbpmblppbgaaDoor.PA
open Go.RowKit Go.Proofs.YtihfbpmblppbgaaDoorW.PrintWords Go.Proofs.YtihfbpmblppbgaaDoorW.PrintLast Go.Proofs.YtihfbpmblppbgaaDoorW.PrintMore
attribute [local go_sem] max2_int min2_int max_two min_two max_three min_three max_four min_four
set_option linter.unusedVariables false
set_option linter.unusedSimpArgs false
mutual
def spec_l1Val.j0 : Nat → Bool → List (S41) → Int → List (S25) → Option (Bool)
 | 0, _, _, _, _ => none
 | k + 1, x29, x290000, x291000, x291001 => if x29 = true then (some false) else (spec_l1Val.l0 k 0 x290000 x291000 x291001)
def spec_l1Val.l0 : Nat → Int → List (S41) → Int → List (S25) → Option (Bool)
 | 0, _, _, _, _ => none
 | k + 1, x5, x290000, x291000, x291001 => if x5 < (x291001.length : Int) then (if 0 ≤ x5 then (if x5 < (x290000.length : Int) then ((spec_l1Val.f k ((rd_T41 x290000 x5).f0) ((rd_T25 x291001 x5).f0) ((rd_T25 x291001 x5).f1)).bind fun t295 => (if t295 = true then (spec_l1Val.l0 k (wrap64 (x5 + 1)) x290000 x291000 x291001) else (some false))) else (none)) else (none)) else (some true)
def spec_l1Val.f : Nat → List (S41) → Int → List (S25) → Option (Bool)
 | 0, _, _, _ => none
 | k + 1, l0_0, a1_0, l1_1 => if (l1_1.length : Int) = (l0_0.length : Int) then (if (l1_1.length : Int) > 0 then (if a1_0 = 0 then ((spec_l6In.f a1_0 0 9999).bind fun t291 => (spec_l1Val.j0 k (!t291) l0_0 a1_0 l1_1)) else (spec_l1Val.j0 k true l0_0 a1_0 l1_1)) else ((spec_l6In.f a1_0 0 9999).bind fun t292 => (spec_l1Val.j0 k (!t292) l0_0 a1_0 l1_1))) else (spec_l1Val.j0 k true l0_0 a1_0 l1_1)
end
theorem spec_l1Val.mono_l : ∀ k, (∀ y0 y1 y2, LeO (spec_l1Val.f k y0 y1 y2) (spec_l1Val.f (k + 1) y0 y1 y2)) ∧ (∀ y0 y1 y2 y3, LeO (spec_l1Val.j0 k y0 y1 y2 y3) (spec_l1Val.j0 (k + 1) y0 y1 y2 y3)) ∧ (∀ y0 y1 y2 y3, LeO (spec_l1Val.l0 k y0 y1 y2 y3) (spec_l1Val.l0 (k + 1) y0 y1 y2 y3))
 | 0 => ⟨fun _ _ _ r h => by simp [spec_l1Val.f] at h, fun _ _ _ _ r h => by simp [spec_l1Val.j0] at h, fun _ _ _ _ r h => by simp [spec_l1Val.l0] at h⟩
 | k + 1 => by
  obtain ⟨ih0, ih1, ih2⟩ := spec_l1Val.mono_l k
  refine ⟨?_, ?_, ?_⟩
  ·intro y0 y1 y2
   unfold spec_l1Val.f
   repeat' first
   | (with_reducible exact ih0 _ _ _)
   | (with_reducible exact ih1 _ _ _ _)
   | (with_reducible exact ih2 _ _ _ _)
   | (with_reducible exact LeO.refl _)
   | (with_reducible exact LeO.none _)
   | (with_reducible refine LeO.ite ?_ ?_)
   | (with_reducible refine LeO.bind ?_ (fun _ => ?_))
   | exact ih0 _ _ _
   | exact ih1 _ _ _ _
   | exact ih2 _ _ _ _
   | exact LeO.none _
   | refine LeO.ite ?_ ?_
   | refine LeO.bind ?_ (fun _ => ?_)
  ·intro y0 y1 y2 y3
   unfold spec_l1Val.j0
   repeat' first
   | (with_reducible exact ih0 _ _ _)
   | (with_reducible exact ih1 _ _ _ _)
   | (with_reducible exact ih2 _ _ _ _)
   | (with_reducible exact LeO.refl _)
   | (with_reducible exact LeO.none _)
   | (with_reducible refine LeO.ite ?_ ?_)
   | (with_reducible refine LeO.bind ?_ (fun _ => ?_))
   | exact ih0 _ _ _
   | exact ih1 _ _ _ _
   | exact ih2 _ _ _ _
   | exact LeO.none _
   | refine LeO.ite ?_ ?_
   | refine LeO.bind ?_ (fun _ => ?_)
  ·intro y0 y1 y2 y3
   unfold spec_l1Val.l0
   repeat' first
   | (with_reducible exact ih0 _ _ _)
   | (with_reducible exact ih1 _ _ _ _)
   | (with_reducible exact ih2 _ _ _ _)
   | (with_reducible exact LeO.refl _)
   | (with_reducible exact LeO.none _)
   | (with_reducible refine LeO.ite ?_ ?_)
   | (with_reducible refine LeO.bind ?_ (fun _ => ?_))
   | exact ih0 _ _ _
   | exact ih1 _ _ _ _
   | exact ih2 _ _ _ _
   | exact LeO.none _
   | refine LeO.ite ?_ ?_
   | refine LeO.bind ?_ (fun _ => ?_)
theorem spec_l1Val.mono : ∀ a0 a1 a2 k, LeO (spec_l1Val.f k a0 a1 a2) (spec_l1Val.f (k + 1) a0 a1 a2) := by
 intro a0 a1 a2 k
 obtain ⟨ih0, ih1, ih2⟩ := spec_l1Val.mono_l k
 exact ih0 a0 a1 a2
def spec_l1Val.T6 : Bool × List (List Nat × List Nat) := (true, [([], []), ([0], [0]), ([], []), ([1, 2], [1, 2]), ([3], [3]), ([], []), ([5], [5]), ([], []), ([6, 7], [6, 7]), ([8], [8]), ([4, 9], [4, 9]), ([10], [10])])
def spec_l1Val.B6 : List Nat := [0, 1, 0, 7, 15, 0, 32, 0, 224, 480, 1023, 2047]
theorem spec_l1Val.tab6 : rtab .any (opsOf Tryd.f31 6) = spec_l1Val.T6 := by kernel_rfl
theorem spec_l1Val.bits6 : waitsOk spec_l1Val.T6.2 spec_l1Val.B6 = true := by kernel_rfl
set_option maxHeartbeats 8000000 in
set_option maxRecDepth 100000 in
theorem spec_l1Val.calls (k : Nat) : ∀ (A0_0 : Option Addr) (c0_0 : Nat) (l0_0 : List (S41)) (a1_0 : Int) (A1_1 : Option Addr) (c1_1 : Nat) (l1_1 : List (S25)) (r : Bool) (w : World) (hr0_0 : Kd.C k41 w A0_0 l0_0.length l0_0) (hc0_0 : l0_0.length ≤ c0_0) (hr1_1 : Kd.C k25 w A1_1 l1_1.length l1_1) (hc1_1 : l1_1.length ≤ c1_1) (h : spec_l1Val.f k l0_0 a1_0 l1_1 = some r),
  Calls Tryd.prog 31 #[.agg #[.slice A0_0 l0_0.length c0_0], .agg #[.int .i64 a1_0, .slice A1_1 l1_1.length c1_1]] w fun e w' => e = .returned (.bool r) ∧ Below w.heap.size w w' := by
 induction k using Nat.strongRecOn with
 | _ k ih =>
 intro A0_0 c0_0 l0_0 a1_0 A1_1 c1_1 l1_1 r w hr0_0 hc0_0 hr1_1 hc1_1 h
 cases k with
 | zero => exact absurd h (by simp [spec_l1Val.f])
 | succ k =>
 simp only [spec_l1Val.f] at h
 have hu41 := Tryd.underlying41
 have hu25 := Tryd.underlying25
 have HR0_0 := Aside0.mk hr0_0
 have HC0_0 := Aside0.mk hc0_0
 clear hr0_0 hc0_0
 have HR1_1 := Aside0.mk hr1_1
 have HC1_1 := Aside0.mk hc1_1
 clear hr1_1 hc1_1
 have HB := Aside0.mk (Below.refl w.heap.size w)
 have H : (if (l1_1.length : Int) = (l0_0.length : Int) then (if (l1_1.length : Int) > 0 then (if a1_0 = 0 then ((spec_l6In.f a1_0 0 9999).bind fun t291 => (spec_l1Val.j0 k (!t291) l0_0 a1_0 l1_1)) else (spec_l1Val.j0 k true l0_0 a1_0 l1_1)) else ((spec_l6In.f a1_0 0 9999).bind fun t292 => (spec_l1Val.j0 k (!t292) l0_0 a1_0 l1_1))) else (spec_l1Val.j0 k true l0_0 a1_0 l1_1)) = some r := h
 clear h
 have HC3 := Aside0.mk H
 clear H
 go_enter Tryd.func31, Tryd.ntmps31
 go_upto_region 1 with (first | ((with_reducible refine gate_dst (N := 2) rfl ?_); (try (refine gate_guard (by rfl) ?_; dsimp only)); refine zbx 2 #[.slice A0_0 l0_0.length c0_0] 41 ?_; intro gb289 hg w4 hbox hb; have BK289 := Aside0.mk hbox; have GW289 := Aside0.mk ((y5 hg HB.out : w.heap.size ≤ gb289)); have GE289 := Aside0.mk ((y5 hg HB.out : w.heap.size ≤ gb289)); replace HB := Aside0.mk (below_step (y2 HB.out) hb); clear hb hbox hg) | ((with_reducible refine gate_dst (N := 3) rfl ?_); (try (refine gate_guard (by rfl) ?_; dsimp only)); refine zbx 3 #[.int .i64 a1_0, .slice A1_1 l1_1.length c1_1] 25 ?_; intro gb290 hg w5 hbox hb; have BK290 := Aside0.mk hbox; have GW290 := Aside0.mk ((y8 hg HB.out GE289.out : w.heap.size ≤ gb290)); have GE290 := Aside0.mk ((y8 hg HB.out GE289.out : w.heap.size ≤ gb290)); replace HB := Aside0.mk (below_step (y0 HB.out GE289.out) hb); have NB289_290 := zltn hg BK289; have NB290_289 := zgtn hg BK289; replace BK289 := zbb BK289 hb; clear hb hbox hg))
 (try simp only [Act.put, List.setIfInBounds_toArray, List.set_cons_zero, List.set_cons_succ])
 go_cut [29] (fun v29 wc => ∃ (kq : Nat) (x29_2 : Bool), v29 = .bool x29_2 ∧ Aside0 (spec_l1Val.j0 kq x29_2 l0_0 a1_0 l1_1 = some r) ∧ Aside0 (kq ≤ k) ∧ Aside0 (wc.heap[gb289]? = some (.cells #[(.slice A0_0 l0_0.length c0_0)] 41 (0, 0))) ∧ Aside0 (wc.heap[gb290]? = some (.cells #[.int .i64 a1_0, (.slice A1_1 l1_1.length c1_1)] 25 (0, 0))) ∧ Aside0 (Below w.heap.size w wc))
 case first =>
  have H := HC3.out
  clear HC3
  by_cases c6 : (l1_1.length : Int) = (l0_0.length : Int)
  ·rw [if_pos c6] at H
   have c6b0 : ((l1_1.length : Int) == (l0_0.length : Int)) = true := beq_iff_eq.mpr c6
   have c6b1 : ((l1_1.length : Int) != (l0_0.length : Int)) = false := bne_eq_false_iff_eq.mpr c6
   have c6b2 : (l1_1.length == l0_0.length) = true := by first | simpa using c6 | (simp at c6 ⊢; omega)
   clear c6
   (first | rw [c6b0] | (simp only [i64_w, i32_w]; rw [c6b0]) | skip)
   by_cases c7 : (l1_1.length : Int) > 0
   ·rw [if_pos c7] at H
    have c7b0 : decide (0 < (l1_1.length : Int)) = true := decide_eq_true c7
    have c7b1 : decide (0 < l1_1.length) = true := decide_eq_true (by omega)
    clear c7
    by_cases c8 : a1_0 = 0
    ·rw [if_pos c8] at H
     have c8b0 : (a1_0 == 0) = true := beq_iff_eq.mpr c8
     have c8b1 : (a1_0 != 0) = false := bne_eq_false_iff_eq.mpr c8
     clear c8
     obtain ⟨t291, A90, H⟩ := ob H
     have A9 := Aside0.mk A90
     clear A90
     have H' := Aside0.mk H
     clear H
     have hnb10 := NB290_289.out
     have hnc10 := NB289_290.out
     have hcz11_0 := zh BK290
     have hcz11_1 := zh1 BK290
     have hfz11_0 := zfr BK290 0
     have hfz11_1 := zfr BK290 1
     have hcz12_0 := zh BK289
     have hfz12_0 := zfr BK289 0
     go_wp2_with (first | (go_at_call 34; (with_reducible refine (spec_l6In.calls a1_0 0 9999 t291 _ A9.out).mono ?_); rintro e w' ⟨rfl, ⟨nd, rfl⟩⟩))
     go_meet
     case rel => exact ⟨_, (!t291), y26, H', ⟨y36⟩, ⟨(y1 BK289.out)⟩, ⟨(y1 BK290.out)⟩, ⟨(y3 HB.out GE289.out GE290.out)⟩⟩
    ·rw [if_neg c8] at H
     have c8b0 : (a1_0 == 0) = false := beq_eq_false_iff_ne.mpr c8
     have c8b1 : (a1_0 != 0) = true := bne_iff_ne.mpr c8
     have H' := Aside0.mk H
     clear H
     have hnb13 := NB290_289.out
     have hnc13 := NB289_290.out
     have hcz14_0 := zh BK290
     have hcz14_1 := zh1 BK290
     have hfz14_0 := zfr BK290 0
     have hfz14_1 := zfr BK290 1
     have hcz15_0 := zh BK289
     have hfz15_0 := zfr BK289 0
     go_wp2
     go_meet
     case rel => exact ⟨_, (true), y26, H', ⟨y36⟩, ⟨(y1 BK289.out)⟩, ⟨(y1 BK290.out)⟩, ⟨(y3 HB.out GE289.out GE290.out)⟩⟩
   ·rw [if_neg c7] at H
    have c7b0 : decide (0 < (l1_1.length : Int)) = false := decide_eq_false c7
    have c7b1 : decide (0 < l1_1.length) = false := decide_eq_false (by omega)
    clear c7
    obtain ⟨t292, A160, H⟩ := ob H
    have A16 := Aside0.mk A160
    clear A160
    have H' := Aside0.mk H
    clear H
    have hnb17 := NB290_289.out
    have hnc17 := NB289_290.out
    have hcz18_0 := zh BK290
    have hcz18_1 := zh1 BK290
    have hfz18_0 := zfr BK290 0
    have hfz18_1 := zfr BK290 1
    have hcz19_0 := zh BK289
    have hfz19_0 := zfr BK289 0
    go_wp2_with (first | (go_at_call 34; (with_reducible refine (spec_l6In.calls a1_0 0 9999 t292 _ A16.out).mono ?_); rintro e w' ⟨rfl, ⟨nd, rfl⟩⟩))
    go_meet
    case rel => exact ⟨_, (!t292), y26, H', ⟨y36⟩, ⟨(y1 BK289.out)⟩, ⟨(y1 BK290.out)⟩, ⟨(y3 HB.out GE289.out GE290.out)⟩⟩
  ·rw [if_neg c6] at H
   have c6b0 : ((l1_1.length : Int) == (l0_0.length : Int)) = false := beq_eq_false_iff_ne.mpr c6
   have c6b1 : ((l1_1.length : Int) != (l0_0.length : Int)) = true := bne_iff_ne.mpr c6
   have c6b2 : (l1_1.length == l0_0.length) = false := by first | simpa using c6 | (simp at c6 ⊢; omega)
   (first | rw [c6b0] | (simp only [i64_w, i32_w]; rw [c6b0]) | skip)
   have H' := Aside0.mk H
   clear H
   have hnb20 := NB290_289.out
   have hnc20 := NB289_290.out
   have hcz21_0 := zh BK290
   have hcz21_1 := zh1 BK290
   have hfz21_0 := zfr BK290 0
   have hfz21_1 := zfr BK290 1
   have hcz22_0 := zh BK289
   have hfz22_0 := zfr BK289 0
   go_wp2
   go_meet
   case rel => exact ⟨_, (true), y26, H', ⟨y36⟩, ⟨(y1 BK289.out)⟩, ⟨(y1 BK290.out)⟩, ⟨(y3 HB.out GE289.out GE290.out)⟩⟩
 case rest =>
  clear HC3
  try clear c1
  try clear c2
  try clear p2
  try clear c3
  try clear c6
  try clear c6b0
  try clear c6b1
  try clear c6b2
  try clear c7
  try clear c7b0
  try clear c7b1
  try clear c8
  try clear c8b0
  try clear c8b1
  try clear c10
  try clear c13
  try clear c17
  try clear c20
  try clear hcz11_0
  try clear hcz11_1
  try clear hcz12_0
  try clear hcz14_0
  try clear hcz14_1
  try clear hcz15_0
  try clear hcz18_0
  try clear hcz18_1
  try clear hcz19_0
  try clear hcz21_0
  try clear hcz21_1
  try clear hcz22_0
  try clear hfz11_0
  try clear hfz11_1
  try clear hfz12_0
  try clear hfz14_0
  try clear hfz14_1
  try clear hfz15_0
  try clear hfz18_0
  try clear hfz18_1
  try clear hfz19_0
  try clear hfz21_0
  try clear hfz21_1
  try clear hfz22_0
  obtain ⟨kq, x29_2, rfl, HA, HJ2, BK289, BK290, HB⟩ := hcut
  cases kq with
  | zero => exact absurd HA.out (by simp [spec_l1Val.j0])
  | succ kj2 =>
   have H := HA.out
   clear HA
   simp only [spec_l1Val.j0] at H
   by_cases c23 : x29_2 = true
   ·subst c23
    rw [if_pos rfl] at H
    obtain rfl := Option.some.inj H
    go_wp2
    go_ret
    exact ⟨y7, (y3 HB.out GE289.out GE290.out)⟩
   ·replace c23 := Bool.eq_false_iff.mpr c23
    subst c23
    rw [if_neg (show ¬ (false = true) by decide)] at H
    have H' := Aside0.mk H
    clear H
    go_wp2
    go_loopg [5] kj2 (fun kq v5 w' => ∃ (x5_2 : Int), v5 = .int .i64 x5_2 ∧ Aside0 (spec_l1Val.l0 kq x5_2 l0_0 a1_0 l1_1 = some r) ∧ Aside0 (kq ≤ kj2) ∧ Aside0 (w'.heap[gb289]? = some (.cells #[(.slice A0_0 l0_0.length c0_0)] 41 (0, 0))) ∧ Aside0 (w'.heap[gb290]? = some (.cells #[.int .i64 a1_0, (.slice A1_1 l1_1.length c1_1)] 25 (0, 0))) ∧ Aside0 (Below w.heap.size w w'))
    case atStart => exact ⟨(0), y26, H', ⟨Nat.le_refl _⟩, ⟨(y1 BK289.out)⟩, ⟨(y1 BK290.out)⟩, ⟨(y3 HB.out GE289.out GE290.out)⟩⟩
    case round =>
     clear H'
     try clear c1
     try clear c2
     try clear p2
     try clear c3
     try clear c6
     try clear c6b0
     try clear c6b1
     try clear c6b2
     try clear c7
     try clear c7b0
     try clear c7b1
     try clear c8
     try clear c8b0
     try clear c8b1
     try clear c10
     try clear c13
     try clear c17
     try clear c20
     try clear c23
     try clear hcz11_0
     try clear hcz11_1
     try clear hcz12_0
     try clear hcz14_0
     try clear hcz14_1
     try clear hcz15_0
     try clear hcz18_0
     try clear hcz18_1
     try clear hcz19_0
     try clear hcz21_0
     try clear hcz21_1
     try clear hcz22_0
     try clear hfz11_0
     try clear hfz11_1
     try clear hfz12_0
     try clear hfz14_0
     try clear hfz14_1
     try clear hfz15_0
     try clear hfz18_0
     try clear hfz18_1
     try clear hfz19_0
     try clear hfz21_0
     try clear hfz21_1
     try clear hfz22_0
     try clear p2
     (try clear BK289); (try clear BK290)
     obtain ⟨x5_2, rfl, HA, HK2, BK289, BK290, HB⟩ := hrel
     cases gk with
     | zero => exact absurd HA.out (by simp [spec_l1Val.l0])
     | succ k2 =>
      have H := HA.out
      clear HA
      simp only [spec_l1Val.l0] at H
      by_cases c24 : x5_2 < (l1_1.length : Int)
      ·rw [if_pos c24] at H
       have c24b0 : decide (x5_2 < (l1_1.length : Int)) = true := decide_eq_true c24
       clear c24
       by_cases c25 : 0 ≤ x5_2
       ·rw [if_pos c25] at H
        have c25b0 : decide (0 ≤ x5_2) = true := decide_eq_true c25
        clear c25
        by_cases c26 : x5_2 < (l0_0.length : Int)
        ·rw [if_pos c26] at H
         have c26b0 : decide (x5_2 < (l0_0.length : Int)) = true := decide_eq_true c26
         clear c26
         obtain ⟨t295, A270, H⟩ := ob H
         have A27 := Aside0.mk A270
         clear A270
         have HZ28 := Aside0.mk H
         clear H
         have hnb29 := NB290_289.out
         have hnc29 := NB289_290.out
         have hcz30_0 := zh BK290
         have hcz30_1 := zh1 BK290
         have hfz30_0 := zfr BK290 0
         have hfz30_1 := zfr BK290 1
         try go_wp2
         replace BK289 := Aside0.mk (blk_drew BK289.out)
         replace BK290 := Aside0.mk (blk_drew BK290.out)
         replace HB := Aside0.mk (below_drew1 HB.out)
         have p293 : 0 ≤ (x5_2 : Int) := of_decide_eq_true y19
         have q293 : x5_2 < (l0_0.length : Int) := of_decide_eq_true y19
         obtain ⟨ad293, A293_0, c293_0, e293, hx293_0, hl293_0, hi293_0⟩ := at_T41 HR0_0.out x5_2 p293 q293
         have hw293_0 := hx293_0
         cases e293
         replace hx293_0 := (HB.out.cell (World.block_lt_of_cell? w _ hx293_0)).trans hx293_0
         have HR293_0 := Aside0.mk hi293_0
         have HC293_0 := Aside0.mk hl293_0
         clear hi293_0 hl293_0
         replace p293 := eq_true p293
         replace q293 := eq_true q293
         have p294 : 0 ≤ (x5_2 : Int) := of_decide_eq_true y19
         have q294 : x5_2 < (l1_1.length : Int) := of_decide_eq_true y19
         obtain ⟨ad294, A294_1, c294_1, e294, hx294_0, hx294_1, hl294_1, hi294_1⟩ := at_T25 HR1_1.out x5_2 p294 q294
         have hw294_1 := hx294_1
         have hw294_0 := hx294_0
         cases e294
         replace hx294_0 := (HB.out.cell (World.block_lt_of_cell? w _ hx294_0)).trans hx294_0
         replace hx294_1 := (HB.out.cell (World.block_lt_of_cell? w _ hx294_1)).trans hx294_1
         have HR294_1 := Aside0.mk hi294_1
         have HC294_1 := Aside0.mk hl294_1
         clear hi294_1 hl294_1
         replace p294 := eq_true p294
         replace q294 := eq_true q294
         refine start_ (n := 12) (S := fun w' => w'.cell? ⟨gb289, 0, none⟩ = some (.slice (some ad293) l0_0.length c0_0) ∧ w'.cell? ⟨gb290, 0, none⟩ = some (.int .i64 a1_0) ∧ w'.cell? ⟨gb290, 1, none⟩ = some (.slice (some ad294) l1_1.length c1_1) ∧ w'.cell? (ad293.add (x5_2).toNat) = some (.slice A293_0 ((rd_T41 l0_0 x5_2).f0).length c293_0) ∧ w'.cell? (ad294.add ((x5_2).toNat * 2)) = some (.int .i64 ((rd_T25 l1_1 x5_2).f0)) ∧ w'.cell? ⟨(ad294.add ((x5_2).toNat * 2)).block, (ad294.add ((x5_2).toNat * 2)).off + 1, none⟩ = some (.slice A294_1 ((rd_T25 l1_1 x5_2).f1).length c294_1)) (ds := []) #[false, false, false, false, false, false, false, false, false, false, false, false] (by kernel_rfl) rfl rfl ⟨(blk_cell BK289.out 0).trans rfl, (blk_cell BK290.out 0).trans rfl, (blk_cell BK290.out 1).trans rfl, ((HB.out.cell (World.block_lt_of_cell? w _ hw293_0)).trans hw293_0), ((HB.out.cell (World.block_lt_of_cell? w _ hw294_0)).trans hw294_0), ((HB.out.cell (World.block_lt_of_cell? w _ hw294_1)).trans hw294_1)⟩ (fun hHeld => ?_); refine with_tabW spec_l1Val.tab6 spec_l1Val.bits6 (fun HT_ HW_ => ?_)
         generalize wr.drew = w31 at BK289 BK290 HB HR293_0 HR294_1 hx293_0 hx294_0 hx294_1 hHeld ⊢
         refine zp 0 (some 37) HT_ ?_
         refine zp 2 (some 39) HT_ ?_
         refine zp 5 (some 42) HT_ ?_
         refine zp 7 (some 44) HT_ ?_
         refine zt6 1 (some 38) HT_ HW_ hHeld ?_
         refine zp 3 (some 40) HT_ ?_
         refine zt6 4 (some 41) HT_ HW_ hHeld ?_
         refine zt6 6 (some 43) HT_ HW_ hHeld ?_
         refine zp 8 (some 45) HT_ ?_
         refine zt6 9 (some 46) HT_ HW_ hHeld ?_
         refine one_ (i := 10) (N := some 47) #[true, true, true, true, true, true, true, true, true, true, true, false] rfl rfl (one_of HT_.out (by kernel_rfl)) (by decide) (fun K hK => ?_)
         refine goes_ Tryd.func31 (by kernel_rfl) rfl #[.agg #[.slice A293_0 ((rd_T41 l0_0 x5_2).f0).length c293_0], .agg #[.int .i64 ((rd_T25 l1_1 x5_2).f0), .slice A294_1 ((rd_T25 l1_1 x5_2).f1).length c294_1]] (by rfl) rfl rfl y4 ?_
         with_reducible refine (ih k2 (y43 HJ2.out HK2.out) _ _ ((rd_T41 l0_0 x5_2).f0) ((rd_T25 l1_1 x5_2).f0) _ _ ((rd_T25 l1_1 x5_2).f1) t295 _ ?side1 ?side2 ?side3 ?side4 A27.out).mono ?_
         (case side1 => exact y9 HR293_0.out HB.out)
         (case side2 => exact HC293_0.out)
         (case side3 => exact y9 HR294_1.out HB.out)
         (case side4 => exact HC294_1.out)
         rintro e w32 ⟨rfl, hb⟩
         refine ⟨_, rfl, ?_⟩
         replace BK289 := zbb BK289 hb
         replace BK290 := zbb BK290 hb
         replace HB := Aside0.mk (below_step (y3 HB.out GE289.out GE290.out) hb)
         (try clear hb)
         (try clear hb2)
         (try clear hk)
         (try clear hi)
         refine hK.out _ _ ⟨(blk_cell BK289.out 0).trans rfl, (blk_cell BK290.out 0).trans rfl, (blk_cell BK290.out 1).trans rfl, ((HB.out.cell (World.block_lt_of_cell? w _ hw293_0)).trans hw293_0), ((HB.out.cell (World.block_lt_of_cell? w _ hw294_0)).trans hw294_0), ((HB.out.cell (World.block_lt_of_cell? w _ hw294_1)).trans hw294_1)⟩ (fun hHeld => ?_)
         clear hK K
         refine norm_ (a' := ?_) ?_ ?_
         rotate_left
         ·show Act.put _ (some 47) _ = _
          simp only [Act.put, List.setIfInBounds_toArray, List.set_cons_zero, List.set_cons_succ, i64_w, i32_w]
          rfl
         refine zp 11 (some 48) HT_ ?_
         refine done_ (done_of HT_.out (by kernel_rfl)) ?_
         have H := HZ28.out
         clear HZ28
         by_cases c33 : t295 = true
         ·subst c33
          rw [if_pos rfl] at H
          have H' := Aside0.mk H
          clear H
          go_wp2
          go_roundg k2
          case measure => have := HJ2.out; have := HK2.out; omega
          case rel => exact ⟨(wrap64 (x5_2 + 1)), y26, H', ⟨(y43 HJ2.out HK2.out)⟩, ⟨(y1 BK289.out)⟩, ⟨(y1 BK290.out)⟩, ⟨(y3 HB.out GE289.out GE290.out)⟩⟩
         ·replace c33 := Bool.eq_false_iff.mpr c33
          subst c33
          rw [if_neg (show ¬ (false = true) by decide)] at H
          obtain rfl := Option.some.inj H
          go_wp2
          go_ret
          exact ⟨y7, (y3 HB.out GE289.out GE290.out)⟩
        ·rw [if_neg c26] at H
         exact absurd H (by simp)
       ·rw [if_neg c25] at H
        exact absurd H (by simp)
      ·rw [if_neg c24] at H
       have c24b0 : decide (x5_2 < (l1_1.length : Int)) = false := decide_eq_false c24
       clear c24
       obtain rfl := Option.some.inj H
       have hnb34 := NB290_289.out
       have hnc34 := NB289_290.out
       have hcz35_0 := zh BK290
       have hcz35_1 := zh1 BK290
       have hfz35_0 := zfr BK290 0
       have hfz35_1 := zfr BK290 1
       go_wp2
       go_ret
       exact ⟨y7, (y3 HB.out GE289.out GE290.out)⟩
end Go.Proofs.YtihfbpmblppbgaaDoor.PA
end
