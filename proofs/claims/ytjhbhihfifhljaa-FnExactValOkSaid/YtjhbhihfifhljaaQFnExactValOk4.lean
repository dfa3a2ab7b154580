-- Ytjhbhihfifhljaa's texts for the statement FnExactValOk, one behind the other (merge.py).
import Derived.Test.YtjhbhihfifhljaaQFnExactValOk0
import Derived.Test.YtjhbhihfifhljaaQFnExactValOk2
import Derived.Test.YtjhbhihfifhljaaQFnExactValOk3
import Derived.Test.YtjhbhihfifhljaaQFnExactValOk1
section
namespace Go.Proofs.Ytjhbhihfifhljaa.PA
open Go.RowKit Go.Proofs.YtjhbhihfifhljaaW.PrintWords Go.Proofs.YtjhbhihfifhljaaW.PrintLast Go.Proofs.YtjhbhihfifhljaaW.PrintMore
attribute [local go_sem] max2_int min2_int max_two min_two max_three min_three max_four min_four
set_option linter.unusedVariables false
set_option linter.unusedSimpArgs false
def spec_l71Val.f : Nat → List Int → Int → List (S30) → Option (Int × (List (S55)) × Int)
 | 0, _, _, _ => none
 | k + 1, s0_0, s0_1, l1_0 => if (l1_0.length : Int) = 0 then ((some (([0, 1, 2, 3, 7, 50, 9999] : List Int) : List Int)).bind fun y637 => ((spec_l6Rd_pick.f k s0_0 s0_1 7).bind fun bt640 => (if 0 ≤ bt640.1 then (if bt640.1 < (y637.length : Int) then (some (rd y637 bt640.1, ([] : List (S55)), bt640.2)) else (none)) else (none)))) else (if 0 < (l1_0.length : Int) then ((spec_l71Val.f k s0_0 s0_1 ((rd_T30 l1_0 0).f0)).bind fun bt644 => (if 1 < (l1_0.length : Int) then ((spec_l71Val.f k s0_0 bt644.2.2 ((rd_T30 l1_0 1).f0)).bind fun bt650 => (some (0, (([(⟨bt644.1, bt644.2.1⟩ : S55), (⟨bt650.1, bt650.2.1⟩ : S55)] : List (S55))), bt650.2.2))) else (none))) else (none))
theorem spec_l71Val.mono_l : ∀ k, (∀ y0 y1 y2, LeO (spec_l71Val.f k y0 y1 y2) (spec_l71Val.f (k + 1) y0 y1 y2))
 | 0 => fun _ _ _ r h => by simp [spec_l71Val.f] at h
 | k + 1 => by
  have ih0 := spec_l71Val.mono_l k
  ·intro y0 y1 y2
   unfold spec_l71Val.f
   repeat' first
   | (with_reducible exact ih0 _ _ _)
   | (with_reducible exact spec_l6Rd_pick.mono _ _ _ _)
   | (with_reducible exact LeO.refl _)
   | (with_reducible exact LeO.none _)
   | (with_reducible refine LeO.ite ?_ ?_)
   | (with_reducible refine LeO.bind ?_ (fun _ => ?_))
   | exact ih0 _ _ _
   | exact spec_l6Rd_pick.mono _ _ _ _
   | exact LeO.none _
   | refine LeO.ite ?_ ?_
   | refine LeO.bind ?_ (fun _ => ?_)
theorem spec_l71Val.mono : ∀ a0 a1 a2 k, LeO (spec_l71Val.f k a0 a1 a2) (spec_l71Val.f (k + 1) a0 a1 a2) := by
 intro a0 a1 a2 k
 have ih0 := spec_l71Val.mono_l k
 exact ih0 a0 a1 a2
def spec_l71Val.T3 : Bool × List (List Nat × List Nat) := (true, [([], []), ([], []), ([1], [1]), ([2], [2]), ([3], [3]), ([0, 4], [0, 4]), ([], []), ([], []), ([7], [7]), ([8], [8]), ([9], [9]), ([6, 10, 5], [6, 10]), ([5, 11], [5, 11]), ([12], [12]), ([13, 11, 0, 1, 2, 3, 4, 5, 6, 7, 8, 9, 10, 11, 12, 13], [13])])
def spec_l71Val.B3 : List Nat := [0, 0, 2, 6, 14, 31, 0, 0, 128, 384, 896, 2047, 4095, 8191, 16383]
theorem spec_l71Val.tab3 : rtab .any (opsOf Try.f87 3) = spec_l71Val.T3 := by kernel_rfl
theorem spec_l71Val.bits3 : waitsOk spec_l71Val.T3.2 spec_l71Val.B3 = true := by kernel_rfl
set_option maxHeartbeats 8000000 in
set_option maxRecDepth 100000 in
theorem spec_l71Val.calls (k : Nat) : ∀ (g : Nat) (s0_0 : List Int) (s0_1 : Int) (P1_0_ : Nat → Prop) (A1_0 : Option Addr) (c1_0 : Nat) (l1_0 : List (S30)) (r1 : Int) (r2 : List (S55)) (r3 : Int) (w0 w : World) (hI : IsS95 w0 w g s0_0 s0_1) (hB : Below w0.heap.size w0 w) (hs1_0 : Kd.V k30 30 w w.heap.size (fun k_ => P1_0_ k_ ∧ k_ ≠ g) (.slice A1_0 l1_0.length c1_0) l1_0) (h : spec_l71Val.f k s0_0 s0_1 l1_0 = some (r1, r2, r3)),
  Calls Try.prog 87 #[.pointer (some ⟨g, 0, none⟩), .agg #[.slice A1_0 l1_0.length c1_0]] w fun e w' => ∃ v1_ : Value, e = .returned (.agg #[.int .i64 r1, v1_]) ∧ Kd.N k55 55 w' w.heap.size (fun k_ => (P1_0_ k_ ∨ w.heap.size ≤ k_)) v1_ r2 ∧ IsS95 w0 w' g s0_0 r3 ∧ Below w0.heap.size w0 w' ∧ KeepBut w w' g none := by
 induction k using Nat.strongRecOn with
 | _ k ih =>
 intro g s0_0 s0_1 P1_0_ A1_0 c1_0 l1_0 r1 r2 r3 w0 w hI hB hs1_0 h
 cases k with
 | zero => exact absurd h (by simp [spec_l71Val.f])
 | succ k =>
 simp only [spec_l71Val.f] at h
 have hu30 := Try.underlying30
 have hu55 := Try.underlying55
 have HO1_0 := Aside0.mk (show Kd.V k30 30 w w.heap.size (fun k_ => (P1_0_ k_ ∨ w.heap.size ≤ k_) ∧ k_ ≠ g) (.slice A1_0 l1_0.length c1_0) l1_0 from Kd.V_mono hs1_0 (fun k_ hk => ⟨.inl hk.1, hk.2⟩))
 have HI0 := Aside0.mk hI
 have HK := Aside0.mk (KeepBut.refl w g none)
 have HL := Aside0.mk hB.size
 clear hI
 have HW0 := Aside0.mk hB.size
 have HB := Aside0.mk hB
 clear hB
 have H : (if (l1_0.length : Int) = 0 then ((some (([0, 1, 2, 3, 7, 50, 9999] : List Int) : List Int)).bind fun y637 => ((spec_l6Rd_pick.f k s0_0 s0_1 7).bind fun bt640 => (if 0 ≤ bt640.1 then (if bt640.1 < (y637.length : Int) then (some (rd y637 bt640.1, ([] : List (S55)), bt640.2)) else (none)) else (none)))) else (if 0 < (l1_0.length : Int) then ((spec_l71Val.f k s0_0 s0_1 ((rd_T30 l1_0 0).f0)).bind fun bt644 => (if 1 < (l1_0.length : Int) then ((spec_l71Val.f k s0_0 bt644.2.2 ((rd_T30 l1_0 1).f0)).bind fun bt650 => (some (0, (([(⟨bt644.1, bt644.2.1⟩ : S55), (⟨bt650.1, bt650.2.1⟩ : S55)] : List (S55))), bt650.2.2))) else (none))) else (none))) = some (r1, r2, r3) := h
 clear h
 by_cases c3 : (l1_0.length : Int) = 0
 ·rw [if_pos c3] at H
  have c3b0 : ((l1_0.length : Int) == 0) = true := beq_iff_eq.mpr c3
  have c3b1 : ((l1_0.length : Int) != 0) = false := bne_eq_false_iff_eq.mpr c3
  clear c3
  obtain ⟨y637, hy637⟩ : ∃ y_ : List Int, y_ = (([0, 1, 2, 3, 7, 50, 9999] : List Int)) := ⟨_, rfl⟩
  replace H : ((spec_l6Rd_pick.f k s0_0 s0_1 7).bind fun bt640 => (if 0 ≤ bt640.1 then (if bt640.1 < (y637.length : Int) then (some (rd y637 bt640.1, ([] : List (S55)), bt640.2)) else (none)) else (none))) = some (r1, r2, r3) := by first | (rw [hy637]; with_reducible exact H) | (have H2_ := (Option.bind_some _ _).symm.trans H; rw [hy637]; with_reducible exact H2_) | (have H2_ := (Option.bind_some _ _).symm.trans H; with_reducible exact H2_) | with_reducible exact H | (rw [hy637]; exact H) | exact H
  have Ny637 := Aside0.mk hy637
  clear hy637
  obtain ⟨⟨t640, t641⟩, A40, H⟩ := ob H
  have A4 := Aside0.mk A40
  clear A40
  by_cases c5 : 0 ≤ t640
  ·rw [if_pos c5] at H
   have c5b0 : decide (0 ≤ t640) = true := decide_eq_true c5
   clear c5
   by_cases c6 : t640 < (y637.length : Int)
   ·rw [if_pos c6] at H
    have c6b0 : decide (t640 < (y637.length : Int)) = true := decide_eq_true c6
    clear c6
    simp only [Option.some.injEq, Prod.mk.injEq] at H
    obtain ⟨rfl, rfl, rfl⟩ := H
    go_enter Try.func87, Try.ntmps87
    go_wp2_with (first | ((with_reducible refine gate_dst (N := 3) rfl ?_); refine zbx 3 #[.slice A1_0 l1_0.length c1_0] 30 ?_; intro gb635 hg w7 hbox hb; replace HO1_0 := Aside0.mk (Kd.V_below (Kd.V_elderB (y13 HO1_0.out) gb635 (Nat.le_of_eq hg.symm)) hb); replace HB := Aside0.mk (below_step (y33 HB.out HI0.out) hb); have BK635 := Aside0.mk hbox; have GW635 := Aside0.mk ((by rw [hg]; exact (keep_size (w := w) (g := g) (row := none) (y25 HK.out)) : w.heap.size ≤ gb635)); have GE635 := Aside0.mk ((Nat.le_trans HW0.out (by rw [hg]; exact (keep_size (w := w) (g := g) (row := none) (y25 HK.out)) : w.heap.size ≤ gb635) : w0.heap.size ≤ gb635)); replace HK := Aside0.mk (KeepBut.trans (y25 HK.out) (KeepBut.of_below hb g none) (.inl rfl)); have NB0_635 := Aside0.mk ((by rw [hg]; exact Nat.ne_of_lt (IsS95.lt (show IsS95 w0 _ g s0_0 s0_1 from by repeat (first | (with_reducible first | exact HI0.out | apply IsS95.alloc | apply IsS95.drewN | apply IsS95.drew | apply IsS95.set_1) | exact HI0.out))) : g ≠ gb635)); have NB635_0 := Aside0.mk ((by rw [hg]; exact Nat.ne_of_gt (IsS95.lt (show IsS95 w0 _ g s0_0 s0_1 from by repeat (first | (with_reducible first | exact HI0.out | apply IsS95.alloc | apply IsS95.drewN | apply IsS95.drew | apply IsS95.set_1) | exact HI0.out))) : gb635 ≠ g)); replace HI0 := Aside0.mk (IsS95.below (y35 HI0.out) hb); clear hb hbox hg) | ((with_reducible refine gate_dst (N := 4) rfl ?_); refine zbx 4 #[.int .i64 0, .slice none 0 0] 55 ?_; intro gb636 hg w8 hbox hb; replace HO1_0 := Aside0.mk (Kd.V_below (Kd.V_elderB (y13 HO1_0.out) gb636 (Nat.le_of_eq hg.symm)) hb); replace HB := Aside0.mk (below_step (y23 HB.out HI0.out GE635.out) hb); have BK636 := Aside0.mk hbox; have GW636 := Aside0.mk ((by rw [hg]; exact (keep_size (w := w) (g := g) (row := none) (y18 HK.out GW635.out)) : w.heap.size ≤ gb636)); have GE636 := Aside0.mk ((Nat.le_trans HW0.out (by rw [hg]; exact (keep_size (w := w) (g := g) (row := none) (y18 HK.out GW635.out)) : w.heap.size ≤ gb636) : w0.heap.size ≤ gb636)); replace HK := Aside0.mk (KeepBut.trans (y18 HK.out GW635.out) (KeepBut.of_below hb g none) (.inl rfl)); have NB635_636 := zltn hg BK635; have NB636_635 := zgtn hg BK635; replace BK635 := zbb BK635 hb; have NB0_636 := Aside0.mk ((by rw [hg]; exact Nat.ne_of_lt (IsS95.lt (show IsS95 w0 _ g s0_0 s0_1 from by repeat (first | (with_reducible first | exact HI0.out | apply IsS95.alloc | apply IsS95.drewN | apply IsS95.drew | apply IsS95.set_1 | refine IsS95.far ?_ NB0_635.out _) | exact HI0.out))) : g ≠ gb636)); have NB636_0 := Aside0.mk ((by rw [hg]; exact Nat.ne_of_gt (IsS95.lt (show IsS95 w0 _ g s0_0 s0_1 from by repeat (first | (with_reducible first | exact HI0.out | apply IsS95.alloc | apply IsS95.drewN | apply IsS95.drew | apply IsS95.set_1 | refine IsS95.far ?_ NB0_635.out _) | exact HI0.out))) : gb636 ≠ g)); replace HI0 := Aside0.mk (IsS95.below (y24 HI0.out NB0_635.out) hb); clear hb hbox hg; have hnb9 := NB635_636.out; have hnc9 := NB636_635.out; have hnb10 := NB635_0.out; have hnc10 := NB0_635.out; have hcz11_0 := zh BK635; have hfz11_0 := zfr BK635 0) | ((with_reducible refine gate_dst (N := 9) rfl ?_); refine Kd.R_lit (Kd.int .i64) _ 3 ?hg (N := 9) ?hd (xs := ([0, 1, 2, 3, 7, 50, 9999] : List Int)) (inner := [.int .i64 0, .int .i64 1, .int .i64 2, .int .i64 3, .int .i64 7, .int .i64 50, .int .i64 9999]) (ok := fun _ => True) (okp := fun _ => True) ?hr ?hp (fun _ hk => hk) trivial (Below.refl _ _) (Nat.le_refl _) (by simp) ?_; (case hd => rfl); (case hg => rfl); (case hr => first | (go_simp; done) | (go_simp; rfl)); (case hp => exact (Reps.one (show Kd.M (Kd.int .i64) _ _ _ 0 [.int .i64 0] from rfl) (Reps.one (show Kd.M (Kd.int .i64) _ _ _ 1 [.int .i64 1] from rfl) (Reps.one (show Kd.M (Kd.int .i64) _ _ _ 2 [.int .i64 2] from rfl) (Reps.one (show Kd.M (Kd.int .i64) _ _ _ 3 [.int .i64 3] from rfl) (Reps.one (show Kd.M (Kd.int .i64) _ _ _ 7 [.int .i64 7] from rfl) (Reps.one (show Kd.M (Kd.int .i64) _ _ _ 50 [.int .i64 50] from rfl) (Reps.one (show Kd.M (Kd.int .i64) _ _ _ 9999 [.int .i64 9999] from rfl) (Reps.none _ _))))))))); intro v638 w12 ho13 hb hg_ hnew_; clear hg_ hnew_; (first | rw [← Ny637.out] at ho13 | (simp only [Int.reduceToNat] at ho13; rw [← Ny637.out] at ho13)); replace HO1_0 := Aside0.mk (Kd.V_elder' (y13 HO1_0.out) (Kd.R_base ho13) hb); have HO639 := Aside0.mk (Kd.R_lower (Kd.R_newM (M := fun k_ => (w.heap.size ≤ k_)) ho13 (keep_size (w := w) (g := g) (row := none) (y11 HK.out GW635.out GW636.out)) (fun k_ h_ => h_)) (keep_size (w := w) (g := g) (row := none) (y11 HK.out GW635.out GW636.out))); replace BK635 := zbb BK635 hb; replace BK636 := zbb BK636 hb; replace HK := Aside0.mk (KeepBut.trans (y11 HK.out GW635.out GW636.out) (KeepBut.of_below hb g none) (.inl rfl)); replace HB := Aside0.mk (below_step (y12 HB.out HI0.out GE635.out GE636.out) hb); replace HI0 := Aside0.mk (IsS95.below (y15 HI0.out NB0_635.out NB0_636.out) hb); clear hb ho13) | ((with_reducible refine gate_callee (f := 58) rfl ?_); refine goesL_ (some 11) rfl rfl Try.func58 (by kernel_rfl) rfl #[.pointer (some ⟨g, 0, none⟩), .int .i64 7] rfl y4 ?_; (with_reducible refine (spec_l6Rd_pick.calls k g s0_0 s0_1 7 t640 t641 w0 _ ?side1 ?side2 A4.out).mono ?_); (case side1 => exact y15 HI0.out NB0_635.out NB0_636.out); (case side2 => exact y12 HB.out HI0.out GE635.out GE636.out); rintro e w14 ⟨rfl, hi, hb, hk⟩; refine ⟨_, rfl, ?_⟩; replace HO1_0 := Aside0.mk (Kd.V_mono (Kd.V_keep (Kd.V_mono (ok := fun k_ => ((((((P1_0_ k_ ∨ w.heap.size ≤ k_)) ∧ k_ ≠ g) ∧ k_ ≠ gb635) ∧ k_ ≠ gb636) ∧ some k_ ≠ (v638 : Value).ownBlock)) (y13 HO1_0.out) (fun k_ hk_ => (⟨hk_, hk_.1.1.1.2⟩ : _ ∧ k_ ≠ g))) hk (fun _ h => h.2)) (fun _ h => h.1)); replace BK635 := Aside0.mk (KeepBut.blk hk (g' := gb635) (o := .cells #[.slice A1_0 l1_0.length c1_0] 30 (0, 0)) (y0 BK635.out) NB635_0.out (by simp)); replace BK636 := Aside0.mk (KeepBut.blk hk (g' := gb636) (o := .cells #[.int .i64 0, .slice none 0 0] 55 (0, 0)) (y0 BK636.out) NB636_0.out (by simp)); replace HO639 := Aside0.mk (Kd.R_mono (Kd.R_keep (IsS95.apart (show IsS95 w0 _ g s0_0 s0_1 from by repeat (first | (with_reducible first | exact HI0.out | apply IsS95.alloc | apply IsS95.drewN | apply IsS95.drew | apply IsS95.set_1 | refine IsS95.far ?_ NB0_635.out _ | refine IsS95.far ?_ NB0_636.out _) | exact HI0.out)) (y10 HO639.out) (by decide)) hk (fun _ h => h.2)) (fun _ h => h.1)); replace HK := Aside0.mk (KeepBut.trans (y11 HK.out GW635.out GW636.out) hk (.inl rfl)); replace HB := Aside0.mk (hb); replace HI0 := Aside0.mk (hi); (try clear hb); (try clear hb2); (try clear hk); (try clear hi); obtain ⟨Ao15, co15, eo15⟩ := Kd.R_slice HO639.out; subst eo15; have p642 : 0 ≤ (t640 : Int) := of_decide_eq_true y19; have q642 : t640 < (y637.length : Int) := of_decide_eq_true y19; obtain ⟨ad642, e642, hx642_0⟩ := Kd.at_int (Kd.R_reads' HO639.out).2.2 t640 p642 q642; cases e642; replace p642 := eq_true p642; replace q642 := eq_true q642; have hnb16 := NB636_0.out; have hnc16 := NB0_636.out; have hcz17_0 := zh BK636; have hcz17_1 := zh1 BK636; have hfz17_0 := zfr BK636 0; have hfz17_1 := zfr BK636 1))
    refine bodyPost_ret (results_cell_row rfl _ _ gb636 55 #[.int .i64 (rd y637 t640), .slice none 0 0] (0, 0) _ rfl (by (with_reducible repeat (first | refine blk_drewN ?_ _ | refine blk_drew ?_ | refine blk_alloc ?_ _)); refine blk_put (cs := #[.int .i64 (rd y637 t640), .slice none 0 0]) ?_ 1 _ rfl; (with_reducible repeat (first | refine blk_drewN ?_ _ | refine blk_drew ?_ | refine blk_alloc ?_ _)); apply blk_put (i := 0); (case h => exact y0 BK636.out); (case e => rfl)) Try.underlying55 rfl (by kernel_rfl)) rfl ?_
    exact ⟨_, y14, y36, (y15 HI0.out NB0_635.out NB0_636.out), (y12 HB.out HI0.out GE635.out GE636.out), (y11 HK.out GW635.out GW636.out)⟩
   ·rw [if_neg c6] at H
    exact absurd H (by simp)
  ·rw [if_neg c5] at H
   exact absurd H (by simp)
 ·rw [if_neg c3] at H
  have c3b0 : ((l1_0.length : Int) == 0) = false := beq_eq_false_iff_ne.mpr c3
  have c3b1 : ((l1_0.length : Int) != 0) = true := bne_iff_ne.mpr c3
  have c3b2 : ¬ (l1_0 = []) := fun h_ => c3 (by rw [h_]; rfl)
  by_cases c18 : 0 < (l1_0.length : Int)
  ·rw [if_pos c18] at H
   have c18b0 : decide (0 < (l1_0.length : Int)) = true := decide_eq_true c18
   have c18b1 : decide (0 < l1_0.length) = true := decide_eq_true (by omega)
   clear c18
   obtain ⟨⟨t644, t645, t648⟩, A190, H⟩ := ob H
   have A19 := Aside0.mk A190
   clear A190
   by_cases c20 : 1 < (l1_0.length : Int)
   ·rw [if_pos c20] at H
    have c20b0 : decide (1 < (l1_0.length : Int)) = true := decide_eq_true c20
    have c20b1 : decide (1 < l1_0.length) = true := decide_eq_true (by omega)
    clear c20
    obtain ⟨⟨t650, t651, t654⟩, A210, H⟩ := ob H
    have A21 := Aside0.mk A210
    clear A210
    obtain ⟨y655, hy655⟩ : ∃ y_ : List (S55), y_ = (([(⟨t644, t645⟩ : S55), (⟨t650, t651⟩ : S55)] : List (S55))) := ⟨_, rfl⟩
    replace H : (some (0, y655, t654)) = some (r1, r2, r3) := by first | (rw [hy655]; with_reducible exact H) | (have H2_ := (Option.bind_some _ _).symm.trans H; rw [hy655]; with_reducible exact H2_) | (have H2_ := (Option.bind_some _ _).symm.trans H; with_reducible exact H2_) | with_reducible exact H | (rw [hy655]; exact H) | exact H
    have Ny655 := Aside0.mk hy655
    clear hy655
    simp only [Option.some.injEq, Prod.mk.injEq] at H
    obtain ⟨rfl, rfl, rfl⟩ := H
    go_enter Try.func87, Try.ntmps87
    try go_wp2_with (first | ((with_reducible refine gate_dst (N := 3) rfl ?_); refine zbx 3 #[.slice A1_0 l1_0.length c1_0] 30 ?_; intro gb635 hg w22 hbox hb; replace HO1_0 := Aside0.mk (Kd.V_below (Kd.V_elderB (y13 HO1_0.out) gb635 (Nat.le_of_eq hg.symm)) hb); replace HB := Aside0.mk (below_step (y33 HB.out HI0.out) hb); have BK635 := Aside0.mk hbox; have GW635 := Aside0.mk ((by rw [hg]; exact (keep_size (w := w) (g := g) (row := none) (y25 HK.out)) : w.heap.size ≤ gb635)); have GE635 := Aside0.mk ((Nat.le_trans HW0.out (by rw [hg]; exact (keep_size (w := w) (g := g) (row := none) (y25 HK.out)) : w.heap.size ≤ gb635) : w0.heap.size ≤ gb635)); replace HK := Aside0.mk (KeepBut.trans (y25 HK.out) (KeepBut.of_below hb g none) (.inl rfl)); have NB0_635 := Aside0.mk ((by rw [hg]; exact Nat.ne_of_lt (IsS95.lt (show IsS95 w0 _ g s0_0 s0_1 from by repeat (first | (with_reducible first | exact HI0.out | apply IsS95.alloc | apply IsS95.drewN | apply IsS95.drew | apply IsS95.set_1) | exact HI0.out))) : g ≠ gb635)); have NB635_0 := Aside0.mk ((by rw [hg]; exact Nat.ne_of_gt (IsS95.lt (show IsS95 w0 _ g s0_0 s0_1 from by repeat (first | (with_reducible first | exact HI0.out | apply IsS95.alloc | apply IsS95.drewN | apply IsS95.drew | apply IsS95.set_1) | exact HI0.out))) : gb635 ≠ g)); replace HI0 := Aside0.mk (IsS95.below (y35 HI0.out) hb); clear hb hbox hg) | ((with_reducible refine gate_dst (N := 4) rfl ?_); refine zbx 4 #[.int .i64 0, .slice none 0 0] 55 ?_; intro gb636 hg w23 hbox hb; replace HO1_0 := Aside0.mk (Kd.V_below (Kd.V_elderB (y13 HO1_0.out) gb636 (Nat.le_of_eq hg.symm)) hb); replace HB := Aside0.mk (below_step (y23 HB.out HI0.out GE635.out) hb); have BK636 := Aside0.mk hbox; have GW636 := Aside0.mk ((by rw [hg]; exact (keep_size (w := w) (g := g) (row := none) (y18 HK.out GW635.out)) : w.heap.size ≤ gb636)); have GE636 := Aside0.mk ((Nat.le_trans HW0.out (by rw [hg]; exact (keep_size (w := w) (g := g) (row := none) (y18 HK.out GW635.out)) : w.heap.size ≤ gb636) : w0.heap.size ≤ gb636)); replace HK := Aside0.mk (KeepBut.trans (y18 HK.out GW635.out) (KeepBut.of_below hb g none) (.inl rfl)); have NB635_636 := zltn hg BK635; have NB636_635 := zgtn hg BK635; replace BK635 := zbb BK635 hb; have NB0_636 := Aside0.mk ((by rw [hg]; exact Nat.ne_of_lt (IsS95.lt (show IsS95 w0 _ g s0_0 s0_1 from by repeat (first | (with_reducible first | exact HI0.out | apply IsS95.alloc | apply IsS95.drewN | apply IsS95.drew | apply IsS95.set_1 | refine IsS95.far ?_ NB0_635.out _) | exact HI0.out))) : g ≠ gb636)); have NB636_0 := Aside0.mk ((by rw [hg]; exact Nat.ne_of_gt (IsS95.lt (show IsS95 w0 _ g s0_0 s0_1 from by repeat (first | (with_reducible first | exact HI0.out | apply IsS95.alloc | apply IsS95.drewN | apply IsS95.drew | apply IsS95.set_1 | refine IsS95.far ?_ NB0_635.out _) | exact HI0.out))) : gb636 ≠ g)); replace HI0 := Aside0.mk (IsS95.below (y24 HI0.out NB0_635.out) hb); clear hb hbox hg; have hnb24 := NB635_636.out; have hnc24 := NB636_635.out; have hnb25 := NB635_0.out; have hnc25 := NB0_635.out; have hcz26_0 := zh BK635; have hfz26_0 := zfr BK635 0))
    replace HO1_0 := Aside0.mk (Kd.V_drew HO1_0.out)
    replace BK635 := Aside0.mk (blk_drew BK635.out)
    replace BK636 := Aside0.mk (blk_drew BK636.out)
    replace HI0 := Aside0.mk (IsS95.drew HI0.out)
    replace HK := Aside0.mk (keep_drew HK.out)
    replace HB := Aside0.mk (below_drew1 HB.out)
    have p643 : 0 ≤ (0 : Int) := (by omega)
    have q643 : 0 < (l1_0.length : Int) := of_decide_eq_true y19
    obtain ⟨ad643, A643_0, c643_0, e643, hx643_0, hl643_0, hi643_0⟩ := at_T30 (Kd.V_reads' HO1_0.out).2.2 0 p643 q643
    cases e643
    obtain ⟨ce643, hce643, hMe643, hcc643⟩ := Kd.V_get HO1_0.out z30 0 p643 (by first | exact q643 | exact of_decide_eq_true y19 | (have e_ := (Kd.V_reads' HO1_0.out).1; omega))
    obtain ⟨ua643_0, uc643_0, rfl, ul643_0, ge643_0⟩ := k30_openF hMe643
    have hv643_0 := hcc643 0 _ rfl
    rw [Nat.add_zero, show (k30).sz = 1 from rfl, Nat.mul_one] at hv643_0
    replace hv643_0 := Option.some.inj (hv643_0.symm.trans hx643_0)
    injection hv643_0 with hva_ hvn_ hvc_
    rw [hva_] at ge643_0
    rw [hvc_] at ul643_0
    have HL643_0 := Aside0.mk (show Kd.V k30 30 _ w.heap.size _ _ ((rd_T30 l1_0 0).f0) from Kd.V_mk ul643_0 ge643_0)
    clear hva_ hvn_ hvc_ ge643_0 ul643_0
    clear hcc643 hce643
    have qi643 : (0 < l1_0.length) = True := eq_true (by omega)
    (try rw [show ((0 : Int)).toNat = 0 from rfl] at hx643_0)
    (try rw [Addr.add_zero'] at hx643_0)
    have HR643_0 := Aside0.mk hi643_0
    have HC643_0 := Aside0.mk hl643_0
    clear hi643_0 hl643_0
    replace p643 := eq_true p643
    replace q643 := eq_true q643
    have p649 : 0 ≤ (1 : Int) := (by omega)
    have q649 : 1 < (l1_0.length : Int) := of_decide_eq_true y19
    obtain ⟨ad649, A649_0, c649_0, e649, hx649_0, hl649_0, hi649_0⟩ := at_T30 (Kd.V_reads' HO1_0.out).2.2 1 p649 q649
    obtain rfl : ad643 = ad649 := (by injection e649)
    obtain ⟨ce649, hce649, hMe649, hcc649⟩ := Kd.V_get HO1_0.out z30 1 p649 (by first | exact q649 | exact of_decide_eq_true y19 | (have e_ := (Kd.V_reads' HO1_0.out).1; omega))
    obtain ⟨ua649_0, uc649_0, rfl, ul649_0, ge649_0⟩ := k30_openF hMe649
    have hv649_0 := hcc649 0 _ rfl
    rw [Nat.add_zero, show (k30).sz = 1 from rfl, Nat.mul_one] at hv649_0
    replace hv649_0 := Option.some.inj (hv649_0.symm.trans hx649_0)
    injection hv649_0 with hva_ hvn_ hvc_
    rw [hva_] at ge649_0
    rw [hvc_] at ul649_0
    have HL649_0 := Aside0.mk (show Kd.V k30 30 _ w.heap.size _ _ ((rd_T30 l1_0 1).f0) from Kd.V_mk ul649_0 ge649_0)
    clear hva_ hvn_ hvc_ ge649_0 ul649_0
    clear hcc649 hce649
    (try simp only [show (1 : Int).toNat = 1 from rfl, Nat.reduceMul, Nat.reduceEqDiff, Go.Addr.add, ↓reduceIte] at hx649_0)
    have qi649 : (1 < l1_0.length) = True := eq_true (by omega)
    (try rw [show ((1 : Int)).toNat = 1 from rfl] at hx649_0)
    have HR649_0 := Aside0.mk hi649_0
    have HC649_0 := Aside0.mk hl649_0
    clear hi649_0 hl649_0
    replace p649 := eq_true p649
    replace q649 := eq_true q649
    refine start_ (n := 15) (S := fun w' => w'.cell? ⟨gb635, 0, none⟩ = some (.slice (some ad643) l1_0.length c1_0) ∧ w'.cell? ad643 = some (.slice A643_0 ((rd_T30 l1_0 0).f0).length c643_0) ∧ w'.cell? ⟨ad643.block, ad643.off + 1, none⟩ = some (.slice A649_0 ((rd_T30 l1_0 1).f0).length c649_0)) (ds := []) #[false, false, false, false, false, false, false, false, false, false, false, false, false, false, false] (by kernel_rfl) rfl rfl ⟨(blk_cell BK635.out 0).trans rfl, hx643_0, hx649_0⟩ (fun hHeld => ?_); refine with_tabW spec_l71Val.tab3 spec_l71Val.bits3 (fun HT_ HW_ => ?_)
    generalize w23.drew = w27 at HO1_0 BK635 BK636 HI0 HK HB HL643_0 HL649_0 HR643_0 HR649_0 hx643_0 hx649_0 hHeld ⊢
    refine zp 0 (some 15) HT_ ?_
    refine zp 1 (some 16) HT_ ?_
    refine zp 6 (some 21) HT_ ?_
    refine zp 7 (some 22) HT_ ?_
    refine zt3 2 (some 17) HT_ HW_ hHeld ?_
    refine zp 3 (some 18) HT_ ?_
    refine zt3 4 (some 19) HT_ HW_ hHeld ?_
    refine zt3 8 (some 23) HT_ HW_ hHeld ?_
    refine zp 9 (some 24) HT_ ?_
    refine zt3 10 (some 25) HT_ HW_ hHeld ?_
    refine one_ (i := 5) (N := some 20) #[true, true, true, true, true, true, true, true, true, true, true, false, false, false, false] rfl rfl (one_of HT_.out (by kernel_rfl)) (by decide) (fun K hK => ?_)
    refine goes_ Try.func87 (by kernel_rfl) rfl #[.pointer (some ⟨g, 0, none⟩), .agg #[.slice A643_0 ((rd_T30 l1_0 0).f0).length c643_0]] (by rfl) rfl rfl y4 ?_
    with_reducible refine (ih k (by omega) g s0_0 s0_1 (fun k_ => ((((P1_0_ k_ ∨ w.heap.size ≤ k_) ∧ k_ ≠ g) ∧ k_ ≠ gb635) ∧ k_ ≠ gb636)) _ _ ((rd_T30 l1_0 0).f0) t644 t645 t648 w0 _ ?side1 ?side2 ?side3 A19.out).mono ?_
    (case side1 => exact y15 HI0.out NB0_635.out NB0_636.out)
    (case side2 => exact y12 HB.out HI0.out GE635.out GE636.out)
    (case side3 => exact y80 HL643_0.out)
    rintro e w28 ⟨v646, rfl, ho0, hi, hb, hk⟩
    have HS1_ := keep_cell hk (hHeld.2.1) (by first | (rw [add_block]; exact (show _ from by have h_ := hf_V_in HO1_0.out (by have h0_ : (0 : Int) < (l1_0.length : Int) := (by first | exact of_eq_true (by assumption) | exact Int.lt_trans (by decide : (0 : Int) < 1) (of_eq_true (by assumption))); omega) (by decide); first | exact h_ | exact h_.1 | exact h_.2 | exact h_.1.1 | exact h_.1.2 | exact h_.2.1 | exact h_.2.2 | exact h_.1.1.1 | exact h_.1.1.2 | exact h_.1.2.1 | exact h_.1.2.2 | exact h_.2.1.1 | exact h_.2.1.2 | exact h_.2.2.1 | exact h_.2.2.2 | exact h_.1.1.1.1 | exact h_.1.1.1.2 | exact h_.1.1.2.1 | exact h_.1.1.2.2 | exact h_.1.2.1.1 | exact h_.1.2.1.2 | exact h_.1.2.2.1 | exact h_.1.2.2.2 | exact h_.2.1.1.1 | exact h_.2.1.1.2 | exact h_.2.1.2.1 | exact h_.2.1.2.2 | exact h_.2.2.1.1 | exact h_.2.2.1.2 | exact h_.2.2.2.1 | exact h_.2.2.2.2 | exact h_.1.1.1.1.1 | exact h_.1.1.1.1.2 | exact h_.1.1.1.2.1 | exact h_.1.1.1.2.2 | exact h_.1.1.2.1.1 | exact h_.1.1.2.1.2 | exact h_.1.1.2.2.1 | exact h_.1.1.2.2.2 | exact h_.1.2.1.1.1 | exact h_.1.2.1.1.2 | exact h_.1.2.1.2.1 | exact h_.1.2.1.2.2 | exact h_.1.2.2.1.1 | exact h_.1.2.2.1.2 | exact h_.1.2.2.2.1 | exact h_.1.2.2.2.2 | exact h_.2.1.1.1.1 | exact h_.2.1.1.1.2 | exact h_.2.1.1.2.1 | exact h_.2.1.1.2.2 | exact h_.2.1.2.1.1 | exact h_.2.1.2.1.2 | exact h_.2.1.2.2.1 | exact h_.2.1.2.2.2 | exact h_.2.2.1.1.1 | exact h_.2.2.1.1.2 | exact h_.2.2.1.2.1 | exact h_.2.2.1.2.2 | exact h_.2.2.2.1.1 | exact h_.2.2.2.1.2 | exact h_.2.2.2.2.1 | exact h_.2.2.2.2.2)) | (show (Addr.add _ _).block ≠ _; rw [add_block]; exact (show _ from by have h_ := hf_V_in HO1_0.out (by have h0_ : (0 : Int) < (l1_0.length : Int) := (by first | exact of_eq_true (by assumption) | exact Int.lt_trans (by decide : (0 : Int) < 1) (of_eq_true (by assumption))); omega) (by decide); first | exact h_ | exact h_.1 | exact h_.2 | exact h_.1.1 | exact h_.1.2 | exact h_.2.1 | exact h_.2.2 | exact h_.1.1.1 | exact h_.1.1.2 | exact h_.1.2.1 | exact h_.1.2.2 | exact h_.2.1.1 | exact h_.2.1.2 | exact h_.2.2.1 | exact h_.2.2.2 | exact h_.1.1.1.1 | exact h_.1.1.1.2 | exact h_.1.1.2.1 | exact h_.1.1.2.2 | exact h_.1.2.1.1 | exact h_.1.2.1.2 | exact h_.1.2.2.1 | exact h_.1.2.2.2 | exact h_.2.1.1.1 | exact h_.2.1.1.2 | exact h_.2.1.2.1 | exact h_.2.1.2.2 | exact h_.2.2.1.1 | exact h_.2.2.1.2 | exact h_.2.2.2.1 | exact h_.2.2.2.2 | exact h_.1.1.1.1.1 | exact h_.1.1.1.1.2 | exact h_.1.1.1.2.1 | exact h_.1.1.1.2.2 | exact h_.1.1.2.1.1 | exact h_.1.1.2.1.2 | exact h_.1.1.2.2.1 | exact h_.1.1.2.2.2 | exact h_.1.2.1.1.1 | exact h_.1.2.1.1.2 | exact h_.1.2.1.2.1 | exact h_.1.2.1.2.2 | exact h_.1.2.2.1.1 | exact h_.1.2.2.1.2 | exact h_.1.2.2.2.1 | exact h_.1.2.2.2.2 | exact h_.2.1.1.1.1 | exact h_.2.1.1.1.2 | exact h_.2.1.1.2.1 | exact h_.2.1.1.2.2 | exact h_.2.1.2.1.1 | exact h_.2.1.2.1.2 | exact h_.2.1.2.2.1 | exact h_.2.1.2.2.2 | exact h_.2.2.1.1.1 | exact h_.2.2.1.1.2 | exact h_.2.2.1.2.1 | exact h_.2.2.1.2.2 | exact h_.2.2.2.1.1 | exact h_.2.2.2.1.2 | exact h_.2.2.2.2.1 | exact h_.2.2.2.2.2)) | exact (show _ from by have h_ := hf_V_in HO1_0.out (by have h0_ : (0 : Int) < (l1_0.length : Int) := (by first | exact of_eq_true (by assumption) | exact Int.lt_trans (by decide : (0 : Int) < 1) (of_eq_true (by assumption))); omega) (by decide); first | exact h_ | exact h_.1 | exact h_.2 | exact h_.1.1 | exact h_.1.2 | exact h_.2.1 | exact h_.2.2 | exact h_.1.1.1 | exact h_.1.1.2 | exact h_.1.2.1 | exact h_.1.2.2 | exact h_.2.1.1 | exact h_.2.1.2 | exact h_.2.2.1 | exact h_.2.2.2 | exact h_.1.1.1.1 | exact h_.1.1.1.2 | exact h_.1.1.2.1 | exact h_.1.1.2.2 | exact h_.1.2.1.1 | exact h_.1.2.1.2 | exact h_.1.2.2.1 | exact h_.1.2.2.2 | exact h_.2.1.1.1 | exact h_.2.1.1.2 | exact h_.2.1.2.1 | exact h_.2.1.2.2 | exact h_.2.2.1.1 | exact h_.2.2.1.2 | exact h_.2.2.2.1 | exact h_.2.2.2.2 | exact h_.1.1.1.1.1 | exact h_.1.1.1.1.2 | exact h_.1.1.1.2.1 | exact h_.1.1.1.2.2 | exact h_.1.1.2.1.1 | exact h_.1.1.2.1.2 | exact h_.1.1.2.2.1 | exact h_.1.1.2.2.2 | exact h_.1.2.1.1.1 | exact h_.1.2.1.1.2 | exact h_.1.2.1.2.1 | exact h_.1.2.1.2.2 | exact h_.1.2.2.1.1 | exact h_.1.2.2.1.2 | exact h_.1.2.2.2.1 | exact h_.1.2.2.2.2 | exact h_.2.1.1.1.1 | exact h_.2.1.1.1.2 | exact h_.2.1.1.2.1 | exact h_.2.1.1.2.2 | exact h_.2.1.2.1.1 | exact h_.2.1.2.1.2 | exact h_.2.1.2.2.1 | exact h_.2.1.2.2.2 | exact h_.2.2.1.1.1 | exact h_.2.2.1.1.2 | exact h_.2.2.1.2.1 | exact h_.2.2.1.2.2 | exact h_.2.2.2.1.1 | exact h_.2.2.2.1.2 | exact h_.2.2.2.2.1 | exact h_.2.2.2.2.2))
    have HS2_ := keep_cell hk (hHeld.2.2) (by first | (rw [add_block]; exact (show _ from by have h_ := hf_V_in HO1_0.out (by have h0_ : (0 : Int) < (l1_0.length : Int) := (by first | exact of_eq_true (by assumption) | exact Int.lt_trans (by decide : (0 : Int) < 1) (of_eq_true (by assumption))); omega) (by decide); first | exact h_ | exact h_.1 | exact h_.2 | exact h_.1.1 | exact h_.1.2 | exact h_.2.1 | exact h_.2.2 | exact h_.1.1.1 | exact h_.1.1.2 | exact h_.1.2.1 | exact h_.1.2.2 | exact h_.2.1.1 | exact h_.2.1.2 | exact h_.2.2.1 | exact h_.2.2.2 | exact h_.1.1.1.1 | exact h_.1.1.1.2 | exact h_.1.1.2.1 | exact h_.1.1.2.2 | exact h_.1.2.1.1 | exact h_.1.2.1.2 | exact h_.1.2.2.1 | exact h_.1.2.2.2 | exact h_.2.1.1.1 | exact h_.2.1.1.2 | exact h_.2.1.2.1 | exact h_.2.1.2.2 | exact h_.2.2.1.1 | exact h_.2.2.1.2 | exact h_.2.2.2.1 | exact h_.2.2.2.2 | exact h_.1.1.1.1.1 | exact h_.1.1.1.1.2 | exact h_.1.1.1.2.1 | exact h_.1.1.1.2.2 | exact h_.1.1.2.1.1 | exact h_.1.1.2.1.2 | exact h_.1.1.2.2.1 | exact h_.1.1.2.2.2 | exact h_.1.2.1.1.1 | exact h_.1.2.1.1.2 | exact h_.1.2.1.2.1 | exact h_.1.2.1.2.2 | exact h_.1.2.2.1.1 | exact h_.1.2.2.1.2 | exact h_.1.2.2.2.1 | exact h_.1.2.2.2.2 | exact h_.2.1.1.1.1 | exact h_.2.1.1.1.2 | exact h_.2.1.1.2.1 | exact h_.2.1.1.2.2 | exact h_.2.1.2.1.1 | exact h_.2.1.2.1.2 | exact h_.2.1.2.2.1 | exact h_.2.1.2.2.2 | exact h_.2.2.1.1.1 | exact h_.2.2.1.1.2 | exact h_.2.2.1.2.1 | exact h_.2.2.1.2.2 | exact h_.2.2.2.1.1 | exact h_.2.2.2.1.2 | exact h_.2.2.2.2.1 | exact h_.2.2.2.2.2)) | (show (Addr.add _ _).block ≠ _; rw [add_block]; exact (show _ from by have h_ := hf_V_in HO1_0.out (by have h0_ : (0 : Int) < (l1_0.length : Int) := (by first | exact of_eq_true (by assumption) | exact Int.lt_trans (by decide : (0 : Int) < 1) (of_eq_true (by assumption))); omega) (by decide); first | exact h_ | exact h_.1 | exact h_.2 | exact h_.1.1 | exact h_.1.2 | exact h_.2.1 | exact h_.2.2 | exact h_.1.1.1 | exact h_.1.1.2 | exact h_.1.2.1 | exact h_.1.2.2 | exact h_.2.1.1 | exact h_.2.1.2 | exact h_.2.2.1 | exact h_.2.2.2 | exact h_.1.1.1.1 | exact h_.1.1.1.2 | exact h_.1.1.2.1 | exact h_.1.1.2.2 | exact h_.1.2.1.1 | exact h_.1.2.1.2 | exact h_.1.2.2.1 | exact h_.1.2.2.2 | exact h_.2.1.1.1 | exact h_.2.1.1.2 | exact h_.2.1.2.1 | exact h_.2.1.2.2 | exact h_.2.2.1.1 | exact h_.2.2.1.2 | exact h_.2.2.2.1 | exact h_.2.2.2.2 | exact h_.1.1.1.1.1 | exact h_.1.1.1.1.2 | exact h_.1.1.1.2.1 | exact h_.1.1.1.2.2 | exact h_.1.1.2.1.1 | exact h_.1.1.2.1.2 | exact h_.1.1.2.2.1 | exact h_.1.1.2.2.2 | exact h_.1.2.1.1.1 | exact h_.1.2.1.1.2 | exact h_.1.2.1.2.1 | exact h_.1.2.1.2.2 | exact h_.1.2.2.1.1 | exact h_.1.2.2.1.2 | exact h_.1.2.2.2.1 | exact h_.1.2.2.2.2 | exact h_.2.1.1.1.1 | exact h_.2.1.1.1.2 | exact h_.2.1.1.2.1 | exact h_.2.1.1.2.2 | exact h_.2.1.2.1.1 | exact h_.2.1.2.1.2 | exact h_.2.1.2.2.1 | exact h_.2.1.2.2.2 | exact h_.2.2.1.1.1 | exact h_.2.2.1.1.2 | exact h_.2.2.1.2.1 | exact h_.2.2.1.2.2 | exact h_.2.2.2.1.1 | exact h_.2.2.2.1.2 | exact h_.2.2.2.2.1 | exact h_.2.2.2.2.2)) | exact (show _ from by have h_ := hf_V_in HO1_0.out (by have h0_ : (0 : Int) < (l1_0.length : Int) := (by first | exact of_eq_true (by assumption) | exact Int.lt_trans (by decide : (0 : Int) < 1) (of_eq_true (by assumption))); omega) (by decide); first | exact h_ | exact h_.1 | exact h_.2 | exact h_.1.1 | exact h_.1.2 | exact h_.2.1 | exact h_.2.2 | exact h_.1.1.1 | exact h_.1.1.2 | exact h_.1.2.1 | exact h_.1.2.2 | exact h_.2.1.1 | exact h_.2.1.2 | exact h_.2.2.1 | exact h_.2.2.2 | exact h_.1.1.1.1 | exact h_.1.1.1.2 | exact h_.1.1.2.1 | exact h_.1.1.2.2 | exact h_.1.2.1.1 | exact h_.1.2.1.2 | exact h_.1.2.2.1 | exact h_.1.2.2.2 | exact h_.2.1.1.1 | exact h_.2.1.1.2 | exact h_.2.1.2.1 | exact h_.2.1.2.2 | exact h_.2.2.1.1 | exact h_.2.2.1.2 | exact h_.2.2.2.1 | exact h_.2.2.2.2 | exact h_.1.1.1.1.1 | exact h_.1.1.1.1.2 | exact h_.1.1.1.2.1 | exact h_.1.1.1.2.2 | exact h_.1.1.2.1.1 | exact h_.1.1.2.1.2 | exact h_.1.1.2.2.1 | exact h_.1.1.2.2.2 | exact h_.1.2.1.1.1 | exact h_.1.2.1.1.2 | exact h_.1.2.1.2.1 | exact h_.1.2.1.2.2 | exact h_.1.2.2.1.1 | exact h_.1.2.2.1.2 | exact h_.1.2.2.2.1 | exact h_.1.2.2.2.2 | exact h_.2.1.1.1.1 | exact h_.2.1.1.1.2 | exact h_.2.1.1.2.1 | exact h_.2.1.1.2.2 | exact h_.2.1.2.1.1 | exact h_.2.1.2.1.2 | exact h_.2.1.2.2.1 | exact h_.2.1.2.2.2 | exact h_.2.2.1.1.1 | exact h_.2.2.1.1.2 | exact h_.2.2.1.2.1 | exact h_.2.2.1.2.2 | exact h_.2.2.2.1.1 | exact h_.2.2.2.1.2 | exact h_.2.2.2.2.1 | exact h_.2.2.2.2.2))
    refine ⟨_, rfl, ?_⟩
    replace HO1_0 := Aside0.mk (Kd.V_mono (Kd.V_told (Kd.V_oldK (Kd.V_mono (ok := fun k_ => (((((P1_0_ k_ ∨ w.heap.size ≤ k_)) ∧ k_ ≠ g) ∧ k_ ≠ gb635) ∧ k_ ≠ gb636)) (y13 HO1_0.out) (fun k_ hk_ => (⟨hk_, hk_.1.1.2⟩ : _ ∧ k_ ≠ g))) hk) (Kd.N_base ho0)) (fun _ h_ => h_.1))
    replace HL643_0 := Aside0.mk (Kd.V_mono (Kd.V_told (Kd.V_oldK (Kd.V_mono (ok := fun k_ => (((((P1_0_ k_ ∨ w.heap.size ≤ k_)) ∧ k_ ≠ g) ∧ k_ ≠ gb635) ∧ k_ ≠ gb636)) (y13 HL643_0.out) (fun k_ hk_ => (⟨hk_, hk_.1.1.2⟩ : _ ∧ k_ ≠ g))) hk) (Kd.N_base ho0)) (fun _ h_ => h_.1))
    replace HL649_0 := Aside0.mk (Kd.V_mono (Kd.V_told (Kd.V_oldK (Kd.V_mono (ok := fun k_ => (((((P1_0_ k_ ∨ w.heap.size ≤ k_)) ∧ k_ ≠ g) ∧ k_ ≠ gb635) ∧ k_ ≠ gb636)) (y13 HL649_0.out) (fun k_ hk_ => (⟨hk_, hk_.1.1.2⟩ : _ ∧ k_ ≠ g))) hk) (Kd.N_base ho0)) (fun _ h_ => h_.1))
    have HO647 := Aside0.mk (Kd.N_lower (Kd.N_mono (ok' := fun k_ => (P1_0_ k_ ∨ w.heap.size ≤ k_) ∧ k_ ≠ gb635 ∧ k_ ≠ gb636 ∧ k_ ≠ g) ho0 (fun k_ hk_ => ⟨Or.elim hk_ (fun hs_ => hs_.1.1.1) (fun hn_ => (.inr (Nat.le_trans (keep_size (w := w) (g := g) (row := none) (y11 HK.out GW635.out GW636.out)) hn_))), Or.elim hk_ (fun hs_ => hs_.1.2) (fun hn_ => (Kd.freshB (g := gb635) (o := .cells #[.slice (some ad643) l1_0.length c1_0] 30 (0, 0)) (y0 BK635.out) k_ hn_)), Or.elim hk_ (fun hs_ => hs_.2) (fun hn_ => (Kd.freshB (g := gb636) (o := .cells #[.int .i64 0, .slice none 0 0] 55 (0, 0)) (y0 BK636.out) k_ hn_)), Or.elim hk_ (fun hs_ => hs_.1.1.2) (fun hn_ => (IsS95.fresh (y15 HI0.out NB0_635.out NB0_636.out) k_ hn_))⟩)) (keep_size (w := w) (g := g) (row := none) (y11 HK.out GW635.out GW636.out)))
    replace BK635 := Aside0.mk (KeepBut.blk hk (g' := gb635) (o := .cells #[.slice (some ad643) l1_0.length c1_0] 30 (0, 0)) (y0 BK635.out) NB635_0.out (by simp))
    replace BK636 := Aside0.mk (KeepBut.blk hk (g' := gb636) (o := .cells #[.int .i64 0, .slice none 0 0] 55 (0, 0)) (y0 BK636.out) NB636_0.out (by simp))
    replace HK := Aside0.mk (KeepBut.trans (y11 HK.out GW635.out GW636.out) hk (.inl rfl))
    replace HB := Aside0.mk (hb)
    replace HI0 := Aside0.mk (hi)
    (try clear hb)
    (try clear hb2)
    (try clear hk)
    (try clear hi)
    (try clear ho0)
    refine hK.out _ _ ⟨(blk_cell BK635.out 0).trans rfl, HS1_, HS2_⟩ (fun hHeld => ?_)
    clear hK K
    refine norm_ (a' := ?_) ?_ ?_
    rotate_left
    ·show Act.put _ (some 20) _ = _
     simp only [Act.put, List.setIfInBounds_toArray, List.set_cons_zero, List.set_cons_succ, i64_w, i32_w]
     rfl
    refine one_ (i := 11) (N := some 26) #[true, true, true, true, true, true, true, true, true, true, true, true, false, false, false] rfl rfl (one_of HT_.out (by kernel_rfl)) (by decide) (fun K hK => ?_)
    refine goes_ Try.func87 (by kernel_rfl) rfl #[.pointer (some ⟨g, 0, none⟩), .agg #[.slice A649_0 ((rd_T30 l1_0 1).f0).length c649_0]] (by rfl) rfl rfl y4 ?_
    with_reducible refine (ih k (by omega) g s0_0 t648 (fun k_ => (((((P1_0_ k_ ∨ w.heap.size ≤ k_) ∧ k_ ≠ g) ∧ k_ ≠ gb635) ∧ k_ ≠ gb636) ∧ some k_ ≠ (v646 : Value).ownBlock)) _ _ ((rd_T30 l1_0 1).f0) t650 t651 t654 w0 _ ?side1 ?side2 ?side3 A21.out).mono ?_
    (case side1 => exact y15 HI0.out NB0_635.out NB0_636.out)
    (case side2 => exact y12 HB.out HI0.out GE635.out GE636.out)
    (case side3 => exact Kd.V_mono (HL649_0.out) (fun k_ hk_ => ⟨hk_, hk_.1.1.1.2⟩))
    rintro e w29 ⟨v652, rfl, ho0, hi, hb, hk⟩
    have HS1_ := keep_cell hk (hHeld.2.1) (by first | (rw [add_block]; exact (show _ from by have h_ := hf_V_in HO1_0.out (by have h0_ : (0 : Int) < (l1_0.length : Int) := (by first | exact of_eq_true (by assumption) | exact Int.lt_trans (by decide : (0 : Int) < 1) (of_eq_true (by assumption))); omega) (by decide); first | exact h_ | exact h_.1 | exact h_.2 | exact h_.1.1 | exact h_.1.2 | exact h_.2.1 | exact h_.2.2 | exact h_.1.1.1 | exact h_.1.1.2 | exact h_.1.2.1 | exact h_.1.2.2 | exact h_.2.1.1 | exact h_.2.1.2 | exact h_.2.2.1 | exact h_.2.2.2 | exact h_.1.1.1.1 | exact h_.1.1.1.2 | exact h_.1.1.2.1 | exact h_.1.1.2.2 | exact h_.1.2.1.1 | exact h_.1.2.1.2 | exact h_.1.2.2.1 | exact h_.1.2.2.2 | exact h_.2.1.1.1 | exact h_.2.1.1.2 | exact h_.2.1.2.1 | exact h_.2.1.2.2 | exact h_.2.2.1.1 | exact h_.2.2.1.2 | exact h_.2.2.2.1 | exact h_.2.2.2.2 | exact h_.1.1.1.1.1 | exact h_.1.1.1.1.2 | exact h_.1.1.1.2.1 | exact h_.1.1.1.2.2 | exact h_.1.1.2.1.1 | exact h_.1.1.2.1.2 | exact h_.1.1.2.2.1 | exact h_.1.1.2.2.2 | exact h_.1.2.1.1.1 | exact h_.1.2.1.1.2 | exact h_.1.2.1.2.1 | exact h_.1.2.1.2.2 | exact h_.1.2.2.1.1 | exact h_.1.2.2.1.2 | exact h_.1.2.2.2.1 | exact h_.1.2.2.2.2 | exact h_.2.1.1.1.1 | exact h_.2.1.1.1.2 | exact h_.2.1.1.2.1 | exact h_.2.1.1.2.2 | exact h_.2.1.2.1.1 | exact h_.2.1.2.1.2 | exact h_.2.1.2.2.1 | exact h_.2.1.2.2.2 | exact h_.2.2.1.1.1 | exact h_.2.2.1.1.2 | exact h_.2.2.1.2.1 | exact h_.2.2.1.2.2 | exact h_.2.2.2.1.1 | exact h_.2.2.2.1.2 | exact h_.2.2.2.2.1 | exact h_.2.2.2.2.2)) | (show (Addr.add _ _).block ≠ _; rw [add_block]; exact (show _ from by have h_ := hf_V_in HO1_0.out (by have h0_ : (0 : Int) < (l1_0.length : Int) := (by first | exact of_eq_true (by assumption) | exact Int.lt_trans (by decide : (0 : Int) < 1) (of_eq_true (by assumption))); omega) (by decide); first | exact h_ | exact h_.1 | exact h_.2 | exact h_.1.1 | exact h_.1.2 | exact h_.2.1 | exact h_.2.2 | exact h_.1.1.1 | exact h_.1.1.2 | exact h_.1.2.1 | exact h_.1.2.2 | exact h_.2.1.1 | exact h_.2.1.2 | exact h_.2.2.1 | exact h_.2.2.2 | exact h_.1.1.1.1 | exact h_.1.1.1.2 | exact h_.1.1.2.1 | exact h_.1.1.2.2 | exact h_.1.2.1.1 | exact h_.1.2.1.2 | exact h_.1.2.2.1 | exact h_.1.2.2.2 | exact h_.2.1.1.1 | exact h_.2.1.1.2 | exact h_.2.1.2.1 | exact h_.2.1.2.2 | exact h_.2.2.1.1 | exact h_.2.2.1.2 | exact h_.2.2.2.1 | exact h_.2.2.2.2 | exact h_.1.1.1.1.1 | exact h_.1.1.1.1.2 | exact h_.1.1.1.2.1 | exact h_.1.1.1.2.2 | exact h_.1.1.2.1.1 | exact h_.1.1.2.1.2 | exact h_.1.1.2.2.1 | exact h_.1.1.2.2.2 | exact h_.1.2.1.1.1 | exact h_.1.2.1.1.2 | exact h_.1.2.1.2.1 | exact h_.1.2.1.2.2 | exact h_.1.2.2.1.1 | exact h_.1.2.2.1.2 | exact h_.1.2.2.2.1 | exact h_.1.2.2.2.2 | exact h_.2.1.1.1.1 | exact h_.2.1.1.1.2 | exact h_.2.1.1.2.1 | exact h_.2.1.1.2.2 | exact h_.2.1.2.1.1 | exact h_.2.1.2.1.2 | exact h_.2.1.2.2.1 | exact h_.2.1.2.2.2 | exact h_.2.2.1.1.1 | exact h_.2.2.1.1.2 | exact h_.2.2.1.2.1 | exact h_.2.2.1.2.2 | exact h_.2.2.2.1.1 | exact h_.2.2.2.1.2 | exact h_.2.2.2.2.1 | exact h_.2.2.2.2.2)) | exact (show _ from by have h_ := hf_V_in HO1_0.out (by have h0_ : (0 : Int) < (l1_0.length : Int) := (by first | exact of_eq_true (by assumption) | exact Int.lt_trans (by decide : (0 : Int) < 1) (of_eq_true (by assumption))); omega) (by decide); first | exact h_ | exact h_.1 | exact h_.2 | exact h_.1.1 | exact h_.1.2 | exact h_.2.1 | exact h_.2.2 | exact h_.1.1.1 | exact h_.1.1.2 | exact h_.1.2.1 | exact h_.1.2.2 | exact h_.2.1.1 | exact h_.2.1.2 | exact h_.2.2.1 | exact h_.2.2.2 | exact h_.1.1.1.1 | exact h_.1.1.1.2 | exact h_.1.1.2.1 | exact h_.1.1.2.2 | exact h_.1.2.1.1 | exact h_.1.2.1.2 | exact h_.1.2.2.1 | exact h_.1.2.2.2 | exact h_.2.1.1.1 | exact h_.2.1.1.2 | exact h_.2.1.2.1 | exact h_.2.1.2.2 | exact h_.2.2.1.1 | exact h_.2.2.1.2 | exact h_.2.2.2.1 | exact h_.2.2.2.2 | exact h_.1.1.1.1.1 | exact h_.1.1.1.1.2 | exact h_.1.1.1.2.1 | exact h_.1.1.1.2.2 | exact h_.1.1.2.1.1 | exact h_.1.1.2.1.2 | exact h_.1.1.2.2.1 | exact h_.1.1.2.2.2 | exact h_.1.2.1.1.1 | exact h_.1.2.1.1.2 | exact h_.1.2.1.2.1 | exact h_.1.2.1.2.2 | exact h_.1.2.2.1.1 | exact h_.1.2.2.1.2 | exact h_.1.2.2.2.1 | exact h_.1.2.2.2.2 | exact h_.2.1.1.1.1 | exact h_.2.1.1.1.2 | exact h_.2.1.1.2.1 | exact h_.2.1.1.2.2 | exact h_.2.1.2.1.1 | exact h_.2.1.2.1.2 | exact h_.2.1.2.2.1 | exact h_.2.1.2.2.2 | exact h_.2.2.1.1.1 | exact h_.2.2.1.1.2 | exact h_.2.2.1.2.1 | exact h_.2.2.1.2.2 | exact h_.2.2.2.1.1 | exact h_.2.2.2.1.2 | exact h_.2.2.2.2.1 | exact h_.2.2.2.2.2))
    have HS2_ := keep_cell hk (hHeld.2.2) (by first | (rw [add_block]; exact (show _ from by have h_ := hf_V_in HO1_0.out (by have h0_ : (0 : Int) < (l1_0.length : Int) := (by first | exact of_eq_true (by assumption) | exact Int.lt_trans (by decide : (0 : Int) < 1) (of_eq_true (by assumption))); omega) (by decide); first | exact h_ | exact h_.1 | exact h_.2 | exact h_.1.1 | exact h_.1.2 | exact h_.2.1 | exact h_.2.2 | exact h_.1.1.1 | exact h_.1.1.2 | exact h_.1.2.1 | exact h_.1.2.2 | exact h_.2.1.1 | exact h_.2.1.2 | exact h_.2.2.1 | exact h_.2.2.2 | exact h_.1.1.1.1 | exact h_.1.1.1.2 | exact h_.1.1.2.1 | exact h_.1.1.2.2 | exact h_.1.2.1.1 | exact h_.1.2.1.2 | exact h_.1.2.2.1 | exact h_.1.2.2.2 | exact h_.2.1.1.1 | exact h_.2.1.1.2 | exact h_.2.1.2.1 | exact h_.2.1.2.2 | exact h_.2.2.1.1 | exact h_.2.2.1.2 | exact h_.2.2.2.1 | exact h_.2.2.2.2 | exact h_.1.1.1.1.1 | exact h_.1.1.1.1.2 | exact h_.1.1.1.2.1 | exact h_.1.1.1.2.2 | exact h_.1.1.2.1.1 | exact h_.1.1.2.1.2 | exact h_.1.1.2.2.1 | exact h_.1.1.2.2.2 | exact h_.1.2.1.1.1 | exact h_.1.2.1.1.2 | exact h_.1.2.1.2.1 | exact h_.1.2.1.2.2 | exact h_.1.2.2.1.1 | exact h_.1.2.2.1.2 | exact h_.1.2.2.2.1 | exact h_.1.2.2.2.2 | exact h_.2.1.1.1.1 | exact h_.2.1.1.1.2 | exact h_.2.1.1.2.1 | exact h_.2.1.1.2.2 | exact h_.2.1.2.1.1 | exact h_.2.1.2.1.2 | exact h_.2.1.2.2.1 | exact h_.2.1.2.2.2 | exact h_.2.2.1.1.1 | exact h_.2.2.1.1.2 | exact h_.2.2.1.2.1 | exact h_.2.2.1.2.2 | exact h_.2.2.2.1.1 | exact h_.2.2.2.1.2 | exact h_.2.2.2.2.1 | exact h_.2.2.2.2.2)) | (show (Addr.add _ _).block ≠ _; rw [add_block]; exact (show _ from by have h_ := hf_V_in HO1_0.out (by have h0_ : (0 : Int) < (l1_0.length : Int) := (by first | exact of_eq_true (by assumption) | exact Int.lt_trans (by decide : (0 : Int) < 1) (of_eq_true (by assumption))); omega) (by decide); first | exact h_ | exact h_.1 | exact h_.2 | exact h_.1.1 | exact h_.1.2 | exact h_.2.1 | exact h_.2.2 | exact h_.1.1.1 | exact h_.1.1.2 | exact h_.1.2.1 | exact h_.1.2.2 | exact h_.2.1.1 | exact h_.2.1.2 | exact h_.2.2.1 | exact h_.2.2.2 | exact h_.1.1.1.1 | exact h_.1.1.1.2 | exact h_.1.1.2.1 | exact h_.1.1.2.2 | exact h_.1.2.1.1 | exact h_.1.2.1.2 | exact h_.1.2.2.1 | exact h_.1.2.2.2 | exact h_.2.1.1.1 | exact h_.2.1.1.2 | exact h_.2.1.2.1 | exact h_.2.1.2.2 | exact h_.2.2.1.1 | exact h_.2.2.1.2 | exact h_.2.2.2.1 | exact h_.2.2.2.2 | exact h_.1.1.1.1.1 | exact h_.1.1.1.1.2 | exact h_.1.1.1.2.1 | exact h_.1.1.1.2.2 | exact h_.1.1.2.1.1 | exact h_.1.1.2.1.2 | exact h_.1.1.2.2.1 | exact h_.1.1.2.2.2 | exact h_.1.2.1.1.1 | exact h_.1.2.1.1.2 | exact h_.1.2.1.2.1 | exact h_.1.2.1.2.2 | exact h_.1.2.2.1.1 | exact h_.1.2.2.1.2 | exact h_.1.2.2.2.1 | exact h_.1.2.2.2.2 | exact h_.2.1.1.1.1 | exact h_.2.1.1.1.2 | exact h_.2.1.1.2.1 | exact h_.2.1.1.2.2 | exact h_.2.1.2.1.1 | exact h_.2.1.2.1.2 | exact h_.2.1.2.2.1 | exact h_.2.1.2.2.2 | exact h_.2.2.1.1.1 | exact h_.2.2.1.1.2 | exact h_.2.2.1.2.1 | exact h_.2.2.1.2.2 | exact h_.2.2.2.1.1 | exact h_.2.2.2.1.2 | exact h_.2.2.2.2.1 | exact h_.2.2.2.2.2)) | exact (show _ from by have h_ := hf_V_in HO1_0.out (by have h0_ : (0 : Int) < (l1_0.length : Int) := (by first | exact of_eq_true (by assumption) | exact Int.lt_trans (by decide : (0 : Int) < 1) (of_eq_true (by assumption))); omega) (by decide); first | exact h_ | exact h_.1 | exact h_.2 | exact h_.1.1 | exact h_.1.2 | exact h_.2.1 | exact h_.2.2 | exact h_.1.1.1 | exact h_.1.1.2 | exact h_.1.2.1 | exact h_.1.2.2 | exact h_.2.1.1 | exact h_.2.1.2 | exact h_.2.2.1 | exact h_.2.2.2 | exact h_.1.1.1.1 | exact h_.1.1.1.2 | exact h_.1.1.2.1 | exact h_.1.1.2.2 | exact h_.1.2.1.1 | exact h_.1.2.1.2 | exact h_.1.2.2.1 | exact h_.1.2.2.2 | exact h_.2.1.1.1 | exact h_.2.1.1.2 | exact h_.2.1.2.1 | exact h_.2.1.2.2 | exact h_.2.2.1.1 | exact h_.2.2.1.2 | exact h_.2.2.2.1 | exact h_.2.2.2.2 | exact h_.1.1.1.1.1 | exact h_.1.1.1.1.2 | exact h_.1.1.1.2.1 | exact h_.1.1.1.2.2 | exact h_.1.1.2.1.1 | exact h_.1.1.2.1.2 | exact h_.1.1.2.2.1 | exact h_.1.1.2.2.2 | exact h_.1.2.1.1.1 | exact h_.1.2.1.1.2 | exact h_.1.2.1.2.1 | exact h_.1.2.1.2.2 | exact h_.1.2.2.1.1 | exact h_.1.2.2.1.2 | exact h_.1.2.2.2.1 | exact h_.1.2.2.2.2 | exact h_.2.1.1.1.1 | exact h_.2.1.1.1.2 | exact h_.2.1.1.2.1 | exact h_.2.1.1.2.2 | exact h_.2.1.2.1.1 | exact h_.2.1.2.1.2 | exact h_.2.1.2.2.1 | exact h_.2.1.2.2.2 | exact h_.2.2.1.1.1 | exact h_.2.2.1.1.2 | exact h_.2.2.1.2.1 | exact h_.2.2.1.2.2 | exact h_.2.2.2.1.1 | exact h_.2.2.2.1.2 | exact h_.2.2.2.2.1 | exact h_.2.2.2.2.2))
    refine ⟨_, rfl, ?_⟩
    replace HO1_0 := Aside0.mk (Kd.V_mono (Kd.V_told (Kd.V_oldK (Kd.V_mono (ok := fun k_ => ((((((P1_0_ k_ ∨ w.heap.size ≤ k_)) ∧ k_ ≠ g) ∧ k_ ≠ gb635) ∧ k_ ≠ gb636) ∧ some k_ ≠ (v646 : Value).ownBlock)) (y13 HO1_0.out) (fun k_ hk_ => (⟨hk_, hk_.1.1.1.2⟩ : _ ∧ k_ ≠ g))) hk) (Kd.N_base ho0)) (fun _ h_ => h_.1))
    replace HL643_0 := Aside0.mk (Kd.V_mono (Kd.V_told (Kd.V_oldK (Kd.V_mono (ok := fun k_ => ((((((P1_0_ k_ ∨ w.heap.size ≤ k_)) ∧ k_ ≠ g) ∧ k_ ≠ gb635) ∧ k_ ≠ gb636) ∧ some k_ ≠ (v646 : Value).ownBlock)) (y13 HL643_0.out) (fun k_ hk_ => (⟨hk_, hk_.1.1.1.2⟩ : _ ∧ k_ ≠ g))) hk) (Kd.N_base ho0)) (fun _ h_ => h_.1))
    replace HL649_0 := Aside0.mk (Kd.V_mono (Kd.V_told (Kd.V_oldK (Kd.V_mono (ok := fun k_ => ((((((P1_0_ k_ ∨ w.heap.size ≤ k_)) ∧ k_ ≠ g) ∧ k_ ≠ gb635) ∧ k_ ≠ gb636) ∧ some k_ ≠ (v646 : Value).ownBlock)) (y13 HL649_0.out) (fun k_ hk_ => (⟨hk_, hk_.1.1.1.2⟩ : _ ∧ k_ ≠ g))) hk) (Kd.N_base ho0)) (fun _ h_ => h_.1))
    have HO653 := Aside0.mk (Kd.N_lower (Kd.N_mono (ok' := fun k_ => (P1_0_ k_ ∨ w.heap.size ≤ k_) ∧ some k_ ≠ (v646 : Value).ownBlock ∧ k_ ≠ gb635 ∧ k_ ≠ gb636 ∧ k_ ≠ g) ho0 (fun k_ hk_ => ⟨Or.elim hk_ (fun hs_ => hs_.1.1.1.1) (fun hn_ => (.inr (Nat.le_trans (keep_size (w := w) (g := g) (row := none) (y11 HK.out GW635.out GW636.out)) hn_))), Or.elim hk_ (fun hs_ => hs_.2) (fun hn_ => (Kd.fresh' (Kd.N_lt (y9 HO647.out)) k_ hn_)), Or.elim hk_ (fun hs_ => hs_.1.1.2) (fun hn_ => (Kd.freshB (g := gb635) (o := .cells #[.slice (some ad643) l1_0.length c1_0] 30 (0, 0)) (y0 BK635.out) k_ hn_)), Or.elim hk_ (fun hs_ => hs_.1.2) (fun hn_ => (Kd.freshB (g := gb636) (o := .cells #[.int .i64 0, .slice none 0 0] 55 (0, 0)) (y0 BK636.out) k_ hn_)), Or.elim hk_ (fun hs_ => hs_.1.1.1.2) (fun hn_ => (IsS95.fresh (y15 HI0.out NB0_635.out NB0_636.out) k_ hn_))⟩)) (keep_size (w := w) (g := g) (row := none) (y11 HK.out GW635.out GW636.out)))
    replace BK635 := Aside0.mk (KeepBut.blk hk (g' := gb635) (o := .cells #[.slice (some ad643) l1_0.length c1_0] 30 (0, 0)) (y0 BK635.out) NB635_0.out (by simp))
    replace BK636 := Aside0.mk (KeepBut.blk hk (g' := gb636) (o := .cells #[.int .i64 0, .slice none 0 0] 55 (0, 0)) (y0 BK636.out) NB636_0.out (by simp))
    replace HO647 := Aside0.mk (Kd.N_mono (Kd.N_told (Kd.N_oldK (Kd.N_mono (ok := fun k_ => (((P1_0_ k_ ∨ w.heap.size ≤ k_)) ∧ (k_ ≠ gb635 ∧ (k_ ≠ gb636 ∧ k_ ≠ g)))) (y9 HO647.out) (fun k_ hk_ => (⟨hk_, hk_.2.2.2⟩ : _ ∧ k_ ≠ g))) hk) (Kd.N_base ho0)) (fun _ h_ => h_.1))
    replace HK := Aside0.mk (KeepBut.trans (y11 HK.out GW635.out GW636.out) hk (.inl rfl))
    replace HB := Aside0.mk (hb)
    replace HI0 := Aside0.mk (hi)
    (try clear hb)
    (try clear hb2)
    (try clear hk)
    (try clear hi)
    (try clear ho0)
    obtain ⟨Ao30, co30, eo30⟩ := Kd.N_slice HO647.out
    (first | subst eo30 | (injection eo30 with f1_ f2_ f3_; have f4_ := f1_.symm; have f5_ := f3_.symm; clear f1_ f2_ f3_; subst f4_; subst f5_))
    obtain ⟨Ao31, co31, eo31⟩ := Kd.N_slice HO653.out
    (first | subst eo31 | (injection eo31 with f1_ f2_ f3_; have f4_ := f1_.symm; have f5_ := f3_.symm; clear f1_ f2_ f3_; subst f4_; subst f5_))
    refine hK.out _ _ ⟨(blk_cell BK635.out 0).trans rfl, HS1_, HS2_⟩ (fun hHeld => ?_)
    clear hK K
    refine norm_ (a' := ?_) ?_ ?_
    rotate_left
    ·show Act.put _ (some 26) _ = _
     simp only [Act.put, List.setIfInBounds_toArray, List.set_cons_zero, List.set_cons_succ, i64_w, i32_w]
     rfl
    refine one_ (i := 12) (N := some 27) #[true, true, true, true, true, true, true, true, true, true, true, true, true, false, false] rfl rfl (one_of HT_.out (by kernel_rfl)) (by decide) (fun K hK => ?_)
    refine Kd.N_lit_step k55 _ 55 ?hg (N' := 27) ?hd (xs := ([(⟨t644, t645⟩ : S55), (⟨t650, t651⟩ : S55)] : List (S55))) (inner := [.int .i64 t644, .slice Ao30 t645.length co30, .int .i64 t650, .slice Ao31 t651.length co31]) (ok := (fun k_ => (P1_0_ k_ ∨ w.heap.size ≤ k_) ∧ k_ ≠ gb635 ∧ k_ ≠ gb636 ∧ k_ ≠ g)) (okp := (fun k_ => (P1_0_ k_ ∨ w.heap.size ≤ k_) ∧ k_ ≠ gb635 ∧ k_ ≠ gb636 ∧ k_ ≠ g)) ?hr ?hp (fun _ hk => hk) ((show ∀ k_, w29.heap.size ≤ k_ → (fun k_ => (P1_0_ k_ ∨ w.heap.size ≤ k_) ∧ k_ ≠ gb635 ∧ k_ ≠ gb636 ∧ k_ ≠ g) k_ from fun k_ hk => ⟨(.inr (Nat.le_trans (keep_size (w := w) (g := g) (row := none) (y11 HK.out GW635.out GW636.out)) hk)), Kd.freshB (g := gb635) (o := .cells #[.slice (some ad643) l1_0.length c1_0] 30 (0, 0)) (y0 BK635.out) k_ hk, Kd.freshB (g := gb636) (o := .cells #[.int .i64 0, .slice none 0 0] 55 (0, 0)) (y0 BK636.out) k_ hk, IsS95.fresh (y15 HI0.out NB0_635.out NB0_636.out) k_ hk⟩) _ (Nat.le_refl _)) (Below.refl _ _) (Nat.le_refl _) (by simp) ?_; (case hd => rfl); (case hg => rfl); (case hr => first | (go_simp; done) | (go_simp; rfl)); (case hp => exact (Reps.c2 (show Kd.FK k55 _ _ (⟨t644, t645⟩ : S55) [.int .i64 t644, .slice Ao30 t645.length co30] from (k55_mkF _ _ (⟨t644, t645⟩ : S55) (Kd.N_reads' (Kd.N_mono (ok' := (fun k_ => (P1_0_ k_ ∨ w.heap.size ≤ k_) ∧ k_ ≠ gb635 ∧ k_ ≠ gb636 ∧ k_ ≠ g)) (HO647.out) (fun k_ hk => ⟨hk.1.1, ⟨hk.1.2.1, ⟨hk.1.2.2.1, hk.1.2.2.2⟩⟩⟩))).2.1 (Kd.N_F (Kd.N_mono (ok' := (fun k_ => (P1_0_ k_ ∨ w.heap.size ≤ k_) ∧ k_ ≠ gb635 ∧ k_ ≠ gb636 ∧ k_ ≠ g)) (HO647.out) (fun k_ hk => ⟨hk.1.1, ⟨hk.1.2.1, ⟨hk.1.2.2.1, hk.1.2.2.2⟩⟩⟩))))) (Reps.c2 (show Kd.FK k55 _ _ (⟨t650, t651⟩ : S55) [.int .i64 t650, .slice Ao31 t651.length co31] from (k55_mkF _ _ (⟨t650, t651⟩ : S55) (Kd.N_reads' (Kd.N_mono (ok' := (fun k_ => (P1_0_ k_ ∨ w.heap.size ≤ k_) ∧ k_ ≠ gb635 ∧ k_ ≠ gb636 ∧ k_ ≠ g)) (HO653.out) (fun k_ hk => ⟨hk.1, ⟨hk.2.2.1, ⟨hk.2.2.2.1, hk.2.2.2.2⟩⟩⟩))).2.1 (Kd.N_F (Kd.N_mono (ok' := (fun k_ => (P1_0_ k_ ∨ w.heap.size ≤ k_) ∧ k_ ≠ gb635 ∧ k_ ≠ gb636 ∧ k_ ≠ g)) (HO653.out) (fun k_ hk => ⟨hk.1, ⟨hk.2.2.1, ⟨hk.2.2.2.1, hk.2.2.2.2⟩⟩⟩))))) (Reps.none _ _))))
    intro v656 w32 ho33 hb hg_ hnew_
    have HS1_ := (hb.cell (World.block_lt_of_cell? _ _ (hHeld.2.1))).trans (hHeld.2.1)
    have HS2_ := (hb.cell (World.block_lt_of_cell? _ _ (hHeld.2.2))).trans (hHeld.2.2)
    clear hg_ hnew_
    (first | rw [← Ny655.out] at ho33 | (simp only [Int.reduceToNat] at ho33; rw [← Ny655.out] at ho33))
    replace HO1_0 := Aside0.mk (Kd.V_elder' (y13 HO1_0.out) (Kd.N_base ho33) hb)
    replace HL643_0 := Aside0.mk (Kd.V_elder' (y13 HL643_0.out) (Kd.N_base ho33) hb)
    replace HL649_0 := Aside0.mk (Kd.V_elder' (y13 HL649_0.out) (Kd.N_base ho33) hb)
    have HO657 := Aside0.mk (Kd.N_lower ho33 (keep_size (w := w) (g := g) (row := none) (y11 HK.out GW635.out GW636.out)))
    replace BK635 := zbb BK635 hb
    replace BK636 := zbb BK636 hb
    replace HK := Aside0.mk (KeepBut.trans (y11 HK.out GW635.out GW636.out) (KeepBut.of_below hb g none) (.inl rfl))
    replace HB := Aside0.mk (below_step (y12 HB.out HI0.out GE635.out GE636.out) hb)
    replace HI0 := Aside0.mk (IsS95.below (y15 HI0.out NB0_635.out NB0_636.out) hb)
    clear HO647 HO653
    clear hb ho33
    obtain ⟨Ao34, co34, eo34⟩ := Kd.N_slice HO657.out
    (first | subst eo34 | (injection eo34 with f1_ f2_ f3_; have f4_ := f1_.symm; have f5_ := f3_.symm; clear f1_ f2_ f3_; subst f4_; subst f5_))
    refine hK.out _ _ ⟨(blk_cell BK635.out 0).trans rfl, HS1_, HS2_⟩ (fun hHeld => ?_)
    clear hK K
    refine norm_ (a' := ?_) ?_ ?_
    rotate_left
    ·show Act.put _ (some 27) _ = _
     simp only [Act.put, List.setIfInBounds_toArray, List.set_cons_zero, List.set_cons_succ, i64_w, i32_w]
     rfl
    refine zp 13 (some 28) HT_ ?_
    refine one_ (i := 14) (N := none) #[true, true, true, true, true, true, true, true, true, true, true, true, true, true, true] rfl rfl (one_of HT_.out (by kernel_rfl)) (by decide) (fun K hK => ?_)
    have hs35 : w32.cell? ⟨gb636, 0, none⟩ = some (.int .i64 0) := (blk_cell BK636.out 0).trans rfl
    have hfs35 := zfr BK636 0
    have hns35_0 := NB635_636.out
    have hms35_0 := NB636_635.out
    have hs36 : w32.cell? ⟨gb636, 1, none⟩ = some (.slice none 0 0) := (blk_cell BK636.out 1).trans rfl
    have hfs36 := zfr BK636 1
    have hns36_0 := NB635_636.out
    have hms36_0 := NB636_635.out
    refine skip_ (w1 := ?_) (by rfl) rfl ?_ ?_
    rotate_left
    ·go_simp
     rfl
    refine hK.out _ _ ⟨((cell_far (p := ⟨gb636, _, none⟩) NB635_636.out _).trans (((cell_far (p := ⟨gb636, _, none⟩) NB635_636.out _).trans (hHeld.1)))), ((cell_far (p := ⟨gb636, _, none⟩) (by first | exact (hf_V_away HO1_0.out (by first | exact Int.ofNat_lt.1 (of_eq_true (by assumption)) | exact Int.ofNat_lt.1 (Int.lt_trans (by decide : (0 : Int) < 1) (of_eq_true (by assumption)))) (by decide) (fun _ hk => hk.1.1.1.2)) | (rw [add_block]; exact (hf_V_away HO1_0.out (by first | exact Int.ofNat_lt.1 (of_eq_true (by assumption)) | exact Int.ofNat_lt.1 (Int.lt_trans (by decide : (0 : Int) < 1) (of_eq_true (by assumption)))) (by decide) (fun _ hk => hk.1.1.1.2))) | (show (Addr.add _ _).block ≠ _; rw [add_block]; exact (hf_V_away HO1_0.out (by first | exact Int.ofNat_lt.1 (of_eq_true (by assumption)) | exact Int.ofNat_lt.1 (Int.lt_trans (by decide : (0 : Int) < 1) (of_eq_true (by assumption)))) (by decide) (fun _ hk => hk.1.1.1.2))) | (dsimp only; exact (hf_V_away HO1_0.out (by first | exact Int.ofNat_lt.1 (of_eq_true (by assumption)) | exact Int.ofNat_lt.1 (Int.lt_trans (by decide : (0 : Int) < 1) (of_eq_true (by assumption)))) (by decide) (fun _ hk => hk.1.1.1.2)))) _).trans (((cell_far (p := ⟨gb636, _, none⟩) (by first | exact (hf_V_away HO1_0.out (by first | exact Int.ofNat_lt.1 (of_eq_true (by assumption)) | exact Int.ofNat_lt.1 (Int.lt_trans (by decide : (0 : Int) < 1) (of_eq_true (by assumption)))) (by decide) (fun _ hk => hk.1.1.1.2)) | (rw [add_block]; exact (hf_V_away HO1_0.out (by first | exact Int.ofNat_lt.1 (of_eq_true (by assumption)) | exact Int.ofNat_lt.1 (Int.lt_trans (by decide : (0 : Int) < 1) (of_eq_true (by assumption)))) (by decide) (fun _ hk => hk.1.1.1.2))) | (show (Addr.add _ _).block ≠ _; rw [add_block]; exact (hf_V_away HO1_0.out (by first | exact Int.ofNat_lt.1 (of_eq_true (by assumption)) | exact Int.ofNat_lt.1 (Int.lt_trans (by decide : (0 : Int) < 1) (of_eq_true (by assumption)))) (by decide) (fun _ hk => hk.1.1.1.2))) | (dsimp only; exact (hf_V_away HO1_0.out (by first | exact Int.ofNat_lt.1 (of_eq_true (by assumption)) | exact Int.ofNat_lt.1 (Int.lt_trans (by decide : (0 : Int) < 1) (of_eq_true (by assumption)))) (by decide) (fun _ hk => hk.1.1.1.2)))) _).trans (hHeld.2.1)))), ((cell_far (p := ⟨gb636, _, none⟩) (by first | exact (hf_V_away HO1_0.out (by first | exact Int.ofNat_lt.1 (of_eq_true (by assumption)) | exact Int.ofNat_lt.1 (Int.lt_trans (by decide : (0 : Int) < 1) (of_eq_true (by assumption)))) (by decide) (fun _ hk => hk.1.1.1.2)) | (rw [add_block]; exact (hf_V_away HO1_0.out (by first | exact Int.ofNat_lt.1 (of_eq_true (by assumption)) | exact Int.ofNat_lt.1 (Int.lt_trans (by decide : (0 : Int) < 1) (of_eq_true (by assumption)))) (by decide) (fun _ hk => hk.1.1.1.2))) | (show (Addr.add _ _).block ≠ _; rw [add_block]; exact (hf_V_away HO1_0.out (by first | exact Int.ofNat_lt.1 (of_eq_true (by assumption)) | exact Int.ofNat_lt.1 (Int.lt_trans (by decide : (0 : Int) < 1) (of_eq_true (by assumption)))) (by decide) (fun _ hk => hk.1.1.1.2))) | (dsimp only; exact (hf_V_away HO1_0.out (by first | exact Int.ofNat_lt.1 (of_eq_true (by assumption)) | exact Int.ofNat_lt.1 (Int.lt_trans (by decide : (0 : Int) < 1) (of_eq_true (by assumption)))) (by decide) (fun _ hk => hk.1.1.1.2)))) _).trans (((cell_far (p := ⟨gb636, _, none⟩) (by first | exact (hf_V_away HO1_0.out (by first | exact Int.ofNat_lt.1 (of_eq_true (by assumption)) | exact Int.ofNat_lt.1 (Int.lt_trans (by decide : (0 : Int) < 1) (of_eq_true (by assumption)))) (by decide) (fun _ hk => hk.1.1.1.2)) | (rw [add_block]; exact (hf_V_away HO1_0.out (by first | exact Int.ofNat_lt.1 (of_eq_true (by assumption)) | exact Int.ofNat_lt.1 (Int.lt_trans (by decide : (0 : Int) < 1) (of_eq_true (by assumption)))) (by decide) (fun _ hk => hk.1.1.1.2))) | (show (Addr.add _ _).block ≠ _; rw [add_block]; exact (hf_V_away HO1_0.out (by first | exact Int.ofNat_lt.1 (of_eq_true (by assumption)) | exact Int.ofNat_lt.1 (Int.lt_trans (by decide : (0 : Int) < 1) (of_eq_true (by assumption)))) (by decide) (fun _ hk => hk.1.1.1.2))) | (dsimp only; exact (hf_V_away HO1_0.out (by first | exact Int.ofNat_lt.1 (of_eq_true (by assumption)) | exact Int.ofNat_lt.1 (Int.lt_trans (by decide : (0 : Int) < 1) (of_eq_true (by assumption)))) (by decide) (fun _ hk => hk.1.1.1.2)))) _).trans (hHeld.2.2))))⟩ (fun hHeld => ?_)
    clear hK K
    refine done_ (done_of HT_.out (by kernel_rfl)) ?_
    try go_wp2
    refine bodyPost_ret (results_cell_row rfl _ _ gb636 55 #[.int .i64 0, .slice Ao34 y655.length co34] (0, 0) _ rfl (by (with_reducible repeat (first | refine blk_drewN ?_ _ | refine blk_drew ?_ | refine blk_alloc ?_ _)); refine blk_put (cs := #[.int .i64 0, .slice none 0 0]) ?_ 1 _ rfl; (with_reducible repeat (first | refine blk_drewN ?_ _ | refine blk_drew ?_ | refine blk_alloc ?_ _)); apply blk_put (i := 0); (case h => exact y0 BK636.out); (case e => rfl)) Try.underlying55 rfl (by kernel_rfl)) rfl ?_
    exact ⟨_, y14, (by (with_reducible repeat (first | apply Kd.N_alloc | apply Kd.N_drewN | apply Kd.N_drew)); exact Kd.N_mono (Kd.N_far (p := ⟨gb636, 1, none⟩) (Kd.N_far (p := ⟨gb636, 0, none⟩) (Kd.N_mono HO657.out (fun k_ hk => (⟨hk, hk.2.2.1⟩ : _ ∧ k_ ≠ gb636))) (fun _ hk => hk.2) (.int .i64 0)) (fun _ hk => hk.2) (.slice Ao34 y655.length co34)) (fun _ hk => hk.1.1)), (y15 HI0.out NB0_635.out NB0_636.out), (y12 HB.out HI0.out GE635.out GE636.out), (y11 HK.out GW635.out GW636.out)⟩
   ·rw [if_neg c20] at H
    exact absurd H (by simp)
  ·rw [if_neg c18] at H
   exact absurd H (by simp)
end Go.Proofs.Ytjhbhihfifhljaa.PA
end
section
namespace Go.Proofs.Ytjhbhihfifhljaa.PA
open Go.RowKit Go.Proofs.YtjhbhihfifhljaaW.PrintWords Go.Proofs.YtjhbhihfifhljaaW.PrintLast Go.Proofs.YtjhbhihfifhljaaW.PrintMore
attribute [local go_sem] max2_int min2_int max_two min_two max_three min_three max_four min_four
set_option linter.unusedVariables false
set_option linter.unusedSimpArgs false
def spec_l71Bad.l0 : Nat → Int → List Int → Int → Int → List (S55) → Option (Int × (List (S55)) × Int)
 | 0, _, _, _, _, _ => none
 | k + 1, x6, x1000, x1001, x666000, x666001 => if x6 < 5 then (spec_l71Bad.l0 k (wrap64 (x6 + 1)) x1000 x1001 0 (([(⟨x666000, x666001⟩ : S55), (⟨0, ([] : List (S55))⟩ : S55)] : List (S55)))) else (some (x666000, x666001, x1001))
def spec_l71Bad.f (k : Nat) (s0_0 : List Int) (s0_1 : Int) (l1_0 : List (S30)) : Option (Int × (List (S55)) × Int) := (spec_l71Val.f k s0_0 s0_1 l1_0).bind fun bt660 => ((spec_l6Rd_pick.f k s0_0 bt660.2.2 12).bind fun bt666 => (if bt666.1 = 0 then ((some (([(-1), 1, 9999, 10000] : List Int) : List Int)).bind fun y668 => ((spec_l6Rd_pick.f k s0_0 bt666.2 4).bind fun bt671 => (if 0 ≤ bt671.1 then (if bt671.1 < (y668.length : Int) then (some (rd y668 bt671.1, bt660.2.1, bt671.2)) else (none)) else (none)))) else (if bt666.1 = 1 then (if bt660.2.1.length < 4398046511104 then (some (bt660.1, (bt660.2.1 ++ [(⟨0, ([] : List (S55))⟩ : S55)]), bt666.2)) else (none)) else (if bt666.1 = 2 then (spec_l71Bad.l0 k 0 s0_0 bt666.2 bt660.1 bt660.2.1) else (some (bt660.1, bt660.2.1, bt666.2))))))
theorem spec_l71Bad.mono_l : ∀ k, (∀ y0 y1 y2 y3 y4, LeO (spec_l71Bad.l0 k y0 y1 y2 y3 y4) (spec_l71Bad.l0 (k + 1) y0 y1 y2 y3 y4))
 | 0 => fun _ _ _ _ _ r h => by simp [spec_l71Bad.l0] at h
 | k + 1 => by
  have ih0 := spec_l71Bad.mono_l k
  ·intro y0 y1 y2 y3 y4
   unfold spec_l71Bad.l0
   repeat' first
   | (with_reducible exact ih0 _ _ _ _ _)
   | (with_reducible exact spec_l6Rd_pick.mono _ _ _ _)
   | (with_reducible exact spec_l71Val.mono _ _ _ _)
   | (with_reducible exact LeO.refl _)
   | (with_reducible exact LeO.none _)
   | (with_reducible refine LeO.ite ?_ ?_)
   | (with_reducible refine LeO.bind ?_ (fun _ => ?_))
   | exact ih0 _ _ _ _ _
   | exact spec_l6Rd_pick.mono _ _ _ _
   | exact spec_l71Val.mono _ _ _ _
   | exact LeO.none _
   | refine LeO.ite ?_ ?_
   | refine LeO.bind ?_ (fun _ => ?_)
theorem spec_l71Bad.mono : ∀ a0 a1 a2 k, LeO (spec_l71Bad.f k a0 a1 a2) (spec_l71Bad.f (k + 1) a0 a1 a2) := by
 intro a0 a1 a2 k
 have ih0 := spec_l71Bad.mono_l k
 unfold spec_l71Bad.f
 repeat' first
   | (with_reducible exact ih0 _ _ _ _ _)
   | (with_reducible exact spec_l6Rd_pick.mono _ _ _ _)
   | (with_reducible exact spec_l71Val.mono _ _ _ _)
   | (with_reducible exact LeO.refl _)
   | (with_reducible exact LeO.none _)
   | (with_reducible refine LeO.ite ?_ ?_)
   | (with_reducible refine LeO.bind ?_ (fun _ => ?_))
   | exact ih0 _ _ _ _ _
   | exact spec_l6Rd_pick.mono _ _ _ _
   | exact spec_l71Val.mono _ _ _ _
   | exact LeO.none _
   | refine LeO.ite ?_ ?_
   | refine LeO.bind ?_ (fun _ => ?_)
set_option maxHeartbeats 8000000 in
set_option maxRecDepth 100000 in
theorem spec_l71Bad.calls (k : Nat) (g : Nat) (s0_0 : List Int) (s0_1 : Int) (P1_0_ : Nat → Prop) (A1_0 : Option Addr) (c1_0 : Nat) (l1_0 : List (S30)) (r1 : Int) (r2 : List (S55)) (r3 : Int) (w0 w : World) (hI : IsS95 w0 w g s0_0 s0_1) (hB : Below w0.heap.size w0 w) (hs1_0 : Kd.V k30 30 w w.heap.size (fun k_ => P1_0_ k_ ∧ k_ ≠ g) (.slice A1_0 l1_0.length c1_0) l1_0) (h : spec_l71Bad.f k s0_0 s0_1 l1_0 = some (r1, r2, r3)) :
  Calls Try.prog 68 #[.pointer (some ⟨g, 0, none⟩), .agg #[.slice A1_0 l1_0.length c1_0]] w fun e w' => ∃ v1_ : Value, e = .returned (.agg #[.int .i64 r1, v1_]) ∧ Kd.N k55 55 w' w.heap.size (fun k_ => (P1_0_ k_ ∨ w.heap.size ≤ k_)) v1_ r2 ∧ IsS95 w0 w' g s0_0 r3 ∧ Below w0.heap.size w0 w' ∧ KeepBut w w' g none := by
 have hu30 := Try.underlying30
 have hu55 := Try.underlying55
 have HO1_0 := Aside0.mk (show Kd.V k30 30 w w.heap.size (fun k_ => (P1_0_ k_ ∨ w.heap.size ≤ k_) ∧ k_ ≠ g) (.slice A1_0 l1_0.length c1_0) l1_0 from Kd.V_mono hs1_0 (fun k_ hk => ⟨.inl hk.1, hk.2⟩))
 have HI0 := Aside0.mk hI
 have HK := Aside0.mk (KeepBut.refl w g none)
 have HL := Aside0.mk hB.size
 clear hI
 have HW0 := Aside0.mk hB.size
 have HB := Aside0.mk hB
 clear hB
 have H : ((spec_l71Val.f k s0_0 s0_1 l1_0).bind fun bt660 => ((spec_l6Rd_pick.f k s0_0 bt660.2.2 12).bind fun bt666 => (if bt666.1 = 0 then ((some (([(-1), 1, 9999, 10000] : List Int) : List Int)).bind fun y668 => ((spec_l6Rd_pick.f k s0_0 bt666.2 4).bind fun bt671 => (if 0 ≤ bt671.1 then (if bt671.1 < (y668.length : Int) then (some (rd y668 bt671.1, bt660.2.1, bt671.2)) else (none)) else (none)))) else (if bt666.1 = 1 then (if bt660.2.1.length < 4398046511104 then (some (bt660.1, (bt660.2.1 ++ [(⟨0, ([] : List (S55))⟩ : S55)]), bt666.2)) else (none)) else (if bt666.1 = 2 then (spec_l71Bad.l0 k 0 s0_0 bt666.2 bt660.1 bt660.2.1) else (some (bt660.1, bt660.2.1, bt666.2))))))) = some (r1, r2, r3) := h
 clear h
 obtain ⟨⟨t660, t661, t664⟩, A30, H⟩ := ob H
 have A3 := Aside0.mk A30
 clear A30
 obtain ⟨⟨t666, t667⟩, A40, H⟩ := ob H
 have A4 := Aside0.mk A40
 clear A40
 by_cases c5 : t666 = 0
 ·rw [if_pos c5] at H
  have c5b0 : (t666 == 0) = true := beq_iff_eq.mpr c5
  have c5b1 : (t666 != 0) = false := bne_eq_false_iff_eq.mpr c5
  clear c5
  obtain ⟨y668, hy668⟩ : ∃ y_ : List Int, y_ = (([(-1), 1, 9999, 10000] : List Int)) := ⟨_, rfl⟩
  replace H : ((spec_l6Rd_pick.f k s0_0 t667 4).bind fun bt671 => (if 0 ≤ bt671.1 then (if bt671.1 < (y668.length : Int) then (some (rd y668 bt671.1, t661, bt671.2)) else (none)) else (none))) = some (r1, r2, r3) := by first | (rw [hy668]; with_reducible exact H) | (have H2_ := (Option.bind_some _ _).symm.trans H; rw [hy668]; with_reducible exact H2_) | (have H2_ := (Option.bind_some _ _).symm.trans H; with_reducible exact H2_) | with_reducible exact H | (rw [hy668]; exact H) | exact H
  have Ny668 := Aside0.mk hy668
  clear hy668
  obtain ⟨⟨t671, t672⟩, A60, H⟩ := ob H
  have A6 := Aside0.mk A60
  clear A60
  by_cases c7 : 0 ≤ t671
  ·rw [if_pos c7] at H
   have c7b0 : decide (0 ≤ t671) = true := decide_eq_true c7
   clear c7
   by_cases c8 : t671 < (y668.length : Int)
   ·rw [if_pos c8] at H
    have c8b0 : decide (t671 < (y668.length : Int)) = true := decide_eq_true c8
    clear c8
    simp only [Option.some.injEq, Prod.mk.injEq] at H
    obtain ⟨rfl, rfl, rfl⟩ := H
    go_enter Try.func68, Try.ntmps68
    go_wp2_with (first | ((with_reducible refine gate_dst (N := 3) rfl ?_); refine zbx 3 #[.slice A1_0 l1_0.length c1_0] 30 ?_; intro gb658 hg w9 hbox hb; replace HO1_0 := Aside0.mk (Kd.V_below (Kd.V_elderB (y13 HO1_0.out) gb658 (Nat.le_of_eq hg.symm)) hb); replace HB := Aside0.mk (below_step (y33 HB.out HI0.out) hb); have BK658 := Aside0.mk hbox; have GW658 := Aside0.mk ((by rw [hg]; exact (keep_size (w := w) (g := g) (row := none) (y25 HK.out)) : w.heap.size ≤ gb658)); have GE658 := Aside0.mk ((Nat.le_trans HW0.out (by rw [hg]; exact (keep_size (w := w) (g := g) (row := none) (y25 HK.out)) : w.heap.size ≤ gb658) : w0.heap.size ≤ gb658)); replace HK := Aside0.mk (KeepBut.trans (y25 HK.out) (KeepBut.of_below hb g none) (.inl rfl)); have NB0_658 := Aside0.mk ((by rw [hg]; exact Nat.ne_of_lt (IsS95.lt (show IsS95 w0 _ g s0_0 s0_1 from by repeat (first | (with_reducible first | exact HI0.out | apply IsS95.alloc | apply IsS95.drewN | apply IsS95.drew | apply IsS95.set_1) | exact HI0.out))) : g ≠ gb658)); have NB658_0 := Aside0.mk ((by rw [hg]; exact Nat.ne_of_gt (IsS95.lt (show IsS95 w0 _ g s0_0 s0_1 from by repeat (first | (with_reducible first | exact HI0.out | apply IsS95.alloc | apply IsS95.drewN | apply IsS95.drew | apply IsS95.set_1) | exact HI0.out))) : gb658 ≠ g)); replace HI0 := Aside0.mk (IsS95.below (y35 HI0.out) hb); clear hb hbox hg) | ((with_reducible refine gate_dst (N := 4) rfl ?_); refine zbx 4 #[.int .i64 0, .slice none 0 0] 55 ?_; intro gb659 hg w10 hbox hb; replace HO1_0 := Aside0.mk (Kd.V_below (Kd.V_elderB (y13 HO1_0.out) gb659 (Nat.le_of_eq hg.symm)) hb); replace HB := Aside0.mk (below_step (y23 HB.out HI0.out GE658.out) hb); have BK659 := Aside0.mk hbox; have GW659 := Aside0.mk ((by rw [hg]; exact (keep_size (w := w) (g := g) (row := none) (y18 HK.out GW658.out)) : w.heap.size ≤ gb659)); have GE659 := Aside0.mk ((Nat.le_trans HW0.out (by rw [hg]; exact (keep_size (w := w) (g := g) (row := none) (y18 HK.out GW658.out)) : w.heap.size ≤ gb659) : w0.heap.size ≤ gb659)); replace HK := Aside0.mk (KeepBut.trans (y18 HK.out GW658.out) (KeepBut.of_below hb g none) (.inl rfl)); have NB658_659 := zltn hg BK658; have NB659_658 := zgtn hg BK658; replace BK658 := zbb BK658 hb; have NB0_659 := Aside0.mk ((by rw [hg]; exact Nat.ne_of_lt (IsS95.lt (show IsS95 w0 _ g s0_0 s0_1 from by repeat (first | (with_reducible first | exact HI0.out | apply IsS95.alloc | apply IsS95.drewN | apply IsS95.drew | apply IsS95.set_1 | refine IsS95.far ?_ NB0_658.out _) | exact HI0.out))) : g ≠ gb659)); have NB659_0 := Aside0.mk ((by rw [hg]; exact Nat.ne_of_gt (IsS95.lt (show IsS95 w0 _ g s0_0 s0_1 from by repeat (first | (with_reducible first | exact HI0.out | apply IsS95.alloc | apply IsS95.drewN | apply IsS95.drew | apply IsS95.set_1 | refine IsS95.far ?_ NB0_658.out _) | exact HI0.out))) : gb659 ≠ g)); replace HI0 := Aside0.mk (IsS95.below (y24 HI0.out NB0_658.out) hb); clear hb hbox hg; have hnb11 := NB658_659.out; have hnc11 := NB659_658.out; have hnb12 := NB658_0.out; have hnc12 := NB0_658.out; have hcz13_0 := zh BK658; have hfz13_0 := zfr BK658 0) | ((with_reducible refine gate_callee (f := 87) rfl ?_); refine goesL_ (some 9) rfl rfl Try.func87 (by kernel_rfl) rfl #[.pointer (some ⟨g, 0, none⟩), .agg #[.slice A1_0 l1_0.length c1_0]] rfl y4 ?_; (with_reducible refine (spec_l71Val.calls k g s0_0 s0_1 (fun k_ => ((((P1_0_ k_ ∨ w.heap.size ≤ k_) ∧ k_ ≠ g) ∧ k_ ≠ gb658) ∧ k_ ≠ gb659)) _ _ l1_0 t660 t661 t664 w0 _ ?side1 ?side2 ?side3 A3.out).mono ?_); (case side1 => exact y15 HI0.out NB0_658.out NB0_659.out); (case side2 => exact y12 HB.out HI0.out GE658.out GE659.out); (case side3 => exact y80 HO1_0.out); rintro e w14 ⟨v662, rfl, ho0, hi, hb, hk⟩; refine ⟨_, rfl, ?_⟩; replace HO1_0 := Aside0.mk (Kd.V_mono (Kd.V_told (Kd.V_oldK (Kd.V_mono (ok := fun k_ => (((((P1_0_ k_ ∨ w.heap.size ≤ k_)) ∧ k_ ≠ g) ∧ k_ ≠ gb658) ∧ k_ ≠ gb659)) (y13 HO1_0.out) (fun k_ hk_ => (⟨hk_, hk_.1.1.2⟩ : _ ∧ k_ ≠ g))) hk) (Kd.N_base ho0)) (fun _ h_ => h_.1)); have HO663 := Aside0.mk (Kd.N_lower (Kd.N_mono (ok' := fun k_ => (P1_0_ k_ ∨ w.heap.size ≤ k_) ∧ k_ ≠ gb658 ∧ k_ ≠ gb659 ∧ k_ ≠ g) ho0 (fun k_ hk_ => ⟨Or.elim hk_ (fun hs_ => hs_.1.1.1) (fun hn_ => (.inr (Nat.le_trans (keep_size (w := w) (g := g) (row := none) (y11 HK.out GW658.out GW659.out)) hn_))), Or.elim hk_ (fun hs_ => hs_.1.2) (fun hn_ => (Kd.freshB (g := gb658) (o := .cells #[.slice A1_0 l1_0.length c1_0] 30 (0, 0)) (y0 BK658.out) k_ hn_)), Or.elim hk_ (fun hs_ => hs_.2) (fun hn_ => (Kd.freshB (g := gb659) (o := .cells #[.int .i64 0, .slice none 0 0] 55 (0, 0)) (y0 BK659.out) k_ hn_)), Or.elim hk_ (fun hs_ => hs_.1.1.2) (fun hn_ => (IsS95.fresh (y15 HI0.out NB0_658.out NB0_659.out) k_ hn_))⟩)) (keep_size (w := w) (g := g) (row := none) (y11 HK.out GW658.out GW659.out))); replace BK658 := Aside0.mk (KeepBut.blk hk (g' := gb658) (o := .cells #[.slice A1_0 l1_0.length c1_0] 30 (0, 0)) (y0 BK658.out) NB658_0.out (by simp)); replace BK659 := Aside0.mk (KeepBut.blk hk (g' := gb659) (o := .cells #[.int .i64 0, .slice none 0 0] 55 (0, 0)) (y0 BK659.out) NB659_0.out (by simp)); replace HK := Aside0.mk (KeepBut.trans (y11 HK.out GW658.out GW659.out) hk (.inl rfl)); replace HB := Aside0.mk (hb); replace HI0 := Aside0.mk (hi); (try clear hb); (try clear hb2); (try clear hk); (try clear hi); (try clear ho0)) | ((with_reducible refine gate_dst (N := 5) rfl ?_); refine zbx 5 #[.int .i64 0, .slice none 0 0] 55 ?_; intro gb665 hg w15 hbox hb; replace HO1_0 := Aside0.mk (Kd.V_below (Kd.V_elderB (y13 HO1_0.out) gb665 (Nat.le_of_eq hg.symm)) hb); replace HO663 := Aside0.mk (Kd.N_below (Kd.N_elderB (y9 HO663.out) gb665 (Nat.le_of_eq hg.symm)) hb); replace HB := Aside0.mk (below_step (y12 HB.out HI0.out GE658.out GE659.out) hb); have BK665 := Aside0.mk hbox; have GW665 := Aside0.mk ((by rw [hg]; exact (keep_size (w := w) (g := g) (row := none) (y11 HK.out GW658.out GW659.out)) : w.heap.size ≤ gb665)); have GE665 := Aside0.mk ((Nat.le_trans HW0.out (by rw [hg]; exact (keep_size (w := w) (g := g) (row := none) (y11 HK.out GW658.out GW659.out)) : w.heap.size ≤ gb665) : w0.heap.size ≤ gb665)); replace HK := Aside0.mk (KeepBut.trans (y11 HK.out GW658.out GW659.out) (KeepBut.of_below hb g none) (.inl rfl)); have NB658_665 := zltn hg BK658; have NB665_658 := zgtn hg BK658; replace BK658 := zbb BK658 hb; have NB659_665 := zltn hg BK659; have NB665_659 := zgtn hg BK659; replace BK659 := zbb BK659 hb; have NB0_665 := Aside0.mk ((by rw [hg]; exact Nat.ne_of_lt (IsS95.lt (show IsS95 w0 _ g s0_0 t664 from by repeat (first | (with_reducible first | exact HI0.out | apply IsS95.alloc | apply IsS95.drewN | apply IsS95.drew | apply IsS95.set_1 | refine IsS95.far ?_ NB0_658.out _ | refine IsS95.far ?_ NB0_659.out _) | exact HI0.out))) : g ≠ gb665)); have NB665_0 := Aside0.mk ((by rw [hg]; exact Nat.ne_of_gt (IsS95.lt (show IsS95 w0 _ g s0_0 t664 from by repeat (first | (with_reducible first | exact HI0.out | apply IsS95.alloc | apply IsS95.drewN | apply IsS95.drew | apply IsS95.set_1 | refine IsS95.far ?_ NB0_658.out _ | refine IsS95.far ?_ NB0_659.out _) | exact HI0.out))) : gb665 ≠ g)); replace HI0 := Aside0.mk (IsS95.below (y15 HI0.out NB0_658.out NB0_659.out) hb); clear hb hbox hg; have hnb16 := NB665_658.out; have hnc16 := NB658_665.out; have hnb17 := NB665_659.out; have hnc17 := NB659_665.out; have hnb18 := NB665_0.out; have hnc18 := NB0_665.out; have hcz19_0 := zh BK665; have hcz19_1 := zh1 BK665; have hfz19_0 := zfr BK665 0; have hfz19_1 := zfr BK665 1; obtain ⟨Ao20, co20, eo20⟩ := Kd.N_slice HO663.out; subst eo20) | ((with_reducible refine gate_callee (f := 58) rfl ?_); refine goesL_ (some 11) rfl rfl Try.func58 (by kernel_rfl) rfl #[.pointer (some ⟨g, 0, none⟩), .int .i64 12] rfl y4 ?_; (with_reducible refine (spec_l6Rd_pick.calls k g s0_0 t664 12 t666 t667 w0 _ ?side1 ?side2 A4.out).mono ?_); (case side1 => exact y28 HI0.out NB0_658.out NB0_659.out NB0_665.out); (case side2 => exact y22 HB.out HI0.out GE658.out GE659.out GE665.out); rintro e w21 ⟨rfl, hi, hb, hk⟩; refine ⟨_, rfl, ?_⟩; replace HO1_0 := Aside0.mk (Kd.V_mono (Kd.V_keep (Kd.V_mono (ok := fun k_ => (((((((P1_0_ k_ ∨ w.heap.size ≤ k_)) ∧ k_ ≠ g) ∧ k_ ≠ gb658) ∧ k_ ≠ gb659) ∧ some k_ ≠ (.slice Ao20 t661.length co20 : Value).ownBlock) ∧ k_ ≠ gb665)) (by (with_reducible repeat (first | apply Kd.V_alloc | apply Kd.V_drewN | apply Kd.V_drew)); exact (Kd.V_mono (Kd.V_far (p := ⟨gb665, 1, none⟩) (Kd.V_far (p := ⟨gb665, 0, none⟩) (Kd.V_mono HO1_0.out (fun k_ hk => (⟨hk, hk.2⟩ : _ ∧ k_ ≠ gb665))) (fun _ hk => hk.2) (.int .i64 t660)) (fun _ hk => hk.2) (.slice Ao20 t661.length co20)) (fun _ h_ => h_.1))) (fun k_ hk_ => (⟨hk_, hk_.1.1.1.1.2⟩ : _ ∧ k_ ≠ g))) hk (fun _ h => h.2)) (fun _ h => h.1)); replace BK658 := Aside0.mk (KeepBut.blk hk (g' := gb658) (o := .cells #[.slice A1_0 l1_0.length c1_0] 30 (0, 0)) (y17 NB658_665.out BK658.out) NB658_0.out (by simp)); replace BK659 := Aside0.mk (KeepBut.blk hk (g' := gb659) (o := .cells #[.int .i64 0, .slice none 0 0] 55 (0, 0)) (y17 NB659_665.out BK659.out) NB659_0.out (by simp)); replace HO663 := Aside0.mk (Kd.N_mono (Kd.N_keep (Kd.N_mono (ok := fun k_ => ((((P1_0_ k_ ∨ w.heap.size ≤ k_)) ∧ (k_ ≠ gb658 ∧ (k_ ≠ gb659 ∧ k_ ≠ g))) ∧ k_ ≠ gb665)) (by (with_reducible repeat (first | apply Kd.N_alloc | apply Kd.N_drewN | apply Kd.N_drew)); exact (Kd.N_mono (Kd.N_far (p := ⟨gb665, 1, none⟩) (Kd.N_far (p := ⟨gb665, 0, none⟩) (Kd.N_mono HO663.out (fun k_ hk => (⟨hk, hk.2⟩ : _ ∧ k_ ≠ gb665))) (fun _ hk => hk.2) (.int .i64 t660)) (fun _ hk => hk.2) (.slice Ao20 t661.length co20)) (fun _ h_ => h_.1))) (fun k_ hk_ => (⟨hk_, hk_.1.2.2.2⟩ : _ ∧ k_ ≠ g))) hk (fun _ h => h.2)) (fun _ h => h.1)); replace BK665 := Aside0.mk (KeepBut.blk hk (g' := gb665) (o := .cells #[.int .i64 t660, .slice Ao20 t661.length co20] 55 (0, 0)) (by (with_reducible repeat (first | refine blk_drewN ?_ _ | refine blk_drew ?_ | refine blk_alloc ?_ _)); refine blk_put (cs := #[.int .i64 t660, .slice none 0 0]) ?_ 1 _ rfl; (with_reducible repeat (first | refine blk_drewN ?_ _ | refine blk_drew ?_ | refine blk_alloc ?_ _)); apply blk_put (i := 0); (case h => exact y0 BK665.out); (case e => rfl)) NB665_0.out (by simp)); replace HK := Aside0.mk (KeepBut.trans (y32 HK.out GW658.out GW659.out GW665.out) hk (.inl rfl)); replace HB := Aside0.mk (hb); replace HI0 := Aside0.mk (hi); (try clear hb); (try clear hb2); (try clear hk); (try clear hi)) | ((with_reducible refine gate_dst (N := 14) rfl ?_); refine Kd.R_lit (Kd.int .i64) _ 3 ?hg (N := 14) ?hd (xs := ([(-1), 1, 9999, 10000] : List Int)) (inner := [.int .i64 (-1), .int .i64 1, .int .i64 9999, .int .i64 10000]) (ok := fun _ => True) (okp := fun _ => True) ?hr ?hp (fun _ hk => hk) trivial (Below.refl _ _) (Nat.le_refl _) (by simp) ?_; (case hd => rfl); (case hg => rfl); (case hr => first | (go_simp; done) | (go_simp; rfl)); (case hp => exact (Reps.one (show Kd.M (Kd.int .i64) _ _ _ (-1) [.int .i64 (-1)] from rfl) (Reps.one (show Kd.M (Kd.int .i64) _ _ _ 1 [.int .i64 1] from rfl) (Reps.one (show Kd.M (Kd.int .i64) _ _ _ 9999 [.int .i64 9999] from rfl) (Reps.one (show Kd.M (Kd.int .i64) _ _ _ 10000 [.int .i64 10000] from rfl) (Reps.none _ _)))))); intro v669 w22 ho23 hb hg_ hnew_; clear hg_ hnew_; (first | rw [← Ny668.out] at ho23 | (simp only [Int.reduceToNat] at ho23; rw [← Ny668.out] at ho23)); replace HO1_0 := Aside0.mk (Kd.V_elder' (y13 HO1_0.out) (Kd.R_base ho23) hb); replace HO663 := Aside0.mk (Kd.N_elder' (y9 HO663.out) (Kd.R_base ho23) hb); have HO670 := Aside0.mk (Kd.R_lower (Kd.R_newM (M := fun k_ => (w.heap.size ≤ k_)) ho23 (keep_size (w := w) (g := g) (row := none) (y32 HK.out GW658.out GW659.out GW665.out)) (fun k_ h_ => h_)) (keep_size (w := w) (g := g) (row := none) (y32 HK.out GW658.out GW659.out GW665.out))); replace BK658 := zbb BK658 hb; replace BK659 := zbb BK659 hb; replace BK665 := zbb BK665 hb; replace HK := Aside0.mk (KeepBut.trans (y32 HK.out GW658.out GW659.out GW665.out) (KeepBut.of_below hb g none) (.inl rfl)); replace HB := Aside0.mk (below_step (y22 HB.out HI0.out GE658.out GE659.out GE665.out) hb); replace HI0 := Aside0.mk (IsS95.below (y28 HI0.out NB0_658.out NB0_659.out NB0_665.out) hb); clear hb ho23) | ((with_reducible refine gate_callee (f := 58) rfl ?_); refine goesL_ (some 16) rfl rfl Try.func58 (by kernel_rfl) rfl #[.pointer (some ⟨g, 0, none⟩), .int .i64 4] rfl y4 ?_; (with_reducible refine (spec_l6Rd_pick.calls k g s0_0 t667 4 t671 t672 w0 _ ?side1 ?side2 A6.out).mono ?_); (case side1 => exact y28 HI0.out NB0_658.out NB0_659.out NB0_665.out); (case side2 => exact y22 HB.out HI0.out GE658.out GE659.out GE665.out); rintro e w24 ⟨rfl, hi, hb, hk⟩; refine ⟨_, rfl, ?_⟩; replace HO1_0 := Aside0.mk (Kd.V_mono (Kd.V_keep (Kd.V_mono (ok := fun k_ => ((((((((P1_0_ k_ ∨ w.heap.size ≤ k_)) ∧ k_ ≠ g) ∧ k_ ≠ gb658) ∧ k_ ≠ gb659) ∧ some k_ ≠ (.slice Ao20 t661.length co20 : Value).ownBlock) ∧ k_ ≠ gb665) ∧ some k_ ≠ (v669 : Value).ownBlock)) (y13 HO1_0.out) (fun k_ hk_ => (⟨hk_, hk_.1.1.1.1.1.2⟩ : _ ∧ k_ ≠ g))) hk (fun _ h => h.2)) (fun _ h => h.1)); replace BK658 := Aside0.mk (KeepBut.blk hk (g' := gb658) (o := .cells #[.slice A1_0 l1_0.length c1_0] 30 (0, 0)) (y0 BK658.out) NB658_0.out (by simp)); replace BK659 := Aside0.mk (KeepBut.blk hk (g' := gb659) (o := .cells #[.int .i64 0, .slice none 0 0] 55 (0, 0)) (y0 BK659.out) NB659_0.out (by simp)); replace HO663 := Aside0.mk (Kd.N_mono (Kd.N_keep (Kd.N_mono (ok := fun k_ => (((((P1_0_ k_ ∨ w.heap.size ≤ k_)) ∧ (k_ ≠ gb658 ∧ (k_ ≠ gb659 ∧ k_ ≠ g))) ∧ k_ ≠ gb665) ∧ some k_ ≠ (v669 : Value).ownBlock)) (y9 HO663.out) (fun k_ hk_ => (⟨hk_, hk_.1.1.2.2.2⟩ : _ ∧ k_ ≠ g))) hk (fun _ h => h.2)) (fun _ h => h.1)); replace BK665 := Aside0.mk (KeepBut.blk hk (g' := gb665) (o := .cells #[.int .i64 t660, .slice Ao20 t661.length co20] 55 (0, 0)) (y0 BK665.out) NB665_0.out (by simp)); replace HO670 := Aside0.mk (Kd.R_mono (Kd.R_keep (IsS95.apart (show IsS95 w0 _ g s0_0 t667 from by repeat (first | (with_reducible first | exact HI0.out | apply IsS95.alloc | apply IsS95.drewN | apply IsS95.drew | apply IsS95.set_1 | refine IsS95.far ?_ NB0_658.out _ | refine IsS95.far ?_ NB0_659.out _ | refine IsS95.far ?_ NB0_665.out _) | exact HI0.out)) (y10 HO670.out) (by decide)) hk (fun _ h => h.2)) (fun _ h => h.1)); replace HK := Aside0.mk (KeepBut.trans (y32 HK.out GW658.out GW659.out GW665.out) hk (.inl rfl)); replace HB := Aside0.mk (hb); replace HI0 := Aside0.mk (hi); (try clear hb); (try clear hb2); (try clear hk); (try clear hi); obtain ⟨Ao25, co25, eo25⟩ := Kd.R_slice HO670.out; subst eo25; have p673 : 0 ≤ (t671 : Int) := of_decide_eq_true y19; have q673 : t671 < (y668.length : Int) := of_decide_eq_true y19; obtain ⟨ad673, e673, hx673_0⟩ := Kd.at_int (Kd.R_reads' HO670.out).2.2 t671 p673 q673; cases e673; replace p673 := eq_true p673; replace q673 := eq_true q673; have hcz26_0 := zh BK665; have hcz26_1 := zh1 BK665; have hfz26_0 := zfr BK665 0; have hfz26_1 := zfr BK665 1; have hnb27 := NB659_0.out; have hnc27 := NB0_659.out; have hcz28_0 := zh BK659; have hcz28_1 := zh1 BK659; have hfz28_0 := zfr BK659 0; have hfz28_1 := zfr BK659 1))
    refine bodyPost_ret (results_cell_row rfl _ _ gb659 55 #[.int .i64 (rd y668 t671), .slice Ao20 t661.length co20] (0, 0) _ rfl (by (with_reducible repeat (first | refine blk_drewN ?_ _ | refine blk_drew ?_ | refine blk_alloc ?_ _)); refine blk_put (cs := #[.int .i64 (rd y668 t671), .slice none 0 0]) ?_ 1 _ rfl; (with_reducible repeat (first | refine blk_drewN ?_ _ | refine blk_drew ?_ | refine blk_alloc ?_ _)); refine blk_put (cs := #[.int .i64 0, .slice none 0 0]) ?_ 0 _ rfl; (with_reducible repeat (first | refine blk_drewN ?_ _ | refine blk_drew ?_ | refine blk_alloc ?_ _)); refine blk_far ?_ NB659_665.out _; (with_reducible repeat (first | refine blk_drewN ?_ _ | refine blk_drew ?_ | refine blk_alloc ?_ _)); exact BK659.out) Try.underlying55 rfl (by kernel_rfl)) rfl ?_
    exact ⟨_, y14, (by (with_reducible repeat (first | apply Kd.N_alloc | apply Kd.N_drewN | apply Kd.N_drew)); exact Kd.N_mono (Kd.N_far (p := ⟨gb659, 1, none⟩) (Kd.N_far (p := ⟨gb659, 0, none⟩) (Kd.N_far (p := ⟨gb665, 0, none⟩) (Kd.N_mono (Kd.N_mono HO663.out (fun k_ hk => (⟨hk, hk.1.2⟩ : _ ∧ k_ ≠ gb665))) (fun k_ hk => (⟨hk, hk.1.1.1.2.2.1⟩ : _ ∧ k_ ≠ gb659))) (fun _ hk => hk.1.2) (.int .i64 (rd y668 t671))) (fun _ hk => hk.2) (.int .i64 (rd y668 t671))) (fun _ hk => hk.2) (.slice Ao20 t661.length co20)) (fun _ hk => hk.1.1.1.1.1)), (y28 HI0.out NB0_658.out NB0_659.out NB0_665.out), (y22 HB.out HI0.out GE658.out GE659.out GE665.out), (y32 HK.out GW658.out GW659.out GW665.out)⟩
   ·rw [if_neg c8] at H
    exact absurd H (by simp)
  ·rw [if_neg c7] at H
   exact absurd H (by simp)
 ·rw [if_neg c5] at H
  have c5b0 : (t666 == 0) = false := beq_eq_false_iff_ne.mpr c5
  have c5b1 : (t666 != 0) = true := bne_iff_ne.mpr c5
  by_cases c29 : t666 = 1
  ·rw [if_pos c29] at H
   have c29b0 : (t666 == 1) = true := beq_iff_eq.mpr c29
   have c29b1 : (t666 != 1) = false := bne_eq_false_iff_eq.mpr c29
   clear c29
   by_cases c30 : t661.length < 4398046511104
   ·rw [if_pos c30] at H
    have LMc30 := Aside0.mk c30
    clear c30
    obtain ⟨y674, hy674⟩ : ∃ y_ : List (S55), y_ = (t661 ++ [(⟨0, ([] : List (S55))⟩ : S55)]) := ⟨_, rfl⟩
    replace H : (some (t660, y674, t667)) = some (r1, r2, r3) := by first | (rw [hy674]; with_reducible exact H) | (have H2_ := (Option.bind_some _ _).symm.trans H; rw [hy674]; with_reducible exact H2_) | (have H2_ := (Option.bind_some _ _).symm.trans H; with_reducible exact H2_) | with_reducible exact H | (rw [hy674]; exact H) | exact H
    have Ny674 := Aside0.mk hy674
    clear hy674
    simp only [Option.some.injEq, Prod.mk.injEq] at H
    obtain ⟨rfl, rfl, rfl⟩ := H
    go_enter Try.func68, Try.ntmps68
    go_wp2_with (first | ((with_reducible refine gate_dst (N := 3) rfl ?_); refine zbx 3 #[.slice A1_0 l1_0.length c1_0] 30 ?_; intro gb658 hg w31 hbox hb; replace HO1_0 := Aside0.mk (Kd.V_below (Kd.V_elderB (y13 HO1_0.out) gb658 (Nat.le_of_eq hg.symm)) hb); replace HB := Aside0.mk (below_step (y33 HB.out HI0.out) hb); have BK658 := Aside0.mk hbox; have GW658 := Aside0.mk ((by rw [hg]; exact (keep_size (w := w) (g := g) (row := none) (y25 HK.out)) : w.heap.size ≤ gb658)); have GE658 := Aside0.mk ((Nat.le_trans HW0.out (by rw [hg]; exact (keep_size (w := w) (g := g) (row := none) (y25 HK.out)) : w.heap.size ≤ gb658) : w0.heap.size ≤ gb658)); replace HK := Aside0.mk (KeepBut.trans (y25 HK.out) (KeepBut.of_below hb g none) (.inl rfl)); have NB0_658 := Aside0.mk ((by rw [hg]; exact Nat.ne_of_lt (IsS95.lt (show IsS95 w0 _ g s0_0 s0_1 from by repeat (first | (with_reducible first | exact HI0.out | apply IsS95.alloc | apply IsS95.drewN | apply IsS95.drew | apply IsS95.set_1) | exact HI0.out))) : g ≠ gb658)); have NB658_0 := Aside0.mk ((by rw [hg]; exact Nat.ne_of_gt (IsS95.lt (show IsS95 w0 _ g s0_0 s0_1 from by repeat (first | (with_reducible first | exact HI0.out | apply IsS95.alloc | apply IsS95.drewN | apply IsS95.drew | apply IsS95.set_1) | exact HI0.out))) : gb658 ≠ g)); replace HI0 := Aside0.mk (IsS95.below (y35 HI0.out) hb); clear hb hbox hg) | ((with_reducible refine gate_dst (N := 4) rfl ?_); refine zbx 4 #[.int .i64 0, .slice none 0 0] 55 ?_; intro gb659 hg w32 hbox hb; replace HO1_0 := Aside0.mk (Kd.V_below (Kd.V_elderB (y13 HO1_0.out) gb659 (Nat.le_of_eq hg.symm)) hb); replace HB := Aside0.mk (below_step (y23 HB.out HI0.out GE658.out) hb); have BK659 := Aside0.mk hbox; have GW659 := Aside0.mk ((by rw [hg]; exact (keep_size (w := w) (g := g) (row := none) (y18 HK.out GW658.out)) : w.heap.size ≤ gb659)); have GE659 := Aside0.mk ((Nat.le_trans HW0.out (by rw [hg]; exact (keep_size (w := w) (g := g) (row := none) (y18 HK.out GW658.out)) : w.heap.size ≤ gb659) : w0.heap.size ≤ gb659)); replace HK := Aside0.mk (KeepBut.trans (y18 HK.out GW658.out) (KeepBut.of_below hb g none) (.inl rfl)); have NB658_659 := zltn hg BK658; have NB659_658 := zgtn hg BK658; replace BK658 := zbb BK658 hb; have NB0_659 := Aside0.mk ((by rw [hg]; exact Nat.ne_of_lt (IsS95.lt (show IsS95 w0 _ g s0_0 s0_1 from by repeat (first | (with_reducible first | exact HI0.out | apply IsS95.alloc | apply IsS95.drewN | apply IsS95.drew | apply IsS95.set_1 | refine IsS95.far ?_ NB0_658.out _) | exact HI0.out))) : g ≠ gb659)); have NB659_0 := Aside0.mk ((by rw [hg]; exact Nat.ne_of_gt (IsS95.lt (show IsS95 w0 _ g s0_0 s0_1 from by repeat (first | (with_reducible first | exact HI0.out | apply IsS95.alloc | apply IsS95.drewN | apply IsS95.drew | apply IsS95.set_1 | refine IsS95.far ?_ NB0_658.out _) | exact HI0.out))) : gb659 ≠ g)); replace HI0 := Aside0.mk (IsS95.below (y24 HI0.out NB0_658.out) hb); clear hb hbox hg; have hnb33 := NB658_659.out; have hnc33 := NB659_658.out; have hnb34 := NB658_0.out; have hnc34 := NB0_658.out; have hcz35_0 := zh BK658; have hfz35_0 := zfr BK658 0) | ((with_reducible refine gate_callee (f := 87) rfl ?_); refine goesL_ (some 9) rfl rfl Try.func87 (by kernel_rfl) rfl #[.pointer (some ⟨g, 0, none⟩), .agg #[.slice A1_0 l1_0.length c1_0]] rfl y4 ?_; (with_reducible refine (spec_l71Val.calls k g s0_0 s0_1 (fun k_ => ((((P1_0_ k_ ∨ w.heap.size ≤ k_) ∧ k_ ≠ g) ∧ k_ ≠ gb658) ∧ k_ ≠ gb659)) _ _ l1_0 t660 t661 t664 w0 _ ?side1 ?side2 ?side3 A3.out).mono ?_); (case side1 => exact y15 HI0.out NB0_658.out NB0_659.out); (case side2 => exact y12 HB.out HI0.out GE658.out GE659.out); (case side3 => exact y80 HO1_0.out); rintro e w36 ⟨v662, rfl, ho0, hi, hb, hk⟩; refine ⟨_, rfl, ?_⟩; replace HO1_0 := Aside0.mk (Kd.V_mono (Kd.V_told (Kd.V_oldK (Kd.V_mono (ok := fun k_ => (((((P1_0_ k_ ∨ w.heap.size ≤ k_)) ∧ k_ ≠ g) ∧ k_ ≠ gb658) ∧ k_ ≠ gb659)) (y13 HO1_0.out) (fun k_ hk_ => (⟨hk_, hk_.1.1.2⟩ : _ ∧ k_ ≠ g))) hk) (Kd.N_base ho0)) (fun _ h_ => h_.1)); have HO663 := Aside0.mk (Kd.N_lower (Kd.N_mono (ok' := fun k_ => (P1_0_ k_ ∨ w.heap.size ≤ k_) ∧ k_ ≠ gb658 ∧ k_ ≠ gb659 ∧ k_ ≠ g) ho0 (fun k_ hk_ => ⟨Or.elim hk_ (fun hs_ => hs_.1.1.1) (fun hn_ => (.inr (Nat.le_trans (keep_size (w := w) (g := g) (row := none) (y11 HK.out GW658.out GW659.out)) hn_))), Or.elim hk_ (fun hs_ => hs_.1.2) (fun hn_ => (Kd.freshB (g := gb658) (o := .cells #[.slice A1_0 l1_0.length c1_0] 30 (0, 0)) (y0 BK658.out) k_ hn_)), Or.elim hk_ (fun hs_ => hs_.2) (fun hn_ => (Kd.freshB (g := gb659) (o := .cells #[.int .i64 0, .slice none 0 0] 55 (0, 0)) (y0 BK659.out) k_ hn_)), Or.elim hk_ (fun hs_ => hs_.1.1.2) (fun hn_ => (IsS95.fresh (y15 HI0.out NB0_658.out NB0_659.out) k_ hn_))⟩)) (keep_size (w := w) (g := g) (row := none) (y11 HK.out GW658.out GW659.out))); replace BK658 := Aside0.mk (KeepBut.blk hk (g' := gb658) (o := .cells #[.slice A1_0 l1_0.length c1_0] 30 (0, 0)) (y0 BK658.out) NB658_0.out (by simp)); replace BK659 := Aside0.mk (KeepBut.blk hk (g' := gb659) (o := .cells #[.int .i64 0, .slice none 0 0] 55 (0, 0)) (y0 BK659.out) NB659_0.out (by simp)); replace HK := Aside0.mk (KeepBut.trans (y11 HK.out GW658.out GW659.out) hk (.inl rfl)); replace HB := Aside0.mk (hb); replace HI0 := Aside0.mk (hi); (try clear hb); (try clear hb2); (try clear hk); (try clear hi); (try clear ho0)) | ((with_reducible refine gate_dst (N := 5) rfl ?_); refine zbx 5 #[.int .i64 0, .slice none 0 0] 55 ?_; intro gb665 hg w37 hbox hb; replace HO1_0 := Aside0.mk (Kd.V_below (Kd.V_elderB (y13 HO1_0.out) gb665 (Nat.le_of_eq hg.symm)) hb); replace HO663 := Aside0.mk (Kd.N_below (Kd.N_elderB (y9 HO663.out) gb665 (Nat.le_of_eq hg.symm)) hb); replace HB := Aside0.mk (below_step (y12 HB.out HI0.out GE658.out GE659.out) hb); have BK665 := Aside0.mk hbox; have GW665 := Aside0.mk ((by rw [hg]; exact (keep_size (w := w) (g := g) (row := none) (y11 HK.out GW658.out GW659.out)) : w.heap.size ≤ gb665)); have GE665 := Aside0.mk ((Nat.le_trans HW0.out (by rw [hg]; exact (keep_size (w := w) (g := g) (row := none) (y11 HK.out GW658.out GW659.out)) : w.heap.size ≤ gb665) : w0.heap.size ≤ gb665)); replace HK := Aside0.mk (KeepBut.trans (y11 HK.out GW658.out GW659.out) (KeepBut.of_below hb g none) (.inl rfl)); have NB658_665 := zltn hg BK658; have NB665_658 := zgtn hg BK658; replace BK658 := zbb BK658 hb; have NB659_665 := zltn hg BK659; have NB665_659 := zgtn hg BK659; replace BK659 := zbb BK659 hb; have NB0_665 := Aside0.mk ((by rw [hg]; exact Nat.ne_of_lt (IsS95.lt (show IsS95 w0 _ g s0_0 t664 from by repeat (first | (with_reducible first | exact HI0.out | apply IsS95.alloc | apply IsS95.drewN | apply IsS95.drew | apply IsS95.set_1 | refine IsS95.far ?_ NB0_658.out _ | refine IsS95.far ?_ NB0_659.out _) | exact HI0.out))) : g ≠ gb665)); have NB665_0 := Aside0.mk ((by rw [hg]; exact Nat.ne_of_gt (IsS95.lt (show IsS95 w0 _ g s0_0 t664 from by repeat (first | (with_reducible first | exact HI0.out | apply IsS95.alloc | apply IsS95.drewN | apply IsS95.drew | apply IsS95.set_1 | refine IsS95.far ?_ NB0_658.out _ | refine IsS95.far ?_ NB0_659.out _) | exact HI0.out))) : gb665 ≠ g)); replace HI0 := Aside0.mk (IsS95.below (y15 HI0.out NB0_658.out NB0_659.out) hb); clear hb hbox hg; have hnb38 := NB665_658.out; have hnc38 := NB658_665.out; have hnb39 := NB665_659.out; have hnc39 := NB659_665.out; have hnb40 := NB665_0.out; have hnc40 := NB0_665.out; have hcz41_0 := zh BK665; have hcz41_1 := zh1 BK665; have hfz41_0 := zfr BK665 0; have hfz41_1 := zfr BK665 1; obtain ⟨Ao42, co42, eo42⟩ := Kd.N_slice HO663.out; subst eo42) | ((with_reducible refine gate_callee (f := 58) rfl ?_); refine goesL_ (some 11) rfl rfl Try.func58 (by kernel_rfl) rfl #[.pointer (some ⟨g, 0, none⟩), .int .i64 12] rfl y4 ?_; (with_reducible refine (spec_l6Rd_pick.calls k g s0_0 t664 12 t666 t667 w0 _ ?side1 ?side2 A4.out).mono ?_); (case side1 => exact y28 HI0.out NB0_658.out NB0_659.out NB0_665.out); (case side2 => exact y22 HB.out HI0.out GE658.out GE659.out GE665.out); rintro e w43 ⟨rfl, hi, hb, hk⟩; refine ⟨_, rfl, ?_⟩; replace HO1_0 := Aside0.mk (Kd.V_mono (Kd.V_keep (Kd.V_mono (ok := fun k_ => (((((((P1_0_ k_ ∨ w.heap.size ≤ k_)) ∧ k_ ≠ g) ∧ k_ ≠ gb658) ∧ k_ ≠ gb659) ∧ some k_ ≠ (.slice Ao42 t661.length co42 : Value).ownBlock) ∧ k_ ≠ gb665)) (by (with_reducible repeat (first | apply Kd.V_alloc | apply Kd.V_drewN | apply Kd.V_drew)); exact (Kd.V_mono (Kd.V_far (p := ⟨gb665, 1, none⟩) (Kd.V_far (p := ⟨gb665, 0, none⟩) (Kd.V_mono HO1_0.out (fun k_ hk => (⟨hk, hk.2⟩ : _ ∧ k_ ≠ gb665))) (fun _ hk => hk.2) (.int .i64 t660)) (fun _ hk => hk.2) (.slice Ao42 t661.length co42)) (fun _ h_ => h_.1))) (fun k_ hk_ => (⟨hk_, hk_.1.1.1.1.2⟩ : _ ∧ k_ ≠ g))) hk (fun _ h => h.2)) (fun _ h => h.1)); replace BK658 := Aside0.mk (KeepBut.blk hk (g' := gb658) (o := .cells #[.slice A1_0 l1_0.length c1_0] 30 (0, 0)) (y17 NB658_665.out BK658.out) NB658_0.out (by simp)); replace BK659 := Aside0.mk (KeepBut.blk hk (g' := gb659) (o := .cells #[.int .i64 0, .slice none 0 0] 55 (0, 0)) (y17 NB659_665.out BK659.out) NB659_0.out (by simp)); replace HO663 := Aside0.mk (Kd.N_mono (Kd.N_keep (Kd.N_mono (ok := fun k_ => ((((P1_0_ k_ ∨ w.heap.size ≤ k_)) ∧ (k_ ≠ gb658 ∧ (k_ ≠ gb659 ∧ k_ ≠ g))) ∧ k_ ≠ gb665)) (by (with_reducible repeat (first | apply Kd.N_alloc | apply Kd.N_drewN | apply Kd.N_drew)); exact (Kd.N_mono (Kd.N_far (p := ⟨gb665, 1, none⟩) (Kd.N_far (p := ⟨gb665, 0, none⟩) (Kd.N_mono HO663.out (fun k_ hk => (⟨hk, hk.2⟩ : _ ∧ k_ ≠ gb665))) (fun _ hk => hk.2) (.int .i64 t660)) (fun _ hk => hk.2) (.slice Ao42 t661.length co42)) (fun _ h_ => h_.1))) (fun k_ hk_ => (⟨hk_, hk_.1.2.2.2⟩ : _ ∧ k_ ≠ g))) hk (fun _ h => h.2)) (fun _ h => h.1)); replace BK665 := Aside0.mk (KeepBut.blk hk (g' := gb665) (o := .cells #[.int .i64 t660, .slice Ao42 t661.length co42] 55 (0, 0)) (by (with_reducible repeat (first | refine blk_drewN ?_ _ | refine blk_drew ?_ | refine blk_alloc ?_ _)); refine blk_put (cs := #[.int .i64 t660, .slice none 0 0]) ?_ 1 _ rfl; (with_reducible repeat (first | refine blk_drewN ?_ _ | refine blk_drew ?_ | refine blk_alloc ?_ _)); apply blk_put (i := 0); (case h => exact y0 BK665.out); (case e => rfl)) NB665_0.out (by simp)); replace HK := Aside0.mk (KeepBut.trans (y32 HK.out GW658.out GW659.out GW665.out) hk (.inl rfl)); replace HB := Aside0.mk (hb); replace HI0 := Aside0.mk (hi); (try clear hb); (try clear hb2); (try clear hk); (try clear hi); have hcz44_0 := zh BK665; have hcz44_1 := zh1 BK665; have hfz44_0 := zfr BK665 0; have hfz44_1 := zfr BK665 1) | ((with_reducible refine gate_builtin (b := .append) (xs := #[.tmp 23, .tmp 25]) rfl ?_); at_builtin; refine Kd.N_append k55 w.heap.size rfl (.tmp 23) (.tmp 25) 53 55 (.agg #[(.int .i64 0), (.slice none 0 0)]) 32 rfl Try.underlying53 info55 rfl (by decide) (by omega) (.slice Ao42 t661.length co42) t661 (⟨0, ([] : List (S55))⟩ : S55) [.int .i64 0, .slice none 0 0] (fun k_ => (P1_0_ k_ ∨ w.heap.size ≤ k_) ∧ k_ ≠ gb658 ∧ k_ ≠ gb659 ∧ k_ ≠ gb665 ∧ k_ ≠ g) (fun k_ => ((fun k_ => (P1_0_ k_ ∨ w.heap.size ≤ k_) ∧ k_ ≠ gb658 ∧ k_ ≠ gb659 ∧ k_ ≠ gb665 ∧ k_ ≠ g)) k_ ∧ some k_ ≠ (.slice Ao42 t661.length co42 : Value).ownBlock) rfl rfl ?aP (fun _ hk => hk) ?aF ?aO (Below.refl _ _) ?aS ?aL ?_; (case aP => exact (k55_mkF _ _ (⟨0, ([] : List (S55))⟩ : S55) (Nat.le_refl _) (Kd.F_nil _ _ _))); (case aF => exact (fun k_ hk => ⟨(.inr (Nat.le_trans (keep_size (w := w) (g := g) (row := none) (y32 HK.out GW658.out GW659.out GW665.out)) hk)), Kd.freshB (g := gb658) (o := .cells #[.slice A1_0 l1_0.length c1_0] 30 (0, 0)) (y0 BK658.out) k_ hk, Kd.freshB (g := gb659) (o := .cells #[.int .i64 0, .slice none 0 0] 55 (0, 0)) (y0 BK659.out) k_ hk, Kd.freshB (g := gb665) (o := .cells #[.int .i64 t660, .slice Ao42 t661.length co42] 55 (0, 0)) (y0 BK665.out) k_ hk, IsS95.fresh (y28 HI0.out NB0_658.out NB0_659.out NB0_665.out) k_ hk⟩)); (case aO => exact (y75 HO663.out)); (case aS => exact (keep_size (w := w) (g := g) (row := none) (y32 HK.out GW658.out GW659.out GW665.out))); (case aL => exact y46 LMc30.out); intro v675 w45 ho hb hg hat; rw [← Ny674.out] at ho; replace HO1_0 := Aside0.mk (Kd.V_afterv (ok := (fun k_ => (P1_0_ k_ ∨ w.heap.size ≤ k_) ∧ k_ ≠ g ∧ k_ ≠ gb658 ∧ k_ ≠ gb659 ∧ k_ ≠ gb665)) (by (with_reducible repeat (first | apply Kd.V_alloc | apply Kd.V_drewN | apply Kd.V_drew)); exact Kd.V_mono HO1_0.out (fun _ hk => ⟨⟨hk.1.1.1.1.1, ⟨hk.1.1.1.1.2, ⟨hk.1.1.1.2, ⟨hk.1.1.2, hk.2⟩⟩⟩⟩, hk.1.2⟩)) hg hat); replace BK658 := Aside0.mk (blk_grown (g := gb658) (o := .cells #[.slice A1_0 l1_0.length c1_0] 30 (0, 0)) (y0 BK658.out) hg (Kd.N_ne HO663.out BK658.out (by decide))); replace BK659 := Aside0.mk (blk_grown (g := gb659) (o := .cells #[.int .i64 0, .slice none 0 0] 55 (0, 0)) (y0 BK659.out) hg (Kd.N_away HO663.out (fun _ hk => hk.1.2.2.1))); replace BK665 := Aside0.mk (blk_grown (g := gb665) (o := .cells #[.int .i64 t660, .slice Ao42 t661.length co42] 55 (0, 0)) (y0 BK665.out) hg (Kd.N_away HO663.out (fun _ hk => hk.2))); replace HB := Aside0.mk (below_weaken (y22 HB.out HI0.out GE658.out GE659.out GE665.out) HL.out hb); replace HI0 := Aside0.mk (IsS95.grown (y28 HI0.out NB0_658.out NB0_659.out NB0_665.out) hg (IsS95.own_neN HI0.out HO663.out (by decide))); replace HK := Aside0.mk (KeepBut.trans (y32 HK.out GW658.out GW659.out GW665.out) (KeepBut.of_grown hg g) (Kd.N_base2 HO663.out)); have HO676 := Aside0.mk (ho); clear HO663; clear ho hb hg hat; obtain ⟨Ao46, co46, eo46⟩ := Kd.N_slice HO676.out; subst eo46; have hcz47_0 := zh BK665; have hcz47_1 := zh1 BK665; have hfz47_0 := zfr BK665 0; have hfz47_1 := zfr BK665 1; have hnb48 := NB659_0.out; have hnc48 := NB0_659.out; have hcz49_0 := zh BK659; have hcz49_1 := zh1 BK659; have hfz49_0 := zfr BK659 0; have hfz49_1 := zfr BK659 1))
    refine bodyPost_ret (results_cell_row rfl _ _ gb659 55 #[.int .i64 t660, .slice Ao46 y674.length co46] (0, 0) _ rfl (by (with_reducible repeat (first | refine blk_drewN ?_ _ | refine blk_drew ?_ | refine blk_alloc ?_ _)); refine blk_put (cs := #[.int .i64 t660, .slice none 0 0]) ?_ 1 _ rfl; (with_reducible repeat (first | refine blk_drewN ?_ _ | refine blk_drew ?_ | refine blk_alloc ?_ _)); refine blk_put (cs := #[.int .i64 0, .slice none 0 0]) ?_ 0 _ rfl; (with_reducible repeat (first | refine blk_drewN ?_ _ | refine blk_drew ?_ | refine blk_alloc ?_ _)); refine blk_far ?_ NB659_665.out _; (with_reducible repeat (first | refine blk_drewN ?_ _ | refine blk_drew ?_ | refine blk_alloc ?_ _)); exact BK659.out) Try.underlying55 rfl (by kernel_rfl)) rfl ?_
    exact ⟨_, y14, (by (with_reducible repeat (first | apply Kd.N_alloc | apply Kd.N_drewN | apply Kd.N_drew)); exact Kd.N_mono (Kd.N_far (p := ⟨gb659, 1, none⟩) (Kd.N_far (p := ⟨gb659, 0, none⟩) (Kd.N_far (p := ⟨gb665, 1, none⟩) (Kd.N_mono (Kd.N_mono HO676.out (fun k_ hk => (⟨hk, hk.2.2.2.1⟩ : _ ∧ k_ ≠ gb665))) (fun k_ hk => (⟨hk, hk.1.2.2.1⟩ : _ ∧ k_ ≠ gb659))) (fun _ hk => hk.1.2) (.slice Ao46 y674.length co46)) (fun _ hk => hk.2) (.int .i64 t660)) (fun _ hk => hk.2) (.slice Ao46 y674.length co46)) (fun _ hk => hk.1.1.1)), (y28 HI0.out NB0_658.out NB0_659.out NB0_665.out), (y22 HB.out HI0.out GE658.out GE659.out GE665.out), (y32 HK.out GW658.out GW659.out GW665.out)⟩
   ·rw [if_neg c30] at H
    exact absurd H (by simp)
  ·rw [if_neg c29] at H
   have c29b0 : (t666 == 1) = false := beq_eq_false_iff_ne.mpr c29
   have c29b1 : (t666 != 1) = true := bne_iff_ne.mpr c29
   by_cases c50 : t666 = 2
   ·rw [if_pos c50] at H
    have c50b0 : (t666 == 2) = true := beq_iff_eq.mpr c50
    have c50b1 : (t666 != 2) = false := bne_eq_false_iff_eq.mpr c50
    clear c50
    have H' := Aside0.mk H
    clear H
    go_enter Try.func68, Try.ntmps68
    go_wp2_with (first | ((with_reducible refine gate_dst (N := 3) rfl ?_); refine zbx 3 #[.slice A1_0 l1_0.length c1_0] 30 ?_; intro gb658 hg w51 hbox hb; replace HO1_0 := Aside0.mk (Kd.V_below (Kd.V_elderB (y13 HO1_0.out) gb658 (Nat.le_of_eq hg.symm)) hb); replace HB := Aside0.mk (below_step (y33 HB.out HI0.out) hb); have BK658 := Aside0.mk hbox; have GW658 := Aside0.mk ((by rw [hg]; exact (keep_size (w := w) (g := g) (row := none) (y25 HK.out)) : w.heap.size ≤ gb658)); have GE658 := Aside0.mk ((Nat.le_trans HW0.out (by rw [hg]; exact (keep_size (w := w) (g := g) (row := none) (y25 HK.out)) : w.heap.size ≤ gb658) : w0.heap.size ≤ gb658)); replace HK := Aside0.mk (KeepBut.trans (y25 HK.out) (KeepBut.of_below hb g none) (.inl rfl)); have NB0_658 := Aside0.mk ((by rw [hg]; exact Nat.ne_of_lt (IsS95.lt (show IsS95 w0 _ g s0_0 s0_1 from by repeat (first | (with_reducible first | exact HI0.out | apply IsS95.alloc | apply IsS95.drewN | apply IsS95.drew | apply IsS95.set_1) | exact HI0.out))) : g ≠ gb658)); have NB658_0 := Aside0.mk ((by rw [hg]; exact Nat.ne_of_gt (IsS95.lt (show IsS95 w0 _ g s0_0 s0_1 from by repeat (first | (with_reducible first | exact HI0.out | apply IsS95.alloc | apply IsS95.drewN | apply IsS95.drew | apply IsS95.set_1) | exact HI0.out))) : gb658 ≠ g)); replace HI0 := Aside0.mk (IsS95.below (y35 HI0.out) hb); clear hb hbox hg) | ((with_reducible refine gate_dst (N := 4) rfl ?_); refine zbx 4 #[.int .i64 0, .slice none 0 0] 55 ?_; intro gb659 hg w52 hbox hb; replace HO1_0 := Aside0.mk (Kd.V_below (Kd.V_elderB (y13 HO1_0.out) gb659 (Nat.le_of_eq hg.symm)) hb); replace HB := Aside0.mk (below_step (y23 HB.out HI0.out GE658.out) hb); have BK659 := Aside0.mk hbox; have GW659 := Aside0.mk ((by rw [hg]; exact (keep_size (w := w) (g := g) (row := none) (y18 HK.out GW658.out)) : w.heap.size ≤ gb659)); have GE659 := Aside0.mk ((Nat.le_trans HW0.out (by rw [hg]; exact (keep_size (w := w) (g := g) (row := none) (y18 HK.out GW658.out)) : w.heap.size ≤ gb659) : w0.heap.size ≤ gb659)); replace HK := Aside0.mk (KeepBut.trans (y18 HK.out GW658.out) (KeepBut.of_below hb g none) (.inl rfl)); have NB658_659 := zltn hg BK658; have NB659_658 := zgtn hg BK658; replace BK658 := zbb BK658 hb; have NB0_659 := Aside0.mk ((by rw [hg]; exact Nat.ne_of_lt (IsS95.lt (show IsS95 w0 _ g s0_0 s0_1 from by repeat (first | (with_reducible first | exact HI0.out | apply IsS95.alloc | apply IsS95.drewN | apply IsS95.drew | apply IsS95.set_1 | refine IsS95.far ?_ NB0_658.out _) | exact HI0.out))) : g ≠ gb659)); have NB659_0 := Aside0.mk ((by rw [hg]; exact Nat.ne_of_gt (IsS95.lt (show IsS95 w0 _ g s0_0 s0_1 from by repeat (first | (with_reducible first | exact HI0.out | apply IsS95.alloc | apply IsS95.drewN | apply IsS95.drew | apply IsS95.set_1 | refine IsS95.far ?_ NB0_658.out _) | exact HI0.out))) : gb659 ≠ g)); replace HI0 := Aside0.mk (IsS95.below (y24 HI0.out NB0_658.out) hb); clear hb hbox hg; have hnb53 := NB658_659.out; have hnc53 := NB659_658.out; have hnb54 := NB658_0.out; have hnc54 := NB0_658.out; have hcz55_0 := zh BK658; have hfz55_0 := zfr BK658 0) | ((with_reducible refine gate_callee (f := 87) rfl ?_); refine goesL_ (some 9) rfl rfl Try.func87 (by kernel_rfl) rfl #[.pointer (some ⟨g, 0, none⟩), .agg #[.slice A1_0 l1_0.length c1_0]] rfl y4 ?_; (with_reducible refine (spec_l71Val.calls k g s0_0 s0_1 (fun k_ => ((((P1_0_ k_ ∨ w.heap.size ≤ k_) ∧ k_ ≠ g) ∧ k_ ≠ gb658) ∧ k_ ≠ gb659)) _ _ l1_0 t660 t661 t664 w0 _ ?side1 ?side2 ?side3 A3.out).mono ?_); (case side1 => exact y15 HI0.out NB0_658.out NB0_659.out); (case side2 => exact y12 HB.out HI0.out GE658.out GE659.out); (case side3 => exact y80 HO1_0.out); rintro e w56 ⟨v662, rfl, ho0, hi, hb, hk⟩; refine ⟨_, rfl, ?_⟩; replace HO1_0 := Aside0.mk (Kd.V_mono (Kd.V_told (Kd.V_oldK (Kd.V_mono (ok := fun k_ => (((((P1_0_ k_ ∨ w.heap.size ≤ k_)) ∧ k_ ≠ g) ∧ k_ ≠ gb658) ∧ k_ ≠ gb659)) (y13 HO1_0.out) (fun k_ hk_ => (⟨hk_, hk_.1.1.2⟩ : _ ∧ k_ ≠ g))) hk) (Kd.N_base ho0)) (fun _ h_ => h_.1)); have HO663 := Aside0.mk (Kd.N_lower (Kd.N_mono (ok' := fun k_ => (P1_0_ k_ ∨ w.heap.size ≤ k_) ∧ k_ ≠ gb658 ∧ k_ ≠ gb659 ∧ k_ ≠ g) ho0 (fun k_ hk_ => ⟨Or.elim hk_ (fun hs_ => hs_.1.1.1) (fun hn_ => (.inr (Nat.le_trans (keep_size (w := w) (g := g) (row := none) (y11 HK.out GW658.out GW659.out)) hn_))), Or.elim hk_ (fun hs_ => hs_.1.2) (fun hn_ => (Kd.freshB (g := gb658) (o := .cells #[.slice A1_0 l1_0.length c1_0] 30 (0, 0)) (y0 BK658.out) k_ hn_)), Or.elim hk_ (fun hs_ => hs_.2) (fun hn_ => (Kd.freshB (g := gb659) (o := .cells #[.int .i64 0, .slice none 0 0] 55 (0, 0)) (y0 BK659.out) k_ hn_)), Or.elim hk_ (fun hs_ => hs_.1.1.2) (fun hn_ => (IsS95.fresh (y15 HI0.out NB0_658.out NB0_659.out) k_ hn_))⟩)) (keep_size (w := w) (g := g) (row := none) (y11 HK.out GW658.out GW659.out))); replace BK658 := Aside0.mk (KeepBut.blk hk (g' := gb658) (o := .cells #[.slice A1_0 l1_0.length c1_0] 30 (0, 0)) (y0 BK658.out) NB658_0.out (by simp)); replace BK659 := Aside0.mk (KeepBut.blk hk (g' := gb659) (o := .cells #[.int .i64 0, .slice none 0 0] 55 (0, 0)) (y0 BK659.out) NB659_0.out (by simp)); replace HK := Aside0.mk (KeepBut.trans (y11 HK.out GW658.out GW659.out) hk (.inl rfl)); replace HB := Aside0.mk (hb); replace HI0 := Aside0.mk (hi); (try clear hb); (try clear hb2); (try clear hk); (try clear hi); (try clear ho0)) | ((with_reducible refine gate_dst (N := 5) rfl ?_); refine zbx 5 #[.int .i64 0, .slice none 0 0] 55 ?_; intro gb665 hg w57 hbox hb; replace HO1_0 := Aside0.mk (Kd.V_below (Kd.V_elderB (y13 HO1_0.out) gb665 (Nat.le_of_eq hg.symm)) hb); replace HO663 := Aside0.mk (Kd.N_below (Kd.N_elderB (y9 HO663.out) gb665 (Nat.le_of_eq hg.symm)) hb); replace HB := Aside0.mk (below_step (y12 HB.out HI0.out GE658.out GE659.out) hb); have BK665 := Aside0.mk hbox; have GW665 := Aside0.mk ((by rw [hg]; exact (keep_size (w := w) (g := g) (row := none) (y11 HK.out GW658.out GW659.out)) : w.heap.size ≤ gb665)); have GE665 := Aside0.mk ((Nat.le_trans HW0.out (by rw [hg]; exact (keep_size (w := w) (g := g) (row := none) (y11 HK.out GW658.out GW659.out)) : w.heap.size ≤ gb665) : w0.heap.size ≤ gb665)); replace HK := Aside0.mk (KeepBut.trans (y11 HK.out GW658.out GW659.out) (KeepBut.of_below hb g none) (.inl rfl)); have NB658_665 := zltn hg BK658; have NB665_658 := zgtn hg BK658; replace BK658 := zbb BK658 hb; have NB659_665 := zltn hg BK659; have NB665_659 := zgtn hg BK659; replace BK659 := zbb BK659 hb; have NB0_665 := Aside0.mk ((by rw [hg]; exact Nat.ne_of_lt (IsS95.lt (show IsS95 w0 _ g s0_0 t664 from by repeat (first | (with_reducible first | exact HI0.out | apply IsS95.alloc | apply IsS95.drewN | apply IsS95.drew | apply IsS95.set_1 | refine IsS95.far ?_ NB0_658.out _ | refine IsS95.far ?_ NB0_659.out _) | exact HI0.out))) : g ≠ gb665)); have NB665_0 := Aside0.mk ((by rw [hg]; exact Nat.ne_of_gt (IsS95.lt (show IsS95 w0 _ g s0_0 t664 from by repeat (first | (with_reducible first | exact HI0.out | apply IsS95.alloc | apply IsS95.drewN | apply IsS95.drew | apply IsS95.set_1 | refine IsS95.far ?_ NB0_658.out _ | refine IsS95.far ?_ NB0_659.out _) | exact HI0.out))) : gb665 ≠ g)); replace HI0 := Aside0.mk (IsS95.below (y15 HI0.out NB0_658.out NB0_659.out) hb); clear hb hbox hg; have hnb58 := NB665_658.out; have hnc58 := NB658_665.out; have hnb59 := NB665_659.out; have hnc59 := NB659_665.out; have hnb60 := NB665_0.out; have hnc60 := NB0_665.out; have hcz61_0 := zh BK665; have hcz61_1 := zh1 BK665; have hfz61_0 := zfr BK665 0; have hfz61_1 := zfr BK665 1; obtain ⟨Ao62, co62, eo62⟩ := Kd.N_slice HO663.out; subst eo62) | ((with_reducible refine gate_callee (f := 58) rfl ?_); refine goesL_ (some 11) rfl rfl Try.func58 (by kernel_rfl) rfl #[.pointer (some ⟨g, 0, none⟩), .int .i64 12] rfl y4 ?_; (with_reducible refine (spec_l6Rd_pick.calls k g s0_0 t664 12 t666 t667 w0 _ ?side1 ?side2 A4.out).mono ?_); (case side1 => exact y28 HI0.out NB0_658.out NB0_659.out NB0_665.out); (case side2 => exact y22 HB.out HI0.out GE658.out GE659.out GE665.out); rintro e w63 ⟨rfl, hi, hb, hk⟩; refine ⟨_, rfl, ?_⟩; replace HO1_0 := Aside0.mk (Kd.V_mono (Kd.V_keep (Kd.V_mono (ok := fun k_ => (((((((P1_0_ k_ ∨ w.heap.size ≤ k_)) ∧ k_ ≠ g) ∧ k_ ≠ gb658) ∧ k_ ≠ gb659) ∧ some k_ ≠ (.slice Ao62 t661.length co62 : Value).ownBlock) ∧ k_ ≠ gb665)) (by (with_reducible repeat (first | apply Kd.V_alloc | apply Kd.V_drewN | apply Kd.V_drew)); exact (Kd.V_mono (Kd.V_far (p := ⟨gb665, 1, none⟩) (Kd.V_far (p := ⟨gb665, 0, none⟩) (Kd.V_mono HO1_0.out (fun k_ hk => (⟨hk, hk.2⟩ : _ ∧ k_ ≠ gb665))) (fun _ hk => hk.2) (.int .i64 t660)) (fun _ hk => hk.2) (.slice Ao62 t661.length co62)) (fun _ h_ => h_.1))) (fun k_ hk_ => (⟨hk_, hk_.1.1.1.1.2⟩ : _ ∧ k_ ≠ g))) hk (fun _ h => h.2)) (fun _ h => h.1)); replace BK658 := Aside0.mk (KeepBut.blk hk (g' := gb658) (o := .cells #[.slice A1_0 l1_0.length c1_0] 30 (0, 0)) (y17 NB658_665.out BK658.out) NB658_0.out (by simp)); replace BK659 := Aside0.mk (KeepBut.blk hk (g' := gb659) (o := .cells #[.int .i64 0, .slice none 0 0] 55 (0, 0)) (y17 NB659_665.out BK659.out) NB659_0.out (by simp)); replace HO663 := Aside0.mk (Kd.N_mono (Kd.N_keep (Kd.N_mono (ok := fun k_ => ((((P1_0_ k_ ∨ w.heap.size ≤ k_)) ∧ (k_ ≠ gb658 ∧ (k_ ≠ gb659 ∧ k_ ≠ g))) ∧ k_ ≠ gb665)) (by (with_reducible repeat (first | apply Kd.N_alloc | apply Kd.N_drewN | apply Kd.N_drew)); exact (Kd.N_mono (Kd.N_far (p := ⟨gb665, 1, none⟩) (Kd.N_far (p := ⟨gb665, 0, none⟩) (Kd.N_mono HO663.out (fun k_ hk => (⟨hk, hk.2⟩ : _ ∧ k_ ≠ gb665))) (fun _ hk => hk.2) (.int .i64 t660)) (fun _ hk => hk.2) (.slice Ao62 t661.length co62)) (fun _ h_ => h_.1))) (fun k_ hk_ => (⟨hk_, hk_.1.2.2.2⟩ : _ ∧ k_ ≠ g))) hk (fun _ h => h.2)) (fun _ h => h.1)); replace BK665 := Aside0.mk (KeepBut.blk hk (g' := gb665) (o := .cells #[.int .i64 t660, .slice Ao62 t661.length co62] 55 (0, 0)) (by (with_reducible repeat (first | refine blk_drewN ?_ _ | refine blk_drew ?_ | refine blk_alloc ?_ _)); refine blk_put (cs := #[.int .i64 t660, .slice none 0 0]) ?_ 1 _ rfl; (with_reducible repeat (first | refine blk_drewN ?_ _ | refine blk_drew ?_ | refine blk_alloc ?_ _)); apply blk_put (i := 0); (case h => exact y0 BK665.out); (case e => rfl)) NB665_0.out (by simp)); replace HK := Aside0.mk (KeepBut.trans (y32 HK.out GW658.out GW659.out GW665.out) hk (.inl rfl)); replace HB := Aside0.mk (hb); replace HI0 := Aside0.mk (hi); (try clear hb); (try clear hb2); (try clear hk); (try clear hi)))
    go_loopg [6] k (fun kq v6 w' => ∃ (x6_1 : Int) (x666000_1 : Int) (x666001_1 : List (S55)) (u666001 : Value), v6 = .int .i64 x6_1 ∧ Aside0 (spec_l71Bad.l0 kq x6_1 s0_0 t667 x666000_1 x666001_1 = some (r1, r2, r3)) ∧ Aside0 (kq ≤ k) ∧ Aside0 (Kd.V k30 30 w' w.heap.size (fun k_ => (P1_0_ k_ ∨ w.heap.size ≤ k_) ∧ some k_ ≠ (u666001 : Value).ownBlock ∧ k_ ≠ gb658 ∧ k_ ≠ gb659 ∧ k_ ≠ gb665 ∧ k_ ≠ g) (.slice A1_0 l1_0.length c1_0) l1_0) ∧ Aside0 (Kd.N k55 55 w' w.heap.size (fun k_ => (P1_0_ k_ ∨ w.heap.size ≤ k_) ∧ k_ ≠ gb658 ∧ k_ ≠ gb659 ∧ k_ ≠ gb665 ∧ k_ ≠ g) u666001 x666001_1) ∧ Aside0 (w'.heap[gb658]? = some (.cells #[(.slice A1_0 l1_0.length c1_0)] 30 (0, 0))) ∧ Aside0 (w'.heap[gb659]? = some (.cells #[.int .i64 0, (.slice none 0 0)] 55 (0, 0))) ∧ Aside0 (w'.heap[gb665]? = some (.cells #[.int .i64 x666000_1, u666001] 55 (0, 0))) ∧ Aside0 (IsS95 w0 w' g s0_0 t667) ∧ Aside0 (KeepBut w w' g none) ∧ Aside0 (Below w0.heap.size w0 w'))
    case atStart => exact ⟨(0), (t660), (t661), (.slice Ao62 t661.length co62), y26, H', ⟨Nat.le_refl _⟩, ⟨(by (with_reducible repeat (first | apply Kd.V_alloc | apply Kd.V_drewN | apply Kd.V_drew)); exact Kd.V_mono HO1_0.out (fun _ hk => ⟨hk.1.1.1.1.1, ⟨hk.1.2, ⟨hk.1.1.1.2, ⟨hk.1.1.2, ⟨hk.2, hk.1.1.1.1.2⟩⟩⟩⟩⟩))⟩, ⟨(y75 HO663.out)⟩, ⟨(y0 BK658.out)⟩, ⟨(y0 BK659.out)⟩, ⟨(y0 BK665.out)⟩, ⟨(y28 HI0.out NB0_658.out NB0_659.out NB0_665.out)⟩, ⟨(y32 HK.out GW658.out GW659.out GW665.out)⟩, ⟨(y22 HB.out HI0.out GE658.out GE659.out GE665.out)⟩⟩
    case round =>
     clear H'
     try clear c1
     try clear c2
     try clear p2
     try clear c3
     try clear c4
     try clear c5
     try clear c5b0
     try clear c5b1
     try clear c6
     try clear p6
     try clear q6
     try clear hx6
     try clear c7
     try clear c7b0
     try clear c8
     try clear c8b0
     try clear c11
     try clear c12
     try clear c16
     try clear c17
     try clear c18
     try clear c27
     try clear c29
     try clear c29b0
     try clear c29b1
     try clear c30
     try clear c33
     try clear c34
     try clear c38
     try clear c39
     try clear c40
     try clear c48
     try clear c50
     try clear c50b0
     try clear c50b1
     try clear c53
     try clear c54
     try clear c58
     try clear c59
     try clear c60
     try clear hcz13_0
     try clear hcz19_0
     try clear hcz19_1
     try clear hcz26_0
     try clear hcz26_1
     try clear hcz28_0
     try clear hcz28_1
     try clear hcz35_0
     try clear hcz41_0
     try clear hcz41_1
     try clear hcz44_0
     try clear hcz44_1
     try clear hcz47_0
     try clear hcz47_1
     try clear hcz49_0
     try clear hcz49_1
     try clear hcz55_0
     try clear hcz61_0
     try clear hcz61_1
     try clear hfz13_0
     try clear hfz19_0
     try clear hfz19_1
     try clear hfz26_0
     try clear hfz26_1
     try clear hfz28_0
     try clear hfz28_1
     try clear hfz35_0
     try clear hfz41_0
     try clear hfz41_1
     try clear hfz44_0
     try clear hfz44_1
     try clear hfz47_0
     try clear hfz47_1
     try clear hfz49_0
     try clear hfz49_1
     try clear hfz55_0
     try clear hfz61_0
     try clear hfz61_1
     try clear hx673_0
     try clear p673
     try clear q673
     obtain ⟨x6_1, x666000_1, x666001_1, u666001, rfl, HA, HK1, HO_659000, HO_666001, BK658, BK659, BK665, HI0, HK, HB⟩ := hrel
     cases gk with
     | zero => exact absurd HA.out (by simp [spec_l71Bad.l0])
     | succ k1 =>
      have H := HA.out
      clear HA
      simp only [spec_l71Bad.l0] at H
      by_cases c64 : x6_1 < 5
      ·rw [if_pos c64] at H
       have c64b0 : decide (x6_1 < 5) = true := decide_eq_true c64
       clear c64
       obtain ⟨y677, hy677⟩ : ∃ y_ : List (S55), y_ = (([(⟨x666000_1, x666001_1⟩ : S55), (⟨0, ([] : List (S55))⟩ : S55)] : List (S55))) := ⟨_, rfl⟩
       replace H : (spec_l71Bad.l0 k1 (wrap64 (x6_1 + 1)) s0_0 t667 0 y677) = some (r1, r2, r3) := by first | (rw [hy677]; with_reducible exact H) | (have H2_ := (Option.bind_some _ _).symm.trans H; rw [hy677]; with_reducible exact H2_) | (have H2_ := (Option.bind_some _ _).symm.trans H; with_reducible exact H2_) | with_reducible exact H | (rw [hy677]; exact H) | exact H
       have Ny677 := Aside0.mk hy677
       clear hy677
       have H' := Aside0.mk H
       clear H
       have hnb65 := NB665_658.out
       have hnc65 := NB658_665.out
       have hnb66 := NB665_659.out
       have hnc66 := NB659_665.out
       have hnb67 := NB665_0.out
       have hnc67 := NB0_665.out
       have hcz68_0 := zh BK665
       have hcz68_1 := zh1 BK665
       have hfz68_0 := zfr BK665 0
       have hfz68_1 := zfr BK665 1
       obtain ⟨Ao69, co69, eo69⟩ := Kd.N_slice HO_666001.out
       subst eo69
       go_wp2_with (first | ((with_reducible refine gate_dst (N := 36) rfl ?_); refine Kd.N_lit k55 _ 55 ?hg (N' := 36) ?hd (xs := ([(⟨x666000_1, x666001_1⟩ : S55), (⟨0, ([] : List (S55))⟩ : S55)] : List (S55))) (inner := [.int .i64 x666000_1, .slice Ao69 x666001_1.length co69, .int .i64 0, .slice none 0 0]) (ok := (fun k_ => (P1_0_ k_ ∨ w.heap.size ≤ k_) ∧ k_ ≠ gb658 ∧ k_ ≠ gb659 ∧ k_ ≠ gb665 ∧ k_ ≠ g)) (okp := (fun k_ => (P1_0_ k_ ∨ w.heap.size ≤ k_) ∧ k_ ≠ gb658 ∧ k_ ≠ gb659 ∧ k_ ≠ gb665 ∧ k_ ≠ g)) ?hr ?hp (fun _ hk => hk) ((show ∀ k_, wr.heap.size ≤ k_ → (fun k_ => (P1_0_ k_ ∨ w.heap.size ≤ k_) ∧ k_ ≠ gb658 ∧ k_ ≠ gb659 ∧ k_ ≠ gb665 ∧ k_ ≠ g) k_ from fun k_ hk => ⟨(.inr (Nat.le_trans (keep_size (w := w) (g := g) (row := none) (y32 HK.out GW658.out GW659.out GW665.out)) hk)), Kd.freshB (g := gb658) (o := .cells #[.slice A1_0 l1_0.length c1_0] 30 (0, 0)) (y0 BK658.out) k_ hk, Kd.freshB (g := gb659) (o := .cells #[.int .i64 0, .slice none 0 0] 55 (0, 0)) (y0 BK659.out) k_ hk, Kd.freshB (g := gb665) (o := .cells #[.int .i64 x666000_1, .slice Ao69 x666001_1.length co69] 55 (0, 0)) (y0 BK665.out) k_ hk, IsS95.fresh (y28 HI0.out NB0_658.out NB0_659.out NB0_665.out) k_ hk⟩) _ (Nat.le_refl _)) (Below.refl _ _) (Nat.le_refl _) (by simp) ?_; (case hd => rfl); (case hg => rfl); (case hr => first | (go_simp; done) | (go_simp; rfl)); (case hp => exact (Reps.c2 (show Kd.FK k55 _ _ (⟨x666000_1, x666001_1⟩ : S55) [.int .i64 x666000_1, .slice Ao69 x666001_1.length co69] from (k55_mkF _ _ (⟨x666000_1, x666001_1⟩ : S55) (Kd.N_reads' (Kd.N_mono (ok' := (fun k_ => (P1_0_ k_ ∨ w.heap.size ≤ k_) ∧ k_ ≠ gb658 ∧ k_ ≠ gb659 ∧ k_ ≠ gb665 ∧ k_ ≠ g)) (HO_666001.out) (fun k_ hk => ⟨hk.1, ⟨hk.2.1, ⟨hk.2.2.1, ⟨hk.2.2.2.1, hk.2.2.2.2⟩⟩⟩⟩))).2.1 (Kd.N_F (Kd.N_mono (ok' := (fun k_ => (P1_0_ k_ ∨ w.heap.size ≤ k_) ∧ k_ ≠ gb658 ∧ k_ ≠ gb659 ∧ k_ ≠ gb665 ∧ k_ ≠ g)) (HO_666001.out) (fun k_ hk => ⟨hk.1, ⟨hk.2.1, ⟨hk.2.2.1, ⟨hk.2.2.2.1, hk.2.2.2.2⟩⟩⟩⟩))))) (Reps.c2 (show Kd.FK k55 _ _ (⟨0, ([] : List (S55))⟩ : S55) [.int .i64 0, .slice none 0 0] from (k55_mkF _ _ (⟨0, ([] : List (S55))⟩ : S55) (Nat.le_refl _) (Kd.F_nil _ _ _))) (Reps.none _ _)))); intro v678 w70 ho71 hb hg_ hnew_; clear hg_ hnew_; (first | rw [← Ny677.out] at ho71 | (simp only [Int.reduceToNat] at ho71; rw [← Ny677.out] at ho71)); replace HO_659000 := Aside0.mk (Kd.V_elder' (y13 HO_659000.out) (Kd.N_base ho71) hb); have HO679 := Aside0.mk (Kd.N_lower ho71 (keep_size (w := w) (g := g) (row := none) (y32 HK.out GW658.out GW659.out GW665.out))); replace BK658 := zbb BK658 hb; replace BK659 := zbb BK659 hb; replace BK665 := zbb BK665 hb; replace HK := Aside0.mk (KeepBut.trans (y32 HK.out GW658.out GW659.out GW665.out) (KeepBut.of_below hb g none) (.inl rfl)); replace HB := Aside0.mk (below_step (y22 HB.out HI0.out GE658.out GE659.out GE665.out) hb); replace HI0 := Aside0.mk (IsS95.below (y28 HI0.out NB0_658.out NB0_659.out NB0_665.out) hb); clear HO_666001; clear hb ho71; obtain ⟨Ao72, co72, eo72⟩ := Kd.N_slice HO679.out; subst eo72; have hcz73_0 := zh BK665; have hcz73_1 := zh1 BK665; have hfz73_0 := zfr BK665 0; have hfz73_1 := zfr BK665 1))
       go_roundg k1
       case measure => have := HK1.out; omega
       case rel => exact ⟨(wrap64 (x6_1 + 1)), (0), (y677), (.slice Ao72 y677.length co72), y26, H', ⟨(y46 HK1.out)⟩, ⟨(by (with_reducible repeat (first | apply Kd.V_alloc | apply Kd.V_drewN | apply Kd.V_drew)); exact Kd.V_mono (Kd.V_far (p := ⟨gb665, 1, none⟩) (Kd.V_far (p := ⟨gb665, 0, none⟩) (Kd.V_mono HO_659000.out (fun k_ hk => (⟨hk, hk.1.2.2.2.2.1⟩ : _ ∧ k_ ≠ gb665))) (fun _ hk => hk.2) (.int .i64 0)) (fun _ hk => hk.2) (.slice Ao72 y677.length co72)) (fun _ hk => ⟨hk.1.1.1, ⟨hk.1.2, ⟨hk.1.1.2.2.1, ⟨hk.1.1.2.2.2.1, ⟨hk.1.1.2.2.2.2.1, hk.1.1.2.2.2.2.2⟩⟩⟩⟩⟩))⟩, ⟨(by (with_reducible repeat (first | apply Kd.N_alloc | apply Kd.N_drewN | apply Kd.N_drew)); exact Kd.N_mono (Kd.N_far (p := ⟨gb665, 1, none⟩) (Kd.N_far (p := ⟨gb665, 0, none⟩) (Kd.N_mono HO679.out (fun k_ hk => (⟨hk, hk.2.2.2.1⟩ : _ ∧ k_ ≠ gb665))) (fun _ hk => hk.2) (.int .i64 0)) (fun _ hk => hk.2) (.slice Ao72 y677.length co72)) (fun _ hk => ⟨hk.1.1, ⟨hk.1.2.1, ⟨hk.1.2.2.1, ⟨hk.1.2.2.2.1, hk.1.2.2.2.2⟩⟩⟩⟩))⟩, ⟨(y17 NB658_665.out BK658.out)⟩, ⟨(y17 NB659_665.out BK659.out)⟩, ⟨(by (with_reducible repeat (first | refine blk_drewN ?_ _ | refine blk_drew ?_ | refine blk_alloc ?_ _)); refine blk_put (cs := #[.int .i64 0, .slice Ao69 x666001_1.length co69]) ?_ 1 _ rfl; (with_reducible repeat (first | refine blk_drewN ?_ _ | refine blk_drew ?_ | refine blk_alloc ?_ _)); refine blk_put (cs := #[.int .i64 x666000_1, .slice Ao69 x666001_1.length co69]) ?_ 0 _ rfl; (with_reducible repeat (first | refine blk_drewN ?_ _ | refine blk_drew ?_ | refine blk_alloc ?_ _)); exact BK665.out)⟩, ⟨(y28 HI0.out NB0_658.out NB0_659.out NB0_665.out)⟩, ⟨(y32 HK.out GW658.out GW659.out GW665.out)⟩, ⟨(y22 HB.out HI0.out GE658.out GE659.out GE665.out)⟩⟩
      ·rw [if_neg c64] at H
       have c64b0 : decide (x6_1 < 5) = false := decide_eq_false c64
       clear c64
       simp only [Option.some.injEq, Prod.mk.injEq] at H
       obtain ⟨rfl, rfl, rfl⟩ := H
       have hnb74 := NB665_658.out
       have hnc74 := NB658_665.out
       have hnb75 := NB665_659.out
       have hnc75 := NB659_665.out
       have hnb76 := NB665_0.out
       have hnc76 := NB0_665.out
       have hcz77_0 := zh BK665
       have hcz77_1 := zh1 BK665
       have hfz77_0 := zfr BK665 0
       have hfz77_1 := zfr BK665 1
       have hnb78 := NB659_658.out
       have hnc78 := NB658_659.out
       have hnb79 := NB659_0.out
       have hnc79 := NB0_659.out
       have hcz80_0 := zh BK659
       have hcz80_1 := zh1 BK659
       have hfz80_0 := zfr BK659 0
       have hfz80_1 := zfr BK659 1
       obtain ⟨Ao81, co81, eo81⟩ := Kd.N_slice HO_666001.out
       subst eo81
       go_wp2
       refine bodyPost_ret (results_cell_row rfl _ _ gb659 55 #[.int .i64 x666000_1, .slice Ao81 x666001_1.length co81] (0, 0) _ rfl (by (with_reducible repeat (first | refine blk_drewN ?_ _ | refine blk_drew ?_ | refine blk_alloc ?_ _)); refine blk_put (cs := #[.int .i64 x666000_1, .slice none 0 0]) ?_ 1 _ rfl; (with_reducible repeat (first | refine blk_drewN ?_ _ | refine blk_drew ?_ | refine blk_alloc ?_ _)); apply blk_put (i := 0); (case h => exact y0 BK659.out); (case e => rfl)) Try.underlying55 rfl (by kernel_rfl)) rfl ?_
       exact ⟨_, y14, (by (with_reducible repeat (first | apply Kd.N_alloc | apply Kd.N_drewN | apply Kd.N_drew)); exact Kd.N_mono (Kd.N_far (p := ⟨gb659, 1, none⟩) (Kd.N_far (p := ⟨gb659, 0, none⟩) (Kd.N_mono HO_666001.out (fun k_ hk => (⟨hk, hk.2.2.1⟩ : _ ∧ k_ ≠ gb659))) (fun _ hk => hk.2) (.int .i64 x666000_1)) (fun _ hk => hk.2) (.slice Ao81 x666001_1.length co81)) (fun _ hk => hk.1.1)), (y28 HI0.out NB0_658.out NB0_659.out NB0_665.out), (y22 HB.out HI0.out GE658.out GE659.out GE665.out), (y32 HK.out GW658.out GW659.out GW665.out)⟩
   ·rw [if_neg c50] at H
    have c50b0 : (t666 == 2) = false := beq_eq_false_iff_ne.mpr c50
    have c50b1 : (t666 != 2) = true := bne_iff_ne.mpr c50
    simp only [Option.some.injEq, Prod.mk.injEq] at H
    obtain ⟨rfl, rfl, rfl⟩ := H
    go_enter Try.func68, Try.ntmps68
    go_wp2_with (first | ((with_reducible refine gate_dst (N := 3) rfl ?_); refine zbx 3 #[.slice A1_0 l1_0.length c1_0] 30 ?_; intro gb658 hg w82 hbox hb; replace HO1_0 := Aside0.mk (Kd.V_below (Kd.V_elderB (y13 HO1_0.out) gb658 (Nat.le_of_eq hg.symm)) hb); replace HB := Aside0.mk (below_step (y33 HB.out HI0.out) hb); have BK658 := Aside0.mk hbox; have GW658 := Aside0.mk ((by rw [hg]; exact (keep_size (w := w) (g := g) (row := none) (y25 HK.out)) : w.heap.size ≤ gb658)); have GE658 := Aside0.mk ((Nat.le_trans HW0.out (by rw [hg]; exact (keep_size (w := w) (g := g) (row := none) (y25 HK.out)) : w.heap.size ≤ gb658) : w0.heap.size ≤ gb658)); replace HK := Aside0.mk (KeepBut.trans (y25 HK.out) (KeepBut.of_below hb g none) (.inl rfl)); have NB0_658 := Aside0.mk ((by rw [hg]; exact Nat.ne_of_lt (IsS95.lt (show IsS95 w0 _ g s0_0 s0_1 from by repeat (first | (with_reducible first | exact HI0.out | apply IsS95.alloc | apply IsS95.drewN | apply IsS95.drew | apply IsS95.set_1) | exact HI0.out))) : g ≠ gb658)); have NB658_0 := Aside0.mk ((by rw [hg]; exact Nat.ne_of_gt (IsS95.lt (show IsS95 w0 _ g s0_0 s0_1 from by repeat (first | (with_reducible first | exact HI0.out | apply IsS95.alloc | apply IsS95.drewN | apply IsS95.drew | apply IsS95.set_1) | exact HI0.out))) : gb658 ≠ g)); replace HI0 := Aside0.mk (IsS95.below (y35 HI0.out) hb); clear hb hbox hg) | ((with_reducible refine gate_dst (N := 4) rfl ?_); refine zbx 4 #[.int .i64 0, .slice none 0 0] 55 ?_; intro gb659 hg w83 hbox hb; replace HO1_0 := Aside0.mk (Kd.V_below (Kd.V_elderB (y13 HO1_0.out) gb659 (Nat.le_of_eq hg.symm)) hb); replace HB := Aside0.mk (below_step (y23 HB.out HI0.out GE658.out) hb); have BK659 := Aside0.mk hbox; have GW659 := Aside0.mk ((by rw [hg]; exact (keep_size (w := w) (g := g) (row := none) (y18 HK.out GW658.out)) : w.heap.size ≤ gb659)); have GE659 := Aside0.mk ((Nat.le_trans HW0.out (by rw [hg]; exact (keep_size (w := w) (g := g) (row := none) (y18 HK.out GW658.out)) : w.heap.size ≤ gb659) : w0.heap.size ≤ gb659)); replace HK := Aside0.mk (KeepBut.trans (y18 HK.out GW658.out) (KeepBut.of_below hb g none) (.inl rfl)); have NB658_659 := zltn hg BK658; have NB659_658 := zgtn hg BK658; replace BK658 := zbb BK658 hb; have NB0_659 := Aside0.mk ((by rw [hg]; exact Nat.ne_of_lt (IsS95.lt (show IsS95 w0 _ g s0_0 s0_1 from by repeat (first | (with_reducible first | exact HI0.out | apply IsS95.alloc | apply IsS95.drewN | apply IsS95.drew | apply IsS95.set_1 | refine IsS95.far ?_ NB0_658.out _) | exact HI0.out))) : g ≠ gb659)); have NB659_0 := Aside0.mk ((by rw [hg]; exact Nat.ne_of_gt (IsS95.lt (show IsS95 w0 _ g s0_0 s0_1 from by repeat (first | (with_reducible first | exact HI0.out | apply IsS95.alloc | apply IsS95.drewN | apply IsS95.drew | apply IsS95.set_1 | refine IsS95.far ?_ NB0_658.out _) | exact HI0.out))) : gb659 ≠ g)); replace HI0 := Aside0.mk (IsS95.below (y24 HI0.out NB0_658.out) hb); clear hb hbox hg; have hnb84 := NB658_659.out; have hnc84 := NB659_658.out; have hnb85 := NB658_0.out; have hnc85 := NB0_658.out; have hcz86_0 := zh BK658; have hfz86_0 := zfr BK658 0) | ((with_reducible refine gate_callee (f := 87) rfl ?_); refine goesL_ (some 9) rfl rfl Try.func87 (by kernel_rfl) rfl #[.pointer (some ⟨g, 0, none⟩), .agg #[.slice A1_0 l1_0.length c1_0]] rfl y4 ?_; (with_reducible refine (spec_l71Val.calls k g s0_0 s0_1 (fun k_ => ((((P1_0_ k_ ∨ w.heap.size ≤ k_) ∧ k_ ≠ g) ∧ k_ ≠ gb658) ∧ k_ ≠ gb659)) _ _ l1_0 t660 t661 t664 w0 _ ?side1 ?side2 ?side3 A3.out).mono ?_); (case side1 => exact y15 HI0.out NB0_658.out NB0_659.out); (case side2 => exact y12 HB.out HI0.out GE658.out GE659.out); (case side3 => exact y80 HO1_0.out); rintro e w87 ⟨v662, rfl, ho0, hi, hb, hk⟩; refine ⟨_, rfl, ?_⟩; replace HO1_0 := Aside0.mk (Kd.V_mono (Kd.V_told (Kd.V_oldK (Kd.V_mono (ok := fun k_ => (((((P1_0_ k_ ∨ w.heap.size ≤ k_)) ∧ k_ ≠ g) ∧ k_ ≠ gb658) ∧ k_ ≠ gb659)) (y13 HO1_0.out) (fun k_ hk_ => (⟨hk_, hk_.1.1.2⟩ : _ ∧ k_ ≠ g))) hk) (Kd.N_base ho0)) (fun _ h_ => h_.1)); have HO663 := Aside0.mk (Kd.N_lower (Kd.N_mono (ok' := fun k_ => (P1_0_ k_ ∨ w.heap.size ≤ k_) ∧ k_ ≠ gb658 ∧ k_ ≠ gb659 ∧ k_ ≠ g) ho0 (fun k_ hk_ => ⟨Or.elim hk_ (fun hs_ => hs_.1.1.1) (fun hn_ => (.inr (Nat.le_trans (keep_size (w := w) (g := g) (row := none) (y11 HK.out GW658.out GW659.out)) hn_))), Or.elim hk_ (fun hs_ => hs_.1.2) (fun hn_ => (Kd.freshB (g := gb658) (o := .cells #[.slice A1_0 l1_0.length c1_0] 30 (0, 0)) (y0 BK658.out) k_ hn_)), Or.elim hk_ (fun hs_ => hs_.2) (fun hn_ => (Kd.freshB (g := gb659) (o := .cells #[.int .i64 0, .slice none 0 0] 55 (0, 0)) (y0 BK659.out) k_ hn_)), Or.elim hk_ (fun hs_ => hs_.1.1.2) (fun hn_ => (IsS95.fresh (y15 HI0.out NB0_658.out NB0_659.out) k_ hn_))⟩)) (keep_size (w := w) (g := g) (row := none) (y11 HK.out GW658.out GW659.out))); replace BK658 := Aside0.mk (KeepBut.blk hk (g' := gb658) (o := .cells #[.slice A1_0 l1_0.length c1_0] 30 (0, 0)) (y0 BK658.out) NB658_0.out (by simp)); replace BK659 := Aside0.mk (KeepBut.blk hk (g' := gb659) (o := .cells #[.int .i64 0, .slice none 0 0] 55 (0, 0)) (y0 BK659.out) NB659_0.out (by simp)); replace HK := Aside0.mk (KeepBut.trans (y11 HK.out GW658.out GW659.out) hk (.inl rfl)); replace HB := Aside0.mk (hb); replace HI0 := Aside0.mk (hi); (try clear hb); (try clear hb2); (try clear hk); (try clear hi); (try clear ho0)) | ((with_reducible refine gate_dst (N := 5) rfl ?_); refine zbx 5 #[.int .i64 0, .slice none 0 0] 55 ?_; intro gb665 hg w88 hbox hb; replace HO1_0 := Aside0.mk (Kd.V_below (Kd.V_elderB (y13 HO1_0.out) gb665 (Nat.le_of_eq hg.symm)) hb); replace HO663 := Aside0.mk (Kd.N_below (Kd.N_elderB (y9 HO663.out) gb665 (Nat.le_of_eq hg.symm)) hb); replace HB := Aside0.mk (below_step (y12 HB.out HI0.out GE658.out GE659.out) hb); have BK665 := Aside0.mk hbox; have GW665 := Aside0.mk ((by rw [hg]; exact (keep_size (w := w) (g := g) (row := none) (y11 HK.out GW658.out GW659.out)) : w.heap.size ≤ gb665)); have GE665 := Aside0.mk ((Nat.le_trans HW0.out (by rw [hg]; exact (keep_size (w := w) (g := g) (row := none) (y11 HK.out GW658.out GW659.out)) : w.heap.size ≤ gb665) : w0.heap.size ≤ gb665)); replace HK := Aside0.mk (KeepBut.trans (y11 HK.out GW658.out GW659.out) (KeepBut.of_below hb g none) (.inl rfl)); have NB658_665 := zltn hg BK658; have NB665_658 := zgtn hg BK658; replace BK658 := zbb BK658 hb; have NB659_665 := zltn hg BK659; have NB665_659 := zgtn hg BK659; replace BK659 := zbb BK659 hb; have NB0_665 := Aside0.mk ((by rw [hg]; exact Nat.ne_of_lt (IsS95.lt (show IsS95 w0 _ g s0_0 t664 from by repeat (first | (with_reducible first | exact HI0.out | apply IsS95.alloc | apply IsS95.drewN | apply IsS95.drew | apply IsS95.set_1 | refine IsS95.far ?_ NB0_658.out _ | refine IsS95.far ?_ NB0_659.out _) | exact HI0.out))) : g ≠ gb665)); have NB665_0 := Aside0.mk ((by rw [hg]; exact Nat.ne_of_gt (IsS95.lt (show IsS95 w0 _ g s0_0 t664 from by repeat (first | (with_reducible first | exact HI0.out | apply IsS95.alloc | apply IsS95.drewN | apply IsS95.drew | apply IsS95.set_1 | refine IsS95.far ?_ NB0_658.out _ | refine IsS95.far ?_ NB0_659.out _) | exact HI0.out))) : gb665 ≠ g)); replace HI0 := Aside0.mk (IsS95.below (y15 HI0.out NB0_658.out NB0_659.out) hb); clear hb hbox hg; have hnb89 := NB665_658.out; have hnc89 := NB658_665.out; have hnb90 := NB665_659.out; have hnc90 := NB659_665.out; have hnb91 := NB665_0.out; have hnc91 := NB0_665.out; have hcz92_0 := zh BK665; have hcz92_1 := zh1 BK665; have hfz92_0 := zfr BK665 0; have hfz92_1 := zfr BK665 1; obtain ⟨Ao93, co93, eo93⟩ := Kd.N_slice HO663.out; subst eo93) | ((with_reducible refine gate_callee (f := 58) rfl ?_); refine goesL_ (some 11) rfl rfl Try.func58 (by kernel_rfl) rfl #[.pointer (some ⟨g, 0, none⟩), .int .i64 12] rfl y4 ?_; (with_reducible refine (spec_l6Rd_pick.calls k g s0_0 t664 12 t666 t667 w0 _ ?side1 ?side2 A4.out).mono ?_); (case side1 => exact y28 HI0.out NB0_658.out NB0_659.out NB0_665.out); (case side2 => exact y22 HB.out HI0.out GE658.out GE659.out GE665.out); rintro e w94 ⟨rfl, hi, hb, hk⟩; refine ⟨_, rfl, ?_⟩; replace HO1_0 := Aside0.mk (Kd.V_mono (Kd.V_keep (Kd.V_mono (ok := fun k_ => (((((((P1_0_ k_ ∨ w.heap.size ≤ k_)) ∧ k_ ≠ g) ∧ k_ ≠ gb658) ∧ k_ ≠ gb659) ∧ some k_ ≠ (.slice Ao93 t661.length co93 : Value).ownBlock) ∧ k_ ≠ gb665)) (by (with_reducible repeat (first | apply Kd.V_alloc | apply Kd.V_drewN | apply Kd.V_drew)); exact (Kd.V_mono (Kd.V_far (p := ⟨gb665, 1, none⟩) (Kd.V_far (p := ⟨gb665, 0, none⟩) (Kd.V_mono HO1_0.out (fun k_ hk => (⟨hk, hk.2⟩ : _ ∧ k_ ≠ gb665))) (fun _ hk => hk.2) (.int .i64 t660)) (fun _ hk => hk.2) (.slice Ao93 t661.length co93)) (fun _ h_ => h_.1))) (fun k_ hk_ => (⟨hk_, hk_.1.1.1.1.2⟩ : _ ∧ k_ ≠ g))) hk (fun _ h => h.2)) (fun _ h => h.1)); replace BK658 := Aside0.mk (KeepBut.blk hk (g' := gb658) (o := .cells #[.slice A1_0 l1_0.length c1_0] 30 (0, 0)) (y17 NB658_665.out BK658.out) NB658_0.out (by simp)); replace BK659 := Aside0.mk (KeepBut.blk hk (g' := gb659) (o := .cells #[.int .i64 0, .slice none 0 0] 55 (0, 0)) (y17 NB659_665.out BK659.out) NB659_0.out (by simp)); replace HO663 := Aside0.mk (Kd.N_mono (Kd.N_keep (Kd.N_mono (ok := fun k_ => ((((P1_0_ k_ ∨ w.heap.size ≤ k_)) ∧ (k_ ≠ gb658 ∧ (k_ ≠ gb659 ∧ k_ ≠ g))) ∧ k_ ≠ gb665)) (by (with_reducible repeat (first | apply Kd.N_alloc | apply Kd.N_drewN | apply Kd.N_drew)); exact (Kd.N_mono (Kd.N_far (p := ⟨gb665, 1, none⟩) (Kd.N_far (p := ⟨gb665, 0, none⟩) (Kd.N_mono HO663.out (fun k_ hk => (⟨hk, hk.2⟩ : _ ∧ k_ ≠ gb665))) (fun _ hk => hk.2) (.int .i64 t660)) (fun _ hk => hk.2) (.slice Ao93 t661.length co93)) (fun _ h_ => h_.1))) (fun k_ hk_ => (⟨hk_, hk_.1.2.2.2⟩ : _ ∧ k_ ≠ g))) hk (fun _ h => h.2)) (fun _ h => h.1)); replace BK665 := Aside0.mk (KeepBut.blk hk (g' := gb665) (o := .cells #[.int .i64 t660, .slice Ao93 t661.length co93] 55 (0, 0)) (by (with_reducible repeat (first | refine blk_drewN ?_ _ | refine blk_drew ?_ | refine blk_alloc ?_ _)); refine blk_put (cs := #[.int .i64 t660, .slice none 0 0]) ?_ 1 _ rfl; (with_reducible repeat (first | refine blk_drewN ?_ _ | refine blk_drew ?_ | refine blk_alloc ?_ _)); apply blk_put (i := 0); (case h => exact y0 BK665.out); (case e => rfl)) NB665_0.out (by simp)); replace HK := Aside0.mk (KeepBut.trans (y32 HK.out GW658.out GW659.out GW665.out) hk (.inl rfl)); replace HB := Aside0.mk (hb); replace HI0 := Aside0.mk (hi); (try clear hb); (try clear hb2); (try clear hk); (try clear hi); have hcz95_0 := zh BK665; have hcz95_1 := zh1 BK665; have hfz95_0 := zfr BK665 0; have hfz95_1 := zfr BK665 1; have hnb96 := NB659_0.out; have hnc96 := NB0_659.out; have hcz97_0 := zh BK659; have hcz97_1 := zh1 BK659; have hfz97_0 := zfr BK659 0; have hfz97_1 := zfr BK659 1))
    refine bodyPost_ret (results_cell_row rfl _ _ gb659 55 #[.int .i64 t660, .slice Ao93 t661.length co93] (0, 0) _ rfl (by (with_reducible repeat (first | refine blk_drewN ?_ _ | refine blk_drew ?_ | refine blk_alloc ?_ _)); refine blk_put (cs := #[.int .i64 t660, .slice none 0 0]) ?_ 1 _ rfl; (with_reducible repeat (first | refine blk_drewN ?_ _ | refine blk_drew ?_ | refine blk_alloc ?_ _)); apply blk_put (i := 0); (case h => exact y0 BK659.out); (case e => rfl)) Try.underlying55 rfl (by kernel_rfl)) rfl ?_
    exact ⟨_, y14, (by (with_reducible repeat (first | apply Kd.N_alloc | apply Kd.N_drewN | apply Kd.N_drew)); exact Kd.N_mono (Kd.N_far (p := ⟨gb659, 1, none⟩) (Kd.N_far (p := ⟨gb659, 0, none⟩) (Kd.N_mono HO663.out (fun k_ hk => (⟨hk, hk.1.2.2.1⟩ : _ ∧ k_ ≠ gb659))) (fun _ hk => hk.2) (.int .i64 t660)) (fun _ hk => hk.2) (.slice Ao93 t661.length co93)) (fun _ hk => hk.1.1.1)), (y28 HI0.out NB0_658.out NB0_659.out NB0_665.out), (y22 HB.out HI0.out GE658.out GE659.out GE665.out), (y32 HK.out GW658.out GW659.out GW665.out)⟩
end Go.Proofs.Ytjhbhihfifhljaa.PA
end
section
namespace Go.Proofs.Ytjhbhihfifhljaa.PA
open Go.RowKit Go.Proofs.YtjhbhihfifhljaaW.PrintWords Go.Proofs.YtjhbhihfifhljaaW.PrintLast Go.Proofs.YtjhbhihfifhljaaW.PrintMore
attribute [local go_sem] max2_int min2_int max_two min_two max_three min_three max_four min_four
set_option linter.unusedVariables false
set_option linter.unusedSimpArgs false
def spec_DrawValOk.f (k : Nat) (l0 : List Int) : Option ((List (S30)) × Int × (List (S55))) := (spec_l6Open.f l0).bind fun bt682 => ((spec_l6Rd_pick.f k bt682.1 bt682.2 4).bind fun bt685 => ((spec_l71Type.f k bt682.1 bt685.2 (wrap64 (1 + bt685.1))).bind fun bt687 => ((spec_l6Rd_pick.f k bt682.1 bt687.2 5).bind fun bt692 => (if bt692.1 = 0 then ((spec_l71Type.f k bt682.1 bt692.2 3).bind fun bt694 => ((spec_l71Bad.f k bt682.1 bt694.2 bt694.1).bind fun bt698 => (some (bt687.1, bt698.1, bt698.2.1)))) else ((spec_l71Bad.f k bt682.1 bt692.2 bt687.1).bind fun bt703 => (some (bt687.1, bt703.1, bt703.2.1)))))))
theorem spec_DrawValOk.mono : ∀ a0 k, LeO (spec_DrawValOk.f k a0) (spec_DrawValOk.f (k + 1) a0) := by
 intro a0 k
 unfold spec_DrawValOk.f
 repeat' first
   | (with_reducible exact spec_l6Rd_pick.mono _ _ _ _)
   | (with_reducible exact spec_l71Bad.mono _ _ _ _)
   | (with_reducible exact spec_l71Type.mono _ _ _ _)
   | (with_reducible exact LeO.refl _)
   | (with_reducible exact LeO.none _)
   | (with_reducible refine LeO.ite ?_ ?_)
   | (with_reducible refine LeO.bind ?_ (fun _ => ?_))
   | exact spec_l6Rd_pick.mono _ _ _ _
   | exact spec_l71Bad.mono _ _ _ _
   | exact spec_l71Type.mono _ _ _ _
   | exact LeO.none _
   | refine LeO.ite ?_ ?_
   | refine LeO.bind ?_ (fun _ => ?_)
set_option maxHeartbeats 8000000 in
set_option maxRecDepth 100000 in
theorem spec_DrawValOk.calls (k : Nat) (A0 : Option Addr) (c0 : Nat) (l0 : List Int) (r1 : List (S30)) (r2 : Int) (r3 : List (S55)) (w : World) (hr0 : Kd.C (Kd.int .u8) w A0 l0.length l0) (hc0 : l0.length ≤ c0) (h : spec_DrawValOk.f k l0 = some (r1, r2, r3)) :
  Calls Try.prog 34 #[.slice A0 l0.length c0] w fun e w' => ∃ v0_ v2_ : Value, e = .returned (.tuple #[.agg #[v0_], .agg #[.int .i64 r2, v2_]]) ∧ Kd.V k30 30 w' w.heap.size (fun k_ => (w.heap.size ≤ k_)) v0_ r1 ∧ Kd.V k55 55 w' w.heap.size (fun k_ => (w.heap.size ≤ k_)) v2_ r3 ∧ Below w.heap.size w w' := by
 have hu30 := Try.underlying30
 have hu55 := Try.underlying55
 have HR0 := Aside0.mk hr0
 have HC0 := Aside0.mk hc0
 clear hr0 hc0
 have HB := Aside0.mk (Below.refl w.heap.size w)
 have H : ((spec_l6Open.f l0).bind fun bt682 => ((spec_l6Rd_pick.f k bt682.1 bt682.2 4).bind fun bt685 => ((spec_l71Type.f k bt682.1 bt685.2 (wrap64 (1 + bt685.1))).bind fun bt687 => ((spec_l6Rd_pick.f k bt682.1 bt687.2 5).bind fun bt692 => (if bt692.1 = 0 then ((spec_l71Type.f k bt682.1 bt692.2 3).bind fun bt694 => ((spec_l71Bad.f k bt682.1 bt694.2 bt694.1).bind fun bt698 => (some (bt687.1, bt698.1, bt698.2.1)))) else ((spec_l71Bad.f k bt682.1 bt692.2 bt687.1).bind fun bt703 => (some (bt687.1, bt703.1, bt703.2.1)))))))) = some (r1, r2, r3) := h
 clear h
 obtain ⟨⟨t682, t683⟩, A20, H⟩ := ob H
 have A2 := Aside0.mk A20
 clear A20
 obtain ⟨⟨t685, t686⟩, A30, H⟩ := ob H
 have A3 := Aside0.mk A30
 clear A30
 obtain ⟨⟨t687, t690⟩, A40, H⟩ := ob H
 have A4 := Aside0.mk A40
 clear A40
 obtain ⟨⟨t692, t693⟩, A50, H⟩ := ob H
 have A5 := Aside0.mk A50
 clear A50
 by_cases c6 : t692 = 0
 ·rw [if_pos c6] at H
  have c6b0 : (t692 == 0) = true := beq_iff_eq.mpr c6
  have c6b1 : (t692 != 0) = false := bne_eq_false_iff_eq.mpr c6
  clear c6
  obtain ⟨⟨t694, t697⟩, A70, H⟩ := ob H
  have A7 := Aside0.mk A70
  clear A70
  obtain ⟨⟨t698, t699, t702⟩, A80, H⟩ := ob H
  have A8 := Aside0.mk A80
  clear A80
  simp only [Option.some.injEq, Prod.mk.injEq] at H
  obtain ⟨rfl, rfl, rfl⟩ := H
  go_enter Try.func34, Try.ntmps34
  try go_wp2_with (first | ((with_reducible refine gate_dst (N := 2) rfl ?_); refine zbx 2 #[.slice none 0 0] 30 ?_; intro gb680 hg w9 hbox hb; have BK680 := Aside0.mk hbox; have GW680 := Aside0.mk ((y5 hg HB.out : w.heap.size ≤ gb680)); have GE680 := Aside0.mk ((y5 hg HB.out : w.heap.size ≤ gb680)); replace HB := Aside0.mk (below_step (y2 HB.out) hb); clear hb hbox hg) | ((with_reducible refine gate_dst (N := 3) rfl ?_); refine zbx 3 #[.int .i64 0, .slice none 0 0] 55 ?_; intro gb681 hg w10 hbox hb; have BK681 := Aside0.mk hbox; have GW681 := Aside0.mk ((y6 hg HB.out GE680.out : w.heap.size ≤ gb681)); have GE681 := Aside0.mk ((y6 hg HB.out GE680.out : w.heap.size ≤ gb681)); replace HB := Aside0.mk (below_step (y3 HB.out GE680.out) hb); have NB680_681 := zltn hg BK680; have NB681_680 := zgtn hg BK680; replace BK680 := zbb BK680 hb; clear hb hbox hg) | ((with_reducible refine gate_callee (f := 52) rfl ?_); refine goesL_ (some 7) rfl rfl Try.func52 (by kernel_rfl) rfl #[.slice A0 l0.length c0] rfl y4 ?_; (with_reducible refine (spec_l6Open.calls _ _ l0 t682 t683 w _ ?side1 ?side2 ?side3 A2.out).mono ?_); (case side1 => exact y1 HB.out GE680.out GE681.out); (case side2 => exact HR0.out); (case side3 => exact HC0.out); rintro e w11 ⟨g684, rfl, hi, hb, hb2⟩; refine ⟨_, rfl, ?_⟩; replace HB := Aside0.mk (hb); have HI684 := Aside0.mk (hi); have NB684_680 := Aside0.mk (IsS95.ne_blk hi (blk_below (g := gb680) (o := .cells #[.slice none 0 0] 30 (0, 0)) (y0 BK680.out) hb2) (by decide)); have NB680_684 := Aside0.mk (Ne.symm (IsS95.ne_blk hi (blk_below (g := gb680) (o := .cells #[.slice none 0 0] 30 (0, 0)) (y0 BK680.out) hb2) (by decide))); replace BK680 := Aside0.mk (blk_below (g := gb680) (o := .cells #[.slice none 0 0] 30 (0, 0)) (y0 BK680.out) hb2); have NB684_681 := Aside0.mk (IsS95.ne_blk hi (blk_below (g := gb681) (o := .cells #[.int .i64 0, .slice none 0 0] 55 (0, 0)) (y0 BK681.out) hb2) (by decide)); have NB681_684 := Aside0.mk (Ne.symm (IsS95.ne_blk hi (blk_below (g := gb681) (o := .cells #[.int .i64 0, .slice none 0 0] 55 (0, 0)) (y0 BK681.out) hb2) (by decide))); replace BK681 := Aside0.mk (blk_below (g := gb681) (o := .cells #[.int .i64 0, .slice none 0 0] 55 (0, 0)) (y0 BK681.out) hb2); (try clear hb); (try clear hb2); (try clear hk); (try clear hi)) | ((with_reducible refine gate_callee (f := 58) rfl ?_); refine goesL_ (some 10) rfl rfl Try.func58 (by kernel_rfl) rfl #[.pointer (some ⟨g684, 0, none⟩), .int .i64 4] rfl y4 ?_; (with_reducible refine (spec_l6Rd_pick.calls k g684 t682 t683 4 t685 t686 w _ ?side1 ?side2 A3.out).mono ?_); (case side1 => exact y15 HI684.out NB684_680.out NB684_681.out); (case side2 => exact y12 HB.out HI684.out GE680.out GE681.out); rintro e w12 ⟨rfl, hi, hb, hk⟩; refine ⟨_, rfl, ?_⟩; replace BK680 := Aside0.mk (KeepBut.blk hk (g' := gb680) (o := .cells #[.slice none 0 0] 30 (0, 0)) (y0 BK680.out) NB680_684.out (by simp)); replace BK681 := Aside0.mk (KeepBut.blk hk (g' := gb681) (o := .cells #[.int .i64 0, .slice none 0 0] 55 (0, 0)) (y0 BK681.out) NB681_684.out (by simp)); replace HB := Aside0.mk (hb); replace HI684 := Aside0.mk (hi); (try clear hb); (try clear hb2); (try clear hk); (try clear hi)) | ((with_reducible refine gate_callee (f := 67) rfl ?_); refine goesL_ (some 12) rfl rfl Try.func67 (by kernel_rfl) rfl #[.pointer (some ⟨g684, 0, none⟩), .int .i64 (wrap64 (1 + t685))] rfl y4 ?_; (with_reducible refine (spec_l71Type.calls k g684 t682 t686 (wrap64 (1 + t685)) t687 t690 w _ ?side1 ?side2 A4.out).mono ?_); (case side1 => exact y15 HI684.out NB684_680.out NB684_681.out); (case side2 => exact y12 HB.out HI684.out GE680.out GE681.out); rintro e w13 ⟨v688, rfl, ho0, hi, hb, hk⟩; refine ⟨_, rfl, ?_⟩; have HO689 := Aside0.mk (Kd.N_lower (Kd.N_mono (ok' := fun k_ => (w.heap.size ≤ k_) ∧ k_ ≠ gb680 ∧ k_ ≠ gb681 ∧ k_ ≠ g684) ho0 (fun k_ hk_ => ⟨(Nat.le_trans (below_size (y12 HB.out HI684.out GE680.out GE681.out)) hk_), (Kd.freshB (g := gb680) (o := .cells #[.slice none 0 0] 30 (0, 0)) (y0 BK680.out) k_ hk_), (Kd.freshB (g := gb681) (o := .cells #[.int .i64 0, .slice none 0 0] 55 (0, 0)) (y0 BK681.out) k_ hk_), (IsS95.fresh (y15 HI684.out NB684_680.out NB684_681.out) k_ hk_)⟩)) (below_size (y12 HB.out HI684.out GE680.out GE681.out))); replace BK680 := Aside0.mk (KeepBut.blk hk (g' := gb680) (o := .cells #[.slice none 0 0] 30 (0, 0)) (y0 BK680.out) NB680_684.out (by simp)); replace BK681 := Aside0.mk (KeepBut.blk hk (g' := gb681) (o := .cells #[.int .i64 0, .slice none 0 0] 55 (0, 0)) (y0 BK681.out) NB681_684.out (by simp)); replace HB := Aside0.mk (hb); replace HI684 := Aside0.mk (hi); (try clear hb); (try clear hb2); (try clear hk); (try clear hi); (try clear ho0)) | ((with_reducible refine gate_dst (N := 5) rfl ?_); refine zbx 5 #[.slice none 0 0] 30 ?_; intro gb691 hg w14 hbox hb; replace HO689 := Aside0.mk (Kd.N_below (Kd.N_elderB (y9 HO689.out) gb691 (Nat.le_of_eq hg.symm)) hb); have BK691 := Aside0.mk hbox; have GW691 := Aside0.mk ((y39 hg HB.out HI684.out GE680.out GE681.out : w.heap.size ≤ gb691)); have GE691 := Aside0.mk ((y39 hg HB.out HI684.out GE680.out GE681.out : w.heap.size ≤ gb691)); replace HB := Aside0.mk (below_step (y12 HB.out HI684.out GE680.out GE681.out) hb); have NB680_691 := zltn hg BK680; have NB691_680 := zgtn hg BK680; replace BK680 := zbb BK680 hb; have NB681_691 := zltn hg BK681; have NB691_681 := zgtn hg BK681; replace BK681 := zbb BK681 hb; have NB684_691 := Aside0.mk ((by rw [hg]; exact Nat.ne_of_lt (IsS95.lt (show IsS95 w _ g684 t682 t690 from by repeat (first | (with_reducible first | exact HI684.out | apply IsS95.alloc | apply IsS95.drewN | apply IsS95.drew | apply IsS95.set_1 | refine IsS95.far ?_ NB684_680.out _ | refine IsS95.far ?_ NB684_681.out _) | exact HI684.out))) : g684 ≠ gb691)); have NB691_684 := Aside0.mk ((by rw [hg]; exact Nat.ne_of_gt (IsS95.lt (show IsS95 w _ g684 t682 t690 from by repeat (first | (with_reducible first | exact HI684.out | apply IsS95.alloc | apply IsS95.drewN | apply IsS95.drew | apply IsS95.set_1 | refine IsS95.far ?_ NB684_680.out _ | refine IsS95.far ?_ NB684_681.out _) | exact HI684.out))) : gb691 ≠ g684)); replace HI684 := Aside0.mk (IsS95.below (y15 HI684.out NB684_680.out NB684_681.out) hb); clear hb hbox hg; obtain ⟨Ao15, co15, eo15⟩ := Kd.N_slice HO689.out; subst eo15; have hnb16 := NB691_680.out; have hnc16 := NB680_691.out; have hnb17 := NB691_681.out; have hnc17 := NB681_691.out; have hnb18 := NB691_684.out; have hnc18 := NB684_691.out; have hcz19_0 := zh BK691; have hfz19_0 := zfr BK691 0) | ((with_reducible refine gate_callee (f := 58) rfl ?_); refine goesL_ (some 14) rfl rfl Try.func58 (by kernel_rfl) rfl #[.pointer (some ⟨g684, 0, none⟩), .int .i64 5] rfl y4 ?_; (with_reducible refine (spec_l6Rd_pick.calls k g684 t682 t690 5 t692 t693 w _ ?side1 ?side2 A5.out).mono ?_); (case side1 => exact y28 HI684.out NB684_680.out NB684_681.out NB684_691.out); (case side2 => exact y22 HB.out HI684.out GE680.out GE681.out GE691.out); rintro e w20 ⟨rfl, hi, hb, hk⟩; refine ⟨_, rfl, ?_⟩; replace BK680 := Aside0.mk (KeepBut.blk hk (g' := gb680) (o := .cells #[.slice none 0 0] 30 (0, 0)) (y21 NB680_691.out BK680.out) NB680_684.out (by simp)); replace BK681 := Aside0.mk (KeepBut.blk hk (g' := gb681) (o := .cells #[.int .i64 0, .slice none 0 0] 55 (0, 0)) (y21 NB681_691.out BK681.out) NB681_684.out (by simp)); replace HO689 := Aside0.mk (Kd.N_mono (Kd.N_keep (Kd.N_mono (ok := fun k_ => ((((w.heap.size ≤ k_)) ∧ (k_ ≠ gb680 ∧ (k_ ≠ gb681 ∧ k_ ≠ g684))) ∧ k_ ≠ gb691)) (by (with_reducible repeat (first | apply Kd.N_alloc | apply Kd.N_drewN | apply Kd.N_drew)); exact (Kd.N_mono (Kd.N_far (p := ⟨gb691, 0, none⟩) (Kd.N_mono HO689.out (fun k_ hk => (⟨hk, hk.2⟩ : _ ∧ k_ ≠ gb691))) (fun _ hk => hk.2) (.slice Ao15 t687.length co15)) (fun _ h_ => h_.1))) (fun k_ hk_ => (⟨hk_, hk_.1.2.2.2⟩ : _ ∧ k_ ≠ g684))) hk (fun _ h => h.2)) (fun _ h => h.1)); replace BK691 := Aside0.mk (KeepBut.blk hk (g' := gb691) (o := .cells #[.slice Ao15 t687.length co15] 30 (0, 0)) (by (with_reducible repeat (first | refine blk_drewN ?_ _ | refine blk_drew ?_ | refine blk_alloc ?_ _)); apply blk_put (i := 0); (case h => exact y0 BK691.out); (case e => rfl)) NB691_684.out (by simp)); replace HB := Aside0.mk (hb); replace HI684 := Aside0.mk (hi); (try clear hb); (try clear hb2); (try clear hk); (try clear hi)))
  replace HO689 := Aside0.mk (Kd.N_drew HO689.out)
  replace BK680 := Aside0.mk (blk_drew BK680.out)
  replace BK681 := Aside0.mk (blk_drew BK681.out)
  replace BK691 := Aside0.mk (blk_drew BK691.out)
  replace HI684 := Aside0.mk (IsS95.drew HI684.out)
  replace HB := Aside0.mk (below_drew1 HB.out)
  refine start_ (n := 7) (S := fun w' => w'.cell? ⟨gb691, 0, none⟩ = some (.slice Ao15 t687.length co15)) (ds := []) #[false, false, false, false, false, false, false] (by kernel_rfl) rfl rfl ((blk_cell BK691.out 0).trans rfl) (fun hHeld => ?_)
  generalize w20.drew = w21 at HO689 BK680 BK681 BK691 HI684 HB hHeld ⊢
  refine pure_ (i := 1) (N := some 17) (v := ?_) (a' := ?_) #[false, true, false, false, false, false, false] rfl rfl (by kernel_rfl) (fun _ _ _ h => h) (Or.inl ⟨(by rfl), ?_⟩) ?_ ?_
  rotate_left
  ·intro w'
   go_simp
   with_reducible rfl
  rotate_left
  ·simp only [Act.put, List.setIfInBounds_toArray, List.set_cons_zero, List.set_cons_succ, i64_w, i32_w]
   rfl
  refine pure_ (i := 2) (N := some 18) (v := ?_) (a' := ?_) #[false, true, true, false, false, false, false] rfl rfl (by kernel_rfl) (fun _ _ _ h => h) (Or.inl ⟨(by rfl), ?_⟩) ?_ ?_
  rotate_left
  ·intro w'
   go_simp
   with_reducible rfl
  rotate_left
  ·simp only [Act.put, List.setIfInBounds_toArray, List.set_cons_zero, List.set_cons_succ, i64_w, i32_w]
   rfl
  refine take_ (i := 0) (N := some 16) (v := ?_) (a' := ?_) #[true, true, true, false, false, false, false] rfl rfl (by kernel_rfl) (fun _ _ _ h => h) (Or.inl ⟨(by rfl), ?_⟩) hHeld ?_ ?_
  rotate_left
  ·intro w' s0
   go_simp
   with_reducible rfl
  rotate_left
  ·simp only [Act.put, List.setIfInBounds_toArray, List.set_cons_zero, List.set_cons_succ, i64_w, i32_w]
   rfl
  refine one_ (i := 3) (N := some 19) #[true, true, true, true, false, false, false] rfl rfl (by kernel_rfl) (by decide) (fun K hK => ?_)
  refine goes_ Try.func67 (by kernel_rfl) rfl #[.pointer (some ⟨g684, 0, none⟩), .int .i64 3] (by rfl) rfl rfl y4 ?_
  with_reducible refine (spec_l71Type.calls k g684 t682 t693 3 t694 t697 w _ ?side1 ?side2 A7.out).mono ?_
  (case side1 => exact y28 HI684.out NB684_680.out NB684_681.out NB684_691.out)
  (case side2 => exact y22 HB.out HI684.out GE680.out GE681.out GE691.out)
  rintro e w22 ⟨v695, rfl, ho0, hi, hb, hk⟩
  refine ⟨_, rfl, ?_⟩
  have HO696 := Aside0.mk (Kd.N_lower (Kd.N_mono (ok' := fun k_ => (w.heap.size ≤ k_) ∧ some k_ ≠ (.slice Ao15 t687.length co15 : Value).ownBlock ∧ k_ ≠ gb680 ∧ k_ ≠ gb681 ∧ k_ ≠ gb691 ∧ k_ ≠ g684) ho0 (fun k_ hk_ => ⟨(Nat.le_trans (below_size (y22 HB.out HI684.out GE680.out GE681.out GE691.out)) hk_), (Kd.fresh' (Kd.N_lt (y9 HO689.out)) k_ hk_), (Kd.freshB (g := gb680) (o := .cells #[.slice none 0 0] 30 (0, 0)) (y0 BK680.out) k_ hk_), (Kd.freshB (g := gb681) (o := .cells #[.int .i64 0, .slice none 0 0] 55 (0, 0)) (y0 BK681.out) k_ hk_), (Kd.freshB (g := gb691) (o := .cells #[.slice Ao15 t687.length co15] 30 (0, 0)) (y0 BK691.out) k_ hk_), (IsS95.fresh (y28 HI684.out NB684_680.out NB684_681.out NB684_691.out) k_ hk_)⟩)) (below_size (y22 HB.out HI684.out GE680.out GE681.out GE691.out)))
  replace BK680 := Aside0.mk (KeepBut.blk hk (g' := gb680) (o := .cells #[.slice none 0 0] 30 (0, 0)) (y0 BK680.out) NB680_684.out (by simp))
  replace BK681 := Aside0.mk (KeepBut.blk hk (g' := gb681) (o := .cells #[.int .i64 0, .slice none 0 0] 55 (0, 0)) (y0 BK681.out) NB681_684.out (by simp))
  replace HO689 := Aside0.mk (Kd.N_mono (Kd.N_told (Kd.N_oldK (Kd.N_mono (ok := fun k_ => ((((w.heap.size ≤ k_)) ∧ (k_ ≠ gb680 ∧ (k_ ≠ gb681 ∧ k_ ≠ g684))) ∧ k_ ≠ gb691)) (y9 HO689.out) (fun k_ hk_ => (⟨hk_, hk_.1.2.2.2⟩ : _ ∧ k_ ≠ g684))) hk) (Kd.N_base ho0)) (fun _ h_ => h_.1))
  replace BK691 := Aside0.mk (KeepBut.blk hk (g' := gb691) (o := .cells #[.slice Ao15 t687.length co15] 30 (0, 0)) (y0 BK691.out) NB691_684.out (by simp))
  replace HB := Aside0.mk (hb)
  replace HI684 := Aside0.mk (hi)
  (try clear hb)
  (try clear hb2)
  (try clear hk)
  (try clear hi)
  (try clear ho0)
  obtain ⟨Ao23, co23, eo23⟩ := Kd.N_slice HO696.out
  (first | subst eo23 | (injection eo23 with f1_ f2_ f3_; have f4_ := f1_.symm; have f5_ := f3_.symm; clear f1_ f2_ f3_; subst f4_; subst f5_))
  refine hK.out _ _ ((blk_cell BK691.out 0).trans rfl) (fun hHeld => ?_)
  clear hK K
  refine norm_ (a' := ?_) ?_ ?_
  rotate_left
  ·show Act.put _ (some 19) _ = _
   simp only [Act.put, List.setIfInBounds_toArray, List.set_cons_zero, List.set_cons_succ, i64_w, i32_w]
   rfl
  refine one_ (i := 4) (N := some 20) #[true, true, true, true, true, false, false] rfl rfl (by kernel_rfl) (by decide) (fun K hK => ?_)
  refine goes_ Try.func68 (by kernel_rfl) rfl #[.pointer (some ⟨g684, 0, none⟩), .agg #[.slice Ao23 t694.length co23]] (by rfl) rfl rfl y4 ?_
  with_reducible refine (spec_l71Bad.calls k g684 t682 t697 (fun k_ => ((w.heap.size ≤ k_) ∧ (some k_ ≠ (.slice Ao15 t687.length co15 : Value).ownBlock ∧ (k_ ≠ gb680 ∧ (k_ ≠ gb681 ∧ (k_ ≠ gb691 ∧ k_ ≠ g684)))))) _ _ t694 t698 t699 t702 w _ ?side1 ?side2 ?side3 A8.out).mono ?_
  (case side1 => exact y28 HI684.out NB684_680.out NB684_681.out NB684_691.out)
  (case side2 => exact y22 HB.out HI684.out GE680.out GE681.out GE691.out)
  (case side3 => exact Kd.V_mono (Kd.N_V (HO696.out)) (fun k_ hk_ => ⟨hk_, hk_.2.2.2.2.2⟩))
  rintro e w24 ⟨v700, rfl, ho0, hi, hb, hk⟩
  refine ⟨_, rfl, ?_⟩
  replace HO696 := Aside0.mk (Kd.N_mono (Kd.N_told (Kd.N_oldK (Kd.N_mono (ok := fun k_ => (((w.heap.size ≤ k_)) ∧ (some k_ ≠ (.slice Ao15 t687.length co15 : Value).ownBlock ∧ (k_ ≠ gb680 ∧ (k_ ≠ gb681 ∧ (k_ ≠ gb691 ∧ k_ ≠ g684)))))) (y9 HO696.out) (fun k_ hk_ => (⟨hk_, hk_.2.2.2.2.2⟩ : _ ∧ k_ ≠ g684))) hk) (Kd.N_base ho0)) (fun _ h_ => h_.1))
  have HO701 := Aside0.mk (Kd.N_lower (Kd.N_mono (ok' := fun k_ => (w.heap.size ≤ k_) ∧ some k_ ≠ (.slice Ao15 t687.length co15 : Value).ownBlock ∧ k_ ≠ gb680 ∧ k_ ≠ gb681 ∧ k_ ≠ gb691 ∧ k_ ≠ g684) ho0 (fun k_ hk_ => ⟨Or.elim hk_ (fun hs_ => hs_.1) (fun hn_ => (Nat.le_trans (below_size (y22 HB.out HI684.out GE680.out GE681.out GE691.out)) hn_)), Or.elim hk_ (fun hs_ => hs_.2.1) (fun hn_ => (Kd.fresh' (Kd.N_lt (y9 HO689.out)) k_ hn_)), Or.elim hk_ (fun hs_ => hs_.2.2.1) (fun hn_ => (Kd.freshB (g := gb680) (o := .cells #[.slice none 0 0] 30 (0, 0)) (y0 BK680.out) k_ hn_)), Or.elim hk_ (fun hs_ => hs_.2.2.2.1) (fun hn_ => (Kd.freshB (g := gb681) (o := .cells #[.int .i64 0, .slice none 0 0] 55 (0, 0)) (y0 BK681.out) k_ hn_)), Or.elim hk_ (fun hs_ => hs_.2.2.2.2.1) (fun hn_ => (Kd.freshB (g := gb691) (o := .cells #[.slice Ao15 t687.length co15] 30 (0, 0)) (y0 BK691.out) k_ hn_)), Or.elim hk_ (fun hs_ => hs_.2.2.2.2.2) (fun hn_ => (IsS95.fresh (y28 HI684.out NB684_680.out NB684_681.out NB684_691.out) k_ hn_))⟩)) (below_size (y22 HB.out HI684.out GE680.out GE681.out GE691.out)))
  replace BK680 := Aside0.mk (KeepBut.blk hk (g' := gb680) (o := .cells #[.slice none 0 0] 30 (0, 0)) (y0 BK680.out) NB680_684.out (by simp))
  replace BK681 := Aside0.mk (KeepBut.blk hk (g' := gb681) (o := .cells #[.int .i64 0, .slice none 0 0] 55 (0, 0)) (y0 BK681.out) NB681_684.out (by simp))
  replace HO689 := Aside0.mk (Kd.N_mono (Kd.N_told (Kd.N_oldK (Kd.N_mono (ok := fun k_ => (((((w.heap.size ≤ k_)) ∧ (k_ ≠ gb680 ∧ (k_ ≠ gb681 ∧ k_ ≠ g684))) ∧ k_ ≠ gb691) ∧ some k_ ≠ (.slice Ao23 t694.length co23 : Value).ownBlock)) (y9 HO689.out) (fun k_ hk_ => (⟨hk_, hk_.1.1.2.2.2⟩ : _ ∧ k_ ≠ g684))) hk) (Kd.N_base ho0)) (fun _ h_ => h_.1))
  replace BK691 := Aside0.mk (KeepBut.blk hk (g' := gb691) (o := .cells #[.slice Ao15 t687.length co15] 30 (0, 0)) (y0 BK691.out) NB691_684.out (by simp))
  replace HB := Aside0.mk (hb)
  replace HI684 := Aside0.mk (hi)
  (try clear hb)
  (try clear hb2)
  (try clear hk)
  (try clear hi)
  (try clear ho0)
  obtain ⟨Ao27, co27, eo27⟩ := Kd.N_slice HO701.out
  (first | subst eo27 | (injection eo27 with f1_ f2_ f3_; have f4_ := f1_.symm; have f5_ := f3_.symm; clear f1_ f2_ f3_; subst f4_; subst f5_))
  refine hK.out _ _ ((blk_cell BK691.out 0).trans rfl) (fun hHeld => ?_)
  clear hK K
  refine norm_ (a' := ?_) ?_ ?_
  rotate_left
  ·show Act.put _ (some 20) _ = _
   simp only [Act.put, List.setIfInBounds_toArray, List.set_cons_zero, List.set_cons_succ, i64_w, i32_w]
   rfl
  refine one_ (i := 5) (N := none) #[true, true, true, true, true, true, false] rfl rfl (by kernel_rfl) (by decide) (fun K hK => ?_)
  have hs25 : w24.cell? ⟨gb680, 0, none⟩ = some (.slice none 0 0) := (blk_cell BK680.out 0).trans rfl
  have hfs25 := zfr BK680 0
  have hns25_1 := NB681_680.out
  have hns25_2 := NB691_680.out
  have hms25_1 := NB680_681.out
  have hms25_2 := NB680_691.out
  refine skip_ (w1 := ?_) (by rfl) rfl ?_ ?_
  rotate_left
  ·go_simp
   rfl
  refine hK.out _ _ (((cell_far (p := ⟨gb680, _, none⟩) NB691_680.out _).trans (hHeld))) (fun hHeld => ?_)
  clear hK K
  refine one_ (i := 6) (N := none) #[true, true, true, true, true, true, true] rfl rfl (by kernel_rfl) (by decide) (fun K hK => ?_)
  have hs26 : w24.cell? ⟨gb681, 0, none⟩ = some (.int .i64 0) := (blk_cell BK681.out 0).trans rfl
  have hfs26 := zfr BK681 0
  have hns26_0 := NB680_681.out
  have hns26_2 := NB691_681.out
  have hms26_0 := NB681_680.out
  have hms26_2 := NB681_691.out
  have hs28 : w24.cell? ⟨gb681, 1, none⟩ = some (.slice none 0 0) := (blk_cell BK681.out 1).trans rfl
  have hfs28 := zfr BK681 1
  have hns28_0 := NB680_681.out
  have hns28_2 := NB691_681.out
  have hms28_0 := NB681_680.out
  have hms28_2 := NB681_691.out
  refine skip_ (w1 := ?_) (by rfl) rfl ?_ ?_
  rotate_left
  ·go_simp
   rfl
  refine hK.out _ _ (((cell_far (p := ⟨gb681, _, none⟩) NB691_681.out _).trans (((cell_far (p := ⟨gb681, _, none⟩) NB691_681.out _).trans (hHeld))))) (fun hHeld => ?_)
  clear hK K
  refine done_ (by kernel_rfl) ?_
  try go_wp2
  refine bodyPost_ret (results_cc rfl _ _ gb680 gb681 30 55 #[.slice Ao15 t687.length co15] #[.int .i64 t698, .slice Ao27 t699.length co27] (0, 0) (0, 0) _ _ rfl (by (with_reducible repeat (first | refine blk_drewN ?_ _ | refine blk_drew ?_ | refine blk_alloc ?_ _)); refine blk_far ?_ NB680_681.out _; (with_reducible repeat (first | refine blk_drewN ?_ _ | refine blk_drew ?_ | refine blk_alloc ?_ _)); refine blk_far ?_ NB680_681.out _; (with_reducible repeat (first | refine blk_drewN ?_ _ | refine blk_drew ?_ | refine blk_alloc ?_ _)); apply blk_put (i := 0); (case h => exact y0 BK680.out); (case e => rfl)) Try.underlying30 rfl (by kernel_rfl) rfl (by (with_reducible repeat (first | refine blk_drewN ?_ _ | refine blk_drew ?_ | refine blk_alloc ?_ _)); refine blk_put (cs := #[.int .i64 t698, .slice none 0 0]) ?_ 1 _ rfl; (with_reducible repeat (first | refine blk_drewN ?_ _ | refine blk_drew ?_ | refine blk_alloc ?_ _)); refine blk_put (cs := #[.int .i64 0, .slice none 0 0]) ?_ 0 _ rfl; (with_reducible repeat (first | refine blk_drewN ?_ _ | refine blk_drew ?_ | refine blk_alloc ?_ _)); refine blk_far ?_ NB681_680.out _; (with_reducible repeat (first | refine blk_drewN ?_ _ | refine blk_drew ?_ | refine blk_alloc ?_ _)); exact BK681.out) Try.underlying55 rfl (by kernel_rfl)) rfl ?_
  exact ⟨_, _, y14, Kd.N_V (by (with_reducible repeat (first | apply Kd.N_alloc | apply Kd.N_drewN | apply Kd.N_drew)); exact Kd.N_mono (Kd.N_far (p := ⟨gb681, 1, none⟩) (Kd.N_far (p := ⟨gb681, 0, none⟩) (Kd.N_far (p := ⟨gb680, 0, none⟩) (Kd.N_mono (Kd.N_mono HO689.out (fun k_ hk => (⟨hk, hk.1.1.1.2.1⟩ : _ ∧ k_ ≠ gb680))) (fun k_ hk => (⟨hk, hk.1.1.1.1.2.2.1⟩ : _ ∧ k_ ≠ gb681))) (fun _ hk => hk.1.2) (.slice Ao15 t687.length co15)) (fun _ hk => hk.2) (.int .i64 t698)) (fun _ hk => hk.2) (.slice Ao27 t699.length co27)) (fun _ hk => hk.1.1.1.1.1.1)), Kd.N_V (by (with_reducible repeat (first | apply Kd.N_alloc | apply Kd.N_drewN | apply Kd.N_drew)); exact Kd.N_mono (Kd.N_far (p := ⟨gb681, 1, none⟩) (Kd.N_far (p := ⟨gb681, 0, none⟩) (Kd.N_far (p := ⟨gb680, 0, none⟩) (Kd.N_mono (Kd.N_mono HO701.out (fun k_ hk => (⟨hk, hk.2.2.1⟩ : _ ∧ k_ ≠ gb680))) (fun k_ hk => (⟨hk, hk.1.2.2.2.1⟩ : _ ∧ k_ ≠ gb681))) (fun _ hk => hk.1.2) (.slice Ao15 t687.length co15)) (fun _ hk => hk.2) (.int .i64 t698)) (fun _ hk => hk.2) (.slice Ao27 t699.length co27)) (fun _ hk => hk.1.1.1)), (y22 HB.out HI684.out GE680.out GE681.out GE691.out)⟩
 ·rw [if_neg c6] at H
  have c6b0 : (t692 == 0) = false := beq_eq_false_iff_ne.mpr c6
  have c6b1 : (t692 != 0) = true := bne_iff_ne.mpr c6
  obtain ⟨⟨t703, t704, t707⟩, A290, H⟩ := ob H
  have A29 := Aside0.mk A290
  clear A290
  simp only [Option.some.injEq, Prod.mk.injEq] at H
  obtain ⟨rfl, rfl, rfl⟩ := H
  go_enter Try.func34, Try.ntmps34
  try go_wp2_with (first | ((with_reducible refine gate_dst (N := 2) rfl ?_); refine zbx 2 #[.slice none 0 0] 30 ?_; intro gb680 hg w30 hbox hb; have BK680 := Aside0.mk hbox; have GW680 := Aside0.mk ((y5 hg HB.out : w.heap.size ≤ gb680)); have GE680 := Aside0.mk ((y5 hg HB.out : w.heap.size ≤ gb680)); replace HB := Aside0.mk (below_step (y2 HB.out) hb); clear hb hbox hg) | ((with_reducible refine gate_dst (N := 3) rfl ?_); refine zbx 3 #[.int .i64 0, .slice none 0 0] 55 ?_; intro gb681 hg w31 hbox hb; have BK681 := Aside0.mk hbox; have GW681 := Aside0.mk ((y6 hg HB.out GE680.out : w.heap.size ≤ gb681)); have GE681 := Aside0.mk ((y6 hg HB.out GE680.out : w.heap.size ≤ gb681)); replace HB := Aside0.mk (below_step (y3 HB.out GE680.out) hb); have NB680_681 := zltn hg BK680; have NB681_680 := zgtn hg BK680; replace BK680 := zbb BK680 hb; clear hb hbox hg) | ((with_reducible refine gate_callee (f := 52) rfl ?_); refine goesL_ (some 7) rfl rfl Try.func52 (by kernel_rfl) rfl #[.slice A0 l0.length c0] rfl y4 ?_; (with_reducible refine (spec_l6Open.calls _ _ l0 t682 t683 w _ ?side1 ?side2 ?side3 A2.out).mono ?_); (case side1 => exact y1 HB.out GE680.out GE681.out); (case side2 => exact HR0.out); (case side3 => exact HC0.out); rintro e w32 ⟨g684, rfl, hi, hb, hb2⟩; refine ⟨_, rfl, ?_⟩; replace HB := Aside0.mk (hb); have HI684 := Aside0.mk (hi); have NB684_680 := Aside0.mk (IsS95.ne_blk hi (blk_below (g := gb680) (o := .cells #[.slice none 0 0] 30 (0, 0)) (y0 BK680.out) hb2) (by decide)); have NB680_684 := Aside0.mk (Ne.symm (IsS95.ne_blk hi (blk_below (g := gb680) (o := .cells #[.slice none 0 0] 30 (0, 0)) (y0 BK680.out) hb2) (by decide))); replace BK680 := Aside0.mk (blk_below (g := gb680) (o := .cells #[.slice none 0 0] 30 (0, 0)) (y0 BK680.out) hb2); have NB684_681 := Aside0.mk (IsS95.ne_blk hi (blk_below (g := gb681) (o := .cells #[.int .i64 0, .slice none 0 0] 55 (0, 0)) (y0 BK681.out) hb2) (by decide)); have NB681_684 := Aside0.mk (Ne.symm (IsS95.ne_blk hi (blk_below (g := gb681) (o := .cells #[.int .i64 0, .slice none 0 0] 55 (0, 0)) (y0 BK681.out) hb2) (by decide))); replace BK681 := Aside0.mk (blk_below (g := gb681) (o := .cells #[.int .i64 0, .slice none 0 0] 55 (0, 0)) (y0 BK681.out) hb2); (try clear hb); (try clear hb2); (try clear hk); (try clear hi)) | ((with_reducible refine gate_callee (f := 58) rfl ?_); refine goesL_ (some 10) rfl rfl Try.func58 (by kernel_rfl) rfl #[.pointer (some ⟨g684, 0, none⟩), .int .i64 4] rfl y4 ?_; (with_reducible refine (spec_l6Rd_pick.calls k g684 t682 t683 4 t685 t686 w _ ?side1 ?side2 A3.out).mono ?_); (case side1 => exact y15 HI684.out NB684_680.out NB684_681.out); (case side2 => exact y12 HB.out HI684.out GE680.out GE681.out); rintro e w33 ⟨rfl, hi, hb, hk⟩; refine ⟨_, rfl, ?_⟩; replace BK680 := Aside0.mk (KeepBut.blk hk (g' := gb680) (o := .cells #[.slice none 0 0] 30 (0, 0)) (y0 BK680.out) NB680_684.out (by simp)); replace BK681 := Aside0.mk (KeepBut.blk hk (g' := gb681) (o := .cells #[.int .i64 0, .slice none 0 0] 55 (0, 0)) (y0 BK681.out) NB681_684.out (by simp)); replace HB := Aside0.mk (hb); replace HI684 := Aside0.mk (hi); (try clear hb); (try clear hb2); (try clear hk); (try clear hi)) | ((with_reducible refine gate_callee (f := 67) rfl ?_); refine goesL_ (some 12) rfl rfl Try.func67 (by kernel_rfl) rfl #[.pointer (some ⟨g684, 0, none⟩), .int .i64 (wrap64 (1 + t685))] rfl y4 ?_; (with_reducible refine (spec_l71Type.calls k g684 t682 t686 (wrap64 (1 + t685)) t687 t690 w _ ?side1 ?side2 A4.out).mono ?_); (case side1 => exact y15 HI684.out NB684_680.out NB684_681.out); (case side2 => exact y12 HB.out HI684.out GE680.out GE681.out); rintro e w34 ⟨v688, rfl, ho0, hi, hb, hk⟩; refine ⟨_, rfl, ?_⟩; have HO689 := Aside0.mk (Kd.N_lower (Kd.N_mono (ok' := fun k_ => (w.heap.size ≤ k_) ∧ k_ ≠ gb680 ∧ k_ ≠ gb681 ∧ k_ ≠ g684) ho0 (fun k_ hk_ => ⟨(Nat.le_trans (below_size (y12 HB.out HI684.out GE680.out GE681.out)) hk_), (Kd.freshB (g := gb680) (o := .cells #[.slice none 0 0] 30 (0, 0)) (y0 BK680.out) k_ hk_), (Kd.freshB (g := gb681) (o := .cells #[.int .i64 0, .slice none 0 0] 55 (0, 0)) (y0 BK681.out) k_ hk_), (IsS95.fresh (y15 HI684.out NB684_680.out NB684_681.out) k_ hk_)⟩)) (below_size (y12 HB.out HI684.out GE680.out GE681.out))); replace BK680 := Aside0.mk (KeepBut.blk hk (g' := gb680) (o := .cells #[.slice none 0 0] 30 (0, 0)) (y0 BK680.out) NB680_684.out (by simp)); replace BK681 := Aside0.mk (KeepBut.blk hk (g' := gb681) (o := .cells #[.int .i64 0, .slice none 0 0] 55 (0, 0)) (y0 BK681.out) NB681_684.out (by simp)); replace HB := Aside0.mk (hb); replace HI684 := Aside0.mk (hi); (try clear hb); (try clear hb2); (try clear hk); (try clear hi); (try clear ho0)) | ((with_reducible refine gate_dst (N := 5) rfl ?_); refine zbx 5 #[.slice none 0 0] 30 ?_; intro gb691 hg w35 hbox hb; replace HO689 := Aside0.mk (Kd.N_below (Kd.N_elderB (y9 HO689.out) gb691 (Nat.le_of_eq hg.symm)) hb); have BK691 := Aside0.mk hbox; have GW691 := Aside0.mk ((y39 hg HB.out HI684.out GE680.out GE681.out : w.heap.size ≤ gb691)); have GE691 := Aside0.mk ((y39 hg HB.out HI684.out GE680.out GE681.out : w.heap.size ≤ gb691)); replace HB := Aside0.mk (below_step (y12 HB.out HI684.out GE680.out GE681.out) hb); have NB680_691 := zltn hg BK680; have NB691_680 := zgtn hg BK680; replace BK680 := zbb BK680 hb; have NB681_691 := zltn hg BK681; have NB691_681 := zgtn hg BK681; replace BK681 := zbb BK681 hb; have NB684_691 := Aside0.mk ((by rw [hg]; exact Nat.ne_of_lt (IsS95.lt (show IsS95 w _ g684 t682 t690 from by repeat (first | (with_reducible first | exact HI684.out | apply IsS95.alloc | apply IsS95.drewN | apply IsS95.drew | apply IsS95.set_1 | refine IsS95.far ?_ NB684_680.out _ | refine IsS95.far ?_ NB684_681.out _) | exact HI684.out))) : g684 ≠ gb691)); have NB691_684 := Aside0.mk ((by rw [hg]; exact Nat.ne_of_gt (IsS95.lt (show IsS95 w _ g684 t682 t690 from by repeat (first | (with_reducible first | exact HI684.out | apply IsS95.alloc | apply IsS95.drewN | apply IsS95.drew | apply IsS95.set_1 | refine IsS95.far ?_ NB684_680.out _ | refine IsS95.far ?_ NB684_681.out _) | exact HI684.out))) : gb691 ≠ g684)); replace HI684 := Aside0.mk (IsS95.below (y15 HI684.out NB684_680.out NB684_681.out) hb); clear hb hbox hg; obtain ⟨Ao36, co36, eo36⟩ := Kd.N_slice HO689.out; subst eo36; have hnb37 := NB691_680.out; have hnc37 := NB680_691.out; have hnb38 := NB691_681.out; have hnc38 := NB681_691.out; have hnb39 := NB691_684.out; have hnc39 := NB684_691.out; have hcz40_0 := zh BK691; have hfz40_0 := zfr BK691 0) | ((with_reducible refine gate_callee (f := 58) rfl ?_); refine goesL_ (some 14) rfl rfl Try.func58 (by kernel_rfl) rfl #[.pointer (some ⟨g684, 0, none⟩), .int .i64 5] rfl y4 ?_; (with_reducible refine (spec_l6Rd_pick.calls k g684 t682 t690 5 t692 t693 w _ ?side1 ?side2 A5.out).mono ?_); (case side1 => exact y28 HI684.out NB684_680.out NB684_681.out NB684_691.out); (case side2 => exact y22 HB.out HI684.out GE680.out GE681.out GE691.out); rintro e w41 ⟨rfl, hi, hb, hk⟩; refine ⟨_, rfl, ?_⟩; replace BK680 := Aside0.mk (KeepBut.blk hk (g' := gb680) (o := .cells #[.slice none 0 0] 30 (0, 0)) (y21 NB680_691.out BK680.out) NB680_684.out (by simp)); replace BK681 := Aside0.mk (KeepBut.blk hk (g' := gb681) (o := .cells #[.int .i64 0, .slice none 0 0] 55 (0, 0)) (y21 NB681_691.out BK681.out) NB681_684.out (by simp)); replace HO689 := Aside0.mk (Kd.N_mono (Kd.N_keep (Kd.N_mono (ok := fun k_ => ((((w.heap.size ≤ k_)) ∧ (k_ ≠ gb680 ∧ (k_ ≠ gb681 ∧ k_ ≠ g684))) ∧ k_ ≠ gb691)) (by (with_reducible repeat (first | apply Kd.N_alloc | apply Kd.N_drewN | apply Kd.N_drew)); exact (Kd.N_mono (Kd.N_far (p := ⟨gb691, 0, none⟩) (Kd.N_mono HO689.out (fun k_ hk => (⟨hk, hk.2⟩ : _ ∧ k_ ≠ gb691))) (fun _ hk => hk.2) (.slice Ao36 t687.length co36)) (fun _ h_ => h_.1))) (fun k_ hk_ => (⟨hk_, hk_.1.2.2.2⟩ : _ ∧ k_ ≠ g684))) hk (fun _ h => h.2)) (fun _ h => h.1)); replace BK691 := Aside0.mk (KeepBut.blk hk (g' := gb691) (o := .cells #[.slice Ao36 t687.length co36] 30 (0, 0)) (by (with_reducible repeat (first | refine blk_drewN ?_ _ | refine blk_drew ?_ | refine blk_alloc ?_ _)); apply blk_put (i := 0); (case h => exact y0 BK691.out); (case e => rfl)) NB691_684.out (by simp)); replace HB := Aside0.mk (hb); replace HI684 := Aside0.mk (hi); (try clear hb); (try clear hb2); (try clear hk); (try clear hi)))
  replace HO689 := Aside0.mk (Kd.N_drew HO689.out)
  replace BK680 := Aside0.mk (blk_drew BK680.out)
  replace BK681 := Aside0.mk (blk_drew BK681.out)
  replace BK691 := Aside0.mk (blk_drew BK691.out)
  replace HI684 := Aside0.mk (IsS95.drew HI684.out)
  replace HB := Aside0.mk (below_drew1 HB.out)
  refine start_ (n := 6) (S := fun w' => w'.cell? ⟨gb691, 0, none⟩ = some (.slice Ao36 t687.length co36)) (ds := []) #[false, false, false, false, false, false] (by kernel_rfl) rfl rfl ((blk_cell BK691.out 0).trans rfl) (fun hHeld => ?_)
  generalize w41.drew = w42 at HO689 BK680 BK681 BK691 HI684 HB hHeld ⊢
  refine pure_ (i := 1) (N := some 22) (v := ?_) (a' := ?_) #[false, true, false, false, false, false] rfl rfl (by kernel_rfl) (fun _ _ _ h => h) (Or.inl ⟨(by rfl), ?_⟩) ?_ ?_
  rotate_left
  ·intro w'
   go_simp
   with_reducible rfl
  rotate_left
  ·simp only [Act.put, List.setIfInBounds_toArray, List.set_cons_zero, List.set_cons_succ, i64_w, i32_w]
   rfl
  refine take_ (i := 0) (N := some 21) (v := ?_) (a' := ?_) #[true, true, false, false, false, false] rfl rfl (by kernel_rfl) (fun _ _ _ h => h) (Or.inl ⟨(by rfl), ?_⟩) hHeld ?_ ?_
  rotate_left
  ·intro w' s0
   go_simp
   with_reducible rfl
  rotate_left
  ·simp only [Act.put, List.setIfInBounds_toArray, List.set_cons_zero, List.set_cons_succ, i64_w, i32_w]
   rfl
  refine take_ (i := 2) (N := some 23) (v := ?_) (a' := ?_) #[true, true, true, false, false, false] rfl rfl (by kernel_rfl) (fun _ _ _ h => h) (Or.inl ⟨(by rfl), ?_⟩) hHeld ?_ ?_
  rotate_left
  ·intro w' s0
   go_simp
   with_reducible rfl
  rotate_left
  ·simp only [Act.put, List.setIfInBounds_toArray, List.set_cons_zero, List.set_cons_succ, i64_w, i32_w]
   rfl
  refine one_ (i := 3) (N := some 24) #[true, true, true, true, false, false] rfl rfl (by kernel_rfl) (by decide) (fun K hK => ?_)
  refine goes_ Try.func68 (by kernel_rfl) rfl #[.pointer (some ⟨g684, 0, none⟩), .agg #[.slice Ao36 t687.length co36]] (by rfl) rfl rfl y4 ?_
  with_reducible refine (spec_l71Bad.calls k g684 t682 t693 (fun k_ => (((w.heap.size ≤ k_) ∧ (k_ ≠ gb680 ∧ (k_ ≠ gb681 ∧ k_ ≠ g684))) ∧ k_ ≠ gb691)) _ _ t687 t703 t704 t707 w _ ?side1 ?side2 ?side3 A29.out).mono ?_
  (case side1 => exact y28 HI684.out NB684_680.out NB684_681.out NB684_691.out)
  (case side2 => exact y22 HB.out HI684.out GE680.out GE681.out GE691.out)
  (case side3 => exact Kd.V_mono (Kd.N_V (HO689.out)) (fun k_ hk_ => ⟨hk_, hk_.1.2.2.2⟩))
  rintro e w43 ⟨v705, rfl, ho0, hi, hb, hk⟩
  refine ⟨_, rfl, ?_⟩
  replace HO689 := Aside0.mk (Kd.N_mono (Kd.N_told (Kd.N_oldK (Kd.N_mono (ok := fun k_ => ((((w.heap.size ≤ k_)) ∧ (k_ ≠ gb680 ∧ (k_ ≠ gb681 ∧ k_ ≠ g684))) ∧ k_ ≠ gb691)) (y9 HO689.out) (fun k_ hk_ => (⟨hk_, hk_.1.2.2.2⟩ : _ ∧ k_ ≠ g684))) hk) (Kd.N_base ho0)) (fun _ h_ => h_.1))
  have HO706 := Aside0.mk (Kd.N_lower (Kd.N_mono (ok' := fun k_ => (w.heap.size ≤ k_) ∧ k_ ≠ gb680 ∧ k_ ≠ gb681 ∧ k_ ≠ gb691 ∧ k_ ≠ g684) ho0 (fun k_ hk_ => ⟨Or.elim hk_ (fun hs_ => hs_.1.1) (fun hn_ => (Nat.le_trans (below_size (y22 HB.out HI684.out GE680.out GE681.out GE691.out)) hn_)), Or.elim hk_ (fun hs_ => hs_.1.2.1) (fun hn_ => (Kd.freshB (g := gb680) (o := .cells #[.slice none 0 0] 30 (0, 0)) (y0 BK680.out) k_ hn_)), Or.elim hk_ (fun hs_ => hs_.1.2.2.1) (fun hn_ => (Kd.freshB (g := gb681) (o := .cells #[.int .i64 0, .slice none 0 0] 55 (0, 0)) (y0 BK681.out) k_ hn_)), Or.elim hk_ (fun hs_ => hs_.2) (fun hn_ => (Kd.freshB (g := gb691) (o := .cells #[.slice Ao36 t687.length co36] 30 (0, 0)) (y0 BK691.out) k_ hn_)), Or.elim hk_ (fun hs_ => hs_.1.2.2.2) (fun hn_ => (IsS95.fresh (y28 HI684.out NB684_680.out NB684_681.out NB684_691.out) k_ hn_))⟩)) (below_size (y22 HB.out HI684.out GE680.out GE681.out GE691.out)))
  replace BK680 := Aside0.mk (KeepBut.blk hk (g' := gb680) (o := .cells #[.slice none 0 0] 30 (0, 0)) (y0 BK680.out) NB680_684.out (by simp))
  replace BK681 := Aside0.mk (KeepBut.blk hk (g' := gb681) (o := .cells #[.int .i64 0, .slice none 0 0] 55 (0, 0)) (y0 BK681.out) NB681_684.out (by simp))
  replace BK691 := Aside0.mk (KeepBut.blk hk (g' := gb691) (o := .cells #[.slice Ao36 t687.length co36] 30 (0, 0)) (y0 BK691.out) NB691_684.out (by simp))
  replace HB := Aside0.mk (hb)
  replace HI684 := Aside0.mk (hi)
  (try clear hb)
  (try clear hb2)
  (try clear hk)
  (try clear hi)
  (try clear ho0)
  obtain ⟨Ao46, co46, eo46⟩ := Kd.N_slice HO706.out
  (first | subst eo46 | (injection eo46 with f1_ f2_ f3_; have f4_ := f1_.symm; have f5_ := f3_.symm; clear f1_ f2_ f3_; subst f4_; subst f5_))
  refine hK.out _ _ ((blk_cell BK691.out 0).trans rfl) (fun hHeld => ?_)
  clear hK K
  refine norm_ (a' := ?_) ?_ ?_
  rotate_left
  ·show Act.put _ (some 24) _ = _
   simp only [Act.put, List.setIfInBounds_toArray, List.set_cons_zero, List.set_cons_succ, i64_w, i32_w]
   rfl
  refine one_ (i := 4) (N := none) #[true, true, true, true, true, false] rfl rfl (by kernel_rfl) (by decide) (fun K hK => ?_)
  have hs44 : w43.cell? ⟨gb680, 0, none⟩ = some (.slice none 0 0) := (blk_cell BK680.out 0).trans rfl
  have hfs44 := zfr BK680 0
  have hns44_1 := NB681_680.out
  have hns44_2 := NB691_680.out
  have hms44_1 := NB680_681.out
  have hms44_2 := NB680_691.out
  refine skip_ (w1 := ?_) (by rfl) rfl ?_ ?_
  rotate_left
  ·go_simp
   rfl
  refine hK.out _ _ (((cell_far (p := ⟨gb680, _, none⟩) NB691_680.out _).trans (hHeld))) (fun hHeld => ?_)
  clear hK K
  refine one_ (i := 5) (N := none) #[true, true, true, true, true, true] rfl rfl (by kernel_rfl) (by decide) (fun K hK => ?_)
  have hs45 : w43.cell? ⟨gb681, 0, none⟩ = some (.int .i64 0) := (blk_cell BK681.out 0).trans rfl
  have hfs45 := zfr BK681 0
  have hns45_0 := NB680_681.out
  have hns45_2 := NB691_681.out
  have hms45_0 := NB681_680.out
  have hms45_2 := NB681_691.out
  have hs47 : w43.cell? ⟨gb681, 1, none⟩ = some (.slice none 0 0) := (blk_cell BK681.out 1).trans rfl
  have hfs47 := zfr BK681 1
  have hns47_0 := NB680_681.out
  have hns47_2 := NB691_681.out
  have hms47_0 := NB681_680.out
  have hms47_2 := NB681_691.out
  refine skip_ (w1 := ?_) (by rfl) rfl ?_ ?_
  rotate_left
  ·go_simp
   rfl
  refine hK.out _ _ (((cell_far (p := ⟨gb681, _, none⟩) NB691_681.out _).trans (((cell_far (p := ⟨gb681, _, none⟩) NB691_681.out _).trans (hHeld))))) (fun hHeld => ?_)
  clear hK K
  refine done_ (by kernel_rfl) ?_
  try go_wp2
  refine bodyPost_ret (results_cc rfl _ _ gb680 gb681 30 55 #[.slice Ao36 t687.length co36] #[.int .i64 t703, .slice Ao46 t704.length co46] (0, 0) (0, 0) _ _ rfl (by (with_reducible repeat (first | refine blk_drewN ?_ _ | refine blk_drew ?_ | refine blk_alloc ?_ _)); refine blk_far ?_ NB680_681.out _; (with_reducible repeat (first | refine blk_drewN ?_ _ | refine blk_drew ?_ | refine blk_alloc ?_ _)); refine blk_far ?_ NB680_681.out _; (with_reducible repeat (first | refine blk_drewN ?_ _ | refine blk_drew ?_ | refine blk_alloc ?_ _)); apply blk_put (i := 0); (case h => exact y0 BK680.out); (case e => rfl)) Try.underlying30 rfl (by kernel_rfl) rfl (by (with_reducible repeat (first | refine blk_drewN ?_ _ | refine blk_drew ?_ | refine blk_alloc ?_ _)); refine blk_put (cs := #[.int .i64 t703, .slice none 0 0]) ?_ 1 _ rfl; (with_reducible repeat (first | refine blk_drewN ?_ _ | refine blk_drew ?_ | refine blk_alloc ?_ _)); refine blk_put (cs := #[.int .i64 0, .slice none 0 0]) ?_ 0 _ rfl; (with_reducible repeat (first | refine blk_drewN ?_ _ | refine blk_drew ?_ | refine blk_alloc ?_ _)); refine blk_far ?_ NB681_680.out _; (with_reducible repeat (first | refine blk_drewN ?_ _ | refine blk_drew ?_ | refine blk_alloc ?_ _)); exact BK681.out) Try.underlying55 rfl (by kernel_rfl)) rfl ?_
  exact ⟨_, _, y14, Kd.N_V (by (with_reducible repeat (first | apply Kd.N_alloc | apply Kd.N_drewN | apply Kd.N_drew)); exact Kd.N_mono (Kd.N_far (p := ⟨gb681, 1, none⟩) (Kd.N_far (p := ⟨gb681, 0, none⟩) (Kd.N_far (p := ⟨gb680, 0, none⟩) (Kd.N_mono (Kd.N_mono HO689.out (fun k_ hk => (⟨hk, hk.1.1.2.1⟩ : _ ∧ k_ ≠ gb680))) (fun k_ hk => (⟨hk, hk.1.1.1.2.2.1⟩ : _ ∧ k_ ≠ gb681))) (fun _ hk => hk.1.2) (.slice Ao36 t687.length co36)) (fun _ hk => hk.2) (.int .i64 t703)) (fun _ hk => hk.2) (.slice Ao46 t704.length co46)) (fun _ hk => hk.1.1.1.1.1)), Kd.N_V (by (with_reducible repeat (first | apply Kd.N_alloc | apply Kd.N_drewN | apply Kd.N_drew)); exact Kd.N_mono (Kd.N_far (p := ⟨gb681, 1, none⟩) (Kd.N_far (p := ⟨gb681, 0, none⟩) (Kd.N_far (p := ⟨gb680, 0, none⟩) (Kd.N_mono (Kd.N_mono HO706.out (fun k_ hk => (⟨hk, hk.2.1⟩ : _ ∧ k_ ≠ gb680))) (fun k_ hk => (⟨hk, hk.1.2.2.1⟩ : _ ∧ k_ ≠ gb681))) (fun _ hk => hk.1.2) (.slice Ao36 t687.length co36)) (fun _ hk => hk.2) (.int .i64 t703)) (fun _ hk => hk.2) (.slice Ao46 t704.length co46)) (fun _ hk => hk.1.1.1)), (y22 HB.out HI684.out GE680.out GE681.out GE691.out)⟩
end Go.Proofs.Ytjhbhihfifhljaa.PA
end
section
namespace Go.Proofs.Ytjhbhihfifhljaa.PA
open Go.RowKit Go.Proofs.YtjhbhihfifhljaaW.PrintWords Go.Proofs.YtjhbhihfifhljaaW.PrintLast Go.Proofs.YtjhbhihfifhljaaW.PrintMore
attribute [local go_sem] max2_int min2_int max_two min_two max_three min_three max_four min_four
set_option linter.unusedVariables false
set_option linter.unusedSimpArgs false
def impl_Val.l0 : Nat → List Int → Int → Int → Int → List (S55) → Option (Int × (List (S55)) × Bool)
 | 0, _, _, _, _, _ => none
 | k + 1, x10, x11, x12, x839000, x839001 => if x12 < x11 then (if 0 ≤ x12 then (if x12 < (x10.length : Int) then ((impl_Val_parts.f x839000 x839001).bind fun t841 => (if (t841.length : Int) = 2 then (if (rd x10 x12) < 0 then (some (0, ([] : List (S55)), false)) else (if (rd x10 x12) > 1 then (some (0, ([] : List (S55)), false)) else (if 0 ≤ (rd x10 x12) then (if (rd x10 x12) < (t841.length : Int) then (impl_Val.l0 k x10 x11 (wrap64 (x12 + 1)) ((rd_T55 t841 (rd x10 x12)).f0) ((rd_T55 t841 (rd x10 x12)).f1)) else (none)) else (none)))) else (some (0, ([] : List (S55)), false)))) else (none)) else (none)) else (some (x839000, x839001, true))
def impl_Val.f (k : Nat) (a0_0 : Int) (l0_1 : List (S55)) (l1 : List Int) : Option (Int × (List (S55)) × Bool) := impl_Val.l0 k l1 (l1.length : Int) 0 a0_0 l0_1
theorem impl_Val.mono_l : ∀ k, (∀ y0 y1 y2 y3 y4, LeO (impl_Val.l0 k y0 y1 y2 y3 y4) (impl_Val.l0 (k + 1) y0 y1 y2 y3 y4))
 | 0 => fun _ _ _ _ _ r h => by simp [impl_Val.l0] at h
 | k + 1 => by
  have ih0 := impl_Val.mono_l k
  ·intro y0 y1 y2 y3 y4
   unfold impl_Val.l0
   repeat' first
   | (with_reducible exact ih0 _ _ _ _ _)
   | (with_reducible exact LeO.refl _)
   | (with_reducible exact LeO.none _)
   | (with_reducible refine LeO.ite ?_ ?_)
   | (with_reducible refine LeO.bind ?_ (fun _ => ?_))
   | exact ih0 _ _ _ _ _
   | exact LeO.none _
   | refine LeO.ite ?_ ?_
   | refine LeO.bind ?_ (fun _ => ?_)
theorem impl_Val.mono : ∀ a0 a1 a2 k, LeO (impl_Val.f k a0 a1 a2) (impl_Val.f (k + 1) a0 a1 a2) := by
 intro a0 a1 a2 k
 have ih0 := impl_Val.mono_l k
 unfold impl_Val.f
 repeat' first
   | (with_reducible exact ih0 _ _ _ _ _)
   | (with_reducible exact LeO.refl _)
   | (with_reducible exact LeO.none _)
   | (with_reducible refine LeO.ite ?_ ?_)
   | (with_reducible refine LeO.bind ?_ (fun _ => ?_))
   | exact ih0 _ _ _ _ _
   | exact LeO.none _
   | refine LeO.ite ?_ ?_
   | refine LeO.bind ?_ (fun _ => ?_)
set_option maxHeartbeats 8000000 in
set_option maxRecDepth 100000 in
theorem impl_Val.calls (k : Nat) (a0_0 : Int) (P0_1_ : Nat → Prop) (A0_1 : Option Addr) (c0_1 : Nat) (l0_1 : List (S55)) (A1 : Option Addr) (c1 : Nat) (l1 : List Int) (r1 : Int) (r2 : List (S55)) (r3 : Bool) (w : World) (hs0_1 : Kd.V k55 55 w w.heap.size (fun k_ => P0_1_ k_) (.slice A0_1 l0_1.length c0_1) l0_1) (hr1 : Kd.C (Kd.int .i64) w A1 l1.length l1) (hc1 : l1.length ≤ c1) (h : impl_Val.f k a0_0 l0_1 l1 = some (r1, r2, r3)) :
  Calls Try.prog 74 #[.agg #[.int .i64 a0_0, .slice A0_1 l0_1.length c0_1], .slice A1 l1.length c1] w fun e w' => ∃ v1_ : Value, e = .returned (.tuple #[.agg #[.int .i64 r1, v1_], .bool r3]) ∧ Kd.V k55 55 w' w.heap.size (fun k_ => (P0_1_ k_ ∨ w.heap.size ≤ k_)) v1_ r2 ∧ Below w.heap.size w w' := by
 have hu55 := Try.underlying55
 have hna55 : ∀ (v : Value) (W : World), (nilAhead 223 55 v "loop.example/handfast/impl.parts").run Try.prog W = .ok (some false) W := fun _ _ => by kernel_rfl
 have hme55 : ∀ (v : Value) (W : World), (method 223 55 v "loop.example/handfast/impl.parts").run Try.prog W = .ok (105, v) W := fun _ _ => by kernel_rfl
 have HO0_1 := Aside0.mk (show Kd.V k55 55 w w.heap.size (fun k_ => (P0_1_ k_ ∨ w.heap.size ≤ k_)) (.slice A0_1 l0_1.length c0_1) l0_1 from Kd.V_mono hs0_1 (fun k_ hk => .inl hk))
 have HR1 := Aside0.mk hr1
 have HC1 := Aside0.mk hc1
 clear hr1 hc1
 have HB := Aside0.mk (Below.refl w.heap.size w)
 have H : (impl_Val.l0 k l1 (l1.length : Int) 0 a0_0 l0_1) = some (r1, r2, r3) := h
 clear h
 have H' := Aside0.mk H
 clear H
 go_enter Try.func74, Try.ntmps74
 go_wp2_with (first | ((with_reducible refine gate_dst (N := 2) rfl ?_); refine zbx 2 #[.int .i64 a0_0, .slice A0_1 l0_1.length c0_1] 55 ?_; intro gb838 hg w3 hbox hb; replace HO0_1 := Aside0.mk (Kd.V_below (Kd.V_elderB (y13 HO0_1.out) gb838 (Nat.le_of_eq hg.symm)) hb); have BK838 := Aside0.mk hbox; have GW838 := Aside0.mk ((y5 hg HB.out : w.heap.size ≤ gb838)); have GE838 := Aside0.mk ((y5 hg HB.out : w.heap.size ≤ gb838)); replace HB := Aside0.mk (below_step (y2 HB.out) hb); clear hb hbox hg) | ((with_reducible refine gate_dst (N := 4) rfl ?_); refine zbx 4 #[.int .i64 0, .slice none 0 0] 55 ?_; intro gb839 hg w4 hbox hb; replace HO0_1 := Aside0.mk (Kd.V_below (Kd.V_elderB (y13 HO0_1.out) gb839 (Nat.le_of_eq hg.symm)) hb); have BK839 := Aside0.mk hbox; have GW839 := Aside0.mk ((y6 hg HB.out GE838.out : w.heap.size ≤ gb839)); have GE839 := Aside0.mk ((y6 hg HB.out GE838.out : w.heap.size ≤ gb839)); replace HB := Aside0.mk (below_step (y3 HB.out GE838.out) hb); have NB838_839 := zltn hg BK838; have NB839_838 := zgtn hg BK838; replace BK838 := zbb BK838 hb; clear hb hbox hg))
 go_loopg [12] k (fun kq v12 w' => ∃ (x12_1 : Int) (x839000_1 : Int) (x839001_1 : List (S55)) (x840000_1 : Int) (u839001 : Value), v12 = .int .i64 x12_1 ∧ Aside0 (impl_Val.l0 kq l1 (l1.length : Int) x12_1 x839000_1 x839001_1 = some (r1, r2, r3)) ∧ Aside0 (kq ≤ k) ∧ Aside0 (Kd.V k55 55 w' w.heap.size (fun k_ => (P0_1_ k_ ∨ w.heap.size ≤ k_) ∧ k_ ≠ gb838 ∧ k_ ≠ gb839) u839001 x839001_1) ∧ Aside0 (w'.heap[gb838]? = some (.cells #[.int .i64 x839000_1, u839001] 55 (0, 0))) ∧ Aside0 (w'.heap[gb839]? = some (.cells #[.int .i64 x840000_1, (.slice none 0 0)] 55 (0, 0))) ∧ Aside0 (Below w.heap.size w w'))
 case atStart => exact ⟨(0), (a0_0), (l0_1), (0), (.slice A0_1 l0_1.length c0_1), y26, H', ⟨Nat.le_refl _⟩, ⟨(y63 HO0_1.out)⟩, ⟨(y0 BK838.out)⟩, ⟨(y0 BK839.out)⟩, ⟨(y1 HB.out GE838.out GE839.out)⟩⟩
 case round =>
  clear H'
  try clear c1
  try clear p2
  obtain ⟨x12_1, x839000_1, x839001_1, x840000_1, u839001, rfl, HA, HK1, HO_839001, BK838, BK839, HB⟩ := hrel
  cases gk with
  | zero => exact absurd HA.out (by simp [impl_Val.l0])
  | succ k1 =>
   have H := HA.out
   clear HA
   simp only [impl_Val.l0] at H
   by_cases c5 : x12_1 < (l1.length : Int)
   ·rw [if_pos c5] at H
    have c5b0 : decide (x12_1 < (l1.length : Int)) = true := decide_eq_true c5
    clear c5
    by_cases c6 : 0 ≤ x12_1
    ·rw [if_pos c6] at H
     have c6b0 : decide (0 ≤ x12_1) = true := decide_eq_true c6
     clear c6
     by_cases c7 : x12_1 < (l1.length : Int)
     ·rw [if_pos c7] at H
      have c7b0 : decide (x12_1 < (l1.length : Int)) = true := decide_eq_true c7
      clear c7
      obtain ⟨t841, A80, H⟩ := ob H
      have A8 := Aside0.mk A80
      clear A80
      by_cases c9 : (t841.length : Int) = 2
      ·rw [if_pos c9] at H
       have c9b0 : ((t841.length : Int) == 2) = true := beq_iff_eq.mpr c9
       have c9b1 : ((t841.length : Int) != 2) = false := bne_eq_false_iff_eq.mpr c9
       clear c9
       by_cases c10 : (rd l1 x12_1) < 0
       ·rw [if_pos c10] at H
        have c10b0 : decide ((rd l1 x12_1) < 0) = true := decide_eq_true c10
        clear c10
        simp only [Option.some.injEq, Prod.mk.injEq] at H
        obtain ⟨rfl, rfl, rfl⟩ := H
        have p840 : 0 ≤ (x12_1 : Int) := of_decide_eq_true y19
        have q840 : x12_1 < (l1.length : Int) := of_decide_eq_true y19
        obtain ⟨ad840, e840, hx840_0⟩ := Kd.at_int HR1.out x12_1 p840 q840
        cases e840
        replace hx840_0 := (HB.out.cell (World.block_lt_of_cell? w _ hx840_0)).trans hx840_0
        replace p840 := eq_true p840
        replace q840 := eq_true q840
        have hnb11 := NB838_839.out
        have hnc11 := NB839_838.out
        have hcz12_0 := zh BK838
        have hcz12_1 := zh1 BK838
        have hfz12_0 := zfr BK838 0
        have hfz12_1 := zfr BK838 1
        obtain ⟨Ao13, co13, eo13⟩ := Kd.V_slice HO_839001.out
        subst eo13
        go_wp2_with (first | (go_at_call 105; (with_reducible refine (impl_Val_parts.calls x839000_1 (fun k_ => ((P0_1_ k_ ∨ w.heap.size ≤ k_) ∧ (k_ ≠ gb838 ∧ k_ ≠ gb839))) _ _ x839001_1 t841 _ ?side1 A8.out).mono ?_); (case side1 => exact HO_839001.out); rintro e w14 ⟨v842, rfl, ho0, hb⟩; replace HO_839001 := Aside0.mk (Kd.V_below (y13 HO_839001.out) hb); have HO843 := Aside0.mk (Kd.V_lower (Kd.V_mono (ok' := fun k_ => (P0_1_ k_ ∨ w.heap.size ≤ k_) ∧ k_ ≠ gb838 ∧ k_ ≠ gb839) ho0 (fun k_ hk_ => ⟨Or.elim hk_ (fun hs_ => hs_.1) (fun hn_ => (.inr (Nat.le_trans (below_size (y1 HB.out GE838.out GE839.out)) hn_))), Or.elim hk_ (fun hs_ => hs_.2.1) (fun hn_ => (Kd.freshB (g := gb838) (o := .cells #[.int .i64 x839000_1, .slice Ao13 x839001_1.length co13] 55 (0, 0)) (y0 BK838.out) k_ hn_)), Or.elim hk_ (fun hs_ => hs_.2.2) (fun hn_ => (Kd.freshB (g := gb839) (o := .cells #[.int .i64 x840000_1, .slice none 0 0] 55 (0, 0)) (y0 BK839.out) k_ hn_))⟩)) (below_size (y1 HB.out GE838.out GE839.out))); replace BK838 := zbb BK838 hb; replace BK839 := zbb BK839 hb; replace HB := Aside0.mk (below_step (y1 HB.out GE838.out GE839.out) hb); (try clear hb); (try clear hb2); (try clear hk); (try clear hi); (try clear ho0); obtain ⟨Ao15, co15, eo15⟩ := Kd.V_slice HO843.out; subst eo15) | ((with_reducible refine gate_dst (N := 9) rfl ?_); refine zbx 9 #[.int .i64 0, .slice none 0 0] 55 ?_; intro gb844 hg w16 hbox hb; replace HO_839001 := Aside0.mk (Kd.V_below (Kd.V_elderB (y13 HO_839001.out) gb844 (Nat.le_of_eq hg.symm)) hb); replace HO843 := Aside0.mk (Kd.V_below (Kd.V_elderB (y13 HO843.out) gb844 (Nat.le_of_eq hg.symm)) hb); have BK844 := Aside0.mk hbox; have GW844 := Aside0.mk ((y20 hg HB.out GE838.out GE839.out : w.heap.size ≤ gb844)); have GE844 := Aside0.mk ((y20 hg HB.out GE838.out GE839.out : w.heap.size ≤ gb844)); replace HB := Aside0.mk (below_step (y1 HB.out GE838.out GE839.out) hb); have NB838_844 := zltn hg BK838; have NB844_838 := zgtn hg BK838; replace BK838 := zbb BK838 hb; have NB839_844 := zltn hg BK839; have NB844_839 := zgtn hg BK839; replace BK839 := zbb BK839 hb; clear hb hbox hg; have hnb17 := NB844_838.out; have hnc17 := NB838_844.out; have hnb18 := NB844_839.out; have hnc18 := NB839_844.out; have hcz19_0 := zh BK844; have hcz19_1 := zh1 BK844; have hfz19_0 := zfr BK844 0; have hfz19_1 := zfr BK844 1; have hcz20_0 := zh BK839; have hcz20_1 := zh1 BK839; have hfz20_0 := zfr BK839 0; have hfz20_1 := zfr BK839 1))
        refine bodyPost_ret (results_ct rfl _ _ gb839 55 #[.int .i64 0, .slice none 0 0] (0, 0) _ rfl (by (with_reducible repeat (first | refine blk_drewN ?_ _ | refine blk_drew ?_ | refine blk_alloc ?_ _)); refine blk_put (cs := #[.int .i64 0, .slice none 0 0]) ?_ 1 _ rfl; (with_reducible repeat (first | refine blk_drewN ?_ _ | refine blk_drew ?_ | refine blk_alloc ?_ _)); apply blk_put (i := 0); (case h => exact y0 BK839.out); (case e => rfl)) Try.underlying55 rfl (by kernel_rfl)) rfl ?_
        exact ⟨_, y14, Kd.V_nil _ _ _ _ _, (y7 HB.out GE838.out GE839.out GE844.out)⟩
       ·rw [if_neg c10] at H
        have c10b0 : decide ((rd l1 x12_1) < 0) = false := decide_eq_false c10
        clear c10
        by_cases c21 : (rd l1 x12_1) > 1
        ·rw [if_pos c21] at H
         have c21b0 : decide (1 < (rd l1 x12_1)) = true := decide_eq_true c21
         clear c21
         simp only [Option.some.injEq, Prod.mk.injEq] at H
         obtain ⟨rfl, rfl, rfl⟩ := H
         have p840 : 0 ≤ (x12_1 : Int) := of_decide_eq_true y19
         have q840 : x12_1 < (l1.length : Int) := of_decide_eq_true y19
         obtain ⟨ad840, e840, hx840_0⟩ := Kd.at_int HR1.out x12_1 p840 q840
         cases e840
         replace hx840_0 := (HB.out.cell (World.block_lt_of_cell? w _ hx840_0)).trans hx840_0
         replace p840 := eq_true p840
         replace q840 := eq_true q840
         have hnb22 := NB838_839.out
         have hnc22 := NB839_838.out
         have hcz23_0 := zh BK838
         have hcz23_1 := zh1 BK838
         have hfz23_0 := zfr BK838 0
         have hfz23_1 := zfr BK838 1
         obtain ⟨Ao24, co24, eo24⟩ := Kd.V_slice HO_839001.out
         subst eo24
         go_wp2_with (first | (go_at_call 105; (with_reducible refine (impl_Val_parts.calls x839000_1 (fun k_ => ((P0_1_ k_ ∨ w.heap.size ≤ k_) ∧ (k_ ≠ gb838 ∧ k_ ≠ gb839))) _ _ x839001_1 t841 _ ?side1 A8.out).mono ?_); (case side1 => exact HO_839001.out); rintro e w25 ⟨v842, rfl, ho0, hb⟩; replace HO_839001 := Aside0.mk (Kd.V_below (y13 HO_839001.out) hb); have HO843 := Aside0.mk (Kd.V_lower (Kd.V_mono (ok' := fun k_ => (P0_1_ k_ ∨ w.heap.size ≤ k_) ∧ k_ ≠ gb838 ∧ k_ ≠ gb839) ho0 (fun k_ hk_ => ⟨Or.elim hk_ (fun hs_ => hs_.1) (fun hn_ => (.inr (Nat.le_trans (below_size (y1 HB.out GE838.out GE839.out)) hn_))), Or.elim hk_ (fun hs_ => hs_.2.1) (fun hn_ => (Kd.freshB (g := gb838) (o := .cells #[.int .i64 x839000_1, .slice Ao24 x839001_1.length co24] 55 (0, 0)) (y0 BK838.out) k_ hn_)), Or.elim hk_ (fun hs_ => hs_.2.2) (fun hn_ => (Kd.freshB (g := gb839) (o := .cells #[.int .i64 x840000_1, .slice none 0 0] 55 (0, 0)) (y0 BK839.out) k_ hn_))⟩)) (below_size (y1 HB.out GE838.out GE839.out))); replace BK838 := zbb BK838 hb; replace BK839 := zbb BK839 hb; replace HB := Aside0.mk (below_step (y1 HB.out GE838.out GE839.out) hb); (try clear hb); (try clear hb2); (try clear hk); (try clear hi); (try clear ho0); obtain ⟨Ao26, co26, eo26⟩ := Kd.V_slice HO843.out; subst eo26) | ((with_reducible refine gate_dst (N := 9) rfl ?_); refine zbx 9 #[.int .i64 0, .slice none 0 0] 55 ?_; intro gb845 hg w27 hbox hb; replace HO_839001 := Aside0.mk (Kd.V_below (Kd.V_elderB (y13 HO_839001.out) gb845 (Nat.le_of_eq hg.symm)) hb); replace HO843 := Aside0.mk (Kd.V_below (Kd.V_elderB (y13 HO843.out) gb845 (Nat.le_of_eq hg.symm)) hb); have BK845 := Aside0.mk hbox; have GW845 := Aside0.mk ((y20 hg HB.out GE838.out GE839.out : w.heap.size ≤ gb845)); have GE845 := Aside0.mk ((y20 hg HB.out GE838.out GE839.out : w.heap.size ≤ gb845)); replace HB := Aside0.mk (below_step (y1 HB.out GE838.out GE839.out) hb); have NB838_845 := zltn hg BK838; have NB845_838 := zgtn hg BK838; replace BK838 := zbb BK838 hb; have NB839_845 := zltn hg BK839; have NB845_839 := zgtn hg BK839; replace BK839 := zbb BK839 hb; clear hb hbox hg; have hnb28 := NB845_838.out; have hnc28 := NB838_845.out; have hnb29 := NB845_839.out; have hnc29 := NB839_845.out; have hcz30_0 := zh BK845; have hcz30_1 := zh1 BK845; have hfz30_0 := zfr BK845 0; have hfz30_1 := zfr BK845 1; have hcz31_0 := zh BK839; have hcz31_1 := zh1 BK839; have hfz31_0 := zfr BK839 0; have hfz31_1 := zfr BK839 1))
         refine bodyPost_ret (results_ct rfl _ _ gb839 55 #[.int .i64 0, .slice none 0 0] (0, 0) _ rfl (by (with_reducible repeat (first | refine blk_drewN ?_ _ | refine blk_drew ?_ | refine blk_alloc ?_ _)); refine blk_put (cs := #[.int .i64 0, .slice none 0 0]) ?_ 1 _ rfl; (with_reducible repeat (first | refine blk_drewN ?_ _ | refine blk_drew ?_ | refine blk_alloc ?_ _)); apply blk_put (i := 0); (case h => exact y0 BK839.out); (case e => rfl)) Try.underlying55 rfl (by kernel_rfl)) rfl ?_
         exact ⟨_, y14, Kd.V_nil _ _ _ _ _, (y7 HB.out GE838.out GE839.out GE845.out)⟩
        ·rw [if_neg c21] at H
         have c21b0 : decide (1 < (rd l1 x12_1)) = false := decide_eq_false c21
         clear c21
         by_cases c32 : 0 ≤ (rd l1 x12_1)
         ·rw [if_pos c32] at H
          have c32b0 : decide (0 ≤ (rd l1 x12_1)) = true := decide_eq_true c32
          clear c32
          by_cases c33 : (rd l1 x12_1) < (t841.length : Int)
          ·rw [if_pos c33] at H
           have c33b0 : decide ((rd l1 x12_1) < (t841.length : Int)) = true := decide_eq_true c33
           clear c33
           have H' := Aside0.mk H
           clear H
           have p840 : 0 ≤ (x12_1 : Int) := of_decide_eq_true y19
           have q840 : x12_1 < (l1.length : Int) := of_decide_eq_true y19
           obtain ⟨ad840, e840, hx840_0⟩ := Kd.at_int HR1.out x12_1 p840 q840
           cases e840
           replace hx840_0 := (HB.out.cell (World.block_lt_of_cell? w _ hx840_0)).trans hx840_0
           replace p840 := eq_true p840
           replace q840 := eq_true q840
           have hnb34 := NB838_839.out
           have hnc34 := NB839_838.out
           have hcz35_0 := zh BK838
           have hcz35_1 := zh1 BK838
           have hfz35_0 := zfr BK838 0
           have hfz35_1 := zfr BK838 1
           obtain ⟨Ao36, co36, eo36⟩ := Kd.V_slice HO_839001.out
           subst eo36
           go_wp2_with (first | (go_at_call 105; (with_reducible refine (impl_Val_parts.calls x839000_1 (fun k_ => ((P0_1_ k_ ∨ w.heap.size ≤ k_) ∧ (k_ ≠ gb838 ∧ k_ ≠ gb839))) _ _ x839001_1 t841 _ ?side1 A8.out).mono ?_); (case side1 => exact HO_839001.out); rintro e w37 ⟨v842, rfl, ho0, hb⟩; replace HO_839001 := Aside0.mk (Kd.V_below (y13 HO_839001.out) hb); have HO843 := Aside0.mk (Kd.V_lower (Kd.V_mono (ok' := fun k_ => (P0_1_ k_ ∨ w.heap.size ≤ k_) ∧ k_ ≠ gb838 ∧ k_ ≠ gb839) ho0 (fun k_ hk_ => ⟨Or.elim hk_ (fun hs_ => hs_.1) (fun hn_ => (.inr (Nat.le_trans (below_size (y1 HB.out GE838.out GE839.out)) hn_))), Or.elim hk_ (fun hs_ => hs_.2.1) (fun hn_ => (Kd.freshB (g := gb838) (o := .cells #[.int .i64 x839000_1, .slice Ao36 x839001_1.length co36] 55 (0, 0)) (y0 BK838.out) k_ hn_)), Or.elim hk_ (fun hs_ => hs_.2.2) (fun hn_ => (Kd.freshB (g := gb839) (o := .cells #[.int .i64 x840000_1, .slice none 0 0] 55 (0, 0)) (y0 BK839.out) k_ hn_))⟩)) (below_size (y1 HB.out GE838.out GE839.out))); replace BK838 := zbb BK838 hb; replace BK839 := zbb BK839 hb; replace HB := Aside0.mk (below_step (y1 HB.out GE838.out GE839.out) hb); (try clear hb); (try clear hb2); (try clear hk); (try clear hi); (try clear ho0); obtain ⟨Ao38, co38, eo38⟩ := Kd.V_slice HO843.out; subst eo38; have p846 : 0 ≤ ((rd l1 x12_1) : Int) := of_decide_eq_true y19; have q846 : (rd l1 x12_1) < (t841.length : Int) := of_decide_eq_true y19; obtain ⟨ad846, A846_1, c846_1, e846, hx846_0, hx846_1, hl846_1, hi846_1⟩ := at_T55 (Kd.V_reads' HO843.out).2.2 (rd l1 x12_1) p846 q846; cases e846; obtain ⟨ce846, hce846, hMe846, hcc846⟩ := Kd.V_get HO843.out z55 (rd l1 x12_1) p846 (by first | exact q846 | exact of_decide_eq_true y19 | (have e_ := (Kd.V_reads' HO843.out).1; omega)); obtain ⟨ua846_1, uc846_1, rfl, ul846_1, ge846_1⟩ := k55_openF hMe846; have hv846_1 := hcc846 1 _ rfl; rw [add_field _ _ 1 (by omega)] at hv846_1; replace hv846_1 := Option.some.inj (hv846_1.symm.trans hx846_1); injection hv846_1 with hva_ hvn_ hvc_; rw [hva_] at ge846_1; rw [hvc_] at ul846_1; have HL846_1 := Aside0.mk (show Kd.V k55 55 _ w.heap.size _ _ ((rd_T55 t841 (rd l1 x12_1)).f1) from Kd.V_mk ul846_1 ge846_1); clear hva_ hvn_ hvc_ ge846_1 ul846_1; clear hcc846 hce846; have HR846_1 := Aside0.mk hi846_1; have HC846_1 := Aside0.mk hl846_1; clear hi846_1 hl846_1; replace p846 := eq_true p846; replace q846 := eq_true q846; have hcz39_0 := zh BK838; have hcz39_1 := zh1 BK838; have hfz39_0 := zfr BK838 0; have hfz39_1 := zfr BK838 1))
           go_roundg k1
           case measure => have := HK1.out; omega
           case rel => exact ⟨(wrap64 (x12_1 + 1)), ((rd_T55 t841 (rd l1 x12_1)).f0), ((rd_T55 t841 (rd l1 x12_1)).f1), (x840000_1), (.slice A846_1 ((rd_T55 t841 (rd l1 x12_1)).f1).length c846_1), y26, H', ⟨(y46 HK1.out)⟩, ⟨(by (with_reducible repeat (first | apply Kd.V_alloc | apply Kd.V_drewN | apply Kd.V_drew)); exact Kd.V_mono (Kd.V_far (p := ⟨gb838, 1, none⟩) (Kd.V_far (p := ⟨gb838, 0, none⟩) (Kd.V_mono HL846_1.out (fun k_ hk => (⟨hk, hk.2.1⟩ : _ ∧ k_ ≠ gb838))) (fun _ hk => hk.2) (.int .i64 ((rd_T55 t841 (rd l1 x12_1)).f0))) (fun _ hk => hk.2) (.slice A846_1 ((rd_T55 t841 (rd l1 x12_1)).f1).length c846_1)) (fun _ hk => ⟨hk.1.1, ⟨hk.1.2.1, hk.1.2.2⟩⟩))⟩, ⟨(by (with_reducible repeat (first | refine blk_drewN ?_ _ | refine blk_drew ?_ | refine blk_alloc ?_ _)); refine blk_put (cs := #[.int .i64 ((rd_T55 t841 (rd l1 x12_1)).f0), .slice Ao36 x839001_1.length co36]) ?_ 1 _ rfl; (with_reducible repeat (first | refine blk_drewN ?_ _ | refine blk_drew ?_ | refine blk_alloc ?_ _)); refine blk_put (cs := #[.int .i64 x839000_1, .slice Ao36 x839001_1.length co36]) ?_ 0 _ rfl; (with_reducible repeat (first | refine blk_drewN ?_ _ | refine blk_drew ?_ | refine blk_alloc ?_ _)); exact BK838.out)⟩, ⟨(y17 NB839_838.out BK839.out)⟩, ⟨(y1 HB.out GE838.out GE839.out)⟩⟩
          ·rw [if_neg c33] at H
           exact absurd H (by simp)
         ·rw [if_neg c32] at H
          exact absurd H (by simp)
      ·rw [if_neg c9] at H
       have c9b0 : ((t841.length : Int) == 2) = false := beq_eq_false_iff_ne.mpr c9
       have c9b1 : ((t841.length : Int) != 2) = true := bne_iff_ne.mpr c9
       simp only [Option.some.injEq, Prod.mk.injEq] at H
       obtain ⟨rfl, rfl, rfl⟩ := H
       have p840 : 0 ≤ (x12_1 : Int) := of_decide_eq_true y19
       have q840 : x12_1 < (l1.length : Int) := of_decide_eq_true y19
       obtain ⟨ad840, e840, hx840_0⟩ := Kd.at_int HR1.out x12_1 p840 q840
       cases e840
       replace hx840_0 := (HB.out.cell (World.block_lt_of_cell? w _ hx840_0)).trans hx840_0
       replace p840 := eq_true p840
       replace q840 := eq_true q840
       have hnb40 := NB838_839.out
       have hnc40 := NB839_838.out
       have hcz41_0 := zh BK838
       have hcz41_1 := zh1 BK838
       have hfz41_0 := zfr BK838 0
       have hfz41_1 := zfr BK838 1
       obtain ⟨Ao42, co42, eo42⟩ := Kd.V_slice HO_839001.out
       subst eo42
       go_wp2_with (first | (go_at_call 105; (with_reducible refine (impl_Val_parts.calls x839000_1 (fun k_ => ((P0_1_ k_ ∨ w.heap.size ≤ k_) ∧ (k_ ≠ gb838 ∧ k_ ≠ gb839))) _ _ x839001_1 t841 _ ?side1 A8.out).mono ?_); (case side1 => exact HO_839001.out); rintro e w43 ⟨v842, rfl, ho0, hb⟩; replace HO_839001 := Aside0.mk (Kd.V_below (y13 HO_839001.out) hb); have HO843 := Aside0.mk (Kd.V_lower (Kd.V_mono (ok' := fun k_ => (P0_1_ k_ ∨ w.heap.size ≤ k_) ∧ k_ ≠ gb838 ∧ k_ ≠ gb839) ho0 (fun k_ hk_ => ⟨Or.elim hk_ (fun hs_ => hs_.1) (fun hn_ => (.inr (Nat.le_trans (below_size (y1 HB.out GE838.out GE839.out)) hn_))), Or.elim hk_ (fun hs_ => hs_.2.1) (fun hn_ => (Kd.freshB (g := gb838) (o := .cells #[.int .i64 x839000_1, .slice Ao42 x839001_1.length co42] 55 (0, 0)) (y0 BK838.out) k_ hn_)), Or.elim hk_ (fun hs_ => hs_.2.2) (fun hn_ => (Kd.freshB (g := gb839) (o := .cells #[.int .i64 x840000_1, .slice none 0 0] 55 (0, 0)) (y0 BK839.out) k_ hn_))⟩)) (below_size (y1 HB.out GE838.out GE839.out))); replace BK838 := zbb BK838 hb; replace BK839 := zbb BK839 hb; replace HB := Aside0.mk (below_step (y1 HB.out GE838.out GE839.out) hb); (try clear hb); (try clear hb2); (try clear hk); (try clear hi); (try clear ho0); obtain ⟨Ao44, co44, eo44⟩ := Kd.V_slice HO843.out; subst eo44) | ((with_reducible refine gate_dst (N := 9) rfl ?_); refine zbx 9 #[.int .i64 0, .slice none 0 0] 55 ?_; intro gb847 hg w45 hbox hb; replace HO_839001 := Aside0.mk (Kd.V_below (Kd.V_elderB (y13 HO_839001.out) gb847 (Nat.le_of_eq hg.symm)) hb); replace HO843 := Aside0.mk (Kd.V_below (Kd.V_elderB (y13 HO843.out) gb847 (Nat.le_of_eq hg.symm)) hb); have BK847 := Aside0.mk hbox; have GW847 := Aside0.mk ((y20 hg HB.out GE838.out GE839.out : w.heap.size ≤ gb847)); have GE847 := Aside0.mk ((y20 hg HB.out GE838.out GE839.out : w.heap.size ≤ gb847)); replace HB := Aside0.mk (below_step (y1 HB.out GE838.out GE839.out) hb); have NB838_847 := zltn hg BK838; have NB847_838 := zgtn hg BK838; replace BK838 := zbb BK838 hb; have NB839_847 := zltn hg BK839; have NB847_839 := zgtn hg BK839; replace BK839 := zbb BK839 hb; clear hb hbox hg; have hnb46 := NB847_838.out; have hnc46 := NB838_847.out; have hnb47 := NB847_839.out; have hnc47 := NB839_847.out; have hcz48_0 := zh BK847; have hcz48_1 := zh1 BK847; have hfz48_0 := zfr BK847 0; have hfz48_1 := zfr BK847 1; have hcz49_0 := zh BK839; have hcz49_1 := zh1 BK839; have hfz49_0 := zfr BK839 0; have hfz49_1 := zfr BK839 1))
       refine bodyPost_ret (results_ct rfl _ _ gb839 55 #[.int .i64 0, .slice none 0 0] (0, 0) _ rfl (by (with_reducible repeat (first | refine blk_drewN ?_ _ | refine blk_drew ?_ | refine blk_alloc ?_ _)); refine blk_put (cs := #[.int .i64 0, .slice none 0 0]) ?_ 1 _ rfl; (with_reducible repeat (first | refine blk_drewN ?_ _ | refine blk_drew ?_ | refine blk_alloc ?_ _)); apply blk_put (i := 0); (case h => exact y0 BK839.out); (case e => rfl)) Try.underlying55 rfl (by kernel_rfl)) rfl ?_
       exact ⟨_, y14, Kd.V_nil _ _ _ _ _, (y7 HB.out GE838.out GE839.out GE847.out)⟩
     ·rw [if_neg c7] at H
      exact absurd H (by simp)
    ·rw [if_neg c6] at H
     exact absurd H (by simp)
   ·rw [if_neg c5] at H
    have c5b0 : decide (x12_1 < (l1.length : Int)) = false := decide_eq_false c5
    clear c5
    simp only [Option.some.injEq, Prod.mk.injEq] at H
    obtain ⟨rfl, rfl, rfl⟩ := H
    have hnb50 := NB838_839.out
    have hnc50 := NB839_838.out
    have hcz51_0 := zh BK838
    have hcz51_1 := zh1 BK838
    have hfz51_0 := zfr BK838 0
    have hfz51_1 := zfr BK838 1
    have hcz52_0 := zh BK839
    have hcz52_1 := zh1 BK839
    have hfz52_0 := zfr BK839 0
    have hfz52_1 := zfr BK839 1
    obtain ⟨Ao53, co53, eo53⟩ := Kd.V_slice HO_839001.out
    subst eo53
    go_wp2
    refine bodyPost_ret (results_ct rfl _ _ gb839 55 #[.int .i64 x839000_1, .slice Ao53 x839001_1.length co53] (0, 0) _ rfl (by (with_reducible repeat (first | refine blk_drewN ?_ _ | refine blk_drew ?_ | refine blk_alloc ?_ _)); refine blk_put (cs := #[.int .i64 x839000_1, .slice none 0 0]) ?_ 1 _ rfl; (with_reducible repeat (first | refine blk_drewN ?_ _ | refine blk_drew ?_ | refine blk_alloc ?_ _)); apply blk_put (i := 0); (case h => exact y0 BK839.out); (case e => rfl)) Try.underlying55 rfl (by kernel_rfl)) rfl ?_
    exact ⟨_, y14, (by (with_reducible repeat (first | apply Kd.V_alloc | apply Kd.V_drewN | apply Kd.V_drew)); exact Kd.V_mono (Kd.V_far (p := ⟨gb839, 1, none⟩) (Kd.V_far (p := ⟨gb839, 0, none⟩) (Kd.V_mono HO_839001.out (fun k_ hk => (⟨hk, hk.2.2⟩ : _ ∧ k_ ≠ gb839))) (fun _ hk => hk.2) (.int .i64 x839000_1)) (fun _ hk => hk.2) (.slice Ao53 x839001_1.length co53)) (fun _ hk => hk.1.1)), (y1 HB.out GE838.out GE839.out)⟩
end Go.Proofs.Ytjhbhihfifhljaa.PA
end
section
namespace Go.Proofs.Ytjhbhihfifhljaa.PA
open Go.RowKit Go.Proofs.YtjhbhihfifhljaaW.PrintWords Go.Proofs.YtjhbhihfifhljaaW.PrintLast Go.Proofs.YtjhbhihfifhljaaW.PrintMore
attribute [local go_sem] max2_int min2_int max_two min_two max_three min_three max_four min_four
set_option linter.unusedVariables false
set_option linter.unusedSimpArgs false
def impl_valCopy.f : Nat → Int → List (S55) → Option (Int × (List (S55)))
 | 0, _, _ => none
 | k + 1, a0_0, l0_1 => if (l0_1.length : Int) = 0 then (some (a0_0, ([] : List (S55)))) else (if 0 < (l0_1.length : Int) then ((impl_valCopy.f k ((rd_T55 l0_1 0).f0) ((rd_T55 l0_1 0).f1)).bind fun bt851 => (if 1 < (l0_1.length : Int) then ((impl_valCopy.f k ((rd_T55 l0_1 1).f0) ((rd_T55 l0_1 1).f1)).bind fun bt856 => (some (0, (([(⟨bt851.1, bt851.2⟩ : S55), (⟨bt856.1, bt856.2⟩ : S55)] : List (S55)))))) else (none))) else (none))
theorem impl_valCopy.mono_l : ∀ k, (∀ y0 y1, LeO (impl_valCopy.f k y0 y1) (impl_valCopy.f (k + 1) y0 y1))
 | 0 => fun _ _ r h => by simp [impl_valCopy.f] at h
 | k + 1 => by
  have ih0 := impl_valCopy.mono_l k
  ·intro y0 y1
   unfold impl_valCopy.f
   repeat' first
   | (with_reducible exact ih0 _ _)
   | (with_reducible exact LeO.refl _)
   | (with_reducible exact LeO.none _)
   | (with_reducible refine LeO.ite ?_ ?_)
   | (with_reducible refine LeO.bind ?_ (fun _ => ?_))
   | exact ih0 _ _
   | exact LeO.none _
   | refine LeO.ite ?_ ?_
   | refine LeO.bind ?_ (fun _ => ?_)
theorem impl_valCopy.mono : ∀ a0 a1 k, LeO (impl_valCopy.f k a0 a1) (impl_valCopy.f (k + 1) a0 a1) := by
 intro a0 a1 k
 have ih0 := impl_valCopy.mono_l k
 exact ih0 a0 a1
def impl_valCopy.T3 : Bool × List (List Nat × List Nat) := (true, [([], []), ([0], [0]), ([1], [1]), ([2], [2]), ([3], [3]), ([], []), ([5], [5]), ([6], [6]), ([7], [7]), ([8, 4], [8]), ([4, 9], [4, 9]), ([10], [10]), ([11, 9, 0, 1, 2, 3, 4, 5, 6, 7, 8, 9, 10, 11], [11])])
def impl_valCopy.B3 : List Nat := [0, 1, 3, 7, 15, 0, 32, 96, 224, 511, 1023, 2047, 4095]
theorem impl_valCopy.tab3 : rtab .any (opsOf Try.f75 3) = impl_valCopy.T3 := by kernel_rfl
theorem impl_valCopy.bits3 : waitsOk impl_valCopy.T3.2 impl_valCopy.B3 = true := by kernel_rfl
set_option maxHeartbeats 8000000 in
set_option maxRecDepth 100000 in
theorem impl_valCopy.calls (k : Nat) : ∀ (a0_0 : Int) (A0_1 : Option Addr) (c0_1 : Nat) (l0_1 : List (S55)) (r1 : Int) (r2 : List (S55)) (w : World) (hr0_1 : Kd.C k55 w A0_1 l0_1.length l0_1) (hc0_1 : l0_1.length ≤ c0_1) (h : impl_valCopy.f k a0_0 l0_1 = some (r1, r2)),
  Calls Try.prog 75 #[.agg #[.int .i64 a0_0, .slice A0_1 l0_1.length c0_1]] w fun e w' => ∃ v1_ : Value, e = .returned (.agg #[.int .i64 r1, v1_]) ∧ Kd.N k55 55 w' w.heap.size (fun k_ => (w.heap.size ≤ k_)) v1_ r2 ∧ Below w.heap.size w w' := by
 induction k using Nat.strongRecOn with
 | _ k ih =>
 intro a0_0 A0_1 c0_1 l0_1 r1 r2 w hr0_1 hc0_1 h
 cases k with
 | zero => exact absurd h (by simp [impl_valCopy.f])
 | succ k =>
 simp only [impl_valCopy.f] at h
 have hu55 := Try.underlying55
 have HR0_1 := Aside0.mk hr0_1
 have HC0_1 := Aside0.mk hc0_1
 clear hr0_1 hc0_1
 have HB := Aside0.mk (Below.refl w.heap.size w)
 have H : (if (l0_1.length : Int) = 0 then (some (a0_0, ([] : List (S55)))) else (if 0 < (l0_1.length : Int) then ((impl_valCopy.f k ((rd_T55 l0_1 0).f0) ((rd_T55 l0_1 0).f1)).bind fun bt851 => (if 1 < (l0_1.length : Int) then ((impl_valCopy.f k ((rd_T55 l0_1 1).f0) ((rd_T55 l0_1 1).f1)).bind fun bt856 => (some (0, (([(⟨bt851.1, bt851.2⟩ : S55), (⟨bt856.1, bt856.2⟩ : S55)] : List (S55)))))) else (none))) else (none))) = some (r1, r2) := h
 clear h
 by_cases c2 : (l0_1.length : Int) = 0
 ·rw [if_pos c2] at H
  have c2b0 : ((l0_1.length : Int) == 0) = true := beq_iff_eq.mpr c2
  have c2b1 : ((l0_1.length : Int) != 0) = false := bne_eq_false_iff_eq.mpr c2
  clear c2
  simp only [Option.some.injEq, Prod.mk.injEq] at H
  obtain ⟨rfl, rfl⟩ := H
  go_enter Try.func75, Try.ntmps75
  go_wp2_with (first | ((with_reducible refine gate_dst (N := 1) rfl ?_); refine zbx 1 #[.int .i64 a0_0, .slice A0_1 l0_1.length c0_1] 55 ?_; intro gb848 hg w3 hbox hb; have BK848 := Aside0.mk hbox; have GW848 := Aside0.mk ((y5 hg HB.out : w.heap.size ≤ gb848)); have GE848 := Aside0.mk ((y5 hg HB.out : w.heap.size ≤ gb848)); replace HB := Aside0.mk (below_step (y2 HB.out) hb); clear hb hbox hg) | ((with_reducible refine gate_dst (N := 2) rfl ?_); refine zbx 2 #[.int .i64 0, .slice none 0 0] 55 ?_; intro gb849 hg w4 hbox hb; have BK849 := Aside0.mk hbox; have GW849 := Aside0.mk ((y6 hg HB.out GE848.out : w.heap.size ≤ gb849)); have GE849 := Aside0.mk ((y6 hg HB.out GE848.out : w.heap.size ≤ gb849)); replace HB := Aside0.mk (below_step (y3 HB.out GE848.out) hb); have NB848_849 := zltn hg BK848; have NB849_848 := zgtn hg BK848; replace BK848 := zbb BK848 hb; clear hb hbox hg; have hnb5 := NB848_849.out; have hnc5 := NB849_848.out; have hcz6_0 := zh BK848; have hcz6_1 := zh1 BK848; have hfz6_0 := zfr BK848 0; have hfz6_1 := zfr BK848 1; have hcz7_0 := zh BK849; have hcz7_1 := zh1 BK849; have hfz7_0 := zfr BK849 0; have hfz7_1 := zfr BK849 1))
  refine bodyPost_ret (results_cell_row rfl _ _ gb849 55 #[.int .i64 a0_0, .slice none 0 0] (0, 0) _ rfl (by (with_reducible repeat (first | refine blk_drewN ?_ _ | refine blk_drew ?_ | refine blk_alloc ?_ _)); refine blk_put (cs := #[.int .i64 a0_0, .slice none 0 0]) ?_ 1 _ rfl; (with_reducible repeat (first | refine blk_drewN ?_ _ | refine blk_drew ?_ | refine blk_alloc ?_ _)); apply blk_put (i := 0); (case h => exact y0 BK849.out); (case e => rfl)) Try.underlying55 rfl (by kernel_rfl)) rfl ?_
  exact ⟨_, y14, y36, (y1 HB.out GE848.out GE849.out)⟩
 ·rw [if_neg c2] at H
  have c2b0 : ((l0_1.length : Int) == 0) = false := beq_eq_false_iff_ne.mpr c2
  have c2b1 : ((l0_1.length : Int) != 0) = true := bne_iff_ne.mpr c2
  have c2b2 : ¬ (l0_1 = []) := fun h_ => c2 (by rw [h_]; rfl)
  by_cases c8 : 0 < (l0_1.length : Int)
  ·rw [if_pos c8] at H
   have c8b0 : decide (0 < (l0_1.length : Int)) = true := decide_eq_true c8
   have c8b1 : decide (0 < l0_1.length) = true := decide_eq_true (by omega)
   clear c8
   obtain ⟨⟨t851, t852⟩, A90, H⟩ := ob H
   have A9 := Aside0.mk A90
   clear A90
   by_cases c10 : 1 < (l0_1.length : Int)
   ·rw [if_pos c10] at H
    have c10b0 : decide (1 < (l0_1.length : Int)) = true := decide_eq_true c10
    have c10b1 : decide (1 < l0_1.length) = true := decide_eq_true (by omega)
    clear c10
    obtain ⟨⟨t856, t857⟩, A110, H⟩ := ob H
    have A11 := Aside0.mk A110
    clear A110
    obtain ⟨y860, hy860⟩ : ∃ y_ : List (S55), y_ = (([(⟨t851, t852⟩ : S55), (⟨t856, t857⟩ : S55)] : List (S55))) := ⟨_, rfl⟩
    replace H : (some (0, y860)) = some (r1, r2) := by first | (rw [hy860]; with_reducible exact H) | (have H2_ := (Option.bind_some _ _).symm.trans H; rw [hy860]; with_reducible exact H2_) | (have H2_ := (Option.bind_some _ _).symm.trans H; with_reducible exact H2_) | with_reducible exact H | (rw [hy860]; exact H) | exact H
    have Ny860 := Aside0.mk hy860
    clear hy860
    simp only [Option.some.injEq, Prod.mk.injEq] at H
    obtain ⟨rfl, rfl⟩ := H
    go_enter Try.func75, Try.ntmps75
    try go_wp2_with (first | ((with_reducible refine gate_dst (N := 1) rfl ?_); refine zbx 1 #[.int .i64 a0_0, .slice A0_1 l0_1.length c0_1] 55 ?_; intro gb848 hg w12 hbox hb; have BK848 := Aside0.mk hbox; have GW848 := Aside0.mk ((y5 hg HB.out : w.heap.size ≤ gb848)); have GE848 := Aside0.mk ((y5 hg HB.out : w.heap.size ≤ gb848)); replace HB := Aside0.mk (below_step (y2 HB.out) hb); clear hb hbox hg) | ((with_reducible refine gate_dst (N := 2) rfl ?_); refine zbx 2 #[.int .i64 0, .slice none 0 0] 55 ?_; intro gb849 hg w13 hbox hb; have BK849 := Aside0.mk hbox; have GW849 := Aside0.mk ((y6 hg HB.out GE848.out : w.heap.size ≤ gb849)); have GE849 := Aside0.mk ((y6 hg HB.out GE848.out : w.heap.size ≤ gb849)); replace HB := Aside0.mk (below_step (y3 HB.out GE848.out) hb); have NB848_849 := zltn hg BK848; have NB849_848 := zgtn hg BK848; replace BK848 := zbb BK848 hb; clear hb hbox hg; have hnb14 := NB848_849.out; have hnc14 := NB849_848.out; have hcz15_0 := zh BK848; have hcz15_1 := zh1 BK848; have hfz15_0 := zfr BK848 0; have hfz15_1 := zfr BK848 1))
    replace BK848 := Aside0.mk (blk_drew BK848.out)
    replace BK849 := Aside0.mk (blk_drew BK849.out)
    replace HB := Aside0.mk (below_drew1 HB.out)
    have p850 : 0 ≤ (0 : Int) := (by omega)
    have q850 : 0 < (l0_1.length : Int) := of_decide_eq_true y19
    obtain ⟨ad850, A850_1, c850_1, e850, hx850_0, hx850_1, hl850_1, hi850_1⟩ := at_T55 HR0_1.out 0 p850 q850
    have hw850_1 := hx850_1
    (try rw [show ((0 : Int)).toNat = 0 from rfl] at hw850_1)
    (try rw [show 0 * 2 = 0 from rfl] at hw850_1)
    (try rw [Addr.add_zero'] at hw850_1)
    have hw850_0 := hx850_0
    (try rw [show ((0 : Int)).toNat = 0 from rfl] at hw850_0)
    (try rw [show 0 * 2 = 0 from rfl] at hw850_0)
    (try rw [Addr.add_zero'] at hw850_0)
    cases e850
    have qi850 : (0 < l0_1.length) = True := eq_true (by omega)
    (try rw [show ((0 : Int)).toNat = 0 from rfl] at hx850_0)
    (try rw [show 0 * 2 = 0 from rfl] at hx850_0)
    (try rw [Addr.add_zero'] at hx850_0)
    (try rw [show ((0 : Int)).toNat = 0 from rfl] at hx850_1)
    (try rw [show 0 * 2 = 0 from rfl] at hx850_1)
    (try rw [Addr.add_zero'] at hx850_1)
    replace hx850_0 := (HB.out.cell (World.block_lt_of_cell? w _ hx850_0)).trans hx850_0
    replace hx850_1 := (HB.out.cell (World.block_lt_of_cell? w _ hx850_1)).trans hx850_1
    have HR850_1 := Aside0.mk hi850_1
    have HC850_1 := Aside0.mk hl850_1
    clear hi850_1 hl850_1
    replace p850 := eq_true p850
    replace q850 := eq_true q850
    have p855 : 0 ≤ (1 : Int) := (by omega)
    have q855 : 1 < (l0_1.length : Int) := of_decide_eq_true y19
    obtain ⟨ad855, A855_1, c855_1, e855, hx855_0, hx855_1, hl855_1, hi855_1⟩ := at_T55 HR0_1.out 1 p855 q855
    have hw855_1 := hx855_1
    (try rw [show ((1 : Int)).toNat = 1 from rfl] at hw855_1)
    (try rw [show 1 * 2 = 2 from rfl] at hw855_1)
    (try simp only [Nat.reduceMul, Nat.reduceEqDiff, Go.Addr.add, ↓reduceIte] at hw855_1)
    have hw855_0 := hx855_0
    (try rw [show ((1 : Int)).toNat = 1 from rfl] at hw855_0)
    (try rw [show 1 * 2 = 2 from rfl] at hw855_0)
    (try simp only [Nat.reduceMul, Nat.reduceEqDiff, Go.Addr.add, ↓reduceIte] at hw855_0)
    obtain rfl : ad850 = ad855 := (by injection e855)
    (try simp only [show (1 : Int).toNat = 1 from rfl, Nat.reduceMul, Nat.reduceEqDiff, Go.Addr.add, ↓reduceIte] at hx855_0)
    (try simp only [show (1 : Int).toNat = 1 from rfl, Nat.reduceMul, Nat.reduceEqDiff, Go.Addr.add, ↓reduceIte] at hx855_1)
    have qi855 : (1 < l0_1.length) = True := eq_true (by omega)
    (try rw [show ((1 : Int)).toNat = 1 from rfl] at hx855_0)
    (try rw [show 1 * 2 = 2 from rfl] at hx855_0)
    (try rw [show ((1 : Int)).toNat = 1 from rfl] at hx855_1)
    (try rw [show 1 * 2 = 2 from rfl] at hx855_1)
    replace hx855_0 := (HB.out.cell (World.block_lt_of_cell? w _ hx855_0)).trans hx855_0
    replace hx855_1 := (HB.out.cell (World.block_lt_of_cell? w _ hx855_1)).trans hx855_1
    have HR855_1 := Aside0.mk hi855_1
    have HC855_1 := Aside0.mk hl855_1
    clear hi855_1 hl855_1
    replace p855 := eq_true p855
    replace q855 := eq_true q855
    refine start_ (n := 13) (S := fun w' => w'.cell? ⟨gb848, 0, none⟩ = some (.int .i64 a0_0) ∧ w'.cell? ⟨gb848, 1, none⟩ = some (.slice (some ad850) l0_1.length c0_1) ∧ w'.cell? ad850 = some (.int .i64 ((rd_T55 l0_1 0).f0)) ∧ w'.cell? ⟨ad850.block, ad850.off + 1, none⟩ = some (.slice A850_1 ((rd_T55 l0_1 0).f1).length c850_1) ∧ w'.cell? ⟨ad850.block, ad850.off + 2, none⟩ = some (.int .i64 ((rd_T55 l0_1 1).f0)) ∧ w'.cell? ⟨ad850.block, ad850.off + 2 + 1, none⟩ = some (.slice A855_1 ((rd_T55 l0_1 1).f1).length c855_1)) (ds := []) #[false, false, false, false, false, false, false, false, false, false, false, false, false] (by kernel_rfl) rfl rfl ⟨(blk_cell BK848.out 0).trans rfl, (blk_cell BK848.out 1).trans rfl, ((HB.out.cell (World.block_lt_of_cell? w _ hw850_0)).trans hw850_0), ((HB.out.cell (World.block_lt_of_cell? w _ hw850_1)).trans hw850_1), ((HB.out.cell (World.block_lt_of_cell? w _ hw855_0)).trans hw855_0), ((HB.out.cell (World.block_lt_of_cell? w _ hw855_1)).trans hw855_1)⟩ (fun hHeld => ?_); refine with_tabW impl_valCopy.tab3 impl_valCopy.bits3 (fun HT_ HW_ => ?_)
    generalize w13.drew = w16 at BK848 BK849 HB HR850_1 HR855_1 hx850_0 hx850_1 hx855_0 hx855_1 hHeld ⊢
    refine zp 0 (some 10) HT_ ?_
    refine zp 5 (some 15) HT_ ?_
    refine zt6 1 (some 11) HT_ HW_ hHeld ?_
    refine zp 2 (some 12) HT_ ?_
    refine zt6 3 (some 13) HT_ HW_ hHeld ?_
    refine zt6 6 (some 16) HT_ HW_ hHeld ?_
    refine zp 7 (some 17) HT_ ?_
    refine zt6 8 (some 18) HT_ HW_ hHeld ?_
    refine one_ (i := 4) (N := some 14) #[true, true, true, true, true, true, true, true, true, false, false, false, false] rfl rfl (one_of HT_.out (by kernel_rfl)) (by decide) (fun K hK => ?_)
    refine goes_ Try.func75 (by kernel_rfl) rfl #[.agg #[.int .i64 ((rd_T55 l0_1 0).f0), .slice A850_1 ((rd_T55 l0_1 0).f1).length c850_1]] (by rfl) rfl rfl y4 ?_
    with_reducible refine (ih k (by omega) ((rd_T55 l0_1 0).f0) _ _ ((rd_T55 l0_1 0).f1) t851 t852 _ ?side1 ?side2 A9.out).mono ?_
    (case side1 => exact y8 HR850_1.out HB.out)
    (case side2 => exact HC850_1.out)
    rintro e w17 ⟨v853, rfl, ho0, hb⟩
    refine ⟨_, rfl, ?_⟩
    have HO854 := Aside0.mk (Kd.N_lower (Kd.N_mono (ok' := fun k_ => (w.heap.size ≤ k_) ∧ k_ ≠ gb848 ∧ k_ ≠ gb849) ho0 (fun k_ hk_ => ⟨(Nat.le_trans (below_size (y1 HB.out GE848.out GE849.out)) hk_), (Kd.freshB (g := gb848) (o := .cells #[.int .i64 a0_0, .slice (some ad850) l0_1.length c0_1] 55 (0, 0)) (y0 BK848.out) k_ hk_), (Kd.freshB (g := gb849) (o := .cells #[.int .i64 0, .slice none 0 0] 55 (0, 0)) (y0 BK849.out) k_ hk_)⟩)) (below_size (y1 HB.out GE848.out GE849.out)))
    replace BK848 := zbb BK848 hb
    replace BK849 := zbb BK849 hb
    replace HB := Aside0.mk (below_step (y1 HB.out GE848.out GE849.out) hb)
    (try clear hb)
    (try clear hb2)
    (try clear hk)
    (try clear hi)
    (try clear ho0)
    refine hK.out _ _ ⟨(blk_cell BK848.out 0).trans rfl, (blk_cell BK848.out 1).trans rfl, ((HB.out.cell (World.block_lt_of_cell? w _ hw850_0)).trans hw850_0), ((HB.out.cell (World.block_lt_of_cell? w _ hw850_1)).trans hw850_1), ((HB.out.cell (World.block_lt_of_cell? w _ hw855_0)).trans hw855_0), ((HB.out.cell (World.block_lt_of_cell? w _ hw855_1)).trans hw855_1)⟩ (fun hHeld => ?_)
    clear hK K
    refine norm_ (a' := ?_) ?_ ?_
    rotate_left
    ·show Act.put _ (some 14) _ = _
     simp only [Act.put, List.setIfInBounds_toArray, List.set_cons_zero, List.set_cons_succ, i64_w, i32_w]
     rfl
    refine one_ (i := 9) (N := some 19) #[true, true, true, true, true, true, true, true, true, true, false, false, false] rfl rfl (one_of HT_.out (by kernel_rfl)) (by decide) (fun K hK => ?_)
    refine goes_ Try.func75 (by kernel_rfl) rfl #[.agg #[.int .i64 ((rd_T55 l0_1 1).f0), .slice A855_1 ((rd_T55 l0_1 1).f1).length c855_1]] (by rfl) rfl rfl y4 ?_
    with_reducible refine (ih k (by omega) ((rd_T55 l0_1 1).f0) _ _ ((rd_T55 l0_1 1).f1) t856 t857 _ ?side1 ?side2 A11.out).mono ?_
    (case side1 => exact y8 HR855_1.out HB.out)
    (case side2 => exact HC855_1.out)
    rintro e w18 ⟨v858, rfl, ho0, hb⟩
    refine ⟨_, rfl, ?_⟩
    have HO859 := Aside0.mk (Kd.N_lower (Kd.N_mono (ok' := fun k_ => (w.heap.size ≤ k_) ∧ some k_ ≠ (v853 : Value).ownBlock ∧ k_ ≠ gb848 ∧ k_ ≠ gb849) ho0 (fun k_ hk_ => ⟨(Nat.le_trans (below_size (y1 HB.out GE848.out GE849.out)) hk_), (Kd.fresh' (Kd.N_lt (y9 HO854.out)) k_ hk_), (Kd.freshB (g := gb848) (o := .cells #[.int .i64 a0_0, .slice (some ad850) l0_1.length c0_1] 55 (0, 0)) (y0 BK848.out) k_ hk_), (Kd.freshB (g := gb849) (o := .cells #[.int .i64 0, .slice none 0 0] 55 (0, 0)) (y0 BK849.out) k_ hk_)⟩)) (below_size (y1 HB.out GE848.out GE849.out)))
    replace HO854 := Aside0.mk (Kd.N_elder' (y9 HO854.out) (Kd.N_base ho0) hb)
    replace BK848 := zbb BK848 hb
    replace BK849 := zbb BK849 hb
    replace HB := Aside0.mk (below_step (y1 HB.out GE848.out GE849.out) hb)
    (try clear hb)
    (try clear hb2)
    (try clear hk)
    (try clear hi)
    (try clear ho0)
    obtain ⟨Ao19, co19, eo19⟩ := Kd.N_slice HO854.out
    (first | subst eo19 | (injection eo19 with f1_ f2_ f3_; have f4_ := f1_.symm; have f5_ := f3_.symm; clear f1_ f2_ f3_; subst f4_; subst f5_))
    obtain ⟨Ao20, co20, eo20⟩ := Kd.N_slice HO859.out
    (first | subst eo20 | (injection eo20 with f1_ f2_ f3_; have f4_ := f1_.symm; have f5_ := f3_.symm; clear f1_ f2_ f3_; subst f4_; subst f5_))
    refine hK.out _ _ ⟨(blk_cell BK848.out 0).trans rfl, (blk_cell BK848.out 1).trans rfl, ((HB.out.cell (World.block_lt_of_cell? w _ hw850_0)).trans hw850_0), ((HB.out.cell (World.block_lt_of_cell? w _ hw850_1)).trans hw850_1), ((HB.out.cell (World.block_lt_of_cell? w _ hw855_0)).trans hw855_0), ((HB.out.cell (World.block_lt_of_cell? w _ hw855_1)).trans hw855_1)⟩ (fun hHeld => ?_)
    clear hK K
    refine norm_ (a' := ?_) ?_ ?_
    rotate_left
    ·show Act.put _ (some 19) _ = _
     simp only [Act.put, List.setIfInBounds_toArray, List.set_cons_zero, List.set_cons_succ, i64_w, i32_w]
     rfl
    refine one_ (i := 10) (N := some 20) #[true, true, true, true, true, true, true, true, true, true, true, false, false] rfl rfl (one_of HT_.out (by kernel_rfl)) (by decide) (fun K hK => ?_)
    refine Kd.N_lit_step k55 _ 55 ?hg (N' := 20) ?hd (xs := ([(⟨t851, t852⟩ : S55), (⟨t856, t857⟩ : S55)] : List (S55))) (inner := [.int .i64 t851, .slice Ao19 t852.length co19, .int .i64 t856, .slice Ao20 t857.length co20]) (ok := (fun k_ => (w.heap.size ≤ k_) ∧ k_ ≠ gb848 ∧ k_ ≠ gb849)) (okp := (fun k_ => (w.heap.size ≤ k_) ∧ k_ ≠ gb848 ∧ k_ ≠ gb849)) ?hr ?hp (fun _ hk => hk) ((show ∀ k_, w18.heap.size ≤ k_ → (fun k_ => (w.heap.size ≤ k_) ∧ k_ ≠ gb848 ∧ k_ ≠ gb849) k_ from fun k_ hk => ⟨(Nat.le_trans (below_size (y1 HB.out GE848.out GE849.out)) hk), Kd.freshB (g := gb848) (o := .cells #[.int .i64 a0_0, .slice (some ad850) l0_1.length c0_1] 55 (0, 0)) (y0 BK848.out) k_ hk, Kd.freshB (g := gb849) (o := .cells #[.int .i64 0, .slice none 0 0] 55 (0, 0)) (y0 BK849.out) k_ hk⟩) _ (Nat.le_refl _)) (Below.refl _ _) (Nat.le_refl _) (by simp) ?_; (case hd => rfl); (case hg => rfl); (case hr => first | (go_simp; done) | (go_simp; rfl)); (case hp => exact (Reps.c2 (show Kd.FK k55 _ _ (⟨t851, t852⟩ : S55) [.int .i64 t851, .slice Ao19 t852.length co19] from (k55_mkF _ _ (⟨t851, t852⟩ : S55) (Kd.N_reads' (Kd.N_mono (ok' := (fun k_ => (w.heap.size ≤ k_) ∧ k_ ≠ gb848 ∧ k_ ≠ gb849)) (HO854.out) (fun k_ hk => ⟨hk.1.1, ⟨hk.1.2.1, hk.1.2.2⟩⟩))).2.1 (Kd.N_F (Kd.N_mono (ok' := (fun k_ => (w.heap.size ≤ k_) ∧ k_ ≠ gb848 ∧ k_ ≠ gb849)) (HO854.out) (fun k_ hk => ⟨hk.1.1, ⟨hk.1.2.1, hk.1.2.2⟩⟩))))) (Reps.c2 (show Kd.FK k55 _ _ (⟨t856, t857⟩ : S55) [.int .i64 t856, .slice Ao20 t857.length co20] from (k55_mkF _ _ (⟨t856, t857⟩ : S55) (Kd.N_reads' (Kd.N_mono (ok' := (fun k_ => (w.heap.size ≤ k_) ∧ k_ ≠ gb848 ∧ k_ ≠ gb849)) (HO859.out) (fun k_ hk => ⟨hk.1, ⟨hk.2.2.1, hk.2.2.2⟩⟩))).2.1 (Kd.N_F (Kd.N_mono (ok' := (fun k_ => (w.heap.size ≤ k_) ∧ k_ ≠ gb848 ∧ k_ ≠ gb849)) (HO859.out) (fun k_ hk => ⟨hk.1, ⟨hk.2.2.1, hk.2.2.2⟩⟩))))) (Reps.none _ _))))
    intro v861 w21 ho22 hb hg_ hnew_
    clear hg_ hnew_
    (first | rw [← Ny860.out] at ho22 | (simp only [Int.reduceToNat] at ho22; rw [← Ny860.out] at ho22))
    have HO862 := Aside0.mk (Kd.N_lower ho22 (below_size (y1 HB.out GE848.out GE849.out)))
    replace BK848 := zbb BK848 hb
    replace BK849 := zbb BK849 hb
    replace HB := Aside0.mk (below_step (y1 HB.out GE848.out GE849.out) hb)
    clear HO854 HO859
    clear hb ho22
    obtain ⟨Ao23, co23, eo23⟩ := Kd.N_slice HO862.out
    (first | subst eo23 | (injection eo23 with f1_ f2_ f3_; have f4_ := f1_.symm; have f5_ := f3_.symm; clear f1_ f2_ f3_; subst f4_; subst f5_))
    refine hK.out _ _ ⟨(blk_cell BK848.out 0).trans rfl, (blk_cell BK848.out 1).trans rfl, ((HB.out.cell (World.block_lt_of_cell? w _ hw850_0)).trans hw850_0), ((HB.out.cell (World.block_lt_of_cell? w _ hw850_1)).trans hw850_1), ((HB.out.cell (World.block_lt_of_cell? w _ hw855_0)).trans hw855_0), ((HB.out.cell (World.block_lt_of_cell? w _ hw855_1)).trans hw855_1)⟩ (fun hHeld => ?_)
    clear hK K
    refine norm_ (a' := ?_) ?_ ?_
    rotate_left
    ·show Act.put _ (some 20) _ = _
     simp only [Act.put, List.setIfInBounds_toArray, List.set_cons_zero, List.set_cons_succ, i64_w, i32_w]
     rfl
    refine zp 11 (some 21) HT_ ?_
    refine one_ (i := 12) (N := none) #[true, true, true, true, true, true, true, true, true, true, true, true, true] rfl rfl (one_of HT_.out (by kernel_rfl)) (by decide) (fun K hK => ?_)
    have hs24 : w21.cell? ⟨gb849, 0, none⟩ = some (.int .i64 0) := (blk_cell BK849.out 0).trans rfl
    have hfs24 := zfr BK849 0
    have hns24_0 := NB848_849.out
    have hms24_0 := NB849_848.out
    have hs25 : w21.cell? ⟨gb849, 1, none⟩ = some (.slice none 0 0) := (blk_cell BK849.out 1).trans rfl
    have hfs25 := zfr BK849 1
    have hns25_0 := NB848_849.out
    have hms25_0 := NB849_848.out
    refine skip_ (w1 := ?_) (by rfl) rfl ?_ ?_
    rotate_left
    ·go_simp
     rfl
    refine hK.out _ _ ⟨((cell_far (p := ⟨gb849, _, none⟩) NB848_849.out _).trans (((cell_far (p := ⟨gb849, _, none⟩) NB848_849.out _).trans (hHeld.1)))), ((cell_far (p := ⟨gb849, _, none⟩) NB848_849.out _).trans (((cell_far (p := ⟨gb849, _, none⟩) NB848_849.out _).trans (hHeld.2.1)))), ((cell_far (p := ⟨gb849, _, none⟩) (by first | exact Nat.ne_of_lt (Nat.lt_of_lt_of_le (by have := World.block_lt_of_cell? _ _ hw850_0; first | rwa [add_block] at this | exact this) GW849.out) | (rw [add_block]; exact Nat.ne_of_lt (Nat.lt_of_lt_of_le (by have := World.block_lt_of_cell? _ _ hw850_0; first | rwa [add_block] at this | exact this) GW849.out)) | (show (Addr.add _ _).block ≠ _; rw [add_block]; exact Nat.ne_of_lt (Nat.lt_of_lt_of_le (by have := World.block_lt_of_cell? _ _ hw850_0; first | rwa [add_block] at this | exact this) GW849.out)) | (dsimp only; exact Nat.ne_of_lt (Nat.lt_of_lt_of_le (by have := World.block_lt_of_cell? _ _ hw850_0; first | rwa [add_block] at this | exact this) GW849.out))) _).trans (((cell_far (p := ⟨gb849, _, none⟩) (by first | exact Nat.ne_of_lt (Nat.lt_of_lt_of_le (by have := World.block_lt_of_cell? _ _ hw850_0; first | rwa [add_block] at this | exact this) GW849.out) | (rw [add_block]; exact Nat.ne_of_lt (Nat.lt_of_lt_of_le (by have := World.block_lt_of_cell? _ _ hw850_0; first | rwa [add_block] at this | exact this) GW849.out)) | (show (Addr.add _ _).block ≠ _; rw [add_block]; exact Nat.ne_of_lt (Nat.lt_of_lt_of_le (by have := World.block_lt_of_cell? _ _ hw850_0; first | rwa [add_block] at this | exact this) GW849.out)) | (dsimp only; exact Nat.ne_of_lt (Nat.lt_of_lt_of_le (by have := World.block_lt_of_cell? _ _ hw850_0; first | rwa [add_block] at this | exact this) GW849.out))) _).trans (hHeld.2.2.1)))), ((cell_far (p := ⟨gb849, _, none⟩) (by first | exact Nat.ne_of_lt (Nat.lt_of_lt_of_le (by have := World.block_lt_of_cell? _ _ hw850_1; first | rwa [add_block] at this | exact this) GW849.out) | (rw [add_block]; exact Nat.ne_of_lt (Nat.lt_of_lt_of_le (by have := World.block_lt_of_cell? _ _ hw850_1; first | rwa [add_block] at this | exact this) GW849.out)) | (show (Addr.add _ _).block ≠ _; rw [add_block]; exact Nat.ne_of_lt (Nat.lt_of_lt_of_le (by have := World.block_lt_of_cell? _ _ hw850_1; first | rwa [add_block] at this | exact this) GW849.out)) | (dsimp only; exact Nat.ne_of_lt (Nat.lt_of_lt_of_le (by have := World.block_lt_of_cell? _ _ hw850_1; first | rwa [add_block] at this | exact this) GW849.out))) _).trans (((cell_far (p := ⟨gb849, _, none⟩) (by first | exact Nat.ne_of_lt (Nat.lt_of_lt_of_le (by have := World.block_lt_of_cell? _ _ hw850_1; first | rwa [add_block] at this | exact this) GW849.out) | (rw [add_block]; exact Nat.ne_of_lt (Nat.lt_of_lt_of_le (by have := World.block_lt_of_cell? _ _ hw850_1; first | rwa [add_block] at this | exact this) GW849.out)) | (show (Addr.add _ _).block ≠ _; rw [add_block]; exact Nat.ne_of_lt (Nat.lt_of_lt_of_le (by have := World.block_lt_of_cell? _ _ hw850_1; first | rwa [add_block] at this | exact this) GW849.out)) | (dsimp only; exact Nat.ne_of_lt (Nat.lt_of_lt_of_le (by have := World.block_lt_of_cell? _ _ hw850_1; first | rwa [add_block] at this | exact this) GW849.out))) _).trans (hHeld.2.2.2.1)))), ((cell_far (p := ⟨gb849, _, none⟩) (by first | exact Nat.ne_of_lt (Nat.lt_of_lt_of_le (by have := World.block_lt_of_cell? _ _ hw855_0; first | rwa [add_block] at this | exact this) GW849.out) | (rw [add_block]; exact Nat.ne_of_lt (Nat.lt_of_lt_of_le (by have := World.block_lt_of_cell? _ _ hw855_0; first | rwa [add_block] at this | exact this) GW849.out)) | (show (Addr.add _ _).block ≠ _; rw [add_block]; exact Nat.ne_of_lt (Nat.lt_of_lt_of_le (by have := World.block_lt_of_cell? _ _ hw855_0; first | rwa [add_block] at this | exact this) GW849.out)) | (dsimp only; exact Nat.ne_of_lt (Nat.lt_of_lt_of_le (by have := World.block_lt_of_cell? _ _ hw855_0; first | rwa [add_block] at this | exact this) GW849.out))) _).trans (((cell_far (p := ⟨gb849, _, none⟩) (by first | exact Nat.ne_of_lt (Nat.lt_of_lt_of_le (by have := World.block_lt_of_cell? _ _ hw855_0; first | rwa [add_block] at this | exact this) GW849.out) | (rw [add_block]; exact Nat.ne_of_lt (Nat.lt_of_lt_of_le (by have := World.block_lt_of_cell? _ _ hw855_0; first | rwa [add_block] at this | exact this) GW849.out)) | (show (Addr.add _ _).block ≠ _; rw [add_block]; exact Nat.ne_of_lt (Nat.lt_of_lt_of_le (by have := World.block_lt_of_cell? _ _ hw855_0; first | rwa [add_block] at this | exact this) GW849.out)) | (dsimp only; exact Nat.ne_of_lt (Nat.lt_of_lt_of_le (by have := World.block_lt_of_cell? _ _ hw855_0; first | rwa [add_block] at this | exact this) GW849.out))) _).trans (hHeld.2.2.2.2.1)))), ((cell_far (p := ⟨gb849, _, none⟩) (by first | exact Nat.ne_of_lt (Nat.lt_of_lt_of_le (by have := World.block_lt_of_cell? _ _ hw855_1; first | rwa [add_block] at this | exact this) GW849.out) | (rw [add_block]; exact Nat.ne_of_lt (Nat.lt_of_lt_of_le (by have := World.block_lt_of_cell? _ _ hw855_1; first | rwa [add_block] at this | exact this) GW849.out)) | (show (Addr.add _ _).block ≠ _; rw [add_block]; exact Nat.ne_of_lt (Nat.lt_of_lt_of_le (by have := World.block_lt_of_cell? _ _ hw855_1; first | rwa [add_block] at this | exact this) GW849.out)) | (dsimp only; exact Nat.ne_of_lt (Nat.lt_of_lt_of_le (by have := World.block_lt_of_cell? _ _ hw855_1; first | rwa [add_block] at this | exact this) GW849.out))) _).trans (((cell_far (p := ⟨gb849, _, none⟩) (by first | exact Nat.ne_of_lt (Nat.lt_of_lt_of_le (by have := World.block_lt_of_cell? _ _ hw855_1; first | rwa [add_block] at this | exact this) GW849.out) | (rw [add_block]; exact Nat.ne_of_lt (Nat.lt_of_lt_of_le (by have := World.block_lt_of_cell? _ _ hw855_1; first | rwa [add_block] at this | exact this) GW849.out)) | (show (Addr.add _ _).block ≠ _; rw [add_block]; exact Nat.ne_of_lt (Nat.lt_of_lt_of_le (by have := World.block_lt_of_cell? _ _ hw855_1; first | rwa [add_block] at this | exact this) GW849.out)) | (dsimp only; exact Nat.ne_of_lt (Nat.lt_of_lt_of_le (by have := World.block_lt_of_cell? _ _ hw855_1; first | rwa [add_block] at this | exact this) GW849.out))) _).trans (hHeld.2.2.2.2.2))))⟩ (fun hHeld => ?_)
    clear hK K
    refine done_ (done_of HT_.out (by kernel_rfl)) ?_
    try go_wp2
    refine bodyPost_ret (results_cell_row rfl _ _ gb849 55 #[.int .i64 0, .slice Ao23 y860.length co23] (0, 0) _ rfl (by (with_reducible repeat (first | refine blk_drewN ?_ _ | refine blk_drew ?_ | refine blk_alloc ?_ _)); refine blk_put (cs := #[.int .i64 0, .slice none 0 0]) ?_ 1 _ rfl; (with_reducible repeat (first | refine blk_drewN ?_ _ | refine blk_drew ?_ | refine blk_alloc ?_ _)); apply blk_put (i := 0); (case h => exact y0 BK849.out); (case e => rfl)) Try.underlying55 rfl (by kernel_rfl)) rfl ?_
    exact ⟨_, y14, (by (with_reducible repeat (first | apply Kd.N_alloc | apply Kd.N_drewN | apply Kd.N_drew)); exact Kd.N_mono (Kd.N_far (p := ⟨gb849, 1, none⟩) (Kd.N_far (p := ⟨gb849, 0, none⟩) (Kd.N_mono HO862.out (fun k_ hk => (⟨hk, hk.2.2⟩ : _ ∧ k_ ≠ gb849))) (fun _ hk => hk.2) (.int .i64 0)) (fun _ hk => hk.2) (.slice Ao23 y860.length co23)) (fun _ hk => hk.1.1)), (y1 HB.out GE848.out GE849.out)⟩
   ·rw [if_neg c10] at H
    exact absurd H (by simp)
  ·rw [if_neg c8] at H
   exact absurd H (by simp)
end Go.Proofs.Ytjhbhihfifhljaa.PA
end
section
namespace Go.Proofs.Ytjhbhihfifhljaa.PA
open Go.RowKit Go.Proofs.YtjhbhihfifhljaaW.PrintWords Go.Proofs.YtjhbhihfifhljaaW.PrintLast Go.Proofs.YtjhbhihfifhljaaW.PrintMore
attribute [local go_sem] max2_int min2_int max_two min_two max_three min_three max_four min_four
set_option linter.unusedVariables false
set_option linter.unusedSimpArgs false
def impl_ValAt.f (k : Nat) (a0_0 : Int) (l0_1 : List (S55)) (l1 : List Int) : Option (Int × (List (S55)) × Bool) := (impl_valTyped.f k a0_0 l0_1).bind fun bt865 => (if bt865.2 = true then ((impl_Val.f k a0_0 l0_1 l1).bind fun bt870 => (if bt870.2.2 = true then ((impl_valCopy.f k bt870.1 bt870.2.1).bind fun bt876 => (some (bt876.1, bt876.2, true))) else (some (0, ([] : List (S55)), false)))) else (some (0, ([] : List (S55)), false)))
theorem impl_ValAt.mono : ∀ a0 a1 a2 k, LeO (impl_ValAt.f k a0 a1 a2) (impl_ValAt.f (k + 1) a0 a1 a2) := by
 intro a0 a1 a2 k
 unfold impl_ValAt.f
 repeat' first
   | (with_reducible exact impl_Val.mono _ _ _ _)
   | (with_reducible exact impl_valCopy.mono _ _ _)
   | (with_reducible exact impl_valTyped.mono _ _ _)
   | (with_reducible exact LeO.refl _)
   | (with_reducible exact LeO.none _)
   | (with_reducible refine LeO.ite ?_ ?_)
   | (with_reducible refine LeO.bind ?_ (fun _ => ?_))
   | exact impl_Val.mono _ _ _ _
   | exact impl_valCopy.mono _ _ _
   | exact impl_valTyped.mono _ _ _
   | exact LeO.none _
   | refine LeO.ite ?_ ?_
   | refine LeO.bind ?_ (fun _ => ?_)
set_option maxHeartbeats 8000000 in
set_option maxRecDepth 100000 in
theorem impl_ValAt.calls (k : Nat) (a0_0 : Int) (P0_1_ : Nat → Prop) (A0_1 : Option Addr) (c0_1 : Nat) (l0_1 : List (S55)) (A1 : Option Addr) (c1 : Nat) (l1 : List Int) (r1 : Int) (r2 : List (S55)) (r3 : Bool) (w : World) (hs0_1 : Kd.V k55 55 w w.heap.size (fun k_ => P0_1_ k_) (.slice A0_1 l0_1.length c0_1) l0_1) (hr1 : Kd.C (Kd.int .i64) w A1 l1.length l1) (hc1 : l1.length ≤ c1) (h : impl_ValAt.f k a0_0 l0_1 l1 = some (r1, r2, r3)) :
  Calls Try.prog 42 #[.agg #[.int .i64 a0_0, .slice A0_1 l0_1.length c0_1], .slice A1 l1.length c1] w fun e w' => ∃ v1_ : Value, e = .returned (.tuple #[.agg #[.int .i64 r1, v1_], .bool r3]) ∧ Kd.N k55 55 w' w.heap.size (fun k_ => (P0_1_ k_ ∨ w.heap.size ≤ k_)) v1_ r2 ∧ Below w.heap.size w w' := by
 have hu55 := Try.underlying55
 have hu30 := Try.underlying30
 have HO0_1 := Aside0.mk (show Kd.V k55 55 w w.heap.size (fun k_ => (P0_1_ k_ ∨ w.heap.size ≤ k_)) (.slice A0_1 l0_1.length c0_1) l0_1 from Kd.V_mono hs0_1 (fun k_ hk => .inl hk))
 have HR1 := Aside0.mk hr1
 have HC1 := Aside0.mk hc1
 clear hr1 hc1
 have HB := Aside0.mk (Below.refl w.heap.size w)
 have H : ((impl_valTyped.f k a0_0 l0_1).bind fun bt865 => (if bt865.2 = true then ((impl_Val.f k a0_0 l0_1 l1).bind fun bt870 => (if bt870.2.2 = true then ((impl_valCopy.f k bt870.1 bt870.2.1).bind fun bt876 => (some (bt876.1, bt876.2, true))) else (some (0, ([] : List (S55)), false)))) else (some (0, ([] : List (S55)), false)))) = some (r1, r2, r3) := h
 clear h
 obtain ⟨⟨t865, t868⟩, A30, H⟩ := ob H
 have A3 := Aside0.mk A30
 clear A30
 by_cases c4 : t868 = true
 ·subst c4
  rw [if_pos rfl] at H
  obtain ⟨⟨t870, t871, t874⟩, A50, H⟩ := ob H
  have A5 := Aside0.mk A50
  clear A50
  by_cases c6 : t874 = true
  ·subst c6
   rw [if_pos rfl] at H
   obtain ⟨⟨t876, t877⟩, A70, H⟩ := ob H
   have A7 := Aside0.mk A70
   clear A70
   simp only [Option.some.injEq, Prod.mk.injEq] at H
   obtain ⟨rfl, rfl, rfl⟩ := H
   go_enter Try.func42, Try.ntmps42
   go_wp2_with (first | ((with_reducible refine gate_dst (N := 2) rfl ?_); refine zbx 2 #[.int .i64 a0_0, .slice A0_1 l0_1.length c0_1] 55 ?_; intro gb863 hg w8 hbox hb; replace HO0_1 := Aside0.mk (Kd.V_below (Kd.V_elderB (y13 HO0_1.out) gb863 (Nat.le_of_eq hg.symm)) hb); have BK863 := Aside0.mk hbox; have GW863 := Aside0.mk ((y5 hg HB.out : w.heap.size ≤ gb863)); have GE863 := Aside0.mk ((y5 hg HB.out : w.heap.size ≤ gb863)); replace HB := Aside0.mk (below_step (y2 HB.out) hb); clear hb hbox hg) | ((with_reducible refine gate_dst (N := 4) rfl ?_); refine zbx 4 #[.int .i64 0, .slice none 0 0] 55 ?_; intro gb864 hg w9 hbox hb; replace HO0_1 := Aside0.mk (Kd.V_below (Kd.V_elderB (y13 HO0_1.out) gb864 (Nat.le_of_eq hg.symm)) hb); have BK864 := Aside0.mk hbox; have GW864 := Aside0.mk ((y6 hg HB.out GE863.out : w.heap.size ≤ gb864)); have GE864 := Aside0.mk ((y6 hg HB.out GE863.out : w.heap.size ≤ gb864)); replace HB := Aside0.mk (below_step (y3 HB.out GE863.out) hb); have NB863_864 := zltn hg BK863; have NB864_863 := zgtn hg BK863; replace BK863 := zbb BK863 hb; clear hb hbox hg; have hnb10 := NB863_864.out; have hnc10 := NB864_863.out; have hcz11_0 := zh BK863; have hcz11_1 := zh1 BK863; have hfz11_0 := zfr BK863 0; have hfz11_1 := zfr BK863 1) | ((with_reducible refine gate_callee (f := 69) rfl ?_); refine goesL_ (some 12) rfl rfl Try.func69 (by kernel_rfl) rfl #[.agg #[.int .i64 a0_0, .slice A0_1 l0_1.length c0_1]] rfl y4 ?_; (with_reducible refine (impl_valTyped.calls k a0_0 _ _ l0_1 t865 true _ ?side1 ?side2 A3.out).mono ?_); (case side1 => exact y31 HO0_1.out); (case side2 => exact (Kd.V_reads' HO0_1.out).2.1); rintro e w12 ⟨v866, rfl, ho0, hb⟩; refine ⟨_, rfl, ?_⟩; replace HO0_1 := Aside0.mk (Kd.V_elder' (y13 HO0_1.out) (Kd.N_base ho0) hb); have HO867 := Aside0.mk (Kd.N_lower (Kd.N_mono (ok' := fun k_ => (P0_1_ k_ ∨ w.heap.size ≤ k_) ∧ k_ ≠ gb863 ∧ k_ ≠ gb864) ho0 (fun k_ hk_ => ⟨(.inr (Nat.le_trans (below_size (y1 HB.out GE863.out GE864.out)) hk_)), (Kd.freshB (g := gb863) (o := .cells #[.int .i64 a0_0, .slice A0_1 l0_1.length c0_1] 55 (0, 0)) (y0 BK863.out) k_ hk_), (Kd.freshB (g := gb864) (o := .cells #[.int .i64 0, .slice none 0 0] 55 (0, 0)) (y0 BK864.out) k_ hk_)⟩)) (below_size (y1 HB.out GE863.out GE864.out))); replace BK863 := zbb BK863 hb; replace BK864 := zbb BK864 hb; replace HB := Aside0.mk (below_step (y1 HB.out GE863.out GE864.out) hb); (try clear hb); (try clear hb2); (try clear hk); (try clear hi); (try clear ho0)) | ((with_reducible refine gate_dst (N := 6) rfl ?_); refine zbx 6 #[.slice none 0 0] 30 ?_; intro gb869 hg w13 hbox hb; replace HO0_1 := Aside0.mk (Kd.V_below (Kd.V_elderB (y13 HO0_1.out) gb869 (Nat.le_of_eq hg.symm)) hb); replace HO867 := Aside0.mk (Kd.N_below (Kd.N_elderB (y9 HO867.out) gb869 (Nat.le_of_eq hg.symm)) hb); have BK869 := Aside0.mk hbox; have GW869 := Aside0.mk ((y20 hg HB.out GE863.out GE864.out : w.heap.size ≤ gb869)); have GE869 := Aside0.mk ((y20 hg HB.out GE863.out GE864.out : w.heap.size ≤ gb869)); replace HB := Aside0.mk (below_step (y1 HB.out GE863.out GE864.out) hb); have NB863_869 := zltn hg BK863; have NB869_863 := zgtn hg BK863; replace BK863 := zbb BK863 hb; have NB864_869 := zltn hg BK864; have NB869_864 := zgtn hg BK864; replace BK864 := zbb BK864 hb; clear hb hbox hg; obtain ⟨Ao14, co14, eo14⟩ := Kd.N_slice HO867.out; subst eo14; have hnb15 := NB869_863.out; have hnc15 := NB863_869.out; have hnb16 := NB869_864.out; have hnc16 := NB864_869.out; have hcz17_0 := zh BK869; have hfz17_0 := zfr BK869 0) | ((with_reducible refine gate_store (t := 30) (p := 6) rfl ?_); refine store_event (t := 30) (p := 6) (v := ?vo_w18) (w1 := (w13.setCell ⟨gb869, 0, none⟩ (.slice Ao14 t865.length co14))) ?hg ?ho ?hn ?hr ?_; (case ho => rfl); (case hg => rfl); (case hn => rfl); (case hr => first | (go_simp; done) | (go_simp; rfl)); intro w18 hw; have n0_ : Aside0 (Kd.V k55 55 w18 w.heap.size (fun k_ => (P0_1_ k_ ∨ w.heap.size ≤ k_) ∧ some k_ ≠ (.slice Ao14 t865.length co14 : Value).ownBlock ∧ k_ ≠ gb863 ∧ k_ ≠ gb864 ∧ k_ ≠ gb869) (.slice A0_1 l0_1.length c0_1) l0_1) := ⟨(by rw [hw]; exact (by (with_reducible repeat (first | apply Kd.V_alloc | apply Kd.V_drewN | apply Kd.V_drew)); exact Kd.V_mono (Kd.V_far (p := ⟨gb869, 0, none⟩) (Kd.V_mono HO0_1.out (fun k_ hk => (⟨hk, hk.2⟩ : _ ∧ k_ ≠ gb869))) (fun _ hk => hk.2) (.slice Ao14 t865.length co14)) (fun _ hk => ⟨hk.1.1.1.1.1, ⟨hk.1.1.2, ⟨hk.1.1.1.1.2, ⟨hk.1.1.1.2, hk.1.2⟩⟩⟩⟩)))⟩; have n1_ : Aside0 (Kd.N k30 30 w18 w.heap.size (fun k_ => (P0_1_ k_ ∨ w.heap.size ≤ k_) ∧ k_ ≠ gb863 ∧ k_ ≠ gb864 ∧ k_ ≠ gb869) (.slice Ao14 t865.length co14) t865) := ⟨(by rw [hw]; exact (by (with_reducible repeat (first | apply Kd.N_alloc | apply Kd.N_drewN | apply Kd.N_drew)); exact Kd.N_mono (Kd.N_far (p := ⟨gb869, 0, none⟩) (Kd.N_mono HO867.out (fun k_ hk => (⟨hk, hk.2⟩ : _ ∧ k_ ≠ gb869))) (fun _ hk => hk.2) (.slice Ao14 t865.length co14)) (fun _ hk => ⟨hk.1.1.1, ⟨hk.1.1.2.1, ⟨hk.1.1.2.2, hk.1.2⟩⟩⟩)))⟩; have n2_ : Aside0 (w18.heap[gb863]? = some (.cells #[.int .i64 a0_0, .slice A0_1 l0_1.length c0_1] 55 (0, 0))) := ⟨(by rw [hw]; exact (y21 NB863_869.out BK863.out))⟩; have n3_ : Aside0 (w18.heap[gb864]? = some (.cells #[.int .i64 0, .slice none 0 0] 55 (0, 0))) := ⟨(by rw [hw]; exact (y21 NB864_869.out BK864.out))⟩; have n4_ : Aside0 (w18.heap[gb869]? = some (.cells #[.slice Ao14 t865.length co14] 30 (0, 0))) := ⟨(by rw [hw]; exact (by (with_reducible repeat (first | refine blk_drewN ?_ _ | refine blk_drew ?_ | refine blk_alloc ?_ _)); apply blk_put (i := 0); (case h => exact y0 BK869.out); (case e => rfl)))⟩; have n5_ : Aside0 (Below w.heap.size w w18) := ⟨(by rw [hw]; exact (y7 HB.out GE863.out GE864.out GE869.out))⟩; clear hw; clear HO0_1; clear HO867; clear BK863; clear BK864; clear BK869; clear HB; have HO0_1 := n0_; have HO867 := n1_; have BK863 := n2_; have BK864 := n3_; have BK869 := n4_; have HB := n5_; clear n0_ n1_ n2_ n3_ n4_ n5_; have hcz19_0 := zh BK863; have hcz19_1 := zh1 BK863; have hfz19_0 := zfr BK863 0; have hfz19_1 := zfr BK863 1) | ((with_reducible refine gate_callee (f := 74) rfl ?_); refine goesL_ (some 21) rfl rfl Try.func74 (by kernel_rfl) rfl #[.agg #[.int .i64 a0_0, .slice A0_1 l0_1.length c0_1], .slice A1 l1.length c1] rfl y4 ?_; (with_reducible refine (impl_Val.calls k a0_0 (fun k_ => ((P0_1_ k_ ∨ w.heap.size ≤ k_) ∧ (some k_ ≠ (.slice Ao14 t865.length co14 : Value).ownBlock ∧ (k_ ≠ gb863 ∧ (k_ ≠ gb864 ∧ k_ ≠ gb869))))) _ _ l0_1 _ _ l1 t870 t871 true _ ?side1 ?side2 ?side3 A5.out).mono ?_); (case side1 => exact HO0_1.out); (case side2 => exact y8 HR1.out HB.out); (case side3 => exact HC1.out); rintro e w20 ⟨v872, rfl, ho0, hb⟩; refine ⟨_, rfl, ?_⟩; replace HO0_1 := Aside0.mk (Kd.V_below (y13 HO0_1.out) hb); have HO873 := Aside0.mk (Kd.V_lower (Kd.V_mono (ok' := fun k_ => (P0_1_ k_ ∨ w.heap.size ≤ k_) ∧ some k_ ≠ (.slice Ao14 t865.length co14 : Value).ownBlock ∧ k_ ≠ gb863 ∧ k_ ≠ gb864 ∧ k_ ≠ gb869) ho0 (fun k_ hk_ => ⟨Or.elim hk_ (fun hs_ => hs_.1) (fun hn_ => (.inr (Nat.le_trans (below_size (y7 HB.out GE863.out GE864.out GE869.out)) hn_))), Or.elim hk_ (fun hs_ => hs_.2.1) (fun hn_ => (Kd.fresh' (Kd.N_lt (y9 HO867.out)) k_ hn_)), Or.elim hk_ (fun hs_ => hs_.2.2.1) (fun hn_ => (Kd.freshB (g := gb863) (o := .cells #[.int .i64 a0_0, .slice A0_1 l0_1.length c0_1] 55 (0, 0)) (y0 BK863.out) k_ hn_)), Or.elim hk_ (fun hs_ => hs_.2.2.2.1) (fun hn_ => (Kd.freshB (g := gb864) (o := .cells #[.int .i64 0, .slice none 0 0] 55 (0, 0)) (y0 BK864.out) k_ hn_)), Or.elim hk_ (fun hs_ => hs_.2.2.2.2) (fun hn_ => (Kd.freshB (g := gb869) (o := .cells #[.slice Ao14 t865.length co14] 30 (0, 0)) (y0 BK869.out) k_ hn_))⟩)) (below_size (y7 HB.out GE863.out GE864.out GE869.out))); replace HO867 := Aside0.mk (Kd.N_below (y9 HO867.out) hb); replace BK863 := zbb BK863 hb; replace BK864 := zbb BK864 hb; replace BK869 := zbb BK869 hb; replace HB := Aside0.mk (below_step (y7 HB.out GE863.out GE864.out GE869.out) hb); (try clear hb); (try clear hb2); (try clear hk); (try clear hi); (try clear ho0)) | ((with_reducible refine gate_dst (N := 8) rfl ?_); refine zbx 8 #[.int .i64 0, .slice none 0 0] 55 ?_; intro gb875 hg w21 hbox hb; replace HO0_1 := Aside0.mk (Kd.V_below (Kd.V_elderB (y13 HO0_1.out) gb875 (Nat.le_of_eq hg.symm)) hb); replace HO867 := Aside0.mk (Kd.N_below (Kd.N_elderB (y9 HO867.out) gb875 (Nat.le_of_eq hg.symm)) hb); replace HO873 := Aside0.mk (Kd.V_below (Kd.V_elderB (y13 HO873.out) gb875 (Nat.le_of_eq hg.symm)) hb); have BK875 := Aside0.mk hbox; have GW875 := Aside0.mk ((y29 hg HB.out GE863.out GE864.out GE869.out : w.heap.size ≤ gb875)); have GE875 := Aside0.mk ((y29 hg HB.out GE863.out GE864.out GE869.out : w.heap.size ≤ gb875)); replace HB := Aside0.mk (below_step (y7 HB.out GE863.out GE864.out GE869.out) hb); have NB863_875 := zltn hg BK863; have NB875_863 := zgtn hg BK863; replace BK863 := zbb BK863 hb; have NB864_875 := zltn hg BK864; have NB875_864 := zgtn hg BK864; replace BK864 := zbb BK864 hb; have NB869_875 := zltn hg BK869; have NB875_869 := zgtn hg BK869; replace BK869 := zbb BK869 hb; clear hb hbox hg; have hnb22 := NB875_863.out; have hnc22 := NB863_875.out; have hnb23 := NB875_864.out; have hnc23 := NB864_875.out; have hnb24 := NB875_869.out; have hnc24 := NB869_875.out; have hcz25_0 := zh BK875; have hcz25_1 := zh1 BK875; have hfz25_0 := zfr BK875 0; have hfz25_1 := zfr BK875 1; obtain ⟨Ao26, co26, eo26⟩ := Kd.V_slice HO873.out; subst eo26) | ((with_reducible refine gate_callee (f := 75) rfl ?_); refine goesL_ (some 28) rfl rfl Try.func75 (by kernel_rfl) rfl #[.agg #[.int .i64 t870, .slice Ao26 t871.length co26]] rfl y4 ?_; (with_reducible refine (impl_valCopy.calls k t870 _ _ t871 t876 t877 _ ?side1 ?side2 A7.out).mono ?_); (case side1 => refine (Kd.V_reads' (e := 55) (base := w.heap.size) (ok := fun k_ => (((P0_1_ k_ ∨ w.heap.size ≤ k_) ∧ (some k_ ≠ (.slice Ao14 t865.length co14 : Value).ownBlock ∧ (k_ ≠ gb863 ∧ (k_ ≠ gb864 ∧ k_ ≠ gb869)))) ∧ k_ ≠ gb875)) (n := t871.length) (c := co26) ?_).2.2; exact (by (with_reducible repeat (first | apply Kd.V_alloc | apply Kd.V_drewN | apply Kd.V_drew)); exact (Kd.V_mono (Kd.V_far (p := ⟨gb875, 1, none⟩) (Kd.V_far (p := ⟨gb875, 0, none⟩) (Kd.V_mono HO873.out (fun k_ hk => (⟨hk, hk.2⟩ : _ ∧ k_ ≠ gb875))) (fun _ hk => hk.2) (.int .i64 t870)) (fun _ hk => hk.2) (.slice Ao26 t871.length co26)) (fun _ h_ => h_.1)))); (case side2 => exact (Kd.V_reads' HO873.out).2.1); rintro e w27 ⟨v878, rfl, ho0, hb⟩; refine ⟨_, rfl, ?_⟩; replace HO0_1 := Aside0.mk (Kd.V_elder' (by (with_reducible repeat (first | apply Kd.V_alloc | apply Kd.V_drewN | apply Kd.V_drew)); exact (Kd.V_mono (Kd.V_far (p := ⟨gb875, 1, none⟩) (Kd.V_far (p := ⟨gb875, 0, none⟩) (Kd.V_mono HO0_1.out (fun k_ hk => (⟨hk, hk.2⟩ : _ ∧ k_ ≠ gb875))) (fun _ hk => hk.2) (.int .i64 t870)) (fun _ hk => hk.2) (.slice Ao26 t871.length co26)) (fun _ h_ => h_.1))) (Kd.N_base ho0) hb); replace HO873 := Aside0.mk (Kd.V_elder' (by (with_reducible repeat (first | apply Kd.V_alloc | apply Kd.V_drewN | apply Kd.V_drew)); exact (Kd.V_mono (Kd.V_far (p := ⟨gb875, 1, none⟩) (Kd.V_far (p := ⟨gb875, 0, none⟩) (Kd.V_mono HO873.out (fun k_ hk => (⟨hk, hk.2⟩ : _ ∧ k_ ≠ gb875))) (fun _ hk => hk.2) (.int .i64 t870)) (fun _ hk => hk.2) (.slice Ao26 t871.length co26)) (fun _ h_ => h_.1))) (Kd.N_base ho0) hb); have HO879 := Aside0.mk (Kd.N_lower (Kd.N_mono (ok' := fun k_ => (P0_1_ k_ ∨ w.heap.size ≤ k_) ∧ some k_ ≠ (.slice Ao14 t865.length co14 : Value).ownBlock ∧ k_ ≠ gb863 ∧ k_ ≠ gb864 ∧ k_ ≠ gb869 ∧ k_ ≠ gb875) ho0 (fun k_ hk_ => ⟨(.inr (Nat.le_trans (below_size (y16 HB.out GE863.out GE864.out GE869.out GE875.out)) hk_)), (Kd.fresh' (Kd.N_lt (by (with_reducible repeat (first | apply Kd.N_alloc | apply Kd.N_drewN | apply Kd.N_drew)); exact (Kd.N_mono (Kd.N_far (p := ⟨gb875, 1, none⟩) (Kd.N_far (p := ⟨gb875, 0, none⟩) (Kd.N_mono HO867.out (fun k_ hk => (⟨hk, hk.2⟩ : _ ∧ k_ ≠ gb875))) (fun _ hk => hk.2) (.int .i64 t870)) (fun _ hk => hk.2) (.slice Ao26 t871.length co26)) (fun _ h_ => h_.1)))) k_ hk_), (Kd.freshB (g := gb863) (o := .cells #[.int .i64 a0_0, .slice A0_1 l0_1.length c0_1] 55 (0, 0)) (y17 NB863_875.out BK863.out) k_ hk_), (Kd.freshB (g := gb864) (o := .cells #[.int .i64 0, .slice none 0 0] 55 (0, 0)) (y17 NB864_875.out BK864.out) k_ hk_), (Kd.freshB (g := gb869) (o := .cells #[.slice Ao14 t865.length co14] 30 (0, 0)) (y17 NB869_875.out BK869.out) k_ hk_), (Kd.freshB (g := gb875) (o := .cells #[.int .i64 t870, .slice Ao26 t871.length co26] 55 (0, 0)) (by (with_reducible repeat (first | refine blk_drewN ?_ _ | refine blk_drew ?_ | refine blk_alloc ?_ _)); refine blk_put (cs := #[.int .i64 t870, .slice none 0 0]) ?_ 1 _ rfl; (with_reducible repeat (first | refine blk_drewN ?_ _ | refine blk_drew ?_ | refine blk_alloc ?_ _)); apply blk_put (i := 0); (case h => exact y0 BK875.out); (case e => rfl)) k_ hk_)⟩)) (below_size (y16 HB.out GE863.out GE864.out GE869.out GE875.out))); replace HO867 := Aside0.mk (Kd.N_elder' (by (with_reducible repeat (first | apply Kd.N_alloc | apply Kd.N_drewN | apply Kd.N_drew)); exact (Kd.N_mono (Kd.N_far (p := ⟨gb875, 1, none⟩) (Kd.N_far (p := ⟨gb875, 0, none⟩) (Kd.N_mono HO867.out (fun k_ hk => (⟨hk, hk.2⟩ : _ ∧ k_ ≠ gb875))) (fun _ hk => hk.2) (.int .i64 t870)) (fun _ hk => hk.2) (.slice Ao26 t871.length co26)) (fun _ h_ => h_.1))) (Kd.N_base ho0) hb); replace BK863 := Aside0.mk (blk_below (g := gb863) (o := .cells #[.int .i64 a0_0, .slice A0_1 l0_1.length c0_1] 55 (0, 0)) (y17 NB863_875.out BK863.out) hb); replace BK864 := Aside0.mk (blk_below (g := gb864) (o := .cells #[.int .i64 0, .slice none 0 0] 55 (0, 0)) (y17 NB864_875.out BK864.out) hb); replace BK869 := Aside0.mk (blk_below (g := gb869) (o := .cells #[.slice Ao14 t865.length co14] 30 (0, 0)) (y17 NB869_875.out BK869.out) hb); replace BK875 := Aside0.mk (blk_below (g := gb875) (o := .cells #[.int .i64 t870, .slice Ao26 t871.length co26] 55 (0, 0)) (by (with_reducible repeat (first | refine blk_drewN ?_ _ | refine blk_drew ?_ | refine blk_alloc ?_ _)); refine blk_put (cs := #[.int .i64 t870, .slice none 0 0]) ?_ 1 _ rfl; (with_reducible repeat (first | refine blk_drewN ?_ _ | refine blk_drew ?_ | refine blk_alloc ?_ _)); apply blk_put (i := 0); (case h => exact y0 BK875.out); (case e => rfl)) hb); replace HB := Aside0.mk (below_step (y16 HB.out GE863.out GE864.out GE869.out GE875.out) hb); (try clear hb); (try clear hb2); (try clear hk); (try clear hi); (try clear ho0); have hcz28_0 := zh BK864; have hcz28_1 := zh1 BK864; have hfz28_0 := zfr BK864 0; have hfz28_1 := zfr BK864 1; obtain ⟨Ao29, co29, eo29⟩ := Kd.N_slice HO879.out; subst eo29))
   refine bodyPost_ret (results_ct rfl _ _ gb864 55 #[.int .i64 t876, .slice Ao29 t877.length co29] (0, 0) _ rfl (by (with_reducible repeat (first | refine blk_drewN ?_ _ | refine blk_drew ?_ | refine blk_alloc ?_ _)); refine blk_put (cs := #[.int .i64 t876, .slice none 0 0]) ?_ 1 _ rfl; (with_reducible repeat (first | refine blk_drewN ?_ _ | refine blk_drew ?_ | refine blk_alloc ?_ _)); apply blk_put (i := 0); (case h => exact y0 BK864.out); (case e => rfl)) Try.underlying55 rfl (by kernel_rfl)) rfl ?_
   exact ⟨_, y14, (by (with_reducible repeat (first | apply Kd.N_alloc | apply Kd.N_drewN | apply Kd.N_drew)); exact Kd.N_mono (Kd.N_far (p := ⟨gb864, 1, none⟩) (Kd.N_far (p := ⟨gb864, 0, none⟩) (Kd.N_mono HO879.out (fun k_ hk => (⟨hk, hk.2.2.2.1⟩ : _ ∧ k_ ≠ gb864))) (fun _ hk => hk.2) (.int .i64 t876)) (fun _ hk => hk.2) (.slice Ao29 t877.length co29)) (fun _ hk => hk.1.1)), (y16 HB.out GE863.out GE864.out GE869.out GE875.out)⟩
  ·replace c6 := Bool.eq_false_iff.mpr c6
   subst c6
   rw [if_neg (show ¬ (false = true) by decide)] at H
   simp only [Option.some.injEq, Prod.mk.injEq] at H
   obtain ⟨rfl, rfl, rfl⟩ := H
   go_enter Try.func42, Try.ntmps42
   go_wp2_with (first | ((with_reducible refine gate_dst (N := 2) rfl ?_); refine zbx 2 #[.int .i64 a0_0, .slice A0_1 l0_1.length c0_1] 55 ?_; intro gb863 hg w30 hbox hb; replace HO0_1 := Aside0.mk (Kd.V_below (Kd.V_elderB (y13 HO0_1.out) gb863 (Nat.le_of_eq hg.symm)) hb); have BK863 := Aside0.mk hbox; have GW863 := Aside0.mk ((y5 hg HB.out : w.heap.size ≤ gb863)); have GE863 := Aside0.mk ((y5 hg HB.out : w.heap.size ≤ gb863)); replace HB := Aside0.mk (below_step (y2 HB.out) hb); clear hb hbox hg) | ((with_reducible refine gate_dst (N := 4) rfl ?_); refine zbx 4 #[.int .i64 0, .slice none 0 0] 55 ?_; intro gb864 hg w31 hbox hb; replace HO0_1 := Aside0.mk (Kd.V_below (Kd.V_elderB (y13 HO0_1.out) gb864 (Nat.le_of_eq hg.symm)) hb); have BK864 := Aside0.mk hbox; have GW864 := Aside0.mk ((y6 hg HB.out GE863.out : w.heap.size ≤ gb864)); have GE864 := Aside0.mk ((y6 hg HB.out GE863.out : w.heap.size ≤ gb864)); replace HB := Aside0.mk (below_step (y3 HB.out GE863.out) hb); have NB863_864 := zltn hg BK863; have NB864_863 := zgtn hg BK863; replace BK863 := zbb BK863 hb; clear hb hbox hg; have hnb32 := NB863_864.out; have hnc32 := NB864_863.out; have hcz33_0 := zh BK863; have hcz33_1 := zh1 BK863; have hfz33_0 := zfr BK863 0; have hfz33_1 := zfr BK863 1) | ((with_reducible refine gate_callee (f := 69) rfl ?_); refine goesL_ (some 12) rfl rfl Try.func69 (by kernel_rfl) rfl #[.agg #[.int .i64 a0_0, .slice A0_1 l0_1.length c0_1]] rfl y4 ?_; (with_reducible refine (impl_valTyped.calls k a0_0 _ _ l0_1 t865 true _ ?side1 ?side2 A3.out).mono ?_); (case side1 => exact y31 HO0_1.out); (case side2 => exact (Kd.V_reads' HO0_1.out).2.1); rintro e w34 ⟨v866, rfl, ho0, hb⟩; refine ⟨_, rfl, ?_⟩; replace HO0_1 := Aside0.mk (Kd.V_elder' (y13 HO0_1.out) (Kd.N_base ho0) hb); have HO867 := Aside0.mk (Kd.N_lower (Kd.N_mono (ok' := fun k_ => (P0_1_ k_ ∨ w.heap.size ≤ k_) ∧ k_ ≠ gb863 ∧ k_ ≠ gb864) ho0 (fun k_ hk_ => ⟨(.inr (Nat.le_trans (below_size (y1 HB.out GE863.out GE864.out)) hk_)), (Kd.freshB (g := gb863) (o := .cells #[.int .i64 a0_0, .slice A0_1 l0_1.length c0_1] 55 (0, 0)) (y0 BK863.out) k_ hk_), (Kd.freshB (g := gb864) (o := .cells #[.int .i64 0, .slice none 0 0] 55 (0, 0)) (y0 BK864.out) k_ hk_)⟩)) (below_size (y1 HB.out GE863.out GE864.out))); replace BK863 := zbb BK863 hb; replace BK864 := zbb BK864 hb; replace HB := Aside0.mk (below_step (y1 HB.out GE863.out GE864.out) hb); (try clear hb); (try clear hb2); (try clear hk); (try clear hi); (try clear ho0)) | ((with_reducible refine gate_dst (N := 6) rfl ?_); refine zbx 6 #[.slice none 0 0] 30 ?_; intro gb869 hg w35 hbox hb; replace HO0_1 := Aside0.mk (Kd.V_below (Kd.V_elderB (y13 HO0_1.out) gb869 (Nat.le_of_eq hg.symm)) hb); replace HO867 := Aside0.mk (Kd.N_below (Kd.N_elderB (y9 HO867.out) gb869 (Nat.le_of_eq hg.symm)) hb); have BK869 := Aside0.mk hbox; have GW869 := Aside0.mk ((y20 hg HB.out GE863.out GE864.out : w.heap.size ≤ gb869)); have GE869 := Aside0.mk ((y20 hg HB.out GE863.out GE864.out : w.heap.size ≤ gb869)); replace HB := Aside0.mk (below_step (y1 HB.out GE863.out GE864.out) hb); have NB863_869 := zltn hg BK863; have NB869_863 := zgtn hg BK863; replace BK863 := zbb BK863 hb; have NB864_869 := zltn hg BK864; have NB869_864 := zgtn hg BK864; replace BK864 := zbb BK864 hb; clear hb hbox hg; obtain ⟨Ao36, co36, eo36⟩ := Kd.N_slice HO867.out; subst eo36; have hnb37 := NB869_863.out; have hnc37 := NB863_869.out; have hnb38 := NB869_864.out; have hnc38 := NB864_869.out; have hcz39_0 := zh BK869; have hfz39_0 := zfr BK869 0) | ((with_reducible refine gate_store (t := 30) (p := 6) rfl ?_); refine store_event (t := 30) (p := 6) (v := ?vo_w40) (w1 := (w35.setCell ⟨gb869, 0, none⟩ (.slice Ao36 t865.length co36))) ?hg ?ho ?hn ?hr ?_; (case ho => rfl); (case hg => rfl); (case hn => rfl); (case hr => first | (go_simp; done) | (go_simp; rfl)); intro w40 hw; have n0_ : Aside0 (Kd.V k55 55 w40 w.heap.size (fun k_ => (P0_1_ k_ ∨ w.heap.size ≤ k_) ∧ some k_ ≠ (.slice Ao36 t865.length co36 : Value).ownBlock ∧ k_ ≠ gb863 ∧ k_ ≠ gb864 ∧ k_ ≠ gb869) (.slice A0_1 l0_1.length c0_1) l0_1) := ⟨(by rw [hw]; exact (by (with_reducible repeat (first | apply Kd.V_alloc | apply Kd.V_drewN | apply Kd.V_drew)); exact Kd.V_mono (Kd.V_far (p := ⟨gb869, 0, none⟩) (Kd.V_mono HO0_1.out (fun k_ hk => (⟨hk, hk.2⟩ : _ ∧ k_ ≠ gb869))) (fun _ hk => hk.2) (.slice Ao36 t865.length co36)) (fun _ hk => ⟨hk.1.1.1.1.1, ⟨hk.1.1.2, ⟨hk.1.1.1.1.2, ⟨hk.1.1.1.2, hk.1.2⟩⟩⟩⟩)))⟩; have n1_ : Aside0 (Kd.N k30 30 w40 w.heap.size (fun k_ => (P0_1_ k_ ∨ w.heap.size ≤ k_) ∧ k_ ≠ gb863 ∧ k_ ≠ gb864 ∧ k_ ≠ gb869) (.slice Ao36 t865.length co36) t865) := ⟨(by rw [hw]; exact (by (with_reducible repeat (first | apply Kd.N_alloc | apply Kd.N_drewN | apply Kd.N_drew)); exact Kd.N_mono (Kd.N_far (p := ⟨gb869, 0, none⟩) (Kd.N_mono HO867.out (fun k_ hk => (⟨hk, hk.2⟩ : _ ∧ k_ ≠ gb869))) (fun _ hk => hk.2) (.slice Ao36 t865.length co36)) (fun _ hk => ⟨hk.1.1.1, ⟨hk.1.1.2.1, ⟨hk.1.1.2.2, hk.1.2⟩⟩⟩)))⟩; have n2_ : Aside0 (w40.heap[gb863]? = some (.cells #[.int .i64 a0_0, .slice A0_1 l0_1.length c0_1] 55 (0, 0))) := ⟨(by rw [hw]; exact (y21 NB863_869.out BK863.out))⟩; have n3_ : Aside0 (w40.heap[gb864]? = some (.cells #[.int .i64 0, .slice none 0 0] 55 (0, 0))) := ⟨(by rw [hw]; exact (y21 NB864_869.out BK864.out))⟩; have n4_ : Aside0 (w40.heap[gb869]? = some (.cells #[.slice Ao36 t865.length co36] 30 (0, 0))) := ⟨(by rw [hw]; exact (by (with_reducible repeat (first | refine blk_drewN ?_ _ | refine blk_drew ?_ | refine blk_alloc ?_ _)); apply blk_put (i := 0); (case h => exact y0 BK869.out); (case e => rfl)))⟩; have n5_ : Aside0 (Below w.heap.size w w40) := ⟨(by rw [hw]; exact (y7 HB.out GE863.out GE864.out GE869.out))⟩; clear hw; clear HO0_1; clear HO867; clear BK863; clear BK864; clear BK869; clear HB; have HO0_1 := n0_; have HO867 := n1_; have BK863 := n2_; have BK864 := n3_; have BK869 := n4_; have HB := n5_; clear n0_ n1_ n2_ n3_ n4_ n5_; have hcz41_0 := zh BK863; have hcz41_1 := zh1 BK863; have hfz41_0 := zfr BK863 0; have hfz41_1 := zfr BK863 1) | ((with_reducible refine gate_callee (f := 74) rfl ?_); refine goesL_ (some 21) rfl rfl Try.func74 (by kernel_rfl) rfl #[.agg #[.int .i64 a0_0, .slice A0_1 l0_1.length c0_1], .slice A1 l1.length c1] rfl y4 ?_; (with_reducible refine (impl_Val.calls k a0_0 (fun k_ => ((P0_1_ k_ ∨ w.heap.size ≤ k_) ∧ (some k_ ≠ (.slice Ao36 t865.length co36 : Value).ownBlock ∧ (k_ ≠ gb863 ∧ (k_ ≠ gb864 ∧ k_ ≠ gb869))))) _ _ l0_1 _ _ l1 t870 t871 false _ ?side1 ?side2 ?side3 A5.out).mono ?_); (case side1 => exact HO0_1.out); (case side2 => exact y8 HR1.out HB.out); (case side3 => exact HC1.out); rintro e w42 ⟨v872, rfl, ho0, hb⟩; refine ⟨_, rfl, ?_⟩; replace HO0_1 := Aside0.mk (Kd.V_below (y13 HO0_1.out) hb); have HO873 := Aside0.mk (Kd.V_lower (Kd.V_mono (ok' := fun k_ => (P0_1_ k_ ∨ w.heap.size ≤ k_) ∧ some k_ ≠ (.slice Ao36 t865.length co36 : Value).ownBlock ∧ k_ ≠ gb863 ∧ k_ ≠ gb864 ∧ k_ ≠ gb869) ho0 (fun k_ hk_ => ⟨Or.elim hk_ (fun hs_ => hs_.1) (fun hn_ => (.inr (Nat.le_trans (below_size (y7 HB.out GE863.out GE864.out GE869.out)) hn_))), Or.elim hk_ (fun hs_ => hs_.2.1) (fun hn_ => (Kd.fresh' (Kd.N_lt (y9 HO867.out)) k_ hn_)), Or.elim hk_ (fun hs_ => hs_.2.2.1) (fun hn_ => (Kd.freshB (g := gb863) (o := .cells #[.int .i64 a0_0, .slice A0_1 l0_1.length c0_1] 55 (0, 0)) (y0 BK863.out) k_ hn_)), Or.elim hk_ (fun hs_ => hs_.2.2.2.1) (fun hn_ => (Kd.freshB (g := gb864) (o := .cells #[.int .i64 0, .slice none 0 0] 55 (0, 0)) (y0 BK864.out) k_ hn_)), Or.elim hk_ (fun hs_ => hs_.2.2.2.2) (fun hn_ => (Kd.freshB (g := gb869) (o := .cells #[.slice Ao36 t865.length co36] 30 (0, 0)) (y0 BK869.out) k_ hn_))⟩)) (below_size (y7 HB.out GE863.out GE864.out GE869.out))); replace HO867 := Aside0.mk (Kd.N_below (y9 HO867.out) hb); replace BK863 := zbb BK863 hb; replace BK864 := zbb BK864 hb; replace BK869 := zbb BK869 hb; replace HB := Aside0.mk (below_step (y7 HB.out GE863.out GE864.out GE869.out) hb); (try clear hb); (try clear hb2); (try clear hk); (try clear hi); (try clear ho0)) | ((with_reducible refine gate_dst (N := 8) rfl ?_); refine zbx 8 #[.int .i64 0, .slice none 0 0] 55 ?_; intro gb875 hg w43 hbox hb; replace HO0_1 := Aside0.mk (Kd.V_below (Kd.V_elderB (y13 HO0_1.out) gb875 (Nat.le_of_eq hg.symm)) hb); replace HO867 := Aside0.mk (Kd.N_below (Kd.N_elderB (y9 HO867.out) gb875 (Nat.le_of_eq hg.symm)) hb); replace HO873 := Aside0.mk (Kd.V_below (Kd.V_elderB (y13 HO873.out) gb875 (Nat.le_of_eq hg.symm)) hb); have BK875 := Aside0.mk hbox; have GW875 := Aside0.mk ((y29 hg HB.out GE863.out GE864.out GE869.out : w.heap.size ≤ gb875)); have GE875 := Aside0.mk ((y29 hg HB.out GE863.out GE864.out GE869.out : w.heap.size ≤ gb875)); replace HB := Aside0.mk (below_step (y7 HB.out GE863.out GE864.out GE869.out) hb); have NB863_875 := zltn hg BK863; have NB875_863 := zgtn hg BK863; replace BK863 := zbb BK863 hb; have NB864_875 := zltn hg BK864; have NB875_864 := zgtn hg BK864; replace BK864 := zbb BK864 hb; have NB869_875 := zltn hg BK869; have NB875_869 := zgtn hg BK869; replace BK869 := zbb BK869 hb; clear hb hbox hg; have hnb44 := NB875_863.out; have hnc44 := NB863_875.out; have hnb45 := NB875_864.out; have hnc45 := NB864_875.out; have hnb46 := NB875_869.out; have hnc46 := NB869_875.out; have hcz47_0 := zh BK875; have hcz47_1 := zh1 BK875; have hfz47_0 := zfr BK875 0; have hfz47_1 := zfr BK875 1; obtain ⟨Ao48, co48, eo48⟩ := Kd.V_slice HO873.out; subst eo48; have hcz49_0 := zh BK864; have hcz49_1 := zh1 BK864; have hfz49_0 := zfr BK864 0; have hfz49_1 := zfr BK864 1))
   refine bodyPost_ret (results_ct rfl _ _ gb864 55 #[.int .i64 0, .slice none 0 0] (0, 0) _ rfl (by (with_reducible repeat (first | refine blk_drewN ?_ _ | refine blk_drew ?_ | refine blk_alloc ?_ _)); refine blk_put (cs := #[.int .i64 0, .slice none 0 0]) ?_ 1 _ rfl; (with_reducible repeat (first | refine blk_drewN ?_ _ | refine blk_drew ?_ | refine blk_alloc ?_ _)); refine blk_put (cs := #[.int .i64 0, .slice none 0 0]) ?_ 0 _ rfl; (with_reducible repeat (first | refine blk_drewN ?_ _ | refine blk_drew ?_ | refine blk_alloc ?_ _)); refine blk_far ?_ NB864_875.out _; (with_reducible repeat (first | refine blk_drewN ?_ _ | refine blk_drew ?_ | refine blk_alloc ?_ _)); refine blk_far ?_ NB864_875.out _; (with_reducible repeat (first | refine blk_drewN ?_ _ | refine blk_drew ?_ | refine blk_alloc ?_ _)); exact BK864.out) Try.underlying55 rfl (by kernel_rfl)) rfl ?_
   exact ⟨_, y14, y36, (y16 HB.out GE863.out GE864.out GE869.out GE875.out)⟩
 ·replace c4 := Bool.eq_false_iff.mpr c4
  subst c4
  rw [if_neg (show ¬ (false = true) by decide)] at H
  simp only [Option.some.injEq, Prod.mk.injEq] at H
  obtain ⟨rfl, rfl, rfl⟩ := H
  go_enter Try.func42, Try.ntmps42
  go_wp2_with (first | ((with_reducible refine gate_dst (N := 2) rfl ?_); refine zbx 2 #[.int .i64 a0_0, .slice A0_1 l0_1.length c0_1] 55 ?_; intro gb863 hg w50 hbox hb; replace HO0_1 := Aside0.mk (Kd.V_below (Kd.V_elderB (y13 HO0_1.out) gb863 (Nat.le_of_eq hg.symm)) hb); have BK863 := Aside0.mk hbox; have GW863 := Aside0.mk ((y5 hg HB.out : w.heap.size ≤ gb863)); have GE863 := Aside0.mk ((y5 hg HB.out : w.heap.size ≤ gb863)); replace HB := Aside0.mk (below_step (y2 HB.out) hb); clear hb hbox hg) | ((with_reducible refine gate_dst (N := 4) rfl ?_); refine zbx 4 #[.int .i64 0, .slice none 0 0] 55 ?_; intro gb864 hg w51 hbox hb; replace HO0_1 := Aside0.mk (Kd.V_below (Kd.V_elderB (y13 HO0_1.out) gb864 (Nat.le_of_eq hg.symm)) hb); have BK864 := Aside0.mk hbox; have GW864 := Aside0.mk ((y6 hg HB.out GE863.out : w.heap.size ≤ gb864)); have GE864 := Aside0.mk ((y6 hg HB.out GE863.out : w.heap.size ≤ gb864)); replace HB := Aside0.mk (below_step (y3 HB.out GE863.out) hb); have NB863_864 := zltn hg BK863; have NB864_863 := zgtn hg BK863; replace BK863 := zbb BK863 hb; clear hb hbox hg; have hnb52 := NB863_864.out; have hnc52 := NB864_863.out; have hcz53_0 := zh BK863; have hcz53_1 := zh1 BK863; have hfz53_0 := zfr BK863 0; have hfz53_1 := zfr BK863 1) | ((with_reducible refine gate_callee (f := 69) rfl ?_); refine goesL_ (some 12) rfl rfl Try.func69 (by kernel_rfl) rfl #[.agg #[.int .i64 a0_0, .slice A0_1 l0_1.length c0_1]] rfl y4 ?_; (with_reducible refine (impl_valTyped.calls k a0_0 _ _ l0_1 t865 false _ ?side1 ?side2 A3.out).mono ?_); (case side1 => exact y31 HO0_1.out); (case side2 => exact (Kd.V_reads' HO0_1.out).2.1); rintro e w54 ⟨v866, rfl, ho0, hb⟩; refine ⟨_, rfl, ?_⟩; replace HO0_1 := Aside0.mk (Kd.V_elder' (y13 HO0_1.out) (Kd.N_base ho0) hb); have HO867 := Aside0.mk (Kd.N_lower (Kd.N_mono (ok' := fun k_ => (P0_1_ k_ ∨ w.heap.size ≤ k_) ∧ k_ ≠ gb863 ∧ k_ ≠ gb864) ho0 (fun k_ hk_ => ⟨(.inr (Nat.le_trans (below_size (y1 HB.out GE863.out GE864.out)) hk_)), (Kd.freshB (g := gb863) (o := .cells #[.int .i64 a0_0, .slice A0_1 l0_1.length c0_1] 55 (0, 0)) (y0 BK863.out) k_ hk_), (Kd.freshB (g := gb864) (o := .cells #[.int .i64 0, .slice none 0 0] 55 (0, 0)) (y0 BK864.out) k_ hk_)⟩)) (below_size (y1 HB.out GE863.out GE864.out))); replace BK863 := zbb BK863 hb; replace BK864 := zbb BK864 hb; replace HB := Aside0.mk (below_step (y1 HB.out GE863.out GE864.out) hb); (try clear hb); (try clear hb2); (try clear hk); (try clear hi); (try clear ho0)) | ((with_reducible refine gate_dst (N := 6) rfl ?_); refine zbx 6 #[.slice none 0 0] 30 ?_; intro gb869 hg w55 hbox hb; replace HO0_1 := Aside0.mk (Kd.V_below (Kd.V_elderB (y13 HO0_1.out) gb869 (Nat.le_of_eq hg.symm)) hb); replace HO867 := Aside0.mk (Kd.N_below (Kd.N_elderB (y9 HO867.out) gb869 (Nat.le_of_eq hg.symm)) hb); have BK869 := Aside0.mk hbox; have GW869 := Aside0.mk ((y20 hg HB.out GE863.out GE864.out : w.heap.size ≤ gb869)); have GE869 := Aside0.mk ((y20 hg HB.out GE863.out GE864.out : w.heap.size ≤ gb869)); replace HB := Aside0.mk (below_step (y1 HB.out GE863.out GE864.out) hb); have NB863_869 := zltn hg BK863; have NB869_863 := zgtn hg BK863; replace BK863 := zbb BK863 hb; have NB864_869 := zltn hg BK864; have NB869_864 := zgtn hg BK864; replace BK864 := zbb BK864 hb; clear hb hbox hg; obtain ⟨Ao56, co56, eo56⟩ := Kd.N_slice HO867.out; subst eo56; have hnb57 := NB869_863.out; have hnc57 := NB863_869.out; have hnb58 := NB869_864.out; have hnc58 := NB864_869.out; have hcz59_0 := zh BK869; have hfz59_0 := zfr BK869 0; have hcz60_0 := zh BK864; have hcz60_1 := zh1 BK864; have hfz60_0 := zfr BK864 0; have hfz60_1 := zfr BK864 1))
  refine bodyPost_ret (results_ct rfl _ _ gb864 55 #[.int .i64 0, .slice none 0 0] (0, 0) _ rfl (by (with_reducible repeat (first | refine blk_drewN ?_ _ | refine blk_drew ?_ | refine blk_alloc ?_ _)); refine blk_put (cs := #[.int .i64 0, .slice none 0 0]) ?_ 1 _ rfl; (with_reducible repeat (first | refine blk_drewN ?_ _ | refine blk_drew ?_ | refine blk_alloc ?_ _)); refine blk_put (cs := #[.int .i64 0, .slice none 0 0]) ?_ 0 _ rfl; (with_reducible repeat (first | refine blk_drewN ?_ _ | refine blk_drew ?_ | refine blk_alloc ?_ _)); refine blk_far ?_ NB864_869.out _; (with_reducible repeat (first | refine blk_drewN ?_ _ | refine blk_drew ?_ | refine blk_alloc ?_ _)); exact BK864.out) Try.underlying55 rfl (by kernel_rfl)) rfl ?_
  exact ⟨_, y14, y36, (y7 HB.out GE863.out GE864.out GE869.out)⟩
end Go.Proofs.Ytjhbhihfifhljaa.PA
end
