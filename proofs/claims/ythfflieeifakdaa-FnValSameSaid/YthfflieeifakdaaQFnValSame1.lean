-- Ythfflieeifakdaa's texts for the statement FnValSame, one behind the other (merge.py).
import Derived.Test.YthfflieeifakdaaQFnValSame0
section
namespace Go.Proofs.Ythfflieeifakdaa.PA
open Go.RowKit Go.Proofs.YthfflieeifakdaaW.PrintWords Go.Proofs.YthfflieeifakdaaW.PrintLast Go.Proofs.YthfflieeifakdaaW.PrintMore
attribute [local go_sem] max2_int min2_int max_two min_two max_three min_three max_four min_four
set_option linter.unusedVariables false
set_option linter.unusedSimpArgs false
def spec_l71Val.f : Nat → List Int → Int → List (S50) → Option (Int × (List (S25)) × Int)
 | 0, _, _, _ => none
 | k + 1, s0_0, s0_1, l1_0 => if (l1_0.length : Int) = 0 then ((some (([0, 1, 2, 3, 7, 50, 9999] : List Int) : List Int)).bind fun y125 => ((spec_l6Rd_pick.f k s0_0 s0_1 7).bind fun bt128 => (if 0 ≤ bt128.1 then (if bt128.1 < (y125.length : Int) then (some (rd y125 bt128.1, ([] : List (S25)), bt128.2)) else (none)) else (none)))) else (if 0 < (l1_0.length : Int) then ((spec_l71Val.f k s0_0 s0_1 ((rd_T50 l1_0 0).f0)).bind fun bt132 => (if 1 < (l1_0.length : Int) then ((spec_l71Val.f k s0_0 bt132.2.2 ((rd_T50 l1_0 1).f0)).bind fun bt138 => (some (0, (([(⟨bt132.1, bt132.2.1⟩ : S25), (⟨bt138.1, bt138.2.1⟩ : S25)] : List (S25))), bt138.2.2))) else (none))) else (none))
theorem spec_l71Val.mono_l : ∀ k, (∀ y0 y1 y2, LeO (spec_l71Val.f k y0 y1 y2) (spec_l71Val.f (k + 1) y0 y1 y2))
 | 0 => fun _ _ _ r h => by simp [spec_l71Val.f] at h
 | k + 1 => by
  have ih0 := spec_l71Val.mono_l k
  ·intro y0 y1 y2
   unfold spec_l71Val.f
   repeat' first
   | (with_reducible exact ih0 _ _ _)
   | (with_reducible exact spec_l6Rd_pick.mono _ _ _ _)
   | (with_reducible exact LeO.refl _)
   | (with_reducible exact LeO.none _)
   | (with_reducible refine LeO.ite ?_ ?_)
   | (with_reducible refine LeO.bind ?_ (fun _ => ?_))
   | exact ih0 _ _ _
   | exact spec_l6Rd_pick.mono _ _ _ _
   | exact LeO.none _
   | refine LeO.ite ?_ ?_
   | refine LeO.bind ?_ (fun _ => ?_)
theorem spec_l71Val.mono : ∀ a0 a1 a2 k, LeO (spec_l71Val.f k a0 a1 a2) (spec_l71Val.f (k + 1) a0 a1 a2) := by
 intro a0 a1 a2 k
 have ih0 := spec_l71Val.mono_l k
 exact ih0 a0 a1 a2
def spec_l71Val.T3 : Bool × List (List Nat × List Nat) := (true, [([], []), ([], []), ([1], [1]), ([2], [2]), ([3], [3]), ([0, 4], [0, 4]), ([], []), ([], []), ([7], [7]), ([8], [8]), ([9], [9]), ([6, 10, 5], [6, 10]), ([5, 11], [5, 11]), ([12], [12]), ([13, 11, 0, 1, 2, 3, 4, 5, 6, 7, 8, 9, 10, 11, 12, 13], [13])])
def spec_l71Val.B3 : List Nat := [0, 0, 2, 6, 14, 31, 0, 0, 128, 384, 896, 2047, 4095, 8191, 16383]
theorem spec_l71Val.tab3 : rtab .any (opsOf Try.f55 3) = spec_l71Val.T3 := by kernel_rfl
theorem spec_l71Val.bits3 : waitsOk spec_l71Val.T3.2 spec_l71Val.B3 = true := by kernel_rfl
set_option maxHeartbeats 8000000 in
set_option maxRecDepth 100000 in
theorem spec_l71Val.calls (k : Nat) : ∀ (g : Nat) (s0_0 : List Int) (s0_1 : Int) (P1_0_ : Nat → Prop) (A1_0 : Option Addr) (c1_0 : Nat) (l1_0 : List (S50)) (r1 : Int) (r2 : List (S25)) (r3 : Int) (w0 w : World) (hI : IsS75 w0 w g s0_0 s0_1) (hB : Below w0.heap.size w0 w) (hs1_0 : Kd.V k50 50 w w.heap.size (fun k_ => P1_0_ k_ ∧ k_ ≠ g) (.slice A1_0 l1_0.length c1_0) l1_0) (h : spec_l71Val.f k s0_0 s0_1 l1_0 = some (r1, r2, r3)),
  Calls Try.prog 55 #[.pointer (some ⟨g, 0, none⟩), .agg #[.slice A1_0 l1_0.length c1_0]] w fun e w' => ∃ v1_ : Value, e = .returned (.agg #[.int .i64 r1, v1_]) ∧ Kd.N k25 25 w' w.heap.size (fun k_ => (P1_0_ k_ ∨ w.heap.size ≤ k_)) v1_ r2 ∧ IsS75 w0 w' g s0_0 r3 ∧ Below w0.heap.size w0 w' ∧ KeepBut w w' g none := by
 induction k using Nat.strongRecOn with
 | _ k ih =>
 intro g s0_0 s0_1 P1_0_ A1_0 c1_0 l1_0 r1 r2 r3 w0 w hI hB hs1_0 h
 cases k with
 | zero => exact absurd h (by simp [spec_l71Val.f])
 | succ k =>
 simp only [spec_l71Val.f] at h
 have hu50 := Try.underlying50
 have hu25 := Try.underlying25
 have HO1_0 := Aside0.mk (show Kd.V k50 50 w w.heap.size (fun k_ => (P1_0_ k_ ∨ w.heap.size ≤ k_) ∧ k_ ≠ g) (.slice A1_0 l1_0.length c1_0) l1_0 from Kd.V_mono hs1_0 (fun k_ hk => ⟨.inl hk.1, hk.2⟩))
 have HI0 := Aside0.mk hI
 have HK := Aside0.mk (KeepBut.refl w g none)
 have HL := Aside0.mk hB.size
 clear hI
 have HW0 := Aside0.mk hB.size
 have HB := Aside0.mk hB
 clear hB
 have H : (if (l1_0.length : Int) = 0 then ((some (([0, 1, 2, 3, 7, 50, 9999] : List Int) : List Int)).bind fun y125 => ((spec_l6Rd_pick.f k s0_0 s0_1 7).bind fun bt128 => (if 0 ≤ bt128.1 then (if bt128.1 < (y125.length : Int) then (some (rd y125 bt128.1, ([] : List (S25)), bt128.2)) else (none)) else (none)))) else (if 0 < (l1_0.length : Int) then ((spec_l71Val.f k s0_0 s0_1 ((rd_T50 l1_0 0).f0)).bind fun bt132 => (if 1 < (l1_0.length : Int) then ((spec_l71Val.f k s0_0 bt132.2.2 ((rd_T50 l1_0 1).f0)).bind fun bt138 => (some (0, (([(⟨bt132.1, bt132.2.1⟩ : S25), (⟨bt138.1, bt138.2.1⟩ : S25)] : List (S25))), bt138.2.2))) else (none))) else (none))) = some (r1, r2, r3) := h
 clear h
 by_cases c3 : (l1_0.length : Int) = 0
 ·rw [if_pos c3] at H
  have c3b0 : ((l1_0.length : Int) == 0) = true := beq_iff_eq.mpr c3
  have c3b1 : ((l1_0.length : Int) != 0) = false := bne_eq_false_iff_eq.mpr c3
  clear c3
  obtain ⟨y125, hy125⟩ : ∃ y_ : List Int, y_ = (([0, 1, 2, 3, 7, 50, 9999] : List Int)) := ⟨_, rfl⟩
  replace H : ((spec_l6Rd_pick.f k s0_0 s0_1 7).bind fun bt128 => (if 0 ≤ bt128.1 then (if bt128.1 < (y125.length : Int) then (some (rd y125 bt128.1, ([] : List (S25)), bt128.2)) else (none)) else (none))) = some (r1, r2, r3) := by first | (rw [hy125]; with_reducible exact H) | (have H2_ := (Option.bind_some _ _).symm.trans H; rw [hy125]; with_reducible exact H2_) | (have H2_ := (Option.bind_some _ _).symm.trans H; with_reducible exact H2_) | with_reducible exact H | (rw [hy125]; exact H) | exact H
  have Ny125 := Aside0.mk hy125
  clear hy125
  obtain ⟨⟨t128, t129⟩, A40, H⟩ := ob H
  have A4 := Aside0.mk A40
  clear A40
  by_cases c5 : 0 ≤ t128
  ·rw [if_pos c5] at H
   have c5b0 : decide (0 ≤ t128) = true := decide_eq_true c5
   clear c5
   by_cases c6 : t128 < (y125.length : Int)
   ·rw [if_pos c6] at H
    have c6b0 : decide (t128 < (y125.length : Int)) = true := decide_eq_true c6
    clear c6
    simp only [Option.some.injEq, Prod.mk.injEq] at H
    obtain ⟨rfl, rfl, rfl⟩ := H
    go_enter Try.func55, Try.ntmps55
    go_wp2_with (first | ((with_reducible refine gate_dst (N := 3) rfl ?_); refine zbx 3 #[.slice A1_0 l1_0.length c1_0] 50 ?_; intro gb123 hg w7 hbox hb; replace HO1_0 := Aside0.mk (Kd.V_below (Kd.V_elderB (y10 HO1_0.out) gb123 (Nat.le_of_eq hg.symm)) hb); replace HB := Aside0.mk (below_step (y40 HB.out HI0.out) hb); have BK123 := Aside0.mk hbox; have GW123 := Aside0.mk ((by rw [hg]; exact (keep_size (w := w) (g := g) (row := none) (y29 HK.out)) : w.heap.size ≤ gb123)); have GE123 := Aside0.mk ((Nat.le_trans HW0.out (by rw [hg]; exact (keep_size (w := w) (g := g) (row := none) (y29 HK.out)) : w.heap.size ≤ gb123) : w0.heap.size ≤ gb123)); replace HK := Aside0.mk (KeepBut.trans (y29 HK.out) (KeepBut.of_below hb g none) (.inl rfl)); have NB0_123 := Aside0.mk ((by rw [hg]; exact Nat.ne_of_lt (IsS75.lt (show IsS75 w0 _ g s0_0 s0_1 from by repeat (first | (with_reducible first | exact HI0.out | apply IsS75.alloc | apply IsS75.drewN | apply IsS75.drew | apply IsS75.set_1) | exact HI0.out))) : g ≠ gb123)); have NB123_0 := Aside0.mk ((by rw [hg]; exact Nat.ne_of_gt (IsS75.lt (show IsS75 w0 _ g s0_0 s0_1 from by repeat (first | (with_reducible first | exact HI0.out | apply IsS75.alloc | apply IsS75.drewN | apply IsS75.drew | apply IsS75.set_1) | exact HI0.out))) : gb123 ≠ g)); replace HI0 := Aside0.mk (IsS75.below (y41 HI0.out) hb); clear hb hbox hg) | ((with_reducible refine gate_dst (N := 4) rfl ?_); refine zbx 4 #[.int .i64 0, .slice none 0 0] 25 ?_; intro gb124 hg w8 hbox hb; replace HO1_0 := Aside0.mk (Kd.V_below (Kd.V_elderB (y10 HO1_0.out) gb124 (Nat.le_of_eq hg.symm)) hb); replace HB := Aside0.mk (below_step (y30 HB.out HI0.out GE123.out) hb); have BK124 := Aside0.mk hbox; have GW124 := Aside0.mk ((by rw [hg]; exact (keep_size (w := w) (g := g) (row := none) (y25 HK.out GW123.out)) : w.heap.size ≤ gb124)); have GE124 := Aside0.mk ((Nat.le_trans HW0.out (by rw [hg]; exact (keep_size (w := w) (g := g) (row := none) (y25 HK.out GW123.out)) : w.heap.size ≤ gb124) : w0.heap.size ≤ gb124)); replace HK := Aside0.mk (KeepBut.trans (y25 HK.out GW123.out) (KeepBut.of_below hb g none) (.inl rfl)); have NB123_124 := zltn hg BK123; have NB124_123 := zgtn hg BK123; replace BK123 := zbb BK123 hb; have NB0_124 := Aside0.mk ((by rw [hg]; exact Nat.ne_of_lt (IsS75.lt (show IsS75 w0 _ g s0_0 s0_1 from by repeat (first | (with_reducible first | exact HI0.out | apply IsS75.alloc | apply IsS75.drewN | apply IsS75.drew | apply IsS75.set_1 | refine IsS75.far ?_ NB0_123.out _) | exact HI0.out))) : g ≠ gb124)); have NB124_0 := Aside0.mk ((by rw [hg]; exact Nat.ne_of_gt (IsS75.lt (show IsS75 w0 _ g s0_0 s0_1 from by repeat (first | (with_reducible first | exact HI0.out | apply IsS75.alloc | apply IsS75.drewN | apply IsS75.drew | apply IsS75.set_1 | refine IsS75.far ?_ NB0_123.out _) | exact HI0.out))) : gb124 ≠ g)); replace HI0 := Aside0.mk (IsS75.below (y31 HI0.out NB0_123.out) hb); clear hb hbox hg; have hnb9 := NB123_124.out; have hnc9 := NB124_123.out; have hnb10 := NB123_0.out; have hnc10 := NB0_123.out; have hcz11_0 := zh BK123; have hfz11_0 := zfr BK123 0) | ((with_reducible refine gate_dst (N := 9) rfl ?_); refine Kd.R_lit (Kd.int .i64) _ 3 ?hg (N := 9) ?hd (xs := ([0, 1, 2, 3, 7, 50, 9999] : List Int)) (inner := [.int .i64 0, .int .i64 1, .int .i64 2, .int .i64 3, .int .i64 7, .int .i64 50, .int .i64 9999]) (ok := fun _ => True) (okp := fun _ => True) ?hr ?hp (fun _ hk => hk) trivial (Below.refl _ _) (Nat.le_refl _) (by simp) ?_; (case hd => rfl); (case hg => rfl); (case hr => first | (go_simp; done) | (go_simp; rfl)); (case hp => exact (Reps.one (show Kd.M (Kd.int .i64) _ _ _ 0 [.int .i64 0] from rfl) (Reps.one (show Kd.M (Kd.int .i64) _ _ _ 1 [.int .i64 1] from rfl) (Reps.one (show Kd.M (Kd.int .i64) _ _ _ 2 [.int .i64 2] from rfl) (Reps.one (show Kd.M (Kd.int .i64) _ _ _ 3 [.int .i64 3] from rfl) (Reps.one (show Kd.M (Kd.int .i64) _ _ _ 7 [.int .i64 7] from rfl) (Reps.one (show Kd.M (Kd.int .i64) _ _ _ 50 [.int .i64 50] from rfl) (Reps.one (show Kd.M (Kd.int .i64) _ _ _ 9999 [.int .i64 9999] from rfl) (Reps.none _ _))))))))); intro v126 w12 ho13 hb hg_ hnew_; clear hg_ hnew_; (first | rw [← Ny125.out] at ho13 | (simp only [Int.reduceToNat] at ho13; rw [← Ny125.out] at ho13)); replace HO1_0 := Aside0.mk (Kd.V_elder' (y10 HO1_0.out) (Kd.R_base ho13) hb); have HO127 := Aside0.mk (Kd.R_lower (Kd.R_newM (M := fun k_ => (w.heap.size ≤ k_)) ho13 (keep_size (w := w) (g := g) (row := none) (y18 HK.out GW123.out GW124.out)) (fun k_ h_ => h_)) (keep_size (w := w) (g := g) (row := none) (y18 HK.out GW123.out GW124.out))); replace BK123 := zbb BK123 hb; replace BK124 := zbb BK124 hb; replace HK := Aside0.mk (KeepBut.trans (y18 HK.out GW123.out GW124.out) (KeepBut.of_below hb g none) (.inl rfl)); replace HB := Aside0.mk (below_step (y17 HB.out HI0.out GE123.out GE124.out) hb); replace HI0 := Aside0.mk (IsS75.below (y21 HI0.out NB0_123.out NB0_124.out) hb); clear hb ho13) | ((with_reducible refine gate_callee (f := 32) rfl ?_); refine goesL_ (some 11) rfl rfl Try.func32 (by kernel_rfl) rfl #[.pointer (some ⟨g, 0, none⟩), .int .i64 7] rfl y8 ?_; (with_reducible refine (spec_l6Rd_pick.calls k g s0_0 s0_1 7 t128 t129 w0 _ ?side1 ?side2 A4.out).mono ?_); (case side1 => exact y21 HI0.out NB0_123.out NB0_124.out); (case side2 => exact y17 HB.out HI0.out GE123.out GE124.out); rintro e w14 ⟨rfl, hi, hb, hk⟩; refine ⟨_, rfl, ?_⟩; replace HO1_0 := Aside0.mk (Kd.V_mono (Kd.V_keep (Kd.V_mono (ok := fun k_ => ((((((P1_0_ k_ ∨ w.heap.size ≤ k_)) ∧ k_ ≠ g) ∧ k_ ≠ gb123) ∧ k_ ≠ gb124) ∧ some k_ ≠ (v126 : Value).ownBlock)) (y10 HO1_0.out) (fun k_ hk_ => (⟨hk_, hk_.1.1.1.2⟩ : _ ∧ k_ ≠ g))) hk (fun _ h => h.2)) (fun _ h => h.1)); replace BK123 := Aside0.mk (KeepBut.blk hk (g' := gb123) (o := .cells #[.slice A1_0 l1_0.length c1_0] 50 (0, 0)) (y0 BK123.out) NB123_0.out (by simp)); replace BK124 := Aside0.mk (KeepBut.blk hk (g' := gb124) (o := .cells #[.int .i64 0, .slice none 0 0] 25 (0, 0)) (y0 BK124.out) NB124_0.out (by simp)); replace HO127 := Aside0.mk (Kd.R_mono (Kd.R_keep (IsS75.apart (show IsS75 w0 _ g s0_0 s0_1 from by repeat (first | (with_reducible first | exact HI0.out | apply IsS75.alloc | apply IsS75.drewN | apply IsS75.drew | apply IsS75.set_1 | refine IsS75.far ?_ NB0_123.out _ | refine IsS75.far ?_ NB0_124.out _) | exact HI0.out)) (y12 HO127.out) (by decide)) hk (fun _ h => h.2)) (fun _ h => h.1)); replace HK := Aside0.mk (KeepBut.trans (y18 HK.out GW123.out GW124.out) hk (.inl rfl)); replace HB := Aside0.mk (hb); replace HI0 := Aside0.mk (hi); (try clear hb); (try clear hb2); (try clear hk); (try clear hi); obtain ⟨Ao15, co15, eo15⟩ := Kd.R_slice HO127.out; subst eo15; have p130 : 0 ≤ (t128 : Int) := of_decide_eq_true y23; have q130 : t128 < (y125.length : Int) := of_decide_eq_true y23; obtain ⟨ad130, e130, hx130_0⟩ := Kd.at_int (Kd.R_reads' HO127.out).2.2 t128 p130 q130; cases e130; replace p130 := eq_true p130; replace q130 := eq_true q130; have hnb16 := NB124_0.out; have hnc16 := NB0_124.out; have hcz17_0 := zh BK124; have hcz17_1 := zh1 BK124; have hfz17_0 := zfr BK124 0; have hfz17_1 := zfr BK124 1))
    refine bodyPost_ret (results_cell_row rfl _ _ gb124 25 #[.int .i64 (rd y125 t128), .slice none 0 0] (0, 0) _ rfl (by (with_reducible repeat (first | refine blk_drewN ?_ _ | refine blk_drew ?_ | refine blk_alloc ?_ _)); refine blk_put (cs := #[.int .i64 (rd y125 t128), .slice none 0 0]) ?_ 1 _ rfl; (with_reducible repeat (first | refine blk_drewN ?_ _ | refine blk_drew ?_ | refine blk_alloc ?_ _)); apply blk_put (i := 0); (case h => exact y0 BK124.out); (case e => rfl)) Try.underlying25 rfl (by kernel_rfl)) rfl ?_
    exact ⟨_, y19, y37, (y21 HI0.out NB0_123.out NB0_124.out), (y17 HB.out HI0.out GE123.out GE124.out), (y18 HK.out GW123.out GW124.out)⟩
   ·rw [if_neg c6] at H
    exact absurd H (by simp)
  ·rw [if_neg c5] at H
   exact absurd H (by simp)
 ·rw [if_neg c3] at H
  have c3b0 : ((l1_0.length : Int) == 0) = false := beq_eq_false_iff_ne.mpr c3
  have c3b1 : ((l1_0.length : Int) != 0) = true := bne_iff_ne.mpr c3
  have c3b2 : ¬ (l1_0 = []) := fun h_ => c3 (by rw [h_]; rfl)
  by_cases c18 : 0 < (l1_0.length : Int)
  ·rw [if_pos c18] at H
   have c18b0 : decide (0 < (l1_0.length : Int)) = true := decide_eq_true c18
   have c18b1 : decide (0 < l1_0.length) = true := decide_eq_true (by omega)
   clear c18
   obtain ⟨⟨t132, t133, t136⟩, A190, H⟩ := ob H
   have A19 := Aside0.mk A190
   clear A190
   by_cases c20 : 1 < (l1_0.length : Int)
   ·rw [if_pos c20] at H
    have c20b0 : decide (1 < (l1_0.length : Int)) = true := decide_eq_true c20
    have c20b1 : decide (1 < l1_0.length) = true := decide_eq_true (by omega)
    clear c20
    obtain ⟨⟨t138, t139, t142⟩, A210, H⟩ := ob H
    have A21 := Aside0.mk A210
    clear A210
    obtain ⟨y143, hy143⟩ : ∃ y_ : List (S25), y_ = (([(⟨t132, t133⟩ : S25), (⟨t138, t139⟩ : S25)] : List (S25))) := ⟨_, rfl⟩
    replace H : (some (0, y143, t142)) = some (r1, r2, r3) := by first | (rw [hy143]; with_reducible exact H) | (have H2_ := (Option.bind_some _ _).symm.trans H; rw [hy143]; with_reducible exact H2_) | (have H2_ := (Option.bind_some _ _).symm.trans H; with_reducible exact H2_) | with_reducible exact H | (rw [hy143]; exact H) | exact H
    have Ny143 := Aside0.mk hy143
    clear hy143
    simp only [Option.some.injEq, Prod.mk.injEq] at H
    obtain ⟨rfl, rfl, rfl⟩ := H
    go_enter Try.func55, Try.ntmps55
    try go_wp2_with (first | ((with_reducible refine gate_dst (N := 3) rfl ?_); refine zbx 3 #[.slice A1_0 l1_0.length c1_0] 50 ?_; intro gb123 hg w22 hbox hb; replace HO1_0 := Aside0.mk (Kd.V_below (Kd.V_elderB (y10 HO1_0.out) gb123 (Nat.le_of_eq hg.symm)) hb); replace HB := Aside0.mk (below_step (y40 HB.out HI0.out) hb); have BK123 := Aside0.mk hbox; have GW123 := Aside0.mk ((by rw [hg]; exact (keep_size (w := w) (g := g) (row := none) (y29 HK.out)) : w.heap.size ≤ gb123)); have GE123 := Aside0.mk ((Nat.le_trans HW0.out (by rw [hg]; exact (keep_size (w := w) (g := g) (row := none) (y29 HK.out)) : w.heap.size ≤ gb123) : w0.heap.size ≤ gb123)); replace HK := Aside0.mk (KeepBut.trans (y29 HK.out) (KeepBut.of_below hb g none) (.inl rfl)); have NB0_123 := Aside0.mk ((by rw [hg]; exact Nat.ne_of_lt (IsS75.lt (show IsS75 w0 _ g s0_0 s0_1 from by repeat (first | (with_reducible first | exact HI0.out | apply IsS75.alloc | apply IsS75.drewN | apply IsS75.drew | apply IsS75.set_1) | exact HI0.out))) : g ≠ gb123)); have NB123_0 := Aside0.mk ((by rw [hg]; exact Nat.ne_of_gt (IsS75.lt (show IsS75 w0 _ g s0_0 s0_1 from by repeat (first | (with_reducible first | exact HI0.out | apply IsS75.alloc | apply IsS75.drewN | apply IsS75.drew | apply IsS75.set_1) | exact HI0.out))) : gb123 ≠ g)); replace HI0 := Aside0.mk (IsS75.below (y41 HI0.out) hb); clear hb hbox hg) | ((with_reducible refine gate_dst (N := 4) rfl ?_); refine zbx 4 #[.int .i64 0, .slice none 0 0] 25 ?_; intro gb124 hg w23 hbox hb; replace HO1_0 := Aside0.mk (Kd.V_below (Kd.V_elderB (y10 HO1_0.out) gb124 (Nat.le_of_eq hg.symm)) hb); replace HB := Aside0.mk (below_step (y30 HB.out HI0.out GE123.out) hb); have BK124 := Aside0.mk hbox; have GW124 := Aside0.mk ((by rw [hg]; exact (keep_size (w := w) (g := g) (row := none) (y25 HK.out GW123.out)) : w.heap.size ≤ gb124)); have GE124 := Aside0.mk ((Nat.le_trans HW0.out (by rw [hg]; exact (keep_size (w := w) (g := g) (row := none) (y25 HK.out GW123.out)) : w.heap.size ≤ gb124) : w0.heap.size ≤ gb124)); replace HK := Aside0.mk (KeepBut.trans (y25 HK.out GW123.out) (KeepBut.of_below hb g none) (.inl rfl)); have NB123_124 := zltn hg BK123; have NB124_123 := zgtn hg BK123; replace BK123 := zbb BK123 hb; have NB0_124 := Aside0.mk ((by rw [hg]; exact Nat.ne_of_lt (IsS75.lt (show IsS75 w0 _ g s0_0 s0_1 from by repeat (first | (with_reducible first | exact HI0.out | apply IsS75.alloc | apply IsS75.drewN | apply IsS75.drew | apply IsS75.set_1 | refine IsS75.far ?_ NB0_123.out _) | exact HI0.out))) : g ≠ gb124)); have NB124_0 := Aside0.mk ((by rw [hg]; exact Nat.ne_of_gt (IsS75.lt (show IsS75 w0 _ g s0_0 s0_1 from by repeat (first | (with_reducible first | exact HI0.out | apply IsS75.alloc | apply IsS75.drewN | apply IsS75.drew | apply IsS75.set_1 | refine IsS75.far ?_ NB0_123.out _) | exact HI0.out))) : gb124 ≠ g)); replace HI0 := Aside0.mk (IsS75.below (y31 HI0.out NB0_123.out) hb); clear hb hbox hg; have hnb24 := NB123_124.out; have hnc24 := NB124_123.out; have hnb25 := NB123_0.out; have hnc25 := NB0_123.out; have hcz26_0 := zh BK123; have hfz26_0 := zfr BK123 0))
    replace HO1_0 := Aside0.mk (Kd.V_drew HO1_0.out)
    replace BK123 := Aside0.mk (blk_drew BK123.out)
    replace BK124 := Aside0.mk (blk_drew BK124.out)
    replace HI0 := Aside0.mk (IsS75.drew HI0.out)
    replace HK := Aside0.mk (keep_drew HK.out)
    replace HB := Aside0.mk (below_drew1 HB.out)
    have p131 : 0 ≤ (0 : Int) := (by omega)
    have q131 : 0 < (l1_0.length : Int) := of_decide_eq_true y23
    obtain ⟨ad131, A131_0, c131_0, e131, hx131_0, hl131_0, hi131_0⟩ := at_T50 (Kd.V_reads' HO1_0.out).2.2 0 p131 q131
    cases e131
    obtain ⟨ce131, hce131, hMe131, hcc131⟩ := Kd.V_get HO1_0.out z50 0 p131 (by first | exact q131 | exact of_decide_eq_true y23 | (have e_ := (Kd.V_reads' HO1_0.out).1; omega))
    obtain ⟨ua131_0, uc131_0, rfl, ul131_0, ge131_0⟩ := k50_openF hMe131
    have hv131_0 := hcc131 0 _ rfl
    rw [Nat.add_zero, show (k50).sz = 1 from rfl, Nat.mul_one] at hv131_0
    replace hv131_0 := Option.some.inj (hv131_0.symm.trans hx131_0)
    injection hv131_0 with hva_ hvn_ hvc_
    rw [hva_] at ge131_0
    rw [hvc_] at ul131_0
    have HL131_0 := Aside0.mk (show Kd.V k50 50 _ w.heap.size _ _ ((rd_T50 l1_0 0).f0) from Kd.V_mk ul131_0 ge131_0)
    clear hva_ hvn_ hvc_ ge131_0 ul131_0
    clear hcc131 hce131
    have qi131 : (0 < l1_0.length) = True := eq_true (by omega)
    (try rw [show ((0 : Int)).toNat = 0 from rfl] at hx131_0)
    (try rw [Addr.add_zero'] at hx131_0)
    have HR131_0 := Aside0.mk hi131_0
    have HC131_0 := Aside0.mk hl131_0
    clear hi131_0 hl131_0
    replace p131 := eq_true p131
    replace q131 := eq_true q131
    have p137 : 0 ≤ (1 : Int) := (by omega)
    have q137 : 1 < (l1_0.length : Int) := of_decide_eq_true y23
    obtain ⟨ad137, A137_0, c137_0, e137, hx137_0, hl137_0, hi137_0⟩ := at_T50 (Kd.V_reads' HO1_0.out).2.2 1 p137 q137
    obtain rfl : ad131 = ad137 := (by injection e137)
    obtain ⟨ce137, hce137, hMe137, hcc137⟩ := Kd.V_get HO1_0.out z50 1 p137 (by first | exact q137 | exact of_decide_eq_true y23 | (have e_ := (Kd.V_reads' HO1_0.out).1; omega))
    obtain ⟨ua137_0, uc137_0, rfl, ul137_0, ge137_0⟩ := k50_openF hMe137
    have hv137_0 := hcc137 0 _ rfl
    rw [Nat.add_zero, show (k50).sz = 1 from rfl, Nat.mul_one] at hv137_0
    replace hv137_0 := Option.some.inj (hv137_0.symm.trans hx137_0)
    injection hv137_0 with hva_ hvn_ hvc_
    rw [hva_] at ge137_0
    rw [hvc_] at ul137_0
    have HL137_0 := Aside0.mk (show Kd.V k50 50 _ w.heap.size _ _ ((rd_T50 l1_0 1).f0) from Kd.V_mk ul137_0 ge137_0)
    clear hva_ hvn_ hvc_ ge137_0 ul137_0
    clear hcc137 hce137
    (try simp only [show (1 : Int).toNat = 1 from rfl, Nat.reduceMul, Nat.reduceEqDiff, Go.Addr.add, ↓reduceIte] at hx137_0)
    have qi137 : (1 < l1_0.length) = True := eq_true (by omega)
    (try rw [show ((1 : Int)).toNat = 1 from rfl] at hx137_0)
    have HR137_0 := Aside0.mk hi137_0
    have HC137_0 := Aside0.mk hl137_0
    clear hi137_0 hl137_0
    replace p137 := eq_true p137
    replace q137 := eq_true q137
    refine start_ (n := 15) (S := fun w' => w'.cell? ⟨gb123, 0, none⟩ = some (.slice (some ad131) l1_0.length c1_0) ∧ w'.cell? ad131 = some (.slice A131_0 ((rd_T50 l1_0 0).f0).length c131_0) ∧ w'.cell? ⟨ad131.block, ad131.off + 1, none⟩ = some (.slice A137_0 ((rd_T50 l1_0 1).f0).length c137_0)) (ds := []) #[false, false, false, false, false, false, false, false, false, false, false, false, false, false, false] (by kernel_rfl) rfl rfl ⟨(blk_cell BK123.out 0).trans rfl, hx131_0, hx137_0⟩ (fun hHeld => ?_); refine with_tabW spec_l71Val.tab3 spec_l71Val.bits3 (fun HT_ HW_ => ?_)
    generalize w23.drew = w27 at HO1_0 BK123 BK124 HI0 HK HB HL131_0 HL137_0 HR131_0 HR137_0 hx131_0 hx137_0 hHeld ⊢
    refine zp 0 (some 15) HT_ ?_
    refine zp 1 (some 16) HT_ ?_
    refine zp 6 (some 21) HT_ ?_
    refine zp 7 (some 22) HT_ ?_
    refine zt3 2 (some 17) HT_ HW_ hHeld ?_
    refine zp 3 (some 18) HT_ ?_
    refine zt3 4 (some 19) HT_ HW_ hHeld ?_
    refine zt3 8 (some 23) HT_ HW_ hHeld ?_
    refine zp 9 (some 24) HT_ ?_
    refine zt3 10 (some 25) HT_ HW_ hHeld ?_
    refine one_ (i := 5) (N := some 20) #[true, true, true, true, true, true, true, true, true, true, true, false, false, false, false] rfl rfl (one_of HT_.out (by kernel_rfl)) (by decide) (fun K hK => ?_)
    refine goes_ Try.func55 (by kernel_rfl) rfl #[.pointer (some ⟨g, 0, none⟩), .agg #[.slice A131_0 ((rd_T50 l1_0 0).f0).length c131_0]] (by rfl) rfl rfl y8 ?_
    with_reducible refine (ih k (by omega) g s0_0 s0_1 (fun k_ => ((((P1_0_ k_ ∨ w.heap.size ≤ k_) ∧ k_ ≠ g) ∧ k_ ≠ gb123) ∧ k_ ≠ gb124)) _ _ ((rd_T50 l1_0 0).f0) t132 t133 t136 w0 _ ?side1 ?side2 ?side3 A19.out).mono ?_
    (case side1 => exact y21 HI0.out NB0_123.out NB0_124.out)
    (case side2 => exact y17 HB.out HI0.out GE123.out GE124.out)
    (case side3 => exact y94 HL131_0.out)
    rintro e w28 ⟨v134, rfl, ho0, hi, hb, hk⟩
    have HS1_ := keep_cell hk (hHeld.2.1) (by first | (rw [add_block]; exact (show _ from by have h_ := hf_V_in HO1_0.out (by have h0_ : (0 : Int) < (l1_0.length : Int) := (by first | exact of_eq_true (by assumption) | exact Int.lt_trans (by decide : (0 : Int) < 1) (of_eq_true (by assumption))); omega) (by decide); first | exact h_ | exact h_.1 | exact h_.2 | exact h_.1.1 | exact h_.1.2 | exact h_.2.1 | exact h_.2.2 | exact h_.1.1.1 | exact h_.1.1.2 | exact h_.1.2.1 | exact h_.1.2.2 | exact h_.2.1.1 | exact h_.2.1.2 | exact h_.2.2.1 | exact h_.2.2.2 | exact h_.1.1.1.1 | exact h_.1.1.1.2 | exact h_.1.1.2.1 | exact h_.1.1.2.2 | exact h_.1.2.1.1 | exact h_.1.2.1.2 | exact h_.1.2.2.1 | exact h_.1.2.2.2 | exact h_.2.1.1.1 | exact h_.2.1.1.2 | exact h_.2.1.2.1 | exact h_.2.1.2.2 | exact h_.2.2.1.1 | exact h_.2.2.1.2 | exact h_.2.2.2.1 | exact h_.2.2.2.2 | exact h_.1.1.1.1.1 | exact h_.1.1.1.1.2 | exact h_.1.1.1.2.1 | exact h_.1.1.1.2.2 | exact h_.1.1.2.1.1 | exact h_.1.1.2.1.2 | exact h_.1.1.2.2.1 | exact h_.1.1.2.2.2 | exact h_.1.2.1.1.1 | exact h_.1.2.1.1.2 | exact h_.1.2.1.2.1 | exact h_.1.2.1.2.2 | exact h_.1.2.2.1.1 | exact h_.1.2.2.1.2 | exact h_.1.2.2.2.1 | exact h_.1.2.2.2.2 | exact h_.2.1.1.1.1 | exact h_.2.1.1.1.2 | exact h_.2.1.1.2.1 | exact h_.2.1.1.2.2 | exact h_.2.1.2.1.1 | exact h_.2.1.2.1.2 | exact h_.2.1.2.2.1 | exact h_.2.1.2.2.2 | exact h_.2.2.1.1.1 | exact h_.2.2.1.1.2 | exact h_.2.2.1.2.1 | exact h_.2.2.1.2.2 | exact h_.2.2.2.1.1 | exact h_.2.2.2.1.2 | exact h_.2.2.2.2.1 | exact h_.2.2.2.2.2)) | (show (Addr.add _ _).block ≠ _; rw [add_block]; exact (show _ from by have h_ := hf_V_in HO1_0.out (by have h0_ : (0 : Int) < (l1_0.length : Int) := (by first | exact of_eq_true (by assumption) | exact Int.lt_trans (by decide : (0 : Int) < 1) (of_eq_true (by assumption))); omega) (by decide); first | exact h_ | exact h_.1 | exact h_.2 | exact h_.1.1 | exact h_.1.2 | exact h_.2.1 | exact h_.2.2 | exact h_.1.1.1 | exact h_.1.1.2 | exact h_.1.2.1 | exact h_.1.2.2 | exact h_.2.1.1 | exact h_.2.1.2 | exact h_.2.2.1 | exact h_.2.2.2 | exact h_.1.1.1.1 | exact h_.1.1.1.2 | exact h_.1.1.2.1 | exact h_.1.1.2.2 | exact h_.1.2.1.1 | exact h_.1.2.1.2 | exact h_.1.2.2.1 | exact h_.1.2.2.2 | exact h_.2.1.1.1 | exact h_.2.1.1.2 | exact h_.2.1.2.1 | exact h_.2.1.2.2 | exact h_.2.2.1.1 | exact h_.2.2.1.2 | exact h_.2.2.2.1 | exact h_.2.2.2.2 | exact h_.1.1.1.1.1 | exact h_.1.1.1.1.2 | exact h_.1.1.1.2.1 | exact h_.1.1.1.2.2 | exact h_.1.1.2.1.1 | exact h_.1.1.2.1.2 | exact h_.1.1.2.2.1 | exact h_.1.1.2.2.2 | exact h_.1.2.1.1.1 | exact h_.1.2.1.1.2 | exact h_.1.2.1.2.1 | exact h_.1.2.1.2.2 | exact h_.1.2.2.1.1 | exact h_.1.2.2.1.2 | exact h_.1.2.2.2.1 | exact h_.1.2.2.2.2 | exact h_.2.1.1.1.1 | exact h_.2.1.1.1.2 | exact h_.2.1.1.2.1 | exact h_.2.1.1.2.2 | exact h_.2.1.2.1.1 | exact h_.2.1.2.1.2 | exact h_.2.1.2.2.1 | exact h_.2.1.2.2.2 | exact h_.2.2.1.1.1 | exact h_.2.2.1.1.2 | exact h_.2.2.1.2.1 | exact h_.2.2.1.2.2 | exact h_.2.2.2.1.1 | exact h_.2.2.2.1.2 | exact h_.2.2.2.2.1 | exact h_.2.2.2.2.2)) | exact (show _ from by have h_ := hf_V_in HO1_0.out (by have h0_ : (0 : Int) < (l1_0.length : Int) := (by first | exact of_eq_true (by assumption) | exact Int.lt_trans (by decide : (0 : Int) < 1) (of_eq_true (by assumption))); omega) (by decide); first | exact h_ | exact h_.1 | exact h_.2 | exact h_.1.1 | exact h_.1.2 | exact h_.2.1 | exact h_.2.2 | exact h_.1.1.1 | exact h_.1.1.2 | exact h_.1.2.1 | exact h_.1.2.2 | exact h_.2.1.1 | exact h_.2.1.2 | exact h_.2.2.1 | exact h_.2.2.2 | exact h_.1.1.1.1 | exact h_.1.1.1.2 | exact h_.1.1.2.1 | exact h_.1.1.2.2 | exact h_.1.2.1.1 | exact h_.1.2.1.2 | exact h_.1.2.2.1 | exact h_.1.2.2.2 | exact h_.2.1.1.1 | exact h_.2.1.1.2 | exact h_.2.1.2.1 | exact h_.2.1.2.2 | exact h_.2.2.1.1 | exact h_.2.2.1.2 | exact h_.2.2.2.1 | exact h_.2.2.2.2 | exact h_.1.1.1.1.1 | exact h_.1.1.1.1.2 | exact h_.1.1.1.2.1 | exact h_.1.1.1.2.2 | exact h_.1.1.2.1.1 | exact h_.1.1.2.1.2 | exact h_.1.1.2.2.1 | exact h_.1.1.2.2.2 | exact h_.1.2.1.1.1 | exact h_.1.2.1.1.2 | exact h_.1.2.1.2.1 | exact h_.1.2.1.2.2 | exact h_.1.2.2.1.1 | exact h_.1.2.2.1.2 | exact h_.1.2.2.2.1 | exact h_.1.2.2.2.2 | exact h_.2.1.1.1.1 | exact h_.2.1.1.1.2 | exact h_.2.1.1.2.1 | exact h_.2.1.1.2.2 | exact h_.2.1.2.1.1 | exact h_.2.1.2.1.2 | exact h_.2.1.2.2.1 | exact h_.2.1.2.2.2 | exact h_.2.2.1.1.1 | exact h_.2.2.1.1.2 | exact h_.2.2.1.2.1 | exact h_.2.2.1.2.2 | exact h_.2.2.2.1.1 | exact h_.2.2.2.1.2 | exact h_.2.2.2.2.1 | exact h_.2.2.2.2.2))
    have HS2_ := keep_cell hk (hHeld.2.2) (by first | (rw [add_block]; exact (show _ from by have h_ := hf_V_in HO1_0.out (by have h0_ : (0 : Int) < (l1_0.length : Int) := (by first | exact of_eq_true (by assumption) | exact Int.lt_trans (by decide : (0 : Int) < 1) (of_eq_true (by assumption))); omega) (by decide); first | exact h_ | exact h_.1 | exact h_.2 | exact h_.1.1 | exact h_.1.2 | exact h_.2.1 | exact h_.2.2 | exact h_.1.1.1 | exact h_.1.1.2 | exact h_.1.2.1 | exact h_.1.2.2 | exact h_.2.1.1 | exact h_.2.1.2 | exact h_.2.2.1 | exact h_.2.2.2 | exact h_.1.1.1.1 | exact h_.1.1.1.2 | exact h_.1.1.2.1 | exact h_.1.1.2.2 | exact h_.1.2.1.1 | exact h_.1.2.1.2 | exact h_.1.2.2.1 | exact h_.1.2.2.2 | exact h_.2.1.1.1 | exact h_.2.1.1.2 | exact h_.2.1.2.1 | exact h_.2.1.2.2 | exact h_.2.2.1.1 | exact h_.2.2.1.2 | exact h_.2.2.2.1 | exact h_.2.2.2.2 | exact h_.1.1.1.1.1 | exact h_.1.1.1.1.2 | exact h_.1.1.1.2.1 | exact h_.1.1.1.2.2 | exact h_.1.1.2.1.1 | exact h_.1.1.2.1.2 | exact h_.1.1.2.2.1 | exact h_.1.1.2.2.2 | exact h_.1.2.1.1.1 | exact h_.1.2.1.1.2 | exact h_.1.2.1.2.1 | exact h_.1.2.1.2.2 | exact h_.1.2.2.1.1 | exact h_.1.2.2.1.2 | exact h_.1.2.2.2.1 | exact h_.1.2.2.2.2 | exact h_.2.1.1.1.1 | exact h_.2.1.1.1.2 | exact h_.2.1.1.2.1 | exact h_.2.1.1.2.2 | exact h_.2.1.2.1.1 | exact h_.2.1.2.1.2 | exact h_.2.1.2.2.1 | exact h_.2.1.2.2.2 | exact h_.2.2.1.1.1 | exact h_.2.2.1.1.2 | exact h_.2.2.1.2.1 | exact h_.2.2.1.2.2 | exact h_.2.2.2.1.1 | exact h_.2.2.2.1.2 | exact h_.2.2.2.2.1 | exact h_.2.2.2.2.2)) | (show (Addr.add _ _).block ≠ _; rw [add_block]; exact (show _ from by have h_ := hf_V_in HO1_0.out (by have h0_ : (0 : Int) < (l1_0.length : Int) := (by first | exact of_eq_true (by assumption) | exact Int.lt_trans (by decide : (0 : Int) < 1) (of_eq_true (by assumption))); omega) (by decide); first | exact h_ | exact h_.1 | exact h_.2 | exact h_.1.1 | exact h_.1.2 | exact h_.2.1 | exact h_.2.2 | exact h_.1.1.1 | exact h_.1.1.2 | exact h_.1.2.1 | exact h_.1.2.2 | exact h_.2.1.1 | exact h_.2.1.2 | exact h_.2.2.1 | exact h_.2.2.2 | exact h_.1.1.1.1 | exact h_.1.1.1.2 | exact h_.1.1.2.1 | exact h_.1.1.2.2 | exact h_.1.2.1.1 | exact h_.1.2.1.2 | exact h_.1.2.2.1 | exact h_.1.2.2.2 | exact h_.2.1.1.1 | exact h_.2.1.1.2 | exact h_.2.1.2.1 | exact h_.2.1.2.2 | exact h_.2.2.1.1 | exact h_.2.2.1.2 | exact h_.2.2.2.1 | exact h_.2.2.2.2 | exact h_.1.1.1.1.1 | exact h_.1.1.1.1.2 | exact h_.1.1.1.2.1 | exact h_.1.1.1.2.2 | exact h_.1.1.2.1.1 | exact h_.1.1.2.1.2 | exact h_.1.1.2.2.1 | exact h_.1.1.2.2.2 | exact h_.1.2.1.1.1 | exact h_.1.2.1.1.2 | exact h_.1.2.1.2.1 | exact h_.1.2.1.2.2 | exact h_.1.2.2.1.1 | exact h_.1.2.2.1.2 | exact h_.1.2.2.2.1 | exact h_.1.2.2.2.2 | exact h_.2.1.1.1.1 | exact h_.2.1.1.1.2 | exact h_.2.1.1.2.1 | exact h_.2.1.1.2.2 | exact h_.2.1.2.1.1 | exact h_.2.1.2.1.2 | exact h_.2.1.2.2.1 | exact h_.2.1.2.2.2 | exact h_.2.2.1.1.1 | exact h_.2.2.1.1.2 | exact h_.2.2.1.2.1 | exact h_.2.2.1.2.2 | exact h_.2.2.2.1.1 | exact h_.2.2.2.1.2 | exact h_.2.2.2.2.1 | exact h_.2.2.2.2.2)) | exact (show _ from by have h_ := hf_V_in HO1_0.out (by have h0_ : (0 : Int) < (l1_0.length : Int) := (by first | exact of_eq_true (by assumption) | exact Int.lt_trans (by decide : (0 : Int) < 1) (of_eq_true (by assumption))); omega) (by decide); first | exact h_ | exact h_.1 | exact h_.2 | exact h_.1.1 | exact h_.1.2 | exact h_.2.1 | exact h_.2.2 | exact h_.1.1.1 | exact h_.1.1.2 | exact h_.1.2.1 | exact h_.1.2.2 | exact h_.2.1.1 | exact h_.2.1.2 | exact h_.2.2.1 | exact h_.2.2.2 | exact h_.1.1.1.1 | exact h_.1.1.1.2 | exact h_.1.1.2.1 | exact h_.1.1.2.2 | exact h_.1.2.1.1 | exact h_.1.2.1.2 | exact h_.1.2.2.1 | exact h_.1.2.2.2 | exact h_.2.1.1.1 | exact h_.2.1.1.2 | exact h_.2.1.2.1 | exact h_.2.1.2.2 | exact h_.2.2.1.1 | exact h_.2.2.1.2 | exact h_.2.2.2.1 | exact h_.2.2.2.2 | exact h_.1.1.1.1.1 | exact h_.1.1.1.1.2 | exact h_.1.1.1.2.1 | exact h_.1.1.1.2.2 | exact h_.1.1.2.1.1 | exact h_.1.1.2.1.2 | exact h_.1.1.2.2.1 | exact h_.1.1.2.2.2 | exact h_.1.2.1.1.1 | exact h_.1.2.1.1.2 | exact h_.1.2.1.2.1 | exact h_.1.2.1.2.2 | exact h_.1.2.2.1.1 | exact h_.1.2.2.1.2 | exact h_.1.2.2.2.1 | exact h_.1.2.2.2.2 | exact h_.2.1.1.1.1 | exact h_.2.1.1.1.2 | exact h_.2.1.1.2.1 | exact h_.2.1.1.2.2 | exact h_.2.1.2.1.1 | exact h_.2.1.2.1.2 | exact h_.2.1.2.2.1 | exact h_.2.1.2.2.2 | exact h_.2.2.1.1.1 | exact h_.2.2.1.1.2 | exact h_.2.2.1.2.1 | exact h_.2.2.1.2.2 | exact h_.2.2.2.1.1 | exact h_.2.2.2.1.2 | exact h_.2.2.2.2.1 | exact h_.2.2.2.2.2))
    refine ⟨_, rfl, ?_⟩
    replace HO1_0 := Aside0.mk (Kd.V_mono (Kd.V_told (Kd.V_oldK (Kd.V_mono (ok := fun k_ => (((((P1_0_ k_ ∨ w.heap.size ≤ k_)) ∧ k_ ≠ g) ∧ k_ ≠ gb123) ∧ k_ ≠ gb124)) (y10 HO1_0.out) (fun k_ hk_ => (⟨hk_, hk_.1.1.2⟩ : _ ∧ k_ ≠ g))) hk) (Kd.N_base ho0)) (fun _ h_ => h_.1))
    replace HL131_0 := Aside0.mk (Kd.V_mono (Kd.V_told (Kd.V_oldK (Kd.V_mono (ok := fun k_ => (((((P1_0_ k_ ∨ w.heap.size ≤ k_)) ∧ k_ ≠ g) ∧ k_ ≠ gb123) ∧ k_ ≠ gb124)) (y10 HL131_0.out) (fun k_ hk_ => (⟨hk_, hk_.1.1.2⟩ : _ ∧ k_ ≠ g))) hk) (Kd.N_base ho0)) (fun _ h_ => h_.1))
    replace HL137_0 := Aside0.mk (Kd.V_mono (Kd.V_told (Kd.V_oldK (Kd.V_mono (ok := fun k_ => (((((P1_0_ k_ ∨ w.heap.size ≤ k_)) ∧ k_ ≠ g) ∧ k_ ≠ gb123) ∧ k_ ≠ gb124)) (y10 HL137_0.out) (fun k_ hk_ => (⟨hk_, hk_.1.1.2⟩ : _ ∧ k_ ≠ g))) hk) (Kd.N_base ho0)) (fun _ h_ => h_.1))
    have HO135 := Aside0.mk (Kd.N_lower (Kd.N_mono (ok' := fun k_ => (P1_0_ k_ ∨ w.heap.size ≤ k_) ∧ k_ ≠ gb123 ∧ k_ ≠ gb124 ∧ k_ ≠ g) ho0 (fun k_ hk_ => ⟨Or.elim hk_ (fun hs_ => hs_.1.1.1) (fun hn_ => (.inr (Nat.le_trans (keep_size (w := w) (g := g) (row := none) (y18 HK.out GW123.out GW124.out)) hn_))), Or.elim hk_ (fun hs_ => hs_.1.2) (fun hn_ => (Kd.freshB (g := gb123) (o := .cells #[.slice (some ad131) l1_0.length c1_0] 50 (0, 0)) (y0 BK123.out) k_ hn_)), Or.elim hk_ (fun hs_ => hs_.2) (fun hn_ => (Kd.freshB (g := gb124) (o := .cells #[.int .i64 0, .slice none 0 0] 25 (0, 0)) (y0 BK124.out) k_ hn_)), Or.elim hk_ (fun hs_ => hs_.1.1.2) (fun hn_ => (IsS75.fresh (y21 HI0.out NB0_123.out NB0_124.out) k_ hn_))⟩)) (keep_size (w := w) (g := g) (row := none) (y18 HK.out GW123.out GW124.out)))
    replace BK123 := Aside0.mk (KeepBut.blk hk (g' := gb123) (o := .cells #[.slice (some ad131) l1_0.length c1_0] 50 (0, 0)) (y0 BK123.out) NB123_0.out (by simp))
    replace BK124 := Aside0.mk (KeepBut.blk hk (g' := gb124) (o := .cells #[.int .i64 0, .slice none 0 0] 25 (0, 0)) (y0 BK124.out) NB124_0.out (by simp))
    replace HK := Aside0.mk (KeepBut.trans (y18 HK.out GW123.out GW124.out) hk (.inl rfl))
    replace HB := Aside0.mk (hb)
    replace HI0 := Aside0.mk (hi)
    (try clear hb)
    (try clear hb2)
    (try clear hk)
    (try clear hi)
    (try clear ho0)
    refine hK.out _ _ ⟨(blk_cell BK123.out 0).trans rfl, HS1_, HS2_⟩ (fun hHeld => ?_)
    clear hK K
    refine norm_ (a' := ?_) ?_ ?_
    rotate_left
    ·show Act.put _ (some 20) _ = _
     simp only [Act.put, List.setIfInBounds_toArray, List.set_cons_zero, List.set_cons_succ, i64_w, i32_w]
     rfl
    refine one_ (i := 11) (N := some 26) #[true, true, true, true, true, true, true, true, true, true, true, true, false, false, false] rfl rfl (one_of HT_.out (by kernel_rfl)) (by decide) (fun K hK => ?_)
    refine goes_ Try.func55 (by kernel_rfl) rfl #[.pointer (some ⟨g, 0, none⟩), .agg #[.slice A137_0 ((rd_T50 l1_0 1).f0).length c137_0]] (by rfl) rfl rfl y8 ?_
    with_reducible refine (ih k (by omega) g s0_0 t136 (fun k_ => (((((P1_0_ k_ ∨ w.heap.size ≤ k_) ∧ k_ ≠ g) ∧ k_ ≠ gb123) ∧ k_ ≠ gb124) ∧ some k_ ≠ (v134 : Value).ownBlock)) _ _ ((rd_T50 l1_0 1).f0) t138 t139 t142 w0 _ ?side1 ?side2 ?side3 A21.out).mono ?_
    (case side1 => exact y21 HI0.out NB0_123.out NB0_124.out)
    (case side2 => exact y17 HB.out HI0.out GE123.out GE124.out)
    (case side3 => exact Kd.V_mono (HL137_0.out) (fun k_ hk_ => ⟨hk_, hk_.1.1.1.2⟩))
    rintro e w29 ⟨v140, rfl, ho0, hi, hb, hk⟩
    have HS1_ := keep_cell hk (hHeld.2.1) (by first | (rw [add_block]; exact (show _ from by have h_ := hf_V_in HO1_0.out (by have h0_ : (0 : Int) < (l1_0.length : Int) := (by first | exact of_eq_true (by assumption) | exact Int.lt_trans (by decide : (0 : Int) < 1) (of_eq_true (by assumption))); omega) (by decide); first | exact h_ | exact h_.1 | exact h_.2 | exact h_.1.1 | exact h_.1.2 | exact h_.2.1 | exact h_.2.2 | exact h_.1.1.1 | exact h_.1.1.2 | exact h_.1.2.1 | exact h_.1.2.2 | exact h_.2.1.1 | exact h_.2.1.2 | exact h_.2.2.1 | exact h_.2.2.2 | exact h_.1.1.1.1 | exact h_.1.1.1.2 | exact h_.1.1.2.1 | exact h_.1.1.2.2 | exact h_.1.2.1.1 | exact h_.1.2.1.2 | exact h_.1.2.2.1 | exact h_.1.2.2.2 | exact h_.2.1.1.1 | exact h_.2.1.1.2 | exact h_.2.1.2.1 | exact h_.2.1.2.2 | exact h_.2.2.1.1 | exact h_.2.2.1.2 | exact h_.2.2.2.1 | exact h_.2.2.2.2 | exact h_.1.1.1.1.1 | exact h_.1.1.1.1.2 | exact h_.1.1.1.2.1 | exact h_.1.1.1.2.2 | exact h_.1.1.2.1.1 | exact h_.1.1.2.1.2 | exact h_.1.1.2.2.1 | exact h_.1.1.2.2.2 | exact h_.1.2.1.1.1 | exact h_.1.2.1.1.2 | exact h_.1.2.1.2.1 | exact h_.1.2.1.2.2 | exact h_.1.2.2.1.1 | exact h_.1.2.2.1.2 | exact h_.1.2.2.2.1 | exact h_.1.2.2.2.2 | exact h_.2.1.1.1.1 | exact h_.2.1.1.1.2 | exact h_.2.1.1.2.1 | exact h_.2.1.1.2.2 | exact h_.2.1.2.1.1 | exact h_.2.1.2.1.2 | exact h_.2.1.2.2.1 | exact h_.2.1.2.2.2 | exact h_.2.2.1.1.1 | exact h_.2.2.1.1.2 | exact h_.2.2.1.2.1 | exact h_.2.2.1.2.2 | exact h_.2.2.2.1.1 | exact h_.2.2.2.1.2 | exact h_.2.2.2.2.1 | exact h_.2.2.2.2.2)) | (show (Addr.add _ _).block ≠ _; rw [add_block]; exact (show _ from by have h_ := hf_V_in HO1_0.out (by have h0_ : (0 : Int) < (l1_0.length : Int) := (by first | exact of_eq_true (by assumption) | exact Int.lt_trans (by decide : (0 : Int) < 1) (of_eq_true (by assumption))); omega) (by decide); first | exact h_ | exact h_.1 | exact h_.2 | exact h_.1.1 | exact h_.1.2 | exact h_.2.1 | exact h_.2.2 | exact h_.1.1.1 | exact h_.1.1.2 | exact h_.1.2.1 | exact h_.1.2.2 | exact h_.2.1.1 | exact h_.2.1.2 | exact h_.2.2.1 | exact h_.2.2.2 | exact h_.1.1.1.1 | exact h_.1.1.1.2 | exact h_.1.1.2.1 | exact h_.1.1.2.2 | exact h_.1.2.1.1 | exact h_.1.2.1.2 | exact h_.1.2.2.1 | exact h_.1.2.2.2 | exact h_.2.1.1.1 | exact h_.2.1.1.2 | exact h_.2.1.2.1 | exact h_.2.1.2.2 | exact h_.2.2.1.1 | exact h_.2.2.1.2 | exact h_.2.2.2.1 | exact h_.2.2.2.2 | exact h_.1.1.1.1.1 | exact h_.1.1.1.1.2 | exact h_.1.1.1.2.1 | exact h_.1.1.1.2.2 | exact h_.1.1.2.1.1 | exact h_.1.1.2.1.2 | exact h_.1.1.2.2.1 | exact h_.1.1.2.2.2 | exact h_.1.2.1.1.1 | exact h_.1.2.1.1.2 | exact h_.1.2.1.2.1 | exact h_.1.2.1.2.2 | exact h_.1.2.2.1.1 | exact h_.1.2.2.1.2 | exact h_.1.2.2.2.1 | exact h_.1.2.2.2.2 | exact h_.2.1.1.1.1 | exact h_.2.1.1.1.2 | exact h_.2.1.1.2.1 | exact h_.2.1.1.2.2 | exact h_.2.1.2.1.1 | exact h_.2.1.2.1.2 | exact h_.2.1.2.2.1 | exact h_.2.1.2.2.2 | exact h_.2.2.1.1.1 | exact h_.2.2.1.1.2 | exact h_.2.2.1.2.1 | exact h_.2.2.1.2.2 | exact h_.2.2.2.1.1 | exact h_.2.2.2.1.2 | exact h_.2.2.2.2.1 | exact h_.2.2.2.2.2)) | exact (show _ from by have h_ := hf_V_in HO1_0.out (by have h0_ : (0 : Int) < (l1_0.length : Int) := (by first | exact of_eq_true (by assumption) | exact Int.lt_trans (by decide : (0 : Int) < 1) (of_eq_true (by assumption))); omega) (by decide); first | exact h_ | exact h_.1 | exact h_.2 | exact h_.1.1 | exact h_.1.2 | exact h_.2.1 | exact h_.2.2 | exact h_.1.1.1 | exact h_.1.1.2 | exact h_.1.2.1 | exact h_.1.2.2 | exact h_.2.1.1 | exact h_.2.1.2 | exact h_.2.2.1 | exact h_.2.2.2 | exact h_.1.1.1.1 | exact h_.1.1.1.2 | exact h_.1.1.2.1 | exact h_.1.1.2.2 | exact h_.1.2.1.1 | exact h_.1.2.1.2 | exact h_.1.2.2.1 | exact h_.1.2.2.2 | exact h_.2.1.1.1 | exact h_.2.1.1.2 | exact h_.2.1.2.1 | exact h_.2.1.2.2 | exact h_.2.2.1.1 | exact h_.2.2.1.2 | exact h_.2.2.2.1 | exact h_.2.2.2.2 | exact h_.1.1.1.1.1 | exact h_.1.1.1.1.2 | exact h_.1.1.1.2.1 | exact h_.1.1.1.2.2 | exact h_.1.1.2.1.1 | exact h_.1.1.2.1.2 | exact h_.1.1.2.2.1 | exact h_.1.1.2.2.2 | exact h_.1.2.1.1.1 | exact h_.1.2.1.1.2 | exact h_.1.2.1.2.1 | exact h_.1.2.1.2.2 | exact h_.1.2.2.1.1 | exact h_.1.2.2.1.2 | exact h_.1.2.2.2.1 | exact h_.1.2.2.2.2 | exact h_.2.1.1.1.1 | exact h_.2.1.1.1.2 | exact h_.2.1.1.2.1 | exact h_.2.1.1.2.2 | exact h_.2.1.2.1.1 | exact h_.2.1.2.1.2 | exact h_.2.1.2.2.1 | exact h_.2.1.2.2.2 | exact h_.2.2.1.1.1 | exact h_.2.2.1.1.2 | exact h_.2.2.1.2.1 | exact h_.2.2.1.2.2 | exact h_.2.2.2.1.1 | exact h_.2.2.2.1.2 | exact h_.2.2.2.2.1 | exact h_.2.2.2.2.2))
    have HS2_ := keep_cell hk (hHeld.2.2) (by first | (rw [add_block]; exact (show _ from by have h_ := hf_V_in HO1_0.out (by have h0_ : (0 : Int) < (l1_0.length : Int) := (by first | exact of_eq_true (by assumption) | exact Int.lt_trans (by decide : (0 : Int) < 1) (of_eq_true (by assumption))); omega) (by decide); first | exact h_ | exact h_.1 | exact h_.2 | exact h_.1.1 | exact h_.1.2 | exact h_.2.1 | exact h_.2.2 | exact h_.1.1.1 | exact h_.1.1.2 | exact h_.1.2.1 | exact h_.1.2.2 | exact h_.2.1.1 | exact h_.2.1.2 | exact h_.2.2.1 | exact h_.2.2.2 | exact h_.1.1.1.1 | exact h_.1.1.1.2 | exact h_.1.1.2.1 | exact h_.1.1.2.2 | exact h_.1.2.1.1 | exact h_.1.2.1.2 | exact h_.1.2.2.1 | exact h_.1.2.2.2 | exact h_.2.1.1.1 | exact h_.2.1.1.2 | exact h_.2.1.2.1 | exact h_.2.1.2.2 | exact h_.2.2.1.1 | exact h_.2.2.1.2 | exact h_.2.2.2.1 | exact h_.2.2.2.2 | exact h_.1.1.1.1.1 | exact h_.1.1.1.1.2 | exact h_.1.1.1.2.1 | exact h_.1.1.1.2.2 | exact h_.1.1.2.1.1 | exact h_.1.1.2.1.2 | exact h_.1.1.2.2.1 | exact h_.1.1.2.2.2 | exact h_.1.2.1.1.1 | exact h_.1.2.1.1.2 | exact h_.1.2.1.2.1 | exact h_.1.2.1.2.2 | exact h_.1.2.2.1.1 | exact h_.1.2.2.1.2 | exact h_.1.2.2.2.1 | exact h_.1.2.2.2.2 | exact h_.2.1.1.1.1 | exact h_.2.1.1.1.2 | exact h_.2.1.1.2.1 | exact h_.2.1.1.2.2 | exact h_.2.1.2.1.1 | exact h_.2.1.2.1.2 | exact h_.2.1.2.2.1 | exact h_.2.1.2.2.2 | exact h_.2.2.1.1.1 | exact h_.2.2.1.1.2 | exact h_.2.2.1.2.1 | exact h_.2.2.1.2.2 | exact h_.2.2.2.1.1 | exact h_.2.2.2.1.2 | exact h_.2.2.2.2.1 | exact h_.2.2.2.2.2)) | (show (Addr.add _ _).block ≠ _; rw [add_block]; exact (show _ from by have h_ := hf_V_in HO1_0.out (by have h0_ : (0 : Int) < (l1_0.length : Int) := (by first | exact of_eq_true (by assumption) | exact Int.lt_trans (by decide : (0 : Int) < 1) (of_eq_true (by assumption))); omega) (by decide); first | exact h_ | exact h_.1 | exact h_.2 | exact h_.1.1 | exact h_.1.2 | exact h_.2.1 | exact h_.2.2 | exact h_.1.1.1 | exact h_.1.1.2 | exact h_.1.2.1 | exact h_.1.2.2 | exact h_.2.1.1 | exact h_.2.1.2 | exact h_.2.2.1 | exact h_.2.2.2 | exact h_.1.1.1.1 | exact h_.1.1.1.2 | exact h_.1.1.2.1 | exact h_.1.1.2.2 | exact h_.1.2.1.1 | exact h_.1.2.1.2 | exact h_.1.2.2.1 | exact h_.1.2.2.2 | exact h_.2.1.1.1 | exact h_.2.1.1.2 | exact h_.2.1.2.1 | exact h_.2.1.2.2 | exact h_.2.2.1.1 | exact h_.2.2.1.2 | exact h_.2.2.2.1 | exact h_.2.2.2.2 | exact h_.1.1.1.1.1 | exact h_.1.1.1.1.2 | exact h_.1.1.1.2.1 | exact h_.1.1.1.2.2 | exact h_.1.1.2.1.1 | exact h_.1.1.2.1.2 | exact h_.1.1.2.2.1 | exact h_.1.1.2.2.2 | exact h_.1.2.1.1.1 | exact h_.1.2.1.1.2 | exact h_.1.2.1.2.1 | exact h_.1.2.1.2.2 | exact h_.1.2.2.1.1 | exact h_.1.2.2.1.2 | exact h_.1.2.2.2.1 | exact h_.1.2.2.2.2 | exact h_.2.1.1.1.1 | exact h_.2.1.1.1.2 | exact h_.2.1.1.2.1 | exact h_.2.1.1.2.2 | exact h_.2.1.2.1.1 | exact h_.2.1.2.1.2 | exact h_.2.1.2.2.1 | exact h_.2.1.2.2.2 | exact h_.2.2.1.1.1 | exact h_.2.2.1.1.2 | exact h_.2.2.1.2.1 | exact h_.2.2.1.2.2 | exact h_.2.2.2.1.1 | exact h_.2.2.2.1.2 | exact h_.2.2.2.2.1 | exact h_.2.2.2.2.2)) | exact (show _ from by have h_ := hf_V_in HO1_0.out (by have h0_ : (0 : Int) < (l1_0.length : Int) := (by first | exact of_eq_true (by assumption) | exact Int.lt_trans (by decide : (0 : Int) < 1) (of_eq_true (by assumption))); omega) (by decide); first | exact h_ | exact h_.1 | exact h_.2 | exact h_.1.1 | exact h_.1.2 | exact h_.2.1 | exact h_.2.2 | exact h_.1.1.1 | exact h_.1.1.2 | exact h_.1.2.1 | exact h_.1.2.2 | exact h_.2.1.1 | exact h_.2.1.2 | exact h_.2.2.1 | exact h_.2.2.2 | exact h_.1.1.1.1 | exact h_.1.1.1.2 | exact h_.1.1.2.1 | exact h_.1.1.2.2 | exact h_.1.2.1.1 | exact h_.1.2.1.2 | exact h_.1.2.2.1 | exact h_.1.2.2.2 | exact h_.2.1.1.1 | exact h_.2.1.1.2 | exact h_.2.1.2.1 | exact h_.2.1.2.2 | exact h_.2.2.1.1 | exact h_.2.2.1.2 | exact h_.2.2.2.1 | exact h_.2.2.2.2 | exact h_.1.1.1.1.1 | exact h_.1.1.1.1.2 | exact h_.1.1.1.2.1 | exact h_.1.1.1.2.2 | exact h_.1.1.2.1.1 | exact h_.1.1.2.1.2 | exact h_.1.1.2.2.1 | exact h_.1.1.2.2.2 | exact h_.1.2.1.1.1 | exact h_.1.2.1.1.2 | exact h_.1.2.1.2.1 | exact h_.1.2.1.2.2 | exact h_.1.2.2.1.1 | exact h_.1.2.2.1.2 | exact h_.1.2.2.2.1 | exact h_.1.2.2.2.2 | exact h_.2.1.1.1.1 | exact h_.2.1.1.1.2 | exact h_.2.1.1.2.1 | exact h_.2.1.1.2.2 | exact h_.2.1.2.1.1 | exact h_.2.1.2.1.2 | exact h_.2.1.2.2.1 | exact h_.2.1.2.2.2 | exact h_.2.2.1.1.1 | exact h_.2.2.1.1.2 | exact h_.2.2.1.2.1 | exact h_.2.2.1.2.2 | exact h_.2.2.2.1.1 | exact h_.2.2.2.1.2 | exact h_.2.2.2.2.1 | exact h_.2.2.2.2.2))
    refine ⟨_, rfl, ?_⟩
    replace HO1_0 := Aside0.mk (Kd.V_mono (Kd.V_told (Kd.V_oldK (Kd.V_mono (ok := fun k_ => ((((((P1_0_ k_ ∨ w.heap.size ≤ k_)) ∧ k_ ≠ g) ∧ k_ ≠ gb123) ∧ k_ ≠ gb124) ∧ some k_ ≠ (v134 : Value).ownBlock)) (y10 HO1_0.out) (fun k_ hk_ => (⟨hk_, hk_.1.1.1.2⟩ : _ ∧ k_ ≠ g))) hk) (Kd.N_base ho0)) (fun _ h_ => h_.1))
    replace HL131_0 := Aside0.mk (Kd.V_mono (Kd.V_told (Kd.V_oldK (Kd.V_mono (ok := fun k_ => ((((((P1_0_ k_ ∨ w.heap.size ≤ k_)) ∧ k_ ≠ g) ∧ k_ ≠ gb123) ∧ k_ ≠ gb124) ∧ some k_ ≠ (v134 : Value).ownBlock)) (y10 HL131_0.out) (fun k_ hk_ => (⟨hk_, hk_.1.1.1.2⟩ : _ ∧ k_ ≠ g))) hk) (Kd.N_base ho0)) (fun _ h_ => h_.1))
    replace HL137_0 := Aside0.mk (Kd.V_mono (Kd.V_told (Kd.V_oldK (Kd.V_mono (ok := fun k_ => ((((((P1_0_ k_ ∨ w.heap.size ≤ k_)) ∧ k_ ≠ g) ∧ k_ ≠ gb123) ∧ k_ ≠ gb124) ∧ some k_ ≠ (v134 : Value).ownBlock)) (y10 HL137_0.out) (fun k_ hk_ => (⟨hk_, hk_.1.1.1.2⟩ : _ ∧ k_ ≠ g))) hk) (Kd.N_base ho0)) (fun _ h_ => h_.1))
    have HO141 := Aside0.mk (Kd.N_lower (Kd.N_mono (ok' := fun k_ => (P1_0_ k_ ∨ w.heap.size ≤ k_) ∧ some k_ ≠ (v134 : Value).ownBlock ∧ k_ ≠ gb123 ∧ k_ ≠ gb124 ∧ k_ ≠ g) ho0 (fun k_ hk_ => ⟨Or.elim hk_ (fun hs_ => hs_.1.1.1.1) (fun hn_ => (.inr (Nat.le_trans (keep_size (w := w) (g := g) (row := none) (y18 HK.out GW123.out GW124.out)) hn_))), Or.elim hk_ (fun hs_ => hs_.2) (fun hn_ => (Kd.fresh' (Kd.N_lt (y3 HO135.out)) k_ hn_)), Or.elim hk_ (fun hs_ => hs_.1.1.2) (fun hn_ => (Kd.freshB (g := gb123) (o := .cells #[.slice (some ad131) l1_0.length c1_0] 50 (0, 0)) (y0 BK123.out) k_ hn_)), Or.elim hk_ (fun hs_ => hs_.1.2) (fun hn_ => (Kd.freshB (g := gb124) (o := .cells #[.int .i64 0, .slice none 0 0] 25 (0, 0)) (y0 BK124.out) k_ hn_)), Or.elim hk_ (fun hs_ => hs_.1.1.1.2) (fun hn_ => (IsS75.fresh (y21 HI0.out NB0_123.out NB0_124.out) k_ hn_))⟩)) (keep_size (w := w) (g := g) (row := none) (y18 HK.out GW123.out GW124.out)))
    replace BK123 := Aside0.mk (KeepBut.blk hk (g' := gb123) (o := .cells #[.slice (some ad131) l1_0.length c1_0] 50 (0, 0)) (y0 BK123.out) NB123_0.out (by simp))
    replace BK124 := Aside0.mk (KeepBut.blk hk (g' := gb124) (o := .cells #[.int .i64 0, .slice none 0 0] 25 (0, 0)) (y0 BK124.out) NB124_0.out (by simp))
    replace HO135 := Aside0.mk (Kd.N_mono (Kd.N_told (Kd.N_oldK (Kd.N_mono (ok := fun k_ => (((P1_0_ k_ ∨ w.heap.size ≤ k_)) ∧ (k_ ≠ gb123 ∧ (k_ ≠ gb124 ∧ k_ ≠ g)))) (y3 HO135.out) (fun k_ hk_ => (⟨hk_, hk_.2.2.2⟩ : _ ∧ k_ ≠ g))) hk) (Kd.N_base ho0)) (fun _ h_ => h_.1))
    replace HK := Aside0.mk (KeepBut.trans (y18 HK.out GW123.out GW124.out) hk (.inl rfl))
    replace HB := Aside0.mk (hb)
    replace HI0 := Aside0.mk (hi)
    (try clear hb)
    (try clear hb2)
    (try clear hk)
    (try clear hi)
    (try clear ho0)
    obtain ⟨Ao30, co30, eo30⟩ := Kd.N_slice HO135.out
    (first | subst eo30 | (injection eo30 with f1_ f2_ f3_; have f4_ := f1_.symm; have f5_ := f3_.symm; clear f1_ f2_ f3_; subst f4_; subst f5_))
    obtain ⟨Ao31, co31, eo31⟩ := Kd.N_slice HO141.out
    (first | subst eo31 | (injection eo31 with f1_ f2_ f3_; have f4_ := f1_.symm; have f5_ := f3_.symm; clear f1_ f2_ f3_; subst f4_; subst f5_))
    refine hK.out _ _ ⟨(blk_cell BK123.out 0).trans rfl, HS1_, HS2_⟩ (fun hHeld => ?_)
    clear hK K
    refine norm_ (a' := ?_) ?_ ?_
    rotate_left
    ·show Act.put _ (some 26) _ = _
     simp only [Act.put, List.setIfInBounds_toArray, List.set_cons_zero, List.set_cons_succ, i64_w, i32_w]
     rfl
    refine one_ (i := 12) (N := some 27) #[true, true, true, true, true, true, true, true, true, true, true, true, true, false, false] rfl rfl (one_of HT_.out (by kernel_rfl)) (by decide) (fun K hK => ?_)
    refine Kd.N_lit_step k25 _ 25 ?hg (N' := 27) ?hd (xs := ([(⟨t132, t133⟩ : S25), (⟨t138, t139⟩ : S25)] : List (S25))) (inner := [.int .i64 t132, .slice Ao30 t133.length co30, .int .i64 t138, .slice Ao31 t139.length co31]) (ok := (fun k_ => (P1_0_ k_ ∨ w.heap.size ≤ k_) ∧ k_ ≠ gb123 ∧ k_ ≠ gb124 ∧ k_ ≠ g)) (okp := (fun k_ => (P1_0_ k_ ∨ w.heap.size ≤ k_) ∧ k_ ≠ gb123 ∧ k_ ≠ gb124 ∧ k_ ≠ g)) ?hr ?hp (fun _ hk => hk) ((show ∀ k_, w29.heap.size ≤ k_ → (fun k_ => (P1_0_ k_ ∨ w.heap.size ≤ k_) ∧ k_ ≠ gb123 ∧ k_ ≠ gb124 ∧ k_ ≠ g) k_ from fun k_ hk => ⟨(.inr (Nat.le_trans (keep_size (w := w) (g := g) (row := none) (y18 HK.out GW123.out GW124.out)) hk)), Kd.freshB (g := gb123) (o := .cells #[.slice (some ad131) l1_0.length c1_0] 50 (0, 0)) (y0 BK123.out) k_ hk, Kd.freshB (g := gb124) (o := .cells #[.int .i64 0, .slice none 0 0] 25 (0, 0)) (y0 BK124.out) k_ hk, IsS75.fresh (y21 HI0.out NB0_123.out NB0_124.out) k_ hk⟩) _ (Nat.le_refl _)) (Below.refl _ _) (Nat.le_refl _) (by simp) ?_; (case hd => rfl); (case hg => rfl); (case hr => first | (go_simp; done) | (go_simp; rfl)); (case hp => exact (Reps.c2 (show Kd.FK k25 _ _ (⟨t132, t133⟩ : S25) [.int .i64 t132, .slice Ao30 t133.length co30] from (k25_mkF _ _ (⟨t132, t133⟩ : S25) (Kd.N_reads' (Kd.N_mono (ok' := (fun k_ => (P1_0_ k_ ∨ w.heap.size ≤ k_) ∧ k_ ≠ gb123 ∧ k_ ≠ gb124 ∧ k_ ≠ g)) (HO135.out) (fun k_ hk => ⟨hk.1.1, ⟨hk.1.2.1, ⟨hk.1.2.2.1, hk.1.2.2.2⟩⟩⟩))).2.1 (Kd.N_F (Kd.N_mono (ok' := (fun k_ => (P1_0_ k_ ∨ w.heap.size ≤ k_) ∧ k_ ≠ gb123 ∧ k_ ≠ gb124 ∧ k_ ≠ g)) (HO135.out) (fun k_ hk => ⟨hk.1.1, ⟨hk.1.2.1, ⟨hk.1.2.2.1, hk.1.2.2.2⟩⟩⟩))))) (Reps.c2 (show Kd.FK k25 _ _ (⟨t138, t139⟩ : S25) [.int .i64 t138, .slice Ao31 t139.length co31] from (k25_mkF _ _ (⟨t138, t139⟩ : S25) (Kd.N_reads' (Kd.N_mono (ok' := (fun k_ => (P1_0_ k_ ∨ w.heap.size ≤ k_) ∧ k_ ≠ gb123 ∧ k_ ≠ gb124 ∧ k_ ≠ g)) (HO141.out) (fun k_ hk => ⟨hk.1, ⟨hk.2.2.1, ⟨hk.2.2.2.1, hk.2.2.2.2⟩⟩⟩))).2.1 (Kd.N_F (Kd.N_mono (ok' := (fun k_ => (P1_0_ k_ ∨ w.heap.size ≤ k_) ∧ k_ ≠ gb123 ∧ k_ ≠ gb124 ∧ k_ ≠ g)) (HO141.out) (fun k_ hk => ⟨hk.1, ⟨hk.2.2.1, ⟨hk.2.2.2.1, hk.2.2.2.2⟩⟩⟩))))) (Reps.none _ _))))
    intro v144 w32 ho33 hb hg_ hnew_
    have HS1_ := (hb.cell (World.block_lt_of_cell? _ _ (hHeld.2.1))).trans (hHeld.2.1)
    have HS2_ := (hb.cell (World.block_lt_of_cell? _ _ (hHeld.2.2))).trans (hHeld.2.2)
    clear hg_ hnew_
    (first | rw [← Ny143.out] at ho33 | (simp only [Int.reduceToNat] at ho33; rw [← Ny143.out] at ho33))
    replace HO1_0 := Aside0.mk (Kd.V_elder' (y10 HO1_0.out) (Kd.N_base ho33) hb)
    replace HL131_0 := Aside0.mk (Kd.V_elder' (y10 HL131_0.out) (Kd.N_base ho33) hb)
    replace HL137_0 := Aside0.mk (Kd.V_elder' (y10 HL137_0.out) (Kd.N_base ho33) hb)
    have HO145 := Aside0.mk (Kd.N_lower ho33 (keep_size (w := w) (g := g) (row := none) (y18 HK.out GW123.out GW124.out)))
    replace BK123 := zbb BK123 hb
    replace BK124 := zbb BK124 hb
    replace HK := Aside0.mk (KeepBut.trans (y18 HK.out GW123.out GW124.out) (KeepBut.of_below hb g none) (.inl rfl))
    replace HB := Aside0.mk (below_step (y17 HB.out HI0.out GE123.out GE124.out) hb)
    replace HI0 := Aside0.mk (IsS75.below (y21 HI0.out NB0_123.out NB0_124.out) hb)
    clear HO135 HO141
    clear hb ho33
    obtain ⟨Ao34, co34, eo34⟩ := Kd.N_slice HO145.out
    (first | subst eo34 | (injection eo34 with f1_ f2_ f3_; have f4_ := f1_.symm; have f5_ := f3_.symm; clear f1_ f2_ f3_; subst f4_; subst f5_))
    refine hK.out _ _ ⟨(blk_cell BK123.out 0).trans rfl, HS1_, HS2_⟩ (fun hHeld => ?_)
    clear hK K
    refine norm_ (a' := ?_) ?_ ?_
    rotate_left
    ·show Act.put _ (some 27) _ = _
     simp only [Act.put, List.setIfInBounds_toArray, List.set_cons_zero, List.set_cons_succ, i64_w, i32_w]
     rfl
    refine zp 13 (some 28) HT_ ?_
    refine one_ (i := 14) (N := none) #[true, true, true, true, true, true, true, true, true, true, true, true, true, true, true] rfl rfl (one_of HT_.out (by kernel_rfl)) (by decide) (fun K hK => ?_)
    have hs35 : w32.cell? ⟨gb124, 0, none⟩ = some (.int .i64 0) := (blk_cell BK124.out 0).trans rfl
    have hfs35 := zfr BK124 0
    have hns35_0 := NB123_124.out
    have hms35_0 := NB124_123.out
    have hs36 : w32.cell? ⟨gb124, 1, none⟩ = some (.slice none 0 0) := (blk_cell BK124.out 1).trans rfl
    have hfs36 := zfr BK124 1
    have hns36_0 := NB123_124.out
    have hms36_0 := NB124_123.out
    refine skip_ (w1 := ?_) (by rfl) rfl ?_ ?_
    rotate_left
    ·go_simp
     rfl
    refine hK.out _ _ ⟨((cell_far (p := ⟨gb124, _, none⟩) NB123_124.out _).trans (((cell_far (p := ⟨gb124, _, none⟩) NB123_124.out _).trans (hHeld.1)))), ((cell_far (p := ⟨gb124, _, none⟩) (by first | exact (hf_V_away HO1_0.out (by first | exact Int.ofNat_lt.1 (of_eq_true (by assumption)) | exact Int.ofNat_lt.1 (Int.lt_trans (by decide : (0 : Int) < 1) (of_eq_true (by assumption)))) (by decide) (fun _ hk => hk.1.1.1.2)) | (rw [add_block]; exact (hf_V_away HO1_0.out (by first | exact Int.ofNat_lt.1 (of_eq_true (by assumption)) | exact Int.ofNat_lt.1 (Int.lt_trans (by decide : (0 : Int) < 1) (of_eq_true (by assumption)))) (by decide) (fun _ hk => hk.1.1.1.2))) | (show (Addr.add _ _).block ≠ _; rw [add_block]; exact (hf_V_away HO1_0.out (by first | exact Int.ofNat_lt.1 (of_eq_true (by assumption)) | exact Int.ofNat_lt.1 (Int.lt_trans (by decide : (0 : Int) < 1) (of_eq_true (by assumption)))) (by decide) (fun _ hk => hk.1.1.1.2))) | (dsimp only; exact (hf_V_away HO1_0.out (by first | exact Int.ofNat_lt.1 (of_eq_true (by assumption)) | exact Int.ofNat_lt.1 (Int.lt_trans (by decide : (0 : Int) < 1) (of_eq_true (by assumption)))) (by decide) (fun _ hk => hk.1.1.1.2)))) _).trans (((cell_far (p := ⟨gb124, _, none⟩) (by first | exact (hf_V_away HO1_0.out (by first | exact Int.ofNat_lt.1 (of_eq_true (by assumption)) | exact Int.ofNat_lt.1 (Int.lt_trans (by decide : (0 : Int) < 1) (of_eq_true (by assumption)))) (by decide) (fun _ hk => hk.1.1.1.2)) | (rw [add_block]; exact (hf_V_away HO1_0.out (by first | exact Int.ofNat_lt.1 (of_eq_true (by assumption)) | exact Int.ofNat_lt.1 (Int.lt_trans (by decide : (0 : Int) < 1) (of_eq_true (by assumption)))) (by decide) (fun _ hk => hk.1.1.1.2))) | (show (Addr.add _ _).block ≠ _; rw [add_block]; exact (hf_V_away HO1_0.out (by first | exact Int.ofNat_lt.1 (of_eq_true (by assumption)) | exact Int.ofNat_lt.1 (Int.lt_trans (by decide : (0 : Int) < 1) (of_eq_true (by assumption)))) (by decide) (fun _ hk => hk.1.1.1.2))) | (dsimp only; exact (hf_V_away HO1_0.out (by first | exact Int.ofNat_lt.1 (of_eq_true (by assumption)) | exact Int.ofNat_lt.1 (Int.lt_trans (by decide : (0 : Int) < 1) (of_eq_true (by assumption)))) (by decide) (fun _ hk => hk.1.1.1.2)))) _).trans (hHeld.2.1)))), ((cell_far (p := ⟨gb124, _, none⟩) (by first | exact (hf_V_away HO1_0.out (by first | exact Int.ofNat_lt.1 (of_eq_true (by assumption)) | exact Int.ofNat_lt.1 (Int.lt_trans (by decide : (0 : Int) < 1) (of_eq_true (by assumption)))) (by decide) (fun _ hk => hk.1.1.1.2)) | (rw [add_block]; exact (hf_V_away HO1_0.out (by first | exact Int.ofNat_lt.1 (of_eq_true (by assumption)) | exact Int.ofNat_lt.1 (Int.lt_trans (by decide : (0 : Int) < 1) (of_eq_true (by assumption)))) (by decide) (fun _ hk => hk.1.1.1.2))) | (show (Addr.add _ _).block ≠ _; rw [add_block]; exact (hf_V_away HO1_0.out (by first | exact Int.ofNat_lt.1 (of_eq_true (by assumption)) | exact Int.ofNat_lt.1 (Int.lt_trans (by decide : (0 : Int) < 1) (of_eq_true (by assumption)))) (by decide) (fun _ hk => hk.1.1.1.2))) | (dsimp only; exact (hf_V_away HO1_0.out (by first | exact Int.ofNat_lt.1 (of_eq_true (by assumption)) | exact Int.ofNat_lt.1 (Int.lt_trans (by decide : (0 : Int) < 1) (of_eq_true (by assumption)))) (by decide) (fun _ hk => hk.1.1.1.2)))) _).trans (((cell_far (p := ⟨gb124, _, none⟩) (by first | exact (hf_V_away HO1_0.out (by first | exact Int.ofNat_lt.1 (of_eq_true (by assumption)) | exact Int.ofNat_lt.1 (Int.lt_trans (by decide : (0 : Int) < 1) (of_eq_true (by assumption)))) (by decide) (fun _ hk => hk.1.1.1.2)) | (rw [add_block]; exact (hf_V_away HO1_0.out (by first | exact Int.ofNat_lt.1 (of_eq_true (by assumption)) | exact Int.ofNat_lt.1 (Int.lt_trans (by decide : (0 : Int) < 1) (of_eq_true (by assumption)))) (by decide) (fun _ hk => hk.1.1.1.2))) | (show (Addr.add _ _).block ≠ _; rw [add_block]; exact (hf_V_away HO1_0.out (by first | exact Int.ofNat_lt.1 (of_eq_true (by assumption)) | exact Int.ofNat_lt.1 (Int.lt_trans (by decide : (0 : Int) < 1) (of_eq_true (by assumption)))) (by decide) (fun _ hk => hk.1.1.1.2))) | (dsimp only; exact (hf_V_away HO1_0.out (by first | exact Int.ofNat_lt.1 (of_eq_true (by assumption)) | exact Int.ofNat_lt.1 (Int.lt_trans (by decide : (0 : Int) < 1) (of_eq_true (by assumption)))) (by decide) (fun _ hk => hk.1.1.1.2)))) _).trans (hHeld.2.2))))⟩ (fun hHeld => ?_)
    clear hK K
    refine done_ (done_of HT_.out (by kernel_rfl)) ?_
    try go_wp2
    refine bodyPost_ret (results_cell_row rfl _ _ gb124 25 #[.int .i64 0, .slice Ao34 y143.length co34] (0, 0) _ rfl (by (with_reducible repeat (first | refine blk_drewN ?_ _ | refine blk_drew ?_ | refine blk_alloc ?_ _)); refine blk_put (cs := #[.int .i64 0, .slice none 0 0]) ?_ 1 _ rfl; (with_reducible repeat (first | refine blk_drewN ?_ _ | refine blk_drew ?_ | refine blk_alloc ?_ _)); apply blk_put (i := 0); (case h => exact y0 BK124.out); (case e => rfl)) Try.underlying25 rfl (by kernel_rfl)) rfl ?_
    exact ⟨_, y19, (by (with_reducible repeat (first | apply Kd.N_alloc | apply Kd.N_drewN | apply Kd.N_drew)); exact Kd.N_mono (Kd.N_far (p := ⟨gb124, 1, none⟩) (Kd.N_far (p := ⟨gb124, 0, none⟩) (Kd.N_mono HO145.out (fun k_ hk => (⟨hk, hk.2.2.1⟩ : _ ∧ k_ ≠ gb124))) (fun _ hk => hk.2) (.int .i64 0)) (fun _ hk => hk.2) (.slice Ao34 y143.length co34)) (fun _ hk => hk.1.1)), (y21 HI0.out NB0_123.out NB0_124.out), (y17 HB.out HI0.out GE123.out GE124.out), (y18 HK.out GW123.out GW124.out)⟩
   ·rw [if_neg c20] at H
    exact absurd H (by simp)
  ·rw [if_neg c18] at H
   exact absurd H (by simp)
end Go.Proofs.Ythfflieeifakdaa.PA
end
section
namespace Go.Proofs.Ythfflieeifakdaa.PA
open Go.RowKit Go.Proofs.YthfflieeifakdaaW.PrintWords Go.Proofs.YthfflieeifakdaaW.PrintLast Go.Proofs.YthfflieeifakdaaW.PrintMore
attribute [local go_sem] max2_int min2_int max_two min_two max_three min_three max_four min_four
set_option linter.unusedVariables false
set_option linter.unusedSimpArgs false
def spec_l71Bad.l0 : Nat → Int → List Int → Int → Int → List (S25) → Option (Int × (List (S25)) × Int)
 | 0, _, _, _, _, _ => none
 | k + 1, x6, x1000, x1001, x154000, x154001 => if x6 < 5 then (spec_l71Bad.l0 k (wrap64 (x6 + 1)) x1000 x1001 0 (([(⟨x154000, x154001⟩ : S25), (⟨0, ([] : List (S25))⟩ : S25)] : List (S25)))) else (some (x154000, x154001, x1001))
def spec_l71Bad.f (k : Nat) (s0_0 : List Int) (s0_1 : Int) (l1_0 : List (S50)) : Option (Int × (List (S25)) × Int) := (spec_l71Val.f k s0_0 s0_1 l1_0).bind fun bt148 => ((spec_l6Rd_pick.f k s0_0 bt148.2.2 12).bind fun bt154 => (if bt154.1 = 0 then ((some (([(-1), 1, 9999, 10000] : List Int) : List Int)).bind fun y156 => ((spec_l6Rd_pick.f k s0_0 bt154.2 4).bind fun bt159 => (if 0 ≤ bt159.1 then (if bt159.1 < (y156.length : Int) then (some (rd y156 bt159.1, bt148.2.1, bt159.2)) else (none)) else (none)))) else (if bt154.1 = 1 then (if bt148.2.1.length < 4398046511104 then (some (bt148.1, (bt148.2.1 ++ [(⟨0, ([] : List (S25))⟩ : S25)]), bt154.2)) else (none)) else (if bt154.1 = 2 then (spec_l71Bad.l0 k 0 s0_0 bt154.2 bt148.1 bt148.2.1) else (some (bt148.1, bt148.2.1, bt154.2))))))
theorem spec_l71Bad.mono_l : ∀ k, (∀ y0 y1 y2 y3 y4, LeO (spec_l71Bad.l0 k y0 y1 y2 y3 y4) (spec_l71Bad.l0 (k + 1) y0 y1 y2 y3 y4))
 | 0 => fun _ _ _ _ _ r h => by simp [spec_l71Bad.l0] at h
 | k + 1 => by
  have ih0 := spec_l71Bad.mono_l k
  ·intro y0 y1 y2 y3 y4
   unfold spec_l71Bad.l0
   repeat' first
   | (with_reducible exact ih0 _ _ _ _ _)
   | (with_reducible exact spec_l6Rd_pick.mono _ _ _ _)
   | (with_reducible exact spec_l71Val.mono _ _ _ _)
   | (with_reducible exact LeO.refl _)
   | (with_reducible exact LeO.none _)
   | (with_reducible refine LeO.ite ?_ ?_)
   | (with_reducible refine LeO.bind ?_ (fun _ => ?_))
   | exact ih0 _ _ _ _ _
   | exact spec_l6Rd_pick.mono _ _ _ _
   | exact spec_l71Val.mono _ _ _ _
   | exact LeO.none _
   | refine LeO.ite ?_ ?_
   | refine LeO.bind ?_ (fun _ => ?_)
theorem spec_l71Bad.mono : ∀ a0 a1 a2 k, LeO (spec_l71Bad.f k a0 a1 a2) (spec_l71Bad.f (k + 1) a0 a1 a2) := by
 intro a0 a1 a2 k
 have ih0 := spec_l71Bad.mono_l k
 unfold spec_l71Bad.f
 repeat' first
   | (with_reducible exact ih0 _ _ _ _ _)
   | (with_reducible exact spec_l6Rd_pick.mono _ _ _ _)
   | (with_reducible exact spec_l71Val.mono _ _ _ _)
   | (with_reducible exact LeO.refl _)
   | (with_reducible exact LeO.none _)
   | (with_reducible refine LeO.ite ?_ ?_)
   | (with_reducible refine LeO.bind ?_ (fun _ => ?_))
   | exact ih0 _ _ _ _ _
   | exact spec_l6Rd_pick.mono _ _ _ _
   | exact spec_l71Val.mono _ _ _ _
   | exact LeO.none _
   | refine LeO.ite ?_ ?_
   | refine LeO.bind ?_ (fun _ => ?_)
set_option maxHeartbeats 8000000 in
set_option maxRecDepth 100000 in
theorem spec_l71Bad.calls (k : Nat) (g : Nat) (s0_0 : List Int) (s0_1 : Int) (P1_0_ : Nat → Prop) (A1_0 : Option Addr) (c1_0 : Nat) (l1_0 : List (S50)) (r1 : Int) (r2 : List (S25)) (r3 : Int) (w0 w : World) (hI : IsS75 w0 w g s0_0 s0_1) (hB : Below w0.heap.size w0 w) (hs1_0 : Kd.V k50 50 w w.heap.size (fun k_ => P1_0_ k_ ∧ k_ ≠ g) (.slice A1_0 l1_0.length c1_0) l1_0) (h : spec_l71Bad.f k s0_0 s0_1 l1_0 = some (r1, r2, r3)) :
  Calls Try.prog 33 #[.pointer (some ⟨g, 0, none⟩), .agg #[.slice A1_0 l1_0.length c1_0]] w fun e w' => ∃ v1_ : Value, e = .returned (.agg #[.int .i64 r1, v1_]) ∧ Kd.N k25 25 w' w.heap.size (fun k_ => (P1_0_ k_ ∨ w.heap.size ≤ k_)) v1_ r2 ∧ IsS75 w0 w' g s0_0 r3 ∧ Below w0.heap.size w0 w' ∧ KeepBut w w' g none := by
 have hu50 := Try.underlying50
 have hu25 := Try.underlying25
 have HO1_0 := Aside0.mk (show Kd.V k50 50 w w.heap.size (fun k_ => (P1_0_ k_ ∨ w.heap.size ≤ k_) ∧ k_ ≠ g) (.slice A1_0 l1_0.length c1_0) l1_0 from Kd.V_mono hs1_0 (fun k_ hk => ⟨.inl hk.1, hk.2⟩))
 have HI0 := Aside0.mk hI
 have HK := Aside0.mk (KeepBut.refl w g none)
 have HL := Aside0.mk hB.size
 clear hI
 have HW0 := Aside0.mk hB.size
 have HB := Aside0.mk hB
 clear hB
 have H : ((spec_l71Val.f k s0_0 s0_1 l1_0).bind fun bt148 => ((spec_l6Rd_pick.f k s0_0 bt148.2.2 12).bind fun bt154 => (if bt154.1 = 0 then ((some (([(-1), 1, 9999, 10000] : List Int) : List Int)).bind fun y156 => ((spec_l6Rd_pick.f k s0_0 bt154.2 4).bind fun bt159 => (if 0 ≤ bt159.1 then (if bt159.1 < (y156.length : Int) then (some (rd y156 bt159.1, bt148.2.1, bt159.2)) else (none)) else (none)))) else (if bt154.1 = 1 then (if bt148.2.1.length < 4398046511104 then (some (bt148.1, (bt148.2.1 ++ [(⟨0, ([] : List (S25))⟩ : S25)]), bt154.2)) else (none)) else (if bt154.1 = 2 then (spec_l71Bad.l0 k 0 s0_0 bt154.2 bt148.1 bt148.2.1) else (some (bt148.1, bt148.2.1, bt154.2))))))) = some (r1, r2, r3) := h
 clear h
 obtain ⟨⟨t148, t149, t152⟩, A30, H⟩ := ob H
 have A3 := Aside0.mk A30
 clear A30
 obtain ⟨⟨t154, t155⟩, A40, H⟩ := ob H
 have A4 := Aside0.mk A40
 clear A40
 by_cases c5 : t154 = 0
 ·rw [if_pos c5] at H
  have c5b0 : (t154 == 0) = true := beq_iff_eq.mpr c5
  have c5b1 : (t154 != 0) = false := bne_eq_false_iff_eq.mpr c5
  clear c5
  obtain ⟨y156, hy156⟩ : ∃ y_ : List Int, y_ = (([(-1), 1, 9999, 10000] : List Int)) := ⟨_, rfl⟩
  replace H : ((spec_l6Rd_pick.f k s0_0 t155 4).bind fun bt159 => (if 0 ≤ bt159.1 then (if bt159.1 < (y156.length : Int) then (some (rd y156 bt159.1, t149, bt159.2)) else (none)) else (none))) = some (r1, r2, r3) := by first | (rw [hy156]; with_reducible exact H) | (have H2_ := (Option.bind_some _ _).symm.trans H; rw [hy156]; with_reducible exact H2_) | (have H2_ := (Option.bind_some _ _).symm.trans H; with_reducible exact H2_) | with_reducible exact H | (rw [hy156]; exact H) | exact H
  have Ny156 := Aside0.mk hy156
  clear hy156
  obtain ⟨⟨t159, t160⟩, A60, H⟩ := ob H
  have A6 := Aside0.mk A60
  clear A60
  by_cases c7 : 0 ≤ t159
  ·rw [if_pos c7] at H
   have c7b0 : decide (0 ≤ t159) = true := decide_eq_true c7
   clear c7
   by_cases c8 : t159 < (y156.length : Int)
   ·rw [if_pos c8] at H
    have c8b0 : decide (t159 < (y156.length : Int)) = true := decide_eq_true c8
    clear c8
    simp only [Option.some.injEq, Prod.mk.injEq] at H
    obtain ⟨rfl, rfl, rfl⟩ := H
    go_enter Try.func33, Try.ntmps33
    go_wp2_with (first | ((with_reducible refine gate_dst (N := 3) rfl ?_); refine zbx 3 #[.slice A1_0 l1_0.length c1_0] 50 ?_; intro gb146 hg w9 hbox hb; replace HO1_0 := Aside0.mk (Kd.V_below (Kd.V_elderB (y10 HO1_0.out) gb146 (Nat.le_of_eq hg.symm)) hb); replace HB := Aside0.mk (below_step (y40 HB.out HI0.out) hb); have BK146 := Aside0.mk hbox; have GW146 := Aside0.mk ((by rw [hg]; exact (keep_size (w := w) (g := g) (row := none) (y29 HK.out)) : w.heap.size ≤ gb146)); have GE146 := Aside0.mk ((Nat.le_trans HW0.out (by rw [hg]; exact (keep_size (w := w) (g := g) (row := none) (y29 HK.out)) : w.heap.size ≤ gb146) : w0.heap.size ≤ gb146)); replace HK := Aside0.mk (KeepBut.trans (y29 HK.out) (KeepBut.of_below hb g none) (.inl rfl)); have NB0_146 := Aside0.mk ((by rw [hg]; exact Nat.ne_of_lt (IsS75.lt (show IsS75 w0 _ g s0_0 s0_1 from by repeat (first | (with_reducible first | exact HI0.out | apply IsS75.alloc | apply IsS75.drewN | apply IsS75.drew | apply IsS75.set_1) | exact HI0.out))) : g ≠ gb146)); have NB146_0 := Aside0.mk ((by rw [hg]; exact Nat.ne_of_gt (IsS75.lt (show IsS75 w0 _ g s0_0 s0_1 from by repeat (first | (with_reducible first | exact HI0.out | apply IsS75.alloc | apply IsS75.drewN | apply IsS75.drew | apply IsS75.set_1) | exact HI0.out))) : gb146 ≠ g)); replace HI0 := Aside0.mk (IsS75.below (y41 HI0.out) hb); clear hb hbox hg) | ((with_reducible refine gate_dst (N := 4) rfl ?_); refine zbx 4 #[.int .i64 0, .slice none 0 0] 25 ?_; intro gb147 hg w10 hbox hb; replace HO1_0 := Aside0.mk (Kd.V_below (Kd.V_elderB (y10 HO1_0.out) gb147 (Nat.le_of_eq hg.symm)) hb); replace HB := Aside0.mk (below_step (y30 HB.out HI0.out GE146.out) hb); have BK147 := Aside0.mk hbox; have GW147 := Aside0.mk ((by rw [hg]; exact (keep_size (w := w) (g := g) (row := none) (y25 HK.out GW146.out)) : w.heap.size ≤ gb147)); have GE147 := Aside0.mk ((Nat.le_trans HW0.out (by rw [hg]; exact (keep_size (w := w) (g := g) (row := none) (y25 HK.out GW146.out)) : w.heap.size ≤ gb147) : w0.heap.size ≤ gb147)); replace HK := Aside0.mk (KeepBut.trans (y25 HK.out GW146.out) (KeepBut.of_below hb g none) (.inl rfl)); have NB146_147 := zltn hg BK146; have NB147_146 := zgtn hg BK146; replace BK146 := zbb BK146 hb; have NB0_147 := Aside0.mk ((by rw [hg]; exact Nat.ne_of_lt (IsS75.lt (show IsS75 w0 _ g s0_0 s0_1 from by repeat (first | (with_reducible first | exact HI0.out | apply IsS75.alloc | apply IsS75.drewN | apply IsS75.drew | apply IsS75.set_1 | refine IsS75.far ?_ NB0_146.out _) | exact HI0.out))) : g ≠ gb147)); have NB147_0 := Aside0.mk ((by rw [hg]; exact Nat.ne_of_gt (IsS75.lt (show IsS75 w0 _ g s0_0 s0_1 from by repeat (first | (with_reducible first | exact HI0.out | apply IsS75.alloc | apply IsS75.drewN | apply IsS75.drew | apply IsS75.set_1 | refine IsS75.far ?_ NB0_146.out _) | exact HI0.out))) : gb147 ≠ g)); replace HI0 := Aside0.mk (IsS75.below (y31 HI0.out NB0_146.out) hb); clear hb hbox hg; have hnb11 := NB146_147.out; have hnc11 := NB147_146.out; have hnb12 := NB146_0.out; have hnc12 := NB0_146.out; have hcz13_0 := zh BK146; have hfz13_0 := zfr BK146 0) | ((with_reducible refine gate_callee (f := 55) rfl ?_); refine goesL_ (some 9) rfl rfl Try.func55 (by kernel_rfl) rfl #[.pointer (some ⟨g, 0, none⟩), .agg #[.slice A1_0 l1_0.length c1_0]] rfl y8 ?_; (with_reducible refine (spec_l71Val.calls k g s0_0 s0_1 (fun k_ => ((((P1_0_ k_ ∨ w.heap.size ≤ k_) ∧ k_ ≠ g) ∧ k_ ≠ gb146) ∧ k_ ≠ gb147)) _ _ l1_0 t148 t149 t152 w0 _ ?side1 ?side2 ?side3 A3.out).mono ?_); (case side1 => exact y21 HI0.out NB0_146.out NB0_147.out); (case side2 => exact y17 HB.out HI0.out GE146.out GE147.out); (case side3 => exact y94 HO1_0.out); rintro e w14 ⟨v150, rfl, ho0, hi, hb, hk⟩; refine ⟨_, rfl, ?_⟩; replace HO1_0 := Aside0.mk (Kd.V_mono (Kd.V_told (Kd.V_oldK (Kd.V_mono (ok := fun k_ => (((((P1_0_ k_ ∨ w.heap.size ≤ k_)) ∧ k_ ≠ g) ∧ k_ ≠ gb146) ∧ k_ ≠ gb147)) (y10 HO1_0.out) (fun k_ hk_ => (⟨hk_, hk_.1.1.2⟩ : _ ∧ k_ ≠ g))) hk) (Kd.N_base ho0)) (fun _ h_ => h_.1)); have HO151 := Aside0.mk (Kd.N_lower (Kd.N_mono (ok' := fun k_ => (P1_0_ k_ ∨ w.heap.size ≤ k_) ∧ k_ ≠ gb146 ∧ k_ ≠ gb147 ∧ k_ ≠ g) ho0 (fun k_ hk_ => ⟨Or.elim hk_ (fun hs_ => hs_.1.1.1) (fun hn_ => (.inr (Nat.le_trans (keep_size (w := w) (g := g) (row := none) (y18 HK.out GW146.out GW147.out)) hn_))), Or.elim hk_ (fun hs_ => hs_.1.2) (fun hn_ => (Kd.freshB (g := gb146) (o := .cells #[.slice A1_0 l1_0.length c1_0] 50 (0, 0)) (y0 BK146.out) k_ hn_)), Or.elim hk_ (fun hs_ => hs_.2) (fun hn_ => (Kd.freshB (g := gb147) (o := .cells #[.int .i64 0, .slice none 0 0] 25 (0, 0)) (y0 BK147.out) k_ hn_)), Or.elim hk_ (fun hs_ => hs_.1.1.2) (fun hn_ => (IsS75.fresh (y21 HI0.out NB0_146.out NB0_147.out) k_ hn_))⟩)) (keep_size (w := w) (g := g) (row := none) (y18 HK.out GW146.out GW147.out))); replace BK146 := Aside0.mk (KeepBut.blk hk (g' := gb146) (o := .cells #[.slice A1_0 l1_0.length c1_0] 50 (0, 0)) (y0 BK146.out) NB146_0.out (by simp)); replace BK147 := Aside0.mk (KeepBut.blk hk (g' := gb147) (o := .cells #[.int .i64 0, .slice none 0 0] 25 (0, 0)) (y0 BK147.out) NB147_0.out (by simp)); replace HK := Aside0.mk (KeepBut.trans (y18 HK.out GW146.out GW147.out) hk (.inl rfl)); replace HB := Aside0.mk (hb); replace HI0 := Aside0.mk (hi); (try clear hb); (try clear hb2); (try clear hk); (try clear hi); (try clear ho0)) | ((with_reducible refine gate_dst (N := 5) rfl ?_); refine zbx 5 #[.int .i64 0, .slice none 0 0] 25 ?_; intro gb153 hg w15 hbox hb; replace HO1_0 := Aside0.mk (Kd.V_below (Kd.V_elderB (y10 HO1_0.out) gb153 (Nat.le_of_eq hg.symm)) hb); replace HO151 := Aside0.mk (Kd.N_below (Kd.N_elderB (y3 HO151.out) gb153 (Nat.le_of_eq hg.symm)) hb); replace HB := Aside0.mk (below_step (y17 HB.out HI0.out GE146.out GE147.out) hb); have BK153 := Aside0.mk hbox; have GW153 := Aside0.mk ((by rw [hg]; exact (keep_size (w := w) (g := g) (row := none) (y18 HK.out GW146.out GW147.out)) : w.heap.size ≤ gb153)); have GE153 := Aside0.mk ((Nat.le_trans HW0.out (by rw [hg]; exact (keep_size (w := w) (g := g) (row := none) (y18 HK.out GW146.out GW147.out)) : w.heap.size ≤ gb153) : w0.heap.size ≤ gb153)); replace HK := Aside0.mk (KeepBut.trans (y18 HK.out GW146.out GW147.out) (KeepBut.of_below hb g none) (.inl rfl)); have NB146_153 := zltn hg BK146; have NB153_146 := zgtn hg BK146; replace BK146 := zbb BK146 hb; have NB147_153 := zltn hg BK147; have NB153_147 := zgtn hg BK147; replace BK147 := zbb BK147 hb; have NB0_153 := Aside0.mk ((by rw [hg]; exact Nat.ne_of_lt (IsS75.lt (show IsS75 w0 _ g s0_0 t152 from by repeat (first | (with_reducible first | exact HI0.out | apply IsS75.alloc | apply IsS75.drewN | apply IsS75.drew | apply IsS75.set_1 | refine IsS75.far ?_ NB0_146.out _ | refine IsS75.far ?_ NB0_147.out _) | exact HI0.out))) : g ≠ gb153)); have NB153_0 := Aside0.mk ((by rw [hg]; exact Nat.ne_of_gt (IsS75.lt (show IsS75 w0 _ g s0_0 t152 from by repeat (first | (with_reducible first | exact HI0.out | apply IsS75.alloc | apply IsS75.drewN | apply IsS75.drew | apply IsS75.set_1 | refine IsS75.far ?_ NB0_146.out _ | refine IsS75.far ?_ NB0_147.out _) | exact HI0.out))) : gb153 ≠ g)); replace HI0 := Aside0.mk (IsS75.below (y21 HI0.out NB0_146.out NB0_147.out) hb); clear hb hbox hg; have hnb16 := NB153_146.out; have hnc16 := NB146_153.out; have hnb17 := NB153_147.out; have hnc17 := NB147_153.out; have hnb18 := NB153_0.out; have hnc18 := NB0_153.out; have hcz19_0 := zh BK153; have hcz19_1 := zh1 BK153; have hfz19_0 := zfr BK153 0; have hfz19_1 := zfr BK153 1; obtain ⟨Ao20, co20, eo20⟩ := Kd.N_slice HO151.out; subst eo20) | ((with_reducible refine gate_callee (f := 32) rfl ?_); refine goesL_ (some 11) rfl rfl Try.func32 (by kernel_rfl) rfl #[.pointer (some ⟨g, 0, none⟩), .int .i64 12] rfl y8 ?_; (with_reducible refine (spec_l6Rd_pick.calls k g s0_0 t152 12 t154 t155 w0 _ ?side1 ?side2 A4.out).mono ?_); (case side1 => exact y26 HI0.out NB0_146.out NB0_147.out NB0_153.out); (case side2 => exact y24 HB.out HI0.out GE146.out GE147.out GE153.out); rintro e w21 ⟨rfl, hi, hb, hk⟩; refine ⟨_, rfl, ?_⟩; replace HO1_0 := Aside0.mk (Kd.V_mono (Kd.V_keep (Kd.V_mono (ok := fun k_ => (((((((P1_0_ k_ ∨ w.heap.size ≤ k_)) ∧ k_ ≠ g) ∧ k_ ≠ gb146) ∧ k_ ≠ gb147) ∧ some k_ ≠ (.slice Ao20 t149.length co20 : Value).ownBlock) ∧ k_ ≠ gb153)) (by (with_reducible repeat (first | apply Kd.V_alloc | apply Kd.V_drewN | apply Kd.V_drew)); exact (Kd.V_mono (Kd.V_far (p := ⟨gb153, 1, none⟩) (Kd.V_far (p := ⟨gb153, 0, none⟩) (Kd.V_mono HO1_0.out (fun k_ hk => (⟨hk, hk.2⟩ : _ ∧ k_ ≠ gb153))) (fun _ hk => hk.2) (.int .i64 t148)) (fun _ hk => hk.2) (.slice Ao20 t149.length co20)) (fun _ h_ => h_.1))) (fun k_ hk_ => (⟨hk_, hk_.1.1.1.1.2⟩ : _ ∧ k_ ≠ g))) hk (fun _ h => h.2)) (fun _ h => h.1)); replace BK146 := Aside0.mk (KeepBut.blk hk (g' := gb146) (o := .cells #[.slice A1_0 l1_0.length c1_0] 50 (0, 0)) (y1 NB146_153.out BK146.out) NB146_0.out (by simp)); replace BK147 := Aside0.mk (KeepBut.blk hk (g' := gb147) (o := .cells #[.int .i64 0, .slice none 0 0] 25 (0, 0)) (y1 NB147_153.out BK147.out) NB147_0.out (by simp)); replace HO151 := Aside0.mk (Kd.N_mono (Kd.N_keep (Kd.N_mono (ok := fun k_ => ((((P1_0_ k_ ∨ w.heap.size ≤ k_)) ∧ (k_ ≠ gb146 ∧ (k_ ≠ gb147 ∧ k_ ≠ g))) ∧ k_ ≠ gb153)) (by (with_reducible repeat (first | apply Kd.N_alloc | apply Kd.N_drewN | apply Kd.N_drew)); exact (Kd.N_mono (Kd.N_far (p := ⟨gb153, 1, none⟩) (Kd.N_far (p := ⟨gb153, 0, none⟩) (Kd.N_mono HO151.out (fun k_ hk => (⟨hk, hk.2⟩ : _ ∧ k_ ≠ gb153))) (fun _ hk => hk.2) (.int .i64 t148)) (fun _ hk => hk.2) (.slice Ao20 t149.length co20)) (fun _ h_ => h_.1))) (fun k_ hk_ => (⟨hk_, hk_.1.2.2.2⟩ : _ ∧ k_ ≠ g))) hk (fun _ h => h.2)) (fun _ h => h.1)); replace BK153 := Aside0.mk (KeepBut.blk hk (g' := gb153) (o := .cells #[.int .i64 t148, .slice Ao20 t149.length co20] 25 (0, 0)) (by (with_reducible repeat (first | refine blk_drewN ?_ _ | refine blk_drew ?_ | refine blk_alloc ?_ _)); refine blk_put (cs := #[.int .i64 t148, .slice none 0 0]) ?_ 1 _ rfl; (with_reducible repeat (first | refine blk_drewN ?_ _ | refine blk_drew ?_ | refine blk_alloc ?_ _)); apply blk_put (i := 0); (case h => exact y0 BK153.out); (case e => rfl)) NB153_0.out (by simp)); replace HK := Aside0.mk (KeepBut.trans (y33 HK.out GW146.out GW147.out GW153.out) hk (.inl rfl)); replace HB := Aside0.mk (hb); replace HI0 := Aside0.mk (hi); (try clear hb); (try clear hb2); (try clear hk); (try clear hi)) | ((with_reducible refine gate_dst (N := 14) rfl ?_); refine Kd.R_lit (Kd.int .i64) _ 3 ?hg (N := 14) ?hd (xs := ([(-1), 1, 9999, 10000] : List Int)) (inner := [.int .i64 (-1), .int .i64 1, .int .i64 9999, .int .i64 10000]) (ok := fun _ => True) (okp := fun _ => True) ?hr ?hp (fun _ hk => hk) trivial (Below.refl _ _) (Nat.le_refl _) (by simp) ?_; (case hd => rfl); (case hg => rfl); (case hr => first | (go_simp; done) | (go_simp; rfl)); (case hp => exact (Reps.one (show Kd.M (Kd.int .i64) _ _ _ (-1) [.int .i64 (-1)] from rfl) (Reps.one (show Kd.M (Kd.int .i64) _ _ _ 1 [.int .i64 1] from rfl) (Reps.one (show Kd.M (Kd.int .i64) _ _ _ 9999 [.int .i64 9999] from rfl) (Reps.one (show Kd.M (Kd.int .i64) _ _ _ 10000 [.int .i64 10000] from rfl) (Reps.none _ _)))))); intro v157 w22 ho23 hb hg_ hnew_; clear hg_ hnew_; (first | rw [← Ny156.out] at ho23 | (simp only [Int.reduceToNat] at ho23; rw [← Ny156.out] at ho23)); replace HO1_0 := Aside0.mk (Kd.V_elder' (y10 HO1_0.out) (Kd.R_base ho23) hb); replace HO151 := Aside0.mk (Kd.N_elder' (y3 HO151.out) (Kd.R_base ho23) hb); have HO158 := Aside0.mk (Kd.R_lower (Kd.R_newM (M := fun k_ => (w.heap.size ≤ k_)) ho23 (keep_size (w := w) (g := g) (row := none) (y33 HK.out GW146.out GW147.out GW153.out)) (fun k_ h_ => h_)) (keep_size (w := w) (g := g) (row := none) (y33 HK.out GW146.out GW147.out GW153.out))); replace BK146 := zbb BK146 hb; replace BK147 := zbb BK147 hb; replace BK153 := zbb BK153 hb; replace HK := Aside0.mk (KeepBut.trans (y33 HK.out GW146.out GW147.out GW153.out) (KeepBut.of_below hb g none) (.inl rfl)); replace HB := Aside0.mk (below_step (y24 HB.out HI0.out GE146.out GE147.out GE153.out) hb); replace HI0 := Aside0.mk (IsS75.below (y26 HI0.out NB0_146.out NB0_147.out NB0_153.out) hb); clear hb ho23) | ((with_reducible refine gate_callee (f := 32) rfl ?_); refine goesL_ (some 16) rfl rfl Try.func32 (by kernel_rfl) rfl #[.pointer (some ⟨g, 0, none⟩), .int .i64 4] rfl y8 ?_; (with_reducible refine (spec_l6Rd_pick.calls k g s0_0 t155 4 t159 t160 w0 _ ?side1 ?side2 A6.out).mono ?_); (case side1 => exact y26 HI0.out NB0_146.out NB0_147.out NB0_153.out); (case side2 => exact y24 HB.out HI0.out GE146.out GE147.out GE153.out); rintro e w24 ⟨rfl, hi, hb, hk⟩; refine ⟨_, rfl, ?_⟩; replace HO1_0 := Aside0.mk (Kd.V_mono (Kd.V_keep (Kd.V_mono (ok := fun k_ => ((((((((P1_0_ k_ ∨ w.heap.size ≤ k_)) ∧ k_ ≠ g) ∧ k_ ≠ gb146) ∧ k_ ≠ gb147) ∧ some k_ ≠ (.slice Ao20 t149.length co20 : Value).ownBlock) ∧ k_ ≠ gb153) ∧ some k_ ≠ (v157 : Value).ownBlock)) (y10 HO1_0.out) (fun k_ hk_ => (⟨hk_, hk_.1.1.1.1.1.2⟩ : _ ∧ k_ ≠ g))) hk (fun _ h => h.2)) (fun _ h => h.1)); replace BK146 := Aside0.mk (KeepBut.blk hk (g' := gb146) (o := .cells #[.slice A1_0 l1_0.length c1_0] 50 (0, 0)) (y0 BK146.out) NB146_0.out (by simp)); replace BK147 := Aside0.mk (KeepBut.blk hk (g' := gb147) (o := .cells #[.int .i64 0, .slice none 0 0] 25 (0, 0)) (y0 BK147.out) NB147_0.out (by simp)); replace HO151 := Aside0.mk (Kd.N_mono (Kd.N_keep (Kd.N_mono (ok := fun k_ => (((((P1_0_ k_ ∨ w.heap.size ≤ k_)) ∧ (k_ ≠ gb146 ∧ (k_ ≠ gb147 ∧ k_ ≠ g))) ∧ k_ ≠ gb153) ∧ some k_ ≠ (v157 : Value).ownBlock)) (y3 HO151.out) (fun k_ hk_ => (⟨hk_, hk_.1.1.2.2.2⟩ : _ ∧ k_ ≠ g))) hk (fun _ h => h.2)) (fun _ h => h.1)); replace BK153 := Aside0.mk (KeepBut.blk hk (g' := gb153) (o := .cells #[.int .i64 t148, .slice Ao20 t149.length co20] 25 (0, 0)) (y0 BK153.out) NB153_0.out (by simp)); replace HO158 := Aside0.mk (Kd.R_mono (Kd.R_keep (IsS75.apart (show IsS75 w0 _ g s0_0 t155 from by repeat (first | (with_reducible first | exact HI0.out | apply IsS75.alloc | apply IsS75.drewN | apply IsS75.drew | apply IsS75.set_1 | refine IsS75.far ?_ NB0_146.out _ | refine IsS75.far ?_ NB0_147.out _ | refine IsS75.far ?_ NB0_153.out _) | exact HI0.out)) (y12 HO158.out) (by decide)) hk (fun _ h => h.2)) (fun _ h => h.1)); replace HK := Aside0.mk (KeepBut.trans (y33 HK.out GW146.out GW147.out GW153.out) hk (.inl rfl)); replace HB := Aside0.mk (hb); replace HI0 := Aside0.mk (hi); (try clear hb); (try clear hb2); (try clear hk); (try clear hi); obtain ⟨Ao25, co25, eo25⟩ := Kd.R_slice HO158.out; subst eo25; have p161 : 0 ≤ (t159 : Int) := of_decide_eq_true y23; have q161 : t159 < (y156.length : Int) := of_decide_eq_true y23; obtain ⟨ad161, e161, hx161_0⟩ := Kd.at_int (Kd.R_reads' HO158.out).2.2 t159 p161 q161; cases e161; replace p161 := eq_true p161; replace q161 := eq_true q161; have hcz26_0 := zh BK153; have hcz26_1 := zh1 BK153; have hfz26_0 := zfr BK153 0; have hfz26_1 := zfr BK153 1; have hnb27 := NB147_0.out; have hnc27 := NB0_147.out; have hcz28_0 := zh BK147; have hcz28_1 := zh1 BK147; have hfz28_0 := zfr BK147 0; have hfz28_1 := zfr BK147 1))
    refine bodyPost_ret (results_cell_row rfl _ _ gb147 25 #[.int .i64 (rd y156 t159), .slice Ao20 t149.length co20] (0, 0) _ rfl (by (with_reducible repeat (first | refine blk_drewN ?_ _ | refine blk_drew ?_ | refine blk_alloc ?_ _)); refine blk_put (cs := #[.int .i64 (rd y156 t159), .slice none 0 0]) ?_ 1 _ rfl; (with_reducible repeat (first | refine blk_drewN ?_ _ | refine blk_drew ?_ | refine blk_alloc ?_ _)); refine blk_put (cs := #[.int .i64 0, .slice none 0 0]) ?_ 0 _ rfl; (with_reducible repeat (first | refine blk_drewN ?_ _ | refine blk_drew ?_ | refine blk_alloc ?_ _)); refine blk_far ?_ NB147_153.out _; (with_reducible repeat (first | refine blk_drewN ?_ _ | refine blk_drew ?_ | refine blk_alloc ?_ _)); exact BK147.out) Try.underlying25 rfl (by kernel_rfl)) rfl ?_
    exact ⟨_, y19, (by (with_reducible repeat (first | apply Kd.N_alloc | apply Kd.N_drewN | apply Kd.N_drew)); exact Kd.N_mono (Kd.N_far (p := ⟨gb147, 1, none⟩) (Kd.N_far (p := ⟨gb147, 0, none⟩) (Kd.N_far (p := ⟨gb153, 0, none⟩) (Kd.N_mono (Kd.N_mono HO151.out (fun k_ hk => (⟨hk, hk.1.2⟩ : _ ∧ k_ ≠ gb153))) (fun k_ hk => (⟨hk, hk.1.1.1.2.2.1⟩ : _ ∧ k_ ≠ gb147))) (fun _ hk => hk.1.2) (.int .i64 (rd y156 t159))) (fun _ hk => hk.2) (.int .i64 (rd y156 t159))) (fun _ hk => hk.2) (.slice Ao20 t149.length co20)) (fun _ hk => hk.1.1.1.1.1)), (y26 HI0.out NB0_146.out NB0_147.out NB0_153.out), (y24 HB.out HI0.out GE146.out GE147.out GE153.out), (y33 HK.out GW146.out GW147.out GW153.out)⟩
   ·rw [if_neg c8] at H
    exact absurd H (by simp)
  ·rw [if_neg c7] at H
   exact absurd H (by simp)
 ·rw [if_neg c5] at H
  have c5b0 : (t154 == 0) = false := beq_eq_false_iff_ne.mpr c5
  have c5b1 : (t154 != 0) = true := bne_iff_ne.mpr c5
  by_cases c29 : t154 = 1
  ·rw [if_pos c29] at H
   have c29b0 : (t154 == 1) = true := beq_iff_eq.mpr c29
   have c29b1 : (t154 != 1) = false := bne_eq_false_iff_eq.mpr c29
   clear c29
   by_cases c30 : t149.length < 4398046511104
   ·rw [if_pos c30] at H
    have LMc30 := Aside0.mk c30
    clear c30
    obtain ⟨y162, hy162⟩ : ∃ y_ : List (S25), y_ = (t149 ++ [(⟨0, ([] : List (S25))⟩ : S25)]) := ⟨_, rfl⟩
    replace H : (some (t148, y162, t155)) = some (r1, r2, r3) := by first | (rw [hy162]; with_reducible exact H) | (have H2_ := (Option.bind_some _ _).symm.trans H; rw [hy162]; with_reducible exact H2_) | (have H2_ := (Option.bind_some _ _).symm.trans H; with_reducible exact H2_) | with_reducible exact H | (rw [hy162]; exact H) | exact H
    have Ny162 := Aside0.mk hy162
    clear hy162
    simp only [Option.some.injEq, Prod.mk.injEq] at H
    obtain ⟨rfl, rfl, rfl⟩ := H
    go_enter Try.func33, Try.ntmps33
    go_wp2_with (first | ((with_reducible refine gate_dst (N := 3) rfl ?_); refine zbx 3 #[.slice A1_0 l1_0.length c1_0] 50 ?_; intro gb146 hg w31 hbox hb; replace HO1_0 := Aside0.mk (Kd.V_below (Kd.V_elderB (y10 HO1_0.out) gb146 (Nat.le_of_eq hg.symm)) hb); replace HB := Aside0.mk (below_step (y40 HB.out HI0.out) hb); have BK146 := Aside0.mk hbox; have GW146 := Aside0.mk ((by rw [hg]; exact (keep_size (w := w) (g := g) (row := none) (y29 HK.out)) : w.heap.size ≤ gb146)); have GE146 := Aside0.mk ((Nat.le_trans HW0.out (by rw [hg]; exact (keep_size (w := w) (g := g) (row := none) (y29 HK.out)) : w.heap.size ≤ gb146) : w0.heap.size ≤ gb146)); replace HK := Aside0.mk (KeepBut.trans (y29 HK.out) (KeepBut.of_below hb g none) (.inl rfl)); have NB0_146 := Aside0.mk ((by rw [hg]; exact Nat.ne_of_lt (IsS75.lt (show IsS75 w0 _ g s0_0 s0_1 from by repeat (first | (with_reducible first | exact HI0.out | apply IsS75.alloc | apply IsS75.drewN | apply IsS75.drew | apply IsS75.set_1) | exact HI0.out))) : g ≠ gb146)); have NB146_0 := Aside0.mk ((by rw [hg]; exact Nat.ne_of_gt (IsS75.lt (show IsS75 w0 _ g s0_0 s0_1 from by repeat (first | (with_reducible first | exact HI0.out | apply IsS75.alloc | apply IsS75.drewN | apply IsS75.drew | apply IsS75.set_1) | exact HI0.out))) : gb146 ≠ g)); replace HI0 := Aside0.mk (IsS75.below (y41 HI0.out) hb); clear hb hbox hg) | ((with_reducible refine gate_dst (N := 4) rfl ?_); refine zbx 4 #[.int .i64 0, .slice none 0 0] 25 ?_; intro gb147 hg w32 hbox hb; replace HO1_0 := Aside0.mk (Kd.V_below (Kd.V_elderB (y10 HO1_0.out) gb147 (Nat.le_of_eq hg.symm)) hb); replace HB := Aside0.mk (below_step (y30 HB.out HI0.out GE146.out) hb); have BK147 := Aside0.mk hbox; have GW147 := Aside0.mk ((by rw [hg]; exact (keep_size (w := w) (g := g) (row := none) (y25 HK.out GW146.out)) : w.heap.size ≤ gb147)); have GE147 := Aside0.mk ((Nat.le_trans HW0.out (by rw [hg]; exact (keep_size (w := w) (g := g) (row := none) (y25 HK.out GW146.out)) : w.heap.size ≤ gb147) : w0.heap.size ≤ gb147)); replace HK := Aside0.mk (KeepBut.trans (y25 HK.out GW146.out) (KeepBut.of_below hb g none) (.inl rfl)); have NB146_147 := zltn hg BK146; have NB147_146 := zgtn hg BK146; replace BK146 := zbb BK146 hb; have NB0_147 := Aside0.mk ((by rw [hg]; exact Nat.ne_of_lt (IsS75.lt (show IsS75 w0 _ g s0_0 s0_1 from by repeat (first | (with_reducible first | exact HI0.out | apply IsS75.alloc | apply IsS75.drewN | apply IsS75.drew | apply IsS75.set_1 | refine IsS75.far ?_ NB0_146.out _) | exact HI0.out))) : g ≠ gb147)); have NB147_0 := Aside0.mk ((by rw [hg]; exact Nat.ne_of_gt (IsS75.lt (show IsS75 w0 _ g s0_0 s0_1 from by repeat (first | (with_reducible first | exact HI0.out | apply IsS75.alloc | apply IsS75.drewN | apply IsS75.drew | apply IsS75.set_1 | refine IsS75.far ?_ NB0_146.out _) | exact HI0.out))) : gb147 ≠ g)); replace HI0 := Aside0.mk (IsS75.below (y31 HI0.out NB0_146.out) hb); clear hb hbox hg; have hnb33 := NB146_147.out; have hnc33 := NB147_146.out; have hnb34 := NB146_0.out; have hnc34 := NB0_146.out; have hcz35_0 := zh BK146; have hfz35_0 := zfr BK146 0) | ((with_reducible refine gate_callee (f := 55) rfl ?_); refine goesL_ (some 9) rfl rfl Try.func55 (by kernel_rfl) rfl #[.pointer (some ⟨g, 0, none⟩), .agg #[.slice A1_0 l1_0.length c1_0]] rfl y8 ?_; (with_reducible refine (spec_l71Val.calls k g s0_0 s0_1 (fun k_ => ((((P1_0_ k_ ∨ w.heap.size ≤ k_) ∧ k_ ≠ g) ∧ k_ ≠ gb146) ∧ k_ ≠ gb147)) _ _ l1_0 t148 t149 t152 w0 _ ?side1 ?side2 ?side3 A3.out).mono ?_); (case side1 => exact y21 HI0.out NB0_146.out NB0_147.out); (case side2 => exact y17 HB.out HI0.out GE146.out GE147.out); (case side3 => exact y94 HO1_0.out); rintro e w36 ⟨v150, rfl, ho0, hi, hb, hk⟩; refine ⟨_, rfl, ?_⟩; replace HO1_0 := Aside0.mk (Kd.V_mono (Kd.V_told (Kd.V_oldK (Kd.V_mono (ok := fun k_ => (((((P1_0_ k_ ∨ w.heap.size ≤ k_)) ∧ k_ ≠ g) ∧ k_ ≠ gb146) ∧ k_ ≠ gb147)) (y10 HO1_0.out) (fun k_ hk_ => (⟨hk_, hk_.1.1.2⟩ : _ ∧ k_ ≠ g))) hk) (Kd.N_base ho0)) (fun _ h_ => h_.1)); have HO151 := Aside0.mk (Kd.N_lower (Kd.N_mono (ok' := fun k_ => (P1_0_ k_ ∨ w.heap.size ≤ k_) ∧ k_ ≠ gb146 ∧ k_ ≠ gb147 ∧ k_ ≠ g) ho0 (fun k_ hk_ => ⟨Or.elim hk_ (fun hs_ => hs_.1.1.1) (fun hn_ => (.inr (Nat.le_trans (keep_size (w := w) (g := g) (row := none) (y18 HK.out GW146.out GW147.out)) hn_))), Or.elim hk_ (fun hs_ => hs_.1.2) (fun hn_ => (Kd.freshB (g := gb146) (o := .cells #[.slice A1_0 l1_0.length c1_0] 50 (0, 0)) (y0 BK146.out) k_ hn_)), Or.elim hk_ (fun hs_ => hs_.2) (fun hn_ => (Kd.freshB (g := gb147) (o := .cells #[.int .i64 0, .slice none 0 0] 25 (0, 0)) (y0 BK147.out) k_ hn_)), Or.elim hk_ (fun hs_ => hs_.1.1.2) (fun hn_ => (IsS75.fresh (y21 HI0.out NB0_146.out NB0_147.out) k_ hn_))⟩)) (keep_size (w := w) (g := g) (row := none) (y18 HK.out GW146.out GW147.out))); replace BK146 := Aside0.mk (KeepBut.blk hk (g' := gb146) (o := .cells #[.slice A1_0 l1_0.length c1_0] 50 (0, 0)) (y0 BK146.out) NB146_0.out (by simp)); replace BK147 := Aside0.mk (KeepBut.blk hk (g' := gb147) (o := .cells #[.int .i64 0, .slice none 0 0] 25 (0, 0)) (y0 BK147.out) NB147_0.out (by simp)); replace HK := Aside0.mk (KeepBut.trans (y18 HK.out GW146.out GW147.out) hk (.inl rfl)); replace HB := Aside0.mk (hb); replace HI0 := Aside0.mk (hi); (try clear hb); (try clear hb2); (try clear hk); (try clear hi); (try clear ho0)) | ((with_reducible refine gate_dst (N := 5) rfl ?_); refine zbx 5 #[.int .i64 0, .slice none 0 0] 25 ?_; intro gb153 hg w37 hbox hb; replace HO1_0 := Aside0.mk (Kd.V_below (Kd.V_elderB (y10 HO1_0.out) gb153 (Nat.le_of_eq hg.symm)) hb); replace HO151 := Aside0.mk (Kd.N_below (Kd.N_elderB (y3 HO151.out) gb153 (Nat.le_of_eq hg.symm)) hb); replace HB := Aside0.mk (below_step (y17 HB.out HI0.out GE146.out GE147.out) hb); have BK153 := Aside0.mk hbox; have GW153 := Aside0.mk ((by rw [hg]; exact (keep_size (w := w) (g := g) (row := none) (y18 HK.out GW146.out GW147.out)) : w.heap.size ≤ gb153)); have GE153 := Aside0.mk ((Nat.le_trans HW0.out (by rw [hg]; exact (keep_size (w := w) (g := g) (row := none) (y18 HK.out GW146.out GW147.out)) : w.heap.size ≤ gb153) : w0.heap.size ≤ gb153)); replace HK := Aside0.mk (KeepBut.trans (y18 HK.out GW146.out GW147.out) (KeepBut.of_below hb g none) (.inl rfl)); have NB146_153 := zltn hg BK146; have NB153_146 := zgtn hg BK146; replace BK146 := zbb BK146 hb; have NB147_153 := zltn hg BK147; have NB153_147 := zgtn hg BK147; replace BK147 := zbb BK147 hb; have NB0_153 := Aside0.mk ((by rw [hg]; exact Nat.ne_of_lt (IsS75.lt (show IsS75 w0 _ g s0_0 t152 from by repeat (first | (with_reducible first | exact HI0.out | apply IsS75.alloc | apply IsS75.drewN | apply IsS75.drew | apply IsS75.set_1 | refine IsS75.far ?_ NB0_146.out _ | refine IsS75.far ?_ NB0_147.out _) | exact HI0.out))) : g ≠ gb153)); have NB153_0 := Aside0.mk ((by rw [hg]; exact Nat.ne_of_gt (IsS75.lt (show IsS75 w0 _ g s0_0 t152 from by repeat (first | (with_reducible first | exact HI0.out | apply IsS75.alloc | apply IsS75.drewN | apply IsS75.drew | apply IsS75.set_1 | refine IsS75.far ?_ NB0_146.out _ | refine IsS75.far ?_ NB0_147.out _) | exact HI0.out))) : gb153 ≠ g)); replace HI0 := Aside0.mk (IsS75.below (y21 HI0.out NB0_146.out NB0_147.out) hb); clear hb hbox hg; have hnb38 := NB153_146.out; have hnc38 := NB146_153.out; have hnb39 := NB153_147.out; have hnc39 := NB147_153.out; have hnb40 := NB153_0.out; have hnc40 := NB0_153.out; have hcz41_0 := zh BK153; have hcz41_1 := zh1 BK153; have hfz41_0 := zfr BK153 0; have hfz41_1 := zfr BK153 1; obtain ⟨Ao42, co42, eo42⟩ := Kd.N_slice HO151.out; subst eo42) | ((with_reducible refine gate_callee (f := 32) rfl ?_); refine goesL_ (some 11) rfl rfl Try.func32 (by kernel_rfl) rfl #[.pointer (some ⟨g, 0, none⟩), .int .i64 12] rfl y8 ?_; (with_reducible refine (spec_l6Rd_pick.calls k g s0_0 t152 12 t154 t155 w0 _ ?side1 ?side2 A4.out).mono ?_); (case side1 => exact y26 HI0.out NB0_146.out NB0_147.out NB0_153.out); (case side2 => exact y24 HB.out HI0.out GE146.out GE147.out GE153.out); rintro e w43 ⟨rfl, hi, hb, hk⟩; refine ⟨_, rfl, ?_⟩; replace HO1_0 := Aside0.mk (Kd.V_mono (Kd.V_keep (Kd.V_mono (ok := fun k_ => (((((((P1_0_ k_ ∨ w.heap.size ≤ k_)) ∧ k_ ≠ g) ∧ k_ ≠ gb146) ∧ k_ ≠ gb147) ∧ some k_ ≠ (.slice Ao42 t149.length co42 : Value).ownBlock) ∧ k_ ≠ gb153)) (by (with_reducible repeat (first | apply Kd.V_alloc | apply Kd.V_drewN | apply Kd.V_drew)); exact (Kd.V_mono (Kd.V_far (p := ⟨gb153, 1, none⟩) (Kd.V_far (p := ⟨gb153, 0, none⟩) (Kd.V_mono HO1_0.out (fun k_ hk => (⟨hk, hk.2⟩ : _ ∧ k_ ≠ gb153))) (fun _ hk => hk.2) (.int .i64 t148)) (fun _ hk => hk.2) (.slice Ao42 t149.length co42)) (fun _ h_ => h_.1))) (fun k_ hk_ => (⟨hk_, hk_.1.1.1.1.2⟩ : _ ∧ k_ ≠ g))) hk (fun _ h => h.2)) (fun _ h => h.1)); replace BK146 := Aside0.mk (KeepBut.blk hk (g' := gb146) (o := .cells #[.slice A1_0 l1_0.length c1_0] 50 (0, 0)) (y1 NB146_153.out BK146.out) NB146_0.out (by simp)); replace BK147 := Aside0.mk (KeepBut.blk hk (g' := gb147) (o := .cells #[.int .i64 0, .slice none 0 0] 25 (0, 0)) (y1 NB147_153.out BK147.out) NB147_0.out (by simp)); replace HO151 := Aside0.mk (Kd.N_mono (Kd.N_keep (Kd.N_mono (ok := fun k_ => ((((P1_0_ k_ ∨ w.heap.size ≤ k_)) ∧ (k_ ≠ gb146 ∧ (k_ ≠ gb147 ∧ k_ ≠ g))) ∧ k_ ≠ gb153)) (by (with_reducible repeat (first | apply Kd.N_alloc | apply Kd.N_drewN | apply Kd.N_drew)); exact (Kd.N_mono (Kd.N_far (p := ⟨gb153, 1, none⟩) (Kd.N_far (p := ⟨gb153, 0, none⟩) (Kd.N_mono HO151.out (fun k_ hk => (⟨hk, hk.2⟩ : _ ∧ k_ ≠ gb153))) (fun _ hk => hk.2) (.int .i64 t148)) (fun _ hk => hk.2) (.slice Ao42 t149.length co42)) (fun _ h_ => h_.1))) (fun k_ hk_ => (⟨hk_, hk_.1.2.2.2⟩ : _ ∧ k_ ≠ g))) hk (fun _ h => h.2)) (fun _ h => h.1)); replace BK153 := Aside0.mk (KeepBut.blk hk (g' := gb153) (o := .cells #[.int .i64 t148, .slice Ao42 t149.length co42] 25 (0, 0)) (by (with_reducible repeat (first | refine blk_drewN ?_ _ | refine blk_drew ?_ | refine blk_alloc ?_ _)); refine blk_put (cs := #[.int .i64 t148, .slice none 0 0]) ?_ 1 _ rfl; (with_reducible repeat (first | refine blk_drewN ?_ _ | refine blk_drew ?_ | refine blk_alloc ?_ _)); apply blk_put (i := 0); (case h => exact y0 BK153.out); (case e => rfl)) NB153_0.out (by simp)); replace HK := Aside0.mk (KeepBut.trans (y33 HK.out GW146.out GW147.out GW153.out) hk (.inl rfl)); replace HB := Aside0.mk (hb); replace HI0 := Aside0.mk (hi); (try clear hb); (try clear hb2); (try clear hk); (try clear hi); have hcz44_0 := zh BK153; have hcz44_1 := zh1 BK153; have hfz44_0 := zfr BK153 0; have hfz44_1 := zfr BK153 1) | ((with_reducible refine gate_builtin (b := .append) (xs := #[.tmp 23, .tmp 25]) rfl ?_); at_builtin; refine Kd.N_append k25 w.heap.size rfl (.tmp 23) (.tmp 25) 23 25 (.agg #[(.int .i64 0), (.slice none 0 0)]) 32 rfl Try.underlying23 info25 rfl (by decide) (by omega) (.slice Ao42 t149.length co42) t149 (⟨0, ([] : List (S25))⟩ : S25) [.int .i64 0, .slice none 0 0] (fun k_ => (P1_0_ k_ ∨ w.heap.size ≤ k_) ∧ k_ ≠ gb146 ∧ k_ ≠ gb147 ∧ k_ ≠ gb153 ∧ k_ ≠ g) (fun k_ => ((fun k_ => (P1_0_ k_ ∨ w.heap.size ≤ k_) ∧ k_ ≠ gb146 ∧ k_ ≠ gb147 ∧ k_ ≠ gb153 ∧ k_ ≠ g)) k_ ∧ some k_ ≠ (.slice Ao42 t149.length co42 : Value).ownBlock) rfl rfl ?aP (fun _ hk => hk) ?aF ?aO (Below.refl _ _) ?aS ?aL ?_; (case aP => exact (k25_mkF _ _ (⟨0, ([] : List (S25))⟩ : S25) (Nat.le_refl _) (Kd.F_nil _ _ _))); (case aF => exact (fun k_ hk => ⟨(.inr (Nat.le_trans (keep_size (w := w) (g := g) (row := none) (y33 HK.out GW146.out GW147.out GW153.out)) hk)), Kd.freshB (g := gb146) (o := .cells #[.slice A1_0 l1_0.length c1_0] 50 (0, 0)) (y0 BK146.out) k_ hk, Kd.freshB (g := gb147) (o := .cells #[.int .i64 0, .slice none 0 0] 25 (0, 0)) (y0 BK147.out) k_ hk, Kd.freshB (g := gb153) (o := .cells #[.int .i64 t148, .slice Ao42 t149.length co42] 25 (0, 0)) (y0 BK153.out) k_ hk, IsS75.fresh (y26 HI0.out NB0_146.out NB0_147.out NB0_153.out) k_ hk⟩)); (case aO => exact (y84 HO151.out)); (case aS => exact (keep_size (w := w) (g := g) (row := none) (y33 HK.out GW146.out GW147.out GW153.out))); (case aL => exact y57 LMc30.out); intro v163 w45 ho hb hg hat; rw [← Ny162.out] at ho; replace HO1_0 := Aside0.mk (Kd.V_afterv (ok := (fun k_ => (P1_0_ k_ ∨ w.heap.size ≤ k_) ∧ k_ ≠ g ∧ k_ ≠ gb146 ∧ k_ ≠ gb147 ∧ k_ ≠ gb153)) (by (with_reducible repeat (first | apply Kd.V_alloc | apply Kd.V_drewN | apply Kd.V_drew)); exact Kd.V_mono HO1_0.out (fun _ hk => ⟨⟨hk.1.1.1.1.1, ⟨hk.1.1.1.1.2, ⟨hk.1.1.1.2, ⟨hk.1.1.2, hk.2⟩⟩⟩⟩, hk.1.2⟩)) hg hat); replace BK146 := Aside0.mk (blk_grown (g := gb146) (o := .cells #[.slice A1_0 l1_0.length c1_0] 50 (0, 0)) (y0 BK146.out) hg (Kd.N_ne HO151.out BK146.out (by decide))); replace BK147 := Aside0.mk (blk_grown (g := gb147) (o := .cells #[.int .i64 0, .slice none 0 0] 25 (0, 0)) (y0 BK147.out) hg (Kd.N_away HO151.out (fun _ hk => hk.1.2.2.1))); replace BK153 := Aside0.mk (blk_grown (g := gb153) (o := .cells #[.int .i64 t148, .slice Ao42 t149.length co42] 25 (0, 0)) (y0 BK153.out) hg (Kd.N_away HO151.out (fun _ hk => hk.2))); replace HB := Aside0.mk (below_weaken (y24 HB.out HI0.out GE146.out GE147.out GE153.out) HL.out hb); replace HI0 := Aside0.mk (IsS75.grown (y26 HI0.out NB0_146.out NB0_147.out NB0_153.out) hg (IsS75.own_neN HI0.out HO151.out (by decide))); replace HK := Aside0.mk (KeepBut.trans (y33 HK.out GW146.out GW147.out GW153.out) (KeepBut.of_grown hg g) (Kd.N_base2 HO151.out)); have HO164 := Aside0.mk (ho); clear HO151; clear ho hb hg hat; obtain ⟨Ao46, co46, eo46⟩ := Kd.N_slice HO164.out; subst eo46; have hcz47_0 := zh BK153; have hcz47_1 := zh1 BK153; have hfz47_0 := zfr BK153 0; have hfz47_1 := zfr BK153 1; have hnb48 := NB147_0.out; have hnc48 := NB0_147.out; have hcz49_0 := zh BK147; have hcz49_1 := zh1 BK147; have hfz49_0 := zfr BK147 0; have hfz49_1 := zfr BK147 1))
    refine bodyPost_ret (results_cell_row rfl _ _ gb147 25 #[.int .i64 t148, .slice Ao46 y162.length co46] (0, 0) _ rfl (by (with_reducible repeat (first | refine blk_drewN ?_ _ | refine blk_drew ?_ | refine blk_alloc ?_ _)); refine blk_put (cs := #[.int .i64 t148, .slice none 0 0]) ?_ 1 _ rfl; (with_reducible repeat (first | refine blk_drewN ?_ _ | refine blk_drew ?_ | refine blk_alloc ?_ _)); refine blk_put (cs := #[.int .i64 0, .slice none 0 0]) ?_ 0 _ rfl; (with_reducible repeat (first | refine blk_drewN ?_ _ | refine blk_drew ?_ | refine blk_alloc ?_ _)); refine blk_far ?_ NB147_153.out _; (with_reducible repeat (first | refine blk_drewN ?_ _ | refine blk_drew ?_ | refine blk_alloc ?_ _)); exact BK147.out) Try.underlying25 rfl (by kernel_rfl)) rfl ?_
    exact ⟨_, y19, (by (with_reducible repeat (first | apply Kd.N_alloc | apply Kd.N_drewN | apply Kd.N_drew)); exact Kd.N_mono (Kd.N_far (p := ⟨gb147, 1, none⟩) (Kd.N_far (p := ⟨gb147, 0, none⟩) (Kd.N_far (p := ⟨gb153, 1, none⟩) (Kd.N_mono (Kd.N_mono HO164.out (fun k_ hk => (⟨hk, hk.2.2.2.1⟩ : _ ∧ k_ ≠ gb153))) (fun k_ hk => (⟨hk, hk.1.2.2.1⟩ : _ ∧ k_ ≠ gb147))) (fun _ hk => hk.1.2) (.slice Ao46 y162.length co46)) (fun _ hk => hk.2) (.int .i64 t148)) (fun _ hk => hk.2) (.slice Ao46 y162.length co46)) (fun _ hk => hk.1.1.1)), (y26 HI0.out NB0_146.out NB0_147.out NB0_153.out), (y24 HB.out HI0.out GE146.out GE147.out GE153.out), (y33 HK.out GW146.out GW147.out GW153.out)⟩
   ·rw [if_neg c30] at H
    exact absurd H (by simp)
  ·rw [if_neg c29] at H
   have c29b0 : (t154 == 1) = false := beq_eq_false_iff_ne.mpr c29
   have c29b1 : (t154 != 1) = true := bne_iff_ne.mpr c29
   by_cases c50 : t154 = 2
   ·rw [if_pos c50] at H
    have c50b0 : (t154 == 2) = true := beq_iff_eq.mpr c50
    have c50b1 : (t154 != 2) = false := bne_eq_false_iff_eq.mpr c50
    clear c50
    have H' := Aside0.mk H
    clear H
    go_enter Try.func33, Try.ntmps33
    go_wp2_with (first | ((with_reducible refine gate_dst (N := 3) rfl ?_); refine zbx 3 #[.slice A1_0 l1_0.length c1_0] 50 ?_; intro gb146 hg w51 hbox hb; replace HO1_0 := Aside0.mk (Kd.V_below (Kd.V_elderB (y10 HO1_0.out) gb146 (Nat.le_of_eq hg.symm)) hb); replace HB := Aside0.mk (below_step (y40 HB.out HI0.out) hb); have BK146 := Aside0.mk hbox; have GW146 := Aside0.mk ((by rw [hg]; exact (keep_size (w := w) (g := g) (row := none) (y29 HK.out)) : w.heap.size ≤ gb146)); have GE146 := Aside0.mk ((Nat.le_trans HW0.out (by rw [hg]; exact (keep_size (w := w) (g := g) (row := none) (y29 HK.out)) : w.heap.size ≤ gb146) : w0.heap.size ≤ gb146)); replace HK := Aside0.mk (KeepBut.trans (y29 HK.out) (KeepBut.of_below hb g none) (.inl rfl)); have NB0_146 := Aside0.mk ((by rw [hg]; exact Nat.ne_of_lt (IsS75.lt (show IsS75 w0 _ g s0_0 s0_1 from by repeat (first | (with_reducible first | exact HI0.out | apply IsS75.alloc | apply IsS75.drewN | apply IsS75.drew | apply IsS75.set_1) | exact HI0.out))) : g ≠ gb146)); have NB146_0 := Aside0.mk ((by rw [hg]; exact Nat.ne_of_gt (IsS75.lt (show IsS75 w0 _ g s0_0 s0_1 from by repeat (first | (with_reducible first | exact HI0.out | apply IsS75.alloc | apply IsS75.drewN | apply IsS75.drew | apply IsS75.set_1) | exact HI0.out))) : gb146 ≠ g)); replace HI0 := Aside0.mk (IsS75.below (y41 HI0.out) hb); clear hb hbox hg) | ((with_reducible refine gate_dst (N := 4) rfl ?_); refine zbx 4 #[.int .i64 0, .slice none 0 0] 25 ?_; intro gb147 hg w52 hbox hb; replace HO1_0 := Aside0.mk (Kd.V_below (Kd.V_elderB (y10 HO1_0.out) gb147 (Nat.le_of_eq hg.symm)) hb); replace HB := Aside0.mk (below_step (y30 HB.out HI0.out GE146.out) hb); have BK147 := Aside0.mk hbox; have GW147 := Aside0.mk ((by rw [hg]; exact (keep_size (w := w) (g := g) (row := none) (y25 HK.out GW146.out)) : w.heap.size ≤ gb147)); have GE147 := Aside0.mk ((Nat.le_trans HW0.out (by rw [hg]; exact (keep_size (w := w) (g := g) (row := none) (y25 HK.out GW146.out)) : w.heap.size ≤ gb147) : w0.heap.size ≤ gb147)); replace HK := Aside0.mk (KeepBut.trans (y25 HK.out GW146.out) (KeepBut.of_below hb g none) (.inl rfl)); have NB146_147 := zltn hg BK146; have NB147_146 := zgtn hg BK146; replace BK146 := zbb BK146 hb; have NB0_147 := Aside0.mk ((by rw [hg]; exact Nat.ne_of_lt (IsS75.lt (show IsS75 w0 _ g s0_0 s0_1 from by repeat (first | (with_reducible first | exact HI0.out | apply IsS75.alloc | apply IsS75.drewN | apply IsS75.drew | apply IsS75.set_1 | refine IsS75.far ?_ NB0_146.out _) | exact HI0.out))) : g ≠ gb147)); have NB147_0 := Aside0.mk ((by rw [hg]; exact Nat.ne_of_gt (IsS75.lt (show IsS75 w0 _ g s0_0 s0_1 from by repeat (first | (with_reducible first | exact HI0.out | apply IsS75.alloc | apply IsS75.drewN | apply IsS75.drew | apply IsS75.set_1 | refine IsS75.far ?_ NB0_146.out _) | exact HI0.out))) : gb147 ≠ g)); replace HI0 := Aside0.mk (IsS75.below (y31 HI0.out NB0_146.out) hb); clear hb hbox hg; have hnb53 := NB146_147.out; have hnc53 := NB147_146.out; have hnb54 := NB146_0.out; have hnc54 := NB0_146.out; have hcz55_0 := zh BK146; have hfz55_0 := zfr BK146 0) | ((with_reducible refine gate_callee (f := 55) rfl ?_); refine goesL_ (some 9) rfl rfl Try.func55 (by kernel_rfl) rfl #[.pointer (some ⟨g, 0, none⟩), .agg #[.slice A1_0 l1_0.length c1_0]] rfl y8 ?_; (with_reducible refine (spec_l71Val.calls k g s0_0 s0_1 (fun k_ => ((((P1_0_ k_ ∨ w.heap.size ≤ k_) ∧ k_ ≠ g) ∧ k_ ≠ gb146) ∧ k_ ≠ gb147)) _ _ l1_0 t148 t149 t152 w0 _ ?side1 ?side2 ?side3 A3.out).mono ?_); (case side1 => exact y21 HI0.out NB0_146.out NB0_147.out); (case side2 => exact y17 HB.out HI0.out GE146.out GE147.out); (case side3 => exact y94 HO1_0.out); rintro e w56 ⟨v150, rfl, ho0, hi, hb, hk⟩; refine ⟨_, rfl, ?_⟩; replace HO1_0 := Aside0.mk (Kd.V_mono (Kd.V_told (Kd.V_oldK (Kd.V_mono (ok := fun k_ => (((((P1_0_ k_ ∨ w.heap.size ≤ k_)) ∧ k_ ≠ g) ∧ k_ ≠ gb146) ∧ k_ ≠ gb147)) (y10 HO1_0.out) (fun k_ hk_ => (⟨hk_, hk_.1.1.2⟩ : _ ∧ k_ ≠ g))) hk) (Kd.N_base ho0)) (fun _ h_ => h_.1)); have HO151 := Aside0.mk (Kd.N_lower (Kd.N_mono (ok' := fun k_ => (P1_0_ k_ ∨ w.heap.size ≤ k_) ∧ k_ ≠ gb146 ∧ k_ ≠ gb147 ∧ k_ ≠ g) ho0 (fun k_ hk_ => ⟨Or.elim hk_ (fun hs_ => hs_.1.1.1) (fun hn_ => (.inr (Nat.le_trans (keep_size (w := w) (g := g) (row := none) (y18 HK.out GW146.out GW147.out)) hn_))), Or.elim hk_ (fun hs_ => hs_.1.2) (fun hn_ => (Kd.freshB (g := gb146) (o := .cells #[.slice A1_0 l1_0.length c1_0] 50 (0, 0)) (y0 BK146.out) k_ hn_)), Or.elim hk_ (fun hs_ => hs_.2) (fun hn_ => (Kd.freshB (g := gb147) (o := .cells #[.int .i64 0, .slice none 0 0] 25 (0, 0)) (y0 BK147.out) k_ hn_)), Or.elim hk_ (fun hs_ => hs_.1.1.2) (fun hn_ => (IsS75.fresh (y21 HI0.out NB0_146.out NB0_147.out) k_ hn_))⟩)) (keep_size (w := w) (g := g) (row := none) (y18 HK.out GW146.out GW147.out))); replace BK146 := Aside0.mk (KeepBut.blk hk (g' := gb146) (o := .cells #[.slice A1_0 l1_0.length c1_0] 50 (0, 0)) (y0 BK146.out) NB146_0.out (by simp)); replace BK147 := Aside0.mk (KeepBut.blk hk (g' := gb147) (o := .cells #[.int .i64 0, .slice none 0 0] 25 (0, 0)) (y0 BK147.out) NB147_0.out (by simp)); replace HK := Aside0.mk (KeepBut.trans (y18 HK.out GW146.out GW147.out) hk (.inl rfl)); replace HB := Aside0.mk (hb); replace HI0 := Aside0.mk (hi); (try clear hb); (try clear hb2); (try clear hk); (try clear hi); (try clear ho0)) | ((with_reducible refine gate_dst (N := 5) rfl ?_); refine zbx 5 #[.int .i64 0, .slice none 0 0] 25 ?_; intro gb153 hg w57 hbox hb; replace HO1_0 := Aside0.mk (Kd.V_below (Kd.V_elderB (y10 HO1_0.out) gb153 (Nat.le_of_eq hg.symm)) hb); replace HO151 := Aside0.mk (Kd.N_below (Kd.N_elderB (y3 HO151.out) gb153 (Nat.le_of_eq hg.symm)) hb); replace HB := Aside0.mk (below_step (y17 HB.out HI0.out GE146.out GE147.out) hb); have BK153 := Aside0.mk hbox; have GW153 := Aside0.mk ((by rw [hg]; exact (keep_size (w := w) (g := g) (row := none) (y18 HK.out GW146.out GW147.out)) : w.heap.size ≤ gb153)); have GE153 := Aside0.mk ((Nat.le_trans HW0.out (by rw [hg]; exact (keep_size (w := w) (g := g) (row := none) (y18 HK.out GW146.out GW147.out)) : w.heap.size ≤ gb153) : w0.heap.size ≤ gb153)); replace HK := Aside0.mk (KeepBut.trans (y18 HK.out GW146.out GW147.out) (KeepBut.of_below hb g none) (.inl rfl)); have NB146_153 := zltn hg BK146; have NB153_146 := zgtn hg BK146; replace BK146 := zbb BK146 hb; have NB147_153 := zltn hg BK147; have NB153_147 := zgtn hg BK147; replace BK147 := zbb BK147 hb; have NB0_153 := Aside0.mk ((by rw [hg]; exact Nat.ne_of_lt (IsS75.lt (show IsS75 w0 _ g s0_0 t152 from by repeat (first | (with_reducible first | exact HI0.out | apply IsS75.alloc | apply IsS75.drewN | apply IsS75.drew | apply IsS75.set_1 | refine IsS75.far ?_ NB0_146.out _ | refine IsS75.far ?_ NB0_147.out _) | exact HI0.out))) : g ≠ gb153)); have NB153_0 := Aside0.mk ((by rw [hg]; exact Nat.ne_of_gt (IsS75.lt (show IsS75 w0 _ g s0_0 t152 from by repeat (first | (with_reducible first | exact HI0.out | apply IsS75.alloc | apply IsS75.drewN | apply IsS75.drew | apply IsS75.set_1 | refine IsS75.far ?_ NB0_146.out _ | refine IsS75.far ?_ NB0_147.out _) | exact HI0.out))) : gb153 ≠ g)); replace HI0 := Aside0.mk (IsS75.below (y21 HI0.out NB0_146.out NB0_147.out) hb); clear hb hbox hg; have hnb58 := NB153_146.out; have hnc58 := NB146_153.out; have hnb59 := NB153_147.out; have hnc59 := NB147_153.out; have hnb60 := NB153_0.out; have hnc60 := NB0_153.out; have hcz61_0 := zh BK153; have hcz61_1 := zh1 BK153; have hfz61_0 := zfr BK153 0; have hfz61_1 := zfr BK153 1; obtain ⟨Ao62, co62, eo62⟩ := Kd.N_slice HO151.out; subst eo62) | ((with_reducible refine gate_callee (f := 32) rfl ?_); refine goesL_ (some 11) rfl rfl Try.func32 (by kernel_rfl) rfl #[.pointer (some ⟨g, 0, none⟩), .int .i64 12] rfl y8 ?_; (with_reducible refine (spec_l6Rd_pick.calls k g s0_0 t152 12 t154 t155 w0 _ ?side1 ?side2 A4.out).mono ?_); (case side1 => exact y26 HI0.out NB0_146.out NB0_147.out NB0_153.out); (case side2 => exact y24 HB.out HI0.out GE146.out GE147.out GE153.out); rintro e w63 ⟨rfl, hi, hb, hk⟩; refine ⟨_, rfl, ?_⟩; replace HO1_0 := Aside0.mk (Kd.V_mono (Kd.V_keep (Kd.V_mono (ok := fun k_ => (((((((P1_0_ k_ ∨ w.heap.size ≤ k_)) ∧ k_ ≠ g) ∧ k_ ≠ gb146) ∧ k_ ≠ gb147) ∧ some k_ ≠ (.slice Ao62 t149.length co62 : Value).ownBlock) ∧ k_ ≠ gb153)) (by (with_reducible repeat (first | apply Kd.V_alloc | apply Kd.V_drewN | apply Kd.V_drew)); exact (Kd.V_mono (Kd.V_far (p := ⟨gb153, 1, none⟩) (Kd.V_far (p := ⟨gb153, 0, none⟩) (Kd.V_mono HO1_0.out (fun k_ hk => (⟨hk, hk.2⟩ : _ ∧ k_ ≠ gb153))) (fun _ hk => hk.2) (.int .i64 t148)) (fun _ hk => hk.2) (.slice Ao62 t149.length co62)) (fun _ h_ => h_.1))) (fun k_ hk_ => (⟨hk_, hk_.1.1.1.1.2⟩ : _ ∧ k_ ≠ g))) hk (fun _ h => h.2)) (fun _ h => h.1)); replace BK146 := Aside0.mk (KeepBut.blk hk (g' := gb146) (o := .cells #[.slice A1_0 l1_0.length c1_0] 50 (0, 0)) (y1 NB146_153.out BK146.out) NB146_0.out (by simp)); replace BK147 := Aside0.mk (KeepBut.blk hk (g' := gb147) (o := .cells #[.int .i64 0, .slice none 0 0] 25 (0, 0)) (y1 NB147_153.out BK147.out) NB147_0.out (by simp)); replace HO151 := Aside0.mk (Kd.N_mono (Kd.N_keep (Kd.N_mono (ok := fun k_ => ((((P1_0_ k_ ∨ w.heap.size ≤ k_)) ∧ (k_ ≠ gb146 ∧ (k_ ≠ gb147 ∧ k_ ≠ g))) ∧ k_ ≠ gb153)) (by (with_reducible repeat (first | apply Kd.N_alloc | apply Kd.N_drewN | apply Kd.N_drew)); exact (Kd.N_mono (Kd.N_far (p := ⟨gb153, 1, none⟩) (Kd.N_far (p := ⟨gb153, 0, none⟩) (Kd.N_mono HO151.out (fun k_ hk => (⟨hk, hk.2⟩ : _ ∧ k_ ≠ gb153))) (fun _ hk => hk.2) (.int .i64 t148)) (fun _ hk => hk.2) (.slice Ao62 t149.length co62)) (fun _ h_ => h_.1))) (fun k_ hk_ => (⟨hk_, hk_.1.2.2.2⟩ : _ ∧ k_ ≠ g))) hk (fun _ h => h.2)) (fun _ h => h.1)); replace BK153 := Aside0.mk (KeepBut.blk hk (g' := gb153) (o := .cells #[.int .i64 t148, .slice Ao62 t149.length co62] 25 (0, 0)) (by (with_reducible repeat (first | refine blk_drewN ?_ _ | refine blk_drew ?_ | refine blk_alloc ?_ _)); refine blk_put (cs := #[.int .i64 t148, .slice none 0 0]) ?_ 1 _ rfl; (with_reducible repeat (first | refine blk_drewN ?_ _ | refine blk_drew ?_ | refine blk_alloc ?_ _)); apply blk_put (i := 0); (case h => exact y0 BK153.out); (case e => rfl)) NB153_0.out (by simp)); replace HK := Aside0.mk (KeepBut.trans (y33 HK.out GW146.out GW147.out GW153.out) hk (.inl rfl)); replace HB := Aside0.mk (hb); replace HI0 := Aside0.mk (hi); (try clear hb); (try clear hb2); (try clear hk); (try clear hi)))
    go_loopg [6] k (fun kq v6 w' => ∃ (x6_1 : Int) (x154000_1 : Int) (x154001_1 : List (S25)) (u154001 : Value), v6 = .int .i64 x6_1 ∧ Aside0 (spec_l71Bad.l0 kq x6_1 s0_0 t155 x154000_1 x154001_1 = some (r1, r2, r3)) ∧ Aside0 (kq ≤ k) ∧ Aside0 (Kd.V k50 50 w' w.heap.size (fun k_ => (P1_0_ k_ ∨ w.heap.size ≤ k_) ∧ some k_ ≠ (u154001 : Value).ownBlock ∧ k_ ≠ gb146 ∧ k_ ≠ gb147 ∧ k_ ≠ gb153 ∧ k_ ≠ g) (.slice A1_0 l1_0.length c1_0) l1_0) ∧ Aside0 (Kd.N k25 25 w' w.heap.size (fun k_ => (P1_0_ k_ ∨ w.heap.size ≤ k_) ∧ k_ ≠ gb146 ∧ k_ ≠ gb147 ∧ k_ ≠ gb153 ∧ k_ ≠ g) u154001 x154001_1) ∧ Aside0 (w'.heap[gb146]? = some (.cells #[(.slice A1_0 l1_0.length c1_0)] 50 (0, 0))) ∧ Aside0 (w'.heap[gb147]? = some (.cells #[.int .i64 0, (.slice none 0 0)] 25 (0, 0))) ∧ Aside0 (w'.heap[gb153]? = some (.cells #[.int .i64 x154000_1, u154001] 25 (0, 0))) ∧ Aside0 (IsS75 w0 w' g s0_0 t155) ∧ Aside0 (KeepBut w w' g none) ∧ Aside0 (Below w0.heap.size w0 w'))
    case atStart => exact ⟨(0), (t148), (t149), (.slice Ao62 t149.length co62), y34, H', ⟨Nat.le_refl _⟩, ⟨(by (with_reducible repeat (first | apply Kd.V_alloc | apply Kd.V_drewN | apply Kd.V_drew)); exact Kd.V_mono HO1_0.out (fun _ hk => ⟨hk.1.1.1.1.1, ⟨hk.1.2, ⟨hk.1.1.1.2, ⟨hk.1.1.2, ⟨hk.2, hk.1.1.1.1.2⟩⟩⟩⟩⟩))⟩, ⟨(y84 HO151.out)⟩, ⟨(y0 BK146.out)⟩, ⟨(y0 BK147.out)⟩, ⟨(y0 BK153.out)⟩, ⟨(y26 HI0.out NB0_146.out NB0_147.out NB0_153.out)⟩, ⟨(y33 HK.out GW146.out GW147.out GW153.out)⟩, ⟨(y24 HB.out HI0.out GE146.out GE147.out GE153.out)⟩⟩
    case round =>
     clear H'
     try clear c1
     try clear p1
     try clear q1
     try clear hx1
     try clear c2
     try clear p2
     try clear c3
     try clear c4
     try clear c5
     try clear c5b0
     try clear c5b1
     try clear c6
     try clear c7
     try clear c7b0
     try clear c8
     try clear c8b0
     try clear c11
     try clear c12
     try clear c16
     try clear p16
     try clear q16
     try clear hx16
     try clear c17
     try clear c18
     try clear c27
     try clear c29
     try clear c29b0
     try clear c29b1
     try clear c30
     try clear c32
     try clear c33
     try clear c34
     try clear c38
     try clear c39
     try clear c40
     try clear c48
     try clear c50
     try clear c50b0
     try clear c50b1
     try clear c53
     try clear c54
     try clear c55
     try clear c58
     try clear c59
     try clear c60
     try clear hcz13_0
     try clear hcz19_0
     try clear hcz19_1
     try clear hcz26_0
     try clear hcz26_1
     try clear hcz28_0
     try clear hcz28_1
     try clear hcz35_0
     try clear hcz41_0
     try clear hcz41_1
     try clear hcz44_0
     try clear hcz44_1
     try clear hcz47_0
     try clear hcz47_1
     try clear hcz49_0
     try clear hcz49_1
     try clear hcz55_0
     try clear hcz61_0
     try clear hcz61_1
     try clear hfz13_0
     try clear hfz19_0
     try clear hfz19_1
     try clear hfz26_0
     try clear hfz26_1
     try clear hfz28_0
     try clear hfz28_1
     try clear hfz35_0
     try clear hfz41_0
     try clear hfz41_1
     try clear hfz44_0
     try clear hfz44_1
     try clear hfz47_0
     try clear hfz47_1
     try clear hfz49_0
     try clear hfz49_1
     try clear hfz55_0
     try clear hfz61_0
     try clear hfz61_1
     try clear hx161_0
     try clear p161
     try clear q161
     (try clear BK146); (try clear BK147); (try clear BK153)
     obtain ⟨x6_1, x154000_1, x154001_1, u154001, rfl, HA, HK1, HO_147000, HO_154001, BK146, BK147, BK153, HI0, HK, HB⟩ := hrel
     cases gk with
     | zero => exact absurd HA.out (by simp [spec_l71Bad.l0])
     | succ k1 =>
      have H := HA.out
      clear HA
      simp only [spec_l71Bad.l0] at H
      by_cases c64 : x6_1 < 5
      ·rw [if_pos c64] at H
       have c64b0 : decide (x6_1 < 5) = true := decide_eq_true c64
       clear c64
       obtain ⟨y165, hy165⟩ : ∃ y_ : List (S25), y_ = (([(⟨x154000_1, x154001_1⟩ : S25), (⟨0, ([] : List (S25))⟩ : S25)] : List (S25))) := ⟨_, rfl⟩
       replace H : (spec_l71Bad.l0 k1 (wrap64 (x6_1 + 1)) s0_0 t155 0 y165) = some (r1, r2, r3) := by first | (rw [hy165]; with_reducible exact H) | (have H2_ := (Option.bind_some _ _).symm.trans H; rw [hy165]; with_reducible exact H2_) | (have H2_ := (Option.bind_some _ _).symm.trans H; with_reducible exact H2_) | with_reducible exact H | (rw [hy165]; exact H) | exact H
       have Ny165 := Aside0.mk hy165
       clear hy165
       have H' := Aside0.mk H
       clear H
       have hnb65 := NB153_146.out
       have hnc65 := NB146_153.out
       have hnb66 := NB153_147.out
       have hnc66 := NB147_153.out
       have hnb67 := NB153_0.out
       have hnc67 := NB0_153.out
       have hcz68_0 := zh BK153
       have hcz68_1 := zh1 BK153
       have hfz68_0 := zfr BK153 0
       have hfz68_1 := zfr BK153 1
       obtain ⟨Ao69, co69, eo69⟩ := Kd.N_slice HO_154001.out
       subst eo69
       go_wp2_with (first | ((with_reducible refine gate_dst (N := 36) rfl ?_); refine Kd.N_lit k25 _ 25 ?hg (N' := 36) ?hd (xs := ([(⟨x154000_1, x154001_1⟩ : S25), (⟨0, ([] : List (S25))⟩ : S25)] : List (S25))) (inner := [.int .i64 x154000_1, .slice Ao69 x154001_1.length co69, .int .i64 0, .slice none 0 0]) (ok := (fun k_ => (P1_0_ k_ ∨ w.heap.size ≤ k_) ∧ k_ ≠ gb146 ∧ k_ ≠ gb147 ∧ k_ ≠ gb153 ∧ k_ ≠ g)) (okp := (fun k_ => (P1_0_ k_ ∨ w.heap.size ≤ k_) ∧ k_ ≠ gb146 ∧ k_ ≠ gb147 ∧ k_ ≠ gb153 ∧ k_ ≠ g)) ?hr ?hp (fun _ hk => hk) ((show ∀ k_, wr.heap.size ≤ k_ → (fun k_ => (P1_0_ k_ ∨ w.heap.size ≤ k_) ∧ k_ ≠ gb146 ∧ k_ ≠ gb147 ∧ k_ ≠ gb153 ∧ k_ ≠ g) k_ from fun k_ hk => ⟨(.inr (Nat.le_trans (keep_size (w := w) (g := g) (row := none) (y33 HK.out GW146.out GW147.out GW153.out)) hk)), Kd.freshB (g := gb146) (o := .cells #[.slice A1_0 l1_0.length c1_0] 50 (0, 0)) (y0 BK146.out) k_ hk, Kd.freshB (g := gb147) (o := .cells #[.int .i64 0, .slice none 0 0] 25 (0, 0)) (y0 BK147.out) k_ hk, Kd.freshB (g := gb153) (o := .cells #[.int .i64 x154000_1, .slice Ao69 x154001_1.length co69] 25 (0, 0)) (y0 BK153.out) k_ hk, IsS75.fresh (y26 HI0.out NB0_146.out NB0_147.out NB0_153.out) k_ hk⟩) _ (Nat.le_refl _)) (Below.refl _ _) (Nat.le_refl _) (by simp) ?_; (case hd => rfl); (case hg => rfl); (case hr => first | (go_simp; done) | (go_simp; rfl)); (case hp => exact (Reps.c2 (show Kd.FK k25 _ _ (⟨x154000_1, x154001_1⟩ : S25) [.int .i64 x154000_1, .slice Ao69 x154001_1.length co69] from (k25_mkF _ _ (⟨x154000_1, x154001_1⟩ : S25) (Kd.N_reads' (Kd.N_mono (ok' := (fun k_ => (P1_0_ k_ ∨ w.heap.size ≤ k_) ∧ k_ ≠ gb146 ∧ k_ ≠ gb147 ∧ k_ ≠ gb153 ∧ k_ ≠ g)) (HO_154001.out) (fun k_ hk => ⟨hk.1, ⟨hk.2.1, ⟨hk.2.2.1, ⟨hk.2.2.2.1, hk.2.2.2.2⟩⟩⟩⟩))).2.1 (Kd.N_F (Kd.N_mono (ok' := (fun k_ => (P1_0_ k_ ∨ w.heap.size ≤ k_) ∧ k_ ≠ gb146 ∧ k_ ≠ gb147 ∧ k_ ≠ gb153 ∧ k_ ≠ g)) (HO_154001.out) (fun k_ hk => ⟨hk.1, ⟨hk.2.1, ⟨hk.2.2.1, ⟨hk.2.2.2.1, hk.2.2.2.2⟩⟩⟩⟩))))) (Reps.c2 (show Kd.FK k25 _ _ (⟨0, ([] : List (S25))⟩ : S25) [.int .i64 0, .slice none 0 0] from (k25_mkF _ _ (⟨0, ([] : List (S25))⟩ : S25) (Nat.le_refl _) (Kd.F_nil _ _ _))) (Reps.none _ _)))); intro v166 w70 ho71 hb hg_ hnew_; clear hg_ hnew_; (first | rw [← Ny165.out] at ho71 | (simp only [Int.reduceToNat] at ho71; rw [← Ny165.out] at ho71)); replace HO_147000 := Aside0.mk (Kd.V_elder' (y10 HO_147000.out) (Kd.N_base ho71) hb); have HO167 := Aside0.mk (Kd.N_lower ho71 (keep_size (w := w) (g := g) (row := none) (y33 HK.out GW146.out GW147.out GW153.out))); replace BK146 := zbb BK146 hb; replace BK147 := zbb BK147 hb; replace BK153 := zbb BK153 hb; replace HK := Aside0.mk (KeepBut.trans (y33 HK.out GW146.out GW147.out GW153.out) (KeepBut.of_below hb g none) (.inl rfl)); replace HB := Aside0.mk (below_step (y24 HB.out HI0.out GE146.out GE147.out GE153.out) hb); replace HI0 := Aside0.mk (IsS75.below (y26 HI0.out NB0_146.out NB0_147.out NB0_153.out) hb); clear HO_154001; clear hb ho71; obtain ⟨Ao72, co72, eo72⟩ := Kd.N_slice HO167.out; subst eo72; have hcz73_0 := zh BK153; have hcz73_1 := zh1 BK153; have hfz73_0 := zfr BK153 0; have hfz73_1 := zfr BK153 1))
       go_roundg k1
       case measure => have := HK1.out; omega
       case rel => exact ⟨(wrap64 (x6_1 + 1)), (0), (y165), (.slice Ao72 y165.length co72), y34, H', ⟨(y57 HK1.out)⟩, ⟨(by (with_reducible repeat (first | apply Kd.V_alloc | apply Kd.V_drewN | apply Kd.V_drew)); exact Kd.V_mono (Kd.V_far (p := ⟨gb153, 1, none⟩) (Kd.V_far (p := ⟨gb153, 0, none⟩) (Kd.V_mono HO_147000.out (fun k_ hk => (⟨hk, hk.1.2.2.2.2.1⟩ : _ ∧ k_ ≠ gb153))) (fun _ hk => hk.2) (.int .i64 0)) (fun _ hk => hk.2) (.slice Ao72 y165.length co72)) (fun _ hk => ⟨hk.1.1.1, ⟨hk.1.2, ⟨hk.1.1.2.2.1, ⟨hk.1.1.2.2.2.1, ⟨hk.1.1.2.2.2.2.1, hk.1.1.2.2.2.2.2⟩⟩⟩⟩⟩))⟩, ⟨(by (with_reducible repeat (first | apply Kd.N_alloc | apply Kd.N_drewN | apply Kd.N_drew)); exact Kd.N_mono (Kd.N_far (p := ⟨gb153, 1, none⟩) (Kd.N_far (p := ⟨gb153, 0, none⟩) (Kd.N_mono HO167.out (fun k_ hk => (⟨hk, hk.2.2.2.1⟩ : _ ∧ k_ ≠ gb153))) (fun _ hk => hk.2) (.int .i64 0)) (fun _ hk => hk.2) (.slice Ao72 y165.length co72)) (fun _ hk => ⟨hk.1.1, ⟨hk.1.2.1, ⟨hk.1.2.2.1, ⟨hk.1.2.2.2.1, hk.1.2.2.2.2⟩⟩⟩⟩))⟩, ⟨(y1 NB146_153.out BK146.out)⟩, ⟨(y1 NB147_153.out BK147.out)⟩, ⟨(by (with_reducible repeat (first | refine blk_drewN ?_ _ | refine blk_drew ?_ | refine blk_alloc ?_ _)); refine blk_put (cs := #[.int .i64 0, .slice Ao69 x154001_1.length co69]) ?_ 1 _ rfl; (with_reducible repeat (first | refine blk_drewN ?_ _ | refine blk_drew ?_ | refine blk_alloc ?_ _)); refine blk_put (cs := #[.int .i64 x154000_1, .slice Ao69 x154001_1.length co69]) ?_ 0 _ rfl; (with_reducible repeat (first | refine blk_drewN ?_ _ | refine blk_drew ?_ | refine blk_alloc ?_ _)); exact BK153.out)⟩, ⟨(y26 HI0.out NB0_146.out NB0_147.out NB0_153.out)⟩, ⟨(y33 HK.out GW146.out GW147.out GW153.out)⟩, ⟨(y24 HB.out HI0.out GE146.out GE147.out GE153.out)⟩⟩
      ·rw [if_neg c64] at H
       have c64b0 : decide (x6_1 < 5) = false := decide_eq_false c64
       clear c64
       simp only [Option.some.injEq, Prod.mk.injEq] at H
       obtain ⟨rfl, rfl, rfl⟩ := H
       have hnb74 := NB153_146.out
       have hnc74 := NB146_153.out
       have hnb75 := NB153_147.out
       have hnc75 := NB147_153.out
       have hnb76 := NB153_0.out
       have hnc76 := NB0_153.out
       have hcz77_0 := zh BK153
       have hcz77_1 := zh1 BK153
       have hfz77_0 := zfr BK153 0
       have hfz77_1 := zfr BK153 1
       have hnb78 := NB147_146.out
       have hnc78 := NB146_147.out
       have hnb79 := NB147_0.out
       have hnc79 := NB0_147.out
       have hcz80_0 := zh BK147
       have hcz80_1 := zh1 BK147
       have hfz80_0 := zfr BK147 0
       have hfz80_1 := zfr BK147 1
       obtain ⟨Ao81, co81, eo81⟩ := Kd.N_slice HO_154001.out
       subst eo81
       go_wp2
       refine bodyPost_ret (results_cell_row rfl _ _ gb147 25 #[.int .i64 x154000_1, .slice Ao81 x154001_1.length co81] (0, 0) _ rfl (by (with_reducible repeat (first | refine blk_drewN ?_ _ | refine blk_drew ?_ | refine blk_alloc ?_ _)); refine blk_put (cs := #[.int .i64 x154000_1, .slice none 0 0]) ?_ 1 _ rfl; (with_reducible repeat (first | refine blk_drewN ?_ _ | refine blk_drew ?_ | refine blk_alloc ?_ _)); apply blk_put (i := 0); (case h => exact y0 BK147.out); (case e => rfl)) Try.underlying25 rfl (by kernel_rfl)) rfl ?_
       exact ⟨_, y19, (by (with_reducible repeat (first | apply Kd.N_alloc | apply Kd.N_drewN | apply Kd.N_drew)); exact Kd.N_mono (Kd.N_far (p := ⟨gb147, 1, none⟩) (Kd.N_far (p := ⟨gb147, 0, none⟩) (Kd.N_mono HO_154001.out (fun k_ hk => (⟨hk, hk.2.2.1⟩ : _ ∧ k_ ≠ gb147))) (fun _ hk => hk.2) (.int .i64 x154000_1)) (fun _ hk => hk.2) (.slice Ao81 x154001_1.length co81)) (fun _ hk => hk.1.1)), (y26 HI0.out NB0_146.out NB0_147.out NB0_153.out), (y24 HB.out HI0.out GE146.out GE147.out GE153.out), (y33 HK.out GW146.out GW147.out GW153.out)⟩
   ·rw [if_neg c50] at H
    have c50b0 : (t154 == 2) = false := beq_eq_false_iff_ne.mpr c50
    have c50b1 : (t154 != 2) = true := bne_iff_ne.mpr c50
    simp only [Option.some.injEq, Prod.mk.injEq] at H
    obtain ⟨rfl, rfl, rfl⟩ := H
    go_enter Try.func33, Try.ntmps33
    go_wp2_with (first | ((with_reducible refine gate_dst (N := 3) rfl ?_); refine zbx 3 #[.slice A1_0 l1_0.length c1_0] 50 ?_; intro gb146 hg w82 hbox hb; replace HO1_0 := Aside0.mk (Kd.V_below (Kd.V_elderB (y10 HO1_0.out) gb146 (Nat.le_of_eq hg.symm)) hb); replace HB := Aside0.mk (below_step (y40 HB.out HI0.out) hb); have BK146 := Aside0.mk hbox; have GW146 := Aside0.mk ((by rw [hg]; exact (keep_size (w := w) (g := g) (row := none) (y29 HK.out)) : w.heap.size ≤ gb146)); have GE146 := Aside0.mk ((Nat.le_trans HW0.out (by rw [hg]; exact (keep_size (w := w) (g := g) (row := none) (y29 HK.out)) : w.heap.size ≤ gb146) : w0.heap.size ≤ gb146)); replace HK := Aside0.mk (KeepBut.trans (y29 HK.out) (KeepBut.of_below hb g none) (.inl rfl)); have NB0_146 := Aside0.mk ((by rw [hg]; exact Nat.ne_of_lt (IsS75.lt (show IsS75 w0 _ g s0_0 s0_1 from by repeat (first | (with_reducible first | exact HI0.out | apply IsS75.alloc | apply IsS75.drewN | apply IsS75.drew | apply IsS75.set_1) | exact HI0.out))) : g ≠ gb146)); have NB146_0 := Aside0.mk ((by rw [hg]; exact Nat.ne_of_gt (IsS75.lt (show IsS75 w0 _ g s0_0 s0_1 from by repeat (first | (with_reducible first | exact HI0.out | apply IsS75.alloc | apply IsS75.drewN | apply IsS75.drew | apply IsS75.set_1) | exact HI0.out))) : gb146 ≠ g)); replace HI0 := Aside0.mk (IsS75.below (y41 HI0.out) hb); clear hb hbox hg) | ((with_reducible refine gate_dst (N := 4) rfl ?_); refine zbx 4 #[.int .i64 0, .slice none 0 0] 25 ?_; intro gb147 hg w83 hbox hb; replace HO1_0 := Aside0.mk (Kd.V_below (Kd.V_elderB (y10 HO1_0.out) gb147 (Nat.le_of_eq hg.symm)) hb); replace HB := Aside0.mk (below_step (y30 HB.out HI0.out GE146.out) hb); have BK147 := Aside0.mk hbox; have GW147 := Aside0.mk ((by rw [hg]; exact (keep_size (w := w) (g := g) (row := none) (y25 HK.out GW146.out)) : w.heap.size ≤ gb147)); have GE147 := Aside0.mk ((Nat.le_trans HW0.out (by rw [hg]; exact (keep_size (w := w) (g := g) (row := none) (y25 HK.out GW146.out)) : w.heap.size ≤ gb147) : w0.heap.size ≤ gb147)); replace HK := Aside0.mk (KeepBut.trans (y25 HK.out GW146.out) (KeepBut.of_below hb g none) (.inl rfl)); have NB146_147 := zltn hg BK146; have NB147_146 := zgtn hg BK146; replace BK146 := zbb BK146 hb; have NB0_147 := Aside0.mk ((by rw [hg]; exact Nat.ne_of_lt (IsS75.lt (show IsS75 w0 _ g s0_0 s0_1 from by repeat (first | (with_reducible first | exact HI0.out | apply IsS75.alloc | apply IsS75.drewN | apply IsS75.drew | apply IsS75.set_1 | refine IsS75.far ?_ NB0_146.out _) | exact HI0.out))) : g ≠ gb147)); have NB147_0 := Aside0.mk ((by rw [hg]; exact Nat.ne_of_gt (IsS75.lt (show IsS75 w0 _ g s0_0 s0_1 from by repeat (first | (with_reducible first | exact HI0.out | apply IsS75.alloc | apply IsS75.drewN | apply IsS75.drew | apply IsS75.set_1 | refine IsS75.far ?_ NB0_146.out _) | exact HI0.out))) : gb147 ≠ g)); replace HI0 := Aside0.mk (IsS75.below (y31 HI0.out NB0_146.out) hb); clear hb hbox hg; have hnb84 := NB146_147.out; have hnc84 := NB147_146.out; have hnb85 := NB146_0.out; have hnc85 := NB0_146.out; have hcz86_0 := zh BK146; have hfz86_0 := zfr BK146 0) | ((with_reducible refine gate_callee (f := 55) rfl ?_); refine goesL_ (some 9) rfl rfl Try.func55 (by kernel_rfl) rfl #[.pointer (some ⟨g, 0, none⟩), .agg #[.slice A1_0 l1_0.length c1_0]] rfl y8 ?_; (with_reducible refine (spec_l71Val.calls k g s0_0 s0_1 (fun k_ => ((((P1_0_ k_ ∨ w.heap.size ≤ k_) ∧ k_ ≠ g) ∧ k_ ≠ gb146) ∧ k_ ≠ gb147)) _ _ l1_0 t148 t149 t152 w0 _ ?side1 ?side2 ?side3 A3.out).mono ?_); (case side1 => exact y21 HI0.out NB0_146.out NB0_147.out); (case side2 => exact y17 HB.out HI0.out GE146.out GE147.out); (case side3 => exact y94 HO1_0.out); rintro e w87 ⟨v150, rfl, ho0, hi, hb, hk⟩; refine ⟨_, rfl, ?_⟩; replace HO1_0 := Aside0.mk (Kd.V_mono (Kd.V_told (Kd.V_oldK (Kd.V_mono (ok := fun k_ => (((((P1_0_ k_ ∨ w.heap.size ≤ k_)) ∧ k_ ≠ g) ∧ k_ ≠ gb146) ∧ k_ ≠ gb147)) (y10 HO1_0.out) (fun k_ hk_ => (⟨hk_, hk_.1.1.2⟩ : _ ∧ k_ ≠ g))) hk) (Kd.N_base ho0)) (fun _ h_ => h_.1)); have HO151 := Aside0.mk (Kd.N_lower (Kd.N_mono (ok' := fun k_ => (P1_0_ k_ ∨ w.heap.size ≤ k_) ∧ k_ ≠ gb146 ∧ k_ ≠ gb147 ∧ k_ ≠ g) ho0 (fun k_ hk_ => ⟨Or.elim hk_ (fun hs_ => hs_.1.1.1) (fun hn_ => (.inr (Nat.le_trans (keep_size (w := w) (g := g) (row := none) (y18 HK.out GW146.out GW147.out)) hn_))), Or.elim hk_ (fun hs_ => hs_.1.2) (fun hn_ => (Kd.freshB (g := gb146) (o := .cells #[.slice A1_0 l1_0.length c1_0] 50 (0, 0)) (y0 BK146.out) k_ hn_)), Or.elim hk_ (fun hs_ => hs_.2) (fun hn_ => (Kd.freshB (g := gb147) (o := .cells #[.int .i64 0, .slice none 0 0] 25 (0, 0)) (y0 BK147.out) k_ hn_)), Or.elim hk_ (fun hs_ => hs_.1.1.2) (fun hn_ => (IsS75.fresh (y21 HI0.out NB0_146.out NB0_147.out) k_ hn_))⟩)) (keep_size (w := w) (g := g) (row := none) (y18 HK.out GW146.out GW147.out))); replace BK146 := Aside0.mk (KeepBut.blk hk (g' := gb146) (o := .cells #[.slice A1_0 l1_0.length c1_0] 50 (0, 0)) (y0 BK146.out) NB146_0.out (by simp)); replace BK147 := Aside0.mk (KeepBut.blk hk (g' := gb147) (o := .cells #[.int .i64 0, .slice none 0 0] 25 (0, 0)) (y0 BK147.out) NB147_0.out (by simp)); replace HK := Aside0.mk (KeepBut.trans (y18 HK.out GW146.out GW147.out) hk (.inl rfl)); replace HB := Aside0.mk (hb); replace HI0 := Aside0.mk (hi); (try clear hb); (try clear hb2); (try clear hk); (try clear hi); (try clear ho0)) | ((with_reducible refine gate_dst (N := 5) rfl ?_); refine zbx 5 #[.int .i64 0, .slice none 0 0] 25 ?_; intro gb153 hg w88 hbox hb; replace HO1_0 := Aside0.mk (Kd.V_below (Kd.V_elderB (y10 HO1_0.out) gb153 (Nat.le_of_eq hg.symm)) hb); replace HO151 := Aside0.mk (Kd.N_below (Kd.N_elderB (y3 HO151.out) gb153 (Nat.le_of_eq hg.symm)) hb); replace HB := Aside0.mk (below_step (y17 HB.out HI0.out GE146.out GE147.out) hb); have BK153 := Aside0.mk hbox; have GW153 := Aside0.mk ((by rw [hg]; exact (keep_size (w := w) (g := g) (row := none) (y18 HK.out GW146.out GW147.out)) : w.heap.size ≤ gb153)); have GE153 := Aside0.mk ((Nat.le_trans HW0.out (by rw [hg]; exact (keep_size (w := w) (g := g) (row := none) (y18 HK.out GW146.out GW147.out)) : w.heap.size ≤ gb153) : w0.heap.size ≤ gb153)); replace HK := Aside0.mk (KeepBut.trans (y18 HK.out GW146.out GW147.out) (KeepBut.of_below hb g none) (.inl rfl)); have NB146_153 := zltn hg BK146; have NB153_146 := zgtn hg BK146; replace BK146 := zbb BK146 hb; have NB147_153 := zltn hg BK147; have NB153_147 := zgtn hg BK147; replace BK147 := zbb BK147 hb; have NB0_153 := Aside0.mk ((by rw [hg]; exact Nat.ne_of_lt (IsS75.lt (show IsS75 w0 _ g s0_0 t152 from by repeat (first | (with_reducible first | exact HI0.out | apply IsS75.alloc | apply IsS75.drewN | apply IsS75.drew | apply IsS75.set_1 | refine IsS75.far ?_ NB0_146.out _ | refine IsS75.far ?_ NB0_147.out _) | exact HI0.out))) : g ≠ gb153)); have NB153_0 := Aside0.mk ((by rw [hg]; exact Nat.ne_of_gt (IsS75.lt (show IsS75 w0 _ g s0_0 t152 from by repeat (first | (with_reducible first | exact HI0.out | apply IsS75.alloc | apply IsS75.drewN | apply IsS75.drew | apply IsS75.set_1 | refine IsS75.far ?_ NB0_146.out _ | refine IsS75.far ?_ NB0_147.out _) | exact HI0.out))) : gb153 ≠ g)); replace HI0 := Aside0.mk (IsS75.below (y21 HI0.out NB0_146.out NB0_147.out) hb); clear hb hbox hg; have hnb89 := NB153_146.out; have hnc89 := NB146_153.out; have hnb90 := NB153_147.out; have hnc90 := NB147_153.out; have hnb91 := NB153_0.out; have hnc91 := NB0_153.out; have hcz92_0 := zh BK153; have hcz92_1 := zh1 BK153; have hfz92_0 := zfr BK153 0; have hfz92_1 := zfr BK153 1; obtain ⟨Ao93, co93, eo93⟩ := Kd.N_slice HO151.out; subst eo93) | ((with_reducible refine gate_callee (f := 32) rfl ?_); refine goesL_ (some 11) rfl rfl Try.func32 (by kernel_rfl) rfl #[.pointer (some ⟨g, 0, none⟩), .int .i64 12] rfl y8 ?_; (with_reducible refine (spec_l6Rd_pick.calls k g s0_0 t152 12 t154 t155 w0 _ ?side1 ?side2 A4.out).mono ?_); (case side1 => exact y26 HI0.out NB0_146.out NB0_147.out NB0_153.out); (case side2 => exact y24 HB.out HI0.out GE146.out GE147.out GE153.out); rintro e w94 ⟨rfl, hi, hb, hk⟩; refine ⟨_, rfl, ?_⟩; replace HO1_0 := Aside0.mk (Kd.V_mono (Kd.V_keep (Kd.V_mono (ok := fun k_ => (((((((P1_0_ k_ ∨ w.heap.size ≤ k_)) ∧ k_ ≠ g) ∧ k_ ≠ gb146) ∧ k_ ≠ gb147) ∧ some k_ ≠ (.slice Ao93 t149.length co93 : Value).ownBlock) ∧ k_ ≠ gb153)) (by (with_reducible repeat (first | apply Kd.V_alloc | apply Kd.V_drewN | apply Kd.V_drew)); exact (Kd.V_mono (Kd.V_far (p := ⟨gb153, 1, none⟩) (Kd.V_far (p := ⟨gb153, 0, none⟩) (Kd.V_mono HO1_0.out (fun k_ hk => (⟨hk, hk.2⟩ : _ ∧ k_ ≠ gb153))) (fun _ hk => hk.2) (.int .i64 t148)) (fun _ hk => hk.2) (.slice Ao93 t149.length co93)) (fun _ h_ => h_.1))) (fun k_ hk_ => (⟨hk_, hk_.1.1.1.1.2⟩ : _ ∧ k_ ≠ g))) hk (fun _ h => h.2)) (fun _ h => h.1)); replace BK146 := Aside0.mk (KeepBut.blk hk (g' := gb146) (o := .cells #[.slice A1_0 l1_0.length c1_0] 50 (0, 0)) (y1 NB146_153.out BK146.out) NB146_0.out (by simp)); replace BK147 := Aside0.mk (KeepBut.blk hk (g' := gb147) (o := .cells #[.int .i64 0, .slice none 0 0] 25 (0, 0)) (y1 NB147_153.out BK147.out) NB147_0.out (by simp)); replace HO151 := Aside0.mk (Kd.N_mono (Kd.N_keep (Kd.N_mono (ok := fun k_ => ((((P1_0_ k_ ∨ w.heap.size ≤ k_)) ∧ (k_ ≠ gb146 ∧ (k_ ≠ gb147 ∧ k_ ≠ g))) ∧ k_ ≠ gb153)) (by (with_reducible repeat (first | apply Kd.N_alloc | apply Kd.N_drewN | apply Kd.N_drew)); exact (Kd.N_mono (Kd.N_far (p := ⟨gb153, 1, none⟩) (Kd.N_far (p := ⟨gb153, 0, none⟩) (Kd.N_mono HO151.out (fun k_ hk => (⟨hk, hk.2⟩ : _ ∧ k_ ≠ gb153))) (fun _ hk => hk.2) (.int .i64 t148)) (fun _ hk => hk.2) (.slice Ao93 t149.length co93)) (fun _ h_ => h_.1))) (fun k_ hk_ => (⟨hk_, hk_.1.2.2.2⟩ : _ ∧ k_ ≠ g))) hk (fun _ h => h.2)) (fun _ h => h.1)); replace BK153 := Aside0.mk (KeepBut.blk hk (g' := gb153) (o := .cells #[.int .i64 t148, .slice Ao93 t149.length co93] 25 (0, 0)) (by (with_reducible repeat (first | refine blk_drewN ?_ _ | refine blk_drew ?_ | refine blk_alloc ?_ _)); refine blk_put (cs := #[.int .i64 t148, .slice none 0 0]) ?_ 1 _ rfl; (with_reducible repeat (first | refine blk_drewN ?_ _ | refine blk_drew ?_ | refine blk_alloc ?_ _)); apply blk_put (i := 0); (case h => exact y0 BK153.out); (case e => rfl)) NB153_0.out (by simp)); replace HK := Aside0.mk (KeepBut.trans (y33 HK.out GW146.out GW147.out GW153.out) hk (.inl rfl)); replace HB := Aside0.mk (hb); replace HI0 := Aside0.mk (hi); (try clear hb); (try clear hb2); (try clear hk); (try clear hi); have hcz95_0 := zh BK153; have hcz95_1 := zh1 BK153; have hfz95_0 := zfr BK153 0; have hfz95_1 := zfr BK153 1; have hnb96 := NB147_0.out; have hnc96 := NB0_147.out; have hcz97_0 := zh BK147; have hcz97_1 := zh1 BK147; have hfz97_0 := zfr BK147 0; have hfz97_1 := zfr BK147 1))
    refine bodyPost_ret (results_cell_row rfl _ _ gb147 25 #[.int .i64 t148, .slice Ao93 t149.length co93] (0, 0) _ rfl (by (with_reducible repeat (first | refine blk_drewN ?_ _ | refine blk_drew ?_ | refine blk_alloc ?_ _)); refine blk_put (cs := #[.int .i64 t148, .slice none 0 0]) ?_ 1 _ rfl; (with_reducible repeat (first | refine blk_drewN ?_ _ | refine blk_drew ?_ | refine blk_alloc ?_ _)); apply blk_put (i := 0); (case h => exact y0 BK147.out); (case e => rfl)) Try.underlying25 rfl (by kernel_rfl)) rfl ?_
    exact ⟨_, y19, (by (with_reducible repeat (first | apply Kd.N_alloc | apply Kd.N_drewN | apply Kd.N_drew)); exact Kd.N_mono (Kd.N_far (p := ⟨gb147, 1, none⟩) (Kd.N_far (p := ⟨gb147, 0, none⟩) (Kd.N_mono HO151.out (fun k_ hk => (⟨hk, hk.1.2.2.1⟩ : _ ∧ k_ ≠ gb147))) (fun _ hk => hk.2) (.int .i64 t148)) (fun _ hk => hk.2) (.slice Ao93 t149.length co93)) (fun _ hk => hk.1.1.1)), (y26 HI0.out NB0_146.out NB0_147.out NB0_153.out), (y24 HB.out HI0.out GE146.out GE147.out GE153.out), (y33 HK.out GW146.out GW147.out GW153.out)⟩
end Go.Proofs.Ythfflieeifakdaa.PA
end
section
namespace Go.Proofs.Ythfflieeifakdaa.PA
open Go.RowKit Go.Proofs.YthfflieeifakdaaW.PrintWords Go.Proofs.YthfflieeifakdaaW.PrintLast Go.Proofs.YthfflieeifakdaaW.PrintMore
attribute [local go_sem] max2_int min2_int max_two min_two max_three min_three max_four min_four
set_option linter.unusedVariables false
set_option linter.unusedSimpArgs false
def spec_l71Path.l0 : Nat → List Int → List Int → Int → List (S50) → Option (List Int × (List (S50)) × Int)
 | 0, _, _, _, _ => none
 | k + 1, x6, x1000, x1001, x169000 => if (x169000.length : Int) > 0 then ((spec_l6Rd_pick.f k x1000 x1001 3).bind fun bt173 => (if bt173.1 > 0 then ((spec_l6Rd_pick.f k x1000 bt173.2 (x169000.length : Int)).bind fun bt175 => (if x6.length < 17592186044416 then (if 0 ≤ bt175.1 then (if bt175.1 < (x169000.length : Int) then (spec_l71Path.l0 k (x6 ++ [bt175.1]) x1000 bt175.2 ((rd_T50 x169000 bt175.1).f0)) else (none)) else (none)) else (none))) else (some (x6, x169000, bt173.2)))) else (some (x6, x169000, x1001))
def spec_l71Path.f (k : Nat) (s0_0 : List Int) (s0_1 : Int) (l1_0 : List (S50)) : Option (List Int × (List (S50)) × Int) := spec_l71Path.l0 k (([] : List Int)) s0_0 s0_1 l1_0
theorem spec_l71Path.mono_l : ∀ k, (∀ y0 y1 y2 y3, LeO (spec_l71Path.l0 k y0 y1 y2 y3) (spec_l71Path.l0 (k + 1) y0 y1 y2 y3))
 | 0 => fun _ _ _ _ r h => by simp [spec_l71Path.l0] at h
 | k + 1 => by
  have ih0 := spec_l71Path.mono_l k
  ·intro y0 y1 y2 y3
   unfold spec_l71Path.l0
   repeat' first
   | (with_reducible exact ih0 _ _ _ _)
   | (with_reducible exact spec_l6Rd_pick.mono _ _ _ _)
   | (with_reducible exact LeO.refl _)
   | (with_reducible exact LeO.none _)
   | (with_reducible refine LeO.ite ?_ ?_)
   | (with_reducible refine LeO.bind ?_ (fun _ => ?_))
   | exact ih0 _ _ _ _
   | exact spec_l6Rd_pick.mono _ _ _ _
   | exact LeO.none _
   | refine LeO.ite ?_ ?_
   | refine LeO.bind ?_ (fun _ => ?_)
theorem spec_l71Path.mono : ∀ a0 a1 a2 k, LeO (spec_l71Path.f k a0 a1 a2) (spec_l71Path.f (k + 1) a0 a1 a2) := by
 intro a0 a1 a2 k
 have ih0 := spec_l71Path.mono_l k
 unfold spec_l71Path.f
 repeat' first
   | (with_reducible exact ih0 _ _ _ _)
   | (with_reducible exact spec_l6Rd_pick.mono _ _ _ _)
   | (with_reducible exact LeO.refl _)
   | (with_reducible exact LeO.none _)
   | (with_reducible refine LeO.ite ?_ ?_)
   | (with_reducible refine LeO.bind ?_ (fun _ => ?_))
   | exact ih0 _ _ _ _
   | exact spec_l6Rd_pick.mono _ _ _ _
   | exact LeO.none _
   | refine LeO.ite ?_ ?_
   | refine LeO.bind ?_ (fun _ => ?_)
set_option maxHeartbeats 8000000 in
set_option maxRecDepth 100000 in
theorem spec_l71Path.calls (k : Nat) (g : Nat) (s0_0 : List Int) (s0_1 : Int) (P1_0_ : Nat → Prop) (A1_0 : Option Addr) (c1_0 : Nat) (l1_0 : List (S50)) (r1 : List Int) (r2 : List (S50)) (r3 : Int) (w0 w : World) (hI : IsS75 w0 w g s0_0 s0_1) (hB : Below w0.heap.size w0 w) (hs1_0 : Kd.V k50 50 w w.heap.size (fun k_ => P1_0_ k_ ∧ k_ ≠ g) (.slice A1_0 l1_0.length c1_0) l1_0) (h : spec_l71Path.f k s0_0 s0_1 l1_0 = some (r1, r2, r3)) :
  Calls Try.prog 56 #[.pointer (some ⟨g, 0, none⟩), .agg #[.slice A1_0 l1_0.length c1_0]] w fun e w' => ∃ v0_ v1_ : Value, e = .returned (.tuple #[v0_, .agg #[v1_]]) ∧ Kd.R (Kd.int .i64) 3 w' w.heap.size (fun k_ => (w.heap.size ≤ k_)) v0_ r1 ∧ Kd.V k50 50 w' w.heap.size (fun k_ => (P1_0_ k_ ∨ w.heap.size ≤ k_) ∧ some k_ ≠ (v0_ : Value).ownBlock) v1_ r2 ∧ IsS75 w0 w' g s0_0 r3 ∧ Below w0.heap.size w0 w' ∧ KeepBut w w' g none := by
 have hu50 := Try.underlying50
 have HO1_0 := Aside0.mk (show Kd.V k50 50 w w.heap.size (fun k_ => (P1_0_ k_ ∨ w.heap.size ≤ k_) ∧ k_ ≠ g) (.slice A1_0 l1_0.length c1_0) l1_0 from Kd.V_mono hs1_0 (fun k_ hk => ⟨.inl hk.1, hk.2⟩))
 have HI0 := Aside0.mk hI
 have HK := Aside0.mk (KeepBut.refl w g none)
 have HL := Aside0.mk hB.size
 clear hI
 have HW0 := Aside0.mk hB.size
 have HB := Aside0.mk hB
 clear hB
 have H : (spec_l71Path.l0 k (([] : List Int)) s0_0 s0_1 l1_0) = some (r1, r2, r3) := h
 clear h
 obtain ⟨y170, hy170⟩ : ∃ y_ : List Int, y_ = (([] : List Int)) := ⟨_, rfl⟩
 replace H : (spec_l71Path.l0 k y170 s0_0 s0_1 l1_0) = some (r1, r2, r3) := by first | (rw [hy170]; with_reducible exact H) | (have H2_ := (Option.bind_some _ _).symm.trans H; rw [hy170]; with_reducible exact H2_) | (have H2_ := (Option.bind_some _ _).symm.trans H; with_reducible exact H2_) | with_reducible exact H | (rw [hy170]; exact H) | exact H
 have Ny170 := Aside0.mk hy170
 clear hy170
 have H' := Aside0.mk H
 clear H
 go_enter Try.func56, Try.ntmps56
 go_wp2_with (first | ((with_reducible refine gate_dst (N := 3) rfl ?_); refine zbx 3 #[.slice A1_0 l1_0.length c1_0] 50 ?_; intro gb168 hg w3 hbox hb; replace HO1_0 := Aside0.mk (Kd.V_below (Kd.V_elderB (y10 HO1_0.out) gb168 (Nat.le_of_eq hg.symm)) hb); replace HB := Aside0.mk (below_step (y40 HB.out HI0.out) hb); have BK168 := Aside0.mk hbox; have GW168 := Aside0.mk ((by rw [hg]; exact (keep_size (w := w) (g := g) (row := none) (y29 HK.out)) : w.heap.size ≤ gb168)); have GE168 := Aside0.mk ((Nat.le_trans HW0.out (by rw [hg]; exact (keep_size (w := w) (g := g) (row := none) (y29 HK.out)) : w.heap.size ≤ gb168) : w0.heap.size ≤ gb168)); replace HK := Aside0.mk (KeepBut.trans (y29 HK.out) (KeepBut.of_below hb g none) (.inl rfl)); have NB0_168 := Aside0.mk ((by rw [hg]; exact Nat.ne_of_lt (IsS75.lt (show IsS75 w0 _ g s0_0 s0_1 from by repeat (first | (with_reducible first | exact HI0.out | apply IsS75.alloc | apply IsS75.drewN | apply IsS75.drew | apply IsS75.set_1) | exact HI0.out))) : g ≠ gb168)); have NB168_0 := Aside0.mk ((by rw [hg]; exact Nat.ne_of_gt (IsS75.lt (show IsS75 w0 _ g s0_0 s0_1 from by repeat (first | (with_reducible first | exact HI0.out | apply IsS75.alloc | apply IsS75.drewN | apply IsS75.drew | apply IsS75.set_1) | exact HI0.out))) : gb168 ≠ g)); replace HI0 := Aside0.mk (IsS75.below (y41 HI0.out) hb); clear hb hbox hg) | ((with_reducible refine gate_dst (N := 5) rfl ?_); refine zbx 5 #[.slice none 0 0] 50 ?_; intro gb169 hg w4 hbox hb; replace HO1_0 := Aside0.mk (Kd.V_below (Kd.V_elderB (y10 HO1_0.out) gb169 (Nat.le_of_eq hg.symm)) hb); replace HB := Aside0.mk (below_step (y30 HB.out HI0.out GE168.out) hb); have BK169 := Aside0.mk hbox; have GW169 := Aside0.mk ((by rw [hg]; exact (keep_size (w := w) (g := g) (row := none) (y25 HK.out GW168.out)) : w.heap.size ≤ gb169)); have GE169 := Aside0.mk ((Nat.le_trans HW0.out (by rw [hg]; exact (keep_size (w := w) (g := g) (row := none) (y25 HK.out GW168.out)) : w.heap.size ≤ gb169) : w0.heap.size ≤ gb169)); replace HK := Aside0.mk (KeepBut.trans (y25 HK.out GW168.out) (KeepBut.of_below hb g none) (.inl rfl)); have NB168_169 := zltn hg BK168; have NB169_168 := zgtn hg BK168; replace BK168 := zbb BK168 hb; have NB0_169 := Aside0.mk ((by rw [hg]; exact Nat.ne_of_lt (IsS75.lt (show IsS75 w0 _ g s0_0 s0_1 from by repeat (first | (with_reducible first | exact HI0.out | apply IsS75.alloc | apply IsS75.drewN | apply IsS75.drew | apply IsS75.set_1 | refine IsS75.far ?_ NB0_168.out _) | exact HI0.out))) : g ≠ gb169)); have NB169_0 := Aside0.mk ((by rw [hg]; exact Nat.ne_of_gt (IsS75.lt (show IsS75 w0 _ g s0_0 s0_1 from by repeat (first | (with_reducible first | exact HI0.out | apply IsS75.alloc | apply IsS75.drewN | apply IsS75.drew | apply IsS75.set_1 | refine IsS75.far ?_ NB0_168.out _) | exact HI0.out))) : gb169 ≠ g)); replace HI0 := Aside0.mk (IsS75.below (y31 HI0.out NB0_168.out) hb); clear hb hbox hg) | ((with_reducible refine gate_dst (N := 8) rfl ?_); refine Kd.R_lit (Kd.int .i64) _ 3 ?hg (N := 8) ?hd (xs := ([] : List Int)) (inner := []) (ok := fun _ => True) (okp := fun _ => True) ?hr ?hp (fun _ hk => hk) trivial (Below.refl _ _) (Nat.le_refl _) (by simp) ?_; (case hd => rfl); (case hg => rfl); (case hr => first | (go_simp; done) | (go_simp; rfl)); (case hp => exact (Reps.none _ _)); intro v171 w5 ho6 hb hg_ hnew_; clear hg_ hnew_; (first | rw [← Ny170.out] at ho6 | (simp only [Int.reduceToNat] at ho6; rw [← Ny170.out] at ho6)); replace HO1_0 := Aside0.mk (Kd.V_elder' (y10 HO1_0.out) (Kd.R_base ho6) hb); have HO172 := Aside0.mk (Kd.R_lower (Kd.R_newM (M := fun k_ => (w.heap.size ≤ k_)) ho6 (keep_size (w := w) (g := g) (row := none) (y18 HK.out GW168.out GW169.out)) (fun k_ h_ => h_)) (keep_size (w := w) (g := g) (row := none) (y18 HK.out GW168.out GW169.out))); replace BK168 := zbb BK168 hb; replace BK169 := zbb BK169 hb; replace HK := Aside0.mk (KeepBut.trans (y18 HK.out GW168.out GW169.out) (KeepBut.of_below hb g none) (.inl rfl)); replace HB := Aside0.mk (below_step (y17 HB.out HI0.out GE168.out GE169.out) hb); replace HI0 := Aside0.mk (IsS75.below (y21 HI0.out NB0_168.out NB0_169.out) hb); clear hb ho6))
 go_loopg [6] k (fun kq v6 w' => ∃ (x6_1 : List Int) (x1001_1 : Int) (x169000_1 : List (S50)) (u169000 : Value), Aside0 (spec_l71Path.l0 kq x6_1 s0_0 x1001_1 x169000_1 = some (r1, r2, r3)) ∧ Aside0 (kq ≤ k) ∧ Aside0 (Kd.R (Kd.int .i64) 3 w' w.heap.size (fun k_ => (w.heap.size ≤ k_)) v6 x6_1) ∧ Aside0 (Kd.V k50 50 w' w.heap.size (fun k_ => (P1_0_ k_ ∨ w.heap.size ≤ k_) ∧ some k_ ≠ (v6 : Value).ownBlock ∧ k_ ≠ gb168 ∧ k_ ≠ gb169 ∧ k_ ≠ g) u169000 x169000_1) ∧ Aside0 (w'.heap[gb168]? = some (.cells #[u169000] 50 (0, 0))) ∧ Aside0 (w'.heap[gb169]? = some (.cells #[(.slice none 0 0)] 50 (0, 0))) ∧ Aside0 (IsS75 w0 w' g s0_0 x1001_1) ∧ Aside0 (KeepBut w w' g none) ∧ Aside0 (Below w0.heap.size w0 w'))
 case atStart => exact ⟨(y170), (s0_1), (l1_0), (.slice A1_0 l1_0.length c1_0), H', ⟨Nat.le_refl _⟩, ⟨(y71 HO172.out)⟩, ⟨(by (with_reducible repeat (first | apply Kd.V_alloc | apply Kd.V_drewN | apply Kd.V_drew)); exact Kd.V_mono HO1_0.out (fun _ hk => ⟨hk.1.1.1.1, ⟨hk.2, ⟨hk.1.1.2, ⟨hk.1.2, hk.1.1.1.2⟩⟩⟩⟩))⟩, ⟨(y0 BK168.out)⟩, ⟨(y0 BK169.out)⟩, ⟨(y21 HI0.out NB0_168.out NB0_169.out)⟩, ⟨(y18 HK.out GW168.out GW169.out)⟩, ⟨(y17 HB.out HI0.out GE168.out GE169.out)⟩⟩
 case round =>
  clear H'
  try clear c1
  try clear p2
  try clear c5
  (try clear BK168); (try clear BK169)
  obtain ⟨x6_1, x1001_1, x169000_1, u169000, HA, HK1, HO_6, HO_169000, BK168, BK169, HI0, HK, HB⟩ := hrel
  cases gk with
  | zero => exact absurd HA.out (by simp [spec_l71Path.l0])
  | succ k1 =>
   have H := HA.out
   clear HA
   simp only [spec_l71Path.l0] at H
   by_cases c7 : (x169000_1.length : Int) > 0
   ·rw [if_pos c7] at H
    have c7b0 : decide (0 < (x169000_1.length : Int)) = true := decide_eq_true c7
    have c7b1 : decide (0 < x169000_1.length) = true := decide_eq_true (by omega)
    clear c7
    obtain ⟨⟨t173, t174⟩, A80, H⟩ := ob H
    have A8 := Aside0.mk A80
    clear A80
    by_cases c9 : t173 > 0
    ·rw [if_pos c9] at H
     have c9b0 : decide (0 < t173) = true := decide_eq_true c9
     clear c9
     obtain ⟨⟨t175, t176⟩, A100, H⟩ := ob H
     have A10 := Aside0.mk A100
     clear A100
     by_cases c11 : x6_1.length < 17592186044416
     ·rw [if_pos c11] at H
      have LMc11 := Aside0.mk c11
      clear c11
      obtain ⟨y177, hy177⟩ : ∃ y_ : List Int, y_ = (x6_1 ++ [t175]) := ⟨_, rfl⟩
      replace H : (if 0 ≤ t175 then (if t175 < (x169000_1.length : Int) then (spec_l71Path.l0 k1 y177 s0_0 t176 ((rd_T50 x169000_1 t175).f0)) else (none)) else (none)) = some (r1, r2, r3) := by first | (rw [hy177]; with_reducible exact H) | (have H2_ := (Option.bind_some _ _).symm.trans H; rw [hy177]; with_reducible exact H2_) | (have H2_ := (Option.bind_some _ _).symm.trans H; with_reducible exact H2_) | with_reducible exact H | (rw [hy177]; exact H) | exact H
      have Ny177 := Aside0.mk hy177
      clear hy177
      by_cases c12 : 0 ≤ t175
      ·rw [if_pos c12] at H
       have c12b0 : decide (0 ≤ t175) = true := decide_eq_true c12
       clear c12
       by_cases c13 : t175 < (x169000_1.length : Int)
       ·rw [if_pos c13] at H
        have c13b0 : decide (t175 < (x169000_1.length : Int)) = true := decide_eq_true c13
        clear c13
        have H' := Aside0.mk H
        clear H
        have hnb14 := NB168_169.out
        have hnc14 := NB169_168.out
        have hnb15 := NB168_0.out
        have hnc15 := NB0_168.out
        have hcz16_0 := zh BK168
        have hfz16_0 := zfr BK168 0
        obtain ⟨Ao17, co17, eo17⟩ := Kd.V_slice HO_169000.out
        subst eo17
        go_wp2_with (first | (go_at_call 32; (with_reducible refine (spec_l6Rd_pick.calls k1 g s0_0 x1001_1 3 t173 t174 w0 _ ?side1 ?side2 A8.out).mono ?_); (case side1 => exact y21 HI0.out NB0_168.out NB0_169.out); (case side2 => exact y17 HB.out HI0.out GE168.out GE169.out); rintro e w18 ⟨rfl, hi, hb, hk⟩; replace HO_6 := Aside0.mk (Kd.R_mono (Kd.R_keep (IsS75.apart (show IsS75 w0 _ g s0_0 x1001_1 from by repeat (first | (with_reducible first | exact HI0.out | apply IsS75.alloc | apply IsS75.drewN | apply IsS75.drew | apply IsS75.set_1 | refine IsS75.far ?_ NB0_168.out _ | refine IsS75.far ?_ NB0_169.out _) | exact HI0.out)) (y12 HO_6.out) (by decide)) hk (fun _ h => h.2)) (fun _ h => h.1)); replace HO_169000 := Aside0.mk (Kd.V_mono (Kd.V_keep (Kd.V_mono (ok := fun k_ => (((P1_0_ k_ ∨ w.heap.size ≤ k_)) ∧ (some k_ ≠ (u6 : Value).ownBlock ∧ (k_ ≠ gb168 ∧ (k_ ≠ gb169 ∧ k_ ≠ g))))) (y10 HO_169000.out) (fun k_ hk_ => (⟨hk_, hk_.2.2.2.2⟩ : _ ∧ k_ ≠ g))) hk (fun _ h => h.2)) (fun _ h => h.1)); replace BK168 := Aside0.mk (KeepBut.blk hk (g' := gb168) (o := .cells #[.slice Ao17 x169000_1.length co17] 50 (0, 0)) (y0 BK168.out) NB168_0.out (by simp)); replace BK169 := Aside0.mk (KeepBut.blk hk (g' := gb169) (o := .cells #[.slice none 0 0] 50 (0, 0)) (y0 BK169.out) NB169_0.out (by simp)); replace HK := Aside0.mk (KeepBut.trans (y18 HK.out GW168.out GW169.out) hk (.inl rfl)); replace HB := Aside0.mk (hb); replace HI0 := Aside0.mk (hi); (try clear hb); (try clear hb2); (try clear hk); (try clear hi); have hcz19_0 := zh BK168; have hfz19_0 := zfr BK168 0) | ((with_reducible refine gate_callee (f := 32) rfl ?_); refine goesL_ (some 22) rfl rfl Try.func32 (by kernel_rfl) rfl #[.pointer (some ⟨g, 0, none⟩), .int .i64 (x169000_1.length : Int)] rfl y8 ?_; (with_reducible refine (spec_l6Rd_pick.calls k1 g s0_0 t174 (x169000_1.length : Int) t175 t176 w0 _ ?side1 ?side2 A10.out).mono ?_); (case side1 => exact y21 HI0.out NB0_168.out NB0_169.out); (case side2 => exact y17 HB.out HI0.out GE168.out GE169.out); rintro e w20 ⟨rfl, hi, hb, hk⟩; refine ⟨_, rfl, ?_⟩; replace HO_6 := Aside0.mk (Kd.R_mono (Kd.R_keep (IsS75.apart (show IsS75 w0 _ g s0_0 t174 from by repeat (first | (with_reducible first | exact HI0.out | apply IsS75.alloc | apply IsS75.drewN | apply IsS75.drew | apply IsS75.set_1 | refine IsS75.far ?_ NB0_168.out _ | refine IsS75.far ?_ NB0_169.out _) | exact HI0.out)) (y12 HO_6.out) (by decide)) hk (fun _ h => h.2)) (fun _ h => h.1)); replace HO_169000 := Aside0.mk (Kd.V_mono (Kd.V_keep (Kd.V_mono (ok := fun k_ => (((P1_0_ k_ ∨ w.heap.size ≤ k_)) ∧ (some k_ ≠ (u6 : Value).ownBlock ∧ (k_ ≠ gb168 ∧ (k_ ≠ gb169 ∧ k_ ≠ g))))) (y10 HO_169000.out) (fun k_ hk_ => (⟨hk_, hk_.2.2.2.2⟩ : _ ∧ k_ ≠ g))) hk (fun _ h => h.2)) (fun _ h => h.1)); replace BK168 := Aside0.mk (KeepBut.blk hk (g' := gb168) (o := .cells #[.slice Ao17 x169000_1.length co17] 50 (0, 0)) (y0 BK168.out) NB168_0.out (by simp)); replace BK169 := Aside0.mk (KeepBut.blk hk (g' := gb169) (o := .cells #[.slice none 0 0] 50 (0, 0)) (y0 BK169.out) NB169_0.out (by simp)); replace HK := Aside0.mk (KeepBut.trans (y18 HK.out GW168.out GW169.out) hk (.inl rfl)); replace HB := Aside0.mk (hb); replace HI0 := Aside0.mk (hi); (try clear hb); (try clear hb2); (try clear hk); (try clear hi)) | ((with_reducible refine gate_builtin (b := .append) (xs := #[.tmp 23, .tmp 25]) rfl ?_); at_builtin; refine Kd.R_append (Kd.int .i64) w.heap.size rfl (.tmp 23) (.tmp 25) 26 3 (.int .i64 0) 8 rfl Try.underlying26 info3 rfl (by decide) (by omega) u6 x6_1 t175 [.int .i64 t175] (fun k_ => (w.heap.size ≤ k_)) (fun _ => False) rfl rfl ?aP (fun _ hk => hk.elim) ?aF ?aO (Below.refl _ _) ?aS ?aL ?_; (case aP => exact rfl); (case aF => exact (fun k_ hk => (Nat.le_trans (keep_size (w := w) (g := g) (row := none) (y18 HK.out GW168.out GW169.out)) hk))); (case aO => exact (y12 HO_6.out)); (case aS => exact (keep_size (w := w) (g := g) (row := none) (y18 HK.out GW168.out GW169.out))); (case aL => exact y57 LMc11.out); intro v178 w21 ho hb hg hat; rw [← Ny177.out] at ho; replace HO_169000 := Aside0.mk (Kd.V_afterv (ok := (fun k_ => (P1_0_ k_ ∨ w.heap.size ≤ k_) ∧ k_ ≠ gb168 ∧ k_ ≠ gb169 ∧ k_ ≠ g)) (by (with_reducible repeat (first | apply Kd.V_alloc | apply Kd.V_drewN | apply Kd.V_drew)); exact Kd.V_mono HO_169000.out (fun _ hk => ⟨⟨hk.1, ⟨hk.2.2.1, ⟨hk.2.2.2.1, hk.2.2.2.2⟩⟩⟩, hk.2.1⟩)) hg hat); replace BK168 := Aside0.mk (blk_grown (g := gb168) (o := .cells #[.slice Ao17 x169000_1.length co17] 50 (0, 0)) (y0 BK168.out) hg (Kd.R_ne HO_6.out BK168.out (by decide))); replace BK169 := Aside0.mk (blk_grown (g := gb169) (o := .cells #[.slice none 0 0] 50 (0, 0)) (y0 BK169.out) hg (Kd.R_ne HO_6.out BK169.out (by decide))); replace HB := Aside0.mk (below_weaken (y17 HB.out HI0.out GE168.out GE169.out) HL.out hb); replace HI0 := Aside0.mk (IsS75.grown (y21 HI0.out NB0_168.out NB0_169.out) hg (IsS75.own_ne HI0.out HO_6.out (by decide))); replace HK := Aside0.mk (KeepBut.trans (y18 HK.out GW168.out GW169.out) (KeepBut.of_grown hg g) (Kd.R_base2 HO_6.out)); have HO179 := Aside0.mk (ho); clear HO_6; clear ho hb hg hat; have hcz22_0 := zh BK168; have hfz22_0 := zfr BK168 0; have p180 : 0 ≤ (t175 : Int) := of_decide_eq_true y23; have q180 : t175 < (x169000_1.length : Int) := of_decide_eq_true y23; obtain ⟨ad180, A180_0, c180_0, e180, hx180_0, hl180_0, hi180_0⟩ := at_T50 (Kd.V_reads' HO_169000.out).2.2 t175 p180 q180; cases e180; obtain ⟨ce180, hce180, hMe180, hcc180⟩ := Kd.V_get HO_169000.out z50 t175 p180 (by first | exact q180 | exact of_decide_eq_true y23 | (have e_ := (Kd.V_reads' HO_169000.out).1; omega)); obtain ⟨ua180_0, uc180_0, rfl, ul180_0, ge180_0⟩ := k50_openF hMe180; have hv180_0 := hcc180 0 _ rfl; rw [Nat.add_zero, show (k50).sz = 1 from rfl, Nat.mul_one] at hv180_0; replace hv180_0 := Option.some.inj (hv180_0.symm.trans hx180_0); injection hv180_0 with hva_ hvn_ hvc_; rw [hva_] at ge180_0; rw [hvc_] at ul180_0; have HL180_0 := Aside0.mk (show Kd.V k50 50 _ w.heap.size _ _ ((rd_T50 x169000_1 t175).f0) from Kd.V_mk ul180_0 ge180_0); clear hva_ hvn_ hvc_ ge180_0 ul180_0; clear hcc180 hce180; have HR180_0 := Aside0.mk hi180_0; have HC180_0 := Aside0.mk hl180_0; clear hi180_0 hl180_0; replace p180 := eq_true p180; replace q180 := eq_true q180))
        go_roundg k1
        case measure => have := HK1.out; omega
        case rel => exact ⟨(y177), (t176), ((rd_T50 x169000_1 t175).f0), (.slice A180_0 ((rd_T50 x169000_1 t175).f0).length c180_0), H', ⟨(y57 HK1.out)⟩, ⟨(by (with_reducible repeat (first | apply Kd.R_alloc | apply Kd.R_drewN | apply Kd.R_drew)); exact Kd.R_mono (Kd.R_far (p := ⟨gb168, 0, none⟩) (Kd.R_types HO179.out BK168.out (by decide)) (fun _ hk => hk.2) (.slice A180_0 ((rd_T50 x169000_1 t175).f0).length c180_0)) (fun _ hk => hk.1))⟩, ⟨(by (with_reducible repeat (first | apply Kd.V_alloc | apply Kd.V_drewN | apply Kd.V_drew)); exact Kd.V_mono (Kd.V_far (p := ⟨gb168, 0, none⟩) (Kd.V_mono HL180_0.out (fun k_ hk => (⟨hk, hk.1.2.1⟩ : _ ∧ k_ ≠ gb168))) (fun _ hk => hk.2) (.slice A180_0 ((rd_T50 x169000_1 t175).f0).length c180_0)) (fun _ hk => ⟨hk.1.1.1, ⟨hk.1.2, ⟨hk.1.1.2.1, ⟨hk.1.1.2.2.1, hk.1.1.2.2.2⟩⟩⟩⟩))⟩, ⟨(by (with_reducible repeat (first | refine blk_drewN ?_ _ | refine blk_drew ?_ | refine blk_alloc ?_ _)); refine blk_put (cs := #[.slice (some ad180) x169000_1.length co17]) ?_ 0 _ rfl; (with_reducible repeat (first | refine blk_drewN ?_ _ | refine blk_drew ?_ | refine blk_alloc ?_ _)); exact BK168.out)⟩, ⟨(y13 NB169_168.out BK169.out)⟩, ⟨(y21 HI0.out NB0_168.out NB0_169.out)⟩, ⟨(y18 HK.out GW168.out GW169.out)⟩, ⟨(y17 HB.out HI0.out GE168.out GE169.out)⟩⟩
       ·rw [if_neg c13] at H
        exact absurd H (by simp)
      ·rw [if_neg c12] at H
       exact absurd H (by simp)
     ·rw [if_neg c11] at H
      exact absurd H (by simp)
    ·rw [if_neg c9] at H
     have c9b0 : decide (0 < t173) = false := decide_eq_false c9
     clear c9
     simp only [Option.some.injEq, Prod.mk.injEq] at H
     obtain ⟨rfl, rfl, rfl⟩ := H
     have hnb23 := NB168_169.out
     have hnc23 := NB169_168.out
     have hnb24 := NB168_0.out
     have hnc24 := NB0_168.out
     have hcz25_0 := zh BK168
     have hfz25_0 := zfr BK168 0
     obtain ⟨Ao26, co26, eo26⟩ := Kd.V_slice HO_169000.out
     subst eo26
     try go_wp2_with (first | (go_at_call 32; (with_reducible refine (spec_l6Rd_pick.calls k1 g s0_0 x1001_1 3 t173 t174 w0 _ ?side1 ?side2 A8.out).mono ?_); (case side1 => exact y21 HI0.out NB0_168.out NB0_169.out); (case side2 => exact y17 HB.out HI0.out GE168.out GE169.out); rintro e w27 ⟨rfl, hi, hb, hk⟩; replace HO_6 := Aside0.mk (Kd.R_mono (Kd.R_keep (IsS75.apart (show IsS75 w0 _ g s0_0 x1001_1 from by repeat (first | (with_reducible first | exact HI0.out | apply IsS75.alloc | apply IsS75.drewN | apply IsS75.drew | apply IsS75.set_1 | refine IsS75.far ?_ NB0_168.out _ | refine IsS75.far ?_ NB0_169.out _) | exact HI0.out)) (y12 HO_6.out) (by decide)) hk (fun _ h => h.2)) (fun _ h => h.1)); replace HO_169000 := Aside0.mk (Kd.V_mono (Kd.V_keep (Kd.V_mono (ok := fun k_ => (((P1_0_ k_ ∨ w.heap.size ≤ k_)) ∧ (some k_ ≠ (u6 : Value).ownBlock ∧ (k_ ≠ gb168 ∧ (k_ ≠ gb169 ∧ k_ ≠ g))))) (y10 HO_169000.out) (fun k_ hk_ => (⟨hk_, hk_.2.2.2.2⟩ : _ ∧ k_ ≠ g))) hk (fun _ h => h.2)) (fun _ h => h.1)); replace BK168 := Aside0.mk (KeepBut.blk hk (g' := gb168) (o := .cells #[.slice Ao26 x169000_1.length co26] 50 (0, 0)) (y0 BK168.out) NB168_0.out (by simp)); replace BK169 := Aside0.mk (KeepBut.blk hk (g' := gb169) (o := .cells #[.slice none 0 0] 50 (0, 0)) (y0 BK169.out) NB169_0.out (by simp)); replace HK := Aside0.mk (KeepBut.trans (y18 HK.out GW168.out GW169.out) hk (.inl rfl)); replace HB := Aside0.mk (hb); replace HI0 := Aside0.mk (hi); (try clear hb); (try clear hb2); (try clear hk); (try clear hi)))
     replace HO_6 := Aside0.mk (Kd.R_drew HO_6.out)
     replace HO_169000 := Aside0.mk (Kd.V_drew HO_169000.out)
     replace BK168 := Aside0.mk (blk_drew BK168.out)
     replace BK169 := Aside0.mk (blk_drew BK169.out)
     replace HI0 := Aside0.mk (IsS75.drew HI0.out)
     replace HK := Aside0.mk (keep_drew HK.out)
     replace HB := Aside0.mk (below_drew1 HB.out)
     refine start_ (n := 4) (S := fun w' => w'.cell? ⟨gb168, 0, none⟩ = some (.slice Ao26 x169000_1.length co26)) (ds := []) #[false, false, false, false] (by kernel_rfl) rfl rfl ((blk_cell BK168.out 0).trans rfl) (fun hHeld => ?_)
     generalize w27.drew = w28 at HO_6 HO_169000 BK168 BK169 HI0 HK HB hHeld ⊢
     refine pure_ (i := 0) (N := some 32) (v := ?_) (a' := ?_) #[true, false, false, false] rfl rfl (by kernel_rfl) (fun _ _ _ h => h) (Or.inl ⟨(by rfl), ?_⟩) ?_ ?_
     rotate_left
     ·intro w'
      go_simp
      with_reducible rfl
     rotate_left
     ·simp only [Act.put, List.setIfInBounds_toArray, List.set_cons_zero, List.set_cons_succ, i64_w, i32_w]
      rfl
     refine pure_ (i := 2) (N := some 4) (v := ?_) (a' := ?_) #[true, false, true, false] rfl rfl (by kernel_rfl) (fun _ _ _ h => h) (Or.inl ⟨(by rfl), ?_⟩) ?_ ?_
     rotate_left
     ·intro w'
      go_simp
      with_reducible rfl
     rotate_left
     ·simp only [Act.put, List.setIfInBounds_toArray, List.set_cons_zero, List.set_cons_succ, i64_w, i32_w]
      rfl
     refine take_ (i := 1) (N := some 33) (v := ?_) (a' := ?_) #[true, true, true, false] rfl rfl (by kernel_rfl) (fun _ _ _ h => h) (Or.inl ⟨(by rfl), ?_⟩) hHeld ?_ ?_
     rotate_left
     ·intro w' s0
      go_simp
      with_reducible rfl
     rotate_left
     ·simp only [Act.put, List.setIfInBounds_toArray, List.set_cons_zero, List.set_cons_succ, i64_w, i32_w]
      rfl
     refine one_ (i := 3) (N := none) #[true, true, true, true] rfl rfl (by kernel_rfl) (by decide) (fun K hK => ?_)
     have hs29 : w28.cell? ⟨gb169, 0, none⟩ = some (.slice none 0 0) := (blk_cell BK169.out 0).trans rfl
     have hfs29 := zfr BK169 0
     have hns29_0 := NB168_169.out
     have hms29_0 := NB169_168.out
     refine skip_ (w1 := ?_) (by rfl) rfl ?_ ?_
     rotate_left
     ·go_simp
      rfl
     refine hK.out _ _ (((cell_far (p := ⟨gb169, _, none⟩) NB168_169.out _).trans (hHeld))) (fun hHeld => ?_)
     clear hK K
     refine done_ (by kernel_rfl) ?_
     try go_wp2
     refine bodyPost_ret (results_tc rfl _ _ gb169 50 #[.slice Ao26 x169000_1.length co26] (0, 0) _ rfl (by (with_reducible repeat (first | refine blk_drewN ?_ _ | refine blk_drew ?_ | refine blk_alloc ?_ _)); apply blk_put (i := 0); (case h => exact y0 BK169.out); (case e => rfl)) Try.underlying50 rfl (by kernel_rfl)) rfl ?_
     exact ⟨_, _, y19, (by (with_reducible repeat (first | apply Kd.R_alloc | apply Kd.R_drewN | apply Kd.R_drew)); exact Kd.R_mono (Kd.R_far (p := ⟨gb169, 0, none⟩) (Kd.R_types HO_6.out BK169.out (by decide)) (fun _ hk => hk.2) (.slice Ao26 x169000_1.length co26)) (fun _ hk => hk.1)), (by (with_reducible repeat (first | apply Kd.V_alloc | apply Kd.V_drewN | apply Kd.V_drew)); exact Kd.V_mono (Kd.V_far (p := ⟨gb169, 0, none⟩) (Kd.V_mono HO_169000.out (fun k_ hk => (⟨hk, hk.2.2.2.1⟩ : _ ∧ k_ ≠ gb169))) (fun _ hk => hk.2) (.slice Ao26 x169000_1.length co26)) (fun _ hk => ⟨hk.1.1, hk.1.2.1⟩)), (y21 HI0.out NB0_168.out NB0_169.out), (y17 HB.out HI0.out GE168.out GE169.out), (y18 HK.out GW168.out GW169.out)⟩
   ·rw [if_neg c7] at H
    have c7b0 : decide (0 < (x169000_1.length : Int)) = false := decide_eq_false c7
    have c7b1 : decide (0 < x169000_1.length) = false := decide_eq_false (by omega)
    clear c7
    simp only [Option.some.injEq, Prod.mk.injEq] at H
    obtain ⟨rfl, rfl, rfl⟩ := H
    have hnb30 := NB168_169.out
    have hnc30 := NB169_168.out
    have hnb31 := NB168_0.out
    have hnc31 := NB0_168.out
    have hcz32_0 := zh BK168
    have hfz32_0 := zfr BK168 0
    obtain ⟨Ao33, co33, eo33⟩ := Kd.V_slice HO_169000.out
    subst eo33
    try go_wp2
    replace HO_6 := Aside0.mk (Kd.R_drew HO_6.out)
    replace HO_169000 := Aside0.mk (Kd.V_drew HO_169000.out)
    replace BK168 := Aside0.mk (blk_drew BK168.out)
    replace BK169 := Aside0.mk (blk_drew BK169.out)
    replace HI0 := Aside0.mk (IsS75.drew HI0.out)
    replace HK := Aside0.mk (keep_drew HK.out)
    replace HB := Aside0.mk (below_drew1 HB.out)
    refine start_ (n := 4) (S := fun w' => w'.cell? ⟨gb168, 0, none⟩ = some (.slice Ao33 x169000_1.length co33)) (ds := []) #[false, false, false, false] (by kernel_rfl) rfl rfl ((blk_cell BK168.out 0).trans rfl) (fun hHeld => ?_)
    generalize wr.drew = w34 at HO_6 HO_169000 BK168 BK169 HI0 HK HB hHeld ⊢
    refine pure_ (i := 0) (N := some 32) (v := ?_) (a' := ?_) #[true, false, false, false] rfl rfl (by kernel_rfl) (fun _ _ _ h => h) (Or.inl ⟨(by rfl), ?_⟩) ?_ ?_
    rotate_left
    ·intro w'
     go_simp
     with_reducible rfl
    rotate_left
    ·simp only [Act.put, List.setIfInBounds_toArray, List.set_cons_zero, List.set_cons_succ, i64_w, i32_w]
     rfl
    refine pure_ (i := 2) (N := some 4) (v := ?_) (a' := ?_) #[true, false, true, false] rfl rfl (by kernel_rfl) (fun _ _ _ h => h) (Or.inl ⟨(by rfl), ?_⟩) ?_ ?_
    rotate_left
    ·intro w'
     go_simp
     with_reducible rfl
    rotate_left
    ·simp only [Act.put, List.setIfInBounds_toArray, List.set_cons_zero, List.set_cons_succ, i64_w, i32_w]
     rfl
    refine take_ (i := 1) (N := some 33) (v := ?_) (a' := ?_) #[true, true, true, false] rfl rfl (by kernel_rfl) (fun _ _ _ h => h) (Or.inl ⟨(by rfl), ?_⟩) hHeld ?_ ?_
    rotate_left
    ·intro w' s0
     go_simp
     with_reducible rfl
    rotate_left
    ·simp only [Act.put, List.setIfInBounds_toArray, List.set_cons_zero, List.set_cons_succ, i64_w, i32_w]
     rfl
    refine one_ (i := 3) (N := none) #[true, true, true, true] rfl rfl (by kernel_rfl) (by decide) (fun K hK => ?_)
    have hs35 : w34.cell? ⟨gb169, 0, none⟩ = some (.slice none 0 0) := (blk_cell BK169.out 0).trans rfl
    have hfs35 := zfr BK169 0
    have hns35_0 := NB168_169.out
    have hms35_0 := NB169_168.out
    refine skip_ (w1 := ?_) (by rfl) rfl ?_ ?_
    rotate_left
    ·go_simp
     rfl
    refine hK.out _ _ (((cell_far (p := ⟨gb169, _, none⟩) NB168_169.out _).trans (hHeld))) (fun hHeld => ?_)
    clear hK K
    refine done_ (by kernel_rfl) ?_
    try go_wp2
    refine bodyPost_ret (results_tc rfl _ _ gb169 50 #[.slice Ao33 x169000_1.length co33] (0, 0) _ rfl (by (with_reducible repeat (first | refine blk_drewN ?_ _ | refine blk_drew ?_ | refine blk_alloc ?_ _)); apply blk_put (i := 0); (case h => exact y0 BK169.out); (case e => rfl)) Try.underlying50 rfl (by kernel_rfl)) rfl ?_
    exact ⟨_, _, y19, (by (with_reducible repeat (first | apply Kd.R_alloc | apply Kd.R_drewN | apply Kd.R_drew)); exact Kd.R_mono (Kd.R_far (p := ⟨gb169, 0, none⟩) (Kd.R_types HO_6.out BK169.out (by decide)) (fun _ hk => hk.2) (.slice Ao33 x169000_1.length co33)) (fun _ hk => hk.1)), (by (with_reducible repeat (first | apply Kd.V_alloc | apply Kd.V_drewN | apply Kd.V_drew)); exact Kd.V_mono (Kd.V_far (p := ⟨gb169, 0, none⟩) (Kd.V_mono HO_169000.out (fun k_ hk => (⟨hk, hk.2.2.2.1⟩ : _ ∧ k_ ≠ gb169))) (fun _ hk => hk.2) (.slice Ao33 x169000_1.length co33)) (fun _ hk => ⟨hk.1.1, hk.1.2.1⟩)), (y21 HI0.out NB0_168.out NB0_169.out), (y17 HB.out HI0.out GE168.out GE169.out), (y18 HK.out GW168.out GW169.out)⟩
end Go.Proofs.Ythfflieeifakdaa.PA
end
section
namespace Go.Proofs.Ythfflieeifakdaa.PA
open Go.RowKit Go.Proofs.YthfflieeifakdaaW.PrintWords Go.Proofs.YthfflieeifakdaaW.PrintLast Go.Proofs.YthfflieeifakdaaW.PrintMore
attribute [local go_sem] max2_int min2_int max_two min_two max_three min_three max_four min_four
set_option linter.unusedVariables false
set_option linter.unusedSimpArgs false
def spec_l71Any.f (k : Nat) (s0_0 : List Int) (s0_1 : Int) (l1_0 : List (S50)) : Option (List Int × Int) := (spec_l71Path.f k s0_0 s0_1 l1_0).bind fun bt182 => ((spec_l6Rd_pick.f k s0_0 bt182.2.2 6).bind fun bt190 => (if bt190.1 = 0 then ((spec_l6Rd_pick.f k s0_0 bt190.2 4).bind fun bt192 => (if bt182.1.length < 17592186044416 then (some ((bt182.1 ++ [wrap64 (bt192.1 - 1)]), bt192.2)) else (none))) else (some (bt182.1, bt190.2))))
theorem spec_l71Any.mono : ∀ a0 a1 a2 k, LeO (spec_l71Any.f k a0 a1 a2) (spec_l71Any.f (k + 1) a0 a1 a2) := by
 intro a0 a1 a2 k
 unfold spec_l71Any.f
 repeat' first
   | (with_reducible exact spec_l6Rd_pick.mono _ _ _ _)
   | (with_reducible exact spec_l71Path.mono _ _ _ _)
   | (with_reducible exact LeO.refl _)
   | (with_reducible exact LeO.none _)
   | (with_reducible refine LeO.ite ?_ ?_)
   | (with_reducible refine LeO.bind ?_ (fun _ => ?_))
   | exact spec_l6Rd_pick.mono _ _ _ _
   | exact spec_l71Path.mono _ _ _ _
   | exact LeO.none _
   | refine LeO.ite ?_ ?_
   | refine LeO.bind ?_ (fun _ => ?_)
set_option maxHeartbeats 8000000 in
set_option maxRecDepth 100000 in
theorem spec_l71Any.calls (k : Nat) (g : Nat) (s0_0 : List Int) (s0_1 : Int) (P1_0_ : Nat → Prop) (A1_0 : Option Addr) (c1_0 : Nat) (l1_0 : List (S50)) (r1 : List Int) (r2 : Int) (w0 w : World) (hI : IsS75 w0 w g s0_0 s0_1) (hB : Below w0.heap.size w0 w) (hs1_0 : Kd.V k50 50 w w.heap.size (fun k_ => P1_0_ k_ ∧ k_ ≠ g) (.slice A1_0 l1_0.length c1_0) l1_0) (h : spec_l71Any.f k s0_0 s0_1 l1_0 = some (r1, r2)) :
  Calls Try.prog 34 #[.pointer (some ⟨g, 0, none⟩), .agg #[.slice A1_0 l1_0.length c1_0]] w fun e w' => ∃ v0_ : Value, e = .returned (v0_) ∧ Kd.R (Kd.int .i64) 3 w' w.heap.size (fun k_ => (w.heap.size ≤ k_)) v0_ r1 ∧ IsS75 w0 w' g s0_0 r2 ∧ Below w0.heap.size w0 w' ∧ KeepBut w w' g none := by
 have hu50 := Try.underlying50
 have HO1_0 := Aside0.mk (show Kd.V k50 50 w w.heap.size (fun k_ => (P1_0_ k_ ∨ w.heap.size ≤ k_) ∧ k_ ≠ g) (.slice A1_0 l1_0.length c1_0) l1_0 from Kd.V_mono hs1_0 (fun k_ hk => ⟨.inl hk.1, hk.2⟩))
 have HI0 := Aside0.mk hI
 have HK := Aside0.mk (KeepBut.refl w g none)
 have HL := Aside0.mk hB.size
 clear hI
 have HW0 := Aside0.mk hB.size
 have HB := Aside0.mk hB
 clear hB
 have H : ((spec_l71Path.f k s0_0 s0_1 l1_0).bind fun bt182 => ((spec_l6Rd_pick.f k s0_0 bt182.2.2 6).bind fun bt190 => (if bt190.1 = 0 then ((spec_l6Rd_pick.f k s0_0 bt190.2 4).bind fun bt192 => (if bt182.1.length < 17592186044416 then (some ((bt182.1 ++ [wrap64 (bt192.1 - 1)]), bt192.2)) else (none))) else (some (bt182.1, bt190.2))))) = some (r1, r2) := h
 clear h
 obtain ⟨⟨t182, t185, t188⟩, A30, H⟩ := ob H
 have A3 := Aside0.mk A30
 clear A30
 obtain ⟨⟨t190, t191⟩, A40, H⟩ := ob H
 have A4 := Aside0.mk A40
 clear A40
 by_cases c5 : t190 = 0
 ·rw [if_pos c5] at H
  have c5b0 : (t190 == 0) = true := beq_iff_eq.mpr c5
  have c5b1 : (t190 != 0) = false := bne_eq_false_iff_eq.mpr c5
  clear c5
  obtain ⟨⟨t192, t193⟩, A60, H⟩ := ob H
  have A6 := Aside0.mk A60
  clear A60
  by_cases c7 : t182.length < 17592186044416
  ·rw [if_pos c7] at H
   have LMc7 := Aside0.mk c7
   clear c7
   obtain ⟨y194, hy194⟩ : ∃ y_ : List Int, y_ = (t182 ++ [wrap64 (t192 - 1)]) := ⟨_, rfl⟩
   replace H : (some (y194, t193)) = some (r1, r2) := by first | (rw [hy194]; with_reducible exact H) | (have H2_ := (Option.bind_some _ _).symm.trans H; rw [hy194]; with_reducible exact H2_) | (have H2_ := (Option.bind_some _ _).symm.trans H; with_reducible exact H2_) | with_reducible exact H | (rw [hy194]; exact H) | exact H
   have Ny194 := Aside0.mk hy194
   clear hy194
   simp only [Option.some.injEq, Prod.mk.injEq] at H
   obtain ⟨rfl, rfl⟩ := H
   go_enter Try.func34, Try.ntmps34
   go_wp2_with (first | ((with_reducible refine gate_dst (N := 3) rfl ?_); refine zbx 3 #[.slice A1_0 l1_0.length c1_0] 50 ?_; intro gb181 hg w8 hbox hb; replace HO1_0 := Aside0.mk (Kd.V_below (Kd.V_elderB (y10 HO1_0.out) gb181 (Nat.le_of_eq hg.symm)) hb); replace HB := Aside0.mk (below_step (y40 HB.out HI0.out) hb); have BK181 := Aside0.mk hbox; have GW181 := Aside0.mk ((by rw [hg]; exact (keep_size (w := w) (g := g) (row := none) (y29 HK.out)) : w.heap.size ≤ gb181)); have GE181 := Aside0.mk ((Nat.le_trans HW0.out (by rw [hg]; exact (keep_size (w := w) (g := g) (row := none) (y29 HK.out)) : w.heap.size ≤ gb181) : w0.heap.size ≤ gb181)); replace HK := Aside0.mk (KeepBut.trans (y29 HK.out) (KeepBut.of_below hb g none) (.inl rfl)); have NB0_181 := Aside0.mk ((by rw [hg]; exact Nat.ne_of_lt (IsS75.lt (show IsS75 w0 _ g s0_0 s0_1 from by repeat (first | (with_reducible first | exact HI0.out | apply IsS75.alloc | apply IsS75.drewN | apply IsS75.drew | apply IsS75.set_1) | exact HI0.out))) : g ≠ gb181)); have NB181_0 := Aside0.mk ((by rw [hg]; exact Nat.ne_of_gt (IsS75.lt (show IsS75 w0 _ g s0_0 s0_1 from by repeat (first | (with_reducible first | exact HI0.out | apply IsS75.alloc | apply IsS75.drewN | apply IsS75.drew | apply IsS75.set_1) | exact HI0.out))) : gb181 ≠ g)); replace HI0 := Aside0.mk (IsS75.below (y41 HI0.out) hb); clear hb hbox hg; have hnb9 := NB181_0.out; have hnc9 := NB0_181.out; have hcz10_0 := zh BK181; have hfz10_0 := zfr BK181 0) | ((with_reducible refine gate_callee (f := 56) rfl ?_); refine goesL_ (some 10) rfl rfl Try.func56 (by kernel_rfl) rfl #[.pointer (some ⟨g, 0, none⟩), .agg #[.slice A1_0 l1_0.length c1_0]] rfl y8 ?_; (with_reducible refine (spec_l71Path.calls k g s0_0 s0_1 (fun k_ => (((P1_0_ k_ ∨ w.heap.size ≤ k_) ∧ k_ ≠ g) ∧ k_ ≠ gb181)) _ _ l1_0 t182 t185 t188 w0 _ ?side1 ?side2 ?side3 A3.out).mono ?_); (case side1 => exact y31 HI0.out NB0_181.out); (case side2 => exact y30 HB.out HI0.out GE181.out); (case side3 => exact Kd.V_mono (HO1_0.out) (fun k_ hk_ => ⟨hk_, hk_.1.2⟩)); rintro e w11 ⟨v183, v186, rfl, ho0, ho1, hi, hb, hk⟩; refine ⟨_, rfl, ?_⟩; replace HO1_0 := Aside0.mk (Kd.V_mono (Kd.V_told (Kd.V_oldK (Kd.V_mono (ok := fun k_ => ((((P1_0_ k_ ∨ w.heap.size ≤ k_)) ∧ k_ ≠ g) ∧ k_ ≠ gb181)) (y10 HO1_0.out) (fun k_ hk_ => (⟨hk_, hk_.1.2⟩ : _ ∧ k_ ≠ g))) hk) (Kd.R_base ho0)) (fun _ h_ => h_.1)); have HO184 := Aside0.mk (Kd.R_lower (Kd.R_newM (M := fun k_ => (w.heap.size ≤ k_)) (Kd.R_mono (ok' := fun k_ => True) ho0 (fun _ _ => trivial)) (keep_size (w := w) (g := g) (row := none) (y25 HK.out GW181.out)) (fun k_ h_ => h_)) (keep_size (w := w) (g := g) (row := none) (y25 HK.out GW181.out))); have HO187 := Aside0.mk (Kd.V_lower (Kd.V_mono (ok' := fun k_ => (P1_0_ k_ ∨ w.heap.size ≤ k_) ∧ some k_ ≠ (v183 : Value).ownBlock ∧ k_ ≠ gb181 ∧ k_ ≠ g) ho1 (fun k_ hk_ => ⟨Or.elim hk_.1 (fun hs_ => hs_.1.1) (fun hn_ => (.inr (Nat.le_trans (keep_size (w := w) (g := g) (row := none) (y25 HK.out GW181.out)) hn_))), hk_.2, Or.elim hk_.1 (fun hs_ => hs_.2) (fun hn_ => (Kd.freshB (g := gb181) (o := .cells #[.slice A1_0 l1_0.length c1_0] 50 (0, 0)) (y0 BK181.out) k_ hn_)), Or.elim hk_.1 (fun hs_ => hs_.1.2) (fun hn_ => (IsS75.fresh (y31 HI0.out NB0_181.out) k_ hn_))⟩)) (keep_size (w := w) (g := g) (row := none) (y25 HK.out GW181.out))); replace BK181 := Aside0.mk (KeepBut.blk hk (g' := gb181) (o := .cells #[.slice A1_0 l1_0.length c1_0] 50 (0, 0)) (y0 BK181.out) NB181_0.out (by simp)); replace HK := Aside0.mk (KeepBut.trans (y25 HK.out GW181.out) hk (.inl rfl)); replace HB := Aside0.mk (hb); replace HI0 := Aside0.mk (hi); (try clear hb); (try clear hb2); (try clear hk); (try clear hi); (try clear ho0); (try clear ho1)) | ((with_reducible refine gate_dst (N := 6) rfl ?_); refine zbx 6 #[.slice none 0 0] 50 ?_; intro gb189 hg w12 hbox hb; replace HO1_0 := Aside0.mk (Kd.V_below (Kd.V_elderB (y10 HO1_0.out) gb189 (Nat.le_of_eq hg.symm)) hb); replace HO184 := Aside0.mk (Kd.R_below (y12 HO184.out) hb); replace HO187 := Aside0.mk (Kd.V_below (Kd.V_elderB (y10 HO187.out) gb189 (Nat.le_of_eq hg.symm)) hb); replace HB := Aside0.mk (below_step (y30 HB.out HI0.out GE181.out) hb); have BK189 := Aside0.mk hbox; have GW189 := Aside0.mk ((by rw [hg]; exact (keep_size (w := w) (g := g) (row := none) (y25 HK.out GW181.out)) : w.heap.size ≤ gb189)); have GE189 := Aside0.mk ((Nat.le_trans HW0.out (by rw [hg]; exact (keep_size (w := w) (g := g) (row := none) (y25 HK.out GW181.out)) : w.heap.size ≤ gb189) : w0.heap.size ≤ gb189)); replace HK := Aside0.mk (KeepBut.trans (y25 HK.out GW181.out) (KeepBut.of_below hb g none) (.inl rfl)); have NB181_189 := zltn hg BK181; have NB189_181 := zgtn hg BK181; replace BK181 := zbb BK181 hb; have NB0_189 := Aside0.mk ((by rw [hg]; exact Nat.ne_of_lt (IsS75.lt (show IsS75 w0 _ g s0_0 t188 from by repeat (first | (with_reducible first | exact HI0.out | apply IsS75.alloc | apply IsS75.drewN | apply IsS75.drew | apply IsS75.set_1 | refine IsS75.far ?_ NB0_181.out _) | exact HI0.out))) : g ≠ gb189)); have NB189_0 := Aside0.mk ((by rw [hg]; exact Nat.ne_of_gt (IsS75.lt (show IsS75 w0 _ g s0_0 t188 from by repeat (first | (with_reducible first | exact HI0.out | apply IsS75.alloc | apply IsS75.drewN | apply IsS75.drew | apply IsS75.set_1 | refine IsS75.far ?_ NB0_181.out _) | exact HI0.out))) : gb189 ≠ g)); replace HI0 := Aside0.mk (IsS75.below (y31 HI0.out NB0_181.out) hb); clear hb hbox hg; obtain ⟨Ao13, co13, eo13⟩ := Kd.V_slice HO187.out; subst eo13; have hnb14 := NB189_181.out; have hnc14 := NB181_189.out; have hnb15 := NB189_0.out; have hnc15 := NB0_189.out; have hcz16_0 := zh BK189; have hfz16_0 := zfr BK189 0) | ((with_reducible refine gate_callee (f := 32) rfl ?_); refine goesL_ (some 14) rfl rfl Try.func32 (by kernel_rfl) rfl #[.pointer (some ⟨g, 0, none⟩), .int .i64 6] rfl y8 ?_; (with_reducible refine (spec_l6Rd_pick.calls k g s0_0 t188 6 t190 t191 w0 _ ?side1 ?side2 A4.out).mono ?_); (case side1 => exact y21 HI0.out NB0_181.out NB0_189.out); (case side2 => exact y17 HB.out HI0.out GE181.out GE189.out); rintro e w17 ⟨rfl, hi, hb, hk⟩; refine ⟨_, rfl, ?_⟩; replace HO1_0 := Aside0.mk (Kd.V_mono (Kd.V_keep (Kd.V_mono (ok := fun k_ => ((((((P1_0_ k_ ∨ w.heap.size ≤ k_)) ∧ k_ ≠ g) ∧ k_ ≠ gb181) ∧ some k_ ≠ (v183 : Value).ownBlock) ∧ k_ ≠ gb189)) (by (with_reducible repeat (first | apply Kd.V_alloc | apply Kd.V_drewN | apply Kd.V_drew)); exact (Kd.V_mono (Kd.V_far (p := ⟨gb189, 0, none⟩) (Kd.V_mono HO1_0.out (fun k_ hk => (⟨hk, hk.2⟩ : _ ∧ k_ ≠ gb189))) (fun _ hk => hk.2) (.slice Ao13 t185.length co13)) (fun _ h_ => h_.1))) (fun k_ hk_ => (⟨hk_, hk_.1.1.1.2⟩ : _ ∧ k_ ≠ g))) hk (fun _ h => h.2)) (fun _ h => h.1)); replace BK181 := Aside0.mk (KeepBut.blk hk (g' := gb181) (o := .cells #[.slice A1_0 l1_0.length c1_0] 50 (0, 0)) (y13 NB181_189.out BK181.out) NB181_0.out (by simp)); replace HO184 := Aside0.mk (Kd.R_mono (Kd.R_keep (IsS75.apart (show IsS75 w0 _ g s0_0 t188 from by repeat (first | (with_reducible first | exact HI0.out | apply IsS75.alloc | apply IsS75.drewN | apply IsS75.drew | apply IsS75.set_1 | refine IsS75.far ?_ NB0_181.out _ | refine IsS75.far ?_ NB0_189.out _) | exact HI0.out)) (by (with_reducible repeat (first | apply Kd.R_alloc | apply Kd.R_drewN | apply Kd.R_drew)); exact (Kd.R_mono (Kd.R_far (p := ⟨gb189, 0, none⟩) (Kd.R_types HO184.out BK189.out (by decide)) (fun _ hk => hk.2) (.slice Ao13 t185.length co13)) (fun _ h_ => h_.1))) (by decide)) hk (fun _ h => h.2)) (fun _ h => h.1)); replace HO187 := Aside0.mk (Kd.V_mono (Kd.V_keep (Kd.V_mono (ok := fun k_ => ((((P1_0_ k_ ∨ w.heap.size ≤ k_)) ∧ (some k_ ≠ (v183 : Value).ownBlock ∧ (k_ ≠ gb181 ∧ k_ ≠ g))) ∧ k_ ≠ gb189)) (by (with_reducible repeat (first | apply Kd.V_alloc | apply Kd.V_drewN | apply Kd.V_drew)); exact (Kd.V_mono (Kd.V_far (p := ⟨gb189, 0, none⟩) (Kd.V_mono HO187.out (fun k_ hk => (⟨hk, hk.2⟩ : _ ∧ k_ ≠ gb189))) (fun _ hk => hk.2) (.slice Ao13 t185.length co13)) (fun _ h_ => h_.1))) (fun k_ hk_ => (⟨hk_, hk_.1.2.2.2⟩ : _ ∧ k_ ≠ g))) hk (fun _ h => h.2)) (fun _ h => h.1)); replace BK189 := Aside0.mk (KeepBut.blk hk (g' := gb189) (o := .cells #[.slice Ao13 t185.length co13] 50 (0, 0)) (by (with_reducible repeat (first | refine blk_drewN ?_ _ | refine blk_drew ?_ | refine blk_alloc ?_ _)); apply blk_put (i := 0); (case h => exact y0 BK189.out); (case e => rfl)) NB189_0.out (by simp)); replace HK := Aside0.mk (KeepBut.trans (y18 HK.out GW181.out GW189.out) hk (.inl rfl)); replace HB := Aside0.mk (hb); replace HI0 := Aside0.mk (hi); (try clear hb); (try clear hb2); (try clear hk); (try clear hi)) | ((with_reducible refine gate_callee (f := 32) rfl ?_); refine goesL_ (some 18) rfl rfl Try.func32 (by kernel_rfl) rfl #[.pointer (some ⟨g, 0, none⟩), .int .i64 4] rfl y8 ?_; (with_reducible refine (spec_l6Rd_pick.calls k g s0_0 t191 4 t192 t193 w0 _ ?side1 ?side2 A6.out).mono ?_); (case side1 => exact y21 HI0.out NB0_181.out NB0_189.out); (case side2 => exact y17 HB.out HI0.out GE181.out GE189.out); rintro e w18 ⟨rfl, hi, hb, hk⟩; refine ⟨_, rfl, ?_⟩; replace HO1_0 := Aside0.mk (Kd.V_mono (Kd.V_keep (Kd.V_mono (ok := fun k_ => ((((((P1_0_ k_ ∨ w.heap.size ≤ k_)) ∧ k_ ≠ g) ∧ k_ ≠ gb181) ∧ some k_ ≠ (v183 : Value).ownBlock) ∧ k_ ≠ gb189)) (y10 HO1_0.out) (fun k_ hk_ => (⟨hk_, hk_.1.1.1.2⟩ : _ ∧ k_ ≠ g))) hk (fun _ h => h.2)) (fun _ h => h.1)); replace BK181 := Aside0.mk (KeepBut.blk hk (g' := gb181) (o := .cells #[.slice A1_0 l1_0.length c1_0] 50 (0, 0)) (y0 BK181.out) NB181_0.out (by simp)); replace HO184 := Aside0.mk (Kd.R_mono (Kd.R_keep (IsS75.apart (show IsS75 w0 _ g s0_0 t191 from by repeat (first | (with_reducible first | exact HI0.out | apply IsS75.alloc | apply IsS75.drewN | apply IsS75.drew | apply IsS75.set_1 | refine IsS75.far ?_ NB0_181.out _ | refine IsS75.far ?_ NB0_189.out _) | exact HI0.out)) (y12 HO184.out) (by decide)) hk (fun _ h => h.2)) (fun _ h => h.1)); replace HO187 := Aside0.mk (Kd.V_mono (Kd.V_keep (Kd.V_mono (ok := fun k_ => ((((P1_0_ k_ ∨ w.heap.size ≤ k_)) ∧ (some k_ ≠ (v183 : Value).ownBlock ∧ (k_ ≠ gb181 ∧ k_ ≠ g))) ∧ k_ ≠ gb189)) (y10 HO187.out) (fun k_ hk_ => (⟨hk_, hk_.1.2.2.2⟩ : _ ∧ k_ ≠ g))) hk (fun _ h => h.2)) (fun _ h => h.1)); replace BK189 := Aside0.mk (KeepBut.blk hk (g' := gb189) (o := .cells #[.slice Ao13 t185.length co13] 50 (0, 0)) (y0 BK189.out) NB189_0.out (by simp)); replace HK := Aside0.mk (KeepBut.trans (y18 HK.out GW181.out GW189.out) hk (.inl rfl)); replace HB := Aside0.mk (hb); replace HI0 := Aside0.mk (hi); (try clear hb); (try clear hb2); (try clear hk); (try clear hi)) | ((with_reducible refine gate_builtin (b := .append) (xs := #[.tmp 16, .tmp 20]) rfl ?_); at_builtin; refine Kd.R_append (Kd.int .i64) w.heap.size rfl (.tmp 16) (.tmp 20) 26 3 (.int .i64 0) 8 rfl Try.underlying26 info3 rfl (by decide) (by omega) v183 t182 (wrap64 (t192 - 1)) [.int .i64 (wrap64 (t192 - 1))] (fun k_ => (w.heap.size ≤ k_)) (fun _ => False) rfl rfl ?aP (fun _ hk => hk.elim) ?aF ?aO (Below.refl _ _) ?aS ?aL ?_; (case aP => exact rfl); (case aF => exact (fun k_ hk => (Nat.le_trans (keep_size (w := w) (g := g) (row := none) (y18 HK.out GW181.out GW189.out)) hk))); (case aO => exact (y71 HO184.out)); (case aS => exact (keep_size (w := w) (g := g) (row := none) (y18 HK.out GW181.out GW189.out))); (case aL => exact y57 LMc7.out); intro v195 w19 ho hb hg hat; rw [← Ny194.out] at ho; replace HO1_0 := Aside0.mk (Kd.V_afterv (ok := (fun k_ => (P1_0_ k_ ∨ w.heap.size ≤ k_) ∧ k_ ≠ g ∧ k_ ≠ gb181 ∧ k_ ≠ gb189)) (by (with_reducible repeat (first | apply Kd.V_alloc | apply Kd.V_drewN | apply Kd.V_drew)); exact Kd.V_mono HO1_0.out (fun _ hk => ⟨⟨hk.1.1.1.1, ⟨hk.1.1.1.2, ⟨hk.1.1.2, hk.2⟩⟩⟩, hk.1.2⟩)) hg hat); replace BK181 := Aside0.mk (blk_grown (g := gb181) (o := .cells #[.slice A1_0 l1_0.length c1_0] 50 (0, 0)) (y0 BK181.out) hg (Kd.R_ne HO184.out BK181.out (by decide))); replace HO187 := Aside0.mk (Kd.V_afterv (ok := (fun k_ => (P1_0_ k_ ∨ w.heap.size ≤ k_) ∧ k_ ≠ gb181 ∧ k_ ≠ g ∧ k_ ≠ gb189)) (by (with_reducible repeat (first | apply Kd.V_alloc | apply Kd.V_drewN | apply Kd.V_drew)); exact Kd.V_mono HO187.out (fun _ hk => ⟨⟨hk.1.1, ⟨hk.1.2.2.1, ⟨hk.1.2.2.2, hk.2⟩⟩⟩, hk.1.2.1⟩)) hg hat); replace BK189 := Aside0.mk (blk_grown (g := gb189) (o := .cells #[.slice Ao13 t185.length co13] 50 (0, 0)) (y0 BK189.out) hg (Kd.R_ne HO184.out BK189.out (by decide))); replace HB := Aside0.mk (below_weaken (y17 HB.out HI0.out GE181.out GE189.out) HL.out hb); replace HI0 := Aside0.mk (IsS75.grown (y21 HI0.out NB0_181.out NB0_189.out) hg (IsS75.own_ne HI0.out HO184.out (by decide))); replace HK := Aside0.mk (KeepBut.trans (y18 HK.out GW181.out GW189.out) (KeepBut.of_grown hg g) (Kd.R_base2 HO184.out)); have HO196 := Aside0.mk (ho); clear HO184; clear ho hb hg hat))
   go_ret
   exact ⟨_, y19, (y12 HO196.out), (y21 HI0.out NB0_181.out NB0_189.out), (y17 HB.out HI0.out GE181.out GE189.out), (y18 HK.out GW181.out GW189.out)⟩
  ·rw [if_neg c7] at H
   exact absurd H (by simp)
 ·rw [if_neg c5] at H
  have c5b0 : (t190 == 0) = false := beq_eq_false_iff_ne.mpr c5
  have c5b1 : (t190 != 0) = true := bne_iff_ne.mpr c5
  simp only [Option.some.injEq, Prod.mk.injEq] at H
  obtain ⟨rfl, rfl⟩ := H
  go_enter Try.func34, Try.ntmps34
  go_wp2_with (first | ((with_reducible refine gate_dst (N := 3) rfl ?_); refine zbx 3 #[.slice A1_0 l1_0.length c1_0] 50 ?_; intro gb181 hg w20 hbox hb; replace HO1_0 := Aside0.mk (Kd.V_below (Kd.V_elderB (y10 HO1_0.out) gb181 (Nat.le_of_eq hg.symm)) hb); replace HB := Aside0.mk (below_step (y40 HB.out HI0.out) hb); have BK181 := Aside0.mk hbox; have GW181 := Aside0.mk ((by rw [hg]; exact (keep_size (w := w) (g := g) (row := none) (y29 HK.out)) : w.heap.size ≤ gb181)); have GE181 := Aside0.mk ((Nat.le_trans HW0.out (by rw [hg]; exact (keep_size (w := w) (g := g) (row := none) (y29 HK.out)) : w.heap.size ≤ gb181) : w0.heap.size ≤ gb181)); replace HK := Aside0.mk (KeepBut.trans (y29 HK.out) (KeepBut.of_below hb g none) (.inl rfl)); have NB0_181 := Aside0.mk ((by rw [hg]; exact Nat.ne_of_lt (IsS75.lt (show IsS75 w0 _ g s0_0 s0_1 from by repeat (first | (with_reducible first | exact HI0.out | apply IsS75.alloc | apply IsS75.drewN | apply IsS75.drew | apply IsS75.set_1) | exact HI0.out))) : g ≠ gb181)); have NB181_0 := Aside0.mk ((by rw [hg]; exact Nat.ne_of_gt (IsS75.lt (show IsS75 w0 _ g s0_0 s0_1 from by repeat (first | (with_reducible first | exact HI0.out | apply IsS75.alloc | apply IsS75.drewN | apply IsS75.drew | apply IsS75.set_1) | exact HI0.out))) : gb181 ≠ g)); replace HI0 := Aside0.mk (IsS75.below (y41 HI0.out) hb); clear hb hbox hg; have hnb21 := NB181_0.out; have hnc21 := NB0_181.out; have hcz22_0 := zh BK181; have hfz22_0 := zfr BK181 0) | ((with_reducible refine gate_callee (f := 56) rfl ?_); refine goesL_ (some 10) rfl rfl Try.func56 (by kernel_rfl) rfl #[.pointer (some ⟨g, 0, none⟩), .agg #[.slice A1_0 l1_0.length c1_0]] rfl y8 ?_; (with_reducible refine (spec_l71Path.calls k g s0_0 s0_1 (fun k_ => (((P1_0_ k_ ∨ w.heap.size ≤ k_) ∧ k_ ≠ g) ∧ k_ ≠ gb181)) _ _ l1_0 t182 t185 t188 w0 _ ?side1 ?side2 ?side3 A3.out).mono ?_); (case side1 => exact y31 HI0.out NB0_181.out); (case side2 => exact y30 HB.out HI0.out GE181.out); (case side3 => exact Kd.V_mono (HO1_0.out) (fun k_ hk_ => ⟨hk_, hk_.1.2⟩)); rintro e w23 ⟨v183, v186, rfl, ho0, ho1, hi, hb, hk⟩; refine ⟨_, rfl, ?_⟩; replace HO1_0 := Aside0.mk (Kd.V_mono (Kd.V_told (Kd.V_oldK (Kd.V_mono (ok := fun k_ => ((((P1_0_ k_ ∨ w.heap.size ≤ k_)) ∧ k_ ≠ g) ∧ k_ ≠ gb181)) (y10 HO1_0.out) (fun k_ hk_ => (⟨hk_, hk_.1.2⟩ : _ ∧ k_ ≠ g))) hk) (Kd.R_base ho0)) (fun _ h_ => h_.1)); have HO184 := Aside0.mk (Kd.R_lower (Kd.R_newM (M := fun k_ => (w.heap.size ≤ k_)) (Kd.R_mono (ok' := fun k_ => True) ho0 (fun _ _ => trivial)) (keep_size (w := w) (g := g) (row := none) (y25 HK.out GW181.out)) (fun k_ h_ => h_)) (keep_size (w := w) (g := g) (row := none) (y25 HK.out GW181.out))); have HO187 := Aside0.mk (Kd.V_lower (Kd.V_mono (ok' := fun k_ => (P1_0_ k_ ∨ w.heap.size ≤ k_) ∧ some k_ ≠ (v183 : Value).ownBlock ∧ k_ ≠ gb181 ∧ k_ ≠ g) ho1 (fun k_ hk_ => ⟨Or.elim hk_.1 (fun hs_ => hs_.1.1) (fun hn_ => (.inr (Nat.le_trans (keep_size (w := w) (g := g) (row := none) (y25 HK.out GW181.out)) hn_))), hk_.2, Or.elim hk_.1 (fun hs_ => hs_.2) (fun hn_ => (Kd.freshB (g := gb181) (o := .cells #[.slice A1_0 l1_0.length c1_0] 50 (0, 0)) (y0 BK181.out) k_ hn_)), Or.elim hk_.1 (fun hs_ => hs_.1.2) (fun hn_ => (IsS75.fresh (y31 HI0.out NB0_181.out) k_ hn_))⟩)) (keep_size (w := w) (g := g) (row := none) (y25 HK.out GW181.out))); replace BK181 := Aside0.mk (KeepBut.blk hk (g' := gb181) (o := .cells #[.slice A1_0 l1_0.length c1_0] 50 (0, 0)) (y0 BK181.out) NB181_0.out (by simp)); replace HK := Aside0.mk (KeepBut.trans (y25 HK.out GW181.out) hk (.inl rfl)); replace HB := Aside0.mk (hb); replace HI0 := Aside0.mk (hi); (try clear hb); (try clear hb2); (try clear hk); (try clear hi); (try clear ho0); (try clear ho1)) | ((with_reducible refine gate_dst (N := 6) rfl ?_); refine zbx 6 #[.slice none 0 0] 50 ?_; intro gb189 hg w24 hbox hb; replace HO1_0 := Aside0.mk (Kd.V_below (Kd.V_elderB (y10 HO1_0.out) gb189 (Nat.le_of_eq hg.symm)) hb); replace HO184 := Aside0.mk (Kd.R_below (y12 HO184.out) hb); replace HO187 := Aside0.mk (Kd.V_below (Kd.V_elderB (y10 HO187.out) gb189 (Nat.le_of_eq hg.symm)) hb); replace HB := Aside0.mk (below_step (y30 HB.out HI0.out GE181.out) hb); have BK189 := Aside0.mk hbox; have GW189 := Aside0.mk ((by rw [hg]; exact (keep_size (w := w) (g := g) (row := none) (y25 HK.out GW181.out)) : w.heap.size ≤ gb189)); have GE189 := Aside0.mk ((Nat.le_trans HW0.out (by rw [hg]; exact (keep_size (w := w) (g := g) (row := none) (y25 HK.out GW181.out)) : w.heap.size ≤ gb189) : w0.heap.size ≤ gb189)); replace HK := Aside0.mk (KeepBut.trans (y25 HK.out GW181.out) (KeepBut.of_below hb g none) (.inl rfl)); have NB181_189 := zltn hg BK181; have NB189_181 := zgtn hg BK181; replace BK181 := zbb BK181 hb; have NB0_189 := Aside0.mk ((by rw [hg]; exact Nat.ne_of_lt (IsS75.lt (show IsS75 w0 _ g s0_0 t188 from by repeat (first | (with_reducible first | exact HI0.out | apply IsS75.alloc | apply IsS75.drewN | apply IsS75.drew | apply IsS75.set_1 | refine IsS75.far ?_ NB0_181.out _) | exact HI0.out))) : g ≠ gb189)); have NB189_0 := Aside0.mk ((by rw [hg]; exact Nat.ne_of_gt (IsS75.lt (show IsS75 w0 _ g s0_0 t188 from by repeat (first | (with_reducible first | exact HI0.out | apply IsS75.alloc | apply IsS75.drewN | apply IsS75.drew | apply IsS75.set_1 | refine IsS75.far ?_ NB0_181.out _) | exact HI0.out))) : gb189 ≠ g)); replace HI0 := Aside0.mk (IsS75.below (y31 HI0.out NB0_181.out) hb); clear hb hbox hg; obtain ⟨Ao25, co25, eo25⟩ := Kd.V_slice HO187.out; subst eo25; have hnb26 := NB189_181.out; have hnc26 := NB181_189.out; have hnb27 := NB189_0.out; have hnc27 := NB0_189.out; have hcz28_0 := zh BK189; have hfz28_0 := zfr BK189 0) | ((with_reducible refine gate_callee (f := 32) rfl ?_); refine goesL_ (some 14) rfl rfl Try.func32 (by kernel_rfl) rfl #[.pointer (some ⟨g, 0, none⟩), .int .i64 6] rfl y8 ?_; (with_reducible refine (spec_l6Rd_pick.calls k g s0_0 t188 6 t190 t191 w0 _ ?side1 ?side2 A4.out).mono ?_); (case side1 => exact y21 HI0.out NB0_181.out NB0_189.out); (case side2 => exact y17 HB.out HI0.out GE181.out GE189.out); rintro e w29 ⟨rfl, hi, hb, hk⟩; refine ⟨_, rfl, ?_⟩; replace HO1_0 := Aside0.mk (Kd.V_mono (Kd.V_keep (Kd.V_mono (ok := fun k_ => ((((((P1_0_ k_ ∨ w.heap.size ≤ k_)) ∧ k_ ≠ g) ∧ k_ ≠ gb181) ∧ some k_ ≠ (v183 : Value).ownBlock) ∧ k_ ≠ gb189)) (by (with_reducible repeat (first | apply Kd.V_alloc | apply Kd.V_drewN | apply Kd.V_drew)); exact (Kd.V_mono (Kd.V_far (p := ⟨gb189, 0, none⟩) (Kd.V_mono HO1_0.out (fun k_ hk => (⟨hk, hk.2⟩ : _ ∧ k_ ≠ gb189))) (fun _ hk => hk.2) (.slice Ao25 t185.length co25)) (fun _ h_ => h_.1))) (fun k_ hk_ => (⟨hk_, hk_.1.1.1.2⟩ : _ ∧ k_ ≠ g))) hk (fun _ h => h.2)) (fun _ h => h.1)); replace BK181 := Aside0.mk (KeepBut.blk hk (g' := gb181) (o := .cells #[.slice A1_0 l1_0.length c1_0] 50 (0, 0)) (y13 NB181_189.out BK181.out) NB181_0.out (by simp)); replace HO184 := Aside0.mk (Kd.R_mono (Kd.R_keep (IsS75.apart (show IsS75 w0 _ g s0_0 t188 from by repeat (first | (with_reducible first | exact HI0.out | apply IsS75.alloc | apply IsS75.drewN | apply IsS75.drew | apply IsS75.set_1 | refine IsS75.far ?_ NB0_181.out _ | refine IsS75.far ?_ NB0_189.out _) | exact HI0.out)) (by (with_reducible repeat (first | apply Kd.R_alloc | apply Kd.R_drewN | apply Kd.R_drew)); exact (Kd.R_mono (Kd.R_far (p := ⟨gb189, 0, none⟩) (Kd.R_types HO184.out BK189.out (by decide)) (fun _ hk => hk.2) (.slice Ao25 t185.length co25)) (fun _ h_ => h_.1))) (by decide)) hk (fun _ h => h.2)) (fun _ h => h.1)); replace HO187 := Aside0.mk (Kd.V_mono (Kd.V_keep (Kd.V_mono (ok := fun k_ => ((((P1_0_ k_ ∨ w.heap.size ≤ k_)) ∧ (some k_ ≠ (v183 : Value).ownBlock ∧ (k_ ≠ gb181 ∧ k_ ≠ g))) ∧ k_ ≠ gb189)) (by (with_reducible repeat (first | apply Kd.V_alloc | apply Kd.V_drewN | apply Kd.V_drew)); exact (Kd.V_mono (Kd.V_far (p := ⟨gb189, 0, none⟩) (Kd.V_mono HO187.out (fun k_ hk => (⟨hk, hk.2⟩ : _ ∧ k_ ≠ gb189))) (fun _ hk => hk.2) (.slice Ao25 t185.length co25)) (fun _ h_ => h_.1))) (fun k_ hk_ => (⟨hk_, hk_.1.2.2.2⟩ : _ ∧ k_ ≠ g))) hk (fun _ h => h.2)) (fun _ h => h.1)); replace BK189 := Aside0.mk (KeepBut.blk hk (g' := gb189) (o := .cells #[.slice Ao25 t185.length co25] 50 (0, 0)) (by (with_reducible repeat (first | refine blk_drewN ?_ _ | refine blk_drew ?_ | refine blk_alloc ?_ _)); apply blk_put (i := 0); (case h => exact y0 BK189.out); (case e => rfl)) NB189_0.out (by simp)); replace HK := Aside0.mk (KeepBut.trans (y18 HK.out GW181.out GW189.out) hk (.inl rfl)); replace HB := Aside0.mk (hb); replace HI0 := Aside0.mk (hi); (try clear hb); (try clear hb2); (try clear hk); (try clear hi)))
  go_ret
  exact ⟨_, y19, (y71 HO184.out), (y21 HI0.out NB0_181.out NB0_189.out), (y17 HB.out HI0.out GE181.out GE189.out), (y18 HK.out GW181.out GW189.out)⟩
end Go.Proofs.Ythfflieeifakdaa.PA
end
section
namespace Go.Proofs.Ythfflieeifakdaa.PA
open Go.RowKit Go.Proofs.YthfflieeifakdaaW.PrintWords Go.Proofs.YthfflieeifakdaaW.PrintLast Go.Proofs.YthfflieeifakdaaW.PrintMore
attribute [local go_sem] max2_int min2_int max_two min_two max_three min_three max_four min_four
set_option linter.unusedVariables false
set_option linter.unusedSimpArgs false
def spec_DrawValAt.f (k : Nat) (l0 : List Int) : Option (Int × (List (S25)) × List Int) := (spec_l6Open.f l0).bind fun bt198 => ((spec_l6Rd_pick.f k bt198.1 bt198.2 3).bind fun bt201 => ((spec_l71Type.f k bt198.1 bt201.2 (wrap64 (2 + bt201.1))).bind fun bt203 => ((spec_l71Bad.f k bt198.1 bt203.2 bt203.1).bind fun bt208 => ((spec_l71Any.f k bt198.1 bt208.2.2 bt203.1).bind fun bt213 => (some (bt208.1, bt208.2.1, bt213.1))))))
theorem spec_DrawValAt.mono : ∀ a0 k, LeO (spec_DrawValAt.f k a0) (spec_DrawValAt.f (k + 1) a0) := by
 intro a0 k
 unfold spec_DrawValAt.f
 repeat' first
   | (with_reducible exact spec_l6Rd_pick.mono _ _ _ _)
   | (with_reducible exact spec_l71Any.mono _ _ _ _)
   | (with_reducible exact spec_l71Bad.mono _ _ _ _)
   | (with_reducible exact spec_l71Type.mono _ _ _ _)
   | (with_reducible exact LeO.refl _)
   | (with_reducible exact LeO.none _)
   | (with_reducible refine LeO.ite ?_ ?_)
   | (with_reducible refine LeO.bind ?_ (fun _ => ?_))
   | exact spec_l6Rd_pick.mono _ _ _ _
   | exact spec_l71Any.mono _ _ _ _
   | exact spec_l71Bad.mono _ _ _ _
   | exact spec_l71Type.mono _ _ _ _
   | exact LeO.none _
   | refine LeO.ite ?_ ?_
   | refine LeO.bind ?_ (fun _ => ?_)
def spec_DrawValAt.T3 : Bool × List (List Nat × List Nat) := (true, [([], []), ([], []), ([0, 1], [0, 1]), ([], []), ([], []), ([3, 4, 2], [3, 4]), ([2, 5, 0, 1, 2], [2]), ([5, 6, 0, 1, 2, 3, 4, 5, 6], [5])])
def spec_DrawValAt.B3 : List Nat := [0, 0, 3, 0, 0, 31, 63, 127]
theorem spec_DrawValAt.tab3 : rtab .any (opsOf Try.f12 3) = spec_DrawValAt.T3 := by kernel_rfl
theorem spec_DrawValAt.bits3 : waitsOk spec_DrawValAt.T3.2 spec_DrawValAt.B3 = true := by kernel_rfl
set_option maxHeartbeats 8000000 in
set_option maxRecDepth 100000 in
theorem spec_DrawValAt.calls (k : Nat) (A0 : Option Addr) (c0 : Nat) (l0 : List Int) (r1 : Int) (r2 : List (S25)) (r3 : List Int) (w : World) (hr0 : Kd.C (Kd.int .u8) w A0 l0.length l0) (hc0 : l0.length ≤ c0) (h : spec_DrawValAt.f k l0 = some (r1, r2, r3)) :
  Calls Try.prog 12 #[.slice A0 l0.length c0] w fun e w' => ∃ v1_ v2_ : Value, e = .returned (.tuple #[.agg #[.int .i64 r1, v1_], v2_]) ∧ Kd.N k25 25 w' w.heap.size (fun k_ => (w.heap.size ≤ k_) ∧ some k_ ≠ (v2_ : Value).ownBlock) v1_ r2 ∧ Kd.R (Kd.int .i64) 3 w' w.heap.size (fun k_ => (w.heap.size ≤ k_)) v2_ r3 ∧ Below w.heap.size w w' := by
 have hu25 := Try.underlying25
 have hu50 := Try.underlying50
 have HR0 := Aside0.mk hr0
 have HC0 := Aside0.mk hc0
 clear hr0 hc0
 have HB := Aside0.mk (Below.refl w.heap.size w)
 have H : ((spec_l6Open.f l0).bind fun bt198 => ((spec_l6Rd_pick.f k bt198.1 bt198.2 3).bind fun bt201 => ((spec_l71Type.f k bt198.1 bt201.2 (wrap64 (2 + bt201.1))).bind fun bt203 => ((spec_l71Bad.f k bt198.1 bt203.2 bt203.1).bind fun bt208 => ((spec_l71Any.f k bt198.1 bt208.2.2 bt203.1).bind fun bt213 => (some (bt208.1, bt208.2.1, bt213.1))))))) = some (r1, r2, r3) := h
 clear h
 obtain ⟨⟨t198, t199⟩, A20, H⟩ := ob H
 have A2 := Aside0.mk A20
 clear A20
 obtain ⟨⟨t201, t202⟩, A30, H⟩ := ob H
 have A3 := Aside0.mk A30
 clear A30
 obtain ⟨⟨t203, t206⟩, A40, H⟩ := ob H
 have A4 := Aside0.mk A40
 clear A40
 obtain ⟨⟨t208, t209, t212⟩, A50, H⟩ := ob H
 have A5 := Aside0.mk A50
 clear A50
 obtain ⟨⟨t213, t216⟩, A60, H⟩ := ob H
 have A6 := Aside0.mk A60
 clear A60
 simp only [Option.some.injEq, Prod.mk.injEq] at H
 obtain ⟨rfl, rfl, rfl⟩ := H
 go_enter Try.func12, Try.ntmps12
 try go_wp2_with (first | ((with_reducible refine gate_dst (N := 2) rfl ?_); refine zbx 2 #[.int .i64 0, .slice none 0 0] 25 ?_; intro gb197 hg w7 hbox hb; have BK197 := Aside0.mk hbox; have GW197 := Aside0.mk ((y9 hg HB.out : w.heap.size ≤ gb197)); have GE197 := Aside0.mk ((y9 hg HB.out : w.heap.size ≤ gb197)); replace HB := Aside0.mk (below_step (y5 HB.out) hb); clear hb hbox hg) | ((with_reducible refine gate_callee (f := 30) rfl ?_); refine goesL_ (some 7) rfl rfl Try.func30 (by kernel_rfl) rfl #[.slice A0 l0.length c0] rfl y8 ?_; (with_reducible refine (spec_l6Open.calls _ _ l0 t198 t199 w _ ?side1 ?side2 ?side3 A2.out).mono ?_); (case side1 => exact y6 HB.out GE197.out); (case side2 => exact HR0.out); (case side3 => exact HC0.out); rintro e w8 ⟨g200, rfl, hi, hb, hb2⟩; refine ⟨_, rfl, ?_⟩; replace HB := Aside0.mk (hb); have HI200 := Aside0.mk (hi); have NB200_197 := Aside0.mk (IsS75.ne_blk hi (blk_below (g := gb197) (o := .cells #[.int .i64 0, .slice none 0 0] 25 (0, 0)) (y0 BK197.out) hb2) (by decide)); have NB197_200 := Aside0.mk (Ne.symm (IsS75.ne_blk hi (blk_below (g := gb197) (o := .cells #[.int .i64 0, .slice none 0 0] 25 (0, 0)) (y0 BK197.out) hb2) (by decide))); replace BK197 := Aside0.mk (blk_below (g := gb197) (o := .cells #[.int .i64 0, .slice none 0 0] 25 (0, 0)) (y0 BK197.out) hb2); (try clear hb); (try clear hb2); (try clear hk); (try clear hi)) | ((with_reducible refine gate_callee (f := 32) rfl ?_); refine goesL_ (some 10) rfl rfl Try.func32 (by kernel_rfl) rfl #[.pointer (some ⟨g200, 0, none⟩), .int .i64 3] rfl y8 ?_; (with_reducible refine (spec_l6Rd_pick.calls k g200 t198 t199 3 t201 t202 w _ ?side1 ?side2 A3.out).mono ?_); (case side1 => exact y31 HI200.out NB200_197.out); (case side2 => exact y30 HB.out HI200.out GE197.out); rintro e w9 ⟨rfl, hi, hb, hk⟩; refine ⟨_, rfl, ?_⟩; replace BK197 := Aside0.mk (KeepBut.blk hk (g' := gb197) (o := .cells #[.int .i64 0, .slice none 0 0] 25 (0, 0)) (y0 BK197.out) NB197_200.out (by simp)); replace HB := Aside0.mk (hb); replace HI200 := Aside0.mk (hi); (try clear hb); (try clear hb2); (try clear hk); (try clear hi)) | ((with_reducible refine gate_callee (f := 31) rfl ?_); refine goesL_ (some 12) rfl rfl Try.func31 (by kernel_rfl) rfl #[.pointer (some ⟨g200, 0, none⟩), .int .i64 (wrap64 (2 + t201))] rfl y8 ?_; (with_reducible refine (spec_l71Type.calls k g200 t198 t202 (wrap64 (2 + t201)) t203 t206 w _ ?side1 ?side2 A4.out).mono ?_); (case side1 => exact y31 HI200.out NB200_197.out); (case side2 => exact y30 HB.out HI200.out GE197.out); rintro e w10 ⟨v204, rfl, ho0, hi, hb, hk⟩; refine ⟨_, rfl, ?_⟩; have HO205 := Aside0.mk (Kd.N_lower (Kd.N_mono (ok' := fun k_ => (w.heap.size ≤ k_) ∧ k_ ≠ gb197 ∧ k_ ≠ g200) ho0 (fun k_ hk_ => ⟨(Nat.le_trans (below_size (y30 HB.out HI200.out GE197.out)) hk_), (Kd.freshB (g := gb197) (o := .cells #[.int .i64 0, .slice none 0 0] 25 (0, 0)) (y0 BK197.out) k_ hk_), (IsS75.fresh (y31 HI200.out NB200_197.out) k_ hk_)⟩)) (below_size (y30 HB.out HI200.out GE197.out))); replace BK197 := Aside0.mk (KeepBut.blk hk (g' := gb197) (o := .cells #[.int .i64 0, .slice none 0 0] 25 (0, 0)) (y0 BK197.out) NB197_200.out (by simp)); replace HB := Aside0.mk (hb); replace HI200 := Aside0.mk (hi); (try clear hb); (try clear hb2); (try clear hk); (try clear hi); (try clear ho0)) | ((with_reducible refine gate_dst (N := 5) rfl ?_); refine zbx 5 #[.slice none 0 0] 50 ?_; intro gb207 hg w11 hbox hb; replace HO205 := Aside0.mk (Kd.N_below (Kd.N_elderB (y3 HO205.out) gb207 (Nat.le_of_eq hg.symm)) hb); have BK207 := Aside0.mk hbox; have GW207 := Aside0.mk ((y75 hg HB.out HI200.out GE197.out : w.heap.size ≤ gb207)); have GE207 := Aside0.mk ((y75 hg HB.out HI200.out GE197.out : w.heap.size ≤ gb207)); replace HB := Aside0.mk (below_step (y30 HB.out HI200.out GE197.out) hb); have NB197_207 := zltn hg BK197; have NB207_197 := zgtn hg BK197; replace BK197 := zbb BK197 hb; have NB200_207 := Aside0.mk ((by rw [hg]; exact Nat.ne_of_lt (IsS75.lt (show IsS75 w _ g200 t198 t206 from by repeat (first | (with_reducible first | exact HI200.out | apply IsS75.alloc | apply IsS75.drewN | apply IsS75.drew | apply IsS75.set_1 | refine IsS75.far ?_ NB200_197.out _) | exact HI200.out))) : g200 ≠ gb207)); have NB207_200 := Aside0.mk ((by rw [hg]; exact Nat.ne_of_gt (IsS75.lt (show IsS75 w _ g200 t198 t206 from by repeat (first | (with_reducible first | exact HI200.out | apply IsS75.alloc | apply IsS75.drewN | apply IsS75.drew | apply IsS75.set_1 | refine IsS75.far ?_ NB200_197.out _) | exact HI200.out))) : gb207 ≠ g200)); replace HI200 := Aside0.mk (IsS75.below (y31 HI200.out NB200_197.out) hb); clear hb hbox hg; obtain ⟨Ao12, co12, eo12⟩ := Kd.N_slice HO205.out; subst eo12; have hnb13 := NB207_197.out; have hnc13 := NB197_207.out; have hnb14 := NB207_200.out; have hnc14 := NB200_207.out; have hcz15_0 := zh BK207; have hfz15_0 := zfr BK207 0))
 have n0_ : Aside0 (Kd.N k50 50 (w11.setCell ⟨gb207, 0, none⟩ (.slice Ao12 t203.length co12)) w.heap.size (fun k_ => (w.heap.size ≤ k_) ∧ k_ ≠ gb197 ∧ k_ ≠ g200 ∧ k_ ≠ gb207) (.slice Ao12 t203.length co12) t203) := ⟨(by (with_reducible repeat (first | apply Kd.N_alloc | apply Kd.N_drewN | apply Kd.N_drew)); exact Kd.N_mono (Kd.N_far (p := ⟨gb207, 0, none⟩) (Kd.N_mono HO205.out (fun k_ hk => (⟨hk, hk.2⟩ : _ ∧ k_ ≠ gb207))) (fun _ hk => hk.2) (.slice Ao12 t203.length co12)) (fun _ hk => ⟨hk.1.1.1, ⟨hk.1.1.2.1, ⟨hk.1.1.2.2, hk.1.2⟩⟩⟩))⟩
 have n1_ : Aside0 ((w11.setCell ⟨gb207, 0, none⟩ (.slice Ao12 t203.length co12)).heap[gb197]? = some (.cells #[.int .i64 0, .slice none 0 0] 25 (0, 0))) := ⟨(y13 NB197_207.out BK197.out)⟩
 have n2_ : Aside0 ((w11.setCell ⟨gb207, 0, none⟩ (.slice Ao12 t203.length co12)).heap[gb207]? = some (.cells #[.slice Ao12 t203.length co12] 50 (0, 0))) := ⟨(by (with_reducible repeat (first | refine blk_drewN ?_ _ | refine blk_drew ?_ | refine blk_alloc ?_ _)); refine blk_put (cs := #[.slice none 0 0]) ?_ 0 _ rfl; (with_reducible repeat (first | refine blk_drewN ?_ _ | refine blk_drew ?_ | refine blk_alloc ?_ _)); exact BK207.out)⟩
 have n3_ : Aside0 (IsS75 w (w11.setCell ⟨gb207, 0, none⟩ (.slice Ao12 t203.length co12)) g200 t198 t206) := ⟨(y21 HI200.out NB200_197.out NB200_207.out)⟩
 have n4_ : Aside0 (Below w.heap.size w (w11.setCell ⟨gb207, 0, none⟩ (.slice Ao12 t203.length co12))) := ⟨(y17 HB.out HI200.out GE197.out GE207.out)⟩
 (try clear HO205)
 (try clear BK197)
 (try clear BK207)
 (try clear HI200)
 (try clear HB)
 generalize (w11.setCell ⟨gb207, 0, none⟩ (.slice Ao12 t203.length co12)) = w16 at n0_ n1_ n2_ n3_ n4_ ⊢
 have HO205 := n0_
 have BK197 := n1_
 have BK207 := n2_
 have HI200 := n3_
 have HB := n4_
 clear n0_ n1_ n2_ n3_ n4_
 replace HO205 := Aside0.mk (Kd.N_drew HO205.out)
 replace BK197 := Aside0.mk (blk_drew BK197.out)
 replace BK207 := Aside0.mk (blk_drew BK207.out)
 replace HI200 := Aside0.mk (IsS75.drew HI200.out)
 replace HB := Aside0.mk (below_drew1 HB.out)
 refine start_ (n := 8) (S := fun w' => w'.cell? ⟨gb207, 0, none⟩ = some (.slice Ao12 t203.length co12)) (ds := []) #[false, false, false, false, false, false, false, false] (by kernel_rfl) rfl rfl ((blk_cell BK207.out 0).trans rfl) (fun hHeld => ?_); refine with_tabW spec_DrawValAt.tab3 spec_DrawValAt.bits3 (fun HT_ HW_ => ?_)
 generalize w16.drew = w17 at HO205 BK197 BK207 HI200 HB hHeld ⊢
 refine zp 0 (some 13) HT_ ?_
 refine zp 3 (some 16) HT_ ?_
 refine take_ (i := 1) (N := some 14) (v := ?_) (a' := ?_) #[true, true, false, true, false, false, false, false] rfl rfl (take_ofW HT_.out HW_.out (by kernel_rfl)) (fun _ _ _ h => h) (Or.inl ⟨(by rfl), ?_⟩) hHeld ?_ ?_
 rotate_left
 ·intro w' s0
  go_simp
  with_reducible rfl
 rotate_left
 ·simp only [Act.put, List.setIfInBounds_toArray, List.set_cons_zero, List.set_cons_succ, i64_w, i32_w]
  rfl
 refine take_ (i := 4) (N := some 17) (v := ?_) (a' := ?_) #[true, true, false, true, true, false, false, false] rfl rfl (take_ofW HT_.out HW_.out (by kernel_rfl)) (fun _ _ _ h => h) (Or.inl ⟨(by rfl), ?_⟩) hHeld ?_ ?_
 rotate_left
 ·intro w' s0
  go_simp
  with_reducible rfl
 rotate_left
 ·simp only [Act.put, List.setIfInBounds_toArray, List.set_cons_zero, List.set_cons_succ, i64_w, i32_w]
  rfl
 refine one_ (i := 2) (N := some 15) #[true, true, true, true, true, false, false, false] rfl rfl (one_of HT_.out (by kernel_rfl)) (by decide) (fun K hK => ?_)
 refine goes_ Try.func33 (by kernel_rfl) rfl #[.pointer (some ⟨g200, 0, none⟩), .agg #[.slice Ao12 t203.length co12]] (by rfl) rfl rfl y8 ?_
 with_reducible refine (spec_l71Bad.calls k g200 t198 t206 (fun k_ => ((w.heap.size ≤ k_) ∧ (k_ ≠ gb197 ∧ (k_ ≠ g200 ∧ k_ ≠ gb207)))) _ _ t203 t208 t209 t212 w _ ?side1 ?side2 ?side3 A5.out).mono ?_
 (case side1 => exact y21 HI200.out NB200_197.out NB200_207.out)
 (case side2 => exact y17 HB.out HI200.out GE197.out GE207.out)
 (case side3 => exact Kd.V_mono (Kd.N_V (HO205.out)) (fun k_ hk_ => ⟨hk_, hk_.2.2.1⟩))
 rintro e w18 ⟨v210, rfl, ho0, hi, hb, hk⟩
 refine ⟨_, rfl, ?_⟩
 replace HO205 := Aside0.mk (Kd.N_mono (Kd.N_told (Kd.N_oldK (Kd.N_mono (ok := fun k_ => (((w.heap.size ≤ k_)) ∧ (k_ ≠ gb197 ∧ (k_ ≠ g200 ∧ k_ ≠ gb207)))) (y3 HO205.out) (fun k_ hk_ => (⟨hk_, hk_.2.2.1⟩ : _ ∧ k_ ≠ g200))) hk) (Kd.N_base ho0)) (fun _ h_ => h_.1))
 have HO211 := Aside0.mk (Kd.N_lower (Kd.N_mono (ok' := fun k_ => (w.heap.size ≤ k_) ∧ k_ ≠ gb197 ∧ k_ ≠ gb207 ∧ k_ ≠ g200) ho0 (fun k_ hk_ => ⟨Or.elim hk_ (fun hs_ => hs_.1) (fun hn_ => (Nat.le_trans (below_size (y17 HB.out HI200.out GE197.out GE207.out)) hn_)), Or.elim hk_ (fun hs_ => hs_.2.1) (fun hn_ => (Kd.freshB (g := gb197) (o := .cells #[.int .i64 0, .slice none 0 0] 25 (0, 0)) (y0 BK197.out) k_ hn_)), Or.elim hk_ (fun hs_ => hs_.2.2.2) (fun hn_ => (Kd.freshB (g := gb207) (o := .cells #[.slice Ao12 t203.length co12] 50 (0, 0)) (y0 BK207.out) k_ hn_)), Or.elim hk_ (fun hs_ => hs_.2.2.1) (fun hn_ => (IsS75.fresh (y21 HI200.out NB200_197.out NB200_207.out) k_ hn_))⟩)) (below_size (y17 HB.out HI200.out GE197.out GE207.out)))
 replace BK197 := Aside0.mk (KeepBut.blk hk (g' := gb197) (o := .cells #[.int .i64 0, .slice none 0 0] 25 (0, 0)) (y0 BK197.out) NB197_200.out (by simp))
 replace BK207 := Aside0.mk (KeepBut.blk hk (g' := gb207) (o := .cells #[.slice Ao12 t203.length co12] 50 (0, 0)) (y0 BK207.out) NB207_200.out (by simp))
 replace HB := Aside0.mk (hb)
 replace HI200 := Aside0.mk (hi)
 (try clear hb)
 (try clear hb2)
 (try clear hk)
 (try clear hi)
 (try clear ho0)
 refine hK.out _ _ ((blk_cell BK207.out 0).trans rfl) (fun hHeld => ?_)
 clear hK K
 refine norm_ (a' := ?_) ?_ ?_
 rotate_left
 ·show Act.put _ (some 15) _ = _
  simp only [Act.put, List.setIfInBounds_toArray, List.set_cons_zero, List.set_cons_succ, i64_w, i32_w]
  rfl
 refine one_ (i := 5) (N := some 18) #[true, true, true, true, true, true, false, false] rfl rfl (one_of HT_.out (by kernel_rfl)) (by decide) (fun K hK => ?_)
 refine goes_ Try.func34 (by kernel_rfl) rfl #[.pointer (some ⟨g200, 0, none⟩), .agg #[.slice Ao12 t203.length co12]] (by rfl) rfl rfl y8 ?_
 with_reducible refine (spec_l71Any.calls k g200 t198 t212 (fun k_ => (((w.heap.size ≤ k_) ∧ (k_ ≠ gb197 ∧ (k_ ≠ g200 ∧ k_ ≠ gb207))) ∧ some k_ ≠ (v210 : Value).ownBlock)) _ _ t203 t213 t216 w _ ?side1 ?side2 ?side3 A6.out).mono ?_
 (case side1 => exact y21 HI200.out NB200_197.out NB200_207.out)
 (case side2 => exact y17 HB.out HI200.out GE197.out GE207.out)
 (case side3 => exact Kd.V_mono (Kd.N_V (HO205.out)) (fun k_ hk_ => ⟨hk_, hk_.1.2.2.1⟩))
 rintro e w19 ⟨v214, rfl, ho0, hi, hb, hk⟩
 refine ⟨_, rfl, ?_⟩
 replace BK197 := Aside0.mk (KeepBut.blk hk (g' := gb197) (o := .cells #[.int .i64 0, .slice none 0 0] 25 (0, 0)) (y0 BK197.out) NB197_200.out (by simp))
 replace HO205 := Aside0.mk (Kd.N_mono (Kd.N_told (Kd.N_oldK (Kd.N_mono (ok := fun k_ => ((((w.heap.size ≤ k_)) ∧ (k_ ≠ gb197 ∧ (k_ ≠ g200 ∧ k_ ≠ gb207))) ∧ some k_ ≠ (v210 : Value).ownBlock)) (y3 HO205.out) (fun k_ hk_ => (⟨hk_, hk_.1.2.2.1⟩ : _ ∧ k_ ≠ g200))) hk) (Kd.R_base ho0)) (fun _ h_ => h_.1))
 replace BK207 := Aside0.mk (KeepBut.blk hk (g' := gb207) (o := .cells #[.slice Ao12 t203.length co12] 50 (0, 0)) (y0 BK207.out) NB207_200.out (by simp))
 replace HO211 := Aside0.mk (Kd.N_mono (Kd.N_told (Kd.N_oldK (Kd.N_mono (ok := fun k_ => (((w.heap.size ≤ k_)) ∧ (k_ ≠ gb197 ∧ (k_ ≠ gb207 ∧ k_ ≠ g200)))) (y3 HO211.out) (fun k_ hk_ => (⟨hk_, hk_.2.2.2⟩ : _ ∧ k_ ≠ g200))) hk) (Kd.R_base ho0)) (fun _ h_ => h_.1))
 have HO215 := Aside0.mk (Kd.R_lower (Kd.R_newM (M := fun k_ => (w.heap.size ≤ k_)) (Kd.R_mono (ok' := fun k_ => True) ho0 (fun _ _ => trivial)) (below_size (y17 HB.out HI200.out GE197.out GE207.out)) (fun k_ h_ => h_)) (below_size (y17 HB.out HI200.out GE197.out GE207.out)))
 replace HB := Aside0.mk (hb)
 replace HI200 := Aside0.mk (hi)
 (try clear hb)
 (try clear hb2)
 (try clear hk)
 (try clear hi)
 (try clear ho0)
 obtain ⟨Ao21, co21, eo21⟩ := Kd.N_slice HO211.out
 (first | subst eo21 | (injection eo21 with f1_ f2_ f3_; have f4_ := f1_.symm; have f5_ := f3_.symm; clear f1_ f2_ f3_; subst f4_; subst f5_))
 refine hK.out _ _ ((blk_cell BK207.out 0).trans rfl) (fun hHeld => ?_)
 clear hK K
 refine norm_ (a' := ?_) ?_ ?_
 rotate_left
 ·show Act.put _ (some 18) _ = _
  simp only [Act.put, List.setIfInBounds_toArray, List.set_cons_zero, List.set_cons_succ, i64_w, i32_w]
  rfl
 refine one_ (i := 6) (N := none) #[true, true, true, true, true, true, true, false] rfl rfl (one_of HT_.out (by kernel_rfl)) (by decide) (fun K hK => ?_)
 have hs20 : w19.cell? ⟨gb197, 0, none⟩ = some (.int .i64 0) := (blk_cell BK197.out 0).trans rfl
 have hfs20 := zfr BK197 0
 have hns20_1 := NB207_197.out
 have hms20_1 := NB197_207.out
 have hs22 : w19.cell? ⟨gb197, 1, none⟩ = some (.slice none 0 0) := (blk_cell BK197.out 1).trans rfl
 have hfs22 := zfr BK197 1
 have hns22_1 := NB207_197.out
 have hms22_1 := NB197_207.out
 refine skip_ (w1 := ?_) (by rfl) rfl ?_ ?_
 rotate_left
 ·go_simp
  rfl
 refine hK.out _ _ (((cell_far (p := ⟨gb197, _, none⟩) NB207_197.out _).trans (((cell_far (p := ⟨gb197, _, none⟩) NB207_197.out _).trans (hHeld))))) (fun hHeld => ?_)
 clear hK K
 refine zp 7 (some 3) HT_ ?_
 refine done_ (done_of HT_.out (by kernel_rfl)) ?_
 try go_wp2
 refine bodyPost_ret (results_ct rfl _ _ gb197 25 #[.int .i64 t208, .slice Ao21 t209.length co21] (0, 0) _ rfl (by (with_reducible repeat (first | refine blk_drewN ?_ _ | refine blk_drew ?_ | refine blk_alloc ?_ _)); refine blk_put (cs := #[.int .i64 t208, .slice none 0 0]) ?_ 1 _ rfl; (with_reducible repeat (first | refine blk_drewN ?_ _ | refine blk_drew ?_ | refine blk_alloc ?_ _)); apply blk_put (i := 0); (case h => exact y0 BK197.out); (case e => rfl)) Try.underlying25 rfl (by kernel_rfl)) rfl ?_
 exact ⟨_, _, y19, (by (with_reducible repeat (first | apply Kd.N_alloc | apply Kd.N_drewN | apply Kd.N_drew)); exact Kd.N_mono (Kd.N_far (p := ⟨gb197, 1, none⟩) (Kd.N_far (p := ⟨gb197, 0, none⟩) (Kd.N_mono HO211.out (fun k_ hk => (⟨hk, hk.1.2.1⟩ : _ ∧ k_ ≠ gb197))) (fun _ hk => hk.2) (.int .i64 t208)) (fun _ hk => hk.2) (.slice Ao21 t209.length co21)) (fun _ hk => ⟨hk.1.1.1, hk.1.2⟩)), (by (with_reducible repeat (first | apply Kd.R_alloc | apply Kd.R_drewN | apply Kd.R_drew)); exact Kd.R_mono (Kd.R_far (p := ⟨gb197, 1, none⟩) (Kd.R_far (p := ⟨gb197, 0, none⟩) (Kd.R_types HO215.out BK197.out (by decide)) (fun _ hk => hk.2) (.int .i64 t208)) (fun _ hk => hk.2) (.slice Ao21 t209.length co21)) (fun _ hk => hk.1.1)), (y17 HB.out HI200.out GE197.out GE207.out)⟩
end Go.Proofs.Ythfflieeifakdaa.PA
end
section
namespace Go.Proofs.Ythfflieeifakdaa.PA
open Go.RowKit Go.Proofs.YthfflieeifakdaaW.PrintWords Go.Proofs.YthfflieeifakdaaW.PrintLast Go.Proofs.YthfflieeifakdaaW.PrintMore
attribute [local go_sem] max2_int min2_int max_two min_two max_three min_three max_four min_four
set_option linter.unusedVariables false
set_option linter.unusedSimpArgs false
def spec_l6In.f (a0 : Int) (a1 : Int) (a2 : Int) : Option (Bool) := if a0 ≥ a1 then (some (decide (a0 ≤ a2))) else (some false)
set_option maxHeartbeats 8000000 in
set_option maxRecDepth 100000 in
theorem spec_l6In.calls (a0 : Int) (a1 : Int) (a2 : Int) (r : Bool) (w : World) (h : spec_l6In.f a0 a1 a2 = some r) :
  Calls Try.prog 36 #[.int .i64 a0, .int .i64 a1, .int .i64 a2] w fun e w' => e = .returned (.bool r) ∧ Drawn0 w w' := by
 have H : (if a0 ≥ a1 then (some (decide (a0 ≤ a2))) else (some false)) = some r := h
 clear h
 by_cases c4 : a0 ≥ a1
 ·rw [if_pos c4] at H
  have c4b0 : decide (a1 ≤ a0) = true := decide_eq_true c4
  clear c4
  obtain rfl := Option.some.inj H
  go_enter Try.func36, Try.ntmps36
  go_wp2
  go_ret
  exact ⟨y34, y62⟩
 ·rw [if_neg c4] at H
  have c4b0 : decide (a1 ≤ a0) = false := decide_eq_false c4
  clear c4
  obtain rfl := Option.some.inj H
  go_enter Try.func36, Try.ntmps36
  go_wp2
  go_ret
  exact ⟨y34, y62⟩
end Go.Proofs.Ythfflieeifakdaa.PA
end
section
namespace Go.Proofs.Ythfflieeifakdaa.PA
open Go.RowKit Go.Proofs.YthfflieeifakdaaW.PrintWords Go.Proofs.YthfflieeifakdaaW.PrintLast Go.Proofs.YthfflieeifakdaaW.PrintMore
attribute [local go_sem] max2_int min2_int max_two min_two max_three min_three max_four min_four
set_option linter.unusedVariables false
set_option linter.unusedSimpArgs false
mutual
def spec_l1Deep.j0 : Nat → Int → Bool → List (S50) → Option (Bool)
 | 0, _, _, _ => none
 | k + 1, x1, x19, x218000 => if x19 = true then (some false) else (spec_l1Deep.l0 k x1 0 x218000)
def spec_l1Deep.l0 : Nat → Int → Int → List (S50) → Option (Bool)
 | 0, _, _, _ => none
 | k + 1, x1, x5, x218000 => if x5 < (x218000.length : Int) then (if 0 ≤ x5 then ((spec_l1Deep.f k ((rd_T50 x218000 x5).f0) (wrap64 (x1 - 1))).bind fun t219 => (if t219 = true then (spec_l1Deep.l0 k x1 (wrap64 (x5 + 1)) x218000) else (some false))) else (none)) else (some true)
def spec_l1Deep.f : Nat → List (S50) → Int → Option (Bool)
 | 0, _, _ => none
 | k + 1, l0_0, a1 => if a1 < 1 then (spec_l1Deep.j0 k a1 true l0_0) else (if (l0_0.length : Int) = 0 then (spec_l1Deep.j0 k a1 false l0_0) else (spec_l1Deep.j0 k a1 ((l0_0.length : Int) != 2) l0_0))
end
theorem spec_l1Deep.mono_l : ∀ k, (∀ y0 y1, LeO (spec_l1Deep.f k y0 y1) (spec_l1Deep.f (k + 1) y0 y1)) ∧ (∀ y0 y1 y2, LeO (spec_l1Deep.j0 k y0 y1 y2) (spec_l1Deep.j0 (k + 1) y0 y1 y2)) ∧ (∀ y0 y1 y2, LeO (spec_l1Deep.l0 k y0 y1 y2) (spec_l1Deep.l0 (k + 1) y0 y1 y2))
 | 0 => ⟨fun _ _ r h => by simp [spec_l1Deep.f] at h, fun _ _ _ r h => by simp [spec_l1Deep.j0] at h, fun _ _ _ r h => by simp [spec_l1Deep.l0] at h⟩
 | k + 1 => by
  obtain ⟨ih0, ih1, ih2⟩ := spec_l1Deep.mono_l k
  refine ⟨?_, ?_, ?_⟩
  ·intro y0 y1
   unfold spec_l1Deep.f
   repeat' first
   | (with_reducible exact ih0 _ _)
   | (with_reducible exact ih1 _ _ _)
   | (with_reducible exact ih2 _ _ _)
   | (with_reducible exact LeO.refl _)
   | (with_reducible exact LeO.none _)
   | (with_reducible refine LeO.ite ?_ ?_)
   | (with_reducible refine LeO.bind ?_ (fun _ => ?_))
   | exact ih0 _ _
   | exact ih1 _ _ _
   | exact ih2 _ _ _
   | exact LeO.none _
   | refine LeO.ite ?_ ?_
   | refine LeO.bind ?_ (fun _ => ?_)
  ·intro y0 y1 y2
   unfold spec_l1Deep.j0
   repeat' first
   | (with_reducible exact ih0 _ _)
   | (with_reducible exact ih1 _ _ _)
   | (with_reducible exact ih2 _ _ _)
   | (with_reducible exact LeO.refl _)
   | (with_reducible exact LeO.none _)
   | (with_reducible refine LeO.ite ?_ ?_)
   | (with_reducible refine LeO.bind ?_ (fun _ => ?_))
   | exact ih0 _ _
   | exact ih1 _ _ _
   | exact ih2 _ _ _
   | exact LeO.none _
   | refine LeO.ite ?_ ?_
   | refine LeO.bind ?_ (fun _ => ?_)
  ·intro y0 y1 y2
   unfold spec_l1Deep.l0
   repeat' first
   | (with_reducible exact ih0 _ _)
   | (with_reducible exact ih1 _ _ _)
   | (with_reducible exact ih2 _ _ _)
   | (with_reducible exact LeO.refl _)
   | (with_reducible exact LeO.none _)
   | (with_reducible refine LeO.ite ?_ ?_)
   | (with_reducible refine LeO.bind ?_ (fun _ => ?_))
   | exact ih0 _ _
   | exact ih1 _ _ _
   | exact ih2 _ _ _
   | exact LeO.none _
   | refine LeO.ite ?_ ?_
   | refine LeO.bind ?_ (fun _ => ?_)
theorem spec_l1Deep.mono : ∀ a0 a1 k, LeO (spec_l1Deep.f k a0 a1) (spec_l1Deep.f (k + 1) a0 a1) := by
 intro a0 a1 k
 obtain ⟨ih0, ih1, ih2⟩ := spec_l1Deep.mono_l k
 exact ih0 a0 a1
set_option maxHeartbeats 8000000 in
set_option maxRecDepth 100000 in
theorem spec_l1Deep.calls (k : Nat) : ∀ (A0_0 : Option Addr) (c0_0 : Nat) (l0_0 : List (S50)) (a1 : Int) (r : Bool) (w : World) (hr0_0 : Kd.C k50 w A0_0 l0_0.length l0_0) (hc0_0 : l0_0.length ≤ c0_0) (h : spec_l1Deep.f k l0_0 a1 = some r),
  Calls Try.prog 60 #[.agg #[.slice A0_0 l0_0.length c0_0], .int .i64 a1] w fun e w' => e = .returned (.bool r) ∧ Below w.heap.size w w' := by
 induction k using Nat.strongRecOn with
 | _ k ih =>
 intro A0_0 c0_0 l0_0 a1 r w hr0_0 hc0_0 h
 cases k with
 | zero => exact absurd h (by simp [spec_l1Deep.f])
 | succ k =>
 simp only [spec_l1Deep.f] at h
 have hu50 := Try.underlying50
 have HR0_0 := Aside0.mk hr0_0
 have HC0_0 := Aside0.mk hc0_0
 clear hr0_0 hc0_0
 have HB := Aside0.mk (Below.refl w.heap.size w)
 have H : (if a1 < 1 then (spec_l1Deep.j0 k a1 true l0_0) else (if (l0_0.length : Int) = 0 then (spec_l1Deep.j0 k a1 false l0_0) else (spec_l1Deep.j0 k a1 ((l0_0.length : Int) != 2) l0_0))) = some r := h
 clear h
 have HC3 := Aside0.mk H
 clear H
 go_enter Try.func60, Try.ntmps60
 go_upto_region 1 with (first | ((with_reducible refine gate_dst (N := 2) rfl ?_); (try (refine gate_guard (by rfl) ?_; dsimp only)); refine zbx 2 #[.slice A0_0 l0_0.length c0_0] 50 ?_; intro gb217 hg w4 hbox hb; have BK217 := Aside0.mk hbox; have GW217 := Aside0.mk ((y9 hg HB.out : w.heap.size ≤ gb217)); have GE217 := Aside0.mk ((y9 hg HB.out : w.heap.size ≤ gb217)); replace HB := Aside0.mk (below_step (y5 HB.out) hb); clear hb hbox hg))
 (try simp only [Act.put, List.setIfInBounds_toArray, List.set_cons_zero, List.set_cons_succ])
 go_cut [19] (fun v19 wc => ∃ (kq : Nat) (x19_2 : Bool), v19 = .bool x19_2 ∧ Aside0 (spec_l1Deep.j0 kq a1 x19_2 l0_0 = some r) ∧ Aside0 (kq ≤ k) ∧ Aside0 (wc.heap[gb217]? = some (.cells #[(.slice A0_0 l0_0.length c0_0)] 50 (0, 0))) ∧ Aside0 (Below w.heap.size w wc))
 case first =>
  have H := HC3.out
  clear HC3
  by_cases c5 : a1 < 1
  ·rw [if_pos c5] at H
   have c5b0 : decide (a1 < 1) = true := decide_eq_true c5
   clear c5
   (first | rw [c5b0] | (simp only [i64_w, i32_w]; rw [c5b0]) | skip)
   have H' := Aside0.mk H
   clear H
   go_wp2
   go_meet
   case rel => exact ⟨_, (true), y34, H', ⟨y46⟩, ⟨(y0 BK217.out)⟩, ⟨(y6 HB.out GE217.out)⟩⟩
  ·rw [if_neg c5] at H
   have c5b0 : decide (a1 < 1) = false := decide_eq_false c5
   clear c5
   (first | rw [c5b0] | (simp only [i64_w, i32_w]; rw [c5b0]) | skip)
   by_cases c6 : (l0_0.length : Int) = 0
   ·rw [if_pos c6] at H
    have c6b0 : ((l0_0.length : Int) == 0) = true := beq_iff_eq.mpr c6
    have c6b1 : ((l0_0.length : Int) != 0) = false := bne_eq_false_iff_eq.mpr c6
    clear c6
    have H' := Aside0.mk H
    clear H
    have hcz7_0 := zh BK217
    have hfz7_0 := zfr BK217 0
    go_wp2
    go_meet
    case rel => exact ⟨_, (false), y34, H', ⟨y46⟩, ⟨(y0 BK217.out)⟩, ⟨(y6 HB.out GE217.out)⟩⟩
   ·rw [if_neg c6] at H
    have c6b0 : ((l0_0.length : Int) == 0) = false := beq_eq_false_iff_ne.mpr c6
    have c6b1 : ((l0_0.length : Int) != 0) = true := bne_iff_ne.mpr c6
    have c6b2 : ¬ (l0_0 = []) := fun h_ => c6 (by rw [h_]; rfl)
    have H' := Aside0.mk H
    clear H
    have hcz8_0 := zh BK217
    have hfz8_0 := zfr BK217 0
    go_wp2
    go_meet
    case rel => exact ⟨_, (((l0_0.length : Int) != 2)), y34, H', ⟨y46⟩, ⟨(y0 BK217.out)⟩, ⟨(y6 HB.out GE217.out)⟩⟩
 case rest =>
  clear HC3
  try clear p2
  try clear c5
  try clear c5b0
  try clear c6
  try clear c6b0
  try clear c6b1
  try clear c6b2
  try clear hcz7_0
  try clear hcz8_0
  try clear hfz7_0
  try clear hfz8_0
  obtain ⟨kq, x19_2, rfl, HA, HJ2, BK217, HB⟩ := hcut
  cases kq with
  | zero => exact absurd HA.out (by simp [spec_l1Deep.j0])
  | succ kj2 =>
   have H := HA.out
   clear HA
   simp only [spec_l1Deep.j0] at H
   by_cases c9 : x19_2 = true
   ·subst c9
    rw [if_pos rfl] at H
    obtain rfl := Option.some.inj H
    go_wp2
    go_ret
    exact ⟨y19, (y6 HB.out GE217.out)⟩
   ·replace c9 := Bool.eq_false_iff.mpr c9
    subst c9
    rw [if_neg (show ¬ (false = true) by decide)] at H
    have H' := Aside0.mk H
    clear H
    go_wp2
    go_loopg [5] kj2 (fun kq v5 w' => ∃ (x5_2 : Int), v5 = .int .i64 x5_2 ∧ Aside0 (spec_l1Deep.l0 kq a1 x5_2 l0_0 = some r) ∧ Aside0 (kq ≤ kj2) ∧ Aside0 (w'.heap[gb217]? = some (.cells #[(.slice A0_0 l0_0.length c0_0)] 50 (0, 0))) ∧ Aside0 (Below w.heap.size w w'))
    case atStart => exact ⟨(0), y34, H', ⟨Nat.le_refl _⟩, ⟨(y0 BK217.out)⟩, ⟨(y6 HB.out GE217.out)⟩⟩
    case round =>
     clear H'
     try clear p2
     try clear c5
     try clear c5b0
     try clear c6
     try clear c6b0
     try clear c6b1
     try clear c6b2
     try clear c9
     try clear hcz7_0
     try clear hcz8_0
     try clear hfz7_0
     try clear hfz8_0
     try clear p2
     (try clear BK217)
     obtain ⟨x5_2, rfl, HA, HK2, BK217, HB⟩ := hrel
     cases gk with
     | zero => exact absurd HA.out (by simp [spec_l1Deep.l0])
     | succ k2 =>
      have H := HA.out
      clear HA
      simp only [spec_l1Deep.l0] at H
      by_cases c10 : x5_2 < (l0_0.length : Int)
      ·rw [if_pos c10] at H
       have c10b0 : decide (x5_2 < (l0_0.length : Int)) = true := decide_eq_true c10
       clear c10
       by_cases c11 : 0 ≤ x5_2
       ·rw [if_pos c11] at H
        have c11b0 : decide (0 ≤ x5_2) = true := decide_eq_true c11
        clear c11
        obtain ⟨t219, A120, H⟩ := ob H
        have A12 := Aside0.mk A120
        clear A120
        by_cases c13 : t219 = true
        ·subst c13
         rw [if_pos rfl] at H
         have H' := Aside0.mk H
         clear H
         have hcz14_0 := zh BK217
         have hfz14_0 := zfr BK217 0
         have p218 : 0 ≤ (x5_2 : Int) := of_decide_eq_true y23
         have q218 : x5_2 < (l0_0.length : Int) := of_decide_eq_true y23
         obtain ⟨ad218, A218_0, c218_0, e218, hx218_0, hl218_0, hi218_0⟩ := at_T50 HR0_0.out x5_2 p218 q218
         cases e218
         replace hx218_0 := (HB.out.cell (World.block_lt_of_cell? w _ hx218_0)).trans hx218_0
         have HR218_0 := Aside0.mk hi218_0
         have HC218_0 := Aside0.mk hl218_0
         clear hi218_0 hl218_0
         replace p218 := eq_true p218
         replace q218 := eq_true q218
         go_wp2_with (first | ((with_reducible refine gate_callee (f := 60) rfl ?_); refine goesL_ (some 34) rfl rfl Try.func60 (by kernel_rfl) rfl #[.agg #[.slice A218_0 ((rd_T50 l0_0 x5_2).f0).length c218_0], .int .i64 (wrap64 (a1 - 1))] rfl y8 ?_; (with_reducible refine (ih k2 (y87 HJ2.out HK2.out) _ _ ((rd_T50 l0_0 x5_2).f0) (wrap64 (a1 - 1)) true _ ?side1 ?side2 A12.out).mono ?_); (case side1 => exact y15 HR218_0.out HB.out); (case side2 => exact HC218_0.out); rintro e w15 ⟨rfl, hb⟩; refine ⟨_, rfl, ?_⟩; replace BK217 := zbb BK217 hb; replace HB := Aside0.mk (below_step (y6 HB.out GE217.out) hb); (try clear hb); (try clear hb2); (try clear hk); (try clear hi)))
         go_roundg k2
         case measure => have := HJ2.out; have := HK2.out; omega
         case rel => exact ⟨(wrap64 (x5_2 + 1)), y34, H', ⟨(y87 HJ2.out HK2.out)⟩, ⟨(y0 BK217.out)⟩, ⟨(y6 HB.out GE217.out)⟩⟩
        ·replace c13 := Bool.eq_false_iff.mpr c13
         subst c13
         rw [if_neg (show ¬ (false = true) by decide)] at H
         obtain rfl := Option.some.inj H
         have hcz16_0 := zh BK217
         have hfz16_0 := zfr BK217 0
         have p218 : 0 ≤ (x5_2 : Int) := of_decide_eq_true y23
         have q218 : x5_2 < (l0_0.length : Int) := of_decide_eq_true y23
         obtain ⟨ad218, A218_0, c218_0, e218, hx218_0, hl218_0, hi218_0⟩ := at_T50 HR0_0.out x5_2 p218 q218
         cases e218
         replace hx218_0 := (HB.out.cell (World.block_lt_of_cell? w _ hx218_0)).trans hx218_0
         have HR218_0 := Aside0.mk hi218_0
         have HC218_0 := Aside0.mk hl218_0
         clear hi218_0 hl218_0
         replace p218 := eq_true p218
         replace q218 := eq_true q218
         go_wp2_with (first | ((with_reducible refine gate_callee (f := 60) rfl ?_); refine goesL_ (some 34) rfl rfl Try.func60 (by kernel_rfl) rfl #[.agg #[.slice A218_0 ((rd_T50 l0_0 x5_2).f0).length c218_0], .int .i64 (wrap64 (a1 - 1))] rfl y8 ?_; (with_reducible refine (ih k2 (y87 HJ2.out HK2.out) _ _ ((rd_T50 l0_0 x5_2).f0) (wrap64 (a1 - 1)) false _ ?side1 ?side2 A12.out).mono ?_); (case side1 => exact y15 HR218_0.out HB.out); (case side2 => exact HC218_0.out); rintro e w17 ⟨rfl, hb⟩; refine ⟨_, rfl, ?_⟩; replace BK217 := zbb BK217 hb; replace HB := Aside0.mk (below_step (y6 HB.out GE217.out) hb); (try clear hb); (try clear hb2); (try clear hk); (try clear hi)))
         go_ret
         exact ⟨y19, (y6 HB.out GE217.out)⟩
       ·rw [if_neg c11] at H
        exact absurd H (by simp)
      ·rw [if_neg c10] at H
       have c10b0 : decide (x5_2 < (l0_0.length : Int)) = false := decide_eq_false c10
       clear c10
       obtain rfl := Option.some.inj H
       have hcz18_0 := zh BK217
       have hfz18_0 := zfr BK217 0
       go_wp2
       go_ret
       exact ⟨y19, (y6 HB.out GE217.out)⟩
end Go.Proofs.Ythfflieeifakdaa.PA
end
section
namespace Go.Proofs.Ythfflieeifakdaa.PA
open Go.RowKit Go.Proofs.YthfflieeifakdaaW.PrintWords Go.Proofs.YthfflieeifakdaaW.PrintLast Go.Proofs.YthfflieeifakdaaW.PrintMore
attribute [local go_sem] max2_int min2_int max_two min_two max_three min_three max_four min_four
set_option linter.unusedVariables false
set_option linter.unusedSimpArgs false
def spec_TypeOk.f (k : Nat) (l0_0 : List (S50)) : Option (Bool) := (spec_l1Deep.f k l0_0 4).bind fun t221 => (some t221)
theorem spec_TypeOk.mono : ∀ a0 k, LeO (spec_TypeOk.f k a0) (spec_TypeOk.f (k + 1) a0) := by
 intro a0 k
 unfold spec_TypeOk.f
 repeat' first
   | (with_reducible exact spec_l1Deep.mono _ _ _)
   | (with_reducible exact LeO.refl _)
   | (with_reducible exact LeO.none _)
   | (with_reducible refine LeO.ite ?_ ?_)
   | (with_reducible refine LeO.bind ?_ (fun _ => ?_))
   | exact spec_l1Deep.mono _ _ _
   | exact LeO.none _
   | refine LeO.ite ?_ ?_
   | refine LeO.bind ?_ (fun _ => ?_)
set_option maxHeartbeats 8000000 in
set_option maxRecDepth 100000 in
theorem spec_TypeOk.calls (k : Nat) (A0_0 : Option Addr) (c0_0 : Nat) (l0_0 : List (S50)) (r : Bool) (w : World) (hr0_0 : Kd.C k50 w A0_0 l0_0.length l0_0) (hc0_0 : l0_0.length ≤ c0_0) (h : spec_TypeOk.f k l0_0 = some r) :
  Calls Try.prog 53 #[.agg #[.slice A0_0 l0_0.length c0_0]] w fun e w' => e = .returned (.bool r) ∧ Below w.heap.size w w' := by
 have hu50 := Try.underlying50
 have HR0_0 := Aside0.mk hr0_0
 have HC0_0 := Aside0.mk hc0_0
 clear hr0_0 hc0_0
 have HB := Aside0.mk (Below.refl w.heap.size w)
 have H : ((spec_l1Deep.f k l0_0 4).bind fun t221 => (some t221)) = some r := h
 clear h
 obtain ⟨t221, A20, H⟩ := ob H
 have A2 := Aside0.mk A20
 clear A20
 obtain rfl := Option.some.inj H
 go_enter Try.func53, Try.ntmps53
 go_wp2_with (first | ((with_reducible refine gate_dst (N := 1) rfl ?_); refine zbx 1 #[.slice A0_0 l0_0.length c0_0] 50 ?_; intro gb220 hg w3 hbox hb; have BK220 := Aside0.mk hbox; have GW220 := Aside0.mk ((y9 hg HB.out : w.heap.size ≤ gb220)); have GE220 := Aside0.mk ((y9 hg HB.out : w.heap.size ≤ gb220)); replace HB := Aside0.mk (below_step (y5 HB.out) hb); clear hb hbox hg; have hcz4_0 := zh BK220; have hfz4_0 := zfr BK220 0) | ((with_reducible refine gate_callee (f := 60) rfl ?_); refine goesL_ (some 4) rfl rfl Try.func60 (by kernel_rfl) rfl #[.agg #[.slice A0_0 l0_0.length c0_0], .int .i64 4] rfl y8 ?_; (with_reducible refine (spec_l1Deep.calls k _ _ l0_0 4 t221 _ ?side1 ?side2 A2.out).mono ?_); (case side1 => exact y15 HR0_0.out HB.out); (case side2 => exact HC0_0.out); rintro e w5 ⟨rfl, hb⟩; refine ⟨_, rfl, ?_⟩; replace BK220 := zbb BK220 hb; replace HB := Aside0.mk (below_step (y6 HB.out GE220.out) hb); (try clear hb); (try clear hb2); (try clear hk); (try clear hi)))
 go_ret
 exact ⟨y19, (y6 HB.out GE220.out)⟩
end Go.Proofs.Ythfflieeifakdaa.PA
end
section
namespace Go.Proofs.Ythfflieeifakdaa.PA
open Go.RowKit Go.Proofs.YthfflieeifakdaaW.PrintWords Go.Proofs.YthfflieeifakdaaW.PrintLast Go.Proofs.YthfflieeifakdaaW.PrintMore
attribute [local go_sem] max2_int min2_int max_two min_two max_three min_three max_four min_four
set_option linter.unusedVariables false
set_option linter.unusedSimpArgs false
mutual
def spec_l1Val.j0 : Nat → Bool → List (S50) → Int → List (S25) → Option (Bool)
 | 0, _, _, _, _ => none
 | k + 1, x29, x223000, x224000, x224001 => if x29 = true then (some false) else (spec_l1Val.l0 k 0 x223000 x224000 x224001)
def spec_l1Val.l0 : Nat → Int → List (S50) → Int → List (S25) → Option (Bool)
 | 0, _, _, _, _ => none
 | k + 1, x5, x223000, x224000, x224001 => if x5 < (x224001.length : Int) then (if 0 ≤ x5 then (if x5 < (x223000.length : Int) then ((spec_l1Val.f k ((rd_T50 x223000 x5).f0) ((rd_T25 x224001 x5).f0) ((rd_T25 x224001 x5).f1)).bind fun t228 => (if t228 = true then (spec_l1Val.l0 k (wrap64 (x5 + 1)) x223000 x224000 x224001) else (some false))) else (none)) else (none)) else (some true)
def spec_l1Val.f : Nat → List (S50) → Int → List (S25) → Option (Bool)
 | 0, _, _, _ => none
 | k + 1, l0_0, a1_0, l1_1 => if (l1_1.length : Int) = (l0_0.length : Int) then (if (l1_1.length : Int) > 0 then (if a1_0 = 0 then ((spec_l6In.f a1_0 0 9999).bind fun t224 => (spec_l1Val.j0 k (!t224) l0_0 a1_0 l1_1)) else (spec_l1Val.j0 k true l0_0 a1_0 l1_1)) else ((spec_l6In.f a1_0 0 9999).bind fun t225 => (spec_l1Val.j0 k (!t225) l0_0 a1_0 l1_1))) else (spec_l1Val.j0 k true l0_0 a1_0 l1_1)
end
theorem spec_l1Val.mono_l : ∀ k, (∀ y0 y1 y2, LeO (spec_l1Val.f k y0 y1 y2) (spec_l1Val.f (k + 1) y0 y1 y2)) ∧ (∀ y0 y1 y2 y3, LeO (spec_l1Val.j0 k y0 y1 y2 y3) (spec_l1Val.j0 (k + 1) y0 y1 y2 y3)) ∧ (∀ y0 y1 y2 y3, LeO (spec_l1Val.l0 k y0 y1 y2 y3) (spec_l1Val.l0 (k + 1) y0 y1 y2 y3))
 | 0 => ⟨fun _ _ _ r h => by simp [spec_l1Val.f] at h, fun _ _ _ _ r h => by simp [spec_l1Val.j0] at h, fun _ _ _ _ r h => by simp [spec_l1Val.l0] at h⟩
 | k + 1 => by
  obtain ⟨ih0, ih1, ih2⟩ := spec_l1Val.mono_l k
  refine ⟨?_, ?_, ?_⟩
  ·intro y0 y1 y2
   unfold spec_l1Val.f
   repeat' first
   | (with_reducible exact ih0 _ _ _)
   | (with_reducible exact ih1 _ _ _ _)
   | (with_reducible exact ih2 _ _ _ _)
   | (with_reducible exact LeO.refl _)
   | (with_reducible exact LeO.none _)
   | (with_reducible refine LeO.ite ?_ ?_)
   | (with_reducible refine LeO.bind ?_ (fun _ => ?_))
   | exact ih0 _ _ _
   | exact ih1 _ _ _ _
   | exact ih2 _ _ _ _
   | exact LeO.none _
   | refine LeO.ite ?_ ?_
   | refine LeO.bind ?_ (fun _ => ?_)
  ·intro y0 y1 y2 y3
   unfold spec_l1Val.j0
   repeat' first
   | (with_reducible exact ih0 _ _ _)
   | (with_reducible exact ih1 _ _ _ _)
   | (with_reducible exact ih2 _ _ _ _)
   | (with_reducible exact LeO.refl _)
   | (with_reducible exact LeO.none _)
   | (with_reducible refine LeO.ite ?_ ?_)
   | (with_reducible refine LeO.bind ?_ (fun _ => ?_))
   | exact ih0 _ _ _
   | exact ih1 _ _ _ _
   | exact ih2 _ _ _ _
   | exact LeO.none _
   | refine LeO.ite ?_ ?_
   | refine LeO.bind ?_ (fun _ => ?_)
  ·intro y0 y1 y2 y3
   unfold spec_l1Val.l0
   repeat' first
   | (with_reducible exact ih0 _ _ _)
   | (with_reducible exact ih1 _ _ _ _)
   | (with_reducible exact ih2 _ _ _ _)
   | (with_reducible exact LeO.refl _)
   | (with_reducible exact LeO.none _)
   | (with_reducible refine LeO.ite ?_ ?_)
   | (with_reducible refine LeO.bind ?_ (fun _ => ?_))
   | exact ih0 _ _ _
   | exact ih1 _ _ _ _
   | exact ih2 _ _ _ _
   | exact LeO.none _
   | refine LeO.ite ?_ ?_
   | refine LeO.bind ?_ (fun _ => ?_)
theorem spec_l1Val.mono : ∀ a0 a1 a2 k, LeO (spec_l1Val.f k a0 a1 a2) (spec_l1Val.f (k + 1) a0 a1 a2) := by
 intro a0 a1 a2 k
 obtain ⟨ih0, ih1, ih2⟩ := spec_l1Val.mono_l k
 exact ih0 a0 a1 a2
def spec_l1Val.T6 : Bool × List (List Nat × List Nat) := (true, [([], []), ([0], [0]), ([], []), ([1, 2], [1, 2]), ([3], [3]), ([], []), ([5], [5]), ([], []), ([6, 7], [6, 7]), ([8], [8]), ([4, 9], [4, 9]), ([10], [10])])
def spec_l1Val.B6 : List Nat := [0, 1, 0, 7, 15, 0, 32, 0, 224, 480, 1023, 2047]
theorem spec_l1Val.tab6 : rtab .any (opsOf Try.f54 6) = spec_l1Val.T6 := by kernel_rfl
theorem spec_l1Val.bits6 : waitsOk spec_l1Val.T6.2 spec_l1Val.B6 = true := by kernel_rfl
set_option maxHeartbeats 8000000 in
set_option maxRecDepth 100000 in
theorem spec_l1Val.calls (k : Nat) : ∀ (A0_0 : Option Addr) (c0_0 : Nat) (l0_0 : List (S50)) (a1_0 : Int) (A1_1 : Option Addr) (c1_1 : Nat) (l1_1 : List (S25)) (r : Bool) (w : World) (hr0_0 : Kd.C k50 w A0_0 l0_0.length l0_0) (hc0_0 : l0_0.length ≤ c0_0) (hr1_1 : Kd.C k25 w A1_1 l1_1.length l1_1) (hc1_1 : l1_1.length ≤ c1_1) (h : spec_l1Val.f k l0_0 a1_0 l1_1 = some r),
  Calls Try.prog 54 #[.agg #[.slice A0_0 l0_0.length c0_0], .agg #[.int .i64 a1_0, .slice A1_1 l1_1.length c1_1]] w fun e w' => e = .returned (.bool r) ∧ Below w.heap.size w w' := by
 induction k using Nat.strongRecOn with
 | _ k ih =>
 intro A0_0 c0_0 l0_0 a1_0 A1_1 c1_1 l1_1 r w hr0_0 hc0_0 hr1_1 hc1_1 h
 cases k with
 | zero => exact absurd h (by simp [spec_l1Val.f])
 | succ k =>
 simp only [spec_l1Val.f] at h
 have hu50 := Try.underlying50
 have hu25 := Try.underlying25
 have HR0_0 := Aside0.mk hr0_0
 have HC0_0 := Aside0.mk hc0_0
 clear hr0_0 hc0_0
 have HR1_1 := Aside0.mk hr1_1
 have HC1_1 := Aside0.mk hc1_1
 clear hr1_1 hc1_1
 have HB := Aside0.mk (Below.refl w.heap.size w)
 have H : (if (l1_1.length : Int) = (l0_0.length : Int) then (if (l1_1.length : Int) > 0 then (if a1_0 = 0 then ((spec_l6In.f a1_0 0 9999).bind fun t224 => (spec_l1Val.j0 k (!t224) l0_0 a1_0 l1_1)) else (spec_l1Val.j0 k true l0_0 a1_0 l1_1)) else ((spec_l6In.f a1_0 0 9999).bind fun t225 => (spec_l1Val.j0 k (!t225) l0_0 a1_0 l1_1))) else (spec_l1Val.j0 k true l0_0 a1_0 l1_1)) = some r := h
 clear h
 have HC3 := Aside0.mk H
 clear H
 go_enter Try.func54, Try.ntmps54
 go_upto_region 1 with (first | ((with_reducible refine gate_dst (N := 2) rfl ?_); (try (refine gate_guard (by rfl) ?_; dsimp only)); refine zbx 2 #[.slice A0_0 l0_0.length c0_0] 50 ?_; intro gb222 hg w4 hbox hb; have BK222 := Aside0.mk hbox; have GW222 := Aside0.mk ((y9 hg HB.out : w.heap.size ≤ gb222)); have GE222 := Aside0.mk ((y9 hg HB.out : w.heap.size ≤ gb222)); replace HB := Aside0.mk (below_step (y5 HB.out) hb); clear hb hbox hg) | ((with_reducible refine gate_dst (N := 3) rfl ?_); (try (refine gate_guard (by rfl) ?_; dsimp only)); refine zbx 3 #[.int .i64 a1_0, .slice A1_1 l1_1.length c1_1] 25 ?_; intro gb223 hg w5 hbox hb; have BK223 := Aside0.mk hbox; have GW223 := Aside0.mk ((y11 hg HB.out GE222.out : w.heap.size ≤ gb223)); have GE223 := Aside0.mk ((y11 hg HB.out GE222.out : w.heap.size ≤ gb223)); replace HB := Aside0.mk (below_step (y6 HB.out GE222.out) hb); have NB222_223 := zltn hg BK222; have NB223_222 := zgtn hg BK222; replace BK222 := zbb BK222 hb; clear hb hbox hg))
 (try simp only [Act.put, List.setIfInBounds_toArray, List.set_cons_zero, List.set_cons_succ])
 go_cut [29] (fun v29 wc => ∃ (kq : Nat) (x29_2 : Bool), v29 = .bool x29_2 ∧ Aside0 (spec_l1Val.j0 kq x29_2 l0_0 a1_0 l1_1 = some r) ∧ Aside0 (kq ≤ k) ∧ Aside0 (wc.heap[gb222]? = some (.cells #[(.slice A0_0 l0_0.length c0_0)] 50 (0, 0))) ∧ Aside0 (wc.heap[gb223]? = some (.cells #[.int .i64 a1_0, (.slice A1_1 l1_1.length c1_1)] 25 (0, 0))) ∧ Aside0 (Below w.heap.size w wc))
 case first =>
  have H := HC3.out
  clear HC3
  by_cases c6 : (l1_1.length : Int) = (l0_0.length : Int)
  ·rw [if_pos c6] at H
   have c6b0 : ((l1_1.length : Int) == (l0_0.length : Int)) = true := beq_iff_eq.mpr c6
   have c6b1 : ((l1_1.length : Int) != (l0_0.length : Int)) = false := bne_eq_false_iff_eq.mpr c6
   have c6b2 : (l1_1.length == l0_0.length) = true := by first | simpa using c6 | (simp at c6 ⊢; omega)
   clear c6
   (first | rw [c6b0] | (simp only [i64_w, i32_w]; rw [c6b0]) | skip)
   by_cases c7 : (l1_1.length : Int) > 0
   ·rw [if_pos c7] at H
    have c7b0 : decide (0 < (l1_1.length : Int)) = true := decide_eq_true c7
    have c7b1 : decide (0 < l1_1.length) = true := decide_eq_true (by omega)
    clear c7
    by_cases c8 : a1_0 = 0
    ·rw [if_pos c8] at H
     have c8b0 : (a1_0 == 0) = true := beq_iff_eq.mpr c8
     have c8b1 : (a1_0 != 0) = false := bne_eq_false_iff_eq.mpr c8
     clear c8
     obtain ⟨t224, A90, H⟩ := ob H
     have A9 := Aside0.mk A90
     clear A90
     have H' := Aside0.mk H
     clear H
     have hnb10 := NB223_222.out
     have hnc10 := NB222_223.out
     have hcz11_0 := zh BK223
     have hcz11_1 := zh1 BK223
     have hfz11_0 := zfr BK223 0
     have hfz11_1 := zfr BK223 1
     have hcz12_0 := zh BK222
     have hfz12_0 := zfr BK222 0
     go_wp2_with (first | (go_at_call 36; (with_reducible refine (spec_l6In.calls a1_0 0 9999 t224 _ A9.out).mono ?_); rintro e w' ⟨rfl, ⟨nd, rfl⟩⟩))
     go_meet
     case rel => exact ⟨_, (!t224), y34, H', ⟨y46⟩, ⟨(y0 BK222.out)⟩, ⟨(y0 BK223.out)⟩, ⟨(y2 HB.out GE222.out GE223.out)⟩⟩
    ·rw [if_neg c8] at H
     have c8b0 : (a1_0 == 0) = false := beq_eq_false_iff_ne.mpr c8
     have c8b1 : (a1_0 != 0) = true := bne_iff_ne.mpr c8
     have H' := Aside0.mk H
     clear H
     have hnb13 := NB223_222.out
     have hnc13 := NB222_223.out
     have hcz14_0 := zh BK223
     have hcz14_1 := zh1 BK223
     have hfz14_0 := zfr BK223 0
     have hfz14_1 := zfr BK223 1
     have hcz15_0 := zh BK222
     have hfz15_0 := zfr BK222 0
     go_wp2
     go_meet
     case rel => exact ⟨_, (true), y34, H', ⟨y46⟩, ⟨(y0 BK222.out)⟩, ⟨(y0 BK223.out)⟩, ⟨(y2 HB.out GE222.out GE223.out)⟩⟩
   ·rw [if_neg c7] at H
    have c7b0 : decide (0 < (l1_1.length : Int)) = false := decide_eq_false c7
    have c7b1 : decide (0 < l1_1.length) = false := decide_eq_false (by omega)
    clear c7
    obtain ⟨t225, A160, H⟩ := ob H
    have A16 := Aside0.mk A160
    clear A160
    have H' := Aside0.mk H
    clear H
    have hnb17 := NB223_222.out
    have hnc17 := NB222_223.out
    have hcz18_0 := zh BK223
    have hcz18_1 := zh1 BK223
    have hfz18_0 := zfr BK223 0
    have hfz18_1 := zfr BK223 1
    have hcz19_0 := zh BK222
    have hfz19_0 := zfr BK222 0
    go_wp2_with (first | (go_at_call 36; (with_reducible refine (spec_l6In.calls a1_0 0 9999 t225 _ A16.out).mono ?_); rintro e w' ⟨rfl, ⟨nd, rfl⟩⟩))
    go_meet
    case rel => exact ⟨_, (!t225), y34, H', ⟨y46⟩, ⟨(y0 BK222.out)⟩, ⟨(y0 BK223.out)⟩, ⟨(y2 HB.out GE222.out GE223.out)⟩⟩
  ·rw [if_neg c6] at H
   have c6b0 : ((l1_1.length : Int) == (l0_0.length : Int)) = false := beq_eq_false_iff_ne.mpr c6
   have c6b1 : ((l1_1.length : Int) != (l0_0.length : Int)) = true := bne_iff_ne.mpr c6
   have c6b2 : (l1_1.length == l0_0.length) = false := by first | simpa using c6 | (simp at c6 ⊢; omega)
   (first | rw [c6b0] | (simp only [i64_w, i32_w]; rw [c6b0]) | skip)
   have H' := Aside0.mk H
   clear H
   have hnb20 := NB223_222.out
   have hnc20 := NB222_223.out
   have hcz21_0 := zh BK223
   have hcz21_1 := zh1 BK223
   have hfz21_0 := zfr BK223 0
   have hfz21_1 := zfr BK223 1
   have hcz22_0 := zh BK222
   have hfz22_0 := zfr BK222 0
   go_wp2
   go_meet
   case rel => exact ⟨_, (true), y34, H', ⟨y46⟩, ⟨(y0 BK222.out)⟩, ⟨(y0 BK223.out)⟩, ⟨(y2 HB.out GE222.out GE223.out)⟩⟩
 case rest =>
  clear HC3
  try clear c1
  try clear c2
  try clear p2
  try clear c5
  try clear c6
  try clear c6b0
  try clear c6b1
  try clear c6b2
  try clear c7
  try clear c7b0
  try clear c7b1
  try clear c8
  try clear c8b0
  try clear c8b1
  try clear c10
  try clear c13
  try clear c17
  try clear c20
  try clear hcz11_0
  try clear hcz11_1
  try clear hcz12_0
  try clear hcz14_0
  try clear hcz14_1
  try clear hcz15_0
  try clear hcz18_0
  try clear hcz18_1
  try clear hcz19_0
  try clear hcz21_0
  try clear hcz21_1
  try clear hcz22_0
  try clear hfz11_0
  try clear hfz11_1
  try clear hfz12_0
  try clear hfz14_0
  try clear hfz14_1
  try clear hfz15_0
  try clear hfz18_0
  try clear hfz18_1
  try clear hfz19_0
  try clear hfz21_0
  try clear hfz21_1
  try clear hfz22_0
  obtain ⟨kq, x29_2, rfl, HA, HJ2, BK222, BK223, HB⟩ := hcut
  cases kq with
  | zero => exact absurd HA.out (by simp [spec_l1Val.j0])
  | succ kj2 =>
   have H := HA.out
   clear HA
   simp only [spec_l1Val.j0] at H
   by_cases c23 : x29_2 = true
   ·subst c23
    rw [if_pos rfl] at H
    obtain rfl := Option.some.inj H
    go_wp2
    go_ret
    exact ⟨y19, (y2 HB.out GE222.out GE223.out)⟩
   ·replace c23 := Bool.eq_false_iff.mpr c23
    subst c23
    rw [if_neg (show ¬ (false = true) by decide)] at H
    have H' := Aside0.mk H
    clear H
    go_wp2
    go_loopg [5] kj2 (fun kq v5 w' => ∃ (x5_2 : Int), v5 = .int .i64 x5_2 ∧ Aside0 (spec_l1Val.l0 kq x5_2 l0_0 a1_0 l1_1 = some r) ∧ Aside0 (kq ≤ kj2) ∧ Aside0 (w'.heap[gb222]? = some (.cells #[(.slice A0_0 l0_0.length c0_0)] 50 (0, 0))) ∧ Aside0 (w'.heap[gb223]? = some (.cells #[.int .i64 a1_0, (.slice A1_1 l1_1.length c1_1)] 25 (0, 0))) ∧ Aside0 (Below w.heap.size w w'))
    case atStart => exact ⟨(0), y34, H', ⟨Nat.le_refl _⟩, ⟨(y0 BK222.out)⟩, ⟨(y0 BK223.out)⟩, ⟨(y2 HB.out GE222.out GE223.out)⟩⟩
    case round =>
     clear H'
     try clear c1
     try clear c2
     try clear p2
     try clear c5
     try clear c6
     try clear c6b0
     try clear c6b1
     try clear c6b2
     try clear c7
     try clear c7b0
     try clear c7b1
     try clear c8
     try clear c8b0
     try clear c8b1
     try clear c10
     try clear c13
     try clear c17
     try clear c20
     try clear c23
     try clear hcz11_0
     try clear hcz11_1
     try clear hcz12_0
     try clear hcz14_0
     try clear hcz14_1
     try clear hcz15_0
     try clear hcz18_0
     try clear hcz18_1
     try clear hcz19_0
     try clear hcz21_0
     try clear hcz21_1
     try clear hcz22_0
     try clear hfz11_0
     try clear hfz11_1
     try clear hfz12_0
     try clear hfz14_0
     try clear hfz14_1
     try clear hfz15_0
     try clear hfz18_0
     try clear hfz18_1
     try clear hfz19_0
     try clear hfz21_0
     try clear hfz21_1
     try clear hfz22_0
     try clear p2
     (try clear BK222); (try clear BK223)
     obtain ⟨x5_2, rfl, HA, HK2, BK222, BK223, HB⟩ := hrel
     cases gk with
     | zero => exact absurd HA.out (by simp [spec_l1Val.l0])
     | succ k2 =>
      have H := HA.out
      clear HA
      simp only [spec_l1Val.l0] at H
      by_cases c24 : x5_2 < (l1_1.length : Int)
      ·rw [if_pos c24] at H
       have c24b0 : decide (x5_2 < (l1_1.length : Int)) = true := decide_eq_true c24
       clear c24
       by_cases c25 : 0 ≤ x5_2
       ·rw [if_pos c25] at H
        have c25b0 : decide (0 ≤ x5_2) = true := decide_eq_true c25
        clear c25
        by_cases c26 : x5_2 < (l0_0.length : Int)
        ·rw [if_pos c26] at H
         have c26b0 : decide (x5_2 < (l0_0.length : Int)) = true := decide_eq_true c26
         clear c26
         obtain ⟨t228, A270, H⟩ := ob H
         have A27 := Aside0.mk A270
         clear A270
         by_cases c28 : t228 = true
         ·subst c28
          rw [if_pos rfl] at H
          have H' := Aside0.mk H
          clear H
          have hnb29 := NB223_222.out
          have hnc29 := NB222_223.out
          have hcz30_0 := zh BK223
          have hcz30_1 := zh1 BK223
          have hfz30_0 := zfr BK223 0
          have hfz30_1 := zfr BK223 1
          try go_wp2
          replace BK222 := Aside0.mk (blk_drew BK222.out)
          replace BK223 := Aside0.mk (blk_drew BK223.out)
          replace HB := Aside0.mk (below_drew1 HB.out)
          have p226 : 0 ≤ (x5_2 : Int) := of_decide_eq_true y23
          have q226 : x5_2 < (l0_0.length : Int) := of_decide_eq_true y23
          obtain ⟨ad226, A226_0, c226_0, e226, hx226_0, hl226_0, hi226_0⟩ := at_T50 HR0_0.out x5_2 p226 q226
          have hw226_0 := hx226_0
          cases e226
          replace hx226_0 := (HB.out.cell (World.block_lt_of_cell? w _ hx226_0)).trans hx226_0
          have HR226_0 := Aside0.mk hi226_0
          have HC226_0 := Aside0.mk hl226_0
          clear hi226_0 hl226_0
          replace p226 := eq_true p226
          replace q226 := eq_true q226
          have p227 : 0 ≤ (x5_2 : Int) := of_decide_eq_true y23
          have q227 : x5_2 < (l1_1.length : Int) := of_decide_eq_true y23
          obtain ⟨ad227, A227_1, c227_1, e227, hx227_0, hx227_1, hl227_1, hi227_1⟩ := at_T25 HR1_1.out x5_2 p227 q227
          have hw227_1 := hx227_1
          have hw227_0 := hx227_0
          cases e227
          replace hx227_0 := (HB.out.cell (World.block_lt_of_cell? w _ hx227_0)).trans hx227_0
          replace hx227_1 := (HB.out.cell (World.block_lt_of_cell? w _ hx227_1)).trans hx227_1
          have HR227_1 := Aside0.mk hi227_1
          have HC227_1 := Aside0.mk hl227_1
          clear hi227_1 hl227_1
          replace p227 := eq_true p227
          replace q227 := eq_true q227
          refine start_ (n := 12) (S := fun w' => w'.cell? ⟨gb222, 0, none⟩ = some (.slice (some ad226) l0_0.length c0_0) ∧ w'.cell? ⟨gb223, 0, none⟩ = some (.int .i64 a1_0) ∧ w'.cell? ⟨gb223, 1, none⟩ = some (.slice (some ad227) l1_1.length c1_1) ∧ w'.cell? (ad226.add (x5_2).toNat) = some (.slice A226_0 ((rd_T50 l0_0 x5_2).f0).length c226_0) ∧ w'.cell? (ad227.add ((x5_2).toNat * 2)) = some (.int .i64 ((rd_T25 l1_1 x5_2).f0)) ∧ w'.cell? ⟨(ad227.add ((x5_2).toNat * 2)).block, (ad227.add ((x5_2).toNat * 2)).off + 1, none⟩ = some (.slice A227_1 ((rd_T25 l1_1 x5_2).f1).length c227_1)) (ds := []) #[false, false, false, false, false, false, false, false, false, false, false, false] (by kernel_rfl) rfl rfl ⟨(blk_cell BK222.out 0).trans rfl, (blk_cell BK223.out 0).trans rfl, (blk_cell BK223.out 1).trans rfl, ((HB.out.cell (World.block_lt_of_cell? w _ hw226_0)).trans hw226_0), ((HB.out.cell (World.block_lt_of_cell? w _ hw227_0)).trans hw227_0), ((HB.out.cell (World.block_lt_of_cell? w _ hw227_1)).trans hw227_1)⟩ (fun hHeld => ?_); refine with_tabW spec_l1Val.tab6 spec_l1Val.bits6 (fun HT_ HW_ => ?_)
          generalize wr.drew = w31 at BK222 BK223 HB HR226_0 HR227_1 hx226_0 hx227_0 hx227_1 hHeld ⊢
          refine zp 0 (some 37) HT_ ?_
          refine zp 2 (some 39) HT_ ?_
          refine zp 5 (some 42) HT_ ?_
          refine zp 7 (some 44) HT_ ?_
          refine zt6 1 (some 38) HT_ HW_ hHeld ?_
          refine zp 3 (some 40) HT_ ?_
          refine zt6 4 (some 41) HT_ HW_ hHeld ?_
          refine zt6 6 (some 43) HT_ HW_ hHeld ?_
          refine zp 8 (some 45) HT_ ?_
          refine zt6 9 (some 46) HT_ HW_ hHeld ?_
          refine one_ (i := 10) (N := some 47) #[true, true, true, true, true, true, true, true, true, true, true, false] rfl rfl (one_of HT_.out (by kernel_rfl)) (by decide) (fun K hK => ?_)
          refine goes_ Try.func54 (by kernel_rfl) rfl #[.agg #[.slice A226_0 ((rd_T50 l0_0 x5_2).f0).length c226_0], .agg #[.int .i64 ((rd_T25 l1_1 x5_2).f0), .slice A227_1 ((rd_T25 l1_1 x5_2).f1).length c227_1]] (by rfl) rfl rfl y8 ?_
          with_reducible refine (ih k2 (y87 HJ2.out HK2.out) _ _ ((rd_T50 l0_0 x5_2).f0) ((rd_T25 l1_1 x5_2).f0) _ _ ((rd_T25 l1_1 x5_2).f1) true _ ?side1 ?side2 ?side3 ?side4 A27.out).mono ?_
          (case side1 => exact y15 HR226_0.out HB.out)
          (case side2 => exact HC226_0.out)
          (case side3 => exact y15 HR227_1.out HB.out)
          (case side4 => exact HC227_1.out)
          rintro e w32 ⟨rfl, hb⟩
          refine ⟨_, rfl, ?_⟩
          replace BK222 := zbb BK222 hb
          replace BK223 := zbb BK223 hb
          replace HB := Aside0.mk (below_step (y2 HB.out GE222.out GE223.out) hb)
          (try clear hb)
          (try clear hb2)
          (try clear hk)
          (try clear hi)
          refine hK.out _ _ ⟨(blk_cell BK222.out 0).trans rfl, (blk_cell BK223.out 0).trans rfl, (blk_cell BK223.out 1).trans rfl, ((HB.out.cell (World.block_lt_of_cell? w _ hw226_0)).trans hw226_0), ((HB.out.cell (World.block_lt_of_cell? w _ hw227_0)).trans hw227_0), ((HB.out.cell (World.block_lt_of_cell? w _ hw227_1)).trans hw227_1)⟩ (fun hHeld => ?_)
          clear hK K
          refine norm_ (a' := ?_) ?_ ?_
          rotate_left
          ·show Act.put _ (some 47) _ = _
           simp only [Act.put, List.setIfInBounds_toArray, List.set_cons_zero, List.set_cons_succ, i64_w, i32_w]
           rfl
          refine zp 11 (some 48) HT_ ?_
          refine done_ (done_of HT_.out (by kernel_rfl)) ?_
          try go_wp2
          go_roundg k2
          case measure => have := HJ2.out; have := HK2.out; omega
          case rel => exact ⟨(wrap64 (x5_2 + 1)), y34, H', ⟨(y87 HJ2.out HK2.out)⟩, ⟨(y0 BK222.out)⟩, ⟨(y0 BK223.out)⟩, ⟨(y2 HB.out GE222.out GE223.out)⟩⟩
         ·replace c28 := Bool.eq_false_iff.mpr c28
          subst c28
          rw [if_neg (show ¬ (false = true) by decide)] at H
          obtain rfl := Option.some.inj H
          have hnb33 := NB223_222.out
          have hnc33 := NB222_223.out
          have hcz34_0 := zh BK223
          have hcz34_1 := zh1 BK223
          have hfz34_0 := zfr BK223 0
          have hfz34_1 := zfr BK223 1
          try go_wp2
          replace BK222 := Aside0.mk (blk_drew BK222.out)
          replace BK223 := Aside0.mk (blk_drew BK223.out)
          replace HB := Aside0.mk (below_drew1 HB.out)
          have p226 : 0 ≤ (x5_2 : Int) := of_decide_eq_true y23
          have q226 : x5_2 < (l0_0.length : Int) := of_decide_eq_true y23
          obtain ⟨ad226, A226_0, c226_0, e226, hx226_0, hl226_0, hi226_0⟩ := at_T50 HR0_0.out x5_2 p226 q226
          have hw226_0 := hx226_0
          cases e226
          replace hx226_0 := (HB.out.cell (World.block_lt_of_cell? w _ hx226_0)).trans hx226_0
          have HR226_0 := Aside0.mk hi226_0
          have HC226_0 := Aside0.mk hl226_0
          clear hi226_0 hl226_0
          replace p226 := eq_true p226
          replace q226 := eq_true q226
          have p227 : 0 ≤ (x5_2 : Int) := of_decide_eq_true y23
          have q227 : x5_2 < (l1_1.length : Int) := of_decide_eq_true y23
          obtain ⟨ad227, A227_1, c227_1, e227, hx227_0, hx227_1, hl227_1, hi227_1⟩ := at_T25 HR1_1.out x5_2 p227 q227
          have hw227_1 := hx227_1
          have hw227_0 := hx227_0
          cases e227
          replace hx227_0 := (HB.out.cell (World.block_lt_of_cell? w _ hx227_0)).trans hx227_0
          replace hx227_1 := (HB.out.cell (World.block_lt_of_cell? w _ hx227_1)).trans hx227_1
          have HR227_1 := Aside0.mk hi227_1
          have HC227_1 := Aside0.mk hl227_1
          clear hi227_1 hl227_1
          replace p227 := eq_true p227
          replace q227 := eq_true q227
          refine start_ (n := 12) (S := fun w' => w'.cell? ⟨gb222, 0, none⟩ = some (.slice (some ad226) l0_0.length c0_0) ∧ w'.cell? ⟨gb223, 0, none⟩ = some (.int .i64 a1_0) ∧ w'.cell? ⟨gb223, 1, none⟩ = some (.slice (some ad227) l1_1.length c1_1) ∧ w'.cell? (ad226.add (x5_2).toNat) = some (.slice A226_0 ((rd_T50 l0_0 x5_2).f0).length c226_0) ∧ w'.cell? (ad227.add ((x5_2).toNat * 2)) = some (.int .i64 ((rd_T25 l1_1 x5_2).f0)) ∧ w'.cell? ⟨(ad227.add ((x5_2).toNat * 2)).block, (ad227.add ((x5_2).toNat * 2)).off + 1, none⟩ = some (.slice A227_1 ((rd_T25 l1_1 x5_2).f1).length c227_1)) (ds := []) #[false, false, false, false, false, false, false, false, false, false, false, false] (by kernel_rfl) rfl rfl ⟨(blk_cell BK222.out 0).trans rfl, (blk_cell BK223.out 0).trans rfl, (blk_cell BK223.out 1).trans rfl, ((HB.out.cell (World.block_lt_of_cell? w _ hw226_0)).trans hw226_0), ((HB.out.cell (World.block_lt_of_cell? w _ hw227_0)).trans hw227_0), ((HB.out.cell (World.block_lt_of_cell? w _ hw227_1)).trans hw227_1)⟩ (fun hHeld => ?_); refine with_tabW spec_l1Val.tab6 spec_l1Val.bits6 (fun HT_ HW_ => ?_)
          generalize wr.drew = w35 at BK222 BK223 HB HR226_0 HR227_1 hx226_0 hx227_0 hx227_1 hHeld ⊢
          refine zp 0 (some 37) HT_ ?_
          refine zp 2 (some 39) HT_ ?_
          refine zp 5 (some 42) HT_ ?_
          refine zp 7 (some 44) HT_ ?_
          refine zt6 1 (some 38) HT_ HW_ hHeld ?_
          refine zp 3 (some 40) HT_ ?_
          refine zt6 4 (some 41) HT_ HW_ hHeld ?_
          refine zt6 6 (some 43) HT_ HW_ hHeld ?_
          refine zp 8 (some 45) HT_ ?_
          refine zt6 9 (some 46) HT_ HW_ hHeld ?_
          refine one_ (i := 10) (N := some 47) #[true, true, true, true, true, true, true, true, true, true, true, false] rfl rfl (one_of HT_.out (by kernel_rfl)) (by decide) (fun K hK => ?_)
          refine goes_ Try.func54 (by kernel_rfl) rfl #[.agg #[.slice A226_0 ((rd_T50 l0_0 x5_2).f0).length c226_0], .agg #[.int .i64 ((rd_T25 l1_1 x5_2).f0), .slice A227_1 ((rd_T25 l1_1 x5_2).f1).length c227_1]] (by rfl) rfl rfl y8 ?_
          with_reducible refine (ih k2 (y87 HJ2.out HK2.out) _ _ ((rd_T50 l0_0 x5_2).f0) ((rd_T25 l1_1 x5_2).f0) _ _ ((rd_T25 l1_1 x5_2).f1) false _ ?side1 ?side2 ?side3 ?side4 A27.out).mono ?_
          (case side1 => exact y15 HR226_0.out HB.out)
          (case side2 => exact HC226_0.out)
          (case side3 => exact y15 HR227_1.out HB.out)
          (case side4 => exact HC227_1.out)
          rintro e w36 ⟨rfl, hb⟩
          refine ⟨_, rfl, ?_⟩
          replace BK222 := zbb BK222 hb
          replace BK223 := zbb BK223 hb
          replace HB := Aside0.mk (below_step (y2 HB.out GE222.out GE223.out) hb)
          (try clear hb)
          (try clear hb2)
          (try clear hk)
          (try clear hi)
          refine hK.out _ _ ⟨(blk_cell BK222.out 0).trans rfl, (blk_cell BK223.out 0).trans rfl, (blk_cell BK223.out 1).trans rfl, ((HB.out.cell (World.block_lt_of_cell? w _ hw226_0)).trans hw226_0), ((HB.out.cell (World.block_lt_of_cell? w _ hw227_0)).trans hw227_0), ((HB.out.cell (World.block_lt_of_cell? w _ hw227_1)).trans hw227_1)⟩ (fun hHeld => ?_)
          clear hK K
          refine norm_ (a' := ?_) ?_ ?_
          rotate_left
          ·show Act.put _ (some 47) _ = _
           simp only [Act.put, List.setIfInBounds_toArray, List.set_cons_zero, List.set_cons_succ, i64_w, i32_w]
           rfl
          refine zp 11 (some 48) HT_ ?_
          refine done_ (done_of HT_.out (by kernel_rfl)) ?_
          try go_wp2
          go_ret
          exact ⟨y19, (y2 HB.out GE222.out GE223.out)⟩
        ·rw [if_neg c26] at H
         exact absurd H (by simp)
       ·rw [if_neg c25] at H
        exact absurd H (by simp)
      ·rw [if_neg c24] at H
       have c24b0 : decide (x5_2 < (l1_1.length : Int)) = false := decide_eq_false c24
       clear c24
       obtain rfl := Option.some.inj H
       have hnb37 := NB223_222.out
       have hnc37 := NB222_223.out
       have hcz38_0 := zh BK223
       have hcz38_1 := zh1 BK223
       have hfz38_0 := zfr BK223 0
       have hfz38_1 := zfr BK223 1
       go_wp2
       go_ret
       exact ⟨y19, (y2 HB.out GE222.out GE223.out)⟩
end Go.Proofs.Ythfflieeifakdaa.PA
end
section
namespace Go.Proofs.Ythfflieeifakdaa.PA
open Go.RowKit Go.Proofs.YthfflieeifakdaaW.PrintWords Go.Proofs.YthfflieeifakdaaW.PrintLast Go.Proofs.YthfflieeifakdaaW.PrintMore
attribute [local go_sem] max2_int min2_int max_two min_two max_three min_three max_four min_four
set_option linter.unusedVariables false
set_option linter.unusedSimpArgs false
def spec_ValOk.f (k : Nat) (l0_0 : List (S50)) (a1_0 : Int) (l1_1 : List (S25)) : Option (Bool) := (spec_TypeOk.f k l0_0).bind fun t231 => (if t231 = true then ((spec_l1Val.f k l0_0 a1_0 l1_1).bind fun t232 => (some t232)) else (some false))
theorem spec_ValOk.mono : ∀ a0 a1 a2 k, LeO (spec_ValOk.f k a0 a1 a2) (spec_ValOk.f (k + 1) a0 a1 a2) := by
 intro a0 a1 a2 k
 unfold spec_ValOk.f
 repeat' first
   | (with_reducible exact spec_TypeOk.mono _ _)
   | (with_reducible exact spec_l1Val.mono _ _ _ _)
   | (with_reducible exact LeO.refl _)
   | (with_reducible exact LeO.none _)
   | (with_reducible refine LeO.ite ?_ ?_)
   | (with_reducible refine LeO.bind ?_ (fun _ => ?_))
   | exact spec_TypeOk.mono _ _
   | exact spec_l1Val.mono _ _ _ _
   | exact LeO.none _
   | refine LeO.ite ?_ ?_
   | refine LeO.bind ?_ (fun _ => ?_)
set_option maxHeartbeats 8000000 in
set_option maxRecDepth 100000 in
theorem spec_ValOk.calls (k : Nat) (A0_0 : Option Addr) (c0_0 : Nat) (l0_0 : List (S50)) (a1_0 : Int) (A1_1 : Option Addr) (c1_1 : Nat) (l1_1 : List (S25)) (r : Bool) (w : World) (hr0_0 : Kd.C k50 w A0_0 l0_0.length l0_0) (hc0_0 : l0_0.length ≤ c0_0) (hr1_1 : Kd.C k25 w A1_1 l1_1.length l1_1) (hc1_1 : l1_1.length ≤ c1_1) (h : spec_ValOk.f k l0_0 a1_0 l1_1 = some r) :
  Calls Try.prog 29 #[.agg #[.slice A0_0 l0_0.length c0_0], .agg #[.int .i64 a1_0, .slice A1_1 l1_1.length c1_1]] w fun e w' => e = .returned (.bool r) ∧ Below w.heap.size w w' := by
 have hu50 := Try.underlying50
 have hu25 := Try.underlying25
 have HR0_0 := Aside0.mk hr0_0
 have HC0_0 := Aside0.mk hc0_0
 clear hr0_0 hc0_0
 have HR1_1 := Aside0.mk hr1_1
 have HC1_1 := Aside0.mk hc1_1
 clear hr1_1 hc1_1
 have HB := Aside0.mk (Below.refl w.heap.size w)
 have H : ((spec_TypeOk.f k l0_0).bind fun t231 => (if t231 = true then ((spec_l1Val.f k l0_0 a1_0 l1_1).bind fun t232 => (some t232)) else (some false))) = some r := h
 clear h
 obtain ⟨t231, A30, H⟩ := ob H
 have A3 := Aside0.mk A30
 clear A30
 by_cases c4 : t231 = true
 ·subst c4
  rw [if_pos rfl] at H
  obtain ⟨t232, A50, H⟩ := ob H
  have A5 := Aside0.mk A50
  clear A50
  obtain rfl := Option.some.inj H
  go_enter Try.func29, Try.ntmps29
  go_wp2_with (first | ((with_reducible refine gate_dst (N := 2) rfl ?_); refine zbx 2 #[.slice A0_0 l0_0.length c0_0] 50 ?_; intro gb229 hg w6 hbox hb; have BK229 := Aside0.mk hbox; have GW229 := Aside0.mk ((y9 hg HB.out : w.heap.size ≤ gb229)); have GE229 := Aside0.mk ((y9 hg HB.out : w.heap.size ≤ gb229)); replace HB := Aside0.mk (below_step (y5 HB.out) hb); clear hb hbox hg) | ((with_reducible refine gate_dst (N := 3) rfl ?_); refine zbx 3 #[.int .i64 a1_0, .slice A1_1 l1_1.length c1_1] 25 ?_; intro gb230 hg w7 hbox hb; have BK230 := Aside0.mk hbox; have GW230 := Aside0.mk ((y11 hg HB.out GE229.out : w.heap.size ≤ gb230)); have GE230 := Aside0.mk ((y11 hg HB.out GE229.out : w.heap.size ≤ gb230)); replace HB := Aside0.mk (below_step (y6 HB.out GE229.out) hb); have NB229_230 := zltn hg BK229; have NB230_229 := zgtn hg BK229; replace BK229 := zbb BK229 hb; clear hb hbox hg; have hnb8 := NB229_230.out; have hnc8 := NB230_229.out; have hcz9_0 := zh BK229; have hfz9_0 := zfr BK229 0) | ((with_reducible refine gate_callee (f := 53) rfl ?_); refine goesL_ (some 6) rfl rfl Try.func53 (by kernel_rfl) rfl #[.agg #[.slice A0_0 l0_0.length c0_0]] rfl y8 ?_; (with_reducible refine (spec_TypeOk.calls k _ _ l0_0 true _ ?side1 ?side2 A3.out).mono ?_); (case side1 => exact y15 HR0_0.out HB.out); (case side2 => exact HC0_0.out); rintro e w10 ⟨rfl, hb⟩; refine ⟨_, rfl, ?_⟩; replace BK229 := zbb BK229 hb; replace BK230 := zbb BK230 hb; replace HB := Aside0.mk (below_step (y2 HB.out GE229.out GE230.out) hb); (try clear hb); (try clear hb2); (try clear hk); (try clear hi); have hcz11_0 := zh BK229; have hfz11_0 := zfr BK229 0; have hcz12_0 := zh BK230; have hcz12_1 := zh1 BK230; have hfz12_0 := zfr BK230 0; have hfz12_1 := zfr BK230 1) | (go_at_call 54; (with_reducible refine (spec_l1Val.calls k _ _ l0_0 a1_0 _ _ l1_1 t232 _ ?side1 ?side2 ?side3 ?side4 A5.out).mono ?_); (case side1 => exact y15 HR0_0.out HB.out); (case side2 => exact HC0_0.out); (case side3 => exact y15 HR1_1.out HB.out); (case side4 => exact HC1_1.out); rintro e w13 ⟨rfl, hb⟩; replace BK229 := zbb BK229 hb; replace BK230 := zbb BK230 hb; replace HB := Aside0.mk (below_step (y2 HB.out GE229.out GE230.out) hb); (try clear hb); (try clear hb2); (try clear hk); (try clear hi)))
  go_ret
  exact ⟨y19, (y2 HB.out GE229.out GE230.out)⟩
 ·replace c4 := Bool.eq_false_iff.mpr c4
  subst c4
  rw [if_neg (show ¬ (false = true) by decide)] at H
  obtain rfl := Option.some.inj H
  go_enter Try.func29, Try.ntmps29
  go_wp2_with (first | ((with_reducible refine gate_dst (N := 2) rfl ?_); refine zbx 2 #[.slice A0_0 l0_0.length c0_0] 50 ?_; intro gb229 hg w14 hbox hb; have BK229 := Aside0.mk hbox; have GW229 := Aside0.mk ((y9 hg HB.out : w.heap.size ≤ gb229)); have GE229 := Aside0.mk ((y9 hg HB.out : w.heap.size ≤ gb229)); replace HB := Aside0.mk (below_step (y5 HB.out) hb); clear hb hbox hg) | ((with_reducible refine gate_dst (N := 3) rfl ?_); refine zbx 3 #[.int .i64 a1_0, .slice A1_1 l1_1.length c1_1] 25 ?_; intro gb230 hg w15 hbox hb; have BK230 := Aside0.mk hbox; have GW230 := Aside0.mk ((y11 hg HB.out GE229.out : w.heap.size ≤ gb230)); have GE230 := Aside0.mk ((y11 hg HB.out GE229.out : w.heap.size ≤ gb230)); replace HB := Aside0.mk (below_step (y6 HB.out GE229.out) hb); have NB229_230 := zltn hg BK229; have NB230_229 := zgtn hg BK229; replace BK229 := zbb BK229 hb; clear hb hbox hg; have hnb16 := NB229_230.out; have hnc16 := NB230_229.out; have hcz17_0 := zh BK229; have hfz17_0 := zfr BK229 0) | ((with_reducible refine gate_callee (f := 53) rfl ?_); refine goesL_ (some 6) rfl rfl Try.func53 (by kernel_rfl) rfl #[.agg #[.slice A0_0 l0_0.length c0_0]] rfl y8 ?_; (with_reducible refine (spec_TypeOk.calls k _ _ l0_0 false _ ?side1 ?side2 A3.out).mono ?_); (case side1 => exact y15 HR0_0.out HB.out); (case side2 => exact HC0_0.out); rintro e w18 ⟨rfl, hb⟩; refine ⟨_, rfl, ?_⟩; replace BK229 := zbb BK229 hb; replace BK230 := zbb BK230 hb; replace HB := Aside0.mk (below_step (y2 HB.out GE229.out GE230.out) hb); (try clear hb); (try clear hb2); (try clear hk); (try clear hi)))
  go_ret
  exact ⟨y19, (y2 HB.out GE229.out GE230.out)⟩
end Go.Proofs.Ythfflieeifakdaa.PA
end
