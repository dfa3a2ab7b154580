-- Written by this session's own program (hfprint) out of the translation. Not trusted: Lean checks it.
import Derived.Test.YtjhbhihfifhljaaPAz
import Derived.Test.YtjhbhihfifhljaaPAx14
namespace Go.Proofs.Ytjhbhihfifhljaa.PA
open Go.RowKit Go.Proofs.YtjhbhihfifhljaaW.PrintWords Go.Proofs.YtjhbhihfifhljaaW.PrintLast Go.Proofs.YtjhbhihfifhljaaW.PrintMore
attribute [local go_sem] max2_int min2_int max_two min_two max_three min_three max_four min_four   -- for this text's walks alone
set_option linter.unusedVariables false
set_option linter.unusedSimpArgs false

/-! ### spec_l71Path: function 86 -/
def spec_l71Path.l0 : Nat → List Int → List Int → Int → List (S30) → Option (List Int × (List (S30)) × Int)
 | 0, _, _, _, _ => none
 | k + 1, x6, x1000, x1001, x534000 => if (x534000.length : Int) > 0 then ((spec_l6Rd_pick.f k x1000 x1001 3).bind fun bt538 => (if bt538.1 > 0 then ((spec_l6Rd_pick.f k x1000 bt538.2 (x534000.length : Int)).bind fun bt540 => (if x6.length < 17592186044416 then (if 0 ≤ bt540.1 then (if bt540.1 < (x534000.length : Int) then (spec_l71Path.l0 k (x6 ++ [bt540.1]) x1000 bt540.2 ((rd_T30 x534000 bt540.1).f0)) else (none)) else (none)) else (none))) else (some (x6, x534000, bt538.2)))) else (some (x6, x534000, x1001))
def spec_l71Path.f (k : Nat) (s0_0 : List Int) (s0_1 : Int) (l1_0 : List (S30)) : Option (List Int × (List (S30)) × Int) := spec_l71Path.l0 k (([] : List Int)) s0_0 s0_1 l1_0
theorem spec_l71Path.mono_l : ∀ k, (∀ y0 y1 y2 y3, LeO (spec_l71Path.l0 k y0 y1 y2 y3) (spec_l71Path.l0 (k + 1) y0 y1 y2 y3))
 | 0 => fun _ _ _ _ r h => by simp [spec_l71Path.l0] at h
 | k + 1 => by
  have ih0 := spec_l71Path.mono_l k
  ·intro y0 y1 y2 y3
   unfold spec_l71Path.l0
   repeat' first
   | (with_reducible exact ih0 _ _ _ _)
   | (with_reducible exact spec_l6Rd_pick.mono _ _ _ _)
   | (with_reducible exact LeO.refl _)
   | (with_reducible exact LeO.none _)
   | (with_reducible refine LeO.ite ?_ ?_)
   | (with_reducible refine LeO.bind ?_ (fun _ => ?_))
   | exact ih0 _ _ _ _
   | exact spec_l6Rd_pick.mono _ _ _ _
   | exact LeO.none _
   | refine LeO.ite ?_ ?_
   | refine LeO.bind ?_ (fun _ => ?_)
theorem spec_l71Path.mono : ∀ a0 a1 a2 k, LeO (spec_l71Path.f k a0 a1 a2) (spec_l71Path.f (k + 1) a0 a1 a2) := by
 intro a0 a1 a2 k
 have ih0 := spec_l71Path.mono_l k
 unfold spec_l71Path.f
 repeat' first
   | (with_reducible exact ih0 _ _ _ _)
   | (with_reducible exact spec_l6Rd_pick.mono _ _ _ _)
   | (with_reducible exact LeO.refl _)
   | (with_reducible exact LeO.none _)
   | (with_reducible refine LeO.ite ?_ ?_)
   | (with_reducible refine LeO.bind ?_ (fun _ => ?_))
   | exact ih0 _ _ _ _
   | exact spec_l6Rd_pick.mono _ _ _ _
   | exact LeO.none _
   | refine LeO.ite ?_ ?_
   | refine LeO.bind ?_ (fun _ => ?_)
set_option maxHeartbeats 8000000 in
set_option maxRecDepth 100000 in
theorem spec_l71Path.calls (k : Nat) (g : Nat) (s0_0 : List Int) (s0_1 : Int) (P1_0_ : Nat → Prop) (A1_0 : Option Addr) (c1_0 : Nat) (l1_0 : List (S30)) (r1 : List Int) (r2 : List (S30)) (r3 : Int) (w0 w : World) (hI : IsS95 w0 w g s0_0 s0_1) (hB : Below w0.heap.size w0 w) (hs1_0 : Kd.V k30 30 w w.heap.size (fun k_ => P1_0_ k_ ∧ k_ ≠ g) (.slice A1_0 l1_0.length c1_0) l1_0) (h : spec_l71Path.f k s0_0 s0_1 l1_0 = some (r1, r2, r3)) :
  Calls Try.prog 86 #[.pointer (some ⟨g, 0, none⟩), .agg #[.slice A1_0 l1_0.length c1_0]] w fun e w' => ∃ v0_ v1_ : Value, e = .returned (.tuple #[v0_, .agg #[v1_]]) ∧ Kd.R (Kd.int .i64) 3 w' w.heap.size (fun k_ => (w.heap.size ≤ k_)) v0_ r1 ∧ Kd.V k30 30 w' w.heap.size (fun k_ => (P1_0_ k_ ∨ w.heap.size ≤ k_) ∧ some k_ ≠ (v0_ : Value).ownBlock) v1_ r2 ∧ IsS95 w0 w' g s0_0 r3 ∧ Below w0.heap.size w0 w' ∧ KeepBut w w' g none := by
 have hu30 := Try.underlying30
 have HO1_0 := Aside0.mk (show Kd.V k30 30 w w.heap.size (fun k_ => (P1_0_ k_ ∨ w.heap.size ≤ k_) ∧ k_ ≠ g) (.slice A1_0 l1_0.length c1_0) l1_0 from Kd.V_mono hs1_0 (fun k_ hk => ⟨.inl hk.1, hk.2⟩))
 have HI0 := Aside0.mk hI
 have HK := Aside0.mk (KeepBut.refl w g none)
 have HL := Aside0.mk hB.size
 clear hI
 have HW0 := Aside0.mk hB.size
 have HB := Aside0.mk hB
 clear hB
 have H : (spec_l71Path.l0 k (([] : List Int)) s0_0 s0_1 l1_0) = some (r1, r2, r3) := h
 clear h
 obtain ⟨y535, hy535⟩ : ∃ y_ : List Int, y_ = (([] : List Int)) := ⟨_, rfl⟩
 replace H : (spec_l71Path.l0 k y535 s0_0 s0_1 l1_0) = some (r1, r2, r3) := by first | (rw [hy535]; with_reducible exact H) | (have H2_ := (Option.bind_some _ _).symm.trans H; rw [hy535]; with_reducible exact H2_) | (have H2_ := (Option.bind_some _ _).symm.trans H; with_reducible exact H2_) | with_reducible exact H | (rw [hy535]; exact H) | exact H
 have Ny535 := Aside0.mk hy535
 clear hy535
 have H' := Aside0.mk H
 clear H
 go_enter Try.func86, Try.ntmps86
 go_wp2_with (first | ((with_reducible refine gate_dst (N := 3) rfl ?_); refine box_event ?hg (N := 3) ?hd (cs := #[.slice A1_0 l1_0.length c1_0]) (t := 30) ?hr ?_; (case hd => rfl); (case hg => rfl); (case hr => first | (go_simp; done) | (go_simp; rfl)); intro gb533 hg w3 hbox hb; have n0_ := Aside0.mk (Kd.V_below (Kd.V_elderB (y10 HO1_0.out) gb533 (Nat.le_of_eq hg.symm)) hb); have n1_ := Aside0.mk (IsS95.below (y30 HI0.out) hb); have n2_ := Aside0.mk (KeepBut.trans (y23 HK.out) (KeepBut.of_below hb g none) (.inl rfl)); have n3_ := Aside0.mk (below_step (y29 HB.out HI0.out) hb); have n4_ := Aside0.mk (hbox); have n5_ := Aside0.mk ((by rw [hg]; exact (keep_size (w := w) (g := g) (row := none) (y23 HK.out)) : w.heap.size ≤ gb533)); have n6_ := Aside0.mk ((Nat.le_trans HW0.out (by rw [hg]; exact (keep_size (w := w) (g := g) (row := none) (y23 HK.out)) : w.heap.size ≤ gb533) : w0.heap.size ≤ gb533)); have n7_ := Aside0.mk ((by rw [hg]; exact Nat.ne_of_lt (IsS95.lt (show IsS95 w0 _ g s0_0 s0_1 from by repeat (first | (with_reducible first | exact HI0.out | apply IsS95.alloc | apply IsS95.drewN | apply IsS95.drew | apply IsS95.set_1) | exact HI0.out))) : g ≠ gb533)); have n8_ := Aside0.mk ((by rw [hg]; exact Nat.ne_of_gt (IsS95.lt (show IsS95 w0 _ g s0_0 s0_1 from by repeat (first | (with_reducible first | exact HI0.out | apply IsS95.alloc | apply IsS95.drewN | apply IsS95.drew | apply IsS95.set_1) | exact HI0.out))) : gb533 ≠ g)); clear HO1_0; clear HI0; clear HK; clear HB; have HO1_0 := n0_; have HI0 := n1_; have HK := n2_; have HB := n3_; have BK533 := n4_; have GW533 := n5_; have GE533 := n6_; have NB0_533 := n7_; have NB533_0 := n8_; clear n0_ n1_ n2_ n3_ n4_ n5_ n6_ n7_ n8_; clear hb hbox hg) | ((with_reducible refine gate_dst (N := 5) rfl ?_); refine box_event ?hg (N := 5) ?hd (cs := #[.slice none 0 0]) (t := 30) ?hr ?_; (case hd => rfl); (case hg => rfl); (case hr => first | (go_simp; done) | (go_simp; rfl)); intro gb534 hg w4 hbox hb; have n0_ := Aside0.mk (Kd.V_below (Kd.V_elderB (y10 HO1_0.out) gb534 (Nat.le_of_eq hg.symm)) hb); have n1_ := Aside0.mk (IsS95.below (y19 HI0.out NB0_533.out) hb); have n2_ := Aside0.mk (zbb BK533.out hb); have n3_ := Aside0.mk (KeepBut.trans (y16 HK.out GW533.out) (KeepBut.of_below hb g none) (.inl rfl)); have n4_ := Aside0.mk (below_step (y18 HB.out HI0.out GE533.out) hb); have n5_ := Aside0.mk (hbox); have n6_ := Aside0.mk ((by rw [hg]; exact (keep_size (w := w) (g := g) (row := none) (y16 HK.out GW533.out)) : w.heap.size ≤ gb534)); have n7_ := Aside0.mk ((Nat.le_trans HW0.out (by rw [hg]; exact (keep_size (w := w) (g := g) (row := none) (y16 HK.out GW533.out)) : w.heap.size ≤ gb534) : w0.heap.size ≤ gb534)); have n8_ := Aside0.mk (zltn hg BK533.out); have n9_ := Aside0.mk (zgtn hg BK533.out); have n10_ := Aside0.mk ((by rw [hg]; exact Nat.ne_of_lt (IsS95.lt (show IsS95 w0 _ g s0_0 s0_1 from by repeat (first | (with_reducible first | exact HI0.out | apply IsS95.alloc | apply IsS95.drewN | apply IsS95.drew | apply IsS95.set_1 | refine IsS95.far ?_ NB0_533.out _) | exact HI0.out))) : g ≠ gb534)); have n11_ := Aside0.mk ((by rw [hg]; exact Nat.ne_of_gt (IsS95.lt (show IsS95 w0 _ g s0_0 s0_1 from by repeat (first | (with_reducible first | exact HI0.out | apply IsS95.alloc | apply IsS95.drewN | apply IsS95.drew | apply IsS95.set_1 | refine IsS95.far ?_ NB0_533.out _) | exact HI0.out))) : gb534 ≠ g)); clear HO1_0; clear HI0; clear BK533; clear HK; clear HB; have HO1_0 := n0_; have HI0 := n1_; have BK533 := n2_; have HK := n3_; have HB := n4_; have BK534 := n5_; have GW534 := n6_; have GE534 := n7_; have NB533_534 := n8_; have NB534_533 := n9_; have NB0_534 := n10_; have NB534_0 := n11_; clear n0_ n1_ n2_ n3_ n4_ n5_ n6_ n7_ n8_ n9_ n10_ n11_; clear hb hbox hg) | ((with_reducible refine gate_dst (N := 8) rfl ?_); refine Kd.R_lit (Kd.int .i64) _ 3 ?hg (N := 8) ?hd (xs := ([] : List Int)) (inner := []) (ok := fun _ => True) (okp := fun _ => True) ?hr ?hp (fun _ hk => hk) trivial (Below.refl _ _) (Nat.le_refl _) (by simp) ?_; (case hd => rfl); (case hg => rfl); (case hr => first | (go_simp; done) | (go_simp; rfl)); (case hp => exact (Reps.none _ _)); intro v536 w5 ho6 hb hg_ hnew_; clear hg_ hnew_; (first | rw [← Ny535.out] at ho6 | (simp only [Int.reduceToNat] at ho6; rw [← Ny535.out] at ho6)); have n0_ := Aside0.mk (Kd.V_elder' (y10 HO1_0.out) (Kd.R_base ho6) hb); have n1_ := Aside0.mk (Kd.R_lower (Kd.R_newM (M := fun k_ => (w.heap.size ≤ k_)) ho6 (keep_size (w := w) (g := g) (row := none) (y11 HK.out GW533.out GW534.out)) (fun k_ h_ => h_)) (keep_size (w := w) (g := g) (row := none) (y11 HK.out GW533.out GW534.out))); have n2_ := Aside0.mk (IsS95.below (y15 HI0.out NB0_533.out NB0_534.out) hb); have n3_ := Aside0.mk (zbb BK533.out hb); have n4_ := Aside0.mk (zbb BK534.out hb); have n5_ := Aside0.mk (KeepBut.trans (y11 HK.out GW533.out GW534.out) (KeepBut.of_below hb g none) (.inl rfl)); have n6_ := Aside0.mk (below_step (y12 HB.out HI0.out GE533.out GE534.out) hb); clear HO1_0; clear HI0; clear BK533; clear BK534; clear HK; clear HB; have HO1_0 := n0_; have HO537 := n1_; have HI0 := n2_; have BK533 := n3_; have BK534 := n4_; have HK := n5_; have HB := n6_; clear n0_ n1_ n2_ n3_ n4_ n5_ n6_; clear hb ho6))
 go_loopg [6] k (fun kq v6 w' => ∃ (x6_1 : List Int) (x1001_1 : Int) (x534000_1 : List (S30)) (u534000 : Value), Aside0 (spec_l71Path.l0 kq x6_1 s0_0 x1001_1 x534000_1 = some (r1, r2, r3)) ∧ Aside0 (kq ≤ k) ∧ Aside0 (Kd.R (Kd.int .i64) 3 w' w.heap.size (fun k_ => (w.heap.size ≤ k_)) v6 x6_1) ∧ Aside0 (Kd.V k30 30 w' w.heap.size (fun k_ => (P1_0_ k_ ∨ w.heap.size ≤ k_) ∧ some k_ ≠ (v6 : Value).ownBlock ∧ k_ ≠ gb533 ∧ k_ ≠ gb534 ∧ k_ ≠ g) u534000 x534000_1) ∧ Aside0 (w'.heap[gb533]? = some (.cells #[u534000] 30 (0, 0))) ∧ Aside0 (w'.heap[gb534]? = some (.cells #[(.slice none 0 0)] 30 (0, 0))) ∧ Aside0 (IsS95 w0 w' g s0_0 x1001_1) ∧ Aside0 (KeepBut w w' g none) ∧ Aside0 (Below w0.heap.size w0 w'))
 case atStart => exact ⟨(y535), (s0_1), (l1_0), (.slice A1_0 l1_0.length c1_0), H', ⟨Nat.le_refl _⟩, ⟨by (with_reducible repeat (first | apply Kd.R_alloc | apply Kd.R_drewN | apply Kd.R_drew)); exact Kd.R_mono HO537.out (fun _ hk => hk.1)⟩, ⟨by (with_reducible repeat (first | apply Kd.V_alloc | apply Kd.V_drewN | apply Kd.V_drew)); exact Kd.V_mono HO1_0.out (fun _ hk => ⟨hk.1.1.1.1, ⟨hk.2, ⟨hk.1.1.2, ⟨hk.1.2, hk.1.1.1.2⟩⟩⟩⟩)⟩, ⟨by (with_reducible repeat (first | refine blk_drewN ?_ _ | refine blk_drew ?_ | refine blk_alloc ?_ _)); exact BK533.out⟩, ⟨by (with_reducible repeat (first | refine blk_drewN ?_ _ | refine blk_drew ?_ | refine blk_alloc ?_ _)); exact BK534.out⟩, ⟨by repeat (first | (with_reducible first | exact HI0.out | apply IsS95.alloc | apply IsS95.drewN | apply IsS95.drew | apply IsS95.set_1 | refine IsS95.far ?_ NB0_533.out _ | refine IsS95.far ?_ NB0_534.out _) | exact HI0.out)⟩, ⟨by repeat (first | (with_reducible first | exact HK.out | apply KeepBut.set_ | apply keep_drewN | apply keep_drew | apply keep_alloc | refine keep_far ?_ GW533.out _ | refine keep_far ?_ GW534.out _) | exact HK.out)⟩, ⟨by repeat (first | (with_reducible first | exact HB.out | apply below_alloc | apply pw_below_drewN | apply below_drew1 | refine below_set ?_ (IsS95.ge HI0.out) | refine below_set ?_ GE533.out | refine below_set ?_ GE534.out) | exact HB.out)⟩⟩
 case round =>
  clear H'
  try clear c1
  try clear p2
  obtain ⟨x6_1, x1001_1, x534000_1, u534000, HA, HK1, HO_6, HO_534000, BK533, BK534, HI0, HK, HB⟩ := hrel
  cases gk with
  | zero => exact absurd HA.out (by simp [spec_l71Path.l0])
  | succ k1 =>
   have H := HA.out
   clear HA
   simp only [spec_l71Path.l0] at H
   by_cases c7 : (x534000_1.length : Int) > 0
   ·rw [if_pos c7] at H
    have c7b0 : decide (0 < (x534000_1.length : Int)) = true := decide_eq_true c7
    have c7b1 : decide (0 < x534000_1.length) = true := decide_eq_true (by omega)
    clear c7
    replace H := Option.bind_eq_some_iff.mp H
    obtain ⟨⟨t538, t539⟩, A80, H⟩ := H
    replace H : (if t538 > 0 then ((spec_l6Rd_pick.f k1 s0_0 t539 (x534000_1.length : Int)).bind fun bt540 => (if x6_1.length < 17592186044416 then (if 0 ≤ bt540.1 then (if bt540.1 < (x534000_1.length : Int) then (spec_l71Path.l0 k1 (x6_1 ++ [bt540.1]) s0_0 bt540.2 ((rd_T30 x534000_1 bt540.1).f0)) else (none)) else (none)) else (none))) else (some (x6_1, x534000_1, t539))) = some (r1, r2, r3) := H
    have A8 := Aside0.mk A80
    clear A80
    by_cases c9 : t538 > 0
    ·rw [if_pos c9] at H
     have c9b0 : decide (0 < t538) = true := decide_eq_true c9
     clear c9
     replace H := Option.bind_eq_some_iff.mp H
     obtain ⟨⟨t540, t541⟩, A100, H⟩ := H
     replace H : (if x6_1.length < 17592186044416 then (if 0 ≤ t540 then (if t540 < (x534000_1.length : Int) then (spec_l71Path.l0 k1 (x6_1 ++ [t540]) s0_0 t541 ((rd_T30 x534000_1 t540).f0)) else (none)) else (none)) else (none)) = some (r1, r2, r3) := H
     have A10 := Aside0.mk A100
     clear A100
     by_cases c11 : x6_1.length < 17592186044416
     ·rw [if_pos c11] at H
      have LMc11 := Aside0.mk c11
      clear c11
      obtain ⟨y542, hy542⟩ : ∃ y_ : List Int, y_ = (x6_1 ++ [t540]) := ⟨_, rfl⟩
      replace H : (if 0 ≤ t540 then (if t540 < (x534000_1.length : Int) then (spec_l71Path.l0 k1 y542 s0_0 t541 ((rd_T30 x534000_1 t540).f0)) else (none)) else (none)) = some (r1, r2, r3) := by first | (rw [hy542]; with_reducible exact H) | (have H2_ := (Option.bind_some _ _).symm.trans H; rw [hy542]; with_reducible exact H2_) | (have H2_ := (Option.bind_some _ _).symm.trans H; with_reducible exact H2_) | with_reducible exact H | (rw [hy542]; exact H) | exact H
      have Ny542 := Aside0.mk hy542
      clear hy542
      by_cases c12 : 0 ≤ t540
      ·rw [if_pos c12] at H
       have c12b0 : decide (0 ≤ t540) = true := decide_eq_true c12
       clear c12
       by_cases c13 : t540 < (x534000_1.length : Int)
       ·rw [if_pos c13] at H
        have c13b0 : decide (t540 < (x534000_1.length : Int)) = true := decide_eq_true c13
        clear c13
        have H' := Aside0.mk H
        clear H
        have hnb14 := NB533_534.out
        have hnc14 := NB534_533.out
        have hnb15 := NB533_0.out
        have hnc15 := NB0_533.out
        have hcz16_0 : wr.cell? ⟨gb533, 0, none⟩ = some (u534000) := (blk_cell BK533.out 0).trans rfl
        have hfz16_0 := blk_frozen BK533.out 0
        obtain ⟨Ao17, co17, eo17⟩ := Kd.V_slice HO_534000.out
        subst eo17
        go_wp2_with (first | (go_at_call 58; (with_reducible refine (spec_l6Rd_pick.calls k1 g s0_0 x1001_1 3 t538 t539 w0 _ ?side1 ?side2 A8.out).mono ?_); (case side1 => exact y15 HI0.out NB0_533.out NB0_534.out); (case side2 => exact y12 HB.out HI0.out GE533.out GE534.out); rintro e w18 ⟨rfl, hi, hb, hk⟩; replace HO_6 := Aside0.mk (Kd.R_mono (Kd.R_keep (IsS95.apart (show IsS95 w0 _ g s0_0 x1001_1 from by repeat (first | (with_reducible first | exact HI0.out | apply IsS95.alloc | apply IsS95.drewN | apply IsS95.drew | apply IsS95.set_1 | refine IsS95.far ?_ NB0_533.out _ | refine IsS95.far ?_ NB0_534.out _) | exact HI0.out)) (y9 HO_6.out) (by decide)) hk (fun _ h => h.2)) (fun _ h => h.1)); replace HO_534000 := Aside0.mk (Kd.V_mono (Kd.V_keep (Kd.V_mono (ok := fun k_ => (((P1_0_ k_ ∨ w.heap.size ≤ k_)) ∧ (some k_ ≠ (u6 : Value).ownBlock ∧ (k_ ≠ gb533 ∧ (k_ ≠ gb534 ∧ k_ ≠ g))))) (y10 HO_534000.out) (fun k_ hk_ => (⟨hk_, hk_.2.2.2.2⟩ : _ ∧ k_ ≠ g))) hk (fun _ h => h.2)) (fun _ h => h.1)); replace BK533 := Aside0.mk (KeepBut.blk hk (g' := gb533) (o := .cells #[.slice Ao17 x534000_1.length co17] 30 (0, 0)) (y4 BK533.out) NB533_0.out (by simp)); replace BK534 := Aside0.mk (KeepBut.blk hk (g' := gb534) (o := .cells #[.slice none 0 0] 30 (0, 0)) (y4 BK534.out) NB534_0.out (by simp)); replace HK := Aside0.mk (KeepBut.trans (y11 HK.out GW533.out GW534.out) hk (.inl rfl)); replace HB := Aside0.mk (hb); replace HI0 := Aside0.mk (hi); (try clear hb); (try clear hb2); (try clear hk); (try clear hi); have hcz19_0 : w18.cell? ⟨gb533, 0, none⟩ = some (.slice Ao17 x534000_1.length co17) := (blk_cell BK533.out 0).trans rfl; have hfz19_0 := blk_frozen BK533.out 0) | ((with_reducible refine gate_callee (f := 58) rfl ?_); refine goesL_ (some 22) rfl rfl Try.func58 (by kernel_rfl) rfl #[.pointer (some ⟨g, 0, none⟩), .int .i64 (x534000_1.length : Int)] rfl (by (try simp only [List.map_toArray, List.map_cons, List.map_nil]); first | done | rfl | (simp only [List.length_drop, List.length_take]; rfl)) ?_; (with_reducible refine (spec_l6Rd_pick.calls k1 g s0_0 t539 (x534000_1.length : Int) t540 t541 w0 _ ?side1 ?side2 A10.out).mono ?_); (case side1 => exact y15 HI0.out NB0_533.out NB0_534.out); (case side2 => exact y12 HB.out HI0.out GE533.out GE534.out); rintro e w20 ⟨rfl, hi, hb, hk⟩; refine ⟨_, rfl, ?_⟩; replace HO_6 := Aside0.mk (Kd.R_mono (Kd.R_keep (IsS95.apart (show IsS95 w0 _ g s0_0 t539 from by repeat (first | (with_reducible first | exact HI0.out | apply IsS95.alloc | apply IsS95.drewN | apply IsS95.drew | apply IsS95.set_1 | refine IsS95.far ?_ NB0_533.out _ | refine IsS95.far ?_ NB0_534.out _) | exact HI0.out)) (y9 HO_6.out) (by decide)) hk (fun _ h => h.2)) (fun _ h => h.1)); replace HO_534000 := Aside0.mk (Kd.V_mono (Kd.V_keep (Kd.V_mono (ok := fun k_ => (((P1_0_ k_ ∨ w.heap.size ≤ k_)) ∧ (some k_ ≠ (u6 : Value).ownBlock ∧ (k_ ≠ gb533 ∧ (k_ ≠ gb534 ∧ k_ ≠ g))))) (y10 HO_534000.out) (fun k_ hk_ => (⟨hk_, hk_.2.2.2.2⟩ : _ ∧ k_ ≠ g))) hk (fun _ h => h.2)) (fun _ h => h.1)); replace BK533 := Aside0.mk (KeepBut.blk hk (g' := gb533) (o := .cells #[.slice Ao17 x534000_1.length co17] 30 (0, 0)) (y4 BK533.out) NB533_0.out (by simp)); replace BK534 := Aside0.mk (KeepBut.blk hk (g' := gb534) (o := .cells #[.slice none 0 0] 30 (0, 0)) (y4 BK534.out) NB534_0.out (by simp)); replace HK := Aside0.mk (KeepBut.trans (y11 HK.out GW533.out GW534.out) hk (.inl rfl)); replace HB := Aside0.mk (hb); replace HI0 := Aside0.mk (hi); (try clear hb); (try clear hb2); (try clear hk); (try clear hi)) | ((with_reducible refine gate_builtin (b := .append) (xs := #[.tmp 23, .tmp 25]) rfl ?_); at_builtin; refine Kd.R_append (Kd.int .i64) w.heap.size rfl (.tmp 23) (.tmp 25) 38 3 (.int .i64 0) 8 rfl Try.underlying38 info3 rfl (by decide) (by omega) u6 x6_1 t540 [.int .i64 t540] (fun k_ => (w.heap.size ≤ k_)) (fun _ => False) rfl rfl ?aP (fun _ hk => hk.elim) ?aF ?aO (Below.refl _ _) ?aS ?aL ?_; (case aP => exact rfl); (case aF => exact (fun k_ hk => (Nat.le_trans (keep_size (w := w) (g := g) (row := none) (y11 HK.out GW533.out GW534.out)) hk))); (case aO => exact y48 HO_6.out); (case aS => exact (keep_size (w := w) (g := g) (row := none) (y11 HK.out GW533.out GW534.out))); (case aL => exact y37 LMc11.out); intro v543 w21 ho hb hg hat; rw [← Ny542.out] at ho; have n0_ := Aside0.mk (Kd.V_afterv (ok := (fun k_ => (P1_0_ k_ ∨ w.heap.size ≤ k_) ∧ k_ ≠ gb533 ∧ k_ ≠ gb534 ∧ k_ ≠ g)) (by (with_reducible repeat (first | apply Kd.V_alloc | apply Kd.V_drewN | apply Kd.V_drew)); exact Kd.V_mono HO_534000.out (fun _ hk => ⟨⟨hk.1, ⟨hk.2.2.1, ⟨hk.2.2.2.1, hk.2.2.2.2⟩⟩⟩, hk.2.1⟩)) hg hat); have n1_ := Aside0.mk (blk_grown (g := gb533) (o := .cells #[.slice Ao17 x534000_1.length co17] 30 (0, 0)) (y4 BK533.out) hg (Kd.R_ne HO_6.out BK533.out (by decide))); have n2_ := Aside0.mk (blk_grown (g := gb534) (o := .cells #[.slice none 0 0] 30 (0, 0)) (y4 BK534.out) hg (Kd.R_ne HO_6.out BK534.out (by decide))); have n3_ := Aside0.mk (IsS95.grown (y15 HI0.out NB0_533.out NB0_534.out) hg (IsS95.own_ne HI0.out HO_6.out (by decide))); have n4_ := Aside0.mk (below_weaken (y12 HB.out HI0.out GE533.out GE534.out) HL.out hb); have n5_ := Aside0.mk (KeepBut.trans (y11 HK.out GW533.out GW534.out) (KeepBut.of_grown hg g) (Kd.R_base2 HO_6.out)); have n6_ := Aside0.mk (ho); clear HO_534000; clear BK533; clear BK534; clear HI0; clear HB; clear HK; clear HO_6; have HO_534000 := n0_; have BK533 := n1_; have BK534 := n2_; have HI0 := n3_; have HB := n4_; have HK := n5_; have HO544 := n6_; clear n0_ n1_ n2_ n3_ n4_ n5_ n6_; clear ho hb hg hat; have hcz22_0 : w21.cell? ⟨gb533, 0, none⟩ = some (.slice Ao17 x534000_1.length co17) := (blk_cell BK533.out 0).trans rfl; have hfz22_0 := blk_frozen BK533.out 0; have p545 : 0 ≤ (t540 : Int) := of_decide_eq_true (by first | (with_reducible assumption) | assumption); have q545 : t540 < (x534000_1.length : Int) := of_decide_eq_true (by first | (with_reducible assumption) | assumption); obtain ⟨ad545, A545_0, c545_0, e545, hx545_0, hl545_0, hi545_0⟩ := at_T30 (Kd.V_reads' HO_534000.out).2.2 t540 p545 q545; cases e545; obtain ⟨ce545, hce545, hMe545, hcc545⟩ := Kd.V_get HO_534000.out z30 t540 p545 (by first | exact q545 | exact of_decide_eq_true (by first | (with_reducible assumption) | assumption) | (have e_ := (Kd.V_reads' HO_534000.out).1; omega)); obtain ⟨ua545_0, uc545_0, rfl, ul545_0, ge545_0⟩ := k30_openF hMe545; have hv545_0 := hcc545 0 _ rfl; rw [Nat.add_zero, show (k30).sz = 1 from rfl, Nat.mul_one] at hv545_0; replace hv545_0 := Option.some.inj (hv545_0.symm.trans hx545_0); injection hv545_0 with hva_ hvn_ hvc_; rw [hva_] at ge545_0; rw [hvc_] at ul545_0; have HL545_0 := Aside0.mk (show Kd.V k30 30 _ w.heap.size _ _ ((rd_T30 x534000_1 t540).f0) from Kd.V_mk ul545_0 ge545_0); clear hva_ hvn_ hvc_ ge545_0 ul545_0; clear hcc545 hce545; have HR545_0 := Aside0.mk hi545_0; have HC545_0 := Aside0.mk hl545_0; clear hi545_0 hl545_0; replace p545 := eq_true p545; replace q545 := eq_true q545))
        go_roundg k1
        case measure => have := HK1.out; omega
        case rel => exact ⟨(y542), (t541), ((rd_T30 x534000_1 t540).f0), (.slice A545_0 ((rd_T30 x534000_1 t540).f0).length c545_0), H', ⟨by have := HK1.out; omega⟩, ⟨by (with_reducible repeat (first | apply Kd.R_alloc | apply Kd.R_drewN | apply Kd.R_drew)); exact Kd.R_mono (Kd.R_far (p := ⟨gb533, 0, none⟩) (Kd.R_types HO544.out BK533.out (by decide)) (fun _ hk => hk.2) (.slice A545_0 ((rd_T30 x534000_1 t540).f0).length c545_0)) (fun _ hk => hk.1)⟩, ⟨by (with_reducible repeat (first | apply Kd.V_alloc | apply Kd.V_drewN | apply Kd.V_drew)); exact Kd.V_mono (Kd.V_far (p := ⟨gb533, 0, none⟩) (Kd.V_mono HL545_0.out (fun k_ hk => (⟨hk, hk.1.2.1⟩ : _ ∧ k_ ≠ gb533))) (fun _ hk => hk.2) (.slice A545_0 ((rd_T30 x534000_1 t540).f0).length c545_0)) (fun _ hk => ⟨hk.1.1.1, ⟨hk.1.2, ⟨hk.1.1.2.1, ⟨hk.1.1.2.2.1, hk.1.1.2.2.2⟩⟩⟩⟩)⟩, ⟨by (with_reducible repeat (first | refine blk_drewN ?_ _ | refine blk_drew ?_ | refine blk_alloc ?_ _)); refine blk_put (cs := #[.slice (some ad545) x534000_1.length co17]) ?_ 0 _ rfl; (with_reducible repeat (first | refine blk_drewN ?_ _ | refine blk_drew ?_ | refine blk_alloc ?_ _)); exact BK533.out⟩, ⟨by (with_reducible repeat (first | refine blk_drewN ?_ _ | refine blk_drew ?_ | refine blk_alloc ?_ _)); refine blk_far ?_ NB534_533.out _; (with_reducible repeat (first | refine blk_drewN ?_ _ | refine blk_drew ?_ | refine blk_alloc ?_ _)); exact BK534.out⟩, ⟨by repeat (first | (with_reducible first | exact HI0.out | apply IsS95.alloc | apply IsS95.drewN | apply IsS95.drew | apply IsS95.set_1 | refine IsS95.far ?_ NB0_533.out _ | refine IsS95.far ?_ NB0_534.out _) | exact HI0.out)⟩, ⟨by repeat (first | (with_reducible first | exact HK.out | apply KeepBut.set_ | apply keep_drewN | apply keep_drew | apply keep_alloc | refine keep_far ?_ GW533.out _ | refine keep_far ?_ GW534.out _) | exact HK.out)⟩, ⟨by repeat (first | (with_reducible first | exact HB.out | apply below_alloc | apply pw_below_drewN | apply below_drew1 | refine below_set ?_ (IsS95.ge HI0.out) | refine below_set ?_ GE533.out | refine below_set ?_ GE534.out) | exact HB.out)⟩⟩
       ·rw [if_neg c13] at H
        exact absurd H (by simp)
      ·rw [if_neg c12] at H
       exact absurd H (by simp)
     ·rw [if_neg c11] at H
      exact absurd H (by simp)
    ·rw [if_neg c9] at H
     have c9b0 : decide (0 < t538) = false := decide_eq_false c9
     clear c9
     simp only [Option.some.injEq, Prod.mk.injEq] at H
     obtain ⟨rfl, rfl, rfl⟩ := H
     have hnb23 := NB533_534.out
     have hnc23 := NB534_533.out
     have hnb24 := NB533_0.out
     have hnc24 := NB0_533.out
     have hcz25_0 : wr.cell? ⟨gb533, 0, none⟩ = some (u534000) := (blk_cell BK533.out 0).trans rfl
     have hfz25_0 := blk_frozen BK533.out 0
     obtain ⟨Ao26, co26, eo26⟩ := Kd.V_slice HO_534000.out
     subst eo26
     try go_wp2_with (first | (go_at_call 58; (with_reducible refine (spec_l6Rd_pick.calls k1 g s0_0 x1001_1 3 t538 t539 w0 _ ?side1 ?side2 A8.out).mono ?_); (case side1 => exact y15 HI0.out NB0_533.out NB0_534.out); (case side2 => exact y12 HB.out HI0.out GE533.out GE534.out); rintro e w27 ⟨rfl, hi, hb, hk⟩; replace HO_6 := Aside0.mk (Kd.R_mono (Kd.R_keep (IsS95.apart (show IsS95 w0 _ g s0_0 x1001_1 from by repeat (first | (with_reducible first | exact HI0.out | apply IsS95.alloc | apply IsS95.drewN | apply IsS95.drew | apply IsS95.set_1 | refine IsS95.far ?_ NB0_533.out _ | refine IsS95.far ?_ NB0_534.out _) | exact HI0.out)) (y9 HO_6.out) (by decide)) hk (fun _ h => h.2)) (fun _ h => h.1)); replace HO_534000 := Aside0.mk (Kd.V_mono (Kd.V_keep (Kd.V_mono (ok := fun k_ => (((P1_0_ k_ ∨ w.heap.size ≤ k_)) ∧ (some k_ ≠ (u6 : Value).ownBlock ∧ (k_ ≠ gb533 ∧ (k_ ≠ gb534 ∧ k_ ≠ g))))) (y10 HO_534000.out) (fun k_ hk_ => (⟨hk_, hk_.2.2.2.2⟩ : _ ∧ k_ ≠ g))) hk (fun _ h => h.2)) (fun _ h => h.1)); replace BK533 := Aside0.mk (KeepBut.blk hk (g' := gb533) (o := .cells #[.slice Ao26 x534000_1.length co26] 30 (0, 0)) (y4 BK533.out) NB533_0.out (by simp)); replace BK534 := Aside0.mk (KeepBut.blk hk (g' := gb534) (o := .cells #[.slice none 0 0] 30 (0, 0)) (y4 BK534.out) NB534_0.out (by simp)); replace HK := Aside0.mk (KeepBut.trans (y11 HK.out GW533.out GW534.out) hk (.inl rfl)); replace HB := Aside0.mk (hb); replace HI0 := Aside0.mk (hi); (try clear hb); (try clear hb2); (try clear hk); (try clear hi)))
     replace HO_6 := Aside0.mk (Kd.R_drew HO_6.out)
     replace HO_534000 := Aside0.mk (Kd.V_drew HO_534000.out)
     replace BK533 := Aside0.mk (blk_drew BK533.out)
     replace BK534 := Aside0.mk (blk_drew BK534.out)
     replace HI0 := Aside0.mk (IsS95.drew HI0.out)
     replace HK := Aside0.mk (keep_drew HK.out)
     replace HB := Aside0.mk (below_drew1 HB.out)
     refine start_ (n := 4) (S := fun w' => w'.cell? ⟨gb533, 0, none⟩ = some (.slice Ao26 x534000_1.length co26)) (ds := []) #[false, false, false, false] (by kernel_rfl) rfl rfl ((blk_cell BK533.out 0).trans rfl) (fun hHeld => ?_)
     generalize w27.drew = w28 at HO_6 HO_534000 BK533 BK534 HI0 HK HB hHeld ⊢
     refine pure_ (i := 0) (N := some 32) (v := ?_) (a' := ?_) #[true, false, false, false] rfl rfl (by kernel_rfl) (fun _ _ _ h => h) (Or.inl ⟨by rfl, ?_⟩) ?_ ?_
     rotate_left
     ·intro w'
      go_simp
      with_reducible rfl
     rotate_left
     ·simp only [Act.put, List.setIfInBounds_toArray, List.set_cons_zero, List.set_cons_succ, i64_w, i32_w]
      rfl
     refine pure_ (i := 2) (N := some 4) (v := ?_) (a' := ?_) #[true, false, true, false] rfl rfl (by kernel_rfl) (fun _ _ _ h => h) (Or.inl ⟨by rfl, ?_⟩) ?_ ?_
     rotate_left
     ·intro w'
      go_simp
      with_reducible rfl
     rotate_left
     ·simp only [Act.put, List.setIfInBounds_toArray, List.set_cons_zero, List.set_cons_succ, i64_w, i32_w]
      rfl
     refine take_ (i := 1) (N := some 33) (v := ?_) (a' := ?_) #[true, true, true, false] rfl rfl (by kernel_rfl) (fun _ _ _ h => h) (Or.inl ⟨by rfl, ?_⟩) hHeld ?_ ?_
     rotate_left
     ·intro w' s0
      go_simp
      with_reducible rfl
     rotate_left
     ·simp only [Act.put, List.setIfInBounds_toArray, List.set_cons_zero, List.set_cons_succ, i64_w, i32_w]
      rfl
     refine one_ (i := 3) (N := none) #[true, true, true, true] rfl rfl (by kernel_rfl) (by decide) (fun K hK => ?_)
     have hs29 : w28.cell? ⟨gb534, 0, none⟩ = some (.slice none 0 0) := (blk_cell BK534.out 0).trans rfl
     have hfs29 := blk_frozen BK534.out 0
     have hns29_0 := NB533_534.out
     have hms29_0 := NB534_533.out
     refine skip_ (w1 := ?_) (by rfl) rfl ?_ ?_
     rotate_left
     ·go_simp
      rfl
     refine hK.out _ _ (((cell_far (p := ⟨gb534, _, none⟩) NB533_534.out _).trans (hHeld))) (fun hHeld => ?_)
     clear hK K
     refine done_ (by kernel_rfl) ?_
     try go_wp2
     refine bodyPost_ret (results_tc rfl _ _ gb534 30 #[.slice Ao26 x534000_1.length co26] (0, 0) _ rfl (by (with_reducible repeat (first | refine blk_drewN ?_ _ | refine blk_drew ?_ | refine blk_alloc ?_ _)); refine blk_put (cs := #[.slice none 0 0]) ?_ 0 _ rfl; (with_reducible repeat (first | refine blk_drewN ?_ _ | refine blk_drew ?_ | refine blk_alloc ?_ _)); exact BK534.out) Try.underlying30 rfl (by kernel_rfl)) rfl ?_
     exact ⟨_, _, by first | rfl | (simp [errW_none, errW_some] <;> rfl) | (simp [*, errW_none, errW_some] <;> rfl), by (with_reducible repeat (first | apply Kd.R_alloc | apply Kd.R_drewN | apply Kd.R_drew)); exact Kd.R_mono (Kd.R_far (p := ⟨gb534, 0, none⟩) (Kd.R_types HO_6.out BK534.out (by decide)) (fun _ hk => hk.2) (.slice Ao26 x534000_1.length co26)) (fun _ hk => hk.1), by (with_reducible repeat (first | apply Kd.V_alloc | apply Kd.V_drewN | apply Kd.V_drew)); exact Kd.V_mono (Kd.V_far (p := ⟨gb534, 0, none⟩) (Kd.V_mono HO_534000.out (fun k_ hk => (⟨hk, hk.2.2.2.1⟩ : _ ∧ k_ ≠ gb534))) (fun _ hk => hk.2) (.slice Ao26 x534000_1.length co26)) (fun _ hk => ⟨hk.1.1, hk.1.2.1⟩), by repeat (first | (with_reducible first | exact HI0.out | apply IsS95.alloc | apply IsS95.drewN | apply IsS95.drew | apply IsS95.set_1 | refine IsS95.far ?_ NB0_533.out _ | refine IsS95.far ?_ NB0_534.out _) | exact HI0.out), by repeat (first | (with_reducible first | exact HB.out | apply below_alloc | apply pw_below_drewN | apply below_drew1 | refine below_set ?_ (IsS95.ge HI0.out) | refine below_set ?_ GE533.out | refine below_set ?_ GE534.out) | exact HB.out), by repeat (first | (with_reducible first | exact HK.out | apply KeepBut.set_ | apply keep_drewN | apply keep_drew | apply keep_alloc | refine keep_far ?_ GW533.out _ | refine keep_far ?_ GW534.out _) | exact HK.out)⟩
   ·rw [if_neg c7] at H
    have c7b0 : decide (0 < (x534000_1.length : Int)) = false := decide_eq_false c7
    have c7b1 : decide (0 < x534000_1.length) = false := decide_eq_false (by omega)
    clear c7
    simp only [Option.some.injEq, Prod.mk.injEq] at H
    obtain ⟨rfl, rfl, rfl⟩ := H
    have hnb30 := NB533_534.out
    have hnc30 := NB534_533.out
    have hnb31 := NB533_0.out
    have hnc31 := NB0_533.out
    have hcz32_0 : wr.cell? ⟨gb533, 0, none⟩ = some (u534000) := (blk_cell BK533.out 0).trans rfl
    have hfz32_0 := blk_frozen BK533.out 0
    obtain ⟨Ao33, co33, eo33⟩ := Kd.V_slice HO_534000.out
    subst eo33
    try go_wp2
    replace HO_6 := Aside0.mk (Kd.R_drew HO_6.out)
    replace HO_534000 := Aside0.mk (Kd.V_drew HO_534000.out)
    replace BK533 := Aside0.mk (blk_drew BK533.out)
    replace BK534 := Aside0.mk (blk_drew BK534.out)
    replace HI0 := Aside0.mk (IsS95.drew HI0.out)
    replace HK := Aside0.mk (keep_drew HK.out)
    replace HB := Aside0.mk (below_drew1 HB.out)
    refine start_ (n := 4) (S := fun w' => w'.cell? ⟨gb533, 0, none⟩ = some (.slice Ao33 x534000_1.length co33)) (ds := []) #[false, false, false, false] (by kernel_rfl) rfl rfl ((blk_cell BK533.out 0).trans rfl) (fun hHeld => ?_)
    generalize wr.drew = w34 at HO_6 HO_534000 BK533 BK534 HI0 HK HB hHeld ⊢
    refine pure_ (i := 0) (N := some 32) (v := ?_) (a' := ?_) #[true, false, false, false] rfl rfl (by kernel_rfl) (fun _ _ _ h => h) (Or.inl ⟨by rfl, ?_⟩) ?_ ?_
    rotate_left
    ·intro w'
     go_simp
     with_reducible rfl
    rotate_left
    ·simp only [Act.put, List.setIfInBounds_toArray, List.set_cons_zero, List.set_cons_succ, i64_w, i32_w]
     rfl
    refine pure_ (i := 2) (N := some 4) (v := ?_) (a' := ?_) #[true, false, true, false] rfl rfl (by kernel_rfl) (fun _ _ _ h => h) (Or.inl ⟨by rfl, ?_⟩) ?_ ?_
    rotate_left
    ·intro w'
     go_simp
     with_reducible rfl
    rotate_left
    ·simp only [Act.put, List.setIfInBounds_toArray, List.set_cons_zero, List.set_cons_succ, i64_w, i32_w]
     rfl
    refine take_ (i := 1) (N := some 33) (v := ?_) (a' := ?_) #[true, true, true, false] rfl rfl (by kernel_rfl) (fun _ _ _ h => h) (Or.inl ⟨by rfl, ?_⟩) hHeld ?_ ?_
    rotate_left
    ·intro w' s0
     go_simp
     with_reducible rfl
    rotate_left
    ·simp only [Act.put, List.setIfInBounds_toArray, List.set_cons_zero, List.set_cons_succ, i64_w, i32_w]
     rfl
    refine one_ (i := 3) (N := none) #[true, true, true, true] rfl rfl (by kernel_rfl) (by decide) (fun K hK => ?_)
    have hs35 : w34.cell? ⟨gb534, 0, none⟩ = some (.slice none 0 0) := (blk_cell BK534.out 0).trans rfl
    have hfs35 := blk_frozen BK534.out 0
    have hns35_0 := NB533_534.out
    have hms35_0 := NB534_533.out
    refine skip_ (w1 := ?_) (by rfl) rfl ?_ ?_
    rotate_left
    ·go_simp
     rfl
    refine hK.out _ _ (((cell_far (p := ⟨gb534, _, none⟩) NB533_534.out _).trans (hHeld))) (fun hHeld => ?_)
    clear hK K
    refine done_ (by kernel_rfl) ?_
    try go_wp2
    refine bodyPost_ret (results_tc rfl _ _ gb534 30 #[.slice Ao33 x534000_1.length co33] (0, 0) _ rfl (by (with_reducible repeat (first | refine blk_drewN ?_ _ | refine blk_drew ?_ | refine blk_alloc ?_ _)); refine blk_put (cs := #[.slice none 0 0]) ?_ 0 _ rfl; (with_reducible repeat (first | refine blk_drewN ?_ _ | refine blk_drew ?_ | refine blk_alloc ?_ _)); exact BK534.out) Try.underlying30 rfl (by kernel_rfl)) rfl ?_
    exact ⟨_, _, by first | rfl | (simp [errW_none, errW_some] <;> rfl) | (simp [*, errW_none, errW_some] <;> rfl), by (with_reducible repeat (first | apply Kd.R_alloc | apply Kd.R_drewN | apply Kd.R_drew)); exact Kd.R_mono (Kd.R_far (p := ⟨gb534, 0, none⟩) (Kd.R_types HO_6.out BK534.out (by decide)) (fun _ hk => hk.2) (.slice Ao33 x534000_1.length co33)) (fun _ hk => hk.1), by (with_reducible repeat (first | apply Kd.V_alloc | apply Kd.V_drewN | apply Kd.V_drew)); exact Kd.V_mono (Kd.V_far (p := ⟨gb534, 0, none⟩) (Kd.V_mono HO_534000.out (fun k_ hk => (⟨hk, hk.2.2.2.1⟩ : _ ∧ k_ ≠ gb534))) (fun _ hk => hk.2) (.slice Ao33 x534000_1.length co33)) (fun _ hk => ⟨hk.1.1, hk.1.2.1⟩), by repeat (first | (with_reducible first | exact HI0.out | apply IsS95.alloc | apply IsS95.drewN | apply IsS95.drew | apply IsS95.set_1 | refine IsS95.far ?_ NB0_533.out _ | refine IsS95.far ?_ NB0_534.out _) | exact HI0.out), by repeat (first | (with_reducible first | exact HB.out | apply below_alloc | apply pw_below_drewN | apply below_drew1 | refine below_set ?_ (IsS95.ge HI0.out) | refine below_set ?_ GE533.out | refine below_set ?_ GE534.out) | exact HB.out), by repeat (first | (with_reducible first | exact HK.out | apply KeepBut.set_ | apply keep_drewN | apply keep_drew | apply keep_alloc | refine keep_far ?_ GW533.out _ | refine keep_far ?_ GW534.out _) | exact HK.out)⟩

end Go.Proofs.Ytjhbhihfifhljaa.PA
