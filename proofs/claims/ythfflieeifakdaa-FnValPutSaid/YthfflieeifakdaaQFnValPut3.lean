-- Ythfflieeifakdaa's texts for the statement FnValPut, one behind the other (merge.py).
import Derived.Test.YthfflieeifakdaaQFnValPut0
import Derived.Test.YthfflieeifakdaaQFnValPut2
section
namespace Go.Proofs.Ythfflieeifakdaa.PA
open Go.RowKit Go.Proofs.YthfflieeifakdaaW.PrintWords Go.Proofs.YthfflieeifakdaaW.PrintLast Go.Proofs.YthfflieeifakdaaW.PrintMore
attribute [local go_sem] max2_int min2_int max_two min_two max_three min_three max_four min_four
set_option linter.unusedVariables false
set_option linter.unusedSimpArgs false
def spec_l71Path.l0 : Nat → List Int → List Int → Int → List (S50) → Option (List Int × (List (S50)) × Int)
 | 0, _, _, _, _ => none
 | k + 1, x6, x1000, x1001, x169000 => if (x169000.length : Int) > 0 then ((spec_l6Rd_pick.f k x1000 x1001 3).bind fun bt173 => (if bt173.1 > 0 then ((spec_l6Rd_pick.f k x1000 bt173.2 (x169000.length : Int)).bind fun bt175 => (if x6.length < 17592186044416 then (if 0 ≤ bt175.1 then (if bt175.1 < (x169000.length : Int) then (spec_l71Path.l0 k (x6 ++ [bt175.1]) x1000 bt175.2 ((rd_T50 x169000 bt175.1).f0)) else (none)) else (none)) else (none))) else (some (x6, x169000, bt173.2)))) else (some (x6, x169000, x1001))
def spec_l71Path.f (k : Nat) (s0_0 : List Int) (s0_1 : Int) (l1_0 : List (S50)) : Option (List Int × (List (S50)) × Int) := spec_l71Path.l0 k (([] : List Int)) s0_0 s0_1 l1_0
theorem spec_l71Path.mono_l : ∀ k, (∀ y0 y1 y2 y3, LeO (spec_l71Path.l0 k y0 y1 y2 y3) (spec_l71Path.l0 (k + 1) y0 y1 y2 y3))
 | 0 => fun _ _ _ _ r h => by simp [spec_l71Path.l0] at h
 | k + 1 => by
  have ih0 := spec_l71Path.mono_l k
  ·intro y0 y1 y2 y3
   unfold spec_l71Path.l0
   repeat' first
   | (with_reducible exact ih0 _ _ _ _)
   | (with_reducible exact spec_l6Rd_pick.mono _ _ _ _)
   | (with_reducible exact LeO.refl _)
   | (with_reducible exact LeO.none _)
   | (with_reducible refine LeO.ite ?_ ?_)
   | (with_reducible refine LeO.bind ?_ (fun _ => ?_))
   | exact ih0 _ _ _ _
   | exact spec_l6Rd_pick.mono _ _ _ _
   | exact LeO.none _
   | refine LeO.ite ?_ ?_
   | refine LeO.bind ?_ (fun _ => ?_)
theorem spec_l71Path.mono : ∀ a0 a1 a2 k, LeO (spec_l71Path.f k a0 a1 a2) (spec_l71Path.f (k + 1) a0 a1 a2) := by
 intro a0 a1 a2 k
 have ih0 := spec_l71Path.mono_l k
 unfold spec_l71Path.f
 repeat' first
   | (with_reducible exact ih0 _ _ _ _)
   | (with_reducible exact spec_l6Rd_pick.mono _ _ _ _)
   | (with_reducible exact LeO.refl _)
   | (with_reducible exact LeO.none _)
   | (with_reducible refine LeO.ite ?_ ?_)
   | (with_reducible refine LeO.bind ?_ (fun _ => ?_))
   | exact ih0 _ _ _ _
   | exact spec_l6Rd_pick.mono _ _ _ _
   | exact LeO.none _
   | refine LeO.ite ?_ ?_
   | refine LeO.bind ?_ (fun _ => ?_)
set_option maxHeartbeats 8000000 in
set_option maxRecDepth 100000 in
theorem spec_l71Path.calls (k : Nat) (g : Nat) (s0_0 : List Int) (s0_1 : Int) (P1_0_ : Nat → Prop) (A1_0 : Option Addr) (c1_0 : Nat) (l1_0 : List (S50)) (r1 : List Int) (r2 : List (S50)) (r3 : Int) (w0 w : World) (hI : IsS75 w0 w g s0_0 s0_1) (hB : Below w0.heap.size w0 w) (hs1_0 : Kd.V k50 50 w w.heap.size (fun k_ => P1_0_ k_ ∧ k_ ≠ g) (.slice A1_0 l1_0.length c1_0) l1_0) (h : spec_l71Path.f k s0_0 s0_1 l1_0 = some (r1, r2, r3)) :
  Calls Try.prog 56 #[.pointer (some ⟨g, 0, none⟩), .agg #[.slice A1_0 l1_0.length c1_0]] w fun e w' => ∃ v0_ v1_ : Value, e = .returned (.tuple #[v0_, .agg #[v1_]]) ∧ Kd.R (Kd.int .i64) 3 w' w.heap.size (fun k_ => (w.heap.size ≤ k_)) v0_ r1 ∧ Kd.V k50 50 w' w.heap.size (fun k_ => (P1_0_ k_ ∨ w.heap.size ≤ k_) ∧ some k_ ≠ (v0_ : Value).ownBlock) v1_ r2 ∧ IsS75 w0 w' g s0_0 r3 ∧ Below w0.heap.size w0 w' ∧ KeepBut w w' g none := by
 have hu50 := Try.underlying50
 have HO1_0 := Aside0.mk (show Kd.V k50 50 w w.heap.size (fun k_ => (P1_0_ k_ ∨ w.heap.size ≤ k_) ∧ k_ ≠ g) (.slice A1_0 l1_0.length c1_0) l1_0 from Kd.V_mono hs1_0 (fun k_ hk => ⟨.inl hk.1, hk.2⟩))
 have HI0 := Aside0.mk hI
 have HK := Aside0.mk (KeepBut.refl w g none)
 have HL := Aside0.mk hB.size
 clear hI
 have HW0 := Aside0.mk hB.size
 have HB := Aside0.mk hB
 clear hB
 have H : (spec_l71Path.l0 k (([] : List Int)) s0_0 s0_1 l1_0) = some (r1, r2, r3) := h
 clear h
 obtain ⟨y170, hy170⟩ : ∃ y_ : List Int, y_ = (([] : List Int)) := ⟨_, rfl⟩
 replace H : (spec_l71Path.l0 k y170 s0_0 s0_1 l1_0) = some (r1, r2, r3) := by first | (rw [hy170]; with_reducible exact H) | (have H2_ := (Option.bind_some _ _).symm.trans H; rw [hy170]; with_reducible exact H2_) | (have H2_ := (Option.bind_some _ _).symm.trans H; with_reducible exact H2_) | with_reducible exact H | (rw [hy170]; exact H) | exact H
 have Ny170 := Aside0.mk hy170
 clear hy170
 have H' := Aside0.mk H
 clear H
 go_enter Try.func56, Try.ntmps56
 go_wp2_with (first | ((with_reducible refine gate_dst (N := 3) rfl ?_); refine zbx 3 #[.slice A1_0 l1_0.length c1_0] 50 ?_; intro gb168 hg w3 hbox hb; replace HO1_0 := Aside0.mk (Kd.V_below (Kd.V_elderB (y10 HO1_0.out) gb168 (Nat.le_of_eq hg.symm)) hb); replace HB := Aside0.mk (below_step (y40 HB.out HI0.out) hb); have BK168 := Aside0.mk hbox; have GW168 := Aside0.mk ((by rw [hg]; exact (keep_size (w := w) (g := g) (row := none) (y29 HK.out)) : w.heap.size ≤ gb168)); have GE168 := Aside0.mk ((Nat.le_trans HW0.out (by rw [hg]; exact (keep_size (w := w) (g := g) (row := none) (y29 HK.out)) : w.heap.size ≤ gb168) : w0.heap.size ≤ gb168)); replace HK := Aside0.mk (KeepBut.trans (y29 HK.out) (KeepBut.of_below hb g none) (.inl rfl)); have NB0_168 := Aside0.mk ((by rw [hg]; exact Nat.ne_of_lt (IsS75.lt (show IsS75 w0 _ g s0_0 s0_1 from by repeat (first | (with_reducible first | exact HI0.out | apply IsS75.alloc | apply IsS75.drewN | apply IsS75.drew | apply IsS75.set_1) | exact HI0.out))) : g ≠ gb168)); have NB168_0 := Aside0.mk ((by rw [hg]; exact Nat.ne_of_gt (IsS75.lt (show IsS75 w0 _ g s0_0 s0_1 from by repeat (first | (with_reducible first | exact HI0.out | apply IsS75.alloc | apply IsS75.drewN | apply IsS75.drew | apply IsS75.set_1) | exact HI0.out))) : gb168 ≠ g)); replace HI0 := Aside0.mk (IsS75.below (y41 HI0.out) hb); clear hb hbox hg) | ((with_reducible refine gate_dst (N := 5) rfl ?_); refine zbx 5 #[.slice none 0 0] 50 ?_; intro gb169 hg w4 hbox hb; replace HO1_0 := Aside0.mk (Kd.V_below (Kd.V_elderB (y10 HO1_0.out) gb169 (Nat.le_of_eq hg.symm)) hb); replace HB := Aside0.mk (below_step (y30 HB.out HI0.out GE168.out) hb); have BK169 := Aside0.mk hbox; have GW169 := Aside0.mk ((by rw [hg]; exact (keep_size (w := w) (g := g) (row := none) (y25 HK.out GW168.out)) : w.heap.size ≤ gb169)); have GE169 := Aside0.mk ((Nat.le_trans HW0.out (by rw [hg]; exact (keep_size (w := w) (g := g) (row := none) (y25 HK.out GW168.out)) : w.heap.size ≤ gb169) : w0.heap.size ≤ gb169)); replace HK := Aside0.mk (KeepBut.trans (y25 HK.out GW168.out) (KeepBut.of_below hb g none) (.inl rfl)); have NB168_169 := zltn hg BK168; have NB169_168 := zgtn hg BK168; replace BK168 := zbb BK168 hb; have NB0_169 := Aside0.mk ((by rw [hg]; exact Nat.ne_of_lt (IsS75.lt (show IsS75 w0 _ g s0_0 s0_1 from by repeat (first | (with_reducible first | exact HI0.out | apply IsS75.alloc | apply IsS75.drewN | apply IsS75.drew | apply IsS75.set_1 | refine IsS75.far ?_ NB0_168.out _) | exact HI0.out))) : g ≠ gb169)); have NB169_0 := Aside0.mk ((by rw [hg]; exact Nat.ne_of_gt (IsS75.lt (show IsS75 w0 _ g s0_0 s0_1 from by repeat (first | (with_reducible first | exact HI0.out | apply IsS75.alloc | apply IsS75.drewN | apply IsS75.drew | apply IsS75.set_1 | refine IsS75.far ?_ NB0_168.out _) | exact HI0.out))) : gb169 ≠ g)); replace HI0 := Aside0.mk (IsS75.below (y31 HI0.out NB0_168.out) hb); clear hb hbox hg) | ((with_reducible refine gate_dst (N := 8) rfl ?_); refine Kd.R_lit (Kd.int .i64) _ 3 ?hg (N := 8) ?hd (xs := ([] : List Int)) (inner := []) (ok := fun _ => True) (okp := fun _ => True) ?hr ?hp (fun _ hk => hk) trivial (Below.refl _ _) (Nat.le_refl _) (by simp) ?_; (case hd => rfl); (case hg => rfl); (case hr => first | (go_simp; done) | (go_simp; rfl)); (case hp => exact (Reps.none _ _)); intro v171 w5 ho6 hb hg_ hnew_; clear hg_ hnew_; (first | rw [← Ny170.out] at ho6 | (simp only [Int.reduceToNat] at ho6; rw [← Ny170.out] at ho6)); replace HO1_0 := Aside0.mk (Kd.V_elder' (y10 HO1_0.out) (Kd.R_base ho6) hb); have HO172 := Aside0.mk (Kd.R_lower (Kd.R_newM (M := fun k_ => (w.heap.size ≤ k_)) ho6 (keep_size (w := w) (g := g) (row := none) (y18 HK.out GW168.out GW169.out)) (fun k_ h_ => h_)) (keep_size (w := w) (g := g) (row := none) (y18 HK.out GW168.out GW169.out))); replace BK168 := zbb BK168 hb; replace BK169 := zbb BK169 hb; replace HK := Aside0.mk (KeepBut.trans (y18 HK.out GW168.out GW169.out) (KeepBut.of_below hb g none) (.inl rfl)); replace HB := Aside0.mk (below_step (y17 HB.out HI0.out GE168.out GE169.out) hb); replace HI0 := Aside0.mk (IsS75.below (y21 HI0.out NB0_168.out NB0_169.out) hb); clear hb ho6))
 go_loopg [6] k (fun kq v6 w' => ∃ (x6_1 : List Int) (x1001_1 : Int) (x169000_1 : List (S50)) (u169000 : Value), Aside0 (spec_l71Path.l0 kq x6_1 s0_0 x1001_1 x169000_1 = some (r1, r2, r3)) ∧ Aside0 (kq ≤ k) ∧ Aside0 (Kd.R (Kd.int .i64) 3 w' w.heap.size (fun k_ => (w.heap.size ≤ k_)) v6 x6_1) ∧ Aside0 (Kd.V k50 50 w' w.heap.size (fun k_ => (P1_0_ k_ ∨ w.heap.size ≤ k_) ∧ some k_ ≠ (v6 : Value).ownBlock ∧ k_ ≠ gb168 ∧ k_ ≠ gb169 ∧ k_ ≠ g) u169000 x169000_1) ∧ Aside0 (w'.heap[gb168]? = some (.cells #[u169000] 50 (0, 0))) ∧ Aside0 (w'.heap[gb169]? = some (.cells #[(.slice none 0 0)] 50 (0, 0))) ∧ Aside0 (IsS75 w0 w' g s0_0 x1001_1) ∧ Aside0 (KeepBut w w' g none) ∧ Aside0 (Below w0.heap.size w0 w'))
 case atStart => exact ⟨(y170), (s0_1), (l1_0), (.slice A1_0 l1_0.length c1_0), H', ⟨Nat.le_refl _⟩, ⟨(y71 HO172.out)⟩, ⟨(by (with_reducible repeat (first | apply Kd.V_alloc | apply Kd.V_drewN | apply Kd.V_drew)); exact Kd.V_mono HO1_0.out (fun _ hk => ⟨hk.1.1.1.1, ⟨hk.2, ⟨hk.1.1.2, ⟨hk.1.2, hk.1.1.1.2⟩⟩⟩⟩))⟩, ⟨(y0 BK168.out)⟩, ⟨(y0 BK169.out)⟩, ⟨(y21 HI0.out NB0_168.out NB0_169.out)⟩, ⟨(y18 HK.out GW168.out GW169.out)⟩, ⟨(y17 HB.out HI0.out GE168.out GE169.out)⟩⟩
 case round =>
  clear H'
  try clear c1
  try clear p2
  try clear c5
  (try clear BK168); (try clear BK169)
  obtain ⟨x6_1, x1001_1, x169000_1, u169000, HA, HK1, HO_6, HO_169000, BK168, BK169, HI0, HK, HB⟩ := hrel
  cases gk with
  | zero => exact absurd HA.out (by simp [spec_l71Path.l0])
  | succ k1 =>
   have H := HA.out
   clear HA
   simp only [spec_l71Path.l0] at H
   by_cases c7 : (x169000_1.length : Int) > 0
   ·rw [if_pos c7] at H
    have c7b0 : decide (0 < (x169000_1.length : Int)) = true := decide_eq_true c7
    have c7b1 : decide (0 < x169000_1.length) = true := decide_eq_true (by omega)
    clear c7
    obtain ⟨⟨t173, t174⟩, A80, H⟩ := ob H
    have A8 := Aside0.mk A80
    clear A80
    by_cases c9 : t173 > 0
    ·rw [if_pos c9] at H
     have c9b0 : decide (0 < t173) = true := decide_eq_true c9
     clear c9
     obtain ⟨⟨t175, t176⟩, A100, H⟩ := ob H
     have A10 := Aside0.mk A100
     clear A100
     by_cases c11 : x6_1.length < 17592186044416
     ·rw [if_pos c11] at H
      have LMc11 := Aside0.mk c11
      clear c11
      obtain ⟨y177, hy177⟩ : ∃ y_ : List Int, y_ = (x6_1 ++ [t175]) := ⟨_, rfl⟩
      replace H : (if 0 ≤ t175 then (if t175 < (x169000_1.length : Int) then (spec_l71Path.l0 k1 y177 s0_0 t176 ((rd_T50 x169000_1 t175).f0)) else (none)) else (none)) = some (r1, r2, r3) := by first | (rw [hy177]; with_reducible exact H) | (have H2_ := (Option.bind_some _ _).symm.trans H; rw [hy177]; with_reducible exact H2_) | (have H2_ := (Option.bind_some _ _).symm.trans H; with_reducible exact H2_) | with_reducible exact H | (rw [hy177]; exact H) | exact H
      have Ny177 := Aside0.mk hy177
      clear hy177
      by_cases c12 : 0 ≤ t175
      ·rw [if_pos c12] at H
       have c12b0 : decide (0 ≤ t175) = true := decide_eq_true c12
       clear c12
       by_cases c13 : t175 < (x169000_1.length : Int)
       ·rw [if_pos c13] at H
        have c13b0 : decide (t175 < (x169000_1.length : Int)) = true := decide_eq_true c13
        clear c13
        have H' := Aside0.mk H
        clear H
        have hnb14 := NB168_169.out
        have hnc14 := NB169_168.out
        have hnb15 := NB168_0.out
        have hnc15 := NB0_168.out
        have hcz16_0 := zh BK168
        have hfz16_0 := zfr BK168 0
        obtain ⟨Ao17, co17, eo17⟩ := Kd.V_slice HO_169000.out
        subst eo17
        go_wp2_with (first | (go_at_call 32; (with_reducible refine (spec_l6Rd_pick.calls k1 g s0_0 x1001_1 3 t173 t174 w0 _ ?side1 ?side2 A8.out).mono ?_); (case side1 => exact y21 HI0.out NB0_168.out NB0_169.out); (case side2 => exact y17 HB.out HI0.out GE168.out GE169.out); rintro e w18 ⟨rfl, hi, hb, hk⟩; replace HO_6 := Aside0.mk (Kd.R_mono (Kd.R_keep (IsS75.apart (show IsS75 w0 _ g s0_0 x1001_1 from by repeat (first | (with_reducible first | exact HI0.out | apply IsS75.alloc | apply IsS75.drewN | apply IsS75.drew | apply IsS75.set_1 | refine IsS75.far ?_ NB0_168.out _ | refine IsS75.far ?_ NB0_169.out _) | exact HI0.out)) (y12 HO_6.out) (by decide)) hk (fun _ h => h.2)) (fun _ h => h.1)); replace HO_169000 := Aside0.mk (Kd.V_mono (Kd.V_keep (Kd.V_mono (ok := fun k_ => (((P1_0_ k_ ∨ w.heap.size ≤ k_)) ∧ (some k_ ≠ (u6 : Value).ownBlock ∧ (k_ ≠ gb168 ∧ (k_ ≠ gb169 ∧ k_ ≠ g))))) (y10 HO_169000.out) (fun k_ hk_ => (⟨hk_, hk_.2.2.2.2⟩ : _ ∧ k_ ≠ g))) hk (fun _ h => h.2)) (fun _ h => h.1)); replace BK168 := Aside0.mk (KeepBut.blk hk (g' := gb168) (o := .cells #[.slice Ao17 x169000_1.length co17] 50 (0, 0)) (y0 BK168.out) NB168_0.out (by simp)); replace BK169 := Aside0.mk (KeepBut.blk hk (g' := gb169) (o := .cells #[.slice none 0 0] 50 (0, 0)) (y0 BK169.out) NB169_0.out (by simp)); replace HK := Aside0.mk (KeepBut.trans (y18 HK.out GW168.out GW169.out) hk (.inl rfl)); replace HB := Aside0.mk (hb); replace HI0 := Aside0.mk (hi); (try clear hb); (try clear hb2); (try clear hk); (try clear hi); have hcz19_0 := zh BK168; have hfz19_0 := zfr BK168 0) | ((with_reducible refine gate_callee (f := 32) rfl ?_); refine goesL_ (some 22) rfl rfl Try.func32 (by kernel_rfl) rfl #[.pointer (some ⟨g, 0, none⟩), .int .i64 (x169000_1.length : Int)] rfl y8 ?_; (with_reducible refine (spec_l6Rd_pick.calls k1 g s0_0 t174 (x169000_1.length : Int) t175 t176 w0 _ ?side1 ?side2 A10.out).mono ?_); (case side1 => exact y21 HI0.out NB0_168.out NB0_169.out); (case side2 => exact y17 HB.out HI0.out GE168.out GE169.out); rintro e w20 ⟨rfl, hi, hb, hk⟩; refine ⟨_, rfl, ?_⟩; replace HO_6 := Aside0.mk (Kd.R_mono (Kd.R_keep (IsS75.apart (show IsS75 w0 _ g s0_0 t174 from by repeat (first | (with_reducible first | exact HI0.out | apply IsS75.alloc | apply IsS75.drewN | apply IsS75.drew | apply IsS75.set_1 | refine IsS75.far ?_ NB0_168.out _ | refine IsS75.far ?_ NB0_169.out _) | exact HI0.out)) (y12 HO_6.out) (by decide)) hk (fun _ h => h.2)) (fun _ h => h.1)); replace HO_169000 := Aside0.mk (Kd.V_mono (Kd.V_keep (Kd.V_mono (ok := fun k_ => (((P1_0_ k_ ∨ w.heap.size ≤ k_)) ∧ (some k_ ≠ (u6 : Value).ownBlock ∧ (k_ ≠ gb168 ∧ (k_ ≠ gb169 ∧ k_ ≠ g))))) (y10 HO_169000.out) (fun k_ hk_ => (⟨hk_, hk_.2.2.2.2⟩ : _ ∧ k_ ≠ g))) hk (fun _ h => h.2)) (fun _ h => h.1)); replace BK168 := Aside0.mk (KeepBut.blk hk (g' := gb168) (o := .cells #[.slice Ao17 x169000_1.length co17] 50 (0, 0)) (y0 BK168.out) NB168_0.out (by simp)); replace BK169 := Aside0.mk (KeepBut.blk hk (g' := gb169) (o := .cells #[.slice none 0 0] 50 (0, 0)) (y0 BK169.out) NB169_0.out (by simp)); replace HK := Aside0.mk (KeepBut.trans (y18 HK.out GW168.out GW169.out) hk (.inl rfl)); replace HB := Aside0.mk (hb); replace HI0 := Aside0.mk (hi); (try clear hb); (try clear hb2); (try clear hk); (try clear hi)) | ((with_reducible refine gate_builtin (b := .append) (xs := #[.tmp 23, .tmp 25]) rfl ?_); at_builtin; refine Kd.R_append (Kd.int .i64) w.heap.size rfl (.tmp 23) (.tmp 25) 26 3 (.int .i64 0) 8 rfl Try.underlying26 info3 rfl (by decide) (by omega) u6 x6_1 t175 [.int .i64 t175] (fun k_ => (w.heap.size ≤ k_)) (fun _ => False) rfl rfl ?aP (fun _ hk => hk.elim) ?aF ?aO (Below.refl _ _) ?aS ?aL ?_; (case aP => exact rfl); (case aF => exact (fun k_ hk => (Nat.le_trans (keep_size (w := w) (g := g) (row := none) (y18 HK.out GW168.out GW169.out)) hk))); (case aO => exact (y12 HO_6.out)); (case aS => exact (keep_size (w := w) (g := g) (row := none) (y18 HK.out GW168.out GW169.out))); (case aL => exact y57 LMc11.out); intro v178 w21 ho hb hg hat; rw [← Ny177.out] at ho; replace HO_169000 := Aside0.mk (Kd.V_afterv (ok := (fun k_ => (P1_0_ k_ ∨ w.heap.size ≤ k_) ∧ k_ ≠ gb168 ∧ k_ ≠ gb169 ∧ k_ ≠ g)) (by (with_reducible repeat (first | apply Kd.V_alloc | apply Kd.V_drewN | apply Kd.V_drew)); exact Kd.V_mono HO_169000.out (fun _ hk => ⟨⟨hk.1, ⟨hk.2.2.1, ⟨hk.2.2.2.1, hk.2.2.2.2⟩⟩⟩, hk.2.1⟩)) hg hat); replace BK168 := Aside0.mk (blk_grown (g := gb168) (o := .cells #[.slice Ao17 x169000_1.length co17] 50 (0, 0)) (y0 BK168.out) hg (Kd.R_ne HO_6.out BK168.out (by decide))); replace BK169 := Aside0.mk (blk_grown (g := gb169) (o := .cells #[.slice none 0 0] 50 (0, 0)) (y0 BK169.out) hg (Kd.R_ne HO_6.out BK169.out (by decide))); replace HB := Aside0.mk (below_weaken (y17 HB.out HI0.out GE168.out GE169.out) HL.out hb); replace HI0 := Aside0.mk (IsS75.grown (y21 HI0.out NB0_168.out NB0_169.out) hg (IsS75.own_ne HI0.out HO_6.out (by decide))); replace HK := Aside0.mk (KeepBut.trans (y18 HK.out GW168.out GW169.out) (KeepBut.of_grown hg g) (Kd.R_base2 HO_6.out)); have HO179 := Aside0.mk (ho); clear HO_6; clear ho hb hg hat; have hcz22_0 := zh BK168; have hfz22_0 := zfr BK168 0; have p180 : 0 ≤ (t175 : Int) := of_decide_eq_true y23; have q180 : t175 < (x169000_1.length : Int) := of_decide_eq_true y23; obtain ⟨ad180, A180_0, c180_0, e180, hx180_0, hl180_0, hi180_0⟩ := at_T50 (Kd.V_reads' HO_169000.out).2.2 t175 p180 q180; cases e180; obtain ⟨ce180, hce180, hMe180, hcc180⟩ := Kd.V_get HO_169000.out z50 t175 p180 (by first | exact q180 | exact of_decide_eq_true y23 | (have e_ := (Kd.V_reads' HO_169000.out).1; omega)); obtain ⟨ua180_0, uc180_0, rfl, ul180_0, ge180_0⟩ := k50_openF hMe180; have hv180_0 := hcc180 0 _ rfl; rw [Nat.add_zero, show (k50).sz = 1 from rfl, Nat.mul_one] at hv180_0; replace hv180_0 := Option.some.inj (hv180_0.symm.trans hx180_0); injection hv180_0 with hva_ hvn_ hvc_; rw [hva_] at ge180_0; rw [hvc_] at ul180_0; have HL180_0 := Aside0.mk (show Kd.V k50 50 _ w.heap.size _ _ ((rd_T50 x169000_1 t175).f0) from Kd.V_mk ul180_0 ge180_0); clear hva_ hvn_ hvc_ ge180_0 ul180_0; clear hcc180 hce180; have HR180_0 := Aside0.mk hi180_0; have HC180_0 := Aside0.mk hl180_0; clear hi180_0 hl180_0; replace p180 := eq_true p180; replace q180 := eq_true q180))
        go_roundg k1
        case measure => have := HK1.out; omega
        case rel => exact ⟨(y177), (t176), ((rd_T50 x169000_1 t175).f0), (.slice A180_0 ((rd_T50 x169000_1 t175).f0).length c180_0), H', ⟨(y57 HK1.out)⟩, ⟨(by (with_reducible repeat (first | apply Kd.R_alloc | apply Kd.R_drewN | apply Kd.R_drew)); exact Kd.R_mono (Kd.R_far (p := ⟨gb168, 0, none⟩) (Kd.R_types HO179.out BK168.out (by decide)) (fun _ hk => hk.2) (.slice A180_0 ((rd_T50 x169000_1 t175).f0).length c180_0)) (fun _ hk => hk.1))⟩, ⟨(by (with_reducible repeat (first | apply Kd.V_alloc | apply Kd.V_drewN | apply Kd.V_drew)); exact Kd.V_mono (Kd.V_far (p := ⟨gb168, 0, none⟩) (Kd.V_mono HL180_0.out (fun k_ hk => (⟨hk, hk.1.2.1⟩ : _ ∧ k_ ≠ gb168))) (fun _ hk => hk.2) (.slice A180_0 ((rd_T50 x169000_1 t175).f0).length c180_0)) (fun _ hk => ⟨hk.1.1.1, ⟨hk.1.2, ⟨hk.1.1.2.1, ⟨hk.1.1.2.2.1, hk.1.1.2.2.2⟩⟩⟩⟩))⟩, ⟨(by (with_reducible repeat (first | refine blk_drewN ?_ _ | refine blk_drew ?_ | refine blk_alloc ?_ _)); refine blk_put (cs := #[.slice (some ad180) x169000_1.length co17]) ?_ 0 _ rfl; (with_reducible repeat (first | refine blk_drewN ?_ _ | refine blk_drew ?_ | refine blk_alloc ?_ _)); exact BK168.out)⟩, ⟨(y13 NB169_168.out BK169.out)⟩, ⟨(y21 HI0.out NB0_168.out NB0_169.out)⟩, ⟨(y18 HK.out GW168.out GW169.out)⟩, ⟨(y17 HB.out HI0.out GE168.out GE169.out)⟩⟩
       ·rw [if_neg c13] at H
        exact absurd H (by simp)
      ·rw [if_neg c12] at H
       exact absurd H (by simp)
     ·rw [if_neg c11] at H
      exact absurd H (by simp)
    ·rw [if_neg c9] at H
     have c9b0 : decide (0 < t173) = false := decide_eq_false c9
     clear c9
     simp only [Option.some.injEq, Prod.mk.injEq] at H
     obtain ⟨rfl, rfl, rfl⟩ := H
     have hnb23 := NB168_169.out
     have hnc23 := NB169_168.out
     have hnb24 := NB168_0.out
     have hnc24 := NB0_168.out
     have hcz25_0 := zh BK168
     have hfz25_0 := zfr BK168 0
     obtain ⟨Ao26, co26, eo26⟩ := Kd.V_slice HO_169000.out
     subst eo26
     try go_wp2_with (first | (go_at_call 32; (with_reducible refine (spec_l6Rd_pick.calls k1 g s0_0 x1001_1 3 t173 t174 w0 _ ?side1 ?side2 A8.out).mono ?_); (case side1 => exact y21 HI0.out NB0_168.out NB0_169.out); (case side2 => exact y17 HB.out HI0.out GE168.out GE169.out); rintro e w27 ⟨rfl, hi, hb, hk⟩; replace HO_6 := Aside0.mk (Kd.R_mono (Kd.R_keep (IsS75.apart (show IsS75 w0 _ g s0_0 x1001_1 from by repeat (first | (with_reducible first | exact HI0.out | apply IsS75.alloc | apply IsS75.drewN | apply IsS75.drew | apply IsS75.set_1 | refine IsS75.far ?_ NB0_168.out _ | refine IsS75.far ?_ NB0_169.out _) | exact HI0.out)) (y12 HO_6.out) (by decide)) hk (fun _ h => h.2)) (fun _ h => h.1)); replace HO_169000 := Aside0.mk (Kd.V_mono (Kd.V_keep (Kd.V_mono (ok := fun k_ => (((P1_0_ k_ ∨ w.heap.size ≤ k_)) ∧ (some k_ ≠ (u6 : Value).ownBlock ∧ (k_ ≠ gb168 ∧ (k_ ≠ gb169 ∧ k_ ≠ g))))) (y10 HO_169000.out) (fun k_ hk_ => (⟨hk_, hk_.2.2.2.2⟩ : _ ∧ k_ ≠ g))) hk (fun _ h => h.2)) (fun _ h => h.1)); replace BK168 := Aside0.mk (KeepBut.blk hk (g' := gb168) (o := .cells #[.slice Ao26 x169000_1.length co26] 50 (0, 0)) (y0 BK168.out) NB168_0.out (by simp)); replace BK169 := Aside0.mk (KeepBut.blk hk (g' := gb169) (o := .cells #[.slice none 0 0] 50 (0, 0)) (y0 BK169.out) NB169_0.out (by simp)); replace HK := Aside0.mk (KeepBut.trans (y18 HK.out GW168.out GW169.out) hk (.inl rfl)); replace HB := Aside0.mk (hb); replace HI0 := Aside0.mk (hi); (try clear hb); (try clear hb2); (try clear hk); (try clear hi)))
     replace HO_6 := Aside0.mk (Kd.R_drew HO_6.out)
     replace HO_169000 := Aside0.mk (Kd.V_drew HO_169000.out)
     replace BK168 := Aside0.mk (blk_drew BK168.out)
     replace BK169 := Aside0.mk (blk_drew BK169.out)
     replace HI0 := Aside0.mk (IsS75.drew HI0.out)
     replace HK := Aside0.mk (keep_drew HK.out)
     replace HB := Aside0.mk (below_drew1 HB.out)
     refine start_ (n := 4) (S := fun w' => w'.cell? ⟨gb168, 0, none⟩ = some (.slice Ao26 x169000_1.length co26)) (ds := []) #[false, false, false, false] (by kernel_rfl) rfl rfl ((blk_cell BK168.out 0).trans rfl) (fun hHeld => ?_)
     generalize w27.drew = w28 at HO_6 HO_169000 BK168 BK169 HI0 HK HB hHeld ⊢
     refine pure_ (i := 0) (N := some 32) (v := ?_) (a' := ?_) #[true, false, false, false] rfl rfl (by kernel_rfl) (fun _ _ _ h => h) (Or.inl ⟨(by rfl), ?_⟩) ?_ ?_
     rotate_left
     ·intro w'
      go_simp
      with_reducible rfl
     rotate_left
     ·simp only [Act.put, List.setIfInBounds_toArray, List.set_cons_zero, List.set_cons_succ, i64_w, i32_w]
      rfl
     refine pure_ (i := 2) (N := some 4) (v := ?_) (a' := ?_) #[true, false, true, false] rfl rfl (by kernel_rfl) (fun _ _ _ h => h) (Or.inl ⟨(by rfl), ?_⟩) ?_ ?_
     rotate_left
     ·intro w'
      go_simp
      with_reducible rfl
     rotate_left
     ·simp only [Act.put, List.setIfInBounds_toArray, List.set_cons_zero, List.set_cons_succ, i64_w, i32_w]
      rfl
     refine take_ (i := 1) (N := some 33) (v := ?_) (a' := ?_) #[true, true, true, false] rfl rfl (by kernel_rfl) (fun _ _ _ h => h) (Or.inl ⟨(by rfl), ?_⟩) hHeld ?_ ?_
     rotate_left
     ·intro w' s0
      go_simp
      with_reducible rfl
     rotate_left
     ·simp only [Act.put, List.setIfInBounds_toArray, List.set_cons_zero, List.set_cons_succ, i64_w, i32_w]
      rfl
     refine one_ (i := 3) (N := none) #[true, true, true, true] rfl rfl (by kernel_rfl) (by decide) (fun K hK => ?_)
     have hs29 : w28.cell? ⟨gb169, 0, none⟩ = some (.slice none 0 0) := (blk_cell BK169.out 0).trans rfl
     have hfs29 := zfr BK169 0
     have hns29_0 := NB168_169.out
     have hms29_0 := NB169_168.out
     refine skip_ (w1 := ?_) (by rfl) rfl ?_ ?_
     rotate_left
     ·go_simp
      rfl
     refine hK.out _ _ (((cell_far (p := ⟨gb169, _, none⟩) NB168_169.out _).trans (hHeld))) (fun hHeld => ?_)
     clear hK K
     refine done_ (by kernel_rfl) ?_
     try go_wp2
     refine bodyPost_ret (results_tc rfl _ _ gb169 50 #[.slice Ao26 x169000_1.length co26] (0, 0) _ rfl (by (with_reducible repeat (first | refine blk_drewN ?_ _ | refine blk_drew ?_ | refine blk_alloc ?_ _)); apply blk_put (i := 0); (case h => exact y0 BK169.out); (case e => rfl)) Try.underlying50 rfl (by kernel_rfl)) rfl ?_
     exact ⟨_, _, y19, (by (with_reducible repeat (first | apply Kd.R_alloc | apply Kd.R_drewN | apply Kd.R_drew)); exact Kd.R_mono (Kd.R_far (p := ⟨gb169, 0, none⟩) (Kd.R_types HO_6.out BK169.out (by decide)) (fun _ hk => hk.2) (.slice Ao26 x169000_1.length co26)) (fun _ hk => hk.1)), (by (with_reducible repeat (first | apply Kd.V_alloc | apply Kd.V_drewN | apply Kd.V_drew)); exact Kd.V_mono (Kd.V_far (p := ⟨gb169, 0, none⟩) (Kd.V_mono HO_169000.out (fun k_ hk => (⟨hk, hk.2.2.2.1⟩ : _ ∧ k_ ≠ gb169))) (fun _ hk => hk.2) (.slice Ao26 x169000_1.length co26)) (fun _ hk => ⟨hk.1.1, hk.1.2.1⟩)), (y21 HI0.out NB0_168.out NB0_169.out), (y17 HB.out HI0.out GE168.out GE169.out), (y18 HK.out GW168.out GW169.out)⟩
   ·rw [if_neg c7] at H
    have c7b0 : decide (0 < (x169000_1.length : Int)) = false := decide_eq_false c7
    have c7b1 : decide (0 < x169000_1.length) = false := decide_eq_false (by omega)
    clear c7
    simp only [Option.some.injEq, Prod.mk.injEq] at H
    obtain ⟨rfl, rfl, rfl⟩ := H
    have hnb30 := NB168_169.out
    have hnc30 := NB169_168.out
    have hnb31 := NB168_0.out
    have hnc31 := NB0_168.out
    have hcz32_0 := zh BK168
    have hfz32_0 := zfr BK168 0
    obtain ⟨Ao33, co33, eo33⟩ := Kd.V_slice HO_169000.out
    subst eo33
    try go_wp2
    replace HO_6 := Aside0.mk (Kd.R_drew HO_6.out)
    replace HO_169000 := Aside0.mk (Kd.V_drew HO_169000.out)
    replace BK168 := Aside0.mk (blk_drew BK168.out)
    replace BK169 := Aside0.mk (blk_drew BK169.out)
    replace HI0 := Aside0.mk (IsS75.drew HI0.out)
    replace HK := Aside0.mk (keep_drew HK.out)
    replace HB := Aside0.mk (below_drew1 HB.out)
    refine start_ (n := 4) (S := fun w' => w'.cell? ⟨gb168, 0, none⟩ = some (.slice Ao33 x169000_1.length co33)) (ds := []) #[false, false, false, false] (by kernel_rfl) rfl rfl ((blk_cell BK168.out 0).trans rfl) (fun hHeld => ?_)
    generalize wr.drew = w34 at HO_6 HO_169000 BK168 BK169 HI0 HK HB hHeld ⊢
    refine pure_ (i := 0) (N := some 32) (v := ?_) (a' := ?_) #[true, false, false, false] rfl rfl (by kernel_rfl) (fun _ _ _ h => h) (Or.inl ⟨(by rfl), ?_⟩) ?_ ?_
    rotate_left
    ·intro w'
     go_simp
     with_reducible rfl
    rotate_left
    ·simp only [Act.put, List.setIfInBounds_toArray, List.set_cons_zero, List.set_cons_succ, i64_w, i32_w]
     rfl
    refine pure_ (i := 2) (N := some 4) (v := ?_) (a' := ?_) #[true, false, true, false] rfl rfl (by kernel_rfl) (fun _ _ _ h => h) (Or.inl ⟨(by rfl), ?_⟩) ?_ ?_
    rotate_left
    ·intro w'
     go_simp
     with_reducible rfl
    rotate_left
    ·simp only [Act.put, List.setIfInBounds_toArray, List.set_cons_zero, List.set_cons_succ, i64_w, i32_w]
     rfl
    refine take_ (i := 1) (N := some 33) (v := ?_) (a' := ?_) #[true, true, true, false] rfl rfl (by kernel_rfl) (fun _ _ _ h => h) (Or.inl ⟨(by rfl), ?_⟩) hHeld ?_ ?_
    rotate_left
    ·intro w' s0
     go_simp
     with_reducible rfl
    rotate_left
    ·simp only [Act.put, List.setIfInBounds_toArray, List.set_cons_zero, List.set_cons_succ, i64_w, i32_w]
     rfl
    refine one_ (i := 3) (N := none) #[true, true, true, true] rfl rfl (by kernel_rfl) (by decide) (fun K hK => ?_)
    have hs35 : w34.cell? ⟨gb169, 0, none⟩ = some (.slice none 0 0) := (blk_cell BK169.out 0).trans rfl
    have hfs35 := zfr BK169 0
    have hns35_0 := NB168_169.out
    have hms35_0 := NB169_168.out
    refine skip_ (w1 := ?_) (by rfl) rfl ?_ ?_
    rotate_left
    ·go_simp
     rfl
    refine hK.out _ _ (((cell_far (p := ⟨gb169, _, none⟩) NB168_169.out _).trans (hHeld))) (fun hHeld => ?_)
    clear hK K
    refine done_ (by kernel_rfl) ?_
    try go_wp2
    refine bodyPost_ret (results_tc rfl _ _ gb169 50 #[.slice Ao33 x169000_1.length co33] (0, 0) _ rfl (by (with_reducible repeat (first | refine blk_drewN ?_ _ | refine blk_drew ?_ | refine blk_alloc ?_ _)); apply blk_put (i := 0); (case h => exact y0 BK169.out); (case e => rfl)) Try.underlying50 rfl (by kernel_rfl)) rfl ?_
    exact ⟨_, _, y19, (by (with_reducible repeat (first | apply Kd.R_alloc | apply Kd.R_drewN | apply Kd.R_drew)); exact Kd.R_mono (Kd.R_far (p := ⟨gb169, 0, none⟩) (Kd.R_types HO_6.out BK169.out (by decide)) (fun _ hk => hk.2) (.slice Ao33 x169000_1.length co33)) (fun _ hk => hk.1)), (by (with_reducible repeat (first | apply Kd.V_alloc | apply Kd.V_drewN | apply Kd.V_drew)); exact Kd.V_mono (Kd.V_far (p := ⟨gb169, 0, none⟩) (Kd.V_mono HO_169000.out (fun k_ hk => (⟨hk, hk.2.2.2.1⟩ : _ ∧ k_ ≠ gb169))) (fun _ hk => hk.2) (.slice Ao33 x169000_1.length co33)) (fun _ hk => ⟨hk.1.1, hk.1.2.1⟩)), (y21 HI0.out NB0_168.out NB0_169.out), (y17 HB.out HI0.out GE168.out GE169.out), (y18 HK.out GW168.out GW169.out)⟩
end Go.Proofs.Ythfflieeifakdaa.PA
end
section
namespace Go.Proofs.Ythfflieeifakdaa.PA
open Go.RowKit Go.Proofs.YthfflieeifakdaaW.PrintWords Go.Proofs.YthfflieeifakdaaW.PrintLast Go.Proofs.YthfflieeifakdaaW.PrintMore
attribute [local go_sem] max2_int min2_int max_two min_two max_three min_three max_four min_four
set_option linter.unusedVariables false
set_option linter.unusedSimpArgs false
def spec_l71Any.f (k : Nat) (s0_0 : List Int) (s0_1 : Int) (l1_0 : List (S50)) : Option (List Int × Int) := (spec_l71Path.f k s0_0 s0_1 l1_0).bind fun bt182 => ((spec_l6Rd_pick.f k s0_0 bt182.2.2 6).bind fun bt190 => (if bt190.1 = 0 then ((spec_l6Rd_pick.f k s0_0 bt190.2 4).bind fun bt192 => (if bt182.1.length < 17592186044416 then (some ((bt182.1 ++ [wrap64 (bt192.1 - 1)]), bt192.2)) else (none))) else (some (bt182.1, bt190.2))))
theorem spec_l71Any.mono : ∀ a0 a1 a2 k, LeO (spec_l71Any.f k a0 a1 a2) (spec_l71Any.f (k + 1) a0 a1 a2) := by
 intro a0 a1 a2 k
 unfold spec_l71Any.f
 repeat' first
   | (with_reducible exact spec_l6Rd_pick.mono _ _ _ _)
   | (with_reducible exact spec_l71Path.mono _ _ _ _)
   | (with_reducible exact LeO.refl _)
   | (with_reducible exact LeO.none _)
   | (with_reducible refine LeO.ite ?_ ?_)
   | (with_reducible refine LeO.bind ?_ (fun _ => ?_))
   | exact spec_l6Rd_pick.mono _ _ _ _
   | exact spec_l71Path.mono _ _ _ _
   | exact LeO.none _
   | refine LeO.ite ?_ ?_
   | refine LeO.bind ?_ (fun _ => ?_)
set_option maxHeartbeats 8000000 in
set_option maxRecDepth 100000 in
theorem spec_l71Any.calls (k : Nat) (g : Nat) (s0_0 : List Int) (s0_1 : Int) (P1_0_ : Nat → Prop) (A1_0 : Option Addr) (c1_0 : Nat) (l1_0 : List (S50)) (r1 : List Int) (r2 : Int) (w0 w : World) (hI : IsS75 w0 w g s0_0 s0_1) (hB : Below w0.heap.size w0 w) (hs1_0 : Kd.V k50 50 w w.heap.size (fun k_ => P1_0_ k_ ∧ k_ ≠ g) (.slice A1_0 l1_0.length c1_0) l1_0) (h : spec_l71Any.f k s0_0 s0_1 l1_0 = some (r1, r2)) :
  Calls Try.prog 34 #[.pointer (some ⟨g, 0, none⟩), .agg #[.slice A1_0 l1_0.length c1_0]] w fun e w' => ∃ v0_ : Value, e = .returned (v0_) ∧ Kd.R (Kd.int .i64) 3 w' w.heap.size (fun k_ => (w.heap.size ≤ k_)) v0_ r1 ∧ IsS75 w0 w' g s0_0 r2 ∧ Below w0.heap.size w0 w' ∧ KeepBut w w' g none := by
 have hu50 := Try.underlying50
 have HO1_0 := Aside0.mk (show Kd.V k50 50 w w.heap.size (fun k_ => (P1_0_ k_ ∨ w.heap.size ≤ k_) ∧ k_ ≠ g) (.slice A1_0 l1_0.length c1_0) l1_0 from Kd.V_mono hs1_0 (fun k_ hk => ⟨.inl hk.1, hk.2⟩))
 have HI0 := Aside0.mk hI
 have HK := Aside0.mk (KeepBut.refl w g none)
 have HL := Aside0.mk hB.size
 clear hI
 have HW0 := Aside0.mk hB.size
 have HB := Aside0.mk hB
 clear hB
 have H : ((spec_l71Path.f k s0_0 s0_1 l1_0).bind fun bt182 => ((spec_l6Rd_pick.f k s0_0 bt182.2.2 6).bind fun bt190 => (if bt190.1 = 0 then ((spec_l6Rd_pick.f k s0_0 bt190.2 4).bind fun bt192 => (if bt182.1.length < 17592186044416 then (some ((bt182.1 ++ [wrap64 (bt192.1 - 1)]), bt192.2)) else (none))) else (some (bt182.1, bt190.2))))) = some (r1, r2) := h
 clear h
 obtain ⟨⟨t182, t185, t188⟩, A30, H⟩ := ob H
 have A3 := Aside0.mk A30
 clear A30
 obtain ⟨⟨t190, t191⟩, A40, H⟩ := ob H
 have A4 := Aside0.mk A40
 clear A40
 by_cases c5 : t190 = 0
 ·rw [if_pos c5] at H
  have c5b0 : (t190 == 0) = true := beq_iff_eq.mpr c5
  have c5b1 : (t190 != 0) = false := bne_eq_false_iff_eq.mpr c5
  clear c5
  obtain ⟨⟨t192, t193⟩, A60, H⟩ := ob H
  have A6 := Aside0.mk A60
  clear A60
  by_cases c7 : t182.length < 17592186044416
  ·rw [if_pos c7] at H
   have LMc7 := Aside0.mk c7
   clear c7
   obtain ⟨y194, hy194⟩ : ∃ y_ : List Int, y_ = (t182 ++ [wrap64 (t192 - 1)]) := ⟨_, rfl⟩
   replace H : (some (y194, t193)) = some (r1, r2) := by first | (rw [hy194]; with_reducible exact H) | (have H2_ := (Option.bind_some _ _).symm.trans H; rw [hy194]; with_reducible exact H2_) | (have H2_ := (Option.bind_some _ _).symm.trans H; with_reducible exact H2_) | with_reducible exact H | (rw [hy194]; exact H) | exact H
   have Ny194 := Aside0.mk hy194
   clear hy194
   simp only [Option.some.injEq, Prod.mk.injEq] at H
   obtain ⟨rfl, rfl⟩ := H
   go_enter Try.func34, Try.ntmps34
   go_wp2_with (first | ((with_reducible refine gate_dst (N := 3) rfl ?_); refine zbx 3 #[.slice A1_0 l1_0.length c1_0] 50 ?_; intro gb181 hg w8 hbox hb; replace HO1_0 := Aside0.mk (Kd.V_below (Kd.V_elderB (y10 HO1_0.out) gb181 (Nat.le_of_eq hg.symm)) hb); replace HB := Aside0.mk (below_step (y40 HB.out HI0.out) hb); have BK181 := Aside0.mk hbox; have GW181 := Aside0.mk ((by rw [hg]; exact (keep_size (w := w) (g := g) (row := none) (y29 HK.out)) : w.heap.size ≤ gb181)); have GE181 := Aside0.mk ((Nat.le_trans HW0.out (by rw [hg]; exact (keep_size (w := w) (g := g) (row := none) (y29 HK.out)) : w.heap.size ≤ gb181) : w0.heap.size ≤ gb181)); replace HK := Aside0.mk (KeepBut.trans (y29 HK.out) (KeepBut.of_below hb g none) (.inl rfl)); have NB0_181 := Aside0.mk ((by rw [hg]; exact Nat.ne_of_lt (IsS75.lt (show IsS75 w0 _ g s0_0 s0_1 from by repeat (first | (with_reducible first | exact HI0.out | apply IsS75.alloc | apply IsS75.drewN | apply IsS75.drew | apply IsS75.set_1) | exact HI0.out))) : g ≠ gb181)); have NB181_0 := Aside0.mk ((by rw [hg]; exact Nat.ne_of_gt (IsS75.lt (show IsS75 w0 _ g s0_0 s0_1 from by repeat (first | (with_reducible first | exact HI0.out | apply IsS75.alloc | apply IsS75.drewN | apply IsS75.drew | apply IsS75.set_1) | exact HI0.out))) : gb181 ≠ g)); replace HI0 := Aside0.mk (IsS75.below (y41 HI0.out) hb); clear hb hbox hg; have hnb9 := NB181_0.out; have hnc9 := NB0_181.out; have hcz10_0 := zh BK181; have hfz10_0 := zfr BK181 0) | ((with_reducible refine gate_callee (f := 56) rfl ?_); refine goesL_ (some 10) rfl rfl Try.func56 (by kernel_rfl) rfl #[.pointer (some ⟨g, 0, none⟩), .agg #[.slice A1_0 l1_0.length c1_0]] rfl y8 ?_; (with_reducible refine (spec_l71Path.calls k g s0_0 s0_1 (fun k_ => (((P1_0_ k_ ∨ w.heap.size ≤ k_) ∧ k_ ≠ g) ∧ k_ ≠ gb181)) _ _ l1_0 t182 t185 t188 w0 _ ?side1 ?side2 ?side3 A3.out).mono ?_); (case side1 => exact y31 HI0.out NB0_181.out); (case side2 => exact y30 HB.out HI0.out GE181.out); (case side3 => exact Kd.V_mono (HO1_0.out) (fun k_ hk_ => ⟨hk_, hk_.1.2⟩)); rintro e w11 ⟨v183, v186, rfl, ho0, ho1, hi, hb, hk⟩; refine ⟨_, rfl, ?_⟩; replace HO1_0 := Aside0.mk (Kd.V_mono (Kd.V_told (Kd.V_oldK (Kd.V_mono (ok := fun k_ => ((((P1_0_ k_ ∨ w.heap.size ≤ k_)) ∧ k_ ≠ g) ∧ k_ ≠ gb181)) (y10 HO1_0.out) (fun k_ hk_ => (⟨hk_, hk_.1.2⟩ : _ ∧ k_ ≠ g))) hk) (Kd.R_base ho0)) (fun _ h_ => h_.1)); have HO184 := Aside0.mk (Kd.R_lower (Kd.R_newM (M := fun k_ => (w.heap.size ≤ k_)) (Kd.R_mono (ok' := fun k_ => True) ho0 (fun _ _ => trivial)) (keep_size (w := w) (g := g) (row := none) (y25 HK.out GW181.out)) (fun k_ h_ => h_)) (keep_size (w := w) (g := g) (row := none) (y25 HK.out GW181.out))); have HO187 := Aside0.mk (Kd.V_lower (Kd.V_mono (ok' := fun k_ => (P1_0_ k_ ∨ w.heap.size ≤ k_) ∧ some k_ ≠ (v183 : Value).ownBlock ∧ k_ ≠ gb181 ∧ k_ ≠ g) ho1 (fun k_ hk_ => ⟨Or.elim hk_.1 (fun hs_ => hs_.1.1) (fun hn_ => (.inr (Nat.le_trans (keep_size (w := w) (g := g) (row := none) (y25 HK.out GW181.out)) hn_))), hk_.2, Or.elim hk_.1 (fun hs_ => hs_.2) (fun hn_ => (Kd.freshB (g := gb181) (o := .cells #[.slice A1_0 l1_0.length c1_0] 50 (0, 0)) (y0 BK181.out) k_ hn_)), Or.elim hk_.1 (fun hs_ => hs_.1.2) (fun hn_ => (IsS75.fresh (y31 HI0.out NB0_181.out) k_ hn_))⟩)) (keep_size (w := w) (g := g) (row := none) (y25 HK.out GW181.out))); replace BK181 := Aside0.mk (KeepBut.blk hk (g' := gb181) (o := .cells #[.slice A1_0 l1_0.length c1_0] 50 (0, 0)) (y0 BK181.out) NB181_0.out (by simp)); replace HK := Aside0.mk (KeepBut.trans (y25 HK.out GW181.out) hk (.inl rfl)); replace HB := Aside0.mk (hb); replace HI0 := Aside0.mk (hi); (try clear hb); (try clear hb2); (try clear hk); (try clear hi); (try clear ho0); (try clear ho1)) | ((with_reducible refine gate_dst (N := 6) rfl ?_); refine zbx 6 #[.slice none 0 0] 50 ?_; intro gb189 hg w12 hbox hb; replace HO1_0 := Aside0.mk (Kd.V_below (Kd.V_elderB (y10 HO1_0.out) gb189 (Nat.le_of_eq hg.symm)) hb); replace HO184 := Aside0.mk (Kd.R_below (y12 HO184.out) hb); replace HO187 := Aside0.mk (Kd.V_below (Kd.V_elderB (y10 HO187.out) gb189 (Nat.le_of_eq hg.symm)) hb); replace HB := Aside0.mk (below_step (y30 HB.out HI0.out GE181.out) hb); have BK189 := Aside0.mk hbox; have GW189 := Aside0.mk ((by rw [hg]; exact (keep_size (w := w) (g := g) (row := none) (y25 HK.out GW181.out)) : w.heap.size ≤ gb189)); have GE189 := Aside0.mk ((Nat.le_trans HW0.out (by rw [hg]; exact (keep_size (w := w) (g := g) (row := none) (y25 HK.out GW181.out)) : w.heap.size ≤ gb189) : w0.heap.size ≤ gb189)); replace HK := Aside0.mk (KeepBut.trans (y25 HK.out GW181.out) (KeepBut.of_below hb g none) (.inl rfl)); have NB181_189 := zltn hg BK181; have NB189_181 := zgtn hg BK181; replace BK181 := zbb BK181 hb; have NB0_189 := Aside0.mk ((by rw [hg]; exact Nat.ne_of_lt (IsS75.lt (show IsS75 w0 _ g s0_0 t188 from by repeat (first | (with_reducible first | exact HI0.out | apply IsS75.alloc | apply IsS75.drewN | apply IsS75.drew | apply IsS75.set_1 | refine IsS75.far ?_ NB0_181.out _) | exact HI0.out))) : g ≠ gb189)); have NB189_0 := Aside0.mk ((by rw [hg]; exact Nat.ne_of_gt (IsS75.lt (show IsS75 w0 _ g s0_0 t188 from by repeat (first | (with_reducible first | exact HI0.out | apply IsS75.alloc | apply IsS75.drewN | apply IsS75.drew | apply IsS75.set_1 | refine IsS75.far ?_ NB0_181.out _) | exact HI0.out))) : gb189 ≠ g)); replace HI0 := Aside0.mk (IsS75.below (y31 HI0.out NB0_181.out) hb); clear hb hbox hg; obtain ⟨Ao13, co13, eo13⟩ := Kd.V_slice HO187.out; subst eo13; have hnb14 := NB189_181.out; have hnc14 := NB181_189.out; have hnb15 := NB189_0.out; have hnc15 := NB0_189.out; have hcz16_0 := zh BK189; have hfz16_0 := zfr BK189 0) | ((with_reducible refine gate_callee (f := 32) rfl ?_); refine goesL_ (some 14) rfl rfl Try.func32 (by kernel_rfl) rfl #[.pointer (some ⟨g, 0, none⟩), .int .i64 6] rfl y8 ?_; (with_reducible refine (spec_l6Rd_pick.calls k g s0_0 t188 6 t190 t191 w0 _ ?side1 ?side2 A4.out).mono ?_); (case side1 => exact y21 HI0.out NB0_181.out NB0_189.out); (case side2 => exact y17 HB.out HI0.out GE181.out GE189.out); rintro e w17 ⟨rfl, hi, hb, hk⟩; refine ⟨_, rfl, ?_⟩; replace HO1_0 := Aside0.mk (Kd.V_mono (Kd.V_keep (Kd.V_mono (ok := fun k_ => ((((((P1_0_ k_ ∨ w.heap.size ≤ k_)) ∧ k_ ≠ g) ∧ k_ ≠ gb181) ∧ some k_ ≠ (v183 : Value).ownBlock) ∧ k_ ≠ gb189)) (by (with_reducible repeat (first | apply Kd.V_alloc | apply Kd.V_drewN | apply Kd.V_drew)); exact (Kd.V_mono (Kd.V_far (p := ⟨gb189, 0, none⟩) (Kd.V_mono HO1_0.out (fun k_ hk => (⟨hk, hk.2⟩ : _ ∧ k_ ≠ gb189))) (fun _ hk => hk.2) (.slice Ao13 t185.length co13)) (fun _ h_ => h_.1))) (fun k_ hk_ => (⟨hk_, hk_.1.1.1.2⟩ : _ ∧ k_ ≠ g))) hk (fun _ h => h.2)) (fun _ h => h.1)); replace BK181 := Aside0.mk (KeepBut.blk hk (g' := gb181) (o := .cells #[.slice A1_0 l1_0.length c1_0] 50 (0, 0)) (y13 NB181_189.out BK181.out) NB181_0.out (by simp)); replace HO184 := Aside0.mk (Kd.R_mono (Kd.R_keep (IsS75.apart (show IsS75 w0 _ g s0_0 t188 from by repeat (first | (with_reducible first | exact HI0.out | apply IsS75.alloc | apply IsS75.drewN | apply IsS75.drew | apply IsS75.set_1 | refine IsS75.far ?_ NB0_181.out _ | refine IsS75.far ?_ NB0_189.out _) | exact HI0.out)) (by (with_reducible repeat (first | apply Kd.R_alloc | apply Kd.R_drewN | apply Kd.R_drew)); exact (Kd.R_mono (Kd.R_far (p := ⟨gb189, 0, none⟩) (Kd.R_types HO184.out BK189.out (by decide)) (fun _ hk => hk.2) (.slice Ao13 t185.length co13)) (fun _ h_ => h_.1))) (by decide)) hk (fun _ h => h.2)) (fun _ h => h.1)); replace HO187 := Aside0.mk (Kd.V_mono (Kd.V_keep (Kd.V_mono (ok := fun k_ => ((((P1_0_ k_ ∨ w.heap.size ≤ k_)) ∧ (some k_ ≠ (v183 : Value).ownBlock ∧ (k_ ≠ gb181 ∧ k_ ≠ g))) ∧ k_ ≠ gb189)) (by (with_reducible repeat (first | apply Kd.V_alloc | apply Kd.V_drewN | apply Kd.V_drew)); exact (Kd.V_mono (Kd.V_far (p := ⟨gb189, 0, none⟩) (Kd.V_mono HO187.out (fun k_ hk => (⟨hk, hk.2⟩ : _ ∧ k_ ≠ gb189))) (fun _ hk => hk.2) (.slice Ao13 t185.length co13)) (fun _ h_ => h_.1))) (fun k_ hk_ => (⟨hk_, hk_.1.2.2.2⟩ : _ ∧ k_ ≠ g))) hk (fun _ h => h.2)) (fun _ h => h.1)); replace BK189 := Aside0.mk (KeepBut.blk hk (g' := gb189) (o := .cells #[.slice Ao13 t185.length co13] 50 (0, 0)) (by (with_reducible repeat (first | refine blk_drewN ?_ _ | refine blk_drew ?_ | refine blk_alloc ?_ _)); apply blk_put (i := 0); (case h => exact y0 BK189.out); (case e => rfl)) NB189_0.out (by simp)); replace HK := Aside0.mk (KeepBut.trans (y18 HK.out GW181.out GW189.out) hk (.inl rfl)); replace HB := Aside0.mk (hb); replace HI0 := Aside0.mk (hi); (try clear hb); (try clear hb2); (try clear hk); (try clear hi)) | ((with_reducible refine gate_callee (f := 32) rfl ?_); refine goesL_ (some 18) rfl rfl Try.func32 (by kernel_rfl) rfl #[.pointer (some ⟨g, 0, none⟩), .int .i64 4] rfl y8 ?_; (with_reducible refine (spec_l6Rd_pick.calls k g s0_0 t191 4 t192 t193 w0 _ ?side1 ?side2 A6.out).mono ?_); (case side1 => exact y21 HI0.out NB0_181.out NB0_189.out); (case side2 => exact y17 HB.out HI0.out GE181.out GE189.out); rintro e w18 ⟨rfl, hi, hb, hk⟩; refine ⟨_, rfl, ?_⟩; replace HO1_0 := Aside0.mk (Kd.V_mono (Kd.V_keep (Kd.V_mono (ok := fun k_ => ((((((P1_0_ k_ ∨ w.heap.size ≤ k_)) ∧ k_ ≠ g) ∧ k_ ≠ gb181) ∧ some k_ ≠ (v183 : Value).ownBlock) ∧ k_ ≠ gb189)) (y10 HO1_0.out) (fun k_ hk_ => (⟨hk_, hk_.1.1.1.2⟩ : _ ∧ k_ ≠ g))) hk (fun _ h => h.2)) (fun _ h => h.1)); replace BK181 := Aside0.mk (KeepBut.blk hk (g' := gb181) (o := .cells #[.slice A1_0 l1_0.length c1_0] 50 (0, 0)) (y0 BK181.out) NB181_0.out (by simp)); replace HO184 := Aside0.mk (Kd.R_mono (Kd.R_keep (IsS75.apart (show IsS75 w0 _ g s0_0 t191 from by repeat (first | (with_reducible first | exact HI0.out | apply IsS75.alloc | apply IsS75.drewN | apply IsS75.drew | apply IsS75.set_1 | refine IsS75.far ?_ NB0_181.out _ | refine IsS75.far ?_ NB0_189.out _) | exact HI0.out)) (y12 HO184.out) (by decide)) hk (fun _ h => h.2)) (fun _ h => h.1)); replace HO187 := Aside0.mk (Kd.V_mono (Kd.V_keep (Kd.V_mono (ok := fun k_ => ((((P1_0_ k_ ∨ w.heap.size ≤ k_)) ∧ (some k_ ≠ (v183 : Value).ownBlock ∧ (k_ ≠ gb181 ∧ k_ ≠ g))) ∧ k_ ≠ gb189)) (y10 HO187.out) (fun k_ hk_ => (⟨hk_, hk_.1.2.2.2⟩ : _ ∧ k_ ≠ g))) hk (fun _ h => h.2)) (fun _ h => h.1)); replace BK189 := Aside0.mk (KeepBut.blk hk (g' := gb189) (o := .cells #[.slice Ao13 t185.length co13] 50 (0, 0)) (y0 BK189.out) NB189_0.out (by simp)); replace HK := Aside0.mk (KeepBut.trans (y18 HK.out GW181.out GW189.out) hk (.inl rfl)); replace HB := Aside0.mk (hb); replace HI0 := Aside0.mk (hi); (try clear hb); (try clear hb2); (try clear hk); (try clear hi)) | ((with_reducible refine gate_builtin (b := .append) (xs := #[.tmp 16, .tmp 20]) rfl ?_); at_builtin; refine Kd.R_append (Kd.int .i64) w.heap.size rfl (.tmp 16) (.tmp 20) 26 3 (.int .i64 0) 8 rfl Try.underlying26 info3 rfl (by decide) (by omega) v183 t182 (wrap64 (t192 - 1)) [.int .i64 (wrap64 (t192 - 1))] (fun k_ => (w.heap.size ≤ k_)) (fun _ => False) rfl rfl ?aP (fun _ hk => hk.elim) ?aF ?aO (Below.refl _ _) ?aS ?aL ?_; (case aP => exact rfl); (case aF => exact (fun k_ hk => (Nat.le_trans (keep_size (w := w) (g := g) (row := none) (y18 HK.out GW181.out GW189.out)) hk))); (case aO => exact (y71 HO184.out)); (case aS => exact (keep_size (w := w) (g := g) (row := none) (y18 HK.out GW181.out GW189.out))); (case aL => exact y57 LMc7.out); intro v195 w19 ho hb hg hat; rw [← Ny194.out] at ho; replace HO1_0 := Aside0.mk (Kd.V_afterv (ok := (fun k_ => (P1_0_ k_ ∨ w.heap.size ≤ k_) ∧ k_ ≠ g ∧ k_ ≠ gb181 ∧ k_ ≠ gb189)) (by (with_reducible repeat (first | apply Kd.V_alloc | apply Kd.V_drewN | apply Kd.V_drew)); exact Kd.V_mono HO1_0.out (fun _ hk => ⟨⟨hk.1.1.1.1, ⟨hk.1.1.1.2, ⟨hk.1.1.2, hk.2⟩⟩⟩, hk.1.2⟩)) hg hat); replace BK181 := Aside0.mk (blk_grown (g := gb181) (o := .cells #[.slice A1_0 l1_0.length c1_0] 50 (0, 0)) (y0 BK181.out) hg (Kd.R_ne HO184.out BK181.out (by decide))); replace HO187 := Aside0.mk (Kd.V_afterv (ok := (fun k_ => (P1_0_ k_ ∨ w.heap.size ≤ k_) ∧ k_ ≠ gb181 ∧ k_ ≠ g ∧ k_ ≠ gb189)) (by (with_reducible repeat (first | apply Kd.V_alloc | apply Kd.V_drewN | apply Kd.V_drew)); exact Kd.V_mono HO187.out (fun _ hk => ⟨⟨hk.1.1, ⟨hk.1.2.2.1, ⟨hk.1.2.2.2, hk.2⟩⟩⟩, hk.1.2.1⟩)) hg hat); replace BK189 := Aside0.mk (blk_grown (g := gb189) (o := .cells #[.slice Ao13 t185.length co13] 50 (0, 0)) (y0 BK189.out) hg (Kd.R_ne HO184.out BK189.out (by decide))); replace HB := Aside0.mk (below_weaken (y17 HB.out HI0.out GE181.out GE189.out) HL.out hb); replace HI0 := Aside0.mk (IsS75.grown (y21 HI0.out NB0_181.out NB0_189.out) hg (IsS75.own_ne HI0.out HO184.out (by decide))); replace HK := Aside0.mk (KeepBut.trans (y18 HK.out GW181.out GW189.out) (KeepBut.of_grown hg g) (Kd.R_base2 HO184.out)); have HO196 := Aside0.mk (ho); clear HO184; clear ho hb hg hat))
   go_ret
   exact ⟨_, y19, (y12 HO196.out), (y21 HI0.out NB0_181.out NB0_189.out), (y17 HB.out HI0.out GE181.out GE189.out), (y18 HK.out GW181.out GW189.out)⟩
  ·rw [if_neg c7] at H
   exact absurd H (by simp)
 ·rw [if_neg c5] at H
  have c5b0 : (t190 == 0) = false := beq_eq_false_iff_ne.mpr c5
  have c5b1 : (t190 != 0) = true := bne_iff_ne.mpr c5
  simp only [Option.some.injEq, Prod.mk.injEq] at H
  obtain ⟨rfl, rfl⟩ := H
  go_enter Try.func34, Try.ntmps34
  go_wp2_with (first | ((with_reducible refine gate_dst (N := 3) rfl ?_); refine zbx 3 #[.slice A1_0 l1_0.length c1_0] 50 ?_; intro gb181 hg w20 hbox hb; replace HO1_0 := Aside0.mk (Kd.V_below (Kd.V_elderB (y10 HO1_0.out) gb181 (Nat.le_of_eq hg.symm)) hb); replace HB := Aside0.mk (below_step (y40 HB.out HI0.out) hb); have BK181 := Aside0.mk hbox; have GW181 := Aside0.mk ((by rw [hg]; exact (keep_size (w := w) (g := g) (row := none) (y29 HK.out)) : w.heap.size ≤ gb181)); have GE181 := Aside0.mk ((Nat.le_trans HW0.out (by rw [hg]; exact (keep_size (w := w) (g := g) (row := none) (y29 HK.out)) : w.heap.size ≤ gb181) : w0.heap.size ≤ gb181)); replace HK := Aside0.mk (KeepBut.trans (y29 HK.out) (KeepBut.of_below hb g none) (.inl rfl)); have NB0_181 := Aside0.mk ((by rw [hg]; exact Nat.ne_of_lt (IsS75.lt (show IsS75 w0 _ g s0_0 s0_1 from by repeat (first | (with_reducible first | exact HI0.out | apply IsS75.alloc | apply IsS75.drewN | apply IsS75.drew | apply IsS75.set_1) | exact HI0.out))) : g ≠ gb181)); have NB181_0 := Aside0.mk ((by rw [hg]; exact Nat.ne_of_gt (IsS75.lt (show IsS75 w0 _ g s0_0 s0_1 from by repeat (first | (with_reducible first | exact HI0.out | apply IsS75.alloc | apply IsS75.drewN | apply IsS75.drew | apply IsS75.set_1) | exact HI0.out))) : gb181 ≠ g)); replace HI0 := Aside0.mk (IsS75.below (y41 HI0.out) hb); clear hb hbox hg; have hnb21 := NB181_0.out; have hnc21 := NB0_181.out; have hcz22_0 := zh BK181; have hfz22_0 := zfr BK181 0) | ((with_reducible refine gate_callee (f := 56) rfl ?_); refine goesL_ (some 10) rfl rfl Try.func56 (by kernel_rfl) rfl #[.pointer (some ⟨g, 0, none⟩), .agg #[.slice A1_0 l1_0.length c1_0]] rfl y8 ?_; (with_reducible refine (spec_l71Path.calls k g s0_0 s0_1 (fun k_ => (((P1_0_ k_ ∨ w.heap.size ≤ k_) ∧ k_ ≠ g) ∧ k_ ≠ gb181)) _ _ l1_0 t182 t185 t188 w0 _ ?side1 ?side2 ?side3 A3.out).mono ?_); (case side1 => exact y31 HI0.out NB0_181.out); (case side2 => exact y30 HB.out HI0.out GE181.out); (case side3 => exact Kd.V_mono (HO1_0.out) (fun k_ hk_ => ⟨hk_, hk_.1.2⟩)); rintro e w23 ⟨v183, v186, rfl, ho0, ho1, hi, hb, hk⟩; refine ⟨_, rfl, ?_⟩; replace HO1_0 := Aside0.mk (Kd.V_mono (Kd.V_told (Kd.V_oldK (Kd.V_mono (ok := fun k_ => ((((P1_0_ k_ ∨ w.heap.size ≤ k_)) ∧ k_ ≠ g) ∧ k_ ≠ gb181)) (y10 HO1_0.out) (fun k_ hk_ => (⟨hk_, hk_.1.2⟩ : _ ∧ k_ ≠ g))) hk) (Kd.R_base ho0)) (fun _ h_ => h_.1)); have HO184 := Aside0.mk (Kd.R_lower (Kd.R_newM (M := fun k_ => (w.heap.size ≤ k_)) (Kd.R_mono (ok' := fun k_ => True) ho0 (fun _ _ => trivial)) (keep_size (w := w) (g := g) (row := none) (y25 HK.out GW181.out)) (fun k_ h_ => h_)) (keep_size (w := w) (g := g) (row := none) (y25 HK.out GW181.out))); have HO187 := Aside0.mk (Kd.V_lower (Kd.V_mono (ok' := fun k_ => (P1_0_ k_ ∨ w.heap.size ≤ k_) ∧ some k_ ≠ (v183 : Value).ownBlock ∧ k_ ≠ gb181 ∧ k_ ≠ g) ho1 (fun k_ hk_ => ⟨Or.elim hk_.1 (fun hs_ => hs_.1.1) (fun hn_ => (.inr (Nat.le_trans (keep_size (w := w) (g := g) (row := none) (y25 HK.out GW181.out)) hn_))), hk_.2, Or.elim hk_.1 (fun hs_ => hs_.2) (fun hn_ => (Kd.freshB (g := gb181) (o := .cells #[.slice A1_0 l1_0.length c1_0] 50 (0, 0)) (y0 BK181.out) k_ hn_)), Or.elim hk_.1 (fun hs_ => hs_.1.2) (fun hn_ => (IsS75.fresh (y31 HI0.out NB0_181.out) k_ hn_))⟩)) (keep_size (w := w) (g := g) (row := none) (y25 HK.out GW181.out))); replace BK181 := Aside0.mk (KeepBut.blk hk (g' := gb181) (o := .cells #[.slice A1_0 l1_0.length c1_0] 50 (0, 0)) (y0 BK181.out) NB181_0.out (by simp)); replace HK := Aside0.mk (KeepBut.trans (y25 HK.out GW181.out) hk (.inl rfl)); replace HB := Aside0.mk (hb); replace HI0 := Aside0.mk (hi); (try clear hb); (try clear hb2); (try clear hk); (try clear hi); (try clear ho0); (try clear ho1)) | ((with_reducible refine gate_dst (N := 6) rfl ?_); refine zbx 6 #[.slice none 0 0] 50 ?_; intro gb189 hg w24 hbox hb; replace HO1_0 := Aside0.mk (Kd.V_below (Kd.V_elderB (y10 HO1_0.out) gb189 (Nat.le_of_eq hg.symm)) hb); replace HO184 := Aside0.mk (Kd.R_below (y12 HO184.out) hb); replace HO187 := Aside0.mk (Kd.V_below (Kd.V_elderB (y10 HO187.out) gb189 (Nat.le_of_eq hg.symm)) hb); replace HB := Aside0.mk (below_step (y30 HB.out HI0.out GE181.out) hb); have BK189 := Aside0.mk hbox; have GW189 := Aside0.mk ((by rw [hg]; exact (keep_size (w := w) (g := g) (row := none) (y25 HK.out GW181.out)) : w.heap.size ≤ gb189)); have GE189 := Aside0.mk ((Nat.le_trans HW0.out (by rw [hg]; exact (keep_size (w := w) (g := g) (row := none) (y25 HK.out GW181.out)) : w.heap.size ≤ gb189) : w0.heap.size ≤ gb189)); replace HK := Aside0.mk (KeepBut.trans (y25 HK.out GW181.out) (KeepBut.of_below hb g none) (.inl rfl)); have NB181_189 := zltn hg BK181; have NB189_181 := zgtn hg BK181; replace BK181 := zbb BK181 hb; have NB0_189 := Aside0.mk ((by rw [hg]; exact Nat.ne_of_lt (IsS75.lt (show IsS75 w0 _ g s0_0 t188 from by repeat (first | (with_reducible first | exact HI0.out | apply IsS75.alloc | apply IsS75.drewN | apply IsS75.drew | apply IsS75.set_1 | refine IsS75.far ?_ NB0_181.out _) | exact HI0.out))) : g ≠ gb189)); have NB189_0 := Aside0.mk ((by rw [hg]; exact Nat.ne_of_gt (IsS75.lt (show IsS75 w0 _ g s0_0 t188 from by repeat (first | (with_reducible first | exact HI0.out | apply IsS75.alloc | apply IsS75.drewN | apply IsS75.drew | apply IsS75.set_1 | refine IsS75.far ?_ NB0_181.out _) | exact HI0.out))) : gb189 ≠ g)); replace HI0 := Aside0.mk (IsS75.below (y31 HI0.out NB0_181.out) hb); clear hb hbox hg; obtain ⟨Ao25, co25, eo25⟩ := Kd.V_slice HO187.out; subst eo25; have hnb26 := NB189_181.out; have hnc26 := NB181_189.out; have hnb27 := NB189_0.out; have hnc27 := NB0_189.out; have hcz28_0 := zh BK189; have hfz28_0 := zfr BK189 0) | ((with_reducible refine gate_callee (f := 32) rfl ?_); refine goesL_ (some 14) rfl rfl Try.func32 (by kernel_rfl) rfl #[.pointer (some ⟨g, 0, none⟩), .int .i64 6] rfl y8 ?_; (with_reducible refine (spec_l6Rd_pick.calls k g s0_0 t188 6 t190 t191 w0 _ ?side1 ?side2 A4.out).mono ?_); (case side1 => exact y21 HI0.out NB0_181.out NB0_189.out); (case side2 => exact y17 HB.out HI0.out GE181.out GE189.out); rintro e w29 ⟨rfl, hi, hb, hk⟩; refine ⟨_, rfl, ?_⟩; replace HO1_0 := Aside0.mk (Kd.V_mono (Kd.V_keep (Kd.V_mono (ok := fun k_ => ((((((P1_0_ k_ ∨ w.heap.size ≤ k_)) ∧ k_ ≠ g) ∧ k_ ≠ gb181) ∧ some k_ ≠ (v183 : Value).ownBlock) ∧ k_ ≠ gb189)) (by (with_reducible repeat (first | apply Kd.V_alloc | apply Kd.V_drewN | apply Kd.V_drew)); exact (Kd.V_mono (Kd.V_far (p := ⟨gb189, 0, none⟩) (Kd.V_mono HO1_0.out (fun k_ hk => (⟨hk, hk.2⟩ : _ ∧ k_ ≠ gb189))) (fun _ hk => hk.2) (.slice Ao25 t185.length co25)) (fun _ h_ => h_.1))) (fun k_ hk_ => (⟨hk_, hk_.1.1.1.2⟩ : _ ∧ k_ ≠ g))) hk (fun _ h => h.2)) (fun _ h => h.1)); replace BK181 := Aside0.mk (KeepBut.blk hk (g' := gb181) (o := .cells #[.slice A1_0 l1_0.length c1_0] 50 (0, 0)) (y13 NB181_189.out BK181.out) NB181_0.out (by simp)); replace HO184 := Aside0.mk (Kd.R_mono (Kd.R_keep (IsS75.apart (show IsS75 w0 _ g s0_0 t188 from by repeat (first | (with_reducible first | exact HI0.out | apply IsS75.alloc | apply IsS75.drewN | apply IsS75.drew | apply IsS75.set_1 | refine IsS75.far ?_ NB0_181.out _ | refine IsS75.far ?_ NB0_189.out _) | exact HI0.out)) (by (with_reducible repeat (first | apply Kd.R_alloc | apply Kd.R_drewN | apply Kd.R_drew)); exact (Kd.R_mono (Kd.R_far (p := ⟨gb189, 0, none⟩) (Kd.R_types HO184.out BK189.out (by decide)) (fun _ hk => hk.2) (.slice Ao25 t185.length co25)) (fun _ h_ => h_.1))) (by decide)) hk (fun _ h => h.2)) (fun _ h => h.1)); replace HO187 := Aside0.mk (Kd.V_mono (Kd.V_keep (Kd.V_mono (ok := fun k_ => ((((P1_0_ k_ ∨ w.heap.size ≤ k_)) ∧ (some k_ ≠ (v183 : Value).ownBlock ∧ (k_ ≠ gb181 ∧ k_ ≠ g))) ∧ k_ ≠ gb189)) (by (with_reducible repeat (first | apply Kd.V_alloc | apply Kd.V_drewN | apply Kd.V_drew)); exact (Kd.V_mono (Kd.V_far (p := ⟨gb189, 0, none⟩) (Kd.V_mono HO187.out (fun k_ hk => (⟨hk, hk.2⟩ : _ ∧ k_ ≠ gb189))) (fun _ hk => hk.2) (.slice Ao25 t185.length co25)) (fun _ h_ => h_.1))) (fun k_ hk_ => (⟨hk_, hk_.1.2.2.2⟩ : _ ∧ k_ ≠ g))) hk (fun _ h => h.2)) (fun _ h => h.1)); replace BK189 := Aside0.mk (KeepBut.blk hk (g' := gb189) (o := .cells #[.slice Ao25 t185.length co25] 50 (0, 0)) (by (with_reducible repeat (first | refine blk_drewN ?_ _ | refine blk_drew ?_ | refine blk_alloc ?_ _)); apply blk_put (i := 0); (case h => exact y0 BK189.out); (case e => rfl)) NB189_0.out (by simp)); replace HK := Aside0.mk (KeepBut.trans (y18 HK.out GW181.out GW189.out) hk (.inl rfl)); replace HB := Aside0.mk (hb); replace HI0 := Aside0.mk (hi); (try clear hb); (try clear hb2); (try clear hk); (try clear hi)))
  go_ret
  exact ⟨_, y19, (y71 HO184.out), (y21 HI0.out NB0_181.out NB0_189.out), (y17 HB.out HI0.out GE181.out GE189.out), (y18 HK.out GW181.out GW189.out)⟩
end Go.Proofs.Ythfflieeifakdaa.PA
end
section
namespace Go.Proofs.Ythfflieeifakdaa.PA
open Go.RowKit Go.Proofs.YthfflieeifakdaaW.PrintWords Go.Proofs.YthfflieeifakdaaW.PrintLast Go.Proofs.YthfflieeifakdaaW.PrintMore
attribute [local go_sem] max2_int min2_int max_two min_two max_three min_three max_four min_four
set_option linter.unusedVariables false
set_option linter.unusedSimpArgs false
mutual
def spec_l1Deep.j0 : Nat → Int → Bool → List (S50) → Option (Bool)
 | 0, _, _, _ => none
 | k + 1, x1, x19, x218000 => if x19 = true then (some false) else (spec_l1Deep.l0 k x1 0 x218000)
def spec_l1Deep.l0 : Nat → Int → Int → List (S50) → Option (Bool)
 | 0, _, _, _ => none
 | k + 1, x1, x5, x218000 => if x5 < (x218000.length : Int) then (if 0 ≤ x5 then ((spec_l1Deep.f k ((rd_T50 x218000 x5).f0) (wrap64 (x1 - 1))).bind fun t219 => (if t219 = true then (spec_l1Deep.l0 k x1 (wrap64 (x5 + 1)) x218000) else (some false))) else (none)) else (some true)
def spec_l1Deep.f : Nat → List (S50) → Int → Option (Bool)
 | 0, _, _ => none
 | k + 1, l0_0, a1 => if a1 < 1 then (spec_l1Deep.j0 k a1 true l0_0) else (if (l0_0.length : Int) = 0 then (spec_l1Deep.j0 k a1 false l0_0) else (spec_l1Deep.j0 k a1 ((l0_0.length : Int) != 2) l0_0))
end
theorem spec_l1Deep.mono_l : ∀ k, (∀ y0 y1, LeO (spec_l1Deep.f k y0 y1) (spec_l1Deep.f (k + 1) y0 y1)) ∧ (∀ y0 y1 y2, LeO (spec_l1Deep.j0 k y0 y1 y2) (spec_l1Deep.j0 (k + 1) y0 y1 y2)) ∧ (∀ y0 y1 y2, LeO (spec_l1Deep.l0 k y0 y1 y2) (spec_l1Deep.l0 (k + 1) y0 y1 y2))
 | 0 => ⟨fun _ _ r h => by simp [spec_l1Deep.f] at h, fun _ _ _ r h => by simp [spec_l1Deep.j0] at h, fun _ _ _ r h => by simp [spec_l1Deep.l0] at h⟩
 | k + 1 => by
  obtain ⟨ih0, ih1, ih2⟩ := spec_l1Deep.mono_l k
  refine ⟨?_, ?_, ?_⟩
  ·intro y0 y1
   unfold spec_l1Deep.f
   repeat' first
   | (with_reducible exact ih0 _ _)
   | (with_reducible exact ih1 _ _ _)
   | (with_reducible exact ih2 _ _ _)
   | (with_reducible exact LeO.refl _)
   | (with_reducible exact LeO.none _)
   | (with_reducible refine LeO.ite ?_ ?_)
   | (with_reducible refine LeO.bind ?_ (fun _ => ?_))
   | exact ih0 _ _
   | exact ih1 _ _ _
   | exact ih2 _ _ _
   | exact LeO.none _
   | refine LeO.ite ?_ ?_
   | refine LeO.bind ?_ (fun _ => ?_)
  ·intro y0 y1 y2
   unfold spec_l1Deep.j0
   repeat' first
   | (with_reducible exact ih0 _ _)
   | (with_reducible exact ih1 _ _ _)
   | (with_reducible exact ih2 _ _ _)
   | (with_reducible exact LeO.refl _)
   | (with_reducible exact LeO.none _)
   | (with_reducible refine LeO.ite ?_ ?_)
   | (with_reducible refine LeO.bind ?_ (fun _ => ?_))
   | exact ih0 _ _
   | exact ih1 _ _ _
   | exact ih2 _ _ _
   | exact LeO.none _
   | refine LeO.ite ?_ ?_
   | refine LeO.bind ?_ (fun _ => ?_)
  ·intro y0 y1 y2
   unfold spec_l1Deep.l0
   repeat' first
   | (with_reducible exact ih0 _ _)
   | (with_reducible exact ih1 _ _ _)
   | (with_reducible exact ih2 _ _ _)
   | (with_reducible exact LeO.refl _)
   | (with_reducible exact LeO.none _)
   | (with_reducible refine LeO.ite ?_ ?_)
   | (with_reducible refine LeO.bind ?_ (fun _ => ?_))
   | exact ih0 _ _
   | exact ih1 _ _ _
   | exact ih2 _ _ _
   | exact LeO.none _
   | refine LeO.ite ?_ ?_
   | refine LeO.bind ?_ (fun _ => ?_)
theorem spec_l1Deep.mono : ∀ a0 a1 k, LeO (spec_l1Deep.f k a0 a1) (spec_l1Deep.f (k + 1) a0 a1) := by
 intro a0 a1 k
 obtain ⟨ih0, ih1, ih2⟩ := spec_l1Deep.mono_l k
 exact ih0 a0 a1
set_option maxHeartbeats 8000000 in
set_option maxRecDepth 100000 in
theorem spec_l1Deep.calls (k : Nat) : ∀ (A0_0 : Option Addr) (c0_0 : Nat) (l0_0 : List (S50)) (a1 : Int) (r : Bool) (w : World) (hr0_0 : Kd.C k50 w A0_0 l0_0.length l0_0) (hc0_0 : l0_0.length ≤ c0_0) (h : spec_l1Deep.f k l0_0 a1 = some r),
  Calls Try.prog 60 #[.agg #[.slice A0_0 l0_0.length c0_0], .int .i64 a1] w fun e w' => e = .returned (.bool r) ∧ Below w.heap.size w w' := by
 induction k using Nat.strongRecOn with
 | _ k ih =>
 intro A0_0 c0_0 l0_0 a1 r w hr0_0 hc0_0 h
 cases k with
 | zero => exact absurd h (by simp [spec_l1Deep.f])
 | succ k =>
 simp only [spec_l1Deep.f] at h
 have hu50 := Try.underlying50
 have HR0_0 := Aside0.mk hr0_0
 have HC0_0 := Aside0.mk hc0_0
 clear hr0_0 hc0_0
 have HB := Aside0.mk (Below.refl w.heap.size w)
 have H : (if a1 < 1 then (spec_l1Deep.j0 k a1 true l0_0) else (if (l0_0.length : Int) = 0 then (spec_l1Deep.j0 k a1 false l0_0) else (spec_l1Deep.j0 k a1 ((l0_0.length : Int) != 2) l0_0))) = some r := h
 clear h
 have HC3 := Aside0.mk H
 clear H
 go_enter Try.func60, Try.ntmps60
 go_upto_region 1 with (first | ((with_reducible refine gate_dst (N := 2) rfl ?_); (try (refine gate_guard (by rfl) ?_; dsimp only)); refine zbx 2 #[.slice A0_0 l0_0.length c0_0] 50 ?_; intro gb217 hg w4 hbox hb; have BK217 := Aside0.mk hbox; have GW217 := Aside0.mk ((y9 hg HB.out : w.heap.size ≤ gb217)); have GE217 := Aside0.mk ((y9 hg HB.out : w.heap.size ≤ gb217)); replace HB := Aside0.mk (below_step (y5 HB.out) hb); clear hb hbox hg))
 (try simp only [Act.put, List.setIfInBounds_toArray, List.set_cons_zero, List.set_cons_succ])
 go_cut [19] (fun v19 wc => ∃ (kq : Nat) (x19_2 : Bool), v19 = .bool x19_2 ∧ Aside0 (spec_l1Deep.j0 kq a1 x19_2 l0_0 = some r) ∧ Aside0 (kq ≤ k) ∧ Aside0 (wc.heap[gb217]? = some (.cells #[(.slice A0_0 l0_0.length c0_0)] 50 (0, 0))) ∧ Aside0 (Below w.heap.size w wc))
 case first =>
  have H := HC3.out
  clear HC3
  by_cases c5 : a1 < 1
  ·rw [if_pos c5] at H
   have c5b0 : decide (a1 < 1) = true := decide_eq_true c5
   clear c5
   (first | rw [c5b0] | (simp only [i64_w, i32_w]; rw [c5b0]) | skip)
   have H' := Aside0.mk H
   clear H
   go_wp2
   go_meet
   case rel => exact ⟨_, (true), y34, H', ⟨y46⟩, ⟨(y0 BK217.out)⟩, ⟨(y6 HB.out GE217.out)⟩⟩
  ·rw [if_neg c5] at H
   have c5b0 : decide (a1 < 1) = false := decide_eq_false c5
   clear c5
   (first | rw [c5b0] | (simp only [i64_w, i32_w]; rw [c5b0]) | skip)
   by_cases c6 : (l0_0.length : Int) = 0
   ·rw [if_pos c6] at H
    have c6b0 : ((l0_0.length : Int) == 0) = true := beq_iff_eq.mpr c6
    have c6b1 : ((l0_0.length : Int) != 0) = false := bne_eq_false_iff_eq.mpr c6
    clear c6
    have H' := Aside0.mk H
    clear H
    have hcz7_0 := zh BK217
    have hfz7_0 := zfr BK217 0
    go_wp2
    go_meet
    case rel => exact ⟨_, (false), y34, H', ⟨y46⟩, ⟨(y0 BK217.out)⟩, ⟨(y6 HB.out GE217.out)⟩⟩
   ·rw [if_neg c6] at H
    have c6b0 : ((l0_0.length : Int) == 0) = false := beq_eq_false_iff_ne.mpr c6
    have c6b1 : ((l0_0.length : Int) != 0) = true := bne_iff_ne.mpr c6
    have c6b2 : ¬ (l0_0 = []) := fun h_ => c6 (by rw [h_]; rfl)
    have H' := Aside0.mk H
    clear H
    have hcz8_0 := zh BK217
    have hfz8_0 := zfr BK217 0
    go_wp2
    go_meet
    case rel => exact ⟨_, (((l0_0.length : Int) != 2)), y34, H', ⟨y46⟩, ⟨(y0 BK217.out)⟩, ⟨(y6 HB.out GE217.out)⟩⟩
 case rest =>
  clear HC3
  try clear p2
  try clear c5
  try clear c5b0
  try clear c6
  try clear c6b0
  try clear c6b1
  try clear c6b2
  try clear hcz7_0
  try clear hcz8_0
  try clear hfz7_0
  try clear hfz8_0
  obtain ⟨kq, x19_2, rfl, HA, HJ2, BK217, HB⟩ := hcut
  cases kq with
  | zero => exact absurd HA.out (by simp [spec_l1Deep.j0])
  | succ kj2 =>
   have H := HA.out
   clear HA
   simp only [spec_l1Deep.j0] at H
   by_cases c9 : x19_2 = true
   ·subst c9
    rw [if_pos rfl] at H
    obtain rfl := Option.some.inj H
    go_wp2
    go_ret
    exact ⟨y19, (y6 HB.out GE217.out)⟩
   ·replace c9 := Bool.eq_false_iff.mpr c9
    subst c9
    rw [if_neg (show ¬ (false = true) by decide)] at H
    have H' := Aside0.mk H
    clear H
    go_wp2
    go_loopg [5] kj2 (fun kq v5 w' => ∃ (x5_2 : Int), v5 = .int .i64 x5_2 ∧ Aside0 (spec_l1Deep.l0 kq a1 x5_2 l0_0 = some r) ∧ Aside0 (kq ≤ kj2) ∧ Aside0 (w'.heap[gb217]? = some (.cells #[(.slice A0_0 l0_0.length c0_0)] 50 (0, 0))) ∧ Aside0 (Below w.heap.size w w'))
    case atStart => exact ⟨(0), y34, H', ⟨Nat.le_refl _⟩, ⟨(y0 BK217.out)⟩, ⟨(y6 HB.out GE217.out)⟩⟩
    case round =>
     clear H'
     try clear p2
     try clear c5
     try clear c5b0
     try clear c6
     try clear c6b0
     try clear c6b1
     try clear c6b2
     try clear c9
     try clear hcz7_0
     try clear hcz8_0
     try clear hfz7_0
     try clear hfz8_0
     try clear p2
     (try clear BK217)
     obtain ⟨x5_2, rfl, HA, HK2, BK217, HB⟩ := hrel
     cases gk with
     | zero => exact absurd HA.out (by simp [spec_l1Deep.l0])
     | succ k2 =>
      have H := HA.out
      clear HA
      simp only [spec_l1Deep.l0] at H
      by_cases c10 : x5_2 < (l0_0.length : Int)
      ·rw [if_pos c10] at H
       have c10b0 : decide (x5_2 < (l0_0.length : Int)) = true := decide_eq_true c10
       clear c10
       by_cases c11 : 0 ≤ x5_2
       ·rw [if_pos c11] at H
        have c11b0 : decide (0 ≤ x5_2) = true := decide_eq_true c11
        clear c11
        obtain ⟨t219, A120, H⟩ := ob H
        have A12 := Aside0.mk A120
        clear A120
        by_cases c13 : t219 = true
        ·subst c13
         rw [if_pos rfl] at H
         have H' := Aside0.mk H
         clear H
         have hcz14_0 := zh BK217
         have hfz14_0 := zfr BK217 0
         have p218 : 0 ≤ (x5_2 : Int) := of_decide_eq_true y23
         have q218 : x5_2 < (l0_0.length : Int) := of_decide_eq_true y23
         obtain ⟨ad218, A218_0, c218_0, e218, hx218_0, hl218_0, hi218_0⟩ := at_T50 HR0_0.out x5_2 p218 q218
         cases e218
         replace hx218_0 := (HB.out.cell (World.block_lt_of_cell? w _ hx218_0)).trans hx218_0
         have HR218_0 := Aside0.mk hi218_0
         have HC218_0 := Aside0.mk hl218_0
         clear hi218_0 hl218_0
         replace p218 := eq_true p218
         replace q218 := eq_true q218
         go_wp2_with (first | ((with_reducible refine gate_callee (f := 60) rfl ?_); refine goesL_ (some 34) rfl rfl Try.func60 (by kernel_rfl) rfl #[.agg #[.slice A218_0 ((rd_T50 l0_0 x5_2).f0).length c218_0], .int .i64 (wrap64 (a1 - 1))] rfl y8 ?_; (with_reducible refine (ih k2 (y87 HJ2.out HK2.out) _ _ ((rd_T50 l0_0 x5_2).f0) (wrap64 (a1 - 1)) true _ ?side1 ?side2 A12.out).mono ?_); (case side1 => exact y15 HR218_0.out HB.out); (case side2 => exact HC218_0.out); rintro e w15 ⟨rfl, hb⟩; refine ⟨_, rfl, ?_⟩; replace BK217 := zbb BK217 hb; replace HB := Aside0.mk (below_step (y6 HB.out GE217.out) hb); (try clear hb); (try clear hb2); (try clear hk); (try clear hi)))
         go_roundg k2
         case measure => have := HJ2.out; have := HK2.out; omega
         case rel => exact ⟨(wrap64 (x5_2 + 1)), y34, H', ⟨(y87 HJ2.out HK2.out)⟩, ⟨(y0 BK217.out)⟩, ⟨(y6 HB.out GE217.out)⟩⟩
        ·replace c13 := Bool.eq_false_iff.mpr c13
         subst c13
         rw [if_neg (show ¬ (false = true) by decide)] at H
         obtain rfl := Option.some.inj H
         have hcz16_0 := zh BK217
         have hfz16_0 := zfr BK217 0
         have p218 : 0 ≤ (x5_2 : Int) := of_decide_eq_true y23
         have q218 : x5_2 < (l0_0.length : Int) := of_decide_eq_true y23
         obtain ⟨ad218, A218_0, c218_0, e218, hx218_0, hl218_0, hi218_0⟩ := at_T50 HR0_0.out x5_2 p218 q218
         cases e218
         replace hx218_0 := (HB.out.cell (World.block_lt_of_cell? w _ hx218_0)).trans hx218_0
         have HR218_0 := Aside0.mk hi218_0
         have HC218_0 := Aside0.mk hl218_0
         clear hi218_0 hl218_0
         replace p218 := eq_true p218
         replace q218 := eq_true q218
         go_wp2_with (first | ((with_reducible refine gate_callee (f := 60) rfl ?_); refine goesL_ (some 34) rfl rfl Try.func60 (by kernel_rfl) rfl #[.agg #[.slice A218_0 ((rd_T50 l0_0 x5_2).f0).length c218_0], .int .i64 (wrap64 (a1 - 1))] rfl y8 ?_; (with_reducible refine (ih k2 (y87 HJ2.out HK2.out) _ _ ((rd_T50 l0_0 x5_2).f0) (wrap64 (a1 - 1)) false _ ?side1 ?side2 A12.out).mono ?_); (case side1 => exact y15 HR218_0.out HB.out); (case side2 => exact HC218_0.out); rintro e w17 ⟨rfl, hb⟩; refine ⟨_, rfl, ?_⟩; replace BK217 := zbb BK217 hb; replace HB := Aside0.mk (below_step (y6 HB.out GE217.out) hb); (try clear hb); (try clear hb2); (try clear hk); (try clear hi)))
         go_ret
         exact ⟨y19, (y6 HB.out GE217.out)⟩
       ·rw [if_neg c11] at H
        exact absurd H (by simp)
      ·rw [if_neg c10] at H
       have c10b0 : decide (x5_2 < (l0_0.length : Int)) = false := decide_eq_false c10
       clear c10
       obtain rfl := Option.some.inj H
       have hcz18_0 := zh BK217
       have hfz18_0 := zfr BK217 0
       go_wp2
       go_ret
       exact ⟨y19, (y6 HB.out GE217.out)⟩
end Go.Proofs.Ythfflieeifakdaa.PA
end
section
namespace Go.Proofs.Ythfflieeifakdaa.PA
open Go.RowKit Go.Proofs.YthfflieeifakdaaW.PrintWords Go.Proofs.YthfflieeifakdaaW.PrintLast Go.Proofs.YthfflieeifakdaaW.PrintMore
attribute [local go_sem] max2_int min2_int max_two min_two max_three min_three max_four min_four
set_option linter.unusedVariables false
set_option linter.unusedSimpArgs false
def spec_TypeOk.f (k : Nat) (l0_0 : List (S50)) : Option (Bool) := (spec_l1Deep.f k l0_0 4).bind fun t221 => (some t221)
theorem spec_TypeOk.mono : ∀ a0 k, LeO (spec_TypeOk.f k a0) (spec_TypeOk.f (k + 1) a0) := by
 intro a0 k
 unfold spec_TypeOk.f
 repeat' first
   | (with_reducible exact spec_l1Deep.mono _ _ _)
   | (with_reducible exact LeO.refl _)
   | (with_reducible exact LeO.none _)
   | (with_reducible refine LeO.ite ?_ ?_)
   | (with_reducible refine LeO.bind ?_ (fun _ => ?_))
   | exact spec_l1Deep.mono _ _ _
   | exact LeO.none _
   | refine LeO.ite ?_ ?_
   | refine LeO.bind ?_ (fun _ => ?_)
set_option maxHeartbeats 8000000 in
set_option maxRecDepth 100000 in
theorem spec_TypeOk.calls (k : Nat) (A0_0 : Option Addr) (c0_0 : Nat) (l0_0 : List (S50)) (r : Bool) (w : World) (hr0_0 : Kd.C k50 w A0_0 l0_0.length l0_0) (hc0_0 : l0_0.length ≤ c0_0) (h : spec_TypeOk.f k l0_0 = some r) :
  Calls Try.prog 53 #[.agg #[.slice A0_0 l0_0.length c0_0]] w fun e w' => e = .returned (.bool r) ∧ Below w.heap.size w w' := by
 have hu50 := Try.underlying50
 have HR0_0 := Aside0.mk hr0_0
 have HC0_0 := Aside0.mk hc0_0
 clear hr0_0 hc0_0
 have HB := Aside0.mk (Below.refl w.heap.size w)
 have H : ((spec_l1Deep.f k l0_0 4).bind fun t221 => (some t221)) = some r := h
 clear h
 obtain ⟨t221, A20, H⟩ := ob H
 have A2 := Aside0.mk A20
 clear A20
 obtain rfl := Option.some.inj H
 go_enter Try.func53, Try.ntmps53
 go_wp2_with (first | ((with_reducible refine gate_dst (N := 1) rfl ?_); refine zbx 1 #[.slice A0_0 l0_0.length c0_0] 50 ?_; intro gb220 hg w3 hbox hb; have BK220 := Aside0.mk hbox; have GW220 := Aside0.mk ((y9 hg HB.out : w.heap.size ≤ gb220)); have GE220 := Aside0.mk ((y9 hg HB.out : w.heap.size ≤ gb220)); replace HB := Aside0.mk (below_step (y5 HB.out) hb); clear hb hbox hg; have hcz4_0 := zh BK220; have hfz4_0 := zfr BK220 0) | ((with_reducible refine gate_callee (f := 60) rfl ?_); refine goesL_ (some 4) rfl rfl Try.func60 (by kernel_rfl) rfl #[.agg #[.slice A0_0 l0_0.length c0_0], .int .i64 4] rfl y8 ?_; (with_reducible refine (spec_l1Deep.calls k _ _ l0_0 4 t221 _ ?side1 ?side2 A2.out).mono ?_); (case side1 => exact y15 HR0_0.out HB.out); (case side2 => exact HC0_0.out); rintro e w5 ⟨rfl, hb⟩; refine ⟨_, rfl, ?_⟩; replace BK220 := zbb BK220 hb; replace HB := Aside0.mk (below_step (y6 HB.out GE220.out) hb); (try clear hb); (try clear hb2); (try clear hk); (try clear hi)))
 go_ret
 exact ⟨y19, (y6 HB.out GE220.out)⟩
end Go.Proofs.Ythfflieeifakdaa.PA
end
section
namespace Go.Proofs.Ythfflieeifakdaa.PA
open Go.RowKit Go.Proofs.YthfflieeifakdaaW.PrintWords Go.Proofs.YthfflieeifakdaaW.PrintLast Go.Proofs.YthfflieeifakdaaW.PrintMore
attribute [local go_sem] max2_int min2_int max_two min_two max_three min_three max_four min_four
set_option linter.unusedVariables false
set_option linter.unusedSimpArgs false
def spec_l6In.f (a0 : Int) (a1 : Int) (a2 : Int) : Option (Bool) := if a0 ≥ a1 then (some (decide (a0 ≤ a2))) else (some false)
set_option maxHeartbeats 8000000 in
set_option maxRecDepth 100000 in
theorem spec_l6In.calls (a0 : Int) (a1 : Int) (a2 : Int) (r : Bool) (w : World) (h : spec_l6In.f a0 a1 a2 = some r) :
  Calls Try.prog 36 #[.int .i64 a0, .int .i64 a1, .int .i64 a2] w fun e w' => e = .returned (.bool r) ∧ Drawn0 w w' := by
 have H : (if a0 ≥ a1 then (some (decide (a0 ≤ a2))) else (some false)) = some r := h
 clear h
 by_cases c4 : a0 ≥ a1
 ·rw [if_pos c4] at H
  have c4b0 : decide (a1 ≤ a0) = true := decide_eq_true c4
  clear c4
  obtain rfl := Option.some.inj H
  go_enter Try.func36, Try.ntmps36
  go_wp2
  go_ret
  exact ⟨y34, y62⟩
 ·rw [if_neg c4] at H
  have c4b0 : decide (a1 ≤ a0) = false := decide_eq_false c4
  clear c4
  obtain rfl := Option.some.inj H
  go_enter Try.func36, Try.ntmps36
  go_wp2
  go_ret
  exact ⟨y34, y62⟩
end Go.Proofs.Ythfflieeifakdaa.PA
end
section
namespace Go.Proofs.Ythfflieeifakdaa.PA
open Go.RowKit Go.Proofs.YthfflieeifakdaaW.PrintWords Go.Proofs.YthfflieeifakdaaW.PrintLast Go.Proofs.YthfflieeifakdaaW.PrintMore
attribute [local go_sem] max2_int min2_int max_two min_two max_three min_three max_four min_four
set_option linter.unusedVariables false
set_option linter.unusedSimpArgs false
mutual
def spec_l1Copy.l0 : Nat → Int → List (S50) → List (S50) → Option ((List (S50)))
 | 0, _, _, _ => none
 | k + 1, x4, x575000, x577000 => if x4 < (x575000.length : Int) then (if 0 ≤ x4 then ((spec_l1Copy.f k ((rd_T50 x575000 x4).f0)).bind fun t578 => (if x577000.length < 5864062014805 then (spec_l1Copy.l0 k (wrap64 (x4 + 1)) x575000 (x577000 ++ [(⟨t578⟩ : S50)])) else (none))) else (none)) else (some x577000)
def spec_l1Copy.f : Nat → List (S50) → Option ((List (S50)))
 | 0, _ => none
 | k + 1, l0_0 => spec_l1Copy.l0 k 0 l0_0 ([] : List (S50))
end
theorem spec_l1Copy.mono_l : ∀ k, (∀ y0, LeO (spec_l1Copy.f k y0) (spec_l1Copy.f (k + 1) y0)) ∧ (∀ y0 y1 y2, LeO (spec_l1Copy.l0 k y0 y1 y2) (spec_l1Copy.l0 (k + 1) y0 y1 y2))
 | 0 => ⟨fun _ r h => by simp [spec_l1Copy.f] at h, fun _ _ _ r h => by simp [spec_l1Copy.l0] at h⟩
 | k + 1 => by
  obtain ⟨ih0, ih1⟩ := spec_l1Copy.mono_l k
  refine ⟨?_, ?_⟩
  ·intro y0
   unfold spec_l1Copy.f
   repeat' first
   | (with_reducible exact ih0 _)
   | (with_reducible exact ih1 _ _ _)
   | (with_reducible exact LeO.refl _)
   | (with_reducible exact LeO.none _)
   | (with_reducible refine LeO.ite ?_ ?_)
   | (with_reducible refine LeO.bind ?_ (fun _ => ?_))
   | exact ih0 _
   | exact ih1 _ _ _
   | exact LeO.none _
   | refine LeO.ite ?_ ?_
   | refine LeO.bind ?_ (fun _ => ?_)
  ·intro y0 y1 y2
   unfold spec_l1Copy.l0
   repeat' first
   | (with_reducible exact ih0 _)
   | (with_reducible exact ih1 _ _ _)
   | (with_reducible exact LeO.refl _)
   | (with_reducible exact LeO.none _)
   | (with_reducible refine LeO.ite ?_ ?_)
   | (with_reducible refine LeO.bind ?_ (fun _ => ?_))
   | exact ih0 _
   | exact ih1 _ _ _
   | exact LeO.none _
   | refine LeO.ite ?_ ?_
   | refine LeO.bind ?_ (fun _ => ?_)
theorem spec_l1Copy.mono : ∀ a0 k, LeO (spec_l1Copy.f k a0) (spec_l1Copy.f (k + 1) a0) := by
 intro a0 k
 obtain ⟨ih0, ih1⟩ := spec_l1Copy.mono_l k
 exact ih0 a0
def spec_l1Copy.T5 : Bool × List (List Nat × List Nat) := (true, [([], []), ([0], [0]), ([], []), ([2], [2]), ([], []), ([3, 4], [3, 4]), ([5], [5]), ([6], [6]), ([7], [7]), ([1, 8, 7], [1, 8]), ([0, 1, 2, 3, 4, 5, 6, 7, 8, 9], []), ([10, 9, 9, 0, 1, 2, 3, 4, 5, 6, 7, 8, 9], [9, 10])])
def spec_l1Copy.B5 : List Nat := [0, 1, 0, 4, 0, 28, 60, 124, 252, 511, 1023, 2047]
theorem spec_l1Copy.tab5 : rtab .any (opsOf Try.f58 5) = spec_l1Copy.T5 := by kernel_rfl
theorem spec_l1Copy.bits5 : waitsOk spec_l1Copy.T5.2 spec_l1Copy.B5 = true := by kernel_rfl
set_option maxHeartbeats 8000000 in
set_option maxRecDepth 100000 in
theorem spec_l1Copy.calls (k : Nat) : ∀ (A0_0 : Option Addr) (c0_0 : Nat) (l0_0 : List (S50)) (r : List (S50)) (w : World) (hr0_0 : Kd.C k50 w A0_0 l0_0.length l0_0) (hc0_0 : l0_0.length ≤ c0_0) (h : spec_l1Copy.f k l0_0 = some r),
  Calls Try.prog 58 #[.agg #[.slice A0_0 l0_0.length c0_0]] w fun e w' => ∃ v0_ : Value, e = .returned (.agg #[v0_]) ∧ Kd.R k50 50 w' w.heap.size (fun _ => True) v0_ r ∧ Below w.heap.size w w' := by
 induction k using Nat.strongRecOn with
 | _ k ih =>
 intro A0_0 c0_0 l0_0 r w hr0_0 hc0_0 h
 cases k with
 | zero => exact absurd h (by simp [spec_l1Copy.f])
 | succ k =>
 simp only [spec_l1Copy.f] at h
 have hu50 := Try.underlying50
 have HR0_0 := Aside0.mk hr0_0
 have HC0_0 := Aside0.mk hc0_0
 clear hr0_0 hc0_0
 have HB := Aside0.mk (Below.refl w.heap.size w)
 have H : (spec_l1Copy.l0 k 0 l0_0 ([] : List (S50))) = some r := h
 clear h
 have H' := Aside0.mk H
 clear H
 go_enter Try.func58, Try.ntmps58
 go_wp2_with (first | ((with_reducible refine gate_dst (N := 1) rfl ?_); refine zbx 1 #[.slice A0_0 l0_0.length c0_0] 50 ?_; intro gb574 hg w2 hbox hb; have BK574 := Aside0.mk hbox; have GW574 := Aside0.mk ((y9 hg HB.out : w.heap.size ≤ gb574)); have GE574 := Aside0.mk ((y9 hg HB.out : w.heap.size ≤ gb574)); replace HB := Aside0.mk (below_step (y5 HB.out) hb); clear hb hbox hg) | ((with_reducible refine gate_dst (N := 2) rfl ?_); refine zbx 2 #[.slice none 0 0] 50 ?_; intro gb575 hg w3 hbox hb; have BK575 := Aside0.mk hbox; have GW575 := Aside0.mk ((y11 hg HB.out GE574.out : w.heap.size ≤ gb575)); have GE575 := Aside0.mk ((y11 hg HB.out GE574.out : w.heap.size ≤ gb575)); replace HB := Aside0.mk (below_step (y6 HB.out GE574.out) hb); have NB574_575 := zltn hg BK574; have NB575_574 := zgtn hg BK574; replace BK574 := zbb BK574 hb; clear hb hbox hg) | ((with_reducible refine gate_dst (N := 3) rfl ?_); refine zbx 3 #[.slice none 0 0] 50 ?_; intro gb576 hg w4 hbox hb; have BK576 := Aside0.mk hbox; have GW576 := Aside0.mk ((y16 hg HB.out GE574.out GE575.out : w.heap.size ≤ gb576)); have GE576 := Aside0.mk ((y16 hg HB.out GE574.out GE575.out : w.heap.size ≤ gb576)); replace HB := Aside0.mk (below_step (y2 HB.out GE574.out GE575.out) hb); have NB574_576 := zltn hg BK574; have NB576_574 := zgtn hg BK574; replace BK574 := zbb BK574 hb; have NB575_576 := zltn hg BK575; have NB576_575 := zgtn hg BK575; replace BK575 := zbb BK575 hb; clear hb hbox hg; have hnb5 := NB576_574.out; have hnc5 := NB574_576.out; have hnb6 := NB576_575.out; have hnc6 := NB575_576.out; have hcz7_0 := zh BK576; have hfz7_0 := zfr BK576 0))
 go_loopg [4] k (fun kq v4 w' => ∃ (x4_1 : Int) (x577000_1 : List (S50)) (u577000 : Value), v4 = .int .i64 x4_1 ∧ Aside0 (spec_l1Copy.l0 kq x4_1 l0_0 x577000_1 = some r) ∧ Aside0 (kq ≤ k) ∧ Aside0 (Kd.R k50 50 w' w.heap.size (fun k_ => k_ ≠ gb574 ∧ k_ ≠ gb575 ∧ k_ ≠ gb576) u577000 x577000_1) ∧ Aside0 (w'.heap[gb574]? = some (.cells #[(.slice A0_0 l0_0.length c0_0)] 50 (0, 0))) ∧ Aside0 (w'.heap[gb575]? = some (.cells #[(.slice none 0 0)] 50 (0, 0))) ∧ Aside0 (w'.heap[gb576]? = some (.cells #[u577000] 50 (0, 0))) ∧ Aside0 (Below w.heap.size w w'))
 case atStart => exact ⟨(0), (([] : List (S50))), (.slice none 0 0), y34, H', ⟨Nat.le_refl _⟩, ⟨y37⟩, ⟨(y13 NB574_576.out BK574.out)⟩, ⟨(y13 NB575_576.out BK575.out)⟩, ⟨(by (with_reducible repeat (first | refine blk_drewN ?_ _ | refine blk_drew ?_ | refine blk_alloc ?_ _)); refine blk_put (cs := #[.slice none 0 0]) ?_ 0 _ rfl; (with_reducible repeat (first | refine blk_drewN ?_ _ | refine blk_drew ?_ | refine blk_alloc ?_ _)); exact BK576.out)⟩, ⟨(y4 HB.out GE574.out GE575.out GE576.out)⟩⟩
 case round =>
  clear H'
  try clear p2
  try clear c5
  try clear c6
  try clear hcz7_0
  try clear hfz7_0
  (try clear BK574); (try clear BK575); (try clear BK576)
  obtain ⟨x4_1, x577000_1, u577000, rfl, HA, HK1, HO_577000, BK574, BK575, BK576, HB⟩ := hrel
  cases gk with
  | zero => exact absurd HA.out (by simp [spec_l1Copy.l0])
  | succ k1 =>
   have H := HA.out
   clear HA
   simp only [spec_l1Copy.l0] at H
   by_cases c8 : x4_1 < (l0_0.length : Int)
   ·rw [if_pos c8] at H
    have c8b0 : decide (x4_1 < (l0_0.length : Int)) = true := decide_eq_true c8
    clear c8
    by_cases c9 : 0 ≤ x4_1
    ·rw [if_pos c9] at H
     have c9b0 : decide (0 ≤ x4_1) = true := decide_eq_true c9
     clear c9
     obtain ⟨t578, A100, H⟩ := ob H
     have A10 := Aside0.mk A100
     clear A100
     by_cases c11 : x577000_1.length < 5864062014805
     ·rw [if_pos c11] at H
      have LMc11 := Aside0.mk c11
      clear c11
      obtain ⟨y581, hy581⟩ : ∃ y_ : List (S50), y_ = (x577000_1 ++ [(⟨t578⟩ : S50)]) := ⟨_, rfl⟩
      replace H : (spec_l1Copy.l0 k1 (wrap64 (x4_1 + 1)) l0_0 y581) = some r := by first | (rw [hy581]; with_reducible exact H) | (have H2_ := (Option.bind_some _ _).symm.trans H; rw [hy581]; with_reducible exact H2_) | (have H2_ := (Option.bind_some _ _).symm.trans H; with_reducible exact H2_) | with_reducible exact H | (rw [hy581]; exact H) | exact H
      have Ny581 := Aside0.mk hy581
      clear hy581
      have H' := Aside0.mk H
      clear H
      have hnb12 := NB574_575.out
      have hnc12 := NB575_574.out
      have hnb13 := NB574_576.out
      have hnc13 := NB576_574.out
      have hcz14_0 := zh BK574
      have hfz14_0 := zfr BK574 0
      try go_wp2
      replace HO_577000 := Aside0.mk (Kd.R_drew HO_577000.out)
      replace BK574 := Aside0.mk (blk_drew BK574.out)
      replace BK575 := Aside0.mk (blk_drew BK575.out)
      replace BK576 := Aside0.mk (blk_drew BK576.out)
      replace HB := Aside0.mk (below_drew1 HB.out)
      have p577 : 0 ≤ (x4_1 : Int) := of_decide_eq_true y23
      have q577 : x4_1 < (l0_0.length : Int) := of_decide_eq_true y23
      obtain ⟨ad577, A577_0, c577_0, e577, hx577_0, hl577_0, hi577_0⟩ := at_T50 HR0_0.out x4_1 p577 q577
      have hw577_0 := hx577_0
      cases e577
      replace hx577_0 := (HB.out.cell (World.block_lt_of_cell? w _ hx577_0)).trans hx577_0
      have HR577_0 := Aside0.mk hi577_0
      have HC577_0 := Aside0.mk hl577_0
      clear hi577_0 hl577_0
      replace p577 := eq_true p577
      replace q577 := eq_true q577
      refine start_ (n := 12) (S := fun w' => w'.cell? ⟨gb576, 0, none⟩ = some (u577000) ∧ w'.cell? ⟨gb574, 0, none⟩ = some (.slice (some ad577) l0_0.length c0_0) ∧ w'.cell? (ad577.add (x4_1).toNat) = some (.slice A577_0 ((rd_T50 l0_0 x4_1).f0).length c577_0)) (ds := [11]) #[false, false, false, false, false, false, false, false, false, false, false, false] (by kernel_rfl) rfl rfl ⟨(blk_cell BK576.out 0).trans rfl, (blk_cell BK574.out 0).trans rfl, ((HB.out.cell (World.block_lt_of_cell? w _ hw577_0)).trans hw577_0)⟩ (fun hHeld => ?_); refine with_tabW spec_l1Copy.tab5 spec_l1Copy.bits5 (fun HT_ HW_ => ?_)
      generalize wr.drew = w15 at HO_577000 BK574 BK575 BK576 HB HR577_0 hx577_0 hHeld ⊢
      refine zp 0 (some 13) HT_ ?_
      refine zp 2 (some 15) HT_ ?_
      refine zp 4 (some 17) HT_ ?_
      refine zt3 1 (some 14) HT_ HW_ hHeld ?_
      refine zt3 3 (some 16) HT_ HW_ hHeld ?_
      refine zp 5 (some 18) HT_ ?_
      refine zt3 6 (some 19) HT_ HW_ hHeld ?_
      refine one_ (i := 7) (N := some 20) #[true, true, true, true, true, true, true, true, false, false, false, false] rfl rfl (one_of HT_.out (by kernel_rfl)) (by decide) (fun K hK => ?_)
      refine goes_ Try.func58 (by kernel_rfl) rfl #[.agg #[.slice A577_0 ((rd_T50 l0_0 x4_1).f0).length c577_0]] (by rfl) rfl rfl y8 ?_
      with_reducible refine (ih k1 (y57 HK1.out) _ _ ((rd_T50 l0_0 x4_1).f0) t578 _ ?side1 ?side2 A10.out).mono ?_
      (case side1 => exact y15 HR577_0.out HB.out)
      (case side2 => exact HC577_0.out)
      rintro e w16 ⟨v579, rfl, ho0, hb⟩
      refine ⟨_, rfl, ?_⟩
      have HO580 := Aside0.mk (Kd.R_lower (Kd.R_newB (Kd.R_newB (Kd.R_newB (Kd.R_new' ho0 (Kd.R_lt (y12 HO_577000.out))) (g := gb574) (o := .cells #[.slice (some ad577) l0_0.length c0_0] 50 (0, 0)) (y0 BK574.out)) (g := gb575) (o := .cells #[.slice none 0 0] 50 (0, 0)) (y0 BK575.out)) (g := gb576) (o := .cells #[u577000] 50 (0, 0)) (y0 BK576.out)) (below_size (y4 HB.out GE574.out GE575.out GE576.out)))
      replace HO_577000 := Aside0.mk (Kd.R_elder' (y12 HO_577000.out) (Kd.R_base ho0) hb)
      replace BK574 := zbb BK574 hb
      replace BK575 := zbb BK575 hb
      replace BK576 := zbb BK576 hb
      replace HB := Aside0.mk (below_step (y4 HB.out GE574.out GE575.out GE576.out) hb)
      (try clear hb)
      (try clear hb2)
      (try clear hk)
      (try clear hi)
      (try clear ho0)
      obtain ⟨Ao18, co18, eo18⟩ := Kd.R_slice HO580.out
      (first | subst eo18 | (injection eo18 with f1_ f2_ f3_; have f4_ := f1_.symm; have f5_ := f3_.symm; clear f1_ f2_ f3_; subst f4_; subst f5_))
      refine hK.out _ _ ⟨(blk_cell BK576.out 0).trans rfl, (blk_cell BK574.out 0).trans rfl, ((HB.out.cell (World.block_lt_of_cell? w _ hw577_0)).trans hw577_0)⟩ (fun hHeld => ?_)
      clear hK K
      refine norm_ (a' := ?_) ?_ ?_
      rotate_left
      ·show Act.put _ (some 20) _ = _
       simp only [Act.put, List.setIfInBounds_toArray, List.set_cons_zero, List.set_cons_succ, i64_w, i32_w]
       rfl
      refine one_ (i := 8) (N := some 21) #[true, true, true, true, true, true, true, true, true, false, false, false] rfl rfl (one_of HT_.out (by kernel_rfl)) (by decide) (fun K hK => ?_)
      refine value_ (w1 := ?_) (v := ?_) (by rfl) rfl ?_ ?_
      rotate_left 2
      ·go_simp
       constructor
       ·rfl
       ·rfl
      refine hK.out _ _ ⟨(blk_cell (blk_alloc BK576.out _) 0).trans rfl, (blk_cell (blk_alloc BK574.out _) 0).trans rfl, (World.cell?_alloc_lt _ _ _ (World.block_lt_of_cell? _ _ (((HB.out.cell (World.block_lt_of_cell? w _ hw577_0)).trans hw577_0)))).trans (((HB.out.cell (World.block_lt_of_cell? w _ hw577_0)).trans hw577_0))⟩ (fun hHeld => ?_)
      clear hK K
      refine norm_ (a' := ?_) ?_ ?_
      rotate_left
      ·show Act.put _ (some 21) _ = _
       simp only [Act.put, List.setIfInBounds_toArray, List.set_cons_zero, List.set_cons_succ, i64_w, i32_w]
       rfl
      refine one_ (i := 9) (N := some 22) #[true, true, true, true, true, true, true, true, true, true, false, false] rfl rfl (one_of HT_.out (by kernel_rfl)) (by decide) (fun K hK => ?_)
      refine Kd.R_append_step k50 (w0 := w) w.heap.size (by rfl) (.tmp 14) (.tmp 21) 48 50 (.agg #[(.slice none 0 0)]) 24 rfl Try.underlying48 info50 rfl (by decide) (by omega) u577000 x577000_1 (⟨t578⟩ : S50) [.slice Ao18 t578.length co18] (fun k_ => k_ ≠ gb574 ∧ k_ ≠ gb575 ∧ k_ ≠ gb576) (fun k_ => ((fun k_ => k_ ≠ gb574 ∧ k_ ≠ gb575 ∧ k_ ≠ gb576)) k_ ∧ some k_ ≠ (u577000 : Value).ownBlock) rfl rfl ?aP (fun _ hk => hk) ?aF ?aO ?aB ?aS ?aL ?_
      (case aP => exact k50_mkM _ _ _ (⟨t578⟩ : S50) (Kd.R_mono (HO580.out) (fun k_ hk => ⟨⟨hk.1.1.2, ⟨hk.1.2, hk.2⟩⟩, hk.1.1.1.2⟩)))
      (case aB => exact y78 HB.out GE574.out GE575.out GE576.out)
      (case aF => exact (fun k_ hk => ⟨Kd.freshB (g := gb574) (o := .cells #[.slice (some ad577) l0_0.length c0_0] 50 (0, 0)) (y0 BK574.out) k_ hk, Kd.freshB (g := gb575) (o := .cells #[.slice none 0 0] 50 (0, 0)) (y0 BK575.out) k_ hk, Kd.freshB (g := gb576) (o := .cells #[u577000] 50 (0, 0)) (y0 BK576.out) k_ hk⟩))
      (case aO => exact y91 HO_577000.out)
      (case aS => exact y73 HB.out GE574.out GE575.out GE576.out)
      (case aL => exact y57 LMc11.out)
      intro v582 w17 ho hb hg hat
      rw [← Ny581.out] at ho
      replace BK574 := Aside0.mk (blk_grown (g := gb574) (o := .cells #[.slice (some ad577) l0_0.length c0_0] 50 (0, 0)) (y0 BK574.out) hg (Kd.R_away HO_577000.out (fun _ hk => hk.1.1)))
      replace BK575 := Aside0.mk (blk_grown (g := gb575) (o := .cells #[.slice none 0 0] 50 (0, 0)) (y0 BK575.out) hg (Kd.R_away HO_577000.out (fun _ hk => hk.1.2.1)))
      replace BK576 := Aside0.mk (blk_grown (g := gb576) (o := .cells #[u577000] 50 (0, 0)) (y0 BK576.out) hg (Kd.R_away HO_577000.out (fun _ hk => hk.1.2.2)))
      replace HB := Aside0.mk (hb)
      have HO583 := Aside0.mk (ho)
      clear HO580 HO_577000
      clear ho hb hg hat
      obtain ⟨Ao19, co19, eo19⟩ := Kd.R_slice HO583.out
      (first | subst eo19 | (injection eo19 with f1_ f2_ f3_; have f4_ := f1_.symm; have f5_ := f3_.symm; clear f1_ f2_ f3_; subst f4_; subst f5_))
      refine hK.out _ _ ⟨(blk_cell BK576.out 0).trans rfl, (blk_cell BK574.out 0).trans rfl, ((HB.out.cell (World.block_lt_of_cell? w _ hw577_0)).trans hw577_0)⟩ (fun hHeld => ?_)
      clear hK K
      refine norm_ (a' := ?_) ?_ ?_
      rotate_left
      ·show Act.put _ (some 22) _ = _
       simp only [Act.put, List.setIfInBounds_toArray, List.set_cons_zero, List.set_cons_succ, i64_w, i32_w]
       rfl
      refine zp 10 (some 23) HT_ ?_
      refine last_ (i := 11) (N := none) #[true, true, true, true, true, true, true, true, true, true, true, true] rfl rfl (one_of HT_.out (by kernel_rfl)) (by decide) (fun K hK => ?_)
      have hs20 : w17.cell? ⟨gb576, 0, none⟩ = some (u577000) := (blk_cell BK576.out 0).trans rfl
      have hfs20 := zfr BK576 0
      have hns20_0 := NB574_576.out
      have hns20_1 := NB575_576.out
      have hms20_0 := NB576_574.out
      have hms20_1 := NB576_575.out
      refine skip_ (w1 := ?_) (by rfl) rfl ?_ ?_
      rotate_left
      ·go_simp
       rfl
      refine hK.out _ _ ?_
      clear hK K
      refine done_ (done_of HT_.out (by kernel_rfl)) ?_
      try go_wp2
      go_roundg k1
      case measure => have := HK1.out; omega
      case rel => exact ⟨(wrap64 (x4_1 + 1)), (y581), (.slice Ao19 y581.length co19), y34, H', ⟨(y57 HK1.out)⟩, ⟨(by (with_reducible repeat (first | apply Kd.R_alloc | apply Kd.R_drewN | apply Kd.R_drew)); exact Kd.R_mono (Kd.R_far (p := ⟨gb576, 0, none⟩) (Kd.R_mono HO583.out (fun k_ hk => (⟨hk, hk.2.2⟩ : _ ∧ k_ ≠ gb576))) (fun _ hk => hk.2) (.slice Ao19 y581.length co19)) (fun _ hk => ⟨hk.1.1, ⟨hk.1.2.1, hk.1.2.2⟩⟩))⟩, ⟨(y13 NB574_576.out BK574.out)⟩, ⟨(y13 NB575_576.out BK575.out)⟩, ⟨(by (with_reducible repeat (first | refine blk_drewN ?_ _ | refine blk_drew ?_ | refine blk_alloc ?_ _)); refine blk_put (cs := #[u577000]) ?_ 0 _ rfl; (with_reducible repeat (first | refine blk_drewN ?_ _ | refine blk_drew ?_ | refine blk_alloc ?_ _)); exact BK576.out)⟩, ⟨(y4 HB.out GE574.out GE575.out GE576.out)⟩⟩
     ·rw [if_neg c11] at H
      exact absurd H (by simp)
    ·rw [if_neg c9] at H
     exact absurd H (by simp)
   ·rw [if_neg c8] at H
    have c8b0 : decide (x4_1 < (l0_0.length : Int)) = false := decide_eq_false c8
    clear c8
    obtain rfl := Option.some.inj H
    have hnb21 := NB574_575.out
    have hnc21 := NB575_574.out
    have hnb22 := NB574_576.out
    have hnc22 := NB576_574.out
    have hcz23_0 := zh BK574
    have hfz23_0 := zfr BK574 0
    have hnb24 := NB576_575.out
    have hnc24 := NB575_576.out
    have hcz25_0 := zh BK576
    have hfz25_0 := zfr BK576 0
    obtain ⟨Ao26, co26, eo26⟩ := Kd.R_slice HO_577000.out
    subst eo26
    have hcz27_0 := zh BK575
    have hfz27_0 := zfr BK575 0
    go_wp2
    refine bodyPost_ret (results_cell_row rfl _ _ gb575 50 #[.slice Ao26 x577000_1.length co26] (0, 0) _ rfl (by (with_reducible repeat (first | refine blk_drewN ?_ _ | refine blk_drew ?_ | refine blk_alloc ?_ _)); apply blk_put (i := 0); (case h => exact y0 BK575.out); (case e => rfl)) Try.underlying50 rfl (by kernel_rfl)) rfl ?_
    exact ⟨_, y19, (by (with_reducible repeat (first | apply Kd.R_alloc | apply Kd.R_drewN | apply Kd.R_drew)); exact Kd.R_mono (Kd.R_far (p := ⟨gb575, 0, none⟩) (Kd.R_mono HO_577000.out (fun k_ hk => (⟨hk, hk.2.1⟩ : _ ∧ k_ ≠ gb575))) (fun _ hk => hk.2) (.slice Ao26 x577000_1.length co26)) (fun _ hk => trivial)), (y4 HB.out GE574.out GE575.out GE576.out)⟩
end Go.Proofs.Ythfflieeifakdaa.PA
end
section
namespace Go.Proofs.Ythfflieeifakdaa.PA
open Go.RowKit Go.Proofs.YthfflieeifakdaaW.PrintWords Go.Proofs.YthfflieeifakdaaW.PrintLast Go.Proofs.YthfflieeifakdaaW.PrintMore
attribute [local go_sem] max2_int min2_int max_two min_two max_three min_three max_four min_four
set_option linter.unusedVariables false
set_option linter.unusedSimpArgs false
def spec_TypeAt.l0 : Nat → List Int → Int → List (S50) → Option ((List (S50)) × Bool)
 | 0, _, _, _ => none
 | k + 1, x1, x6, x585000 => if x6 < (x1.length : Int) then (if 0 ≤ x6 then ((spec_l6In.f (rd x1 x6) 0 (wrap64 ((x585000.length : Int) - 1))).bind fun t588 => (if t588 = true then (if 0 ≤ (rd x1 x6) then (if (rd x1 x6) < (x585000.length : Int) then (spec_TypeAt.l0 k x1 (wrap64 (x6 + 1)) ((rd_T50 x585000 (rd x1 x6)).f0)) else (none)) else (none)) else (some (([] : List (S50)), false)))) else (none)) else ((spec_l1Copy.f k x585000).bind fun t591 => (some (t591, true)))
def spec_TypeAt.f (k : Nat) (l0_0 : List (S50)) (l1 : List Int) : Option ((List (S50)) × Bool) := (spec_TypeOk.f k l0_0).bind fun t586 => (if t586 = true then (spec_TypeAt.l0 k l1 0 l0_0) else (some (([] : List (S50)), false)))
theorem spec_TypeAt.mono_l : ∀ k, (∀ y0 y1 y2, LeO (spec_TypeAt.l0 k y0 y1 y2) (spec_TypeAt.l0 (k + 1) y0 y1 y2))
 | 0 => fun _ _ _ r h => by simp [spec_TypeAt.l0] at h
 | k + 1 => by
  have ih0 := spec_TypeAt.mono_l k
  ·intro y0 y1 y2
   unfold spec_TypeAt.l0
   repeat' first
   | (with_reducible exact ih0 _ _ _)
   | (with_reducible exact spec_TypeOk.mono _ _)
   | (with_reducible exact spec_l1Copy.mono _ _)
   | (with_reducible exact LeO.refl _)
   | (with_reducible exact LeO.none _)
   | (with_reducible refine LeO.ite ?_ ?_)
   | (with_reducible refine LeO.bind ?_ (fun _ => ?_))
   | exact ih0 _ _ _
   | exact spec_TypeOk.mono _ _
   | exact spec_l1Copy.mono _ _
   | exact LeO.none _
   | refine LeO.ite ?_ ?_
   | refine LeO.bind ?_ (fun _ => ?_)
theorem spec_TypeAt.mono : ∀ a0 a1 k, LeO (spec_TypeAt.f k a0 a1) (spec_TypeAt.f (k + 1) a0 a1) := by
 intro a0 a1 k
 have ih0 := spec_TypeAt.mono_l k
 unfold spec_TypeAt.f
 repeat' first
   | (with_reducible exact ih0 _ _ _)
   | (with_reducible exact spec_TypeOk.mono _ _)
   | (with_reducible exact spec_l1Copy.mono _ _)
   | (with_reducible exact LeO.refl _)
   | (with_reducible exact LeO.none _)
   | (with_reducible refine LeO.ite ?_ ?_)
   | (with_reducible refine LeO.bind ?_ (fun _ => ?_))
   | exact ih0 _ _ _
   | exact spec_TypeOk.mono _ _
   | exact spec_l1Copy.mono _ _
   | exact LeO.none _
   | refine LeO.ite ?_ ?_
   | refine LeO.bind ?_ (fun _ => ?_)
def spec_TypeAt.T6 : Bool × List (List Nat × List Nat) := (true, [([], []), ([], []), ([0, 1], [0, 1]), ([2], [2]), ([], []), ([4], [4]), ([5], [5]), ([6], [6]), ([3, 7], [3, 7]), ([8], [8])])
def spec_TypeAt.B6 : List Nat := [0, 0, 3, 7, 0, 16, 48, 112, 255, 511]
theorem spec_TypeAt.tab6 : rtab .any (opsOf Try.f48 6) = spec_TypeAt.T6 := by kernel_rfl
theorem spec_TypeAt.bits6 : waitsOk spec_TypeAt.T6.2 spec_TypeAt.B6 = true := by kernel_rfl
def spec_TypeAt.T8 : Bool × List (List Nat × List Nat) := (true, [([], []), ([0], [0]), ([], []), ([], []), ([2, 3], [2, 3]), ([4], [4]), ([1, 5], [1, 5]), ([6], [6]), ([7, 0, 1, 2, 3, 4, 5, 6, 7], [7])])
def spec_TypeAt.B8 : List Nat := [0, 1, 0, 0, 12, 28, 63, 127, 255]
theorem spec_TypeAt.tab8 : rtab .any (opsOf Try.f48 8) = spec_TypeAt.T8 := by kernel_rfl
theorem spec_TypeAt.bits8 : waitsOk spec_TypeAt.T8.2 spec_TypeAt.B8 = true := by kernel_rfl
set_option maxHeartbeats 8000000 in
set_option maxRecDepth 100000 in
theorem spec_TypeAt.calls (k : Nat) (P0_0_ : Nat → Prop) (A0_0 : Option Addr) (c0_0 : Nat) (l0_0 : List (S50)) (A1 : Option Addr) (c1 : Nat) (l1 : List Int) (r1 : List (S50)) (r2 : Bool) (w : World) (hs0_0 : Kd.V k50 50 w w.heap.size (fun k_ => P0_0_ k_) (.slice A0_0 l0_0.length c0_0) l0_0) (hr1 : Kd.C (Kd.int .i64) w A1 l1.length l1) (hc1 : l1.length ≤ c1) (h : spec_TypeAt.f k l0_0 l1 = some (r1, r2)) :
  Calls Try.prog 48 #[.agg #[.slice A0_0 l0_0.length c0_0], .slice A1 l1.length c1] w fun e w' => ∃ v0_ : Value, e = .returned (.tuple #[.agg #[v0_], .bool r2]) ∧ Kd.R k50 50 w' w.heap.size (fun k_ => (w.heap.size ≤ k_)) v0_ r1 ∧ Below w.heap.size w w' := by
 have hu50 := Try.underlying50
 have HO0_0 := Aside0.mk (show Kd.V k50 50 w w.heap.size (fun k_ => (P0_0_ k_ ∨ w.heap.size ≤ k_)) (.slice A0_0 l0_0.length c0_0) l0_0 from Kd.V_mono hs0_0 (fun k_ hk => .inl hk))
 have HR1 := Aside0.mk hr1
 have HC1 := Aside0.mk hc1
 clear hr1 hc1
 have HB := Aside0.mk (Below.refl w.heap.size w)
 have H : ((spec_TypeOk.f k l0_0).bind fun t586 => (if t586 = true then (spec_TypeAt.l0 k l1 0 l0_0) else (some (([] : List (S50)), false)))) = some (r1, r2) := h
 clear h
 obtain ⟨t586, A30, H⟩ := ob H
 have A3 := Aside0.mk A30
 clear A30
 by_cases c4 : t586 = true
 ·subst c4
  rw [if_pos rfl] at H
  have H' := Aside0.mk H
  clear H
  go_enter Try.func48, Try.ntmps48
  go_wp2_with (first | ((with_reducible refine gate_dst (N := 2) rfl ?_); refine zbx 2 #[.slice A0_0 l0_0.length c0_0] 50 ?_; intro gb584 hg w5 hbox hb; replace HO0_0 := Aside0.mk (Kd.V_below (Kd.V_elderB (y10 HO0_0.out) gb584 (Nat.le_of_eq hg.symm)) hb); have BK584 := Aside0.mk hbox; have GW584 := Aside0.mk ((y9 hg HB.out : w.heap.size ≤ gb584)); have GE584 := Aside0.mk ((y9 hg HB.out : w.heap.size ≤ gb584)); replace HB := Aside0.mk (below_step (y5 HB.out) hb); clear hb hbox hg) | ((with_reducible refine gate_dst (N := 4) rfl ?_); refine zbx 4 #[.slice none 0 0] 50 ?_; intro gb585 hg w6 hbox hb; replace HO0_0 := Aside0.mk (Kd.V_below (Kd.V_elderB (y10 HO0_0.out) gb585 (Nat.le_of_eq hg.symm)) hb); have BK585 := Aside0.mk hbox; have GW585 := Aside0.mk ((y11 hg HB.out GE584.out : w.heap.size ≤ gb585)); have GE585 := Aside0.mk ((y11 hg HB.out GE584.out : w.heap.size ≤ gb585)); replace HB := Aside0.mk (below_step (y6 HB.out GE584.out) hb); have NB584_585 := zltn hg BK584; have NB585_584 := zgtn hg BK584; replace BK584 := zbb BK584 hb; clear hb hbox hg; have hnb7 := NB584_585.out; have hnc7 := NB585_584.out; have hcz8_0 := zh BK584; have hfz8_0 := zfr BK584 0) | ((with_reducible refine gate_callee (f := 53) rfl ?_); refine goesL_ (some 8) rfl rfl Try.func53 (by kernel_rfl) rfl #[.agg #[.slice A0_0 l0_0.length c0_0]] rfl y8 ?_; (with_reducible refine (spec_TypeOk.calls k _ _ l0_0 true _ ?side1 ?side2 A3.out).mono ?_); (case side1 => exact y35 HO0_0.out); (case side2 => exact (Kd.V_reads' HO0_0.out).2.1); rintro e w9 ⟨rfl, hb⟩; refine ⟨_, rfl, ?_⟩; replace HO0_0 := Aside0.mk (Kd.V_below (y10 HO0_0.out) hb); replace BK584 := zbb BK584 hb; replace BK585 := zbb BK585 hb; replace HB := Aside0.mk (below_step (y2 HB.out GE584.out GE585.out) hb); (try clear hb); (try clear hb2); (try clear hk); (try clear hi)))
  go_loopg [6] k (fun kq v6 w' => ∃ (x6_1 : Int) (x585000_1 : List (S50)) (u585000 : Value), v6 = .int .i64 x6_1 ∧ Aside0 (spec_TypeAt.l0 kq l1 x6_1 x585000_1 = some (r1, r2)) ∧ Aside0 (kq ≤ k) ∧ Aside0 (Kd.V k50 50 w' w.heap.size (fun k_ => (P0_0_ k_ ∨ w.heap.size ≤ k_) ∧ k_ ≠ gb584 ∧ k_ ≠ gb585) u585000 x585000_1) ∧ Aside0 (w'.heap[gb584]? = some (.cells #[u585000] 50 (0, 0))) ∧ Aside0 (w'.heap[gb585]? = some (.cells #[(.slice none 0 0)] 50 (0, 0))) ∧ Aside0 (Below w.heap.size w w'))
  case atStart => exact ⟨(0), (l0_0), (.slice A0_0 l0_0.length c0_0), y34, H', ⟨Nat.le_refl _⟩, ⟨(y74 HO0_0.out)⟩, ⟨(y0 BK584.out)⟩, ⟨(y0 BK585.out)⟩, ⟨(y2 HB.out GE584.out GE585.out)⟩⟩
  case round =>
   clear H'
   try clear c1
   try clear p2
   try clear c4
   try clear c5
   try clear c7
   try clear hcz8_0
   try clear hfz8_0
   (try clear BK584); (try clear BK585)
   obtain ⟨x6_1, x585000_1, u585000, rfl, HA, HK1, HO_585000, BK584, BK585, HB⟩ := hrel
   cases gk with
   | zero => exact absurd HA.out (by simp [spec_TypeAt.l0])
   | succ k1 =>
    have H := HA.out
    clear HA
    simp only [spec_TypeAt.l0] at H
    by_cases c10 : x6_1 < (l1.length : Int)
    ·rw [if_pos c10] at H
     have c10b0 : decide (x6_1 < (l1.length : Int)) = true := decide_eq_true c10
     clear c10
     by_cases c11 : 0 ≤ x6_1
     ·rw [if_pos c11] at H
      have c11b0 : decide (0 ≤ x6_1) = true := decide_eq_true c11
      clear c11
      obtain ⟨t588, A120, H⟩ := ob H
      have A12 := Aside0.mk A120
      clear A120
      by_cases c13 : t588 = true
      ·subst c13
       rw [if_pos rfl] at H
       by_cases c14 : 0 ≤ (rd l1 x6_1)
       ·rw [if_pos c14] at H
        have c14b0 : decide (0 ≤ (rd l1 x6_1)) = true := decide_eq_true c14
        clear c14
        by_cases c15 : (rd l1 x6_1) < (x585000_1.length : Int)
        ·rw [if_pos c15] at H
         have c15b0 : decide ((rd l1 x6_1) < (x585000_1.length : Int)) = true := decide_eq_true c15
         clear c15
         have H' := Aside0.mk H
         clear H
         try go_wp2
         replace HO_585000 := Aside0.mk (Kd.V_drew HO_585000.out)
         replace BK584 := Aside0.mk (blk_drew BK584.out)
         replace BK585 := Aside0.mk (blk_drew BK585.out)
         replace HB := Aside0.mk (below_drew1 HB.out)
         have p587 : 0 ≤ (x6_1 : Int) := of_decide_eq_true y23
         have q587 : x6_1 < (l1.length : Int) := of_decide_eq_true y23
         obtain ⟨ad587, e587, hx587_0⟩ := Kd.at_int HR1.out x6_1 p587 q587
         have hw587_0 := hx587_0
         cases e587
         replace hx587_0 := (HB.out.cell (World.block_lt_of_cell? w _ hx587_0)).trans hx587_0
         replace p587 := eq_true p587
         replace q587 := eq_true q587
         obtain ⟨Ao17, co17, eo17⟩ := Kd.V_slice HO_585000.out
         (first | subst eo17 | (injection eo17 with f1_ f2_ f3_; have f4_ := f1_.symm; have f5_ := f3_.symm; clear f1_ f2_ f3_; subst f4_; subst f5_))
         refine start_ (n := 10) (S := fun w' => w'.cell? ⟨gb584, 0, none⟩ = some (.slice Ao17 x585000_1.length co17) ∧ w'.cell? (ad587.add (x6_1).toNat) = some (.int .i64 (rd l1 x6_1))) (ds := []) #[false, false, false, false, false, false, false, false, false, false] (by kernel_rfl) rfl rfl ⟨(blk_cell BK584.out 0).trans rfl, ((HB.out.cell (World.block_lt_of_cell? w _ hw587_0)).trans hw587_0)⟩ (fun hHeld => ?_); refine with_tabW spec_TypeAt.tab6 spec_TypeAt.bits6 (fun HT_ HW_ => ?_)
         generalize wr.drew = w16 at HO_585000 BK584 BK585 HB hx587_0 hHeld ⊢
         refine zp 0 (some 17) HT_ ?_
         refine zp 1 (some 18) HT_ ?_
         refine zp 2 (some 19) HT_ ?_
         refine zp 4 (some 21) HT_ ?_
         refine zt2 3 (some 20) HT_ HW_ hHeld ?_
         refine zt2 5 (some 22) HT_ HW_ hHeld ?_
         refine zp 6 (some 23) HT_ ?_
         refine zp 7 (some 24) HT_ ?_
         refine one_ (i := 8) (N := some 25) #[true, true, true, true, true, true, true, true, true, false] rfl rfl (one_of HT_.out (by kernel_rfl)) (by decide) (fun K hK => ?_)
         refine goes_ Try.func36 (by kernel_rfl) rfl #[.int .i64 (rd l1 x6_1), .int .i64 0, .int .i64 (wrap64 ((x585000_1.length : Int) - 1))] (by rfl) rfl rfl y8 ?_
         with_reducible refine (spec_l6In.calls (rd l1 x6_1) 0 (wrap64 ((x585000_1.length : Int) - 1)) true _ A12.out).mono ?_
         rintro e w' ⟨rfl, ⟨nd, rfl⟩⟩
         refine ⟨_, rfl, ?_⟩
         refine hK.out _ _ ⟨(blk_cell BK584.out 0).trans rfl, ((HB.out.cell (World.block_lt_of_cell? w _ hw587_0)).trans hw587_0)⟩ (fun hHeld => ?_)
         clear hK K
         refine norm_ (a' := ?_) ?_ ?_
         rotate_left
         ·show Act.put _ (some 25) _ = _
          simp only [Act.put, List.setIfInBounds_toArray, List.set_cons_zero, List.set_cons_succ, i64_w, i32_w]
          rfl
         refine zp 9 (some 26) HT_ ?_
         refine done_ (done_of HT_.out (by kernel_rfl)) ?_
         try go_wp2
         (try (rw [drewN_self w16]; generalize hq_ : World.drewN w16 _ = w16; have n0_ : Aside0 (Kd.V k50 50 w16 w.heap.size (fun k_ => (P0_0_ k_ ∨ w.heap.size ≤ k_) ∧ k_ ≠ gb584 ∧ k_ ≠ gb585) (.slice Ao17 x585000_1.length co17) x585000_1) := ⟨(by rw [← hq_]; exact (y10 HO_585000.out))⟩; have n1_ : Aside0 (w16.heap[gb584]? = some (.cells #[.slice Ao17 x585000_1.length co17] 50 (0, 0))) := ⟨(by rw [← hq_]; exact (y0 BK584.out))⟩; have n2_ : Aside0 (w16.heap[gb585]? = some (.cells #[.slice none 0 0] 50 (0, 0))) := ⟨(by rw [← hq_]; exact (y0 BK585.out))⟩; have n3_ : Aside0 (Below w.heap.size w w16) := ⟨(by rw [← hq_]; exact (y2 HB.out GE584.out GE585.out))⟩; clear HO_585000 BK584 BK585 HB hq_; have HO_585000 := n0_; have BK584 := n1_; have BK585 := n2_; have HB := n3_; clear n0_ n1_ n2_ n3_))
         replace HO_585000 := Aside0.mk (Kd.V_drew HO_585000.out)
         replace BK584 := Aside0.mk (blk_drew BK584.out)
         replace BK585 := Aside0.mk (blk_drew BK585.out)
         replace HB := Aside0.mk (below_drew1 HB.out)
         have p589 : 0 ≤ (x6_1 : Int) := of_decide_eq_true y23
         have q589 : x6_1 < (l1.length : Int) := of_decide_eq_true y23
         obtain ⟨ad589, e589, hx589_0⟩ := Kd.at_int HR1.out x6_1 p589 q589
         have hw589_0 := hx589_0
         obtain rfl : ad587 = ad589 := (by injection e589)
         replace hx589_0 := (HB.out.cell (World.block_lt_of_cell? w _ hx589_0)).trans hx589_0
         replace p589 := eq_true p589
         replace q589 := eq_true q589
         have p590 : 0 ≤ ((rd l1 x6_1) : Int) := of_decide_eq_true y23
         have q590 : (rd l1 x6_1) < (x585000_1.length : Int) := of_decide_eq_true y23
         obtain ⟨ad590, A590_0, c590_0, e590, hx590_0, hl590_0, hi590_0⟩ := at_T50 (Kd.V_reads' HO_585000.out).2.2 (rd l1 x6_1) p590 q590
         cases e590
         obtain ⟨ce590, hce590, hMe590, hcc590⟩ := Kd.V_get HO_585000.out z50 (rd l1 x6_1) p590 (by first | exact q590 | exact of_decide_eq_true y23 | (have e_ := (Kd.V_reads' HO_585000.out).1; omega))
         obtain ⟨ua590_0, uc590_0, rfl, ul590_0, ge590_0⟩ := k50_openF hMe590
         have hv590_0 := hcc590 0 _ rfl
         rw [Nat.add_zero, show (k50).sz = 1 from rfl, Nat.mul_one] at hv590_0
         replace hv590_0 := Option.some.inj (hv590_0.symm.trans hx590_0)
         injection hv590_0 with hva_ hvn_ hvc_
         rw [hva_] at ge590_0
         rw [hvc_] at ul590_0
         have HL590_0 := Aside0.mk (show Kd.V k50 50 _ w.heap.size _ _ ((rd_T50 x585000_1 (rd l1 x6_1)).f0) from Kd.V_mk ul590_0 ge590_0)
         clear hva_ hvn_ hvc_ ge590_0 ul590_0
         clear hcc590 hce590
         have HR590_0 := Aside0.mk hi590_0
         have HC590_0 := Aside0.mk hl590_0
         clear hi590_0 hl590_0
         replace p590 := eq_true p590
         replace q590 := eq_true q590
         refine start_ (n := 9) (S := fun w' => w'.cell? ⟨gb584, 0, none⟩ = some (.slice (some ad590) x585000_1.length co17) ∧ w'.cell? (ad587.add (x6_1).toNat) = some (.int .i64 (rd l1 x6_1)) ∧ w'.cell? (ad590.add ((rd l1 x6_1)).toNat) = some (.slice A590_0 ((rd_T50 x585000_1 (rd l1 x6_1)).f0).length c590_0)) (ds := [8]) #[false, false, false, false, false, false, false, false, false] (by kernel_rfl) rfl rfl ⟨(blk_cell BK584.out 0).trans rfl, ((HB.out.cell (World.block_lt_of_cell? w _ hw589_0)).trans hw589_0), hx590_0⟩ (fun hHeld => ?_); refine with_tabW spec_TypeAt.tab8 spec_TypeAt.bits8 (fun HT_ HW_ => ?_)
         generalize w16.drew = w18 at HO_585000 BK584 BK585 HB HL590_0 HR590_0 hx589_0 hx590_0 hHeld ⊢
         refine zp 0 (some 28) HT_ ?_
         refine zp 2 (some 30) HT_ ?_
         refine zp 3 (some 31) HT_ ?_
         refine zp 4 (some 32) HT_ ?_
         refine zt3 1 (some 29) HT_ HW_ hHeld ?_
         refine zt3 5 (some 33) HT_ HW_ hHeld ?_
         refine zp 6 (some 34) HT_ ?_
         refine zt3 7 (some 35) HT_ HW_ hHeld ?_
         refine last_ (i := 8) (N := none) #[true, true, true, true, true, true, true, true, true] rfl rfl (one_of HT_.out (by kernel_rfl)) (by decide) (fun K hK => ?_)
         have hs19 : w18.cell? ⟨gb584, 0, none⟩ = some (.slice (some ad590) x585000_1.length co17) := (blk_cell BK584.out 0).trans rfl
         have hfs19 := zfr BK584 0
         have hns19_1 := NB585_584.out
         have hms19_1 := NB584_585.out
         refine skip_ (w1 := ?_) (by rfl) rfl ?_ ?_
         rotate_left
         ·go_simp
          rfl
         refine hK.out _ _ ?_
         clear hK K
         refine done_ (done_of HT_.out (by kernel_rfl)) ?_
         try go_wp2
         go_roundg k1
         case measure => have := HK1.out; omega
         case rel => exact ⟨(wrap64 (x6_1 + 1)), ((rd_T50 x585000_1 (rd l1 x6_1)).f0), (.slice A590_0 ((rd_T50 x585000_1 (rd l1 x6_1)).f0).length c590_0), y34, H', ⟨(y57 HK1.out)⟩, ⟨(by (with_reducible repeat (first | apply Kd.V_alloc | apply Kd.V_drewN | apply Kd.V_drew)); exact Kd.V_mono (Kd.V_far (p := ⟨gb584, 0, none⟩) (Kd.V_mono HL590_0.out (fun k_ hk => (⟨hk, hk.2.1⟩ : _ ∧ k_ ≠ gb584))) (fun _ hk => hk.2) (.slice A590_0 ((rd_T50 x585000_1 (rd l1 x6_1)).f0).length c590_0)) (fun _ hk => ⟨hk.1.1, ⟨hk.1.2.1, hk.1.2.2⟩⟩))⟩, ⟨(by (with_reducible repeat (first | refine blk_drewN ?_ _ | refine blk_drew ?_ | refine blk_alloc ?_ _)); refine blk_put (cs := #[.slice (some ad590) x585000_1.length co17]) ?_ 0 _ rfl; (with_reducible repeat (first | refine blk_drewN ?_ _ | refine blk_drew ?_ | refine blk_alloc ?_ _)); exact BK584.out)⟩, ⟨(y13 NB585_584.out BK585.out)⟩, ⟨(y2 HB.out GE584.out GE585.out)⟩⟩
        ·rw [if_neg c15] at H
         exact absurd H (by simp)
       ·rw [if_neg c14] at H
        exact absurd H (by simp)
      ·replace c13 := Bool.eq_false_iff.mpr c13
       subst c13
       rw [if_neg (show ¬ (false = true) by decide)] at H
       simp only [Option.some.injEq, Prod.mk.injEq] at H
       obtain ⟨rfl, rfl⟩ := H
       try go_wp2
       replace HO_585000 := Aside0.mk (Kd.V_drew HO_585000.out)
       replace BK584 := Aside0.mk (blk_drew BK584.out)
       replace BK585 := Aside0.mk (blk_drew BK585.out)
       replace HB := Aside0.mk (below_drew1 HB.out)
       have p587 : 0 ≤ (x6_1 : Int) := of_decide_eq_true y23
       have q587 : x6_1 < (l1.length : Int) := of_decide_eq_true y23
       obtain ⟨ad587, e587, hx587_0⟩ := Kd.at_int HR1.out x6_1 p587 q587
       have hw587_0 := hx587_0
       cases e587
       replace hx587_0 := (HB.out.cell (World.block_lt_of_cell? w _ hx587_0)).trans hx587_0
       replace p587 := eq_true p587
       replace q587 := eq_true q587
       obtain ⟨Ao21, co21, eo21⟩ := Kd.V_slice HO_585000.out
       (first | subst eo21 | (injection eo21 with f1_ f2_ f3_; have f4_ := f1_.symm; have f5_ := f3_.symm; clear f1_ f2_ f3_; subst f4_; subst f5_))
       refine start_ (n := 10) (S := fun w' => w'.cell? ⟨gb584, 0, none⟩ = some (.slice Ao21 x585000_1.length co21) ∧ w'.cell? (ad587.add (x6_1).toNat) = some (.int .i64 (rd l1 x6_1))) (ds := []) #[false, false, false, false, false, false, false, false, false, false] (by kernel_rfl) rfl rfl ⟨(blk_cell BK584.out 0).trans rfl, ((HB.out.cell (World.block_lt_of_cell? w _ hw587_0)).trans hw587_0)⟩ (fun hHeld => ?_); refine with_tabW spec_TypeAt.tab6 spec_TypeAt.bits6 (fun HT_ HW_ => ?_)
       generalize wr.drew = w20 at HO_585000 BK584 BK585 HB hx587_0 hHeld ⊢
       refine zp 0 (some 17) HT_ ?_
       refine zp 1 (some 18) HT_ ?_
       refine zp 2 (some 19) HT_ ?_
       refine zp 4 (some 21) HT_ ?_
       refine zt2 3 (some 20) HT_ HW_ hHeld ?_
       refine zt2 5 (some 22) HT_ HW_ hHeld ?_
       refine zp 6 (some 23) HT_ ?_
       refine zp 7 (some 24) HT_ ?_
       refine one_ (i := 8) (N := some 25) #[true, true, true, true, true, true, true, true, true, false] rfl rfl (one_of HT_.out (by kernel_rfl)) (by decide) (fun K hK => ?_)
       refine goes_ Try.func36 (by kernel_rfl) rfl #[.int .i64 (rd l1 x6_1), .int .i64 0, .int .i64 (wrap64 ((x585000_1.length : Int) - 1))] (by rfl) rfl rfl y8 ?_
       with_reducible refine (spec_l6In.calls (rd l1 x6_1) 0 (wrap64 ((x585000_1.length : Int) - 1)) false _ A12.out).mono ?_
       rintro e w' ⟨rfl, ⟨nd, rfl⟩⟩
       refine ⟨_, rfl, ?_⟩
       refine hK.out _ _ ⟨(blk_cell BK584.out 0).trans rfl, ((HB.out.cell (World.block_lt_of_cell? w _ hw587_0)).trans hw587_0)⟩ (fun hHeld => ?_)
       clear hK K
       refine norm_ (a' := ?_) ?_ ?_
       rotate_left
       ·show Act.put _ (some 25) _ = _
        simp only [Act.put, List.setIfInBounds_toArray, List.set_cons_zero, List.set_cons_succ, i64_w, i32_w]
        rfl
       refine zp 9 (some 26) HT_ ?_
       refine done_ (done_of HT_.out (by kernel_rfl)) ?_
       have hnb22 := NB585_584.out
       have hnc22 := NB584_585.out
       have hcz23_0 := zh BK585
       have hfz23_0 := zfr BK585 0
       try go_wp2
       refine bodyPost_ret (results_ct rfl _ _ gb585 50 #[.slice none 0 0] (0, 0) _ rfl (by (with_reducible repeat (first | refine blk_drewN ?_ _ | refine blk_drew ?_ | refine blk_alloc ?_ _)); apply blk_put (i := 0); (case h => exact y0 BK585.out); (case e => rfl)) Try.underlying50 rfl (by kernel_rfl)) rfl ?_
       exact ⟨_, y19, y37, (y2 HB.out GE584.out GE585.out)⟩
     ·rw [if_neg c11] at H
      exact absurd H (by simp)
    ·rw [if_neg c10] at H
     have c10b0 : decide (x6_1 < (l1.length : Int)) = false := decide_eq_false c10
     clear c10
     obtain ⟨t591, A240, H⟩ := ob H
     have A24 := Aside0.mk A240
     clear A240
     simp only [Option.some.injEq, Prod.mk.injEq] at H
     obtain ⟨rfl, rfl⟩ := H
     have hnb25 := NB584_585.out
     have hnc25 := NB585_584.out
     have hcz26_0 := zh BK584
     have hfz26_0 := zfr BK584 0
     obtain ⟨Ao27, co27, eo27⟩ := Kd.V_slice HO_585000.out
     subst eo27
     go_wp2_with (first | ((with_reducible refine gate_callee (f := 58) rfl ?_); refine goesL_ (some 37) rfl rfl Try.func58 (by kernel_rfl) rfl #[.agg #[.slice Ao27 x585000_1.length co27]] rfl y8 ?_; (with_reducible refine (spec_l1Copy.calls k1 _ _ x585000_1 t591 _ ?side1 ?side2 A24.out).mono ?_); (case side1 => exact y35 HO_585000.out); (case side2 => exact (Kd.V_reads' HO_585000.out).2.1); rintro e w28 ⟨v592, rfl, ho0, hb⟩; refine ⟨_, rfl, ?_⟩; replace HO_585000 := Aside0.mk (Kd.V_elder' (y10 HO_585000.out) (Kd.R_base ho0) hb); have HO593 := Aside0.mk (Kd.R_lower (Kd.R_newB (Kd.R_newB (Kd.R_newM (M := fun k_ => (w.heap.size ≤ k_)) ho0 (below_size (y2 HB.out GE584.out GE585.out)) (fun k_ h_ => h_)) (g := gb584) (o := .cells #[.slice Ao27 x585000_1.length co27] 50 (0, 0)) (y0 BK584.out)) (g := gb585) (o := .cells #[.slice none 0 0] 50 (0, 0)) (y0 BK585.out)) (below_size (y2 HB.out GE584.out GE585.out))); replace BK584 := zbb BK584 hb; replace BK585 := zbb BK585 hb; replace HB := Aside0.mk (below_step (y2 HB.out GE584.out GE585.out) hb); (try clear hb); (try clear hb2); (try clear hk); (try clear hi); (try clear ho0); obtain ⟨Ao29, co29, eo29⟩ := Kd.R_slice HO593.out; subst eo29; have hcz30_0 := zh BK585; have hfz30_0 := zfr BK585 0))
     refine bodyPost_ret (results_ct rfl _ _ gb585 50 #[.slice Ao29 t591.length co29] (0, 0) _ rfl (by (with_reducible repeat (first | refine blk_drewN ?_ _ | refine blk_drew ?_ | refine blk_alloc ?_ _)); apply blk_put (i := 0); (case h => exact y0 BK585.out); (case e => rfl)) Try.underlying50 rfl (by kernel_rfl)) rfl ?_
     exact ⟨_, y19, (by (with_reducible repeat (first | apply Kd.R_alloc | apply Kd.R_drewN | apply Kd.R_drew)); exact Kd.R_mono (Kd.R_far (p := ⟨gb585, 0, none⟩) (Kd.R_mono HO593.out (fun k_ hk => (⟨hk, hk.2⟩ : _ ∧ k_ ≠ gb585))) (fun _ hk => hk.2) (.slice Ao29 t591.length co29)) (fun _ hk => hk.1.1.1.1)), (y2 HB.out GE584.out GE585.out)⟩
 ·replace c4 := Bool.eq_false_iff.mpr c4
  subst c4
  rw [if_neg (show ¬ (false = true) by decide)] at H
  simp only [Option.some.injEq, Prod.mk.injEq] at H
  obtain ⟨rfl, rfl⟩ := H
  go_enter Try.func48, Try.ntmps48
  go_wp2_with (first | ((with_reducible refine gate_dst (N := 2) rfl ?_); refine zbx 2 #[.slice A0_0 l0_0.length c0_0] 50 ?_; intro gb584 hg w31 hbox hb; replace HO0_0 := Aside0.mk (Kd.V_below (Kd.V_elderB (y10 HO0_0.out) gb584 (Nat.le_of_eq hg.symm)) hb); have BK584 := Aside0.mk hbox; have GW584 := Aside0.mk ((y9 hg HB.out : w.heap.size ≤ gb584)); have GE584 := Aside0.mk ((y9 hg HB.out : w.heap.size ≤ gb584)); replace HB := Aside0.mk (below_step (y5 HB.out) hb); clear hb hbox hg) | ((with_reducible refine gate_dst (N := 4) rfl ?_); refine zbx 4 #[.slice none 0 0] 50 ?_; intro gb585 hg w32 hbox hb; replace HO0_0 := Aside0.mk (Kd.V_below (Kd.V_elderB (y10 HO0_0.out) gb585 (Nat.le_of_eq hg.symm)) hb); have BK585 := Aside0.mk hbox; have GW585 := Aside0.mk ((y11 hg HB.out GE584.out : w.heap.size ≤ gb585)); have GE585 := Aside0.mk ((y11 hg HB.out GE584.out : w.heap.size ≤ gb585)); replace HB := Aside0.mk (below_step (y6 HB.out GE584.out) hb); have NB584_585 := zltn hg BK584; have NB585_584 := zgtn hg BK584; replace BK584 := zbb BK584 hb; clear hb hbox hg; have hnb33 := NB584_585.out; have hnc33 := NB585_584.out; have hcz34_0 := zh BK584; have hfz34_0 := zfr BK584 0) | ((with_reducible refine gate_callee (f := 53) rfl ?_); refine goesL_ (some 8) rfl rfl Try.func53 (by kernel_rfl) rfl #[.agg #[.slice A0_0 l0_0.length c0_0]] rfl y8 ?_; (with_reducible refine (spec_TypeOk.calls k _ _ l0_0 false _ ?side1 ?side2 A3.out).mono ?_); (case side1 => exact y35 HO0_0.out); (case side2 => exact (Kd.V_reads' HO0_0.out).2.1); rintro e w35 ⟨rfl, hb⟩; refine ⟨_, rfl, ?_⟩; replace HO0_0 := Aside0.mk (Kd.V_below (y10 HO0_0.out) hb); replace BK584 := zbb BK584 hb; replace BK585 := zbb BK585 hb; replace HB := Aside0.mk (below_step (y2 HB.out GE584.out GE585.out) hb); (try clear hb); (try clear hb2); (try clear hk); (try clear hi); have hcz36_0 := zh BK585; have hfz36_0 := zfr BK585 0))
  refine bodyPost_ret (results_ct rfl _ _ gb585 50 #[.slice none 0 0] (0, 0) _ rfl (by (with_reducible repeat (first | refine blk_drewN ?_ _ | refine blk_drew ?_ | refine blk_alloc ?_ _)); apply blk_put (i := 0); (case h => exact y0 BK585.out); (case e => rfl)) Try.underlying50 rfl (by kernel_rfl)) rfl ?_
  exact ⟨_, y19, y37, (y2 HB.out GE584.out GE585.out)⟩
end Go.Proofs.Ythfflieeifakdaa.PA
end
section
namespace Go.Proofs.Ythfflieeifakdaa.PA
open Go.RowKit Go.Proofs.YthfflieeifakdaaW.PrintWords Go.Proofs.YthfflieeifakdaaW.PrintLast Go.Proofs.YthfflieeifakdaaW.PrintMore
attribute [local go_sem] max2_int min2_int max_two min_two max_three min_three max_four min_four
set_option linter.unusedVariables false
set_option linter.unusedSimpArgs false
def spec_DrawValPut.j0 : Nat → List Int → Bool → List Int → Int → List (S50) → List (S50) → Option (Int × (List (S25)) × List Int × Int × (List (S25)))
 | 0, _, _, _, _, _, _ => none
 | k + 1, x7, x32, x599000, x599001, x606000, x615000 => if x32 = true then ((spec_l71Type.f k x599000 x599001 2).bind fun bt617 => ((spec_l71Bad.f k x599000 bt617.2 x606000).bind fun bt621 => ((spec_l71Bad.f k x599000 bt621.2.2 bt617.1).bind fun bt626 => (some (bt621.1, bt621.2.1, x7, bt626.1, bt626.2.1))))) else ((spec_l71Bad.f k x599000 x599001 x606000).bind fun bt631 => ((spec_l71Bad.f k x599000 bt631.2.2 x615000).bind fun bt636 => (some (bt631.1, bt631.2.1, x7, bt636.1, bt636.2.1))))
def spec_DrawValPut.f (k : Nat) (l0 : List Int) : Option (Int × (List (S25)) × List Int × Int × (List (S25))) := (spec_l6Open.f l0).bind fun bt596 => ((spec_l6Rd_pick.f k bt596.1 bt596.2 3).bind fun bt599 => ((spec_l71Type.f k bt596.1 bt599.2 (wrap64 (2 + bt599.1))).bind fun bt601 => ((spec_l71Any.f k bt596.1 bt601.2 bt601.1).bind fun bt606 => ((spec_TypeAt.f k bt601.1 bt606.1).bind fun bt610 => (if bt610.2 = true then ((spec_l6Rd_pick.f k bt596.1 bt606.2 8).bind fun bt615 => (spec_DrawValPut.j0 k bt606.1 (bt615.1 == 0) bt596.1 bt615.2 bt601.1 bt610.1)) else (spec_DrawValPut.j0 k bt606.1 true bt596.1 bt606.2 bt601.1 bt610.1))))))
theorem spec_DrawValPut.mono_l : ∀ k, (∀ y0 y1 y2 y3 y4 y5, LeO (spec_DrawValPut.j0 k y0 y1 y2 y3 y4 y5) (spec_DrawValPut.j0 (k + 1) y0 y1 y2 y3 y4 y5))
 | 0 => fun _ _ _ _ _ _ r h => by simp [spec_DrawValPut.j0] at h
 | k + 1 => by
  have ih0 := spec_DrawValPut.mono_l k
  ·intro y0 y1 y2 y3 y4 y5
   unfold spec_DrawValPut.j0
   repeat' first
   | (with_reducible exact ih0 _ _ _ _ _ _)
   | (with_reducible exact spec_TypeAt.mono _ _ _)
   | (with_reducible exact spec_l6Rd_pick.mono _ _ _ _)
   | (with_reducible exact spec_l71Any.mono _ _ _ _)
   | (with_reducible exact spec_l71Bad.mono _ _ _ _)
   | (with_reducible exact spec_l71Type.mono _ _ _ _)
   | (with_reducible exact LeO.refl _)
   | (with_reducible exact LeO.none _)
   | (with_reducible refine LeO.ite ?_ ?_)
   | (with_reducible refine LeO.bind ?_ (fun _ => ?_))
   | exact ih0 _ _ _ _ _ _
   | exact spec_TypeAt.mono _ _ _
   | exact spec_l6Rd_pick.mono _ _ _ _
   | exact spec_l71Any.mono _ _ _ _
   | exact spec_l71Bad.mono _ _ _ _
   | exact spec_l71Type.mono _ _ _ _
   | exact LeO.none _
   | refine LeO.ite ?_ ?_
   | refine LeO.bind ?_ (fun _ => ?_)
theorem spec_DrawValPut.mono : ∀ a0 k, LeO (spec_DrawValPut.f k a0) (spec_DrawValPut.f (k + 1) a0) := by
 intro a0 k
 have ih0 := spec_DrawValPut.mono_l k
 unfold spec_DrawValPut.f
 repeat' first
   | (with_reducible exact ih0 _ _ _ _ _ _)
   | (with_reducible exact spec_TypeAt.mono _ _ _)
   | (with_reducible exact spec_l6Rd_pick.mono _ _ _ _)
   | (with_reducible exact spec_l71Any.mono _ _ _ _)
   | (with_reducible exact spec_l71Bad.mono _ _ _ _)
   | (with_reducible exact spec_l71Type.mono _ _ _ _)
   | (with_reducible exact LeO.refl _)
   | (with_reducible exact LeO.none _)
   | (with_reducible refine LeO.ite ?_ ?_)
   | (with_reducible refine LeO.bind ?_ (fun _ => ?_))
   | exact ih0 _ _ _ _ _ _
   | exact spec_TypeAt.mono _ _ _
   | exact spec_l6Rd_pick.mono _ _ _ _
   | exact spec_l71Any.mono _ _ _ _
   | exact spec_l71Bad.mono _ _ _ _
   | exact spec_l71Type.mono _ _ _ _
   | exact LeO.none _
   | refine LeO.ite ?_ ?_
   | refine LeO.bind ?_ (fun _ => ?_)
def spec_DrawValPut.T7 : Bool × List (List Nat × List Nat) := (true, [([], []), ([], []), ([0, 1], [0, 1]), ([], []), ([], []), ([], []), ([4, 5, 2], [4, 5]), ([2, 6, 0, 1, 2], [2]), ([3, 7, 0, 1, 2, 3, 7], [3]), ([6, 8, 0, 1, 2, 3, 4, 5, 6, 7, 8], [6])])
def spec_DrawValPut.B7 : List Nat := [0, 0, 3, 0, 0, 0, 55, 119, 255, 511]
theorem spec_DrawValPut.tab7 : rtab .any (opsOf Try.f25 7) = spec_DrawValPut.T7 := by kernel_rfl
theorem spec_DrawValPut.bits7 : waitsOk spec_DrawValPut.T7.2 spec_DrawValPut.B7 = true := by kernel_rfl
set_option maxHeartbeats 8000000 in
set_option maxRecDepth 100000 in
theorem spec_DrawValPut.calls (k : Nat) (A0 : Option Addr) (c0 : Nat) (l0 : List Int) (r1 : Int) (r2 : List (S25)) (r3 : List Int) (r4 : Int) (r5 : List (S25)) (w : World) (hr0 : Kd.C (Kd.int .u8) w A0 l0.length l0) (hc0 : l0.length ≤ c0) (h : spec_DrawValPut.f k l0 = some (r1, r2, r3, r4, r5)) :
  Calls Try.prog 25 #[.slice A0 l0.length c0] w fun e w' => ∃ v1_ v2_ v4_ : Value, e = .returned (.tuple #[.agg #[.int .i64 r1, v1_], v2_, .agg #[.int .i64 r4, v4_]]) ∧ Kd.N k25 25 w' w.heap.size (fun k_ => (w.heap.size ≤ k_) ∧ some k_ ≠ (v2_ : Value).ownBlock ∧ some k_ ≠ (v4_ : Value).ownBlock) v1_ r2 ∧ Kd.R (Kd.int .i64) 3 w' w.heap.size (fun k_ => (w.heap.size ≤ k_)) v2_ r3 ∧ Kd.N k25 25 w' w.heap.size (fun k_ => (w.heap.size ≤ k_) ∧ some k_ ≠ (v1_ : Value).ownBlock ∧ some k_ ≠ (v2_ : Value).ownBlock) v4_ r5 ∧ Below w.heap.size w w' := by
 have hu25 := Try.underlying25
 have hu50 := Try.underlying50
 have HR0 := Aside0.mk hr0
 have HC0 := Aside0.mk hc0
 clear hr0 hc0
 have HB := Aside0.mk (Below.refl w.heap.size w)
 have H : ((spec_l6Open.f l0).bind fun bt596 => ((spec_l6Rd_pick.f k bt596.1 bt596.2 3).bind fun bt599 => ((spec_l71Type.f k bt596.1 bt599.2 (wrap64 (2 + bt599.1))).bind fun bt601 => ((spec_l71Any.f k bt596.1 bt601.2 bt601.1).bind fun bt606 => ((spec_TypeAt.f k bt601.1 bt606.1).bind fun bt610 => (if bt610.2 = true then ((spec_l6Rd_pick.f k bt596.1 bt606.2 8).bind fun bt615 => (spec_DrawValPut.j0 k bt606.1 (bt615.1 == 0) bt596.1 bt615.2 bt601.1 bt610.1)) else (spec_DrawValPut.j0 k bt606.1 true bt596.1 bt606.2 bt601.1 bt610.1))))))) = some (r1, r2, r3, r4, r5) := h
 clear h
 obtain ⟨⟨t596, t597⟩, A20, H⟩ := ob H
 have A2 := Aside0.mk A20
 clear A20
 obtain ⟨⟨t599, t600⟩, A30, H⟩ := ob H
 have A3 := Aside0.mk A30
 clear A30
 obtain ⟨⟨t601, t604⟩, A40, H⟩ := ob H
 have A4 := Aside0.mk A40
 clear A40
 obtain ⟨⟨t606, t609⟩, A50, H⟩ := ob H
 have A5 := Aside0.mk A50
 clear A50
 obtain ⟨⟨t610, t613⟩, A60, H⟩ := ob H
 have A6 := Aside0.mk A60
 clear A60
 have HC7 := Aside0.mk H
 clear H
 go_enter Try.func25, Try.ntmps25
 go_upto_region 5 with (first | ((with_reducible refine gate_dst (N := 2) rfl ?_); refine zbx 2 #[.int .i64 0, .slice none 0 0] 25 ?_; intro gb594 hg w8 hbox hb; have BK594 := Aside0.mk hbox; have GW594 := Aside0.mk ((y9 hg HB.out : w.heap.size ≤ gb594)); have GE594 := Aside0.mk ((y9 hg HB.out : w.heap.size ≤ gb594)); replace HB := Aside0.mk (below_step (y5 HB.out) hb); clear hb hbox hg) | ((with_reducible refine gate_dst (N := 4) rfl ?_); refine zbx 4 #[.int .i64 0, .slice none 0 0] 25 ?_; intro gb595 hg w9 hbox hb; have BK595 := Aside0.mk hbox; have GW595 := Aside0.mk ((y11 hg HB.out GE594.out : w.heap.size ≤ gb595)); have GE595 := Aside0.mk ((y11 hg HB.out GE594.out : w.heap.size ≤ gb595)); replace HB := Aside0.mk (below_step (y6 HB.out GE594.out) hb); have NB594_595 := zltn hg BK594; have NB595_594 := zgtn hg BK594; replace BK594 := zbb BK594 hb; clear hb hbox hg) | ((with_reducible refine gate_callee (f := 30) rfl ?_); refine goesL_ (some 11) rfl rfl Try.func30 (by kernel_rfl) rfl #[.slice A0 l0.length c0] rfl y8 ?_; (with_reducible refine (spec_l6Open.calls _ _ l0 t596 t597 w _ ?side1 ?side2 ?side3 A2.out).mono ?_); (case side1 => exact y2 HB.out GE594.out GE595.out); (case side2 => exact HR0.out); (case side3 => exact HC0.out); rintro e w10 ⟨g598, rfl, hi, hb, hb2⟩; refine ⟨_, rfl, ?_⟩; replace HB := Aside0.mk (hb); have HI598 := Aside0.mk (hi); have NB598_594 := Aside0.mk (IsS75.ne_blk hi (blk_below (g := gb594) (o := .cells #[.int .i64 0, .slice none 0 0] 25 (0, 0)) (y0 BK594.out) hb2) (by decide)); have NB594_598 := Aside0.mk (Ne.symm (IsS75.ne_blk hi (blk_below (g := gb594) (o := .cells #[.int .i64 0, .slice none 0 0] 25 (0, 0)) (y0 BK594.out) hb2) (by decide))); replace BK594 := Aside0.mk (blk_below (g := gb594) (o := .cells #[.int .i64 0, .slice none 0 0] 25 (0, 0)) (y0 BK594.out) hb2); have NB598_595 := Aside0.mk (IsS75.ne_blk hi (blk_below (g := gb595) (o := .cells #[.int .i64 0, .slice none 0 0] 25 (0, 0)) (y0 BK595.out) hb2) (by decide)); have NB595_598 := Aside0.mk (Ne.symm (IsS75.ne_blk hi (blk_below (g := gb595) (o := .cells #[.int .i64 0, .slice none 0 0] 25 (0, 0)) (y0 BK595.out) hb2) (by decide))); replace BK595 := Aside0.mk (blk_below (g := gb595) (o := .cells #[.int .i64 0, .slice none 0 0] 25 (0, 0)) (y0 BK595.out) hb2); (try clear hb); (try clear hb2); (try clear hk); (try clear hi)) | ((with_reducible refine gate_callee (f := 32) rfl ?_); refine goesL_ (some 14) rfl rfl Try.func32 (by kernel_rfl) rfl #[.pointer (some ⟨g598, 0, none⟩), .int .i64 3] rfl y8 ?_; (with_reducible refine (spec_l6Rd_pick.calls k g598 t596 t597 3 t599 t600 w _ ?side1 ?side2 A3.out).mono ?_); (case side1 => exact y21 HI598.out NB598_594.out NB598_595.out); (case side2 => exact y17 HB.out HI598.out GE594.out GE595.out); rintro e w11 ⟨rfl, hi, hb, hk⟩; refine ⟨_, rfl, ?_⟩; replace BK594 := Aside0.mk (KeepBut.blk hk (g' := gb594) (o := .cells #[.int .i64 0, .slice none 0 0] 25 (0, 0)) (y0 BK594.out) NB594_598.out (by simp)); replace BK595 := Aside0.mk (KeepBut.blk hk (g' := gb595) (o := .cells #[.int .i64 0, .slice none 0 0] 25 (0, 0)) (y0 BK595.out) NB595_598.out (by simp)); replace HB := Aside0.mk (hb); replace HI598 := Aside0.mk (hi); (try clear hb); (try clear hb2); (try clear hk); (try clear hi)) | ((with_reducible refine gate_callee (f := 31) rfl ?_); refine goesL_ (some 16) rfl rfl Try.func31 (by kernel_rfl) rfl #[.pointer (some ⟨g598, 0, none⟩), .int .i64 (wrap64 (2 + t599))] rfl y8 ?_; (with_reducible refine (spec_l71Type.calls k g598 t596 t600 (wrap64 (2 + t599)) t601 t604 w _ ?side1 ?side2 A4.out).mono ?_); (case side1 => exact y21 HI598.out NB598_594.out NB598_595.out); (case side2 => exact y17 HB.out HI598.out GE594.out GE595.out); rintro e w12 ⟨v602, rfl, ho0, hi, hb, hk⟩; refine ⟨_, rfl, ?_⟩; have HO603 := Aside0.mk (Kd.N_lower (Kd.N_mono (ok' := fun k_ => (w.heap.size ≤ k_) ∧ k_ ≠ gb594 ∧ k_ ≠ gb595 ∧ k_ ≠ g598) ho0 (fun k_ hk_ => ⟨(Nat.le_trans (below_size (y17 HB.out HI598.out GE594.out GE595.out)) hk_), (Kd.freshB (g := gb594) (o := .cells #[.int .i64 0, .slice none 0 0] 25 (0, 0)) (y0 BK594.out) k_ hk_), (Kd.freshB (g := gb595) (o := .cells #[.int .i64 0, .slice none 0 0] 25 (0, 0)) (y0 BK595.out) k_ hk_), (IsS75.fresh (y21 HI598.out NB598_594.out NB598_595.out) k_ hk_)⟩)) (below_size (y17 HB.out HI598.out GE594.out GE595.out))); replace BK594 := Aside0.mk (KeepBut.blk hk (g' := gb594) (o := .cells #[.int .i64 0, .slice none 0 0] 25 (0, 0)) (y0 BK594.out) NB594_598.out (by simp)); replace BK595 := Aside0.mk (KeepBut.blk hk (g' := gb595) (o := .cells #[.int .i64 0, .slice none 0 0] 25 (0, 0)) (y0 BK595.out) NB595_598.out (by simp)); replace HB := Aside0.mk (hb); replace HI598 := Aside0.mk (hi); (try clear hb); (try clear hb2); (try clear hk); (try clear hi); (try clear ho0)) | ((with_reducible refine gate_dst (N := 6) rfl ?_); refine zbx 6 #[.slice none 0 0] 50 ?_; intro gb605 hg w13 hbox hb; replace HO603 := Aside0.mk (Kd.N_below (Kd.N_elderB (y3 HO603.out) gb605 (Nat.le_of_eq hg.symm)) hb); have BK605 := Aside0.mk hbox; have GW605 := Aside0.mk ((y45 hg HB.out HI598.out GE594.out GE595.out : w.heap.size ≤ gb605)); have GE605 := Aside0.mk ((y45 hg HB.out HI598.out GE594.out GE595.out : w.heap.size ≤ gb605)); replace HB := Aside0.mk (below_step (y17 HB.out HI598.out GE594.out GE595.out) hb); have NB594_605 := zltn hg BK594; have NB605_594 := zgtn hg BK594; replace BK594 := zbb BK594 hb; have NB595_605 := zltn hg BK595; have NB605_595 := zgtn hg BK595; replace BK595 := zbb BK595 hb; have NB598_605 := Aside0.mk ((by rw [hg]; exact Nat.ne_of_lt (IsS75.lt (show IsS75 w _ g598 t596 t604 from by repeat (first | (with_reducible first | exact HI598.out | apply IsS75.alloc | apply IsS75.drewN | apply IsS75.drew | apply IsS75.set_1 | refine IsS75.far ?_ NB598_594.out _ | refine IsS75.far ?_ NB598_595.out _) | exact HI598.out))) : g598 ≠ gb605)); have NB605_598 := Aside0.mk ((by rw [hg]; exact Nat.ne_of_gt (IsS75.lt (show IsS75 w _ g598 t596 t604 from by repeat (first | (with_reducible first | exact HI598.out | apply IsS75.alloc | apply IsS75.drewN | apply IsS75.drew | apply IsS75.set_1 | refine IsS75.far ?_ NB598_594.out _ | refine IsS75.far ?_ NB598_595.out _) | exact HI598.out))) : gb605 ≠ g598)); replace HI598 := Aside0.mk (IsS75.below (y21 HI598.out NB598_594.out NB598_595.out) hb); clear hb hbox hg; obtain ⟨Ao14, co14, eo14⟩ := Kd.N_slice HO603.out; subst eo14; have hnb15 := NB605_594.out; have hnc15 := NB594_605.out; have hnb16 := NB605_595.out; have hnc16 := NB595_605.out; have hnb17 := NB605_598.out; have hnc17 := NB598_605.out; have hcz18_0 := zh BK605; have hfz18_0 := zfr BK605 0) | ((with_reducible refine gate_store (t := 50) (p := 6) rfl ?_); refine store_event (t := 50) (p := 6) (v := ?vo_w19) (w1 := (w13.setCell ⟨gb605, 0, none⟩ (.slice Ao14 t601.length co14))) ?hg ?ho ?hn ?hr ?_; (case ho => rfl); (case hg => rfl); (case hn => rfl); (case hr => first | (go_simp; done) | (go_simp; rfl)); intro w19 hw; have n0_ : Aside0 (Kd.N k50 50 w19 w.heap.size (fun k_ => (w.heap.size ≤ k_) ∧ k_ ≠ gb594 ∧ k_ ≠ gb595 ∧ k_ ≠ g598 ∧ k_ ≠ gb605) (.slice Ao14 t601.length co14) t601) := ⟨(by rw [hw]; exact (by (with_reducible repeat (first | apply Kd.N_alloc | apply Kd.N_drewN | apply Kd.N_drew)); exact Kd.N_mono (Kd.N_far (p := ⟨gb605, 0, none⟩) (Kd.N_mono HO603.out (fun k_ hk => (⟨hk, hk.2⟩ : _ ∧ k_ ≠ gb605))) (fun _ hk => hk.2) (.slice Ao14 t601.length co14)) (fun _ hk => ⟨hk.1.1.1, ⟨hk.1.1.2.1, ⟨hk.1.1.2.2.1, ⟨hk.1.1.2.2.2, hk.1.2⟩⟩⟩⟩)))⟩; have n1_ : Aside0 (w19.heap[gb594]? = some (.cells #[.int .i64 0, .slice none 0 0] 25 (0, 0))) := ⟨(by rw [hw]; exact (y13 NB594_605.out BK594.out))⟩; have n2_ : Aside0 (w19.heap[gb595]? = some (.cells #[.int .i64 0, .slice none 0 0] 25 (0, 0))) := ⟨(by rw [hw]; exact (y13 NB595_605.out BK595.out))⟩; have n3_ : Aside0 (w19.heap[gb605]? = some (.cells #[.slice Ao14 t601.length co14] 50 (0, 0))) := ⟨(by rw [hw]; exact (by (with_reducible repeat (first | refine blk_drewN ?_ _ | refine blk_drew ?_ | refine blk_alloc ?_ _)); apply blk_put (i := 0); (case h => exact y0 BK605.out); (case e => rfl)))⟩; have n4_ : Aside0 (IsS75 w w19 g598 t596 t604) := ⟨(by rw [hw]; exact (y26 HI598.out NB598_594.out NB598_595.out NB598_605.out))⟩; have n5_ : Aside0 (Below w.heap.size w w19) := ⟨(by rw [hw]; exact (y24 HB.out HI598.out GE594.out GE595.out GE605.out))⟩; clear hw; clear HO603; clear BK594; clear BK595; clear BK605; clear HI598; clear HB; have HO603 := n0_; have BK594 := n1_; have BK595 := n2_; have BK605 := n3_; have HI598 := n4_; have HB := n5_; clear n0_ n1_ n2_ n3_ n4_ n5_; have hcz20_0 := zh BK605; have hfz20_0 := zfr BK605 0) | ((with_reducible refine gate_callee (f := 34) rfl ?_); refine goesL_ (some 19) rfl rfl Try.func34 (by kernel_rfl) rfl #[.pointer (some ⟨g598, 0, none⟩), .agg #[.slice Ao14 t601.length co14]] rfl y8 ?_; (with_reducible refine (spec_l71Any.calls k g598 t596 t604 (fun k_ => ((w.heap.size ≤ k_) ∧ (k_ ≠ gb594 ∧ (k_ ≠ gb595 ∧ (k_ ≠ g598 ∧ k_ ≠ gb605))))) _ _ t601 t606 t609 w _ ?side1 ?side2 ?side3 A5.out).mono ?_); (case side1 => exact y26 HI598.out NB598_594.out NB598_595.out NB598_605.out); (case side2 => exact y24 HB.out HI598.out GE594.out GE595.out GE605.out); (case side3 => exact Kd.V_mono (Kd.N_V (HO603.out)) (fun k_ hk_ => ⟨hk_, hk_.2.2.2.1⟩)); rintro e w21 ⟨v607, rfl, ho0, hi, hb, hk⟩; refine ⟨_, rfl, ?_⟩; replace BK594 := Aside0.mk (KeepBut.blk hk (g' := gb594) (o := .cells #[.int .i64 0, .slice none 0 0] 25 (0, 0)) (y0 BK594.out) NB594_598.out (by simp)); replace BK595 := Aside0.mk (KeepBut.blk hk (g' := gb595) (o := .cells #[.int .i64 0, .slice none 0 0] 25 (0, 0)) (y0 BK595.out) NB595_598.out (by simp)); replace HO603 := Aside0.mk (Kd.N_mono (Kd.N_told (Kd.N_oldK (Kd.N_mono (ok := fun k_ => (((w.heap.size ≤ k_)) ∧ (k_ ≠ gb594 ∧ (k_ ≠ gb595 ∧ (k_ ≠ g598 ∧ k_ ≠ gb605))))) (y3 HO603.out) (fun k_ hk_ => (⟨hk_, hk_.2.2.2.1⟩ : _ ∧ k_ ≠ g598))) hk) (Kd.R_base ho0)) (fun _ h_ => h_.1)); replace BK605 := Aside0.mk (KeepBut.blk hk (g' := gb605) (o := .cells #[.slice Ao14 t601.length co14] 50 (0, 0)) (y0 BK605.out) NB605_598.out (by simp)); have HO608 := Aside0.mk (Kd.R_lower (Kd.R_newM (M := fun k_ => (w.heap.size ≤ k_)) (Kd.R_mono (ok' := fun k_ => True) ho0 (fun _ _ => trivial)) (below_size (y24 HB.out HI598.out GE594.out GE595.out GE605.out)) (fun k_ h_ => h_)) (below_size (y24 HB.out HI598.out GE594.out GE595.out GE605.out))); replace HB := Aside0.mk (hb); replace HI598 := Aside0.mk (hi); (try clear hb); (try clear hb2); (try clear hk); (try clear hi); (try clear ho0); have hcz22_0 := zh BK605; have hfz22_0 := zfr BK605 0; obtain ⟨Ao23, co23, eo23⟩ := Kd.R_slice HO608.out; subst eo23) | ((with_reducible refine gate_callee (f := 48) rfl ?_); refine goesL_ (some 23) rfl rfl Try.func48 (by kernel_rfl) rfl #[.agg #[.slice Ao14 t601.length co14], .slice Ao23 t606.length co23] rfl y8 ?_; (with_reducible refine (spec_TypeAt.calls k (fun k_ => (((w.heap.size ≤ k_) ∧ (k_ ≠ gb594 ∧ (k_ ≠ gb595 ∧ (k_ ≠ g598 ∧ k_ ≠ gb605)))) ∧ some k_ ≠ (.slice Ao23 t606.length co23 : Value).ownBlock)) _ _ t601 _ _ t606 t610 t613 _ ?side1 ?side2 ?side3 A6.out).mono ?_); (case side1 => exact Kd.N_V (HO603.out)); (case side2 => exact y39 HO608.out); (case side3 => exact (Kd.R_reads' HO608.out).2.1); rintro e w24 ⟨v611, rfl, ho0, hb⟩; refine ⟨_, rfl, ?_⟩; replace HO603 := Aside0.mk (Kd.N_elder' (y3 HO603.out) (Kd.R_base ho0) hb); have HO612 := Aside0.mk (Kd.N_lower (Kd.N_mono (ok' := fun k_ => (w.heap.size ≤ k_) ∧ some k_ ≠ (.slice Ao23 t606.length co23 : Value).ownBlock ∧ k_ ≠ gb594 ∧ k_ ≠ gb595 ∧ k_ ≠ gb605 ∧ k_ ≠ g598) (Kd.R_N (Kd.R_bound ho0)) (fun k_ hk_ => ⟨(Nat.le_trans (below_size (y24 HB.out HI598.out GE594.out GE595.out GE605.out)) hk_.2.1), (Kd.fresh' (Kd.R_lt (y12 HO608.out)) k_ hk_.2.1), (Kd.freshB (g := gb594) (o := .cells #[.int .i64 0, .slice none 0 0] 25 (0, 0)) (y0 BK594.out) k_ hk_.2.1), (Kd.freshB (g := gb595) (o := .cells #[.int .i64 0, .slice none 0 0] 25 (0, 0)) (y0 BK595.out) k_ hk_.2.1), (Kd.freshB (g := gb605) (o := .cells #[.slice Ao14 t601.length co14] 50 (0, 0)) (y0 BK605.out) k_ hk_.2.1), (IsS75.fresh (y26 HI598.out NB598_594.out NB598_595.out NB598_605.out) k_ hk_.2.1)⟩)) (below_size (y24 HB.out HI598.out GE594.out GE595.out GE605.out))); replace HO608 := Aside0.mk (Kd.R_below (y12 HO608.out) hb); replace BK594 := zbb BK594 hb; replace BK595 := zbb BK595 hb; replace BK605 := zbb BK605 hb; replace HB := Aside0.mk (below_step (y24 HB.out HI598.out GE594.out GE595.out GE605.out) hb); replace HI598 := Aside0.mk (IsS75.below (y26 HI598.out NB598_594.out NB598_595.out NB598_605.out) hb); (try clear hb); (try clear hb2); (try clear hk); (try clear hi); (try clear ho0)) | ((with_reducible refine gate_dst (N := 8) rfl ?_); refine zbx 8 #[.slice none 0 0] 50 ?_; intro gb614 hg w25 hbox hb; replace HO603 := Aside0.mk (Kd.N_below (Kd.N_elderB (y3 HO603.out) gb614 (Nat.le_of_eq hg.symm)) hb); replace HO608 := Aside0.mk (Kd.R_below (y12 HO608.out) hb); replace HO612 := Aside0.mk (Kd.N_below (Kd.N_elderB (y3 HO612.out) gb614 (Nat.le_of_eq hg.symm)) hb); have BK614 := Aside0.mk hbox; have GW614 := Aside0.mk ((y67 hg HB.out HI598.out GE594.out GE595.out GE605.out : w.heap.size ≤ gb614)); have GE614 := Aside0.mk ((y67 hg HB.out HI598.out GE594.out GE595.out GE605.out : w.heap.size ≤ gb614)); replace HB := Aside0.mk (below_step (y24 HB.out HI598.out GE594.out GE595.out GE605.out) hb); have NB594_614 := zltn hg BK594; have NB614_594 := zgtn hg BK594; replace BK594 := zbb BK594 hb; have NB595_614 := zltn hg BK595; have NB614_595 := zgtn hg BK595; replace BK595 := zbb BK595 hb; have NB605_614 := zltn hg BK605; have NB614_605 := zgtn hg BK605; replace BK605 := zbb BK605 hb; have NB598_614 := Aside0.mk ((by rw [hg]; exact Nat.ne_of_lt (IsS75.lt (show IsS75 w _ g598 t596 t609 from by repeat (first | (with_reducible first | exact HI598.out | apply IsS75.alloc | apply IsS75.drewN | apply IsS75.drew | apply IsS75.set_1 | refine IsS75.far ?_ NB598_594.out _ | refine IsS75.far ?_ NB598_595.out _ | refine IsS75.far ?_ NB598_605.out _) | exact HI598.out))) : g598 ≠ gb614)); have NB614_598 := Aside0.mk ((by rw [hg]; exact Nat.ne_of_gt (IsS75.lt (show IsS75 w _ g598 t596 t609 from by repeat (first | (with_reducible first | exact HI598.out | apply IsS75.alloc | apply IsS75.drewN | apply IsS75.drew | apply IsS75.set_1 | refine IsS75.far ?_ NB598_594.out _ | refine IsS75.far ?_ NB598_595.out _ | refine IsS75.far ?_ NB598_605.out _) | exact HI598.out))) : gb614 ≠ g598)); replace HI598 := Aside0.mk (IsS75.below (y26 HI598.out NB598_594.out NB598_595.out NB598_605.out) hb); clear hb hbox hg; obtain ⟨Ao26, co26, eo26⟩ := Kd.N_slice HO612.out; subst eo26; have hnb27 := NB614_594.out; have hnc27 := NB594_614.out; have hnb28 := NB614_595.out; have hnc28 := NB595_614.out; have hnb29 := NB614_605.out; have hnc29 := NB605_614.out; have hnb30 := NB614_598.out; have hnc30 := NB598_614.out; have hcz31_0 := zh BK614; have hfz31_0 := zfr BK614 0))
 (try simp only [Act.put, List.setIfInBounds_toArray, List.set_cons_zero, List.set_cons_succ])
 go_cut [32] (fun v32 wc => ∃ (kq : Nat) (x32_6 : Bool) (x599001_6 : Int), v32 = .bool x32_6 ∧ Aside0 (spec_DrawValPut.j0 kq t606 x32_6 t596 x599001_6 t601 t610 = some (r1, r2, r3, r4, r5)) ∧ Aside0 (kq ≤ k) ∧ Aside0 (Kd.R (Kd.int .i64) 3 wc w.heap.size (fun k_ => (w.heap.size ≤ k_)) (.slice Ao23 t606.length co23) t606) ∧ Aside0 (Kd.N k50 50 wc w.heap.size (fun k_ => (w.heap.size ≤ k_) ∧ some k_ ≠ ((.slice Ao23 t606.length co23) : Value).ownBlock ∧ some k_ ≠ ((.slice Ao26 t610.length co26) : Value).ownBlock ∧ k_ ≠ gb594 ∧ k_ ≠ gb595 ∧ k_ ≠ gb605 ∧ k_ ≠ gb614 ∧ k_ ≠ g598) (.slice Ao14 t601.length co14) t601) ∧ Aside0 (Kd.N k50 50 wc w.heap.size (fun k_ => (w.heap.size ≤ k_) ∧ some k_ ≠ ((.slice Ao23 t606.length co23) : Value).ownBlock ∧ k_ ≠ gb594 ∧ k_ ≠ gb595 ∧ k_ ≠ gb605 ∧ k_ ≠ gb614 ∧ k_ ≠ g598) (.slice Ao26 t610.length co26) t610) ∧ Aside0 (wc.heap[gb594]? = some (.cells #[.int .i64 0, (.slice none 0 0)] 25 (0, 0))) ∧ Aside0 (wc.heap[gb595]? = some (.cells #[.int .i64 0, (.slice none 0 0)] 25 (0, 0))) ∧ Aside0 (wc.heap[gb605]? = some (.cells #[(.slice Ao14 t601.length co14)] 50 (0, 0))) ∧ Aside0 (wc.heap[gb614]? = some (.cells #[(.slice Ao26 t610.length co26)] 50 (0, 0))) ∧ Aside0 (IsS75 w wc g598 t596 x599001_6) ∧ Aside0 (Below w.heap.size w wc))
 case first =>
  have H := HC7.out
  clear HC7
  by_cases c32 : t613 = true
  ·subst c32
   rw [if_pos rfl] at H
   obtain ⟨⟨t615, t616⟩, A330, H⟩ := ob H
   have A33 := Aside0.mk A330
   clear A330
   have H' := Aside0.mk H
   clear H
   go_wp2_with (first | (go_at_call 32; (with_reducible refine (spec_l6Rd_pick.calls k g598 t596 t609 8 t615 t616 w _ ?side1 ?side2 A33.out).mono ?_); (case side1 => exact y36 HI598.out NB598_594.out NB598_595.out NB598_605.out NB598_614.out); (case side2 => exact y28 HB.out HI598.out GE594.out GE595.out GE605.out GE614.out); rintro e w34 ⟨rfl, hi, hb, hk⟩; replace BK594 := Aside0.mk (KeepBut.blk hk (g' := gb594) (o := .cells #[.int .i64 0, .slice none 0 0] 25 (0, 0)) (y13 NB594_614.out BK594.out) NB594_598.out (by simp)); replace BK595 := Aside0.mk (KeepBut.blk hk (g' := gb595) (o := .cells #[.int .i64 0, .slice none 0 0] 25 (0, 0)) (y13 NB595_614.out BK595.out) NB595_598.out (by simp)); replace HO603 := Aside0.mk (Kd.N_mono (Kd.N_keep (Kd.N_mono (ok := fun k_ => ((((((w.heap.size ≤ k_)) ∧ (k_ ≠ gb594 ∧ (k_ ≠ gb595 ∧ (k_ ≠ g598 ∧ k_ ≠ gb605)))) ∧ some k_ ≠ (.slice Ao23 t606.length co23 : Value).ownBlock) ∧ some k_ ≠ (.slice Ao26 t610.length co26 : Value).ownBlock) ∧ k_ ≠ gb614)) (by (with_reducible repeat (first | apply Kd.N_alloc | apply Kd.N_drewN | apply Kd.N_drew)); exact (Kd.N_mono (Kd.N_far (p := ⟨gb614, 0, none⟩) (Kd.N_mono HO603.out (fun k_ hk => (⟨hk, hk.2⟩ : _ ∧ k_ ≠ gb614))) (fun _ hk => hk.2) (.slice Ao26 t610.length co26)) (fun _ h_ => h_.1))) (fun k_ hk_ => (⟨hk_, hk_.1.1.1.2.2.2.1⟩ : _ ∧ k_ ≠ g598))) hk (fun _ h => h.2)) (fun _ h => h.1)); replace BK605 := Aside0.mk (KeepBut.blk hk (g' := gb605) (o := .cells #[.slice Ao14 t601.length co14] 50 (0, 0)) (y13 NB605_614.out BK605.out) NB605_598.out (by simp)); replace HO608 := Aside0.mk (Kd.R_mono (Kd.R_keep (IsS75.apart (show IsS75 w _ g598 t596 t609 from by repeat (first | (with_reducible first | exact HI598.out | apply IsS75.alloc | apply IsS75.drewN | apply IsS75.drew | apply IsS75.set_1 | refine IsS75.far ?_ NB598_594.out _ | refine IsS75.far ?_ NB598_595.out _ | refine IsS75.far ?_ NB598_605.out _ | refine IsS75.far ?_ NB598_614.out _) | exact HI598.out)) (by (with_reducible repeat (first | apply Kd.R_alloc | apply Kd.R_drewN | apply Kd.R_drew)); exact (Kd.R_mono (Kd.R_far (p := ⟨gb614, 0, none⟩) (Kd.R_types HO608.out BK614.out (by decide)) (fun _ hk => hk.2) (.slice Ao26 t610.length co26)) (fun _ h_ => h_.1))) (by decide)) hk (fun _ h => h.2)) (fun _ h => h.1)); replace HO612 := Aside0.mk (Kd.N_mono (Kd.N_keep (Kd.N_mono (ok := fun k_ => ((((w.heap.size ≤ k_)) ∧ (some k_ ≠ (.slice Ao23 t606.length co23 : Value).ownBlock ∧ (k_ ≠ gb594 ∧ (k_ ≠ gb595 ∧ (k_ ≠ gb605 ∧ k_ ≠ g598))))) ∧ k_ ≠ gb614)) (by (with_reducible repeat (first | apply Kd.N_alloc | apply Kd.N_drewN | apply Kd.N_drew)); exact (Kd.N_mono (Kd.N_far (p := ⟨gb614, 0, none⟩) (Kd.N_mono HO612.out (fun k_ hk => (⟨hk, hk.2⟩ : _ ∧ k_ ≠ gb614))) (fun _ hk => hk.2) (.slice Ao26 t610.length co26)) (fun _ h_ => h_.1))) (fun k_ hk_ => (⟨hk_, hk_.1.2.2.2.2.2⟩ : _ ∧ k_ ≠ g598))) hk (fun _ h => h.2)) (fun _ h => h.1)); replace BK614 := Aside0.mk (KeepBut.blk hk (g' := gb614) (o := .cells #[.slice Ao26 t610.length co26] 50 (0, 0)) (by (with_reducible repeat (first | refine blk_drewN ?_ _ | refine blk_drew ?_ | refine blk_alloc ?_ _)); apply blk_put (i := 0); (case h => exact y0 BK614.out); (case e => rfl)) NB614_598.out (by simp)); replace HB := Aside0.mk (hb); replace HI598 := Aside0.mk (hi); (try clear hb); (try clear hb2); (try clear hk); (try clear hi)))
   go_meet
   case rel => exact ⟨_, ((t615 == 0)), (t616), y34, H', ⟨y46⟩, ⟨(y71 HO608.out)⟩, ⟨(by (with_reducible repeat (first | apply Kd.N_alloc | apply Kd.N_drewN | apply Kd.N_drew)); exact Kd.N_mono HO603.out (fun _ hk => ⟨hk.1.1.1.1, ⟨hk.1.1.2, ⟨hk.1.2, ⟨hk.1.1.1.2.1, ⟨hk.1.1.1.2.2.1, ⟨hk.1.1.1.2.2.2.2, ⟨hk.2, hk.1.1.1.2.2.2.1⟩⟩⟩⟩⟩⟩⟩))⟩, ⟨(by (with_reducible repeat (first | apply Kd.N_alloc | apply Kd.N_drewN | apply Kd.N_drew)); exact Kd.N_mono HO612.out (fun _ hk => ⟨hk.1.1, ⟨hk.1.2.1, ⟨hk.1.2.2.1, ⟨hk.1.2.2.2.1, ⟨hk.1.2.2.2.2.1, ⟨hk.2, hk.1.2.2.2.2.2⟩⟩⟩⟩⟩⟩))⟩, ⟨(y0 BK594.out)⟩, ⟨(y0 BK595.out)⟩, ⟨(y0 BK605.out)⟩, ⟨(y0 BK614.out)⟩, ⟨(y36 HI598.out NB598_594.out NB598_595.out NB598_605.out NB598_614.out)⟩, ⟨(y28 HB.out HI598.out GE594.out GE595.out GE605.out GE614.out)⟩⟩
  ·replace c32 := Bool.eq_false_iff.mpr c32
   subst c32
   rw [if_neg (show ¬ (false = true) by decide)] at H
   have H' := Aside0.mk H
   clear H
   go_wp2
   go_meet
   case rel => exact ⟨_, (true), (t609), y34, H', ⟨y46⟩, ⟨(by (with_reducible repeat (first | apply Kd.R_alloc | apply Kd.R_drewN | apply Kd.R_drew)); exact Kd.R_mono (Kd.R_far (p := ⟨gb614, 0, none⟩) (Kd.R_types HO608.out BK614.out (by decide)) (fun _ hk => hk.2) (.slice Ao26 t610.length co26)) (fun _ hk => hk.1.1))⟩, ⟨(by (with_reducible repeat (first | apply Kd.N_alloc | apply Kd.N_drewN | apply Kd.N_drew)); exact Kd.N_mono (Kd.N_far (p := ⟨gb614, 0, none⟩) (Kd.N_mono HO603.out (fun k_ hk => (⟨hk, hk.2⟩ : _ ∧ k_ ≠ gb614))) (fun _ hk => hk.2) (.slice Ao26 t610.length co26)) (fun _ hk => ⟨hk.1.1.1.1.1, ⟨hk.1.1.1.2, ⟨hk.1.1.2, ⟨hk.1.1.1.1.2.1, ⟨hk.1.1.1.1.2.2.1, ⟨hk.1.1.1.1.2.2.2.2, ⟨hk.1.2, hk.1.1.1.1.2.2.2.1⟩⟩⟩⟩⟩⟩⟩))⟩, ⟨(by (with_reducible repeat (first | apply Kd.N_alloc | apply Kd.N_drewN | apply Kd.N_drew)); exact Kd.N_mono (Kd.N_far (p := ⟨gb614, 0, none⟩) (Kd.N_mono HO612.out (fun k_ hk => (⟨hk, hk.2⟩ : _ ∧ k_ ≠ gb614))) (fun _ hk => hk.2) (.slice Ao26 t610.length co26)) (fun _ hk => ⟨hk.1.1.1, ⟨hk.1.1.2.1, ⟨hk.1.1.2.2.1, ⟨hk.1.1.2.2.2.1, ⟨hk.1.1.2.2.2.2.1, ⟨hk.1.2, hk.1.1.2.2.2.2.2⟩⟩⟩⟩⟩⟩))⟩, ⟨(y13 NB594_614.out BK594.out)⟩, ⟨(y13 NB595_614.out BK595.out)⟩, ⟨(y13 NB605_614.out BK605.out)⟩, ⟨(by (with_reducible repeat (first | refine blk_drewN ?_ _ | refine blk_drew ?_ | refine blk_alloc ?_ _)); refine blk_put (cs := #[.slice none 0 0]) ?_ 0 _ rfl; (with_reducible repeat (first | refine blk_drewN ?_ _ | refine blk_drew ?_ | refine blk_alloc ?_ _)); exact BK614.out)⟩, ⟨(y36 HI598.out NB598_594.out NB598_595.out NB598_605.out NB598_614.out)⟩, ⟨(y28 HB.out HI598.out GE594.out GE595.out GE605.out GE614.out)⟩⟩
 case rest =>
  clear HC7
  try clear c1
  try clear c2
  try clear p2
  try clear c3
  try clear c4
  try clear p6
  try clear c15
  try clear c16
  try clear c17
  try clear c25
  try clear c27
  try clear c28
  try clear c29
  try clear c30
  try clear c31
  try clear c32
  try clear c34
  try clear hcz18_0
  try clear hcz20_0
  try clear hcz22_0
  try clear hcz31_0
  try clear hfz18_0
  try clear hfz20_0
  try clear hfz22_0
  try clear hfz31_0
  obtain ⟨kq, x32_6, x599001_6, rfl, HA, HJ6, HO_7, HO_606000, HO_615000, BK594, BK595, BK605, BK614, HI598, HB⟩ := hcut
  cases kq with
  | zero => exact absurd HA.out (by simp [spec_DrawValPut.j0])
  | succ kj6 =>
   have H := HA.out
   clear HA
   simp only [spec_DrawValPut.j0] at H
   by_cases c35 : x32_6 = true
   ·subst c35
    rw [if_pos rfl] at H
    obtain ⟨⟨t617, t620⟩, A360, H⟩ := ob H
    have A36 := Aside0.mk A360
    clear A360
    obtain ⟨⟨t621, t622, t625⟩, A370, H⟩ := ob H
    have A37 := Aside0.mk A370
    clear A370
    obtain ⟨⟨t626, t627, t630⟩, A380, H⟩ := ob H
    have A38 := Aside0.mk A380
    clear A380
    simp only [Option.some.injEq, Prod.mk.injEq] at H
    obtain ⟨rfl, rfl, rfl, rfl, rfl⟩ := H
    try go_wp2_with (first | ((with_reducible refine gate_callee (f := 31) rfl ?_); refine goesL_ (some 34) rfl rfl Try.func31 (by kernel_rfl) rfl #[.pointer (some ⟨g598, 0, none⟩), .int .i64 2] rfl y8 ?_; (with_reducible refine (spec_l71Type.calls kj6 g598 t596 x599001_6 2 t617 t620 w _ ?side1 ?side2 A36.out).mono ?_); (case side1 => exact y36 HI598.out NB598_594.out NB598_595.out NB598_605.out NB598_614.out); (case side2 => exact y28 HB.out HI598.out GE594.out GE595.out GE605.out GE614.out); rintro e w39 ⟨v618, rfl, ho0, hi, hb, hk⟩; refine ⟨_, rfl, ?_⟩; have HO619 := Aside0.mk (Kd.N_lower (Kd.N_mono (ok' := fun k_ => (w.heap.size ≤ k_) ∧ some k_ ≠ (.slice Ao23 t606.length co23 : Value).ownBlock ∧ some k_ ≠ (.slice Ao14 t601.length co14 : Value).ownBlock ∧ some k_ ≠ (.slice Ao26 t610.length co26 : Value).ownBlock ∧ k_ ≠ gb594 ∧ k_ ≠ gb595 ∧ k_ ≠ gb605 ∧ k_ ≠ gb614 ∧ k_ ≠ g598) ho0 (fun k_ hk_ => ⟨(Nat.le_trans (below_size (y28 HB.out HI598.out GE594.out GE595.out GE605.out GE614.out)) hk_), (Kd.fresh' (Kd.R_lt (y12 HO_7.out)) k_ hk_), (Kd.fresh' (Kd.N_lt (y3 HO_606000.out)) k_ hk_), (Kd.fresh' (Kd.N_lt (y3 HO_615000.out)) k_ hk_), (Kd.freshB (g := gb594) (o := .cells #[.int .i64 0, .slice none 0 0] 25 (0, 0)) (y0 BK594.out) k_ hk_), (Kd.freshB (g := gb595) (o := .cells #[.int .i64 0, .slice none 0 0] 25 (0, 0)) (y0 BK595.out) k_ hk_), (Kd.freshB (g := gb605) (o := .cells #[.slice Ao14 t601.length co14] 50 (0, 0)) (y0 BK605.out) k_ hk_), (Kd.freshB (g := gb614) (o := .cells #[.slice Ao26 t610.length co26] 50 (0, 0)) (y0 BK614.out) k_ hk_), (IsS75.fresh (y36 HI598.out NB598_594.out NB598_595.out NB598_605.out NB598_614.out) k_ hk_)⟩)) (below_size (y28 HB.out HI598.out GE594.out GE595.out GE605.out GE614.out))); replace HO_7 := Aside0.mk (Kd.R_mono (Kd.R_keep (IsS75.apart (show IsS75 w _ g598 t596 x599001_6 from by repeat (first | (with_reducible first | exact HI598.out | apply IsS75.alloc | apply IsS75.drewN | apply IsS75.drew | apply IsS75.set_1 | refine IsS75.far ?_ NB598_594.out _ | refine IsS75.far ?_ NB598_595.out _ | refine IsS75.far ?_ NB598_605.out _ | refine IsS75.far ?_ NB598_614.out _) | exact HI598.out)) (y12 HO_7.out) (by decide)) hk (fun _ h => h.2)) (fun _ h => h.1)); replace HO_606000 := Aside0.mk (Kd.N_mono (Kd.N_told (Kd.N_oldK (Kd.N_mono (ok := fun k_ => (((w.heap.size ≤ k_)) ∧ (some k_ ≠ (.slice Ao23 t606.length co23 : Value).ownBlock ∧ (some k_ ≠ (.slice Ao26 t610.length co26 : Value).ownBlock ∧ (k_ ≠ gb594 ∧ (k_ ≠ gb595 ∧ (k_ ≠ gb605 ∧ (k_ ≠ gb614 ∧ k_ ≠ g598)))))))) (y3 HO_606000.out) (fun k_ hk_ => (⟨hk_, hk_.2.2.2.2.2.2.2⟩ : _ ∧ k_ ≠ g598))) hk) (Kd.N_base ho0)) (fun _ h_ => h_.1)); replace HO_615000 := Aside0.mk (Kd.N_mono (Kd.N_told (Kd.N_oldK (Kd.N_mono (ok := fun k_ => (((w.heap.size ≤ k_)) ∧ (some k_ ≠ (.slice Ao23 t606.length co23 : Value).ownBlock ∧ (k_ ≠ gb594 ∧ (k_ ≠ gb595 ∧ (k_ ≠ gb605 ∧ (k_ ≠ gb614 ∧ k_ ≠ g598))))))) (y3 HO_615000.out) (fun k_ hk_ => (⟨hk_, hk_.2.2.2.2.2.2⟩ : _ ∧ k_ ≠ g598))) hk) (Kd.N_base ho0)) (fun _ h_ => h_.1)); replace BK594 := Aside0.mk (KeepBut.blk hk (g' := gb594) (o := .cells #[.int .i64 0, .slice none 0 0] 25 (0, 0)) (y0 BK594.out) NB594_598.out (by simp)); replace BK595 := Aside0.mk (KeepBut.blk hk (g' := gb595) (o := .cells #[.int .i64 0, .slice none 0 0] 25 (0, 0)) (y0 BK595.out) NB595_598.out (by simp)); replace BK605 := Aside0.mk (KeepBut.blk hk (g' := gb605) (o := .cells #[.slice Ao14 t601.length co14] 50 (0, 0)) (y0 BK605.out) NB605_598.out (by simp)); replace BK614 := Aside0.mk (KeepBut.blk hk (g' := gb614) (o := .cells #[.slice Ao26 t610.length co26] 50 (0, 0)) (y0 BK614.out) NB614_598.out (by simp)); replace HB := Aside0.mk (hb); replace HI598 := Aside0.mk (hi); (try clear hb); (try clear hb2); (try clear hk); (try clear hi); (try clear ho0); obtain ⟨Ao40, co40, eo40⟩ := Kd.N_slice HO619.out; subst eo40; have hnb41 := NB614_594.out; have hnc41 := NB594_614.out; have hnb42 := NB614_595.out; have hnc42 := NB595_614.out; have hnb43 := NB614_605.out; have hnc43 := NB605_614.out; have hnb44 := NB614_598.out; have hnc44 := NB598_614.out; have hcz45_0 := zh BK614; have hfz45_0 := zfr BK614 0))
    have n0_ : Aside0 (Kd.R (Kd.int .i64) 3 (w39.setCell ⟨gb614, 0, none⟩ (.slice Ao40 t617.length co40)) w.heap.size (fun k_ => (w.heap.size ≤ k_)) (.slice Ao23 t606.length co23) t606) := ⟨(by (with_reducible repeat (first | apply Kd.R_alloc | apply Kd.R_drewN | apply Kd.R_drew)); exact Kd.R_mono (Kd.R_far (p := ⟨gb614, 0, none⟩) (Kd.R_types HO_7.out BK614.out (by decide)) (fun _ hk => hk.2) (.slice Ao40 t617.length co40)) (fun _ hk => hk.1))⟩
    have n1_ : Aside0 (Kd.N k50 50 (w39.setCell ⟨gb614, 0, none⟩ (.slice Ao40 t617.length co40)) w.heap.size (fun k_ => (w.heap.size ≤ k_) ∧ some k_ ≠ (.slice Ao23 t606.length co23 : Value).ownBlock ∧ some k_ ≠ (.slice Ao26 t610.length co26 : Value).ownBlock ∧ some k_ ≠ (.slice Ao40 t617.length co40 : Value).ownBlock ∧ k_ ≠ gb594 ∧ k_ ≠ gb595 ∧ k_ ≠ gb605 ∧ k_ ≠ gb614 ∧ k_ ≠ g598) (.slice Ao14 t601.length co14) t601) := ⟨(by (with_reducible repeat (first | apply Kd.N_alloc | apply Kd.N_drewN | apply Kd.N_drew)); exact Kd.N_mono (Kd.N_far (p := ⟨gb614, 0, none⟩) (Kd.N_mono HO_606000.out (fun k_ hk => (⟨hk, hk.1.2.2.2.2.2.2.1⟩ : _ ∧ k_ ≠ gb614))) (fun _ hk => hk.2) (.slice Ao40 t617.length co40)) (fun _ hk => ⟨hk.1.1.1, ⟨hk.1.1.2.1, ⟨hk.1.1.2.2.1, ⟨hk.1.2, ⟨hk.1.1.2.2.2.1, ⟨hk.1.1.2.2.2.2.1, ⟨hk.1.1.2.2.2.2.2.1, ⟨hk.1.1.2.2.2.2.2.2.1, hk.1.1.2.2.2.2.2.2.2⟩⟩⟩⟩⟩⟩⟩⟩))⟩
    have n2_ : Aside0 (Kd.N k50 50 (w39.setCell ⟨gb614, 0, none⟩ (.slice Ao40 t617.length co40)) w.heap.size (fun k_ => (w.heap.size ≤ k_) ∧ some k_ ≠ (.slice Ao23 t606.length co23 : Value).ownBlock ∧ some k_ ≠ (.slice Ao40 t617.length co40 : Value).ownBlock ∧ k_ ≠ gb594 ∧ k_ ≠ gb595 ∧ k_ ≠ gb605 ∧ k_ ≠ gb614 ∧ k_ ≠ g598) (.slice Ao26 t610.length co26) t610) := ⟨(by (with_reducible repeat (first | apply Kd.N_alloc | apply Kd.N_drewN | apply Kd.N_drew)); exact Kd.N_mono (Kd.N_far (p := ⟨gb614, 0, none⟩) (Kd.N_mono HO_615000.out (fun k_ hk => (⟨hk, hk.1.2.2.2.2.2.1⟩ : _ ∧ k_ ≠ gb614))) (fun _ hk => hk.2) (.slice Ao40 t617.length co40)) (fun _ hk => ⟨hk.1.1.1, ⟨hk.1.1.2.1, ⟨hk.1.2, ⟨hk.1.1.2.2.1, ⟨hk.1.1.2.2.2.1, ⟨hk.1.1.2.2.2.2.1, ⟨hk.1.1.2.2.2.2.2.1, hk.1.1.2.2.2.2.2.2⟩⟩⟩⟩⟩⟩⟩))⟩
    have n3_ : Aside0 (Kd.N k50 50 (w39.setCell ⟨gb614, 0, none⟩ (.slice Ao40 t617.length co40)) w.heap.size (fun k_ => (w.heap.size ≤ k_) ∧ some k_ ≠ (.slice Ao23 t606.length co23 : Value).ownBlock ∧ some k_ ≠ (.slice Ao14 t601.length co14 : Value).ownBlock ∧ some k_ ≠ (.slice Ao26 t610.length co26 : Value).ownBlock ∧ k_ ≠ gb594 ∧ k_ ≠ gb595 ∧ k_ ≠ gb605 ∧ k_ ≠ gb614 ∧ k_ ≠ g598) (.slice Ao40 t617.length co40) t617) := ⟨(by (with_reducible repeat (first | apply Kd.N_alloc | apply Kd.N_drewN | apply Kd.N_drew)); exact Kd.N_mono (Kd.N_far (p := ⟨gb614, 0, none⟩) (Kd.N_mono HO619.out (fun k_ hk => (⟨hk, hk.2.2.2.2.2.2.2.1⟩ : _ ∧ k_ ≠ gb614))) (fun _ hk => hk.2) (.slice Ao40 t617.length co40)) (fun _ hk => ⟨hk.1.1, ⟨hk.1.2.1, ⟨hk.1.2.2.1, ⟨hk.1.2.2.2.1, ⟨hk.1.2.2.2.2.1, ⟨hk.1.2.2.2.2.2.1, ⟨hk.1.2.2.2.2.2.2.1, ⟨hk.1.2.2.2.2.2.2.2.1, hk.1.2.2.2.2.2.2.2.2⟩⟩⟩⟩⟩⟩⟩⟩))⟩
    have n4_ : Aside0 ((w39.setCell ⟨gb614, 0, none⟩ (.slice Ao40 t617.length co40)).heap[gb594]? = some (.cells #[.int .i64 0, .slice none 0 0] 25 (0, 0))) := ⟨(y13 NB594_614.out BK594.out)⟩
    have n5_ : Aside0 ((w39.setCell ⟨gb614, 0, none⟩ (.slice Ao40 t617.length co40)).heap[gb595]? = some (.cells #[.int .i64 0, .slice none 0 0] 25 (0, 0))) := ⟨(y13 NB595_614.out BK595.out)⟩
    have n6_ : Aside0 ((w39.setCell ⟨gb614, 0, none⟩ (.slice Ao40 t617.length co40)).heap[gb605]? = some (.cells #[.slice Ao14 t601.length co14] 50 (0, 0))) := ⟨(y13 NB605_614.out BK605.out)⟩
    have n7_ : Aside0 ((w39.setCell ⟨gb614, 0, none⟩ (.slice Ao40 t617.length co40)).heap[gb614]? = some (.cells #[.slice Ao40 t617.length co40] 50 (0, 0))) := ⟨(by (with_reducible repeat (first | refine blk_drewN ?_ _ | refine blk_drew ?_ | refine blk_alloc ?_ _)); refine blk_put (cs := #[.slice Ao26 t610.length co26]) ?_ 0 _ rfl; (with_reducible repeat (first | refine blk_drewN ?_ _ | refine blk_drew ?_ | refine blk_alloc ?_ _)); exact BK614.out)⟩
    have n8_ : Aside0 (IsS75 w (w39.setCell ⟨gb614, 0, none⟩ (.slice Ao40 t617.length co40)) g598 t596 t620) := ⟨(y36 HI598.out NB598_594.out NB598_595.out NB598_605.out NB598_614.out)⟩
    have n9_ : Aside0 (Below w.heap.size w (w39.setCell ⟨gb614, 0, none⟩ (.slice Ao40 t617.length co40))) := ⟨(y28 HB.out HI598.out GE594.out GE595.out GE605.out GE614.out)⟩
    (try clear HO_7)
    (try clear HO_606000)
    (try clear HO_615000)
    (try clear HO619)
    (try clear BK594)
    (try clear BK595)
    (try clear BK605)
    (try clear BK614)
    (try clear HI598)
    (try clear HB)
    generalize (w39.setCell ⟨gb614, 0, none⟩ (.slice Ao40 t617.length co40)) = w46 at n0_ n1_ n2_ n3_ n4_ n5_ n6_ n7_ n8_ n9_ ⊢
    have HO_7 := n0_
    have HO_606000 := n1_
    have HO_615000 := n2_
    have HO619 := n3_
    have BK594 := n4_
    have BK595 := n5_
    have BK605 := n6_
    have BK614 := n7_
    have HI598 := n8_
    have HB := n9_
    clear n0_ n1_ n2_ n3_ n4_ n5_ n6_ n7_ n8_ n9_
    replace HO_7 := Aside0.mk (Kd.R_drew HO_7.out)
    replace HO_606000 := Aside0.mk (Kd.N_drew HO_606000.out)
    replace HO_615000 := Aside0.mk (Kd.N_drew HO_615000.out)
    replace HO619 := Aside0.mk (Kd.N_drew HO619.out)
    replace BK594 := Aside0.mk (blk_drew BK594.out)
    replace BK595 := Aside0.mk (blk_drew BK595.out)
    replace BK605 := Aside0.mk (blk_drew BK605.out)
    replace BK614 := Aside0.mk (blk_drew BK614.out)
    replace HI598 := Aside0.mk (IsS75.drew HI598.out)
    replace HB := Aside0.mk (below_drew1 HB.out)
    refine start_ (n := 10) (S := fun w' => w'.cell? ⟨gb605, 0, none⟩ = some (.slice Ao14 t601.length co14) ∧ w'.cell? ⟨gb614, 0, none⟩ = some (.slice Ao40 t617.length co40)) (ds := []) #[false, false, false, false, false, false, false, false, false, false] (by kernel_rfl) rfl rfl ⟨(blk_cell BK605.out 0).trans rfl, (blk_cell BK614.out 0).trans rfl⟩ (fun hHeld => ?_); refine with_tabW spec_DrawValPut.tab7 spec_DrawValPut.bits7 (fun HT_ HW_ => ?_)
    generalize w46.drew = w47 at HO_7 HO_606000 HO_615000 HO619 BK594 BK595 BK605 BK614 HI598 HB hHeld ⊢
    refine zp 0 (some 35) HT_ ?_
    refine zp 3 (some 38) HT_ ?_
    refine zp 4 (some 39) HT_ ?_
    refine zt2 1 (some 36) HT_ HW_ hHeld ?_
    refine zt2 5 (some 40) HT_ HW_ hHeld ?_
    refine one_ (i := 2) (N := some 37) #[true, true, true, true, true, true, false, false, false, false] rfl rfl (one_of HT_.out (by kernel_rfl)) (by decide) (fun K hK => ?_)
    refine goes_ Try.func33 (by kernel_rfl) rfl #[.pointer (some ⟨g598, 0, none⟩), .agg #[.slice Ao14 t601.length co14]] (by rfl) rfl rfl y8 ?_
    with_reducible refine (spec_l71Bad.calls kj6 g598 t596 t620 (fun k_ => ((w.heap.size ≤ k_) ∧ (some k_ ≠ (.slice Ao23 t606.length co23 : Value).ownBlock ∧ (some k_ ≠ (.slice Ao26 t610.length co26 : Value).ownBlock ∧ (some k_ ≠ (.slice Ao40 t617.length co40 : Value).ownBlock ∧ (k_ ≠ gb594 ∧ (k_ ≠ gb595 ∧ (k_ ≠ gb605 ∧ (k_ ≠ gb614 ∧ k_ ≠ g598))))))))) _ _ t601 t621 t622 t625 w _ ?side1 ?side2 ?side3 A37.out).mono ?_
    (case side1 => exact y36 HI598.out NB598_594.out NB598_595.out NB598_605.out NB598_614.out)
    (case side2 => exact y28 HB.out HI598.out GE594.out GE595.out GE605.out GE614.out)
    (case side3 => exact Kd.V_mono (Kd.N_V (HO_606000.out)) (fun k_ hk_ => ⟨hk_, hk_.2.2.2.2.2.2.2.2⟩))
    rintro e w48 ⟨v623, rfl, ho0, hi, hb, hk⟩
    refine ⟨_, rfl, ?_⟩
    replace HO_606000 := Aside0.mk (Kd.N_mono (Kd.N_told (Kd.N_oldK (Kd.N_mono (ok := fun k_ => (((w.heap.size ≤ k_)) ∧ (some k_ ≠ (.slice Ao23 t606.length co23 : Value).ownBlock ∧ (some k_ ≠ (.slice Ao26 t610.length co26 : Value).ownBlock ∧ (some k_ ≠ (.slice Ao40 t617.length co40 : Value).ownBlock ∧ (k_ ≠ gb594 ∧ (k_ ≠ gb595 ∧ (k_ ≠ gb605 ∧ (k_ ≠ gb614 ∧ k_ ≠ g598))))))))) (y3 HO_606000.out) (fun k_ hk_ => (⟨hk_, hk_.2.2.2.2.2.2.2.2⟩ : _ ∧ k_ ≠ g598))) hk) (Kd.N_base ho0)) (fun _ h_ => h_.1))
    have HO624 := Aside0.mk (Kd.N_lower (Kd.N_mono (ok' := fun k_ => (w.heap.size ≤ k_) ∧ some k_ ≠ (.slice Ao23 t606.length co23 : Value).ownBlock ∧ some k_ ≠ (.slice Ao26 t610.length co26 : Value).ownBlock ∧ some k_ ≠ (.slice Ao40 t617.length co40 : Value).ownBlock ∧ k_ ≠ gb594 ∧ k_ ≠ gb595 ∧ k_ ≠ gb605 ∧ k_ ≠ gb614 ∧ k_ ≠ g598) ho0 (fun k_ hk_ => ⟨Or.elim hk_ (fun hs_ => hs_.1) (fun hn_ => (Nat.le_trans (below_size (y28 HB.out HI598.out GE594.out GE595.out GE605.out GE614.out)) hn_)), Or.elim hk_ (fun hs_ => hs_.2.1) (fun hn_ => (Kd.fresh' (Kd.R_lt (y12 HO_7.out)) k_ hn_)), Or.elim hk_ (fun hs_ => hs_.2.2.1) (fun hn_ => (Kd.fresh' (Kd.N_lt (y3 HO_615000.out)) k_ hn_)), Or.elim hk_ (fun hs_ => hs_.2.2.2.1) (fun hn_ => (Kd.fresh' (Kd.N_lt (y3 HO619.out)) k_ hn_)), Or.elim hk_ (fun hs_ => hs_.2.2.2.2.1) (fun hn_ => (Kd.freshB (g := gb594) (o := .cells #[.int .i64 0, .slice none 0 0] 25 (0, 0)) (y0 BK594.out) k_ hn_)), Or.elim hk_ (fun hs_ => hs_.2.2.2.2.2.1) (fun hn_ => (Kd.freshB (g := gb595) (o := .cells #[.int .i64 0, .slice none 0 0] 25 (0, 0)) (y0 BK595.out) k_ hn_)), Or.elim hk_ (fun hs_ => hs_.2.2.2.2.2.2.1) (fun hn_ => (Kd.freshB (g := gb605) (o := .cells #[.slice Ao14 t601.length co14] 50 (0, 0)) (y0 BK605.out) k_ hn_)), Or.elim hk_ (fun hs_ => hs_.2.2.2.2.2.2.2.1) (fun hn_ => (Kd.freshB (g := gb614) (o := .cells #[.slice Ao40 t617.length co40] 50 (0, 0)) (y0 BK614.out) k_ hn_)), Or.elim hk_ (fun hs_ => hs_.2.2.2.2.2.2.2.2) (fun hn_ => (IsS75.fresh (y36 HI598.out NB598_594.out NB598_595.out NB598_605.out NB598_614.out) k_ hn_))⟩)) (below_size (y28 HB.out HI598.out GE594.out GE595.out GE605.out GE614.out)))
    replace HO_7 := Aside0.mk (Kd.R_mono (Kd.R_keep (IsS75.apart (show IsS75 w _ g598 t596 t620 from by repeat (first | (with_reducible first | exact HI598.out | apply IsS75.alloc | apply IsS75.drewN | apply IsS75.drew | apply IsS75.set_1 | refine IsS75.far ?_ NB598_594.out _ | refine IsS75.far ?_ NB598_595.out _ | refine IsS75.far ?_ NB598_605.out _ | refine IsS75.far ?_ NB598_614.out _) | exact HI598.out)) (y12 HO_7.out) (by decide)) hk (fun _ h => h.2)) (fun _ h => h.1))
    replace HO_615000 := Aside0.mk (Kd.N_mono (Kd.N_told (Kd.N_oldK (Kd.N_mono (ok := fun k_ => (((w.heap.size ≤ k_)) ∧ (some k_ ≠ (.slice Ao23 t606.length co23 : Value).ownBlock ∧ (some k_ ≠ (.slice Ao40 t617.length co40 : Value).ownBlock ∧ (k_ ≠ gb594 ∧ (k_ ≠ gb595 ∧ (k_ ≠ gb605 ∧ (k_ ≠ gb614 ∧ k_ ≠ g598)))))))) (y3 HO_615000.out) (fun k_ hk_ => (⟨hk_, hk_.2.2.2.2.2.2.2⟩ : _ ∧ k_ ≠ g598))) hk) (Kd.N_base ho0)) (fun _ h_ => h_.1))
    replace BK594 := Aside0.mk (KeepBut.blk hk (g' := gb594) (o := .cells #[.int .i64 0, .slice none 0 0] 25 (0, 0)) (y0 BK594.out) NB594_598.out (by simp))
    replace BK595 := Aside0.mk (KeepBut.blk hk (g' := gb595) (o := .cells #[.int .i64 0, .slice none 0 0] 25 (0, 0)) (y0 BK595.out) NB595_598.out (by simp))
    replace BK605 := Aside0.mk (KeepBut.blk hk (g' := gb605) (o := .cells #[.slice Ao14 t601.length co14] 50 (0, 0)) (y0 BK605.out) NB605_598.out (by simp))
    replace BK614 := Aside0.mk (KeepBut.blk hk (g' := gb614) (o := .cells #[.slice Ao40 t617.length co40] 50 (0, 0)) (y0 BK614.out) NB614_598.out (by simp))
    replace HO619 := Aside0.mk (Kd.N_mono (Kd.N_told (Kd.N_oldK (Kd.N_mono (ok := fun k_ => (((w.heap.size ≤ k_)) ∧ (some k_ ≠ (.slice Ao23 t606.length co23 : Value).ownBlock ∧ (some k_ ≠ (.slice Ao14 t601.length co14 : Value).ownBlock ∧ (some k_ ≠ (.slice Ao26 t610.length co26 : Value).ownBlock ∧ (k_ ≠ gb594 ∧ (k_ ≠ gb595 ∧ (k_ ≠ gb605 ∧ (k_ ≠ gb614 ∧ k_ ≠ g598))))))))) (y3 HO619.out) (fun k_ hk_ => (⟨hk_, hk_.2.2.2.2.2.2.2.2⟩ : _ ∧ k_ ≠ g598))) hk) (Kd.N_base ho0)) (fun _ h_ => h_.1))
    replace HB := Aside0.mk (hb)
    replace HI598 := Aside0.mk (hi)
    (try clear hb)
    (try clear hb2)
    (try clear hk)
    (try clear hi)
    (try clear ho0)
    refine hK.out _ _ ⟨(blk_cell BK605.out 0).trans rfl, (blk_cell BK614.out 0).trans rfl⟩ (fun hHeld => ?_)
    clear hK K
    refine norm_ (a' := ?_) ?_ ?_
    rotate_left
    ·show Act.put _ (some 37) _ = _
     simp only [Act.put, List.setIfInBounds_toArray, List.set_cons_zero, List.set_cons_succ, i64_w, i32_w]
     rfl
    refine one_ (i := 6) (N := some 41) #[true, true, true, true, true, true, true, false, false, false] rfl rfl (one_of HT_.out (by kernel_rfl)) (by decide) (fun K hK => ?_)
    refine goes_ Try.func33 (by kernel_rfl) rfl #[.pointer (some ⟨g598, 0, none⟩), .agg #[.slice Ao40 t617.length co40]] (by rfl) rfl rfl y8 ?_
    with_reducible refine (spec_l71Bad.calls kj6 g598 t596 t625 (fun k_ => (((w.heap.size ≤ k_) ∧ (some k_ ≠ (.slice Ao23 t606.length co23 : Value).ownBlock ∧ (some k_ ≠ (.slice Ao14 t601.length co14 : Value).ownBlock ∧ (some k_ ≠ (.slice Ao26 t610.length co26 : Value).ownBlock ∧ (k_ ≠ gb594 ∧ (k_ ≠ gb595 ∧ (k_ ≠ gb605 ∧ (k_ ≠ gb614 ∧ k_ ≠ g598)))))))) ∧ some k_ ≠ (v623 : Value).ownBlock)) _ _ t617 t626 t627 t630 w _ ?side1 ?side2 ?side3 A38.out).mono ?_
    (case side1 => exact y36 HI598.out NB598_594.out NB598_595.out NB598_605.out NB598_614.out)
    (case side2 => exact y28 HB.out HI598.out GE594.out GE595.out GE605.out GE614.out)
    (case side3 => exact Kd.V_mono (Kd.N_V (HO619.out)) (fun k_ hk_ => ⟨hk_, hk_.1.2.2.2.2.2.2.2.2⟩))
    rintro e w49 ⟨v628, rfl, ho0, hi, hb, hk⟩
    refine ⟨_, rfl, ?_⟩
    replace HO619 := Aside0.mk (Kd.N_mono (Kd.N_told (Kd.N_oldK (Kd.N_mono (ok := fun k_ => ((((w.heap.size ≤ k_)) ∧ (some k_ ≠ (.slice Ao23 t606.length co23 : Value).ownBlock ∧ (some k_ ≠ (.slice Ao14 t601.length co14 : Value).ownBlock ∧ (some k_ ≠ (.slice Ao26 t610.length co26 : Value).ownBlock ∧ (k_ ≠ gb594 ∧ (k_ ≠ gb595 ∧ (k_ ≠ gb605 ∧ (k_ ≠ gb614 ∧ k_ ≠ g598)))))))) ∧ some k_ ≠ (v623 : Value).ownBlock)) (y3 HO619.out) (fun k_ hk_ => (⟨hk_, hk_.1.2.2.2.2.2.2.2.2⟩ : _ ∧ k_ ≠ g598))) hk) (Kd.N_base ho0)) (fun _ h_ => h_.1))
    have HO629 := Aside0.mk (Kd.N_lower (Kd.N_mono (ok' := fun k_ => (w.heap.size ≤ k_) ∧ some k_ ≠ (.slice Ao23 t606.length co23 : Value).ownBlock ∧ some k_ ≠ (.slice Ao14 t601.length co14 : Value).ownBlock ∧ some k_ ≠ (.slice Ao26 t610.length co26 : Value).ownBlock ∧ some k_ ≠ (v623 : Value).ownBlock ∧ k_ ≠ gb594 ∧ k_ ≠ gb595 ∧ k_ ≠ gb605 ∧ k_ ≠ gb614 ∧ k_ ≠ g598) ho0 (fun k_ hk_ => ⟨Or.elim hk_ (fun hs_ => hs_.1.1) (fun hn_ => (Nat.le_trans (below_size (y28 HB.out HI598.out GE594.out GE595.out GE605.out GE614.out)) hn_)), Or.elim hk_ (fun hs_ => hs_.1.2.1) (fun hn_ => (Kd.fresh' (Kd.R_lt (y12 HO_7.out)) k_ hn_)), Or.elim hk_ (fun hs_ => hs_.1.2.2.1) (fun hn_ => (Kd.fresh' (Kd.N_lt (y3 HO_606000.out)) k_ hn_)), Or.elim hk_ (fun hs_ => hs_.1.2.2.2.1) (fun hn_ => (Kd.fresh' (Kd.N_lt (y3 HO_615000.out)) k_ hn_)), Or.elim hk_ (fun hs_ => hs_.2) (fun hn_ => (Kd.fresh' (Kd.N_lt (y3 HO624.out)) k_ hn_)), Or.elim hk_ (fun hs_ => hs_.1.2.2.2.2.1) (fun hn_ => (Kd.freshB (g := gb594) (o := .cells #[.int .i64 0, .slice none 0 0] 25 (0, 0)) (y0 BK594.out) k_ hn_)), Or.elim hk_ (fun hs_ => hs_.1.2.2.2.2.2.1) (fun hn_ => (Kd.freshB (g := gb595) (o := .cells #[.int .i64 0, .slice none 0 0] 25 (0, 0)) (y0 BK595.out) k_ hn_)), Or.elim hk_ (fun hs_ => hs_.1.2.2.2.2.2.2.1) (fun hn_ => (Kd.freshB (g := gb605) (o := .cells #[.slice Ao14 t601.length co14] 50 (0, 0)) (y0 BK605.out) k_ hn_)), Or.elim hk_ (fun hs_ => hs_.1.2.2.2.2.2.2.2.1) (fun hn_ => (Kd.freshB (g := gb614) (o := .cells #[.slice Ao40 t617.length co40] 50 (0, 0)) (y0 BK614.out) k_ hn_)), Or.elim hk_ (fun hs_ => hs_.1.2.2.2.2.2.2.2.2) (fun hn_ => (IsS75.fresh (y36 HI598.out NB598_594.out NB598_595.out NB598_605.out NB598_614.out) k_ hn_))⟩)) (below_size (y28 HB.out HI598.out GE594.out GE595.out GE605.out GE614.out)))
    replace HO_7 := Aside0.mk (Kd.R_mono (Kd.R_keep (IsS75.apart (show IsS75 w _ g598 t596 t625 from by repeat (first | (with_reducible first | exact HI598.out | apply IsS75.alloc | apply IsS75.drewN | apply IsS75.drew | apply IsS75.set_1 | refine IsS75.far ?_ NB598_594.out _ | refine IsS75.far ?_ NB598_595.out _ | refine IsS75.far ?_ NB598_605.out _ | refine IsS75.far ?_ NB598_614.out _) | exact HI598.out)) (y12 HO_7.out) (by decide)) hk (fun _ h => h.2)) (fun _ h => h.1))
    replace HO_606000 := Aside0.mk (Kd.N_mono (Kd.N_told (Kd.N_oldK (Kd.N_mono (ok := fun k_ => ((((w.heap.size ≤ k_)) ∧ (some k_ ≠ (.slice Ao23 t606.length co23 : Value).ownBlock ∧ (some k_ ≠ (.slice Ao26 t610.length co26 : Value).ownBlock ∧ (some k_ ≠ (.slice Ao40 t617.length co40 : Value).ownBlock ∧ (k_ ≠ gb594 ∧ (k_ ≠ gb595 ∧ (k_ ≠ gb605 ∧ (k_ ≠ gb614 ∧ k_ ≠ g598)))))))) ∧ some k_ ≠ (v623 : Value).ownBlock)) (y3 HO_606000.out) (fun k_ hk_ => (⟨hk_, hk_.1.2.2.2.2.2.2.2.2⟩ : _ ∧ k_ ≠ g598))) hk) (Kd.N_base ho0)) (fun _ h_ => h_.1))
    replace HO_615000 := Aside0.mk (Kd.N_mono (Kd.N_told (Kd.N_oldK (Kd.N_mono (ok := fun k_ => ((((w.heap.size ≤ k_)) ∧ (some k_ ≠ (.slice Ao23 t606.length co23 : Value).ownBlock ∧ (some k_ ≠ (.slice Ao40 t617.length co40 : Value).ownBlock ∧ (k_ ≠ gb594 ∧ (k_ ≠ gb595 ∧ (k_ ≠ gb605 ∧ (k_ ≠ gb614 ∧ k_ ≠ g598))))))) ∧ some k_ ≠ (v623 : Value).ownBlock)) (y3 HO_615000.out) (fun k_ hk_ => (⟨hk_, hk_.1.2.2.2.2.2.2.2⟩ : _ ∧ k_ ≠ g598))) hk) (Kd.N_base ho0)) (fun _ h_ => h_.1))
    replace BK594 := Aside0.mk (KeepBut.blk hk (g' := gb594) (o := .cells #[.int .i64 0, .slice none 0 0] 25 (0, 0)) (y0 BK594.out) NB594_598.out (by simp))
    replace BK595 := Aside0.mk (KeepBut.blk hk (g' := gb595) (o := .cells #[.int .i64 0, .slice none 0 0] 25 (0, 0)) (y0 BK595.out) NB595_598.out (by simp))
    replace BK605 := Aside0.mk (KeepBut.blk hk (g' := gb605) (o := .cells #[.slice Ao14 t601.length co14] 50 (0, 0)) (y0 BK605.out) NB605_598.out (by simp))
    replace BK614 := Aside0.mk (KeepBut.blk hk (g' := gb614) (o := .cells #[.slice Ao40 t617.length co40] 50 (0, 0)) (y0 BK614.out) NB614_598.out (by simp))
    replace HO624 := Aside0.mk (Kd.N_mono (Kd.N_told (Kd.N_oldK (Kd.N_mono (ok := fun k_ => (((w.heap.size ≤ k_)) ∧ (some k_ ≠ (.slice Ao23 t606.length co23 : Value).ownBlock ∧ (some k_ ≠ (.slice Ao26 t610.length co26 : Value).ownBlock ∧ (some k_ ≠ (.slice Ao40 t617.length co40 : Value).ownBlock ∧ (k_ ≠ gb594 ∧ (k_ ≠ gb595 ∧ (k_ ≠ gb605 ∧ (k_ ≠ gb614 ∧ k_ ≠ g598))))))))) (y3 HO624.out) (fun k_ hk_ => (⟨hk_, hk_.2.2.2.2.2.2.2.2⟩ : _ ∧ k_ ≠ g598))) hk) (Kd.N_base ho0)) (fun _ h_ => h_.1))
    replace HB := Aside0.mk (hb)
    replace HI598 := Aside0.mk (hi)
    (try clear hb)
    (try clear hb2)
    (try clear hk)
    (try clear hi)
    (try clear ho0)
    obtain ⟨Ao51, co51, eo51⟩ := Kd.N_slice HO624.out
    (first | subst eo51 | (injection eo51 with f1_ f2_ f3_; have f4_ := f1_.symm; have f5_ := f3_.symm; clear f1_ f2_ f3_; subst f4_; subst f5_))
    obtain ⟨Ao54, co54, eo54⟩ := Kd.N_slice HO629.out
    (first | subst eo54 | (injection eo54 with f1_ f2_ f3_; have f4_ := f1_.symm; have f5_ := f3_.symm; clear f1_ f2_ f3_; subst f4_; subst f5_))
    refine hK.out _ _ ⟨(blk_cell BK605.out 0).trans rfl, (blk_cell BK614.out 0).trans rfl⟩ (fun hHeld => ?_)
    clear hK K
    refine norm_ (a' := ?_) ?_ ?_
    rotate_left
    ·show Act.put _ (some 41) _ = _
     simp only [Act.put, List.setIfInBounds_toArray, List.set_cons_zero, List.set_cons_succ, i64_w, i32_w]
     rfl
    refine one_ (i := 7) (N := none) #[true, true, true, true, true, true, true, true, false, false] rfl rfl (one_of HT_.out (by kernel_rfl)) (by decide) (fun K hK => ?_)
    have hs50 : w49.cell? ⟨gb594, 0, none⟩ = some (.int .i64 0) := (blk_cell BK594.out 0).trans rfl
    have hfs50 := zfr BK594 0
    have hns50_1 := NB595_594.out
    have hns50_2 := NB605_594.out
    have hns50_3 := NB614_594.out
    have hms50_1 := NB594_595.out
    have hms50_2 := NB594_605.out
    have hms50_3 := NB594_614.out
    have hs52 : w49.cell? ⟨gb594, 1, none⟩ = some (.slice none 0 0) := (blk_cell BK594.out 1).trans rfl
    have hfs52 := zfr BK594 1
    have hns52_1 := NB595_594.out
    have hns52_2 := NB605_594.out
    have hns52_3 := NB614_594.out
    have hms52_1 := NB594_595.out
    have hms52_2 := NB594_605.out
    have hms52_3 := NB594_614.out
    refine skip_ (w1 := ?_) (by rfl) rfl ?_ ?_
    rotate_left
    ·go_simp
     rfl
    refine hK.out _ _ ⟨((cell_far (p := ⟨gb594, _, none⟩) NB605_594.out _).trans (((cell_far (p := ⟨gb594, _, none⟩) NB605_594.out _).trans (hHeld.1)))), ((cell_far (p := ⟨gb594, _, none⟩) NB614_594.out _).trans (((cell_far (p := ⟨gb594, _, none⟩) NB614_594.out _).trans (hHeld.2))))⟩ (fun hHeld => ?_)
    clear hK K
    refine zp 8 (some 3) HT_ ?_
    refine one_ (i := 9) (N := none) #[true, true, true, true, true, true, true, true, true, true] rfl rfl (one_of HT_.out (by kernel_rfl)) (by decide) (fun K hK => ?_)
    have hs53 : w49.cell? ⟨gb595, 0, none⟩ = some (.int .i64 0) := (blk_cell BK595.out 0).trans rfl
    have hfs53 := zfr BK595 0
    have hns53_0 := NB594_595.out
    have hns53_2 := NB605_595.out
    have hns53_3 := NB614_595.out
    have hms53_0 := NB595_594.out
    have hms53_2 := NB595_605.out
    have hms53_3 := NB595_614.out
    have hs55 : w49.cell? ⟨gb595, 1, none⟩ = some (.slice none 0 0) := (blk_cell BK595.out 1).trans rfl
    have hfs55 := zfr BK595 1
    have hns55_0 := NB594_595.out
    have hns55_2 := NB605_595.out
    have hns55_3 := NB614_595.out
    have hms55_0 := NB595_594.out
    have hms55_2 := NB595_605.out
    have hms55_3 := NB595_614.out
    refine skip_ (w1 := ?_) (by rfl) rfl ?_ ?_
    rotate_left
    ·go_simp
     rfl
    refine hK.out _ _ ⟨((cell_far (p := ⟨gb595, _, none⟩) NB605_595.out _).trans (((cell_far (p := ⟨gb595, _, none⟩) NB605_595.out _).trans (hHeld.1)))), ((cell_far (p := ⟨gb595, _, none⟩) NB614_595.out _).trans (((cell_far (p := ⟨gb595, _, none⟩) NB614_595.out _).trans (hHeld.2))))⟩ (fun hHeld => ?_)
    clear hK K
    refine done_ (done_of HT_.out (by kernel_rfl)) ?_
    try go_wp2
    refine bodyPost_ret (results_list (rs := [.cell 2 25, .tmp 3, .cell 4 25]) rfl (by simp) (.cell gb594 25 #[.int .i64 t621, .slice Ao51 t622.length co51] (0, 0) _ rfl (by (with_reducible repeat (first | refine blk_drewN ?_ _ | refine blk_drew ?_ | refine blk_alloc ?_ _)); refine blk_far ?_ NB594_595.out _; (with_reducible repeat (first | refine blk_drewN ?_ _ | refine blk_drew ?_ | refine blk_alloc ?_ _)); refine blk_far ?_ NB594_595.out _; (with_reducible repeat (first | refine blk_drewN ?_ _ | refine blk_drew ?_ | refine blk_alloc ?_ _)); refine blk_put (cs := #[.int .i64 t621, .slice none 0 0]) ?_ 1 _ rfl; (with_reducible repeat (first | refine blk_drewN ?_ _ | refine blk_drew ?_ | refine blk_alloc ?_ _)); apply blk_put (i := 0); (case h => exact y0 BK594.out); (case e => rfl)) Try.underlying25 rfl (by kernel_rfl) (.tmp (.cell gb595 25 #[.int .i64 t626, .slice Ao54 t627.length co54] (0, 0) _ rfl (by (with_reducible repeat (first | refine blk_drewN ?_ _ | refine blk_drew ?_ | refine blk_alloc ?_ _)); refine blk_put (cs := #[.int .i64 t626, .slice none 0 0]) ?_ 1 _ rfl; (with_reducible repeat (first | refine blk_drewN ?_ _ | refine blk_drew ?_ | refine blk_alloc ?_ _)); refine blk_put (cs := #[.int .i64 0, .slice none 0 0]) ?_ 0 _ rfl; (with_reducible repeat (first | refine blk_drewN ?_ _ | refine blk_drew ?_ | refine blk_alloc ?_ _)); refine blk_far ?_ NB595_594.out _; (with_reducible repeat (first | refine blk_drewN ?_ _ | refine blk_drew ?_ | refine blk_alloc ?_ _)); refine blk_far ?_ NB595_594.out _; (with_reducible repeat (first | refine blk_drewN ?_ _ | refine blk_drew ?_ | refine blk_alloc ?_ _)); exact BK595.out) Try.underlying25 rfl (by kernel_rfl) .nil)))) rfl ?_
    exact ⟨_, _, _, y19, (by (with_reducible repeat (first | apply Kd.N_alloc | apply Kd.N_drewN | apply Kd.N_drew)); exact Kd.N_mono (Kd.N_far (p := ⟨gb595, 1, none⟩) (Kd.N_far (p := ⟨gb595, 0, none⟩) (Kd.N_far (p := ⟨gb594, 1, none⟩) (Kd.N_far (p := ⟨gb594, 0, none⟩) (Kd.N_mono (Kd.N_mono HO624.out (fun k_ hk => (⟨hk, hk.1.2.2.2.2.1⟩ : _ ∧ k_ ≠ gb594))) (fun k_ hk => (⟨hk, hk.1.1.2.2.2.2.2.1⟩ : _ ∧ k_ ≠ gb595))) (fun _ hk => hk.1.2) (.int .i64 t621)) (fun _ hk => hk.1.2) (.slice Ao51 t622.length co51)) (fun _ hk => hk.2) (.int .i64 t626)) (fun _ hk => hk.2) (.slice Ao54 t627.length co54)) (fun _ hk => ⟨hk.1.1.1.1, ⟨hk.1.1.1.2.1, hk.1.1.2⟩⟩)), (by (with_reducible repeat (first | apply Kd.R_alloc | apply Kd.R_drewN | apply Kd.R_drew)); exact Kd.R_mono (Kd.R_far (p := ⟨gb595, 1, none⟩) (Kd.R_far (p := ⟨gb595, 0, none⟩) (Kd.R_far (p := ⟨gb594, 1, none⟩) (Kd.R_far (p := ⟨gb594, 0, none⟩) (Kd.R_types (Kd.R_types HO_7.out BK594.out (by decide)) BK595.out (by decide)) (fun _ hk => hk.1.2) (.int .i64 t621)) (fun _ hk => hk.1.2) (.slice Ao51 t622.length co51)) (fun _ hk => hk.2) (.int .i64 t626)) (fun _ hk => hk.2) (.slice Ao54 t627.length co54)) (fun _ hk => hk.1.1)), (by (with_reducible repeat (first | apply Kd.N_alloc | apply Kd.N_drewN | apply Kd.N_drew)); exact Kd.N_mono (Kd.N_far (p := ⟨gb595, 1, none⟩) (Kd.N_far (p := ⟨gb595, 0, none⟩) (Kd.N_far (p := ⟨gb594, 1, none⟩) (Kd.N_far (p := ⟨gb594, 0, none⟩) (Kd.N_mono (Kd.N_mono HO629.out (fun k_ hk => (⟨hk, hk.2.2.2.2.2.1⟩ : _ ∧ k_ ≠ gb594))) (fun k_ hk => (⟨hk, hk.1.2.2.2.2.2.2.1⟩ : _ ∧ k_ ≠ gb595))) (fun _ hk => hk.1.2) (.int .i64 t621)) (fun _ hk => hk.1.2) (.slice Ao51 t622.length co51)) (fun _ hk => hk.2) (.int .i64 t626)) (fun _ hk => hk.2) (.slice Ao54 t627.length co54)) (fun _ hk => ⟨hk.1.1.1, ⟨hk.1.1.2.2.2.2.1, hk.1.1.2.1⟩⟩)), (y28 HB.out HI598.out GE594.out GE595.out GE605.out GE614.out)⟩
   ·replace c35 := Bool.eq_false_iff.mpr c35
    subst c35
    rw [if_neg (show ¬ (false = true) by decide)] at H
    obtain ⟨⟨t631, t632, t635⟩, A560, H⟩ := ob H
    have A56 := Aside0.mk A560
    clear A560
    obtain ⟨⟨t636, t637, t640⟩, A570, H⟩ := ob H
    have A57 := Aside0.mk A570
    clear A570
    simp only [Option.some.injEq, Prod.mk.injEq] at H
    obtain ⟨rfl, rfl, rfl, rfl, rfl⟩ := H
    try go_wp2
    replace HO_7 := Aside0.mk (Kd.R_drew HO_7.out)
    replace HO_606000 := Aside0.mk (Kd.N_drew HO_606000.out)
    replace HO_615000 := Aside0.mk (Kd.N_drew HO_615000.out)
    replace BK594 := Aside0.mk (blk_drew BK594.out)
    replace BK595 := Aside0.mk (blk_drew BK595.out)
    replace BK605 := Aside0.mk (blk_drew BK605.out)
    replace BK614 := Aside0.mk (blk_drew BK614.out)
    replace HI598 := Aside0.mk (IsS75.drew HI598.out)
    replace HB := Aside0.mk (below_drew1 HB.out)
    refine start_ (n := 10) (S := fun w' => w'.cell? ⟨gb605, 0, none⟩ = some (.slice Ao14 t601.length co14) ∧ w'.cell? ⟨gb614, 0, none⟩ = some (.slice Ao26 t610.length co26)) (ds := []) #[false, false, false, false, false, false, false, false, false, false] (by kernel_rfl) rfl rfl ⟨(blk_cell BK605.out 0).trans rfl, (blk_cell BK614.out 0).trans rfl⟩ (fun hHeld => ?_); refine with_tabW spec_DrawValPut.tab7 spec_DrawValPut.bits7 (fun HT_ HW_ => ?_)
    generalize wc.drew = w58 at HO_7 HO_606000 HO_615000 BK594 BK595 BK605 BK614 HI598 HB hHeld ⊢
    refine zp 0 (some 35) HT_ ?_
    refine zp 3 (some 38) HT_ ?_
    refine zp 4 (some 39) HT_ ?_
    refine zt2 1 (some 36) HT_ HW_ hHeld ?_
    refine zt2 5 (some 40) HT_ HW_ hHeld ?_
    refine one_ (i := 2) (N := some 37) #[true, true, true, true, true, true, false, false, false, false] rfl rfl (one_of HT_.out (by kernel_rfl)) (by decide) (fun K hK => ?_)
    refine goes_ Try.func33 (by kernel_rfl) rfl #[.pointer (some ⟨g598, 0, none⟩), .agg #[.slice Ao14 t601.length co14]] (by rfl) rfl rfl y8 ?_
    with_reducible refine (spec_l71Bad.calls kj6 g598 t596 x599001_6 (fun k_ => ((w.heap.size ≤ k_) ∧ (some k_ ≠ (.slice Ao23 t606.length co23 : Value).ownBlock ∧ (some k_ ≠ (.slice Ao26 t610.length co26 : Value).ownBlock ∧ (k_ ≠ gb594 ∧ (k_ ≠ gb595 ∧ (k_ ≠ gb605 ∧ (k_ ≠ gb614 ∧ k_ ≠ g598)))))))) _ _ t601 t631 t632 t635 w _ ?side1 ?side2 ?side3 A56.out).mono ?_
    (case side1 => exact y36 HI598.out NB598_594.out NB598_595.out NB598_605.out NB598_614.out)
    (case side2 => exact y28 HB.out HI598.out GE594.out GE595.out GE605.out GE614.out)
    (case side3 => exact Kd.V_mono (Kd.N_V (HO_606000.out)) (fun k_ hk_ => ⟨hk_, hk_.2.2.2.2.2.2.2⟩))
    rintro e w59 ⟨v633, rfl, ho0, hi, hb, hk⟩
    refine ⟨_, rfl, ?_⟩
    replace HO_606000 := Aside0.mk (Kd.N_mono (Kd.N_told (Kd.N_oldK (Kd.N_mono (ok := fun k_ => (((w.heap.size ≤ k_)) ∧ (some k_ ≠ (.slice Ao23 t606.length co23 : Value).ownBlock ∧ (some k_ ≠ (.slice Ao26 t610.length co26 : Value).ownBlock ∧ (k_ ≠ gb594 ∧ (k_ ≠ gb595 ∧ (k_ ≠ gb605 ∧ (k_ ≠ gb614 ∧ k_ ≠ g598)))))))) (y3 HO_606000.out) (fun k_ hk_ => (⟨hk_, hk_.2.2.2.2.2.2.2⟩ : _ ∧ k_ ≠ g598))) hk) (Kd.N_base ho0)) (fun _ h_ => h_.1))
    have HO634 := Aside0.mk (Kd.N_lower (Kd.N_mono (ok' := fun k_ => (w.heap.size ≤ k_) ∧ some k_ ≠ (.slice Ao23 t606.length co23 : Value).ownBlock ∧ some k_ ≠ (.slice Ao26 t610.length co26 : Value).ownBlock ∧ k_ ≠ gb594 ∧ k_ ≠ gb595 ∧ k_ ≠ gb605 ∧ k_ ≠ gb614 ∧ k_ ≠ g598) ho0 (fun k_ hk_ => ⟨Or.elim hk_ (fun hs_ => hs_.1) (fun hn_ => (Nat.le_trans (below_size (y28 HB.out HI598.out GE594.out GE595.out GE605.out GE614.out)) hn_)), Or.elim hk_ (fun hs_ => hs_.2.1) (fun hn_ => (Kd.fresh' (Kd.R_lt (y12 HO_7.out)) k_ hn_)), Or.elim hk_ (fun hs_ => hs_.2.2.1) (fun hn_ => (Kd.fresh' (Kd.N_lt (y3 HO_615000.out)) k_ hn_)), Or.elim hk_ (fun hs_ => hs_.2.2.2.1) (fun hn_ => (Kd.freshB (g := gb594) (o := .cells #[.int .i64 0, .slice none 0 0] 25 (0, 0)) (y0 BK594.out) k_ hn_)), Or.elim hk_ (fun hs_ => hs_.2.2.2.2.1) (fun hn_ => (Kd.freshB (g := gb595) (o := .cells #[.int .i64 0, .slice none 0 0] 25 (0, 0)) (y0 BK595.out) k_ hn_)), Or.elim hk_ (fun hs_ => hs_.2.2.2.2.2.1) (fun hn_ => (Kd.freshB (g := gb605) (o := .cells #[.slice Ao14 t601.length co14] 50 (0, 0)) (y0 BK605.out) k_ hn_)), Or.elim hk_ (fun hs_ => hs_.2.2.2.2.2.2.1) (fun hn_ => (Kd.freshB (g := gb614) (o := .cells #[.slice Ao26 t610.length co26] 50 (0, 0)) (y0 BK614.out) k_ hn_)), Or.elim hk_ (fun hs_ => hs_.2.2.2.2.2.2.2) (fun hn_ => (IsS75.fresh (y36 HI598.out NB598_594.out NB598_595.out NB598_605.out NB598_614.out) k_ hn_))⟩)) (below_size (y28 HB.out HI598.out GE594.out GE595.out GE605.out GE614.out)))
    replace HO_7 := Aside0.mk (Kd.R_mono (Kd.R_keep (IsS75.apart (show IsS75 w _ g598 t596 x599001_6 from by repeat (first | (with_reducible first | exact HI598.out | apply IsS75.alloc | apply IsS75.drewN | apply IsS75.drew | apply IsS75.set_1 | refine IsS75.far ?_ NB598_594.out _ | refine IsS75.far ?_ NB598_595.out _ | refine IsS75.far ?_ NB598_605.out _ | refine IsS75.far ?_ NB598_614.out _) | exact HI598.out)) (y12 HO_7.out) (by decide)) hk (fun _ h => h.2)) (fun _ h => h.1))
    replace HO_615000 := Aside0.mk (Kd.N_mono (Kd.N_told (Kd.N_oldK (Kd.N_mono (ok := fun k_ => (((w.heap.size ≤ k_)) ∧ (some k_ ≠ (.slice Ao23 t606.length co23 : Value).ownBlock ∧ (k_ ≠ gb594 ∧ (k_ ≠ gb595 ∧ (k_ ≠ gb605 ∧ (k_ ≠ gb614 ∧ k_ ≠ g598))))))) (y3 HO_615000.out) (fun k_ hk_ => (⟨hk_, hk_.2.2.2.2.2.2⟩ : _ ∧ k_ ≠ g598))) hk) (Kd.N_base ho0)) (fun _ h_ => h_.1))
    replace BK594 := Aside0.mk (KeepBut.blk hk (g' := gb594) (o := .cells #[.int .i64 0, .slice none 0 0] 25 (0, 0)) (y0 BK594.out) NB594_598.out (by simp))
    replace BK595 := Aside0.mk (KeepBut.blk hk (g' := gb595) (o := .cells #[.int .i64 0, .slice none 0 0] 25 (0, 0)) (y0 BK595.out) NB595_598.out (by simp))
    replace BK605 := Aside0.mk (KeepBut.blk hk (g' := gb605) (o := .cells #[.slice Ao14 t601.length co14] 50 (0, 0)) (y0 BK605.out) NB605_598.out (by simp))
    replace BK614 := Aside0.mk (KeepBut.blk hk (g' := gb614) (o := .cells #[.slice Ao26 t610.length co26] 50 (0, 0)) (y0 BK614.out) NB614_598.out (by simp))
    replace HB := Aside0.mk (hb)
    replace HI598 := Aside0.mk (hi)
    (try clear hb)
    (try clear hb2)
    (try clear hk)
    (try clear hi)
    (try clear ho0)
    refine hK.out _ _ ⟨(blk_cell BK605.out 0).trans rfl, (blk_cell BK614.out 0).trans rfl⟩ (fun hHeld => ?_)
    clear hK K
    refine norm_ (a' := ?_) ?_ ?_
    rotate_left
    ·show Act.put _ (some 37) _ = _
     simp only [Act.put, List.setIfInBounds_toArray, List.set_cons_zero, List.set_cons_succ, i64_w, i32_w]
     rfl
    refine one_ (i := 6) (N := some 41) #[true, true, true, true, true, true, true, false, false, false] rfl rfl (one_of HT_.out (by kernel_rfl)) (by decide) (fun K hK => ?_)
    refine goes_ Try.func33 (by kernel_rfl) rfl #[.pointer (some ⟨g598, 0, none⟩), .agg #[.slice Ao26 t610.length co26]] (by rfl) rfl rfl y8 ?_
    with_reducible refine (spec_l71Bad.calls kj6 g598 t596 t635 (fun k_ => (((w.heap.size ≤ k_) ∧ (some k_ ≠ (.slice Ao23 t606.length co23 : Value).ownBlock ∧ (k_ ≠ gb594 ∧ (k_ ≠ gb595 ∧ (k_ ≠ gb605 ∧ (k_ ≠ gb614 ∧ k_ ≠ g598)))))) ∧ some k_ ≠ (v633 : Value).ownBlock)) _ _ t610 t636 t637 t640 w _ ?side1 ?side2 ?side3 A57.out).mono ?_
    (case side1 => exact y36 HI598.out NB598_594.out NB598_595.out NB598_605.out NB598_614.out)
    (case side2 => exact y28 HB.out HI598.out GE594.out GE595.out GE605.out GE614.out)
    (case side3 => exact Kd.V_mono (Kd.N_V (HO_615000.out)) (fun k_ hk_ => ⟨hk_, hk_.1.2.2.2.2.2.2⟩))
    rintro e w60 ⟨v638, rfl, ho0, hi, hb, hk⟩
    refine ⟨_, rfl, ?_⟩
    replace HO_606000 := Aside0.mk (Kd.N_mono (Kd.N_told (Kd.N_oldK (Kd.N_mono (ok := fun k_ => ((((w.heap.size ≤ k_)) ∧ (some k_ ≠ (.slice Ao23 t606.length co23 : Value).ownBlock ∧ (some k_ ≠ (.slice Ao26 t610.length co26 : Value).ownBlock ∧ (k_ ≠ gb594 ∧ (k_ ≠ gb595 ∧ (k_ ≠ gb605 ∧ (k_ ≠ gb614 ∧ k_ ≠ g598))))))) ∧ some k_ ≠ (v633 : Value).ownBlock)) (y3 HO_606000.out) (fun k_ hk_ => (⟨hk_, hk_.1.2.2.2.2.2.2.2⟩ : _ ∧ k_ ≠ g598))) hk) (Kd.N_base ho0)) (fun _ h_ => h_.1))
    replace HO_615000 := Aside0.mk (Kd.N_mono (Kd.N_told (Kd.N_oldK (Kd.N_mono (ok := fun k_ => ((((w.heap.size ≤ k_)) ∧ (some k_ ≠ (.slice Ao23 t606.length co23 : Value).ownBlock ∧ (k_ ≠ gb594 ∧ (k_ ≠ gb595 ∧ (k_ ≠ gb605 ∧ (k_ ≠ gb614 ∧ k_ ≠ g598)))))) ∧ some k_ ≠ (v633 : Value).ownBlock)) (y3 HO_615000.out) (fun k_ hk_ => (⟨hk_, hk_.1.2.2.2.2.2.2⟩ : _ ∧ k_ ≠ g598))) hk) (Kd.N_base ho0)) (fun _ h_ => h_.1))
    have HO639 := Aside0.mk (Kd.N_lower (Kd.N_mono (ok' := fun k_ => (w.heap.size ≤ k_) ∧ some k_ ≠ (.slice Ao23 t606.length co23 : Value).ownBlock ∧ some k_ ≠ (v633 : Value).ownBlock ∧ k_ ≠ gb594 ∧ k_ ≠ gb595 ∧ k_ ≠ gb605 ∧ k_ ≠ gb614 ∧ k_ ≠ g598) ho0 (fun k_ hk_ => ⟨Or.elim hk_ (fun hs_ => hs_.1.1) (fun hn_ => (Nat.le_trans (below_size (y28 HB.out HI598.out GE594.out GE595.out GE605.out GE614.out)) hn_)), Or.elim hk_ (fun hs_ => hs_.1.2.1) (fun hn_ => (Kd.fresh' (Kd.R_lt (y12 HO_7.out)) k_ hn_)), Or.elim hk_ (fun hs_ => hs_.2) (fun hn_ => (Kd.fresh' (Kd.N_lt (y3 HO634.out)) k_ hn_)), Or.elim hk_ (fun hs_ => hs_.1.2.2.1) (fun hn_ => (Kd.freshB (g := gb594) (o := .cells #[.int .i64 0, .slice none 0 0] 25 (0, 0)) (y0 BK594.out) k_ hn_)), Or.elim hk_ (fun hs_ => hs_.1.2.2.2.1) (fun hn_ => (Kd.freshB (g := gb595) (o := .cells #[.int .i64 0, .slice none 0 0] 25 (0, 0)) (y0 BK595.out) k_ hn_)), Or.elim hk_ (fun hs_ => hs_.1.2.2.2.2.1) (fun hn_ => (Kd.freshB (g := gb605) (o := .cells #[.slice Ao14 t601.length co14] 50 (0, 0)) (y0 BK605.out) k_ hn_)), Or.elim hk_ (fun hs_ => hs_.1.2.2.2.2.2.1) (fun hn_ => (Kd.freshB (g := gb614) (o := .cells #[.slice Ao26 t610.length co26] 50 (0, 0)) (y0 BK614.out) k_ hn_)), Or.elim hk_ (fun hs_ => hs_.1.2.2.2.2.2.2) (fun hn_ => (IsS75.fresh (y36 HI598.out NB598_594.out NB598_595.out NB598_605.out NB598_614.out) k_ hn_))⟩)) (below_size (y28 HB.out HI598.out GE594.out GE595.out GE605.out GE614.out)))
    replace HO_7 := Aside0.mk (Kd.R_mono (Kd.R_keep (IsS75.apart (show IsS75 w _ g598 t596 t635 from by repeat (first | (with_reducible first | exact HI598.out | apply IsS75.alloc | apply IsS75.drewN | apply IsS75.drew | apply IsS75.set_1 | refine IsS75.far ?_ NB598_594.out _ | refine IsS75.far ?_ NB598_595.out _ | refine IsS75.far ?_ NB598_605.out _ | refine IsS75.far ?_ NB598_614.out _) | exact HI598.out)) (y12 HO_7.out) (by decide)) hk (fun _ h => h.2)) (fun _ h => h.1))
    replace BK594 := Aside0.mk (KeepBut.blk hk (g' := gb594) (o := .cells #[.int .i64 0, .slice none 0 0] 25 (0, 0)) (y0 BK594.out) NB594_598.out (by simp))
    replace BK595 := Aside0.mk (KeepBut.blk hk (g' := gb595) (o := .cells #[.int .i64 0, .slice none 0 0] 25 (0, 0)) (y0 BK595.out) NB595_598.out (by simp))
    replace BK605 := Aside0.mk (KeepBut.blk hk (g' := gb605) (o := .cells #[.slice Ao14 t601.length co14] 50 (0, 0)) (y0 BK605.out) NB605_598.out (by simp))
    replace BK614 := Aside0.mk (KeepBut.blk hk (g' := gb614) (o := .cells #[.slice Ao26 t610.length co26] 50 (0, 0)) (y0 BK614.out) NB614_598.out (by simp))
    replace HO634 := Aside0.mk (Kd.N_mono (Kd.N_told (Kd.N_oldK (Kd.N_mono (ok := fun k_ => (((w.heap.size ≤ k_)) ∧ (some k_ ≠ (.slice Ao23 t606.length co23 : Value).ownBlock ∧ (some k_ ≠ (.slice Ao26 t610.length co26 : Value).ownBlock ∧ (k_ ≠ gb594 ∧ (k_ ≠ gb595 ∧ (k_ ≠ gb605 ∧ (k_ ≠ gb614 ∧ k_ ≠ g598)))))))) (y3 HO634.out) (fun k_ hk_ => (⟨hk_, hk_.2.2.2.2.2.2.2⟩ : _ ∧ k_ ≠ g598))) hk) (Kd.N_base ho0)) (fun _ h_ => h_.1))
    replace HB := Aside0.mk (hb)
    replace HI598 := Aside0.mk (hi)
    (try clear hb)
    (try clear hb2)
    (try clear hk)
    (try clear hi)
    (try clear ho0)
    obtain ⟨Ao62, co62, eo62⟩ := Kd.N_slice HO634.out
    (first | subst eo62 | (injection eo62 with f1_ f2_ f3_; have f4_ := f1_.symm; have f5_ := f3_.symm; clear f1_ f2_ f3_; subst f4_; subst f5_))
    obtain ⟨Ao65, co65, eo65⟩ := Kd.N_slice HO639.out
    (first | subst eo65 | (injection eo65 with f1_ f2_ f3_; have f4_ := f1_.symm; have f5_ := f3_.symm; clear f1_ f2_ f3_; subst f4_; subst f5_))
    refine hK.out _ _ ⟨(blk_cell BK605.out 0).trans rfl, (blk_cell BK614.out 0).trans rfl⟩ (fun hHeld => ?_)
    clear hK K
    refine norm_ (a' := ?_) ?_ ?_
    rotate_left
    ·show Act.put _ (some 41) _ = _
     simp only [Act.put, List.setIfInBounds_toArray, List.set_cons_zero, List.set_cons_succ, i64_w, i32_w]
     rfl
    refine one_ (i := 7) (N := none) #[true, true, true, true, true, true, true, true, false, false] rfl rfl (one_of HT_.out (by kernel_rfl)) (by decide) (fun K hK => ?_)
    have hs61 : w60.cell? ⟨gb594, 0, none⟩ = some (.int .i64 0) := (blk_cell BK594.out 0).trans rfl
    have hfs61 := zfr BK594 0
    have hns61_1 := NB595_594.out
    have hns61_2 := NB605_594.out
    have hns61_3 := NB614_594.out
    have hms61_1 := NB594_595.out
    have hms61_2 := NB594_605.out
    have hms61_3 := NB594_614.out
    have hs63 : w60.cell? ⟨gb594, 1, none⟩ = some (.slice none 0 0) := (blk_cell BK594.out 1).trans rfl
    have hfs63 := zfr BK594 1
    have hns63_1 := NB595_594.out
    have hns63_2 := NB605_594.out
    have hns63_3 := NB614_594.out
    have hms63_1 := NB594_595.out
    have hms63_2 := NB594_605.out
    have hms63_3 := NB594_614.out
    refine skip_ (w1 := ?_) (by rfl) rfl ?_ ?_
    rotate_left
    ·go_simp
     rfl
    refine hK.out _ _ ⟨((cell_far (p := ⟨gb594, _, none⟩) NB605_594.out _).trans (((cell_far (p := ⟨gb594, _, none⟩) NB605_594.out _).trans (hHeld.1)))), ((cell_far (p := ⟨gb594, _, none⟩) NB614_594.out _).trans (((cell_far (p := ⟨gb594, _, none⟩) NB614_594.out _).trans (hHeld.2))))⟩ (fun hHeld => ?_)
    clear hK K
    refine zp 8 (some 3) HT_ ?_
    refine one_ (i := 9) (N := none) #[true, true, true, true, true, true, true, true, true, true] rfl rfl (one_of HT_.out (by kernel_rfl)) (by decide) (fun K hK => ?_)
    have hs64 : w60.cell? ⟨gb595, 0, none⟩ = some (.int .i64 0) := (blk_cell BK595.out 0).trans rfl
    have hfs64 := zfr BK595 0
    have hns64_0 := NB594_595.out
    have hns64_2 := NB605_595.out
    have hns64_3 := NB614_595.out
    have hms64_0 := NB595_594.out
    have hms64_2 := NB595_605.out
    have hms64_3 := NB595_614.out
    have hs66 : w60.cell? ⟨gb595, 1, none⟩ = some (.slice none 0 0) := (blk_cell BK595.out 1).trans rfl
    have hfs66 := zfr BK595 1
    have hns66_0 := NB594_595.out
    have hns66_2 := NB605_595.out
    have hns66_3 := NB614_595.out
    have hms66_0 := NB595_594.out
    have hms66_2 := NB595_605.out
    have hms66_3 := NB595_614.out
    refine skip_ (w1 := ?_) (by rfl) rfl ?_ ?_
    rotate_left
    ·go_simp
     rfl
    refine hK.out _ _ ⟨((cell_far (p := ⟨gb595, _, none⟩) NB605_595.out _).trans (((cell_far (p := ⟨gb595, _, none⟩) NB605_595.out _).trans (hHeld.1)))), ((cell_far (p := ⟨gb595, _, none⟩) NB614_595.out _).trans (((cell_far (p := ⟨gb595, _, none⟩) NB614_595.out _).trans (hHeld.2))))⟩ (fun hHeld => ?_)
    clear hK K
    refine done_ (done_of HT_.out (by kernel_rfl)) ?_
    try go_wp2
    refine bodyPost_ret (results_list (rs := [.cell 2 25, .tmp 3, .cell 4 25]) rfl (by simp) (.cell gb594 25 #[.int .i64 t631, .slice Ao62 t632.length co62] (0, 0) _ rfl (by (with_reducible repeat (first | refine blk_drewN ?_ _ | refine blk_drew ?_ | refine blk_alloc ?_ _)); refine blk_far ?_ NB594_595.out _; (with_reducible repeat (first | refine blk_drewN ?_ _ | refine blk_drew ?_ | refine blk_alloc ?_ _)); refine blk_far ?_ NB594_595.out _; (with_reducible repeat (first | refine blk_drewN ?_ _ | refine blk_drew ?_ | refine blk_alloc ?_ _)); refine blk_put (cs := #[.int .i64 t631, .slice none 0 0]) ?_ 1 _ rfl; (with_reducible repeat (first | refine blk_drewN ?_ _ | refine blk_drew ?_ | refine blk_alloc ?_ _)); apply blk_put (i := 0); (case h => exact y0 BK594.out); (case e => rfl)) Try.underlying25 rfl (by kernel_rfl) (.tmp (.cell gb595 25 #[.int .i64 t636, .slice Ao65 t637.length co65] (0, 0) _ rfl (by (with_reducible repeat (first | refine blk_drewN ?_ _ | refine blk_drew ?_ | refine blk_alloc ?_ _)); refine blk_put (cs := #[.int .i64 t636, .slice none 0 0]) ?_ 1 _ rfl; (with_reducible repeat (first | refine blk_drewN ?_ _ | refine blk_drew ?_ | refine blk_alloc ?_ _)); refine blk_put (cs := #[.int .i64 0, .slice none 0 0]) ?_ 0 _ rfl; (with_reducible repeat (first | refine blk_drewN ?_ _ | refine blk_drew ?_ | refine blk_alloc ?_ _)); refine blk_far ?_ NB595_594.out _; (with_reducible repeat (first | refine blk_drewN ?_ _ | refine blk_drew ?_ | refine blk_alloc ?_ _)); refine blk_far ?_ NB595_594.out _; (with_reducible repeat (first | refine blk_drewN ?_ _ | refine blk_drew ?_ | refine blk_alloc ?_ _)); exact BK595.out) Try.underlying25 rfl (by kernel_rfl) .nil)))) rfl ?_
    exact ⟨_, _, _, y19, (by (with_reducible repeat (first | apply Kd.N_alloc | apply Kd.N_drewN | apply Kd.N_drew)); exact Kd.N_mono (Kd.N_far (p := ⟨gb595, 1, none⟩) (Kd.N_far (p := ⟨gb595, 0, none⟩) (Kd.N_far (p := ⟨gb594, 1, none⟩) (Kd.N_far (p := ⟨gb594, 0, none⟩) (Kd.N_mono (Kd.N_mono HO634.out (fun k_ hk => (⟨hk, hk.1.2.2.2.1⟩ : _ ∧ k_ ≠ gb594))) (fun k_ hk => (⟨hk, hk.1.1.2.2.2.2.1⟩ : _ ∧ k_ ≠ gb595))) (fun _ hk => hk.1.2) (.int .i64 t631)) (fun _ hk => hk.1.2) (.slice Ao62 t632.length co62)) (fun _ hk => hk.2) (.int .i64 t636)) (fun _ hk => hk.2) (.slice Ao65 t637.length co65)) (fun _ hk => ⟨hk.1.1.1.1, ⟨hk.1.1.1.2.1, hk.1.1.2⟩⟩)), (by (with_reducible repeat (first | apply Kd.R_alloc | apply Kd.R_drewN | apply Kd.R_drew)); exact Kd.R_mono (Kd.R_far (p := ⟨gb595, 1, none⟩) (Kd.R_far (p := ⟨gb595, 0, none⟩) (Kd.R_far (p := ⟨gb594, 1, none⟩) (Kd.R_far (p := ⟨gb594, 0, none⟩) (Kd.R_types (Kd.R_types HO_7.out BK594.out (by decide)) BK595.out (by decide)) (fun _ hk => hk.1.2) (.int .i64 t631)) (fun _ hk => hk.1.2) (.slice Ao62 t632.length co62)) (fun _ hk => hk.2) (.int .i64 t636)) (fun _ hk => hk.2) (.slice Ao65 t637.length co65)) (fun _ hk => hk.1.1)), (by (with_reducible repeat (first | apply Kd.N_alloc | apply Kd.N_drewN | apply Kd.N_drew)); exact Kd.N_mono (Kd.N_far (p := ⟨gb595, 1, none⟩) (Kd.N_far (p := ⟨gb595, 0, none⟩) (Kd.N_far (p := ⟨gb594, 1, none⟩) (Kd.N_far (p := ⟨gb594, 0, none⟩) (Kd.N_mono (Kd.N_mono HO639.out (fun k_ hk => (⟨hk, hk.2.2.2.1⟩ : _ ∧ k_ ≠ gb594))) (fun k_ hk => (⟨hk, hk.1.2.2.2.2.1⟩ : _ ∧ k_ ≠ gb595))) (fun _ hk => hk.1.2) (.int .i64 t631)) (fun _ hk => hk.1.2) (.slice Ao62 t632.length co62)) (fun _ hk => hk.2) (.int .i64 t636)) (fun _ hk => hk.2) (.slice Ao65 t637.length co65)) (fun _ hk => ⟨hk.1.1.1, ⟨hk.1.1.2.2.1, hk.1.1.2.1⟩⟩)), (y28 HB.out HI598.out GE594.out GE595.out GE605.out GE614.out)⟩
end Go.Proofs.Ythfflieeifakdaa.PA
end
section
namespace Go.Proofs.Ythfflieeifakdaa.PA
open Go.RowKit Go.Proofs.YthfflieeifakdaaW.PrintWords Go.Proofs.YthfflieeifakdaaW.PrintLast Go.Proofs.YthfflieeifakdaaW.PrintMore
attribute [local go_sem] max2_int min2_int max_two min_two max_three min_three max_four min_four
set_option linter.unusedVariables false
set_option linter.unusedSimpArgs false
mutual
def spec_l1Of.j0 : Nat → Int → Bool → Int → List (S25) → Option ((List (S50)) × Bool)
 | 0, _, _, _, _ => none
 | k + 1, x1, x24, x234000, x234001 => if x24 = true then (some (([] : List (S50)), false)) else (spec_l1Of.l0 k x1 0 x234000 x234001 ([] : List (S50)))
def spec_l1Of.l0 : Nat → Int → Int → Int → List (S25) → List (S50) → Option ((List (S50)) × Bool)
 | 0, _, _, _, _, _ => none
 | k + 1, x1, x7, x234000, x234001, x236000 => if x7 < (x234001.length : Int) then (if 0 ≤ x7 then ((spec_l1Of.f k ((rd_T25 x234001 x7).f0) ((rd_T25 x234001 x7).f1) (wrap64 (x1 - 1))).bind fun bt237 => (if bt237.2 = true then (if x236000.length < 5864062014805 then (spec_l1Of.l0 k x1 (wrap64 (x7 + 1)) x234000 x234001 (x236000 ++ [(⟨bt237.1⟩ : S50)])) else (none)) else (some (x236000, false)))) else (none)) else (some (x236000, true))
def spec_l1Of.f : Nat → Int → List (S25) → Int → Option ((List (S50)) × Bool)
 | 0, _, _, _ => none
 | k + 1, a0_0, l0_1, a1 => if a1 < 1 then (spec_l1Of.j0 k a1 true a0_0 l0_1) else (if (l0_1.length : Int) = 0 then (spec_l1Of.j0 k a1 false a0_0 l0_1) else (spec_l1Of.j0 k a1 ((l0_1.length : Int) != 2) a0_0 l0_1))
end
theorem spec_l1Of.mono_l : ∀ k, (∀ y0 y1 y2, LeO (spec_l1Of.f k y0 y1 y2) (spec_l1Of.f (k + 1) y0 y1 y2)) ∧ (∀ y0 y1 y2 y3, LeO (spec_l1Of.j0 k y0 y1 y2 y3) (spec_l1Of.j0 (k + 1) y0 y1 y2 y3)) ∧ (∀ y0 y1 y2 y3 y4, LeO (spec_l1Of.l0 k y0 y1 y2 y3 y4) (spec_l1Of.l0 (k + 1) y0 y1 y2 y3 y4))
 | 0 => ⟨fun _ _ _ r h => by simp [spec_l1Of.f] at h, fun _ _ _ _ r h => by simp [spec_l1Of.j0] at h, fun _ _ _ _ _ r h => by simp [spec_l1Of.l0] at h⟩
 | k + 1 => by
  obtain ⟨ih0, ih1, ih2⟩ := spec_l1Of.mono_l k
  refine ⟨?_, ?_, ?_⟩
  ·intro y0 y1 y2
   unfold spec_l1Of.f
   repeat' first
   | (with_reducible exact ih0 _ _ _)
   | (with_reducible exact ih1 _ _ _ _)
   | (with_reducible exact ih2 _ _ _ _ _)
   | (with_reducible exact LeO.refl _)
   | (with_reducible exact LeO.none _)
   | (with_reducible refine LeO.ite ?_ ?_)
   | (with_reducible refine LeO.bind ?_ (fun _ => ?_))
   | exact ih0 _ _ _
   | exact ih1 _ _ _ _
   | exact ih2 _ _ _ _ _
   | exact LeO.none _
   | refine LeO.ite ?_ ?_
   | refine LeO.bind ?_ (fun _ => ?_)
  ·intro y0 y1 y2 y3
   unfold spec_l1Of.j0
   repeat' first
   | (with_reducible exact ih0 _ _ _)
   | (with_reducible exact ih1 _ _ _ _)
   | (with_reducible exact ih2 _ _ _ _ _)
   | (with_reducible exact LeO.refl _)
   | (with_reducible exact LeO.none _)
   | (with_reducible refine LeO.ite ?_ ?_)
   | (with_reducible refine LeO.bind ?_ (fun _ => ?_))
   | exact ih0 _ _ _
   | exact ih1 _ _ _ _
   | exact ih2 _ _ _ _ _
   | exact LeO.none _
   | refine LeO.ite ?_ ?_
   | refine LeO.bind ?_ (fun _ => ?_)
  ·intro y0 y1 y2 y3 y4
   unfold spec_l1Of.l0
   repeat' first
   | (with_reducible exact ih0 _ _ _)
   | (with_reducible exact ih1 _ _ _ _)
   | (with_reducible exact ih2 _ _ _ _ _)
   | (with_reducible exact LeO.refl _)
   | (with_reducible exact LeO.none _)
   | (with_reducible refine LeO.ite ?_ ?_)
   | (with_reducible refine LeO.bind ?_ (fun _ => ?_))
   | exact ih0 _ _ _
   | exact ih1 _ _ _ _
   | exact ih2 _ _ _ _ _
   | exact LeO.none _
   | refine LeO.ite ?_ ?_
   | refine LeO.bind ?_ (fun _ => ?_)
theorem spec_l1Of.mono : ∀ a0 a1 a2 k, LeO (spec_l1Of.f k a0 a1 a2) (spec_l1Of.f (k + 1) a0 a1 a2) := by
 intro a0 a1 a2 k
 obtain ⟨ih0, ih1, ih2⟩ := spec_l1Of.mono_l k
 exact ih0 a0 a1 a2
set_option maxHeartbeats 8000000 in
set_option maxRecDepth 100000 in
theorem spec_l1Of.calls (k : Nat) : ∀ (a0_0 : Int) (A0_1 : Option Addr) (c0_1 : Nat) (l0_1 : List (S25)) (a1 : Int) (r1 : List (S50)) (r2 : Bool) (w : World) (hr0_1 : Kd.C k25 w A0_1 l0_1.length l0_1) (hc0_1 : l0_1.length ≤ c0_1) (h : spec_l1Of.f k a0_0 l0_1 a1 = some (r1, r2)),
  Calls Try.prog 49 #[.agg #[.int .i64 a0_0, .slice A0_1 l0_1.length c0_1], .int .i64 a1] w fun e w' => ∃ v0_ : Value, e = .returned (.tuple #[.agg #[v0_], .bool r2]) ∧ Kd.R k50 50 w' w.heap.size (fun _ => True) v0_ r1 ∧ Below w.heap.size w w' := by
 induction k using Nat.strongRecOn with
 | _ k ih =>
 intro a0_0 A0_1 c0_1 l0_1 a1 r1 r2 w hr0_1 hc0_1 h
 cases k with
 | zero => exact absurd h (by simp [spec_l1Of.f])
 | succ k =>
 simp only [spec_l1Of.f] at h
 have hu25 := Try.underlying25
 have hu50 := Try.underlying50
 have HR0_1 := Aside0.mk hr0_1
 have HC0_1 := Aside0.mk hc0_1
 clear hr0_1 hc0_1
 have HB := Aside0.mk (Below.refl w.heap.size w)
 have H : (if a1 < 1 then (spec_l1Of.j0 k a1 true a0_0 l0_1) else (if (l0_1.length : Int) = 0 then (spec_l1Of.j0 k a1 false a0_0 l0_1) else (spec_l1Of.j0 k a1 ((l0_1.length : Int) != 2) a0_0 l0_1))) = some (r1, r2) := h
 clear h
 have HC3 := Aside0.mk H
 clear H
 go_enter Try.func49, Try.ntmps49
 go_upto_region 2 with (first | ((with_reducible refine gate_dst (N := 2) rfl ?_); (try (refine gate_guard (by rfl) ?_; dsimp only)); refine zbx 2 #[.int .i64 a0_0, .slice A0_1 l0_1.length c0_1] 25 ?_; intro gb233 hg w4 hbox hb; have BK233 := Aside0.mk hbox; have GW233 := Aside0.mk ((y9 hg HB.out : w.heap.size ≤ gb233)); have GE233 := Aside0.mk ((y9 hg HB.out : w.heap.size ≤ gb233)); replace HB := Aside0.mk (below_step (y5 HB.out) hb); clear hb hbox hg) | ((with_reducible refine gate_dst (N := 4) rfl ?_); (try (refine gate_guard (by rfl) ?_; dsimp only)); refine zbx 4 #[.slice none 0 0] 50 ?_; intro gb234 hg w5 hbox hb; have BK234 := Aside0.mk hbox; have GW234 := Aside0.mk ((y11 hg HB.out GE233.out : w.heap.size ≤ gb234)); have GE234 := Aside0.mk ((y11 hg HB.out GE233.out : w.heap.size ≤ gb234)); replace HB := Aside0.mk (below_step (y6 HB.out GE233.out) hb); have NB233_234 := zltn hg BK233; have NB234_233 := zgtn hg BK233; replace BK233 := zbb BK233 hb; clear hb hbox hg) | ((with_reducible refine gate_dst (N := 6) rfl ?_); (try (refine gate_guard (by rfl) ?_; dsimp only)); refine zbx 6 #[.slice none 0 0] 50 ?_; intro gb235 hg w6 hbox hb; have BK235 := Aside0.mk hbox; have GW235 := Aside0.mk ((y16 hg HB.out GE233.out GE234.out : w.heap.size ≤ gb235)); have GE235 := Aside0.mk ((y16 hg HB.out GE233.out GE234.out : w.heap.size ≤ gb235)); replace HB := Aside0.mk (below_step (y2 HB.out GE233.out GE234.out) hb); have NB233_235 := zltn hg BK233; have NB235_233 := zgtn hg BK233; replace BK233 := zbb BK233 hb; have NB234_235 := zltn hg BK234; have NB235_234 := zgtn hg BK234; replace BK234 := zbb BK234 hb; clear hb hbox hg; have hnb7 := NB235_233.out; have hnc7 := NB233_235.out; have hnb8 := NB235_234.out; have hnc8 := NB234_235.out; have hcz9_0 := zh BK235; have hfz9_0 := zfr BK235 0))
 (try simp only [Act.put, List.setIfInBounds_toArray, List.set_cons_zero, List.set_cons_succ])
 go_cut [24] (fun v24 wc => ∃ (kq : Nat) (x24_2 : Bool), v24 = .bool x24_2 ∧ Aside0 (spec_l1Of.j0 kq a1 x24_2 a0_0 l0_1 = some (r1, r2)) ∧ Aside0 (kq ≤ k) ∧ Aside0 (wc.heap[gb233]? = some (.cells #[.int .i64 a0_0, (.slice A0_1 l0_1.length c0_1)] 25 (0, 0))) ∧ Aside0 (wc.heap[gb234]? = some (.cells #[(.slice none 0 0)] 50 (0, 0))) ∧ Aside0 (wc.heap[gb235]? = some (.cells #[(.slice none 0 0)] 50 (0, 0))) ∧ Aside0 (Below w.heap.size w wc))
 case first =>
  have H := HC3.out
  clear HC3
  by_cases c10 : a1 < 1
  ·rw [if_pos c10] at H
   have c10b0 : decide (a1 < 1) = true := decide_eq_true c10
   clear c10
   (first | rw [c10b0] | (simp only [i64_w, i32_w]; rw [c10b0]) | skip)
   have H' := Aside0.mk H
   clear H
   go_wp2
   go_meet
   case rel => exact ⟨_, (true), y34, H', ⟨y46⟩, ⟨(y13 NB233_235.out BK233.out)⟩, ⟨(y13 NB234_235.out BK234.out)⟩, ⟨(by (with_reducible repeat (first | refine blk_drewN ?_ _ | refine blk_drew ?_ | refine blk_alloc ?_ _)); refine blk_put (cs := #[.slice none 0 0]) ?_ 0 _ rfl; (with_reducible repeat (first | refine blk_drewN ?_ _ | refine blk_drew ?_ | refine blk_alloc ?_ _)); exact BK235.out)⟩, ⟨(y4 HB.out GE233.out GE234.out GE235.out)⟩⟩
  ·rw [if_neg c10] at H
   have c10b0 : decide (a1 < 1) = false := decide_eq_false c10
   clear c10
   (first | rw [c10b0] | (simp only [i64_w, i32_w]; rw [c10b0]) | skip)
   by_cases c11 : (l0_1.length : Int) = 0
   ·rw [if_pos c11] at H
    have c11b0 : ((l0_1.length : Int) == 0) = true := beq_iff_eq.mpr c11
    have c11b1 : ((l0_1.length : Int) != 0) = false := bne_eq_false_iff_eq.mpr c11
    clear c11
    have H' := Aside0.mk H
    clear H
    have hnb12 := NB233_234.out
    have hnc12 := NB234_233.out
    have hnb13 := NB233_235.out
    have hnc13 := NB235_233.out
    have hcz14_0 := zh BK233
    have hcz14_1 := zh1 BK233
    have hfz14_0 := zfr BK233 0
    have hfz14_1 := zfr BK233 1
    go_wp2
    go_meet
    case rel => exact ⟨_, (false), y34, H', ⟨y46⟩, ⟨(y13 NB233_235.out BK233.out)⟩, ⟨(y13 NB234_235.out BK234.out)⟩, ⟨(by (with_reducible repeat (first | refine blk_drewN ?_ _ | refine blk_drew ?_ | refine blk_alloc ?_ _)); refine blk_put (cs := #[.slice none 0 0]) ?_ 0 _ rfl; (with_reducible repeat (first | refine blk_drewN ?_ _ | refine blk_drew ?_ | refine blk_alloc ?_ _)); exact BK235.out)⟩, ⟨(y4 HB.out GE233.out GE234.out GE235.out)⟩⟩
   ·rw [if_neg c11] at H
    have c11b0 : ((l0_1.length : Int) == 0) = false := beq_eq_false_iff_ne.mpr c11
    have c11b1 : ((l0_1.length : Int) != 0) = true := bne_iff_ne.mpr c11
    have c11b2 : ¬ (l0_1 = []) := fun h_ => c11 (by rw [h_]; rfl)
    have H' := Aside0.mk H
    clear H
    have hnb15 := NB233_234.out
    have hnc15 := NB234_233.out
    have hnb16 := NB233_235.out
    have hnc16 := NB235_233.out
    have hcz17_0 := zh BK233
    have hcz17_1 := zh1 BK233
    have hfz17_0 := zfr BK233 0
    have hfz17_1 := zfr BK233 1
    go_wp2
    go_meet
    case rel => exact ⟨_, (((l0_1.length : Int) != 2)), y34, H', ⟨y46⟩, ⟨(y13 NB233_235.out BK233.out)⟩, ⟨(y13 NB234_235.out BK234.out)⟩, ⟨(by (with_reducible repeat (first | refine blk_drewN ?_ _ | refine blk_drew ?_ | refine blk_alloc ?_ _)); refine blk_put (cs := #[.slice none 0 0]) ?_ 0 _ rfl; (with_reducible repeat (first | refine blk_drewN ?_ _ | refine blk_drew ?_ | refine blk_alloc ?_ _)); exact BK235.out)⟩, ⟨(y4 HB.out GE233.out GE234.out GE235.out)⟩⟩
 case rest =>
  clear HC3
  try clear c1
  try clear p2
  try clear c4
  try clear c7
  try clear c8
  try clear c10
  try clear c10b0
  try clear c11
  try clear c11b0
  try clear c11b1
  try clear c11b2
  try clear c12
  try clear c13
  try clear c15
  try clear c16
  try clear hcz14_0
  try clear hcz14_1
  try clear hcz17_0
  try clear hcz17_1
  try clear hcz9_0
  try clear hfz14_0
  try clear hfz14_1
  try clear hfz17_0
  try clear hfz17_1
  try clear hfz9_0
  obtain ⟨kq, x24_2, rfl, HA, HJ2, BK233, BK234, BK235, HB⟩ := hcut
  cases kq with
  | zero => exact absurd HA.out (by simp [spec_l1Of.j0])
  | succ kj2 =>
   have H := HA.out
   clear HA
   simp only [spec_l1Of.j0] at H
   by_cases c18 : x24_2 = true
   ·subst c18
    rw [if_pos rfl] at H
    simp only [Option.some.injEq, Prod.mk.injEq] at H
    obtain ⟨rfl, rfl⟩ := H
    have hnb19 := NB235_233.out
    have hnc19 := NB233_235.out
    have hnb20 := NB235_234.out
    have hnc20 := NB234_235.out
    have hcz21_0 := zh BK235
    have hfz21_0 := zfr BK235 0
    have hnb22 := NB234_233.out
    have hnc22 := NB233_234.out
    have hcz23_0 := zh BK234
    have hfz23_0 := zfr BK234 0
    go_wp2
    refine bodyPost_ret (results_ct rfl _ _ gb234 50 #[.slice none 0 0] (0, 0) _ rfl (by (with_reducible repeat (first | refine blk_drewN ?_ _ | refine blk_drew ?_ | refine blk_alloc ?_ _)); apply blk_put (i := 0); (case h => exact y0 BK234.out); (case e => rfl)) Try.underlying50 rfl (by kernel_rfl)) rfl ?_
    exact ⟨_, y19, y37, (y4 HB.out GE233.out GE234.out GE235.out)⟩
   ·replace c18 := Bool.eq_false_iff.mpr c18
    subst c18
    rw [if_neg (show ¬ (false = true) by decide)] at H
    have H' := Aside0.mk H
    clear H
    go_wp2
    go_loopg [7] kj2 (fun kq v7 w' => ∃ (x7_2 : Int) (x236000_2 : List (S50)) (u236000 : Value), v7 = .int .i64 x7_2 ∧ Aside0 (spec_l1Of.l0 kq a1 x7_2 a0_0 l0_1 x236000_2 = some (r1, r2)) ∧ Aside0 (kq ≤ kj2) ∧ Aside0 (Kd.R k50 50 w' w.heap.size (fun k_ => k_ ≠ gb234 ∧ k_ ≠ gb235) u236000 x236000_2) ∧ Aside0 (w'.heap[gb233]? = some (.cells #[.int .i64 a0_0, (.slice A0_1 l0_1.length c0_1)] 25 (0, 0))) ∧ Aside0 (w'.heap[gb234]? = some (.cells #[(.slice none 0 0)] 50 (0, 0))) ∧ Aside0 (w'.heap[gb235]? = some (.cells #[u236000] 50 (0, 0))) ∧ Aside0 (Below w.heap.size w w'))
    case atStart => exact ⟨(0), (([] : List (S50))), (.slice none 0 0), y34, H', ⟨Nat.le_refl _⟩, ⟨y37⟩, ⟨(y0 BK233.out)⟩, ⟨(y0 BK234.out)⟩, ⟨(y0 BK235.out)⟩, ⟨(y4 HB.out GE233.out GE234.out GE235.out)⟩⟩
    case round =>
     clear H'
     try clear c1
     try clear c2
     try clear p2
     try clear c4
     try clear c7
     try clear c8
     try clear c10
     try clear c10b0
     try clear c11
     try clear c11b0
     try clear c11b1
     try clear c11b2
     try clear c12
     try clear c13
     try clear c15
     try clear c16
     try clear c18
     try clear c19
     try clear c20
     try clear c22
     try clear hcz14_0
     try clear hcz14_1
     try clear hcz17_0
     try clear hcz17_1
     try clear hcz21_0
     try clear hcz23_0
     try clear hcz9_0
     try clear hfz14_0
     try clear hfz14_1
     try clear hfz17_0
     try clear hfz17_1
     try clear hfz21_0
     try clear hfz23_0
     try clear hfz9_0
     try clear p2
     (try clear BK233); (try clear BK234); (try clear BK235)
     obtain ⟨x7_2, x236000_2, u236000, rfl, HA, HK2, HO_236000, BK233, BK234, BK235, HB⟩ := hrel
     cases gk with
     | zero => exact absurd HA.out (by simp [spec_l1Of.l0])
     | succ k2 =>
      have H := HA.out
      clear HA
      simp only [spec_l1Of.l0] at H
      by_cases c24 : x7_2 < (l0_1.length : Int)
      ·rw [if_pos c24] at H
       have c24b0 : decide (x7_2 < (l0_1.length : Int)) = true := decide_eq_true c24
       clear c24
       by_cases c25 : 0 ≤ x7_2
       ·rw [if_pos c25] at H
        have c25b0 : decide (0 ≤ x7_2) = true := decide_eq_true c25
        clear c25
        obtain ⟨⟨t237, t240⟩, A260, H⟩ := ob H
        have A26 := Aside0.mk A260
        clear A260
        by_cases c27 : t240 = true
        ·subst c27
         rw [if_pos rfl] at H
         by_cases c28 : x236000_2.length < 5864062014805
         ·rw [if_pos c28] at H
          have LMc28 := Aside0.mk c28
          clear c28
          obtain ⟨y242, hy242⟩ : ∃ y_ : List (S50), y_ = (x236000_2 ++ [(⟨t237⟩ : S50)]) := ⟨_, rfl⟩
          replace H : (spec_l1Of.l0 k2 a1 (wrap64 (x7_2 + 1)) a0_0 l0_1 y242) = some (r1, r2) := by first | (rw [hy242]; with_reducible exact H) | (have H2_ := (Option.bind_some _ _).symm.trans H; rw [hy242]; with_reducible exact H2_) | (have H2_ := (Option.bind_some _ _).symm.trans H; with_reducible exact H2_) | with_reducible exact H | (rw [hy242]; exact H) | exact H
          have Ny242 := Aside0.mk hy242
          clear hy242
          have H' := Aside0.mk H
          clear H
          have hnb29 := NB233_234.out
          have hnc29 := NB234_233.out
          have hnb30 := NB233_235.out
          have hnc30 := NB235_233.out
          have hcz31_0 := zh BK233
          have hcz31_1 := zh1 BK233
          have hfz31_0 := zfr BK233 0
          have hfz31_1 := zfr BK233 1
          have p236 : 0 ≤ (x7_2 : Int) := of_decide_eq_true y23
          have q236 : x7_2 < (l0_1.length : Int) := of_decide_eq_true y23
          obtain ⟨ad236, A236_1, c236_1, e236, hx236_0, hx236_1, hl236_1, hi236_1⟩ := at_T25 HR0_1.out x7_2 p236 q236
          cases e236
          replace hx236_0 := (HB.out.cell (World.block_lt_of_cell? w _ hx236_0)).trans hx236_0
          replace hx236_1 := (HB.out.cell (World.block_lt_of_cell? w _ hx236_1)).trans hx236_1
          have HR236_1 := Aside0.mk hi236_1
          have HC236_1 := Aside0.mk hl236_1
          clear hi236_1 hl236_1
          replace p236 := eq_true p236
          replace q236 := eq_true q236
          go_wp2_with (first | ((with_reducible refine gate_callee (f := 49) rfl ?_); refine goesL_ (some 41) rfl rfl Try.func49 (by kernel_rfl) rfl #[.agg #[.int .i64 ((rd_T25 l0_1 x7_2).f0), .slice A236_1 ((rd_T25 l0_1 x7_2).f1).length c236_1], .int .i64 (wrap64 (a1 - 1))] rfl y8 ?_; (with_reducible refine (ih k2 (y87 HJ2.out HK2.out) ((rd_T25 l0_1 x7_2).f0) _ _ ((rd_T25 l0_1 x7_2).f1) (wrap64 (a1 - 1)) t237 true _ ?side1 ?side2 A26.out).mono ?_); (case side1 => exact y15 HR236_1.out HB.out); (case side2 => exact HC236_1.out); rintro e w32 ⟨v238, rfl, ho0, hb⟩; refine ⟨_, rfl, ?_⟩; have HO239 := Aside0.mk (Kd.R_lower (Kd.R_newB (Kd.R_newB (Kd.R_new' ho0 (Kd.R_lt (y12 HO_236000.out))) (g := gb234) (o := .cells #[.slice none 0 0] 50 (0, 0)) (y0 BK234.out)) (g := gb235) (o := .cells #[u236000] 50 (0, 0)) (y0 BK235.out)) (below_size (y4 HB.out GE233.out GE234.out GE235.out))); replace HO_236000 := Aside0.mk (Kd.R_elder' (y12 HO_236000.out) (Kd.R_base ho0) hb); replace BK233 := zbb BK233 hb; replace BK234 := zbb BK234 hb; replace BK235 := zbb BK235 hb; replace HB := Aside0.mk (below_step (y4 HB.out GE233.out GE234.out GE235.out) hb); (try clear hb); (try clear hb2); (try clear hk); (try clear hi); (try clear ho0)) | ((with_reducible refine gate_dst (N := 8) rfl ?_); (try (refine gate_guard (by rfl) ?_; dsimp only)); refine zbx 8 #[.slice none 0 0] 50 ?_; intro gb241 hg w33 hbox hb; replace HO_236000 := Aside0.mk (Kd.R_below (Kd.R_elderB (y12 HO_236000.out) gb241 (Nat.le_of_eq hg.symm)) hb); replace HO239 := Aside0.mk (Kd.R_below (Kd.R_elderB (y12 HO239.out) gb241 (Nat.le_of_eq hg.symm)) hb); have BK241 := Aside0.mk hbox; have GW241 := Aside0.mk ((y22 hg HB.out GE233.out GE234.out GE235.out : w.heap.size ≤ gb241)); have GE241 := Aside0.mk ((y22 hg HB.out GE233.out GE234.out GE235.out : w.heap.size ≤ gb241)); replace HB := Aside0.mk (below_step (y4 HB.out GE233.out GE234.out GE235.out) hb); have NB233_241 := zltn hg BK233; have NB241_233 := zgtn hg BK233; replace BK233 := zbb BK233 hb; have NB234_241 := zltn hg BK234; have NB241_234 := zgtn hg BK234; replace BK234 := zbb BK234 hb; have NB235_241 := zltn hg BK235; have NB241_235 := zgtn hg BK235; replace BK235 := zbb BK235 hb; clear hb hbox hg; obtain ⟨Ao34, co34, eo34⟩ := Kd.R_slice HO239.out; subst eo34; have hnb35 := NB241_233.out; have hnc35 := NB233_241.out; have hnb36 := NB241_234.out; have hnc36 := NB234_241.out; have hnb37 := NB241_235.out; have hnc37 := NB235_241.out; have hcz38_0 := zh BK241; have hfz38_0 := zfr BK241 0) | ((with_reducible refine gate_store (t := 50) (p := 8) rfl ?_); refine store_event (t := 50) (p := 8) (v := ?vo_w39) (w1 := (w33.setCell ⟨gb241, 0, none⟩ (.slice Ao34 t237.length co34))) ?hg ?ho ?hn ?hr ?_; (case ho => rfl); (case hg => rfl); (case hn => rfl); (case hr => first | (go_simp; done) | (go_simp; rfl)); intro w39 hw; have n0_ : Aside0 (Kd.R k50 50 w39 w.heap.size (fun k_ => some k_ ≠ (.slice Ao34 t237.length co34 : Value).ownBlock ∧ k_ ≠ gb234 ∧ k_ ≠ gb235 ∧ k_ ≠ gb241) u236000 x236000_2) := ⟨(by rw [hw]; exact (by (with_reducible repeat (first | apply Kd.R_alloc | apply Kd.R_drewN | apply Kd.R_drew)); exact Kd.R_mono (Kd.R_far (p := ⟨gb241, 0, none⟩) (Kd.R_mono HO_236000.out (fun k_ hk => (⟨hk, hk.2⟩ : _ ∧ k_ ≠ gb241))) (fun _ hk => hk.2) (.slice Ao34 t237.length co34)) (fun _ hk => ⟨hk.1.1.2, ⟨hk.1.1.1.1, ⟨hk.1.1.1.2, hk.1.2⟩⟩⟩)))⟩; have n1_ : Aside0 (Kd.R k50 50 w39 w.heap.size (fun k_ => some k_ ≠ (u236000 : Value).ownBlock ∧ k_ ≠ gb234 ∧ k_ ≠ gb235 ∧ k_ ≠ gb241) (.slice Ao34 t237.length co34) t237) := ⟨(by rw [hw]; exact (by (with_reducible repeat (first | apply Kd.R_alloc | apply Kd.R_drewN | apply Kd.R_drew)); exact Kd.R_mono (Kd.R_far (p := ⟨gb241, 0, none⟩) (Kd.R_mono HO239.out (fun k_ hk => (⟨hk, hk.2⟩ : _ ∧ k_ ≠ gb241))) (fun _ hk => hk.2) (.slice Ao34 t237.length co34)) (fun _ hk => ⟨hk.1.1.1.1.2, ⟨hk.1.1.1.2, ⟨hk.1.1.2, hk.1.2⟩⟩⟩)))⟩; have n2_ : Aside0 (w39.heap[gb233]? = some (.cells #[.int .i64 a0_0, .slice (some ad236) l0_1.length c0_1] 25 (0, 0))) := ⟨(by rw [hw]; exact (y13 NB233_241.out BK233.out))⟩; have n3_ : Aside0 (w39.heap[gb234]? = some (.cells #[.slice none 0 0] 50 (0, 0))) := ⟨(by rw [hw]; exact (y13 NB234_241.out BK234.out))⟩; have n4_ : Aside0 (w39.heap[gb235]? = some (.cells #[u236000] 50 (0, 0))) := ⟨(by rw [hw]; exact (y13 NB235_241.out BK235.out))⟩; have n5_ : Aside0 (w39.heap[gb241]? = some (.cells #[.slice Ao34 t237.length co34] 50 (0, 0))) := ⟨(by rw [hw]; exact (by (with_reducible repeat (first | refine blk_drewN ?_ _ | refine blk_drew ?_ | refine blk_alloc ?_ _)); apply blk_put (i := 0); (case h => exact y0 BK241.out); (case e => rfl)))⟩; have n6_ : Aside0 (Below w.heap.size w w39) := ⟨(by rw [hw]; exact (y7 HB.out GE233.out GE234.out GE235.out GE241.out))⟩; clear hw; clear HO_236000; clear HO239; clear BK233; clear BK234; clear BK235; clear BK241; clear HB; have HO_236000 := n0_; have HO239 := n1_; have BK233 := n2_; have BK234 := n3_; have BK235 := n4_; have BK241 := n5_; have HB := n6_; clear n0_ n1_ n2_ n3_ n4_ n5_ n6_; have hnb40 := NB235_234.out; have hnc40 := NB234_235.out; have hcz41_0 := zh BK235; have hfz41_0 := zfr BK235 0; have hcz42_0 := zh BK241; have hfz42_0 := zfr BK241 0) | ((with_reducible refine gate_builtin (b := .append) (xs := #[.tmp 48, .tmp 50]) rfl ?_); (try (refine gate_guard (by rfl) ?_; dsimp only)); at_builtin; refine Kd.R_append k50 (w0 := w) w.heap.size rfl (.tmp 48) (.tmp 50) 48 50 (.agg #[(.slice none 0 0)]) 24 rfl Try.underlying48 info50 rfl (by decide) (by omega) u236000 x236000_2 (⟨t237⟩ : S50) [.slice Ao34 t237.length co34] (fun k_ => k_ ≠ gb234 ∧ k_ ≠ gb235 ∧ k_ ≠ gb241) (fun k_ => ((fun k_ => k_ ≠ gb234 ∧ k_ ≠ gb235 ∧ k_ ≠ gb241)) k_ ∧ some k_ ≠ (u236000 : Value).ownBlock) rfl rfl ?aP (fun _ hk => hk) ?aF ?aO ?aB ?aS ?aL ?_; (case aP => exact k50_mkM _ _ _ (⟨t237⟩ : S50) (Kd.R_mono (HO239.out) (fun k_ hk => ⟨⟨hk.2.1, ⟨hk.2.2.1, hk.2.2.2⟩⟩, hk.1⟩))); (case aB => exact (y7 HB.out GE233.out GE234.out GE235.out GE241.out)); (case aF => exact (fun k_ hk => ⟨Kd.freshB (g := gb234) (o := .cells #[.slice none 0 0] 50 (0, 0)) (y0 BK234.out) k_ hk, Kd.freshB (g := gb235) (o := .cells #[u236000] 50 (0, 0)) (y0 BK235.out) k_ hk, Kd.freshB (g := gb241) (o := .cells #[.slice Ao34 t237.length co34] 50 (0, 0)) (y0 BK241.out) k_ hk⟩)); (case aO => exact (by (with_reducible repeat (first | apply Kd.R_alloc | apply Kd.R_drewN | apply Kd.R_drew)); exact Kd.R_mono HO_236000.out (fun _ hk => ⟨hk.2.1, ⟨hk.2.2.1, hk.2.2.2⟩⟩))); (case aS => exact (below_size (y7 HB.out GE233.out GE234.out GE235.out GE241.out))); (case aL => exact y57 LMc28.out); intro v243 w43 ho hb hg hat; rw [← Ny242.out] at ho; replace BK233 := Aside0.mk (blk_grown (g := gb233) (o := .cells #[.int .i64 a0_0, .slice (some ad236) l0_1.length c0_1] 25 (0, 0)) (y0 BK233.out) hg (Kd.R_ne HO_236000.out BK233.out (by decide))); replace BK234 := Aside0.mk (blk_grown (g := gb234) (o := .cells #[.slice none 0 0] 50 (0, 0)) (y0 BK234.out) hg (Kd.R_away HO_236000.out (fun _ hk => hk.2.1))); replace BK235 := Aside0.mk (blk_grown (g := gb235) (o := .cells #[u236000] 50 (0, 0)) (y0 BK235.out) hg (Kd.R_away HO_236000.out (fun _ hk => hk.2.2.1))); replace BK241 := Aside0.mk (blk_grown (g := gb241) (o := .cells #[.slice Ao34 t237.length co34] 50 (0, 0)) (y0 BK241.out) hg (Kd.R_away HO_236000.out (fun _ hk => hk.2.2.2))); replace HB := Aside0.mk (hb); have HO244 := Aside0.mk (ho); clear HO239 HO_236000; clear ho hb hg hat; obtain ⟨Ao44, co44, eo44⟩ := Kd.R_slice HO244.out; subst eo44; have hcz45_0 := zh BK235; have hfz45_0 := zfr BK235 0))
          go_roundg k2
          case measure => have := HJ2.out; have := HK2.out; omega
          case rel => exact ⟨(wrap64 (x7_2 + 1)), (y242), (.slice Ao44 y242.length co44), y34, H', ⟨(y87 HJ2.out HK2.out)⟩, ⟨(by (with_reducible repeat (first | apply Kd.R_alloc | apply Kd.R_drewN | apply Kd.R_drew)); exact Kd.R_mono (Kd.R_far (p := ⟨gb235, 0, none⟩) (Kd.R_mono HO244.out (fun k_ hk => (⟨hk, hk.2.1⟩ : _ ∧ k_ ≠ gb235))) (fun _ hk => hk.2) (.slice Ao44 y242.length co44)) (fun _ hk => ⟨hk.1.1, hk.1.2.1⟩))⟩, ⟨(y13 NB233_235.out BK233.out)⟩, ⟨(y13 NB234_235.out BK234.out)⟩, ⟨(by (with_reducible repeat (first | refine blk_drewN ?_ _ | refine blk_drew ?_ | refine blk_alloc ?_ _)); refine blk_put (cs := #[u236000]) ?_ 0 _ rfl; (with_reducible repeat (first | refine blk_drewN ?_ _ | refine blk_drew ?_ | refine blk_alloc ?_ _)); exact BK235.out)⟩, ⟨(y7 HB.out GE233.out GE234.out GE235.out GE241.out)⟩⟩
         ·rw [if_neg c28] at H
          exact absurd H (by simp)
        ·replace c27 := Bool.eq_false_iff.mpr c27
         subst c27
         rw [if_neg (show ¬ (false = true) by decide)] at H
         simp only [Option.some.injEq, Prod.mk.injEq] at H
         obtain ⟨rfl, rfl⟩ := H
         have hnb46 := NB233_234.out
         have hnc46 := NB234_233.out
         have hnb47 := NB233_235.out
         have hnc47 := NB235_233.out
         have hcz48_0 := zh BK233
         have hcz48_1 := zh1 BK233
         have hfz48_0 := zfr BK233 0
         have hfz48_1 := zfr BK233 1
         have p236 : 0 ≤ (x7_2 : Int) := of_decide_eq_true y23
         have q236 : x7_2 < (l0_1.length : Int) := of_decide_eq_true y23
         obtain ⟨ad236, A236_1, c236_1, e236, hx236_0, hx236_1, hl236_1, hi236_1⟩ := at_T25 HR0_1.out x7_2 p236 q236
         cases e236
         replace hx236_0 := (HB.out.cell (World.block_lt_of_cell? w _ hx236_0)).trans hx236_0
         replace hx236_1 := (HB.out.cell (World.block_lt_of_cell? w _ hx236_1)).trans hx236_1
         have HR236_1 := Aside0.mk hi236_1
         have HC236_1 := Aside0.mk hl236_1
         clear hi236_1 hl236_1
         replace p236 := eq_true p236
         replace q236 := eq_true q236
         go_wp2_with (first | ((with_reducible refine gate_callee (f := 49) rfl ?_); refine goesL_ (some 41) rfl rfl Try.func49 (by kernel_rfl) rfl #[.agg #[.int .i64 ((rd_T25 l0_1 x7_2).f0), .slice A236_1 ((rd_T25 l0_1 x7_2).f1).length c236_1], .int .i64 (wrap64 (a1 - 1))] rfl y8 ?_; (with_reducible refine (ih k2 (y87 HJ2.out HK2.out) ((rd_T25 l0_1 x7_2).f0) _ _ ((rd_T25 l0_1 x7_2).f1) (wrap64 (a1 - 1)) t237 false _ ?side1 ?side2 A26.out).mono ?_); (case side1 => exact y15 HR236_1.out HB.out); (case side2 => exact HC236_1.out); rintro e w49 ⟨v238, rfl, ho0, hb⟩; refine ⟨_, rfl, ?_⟩; have HO239 := Aside0.mk (Kd.R_lower (Kd.R_newB (Kd.R_newB (Kd.R_new' ho0 (Kd.R_lt (y12 HO_236000.out))) (g := gb234) (o := .cells #[.slice none 0 0] 50 (0, 0)) (y0 BK234.out)) (g := gb235) (o := .cells #[u236000] 50 (0, 0)) (y0 BK235.out)) (below_size (y4 HB.out GE233.out GE234.out GE235.out))); replace HO_236000 := Aside0.mk (Kd.R_elder' (y12 HO_236000.out) (Kd.R_base ho0) hb); replace BK233 := zbb BK233 hb; replace BK234 := zbb BK234 hb; replace BK235 := zbb BK235 hb; replace HB := Aside0.mk (below_step (y4 HB.out GE233.out GE234.out GE235.out) hb); (try clear hb); (try clear hb2); (try clear hk); (try clear hi); (try clear ho0)) | ((with_reducible refine gate_dst (N := 8) rfl ?_); (try (refine gate_guard (by rfl) ?_; dsimp only)); refine zbx 8 #[.slice none 0 0] 50 ?_; intro gb241 hg w50 hbox hb; replace HO_236000 := Aside0.mk (Kd.R_below (Kd.R_elderB (y12 HO_236000.out) gb241 (Nat.le_of_eq hg.symm)) hb); replace HO239 := Aside0.mk (Kd.R_below (Kd.R_elderB (y12 HO239.out) gb241 (Nat.le_of_eq hg.symm)) hb); have BK241 := Aside0.mk hbox; have GW241 := Aside0.mk ((y22 hg HB.out GE233.out GE234.out GE235.out : w.heap.size ≤ gb241)); have GE241 := Aside0.mk ((y22 hg HB.out GE233.out GE234.out GE235.out : w.heap.size ≤ gb241)); replace HB := Aside0.mk (below_step (y4 HB.out GE233.out GE234.out GE235.out) hb); have NB233_241 := zltn hg BK233; have NB241_233 := zgtn hg BK233; replace BK233 := zbb BK233 hb; have NB234_241 := zltn hg BK234; have NB241_234 := zgtn hg BK234; replace BK234 := zbb BK234 hb; have NB235_241 := zltn hg BK235; have NB241_235 := zgtn hg BK235; replace BK235 := zbb BK235 hb; clear hb hbox hg; obtain ⟨Ao51, co51, eo51⟩ := Kd.R_slice HO239.out; subst eo51; have hnb52 := NB241_233.out; have hnc52 := NB233_241.out; have hnb53 := NB241_234.out; have hnc53 := NB234_241.out; have hnb54 := NB241_235.out; have hnc54 := NB235_241.out; have hcz55_0 := zh BK241; have hfz55_0 := zfr BK241 0; have hnb56 := NB235_234.out; have hnc56 := NB234_235.out; have hcz57_0 := zh BK235; have hfz57_0 := zfr BK235 0; obtain ⟨Ao58, co58, eo58⟩ := Kd.R_slice HO_236000.out; subst eo58; have hcz59_0 := zh BK234; have hfz59_0 := zfr BK234 0))
         refine bodyPost_ret (results_ct rfl _ _ gb234 50 #[.slice Ao58 x236000_2.length co58] (0, 0) _ rfl (by (with_reducible repeat (first | refine blk_drewN ?_ _ | refine blk_drew ?_ | refine blk_alloc ?_ _)); refine blk_put (cs := #[.slice none 0 0]) ?_ 0 _ rfl; (with_reducible repeat (first | refine blk_drewN ?_ _ | refine blk_drew ?_ | refine blk_alloc ?_ _)); refine blk_far ?_ NB234_241.out _; (with_reducible repeat (first | refine blk_drewN ?_ _ | refine blk_drew ?_ | refine blk_alloc ?_ _)); exact BK234.out) Try.underlying50 rfl (by kernel_rfl)) rfl ?_
         exact ⟨_, y19, (by (with_reducible repeat (first | apply Kd.R_alloc | apply Kd.R_drewN | apply Kd.R_drew)); exact Kd.R_mono (Kd.R_far (p := ⟨gb234, 0, none⟩) (Kd.R_far (p := ⟨gb241, 0, none⟩) (Kd.R_mono (Kd.R_mono HO_236000.out (fun k_ hk => (⟨hk, hk.2⟩ : _ ∧ k_ ≠ gb241))) (fun k_ hk => (⟨hk, hk.1.1.1.1⟩ : _ ∧ k_ ≠ gb234))) (fun _ hk => hk.1.2) (.slice Ao51 t237.length co51)) (fun _ hk => hk.2) (.slice Ao58 x236000_2.length co58)) (fun _ hk => trivial)), (y7 HB.out GE233.out GE234.out GE235.out GE241.out)⟩
       ·rw [if_neg c25] at H
        exact absurd H (by simp)
      ·rw [if_neg c24] at H
       have c24b0 : decide (x7_2 < (l0_1.length : Int)) = false := decide_eq_false c24
       clear c24
       simp only [Option.some.injEq, Prod.mk.injEq] at H
       obtain ⟨rfl, rfl⟩ := H
       have hnb60 := NB233_234.out
       have hnc60 := NB234_233.out
       have hnb61 := NB233_235.out
       have hnc61 := NB235_233.out
       have hcz62_0 := zh BK233
       have hcz62_1 := zh1 BK233
       have hfz62_0 := zfr BK233 0
       have hfz62_1 := zfr BK233 1
       have hnb63 := NB235_234.out
       have hnc63 := NB234_235.out
       have hcz64_0 := zh BK235
       have hfz64_0 := zfr BK235 0
       obtain ⟨Ao65, co65, eo65⟩ := Kd.R_slice HO_236000.out
       subst eo65
       have hcz66_0 := zh BK234
       have hfz66_0 := zfr BK234 0
       go_wp2
       refine bodyPost_ret (results_ct rfl _ _ gb234 50 #[.slice Ao65 x236000_2.length co65] (0, 0) _ rfl (by (with_reducible repeat (first | refine blk_drewN ?_ _ | refine blk_drew ?_ | refine blk_alloc ?_ _)); apply blk_put (i := 0); (case h => exact y0 BK234.out); (case e => rfl)) Try.underlying50 rfl (by kernel_rfl)) rfl ?_
       exact ⟨_, y19, (by (with_reducible repeat (first | apply Kd.R_alloc | apply Kd.R_drewN | apply Kd.R_drew)); exact Kd.R_mono (Kd.R_far (p := ⟨gb234, 0, none⟩) (Kd.R_mono HO_236000.out (fun k_ hk => (⟨hk, hk.1⟩ : _ ∧ k_ ≠ gb234))) (fun _ hk => hk.2) (.slice Ao65 x236000_2.length co65)) (fun _ hk => trivial)), (y4 HB.out GE233.out GE234.out GE235.out)⟩
end Go.Proofs.Ythfflieeifakdaa.PA
end
section
namespace Go.Proofs.Ythfflieeifakdaa.PA
open Go.RowKit Go.Proofs.YthfflieeifakdaaW.PrintWords Go.Proofs.YthfflieeifakdaaW.PrintLast Go.Proofs.YthfflieeifakdaaW.PrintMore
attribute [local go_sem] max2_int min2_int max_two min_two max_three min_three max_four min_four
set_option linter.unusedVariables false
set_option linter.unusedSimpArgs false
mutual
def spec_l1Val.j0 : Nat → Bool → List (S50) → Int → List (S25) → Option (Bool)
 | 0, _, _, _, _ => none
 | k + 1, x29, x223000, x224000, x224001 => if x29 = true then (some false) else (spec_l1Val.l0 k 0 x223000 x224000 x224001)
def spec_l1Val.l0 : Nat → Int → List (S50) → Int → List (S25) → Option (Bool)
 | 0, _, _, _, _ => none
 | k + 1, x5, x223000, x224000, x224001 => if x5 < (x224001.length : Int) then (if 0 ≤ x5 then (if x5 < (x223000.length : Int) then ((spec_l1Val.f k ((rd_T50 x223000 x5).f0) ((rd_T25 x224001 x5).f0) ((rd_T25 x224001 x5).f1)).bind fun t228 => (if t228 = true then (spec_l1Val.l0 k (wrap64 (x5 + 1)) x223000 x224000 x224001) else (some false))) else (none)) else (none)) else (some true)
def spec_l1Val.f : Nat → List (S50) → Int → List (S25) → Option (Bool)
 | 0, _, _, _ => none
 | k + 1, l0_0, a1_0, l1_1 => if (l1_1.length : Int) = (l0_0.length : Int) then (if (l1_1.length : Int) > 0 then (if a1_0 = 0 then ((spec_l6In.f a1_0 0 9999).bind fun t224 => (spec_l1Val.j0 k (!t224) l0_0 a1_0 l1_1)) else (spec_l1Val.j0 k true l0_0 a1_0 l1_1)) else ((spec_l6In.f a1_0 0 9999).bind fun t225 => (spec_l1Val.j0 k (!t225) l0_0 a1_0 l1_1))) else (spec_l1Val.j0 k true l0_0 a1_0 l1_1)
end
theorem spec_l1Val.mono_l : ∀ k, (∀ y0 y1 y2, LeO (spec_l1Val.f k y0 y1 y2) (spec_l1Val.f (k + 1) y0 y1 y2)) ∧ (∀ y0 y1 y2 y3, LeO (spec_l1Val.j0 k y0 y1 y2 y3) (spec_l1Val.j0 (k + 1) y0 y1 y2 y3)) ∧ (∀ y0 y1 y2 y3, LeO (spec_l1Val.l0 k y0 y1 y2 y3) (spec_l1Val.l0 (k + 1) y0 y1 y2 y3))
 | 0 => ⟨fun _ _ _ r h => by simp [spec_l1Val.f] at h, fun _ _ _ _ r h => by simp [spec_l1Val.j0] at h, fun _ _ _ _ r h => by simp [spec_l1Val.l0] at h⟩
 | k + 1 => by
  obtain ⟨ih0, ih1, ih2⟩ := spec_l1Val.mono_l k
  refine ⟨?_, ?_, ?_⟩
  ·intro y0 y1 y2
   unfold spec_l1Val.f
   repeat' first
   | (with_reducible exact ih0 _ _ _)
   | (with_reducible exact ih1 _ _ _ _)
   | (with_reducible exact ih2 _ _ _ _)
   | (with_reducible exact LeO.refl _)
   | (with_reducible exact LeO.none _)
   | (with_reducible refine LeO.ite ?_ ?_)
   | (with_reducible refine LeO.bind ?_ (fun _ => ?_))
   | exact ih0 _ _ _
   | exact ih1 _ _ _ _
   | exact ih2 _ _ _ _
   | exact LeO.none _
   | refine LeO.ite ?_ ?_
   | refine LeO.bind ?_ (fun _ => ?_)
  ·intro y0 y1 y2 y3
   unfold spec_l1Val.j0
   repeat' first
   | (with_reducible exact ih0 _ _ _)
   | (with_reducible exact ih1 _ _ _ _)
   | (with_reducible exact ih2 _ _ _ _)
   | (with_reducible exact LeO.refl _)
   | (with_reducible exact LeO.none _)
   | (with_reducible refine LeO.ite ?_ ?_)
   | (with_reducible refine LeO.bind ?_ (fun _ => ?_))
   | exact ih0 _ _ _
   | exact ih1 _ _ _ _
   | exact ih2 _ _ _ _
   | exact LeO.none _
   | refine LeO.ite ?_ ?_
   | refine LeO.bind ?_ (fun _ => ?_)
  ·intro y0 y1 y2 y3
   unfold spec_l1Val.l0
   repeat' first
   | (with_reducible exact ih0 _ _ _)
   | (with_reducible exact ih1 _ _ _ _)
   | (with_reducible exact ih2 _ _ _ _)
   | (with_reducible exact LeO.refl _)
   | (with_reducible exact LeO.none _)
   | (with_reducible refine LeO.ite ?_ ?_)
   | (with_reducible refine LeO.bind ?_ (fun _ => ?_))
   | exact ih0 _ _ _
   | exact ih1 _ _ _ _
   | exact ih2 _ _ _ _
   | exact LeO.none _
   | refine LeO.ite ?_ ?_
   | refine LeO.bind ?_ (fun _ => ?_)
theorem spec_l1Val.mono : ∀ a0 a1 a2 k, LeO (spec_l1Val.f k a0 a1 a2) (spec_l1Val.f (k + 1) a0 a1 a2) := by
 intro a0 a1 a2 k
 obtain ⟨ih0, ih1, ih2⟩ := spec_l1Val.mono_l k
 exact ih0 a0 a1 a2
def spec_l1Val.T6 : Bool × List (List Nat × List Nat) := (true, [([], []), ([0], [0]), ([], []), ([1, 2], [1, 2]), ([3], [3]), ([], []), ([5], [5]), ([], []), ([6, 7], [6, 7]), ([8], [8]), ([4, 9], [4, 9]), ([10], [10])])
def spec_l1Val.B6 : List Nat := [0, 1, 0, 7, 15, 0, 32, 0, 224, 480, 1023, 2047]
theorem spec_l1Val.tab6 : rtab .any (opsOf Try.f54 6) = spec_l1Val.T6 := by kernel_rfl
theorem spec_l1Val.bits6 : waitsOk spec_l1Val.T6.2 spec_l1Val.B6 = true := by kernel_rfl
set_option maxHeartbeats 8000000 in
set_option maxRecDepth 100000 in
theorem spec_l1Val.calls (k : Nat) : ∀ (A0_0 : Option Addr) (c0_0 : Nat) (l0_0 : List (S50)) (a1_0 : Int) (A1_1 : Option Addr) (c1_1 : Nat) (l1_1 : List (S25)) (r : Bool) (w : World) (hr0_0 : Kd.C k50 w A0_0 l0_0.length l0_0) (hc0_0 : l0_0.length ≤ c0_0) (hr1_1 : Kd.C k25 w A1_1 l1_1.length l1_1) (hc1_1 : l1_1.length ≤ c1_1) (h : spec_l1Val.f k l0_0 a1_0 l1_1 = some r),
  Calls Try.prog 54 #[.agg #[.slice A0_0 l0_0.length c0_0], .agg #[.int .i64 a1_0, .slice A1_1 l1_1.length c1_1]] w fun e w' => e = .returned (.bool r) ∧ Below w.heap.size w w' := by
 induction k using Nat.strongRecOn with
 | _ k ih =>
 intro A0_0 c0_0 l0_0 a1_0 A1_1 c1_1 l1_1 r w hr0_0 hc0_0 hr1_1 hc1_1 h
 cases k with
 | zero => exact absurd h (by simp [spec_l1Val.f])
 | succ k =>
 simp only [spec_l1Val.f] at h
 have hu50 := Try.underlying50
 have hu25 := Try.underlying25
 have HR0_0 := Aside0.mk hr0_0
 have HC0_0 := Aside0.mk hc0_0
 clear hr0_0 hc0_0
 have HR1_1 := Aside0.mk hr1_1
 have HC1_1 := Aside0.mk hc1_1
 clear hr1_1 hc1_1
 have HB := Aside0.mk (Below.refl w.heap.size w)
 have H : (if (l1_1.length : Int) = (l0_0.length : Int) then (if (l1_1.length : Int) > 0 then (if a1_0 = 0 then ((spec_l6In.f a1_0 0 9999).bind fun t224 => (spec_l1Val.j0 k (!t224) l0_0 a1_0 l1_1)) else (spec_l1Val.j0 k true l0_0 a1_0 l1_1)) else ((spec_l6In.f a1_0 0 9999).bind fun t225 => (spec_l1Val.j0 k (!t225) l0_0 a1_0 l1_1))) else (spec_l1Val.j0 k true l0_0 a1_0 l1_1)) = some r := h
 clear h
 have HC3 := Aside0.mk H
 clear H
 go_enter Try.func54, Try.ntmps54
 go_upto_region 1 with (first | ((with_reducible refine gate_dst (N := 2) rfl ?_); (try (refine gate_guard (by rfl) ?_; dsimp only)); refine zbx 2 #[.slice A0_0 l0_0.length c0_0] 50 ?_; intro gb222 hg w4 hbox hb; have BK222 := Aside0.mk hbox; have GW222 := Aside0.mk ((y9 hg HB.out : w.heap.size ≤ gb222)); have GE222 := Aside0.mk ((y9 hg HB.out : w.heap.size ≤ gb222)); replace HB := Aside0.mk (below_step (y5 HB.out) hb); clear hb hbox hg) | ((with_reducible refine gate_dst (N := 3) rfl ?_); (try (refine gate_guard (by rfl) ?_; dsimp only)); refine zbx 3 #[.int .i64 a1_0, .slice A1_1 l1_1.length c1_1] 25 ?_; intro gb223 hg w5 hbox hb; have BK223 := Aside0.mk hbox; have GW223 := Aside0.mk ((y11 hg HB.out GE222.out : w.heap.size ≤ gb223)); have GE223 := Aside0.mk ((y11 hg HB.out GE222.out : w.heap.size ≤ gb223)); replace HB := Aside0.mk (below_step (y6 HB.out GE222.out) hb); have NB222_223 := zltn hg BK222; have NB223_222 := zgtn hg BK222; replace BK222 := zbb BK222 hb; clear hb hbox hg))
 (try simp only [Act.put, List.setIfInBounds_toArray, List.set_cons_zero, List.set_cons_succ])
 go_cut [29] (fun v29 wc => ∃ (kq : Nat) (x29_2 : Bool), v29 = .bool x29_2 ∧ Aside0 (spec_l1Val.j0 kq x29_2 l0_0 a1_0 l1_1 = some r) ∧ Aside0 (kq ≤ k) ∧ Aside0 (wc.heap[gb222]? = some (.cells #[(.slice A0_0 l0_0.length c0_0)] 50 (0, 0))) ∧ Aside0 (wc.heap[gb223]? = some (.cells #[.int .i64 a1_0, (.slice A1_1 l1_1.length c1_1)] 25 (0, 0))) ∧ Aside0 (Below w.heap.size w wc))
 case first =>
  have H := HC3.out
  clear HC3
  by_cases c6 : (l1_1.length : Int) = (l0_0.length : Int)
  ·rw [if_pos c6] at H
   have c6b0 : ((l1_1.length : Int) == (l0_0.length : Int)) = true := beq_iff_eq.mpr c6
   have c6b1 : ((l1_1.length : Int) != (l0_0.length : Int)) = false := bne_eq_false_iff_eq.mpr c6
   have c6b2 : (l1_1.length == l0_0.length) = true := by first | simpa using c6 | (simp at c6 ⊢; omega)
   clear c6
   (first | rw [c6b0] | (simp only [i64_w, i32_w]; rw [c6b0]) | skip)
   by_cases c7 : (l1_1.length : Int) > 0
   ·rw [if_pos c7] at H
    have c7b0 : decide (0 < (l1_1.length : Int)) = true := decide_eq_true c7
    have c7b1 : decide (0 < l1_1.length) = true := decide_eq_true (by omega)
    clear c7
    by_cases c8 : a1_0 = 0
    ·rw [if_pos c8] at H
     have c8b0 : (a1_0 == 0) = true := beq_iff_eq.mpr c8
     have c8b1 : (a1_0 != 0) = false := bne_eq_false_iff_eq.mpr c8
     clear c8
     obtain ⟨t224, A90, H⟩ := ob H
     have A9 := Aside0.mk A90
     clear A90
     have H' := Aside0.mk H
     clear H
     have hnb10 := NB223_222.out
     have hnc10 := NB222_223.out
     have hcz11_0 := zh BK223
     have hcz11_1 := zh1 BK223
     have hfz11_0 := zfr BK223 0
     have hfz11_1 := zfr BK223 1
     have hcz12_0 := zh BK222
     have hfz12_0 := zfr BK222 0
     go_wp2_with (first | (go_at_call 36; (with_reducible refine (spec_l6In.calls a1_0 0 9999 t224 _ A9.out).mono ?_); rintro e w' ⟨rfl, ⟨nd, rfl⟩⟩))
     go_meet
     case rel => exact ⟨_, (!t224), y34, H', ⟨y46⟩, ⟨(y0 BK222.out)⟩, ⟨(y0 BK223.out)⟩, ⟨(y2 HB.out GE222.out GE223.out)⟩⟩
    ·rw [if_neg c8] at H
     have c8b0 : (a1_0 == 0) = false := beq_eq_false_iff_ne.mpr c8
     have c8b1 : (a1_0 != 0) = true := bne_iff_ne.mpr c8
     have H' := Aside0.mk H
     clear H
     have hnb13 := NB223_222.out
     have hnc13 := NB222_223.out
     have hcz14_0 := zh BK223
     have hcz14_1 := zh1 BK223
     have hfz14_0 := zfr BK223 0
     have hfz14_1 := zfr BK223 1
     have hcz15_0 := zh BK222
     have hfz15_0 := zfr BK222 0
     go_wp2
     go_meet
     case rel => exact ⟨_, (true), y34, H', ⟨y46⟩, ⟨(y0 BK222.out)⟩, ⟨(y0 BK223.out)⟩, ⟨(y2 HB.out GE222.out GE223.out)⟩⟩
   ·rw [if_neg c7] at H
    have c7b0 : decide (0 < (l1_1.length : Int)) = false := decide_eq_false c7
    have c7b1 : decide (0 < l1_1.length) = false := decide_eq_false (by omega)
    clear c7
    obtain ⟨t225, A160, H⟩ := ob H
    have A16 := Aside0.mk A160
    clear A160
    have H' := Aside0.mk H
    clear H
    have hnb17 := NB223_222.out
    have hnc17 := NB222_223.out
    have hcz18_0 := zh BK223
    have hcz18_1 := zh1 BK223
    have hfz18_0 := zfr BK223 0
    have hfz18_1 := zfr BK223 1
    have hcz19_0 := zh BK222
    have hfz19_0 := zfr BK222 0
    go_wp2_with (first | (go_at_call 36; (with_reducible refine (spec_l6In.calls a1_0 0 9999 t225 _ A16.out).mono ?_); rintro e w' ⟨rfl, ⟨nd, rfl⟩⟩))
    go_meet
    case rel => exact ⟨_, (!t225), y34, H', ⟨y46⟩, ⟨(y0 BK222.out)⟩, ⟨(y0 BK223.out)⟩, ⟨(y2 HB.out GE222.out GE223.out)⟩⟩
  ·rw [if_neg c6] at H
   have c6b0 : ((l1_1.length : Int) == (l0_0.length : Int)) = false := beq_eq_false_iff_ne.mpr c6
   have c6b1 : ((l1_1.length : Int) != (l0_0.length : Int)) = true := bne_iff_ne.mpr c6
   have c6b2 : (l1_1.length == l0_0.length) = false := by first | simpa using c6 | (simp at c6 ⊢; omega)
   (first | rw [c6b0] | (simp only [i64_w, i32_w]; rw [c6b0]) | skip)
   have H' := Aside0.mk H
   clear H
   have hnb20 := NB223_222.out
   have hnc20 := NB222_223.out
   have hcz21_0 := zh BK223
   have hcz21_1 := zh1 BK223
   have hfz21_0 := zfr BK223 0
   have hfz21_1 := zfr BK223 1
   have hcz22_0 := zh BK222
   have hfz22_0 := zfr BK222 0
   go_wp2
   go_meet
   case rel => exact ⟨_, (true), y34, H', ⟨y46⟩, ⟨(y0 BK222.out)⟩, ⟨(y0 BK223.out)⟩, ⟨(y2 HB.out GE222.out GE223.out)⟩⟩
 case rest =>
  clear HC3
  try clear c1
  try clear c2
  try clear p2
  try clear c5
  try clear c6
  try clear c6b0
  try clear c6b1
  try clear c6b2
  try clear c7
  try clear c7b0
  try clear c7b1
  try clear c8
  try clear c8b0
  try clear c8b1
  try clear c10
  try clear c13
  try clear c17
  try clear c20
  try clear hcz11_0
  try clear hcz11_1
  try clear hcz12_0
  try clear hcz14_0
  try clear hcz14_1
  try clear hcz15_0
  try clear hcz18_0
  try clear hcz18_1
  try clear hcz19_0
  try clear hcz21_0
  try clear hcz21_1
  try clear hcz22_0
  try clear hfz11_0
  try clear hfz11_1
  try clear hfz12_0
  try clear hfz14_0
  try clear hfz14_1
  try clear hfz15_0
  try clear hfz18_0
  try clear hfz18_1
  try clear hfz19_0
  try clear hfz21_0
  try clear hfz21_1
  try clear hfz22_0
  obtain ⟨kq, x29_2, rfl, HA, HJ2, BK222, BK223, HB⟩ := hcut
  cases kq with
  | zero => exact absurd HA.out (by simp [spec_l1Val.j0])
  | succ kj2 =>
   have H := HA.out
   clear HA
   simp only [spec_l1Val.j0] at H
   by_cases c23 : x29_2 = true
   ·subst c23
    rw [if_pos rfl] at H
    obtain rfl := Option.some.inj H
    go_wp2
    go_ret
    exact ⟨y19, (y2 HB.out GE222.out GE223.out)⟩
   ·replace c23 := Bool.eq_false_iff.mpr c23
    subst c23
    rw [if_neg (show ¬ (false = true) by decide)] at H
    have H' := Aside0.mk H
    clear H
    go_wp2
    go_loopg [5] kj2 (fun kq v5 w' => ∃ (x5_2 : Int), v5 = .int .i64 x5_2 ∧ Aside0 (spec_l1Val.l0 kq x5_2 l0_0 a1_0 l1_1 = some r) ∧ Aside0 (kq ≤ kj2) ∧ Aside0 (w'.heap[gb222]? = some (.cells #[(.slice A0_0 l0_0.length c0_0)] 50 (0, 0))) ∧ Aside0 (w'.heap[gb223]? = some (.cells #[.int .i64 a1_0, (.slice A1_1 l1_1.length c1_1)] 25 (0, 0))) ∧ Aside0 (Below w.heap.size w w'))
    case atStart => exact ⟨(0), y34, H', ⟨Nat.le_refl _⟩, ⟨(y0 BK222.out)⟩, ⟨(y0 BK223.out)⟩, ⟨(y2 HB.out GE222.out GE223.out)⟩⟩
    case round =>
     clear H'
     try clear c1
     try clear c2
     try clear p2
     try clear c5
     try clear c6
     try clear c6b0
     try clear c6b1
     try clear c6b2
     try clear c7
     try clear c7b0
     try clear c7b1
     try clear c8
     try clear c8b0
     try clear c8b1
     try clear c10
     try clear c13
     try clear c17
     try clear c20
     try clear c23
     try clear hcz11_0
     try clear hcz11_1
     try clear hcz12_0
     try clear hcz14_0
     try clear hcz14_1
     try clear hcz15_0
     try clear hcz18_0
     try clear hcz18_1
     try clear hcz19_0
     try clear hcz21_0
     try clear hcz21_1
     try clear hcz22_0
     try clear hfz11_0
     try clear hfz11_1
     try clear hfz12_0
     try clear hfz14_0
     try clear hfz14_1
     try clear hfz15_0
     try clear hfz18_0
     try clear hfz18_1
     try clear hfz19_0
     try clear hfz21_0
     try clear hfz21_1
     try clear hfz22_0
     try clear p2
     (try clear BK222); (try clear BK223)
     obtain ⟨x5_2, rfl, HA, HK2, BK222, BK223, HB⟩ := hrel
     cases gk with
     | zero => exact absurd HA.out (by simp [spec_l1Val.l0])
     | succ k2 =>
      have H := HA.out
      clear HA
      simp only [spec_l1Val.l0] at H
      by_cases c24 : x5_2 < (l1_1.length : Int)
      ·rw [if_pos c24] at H
       have c24b0 : decide (x5_2 < (l1_1.length : Int)) = true := decide_eq_true c24
       clear c24
       by_cases c25 : 0 ≤ x5_2
       ·rw [if_pos c25] at H
        have c25b0 : decide (0 ≤ x5_2) = true := decide_eq_true c25
        clear c25
        by_cases c26 : x5_2 < (l0_0.length : Int)
        ·rw [if_pos c26] at H
         have c26b0 : decide (x5_2 < (l0_0.length : Int)) = true := decide_eq_true c26
         clear c26
         obtain ⟨t228, A270, H⟩ := ob H
         have A27 := Aside0.mk A270
         clear A270
         by_cases c28 : t228 = true
         ·subst c28
          rw [if_pos rfl] at H
          have H' := Aside0.mk H
          clear H
          have hnb29 := NB223_222.out
          have hnc29 := NB222_223.out
          have hcz30_0 := zh BK223
          have hcz30_1 := zh1 BK223
          have hfz30_0 := zfr BK223 0
          have hfz30_1 := zfr BK223 1
          try go_wp2
          replace BK222 := Aside0.mk (blk_drew BK222.out)
          replace BK223 := Aside0.mk (blk_drew BK223.out)
          replace HB := Aside0.mk (below_drew1 HB.out)
          have p226 : 0 ≤ (x5_2 : Int) := of_decide_eq_true y23
          have q226 : x5_2 < (l0_0.length : Int) := of_decide_eq_true y23
          obtain ⟨ad226, A226_0, c226_0, e226, hx226_0, hl226_0, hi226_0⟩ := at_T50 HR0_0.out x5_2 p226 q226
          have hw226_0 := hx226_0
          cases e226
          replace hx226_0 := (HB.out.cell (World.block_lt_of_cell? w _ hx226_0)).trans hx226_0
          have HR226_0 := Aside0.mk hi226_0
          have HC226_0 := Aside0.mk hl226_0
          clear hi226_0 hl226_0
          replace p226 := eq_true p226
          replace q226 := eq_true q226
          have p227 : 0 ≤ (x5_2 : Int) := of_decide_eq_true y23
          have q227 : x5_2 < (l1_1.length : Int) := of_decide_eq_true y23
          obtain ⟨ad227, A227_1, c227_1, e227, hx227_0, hx227_1, hl227_1, hi227_1⟩ := at_T25 HR1_1.out x5_2 p227 q227
          have hw227_1 := hx227_1
          have hw227_0 := hx227_0
          cases e227
          replace hx227_0 := (HB.out.cell (World.block_lt_of_cell? w _ hx227_0)).trans hx227_0
          replace hx227_1 := (HB.out.cell (World.block_lt_of_cell? w _ hx227_1)).trans hx227_1
          have HR227_1 := Aside0.mk hi227_1
          have HC227_1 := Aside0.mk hl227_1
          clear hi227_1 hl227_1
          replace p227 := eq_true p227
          replace q227 := eq_true q227
          refine start_ (n := 12) (S := fun w' => w'.cell? ⟨gb222, 0, none⟩ = some (.slice (some ad226) l0_0.length c0_0) ∧ w'.cell? ⟨gb223, 0, none⟩ = some (.int .i64 a1_0) ∧ w'.cell? ⟨gb223, 1, none⟩ = some (.slice (some ad227) l1_1.length c1_1) ∧ w'.cell? (ad226.add (x5_2).toNat) = some (.slice A226_0 ((rd_T50 l0_0 x5_2).f0).length c226_0) ∧ w'.cell? (ad227.add ((x5_2).toNat * 2)) = some (.int .i64 ((rd_T25 l1_1 x5_2).f0)) ∧ w'.cell? ⟨(ad227.add ((x5_2).toNat * 2)).block, (ad227.add ((x5_2).toNat * 2)).off + 1, none⟩ = some (.slice A227_1 ((rd_T25 l1_1 x5_2).f1).length c227_1)) (ds := []) #[false, false, false, false, false, false, false, false, false, false, false, false] (by kernel_rfl) rfl rfl ⟨(blk_cell BK222.out 0).trans rfl, (blk_cell BK223.out 0).trans rfl, (blk_cell BK223.out 1).trans rfl, ((HB.out.cell (World.block_lt_of_cell? w _ hw226_0)).trans hw226_0), ((HB.out.cell (World.block_lt_of_cell? w _ hw227_0)).trans hw227_0), ((HB.out.cell (World.block_lt_of_cell? w _ hw227_1)).trans hw227_1)⟩ (fun hHeld => ?_); refine with_tabW spec_l1Val.tab6 spec_l1Val.bits6 (fun HT_ HW_ => ?_)
          generalize wr.drew = w31 at BK222 BK223 HB HR226_0 HR227_1 hx226_0 hx227_0 hx227_1 hHeld ⊢
          refine zp 0 (some 37) HT_ ?_
          refine zp 2 (some 39) HT_ ?_
          refine zp 5 (some 42) HT_ ?_
          refine zp 7 (some 44) HT_ ?_
          refine zt6 1 (some 38) HT_ HW_ hHeld ?_
          refine zp 3 (some 40) HT_ ?_
          refine zt6 4 (some 41) HT_ HW_ hHeld ?_
          refine zt6 6 (some 43) HT_ HW_ hHeld ?_
          refine zp 8 (some 45) HT_ ?_
          refine zt6 9 (some 46) HT_ HW_ hHeld ?_
          refine one_ (i := 10) (N := some 47) #[true, true, true, true, true, true, true, true, true, true, true, false] rfl rfl (one_of HT_.out (by kernel_rfl)) (by decide) (fun K hK => ?_)
          refine goes_ Try.func54 (by kernel_rfl) rfl #[.agg #[.slice A226_0 ((rd_T50 l0_0 x5_2).f0).length c226_0], .agg #[.int .i64 ((rd_T25 l1_1 x5_2).f0), .slice A227_1 ((rd_T25 l1_1 x5_2).f1).length c227_1]] (by rfl) rfl rfl y8 ?_
          with_reducible refine (ih k2 (y87 HJ2.out HK2.out) _ _ ((rd_T50 l0_0 x5_2).f0) ((rd_T25 l1_1 x5_2).f0) _ _ ((rd_T25 l1_1 x5_2).f1) true _ ?side1 ?side2 ?side3 ?side4 A27.out).mono ?_
          (case side1 => exact y15 HR226_0.out HB.out)
          (case side2 => exact HC226_0.out)
          (case side3 => exact y15 HR227_1.out HB.out)
          (case side4 => exact HC227_1.out)
          rintro e w32 ⟨rfl, hb⟩
          refine ⟨_, rfl, ?_⟩
          replace BK222 := zbb BK222 hb
          replace BK223 := zbb BK223 hb
          replace HB := Aside0.mk (below_step (y2 HB.out GE222.out GE223.out) hb)
          (try clear hb)
          (try clear hb2)
          (try clear hk)
          (try clear hi)
          refine hK.out _ _ ⟨(blk_cell BK222.out 0).trans rfl, (blk_cell BK223.out 0).trans rfl, (blk_cell BK223.out 1).trans rfl, ((HB.out.cell (World.block_lt_of_cell? w _ hw226_0)).trans hw226_0), ((HB.out.cell (World.block_lt_of_cell? w _ hw227_0)).trans hw227_0), ((HB.out.cell (World.block_lt_of_cell? w _ hw227_1)).trans hw227_1)⟩ (fun hHeld => ?_)
          clear hK K
          refine norm_ (a' := ?_) ?_ ?_
          rotate_left
          ·show Act.put _ (some 47) _ = _
           simp only [Act.put, List.setIfInBounds_toArray, List.set_cons_zero, List.set_cons_succ, i64_w, i32_w]
           rfl
          refine zp 11 (some 48) HT_ ?_
          refine done_ (done_of HT_.out (by kernel_rfl)) ?_
          try go_wp2
          go_roundg k2
          case measure => have := HJ2.out; have := HK2.out; omega
          case rel => exact ⟨(wrap64 (x5_2 + 1)), y34, H', ⟨(y87 HJ2.out HK2.out)⟩, ⟨(y0 BK222.out)⟩, ⟨(y0 BK223.out)⟩, ⟨(y2 HB.out GE222.out GE223.out)⟩⟩
         ·replace c28 := Bool.eq_false_iff.mpr c28
          subst c28
          rw [if_neg (show ¬ (false = true) by decide)] at H
          obtain rfl := Option.some.inj H
          have hnb33 := NB223_222.out
          have hnc33 := NB222_223.out
          have hcz34_0 := zh BK223
          have hcz34_1 := zh1 BK223
          have hfz34_0 := zfr BK223 0
          have hfz34_1 := zfr BK223 1
          try go_wp2
          replace BK222 := Aside0.mk (blk_drew BK222.out)
          replace BK223 := Aside0.mk (blk_drew BK223.out)
          replace HB := Aside0.mk (below_drew1 HB.out)
          have p226 : 0 ≤ (x5_2 : Int) := of_decide_eq_true y23
          have q226 : x5_2 < (l0_0.length : Int) := of_decide_eq_true y23
          obtain ⟨ad226, A226_0, c226_0, e226, hx226_0, hl226_0, hi226_0⟩ := at_T50 HR0_0.out x5_2 p226 q226
          have hw226_0 := hx226_0
          cases e226
          replace hx226_0 := (HB.out.cell (World.block_lt_of_cell? w _ hx226_0)).trans hx226_0
          have HR226_0 := Aside0.mk hi226_0
          have HC226_0 := Aside0.mk hl226_0
          clear hi226_0 hl226_0
          replace p226 := eq_true p226
          replace q226 := eq_true q226
          have p227 : 0 ≤ (x5_2 : Int) := of_decide_eq_true y23
          have q227 : x5_2 < (l1_1.length : Int) := of_decide_eq_true y23
          obtain ⟨ad227, A227_1, c227_1, e227, hx227_0, hx227_1, hl227_1, hi227_1⟩ := at_T25 HR1_1.out x5_2 p227 q227
          have hw227_1 := hx227_1
          have hw227_0 := hx227_0
          cases e227
          replace hx227_0 := (HB.out.cell (World.block_lt_of_cell? w _ hx227_0)).trans hx227_0
          replace hx227_1 := (HB.out.cell (World.block_lt_of_cell? w _ hx227_1)).trans hx227_1
          have HR227_1 := Aside0.mk hi227_1
          have HC227_1 := Aside0.mk hl227_1
          clear hi227_1 hl227_1
          replace p227 := eq_true p227
          replace q227 := eq_true q227
          refine start_ (n := 12) (S := fun w' => w'.cell? ⟨gb222, 0, none⟩ = some (.slice (some ad226) l0_0.length c0_0) ∧ w'.cell? ⟨gb223, 0, none⟩ = some (.int .i64 a1_0) ∧ w'.cell? ⟨gb223, 1, none⟩ = some (.slice (some ad227) l1_1.length c1_1) ∧ w'.cell? (ad226.add (x5_2).toNat) = some (.slice A226_0 ((rd_T50 l0_0 x5_2).f0).length c226_0) ∧ w'.cell? (ad227.add ((x5_2).toNat * 2)) = some (.int .i64 ((rd_T25 l1_1 x5_2).f0)) ∧ w'.cell? ⟨(ad227.add ((x5_2).toNat * 2)).block, (ad227.add ((x5_2).toNat * 2)).off + 1, none⟩ = some (.slice A227_1 ((rd_T25 l1_1 x5_2).f1).length c227_1)) (ds := []) #[false, false, false, false, false, false, false, false, false, false, false, false] (by kernel_rfl) rfl rfl ⟨(blk_cell BK222.out 0).trans rfl, (blk_cell BK223.out 0).trans rfl, (blk_cell BK223.out 1).trans rfl, ((HB.out.cell (World.block_lt_of_cell? w _ hw226_0)).trans hw226_0), ((HB.out.cell (World.block_lt_of_cell? w _ hw227_0)).trans hw227_0), ((HB.out.cell (World.block_lt_of_cell? w _ hw227_1)).trans hw227_1)⟩ (fun hHeld => ?_); refine with_tabW spec_l1Val.tab6 spec_l1Val.bits6 (fun HT_ HW_ => ?_)
          generalize wr.drew = w35 at BK222 BK223 HB HR226_0 HR227_1 hx226_0 hx227_0 hx227_1 hHeld ⊢
          refine zp 0 (some 37) HT_ ?_
          refine zp 2 (some 39) HT_ ?_
          refine zp 5 (some 42) HT_ ?_
          refine zp 7 (some 44) HT_ ?_
          refine zt6 1 (some 38) HT_ HW_ hHeld ?_
          refine zp 3 (some 40) HT_ ?_
          refine zt6 4 (some 41) HT_ HW_ hHeld ?_
          refine zt6 6 (some 43) HT_ HW_ hHeld ?_
          refine zp 8 (some 45) HT_ ?_
          refine zt6 9 (some 46) HT_ HW_ hHeld ?_
          refine one_ (i := 10) (N := some 47) #[true, true, true, true, true, true, true, true, true, true, true, false] rfl rfl (one_of HT_.out (by kernel_rfl)) (by decide) (fun K hK => ?_)
          refine goes_ Try.func54 (by kernel_rfl) rfl #[.agg #[.slice A226_0 ((rd_T50 l0_0 x5_2).f0).length c226_0], .agg #[.int .i64 ((rd_T25 l1_1 x5_2).f0), .slice A227_1 ((rd_T25 l1_1 x5_2).f1).length c227_1]] (by rfl) rfl rfl y8 ?_
          with_reducible refine (ih k2 (y87 HJ2.out HK2.out) _ _ ((rd_T50 l0_0 x5_2).f0) ((rd_T25 l1_1 x5_2).f0) _ _ ((rd_T25 l1_1 x5_2).f1) false _ ?side1 ?side2 ?side3 ?side4 A27.out).mono ?_
          (case side1 => exact y15 HR226_0.out HB.out)
          (case side2 => exact HC226_0.out)
          (case side3 => exact y15 HR227_1.out HB.out)
          (case side4 => exact HC227_1.out)
          rintro e w36 ⟨rfl, hb⟩
          refine ⟨_, rfl, ?_⟩
          replace BK222 := zbb BK222 hb
          replace BK223 := zbb BK223 hb
          replace HB := Aside0.mk (below_step (y2 HB.out GE222.out GE223.out) hb)
          (try clear hb)
          (try clear hb2)
          (try clear hk)
          (try clear hi)
          refine hK.out _ _ ⟨(blk_cell BK222.out 0).trans rfl, (blk_cell BK223.out 0).trans rfl, (blk_cell BK223.out 1).trans rfl, ((HB.out.cell (World.block_lt_of_cell? w _ hw226_0)).trans hw226_0), ((HB.out.cell (World.block_lt_of_cell? w _ hw227_0)).trans hw227_0), ((HB.out.cell (World.block_lt_of_cell? w _ hw227_1)).trans hw227_1)⟩ (fun hHeld => ?_)
          clear hK K
          refine norm_ (a' := ?_) ?_ ?_
          rotate_left
          ·show Act.put _ (some 47) _ = _
           simp only [Act.put, List.setIfInBounds_toArray, List.set_cons_zero, List.set_cons_succ, i64_w, i32_w]
           rfl
          refine zp 11 (some 48) HT_ ?_
          refine done_ (done_of HT_.out (by kernel_rfl)) ?_
          try go_wp2
          go_ret
          exact ⟨y19, (y2 HB.out GE222.out GE223.out)⟩
        ·rw [if_neg c26] at H
         exact absurd H (by simp)
       ·rw [if_neg c25] at H
        exact absurd H (by simp)
      ·rw [if_neg c24] at H
       have c24b0 : decide (x5_2 < (l1_1.length : Int)) = false := decide_eq_false c24
       clear c24
       obtain rfl := Option.some.inj H
       have hnb37 := NB223_222.out
       have hnc37 := NB222_223.out
       have hcz38_0 := zh BK223
       have hcz38_1 := zh1 BK223
       have hfz38_0 := zfr BK223 0
       have hfz38_1 := zfr BK223 1
       go_wp2
       go_ret
       exact ⟨y19, (y2 HB.out GE222.out GE223.out)⟩
end Go.Proofs.Ythfflieeifakdaa.PA
end
section
namespace Go.Proofs.Ythfflieeifakdaa.PA
open Go.RowKit Go.Proofs.YthfflieeifakdaaW.PrintWords Go.Proofs.YthfflieeifakdaaW.PrintLast Go.Proofs.YthfflieeifakdaaW.PrintMore
attribute [local go_sem] max2_int min2_int max_two min_two max_three min_three max_four min_four
set_option linter.unusedVariables false
set_option linter.unusedSimpArgs false
def spec_ValOk.f (k : Nat) (l0_0 : List (S50)) (a1_0 : Int) (l1_1 : List (S25)) : Option (Bool) := (spec_TypeOk.f k l0_0).bind fun t231 => (if t231 = true then ((spec_l1Val.f k l0_0 a1_0 l1_1).bind fun t232 => (some t232)) else (some false))
theorem spec_ValOk.mono : ∀ a0 a1 a2 k, LeO (spec_ValOk.f k a0 a1 a2) (spec_ValOk.f (k + 1) a0 a1 a2) := by
 intro a0 a1 a2 k
 unfold spec_ValOk.f
 repeat' first
   | (with_reducible exact spec_TypeOk.mono _ _)
   | (with_reducible exact spec_l1Val.mono _ _ _ _)
   | (with_reducible exact LeO.refl _)
   | (with_reducible exact LeO.none _)
   | (with_reducible refine LeO.ite ?_ ?_)
   | (with_reducible refine LeO.bind ?_ (fun _ => ?_))
   | exact spec_TypeOk.mono _ _
   | exact spec_l1Val.mono _ _ _ _
   | exact LeO.none _
   | refine LeO.ite ?_ ?_
   | refine LeO.bind ?_ (fun _ => ?_)
set_option maxHeartbeats 8000000 in
set_option maxRecDepth 100000 in
theorem spec_ValOk.calls (k : Nat) (A0_0 : Option Addr) (c0_0 : Nat) (l0_0 : List (S50)) (a1_0 : Int) (A1_1 : Option Addr) (c1_1 : Nat) (l1_1 : List (S25)) (r : Bool) (w : World) (hr0_0 : Kd.C k50 w A0_0 l0_0.length l0_0) (hc0_0 : l0_0.length ≤ c0_0) (hr1_1 : Kd.C k25 w A1_1 l1_1.length l1_1) (hc1_1 : l1_1.length ≤ c1_1) (h : spec_ValOk.f k l0_0 a1_0 l1_1 = some r) :
  Calls Try.prog 29 #[.agg #[.slice A0_0 l0_0.length c0_0], .agg #[.int .i64 a1_0, .slice A1_1 l1_1.length c1_1]] w fun e w' => e = .returned (.bool r) ∧ Below w.heap.size w w' := by
 have hu50 := Try.underlying50
 have hu25 := Try.underlying25
 have HR0_0 := Aside0.mk hr0_0
 have HC0_0 := Aside0.mk hc0_0
 clear hr0_0 hc0_0
 have HR1_1 := Aside0.mk hr1_1
 have HC1_1 := Aside0.mk hc1_1
 clear hr1_1 hc1_1
 have HB := Aside0.mk (Below.refl w.heap.size w)
 have H : ((spec_TypeOk.f k l0_0).bind fun t231 => (if t231 = true then ((spec_l1Val.f k l0_0 a1_0 l1_1).bind fun t232 => (some t232)) else (some false))) = some r := h
 clear h
 obtain ⟨t231, A30, H⟩ := ob H
 have A3 := Aside0.mk A30
 clear A30
 by_cases c4 : t231 = true
 ·subst c4
  rw [if_pos rfl] at H
  obtain ⟨t232, A50, H⟩ := ob H
  have A5 := Aside0.mk A50
  clear A50
  obtain rfl := Option.some.inj H
  go_enter Try.func29, Try.ntmps29
  go_wp2_with (first | ((with_reducible refine gate_dst (N := 2) rfl ?_); refine zbx 2 #[.slice A0_0 l0_0.length c0_0] 50 ?_; intro gb229 hg w6 hbox hb; have BK229 := Aside0.mk hbox; have GW229 := Aside0.mk ((y9 hg HB.out : w.heap.size ≤ gb229)); have GE229 := Aside0.mk ((y9 hg HB.out : w.heap.size ≤ gb229)); replace HB := Aside0.mk (below_step (y5 HB.out) hb); clear hb hbox hg) | ((with_reducible refine gate_dst (N := 3) rfl ?_); refine zbx 3 #[.int .i64 a1_0, .slice A1_1 l1_1.length c1_1] 25 ?_; intro gb230 hg w7 hbox hb; have BK230 := Aside0.mk hbox; have GW230 := Aside0.mk ((y11 hg HB.out GE229.out : w.heap.size ≤ gb230)); have GE230 := Aside0.mk ((y11 hg HB.out GE229.out : w.heap.size ≤ gb230)); replace HB := Aside0.mk (below_step (y6 HB.out GE229.out) hb); have NB229_230 := zltn hg BK229; have NB230_229 := zgtn hg BK229; replace BK229 := zbb BK229 hb; clear hb hbox hg; have hnb8 := NB229_230.out; have hnc8 := NB230_229.out; have hcz9_0 := zh BK229; have hfz9_0 := zfr BK229 0) | ((with_reducible refine gate_callee (f := 53) rfl ?_); refine goesL_ (some 6) rfl rfl Try.func53 (by kernel_rfl) rfl #[.agg #[.slice A0_0 l0_0.length c0_0]] rfl y8 ?_; (with_reducible refine (spec_TypeOk.calls k _ _ l0_0 true _ ?side1 ?side2 A3.out).mono ?_); (case side1 => exact y15 HR0_0.out HB.out); (case side2 => exact HC0_0.out); rintro e w10 ⟨rfl, hb⟩; refine ⟨_, rfl, ?_⟩; replace BK229 := zbb BK229 hb; replace BK230 := zbb BK230 hb; replace HB := Aside0.mk (below_step (y2 HB.out GE229.out GE230.out) hb); (try clear hb); (try clear hb2); (try clear hk); (try clear hi); have hcz11_0 := zh BK229; have hfz11_0 := zfr BK229 0; have hcz12_0 := zh BK230; have hcz12_1 := zh1 BK230; have hfz12_0 := zfr BK230 0; have hfz12_1 := zfr BK230 1) | (go_at_call 54; (with_reducible refine (spec_l1Val.calls k _ _ l0_0 a1_0 _ _ l1_1 t232 _ ?side1 ?side2 ?side3 ?side4 A5.out).mono ?_); (case side1 => exact y15 HR0_0.out HB.out); (case side2 => exact HC0_0.out); (case side3 => exact y15 HR1_1.out HB.out); (case side4 => exact HC1_1.out); rintro e w13 ⟨rfl, hb⟩; replace BK229 := zbb BK229 hb; replace BK230 := zbb BK230 hb; replace HB := Aside0.mk (below_step (y2 HB.out GE229.out GE230.out) hb); (try clear hb); (try clear hb2); (try clear hk); (try clear hi)))
  go_ret
  exact ⟨y19, (y2 HB.out GE229.out GE230.out)⟩
 ·replace c4 := Bool.eq_false_iff.mpr c4
  subst c4
  rw [if_neg (show ¬ (false = true) by decide)] at H
  obtain rfl := Option.some.inj H
  go_enter Try.func29, Try.ntmps29
  go_wp2_with (first | ((with_reducible refine gate_dst (N := 2) rfl ?_); refine zbx 2 #[.slice A0_0 l0_0.length c0_0] 50 ?_; intro gb229 hg w14 hbox hb; have BK229 := Aside0.mk hbox; have GW229 := Aside0.mk ((y9 hg HB.out : w.heap.size ≤ gb229)); have GE229 := Aside0.mk ((y9 hg HB.out : w.heap.size ≤ gb229)); replace HB := Aside0.mk (below_step (y5 HB.out) hb); clear hb hbox hg) | ((with_reducible refine gate_dst (N := 3) rfl ?_); refine zbx 3 #[.int .i64 a1_0, .slice A1_1 l1_1.length c1_1] 25 ?_; intro gb230 hg w15 hbox hb; have BK230 := Aside0.mk hbox; have GW230 := Aside0.mk ((y11 hg HB.out GE229.out : w.heap.size ≤ gb230)); have GE230 := Aside0.mk ((y11 hg HB.out GE229.out : w.heap.size ≤ gb230)); replace HB := Aside0.mk (below_step (y6 HB.out GE229.out) hb); have NB229_230 := zltn hg BK229; have NB230_229 := zgtn hg BK229; replace BK229 := zbb BK229 hb; clear hb hbox hg; have hnb16 := NB229_230.out; have hnc16 := NB230_229.out; have hcz17_0 := zh BK229; have hfz17_0 := zfr BK229 0) | ((with_reducible refine gate_callee (f := 53) rfl ?_); refine goesL_ (some 6) rfl rfl Try.func53 (by kernel_rfl) rfl #[.agg #[.slice A0_0 l0_0.length c0_0]] rfl y8 ?_; (with_reducible refine (spec_TypeOk.calls k _ _ l0_0 false _ ?side1 ?side2 A3.out).mono ?_); (case side1 => exact y15 HR0_0.out HB.out); (case side2 => exact HC0_0.out); rintro e w18 ⟨rfl, hb⟩; refine ⟨_, rfl, ?_⟩; replace BK229 := zbb BK229 hb; replace BK230 := zbb BK230 hb; replace HB := Aside0.mk (below_step (y2 HB.out GE229.out GE230.out) hb); (try clear hb); (try clear hb2); (try clear hk); (try clear hi)))
  go_ret
  exact ⟨y19, (y2 HB.out GE229.out GE230.out)⟩
end Go.Proofs.Ythfflieeifakdaa.PA
end
section
namespace Go.Proofs.Ythfflieeifakdaa.PA
open Go.RowKit Go.Proofs.YthfflieeifakdaaW.PrintWords Go.Proofs.YthfflieeifakdaaW.PrintLast Go.Proofs.YthfflieeifakdaaW.PrintMore
attribute [local go_sem] max2_int min2_int max_two min_two max_three min_three max_four min_four
set_option linter.unusedVariables false
set_option linter.unusedSimpArgs false
def spec_l1Any.f (k : Nat) (a0_0 : Int) (l0_1 : List (S25)) : Option (Bool) := (spec_l1Of.f k a0_0 l0_1 4).bind fun bt246 => (if bt246.2 = true then ((spec_ValOk.f k bt246.1 a0_0 l0_1).bind fun t251 => (some t251)) else (some false))
theorem spec_l1Any.mono : ∀ a0 a1 k, LeO (spec_l1Any.f k a0 a1) (spec_l1Any.f (k + 1) a0 a1) := by
 intro a0 a1 k
 unfold spec_l1Any.f
 repeat' first
   | (with_reducible exact spec_ValOk.mono _ _ _ _)
   | (with_reducible exact spec_l1Of.mono _ _ _ _)
   | (with_reducible exact LeO.refl _)
   | (with_reducible exact LeO.none _)
   | (with_reducible refine LeO.ite ?_ ?_)
   | (with_reducible refine LeO.bind ?_ (fun _ => ?_))
   | exact spec_ValOk.mono _ _ _ _
   | exact spec_l1Of.mono _ _ _ _
   | exact LeO.none _
   | refine LeO.ite ?_ ?_
   | refine LeO.bind ?_ (fun _ => ?_)
set_option maxHeartbeats 8000000 in
set_option maxRecDepth 100000 in
theorem spec_l1Any.calls (k : Nat) (a0_0 : Int) (A0_1 : Option Addr) (c0_1 : Nat) (l0_1 : List (S25)) (r : Bool) (w : World) (hr0_1 : Kd.C k25 w A0_1 l0_1.length l0_1) (hc0_1 : l0_1.length ≤ c0_1) (h : spec_l1Any.f k a0_0 l0_1 = some r) :
  Calls Try.prog 35 #[.agg #[.int .i64 a0_0, .slice A0_1 l0_1.length c0_1]] w fun e w' => e = .returned (.bool r) ∧ Below w.heap.size w w' := by
 have hu25 := Try.underlying25
 have hu50 := Try.underlying50
 have HR0_1 := Aside0.mk hr0_1
 have HC0_1 := Aside0.mk hc0_1
 clear hr0_1 hc0_1
 have HB := Aside0.mk (Below.refl w.heap.size w)
 have H : ((spec_l1Of.f k a0_0 l0_1 4).bind fun bt246 => (if bt246.2 = true then ((spec_ValOk.f k bt246.1 a0_0 l0_1).bind fun t251 => (some t251)) else (some false))) = some r := h
 clear h
 obtain ⟨⟨t246, t249⟩, A20, H⟩ := ob H
 have A2 := Aside0.mk A20
 clear A20
 by_cases c3 : t249 = true
 ·subst c3
  rw [if_pos rfl] at H
  obtain ⟨t251, A40, H⟩ := ob H
  have A4 := Aside0.mk A40
  clear A40
  obtain rfl := Option.some.inj H
  go_enter Try.func35, Try.ntmps35
  go_wp2_with (first | ((with_reducible refine gate_dst (N := 1) rfl ?_); refine zbx 1 #[.int .i64 a0_0, .slice A0_1 l0_1.length c0_1] 25 ?_; intro gb245 hg w5 hbox hb; have BK245 := Aside0.mk hbox; have GW245 := Aside0.mk ((y9 hg HB.out : w.heap.size ≤ gb245)); have GE245 := Aside0.mk ((y9 hg HB.out : w.heap.size ≤ gb245)); replace HB := Aside0.mk (below_step (y5 HB.out) hb); clear hb hbox hg; have hcz6_0 := zh BK245; have hcz6_1 := zh1 BK245; have hfz6_0 := zfr BK245 0; have hfz6_1 := zfr BK245 1) | ((with_reducible refine gate_callee (f := 49) rfl ?_); refine goesL_ (some 7) rfl rfl Try.func49 (by kernel_rfl) rfl #[.agg #[.int .i64 a0_0, .slice A0_1 l0_1.length c0_1], .int .i64 4] rfl y8 ?_; (with_reducible refine (spec_l1Of.calls k a0_0 _ _ l0_1 4 t246 true _ ?side1 ?side2 A2.out).mono ?_); (case side1 => exact y15 HR0_1.out HB.out); (case side2 => exact HC0_1.out); rintro e w7 ⟨v247, rfl, ho0, hb⟩; refine ⟨_, rfl, ?_⟩; have HO248 := Aside0.mk (Kd.R_lower ho0 (below_size (y6 HB.out GE245.out))); replace BK245 := zbb BK245 hb; replace HB := Aside0.mk (below_step (y6 HB.out GE245.out) hb); (try clear hb); (try clear hb2); (try clear hk); (try clear hi); (try clear ho0)) | ((with_reducible refine gate_dst (N := 3) rfl ?_); refine zbx 3 #[.slice none 0 0] 50 ?_; intro gb250 hg w8 hbox hb; replace HO248 := Aside0.mk (Kd.R_below (Kd.R_elderB (y12 HO248.out) gb250 (Nat.le_of_eq hg.symm)) hb); have BK250 := Aside0.mk hbox; have GW250 := Aside0.mk ((y11 hg HB.out GE245.out : w.heap.size ≤ gb250)); have GE250 := Aside0.mk ((y11 hg HB.out GE245.out : w.heap.size ≤ gb250)); replace HB := Aside0.mk (below_step (y6 HB.out GE245.out) hb); have NB245_250 := zltn hg BK245; have NB250_245 := zgtn hg BK245; replace BK245 := zbb BK245 hb; clear hb hbox hg; obtain ⟨Ao9, co9, eo9⟩ := Kd.R_slice HO248.out; subst eo9; have hnb10 := NB250_245.out; have hnc10 := NB245_250.out; have hcz11_0 := zh BK250; have hfz11_0 := zfr BK250 0; have hcz12_0 := zh BK245; have hcz12_1 := zh1 BK245; have hfz12_0 := zfr BK245 0; have hfz12_1 := zfr BK245 1) | (go_at_call 29; (with_reducible refine (spec_ValOk.calls k _ _ t246 a0_0 _ _ l0_1 t251 _ ?side1 ?side2 ?side3 ?side4 A4.out).mono ?_); (case side1 => refine (Kd.R_reads' (e := 50) (base := w.heap.size) (ok := fun k_ => (True ∧ k_ ≠ gb250)) (n := t246.length) (c := co9) ?_).2.2; exact (by (with_reducible repeat (first | apply Kd.R_alloc | apply Kd.R_drewN | apply Kd.R_drew)); exact (Kd.R_mono (Kd.R_far (p := ⟨gb250, 0, none⟩) (Kd.R_mono HO248.out (fun k_ hk => (⟨hk, hk.2⟩ : _ ∧ k_ ≠ gb250))) (fun _ hk => hk.2) (.slice Ao9 t246.length co9)) (fun _ h_ => h_.1)))); (case side2 => exact (Kd.R_reads' HO248.out).2.1); (case side3 => exact y79 HR0_1.out HB.out GE245.out GE250.out); (case side4 => exact HC0_1.out); rintro e w13 ⟨rfl, hb⟩; replace HO248 := Aside0.mk (Kd.R_below (by (with_reducible repeat (first | apply Kd.R_alloc | apply Kd.R_drewN | apply Kd.R_drew)); exact (Kd.R_mono (Kd.R_far (p := ⟨gb250, 0, none⟩) (Kd.R_mono HO248.out (fun k_ hk => (⟨hk, hk.2⟩ : _ ∧ k_ ≠ gb250))) (fun _ hk => hk.2) (.slice Ao9 t246.length co9)) (fun _ h_ => h_.1))) hb); replace BK245 := zbf BK245 NB245_250 hb; replace BK250 := Aside0.mk (blk_below (g := gb250) (o := .cells #[.slice Ao9 t246.length co9] 50 (0, 0)) (by (with_reducible repeat (first | refine blk_drewN ?_ _ | refine blk_drew ?_ | refine blk_alloc ?_ _)); apply blk_put (i := 0); (case h => exact y0 BK250.out); (case e => rfl)) hb); replace HB := Aside0.mk (below_step (y2 HB.out GE245.out GE250.out) hb); (try clear hb); (try clear hb2); (try clear hk); (try clear hi)))
  go_ret
  exact ⟨y19, (y2 HB.out GE245.out GE250.out)⟩
 ·replace c3 := Bool.eq_false_iff.mpr c3
  subst c3
  rw [if_neg (show ¬ (false = true) by decide)] at H
  obtain rfl := Option.some.inj H
  go_enter Try.func35, Try.ntmps35
  go_wp2_with (first | ((with_reducible refine gate_dst (N := 1) rfl ?_); refine zbx 1 #[.int .i64 a0_0, .slice A0_1 l0_1.length c0_1] 25 ?_; intro gb245 hg w14 hbox hb; have BK245 := Aside0.mk hbox; have GW245 := Aside0.mk ((y9 hg HB.out : w.heap.size ≤ gb245)); have GE245 := Aside0.mk ((y9 hg HB.out : w.heap.size ≤ gb245)); replace HB := Aside0.mk (below_step (y5 HB.out) hb); clear hb hbox hg; have hcz15_0 := zh BK245; have hcz15_1 := zh1 BK245; have hfz15_0 := zfr BK245 0; have hfz15_1 := zfr BK245 1) | ((with_reducible refine gate_callee (f := 49) rfl ?_); refine goesL_ (some 7) rfl rfl Try.func49 (by kernel_rfl) rfl #[.agg #[.int .i64 a0_0, .slice A0_1 l0_1.length c0_1], .int .i64 4] rfl y8 ?_; (with_reducible refine (spec_l1Of.calls k a0_0 _ _ l0_1 4 t246 false _ ?side1 ?side2 A2.out).mono ?_); (case side1 => exact y15 HR0_1.out HB.out); (case side2 => exact HC0_1.out); rintro e w16 ⟨v247, rfl, ho0, hb⟩; refine ⟨_, rfl, ?_⟩; have HO248 := Aside0.mk (Kd.R_lower ho0 (below_size (y6 HB.out GE245.out))); replace BK245 := zbb BK245 hb; replace HB := Aside0.mk (below_step (y6 HB.out GE245.out) hb); (try clear hb); (try clear hb2); (try clear hk); (try clear hi); (try clear ho0)) | ((with_reducible refine gate_dst (N := 3) rfl ?_); refine zbx 3 #[.slice none 0 0] 50 ?_; intro gb250 hg w17 hbox hb; replace HO248 := Aside0.mk (Kd.R_below (Kd.R_elderB (y12 HO248.out) gb250 (Nat.le_of_eq hg.symm)) hb); have BK250 := Aside0.mk hbox; have GW250 := Aside0.mk ((y11 hg HB.out GE245.out : w.heap.size ≤ gb250)); have GE250 := Aside0.mk ((y11 hg HB.out GE245.out : w.heap.size ≤ gb250)); replace HB := Aside0.mk (below_step (y6 HB.out GE245.out) hb); have NB245_250 := zltn hg BK245; have NB250_245 := zgtn hg BK245; replace BK245 := zbb BK245 hb; clear hb hbox hg; obtain ⟨Ao18, co18, eo18⟩ := Kd.R_slice HO248.out; subst eo18; have hnb19 := NB250_245.out; have hnc19 := NB245_250.out; have hcz20_0 := zh BK250; have hfz20_0 := zfr BK250 0))
  go_ret
  exact ⟨y19, (y2 HB.out GE245.out GE250.out)⟩
end Go.Proofs.Ythfflieeifakdaa.PA
end
