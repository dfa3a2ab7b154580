-- Ytjhbhihfifhljaa's texts for the statement FnValOk, one behind the other (merge.py).
import Derived.Test.YtjhbhihfifhljaaQFnValOk0
section
namespace Go.Proofs.Ytjhbhihfifhljaa.PA
open Go.RowKit Go.Proofs.YtjhbhihfifhljaaW.PrintWords Go.Proofs.YtjhbhihfifhljaaW.PrintLast Go.Proofs.YtjhbhihfifhljaaW.PrintMore
attribute [local go_sem] max2_int min2_int max_two min_two max_three min_three max_four min_four
set_option linter.unusedVariables false
set_option linter.unusedSimpArgs false
def spec_l71Deep.l0 : Nat → Int → List Int → Int → List (S30) → Option ((List (S30)) × Int)
 | 0, _, _, _, _ => none
 | k + 1, x4, x1000, x1001, x203000 => if x4 < 5 then (spec_l71Deep.l0 k (wrap64 (x4 + 1)) x1000 x1001 (([(⟨x203000⟩ : S30), (⟨([] : List (S30))⟩ : S30)] : List (S30)))) else (some (x203000, x1001))
def spec_l71Deep.f (k : Nat) (s0_0 : List Int) (s0_1 : Int) : Option ((List (S30)) × Int) := (spec_l6Rd_pick.f k s0_0 s0_1 4).bind fun bt196 => ((spec_l71Type.f k s0_0 bt196.2 (wrap64 (1 + bt196.1))).bind fun bt198 => ((spec_l6Rd_pick.f k s0_0 bt198.2 12).bind fun bt203 => (if bt203.1 = 0 then (spec_l71Deep.l0 k 0 s0_0 bt203.2 bt198.1) else (if bt203.1 = 1 then (if bt198.1.length < 5864062014805 then (some ((bt198.1 ++ [(⟨([] : List (S30))⟩ : S30)]), bt203.2)) else (none)) else (some (bt198.1, bt203.2))))))
theorem spec_l71Deep.mono_l : ∀ k, (∀ y0 y1 y2 y3, LeO (spec_l71Deep.l0 k y0 y1 y2 y3) (spec_l71Deep.l0 (k + 1) y0 y1 y2 y3))
 | 0 => fun _ _ _ _ r h => by simp [spec_l71Deep.l0] at h
 | k + 1 => by
  have ih0 := spec_l71Deep.mono_l k
  ·intro y0 y1 y2 y3
   unfold spec_l71Deep.l0
   repeat' first
   | (with_reducible exact ih0 _ _ _ _)
   | (with_reducible exact spec_l6Rd_pick.mono _ _ _ _)
   | (with_reducible exact spec_l71Type.mono _ _ _ _)
   | (with_reducible exact LeO.refl _)
   | (with_reducible exact LeO.none _)
   | (with_reducible refine LeO.ite ?_ ?_)
   | (with_reducible refine LeO.bind ?_ (fun _ => ?_))
   | exact ih0 _ _ _ _
   | exact spec_l6Rd_pick.mono _ _ _ _
   | exact spec_l71Type.mono _ _ _ _
   | exact LeO.none _
   | refine LeO.ite ?_ ?_
   | refine LeO.bind ?_ (fun _ => ?_)
theorem spec_l71Deep.mono : ∀ a0 a1 k, LeO (spec_l71Deep.f k a0 a1) (spec_l71Deep.f (k + 1) a0 a1) := by
 intro a0 a1 k
 have ih0 := spec_l71Deep.mono_l k
 unfold spec_l71Deep.f
 repeat' first
   | (with_reducible exact ih0 _ _ _ _)
   | (with_reducible exact spec_l6Rd_pick.mono _ _ _ _)
   | (with_reducible exact spec_l71Type.mono _ _ _ _)
   | (with_reducible exact LeO.refl _)
   | (with_reducible exact LeO.none _)
   | (with_reducible refine LeO.ite ?_ ?_)
   | (with_reducible refine LeO.bind ?_ (fun _ => ?_))
   | exact ih0 _ _ _ _
   | exact spec_l6Rd_pick.mono _ _ _ _
   | exact spec_l71Type.mono _ _ _ _
   | exact LeO.none _
   | refine LeO.ite ?_ ?_
   | refine LeO.bind ?_ (fun _ => ?_)
set_option maxHeartbeats 8000000 in
set_option maxRecDepth 100000 in
theorem spec_l71Deep.calls (k : Nat) (g : Nat) (s0_0 : List Int) (s0_1 : Int) (r1 : List (S30)) (r2 : Int) (w0 w : World) (hI : IsS95 w0 w g s0_0 s0_1) (hB : Below w0.heap.size w0 w) (h : spec_l71Deep.f k s0_0 s0_1 = some (r1, r2)) :
  Calls Try.prog 51 #[.pointer (some ⟨g, 0, none⟩)] w fun e w' => ∃ v0_ : Value, e = .returned (.agg #[v0_]) ∧ Kd.N k30 30 w' w.heap.size (fun k_ => (w.heap.size ≤ k_)) v0_ r1 ∧ IsS95 w0 w' g s0_0 r2 ∧ Below w0.heap.size w0 w' ∧ KeepBut w w' g none := by
 have hu30 := Try.underlying30
 have HI0 := Aside0.mk hI
 have HK := Aside0.mk (KeepBut.refl w g none)
 have HL := Aside0.mk hB.size
 clear hI
 have HW0 := Aside0.mk hB.size
 have HB := Aside0.mk hB
 clear hB
 have H : ((spec_l6Rd_pick.f k s0_0 s0_1 4).bind fun bt196 => ((spec_l71Type.f k s0_0 bt196.2 (wrap64 (1 + bt196.1))).bind fun bt198 => ((spec_l6Rd_pick.f k s0_0 bt198.2 12).bind fun bt203 => (if bt203.1 = 0 then (spec_l71Deep.l0 k 0 s0_0 bt203.2 bt198.1) else (if bt203.1 = 1 then (if bt198.1.length < 5864062014805 then (some ((bt198.1 ++ [(⟨([] : List (S30))⟩ : S30)]), bt203.2)) else (none)) else (some (bt198.1, bt203.2))))))) = some (r1, r2) := h
 clear h
 obtain ⟨⟨t196, t197⟩, A20, H⟩ := ob H
 have A2 := Aside0.mk A20
 clear A20
 obtain ⟨⟨t198, t201⟩, A30, H⟩ := ob H
 have A3 := Aside0.mk A30
 clear A30
 obtain ⟨⟨t203, t204⟩, A40, H⟩ := ob H
 have A4 := Aside0.mk A40
 clear A40
 by_cases c5 : t203 = 0
 ·rw [if_pos c5] at H
  have c5b0 : (t203 == 0) = true := beq_iff_eq.mpr c5
  have c5b1 : (t203 != 0) = false := bne_eq_false_iff_eq.mpr c5
  clear c5
  have H' := Aside0.mk H
  clear H
  go_enter Try.func51, Try.ntmps51
  go_wp2_with (first | ((with_reducible refine gate_dst (N := 2) rfl ?_); refine zbx 2 #[.slice none 0 0] 30 ?_; intro gb195 hg w6 hbox hb; replace HB := Aside0.mk (below_step (y33 HB.out HI0.out) hb); have BK195 := Aside0.mk hbox; have GW195 := Aside0.mk ((by rw [hg]; exact (keep_size (w := w) (g := g) (row := none) (y25 HK.out)) : w.heap.size ≤ gb195)); have GE195 := Aside0.mk ((Nat.le_trans HW0.out (by rw [hg]; exact (keep_size (w := w) (g := g) (row := none) (y25 HK.out)) : w.heap.size ≤ gb195) : w0.heap.size ≤ gb195)); replace HK := Aside0.mk (KeepBut.trans (y25 HK.out) (KeepBut.of_below hb g none) (.inl rfl)); have NB0_195 := Aside0.mk ((by rw [hg]; exact Nat.ne_of_lt (IsS95.lt (show IsS95 w0 _ g s0_0 s0_1 from by repeat (first | (with_reducible first | exact HI0.out | apply IsS95.alloc | apply IsS95.drewN | apply IsS95.drew | apply IsS95.set_1) | exact HI0.out))) : g ≠ gb195)); have NB195_0 := Aside0.mk ((by rw [hg]; exact Nat.ne_of_gt (IsS95.lt (show IsS95 w0 _ g s0_0 s0_1 from by repeat (first | (with_reducible first | exact HI0.out | apply IsS95.alloc | apply IsS95.drewN | apply IsS95.drew | apply IsS95.set_1) | exact HI0.out))) : gb195 ≠ g)); replace HI0 := Aside0.mk (IsS95.below (y35 HI0.out) hb); clear hb hbox hg) | ((with_reducible refine gate_callee (f := 58) rfl ?_); refine goesL_ (some 7) rfl rfl Try.func58 (by kernel_rfl) rfl #[.pointer (some ⟨g, 0, none⟩), .int .i64 4] rfl y4 ?_; (with_reducible refine (spec_l6Rd_pick.calls k g s0_0 s0_1 4 t196 t197 w0 _ ?side1 ?side2 A2.out).mono ?_); (case side1 => exact y24 HI0.out NB0_195.out); (case side2 => exact y23 HB.out HI0.out GE195.out); rintro e w7 ⟨rfl, hi, hb, hk⟩; refine ⟨_, rfl, ?_⟩; replace BK195 := Aside0.mk (KeepBut.blk hk (g' := gb195) (o := .cells #[.slice none 0 0] 30 (0, 0)) (y0 BK195.out) NB195_0.out (by simp)); replace HK := Aside0.mk (KeepBut.trans (y18 HK.out GW195.out) hk (.inl rfl)); replace HB := Aside0.mk (hb); replace HI0 := Aside0.mk (hi); (try clear hb); (try clear hb2); (try clear hk); (try clear hi)) | ((with_reducible refine gate_callee (f := 67) rfl ?_); refine goesL_ (some 9) rfl rfl Try.func67 (by kernel_rfl) rfl #[.pointer (some ⟨g, 0, none⟩), .int .i64 (wrap64 (1 + t196))] rfl y4 ?_; (with_reducible refine (spec_l71Type.calls k g s0_0 t197 (wrap64 (1 + t196)) t198 t201 w0 _ ?side1 ?side2 A3.out).mono ?_); (case side1 => exact y24 HI0.out NB0_195.out); (case side2 => exact y23 HB.out HI0.out GE195.out); rintro e w8 ⟨v199, rfl, ho0, hi, hb, hk⟩; refine ⟨_, rfl, ?_⟩; have HO200 := Aside0.mk (Kd.N_lower (Kd.N_mono (ok' := fun k_ => (w.heap.size ≤ k_) ∧ k_ ≠ gb195 ∧ k_ ≠ g) ho0 (fun k_ hk_ => ⟨(Nat.le_trans (keep_size (w := w) (g := g) (row := none) (y18 HK.out GW195.out)) hk_), (Kd.freshB (g := gb195) (o := .cells #[.slice none 0 0] 30 (0, 0)) (y0 BK195.out) k_ hk_), (IsS95.fresh (y24 HI0.out NB0_195.out) k_ hk_)⟩)) (keep_size (w := w) (g := g) (row := none) (y18 HK.out GW195.out))); replace BK195 := Aside0.mk (KeepBut.blk hk (g' := gb195) (o := .cells #[.slice none 0 0] 30 (0, 0)) (y0 BK195.out) NB195_0.out (by simp)); replace HK := Aside0.mk (KeepBut.trans (y18 HK.out GW195.out) hk (.inl rfl)); replace HB := Aside0.mk (hb); replace HI0 := Aside0.mk (hi); (try clear hb); (try clear hb2); (try clear hk); (try clear hi); (try clear ho0)) | ((with_reducible refine gate_dst (N := 3) rfl ?_); refine zbx 3 #[.slice none 0 0] 30 ?_; intro gb202 hg w9 hbox hb; replace HO200 := Aside0.mk (Kd.N_below (Kd.N_elderB (y9 HO200.out) gb202 (Nat.le_of_eq hg.symm)) hb); replace HB := Aside0.mk (below_step (y23 HB.out HI0.out GE195.out) hb); have BK202 := Aside0.mk hbox; have GW202 := Aside0.mk ((by rw [hg]; exact (keep_size (w := w) (g := g) (row := none) (y18 HK.out GW195.out)) : w.heap.size ≤ gb202)); have GE202 := Aside0.mk ((Nat.le_trans HW0.out (by rw [hg]; exact (keep_size (w := w) (g := g) (row := none) (y18 HK.out GW195.out)) : w.heap.size ≤ gb202) : w0.heap.size ≤ gb202)); replace HK := Aside0.mk (KeepBut.trans (y18 HK.out GW195.out) (KeepBut.of_below hb g none) (.inl rfl)); have NB195_202 := zltn hg BK195; have NB202_195 := zgtn hg BK195; replace BK195 := zbb BK195 hb; have NB0_202 := Aside0.mk ((by rw [hg]; exact Nat.ne_of_lt (IsS95.lt (show IsS95 w0 _ g s0_0 t201 from by repeat (first | (with_reducible first | exact HI0.out | apply IsS95.alloc | apply IsS95.drewN | apply IsS95.drew | apply IsS95.set_1 | refine IsS95.far ?_ NB0_195.out _) | exact HI0.out))) : g ≠ gb202)); have NB202_0 := Aside0.mk ((by rw [hg]; exact Nat.ne_of_gt (IsS95.lt (show IsS95 w0 _ g s0_0 t201 from by repeat (first | (with_reducible first | exact HI0.out | apply IsS95.alloc | apply IsS95.drewN | apply IsS95.drew | apply IsS95.set_1 | refine IsS95.far ?_ NB0_195.out _) | exact HI0.out))) : gb202 ≠ g)); replace HI0 := Aside0.mk (IsS95.below (y24 HI0.out NB0_195.out) hb); clear hb hbox hg; obtain ⟨Ao10, co10, eo10⟩ := Kd.N_slice HO200.out; subst eo10; have hnb11 := NB202_195.out; have hnc11 := NB195_202.out; have hnb12 := NB202_0.out; have hnc12 := NB0_202.out; have hcz13_0 := zh BK202; have hfz13_0 := zfr BK202 0) | ((with_reducible refine gate_callee (f := 58) rfl ?_); refine goesL_ (some 11) rfl rfl Try.func58 (by kernel_rfl) rfl #[.pointer (some ⟨g, 0, none⟩), .int .i64 12] rfl y4 ?_; (with_reducible refine (spec_l6Rd_pick.calls k g s0_0 t201 12 t203 t204 w0 _ ?side1 ?side2 A4.out).mono ?_); (case side1 => exact y15 HI0.out NB0_195.out NB0_202.out); (case side2 => exact y12 HB.out HI0.out GE195.out GE202.out); rintro e w14 ⟨rfl, hi, hb, hk⟩; refine ⟨_, rfl, ?_⟩; replace BK195 := Aside0.mk (KeepBut.blk hk (g' := gb195) (o := .cells #[.slice none 0 0] 30 (0, 0)) (y21 NB195_202.out BK195.out) NB195_0.out (by simp)); replace HO200 := Aside0.mk (Kd.N_mono (Kd.N_keep (Kd.N_mono (ok := fun k_ => ((((w.heap.size ≤ k_)) ∧ (k_ ≠ gb195 ∧ k_ ≠ g)) ∧ k_ ≠ gb202)) (by (with_reducible repeat (first | apply Kd.N_alloc | apply Kd.N_drewN | apply Kd.N_drew)); exact (Kd.N_mono (Kd.N_far (p := ⟨gb202, 0, none⟩) (Kd.N_mono HO200.out (fun k_ hk => (⟨hk, hk.2⟩ : _ ∧ k_ ≠ gb202))) (fun _ hk => hk.2) (.slice Ao10 t198.length co10)) (fun _ h_ => h_.1))) (fun k_ hk_ => (⟨hk_, hk_.1.2.2⟩ : _ ∧ k_ ≠ g))) hk (fun _ h => h.2)) (fun _ h => h.1)); replace BK202 := Aside0.mk (KeepBut.blk hk (g' := gb202) (o := .cells #[.slice Ao10 t198.length co10] 30 (0, 0)) (by (with_reducible repeat (first | refine blk_drewN ?_ _ | refine blk_drew ?_ | refine blk_alloc ?_ _)); apply blk_put (i := 0); (case h => exact y0 BK202.out); (case e => rfl)) NB202_0.out (by simp)); replace HK := Aside0.mk (KeepBut.trans (y11 HK.out GW195.out GW202.out) hk (.inl rfl)); replace HB := Aside0.mk (hb); replace HI0 := Aside0.mk (hi); (try clear hb); (try clear hb2); (try clear hk); (try clear hi)))
  go_loopg [4] k (fun kq v4 w' => ∃ (x4_1 : Int) (x203000_1 : List (S30)) (u203000 : Value), v4 = .int .i64 x4_1 ∧ Aside0 (spec_l71Deep.l0 kq x4_1 s0_0 t204 x203000_1 = some (r1, r2)) ∧ Aside0 (kq ≤ k) ∧ Aside0 (Kd.N k30 30 w' w.heap.size (fun k_ => (w.heap.size ≤ k_) ∧ k_ ≠ gb195 ∧ k_ ≠ gb202 ∧ k_ ≠ g) u203000 x203000_1) ∧ Aside0 (w'.heap[gb195]? = some (.cells #[(.slice none 0 0)] 30 (0, 0))) ∧ Aside0 (w'.heap[gb202]? = some (.cells #[u203000] 30 (0, 0))) ∧ Aside0 (IsS95 w0 w' g s0_0 t204) ∧ Aside0 (KeepBut w w' g none) ∧ Aside0 (Below w0.heap.size w0 w'))
  case atStart => exact ⟨(0), (t198), (.slice Ao10 t198.length co10), y26, H', ⟨Nat.le_refl _⟩, ⟨(y78 HO200.out)⟩, ⟨(y0 BK195.out)⟩, ⟨(y0 BK202.out)⟩, ⟨(y15 HI0.out NB0_195.out NB0_202.out)⟩, ⟨(y11 HK.out GW195.out GW202.out)⟩, ⟨(y12 HB.out HI0.out GE195.out GE202.out)⟩⟩
  case round =>
   clear H'
   try clear c1
   try clear p2
   try clear c5
   try clear c5b0
   try clear c5b1
   try clear c6
   try clear p6
   try clear c11
   try clear c12
   try clear hcz13_0
   try clear hfz13_0
   obtain ⟨x4_1, x203000_1, u203000, rfl, HA, HK1, HO_203000, BK195, BK202, HI0, HK, HB⟩ := hrel
   cases gk with
   | zero => exact absurd HA.out (by simp [spec_l71Deep.l0])
   | succ k1 =>
    have H := HA.out
    clear HA
    simp only [spec_l71Deep.l0] at H
    by_cases c15 : x4_1 < 5
    ·rw [if_pos c15] at H
     have c15b0 : decide (x4_1 < 5) = true := decide_eq_true c15
     clear c15
     obtain ⟨y205, hy205⟩ : ∃ y_ : List (S30), y_ = (([(⟨x203000_1⟩ : S30), (⟨([] : List (S30))⟩ : S30)] : List (S30))) := ⟨_, rfl⟩
     replace H : (spec_l71Deep.l0 k1 (wrap64 (x4_1 + 1)) s0_0 t204 y205) = some (r1, r2) := by first | (rw [hy205]; with_reducible exact H) | (have H2_ := (Option.bind_some _ _).symm.trans H; rw [hy205]; with_reducible exact H2_) | (have H2_ := (Option.bind_some _ _).symm.trans H; with_reducible exact H2_) | with_reducible exact H | (rw [hy205]; exact H) | exact H
     have Ny205 := Aside0.mk hy205
     clear hy205
     have H' := Aside0.mk H
     clear H
     have hnb16 := NB202_195.out
     have hnc16 := NB195_202.out
     have hnb17 := NB202_0.out
     have hnc17 := NB0_202.out
     have hcz18_0 := zh BK202
     have hfz18_0 := zfr BK202 0
     obtain ⟨Ao19, co19, eo19⟩ := Kd.N_slice HO_203000.out
     subst eo19
     go_wp2_with (first | ((with_reducible refine gate_dst (N := 20) rfl ?_); refine Kd.N_lit k30 _ 30 ?hg (N' := 20) ?hd (xs := ([(⟨x203000_1⟩ : S30), (⟨([] : List (S30))⟩ : S30)] : List (S30))) (inner := [.slice Ao19 x203000_1.length co19, .slice none 0 0]) (ok := (fun k_ => (w.heap.size ≤ k_) ∧ k_ ≠ gb195 ∧ k_ ≠ gb202 ∧ k_ ≠ g)) (okp := (fun k_ => (w.heap.size ≤ k_) ∧ k_ ≠ gb195 ∧ k_ ≠ gb202 ∧ k_ ≠ g)) ?hr ?hp (fun _ hk => hk) ((show ∀ k_, wr.heap.size ≤ k_ → (fun k_ => (w.heap.size ≤ k_) ∧ k_ ≠ gb195 ∧ k_ ≠ gb202 ∧ k_ ≠ g) k_ from fun k_ hk => ⟨(Nat.le_trans (keep_size (w := w) (g := g) (row := none) (y11 HK.out GW195.out GW202.out)) hk), Kd.freshB (g := gb195) (o := .cells #[.slice none 0 0] 30 (0, 0)) (y0 BK195.out) k_ hk, Kd.freshB (g := gb202) (o := .cells #[.slice Ao19 x203000_1.length co19] 30 (0, 0)) (y0 BK202.out) k_ hk, IsS95.fresh (y15 HI0.out NB0_195.out NB0_202.out) k_ hk⟩) _ (Nat.le_refl _)) (Below.refl _ _) (Nat.le_refl _) (by simp) ?_; (case hd => rfl); (case hg => rfl); (case hr => first | (go_simp; done) | (go_simp; rfl)); (case hp => exact (Reps.one (show Kd.FK k30 _ _ (⟨x203000_1⟩ : S30) [.slice Ao19 x203000_1.length co19] from (k30_mkF _ _ (⟨x203000_1⟩ : S30) (Kd.N_reads' (Kd.N_mono (ok' := (fun k_ => (w.heap.size ≤ k_) ∧ k_ ≠ gb195 ∧ k_ ≠ gb202 ∧ k_ ≠ g)) (HO_203000.out) (fun k_ hk => ⟨hk.1, ⟨hk.2.1, ⟨hk.2.2.1, hk.2.2.2⟩⟩⟩))).2.1 (Kd.N_F (Kd.N_mono (ok' := (fun k_ => (w.heap.size ≤ k_) ∧ k_ ≠ gb195 ∧ k_ ≠ gb202 ∧ k_ ≠ g)) (HO_203000.out) (fun k_ hk => ⟨hk.1, ⟨hk.2.1, ⟨hk.2.2.1, hk.2.2.2⟩⟩⟩))))) (Reps.one (show Kd.FK k30 _ _ (⟨([] : List (S30))⟩ : S30) [.slice none 0 0] from (k30_mkF _ _ (⟨([] : List (S30))⟩ : S30) (Nat.le_refl _) (Kd.F_nil _ _ _))) (Reps.none _ _)))); intro v206 w20 ho21 hb hg_ hnew_; clear hg_ hnew_; (first | rw [← Ny205.out] at ho21 | (simp only [Int.reduceToNat] at ho21; rw [← Ny205.out] at ho21)); have HO207 := Aside0.mk (Kd.N_lower ho21 (keep_size (w := w) (g := g) (row := none) (y11 HK.out GW195.out GW202.out))); replace BK195 := zbb BK195 hb; replace BK202 := zbb BK202 hb; replace HK := Aside0.mk (KeepBut.trans (y11 HK.out GW195.out GW202.out) (KeepBut.of_below hb g none) (.inl rfl)); replace HB := Aside0.mk (below_step (y12 HB.out HI0.out GE195.out GE202.out) hb); replace HI0 := Aside0.mk (IsS95.below (y15 HI0.out NB0_195.out NB0_202.out) hb); clear HO_203000; clear hb ho21; obtain ⟨Ao22, co22, eo22⟩ := Kd.N_slice HO207.out; subst eo22; have hcz23_0 := zh BK202; have hfz23_0 := zfr BK202 0))
     go_roundg k1
     case measure => have := HK1.out; omega
     case rel => exact ⟨(wrap64 (x4_1 + 1)), (y205), (.slice Ao22 y205.length co22), y26, H', ⟨(y46 HK1.out)⟩, ⟨(by (with_reducible repeat (first | apply Kd.N_alloc | apply Kd.N_drewN | apply Kd.N_drew)); exact Kd.N_mono (Kd.N_far (p := ⟨gb202, 0, none⟩) (Kd.N_mono HO207.out (fun k_ hk => (⟨hk, hk.2.2.1⟩ : _ ∧ k_ ≠ gb202))) (fun _ hk => hk.2) (.slice Ao22 y205.length co22)) (fun _ hk => ⟨hk.1.1, ⟨hk.1.2.1, ⟨hk.1.2.2.1, hk.1.2.2.2⟩⟩⟩))⟩, ⟨(y21 NB195_202.out BK195.out)⟩, ⟨(by (with_reducible repeat (first | refine blk_drewN ?_ _ | refine blk_drew ?_ | refine blk_alloc ?_ _)); refine blk_put (cs := #[.slice Ao19 x203000_1.length co19]) ?_ 0 _ rfl; (with_reducible repeat (first | refine blk_drewN ?_ _ | refine blk_drew ?_ | refine blk_alloc ?_ _)); exact BK202.out)⟩, ⟨(y15 HI0.out NB0_195.out NB0_202.out)⟩, ⟨(y11 HK.out GW195.out GW202.out)⟩, ⟨(y12 HB.out HI0.out GE195.out GE202.out)⟩⟩
    ·rw [if_neg c15] at H
     have c15b0 : decide (x4_1 < 5) = false := decide_eq_false c15
     clear c15
     simp only [Option.some.injEq, Prod.mk.injEq] at H
     obtain ⟨rfl, rfl⟩ := H
     have hnb24 := NB202_195.out
     have hnc24 := NB195_202.out
     have hnb25 := NB202_0.out
     have hnc25 := NB0_202.out
     have hcz26_0 := zh BK202
     have hfz26_0 := zfr BK202 0
     obtain ⟨Ao27, co27, eo27⟩ := Kd.N_slice HO_203000.out
     subst eo27
     have hnb28 := NB195_0.out
     have hnc28 := NB0_195.out
     have hcz29_0 := zh BK195
     have hfz29_0 := zfr BK195 0
     go_wp2
     refine bodyPost_ret (results_cell_row rfl _ _ gb195 30 #[.slice Ao27 x203000_1.length co27] (0, 0) _ rfl (by (with_reducible repeat (first | refine blk_drewN ?_ _ | refine blk_drew ?_ | refine blk_alloc ?_ _)); apply blk_put (i := 0); (case h => exact y0 BK195.out); (case e => rfl)) Try.underlying30 rfl (by kernel_rfl)) rfl ?_
     exact ⟨_, y14, (by (with_reducible repeat (first | apply Kd.N_alloc | apply Kd.N_drewN | apply Kd.N_drew)); exact Kd.N_mono (Kd.N_far (p := ⟨gb195, 0, none⟩) (Kd.N_mono HO_203000.out (fun k_ hk => (⟨hk, hk.2.1⟩ : _ ∧ k_ ≠ gb195))) (fun _ hk => hk.2) (.slice Ao27 x203000_1.length co27)) (fun _ hk => hk.1.1)), (y15 HI0.out NB0_195.out NB0_202.out), (y12 HB.out HI0.out GE195.out GE202.out), (y11 HK.out GW195.out GW202.out)⟩
 ·rw [if_neg c5] at H
  have c5b0 : (t203 == 0) = false := beq_eq_false_iff_ne.mpr c5
  have c5b1 : (t203 != 0) = true := bne_iff_ne.mpr c5
  by_cases c30 : t203 = 1
  ·rw [if_pos c30] at H
   have c30b0 : (t203 == 1) = true := beq_iff_eq.mpr c30
   have c30b1 : (t203 != 1) = false := bne_eq_false_iff_eq.mpr c30
   clear c30
   by_cases c31 : t198.length < 5864062014805
   ·rw [if_pos c31] at H
    have LMc31 := Aside0.mk c31
    clear c31
    obtain ⟨y208, hy208⟩ : ∃ y_ : List (S30), y_ = (t198 ++ [(⟨([] : List (S30))⟩ : S30)]) := ⟨_, rfl⟩
    replace H : (some (y208, t204)) = some (r1, r2) := by first | (rw [hy208]; with_reducible exact H) | (have H2_ := (Option.bind_some _ _).symm.trans H; rw [hy208]; with_reducible exact H2_) | (have H2_ := (Option.bind_some _ _).symm.trans H; with_reducible exact H2_) | with_reducible exact H | (rw [hy208]; exact H) | exact H
    have Ny208 := Aside0.mk hy208
    clear hy208
    simp only [Option.some.injEq, Prod.mk.injEq] at H
    obtain ⟨rfl, rfl⟩ := H
    go_enter Try.func51, Try.ntmps51
    go_wp2_with (first | ((with_reducible refine gate_dst (N := 2) rfl ?_); refine zbx 2 #[.slice none 0 0] 30 ?_; intro gb195 hg w32 hbox hb; replace HB := Aside0.mk (below_step (y33 HB.out HI0.out) hb); have BK195 := Aside0.mk hbox; have GW195 := Aside0.mk ((by rw [hg]; exact (keep_size (w := w) (g := g) (row := none) (y25 HK.out)) : w.heap.size ≤ gb195)); have GE195 := Aside0.mk ((Nat.le_trans HW0.out (by rw [hg]; exact (keep_size (w := w) (g := g) (row := none) (y25 HK.out)) : w.heap.size ≤ gb195) : w0.heap.size ≤ gb195)); replace HK := Aside0.mk (KeepBut.trans (y25 HK.out) (KeepBut.of_below hb g none) (.inl rfl)); have NB0_195 := Aside0.mk ((by rw [hg]; exact Nat.ne_of_lt (IsS95.lt (show IsS95 w0 _ g s0_0 s0_1 from by repeat (first | (with_reducible first | exact HI0.out | apply IsS95.alloc | apply IsS95.drewN | apply IsS95.drew | apply IsS95.set_1) | exact HI0.out))) : g ≠ gb195)); have NB195_0 := Aside0.mk ((by rw [hg]; exact Nat.ne_of_gt (IsS95.lt (show IsS95 w0 _ g s0_0 s0_1 from by repeat (first | (with_reducible first | exact HI0.out | apply IsS95.alloc | apply IsS95.drewN | apply IsS95.drew | apply IsS95.set_1) | exact HI0.out))) : gb195 ≠ g)); replace HI0 := Aside0.mk (IsS95.below (y35 HI0.out) hb); clear hb hbox hg) | ((with_reducible refine gate_callee (f := 58) rfl ?_); refine goesL_ (some 7) rfl rfl Try.func58 (by kernel_rfl) rfl #[.pointer (some ⟨g, 0, none⟩), .int .i64 4] rfl y4 ?_; (with_reducible refine (spec_l6Rd_pick.calls k g s0_0 s0_1 4 t196 t197 w0 _ ?side1 ?side2 A2.out).mono ?_); (case side1 => exact y24 HI0.out NB0_195.out); (case side2 => exact y23 HB.out HI0.out GE195.out); rintro e w33 ⟨rfl, hi, hb, hk⟩; refine ⟨_, rfl, ?_⟩; replace BK195 := Aside0.mk (KeepBut.blk hk (g' := gb195) (o := .cells #[.slice none 0 0] 30 (0, 0)) (y0 BK195.out) NB195_0.out (by simp)); replace HK := Aside0.mk (KeepBut.trans (y18 HK.out GW195.out) hk (.inl rfl)); replace HB := Aside0.mk (hb); replace HI0 := Aside0.mk (hi); (try clear hb); (try clear hb2); (try clear hk); (try clear hi)) | ((with_reducible refine gate_callee (f := 67) rfl ?_); refine goesL_ (some 9) rfl rfl Try.func67 (by kernel_rfl) rfl #[.pointer (some ⟨g, 0, none⟩), .int .i64 (wrap64 (1 + t196))] rfl y4 ?_; (with_reducible refine (spec_l71Type.calls k g s0_0 t197 (wrap64 (1 + t196)) t198 t201 w0 _ ?side1 ?side2 A3.out).mono ?_); (case side1 => exact y24 HI0.out NB0_195.out); (case side2 => exact y23 HB.out HI0.out GE195.out); rintro e w34 ⟨v199, rfl, ho0, hi, hb, hk⟩; refine ⟨_, rfl, ?_⟩; have HO200 := Aside0.mk (Kd.N_lower (Kd.N_mono (ok' := fun k_ => (w.heap.size ≤ k_) ∧ k_ ≠ gb195 ∧ k_ ≠ g) ho0 (fun k_ hk_ => ⟨(Nat.le_trans (keep_size (w := w) (g := g) (row := none) (y18 HK.out GW195.out)) hk_), (Kd.freshB (g := gb195) (o := .cells #[.slice none 0 0] 30 (0, 0)) (y0 BK195.out) k_ hk_), (IsS95.fresh (y24 HI0.out NB0_195.out) k_ hk_)⟩)) (keep_size (w := w) (g := g) (row := none) (y18 HK.out GW195.out))); replace BK195 := Aside0.mk (KeepBut.blk hk (g' := gb195) (o := .cells #[.slice none 0 0] 30 (0, 0)) (y0 BK195.out) NB195_0.out (by simp)); replace HK := Aside0.mk (KeepBut.trans (y18 HK.out GW195.out) hk (.inl rfl)); replace HB := Aside0.mk (hb); replace HI0 := Aside0.mk (hi); (try clear hb); (try clear hb2); (try clear hk); (try clear hi); (try clear ho0)) | ((with_reducible refine gate_dst (N := 3) rfl ?_); refine zbx 3 #[.slice none 0 0] 30 ?_; intro gb202 hg w35 hbox hb; replace HO200 := Aside0.mk (Kd.N_below (Kd.N_elderB (y9 HO200.out) gb202 (Nat.le_of_eq hg.symm)) hb); replace HB := Aside0.mk (below_step (y23 HB.out HI0.out GE195.out) hb); have BK202 := Aside0.mk hbox; have GW202 := Aside0.mk ((by rw [hg]; exact (keep_size (w := w) (g := g) (row := none) (y18 HK.out GW195.out)) : w.heap.size ≤ gb202)); have GE202 := Aside0.mk ((Nat.le_trans HW0.out (by rw [hg]; exact (keep_size (w := w) (g := g) (row := none) (y18 HK.out GW195.out)) : w.heap.size ≤ gb202) : w0.heap.size ≤ gb202)); replace HK := Aside0.mk (KeepBut.trans (y18 HK.out GW195.out) (KeepBut.of_below hb g none) (.inl rfl)); have NB195_202 := zltn hg BK195; have NB202_195 := zgtn hg BK195; replace BK195 := zbb BK195 hb; have NB0_202 := Aside0.mk ((by rw [hg]; exact Nat.ne_of_lt (IsS95.lt (show IsS95 w0 _ g s0_0 t201 from by repeat (first | (with_reducible first | exact HI0.out | apply IsS95.alloc | apply IsS95.drewN | apply IsS95.drew | apply IsS95.set_1 | refine IsS95.far ?_ NB0_195.out _) | exact HI0.out))) : g ≠ gb202)); have NB202_0 := Aside0.mk ((by rw [hg]; exact Nat.ne_of_gt (IsS95.lt (show IsS95 w0 _ g s0_0 t201 from by repeat (first | (with_reducible first | exact HI0.out | apply IsS95.alloc | apply IsS95.drewN | apply IsS95.drew | apply IsS95.set_1 | refine IsS95.far ?_ NB0_195.out _) | exact HI0.out))) : gb202 ≠ g)); replace HI0 := Aside0.mk (IsS95.below (y24 HI0.out NB0_195.out) hb); clear hb hbox hg; obtain ⟨Ao36, co36, eo36⟩ := Kd.N_slice HO200.out; subst eo36; have hnb37 := NB202_195.out; have hnc37 := NB195_202.out; have hnb38 := NB202_0.out; have hnc38 := NB0_202.out; have hcz39_0 := zh BK202; have hfz39_0 := zfr BK202 0) | ((with_reducible refine gate_callee (f := 58) rfl ?_); refine goesL_ (some 11) rfl rfl Try.func58 (by kernel_rfl) rfl #[.pointer (some ⟨g, 0, none⟩), .int .i64 12] rfl y4 ?_; (with_reducible refine (spec_l6Rd_pick.calls k g s0_0 t201 12 t203 t204 w0 _ ?side1 ?side2 A4.out).mono ?_); (case side1 => exact y15 HI0.out NB0_195.out NB0_202.out); (case side2 => exact y12 HB.out HI0.out GE195.out GE202.out); rintro e w40 ⟨rfl, hi, hb, hk⟩; refine ⟨_, rfl, ?_⟩; replace BK195 := Aside0.mk (KeepBut.blk hk (g' := gb195) (o := .cells #[.slice none 0 0] 30 (0, 0)) (y21 NB195_202.out BK195.out) NB195_0.out (by simp)); replace HO200 := Aside0.mk (Kd.N_mono (Kd.N_keep (Kd.N_mono (ok := fun k_ => ((((w.heap.size ≤ k_)) ∧ (k_ ≠ gb195 ∧ k_ ≠ g)) ∧ k_ ≠ gb202)) (by (with_reducible repeat (first | apply Kd.N_alloc | apply Kd.N_drewN | apply Kd.N_drew)); exact (Kd.N_mono (Kd.N_far (p := ⟨gb202, 0, none⟩) (Kd.N_mono HO200.out (fun k_ hk => (⟨hk, hk.2⟩ : _ ∧ k_ ≠ gb202))) (fun _ hk => hk.2) (.slice Ao36 t198.length co36)) (fun _ h_ => h_.1))) (fun k_ hk_ => (⟨hk_, hk_.1.2.2⟩ : _ ∧ k_ ≠ g))) hk (fun _ h => h.2)) (fun _ h => h.1)); replace BK202 := Aside0.mk (KeepBut.blk hk (g' := gb202) (o := .cells #[.slice Ao36 t198.length co36] 30 (0, 0)) (by (with_reducible repeat (first | refine blk_drewN ?_ _ | refine blk_drew ?_ | refine blk_alloc ?_ _)); apply blk_put (i := 0); (case h => exact y0 BK202.out); (case e => rfl)) NB202_0.out (by simp)); replace HK := Aside0.mk (KeepBut.trans (y11 HK.out GW195.out GW202.out) hk (.inl rfl)); replace HB := Aside0.mk (hb); replace HI0 := Aside0.mk (hi); (try clear hb); (try clear hb2); (try clear hk); (try clear hi); have hcz41_0 := zh BK202; have hfz41_0 := zfr BK202 0) | ((with_reducible refine gate_builtin (b := .append) (xs := #[.tmp 25, .tmp 27]) rfl ?_); at_builtin; refine Kd.N_append k30 w.heap.size rfl (.tmp 25) (.tmp 27) 28 30 (.agg #[(.slice none 0 0)]) 24 rfl Try.underlying28 info30 rfl (by decide) (by omega) (.slice Ao36 t198.length co36) t198 (⟨([] : List (S30))⟩ : S30) [.slice none 0 0] (fun k_ => (w.heap.size ≤ k_) ∧ k_ ≠ gb195 ∧ k_ ≠ gb202 ∧ k_ ≠ g) (fun k_ => ((fun k_ => (w.heap.size ≤ k_) ∧ k_ ≠ gb195 ∧ k_ ≠ gb202 ∧ k_ ≠ g)) k_ ∧ some k_ ≠ (.slice Ao36 t198.length co36 : Value).ownBlock) rfl rfl ?aP (fun _ hk => hk) ?aF ?aO (Below.refl _ _) ?aS ?aL ?_; (case aP => exact (k30_mkF _ _ (⟨([] : List (S30))⟩ : S30) (Nat.le_refl _) (Kd.F_nil _ _ _))); (case aF => exact (fun k_ hk => ⟨(Nat.le_trans (keep_size (w := w) (g := g) (row := none) (y11 HK.out GW195.out GW202.out)) hk), Kd.freshB (g := gb195) (o := .cells #[.slice none 0 0] 30 (0, 0)) (y0 BK195.out) k_ hk, Kd.freshB (g := gb202) (o := .cells #[.slice Ao36 t198.length co36] 30 (0, 0)) (y0 BK202.out) k_ hk, IsS95.fresh (y15 HI0.out NB0_195.out NB0_202.out) k_ hk⟩)); (case aO => exact (y78 HO200.out)); (case aS => exact (keep_size (w := w) (g := g) (row := none) (y11 HK.out GW195.out GW202.out))); (case aL => exact y46 LMc31.out); intro v209 w42 ho hb hg hat; rw [← Ny208.out] at ho; replace BK195 := Aside0.mk (blk_grown (g := gb195) (o := .cells #[.slice none 0 0] 30 (0, 0)) (y0 BK195.out) hg (Kd.N_away HO200.out (fun _ hk => hk.1.2.1))); replace BK202 := Aside0.mk (blk_grown (g := gb202) (o := .cells #[.slice Ao36 t198.length co36] 30 (0, 0)) (y0 BK202.out) hg (Kd.N_away HO200.out (fun _ hk => hk.2))); replace HB := Aside0.mk (below_weaken (y12 HB.out HI0.out GE195.out GE202.out) HL.out hb); replace HI0 := Aside0.mk (IsS95.grown (y15 HI0.out NB0_195.out NB0_202.out) hg (IsS95.own_neN HI0.out HO200.out (by decide))); replace HK := Aside0.mk (KeepBut.trans (y11 HK.out GW195.out GW202.out) (KeepBut.of_grown hg g) (Kd.N_base2 HO200.out)); have HO210 := Aside0.mk (ho); clear HO200; clear ho hb hg hat; obtain ⟨Ao43, co43, eo43⟩ := Kd.N_slice HO210.out; subst eo43; have hcz44_0 := zh BK202; have hfz44_0 := zfr BK202 0; have hnb45 := NB195_0.out; have hnc45 := NB0_195.out; have hcz46_0 := zh BK195; have hfz46_0 := zfr BK195 0))
    refine bodyPost_ret (results_cell_row rfl _ _ gb195 30 #[.slice Ao43 y208.length co43] (0, 0) _ rfl (by (with_reducible repeat (first | refine blk_drewN ?_ _ | refine blk_drew ?_ | refine blk_alloc ?_ _)); refine blk_put (cs := #[.slice none 0 0]) ?_ 0 _ rfl; (with_reducible repeat (first | refine blk_drewN ?_ _ | refine blk_drew ?_ | refine blk_alloc ?_ _)); refine blk_far ?_ NB195_202.out _; (with_reducible repeat (first | refine blk_drewN ?_ _ | refine blk_drew ?_ | refine blk_alloc ?_ _)); exact BK195.out) Try.underlying30 rfl (by kernel_rfl)) rfl ?_
    exact ⟨_, y14, (by (with_reducible repeat (first | apply Kd.N_alloc | apply Kd.N_drewN | apply Kd.N_drew)); exact Kd.N_mono (Kd.N_far (p := ⟨gb195, 0, none⟩) (Kd.N_far (p := ⟨gb202, 0, none⟩) (Kd.N_mono (Kd.N_mono HO210.out (fun k_ hk => (⟨hk, hk.2.2.1⟩ : _ ∧ k_ ≠ gb202))) (fun k_ hk => (⟨hk, hk.1.2.1⟩ : _ ∧ k_ ≠ gb195))) (fun _ hk => hk.1.2) (.slice Ao43 y208.length co43)) (fun _ hk => hk.2) (.slice Ao43 y208.length co43)) (fun _ hk => hk.1.1.1)), (y15 HI0.out NB0_195.out NB0_202.out), (y12 HB.out HI0.out GE195.out GE202.out), (y11 HK.out GW195.out GW202.out)⟩
   ·rw [if_neg c31] at H
    exact absurd H (by simp)
  ·rw [if_neg c30] at H
   have c30b0 : (t203 == 1) = false := beq_eq_false_iff_ne.mpr c30
   have c30b1 : (t203 != 1) = true := bne_iff_ne.mpr c30
   simp only [Option.some.injEq, Prod.mk.injEq] at H
   obtain ⟨rfl, rfl⟩ := H
   go_enter Try.func51, Try.ntmps51
   go_wp2_with (first | ((with_reducible refine gate_dst (N := 2) rfl ?_); refine zbx 2 #[.slice none 0 0] 30 ?_; intro gb195 hg w47 hbox hb; replace HB := Aside0.mk (below_step (y33 HB.out HI0.out) hb); have BK195 := Aside0.mk hbox; have GW195 := Aside0.mk ((by rw [hg]; exact (keep_size (w := w) (g := g) (row := none) (y25 HK.out)) : w.heap.size ≤ gb195)); have GE195 := Aside0.mk ((Nat.le_trans HW0.out (by rw [hg]; exact (keep_size (w := w) (g := g) (row := none) (y25 HK.out)) : w.heap.size ≤ gb195) : w0.heap.size ≤ gb195)); replace HK := Aside0.mk (KeepBut.trans (y25 HK.out) (KeepBut.of_below hb g none) (.inl rfl)); have NB0_195 := Aside0.mk ((by rw [hg]; exact Nat.ne_of_lt (IsS95.lt (show IsS95 w0 _ g s0_0 s0_1 from by repeat (first | (with_reducible first | exact HI0.out | apply IsS95.alloc | apply IsS95.drewN | apply IsS95.drew | apply IsS95.set_1) | exact HI0.out))) : g ≠ gb195)); have NB195_0 := Aside0.mk ((by rw [hg]; exact Nat.ne_of_gt (IsS95.lt (show IsS95 w0 _ g s0_0 s0_1 from by repeat (first | (with_reducible first | exact HI0.out | apply IsS95.alloc | apply IsS95.drewN | apply IsS95.drew | apply IsS95.set_1) | exact HI0.out))) : gb195 ≠ g)); replace HI0 := Aside0.mk (IsS95.below (y35 HI0.out) hb); clear hb hbox hg) | ((with_reducible refine gate_callee (f := 58) rfl ?_); refine goesL_ (some 7) rfl rfl Try.func58 (by kernel_rfl) rfl #[.pointer (some ⟨g, 0, none⟩), .int .i64 4] rfl y4 ?_; (with_reducible refine (spec_l6Rd_pick.calls k g s0_0 s0_1 4 t196 t197 w0 _ ?side1 ?side2 A2.out).mono ?_); (case side1 => exact y24 HI0.out NB0_195.out); (case side2 => exact y23 HB.out HI0.out GE195.out); rintro e w48 ⟨rfl, hi, hb, hk⟩; refine ⟨_, rfl, ?_⟩; replace BK195 := Aside0.mk (KeepBut.blk hk (g' := gb195) (o := .cells #[.slice none 0 0] 30 (0, 0)) (y0 BK195.out) NB195_0.out (by simp)); replace HK := Aside0.mk (KeepBut.trans (y18 HK.out GW195.out) hk (.inl rfl)); replace HB := Aside0.mk (hb); replace HI0 := Aside0.mk (hi); (try clear hb); (try clear hb2); (try clear hk); (try clear hi)) | ((with_reducible refine gate_callee (f := 67) rfl ?_); refine goesL_ (some 9) rfl rfl Try.func67 (by kernel_rfl) rfl #[.pointer (some ⟨g, 0, none⟩), .int .i64 (wrap64 (1 + t196))] rfl y4 ?_; (with_reducible refine (spec_l71Type.calls k g s0_0 t197 (wrap64 (1 + t196)) t198 t201 w0 _ ?side1 ?side2 A3.out).mono ?_); (case side1 => exact y24 HI0.out NB0_195.out); (case side2 => exact y23 HB.out HI0.out GE195.out); rintro e w49 ⟨v199, rfl, ho0, hi, hb, hk⟩; refine ⟨_, rfl, ?_⟩; have HO200 := Aside0.mk (Kd.N_lower (Kd.N_mono (ok' := fun k_ => (w.heap.size ≤ k_) ∧ k_ ≠ gb195 ∧ k_ ≠ g) ho0 (fun k_ hk_ => ⟨(Nat.le_trans (keep_size (w := w) (g := g) (row := none) (y18 HK.out GW195.out)) hk_), (Kd.freshB (g := gb195) (o := .cells #[.slice none 0 0] 30 (0, 0)) (y0 BK195.out) k_ hk_), (IsS95.fresh (y24 HI0.out NB0_195.out) k_ hk_)⟩)) (keep_size (w := w) (g := g) (row := none) (y18 HK.out GW195.out))); replace BK195 := Aside0.mk (KeepBut.blk hk (g' := gb195) (o := .cells #[.slice none 0 0] 30 (0, 0)) (y0 BK195.out) NB195_0.out (by simp)); replace HK := Aside0.mk (KeepBut.trans (y18 HK.out GW195.out) hk (.inl rfl)); replace HB := Aside0.mk (hb); replace HI0 := Aside0.mk (hi); (try clear hb); (try clear hb2); (try clear hk); (try clear hi); (try clear ho0)) | ((with_reducible refine gate_dst (N := 3) rfl ?_); refine zbx 3 #[.slice none 0 0] 30 ?_; intro gb202 hg w50 hbox hb; replace HO200 := Aside0.mk (Kd.N_below (Kd.N_elderB (y9 HO200.out) gb202 (Nat.le_of_eq hg.symm)) hb); replace HB := Aside0.mk (below_step (y23 HB.out HI0.out GE195.out) hb); have BK202 := Aside0.mk hbox; have GW202 := Aside0.mk ((by rw [hg]; exact (keep_size (w := w) (g := g) (row := none) (y18 HK.out GW195.out)) : w.heap.size ≤ gb202)); have GE202 := Aside0.mk ((Nat.le_trans HW0.out (by rw [hg]; exact (keep_size (w := w) (g := g) (row := none) (y18 HK.out GW195.out)) : w.heap.size ≤ gb202) : w0.heap.size ≤ gb202)); replace HK := Aside0.mk (KeepBut.trans (y18 HK.out GW195.out) (KeepBut.of_below hb g none) (.inl rfl)); have NB195_202 := zltn hg BK195; have NB202_195 := zgtn hg BK195; replace BK195 := zbb BK195 hb; have NB0_202 := Aside0.mk ((by rw [hg]; exact Nat.ne_of_lt (IsS95.lt (show IsS95 w0 _ g s0_0 t201 from by repeat (first | (with_reducible first | exact HI0.out | apply IsS95.alloc | apply IsS95.drewN | apply IsS95.drew | apply IsS95.set_1 | refine IsS95.far ?_ NB0_195.out _) | exact HI0.out))) : g ≠ gb202)); have NB202_0 := Aside0.mk ((by rw [hg]; exact Nat.ne_of_gt (IsS95.lt (show IsS95 w0 _ g s0_0 t201 from by repeat (first | (with_reducible first | exact HI0.out | apply IsS95.alloc | apply IsS95.drewN | apply IsS95.drew | apply IsS95.set_1 | refine IsS95.far ?_ NB0_195.out _) | exact HI0.out))) : gb202 ≠ g)); replace HI0 := Aside0.mk (IsS95.below (y24 HI0.out NB0_195.out) hb); clear hb hbox hg; obtain ⟨Ao51, co51, eo51⟩ := Kd.N_slice HO200.out; subst eo51; have hnb52 := NB202_195.out; have hnc52 := NB195_202.out; have hnb53 := NB202_0.out; have hnc53 := NB0_202.out; have hcz54_0 := zh BK202; have hfz54_0 := zfr BK202 0) | ((with_reducible refine gate_callee (f := 58) rfl ?_); refine goesL_ (some 11) rfl rfl Try.func58 (by kernel_rfl) rfl #[.pointer (some ⟨g, 0, none⟩), .int .i64 12] rfl y4 ?_; (with_reducible refine (spec_l6Rd_pick.calls k g s0_0 t201 12 t203 t204 w0 _ ?side1 ?side2 A4.out).mono ?_); (case side1 => exact y15 HI0.out NB0_195.out NB0_202.out); (case side2 => exact y12 HB.out HI0.out GE195.out GE202.out); rintro e w55 ⟨rfl, hi, hb, hk⟩; refine ⟨_, rfl, ?_⟩; replace BK195 := Aside0.mk (KeepBut.blk hk (g' := gb195) (o := .cells #[.slice none 0 0] 30 (0, 0)) (y21 NB195_202.out BK195.out) NB195_0.out (by simp)); replace HO200 := Aside0.mk (Kd.N_mono (Kd.N_keep (Kd.N_mono (ok := fun k_ => ((((w.heap.size ≤ k_)) ∧ (k_ ≠ gb195 ∧ k_ ≠ g)) ∧ k_ ≠ gb202)) (by (with_reducible repeat (first | apply Kd.N_alloc | apply Kd.N_drewN | apply Kd.N_drew)); exact (Kd.N_mono (Kd.N_far (p := ⟨gb202, 0, none⟩) (Kd.N_mono HO200.out (fun k_ hk => (⟨hk, hk.2⟩ : _ ∧ k_ ≠ gb202))) (fun _ hk => hk.2) (.slice Ao51 t198.length co51)) (fun _ h_ => h_.1))) (fun k_ hk_ => (⟨hk_, hk_.1.2.2⟩ : _ ∧ k_ ≠ g))) hk (fun _ h => h.2)) (fun _ h => h.1)); replace BK202 := Aside0.mk (KeepBut.blk hk (g' := gb202) (o := .cells #[.slice Ao51 t198.length co51] 30 (0, 0)) (by (with_reducible repeat (first | refine blk_drewN ?_ _ | refine blk_drew ?_ | refine blk_alloc ?_ _)); apply blk_put (i := 0); (case h => exact y0 BK202.out); (case e => rfl)) NB202_0.out (by simp)); replace HK := Aside0.mk (KeepBut.trans (y11 HK.out GW195.out GW202.out) hk (.inl rfl)); replace HB := Aside0.mk (hb); replace HI0 := Aside0.mk (hi); (try clear hb); (try clear hb2); (try clear hk); (try clear hi); have hcz56_0 := zh BK202; have hfz56_0 := zfr BK202 0; have hnb57 := NB195_0.out; have hnc57 := NB0_195.out; have hcz58_0 := zh BK195; have hfz58_0 := zfr BK195 0))
   refine bodyPost_ret (results_cell_row rfl _ _ gb195 30 #[.slice Ao51 t198.length co51] (0, 0) _ rfl (by (with_reducible repeat (first | refine blk_drewN ?_ _ | refine blk_drew ?_ | refine blk_alloc ?_ _)); apply blk_put (i := 0); (case h => exact y0 BK195.out); (case e => rfl)) Try.underlying30 rfl (by kernel_rfl)) rfl ?_
   exact ⟨_, y14, (by (with_reducible repeat (first | apply Kd.N_alloc | apply Kd.N_drewN | apply Kd.N_drew)); exact Kd.N_mono (Kd.N_far (p := ⟨gb195, 0, none⟩) (Kd.N_mono HO200.out (fun k_ hk => (⟨hk, hk.1.2.1⟩ : _ ∧ k_ ≠ gb195))) (fun _ hk => hk.2) (.slice Ao51 t198.length co51)) (fun _ hk => hk.1.1.1)), (y15 HI0.out NB0_195.out NB0_202.out), (y12 HB.out HI0.out GE195.out GE202.out), (y11 HK.out GW195.out GW202.out)⟩
end Go.Proofs.Ytjhbhihfifhljaa.PA
end
section
namespace Go.Proofs.Ytjhbhihfifhljaa.PA
open Go.RowKit Go.Proofs.YtjhbhihfifhljaaW.PrintWords Go.Proofs.YtjhbhihfifhljaaW.PrintLast Go.Proofs.YtjhbhihfifhljaaW.PrintMore
attribute [local go_sem] max2_int min2_int max_two min_two max_three min_three max_four min_four
set_option linter.unusedVariables false
set_option linter.unusedSimpArgs false
def spec_l6Open.f (l0 : List Int) : Option (List Int × Int) := if (l0.length : Int) > 2000 then (if 2000 ≤ (l0.length : Int) then (some (l0.take 2000, 0)) else (none)) else (some (l0, 0))
set_option maxHeartbeats 8000000 in
set_option maxRecDepth 100000 in
theorem spec_l6Open.calls (A0 : Option Addr) (c0 : Nat) (l0 : List Int) (r1 : List Int) (r2 : Int) (w0 w : World) (hB : Below w0.heap.size w0 w) (hr0 : Kd.C (Kd.int .u8) w0 A0 l0.length l0) (hc0 : l0.length ≤ c0) (h : spec_l6Open.f l0 = some (r1, r2)) :
  Calls Try.prog 52 #[.slice A0 l0.length c0] w fun e w' => ∃ g_ : Nat, e = .returned (.pointer (some ⟨g_, 0, none⟩)) ∧ IsS95 w0 w' g_ r1 r2 ∧ Below w0.heap.size w0 w' ∧ Below w.heap.size w w' := by
 have hu95 := Try.underlying95
 have HR0 := Aside0.mk hr0
 have HC0 := Aside0.mk hc0
 clear hr0 hc0
 have HBW := Aside0.mk (Below.refl w.heap.size w)
 have HW0 := Aside0.mk hB.size
 have HB := Aside0.mk hB
 clear hB
 have H : (if (l0.length : Int) > 2000 then (if 2000 ≤ (l0.length : Int) then (some (l0.take 2000, 0)) else (none)) else (some (l0, 0))) = some (r1, r2) := h
 clear h
 by_cases c2 : (l0.length : Int) > 2000
 ·rw [if_pos c2] at H
  have c2b0 : decide (2000 < (l0.length : Int)) = true := decide_eq_true c2
  have c2b1 : decide (2000 < l0.length) = true := decide_eq_true (by omega)
  clear c2
  by_cases c3 : 2000 ≤ (l0.length : Int)
  ·rw [if_pos c3] at H
   have c3b0 := eq_true c3
   have c3b1 : decide (2000 ≤ (l0.length : Int)) = true := decide_eq_true c3
   clear c3
   simp only [Option.some.injEq, Prod.mk.injEq] at H
   obtain ⟨rfl, rfl⟩ := H
   obtain ⟨i04, hi04, _, hsz4, _⟩ := info_parts info5
   obtain ⟨hcut4, hA4, hC4⟩ := print_take_of (P := Try.prog) (Value.int .u8) 0 34 5 .i64 Try.underlying34 hi04 hsz4 A0 c0 l0 2000 (by omega) (of_decide_eq_true y19) HC0.out
   have HR211 := Aside0.mk (Kd.C_of_reads (h1 := fun _ => rfl) (hA4 _ (Kd.reads_of_C HR0.out)))
   have HC211 := Aside0.mk hC4
   clear hA4 hC4 hi04 hsz4
   go_enter Try.func52, Try.ntmps52
   go_wp2_with (first | ((with_reducible refine gate_dst (N := 10) rfl ?_); refine zbx 10 #[.slice A0 (l0.take 2000).length c0, .int .i64 0] 95 ?_; intro gb212 hg w5 hbox hb; replace HB := Aside0.mk (below_step (y2 HB.out) hb); have BK212 := Aside0.mk hbox; have GW212 := Aside0.mk ((y5 hg HBW.out : w.heap.size ≤ gb212)); have GE212 := Aside0.mk ((Nat.le_trans HW0.out (y5 hg HBW.out : w.heap.size ≤ gb212) : w0.heap.size ≤ gb212)); replace HBW := Aside0.mk (below_step HBW.out hb); clear hb hbox hg))
   go_ret
   exact ⟨_, rfl, (show IsS95 w0 _ gb212 (l0.take 2000) 0 from ⟨_, _, (y0 BK212.out), GE212.out, HR211.out⟩), (y3 HB.out GE212.out), (y3 HBW.out GW212.out)⟩
  ·rw [if_neg c3] at H
   exact absurd H (by simp)
 ·rw [if_neg c2] at H
  have c2b0 : decide (2000 < (l0.length : Int)) = false := decide_eq_false c2
  have c2b1 : decide (2000 < l0.length) = false := decide_eq_false (by omega)
  clear c2
  simp only [Option.some.injEq, Prod.mk.injEq] at H
  obtain ⟨rfl, rfl⟩ := H
  go_enter Try.func52, Try.ntmps52
  go_wp2_with (first | ((with_reducible refine gate_dst (N := 10) rfl ?_); refine zbx 10 #[.slice A0 l0.length c0, .int .i64 0] 95 ?_; intro gb213 hg w6 hbox hb; replace HB := Aside0.mk (below_step (y2 HB.out) hb); have BK213 := Aside0.mk hbox; have GW213 := Aside0.mk ((y5 hg HBW.out : w.heap.size ≤ gb213)); have GE213 := Aside0.mk ((Nat.le_trans HW0.out (y5 hg HBW.out : w.heap.size ≤ gb213) : w0.heap.size ≤ gb213)); replace HBW := Aside0.mk (below_step HBW.out hb); clear hb hbox hg))
  go_ret
  exact ⟨_, rfl, (show IsS95 w0 _ gb213 l0 0 from ⟨_, _, (y0 BK213.out), GE213.out, HR0.out⟩), (y3 HB.out GE213.out), (y3 HBW.out GW213.out)⟩
end Go.Proofs.Ytjhbhihfifhljaa.PA
end
section
namespace Go.Proofs.Ytjhbhihfifhljaa.PA
open Go.RowKit Go.Proofs.YtjhbhihfifhljaaW.PrintWords Go.Proofs.YtjhbhihfifhljaaW.PrintLast Go.Proofs.YtjhbhihfifhljaaW.PrintMore
attribute [local go_sem] max2_int min2_int max_two min_two max_three min_three max_four min_four
set_option linter.unusedVariables false
set_option linter.unusedSimpArgs false
def spec_DrawTypeOk.f (k : Nat) (l0 : List Int) : Option ((List (S30))) := (spec_l6Open.f l0).bind fun bt215 => ((spec_l71Deep.f k bt215.1 bt215.2).bind fun bt218 => (some bt218.1))
theorem spec_DrawTypeOk.mono : ∀ a0 k, LeO (spec_DrawTypeOk.f k a0) (spec_DrawTypeOk.f (k + 1) a0) := by
 intro a0 k
 unfold spec_DrawTypeOk.f
 repeat' first
   | (with_reducible exact spec_l71Deep.mono _ _ _)
   | (with_reducible exact LeO.refl _)
   | (with_reducible exact LeO.none _)
   | (with_reducible refine LeO.ite ?_ ?_)
   | (with_reducible refine LeO.bind ?_ (fun _ => ?_))
   | exact spec_l71Deep.mono _ _ _
   | exact LeO.none _
   | refine LeO.ite ?_ ?_
   | refine LeO.bind ?_ (fun _ => ?_)
set_option maxHeartbeats 8000000 in
set_option maxRecDepth 100000 in
theorem spec_DrawTypeOk.calls (k : Nat) (A0 : Option Addr) (c0 : Nat) (l0 : List Int) (r : List (S30)) (w : World) (hr0 : Kd.C (Kd.int .u8) w A0 l0.length l0) (hc0 : l0.length ≤ c0) (h : spec_DrawTypeOk.f k l0 = some r) :
  Calls Try.prog 20 #[.slice A0 l0.length c0] w fun e w' => ∃ v0_ : Value, e = .returned (.agg #[v0_]) ∧ Kd.N k30 30 w' w.heap.size (fun k_ => (w.heap.size ≤ k_)) v0_ r ∧ Below w.heap.size w w' := by
 have hu30 := Try.underlying30
 have HR0 := Aside0.mk hr0
 have HC0 := Aside0.mk hc0
 clear hr0 hc0
 have HB := Aside0.mk (Below.refl w.heap.size w)
 have H : ((spec_l6Open.f l0).bind fun bt215 => ((spec_l71Deep.f k bt215.1 bt215.2).bind fun bt218 => (some bt218.1))) = some r := h
 clear h
 obtain ⟨⟨t215, t216⟩, A20, H⟩ := ob H
 have A2 := Aside0.mk A20
 clear A20
 obtain ⟨⟨t218, t221⟩, A30, H⟩ := ob H
 have A3 := Aside0.mk A30
 clear A30
 obtain rfl := Option.some.inj H
 go_enter Try.func20, Try.ntmps20
 go_wp2_with (first | ((with_reducible refine gate_dst (N := 2) rfl ?_); refine zbx 2 #[.slice none 0 0] 30 ?_; intro gb214 hg w4 hbox hb; have BK214 := Aside0.mk hbox; have GW214 := Aside0.mk ((y5 hg HB.out : w.heap.size ≤ gb214)); have GE214 := Aside0.mk ((y5 hg HB.out : w.heap.size ≤ gb214)); replace HB := Aside0.mk (below_step (y2 HB.out) hb); clear hb hbox hg) | ((with_reducible refine gate_callee (f := 52) rfl ?_); refine goesL_ (some 4) rfl rfl Try.func52 (by kernel_rfl) rfl #[.slice A0 l0.length c0] rfl y4 ?_; (with_reducible refine (spec_l6Open.calls _ _ l0 t215 t216 w _ ?side1 ?side2 ?side3 A2.out).mono ?_); (case side1 => exact y3 HB.out GE214.out); (case side2 => exact HR0.out); (case side3 => exact HC0.out); rintro e w5 ⟨g217, rfl, hi, hb, hb2⟩; refine ⟨_, rfl, ?_⟩; replace HB := Aside0.mk (hb); have HI217 := Aside0.mk (hi); have NB217_214 := Aside0.mk (IsS95.ne_blk hi (blk_below (g := gb214) (o := .cells #[.slice none 0 0] 30 (0, 0)) (y0 BK214.out) hb2) (by decide)); have NB214_217 := Aside0.mk (Ne.symm (IsS95.ne_blk hi (blk_below (g := gb214) (o := .cells #[.slice none 0 0] 30 (0, 0)) (y0 BK214.out) hb2) (by decide))); replace BK214 := Aside0.mk (blk_below (g := gb214) (o := .cells #[.slice none 0 0] 30 (0, 0)) (y0 BK214.out) hb2); (try clear hb); (try clear hb2); (try clear hk); (try clear hi)) | ((with_reducible refine gate_callee (f := 51) rfl ?_); refine goesL_ (some 5) rfl rfl Try.func51 (by kernel_rfl) rfl #[.pointer (some ⟨g217, 0, none⟩)] rfl y4 ?_; (with_reducible refine (spec_l71Deep.calls k g217 t215 t216 t218 t221 w _ ?side1 ?side2 A3.out).mono ?_); (case side1 => exact y24 HI217.out NB217_214.out); (case side2 => exact y23 HB.out HI217.out GE214.out); rintro e w6 ⟨v219, rfl, ho0, hi, hb, hk⟩; refine ⟨_, rfl, ?_⟩; have HO220 := Aside0.mk (Kd.N_lower (Kd.N_mono (ok' := fun k_ => (w.heap.size ≤ k_) ∧ k_ ≠ gb214 ∧ k_ ≠ g217) ho0 (fun k_ hk_ => ⟨(Nat.le_trans (below_size (y23 HB.out HI217.out GE214.out)) hk_), (Kd.freshB (g := gb214) (o := .cells #[.slice none 0 0] 30 (0, 0)) (y0 BK214.out) k_ hk_), (IsS95.fresh (y24 HI217.out NB217_214.out) k_ hk_)⟩)) (below_size (y23 HB.out HI217.out GE214.out))); replace BK214 := Aside0.mk (KeepBut.blk hk (g' := gb214) (o := .cells #[.slice none 0 0] 30 (0, 0)) (y0 BK214.out) NB214_217.out (by simp)); replace HB := Aside0.mk (hb); replace HI217 := Aside0.mk (hi); (try clear hb); (try clear hb2); (try clear hk); (try clear hi); (try clear ho0); obtain ⟨Ao7, co7, eo7⟩ := Kd.N_slice HO220.out; subst eo7; have hnb8 := NB214_217.out; have hnc8 := NB217_214.out; have hcz9_0 := zh BK214; have hfz9_0 := zfr BK214 0))
 refine bodyPost_ret (results_cell_row rfl _ _ gb214 30 #[.slice Ao7 t218.length co7] (0, 0) _ rfl (by (with_reducible repeat (first | refine blk_drewN ?_ _ | refine blk_drew ?_ | refine blk_alloc ?_ _)); apply blk_put (i := 0); (case h => exact y0 BK214.out); (case e => rfl)) Try.underlying30 rfl (by kernel_rfl)) rfl ?_
 exact ⟨_, y14, (by (with_reducible repeat (first | apply Kd.N_alloc | apply Kd.N_drewN | apply Kd.N_drew)); exact Kd.N_mono (Kd.N_far (p := ⟨gb214, 0, none⟩) (Kd.N_mono HO220.out (fun k_ hk => (⟨hk, hk.2.1⟩ : _ ∧ k_ ≠ gb214))) (fun _ hk => hk.2) (.slice Ao7 t218.length co7)) (fun _ hk => hk.1.1)), (y23 HB.out HI217.out GE214.out)⟩
end Go.Proofs.Ytjhbhihfifhljaa.PA
end
section
namespace Go.Proofs.Ytjhbhihfifhljaa.PA
open Go.RowKit Go.Proofs.YtjhbhihfifhljaaW.PrintWords Go.Proofs.YtjhbhihfifhljaaW.PrintLast Go.Proofs.YtjhbhihfifhljaaW.PrintMore
attribute [local go_sem] max2_int min2_int max_two min_two max_three min_three max_four min_four
set_option linter.unusedVariables false
set_option linter.unusedSimpArgs false
def impl_typeIsNum.f (l0_0 : List (S30)) : Option (Bool) := some ((l0_0.length : Int) == 0)
set_option maxHeartbeats 8000000 in
set_option maxRecDepth 100000 in
theorem impl_typeIsNum.calls (A0_0 : Option Addr) (c0_0 : Nat) (l0_0 : List (S30)) (r : Bool) (w : World) (hr0_0 : Kd.C k30 w A0_0 l0_0.length l0_0) (hc0_0 : l0_0.length ≤ c0_0) (h : impl_typeIsNum.f l0_0 = some r) :
  Calls Try.prog 80 #[.agg #[.slice A0_0 l0_0.length c0_0]] w fun e w' => e = .returned (.bool r) ∧ Below w.heap.size w w' := by
 have hu30 := Try.underlying30
 have HR0_0 := Aside0.mk hr0_0
 have HC0_0 := Aside0.mk hc0_0
 clear hr0_0 hc0_0
 have HB := Aside0.mk (Below.refl w.heap.size w)
 have H : (some ((l0_0.length : Int) == 0)) = some r := h
 clear h
 obtain rfl := Option.some.inj H
 go_enter Try.func80, Try.ntmps80
 go_wp2_with (first | ((with_reducible refine gate_dst (N := 1) rfl ?_); refine zbx 1 #[.slice A0_0 l0_0.length c0_0] 30 ?_; intro gb313 hg w2 hbox hb; have BK313 := Aside0.mk hbox; have GW313 := Aside0.mk ((y5 hg HB.out : w.heap.size ≤ gb313)); have GE313 := Aside0.mk ((y5 hg HB.out : w.heap.size ≤ gb313)); replace HB := Aside0.mk (below_step (y2 HB.out) hb); clear hb hbox hg; have hcz3_0 := zh BK313; have hfz3_0 := zfr BK313 0))
 go_ret
 exact ⟨y14, (y3 HB.out GE313.out)⟩
end Go.Proofs.Ytjhbhihfifhljaa.PA
end
section
namespace Go.Proofs.Ytjhbhihfifhljaa.PA
open Go.RowKit Go.Proofs.YtjhbhihfifhljaaW.PrintWords Go.Proofs.YtjhbhihfifhljaaW.PrintLast Go.Proofs.YtjhbhihfifhljaaW.PrintMore
attribute [local go_sem] max2_int min2_int max_two min_two max_three min_three max_four min_four
set_option linter.unusedVariables false
set_option linter.unusedSimpArgs false
def impl_typeWords.f : Nat → List (S30) → Option (ByteArray)
 | 0, _ => none
 | k + 1, l0_0 => (impl_typeIsNum.f l0_0).bind fun t315 => (if t315 = true then (some (⟨#[105]⟩ : ByteArray)) else (if 0 < (l0_0.length : Int) then ((impl_typeWords.f k ((rd_T30 l0_0 0).f0)).bind fun t317 => (if 1 + t317.size ≤ 9223372036854775807 then (if 1 + t317.size + 1 ≤ 9223372036854775807 then (if 1 < (l0_0.length : Int) then ((impl_typeWords.f k ((rd_T30 l0_0 1).f0)).bind fun t319 => (if 1 + t317.size + 1 + t319.size ≤ 9223372036854775807 then (if 1 + t317.size + 1 + t319.size + 1 ≤ 9223372036854775807 then (some (((((⟨#[40]⟩ : ByteArray) ++ t317) ++ (⟨#[44]⟩ : ByteArray)) ++ t319) ++ (⟨#[41]⟩ : ByteArray))) else (none)) else (none))) else (none)) else (none)) else (none))) else (none)))
theorem impl_typeWords.mono_l : ∀ k, (∀ y0, LeO (impl_typeWords.f k y0) (impl_typeWords.f (k + 1) y0))
 | 0 => fun _ r h => by simp [impl_typeWords.f] at h
 | k + 1 => by
  have ih0 := impl_typeWords.mono_l k
  ·intro y0
   unfold impl_typeWords.f
   repeat' first
   | (with_reducible exact ih0 _)
   | (with_reducible exact LeO.refl _)
   | (with_reducible exact LeO.none _)
   | (with_reducible refine LeO.ite ?_ ?_)
   | (with_reducible refine LeO.bind ?_ (fun _ => ?_))
   | exact ih0 _
   | exact LeO.none _
   | refine LeO.ite ?_ ?_
   | refine LeO.bind ?_ (fun _ => ?_)
theorem impl_typeWords.mono : ∀ a0 k, LeO (impl_typeWords.f k a0) (impl_typeWords.f (k + 1) a0) := by
 intro a0 k
 have ih0 := impl_typeWords.mono_l k
 exact ih0 a0
def impl_typeWords.T3 : Bool × List (List Nat × List Nat) := (true, [([], []), ([0], [0]), ([1], [1]), ([2], [2]), ([3], [3]), ([4], [4]), ([5], [5]), ([], []), ([7], [7]), ([8], [8]), ([9], [9]), ([10, 4], [10]), ([6, 11], [6, 11]), ([12], [12]), ([13, 11, 0, 1, 2, 3, 4, 5, 6, 7, 8, 9, 10, 11, 12, 13], [13])])
def impl_typeWords.B3 : List Nat := [0, 1, 3, 7, 15, 31, 63, 0, 128, 384, 896, 1951, 4095, 8191, 16383]
theorem impl_typeWords.tab3 : rtab .any (opsOf Try.f56 3) = impl_typeWords.T3 := by kernel_rfl
theorem impl_typeWords.bits3 : waitsOk impl_typeWords.T3.2 impl_typeWords.B3 = true := by kernel_rfl
set_option maxHeartbeats 8000000 in
set_option maxRecDepth 100000 in
theorem impl_typeWords.calls (k : Nat) : ∀ (A0_0 : Option Addr) (c0_0 : Nat) (l0_0 : List (S30)) (r : ByteArray) (w : World) (hr0_0 : Kd.C k30 w A0_0 l0_0.length l0_0) (hc0_0 : l0_0.length ≤ c0_0) (h : impl_typeWords.f k l0_0 = some r),
  Calls Try.prog 56 #[.agg #[.slice A0_0 l0_0.length c0_0]] w fun e w' => e = .returned (.string r) ∧ Below w.heap.size w w' := by
 induction k using Nat.strongRecOn with
 | _ k ih =>
 intro A0_0 c0_0 l0_0 r w hr0_0 hc0_0 h
 cases k with
 | zero => exact absurd h (by simp [impl_typeWords.f])
 | succ k =>
 simp only [impl_typeWords.f] at h
 have hu30 := Try.underlying30
 have HR0_0 := Aside0.mk hr0_0
 have HC0_0 := Aside0.mk hc0_0
 clear hr0_0 hc0_0
 have HB := Aside0.mk (Below.refl w.heap.size w)
 have H : ((impl_typeIsNum.f l0_0).bind fun t315 => (if t315 = true then (some (⟨#[105]⟩ : ByteArray)) else (if 0 < (l0_0.length : Int) then ((impl_typeWords.f k ((rd_T30 l0_0 0).f0)).bind fun t317 => (if 1 + t317.size ≤ 9223372036854775807 then (if 1 + t317.size + 1 ≤ 9223372036854775807 then (if 1 < (l0_0.length : Int) then ((impl_typeWords.f k ((rd_T30 l0_0 1).f0)).bind fun t319 => (if 1 + t317.size + 1 + t319.size ≤ 9223372036854775807 then (if 1 + t317.size + 1 + t319.size + 1 ≤ 9223372036854775807 then (some (((((⟨#[40]⟩ : ByteArray) ++ t317) ++ (⟨#[44]⟩ : ByteArray)) ++ t319) ++ (⟨#[41]⟩ : ByteArray))) else (none)) else (none))) else (none)) else (none)) else (none))) else (none)))) = some r := h
 clear h
 obtain ⟨t315, A20, H⟩ := ob H
 have A2 := Aside0.mk A20
 clear A20
 by_cases c3 : t315 = true
 ·subst c3
  rw [if_pos rfl] at H
  obtain rfl := Option.some.inj H
  go_enter Try.func56, Try.ntmps56
  go_wp2_with (first | ((with_reducible refine gate_dst (N := 1) rfl ?_); refine zbx 1 #[.slice A0_0 l0_0.length c0_0] 30 ?_; intro gb314 hg w4 hbox hb; have BK314 := Aside0.mk hbox; have GW314 := Aside0.mk ((y5 hg HB.out : w.heap.size ≤ gb314)); have GE314 := Aside0.mk ((y5 hg HB.out : w.heap.size ≤ gb314)); replace HB := Aside0.mk (below_step (y2 HB.out) hb); clear hb hbox hg; have hcz5_0 := zh BK314; have hfz5_0 := zfr BK314 0) | ((with_reducible refine gate_callee (f := 80) rfl ?_); refine goesL_ (some 4) rfl rfl Try.func80 (by kernel_rfl) rfl #[.agg #[.slice A0_0 l0_0.length c0_0]] rfl y4 ?_; (with_reducible refine (impl_typeIsNum.calls _ _ l0_0 true _ ?side1 ?side2 A2.out).mono ?_); (case side1 => exact y8 HR0_0.out HB.out); (case side2 => exact HC0_0.out); rintro e w6 ⟨rfl, hb⟩; refine ⟨_, rfl, ?_⟩; replace BK314 := zbb BK314 hb; replace HB := Aside0.mk (below_step (y3 HB.out GE314.out) hb); (try clear hb); (try clear hb2); (try clear hk); (try clear hi)))
  go_ret
  exact ⟨y14, (y3 HB.out GE314.out)⟩
 ·replace c3 := Bool.eq_false_iff.mpr c3
  subst c3
  rw [if_neg (show ¬ (false = true) by decide)] at H
  by_cases c7 : 0 < (l0_0.length : Int)
  ·rw [if_pos c7] at H
   have c7b0 : decide (0 < (l0_0.length : Int)) = true := decide_eq_true c7
   have c7b1 : decide (0 < l0_0.length) = true := decide_eq_true (by omega)
   clear c7
   obtain ⟨t317, A80, H⟩ := ob H
   have A8 := Aside0.mk A80
   clear A80
   by_cases c9 : 1 + t317.size ≤ 9223372036854775807
   ·rw [if_pos c9] at H
    have c9b0 := eq_true c9
    have c9b1 : decide (1 + t317.size ≤ 9223372036854775807) = true := decide_eq_true c9
    try have c9b2 : (9223372036854775807 < 1 + t317.size) = False := eq_false (Nat.not_lt.2 c9)
    by_cases c10 : 1 + t317.size + 1 ≤ 9223372036854775807
    ·rw [if_pos c10] at H
     have c10b0 := eq_true c10
     have c10b1 : decide (1 + t317.size + 1 ≤ 9223372036854775807) = true := decide_eq_true c10
     try have c10b2 : (9223372036854775807 < 1 + t317.size + 1) = False := eq_false (Nat.not_lt.2 c10)
     by_cases c11 : 1 < (l0_0.length : Int)
     ·rw [if_pos c11] at H
      have c11b0 : decide (1 < (l0_0.length : Int)) = true := decide_eq_true c11
      have c11b1 : decide (1 < l0_0.length) = true := decide_eq_true (by omega)
      clear c11
      obtain ⟨t319, A120, H⟩ := ob H
      have A12 := Aside0.mk A120
      clear A120
      by_cases c13 : 1 + t317.size + 1 + t319.size ≤ 9223372036854775807
      ·rw [if_pos c13] at H
       have c13b0 := eq_true c13
       have c13b1 : decide (1 + t317.size + 1 + t319.size ≤ 9223372036854775807) = true := decide_eq_true c13
       try have c13b2 : (9223372036854775807 < 1 + t317.size + 1 + t319.size) = False := eq_false (Nat.not_lt.2 c13)
       by_cases c14 : 1 + t317.size + 1 + t319.size + 1 ≤ 9223372036854775807
       ·rw [if_pos c14] at H
        have c14b0 := eq_true c14
        have c14b1 : decide (1 + t317.size + 1 + t319.size + 1 ≤ 9223372036854775807) = true := decide_eq_true c14
        try have c14b2 : (9223372036854775807 < 1 + t317.size + 1 + t319.size + 1) = False := eq_false (Nat.not_lt.2 c14)
        obtain rfl := Option.some.inj H
        go_enter Try.func56, Try.ntmps56
        try go_wp2_with (first | ((with_reducible refine gate_dst (N := 1) rfl ?_); refine zbx 1 #[.slice A0_0 l0_0.length c0_0] 30 ?_; intro gb314 hg w15 hbox hb; have BK314 := Aside0.mk hbox; have GW314 := Aside0.mk ((y5 hg HB.out : w.heap.size ≤ gb314)); have GE314 := Aside0.mk ((y5 hg HB.out : w.heap.size ≤ gb314)); replace HB := Aside0.mk (below_step (y2 HB.out) hb); clear hb hbox hg; have hcz16_0 := zh BK314; have hfz16_0 := zfr BK314 0) | ((with_reducible refine gate_callee (f := 80) rfl ?_); refine goesL_ (some 4) rfl rfl Try.func80 (by kernel_rfl) rfl #[.agg #[.slice A0_0 l0_0.length c0_0]] rfl y4 ?_; (with_reducible refine (impl_typeIsNum.calls _ _ l0_0 false _ ?side1 ?side2 A2.out).mono ?_); (case side1 => exact y8 HR0_0.out HB.out); (case side2 => exact HC0_0.out); rintro e w17 ⟨rfl, hb⟩; refine ⟨_, rfl, ?_⟩; replace BK314 := zbb BK314 hb; replace HB := Aside0.mk (below_step (y3 HB.out GE314.out) hb); (try clear hb); (try clear hb2); (try clear hk); (try clear hi)))
        replace BK314 := Aside0.mk (blk_drew BK314.out)
        replace HB := Aside0.mk (below_drew1 HB.out)
        have p316 : 0 ≤ (0 : Int) := (by omega)
        have q316 : 0 < (l0_0.length : Int) := of_decide_eq_true y19
        obtain ⟨ad316, A316_0, c316_0, e316, hx316_0, hl316_0, hi316_0⟩ := at_T30 HR0_0.out 0 p316 q316
        have hw316_0 := hx316_0
        (try rw [show ((0 : Int)).toNat = 0 from rfl] at hw316_0)
        (try rw [show 0 * 1 = 0 from rfl] at hw316_0)
        (try rw [Addr.add_zero'] at hw316_0)
        cases e316
        have qi316 : (0 < l0_0.length) = True := eq_true (by omega)
        (try rw [show ((0 : Int)).toNat = 0 from rfl] at hx316_0)
        (try rw [Addr.add_zero'] at hx316_0)
        replace hx316_0 := (HB.out.cell (World.block_lt_of_cell? w _ hx316_0)).trans hx316_0
        have HR316_0 := Aside0.mk hi316_0
        have HC316_0 := Aside0.mk hl316_0
        clear hi316_0 hl316_0
        replace p316 := eq_true p316
        replace q316 := eq_true q316
        have p318 : 0 ≤ (1 : Int) := (by omega)
        have q318 : 1 < (l0_0.length : Int) := of_decide_eq_true y19
        obtain ⟨ad318, A318_0, c318_0, e318, hx318_0, hl318_0, hi318_0⟩ := at_T30 HR0_0.out 1 p318 q318
        have hw318_0 := hx318_0
        (try rw [show ((1 : Int)).toNat = 1 from rfl] at hw318_0)
        (try rw [show 1 * 1 = 1 from rfl] at hw318_0)
        (try simp only [Nat.reduceMul, Nat.reduceEqDiff, Go.Addr.add, ↓reduceIte] at hw318_0)
        obtain rfl : ad316 = ad318 := (by injection e318)
        (try simp only [show (1 : Int).toNat = 1 from rfl, Nat.reduceMul, Nat.reduceEqDiff, Go.Addr.add, ↓reduceIte] at hx318_0)
        have qi318 : (1 < l0_0.length) = True := eq_true (by omega)
        (try rw [show ((1 : Int)).toNat = 1 from rfl] at hx318_0)
        replace hx318_0 := (HB.out.cell (World.block_lt_of_cell? w _ hx318_0)).trans hx318_0
        have HR318_0 := Aside0.mk hi318_0
        have HC318_0 := Aside0.mk hl318_0
        clear hi318_0 hl318_0
        replace p318 := eq_true p318
        replace q318 := eq_true q318
        refine start_ (n := 15) (S := fun w' => w'.cell? ⟨gb314, 0, none⟩ = some (.slice (some ad316) l0_0.length c0_0) ∧ w'.cell? ad316 = some (.slice A316_0 ((rd_T30 l0_0 0).f0).length c316_0) ∧ w'.cell? ⟨ad316.block, ad316.off + 1, none⟩ = some (.slice A318_0 ((rd_T30 l0_0 1).f0).length c318_0)) (ds := []) #[false, false, false, false, false, false, false, false, false, false, false, false, false, false, false] (by kernel_rfl) rfl rfl ⟨(blk_cell BK314.out 0).trans rfl, ((HB.out.cell (World.block_lt_of_cell? w _ hw316_0)).trans hw316_0), ((HB.out.cell (World.block_lt_of_cell? w _ hw318_0)).trans hw318_0)⟩ (fun hHeld => ?_); refine with_tabW impl_typeWords.tab3 impl_typeWords.bits3 (fun HT_ HW_ => ?_)
        generalize w17.drew = w18 at BK314 HB HR316_0 HR318_0 hx316_0 hx318_0 hHeld ⊢
        refine zp 0 (some 5) HT_ ?_
        refine zp 7 (some 12) HT_ ?_
        refine zt3 1 (some 6) HT_ HW_ hHeld ?_
        refine zp 2 (some 7) HT_ ?_
        refine zt3 3 (some 8) HT_ HW_ hHeld ?_
        refine zt3 8 (some 13) HT_ HW_ hHeld ?_
        refine zp 9 (some 14) HT_ ?_
        refine zt3 10 (some 15) HT_ HW_ hHeld ?_
        refine one_ (i := 4) (N := some 9) #[true, true, true, true, true, false, false, true, true, true, true, false, false, false, false] rfl rfl (one_of HT_.out (by kernel_rfl)) (by decide) (fun K hK => ?_)
        refine goes_ Try.func56 (by kernel_rfl) rfl #[.agg #[.slice A316_0 ((rd_T30 l0_0 0).f0).length c316_0]] (by rfl) rfl rfl y4 ?_
        with_reducible refine (ih k (by omega) _ _ ((rd_T30 l0_0 0).f0) t317 _ ?side1 ?side2 A8.out).mono ?_
        (case side1 => exact y8 HR316_0.out HB.out)
        (case side2 => exact HC316_0.out)
        rintro e w19 ⟨rfl, hb⟩
        refine ⟨_, rfl, ?_⟩
        replace BK314 := zbb BK314 hb
        replace HB := Aside0.mk (below_step (y3 HB.out GE314.out) hb)
        (try clear hb)
        (try clear hb2)
        (try clear hk)
        (try clear hi)
        refine hK.out _ _ ⟨(blk_cell BK314.out 0).trans rfl, ((HB.out.cell (World.block_lt_of_cell? w _ hw316_0)).trans hw316_0), ((HB.out.cell (World.block_lt_of_cell? w _ hw318_0)).trans hw318_0)⟩ (fun hHeld => ?_)
        clear hK K
        refine norm_ (a' := ?_) ?_ ?_
        rotate_left
        ·show Act.put _ (some 9) _ = _
         simp only [Act.put, List.setIfInBounds_toArray, List.set_cons_zero, List.set_cons_succ, i64_w, i32_w]
         rfl
        refine zp 5 (some 10) HT_ ?_
        refine zp 6 (some 11) HT_ ?_
        refine one_ (i := 11) (N := some 16) #[true, true, true, true, true, true, true, true, true, true, true, true, false, false, false] rfl rfl (one_of HT_.out (by kernel_rfl)) (by decide) (fun K hK => ?_)
        refine goes_ Try.func56 (by kernel_rfl) rfl #[.agg #[.slice A318_0 ((rd_T30 l0_0 1).f0).length c318_0]] (by rfl) rfl rfl y4 ?_
        with_reducible refine (ih k (by omega) _ _ ((rd_T30 l0_0 1).f0) t319 _ ?side1 ?side2 A12.out).mono ?_
        (case side1 => exact y8 HR318_0.out HB.out)
        (case side2 => exact HC318_0.out)
        rintro e w20 ⟨rfl, hb⟩
        refine ⟨_, rfl, ?_⟩
        replace BK314 := zbb BK314 hb
        replace HB := Aside0.mk (below_step (y3 HB.out GE314.out) hb)
        (try clear hb)
        (try clear hb2)
        (try clear hk)
        (try clear hi)
        refine hK.out _ _ ⟨(blk_cell BK314.out 0).trans rfl, ((HB.out.cell (World.block_lt_of_cell? w _ hw316_0)).trans hw316_0), ((HB.out.cell (World.block_lt_of_cell? w _ hw318_0)).trans hw318_0)⟩ (fun hHeld => ?_)
        clear hK K
        refine norm_ (a' := ?_) ?_ ?_
        rotate_left
        ·show Act.put _ (some 16) _ = _
         simp only [Act.put, List.setIfInBounds_toArray, List.set_cons_zero, List.set_cons_succ, i64_w, i32_w]
         rfl
        refine zp 12 (some 17) HT_ ?_
        refine zp 13 (some 18) HT_ ?_
        refine zp 14 (some 2) HT_ ?_
        refine done_ (done_of HT_.out (by kernel_rfl)) ?_
        try go_wp2
        go_ret
        exact ⟨y14, (y3 HB.out GE314.out)⟩
       ·rw [if_neg c14] at H
        exact absurd H (by simp)
      ·rw [if_neg c13] at H
       exact absurd H (by simp)
     ·rw [if_neg c11] at H
      exact absurd H (by simp)
    ·rw [if_neg c10] at H
     exact absurd H (by simp)
   ·rw [if_neg c9] at H
    exact absurd H (by simp)
  ·rw [if_neg c7] at H
   exact absurd H (by simp)
end Go.Proofs.Ytjhbhihfifhljaa.PA
end
section
namespace Go.Proofs.Ytjhbhihfifhljaa.PA
open Go.RowKit Go.Proofs.YtjhbhihfifhljaaW.PrintWords Go.Proofs.YtjhbhihfifhljaaW.PrintLast Go.Proofs.YtjhbhihfifhljaaW.PrintMore
attribute [local go_sem] max2_int min2_int max_two min_two max_three min_three max_four min_four
set_option linter.unusedVariables false
set_option linter.unusedSimpArgs false
def impl_TypeText.f (k : Nat) (l0_0 : List (S30)) : Option (ByteArray) := (impl_TypeOk.f k l0_0).bind fun t321 => (if t321 = true then ((impl_typeWords.f k l0_0).bind fun t322 => (some t322)) else (some (⟨#[]⟩ : ByteArray)))
theorem impl_TypeText.mono : ∀ a0 k, LeO (impl_TypeText.f k a0) (impl_TypeText.f (k + 1) a0) := by
 intro a0 k
 unfold impl_TypeText.f
 repeat' first
   | (with_reducible exact impl_TypeOk.mono _ _)
   | (with_reducible exact impl_typeWords.mono _ _)
   | (with_reducible exact LeO.refl _)
   | (with_reducible exact LeO.none _)
   | (with_reducible refine LeO.ite ?_ ?_)
   | (with_reducible refine LeO.bind ?_ (fun _ => ?_))
   | exact impl_TypeOk.mono _ _
   | exact impl_typeWords.mono _ _
   | exact LeO.none _
   | refine LeO.ite ?_ ?_
   | refine LeO.bind ?_ (fun _ => ?_)
set_option maxHeartbeats 8000000 in
set_option maxRecDepth 100000 in
theorem impl_TypeText.calls (k : Nat) (A0_0 : Option Addr) (c0_0 : Nat) (l0_0 : List (S30)) (r : ByteArray) (w : World) (hr0_0 : Kd.C k30 w A0_0 l0_0.length l0_0) (hc0_0 : l0_0.length ≤ c0_0) (h : impl_TypeText.f k l0_0 = some r) :
  Calls Try.prog 23 #[.agg #[.slice A0_0 l0_0.length c0_0]] w fun e w' => e = .returned (.string r) ∧ Below w.heap.size w w' := by
 have hu30 := Try.underlying30
 have HR0_0 := Aside0.mk hr0_0
 have HC0_0 := Aside0.mk hc0_0
 clear hr0_0 hc0_0
 have HB := Aside0.mk (Below.refl w.heap.size w)
 have H : ((impl_TypeOk.f k l0_0).bind fun t321 => (if t321 = true then ((impl_typeWords.f k l0_0).bind fun t322 => (some t322)) else (some (⟨#[]⟩ : ByteArray)))) = some r := h
 clear h
 obtain ⟨t321, A20, H⟩ := ob H
 have A2 := Aside0.mk A20
 clear A20
 by_cases c3 : t321 = true
 ·subst c3
  rw [if_pos rfl] at H
  obtain ⟨t322, A40, H⟩ := ob H
  have A4 := Aside0.mk A40
  clear A40
  obtain rfl := Option.some.inj H
  go_enter Try.func23, Try.ntmps23
  go_wp2_with (first | ((with_reducible refine gate_dst (N := 1) rfl ?_); refine zbx 1 #[.slice A0_0 l0_0.length c0_0] 30 ?_; intro gb320 hg w5 hbox hb; have BK320 := Aside0.mk hbox; have GW320 := Aside0.mk ((y5 hg HB.out : w.heap.size ≤ gb320)); have GE320 := Aside0.mk ((y5 hg HB.out : w.heap.size ≤ gb320)); replace HB := Aside0.mk (below_step (y2 HB.out) hb); clear hb hbox hg; have hcz6_0 := zh BK320; have hfz6_0 := zfr BK320 0) | ((with_reducible refine gate_callee (f := 18) rfl ?_); refine goesL_ (some 4) rfl rfl Try.func18 (by kernel_rfl) rfl #[.agg #[.slice A0_0 l0_0.length c0_0]] rfl y4 ?_; (with_reducible refine (impl_TypeOk.calls k _ _ l0_0 true _ ?side1 ?side2 A2.out).mono ?_); (case side1 => exact y8 HR0_0.out HB.out); (case side2 => exact HC0_0.out); rintro e w7 ⟨rfl, hb⟩; refine ⟨_, rfl, ?_⟩; replace BK320 := zbb BK320 hb; replace HB := Aside0.mk (below_step (y3 HB.out GE320.out) hb); (try clear hb); (try clear hb2); (try clear hk); (try clear hi); have hcz8_0 := zh BK320; have hfz8_0 := zfr BK320 0) | ((with_reducible refine gate_callee (f := 56) rfl ?_); refine goesL_ (some 7) rfl rfl Try.func56 (by kernel_rfl) rfl #[.agg #[.slice A0_0 l0_0.length c0_0]] rfl y4 ?_; (with_reducible refine (impl_typeWords.calls k _ _ l0_0 t322 _ ?side1 ?side2 A4.out).mono ?_); (case side1 => exact y8 HR0_0.out HB.out); (case side2 => exact HC0_0.out); rintro e w9 ⟨rfl, hb⟩; refine ⟨_, rfl, ?_⟩; replace BK320 := zbb BK320 hb; replace HB := Aside0.mk (below_step (y3 HB.out GE320.out) hb); (try clear hb); (try clear hb2); (try clear hk); (try clear hi)))
  go_ret
  exact ⟨y14, (y3 HB.out GE320.out)⟩
 ·replace c3 := Bool.eq_false_iff.mpr c3
  subst c3
  rw [if_neg (show ¬ (false = true) by decide)] at H
  obtain rfl := Option.some.inj H
  go_enter Try.func23, Try.ntmps23
  go_wp2_with (first | ((with_reducible refine gate_dst (N := 1) rfl ?_); refine zbx 1 #[.slice A0_0 l0_0.length c0_0] 30 ?_; intro gb320 hg w10 hbox hb; have BK320 := Aside0.mk hbox; have GW320 := Aside0.mk ((y5 hg HB.out : w.heap.size ≤ gb320)); have GE320 := Aside0.mk ((y5 hg HB.out : w.heap.size ≤ gb320)); replace HB := Aside0.mk (below_step (y2 HB.out) hb); clear hb hbox hg; have hcz11_0 := zh BK320; have hfz11_0 := zfr BK320 0) | ((with_reducible refine gate_callee (f := 18) rfl ?_); refine goesL_ (some 4) rfl rfl Try.func18 (by kernel_rfl) rfl #[.agg #[.slice A0_0 l0_0.length c0_0]] rfl y4 ?_; (with_reducible refine (impl_TypeOk.calls k _ _ l0_0 false _ ?side1 ?side2 A2.out).mono ?_); (case side1 => exact y8 HR0_0.out HB.out); (case side2 => exact HC0_0.out); rintro e w12 ⟨rfl, hb⟩; refine ⟨_, rfl, ?_⟩; replace BK320 := zbb BK320 hb; replace HB := Aside0.mk (below_step (y3 HB.out GE320.out) hb); (try clear hb); (try clear hb2); (try clear hk); (try clear hi)))
  go_ret
  exact ⟨y14, (y3 HB.out GE320.out)⟩
end Go.Proofs.Ytjhbhihfifhljaa.PA
end
section
namespace Go.Proofs.Ytjhbhihfifhljaa.PA
open Go.RowKit Go.Proofs.YtjhbhihfifhljaaW.PrintWords Go.Proofs.YtjhbhihfifhljaaW.PrintLast Go.Proofs.YtjhbhihfifhljaaW.PrintMore
attribute [local go_sem] max2_int min2_int max_two min_two max_three min_three max_four min_four
set_option linter.unusedVariables false
set_option linter.unusedSimpArgs false
def spec_l71Val.f : Nat → List Int → Int → List (S30) → Option (Int × (List (S55)) × Int)
 | 0, _, _, _ => none
 | k + 1, s0_0, s0_1, l1_0 => if (l1_0.length : Int) = 0 then ((some (([0, 1, 2, 3, 7, 50, 9999] : List Int) : List Int)).bind fun y637 => ((spec_l6Rd_pick.f k s0_0 s0_1 7).bind fun bt640 => (if 0 ≤ bt640.1 then (if bt640.1 < (y637.length : Int) then (some (rd y637 bt640.1, ([] : List (S55)), bt640.2)) else (none)) else (none)))) else (if 0 < (l1_0.length : Int) then ((spec_l71Val.f k s0_0 s0_1 ((rd_T30 l1_0 0).f0)).bind fun bt644 => (if 1 < (l1_0.length : Int) then ((spec_l71Val.f k s0_0 bt644.2.2 ((rd_T30 l1_0 1).f0)).bind fun bt650 => (some (0, (([(⟨bt644.1, bt644.2.1⟩ : S55), (⟨bt650.1, bt650.2.1⟩ : S55)] : List (S55))), bt650.2.2))) else (none))) else (none))
theorem spec_l71Val.mono_l : ∀ k, (∀ y0 y1 y2, LeO (spec_l71Val.f k y0 y1 y2) (spec_l71Val.f (k + 1) y0 y1 y2))
 | 0 => fun _ _ _ r h => by simp [spec_l71Val.f] at h
 | k + 1 => by
  have ih0 := spec_l71Val.mono_l k
  ·intro y0 y1 y2
   unfold spec_l71Val.f
   repeat' first
   | (with_reducible exact ih0 _ _ _)
   | (with_reducible exact spec_l6Rd_pick.mono _ _ _ _)
   | (with_reducible exact LeO.refl _)
   | (with_reducible exact LeO.none _)
   | (with_reducible refine LeO.ite ?_ ?_)
   | (with_reducible refine LeO.bind ?_ (fun _ => ?_))
   | exact ih0 _ _ _
   | exact spec_l6Rd_pick.mono _ _ _ _
   | exact LeO.none _
   | refine LeO.ite ?_ ?_
   | refine LeO.bind ?_ (fun _ => ?_)
theorem spec_l71Val.mono : ∀ a0 a1 a2 k, LeO (spec_l71Val.f k a0 a1 a2) (spec_l71Val.f (k + 1) a0 a1 a2) := by
 intro a0 a1 a2 k
 have ih0 := spec_l71Val.mono_l k
 exact ih0 a0 a1 a2
def spec_l71Val.T3 : Bool × List (List Nat × List Nat) := (true, [([], []), ([], []), ([1], [1]), ([2], [2]), ([3], [3]), ([0, 4], [0, 4]), ([], []), ([], []), ([7], [7]), ([8], [8]), ([9], [9]), ([6, 10, 5], [6, 10]), ([5, 11], [5, 11]), ([12], [12]), ([13, 11, 0, 1, 2, 3, 4, 5, 6, 7, 8, 9, 10, 11, 12, 13], [13])])
def spec_l71Val.B3 : List Nat := [0, 0, 2, 6, 14, 31, 0, 0, 128, 384, 896, 2047, 4095, 8191, 16383]
theorem spec_l71Val.tab3 : rtab .any (opsOf Try.f87 3) = spec_l71Val.T3 := by kernel_rfl
theorem spec_l71Val.bits3 : waitsOk spec_l71Val.T3.2 spec_l71Val.B3 = true := by kernel_rfl
set_option maxHeartbeats 8000000 in
set_option maxRecDepth 100000 in
theorem spec_l71Val.calls (k : Nat) : ∀ (g : Nat) (s0_0 : List Int) (s0_1 : Int) (P1_0_ : Nat → Prop) (A1_0 : Option Addr) (c1_0 : Nat) (l1_0 : List (S30)) (r1 : Int) (r2 : List (S55)) (r3 : Int) (w0 w : World) (hI : IsS95 w0 w g s0_0 s0_1) (hB : Below w0.heap.size w0 w) (hs1_0 : Kd.V k30 30 w w.heap.size (fun k_ => P1_0_ k_ ∧ k_ ≠ g) (.slice A1_0 l1_0.length c1_0) l1_0) (h : spec_l71Val.f k s0_0 s0_1 l1_0 = some (r1, r2, r3)),
  Calls Try.prog 87 #[.pointer (some ⟨g, 0, none⟩), .agg #[.slice A1_0 l1_0.length c1_0]] w fun e w' => ∃ v1_ : Value, e = .returned (.agg #[.int .i64 r1, v1_]) ∧ Kd.N k55 55 w' w.heap.size (fun k_ => (P1_0_ k_ ∨ w.heap.size ≤ k_)) v1_ r2 ∧ IsS95 w0 w' g s0_0 r3 ∧ Below w0.heap.size w0 w' ∧ KeepBut w w' g none := by
 induction k using Nat.strongRecOn with
 | _ k ih =>
 intro g s0_0 s0_1 P1_0_ A1_0 c1_0 l1_0 r1 r2 r3 w0 w hI hB hs1_0 h
 cases k with
 | zero => exact absurd h (by simp [spec_l71Val.f])
 | succ k =>
 simp only [spec_l71Val.f] at h
 have hu30 := Try.underlying30
 have hu55 := Try.underlying55
 have HO1_0 := Aside0.mk (show Kd.V k30 30 w w.heap.size (fun k_ => (P1_0_ k_ ∨ w.heap.size ≤ k_) ∧ k_ ≠ g) (.slice A1_0 l1_0.length c1_0) l1_0 from Kd.V_mono hs1_0 (fun k_ hk => ⟨.inl hk.1, hk.2⟩))
 have HI0 := Aside0.mk hI
 have HK := Aside0.mk (KeepBut.refl w g none)
 have HL := Aside0.mk hB.size
 clear hI
 have HW0 := Aside0.mk hB.size
 have HB := Aside0.mk hB
 clear hB
 have H : (if (l1_0.length : Int) = 0 then ((some (([0, 1, 2, 3, 7, 50, 9999] : List Int) : List Int)).bind fun y637 => ((spec_l6Rd_pick.f k s0_0 s0_1 7).bind fun bt640 => (if 0 ≤ bt640.1 then (if bt640.1 < (y637.length : Int) then (some (rd y637 bt640.1, ([] : List (S55)), bt640.2)) else (none)) else (none)))) else (if 0 < (l1_0.length : Int) then ((spec_l71Val.f k s0_0 s0_1 ((rd_T30 l1_0 0).f0)).bind fun bt644 => (if 1 < (l1_0.length : Int) then ((spec_l71Val.f k s0_0 bt644.2.2 ((rd_T30 l1_0 1).f0)).bind fun bt650 => (some (0, (([(⟨bt644.1, bt644.2.1⟩ : S55), (⟨bt650.1, bt650.2.1⟩ : S55)] : List (S55))), bt650.2.2))) else (none))) else (none))) = some (r1, r2, r3) := h
 clear h
 by_cases c3 : (l1_0.length : Int) = 0
 ·rw [if_pos c3] at H
  have c3b0 : ((l1_0.length : Int) == 0) = true := beq_iff_eq.mpr c3
  have c3b1 : ((l1_0.length : Int) != 0) = false := bne_eq_false_iff_eq.mpr c3
  clear c3
  obtain ⟨y637, hy637⟩ : ∃ y_ : List Int, y_ = (([0, 1, 2, 3, 7, 50, 9999] : List Int)) := ⟨_, rfl⟩
  replace H : ((spec_l6Rd_pick.f k s0_0 s0_1 7).bind fun bt640 => (if 0 ≤ bt640.1 then (if bt640.1 < (y637.length : Int) then (some (rd y637 bt640.1, ([] : List (S55)), bt640.2)) else (none)) else (none))) = some (r1, r2, r3) := by first | (rw [hy637]; with_reducible exact H) | (have H2_ := (Option.bind_some _ _).symm.trans H; rw [hy637]; with_reducible exact H2_) | (have H2_ := (Option.bind_some _ _).symm.trans H; with_reducible exact H2_) | with_reducible exact H | (rw [hy637]; exact H) | exact H
  have Ny637 := Aside0.mk hy637
  clear hy637
  obtain ⟨⟨t640, t641⟩, A40, H⟩ := ob H
  have A4 := Aside0.mk A40
  clear A40
  by_cases c5 : 0 ≤ t640
  ·rw [if_pos c5] at H
   have c5b0 : decide (0 ≤ t640) = true := decide_eq_true c5
   clear c5
   by_cases c6 : t640 < (y637.length : Int)
   ·rw [if_pos c6] at H
    have c6b0 : decide (t640 < (y637.length : Int)) = true := decide_eq_true c6
    clear c6
    simp only [Option.some.injEq, Prod.mk.injEq] at H
    obtain ⟨rfl, rfl, rfl⟩ := H
    go_enter Try.func87, Try.ntmps87
    go_wp2_with (first | ((with_reducible refine gate_dst (N := 3) rfl ?_); refine zbx 3 #[.slice A1_0 l1_0.length c1_0] 30 ?_; intro gb635 hg w7 hbox hb; replace HO1_0 := Aside0.mk (Kd.V_below (Kd.V_elderB (y13 HO1_0.out) gb635 (Nat.le_of_eq hg.symm)) hb); replace HB := Aside0.mk (below_step (y33 HB.out HI0.out) hb); have BK635 := Aside0.mk hbox; have GW635 := Aside0.mk ((by rw [hg]; exact (keep_size (w := w) (g := g) (row := none) (y25 HK.out)) : w.heap.size ≤ gb635)); have GE635 := Aside0.mk ((Nat.le_trans HW0.out (by rw [hg]; exact (keep_size (w := w) (g := g) (row := none) (y25 HK.out)) : w.heap.size ≤ gb635) : w0.heap.size ≤ gb635)); replace HK := Aside0.mk (KeepBut.trans (y25 HK.out) (KeepBut.of_below hb g none) (.inl rfl)); have NB0_635 := Aside0.mk ((by rw [hg]; exact Nat.ne_of_lt (IsS95.lt (show IsS95 w0 _ g s0_0 s0_1 from by repeat (first | (with_reducible first | exact HI0.out | apply IsS95.alloc | apply IsS95.drewN | apply IsS95.drew | apply IsS95.set_1) | exact HI0.out))) : g ≠ gb635)); have NB635_0 := Aside0.mk ((by rw [hg]; exact Nat.ne_of_gt (IsS95.lt (show IsS95 w0 _ g s0_0 s0_1 from by repeat (first | (with_reducible first | exact HI0.out | apply IsS95.alloc | apply IsS95.drewN | apply IsS95.drew | apply IsS95.set_1) | exact HI0.out))) : gb635 ≠ g)); replace HI0 := Aside0.mk (IsS95.below (y35 HI0.out) hb); clear hb hbox hg) | ((with_reducible refine gate_dst (N := 4) rfl ?_); refine zbx 4 #[.int .i64 0, .slice none 0 0] 55 ?_; intro gb636 hg w8 hbox hb; replace HO1_0 := Aside0.mk (Kd.V_below (Kd.V_elderB (y13 HO1_0.out) gb636 (Nat.le_of_eq hg.symm)) hb); replace HB := Aside0.mk (below_step (y23 HB.out HI0.out GE635.out) hb); have BK636 := Aside0.mk hbox; have GW636 := Aside0.mk ((by rw [hg]; exact (keep_size (w := w) (g := g) (row := none) (y18 HK.out GW635.out)) : w.heap.size ≤ gb636)); have GE636 := Aside0.mk ((Nat.le_trans HW0.out (by rw [hg]; exact (keep_size (w := w) (g := g) (row := none) (y18 HK.out GW635.out)) : w.heap.size ≤ gb636) : w0.heap.size ≤ gb636)); replace HK := Aside0.mk (KeepBut.trans (y18 HK.out GW635.out) (KeepBut.of_below hb g none) (.inl rfl)); have NB635_636 := zltn hg BK635; have NB636_635 := zgtn hg BK635; replace BK635 := zbb BK635 hb; have NB0_636 := Aside0.mk ((by rw [hg]; exact Nat.ne_of_lt (IsS95.lt (show IsS95 w0 _ g s0_0 s0_1 from by repeat (first | (with_reducible first | exact HI0.out | apply IsS95.alloc | apply IsS95.drewN | apply IsS95.drew | apply IsS95.set_1 | refine IsS95.far ?_ NB0_635.out _) | exact HI0.out))) : g ≠ gb636)); have NB636_0 := Aside0.mk ((by rw [hg]; exact Nat.ne_of_gt (IsS95.lt (show IsS95 w0 _ g s0_0 s0_1 from by repeat (first | (with_reducible first | exact HI0.out | apply IsS95.alloc | apply IsS95.drewN | apply IsS95.drew | apply IsS95.set_1 | refine IsS95.far ?_ NB0_635.out _) | exact HI0.out))) : gb636 ≠ g)); replace HI0 := Aside0.mk (IsS95.below (y24 HI0.out NB0_635.out) hb); clear hb hbox hg; have hnb9 := NB635_636.out; have hnc9 := NB636_635.out; have hnb10 := NB635_0.out; have hnc10 := NB0_635.out; have hcz11_0 := zh BK635; have hfz11_0 := zfr BK635 0) | ((with_reducible refine gate_dst (N := 9) rfl ?_); refine Kd.R_lit (Kd.int .i64) _ 3 ?hg (N := 9) ?hd (xs := ([0, 1, 2, 3, 7, 50, 9999] : List Int)) (inner := [.int .i64 0, .int .i64 1, .int .i64 2, .int .i64 3, .int .i64 7, .int .i64 50, .int .i64 9999]) (ok := fun _ => True) (okp := fun _ => True) ?hr ?hp (fun _ hk => hk) trivial (Below.refl _ _) (Nat.le_refl _) (by simp) ?_; (case hd => rfl); (case hg => rfl); (case hr => first | (go_simp; done) | (go_simp; rfl)); (case hp => exact (Reps.one (show Kd.M (Kd.int .i64) _ _ _ 0 [.int .i64 0] from rfl) (Reps.one (show Kd.M (Kd.int .i64) _ _ _ 1 [.int .i64 1] from rfl) (Reps.one (show Kd.M (Kd.int .i64) _ _ _ 2 [.int .i64 2] from rfl) (Reps.one (show Kd.M (Kd.int .i64) _ _ _ 3 [.int .i64 3] from rfl) (Reps.one (show Kd.M (Kd.int .i64) _ _ _ 7 [.int .i64 7] from rfl) (Reps.one (show Kd.M (Kd.int .i64) _ _ _ 50 [.int .i64 50] from rfl) (Reps.one (show Kd.M (Kd.int .i64) _ _ _ 9999 [.int .i64 9999] from rfl) (Reps.none _ _))))))))); intro v638 w12 ho13 hb hg_ hnew_; clear hg_ hnew_; (first | rw [← Ny637.out] at ho13 | (simp only [Int.reduceToNat] at ho13; rw [← Ny637.out] at ho13)); replace HO1_0 := Aside0.mk (Kd.V_elder' (y13 HO1_0.out) (Kd.R_base ho13) hb); have HO639 := Aside0.mk (Kd.R_lower (Kd.R_newM (M := fun k_ => (w.heap.size ≤ k_)) ho13 (keep_size (w := w) (g := g) (row := none) (y11 HK.out GW635.out GW636.out)) (fun k_ h_ => h_)) (keep_size (w := w) (g := g) (row := none) (y11 HK.out GW635.out GW636.out))); replace BK635 := zbb BK635 hb; replace BK636 := zbb BK636 hb; replace HK := Aside0.mk (KeepBut.trans (y11 HK.out GW635.out GW636.out) (KeepBut.of_below hb g none) (.inl rfl)); replace HB := Aside0.mk (below_step (y12 HB.out HI0.out GE635.out GE636.out) hb); replace HI0 := Aside0.mk (IsS95.below (y15 HI0.out NB0_635.out NB0_636.out) hb); clear hb ho13) | ((with_reducible refine gate_callee (f := 58) rfl ?_); refine goesL_ (some 11) rfl rfl Try.func58 (by kernel_rfl) rfl #[.pointer (some ⟨g, 0, none⟩), .int .i64 7] rfl y4 ?_; (with_reducible refine (spec_l6Rd_pick.calls k g s0_0 s0_1 7 t640 t641 w0 _ ?side1 ?side2 A4.out).mono ?_); (case side1 => exact y15 HI0.out NB0_635.out NB0_636.out); (case side2 => exact y12 HB.out HI0.out GE635.out GE636.out); rintro e w14 ⟨rfl, hi, hb, hk⟩; refine ⟨_, rfl, ?_⟩; replace HO1_0 := Aside0.mk (Kd.V_mono (Kd.V_keep (Kd.V_mono (ok := fun k_ => ((((((P1_0_ k_ ∨ w.heap.size ≤ k_)) ∧ k_ ≠ g) ∧ k_ ≠ gb635) ∧ k_ ≠ gb636) ∧ some k_ ≠ (v638 : Value).ownBlock)) (y13 HO1_0.out) (fun k_ hk_ => (⟨hk_, hk_.1.1.1.2⟩ : _ ∧ k_ ≠ g))) hk (fun _ h => h.2)) (fun _ h => h.1)); replace BK635 := Aside0.mk (KeepBut.blk hk (g' := gb635) (o := .cells #[.slice A1_0 l1_0.length c1_0] 30 (0, 0)) (y0 BK635.out) NB635_0.out (by simp)); replace BK636 := Aside0.mk (KeepBut.blk hk (g' := gb636) (o := .cells #[.int .i64 0, .slice none 0 0] 55 (0, 0)) (y0 BK636.out) NB636_0.out (by simp)); replace HO639 := Aside0.mk (Kd.R_mono (Kd.R_keep (IsS95.apart (show IsS95 w0 _ g s0_0 s0_1 from by repeat (first | (with_reducible first | exact HI0.out | apply IsS95.alloc | apply IsS95.drewN | apply IsS95.drew | apply IsS95.set_1 | refine IsS95.far ?_ NB0_635.out _ | refine IsS95.far ?_ NB0_636.out _) | exact HI0.out)) (y10 HO639.out) (by decide)) hk (fun _ h => h.2)) (fun _ h => h.1)); replace HK := Aside0.mk (KeepBut.trans (y11 HK.out GW635.out GW636.out) hk (.inl rfl)); replace HB := Aside0.mk (hb); replace HI0 := Aside0.mk (hi); (try clear hb); (try clear hb2); (try clear hk); (try clear hi); obtain ⟨Ao15, co15, eo15⟩ := Kd.R_slice HO639.out; subst eo15; have p642 : 0 ≤ (t640 : Int) := of_decide_eq_true y19; have q642 : t640 < (y637.length : Int) := of_decide_eq_true y19; obtain ⟨ad642, e642, hx642_0⟩ := Kd.at_int (Kd.R_reads' HO639.out).2.2 t640 p642 q642; cases e642; replace p642 := eq_true p642; replace q642 := eq_true q642; have hnb16 := NB636_0.out; have hnc16 := NB0_636.out; have hcz17_0 := zh BK636; have hcz17_1 := zh1 BK636; have hfz17_0 := zfr BK636 0; have hfz17_1 := zfr BK636 1))
    refine bodyPost_ret (results_cell_row rfl _ _ gb636 55 #[.int .i64 (rd y637 t640), .slice none 0 0] (0, 0) _ rfl (by (with_reducible repeat (first | refine blk_drewN ?_ _ | refine blk_drew ?_ | refine blk_alloc ?_ _)); refine blk_put (cs := #[.int .i64 (rd y637 t640), .slice none 0 0]) ?_ 1 _ rfl; (with_reducible repeat (first | refine blk_drewN ?_ _ | refine blk_drew ?_ | refine blk_alloc ?_ _)); apply blk_put (i := 0); (case h => exact y0 BK636.out); (case e => rfl)) Try.underlying55 rfl (by kernel_rfl)) rfl ?_
    exact ⟨_, y14, y36, (y15 HI0.out NB0_635.out NB0_636.out), (y12 HB.out HI0.out GE635.out GE636.out), (y11 HK.out GW635.out GW636.out)⟩
   ·rw [if_neg c6] at H
    exact absurd H (by simp)
  ·rw [if_neg c5] at H
   exact absurd H (by simp)
 ·rw [if_neg c3] at H
  have c3b0 : ((l1_0.length : Int) == 0) = false := beq_eq_false_iff_ne.mpr c3
  have c3b1 : ((l1_0.length : Int) != 0) = true := bne_iff_ne.mpr c3
  have c3b2 : ¬ (l1_0 = []) := fun h_ => c3 (by rw [h_]; rfl)
  by_cases c18 : 0 < (l1_0.length : Int)
  ·rw [if_pos c18] at H
   have c18b0 : decide (0 < (l1_0.length : Int)) = true := decide_eq_true c18
   have c18b1 : decide (0 < l1_0.length) = true := decide_eq_true (by omega)
   clear c18
   obtain ⟨⟨t644, t645, t648⟩, A190, H⟩ := ob H
   have A19 := Aside0.mk A190
   clear A190
   by_cases c20 : 1 < (l1_0.length : Int)
   ·rw [if_pos c20] at H
    have c20b0 : decide (1 < (l1_0.length : Int)) = true := decide_eq_true c20
    have c20b1 : decide (1 < l1_0.length) = true := decide_eq_true (by omega)
    clear c20
    obtain ⟨⟨t650, t651, t654⟩, A210, H⟩ := ob H
    have A21 := Aside0.mk A210
    clear A210
    obtain ⟨y655, hy655⟩ : ∃ y_ : List (S55), y_ = (([(⟨t644, t645⟩ : S55), (⟨t650, t651⟩ : S55)] : List (S55))) := ⟨_, rfl⟩
    replace H : (some (0, y655, t654)) = some (r1, r2, r3) := by first | (rw [hy655]; with_reducible exact H) | (have H2_ := (Option.bind_some _ _).symm.trans H; rw [hy655]; with_reducible exact H2_) | (have H2_ := (Option.bind_some _ _).symm.trans H; with_reducible exact H2_) | with_reducible exact H | (rw [hy655]; exact H) | exact H
    have Ny655 := Aside0.mk hy655
    clear hy655
    simp only [Option.some.injEq, Prod.mk.injEq] at H
    obtain ⟨rfl, rfl, rfl⟩ := H
    go_enter Try.func87, Try.ntmps87
    try go_wp2_with (first | ((with_reducible refine gate_dst (N := 3) rfl ?_); refine zbx 3 #[.slice A1_0 l1_0.length c1_0] 30 ?_; intro gb635 hg w22 hbox hb; replace HO1_0 := Aside0.mk (Kd.V_below (Kd.V_elderB (y13 HO1_0.out) gb635 (Nat.le_of_eq hg.symm)) hb); replace HB := Aside0.mk (below_step (y33 HB.out HI0.out) hb); have BK635 := Aside0.mk hbox; have GW635 := Aside0.mk ((by rw [hg]; exact (keep_size (w := w) (g := g) (row := none) (y25 HK.out)) : w.heap.size ≤ gb635)); have GE635 := Aside0.mk ((Nat.le_trans HW0.out (by rw [hg]; exact (keep_size (w := w) (g := g) (row := none) (y25 HK.out)) : w.heap.size ≤ gb635) : w0.heap.size ≤ gb635)); replace HK := Aside0.mk (KeepBut.trans (y25 HK.out) (KeepBut.of_below hb g none) (.inl rfl)); have NB0_635 := Aside0.mk ((by rw [hg]; exact Nat.ne_of_lt (IsS95.lt (show IsS95 w0 _ g s0_0 s0_1 from by repeat (first | (with_reducible first | exact HI0.out | apply IsS95.alloc | apply IsS95.drewN | apply IsS95.drew | apply IsS95.set_1) | exact HI0.out))) : g ≠ gb635)); have NB635_0 := Aside0.mk ((by rw [hg]; exact Nat.ne_of_gt (IsS95.lt (show IsS95 w0 _ g s0_0 s0_1 from by repeat (first | (with_reducible first | exact HI0.out | apply IsS95.alloc | apply IsS95.drewN | apply IsS95.drew | apply IsS95.set_1) | exact HI0.out))) : gb635 ≠ g)); replace HI0 := Aside0.mk (IsS95.below (y35 HI0.out) hb); clear hb hbox hg) | ((with_reducible refine gate_dst (N := 4) rfl ?_); refine zbx 4 #[.int .i64 0, .slice none 0 0] 55 ?_; intro gb636 hg w23 hbox hb; replace HO1_0 := Aside0.mk (Kd.V_below (Kd.V_elderB (y13 HO1_0.out) gb636 (Nat.le_of_eq hg.symm)) hb); replace HB := Aside0.mk (below_step (y23 HB.out HI0.out GE635.out) hb); have BK636 := Aside0.mk hbox; have GW636 := Aside0.mk ((by rw [hg]; exact (keep_size (w := w) (g := g) (row := none) (y18 HK.out GW635.out)) : w.heap.size ≤ gb636)); have GE636 := Aside0.mk ((Nat.le_trans HW0.out (by rw [hg]; exact (keep_size (w := w) (g := g) (row := none) (y18 HK.out GW635.out)) : w.heap.size ≤ gb636) : w0.heap.size ≤ gb636)); replace HK := Aside0.mk (KeepBut.trans (y18 HK.out GW635.out) (KeepBut.of_below hb g none) (.inl rfl)); have NB635_636 := zltn hg BK635; have NB636_635 := zgtn hg BK635; replace BK635 := zbb BK635 hb; have NB0_636 := Aside0.mk ((by rw [hg]; exact Nat.ne_of_lt (IsS95.lt (show IsS95 w0 _ g s0_0 s0_1 from by repeat (first | (with_reducible first | exact HI0.out | apply IsS95.alloc | apply IsS95.drewN | apply IsS95.drew | apply IsS95.set_1 | refine IsS95.far ?_ NB0_635.out _) | exact HI0.out))) : g ≠ gb636)); have NB636_0 := Aside0.mk ((by rw [hg]; exact Nat.ne_of_gt (IsS95.lt (show IsS95 w0 _ g s0_0 s0_1 from by repeat (first | (with_reducible first | exact HI0.out | apply IsS95.alloc | apply IsS95.drewN | apply IsS95.drew | apply IsS95.set_1 | refine IsS95.far ?_ NB0_635.out _) | exact HI0.out))) : gb636 ≠ g)); replace HI0 := Aside0.mk (IsS95.below (y24 HI0.out NB0_635.out) hb); clear hb hbox hg; have hnb24 := NB635_636.out; have hnc24 := NB636_635.out; have hnb25 := NB635_0.out; have hnc25 := NB0_635.out; have hcz26_0 := zh BK635; have hfz26_0 := zfr BK635 0))
    replace HO1_0 := Aside0.mk (Kd.V_drew HO1_0.out)
    replace BK635 := Aside0.mk (blk_drew BK635.out)
    replace BK636 := Aside0.mk (blk_drew BK636.out)
    replace HI0 := Aside0.mk (IsS95.drew HI0.out)
    replace HK := Aside0.mk (keep_drew HK.out)
    replace HB := Aside0.mk (below_drew1 HB.out)
    have p643 : 0 ≤ (0 : Int) := (by omega)
    have q643 : 0 < (l1_0.length : Int) := of_decide_eq_true y19
    obtain ⟨ad643, A643_0, c643_0, e643, hx643_0, hl643_0, hi643_0⟩ := at_T30 (Kd.V_reads' HO1_0.out).2.2 0 p643 q643
    cases e643
    obtain ⟨ce643, hce643, hMe643, hcc643⟩ := Kd.V_get HO1_0.out z30 0 p643 (by first | exact q643 | exact of_decide_eq_true y19 | (have e_ := (Kd.V_reads' HO1_0.out).1; omega))
    obtain ⟨ua643_0, uc643_0, rfl, ul643_0, ge643_0⟩ := k30_openF hMe643
    have hv643_0 := hcc643 0 _ rfl
    rw [Nat.add_zero, show (k30).sz = 1 from rfl, Nat.mul_one] at hv643_0
    replace hv643_0 := Option.some.inj (hv643_0.symm.trans hx643_0)
    injection hv643_0 with hva_ hvn_ hvc_
    rw [hva_] at ge643_0
    rw [hvc_] at ul643_0
    have HL643_0 := Aside0.mk (show Kd.V k30 30 _ w.heap.size _ _ ((rd_T30 l1_0 0).f0) from Kd.V_mk ul643_0 ge643_0)
    clear hva_ hvn_ hvc_ ge643_0 ul643_0
    clear hcc643 hce643
    have qi643 : (0 < l1_0.length) = True := eq_true (by omega)
    (try rw [show ((0 : Int)).toNat = 0 from rfl] at hx643_0)
    (try rw [Addr.add_zero'] at hx643_0)
    have HR643_0 := Aside0.mk hi643_0
    have HC643_0 := Aside0.mk hl643_0
    clear hi643_0 hl643_0
    replace p643 := eq_true p643
    replace q643 := eq_true q643
    have p649 : 0 ≤ (1 : Int) := (by omega)
    have q649 : 1 < (l1_0.length : Int) := of_decide_eq_true y19
    obtain ⟨ad649, A649_0, c649_0, e649, hx649_0, hl649_0, hi649_0⟩ := at_T30 (Kd.V_reads' HO1_0.out).2.2 1 p649 q649
    obtain rfl : ad643 = ad649 := (by injection e649)
    obtain ⟨ce649, hce649, hMe649, hcc649⟩ := Kd.V_get HO1_0.out z30 1 p649 (by first | exact q649 | exact of_decide_eq_true y19 | (have e_ := (Kd.V_reads' HO1_0.out).1; omega))
    obtain ⟨ua649_0, uc649_0, rfl, ul649_0, ge649_0⟩ := k30_openF hMe649
    have hv649_0 := hcc649 0 _ rfl
    rw [Nat.add_zero, show (k30).sz = 1 from rfl, Nat.mul_one] at hv649_0
    replace hv649_0 := Option.some.inj (hv649_0.symm.trans hx649_0)
    injection hv649_0 with hva_ hvn_ hvc_
    rw [hva_] at ge649_0
    rw [hvc_] at ul649_0
    have HL649_0 := Aside0.mk (show Kd.V k30 30 _ w.heap.size _ _ ((rd_T30 l1_0 1).f0) from Kd.V_mk ul649_0 ge649_0)
    clear hva_ hvn_ hvc_ ge649_0 ul649_0
    clear hcc649 hce649
    (try simp only [show (1 : Int).toNat = 1 from rfl, Nat.reduceMul, Nat.reduceEqDiff, Go.Addr.add, ↓reduceIte] at hx649_0)
    have qi649 : (1 < l1_0.length) = True := eq_true (by omega)
    (try rw [show ((1 : Int)).toNat = 1 from rfl] at hx649_0)
    have HR649_0 := Aside0.mk hi649_0
    have HC649_0 := Aside0.mk hl649_0
    clear hi649_0 hl649_0
    replace p649 := eq_true p649
    replace q649 := eq_true q649
    refine start_ (n := 15) (S := fun w' => w'.cell? ⟨gb635, 0, none⟩ = some (.slice (some ad643) l1_0.length c1_0) ∧ w'.cell? ad643 = some (.slice A643_0 ((rd_T30 l1_0 0).f0).length c643_0) ∧ w'.cell? ⟨ad643.block, ad643.off + 1, none⟩ = some (.slice A649_0 ((rd_T30 l1_0 1).f0).length c649_0)) (ds := []) #[false, false, false, false, false, false, false, false, false, false, false, false, false, false, false] (by kernel_rfl) rfl rfl ⟨(blk_cell BK635.out 0).trans rfl, hx643_0, hx649_0⟩ (fun hHeld => ?_); refine with_tabW spec_l71Val.tab3 spec_l71Val.bits3 (fun HT_ HW_ => ?_)
    generalize w23.drew = w27 at HO1_0 BK635 BK636 HI0 HK HB HL643_0 HL649_0 HR643_0 HR649_0 hx643_0 hx649_0 hHeld ⊢
    refine zp 0 (some 15) HT_ ?_
    refine zp 1 (some 16) HT_ ?_
    refine zp 6 (some 21) HT_ ?_
    refine zp 7 (some 22) HT_ ?_
    refine zt3 2 (some 17) HT_ HW_ hHeld ?_
    refine zp 3 (some 18) HT_ ?_
    refine zt3 4 (some 19) HT_ HW_ hHeld ?_
    refine zt3 8 (some 23) HT_ HW_ hHeld ?_
    refine zp 9 (some 24) HT_ ?_
    refine zt3 10 (some 25) HT_ HW_ hHeld ?_
    refine one_ (i := 5) (N := some 20) #[true, true, true, true, true, true, true, true, true, true, true, false, false, false, false] rfl rfl (one_of HT_.out (by kernel_rfl)) (by decide) (fun K hK => ?_)
    refine goes_ Try.func87 (by kernel_rfl) rfl #[.pointer (some ⟨g, 0, none⟩), .agg #[.slice A643_0 ((rd_T30 l1_0 0).f0).length c643_0]] (by rfl) rfl rfl y4 ?_
    with_reducible refine (ih k (by omega) g s0_0 s0_1 (fun k_ => ((((P1_0_ k_ ∨ w.heap.size ≤ k_) ∧ k_ ≠ g) ∧ k_ ≠ gb635) ∧ k_ ≠ gb636)) _ _ ((rd_T30 l1_0 0).f0) t644 t645 t648 w0 _ ?side1 ?side2 ?side3 A19.out).mono ?_
    (case side1 => exact y15 HI0.out NB0_635.out NB0_636.out)
    (case side2 => exact y12 HB.out HI0.out GE635.out GE636.out)
    (case side3 => exact y80 HL643_0.out)
    rintro e w28 ⟨v646, rfl, ho0, hi, hb, hk⟩
    have HS1_ := keep_cell hk (hHeld.2.1) (by first | (rw [add_block]; exact (show _ from by have h_ := hf_V_in HO1_0.out (by have h0_ : (0 : Int) < (l1_0.length : Int) := (by first | exact of_eq_true (by assumption) | exact Int.lt_trans (by decide : (0 : Int) < 1) (of_eq_true (by assumption))); omega) (by decide); first | exact h_ | exact h_.1 | exact h_.2 | exact h_.1.1 | exact h_.1.2 | exact h_.2.1 | exact h_.2.2 | exact h_.1.1.1 | exact h_.1.1.2 | exact h_.1.2.1 | exact h_.1.2.2 | exact h_.2.1.1 | exact h_.2.1.2 | exact h_.2.2.1 | exact h_.2.2.2 | exact h_.1.1.1.1 | exact h_.1.1.1.2 | exact h_.1.1.2.1 | exact h_.1.1.2.2 | exact h_.1.2.1.1 | exact h_.1.2.1.2 | exact h_.1.2.2.1 | exact h_.1.2.2.2 | exact h_.2.1.1.1 | exact h_.2.1.1.2 | exact h_.2.1.2.1 | exact h_.2.1.2.2 | exact h_.2.2.1.1 | exact h_.2.2.1.2 | exact h_.2.2.2.1 | exact h_.2.2.2.2 | exact h_.1.1.1.1.1 | exact h_.1.1.1.1.2 | exact h_.1.1.1.2.1 | exact h_.1.1.1.2.2 | exact h_.1.1.2.1.1 | exact h_.1.1.2.1.2 | exact h_.1.1.2.2.1 | exact h_.1.1.2.2.2 | exact h_.1.2.1.1.1 | exact h_.1.2.1.1.2 | exact h_.1.2.1.2.1 | exact h_.1.2.1.2.2 | exact h_.1.2.2.1.1 | exact h_.1.2.2.1.2 | exact h_.1.2.2.2.1 | exact h_.1.2.2.2.2 | exact h_.2.1.1.1.1 | exact h_.2.1.1.1.2 | exact h_.2.1.1.2.1 | exact h_.2.1.1.2.2 | exact h_.2.1.2.1.1 | exact h_.2.1.2.1.2 | exact h_.2.1.2.2.1 | exact h_.2.1.2.2.2 | exact h_.2.2.1.1.1 | exact h_.2.2.1.1.2 | exact h_.2.2.1.2.1 | exact h_.2.2.1.2.2 | exact h_.2.2.2.1.1 | exact h_.2.2.2.1.2 | exact h_.2.2.2.2.1 | exact h_.2.2.2.2.2)) | (show (Addr.add _ _).block ≠ _; rw [add_block]; exact (show _ from by have h_ := hf_V_in HO1_0.out (by have h0_ : (0 : Int) < (l1_0.length : Int) := (by first | exact of_eq_true (by assumption) | exact Int.lt_trans (by decide : (0 : Int) < 1) (of_eq_true (by assumption))); omega) (by decide); first | exact h_ | exact h_.1 | exact h_.2 | exact h_.1.1 | exact h_.1.2 | exact h_.2.1 | exact h_.2.2 | exact h_.1.1.1 | exact h_.1.1.2 | exact h_.1.2.1 | exact h_.1.2.2 | exact h_.2.1.1 | exact h_.2.1.2 | exact h_.2.2.1 | exact h_.2.2.2 | exact h_.1.1.1.1 | exact h_.1.1.1.2 | exact h_.1.1.2.1 | exact h_.1.1.2.2 | exact h_.1.2.1.1 | exact h_.1.2.1.2 | exact h_.1.2.2.1 | exact h_.1.2.2.2 | exact h_.2.1.1.1 | exact h_.2.1.1.2 | exact h_.2.1.2.1 | exact h_.2.1.2.2 | exact h_.2.2.1.1 | exact h_.2.2.1.2 | exact h_.2.2.2.1 | exact h_.2.2.2.2 | exact h_.1.1.1.1.1 | exact h_.1.1.1.1.2 | exact h_.1.1.1.2.1 | exact h_.1.1.1.2.2 | exact h_.1.1.2.1.1 | exact h_.1.1.2.1.2 | exact h_.1.1.2.2.1 | exact h_.1.1.2.2.2 | exact h_.1.2.1.1.1 | exact h_.1.2.1.1.2 | exact h_.1.2.1.2.1 | exact h_.1.2.1.2.2 | exact h_.1.2.2.1.1 | exact h_.1.2.2.1.2 | exact h_.1.2.2.2.1 | exact h_.1.2.2.2.2 | exact h_.2.1.1.1.1 | exact h_.2.1.1.1.2 | exact h_.2.1.1.2.1 | exact h_.2.1.1.2.2 | exact h_.2.1.2.1.1 | exact h_.2.1.2.1.2 | exact h_.2.1.2.2.1 | exact h_.2.1.2.2.2 | exact h_.2.2.1.1.1 | exact h_.2.2.1.1.2 | exact h_.2.2.1.2.1 | exact h_.2.2.1.2.2 | exact h_.2.2.2.1.1 | exact h_.2.2.2.1.2 | exact h_.2.2.2.2.1 | exact h_.2.2.2.2.2)) | exact (show _ from by have h_ := hf_V_in HO1_0.out (by have h0_ : (0 : Int) < (l1_0.length : Int) := (by first | exact of_eq_true (by assumption) | exact Int.lt_trans (by decide : (0 : Int) < 1) (of_eq_true (by assumption))); omega) (by decide); first | exact h_ | exact h_.1 | exact h_.2 | exact h_.1.1 | exact h_.1.2 | exact h_.2.1 | exact h_.2.2 | exact h_.1.1.1 | exact h_.1.1.2 | exact h_.1.2.1 | exact h_.1.2.2 | exact h_.2.1.1 | exact h_.2.1.2 | exact h_.2.2.1 | exact h_.2.2.2 | exact h_.1.1.1.1 | exact h_.1.1.1.2 | exact h_.1.1.2.1 | exact h_.1.1.2.2 | exact h_.1.2.1.1 | exact h_.1.2.1.2 | exact h_.1.2.2.1 | exact h_.1.2.2.2 | exact h_.2.1.1.1 | exact h_.2.1.1.2 | exact h_.2.1.2.1 | exact h_.2.1.2.2 | exact h_.2.2.1.1 | exact h_.2.2.1.2 | exact h_.2.2.2.1 | exact h_.2.2.2.2 | exact h_.1.1.1.1.1 | exact h_.1.1.1.1.2 | exact h_.1.1.1.2.1 | exact h_.1.1.1.2.2 | exact h_.1.1.2.1.1 | exact h_.1.1.2.1.2 | exact h_.1.1.2.2.1 | exact h_.1.1.2.2.2 | exact h_.1.2.1.1.1 | exact h_.1.2.1.1.2 | exact h_.1.2.1.2.1 | exact h_.1.2.1.2.2 | exact h_.1.2.2.1.1 | exact h_.1.2.2.1.2 | exact h_.1.2.2.2.1 | exact h_.1.2.2.2.2 | exact h_.2.1.1.1.1 | exact h_.2.1.1.1.2 | exact h_.2.1.1.2.1 | exact h_.2.1.1.2.2 | exact h_.2.1.2.1.1 | exact h_.2.1.2.1.2 | exact h_.2.1.2.2.1 | exact h_.2.1.2.2.2 | exact h_.2.2.1.1.1 | exact h_.2.2.1.1.2 | exact h_.2.2.1.2.1 | exact h_.2.2.1.2.2 | exact h_.2.2.2.1.1 | exact h_.2.2.2.1.2 | exact h_.2.2.2.2.1 | exact h_.2.2.2.2.2))
    have HS2_ := keep_cell hk (hHeld.2.2) (by first | (rw [add_block]; exact (show _ from by have h_ := hf_V_in HO1_0.out (by have h0_ : (0 : Int) < (l1_0.length : Int) := (by first | exact of_eq_true (by assumption) | exact Int.lt_trans (by decide : (0 : Int) < 1) (of_eq_true (by assumption))); omega) (by decide); first | exact h_ | exact h_.1 | exact h_.2 | exact h_.1.1 | exact h_.1.2 | exact h_.2.1 | exact h_.2.2 | exact h_.1.1.1 | exact h_.1.1.2 | exact h_.1.2.1 | exact h_.1.2.2 | exact h_.2.1.1 | exact h_.2.1.2 | exact h_.2.2.1 | exact h_.2.2.2 | exact h_.1.1.1.1 | exact h_.1.1.1.2 | exact h_.1.1.2.1 | exact h_.1.1.2.2 | exact h_.1.2.1.1 | exact h_.1.2.1.2 | exact h_.1.2.2.1 | exact h_.1.2.2.2 | exact h_.2.1.1.1 | exact h_.2.1.1.2 | exact h_.2.1.2.1 | exact h_.2.1.2.2 | exact h_.2.2.1.1 | exact h_.2.2.1.2 | exact h_.2.2.2.1 | exact h_.2.2.2.2 | exact h_.1.1.1.1.1 | exact h_.1.1.1.1.2 | exact h_.1.1.1.2.1 | exact h_.1.1.1.2.2 | exact h_.1.1.2.1.1 | exact h_.1.1.2.1.2 | exact h_.1.1.2.2.1 | exact h_.1.1.2.2.2 | exact h_.1.2.1.1.1 | exact h_.1.2.1.1.2 | exact h_.1.2.1.2.1 | exact h_.1.2.1.2.2 | exact h_.1.2.2.1.1 | exact h_.1.2.2.1.2 | exact h_.1.2.2.2.1 | exact h_.1.2.2.2.2 | exact h_.2.1.1.1.1 | exact h_.2.1.1.1.2 | exact h_.2.1.1.2.1 | exact h_.2.1.1.2.2 | exact h_.2.1.2.1.1 | exact h_.2.1.2.1.2 | exact h_.2.1.2.2.1 | exact h_.2.1.2.2.2 | exact h_.2.2.1.1.1 | exact h_.2.2.1.1.2 | exact h_.2.2.1.2.1 | exact h_.2.2.1.2.2 | exact h_.2.2.2.1.1 | exact h_.2.2.2.1.2 | exact h_.2.2.2.2.1 | exact h_.2.2.2.2.2)) | (show (Addr.add _ _).block ≠ _; rw [add_block]; exact (show _ from by have h_ := hf_V_in HO1_0.out (by have h0_ : (0 : Int) < (l1_0.length : Int) := (by first | exact of_eq_true (by assumption) | exact Int.lt_trans (by decide : (0 : Int) < 1) (of_eq_true (by assumption))); omega) (by decide); first | exact h_ | exact h_.1 | exact h_.2 | exact h_.1.1 | exact h_.1.2 | exact h_.2.1 | exact h_.2.2 | exact h_.1.1.1 | exact h_.1.1.2 | exact h_.1.2.1 | exact h_.1.2.2 | exact h_.2.1.1 | exact h_.2.1.2 | exact h_.2.2.1 | exact h_.2.2.2 | exact h_.1.1.1.1 | exact h_.1.1.1.2 | exact h_.1.1.2.1 | exact h_.1.1.2.2 | exact h_.1.2.1.1 | exact h_.1.2.1.2 | exact h_.1.2.2.1 | exact h_.1.2.2.2 | exact h_.2.1.1.1 | exact h_.2.1.1.2 | exact h_.2.1.2.1 | exact h_.2.1.2.2 | exact h_.2.2.1.1 | exact h_.2.2.1.2 | exact h_.2.2.2.1 | exact h_.2.2.2.2 | exact h_.1.1.1.1.1 | exact h_.1.1.1.1.2 | exact h_.1.1.1.2.1 | exact h_.1.1.1.2.2 | exact h_.1.1.2.1.1 | exact h_.1.1.2.1.2 | exact h_.1.1.2.2.1 | exact h_.1.1.2.2.2 | exact h_.1.2.1.1.1 | exact h_.1.2.1.1.2 | exact h_.1.2.1.2.1 | exact h_.1.2.1.2.2 | exact h_.1.2.2.1.1 | exact h_.1.2.2.1.2 | exact h_.1.2.2.2.1 | exact h_.1.2.2.2.2 | exact h_.2.1.1.1.1 | exact h_.2.1.1.1.2 | exact h_.2.1.1.2.1 | exact h_.2.1.1.2.2 | exact h_.2.1.2.1.1 | exact h_.2.1.2.1.2 | exact h_.2.1.2.2.1 | exact h_.2.1.2.2.2 | exact h_.2.2.1.1.1 | exact h_.2.2.1.1.2 | exact h_.2.2.1.2.1 | exact h_.2.2.1.2.2 | exact h_.2.2.2.1.1 | exact h_.2.2.2.1.2 | exact h_.2.2.2.2.1 | exact h_.2.2.2.2.2)) | exact (show _ from by have h_ := hf_V_in HO1_0.out (by have h0_ : (0 : Int) < (l1_0.length : Int) := (by first | exact of_eq_true (by assumption) | exact Int.lt_trans (by decide : (0 : Int) < 1) (of_eq_true (by assumption))); omega) (by decide); first | exact h_ | exact h_.1 | exact h_.2 | exact h_.1.1 | exact h_.1.2 | exact h_.2.1 | exact h_.2.2 | exact h_.1.1.1 | exact h_.1.1.2 | exact h_.1.2.1 | exact h_.1.2.2 | exact h_.2.1.1 | exact h_.2.1.2 | exact h_.2.2.1 | exact h_.2.2.2 | exact h_.1.1.1.1 | exact h_.1.1.1.2 | exact h_.1.1.2.1 | exact h_.1.1.2.2 | exact h_.1.2.1.1 | exact h_.1.2.1.2 | exact h_.1.2.2.1 | exact h_.1.2.2.2 | exact h_.2.1.1.1 | exact h_.2.1.1.2 | exact h_.2.1.2.1 | exact h_.2.1.2.2 | exact h_.2.2.1.1 | exact h_.2.2.1.2 | exact h_.2.2.2.1 | exact h_.2.2.2.2 | exact h_.1.1.1.1.1 | exact h_.1.1.1.1.2 | exact h_.1.1.1.2.1 | exact h_.1.1.1.2.2 | exact h_.1.1.2.1.1 | exact h_.1.1.2.1.2 | exact h_.1.1.2.2.1 | exact h_.1.1.2.2.2 | exact h_.1.2.1.1.1 | exact h_.1.2.1.1.2 | exact h_.1.2.1.2.1 | exact h_.1.2.1.2.2 | exact h_.1.2.2.1.1 | exact h_.1.2.2.1.2 | exact h_.1.2.2.2.1 | exact h_.1.2.2.2.2 | exact h_.2.1.1.1.1 | exact h_.2.1.1.1.2 | exact h_.2.1.1.2.1 | exact h_.2.1.1.2.2 | exact h_.2.1.2.1.1 | exact h_.2.1.2.1.2 | exact h_.2.1.2.2.1 | exact h_.2.1.2.2.2 | exact h_.2.2.1.1.1 | exact h_.2.2.1.1.2 | exact h_.2.2.1.2.1 | exact h_.2.2.1.2.2 | exact h_.2.2.2.1.1 | exact h_.2.2.2.1.2 | exact h_.2.2.2.2.1 | exact h_.2.2.2.2.2))
    refine ⟨_, rfl, ?_⟩
    replace HO1_0 := Aside0.mk (Kd.V_mono (Kd.V_told (Kd.V_oldK (Kd.V_mono (ok := fun k_ => (((((P1_0_ k_ ∨ w.heap.size ≤ k_)) ∧ k_ ≠ g) ∧ k_ ≠ gb635) ∧ k_ ≠ gb636)) (y13 HO1_0.out) (fun k_ hk_ => (⟨hk_, hk_.1.1.2⟩ : _ ∧ k_ ≠ g))) hk) (Kd.N_base ho0)) (fun _ h_ => h_.1))
    replace HL643_0 := Aside0.mk (Kd.V_mono (Kd.V_told (Kd.V_oldK (Kd.V_mono (ok := fun k_ => (((((P1_0_ k_ ∨ w.heap.size ≤ k_)) ∧ k_ ≠ g) ∧ k_ ≠ gb635) ∧ k_ ≠ gb636)) (y13 HL643_0.out) (fun k_ hk_ => (⟨hk_, hk_.1.1.2⟩ : _ ∧ k_ ≠ g))) hk) (Kd.N_base ho0)) (fun _ h_ => h_.1))
    replace HL649_0 := Aside0.mk (Kd.V_mono (Kd.V_told (Kd.V_oldK (Kd.V_mono (ok := fun k_ => (((((P1_0_ k_ ∨ w.heap.size ≤ k_)) ∧ k_ ≠ g) ∧ k_ ≠ gb635) ∧ k_ ≠ gb636)) (y13 HL649_0.out) (fun k_ hk_ => (⟨hk_, hk_.1.1.2⟩ : _ ∧ k_ ≠ g))) hk) (Kd.N_base ho0)) (fun _ h_ => h_.1))
    have HO647 := Aside0.mk (Kd.N_lower (Kd.N_mono (ok' := fun k_ => (P1_0_ k_ ∨ w.heap.size ≤ k_) ∧ k_ ≠ gb635 ∧ k_ ≠ gb636 ∧ k_ ≠ g) ho0 (fun k_ hk_ => ⟨Or.elim hk_ (fun hs_ => hs_.1.1.1) (fun hn_ => (.inr (Nat.le_trans (keep_size (w := w) (g := g) (row := none) (y11 HK.out GW635.out GW636.out)) hn_))), Or.elim hk_ (fun hs_ => hs_.1.2) (fun hn_ => (Kd.freshB (g := gb635) (o := .cells #[.slice (some ad643) l1_0.length c1_0] 30 (0, 0)) (y0 BK635.out) k_ hn_)), Or.elim hk_ (fun hs_ => hs_.2) (fun hn_ => (Kd.freshB (g := gb636) (o := .cells #[.int .i64 0, .slice none 0 0] 55 (0, 0)) (y0 BK636.out) k_ hn_)), Or.elim hk_ (fun hs_ => hs_.1.1.2) (fun hn_ => (IsS95.fresh (y15 HI0.out NB0_635.out NB0_636.out) k_ hn_))⟩)) (keep_size (w := w) (g := g) (row := none) (y11 HK.out GW635.out GW636.out)))
    replace BK635 := Aside0.mk (KeepBut.blk hk (g' := gb635) (o := .cells #[.slice (some ad643) l1_0.length c1_0] 30 (0, 0)) (y0 BK635.out) NB635_0.out (by simp))
    replace BK636 := Aside0.mk (KeepBut.blk hk (g' := gb636) (o := .cells #[.int .i64 0, .slice none 0 0] 55 (0, 0)) (y0 BK636.out) NB636_0.out (by simp))
    replace HK := Aside0.mk (KeepBut.trans (y11 HK.out GW635.out GW636.out) hk (.inl rfl))
    replace HB := Aside0.mk (hb)
    replace HI0 := Aside0.mk (hi)
    (try clear hb)
    (try clear hb2)
    (try clear hk)
    (try clear hi)
    (try clear ho0)
    refine hK.out _ _ ⟨(blk_cell BK635.out 0).trans rfl, HS1_, HS2_⟩ (fun hHeld => ?_)
    clear hK K
    refine norm_ (a' := ?_) ?_ ?_
    rotate_left
    ·show Act.put _ (some 20) _ = _
     simp only [Act.put, List.setIfInBounds_toArray, List.set_cons_zero, List.set_cons_succ, i64_w, i32_w]
     rfl
    refine one_ (i := 11) (N := some 26) #[true, true, true, true, true, true, true, true, true, true, true, true, false, false, false] rfl rfl (one_of HT_.out (by kernel_rfl)) (by decide) (fun K hK => ?_)
    refine goes_ Try.func87 (by kernel_rfl) rfl #[.pointer (some ⟨g, 0, none⟩), .agg #[.slice A649_0 ((rd_T30 l1_0 1).f0).length c649_0]] (by rfl) rfl rfl y4 ?_
    with_reducible refine (ih k (by omega) g s0_0 t648 (fun k_ => (((((P1_0_ k_ ∨ w.heap.size ≤ k_) ∧ k_ ≠ g) ∧ k_ ≠ gb635) ∧ k_ ≠ gb636) ∧ some k_ ≠ (v646 : Value).ownBlock)) _ _ ((rd_T30 l1_0 1).f0) t650 t651 t654 w0 _ ?side1 ?side2 ?side3 A21.out).mono ?_
    (case side1 => exact y15 HI0.out NB0_635.out NB0_636.out)
    (case side2 => exact y12 HB.out HI0.out GE635.out GE636.out)
    (case side3 => exact Kd.V_mono (HL649_0.out) (fun k_ hk_ => ⟨hk_, hk_.1.1.1.2⟩))
    rintro e w29 ⟨v652, rfl, ho0, hi, hb, hk⟩
    have HS1_ := keep_cell hk (hHeld.2.1) (by first | (rw [add_block]; exact (show _ from by have h_ := hf_V_in HO1_0.out (by have h0_ : (0 : Int) < (l1_0.length : Int) := (by first | exact of_eq_true (by assumption) | exact Int.lt_trans (by decide : (0 : Int) < 1) (of_eq_true (by assumption))); omega) (by decide); first | exact h_ | exact h_.1 | exact h_.2 | exact h_.1.1 | exact h_.1.2 | exact h_.2.1 | exact h_.2.2 | exact h_.1.1.1 | exact h_.1.1.2 | exact h_.1.2.1 | exact h_.1.2.2 | exact h_.2.1.1 | exact h_.2.1.2 | exact h_.2.2.1 | exact h_.2.2.2 | exact h_.1.1.1.1 | exact h_.1.1.1.2 | exact h_.1.1.2.1 | exact h_.1.1.2.2 | exact h_.1.2.1.1 | exact h_.1.2.1.2 | exact h_.1.2.2.1 | exact h_.1.2.2.2 | exact h_.2.1.1.1 | exact h_.2.1.1.2 | exact h_.2.1.2.1 | exact h_.2.1.2.2 | exact h_.2.2.1.1 | exact h_.2.2.1.2 | exact h_.2.2.2.1 | exact h_.2.2.2.2 | exact h_.1.1.1.1.1 | exact h_.1.1.1.1.2 | exact h_.1.1.1.2.1 | exact h_.1.1.1.2.2 | exact h_.1.1.2.1.1 | exact h_.1.1.2.1.2 | exact h_.1.1.2.2.1 | exact h_.1.1.2.2.2 | exact h_.1.2.1.1.1 | exact h_.1.2.1.1.2 | exact h_.1.2.1.2.1 | exact h_.1.2.1.2.2 | exact h_.1.2.2.1.1 | exact h_.1.2.2.1.2 | exact h_.1.2.2.2.1 | exact h_.1.2.2.2.2 | exact h_.2.1.1.1.1 | exact h_.2.1.1.1.2 | exact h_.2.1.1.2.1 | exact h_.2.1.1.2.2 | exact h_.2.1.2.1.1 | exact h_.2.1.2.1.2 | exact h_.2.1.2.2.1 | exact h_.2.1.2.2.2 | exact h_.2.2.1.1.1 | exact h_.2.2.1.1.2 | exact h_.2.2.1.2.1 | exact h_.2.2.1.2.2 | exact h_.2.2.2.1.1 | exact h_.2.2.2.1.2 | exact h_.2.2.2.2.1 | exact h_.2.2.2.2.2)) | (show (Addr.add _ _).block ≠ _; rw [add_block]; exact (show _ from by have h_ := hf_V_in HO1_0.out (by have h0_ : (0 : Int) < (l1_0.length : Int) := (by first | exact of_eq_true (by assumption) | exact Int.lt_trans (by decide : (0 : Int) < 1) (of_eq_true (by assumption))); omega) (by decide); first | exact h_ | exact h_.1 | exact h_.2 | exact h_.1.1 | exact h_.1.2 | exact h_.2.1 | exact h_.2.2 | exact h_.1.1.1 | exact h_.1.1.2 | exact h_.1.2.1 | exact h_.1.2.2 | exact h_.2.1.1 | exact h_.2.1.2 | exact h_.2.2.1 | exact h_.2.2.2 | exact h_.1.1.1.1 | exact h_.1.1.1.2 | exact h_.1.1.2.1 | exact h_.1.1.2.2 | exact h_.1.2.1.1 | exact h_.1.2.1.2 | exact h_.1.2.2.1 | exact h_.1.2.2.2 | exact h_.2.1.1.1 | exact h_.2.1.1.2 | exact h_.2.1.2.1 | exact h_.2.1.2.2 | exact h_.2.2.1.1 | exact h_.2.2.1.2 | exact h_.2.2.2.1 | exact h_.2.2.2.2 | exact h_.1.1.1.1.1 | exact h_.1.1.1.1.2 | exact h_.1.1.1.2.1 | exact h_.1.1.1.2.2 | exact h_.1.1.2.1.1 | exact h_.1.1.2.1.2 | exact h_.1.1.2.2.1 | exact h_.1.1.2.2.2 | exact h_.1.2.1.1.1 | exact h_.1.2.1.1.2 | exact h_.1.2.1.2.1 | exact h_.1.2.1.2.2 | exact h_.1.2.2.1.1 | exact h_.1.2.2.1.2 | exact h_.1.2.2.2.1 | exact h_.1.2.2.2.2 | exact h_.2.1.1.1.1 | exact h_.2.1.1.1.2 | exact h_.2.1.1.2.1 | exact h_.2.1.1.2.2 | exact h_.2.1.2.1.1 | exact h_.2.1.2.1.2 | exact h_.2.1.2.2.1 | exact h_.2.1.2.2.2 | exact h_.2.2.1.1.1 | exact h_.2.2.1.1.2 | exact h_.2.2.1.2.1 | exact h_.2.2.1.2.2 | exact h_.2.2.2.1.1 | exact h_.2.2.2.1.2 | exact h_.2.2.2.2.1 | exact h_.2.2.2.2.2)) | exact (show _ from by have h_ := hf_V_in HO1_0.out (by have h0_ : (0 : Int) < (l1_0.length : Int) := (by first | exact of_eq_true (by assumption) | exact Int.lt_trans (by decide : (0 : Int) < 1) (of_eq_true (by assumption))); omega) (by decide); first | exact h_ | exact h_.1 | exact h_.2 | exact h_.1.1 | exact h_.1.2 | exact h_.2.1 | exact h_.2.2 | exact h_.1.1.1 | exact h_.1.1.2 | exact h_.1.2.1 | exact h_.1.2.2 | exact h_.2.1.1 | exact h_.2.1.2 | exact h_.2.2.1 | exact h_.2.2.2 | exact h_.1.1.1.1 | exact h_.1.1.1.2 | exact h_.1.1.2.1 | exact h_.1.1.2.2 | exact h_.1.2.1.1 | exact h_.1.2.1.2 | exact h_.1.2.2.1 | exact h_.1.2.2.2 | exact h_.2.1.1.1 | exact h_.2.1.1.2 | exact h_.2.1.2.1 | exact h_.2.1.2.2 | exact h_.2.2.1.1 | exact h_.2.2.1.2 | exact h_.2.2.2.1 | exact h_.2.2.2.2 | exact h_.1.1.1.1.1 | exact h_.1.1.1.1.2 | exact h_.1.1.1.2.1 | exact h_.1.1.1.2.2 | exact h_.1.1.2.1.1 | exact h_.1.1.2.1.2 | exact h_.1.1.2.2.1 | exact h_.1.1.2.2.2 | exact h_.1.2.1.1.1 | exact h_.1.2.1.1.2 | exact h_.1.2.1.2.1 | exact h_.1.2.1.2.2 | exact h_.1.2.2.1.1 | exact h_.1.2.2.1.2 | exact h_.1.2.2.2.1 | exact h_.1.2.2.2.2 | exact h_.2.1.1.1.1 | exact h_.2.1.1.1.2 | exact h_.2.1.1.2.1 | exact h_.2.1.1.2.2 | exact h_.2.1.2.1.1 | exact h_.2.1.2.1.2 | exact h_.2.1.2.2.1 | exact h_.2.1.2.2.2 | exact h_.2.2.1.1.1 | exact h_.2.2.1.1.2 | exact h_.2.2.1.2.1 | exact h_.2.2.1.2.2 | exact h_.2.2.2.1.1 | exact h_.2.2.2.1.2 | exact h_.2.2.2.2.1 | exact h_.2.2.2.2.2))
    have HS2_ := keep_cell hk (hHeld.2.2) (by first | (rw [add_block]; exact (show _ from by have h_ := hf_V_in HO1_0.out (by have h0_ : (0 : Int) < (l1_0.length : Int) := (by first | exact of_eq_true (by assumption) | exact Int.lt_trans (by decide : (0 : Int) < 1) (of_eq_true (by assumption))); omega) (by decide); first | exact h_ | exact h_.1 | exact h_.2 | exact h_.1.1 | exact h_.1.2 | exact h_.2.1 | exact h_.2.2 | exact h_.1.1.1 | exact h_.1.1.2 | exact h_.1.2.1 | exact h_.1.2.2 | exact h_.2.1.1 | exact h_.2.1.2 | exact h_.2.2.1 | exact h_.2.2.2 | exact h_.1.1.1.1 | exact h_.1.1.1.2 | exact h_.1.1.2.1 | exact h_.1.1.2.2 | exact h_.1.2.1.1 | exact h_.1.2.1.2 | exact h_.1.2.2.1 | exact h_.1.2.2.2 | exact h_.2.1.1.1 | exact h_.2.1.1.2 | exact h_.2.1.2.1 | exact h_.2.1.2.2 | exact h_.2.2.1.1 | exact h_.2.2.1.2 | exact h_.2.2.2.1 | exact h_.2.2.2.2 | exact h_.1.1.1.1.1 | exact h_.1.1.1.1.2 | exact h_.1.1.1.2.1 | exact h_.1.1.1.2.2 | exact h_.1.1.2.1.1 | exact h_.1.1.2.1.2 | exact h_.1.1.2.2.1 | exact h_.1.1.2.2.2 | exact h_.1.2.1.1.1 | exact h_.1.2.1.1.2 | exact h_.1.2.1.2.1 | exact h_.1.2.1.2.2 | exact h_.1.2.2.1.1 | exact h_.1.2.2.1.2 | exact h_.1.2.2.2.1 | exact h_.1.2.2.2.2 | exact h_.2.1.1.1.1 | exact h_.2.1.1.1.2 | exact h_.2.1.1.2.1 | exact h_.2.1.1.2.2 | exact h_.2.1.2.1.1 | exact h_.2.1.2.1.2 | exact h_.2.1.2.2.1 | exact h_.2.1.2.2.2 | exact h_.2.2.1.1.1 | exact h_.2.2.1.1.2 | exact h_.2.2.1.2.1 | exact h_.2.2.1.2.2 | exact h_.2.2.2.1.1 | exact h_.2.2.2.1.2 | exact h_.2.2.2.2.1 | exact h_.2.2.2.2.2)) | (show (Addr.add _ _).block ≠ _; rw [add_block]; exact (show _ from by have h_ := hf_V_in HO1_0.out (by have h0_ : (0 : Int) < (l1_0.length : Int) := (by first | exact of_eq_true (by assumption) | exact Int.lt_trans (by decide : (0 : Int) < 1) (of_eq_true (by assumption))); omega) (by decide); first | exact h_ | exact h_.1 | exact h_.2 | exact h_.1.1 | exact h_.1.2 | exact h_.2.1 | exact h_.2.2 | exact h_.1.1.1 | exact h_.1.1.2 | exact h_.1.2.1 | exact h_.1.2.2 | exact h_.2.1.1 | exact h_.2.1.2 | exact h_.2.2.1 | exact h_.2.2.2 | exact h_.1.1.1.1 | exact h_.1.1.1.2 | exact h_.1.1.2.1 | exact h_.1.1.2.2 | exact h_.1.2.1.1 | exact h_.1.2.1.2 | exact h_.1.2.2.1 | exact h_.1.2.2.2 | exact h_.2.1.1.1 | exact h_.2.1.1.2 | exact h_.2.1.2.1 | exact h_.2.1.2.2 | exact h_.2.2.1.1 | exact h_.2.2.1.2 | exact h_.2.2.2.1 | exact h_.2.2.2.2 | exact h_.1.1.1.1.1 | exact h_.1.1.1.1.2 | exact h_.1.1.1.2.1 | exact h_.1.1.1.2.2 | exact h_.1.1.2.1.1 | exact h_.1.1.2.1.2 | exact h_.1.1.2.2.1 | exact h_.1.1.2.2.2 | exact h_.1.2.1.1.1 | exact h_.1.2.1.1.2 | exact h_.1.2.1.2.1 | exact h_.1.2.1.2.2 | exact h_.1.2.2.1.1 | exact h_.1.2.2.1.2 | exact h_.1.2.2.2.1 | exact h_.1.2.2.2.2 | exact h_.2.1.1.1.1 | exact h_.2.1.1.1.2 | exact h_.2.1.1.2.1 | exact h_.2.1.1.2.2 | exact h_.2.1.2.1.1 | exact h_.2.1.2.1.2 | exact h_.2.1.2.2.1 | exact h_.2.1.2.2.2 | exact h_.2.2.1.1.1 | exact h_.2.2.1.1.2 | exact h_.2.2.1.2.1 | exact h_.2.2.1.2.2 | exact h_.2.2.2.1.1 | exact h_.2.2.2.1.2 | exact h_.2.2.2.2.1 | exact h_.2.2.2.2.2)) | exact (show _ from by have h_ := hf_V_in HO1_0.out (by have h0_ : (0 : Int) < (l1_0.length : Int) := (by first | exact of_eq_true (by assumption) | exact Int.lt_trans (by decide : (0 : Int) < 1) (of_eq_true (by assumption))); omega) (by decide); first | exact h_ | exact h_.1 | exact h_.2 | exact h_.1.1 | exact h_.1.2 | exact h_.2.1 | exact h_.2.2 | exact h_.1.1.1 | exact h_.1.1.2 | exact h_.1.2.1 | exact h_.1.2.2 | exact h_.2.1.1 | exact h_.2.1.2 | exact h_.2.2.1 | exact h_.2.2.2 | exact h_.1.1.1.1 | exact h_.1.1.1.2 | exact h_.1.1.2.1 | exact h_.1.1.2.2 | exact h_.1.2.1.1 | exact h_.1.2.1.2 | exact h_.1.2.2.1 | exact h_.1.2.2.2 | exact h_.2.1.1.1 | exact h_.2.1.1.2 | exact h_.2.1.2.1 | exact h_.2.1.2.2 | exact h_.2.2.1.1 | exact h_.2.2.1.2 | exact h_.2.2.2.1 | exact h_.2.2.2.2 | exact h_.1.1.1.1.1 | exact h_.1.1.1.1.2 | exact h_.1.1.1.2.1 | exact h_.1.1.1.2.2 | exact h_.1.1.2.1.1 | exact h_.1.1.2.1.2 | exact h_.1.1.2.2.1 | exact h_.1.1.2.2.2 | exact h_.1.2.1.1.1 | exact h_.1.2.1.1.2 | exact h_.1.2.1.2.1 | exact h_.1.2.1.2.2 | exact h_.1.2.2.1.1 | exact h_.1.2.2.1.2 | exact h_.1.2.2.2.1 | exact h_.1.2.2.2.2 | exact h_.2.1.1.1.1 | exact h_.2.1.1.1.2 | exact h_.2.1.1.2.1 | exact h_.2.1.1.2.2 | exact h_.2.1.2.1.1 | exact h_.2.1.2.1.2 | exact h_.2.1.2.2.1 | exact h_.2.1.2.2.2 | exact h_.2.2.1.1.1 | exact h_.2.2.1.1.2 | exact h_.2.2.1.2.1 | exact h_.2.2.1.2.2 | exact h_.2.2.2.1.1 | exact h_.2.2.2.1.2 | exact h_.2.2.2.2.1 | exact h_.2.2.2.2.2))
    refine ⟨_, rfl, ?_⟩
    replace HO1_0 := Aside0.mk (Kd.V_mono (Kd.V_told (Kd.V_oldK (Kd.V_mono (ok := fun k_ => ((((((P1_0_ k_ ∨ w.heap.size ≤ k_)) ∧ k_ ≠ g) ∧ k_ ≠ gb635) ∧ k_ ≠ gb636) ∧ some k_ ≠ (v646 : Value).ownBlock)) (y13 HO1_0.out) (fun k_ hk_ => (⟨hk_, hk_.1.1.1.2⟩ : _ ∧ k_ ≠ g))) hk) (Kd.N_base ho0)) (fun _ h_ => h_.1))
    replace HL643_0 := Aside0.mk (Kd.V_mono (Kd.V_told (Kd.V_oldK (Kd.V_mono (ok := fun k_ => ((((((P1_0_ k_ ∨ w.heap.size ≤ k_)) ∧ k_ ≠ g) ∧ k_ ≠ gb635) ∧ k_ ≠ gb636) ∧ some k_ ≠ (v646 : Value).ownBlock)) (y13 HL643_0.out) (fun k_ hk_ => (⟨hk_, hk_.1.1.1.2⟩ : _ ∧ k_ ≠ g))) hk) (Kd.N_base ho0)) (fun _ h_ => h_.1))
    replace HL649_0 := Aside0.mk (Kd.V_mono (Kd.V_told (Kd.V_oldK (Kd.V_mono (ok := fun k_ => ((((((P1_0_ k_ ∨ w.heap.size ≤ k_)) ∧ k_ ≠ g) ∧ k_ ≠ gb635) ∧ k_ ≠ gb636) ∧ some k_ ≠ (v646 : Value).ownBlock)) (y13 HL649_0.out) (fun k_ hk_ => (⟨hk_, hk_.1.1.1.2⟩ : _ ∧ k_ ≠ g))) hk) (Kd.N_base ho0)) (fun _ h_ => h_.1))
    have HO653 := Aside0.mk (Kd.N_lower (Kd.N_mono (ok' := fun k_ => (P1_0_ k_ ∨ w.heap.size ≤ k_) ∧ some k_ ≠ (v646 : Value).ownBlock ∧ k_ ≠ gb635 ∧ k_ ≠ gb636 ∧ k_ ≠ g) ho0 (fun k_ hk_ => ⟨Or.elim hk_ (fun hs_ => hs_.1.1.1.1) (fun hn_ => (.inr (Nat.le_trans (keep_size (w := w) (g := g) (row := none) (y11 HK.out GW635.out GW636.out)) hn_))), Or.elim hk_ (fun hs_ => hs_.2) (fun hn_ => (Kd.fresh' (Kd.N_lt (y9 HO647.out)) k_ hn_)), Or.elim hk_ (fun hs_ => hs_.1.1.2) (fun hn_ => (Kd.freshB (g := gb635) (o := .cells #[.slice (some ad643) l1_0.length c1_0] 30 (0, 0)) (y0 BK635.out) k_ hn_)), Or.elim hk_ (fun hs_ => hs_.1.2) (fun hn_ => (Kd.freshB (g := gb636) (o := .cells #[.int .i64 0, .slice none 0 0] 55 (0, 0)) (y0 BK636.out) k_ hn_)), Or.elim hk_ (fun hs_ => hs_.1.1.1.2) (fun hn_ => (IsS95.fresh (y15 HI0.out NB0_635.out NB0_636.out) k_ hn_))⟩)) (keep_size (w := w) (g := g) (row := none) (y11 HK.out GW635.out GW636.out)))
    replace BK635 := Aside0.mk (KeepBut.blk hk (g' := gb635) (o := .cells #[.slice (some ad643) l1_0.length c1_0] 30 (0, 0)) (y0 BK635.out) NB635_0.out (by simp))
    replace BK636 := Aside0.mk (KeepBut.blk hk (g' := gb636) (o := .cells #[.int .i64 0, .slice none 0 0] 55 (0, 0)) (y0 BK636.out) NB636_0.out (by simp))
    replace HO647 := Aside0.mk (Kd.N_mono (Kd.N_told (Kd.N_oldK (Kd.N_mono (ok := fun k_ => (((P1_0_ k_ ∨ w.heap.size ≤ k_)) ∧ (k_ ≠ gb635 ∧ (k_ ≠ gb636 ∧ k_ ≠ g)))) (y9 HO647.out) (fun k_ hk_ => (⟨hk_, hk_.2.2.2⟩ : _ ∧ k_ ≠ g))) hk) (Kd.N_base ho0)) (fun _ h_ => h_.1))
    replace HK := Aside0.mk (KeepBut.trans (y11 HK.out GW635.out GW636.out) hk (.inl rfl))
    replace HB := Aside0.mk (hb)
    replace HI0 := Aside0.mk (hi)
    (try clear hb)
    (try clear hb2)
    (try clear hk)
    (try clear hi)
    (try clear ho0)
    obtain ⟨Ao30, co30, eo30⟩ := Kd.N_slice HO647.out
    (first | subst eo30 | (injection eo30 with f1_ f2_ f3_; have f4_ := f1_.symm; have f5_ := f3_.symm; clear f1_ f2_ f3_; subst f4_; subst f5_))
    obtain ⟨Ao31, co31, eo31⟩ := Kd.N_slice HO653.out
    (first | subst eo31 | (injection eo31 with f1_ f2_ f3_; have f4_ := f1_.symm; have f5_ := f3_.symm; clear f1_ f2_ f3_; subst f4_; subst f5_))
    refine hK.out _ _ ⟨(blk_cell BK635.out 0).trans rfl, HS1_, HS2_⟩ (fun hHeld => ?_)
    clear hK K
    refine norm_ (a' := ?_) ?_ ?_
    rotate_left
    ·show Act.put _ (some 26) _ = _
     simp only [Act.put, List.setIfInBounds_toArray, List.set_cons_zero, List.set_cons_succ, i64_w, i32_w]
     rfl
    refine one_ (i := 12) (N := some 27) #[true, true, true, true, true, true, true, true, true, true, true, true, true, false, false] rfl rfl (one_of HT_.out (by kernel_rfl)) (by decide) (fun K hK => ?_)
    refine Kd.N_lit_step k55 _ 55 ?hg (N' := 27) ?hd (xs := ([(⟨t644, t645⟩ : S55), (⟨t650, t651⟩ : S55)] : List (S55))) (inner := [.int .i64 t644, .slice Ao30 t645.length co30, .int .i64 t650, .slice Ao31 t651.length co31]) (ok := (fun k_ => (P1_0_ k_ ∨ w.heap.size ≤ k_) ∧ k_ ≠ gb635 ∧ k_ ≠ gb636 ∧ k_ ≠ g)) (okp := (fun k_ => (P1_0_ k_ ∨ w.heap.size ≤ k_) ∧ k_ ≠ gb635 ∧ k_ ≠ gb636 ∧ k_ ≠ g)) ?hr ?hp (fun _ hk => hk) ((show ∀ k_, w29.heap.size ≤ k_ → (fun k_ => (P1_0_ k_ ∨ w.heap.size ≤ k_) ∧ k_ ≠ gb635 ∧ k_ ≠ gb636 ∧ k_ ≠ g) k_ from fun k_ hk => ⟨(.inr (Nat.le_trans (keep_size (w := w) (g := g) (row := none) (y11 HK.out GW635.out GW636.out)) hk)), Kd.freshB (g := gb635) (o := .cells #[.slice (some ad643) l1_0.length c1_0] 30 (0, 0)) (y0 BK635.out) k_ hk, Kd.freshB (g := gb636) (o := .cells #[.int .i64 0, .slice none 0 0] 55 (0, 0)) (y0 BK636.out) k_ hk, IsS95.fresh (y15 HI0.out NB0_635.out NB0_636.out) k_ hk⟩) _ (Nat.le_refl _)) (Below.refl _ _) (Nat.le_refl _) (by simp) ?_; (case hd => rfl); (case hg => rfl); (case hr => first | (go_simp; done) | (go_simp; rfl)); (case hp => exact (Reps.c2 (show Kd.FK k55 _ _ (⟨t644, t645⟩ : S55) [.int .i64 t644, .slice Ao30 t645.length co30] from (k55_mkF _ _ (⟨t644, t645⟩ : S55) (Kd.N_reads' (Kd.N_mono (ok' := (fun k_ => (P1_0_ k_ ∨ w.heap.size ≤ k_) ∧ k_ ≠ gb635 ∧ k_ ≠ gb636 ∧ k_ ≠ g)) (HO647.out) (fun k_ hk => ⟨hk.1.1, ⟨hk.1.2.1, ⟨hk.1.2.2.1, hk.1.2.2.2⟩⟩⟩))).2.1 (Kd.N_F (Kd.N_mono (ok' := (fun k_ => (P1_0_ k_ ∨ w.heap.size ≤ k_) ∧ k_ ≠ gb635 ∧ k_ ≠ gb636 ∧ k_ ≠ g)) (HO647.out) (fun k_ hk => ⟨hk.1.1, ⟨hk.1.2.1, ⟨hk.1.2.2.1, hk.1.2.2.2⟩⟩⟩))))) (Reps.c2 (show Kd.FK k55 _ _ (⟨t650, t651⟩ : S55) [.int .i64 t650, .slice Ao31 t651.length co31] from (k55_mkF _ _ (⟨t650, t651⟩ : S55) (Kd.N_reads' (Kd.N_mono (ok' := (fun k_ => (P1_0_ k_ ∨ w.heap.size ≤ k_) ∧ k_ ≠ gb635 ∧ k_ ≠ gb636 ∧ k_ ≠ g)) (HO653.out) (fun k_ hk => ⟨hk.1, ⟨hk.2.2.1, ⟨hk.2.2.2.1, hk.2.2.2.2⟩⟩⟩))).2.1 (Kd.N_F (Kd.N_mono (ok' := (fun k_ => (P1_0_ k_ ∨ w.heap.size ≤ k_) ∧ k_ ≠ gb635 ∧ k_ ≠ gb636 ∧ k_ ≠ g)) (HO653.out) (fun k_ hk => ⟨hk.1, ⟨hk.2.2.1, ⟨hk.2.2.2.1, hk.2.2.2.2⟩⟩⟩))))) (Reps.none _ _))))
    intro v656 w32 ho33 hb hg_ hnew_
    have HS1_ := (hb.cell (World.block_lt_of_cell? _ _ (hHeld.2.1))).trans (hHeld.2.1)
    have HS2_ := (hb.cell (World.block_lt_of_cell? _ _ (hHeld.2.2))).trans (hHeld.2.2)
    clear hg_ hnew_
    (first | rw [← Ny655.out] at ho33 | (simp only [Int.reduceToNat] at ho33; rw [← Ny655.out] at ho33))
    replace HO1_0 := Aside0.mk (Kd.V_elder' (y13 HO1_0.out) (Kd.N_base ho33) hb)
    replace HL643_0 := Aside0.mk (Kd.V_elder' (y13 HL643_0.out) (Kd.N_base ho33) hb)
    replace HL649_0 := Aside0.mk (Kd.V_elder' (y13 HL649_0.out) (Kd.N_base ho33) hb)
    have HO657 := Aside0.mk (Kd.N_lower ho33 (keep_size (w := w) (g := g) (row := none) (y11 HK.out GW635.out GW636.out)))
    replace BK635 := zbb BK635 hb
    replace BK636 := zbb BK636 hb
    replace HK := Aside0.mk (KeepBut.trans (y11 HK.out GW635.out GW636.out) (KeepBut.of_below hb g none) (.inl rfl))
    replace HB := Aside0.mk (below_step (y12 HB.out HI0.out GE635.out GE636.out) hb)
    replace HI0 := Aside0.mk (IsS95.below (y15 HI0.out NB0_635.out NB0_636.out) hb)
    clear HO647 HO653
    clear hb ho33
    obtain ⟨Ao34, co34, eo34⟩ := Kd.N_slice HO657.out
    (first | subst eo34 | (injection eo34 with f1_ f2_ f3_; have f4_ := f1_.symm; have f5_ := f3_.symm; clear f1_ f2_ f3_; subst f4_; subst f5_))
    refine hK.out _ _ ⟨(blk_cell BK635.out 0).trans rfl, HS1_, HS2_⟩ (fun hHeld => ?_)
    clear hK K
    refine norm_ (a' := ?_) ?_ ?_
    rotate_left
    ·show Act.put _ (some 27) _ = _
     simp only [Act.put, List.setIfInBounds_toArray, List.set_cons_zero, List.set_cons_succ, i64_w, i32_w]
     rfl
    refine zp 13 (some 28) HT_ ?_
    refine one_ (i := 14) (N := none) #[true, true, true, true, true, true, true, true, true, true, true, true, true, true, true] rfl rfl (one_of HT_.out (by kernel_rfl)) (by decide) (fun K hK => ?_)
    have hs35 : w32.cell? ⟨gb636, 0, none⟩ = some (.int .i64 0) := (blk_cell BK636.out 0).trans rfl
    have hfs35 := zfr BK636 0
    have hns35_0 := NB635_636.out
    have hms35_0 := NB636_635.out
    have hs36 : w32.cell? ⟨gb636, 1, none⟩ = some (.slice none 0 0) := (blk_cell BK636.out 1).trans rfl
    have hfs36 := zfr BK636 1
    have hns36_0 := NB635_636.out
    have hms36_0 := NB636_635.out
    refine skip_ (w1 := ?_) (by rfl) rfl ?_ ?_
    rotate_left
    ·go_simp
     rfl
    refine hK.out _ _ ⟨((cell_far (p := ⟨gb636, _, none⟩) NB635_636.out _).trans (((cell_far (p := ⟨gb636, _, none⟩) NB635_636.out _).trans (hHeld.1)))), ((cell_far (p := ⟨gb636, _, none⟩) (by first | exact (hf_V_away HO1_0.out (by first | exact Int.ofNat_lt.1 (of_eq_true (by assumption)) | exact Int.ofNat_lt.1 (Int.lt_trans (by decide : (0 : Int) < 1) (of_eq_true (by assumption)))) (by decide) (fun _ hk => hk.1.1.1.2)) | (rw [add_block]; exact (hf_V_away HO1_0.out (by first | exact Int.ofNat_lt.1 (of_eq_true (by assumption)) | exact Int.ofNat_lt.1 (Int.lt_trans (by decide : (0 : Int) < 1) (of_eq_true (by assumption)))) (by decide) (fun _ hk => hk.1.1.1.2))) | (show (Addr.add _ _).block ≠ _; rw [add_block]; exact (hf_V_away HO1_0.out (by first | exact Int.ofNat_lt.1 (of_eq_true (by assumption)) | exact Int.ofNat_lt.1 (Int.lt_trans (by decide : (0 : Int) < 1) (of_eq_true (by assumption)))) (by decide) (fun _ hk => hk.1.1.1.2))) | (dsimp only; exact (hf_V_away HO1_0.out (by first | exact Int.ofNat_lt.1 (of_eq_true (by assumption)) | exact Int.ofNat_lt.1 (Int.lt_trans (by decide : (0 : Int) < 1) (of_eq_true (by assumption)))) (by decide) (fun _ hk => hk.1.1.1.2)))) _).trans (((cell_far (p := ⟨gb636, _, none⟩) (by first | exact (hf_V_away HO1_0.out (by first | exact Int.ofNat_lt.1 (of_eq_true (by assumption)) | exact Int.ofNat_lt.1 (Int.lt_trans (by decide : (0 : Int) < 1) (of_eq_true (by assumption)))) (by decide) (fun _ hk => hk.1.1.1.2)) | (rw [add_block]; exact (hf_V_away HO1_0.out (by first | exact Int.ofNat_lt.1 (of_eq_true (by assumption)) | exact Int.ofNat_lt.1 (Int.lt_trans (by decide : (0 : Int) < 1) (of_eq_true (by assumption)))) (by decide) (fun _ hk => hk.1.1.1.2))) | (show (Addr.add _ _).block ≠ _; rw [add_block]; exact (hf_V_away HO1_0.out (by first | exact Int.ofNat_lt.1 (of_eq_true (by assumption)) | exact Int.ofNat_lt.1 (Int.lt_trans (by decide : (0 : Int) < 1) (of_eq_true (by assumption)))) (by decide) (fun _ hk => hk.1.1.1.2))) | (dsimp only; exact (hf_V_away HO1_0.out (by first | exact Int.ofNat_lt.1 (of_eq_true (by assumption)) | exact Int.ofNat_lt.1 (Int.lt_trans (by decide : (0 : Int) < 1) (of_eq_true (by assumption)))) (by decide) (fun _ hk => hk.1.1.1.2)))) _).trans (hHeld.2.1)))), ((cell_far (p := ⟨gb636, _, none⟩) (by first | exact (hf_V_away HO1_0.out (by first | exact Int.ofNat_lt.1 (of_eq_true (by assumption)) | exact Int.ofNat_lt.1 (Int.lt_trans (by decide : (0 : Int) < 1) (of_eq_true (by assumption)))) (by decide) (fun _ hk => hk.1.1.1.2)) | (rw [add_block]; exact (hf_V_away HO1_0.out (by first | exact Int.ofNat_lt.1 (of_eq_true (by assumption)) | exact Int.ofNat_lt.1 (Int.lt_trans (by decide : (0 : Int) < 1) (of_eq_true (by assumption)))) (by decide) (fun _ hk => hk.1.1.1.2))) | (show (Addr.add _ _).block ≠ _; rw [add_block]; exact (hf_V_away HO1_0.out (by first | exact Int.ofNat_lt.1 (of_eq_true (by assumption)) | exact Int.ofNat_lt.1 (Int.lt_trans (by decide : (0 : Int) < 1) (of_eq_true (by assumption)))) (by decide) (fun _ hk => hk.1.1.1.2))) | (dsimp only; exact (hf_V_away HO1_0.out (by first | exact Int.ofNat_lt.1 (of_eq_true (by assumption)) | exact Int.ofNat_lt.1 (Int.lt_trans (by decide : (0 : Int) < 1) (of_eq_true (by assumption)))) (by decide) (fun _ hk => hk.1.1.1.2)))) _).trans (((cell_far (p := ⟨gb636, _, none⟩) (by first | exact (hf_V_away HO1_0.out (by first | exact Int.ofNat_lt.1 (of_eq_true (by assumption)) | exact Int.ofNat_lt.1 (Int.lt_trans (by decide : (0 : Int) < 1) (of_eq_true (by assumption)))) (by decide) (fun _ hk => hk.1.1.1.2)) | (rw [add_block]; exact (hf_V_away HO1_0.out (by first | exact Int.ofNat_lt.1 (of_eq_true (by assumption)) | exact Int.ofNat_lt.1 (Int.lt_trans (by decide : (0 : Int) < 1) (of_eq_true (by assumption)))) (by decide) (fun _ hk => hk.1.1.1.2))) | (show (Addr.add _ _).block ≠ _; rw [add_block]; exact (hf_V_away HO1_0.out (by first | exact Int.ofNat_lt.1 (of_eq_true (by assumption)) | exact Int.ofNat_lt.1 (Int.lt_trans (by decide : (0 : Int) < 1) (of_eq_true (by assumption)))) (by decide) (fun _ hk => hk.1.1.1.2))) | (dsimp only; exact (hf_V_away HO1_0.out (by first | exact Int.ofNat_lt.1 (of_eq_true (by assumption)) | exact Int.ofNat_lt.1 (Int.lt_trans (by decide : (0 : Int) < 1) (of_eq_true (by assumption)))) (by decide) (fun _ hk => hk.1.1.1.2)))) _).trans (hHeld.2.2))))⟩ (fun hHeld => ?_)
    clear hK K
    refine done_ (done_of HT_.out (by kernel_rfl)) ?_
    try go_wp2
    refine bodyPost_ret (results_cell_row rfl _ _ gb636 55 #[.int .i64 0, .slice Ao34 y655.length co34] (0, 0) _ rfl (by (with_reducible repeat (first | refine blk_drewN ?_ _ | refine blk_drew ?_ | refine blk_alloc ?_ _)); refine blk_put (cs := #[.int .i64 0, .slice none 0 0]) ?_ 1 _ rfl; (with_reducible repeat (first | refine blk_drewN ?_ _ | refine blk_drew ?_ | refine blk_alloc ?_ _)); apply blk_put (i := 0); (case h => exact y0 BK636.out); (case e => rfl)) Try.underlying55 rfl (by kernel_rfl)) rfl ?_
    exact ⟨_, y14, (by (with_reducible repeat (first | apply Kd.N_alloc | apply Kd.N_drewN | apply Kd.N_drew)); exact Kd.N_mono (Kd.N_far (p := ⟨gb636, 1, none⟩) (Kd.N_far (p := ⟨gb636, 0, none⟩) (Kd.N_mono HO657.out (fun k_ hk => (⟨hk, hk.2.2.1⟩ : _ ∧ k_ ≠ gb636))) (fun _ hk => hk.2) (.int .i64 0)) (fun _ hk => hk.2) (.slice Ao34 y655.length co34)) (fun _ hk => hk.1.1)), (y15 HI0.out NB0_635.out NB0_636.out), (y12 HB.out HI0.out GE635.out GE636.out), (y11 HK.out GW635.out GW636.out)⟩
   ·rw [if_neg c20] at H
    exact absurd H (by simp)
  ·rw [if_neg c18] at H
   exact absurd H (by simp)
end Go.Proofs.Ytjhbhihfifhljaa.PA
end
section
namespace Go.Proofs.Ytjhbhihfifhljaa.PA
open Go.RowKit Go.Proofs.YtjhbhihfifhljaaW.PrintWords Go.Proofs.YtjhbhihfifhljaaW.PrintLast Go.Proofs.YtjhbhihfifhljaaW.PrintMore
attribute [local go_sem] max2_int min2_int max_two min_two max_three min_three max_four min_four
set_option linter.unusedVariables false
set_option linter.unusedSimpArgs false
def spec_l71Bad.l0 : Nat → Int → List Int → Int → Int → List (S55) → Option (Int × (List (S55)) × Int)
 | 0, _, _, _, _, _ => none
 | k + 1, x6, x1000, x1001, x666000, x666001 => if x6 < 5 then (spec_l71Bad.l0 k (wrap64 (x6 + 1)) x1000 x1001 0 (([(⟨x666000, x666001⟩ : S55), (⟨0, ([] : List (S55))⟩ : S55)] : List (S55)))) else (some (x666000, x666001, x1001))
def spec_l71Bad.f (k : Nat) (s0_0 : List Int) (s0_1 : Int) (l1_0 : List (S30)) : Option (Int × (List (S55)) × Int) := (spec_l71Val.f k s0_0 s0_1 l1_0).bind fun bt660 => ((spec_l6Rd_pick.f k s0_0 bt660.2.2 12).bind fun bt666 => (if bt666.1 = 0 then ((some (([(-1), 1, 9999, 10000] : List Int) : List Int)).bind fun y668 => ((spec_l6Rd_pick.f k s0_0 bt666.2 4).bind fun bt671 => (if 0 ≤ bt671.1 then (if bt671.1 < (y668.length : Int) then (some (rd y668 bt671.1, bt660.2.1, bt671.2)) else (none)) else (none)))) else (if bt666.1 = 1 then (if bt660.2.1.length < 4398046511104 then (some (bt660.1, (bt660.2.1 ++ [(⟨0, ([] : List (S55))⟩ : S55)]), bt666.2)) else (none)) else (if bt666.1 = 2 then (spec_l71Bad.l0 k 0 s0_0 bt666.2 bt660.1 bt660.2.1) else (some (bt660.1, bt660.2.1, bt666.2))))))
theorem spec_l71Bad.mono_l : ∀ k, (∀ y0 y1 y2 y3 y4, LeO (spec_l71Bad.l0 k y0 y1 y2 y3 y4) (spec_l71Bad.l0 (k + 1) y0 y1 y2 y3 y4))
 | 0 => fun _ _ _ _ _ r h => by simp [spec_l71Bad.l0] at h
 | k + 1 => by
  have ih0 := spec_l71Bad.mono_l k
  ·intro y0 y1 y2 y3 y4
   unfold spec_l71Bad.l0
   repeat' first
   | (with_reducible exact ih0 _ _ _ _ _)
   | (with_reducible exact spec_l6Rd_pick.mono _ _ _ _)
   | (with_reducible exact spec_l71Val.mono _ _ _ _)
   | (with_reducible exact LeO.refl _)
   | (with_reducible exact LeO.none _)
   | (with_reducible refine LeO.ite ?_ ?_)
   | (with_reducible refine LeO.bind ?_ (fun _ => ?_))
   | exact ih0 _ _ _ _ _
   | exact spec_l6Rd_pick.mono _ _ _ _
   | exact spec_l71Val.mono _ _ _ _
   | exact LeO.none _
   | refine LeO.ite ?_ ?_
   | refine LeO.bind ?_ (fun _ => ?_)
theorem spec_l71Bad.mono : ∀ a0 a1 a2 k, LeO (spec_l71Bad.f k a0 a1 a2) (spec_l71Bad.f (k + 1) a0 a1 a2) := by
 intro a0 a1 a2 k
 have ih0 := spec_l71Bad.mono_l k
 unfold spec_l71Bad.f
 repeat' first
   | (with_reducible exact ih0 _ _ _ _ _)
   | (with_reducible exact spec_l6Rd_pick.mono _ _ _ _)
   | (with_reducible exact spec_l71Val.mono _ _ _ _)
   | (with_reducible exact LeO.refl _)
   | (with_reducible exact LeO.none _)
   | (with_reducible refine LeO.ite ?_ ?_)
   | (with_reducible refine LeO.bind ?_ (fun _ => ?_))
   | exact ih0 _ _ _ _ _
   | exact spec_l6Rd_pick.mono _ _ _ _
   | exact spec_l71Val.mono _ _ _ _
   | exact LeO.none _
   | refine LeO.ite ?_ ?_
   | refine LeO.bind ?_ (fun _ => ?_)
set_option maxHeartbeats 8000000 in
set_option maxRecDepth 100000 in
theorem spec_l71Bad.calls (k : Nat) (g : Nat) (s0_0 : List Int) (s0_1 : Int) (P1_0_ : Nat → Prop) (A1_0 : Option Addr) (c1_0 : Nat) (l1_0 : List (S30)) (r1 : Int) (r2 : List (S55)) (r3 : Int) (w0 w : World) (hI : IsS95 w0 w g s0_0 s0_1) (hB : Below w0.heap.size w0 w) (hs1_0 : Kd.V k30 30 w w.heap.size (fun k_ => P1_0_ k_ ∧ k_ ≠ g) (.slice A1_0 l1_0.length c1_0) l1_0) (h : spec_l71Bad.f k s0_0 s0_1 l1_0 = some (r1, r2, r3)) :
  Calls Try.prog 68 #[.pointer (some ⟨g, 0, none⟩), .agg #[.slice A1_0 l1_0.length c1_0]] w fun e w' => ∃ v1_ : Value, e = .returned (.agg #[.int .i64 r1, v1_]) ∧ Kd.N k55 55 w' w.heap.size (fun k_ => (P1_0_ k_ ∨ w.heap.size ≤ k_)) v1_ r2 ∧ IsS95 w0 w' g s0_0 r3 ∧ Below w0.heap.size w0 w' ∧ KeepBut w w' g none := by
 have hu30 := Try.underlying30
 have hu55 := Try.underlying55
 have HO1_0 := Aside0.mk (show Kd.V k30 30 w w.heap.size (fun k_ => (P1_0_ k_ ∨ w.heap.size ≤ k_) ∧ k_ ≠ g) (.slice A1_0 l1_0.length c1_0) l1_0 from Kd.V_mono hs1_0 (fun k_ hk => ⟨.inl hk.1, hk.2⟩))
 have HI0 := Aside0.mk hI
 have HK := Aside0.mk (KeepBut.refl w g none)
 have HL := Aside0.mk hB.size
 clear hI
 have HW0 := Aside0.mk hB.size
 have HB := Aside0.mk hB
 clear hB
 have H : ((spec_l71Val.f k s0_0 s0_1 l1_0).bind fun bt660 => ((spec_l6Rd_pick.f k s0_0 bt660.2.2 12).bind fun bt666 => (if bt666.1 = 0 then ((some (([(-1), 1, 9999, 10000] : List Int) : List Int)).bind fun y668 => ((spec_l6Rd_pick.f k s0_0 bt666.2 4).bind fun bt671 => (if 0 ≤ bt671.1 then (if bt671.1 < (y668.length : Int) then (some (rd y668 bt671.1, bt660.2.1, bt671.2)) else (none)) else (none)))) else (if bt666.1 = 1 then (if bt660.2.1.length < 4398046511104 then (some (bt660.1, (bt660.2.1 ++ [(⟨0, ([] : List (S55))⟩ : S55)]), bt666.2)) else (none)) else (if bt666.1 = 2 then (spec_l71Bad.l0 k 0 s0_0 bt666.2 bt660.1 bt660.2.1) else (some (bt660.1, bt660.2.1, bt666.2))))))) = some (r1, r2, r3) := h
 clear h
 obtain ⟨⟨t660, t661, t664⟩, A30, H⟩ := ob H
 have A3 := Aside0.mk A30
 clear A30
 obtain ⟨⟨t666, t667⟩, A40, H⟩ := ob H
 have A4 := Aside0.mk A40
 clear A40
 by_cases c5 : t666 = 0
 ·rw [if_pos c5] at H
  have c5b0 : (t666 == 0) = true := beq_iff_eq.mpr c5
  have c5b1 : (t666 != 0) = false := bne_eq_false_iff_eq.mpr c5
  clear c5
  obtain ⟨y668, hy668⟩ : ∃ y_ : List Int, y_ = (([(-1), 1, 9999, 10000] : List Int)) := ⟨_, rfl⟩
  replace H : ((spec_l6Rd_pick.f k s0_0 t667 4).bind fun bt671 => (if 0 ≤ bt671.1 then (if bt671.1 < (y668.length : Int) then (some (rd y668 bt671.1, t661, bt671.2)) else (none)) else (none))) = some (r1, r2, r3) := by first | (rw [hy668]; with_reducible exact H) | (have H2_ := (Option.bind_some _ _).symm.trans H; rw [hy668]; with_reducible exact H2_) | (have H2_ := (Option.bind_some _ _).symm.trans H; with_reducible exact H2_) | with_reducible exact H | (rw [hy668]; exact H) | exact H
  have Ny668 := Aside0.mk hy668
  clear hy668
  obtain ⟨⟨t671, t672⟩, A60, H⟩ := ob H
  have A6 := Aside0.mk A60
  clear A60
  by_cases c7 : 0 ≤ t671
  ·rw [if_pos c7] at H
   have c7b0 : decide (0 ≤ t671) = true := decide_eq_true c7
   clear c7
   by_cases c8 : t671 < (y668.length : Int)
   ·rw [if_pos c8] at H
    have c8b0 : decide (t671 < (y668.length : Int)) = true := decide_eq_true c8
    clear c8
    simp only [Option.some.injEq, Prod.mk.injEq] at H
    obtain ⟨rfl, rfl, rfl⟩ := H
    go_enter Try.func68, Try.ntmps68
    go_wp2_with (first | ((with_reducible refine gate_dst (N := 3) rfl ?_); refine zbx 3 #[.slice A1_0 l1_0.length c1_0] 30 ?_; intro gb658 hg w9 hbox hb; replace HO1_0 := Aside0.mk (Kd.V_below (Kd.V_elderB (y13 HO1_0.out) gb658 (Nat.le_of_eq hg.symm)) hb); replace HB := Aside0.mk (below_step (y33 HB.out HI0.out) hb); have BK658 := Aside0.mk hbox; have GW658 := Aside0.mk ((by rw [hg]; exact (keep_size (w := w) (g := g) (row := none) (y25 HK.out)) : w.heap.size ≤ gb658)); have GE658 := Aside0.mk ((Nat.le_trans HW0.out (by rw [hg]; exact (keep_size (w := w) (g := g) (row := none) (y25 HK.out)) : w.heap.size ≤ gb658) : w0.heap.size ≤ gb658)); replace HK := Aside0.mk (KeepBut.trans (y25 HK.out) (KeepBut.of_below hb g none) (.inl rfl)); have NB0_658 := Aside0.mk ((by rw [hg]; exact Nat.ne_of_lt (IsS95.lt (show IsS95 w0 _ g s0_0 s0_1 from by repeat (first | (with_reducible first | exact HI0.out | apply IsS95.alloc | apply IsS95.drewN | apply IsS95.drew | apply IsS95.set_1) | exact HI0.out))) : g ≠ gb658)); have NB658_0 := Aside0.mk ((by rw [hg]; exact Nat.ne_of_gt (IsS95.lt (show IsS95 w0 _ g s0_0 s0_1 from by repeat (first | (with_reducible first | exact HI0.out | apply IsS95.alloc | apply IsS95.drewN | apply IsS95.drew | apply IsS95.set_1) | exact HI0.out))) : gb658 ≠ g)); replace HI0 := Aside0.mk (IsS95.below (y35 HI0.out) hb); clear hb hbox hg) | ((with_reducible refine gate_dst (N := 4) rfl ?_); refine zbx 4 #[.int .i64 0, .slice none 0 0] 55 ?_; intro gb659 hg w10 hbox hb; replace HO1_0 := Aside0.mk (Kd.V_below (Kd.V_elderB (y13 HO1_0.out) gb659 (Nat.le_of_eq hg.symm)) hb); replace HB := Aside0.mk (below_step (y23 HB.out HI0.out GE658.out) hb); have BK659 := Aside0.mk hbox; have GW659 := Aside0.mk ((by rw [hg]; exact (keep_size (w := w) (g := g) (row := none) (y18 HK.out GW658.out)) : w.heap.size ≤ gb659)); have GE659 := Aside0.mk ((Nat.le_trans HW0.out (by rw [hg]; exact (keep_size (w := w) (g := g) (row := none) (y18 HK.out GW658.out)) : w.heap.size ≤ gb659) : w0.heap.size ≤ gb659)); replace HK := Aside0.mk (KeepBut.trans (y18 HK.out GW658.out) (KeepBut.of_below hb g none) (.inl rfl)); have NB658_659 := zltn hg BK658; have NB659_658 := zgtn hg BK658; replace BK658 := zbb BK658 hb; have NB0_659 := Aside0.mk ((by rw [hg]; exact Nat.ne_of_lt (IsS95.lt (show IsS95 w0 _ g s0_0 s0_1 from by repeat (first | (with_reducible first | exact HI0.out | apply IsS95.alloc | apply IsS95.drewN | apply IsS95.drew | apply IsS95.set_1 | refine IsS95.far ?_ NB0_658.out _) | exact HI0.out))) : g ≠ gb659)); have NB659_0 := Aside0.mk ((by rw [hg]; exact Nat.ne_of_gt (IsS95.lt (show IsS95 w0 _ g s0_0 s0_1 from by repeat (first | (with_reducible first | exact HI0.out | apply IsS95.alloc | apply IsS95.drewN | apply IsS95.drew | apply IsS95.set_1 | refine IsS95.far ?_ NB0_658.out _) | exact HI0.out))) : gb659 ≠ g)); replace HI0 := Aside0.mk (IsS95.below (y24 HI0.out NB0_658.out) hb); clear hb hbox hg; have hnb11 := NB658_659.out; have hnc11 := NB659_658.out; have hnb12 := NB658_0.out; have hnc12 := NB0_658.out; have hcz13_0 := zh BK658; have hfz13_0 := zfr BK658 0) | ((with_reducible refine gate_callee (f := 87) rfl ?_); refine goesL_ (some 9) rfl rfl Try.func87 (by kernel_rfl) rfl #[.pointer (some ⟨g, 0, none⟩), .agg #[.slice A1_0 l1_0.length c1_0]] rfl y4 ?_; (with_reducible refine (spec_l71Val.calls k g s0_0 s0_1 (fun k_ => ((((P1_0_ k_ ∨ w.heap.size ≤ k_) ∧ k_ ≠ g) ∧ k_ ≠ gb658) ∧ k_ ≠ gb659)) _ _ l1_0 t660 t661 t664 w0 _ ?side1 ?side2 ?side3 A3.out).mono ?_); (case side1 => exact y15 HI0.out NB0_658.out NB0_659.out); (case side2 => exact y12 HB.out HI0.out GE658.out GE659.out); (case side3 => exact y80 HO1_0.out); rintro e w14 ⟨v662, rfl, ho0, hi, hb, hk⟩; refine ⟨_, rfl, ?_⟩; replace HO1_0 := Aside0.mk (Kd.V_mono (Kd.V_told (Kd.V_oldK (Kd.V_mono (ok := fun k_ => (((((P1_0_ k_ ∨ w.heap.size ≤ k_)) ∧ k_ ≠ g) ∧ k_ ≠ gb658) ∧ k_ ≠ gb659)) (y13 HO1_0.out) (fun k_ hk_ => (⟨hk_, hk_.1.1.2⟩ : _ ∧ k_ ≠ g))) hk) (Kd.N_base ho0)) (fun _ h_ => h_.1)); have HO663 := Aside0.mk (Kd.N_lower (Kd.N_mono (ok' := fun k_ => (P1_0_ k_ ∨ w.heap.size ≤ k_) ∧ k_ ≠ gb658 ∧ k_ ≠ gb659 ∧ k_ ≠ g) ho0 (fun k_ hk_ => ⟨Or.elim hk_ (fun hs_ => hs_.1.1.1) (fun hn_ => (.inr (Nat.le_trans (keep_size (w := w) (g := g) (row := none) (y11 HK.out GW658.out GW659.out)) hn_))), Or.elim hk_ (fun hs_ => hs_.1.2) (fun hn_ => (Kd.freshB (g := gb658) (o := .cells #[.slice A1_0 l1_0.length c1_0] 30 (0, 0)) (y0 BK658.out) k_ hn_)), Or.elim hk_ (fun hs_ => hs_.2) (fun hn_ => (Kd.freshB (g := gb659) (o := .cells #[.int .i64 0, .slice none 0 0] 55 (0, 0)) (y0 BK659.out) k_ hn_)), Or.elim hk_ (fun hs_ => hs_.1.1.2) (fun hn_ => (IsS95.fresh (y15 HI0.out NB0_658.out NB0_659.out) k_ hn_))⟩)) (keep_size (w := w) (g := g) (row := none) (y11 HK.out GW658.out GW659.out))); replace BK658 := Aside0.mk (KeepBut.blk hk (g' := gb658) (o := .cells #[.slice A1_0 l1_0.length c1_0] 30 (0, 0)) (y0 BK658.out) NB658_0.out (by simp)); replace BK659 := Aside0.mk (KeepBut.blk hk (g' := gb659) (o := .cells #[.int .i64 0, .slice none 0 0] 55 (0, 0)) (y0 BK659.out) NB659_0.out (by simp)); replace HK := Aside0.mk (KeepBut.trans (y11 HK.out GW658.out GW659.out) hk (.inl rfl)); replace HB := Aside0.mk (hb); replace HI0 := Aside0.mk (hi); (try clear hb); (try clear hb2); (try clear hk); (try clear hi); (try clear ho0)) | ((with_reducible refine gate_dst (N := 5) rfl ?_); refine zbx 5 #[.int .i64 0, .slice none 0 0] 55 ?_; intro gb665 hg w15 hbox hb; replace HO1_0 := Aside0.mk (Kd.V_below (Kd.V_elderB (y13 HO1_0.out) gb665 (Nat.le_of_eq hg.symm)) hb); replace HO663 := Aside0.mk (Kd.N_below (Kd.N_elderB (y9 HO663.out) gb665 (Nat.le_of_eq hg.symm)) hb); replace HB := Aside0.mk (below_step (y12 HB.out HI0.out GE658.out GE659.out) hb); have BK665 := Aside0.mk hbox; have GW665 := Aside0.mk ((by rw [hg]; exact (keep_size (w := w) (g := g) (row := none) (y11 HK.out GW658.out GW659.out)) : w.heap.size ≤ gb665)); have GE665 := Aside0.mk ((Nat.le_trans HW0.out (by rw [hg]; exact (keep_size (w := w) (g := g) (row := none) (y11 HK.out GW658.out GW659.out)) : w.heap.size ≤ gb665) : w0.heap.size ≤ gb665)); replace HK := Aside0.mk (KeepBut.trans (y11 HK.out GW658.out GW659.out) (KeepBut.of_below hb g none) (.inl rfl)); have NB658_665 := zltn hg BK658; have NB665_658 := zgtn hg BK658; replace BK658 := zbb BK658 hb; have NB659_665 := zltn hg BK659; have NB665_659 := zgtn hg BK659; replace BK659 := zbb BK659 hb; have NB0_665 := Aside0.mk ((by rw [hg]; exact Nat.ne_of_lt (IsS95.lt (show IsS95 w0 _ g s0_0 t664 from by repeat (first | (with_reducible first | exact HI0.out | apply IsS95.alloc | apply IsS95.drewN | apply IsS95.drew | apply IsS95.set_1 | refine IsS95.far ?_ NB0_658.out _ | refine IsS95.far ?_ NB0_659.out _) | exact HI0.out))) : g ≠ gb665)); have NB665_0 := Aside0.mk ((by rw [hg]; exact Nat.ne_of_gt (IsS95.lt (show IsS95 w0 _ g s0_0 t664 from by repeat (first | (with_reducible first | exact HI0.out | apply IsS95.alloc | apply IsS95.drewN | apply IsS95.drew | apply IsS95.set_1 | refine IsS95.far ?_ NB0_658.out _ | refine IsS95.far ?_ NB0_659.out _) | exact HI0.out))) : gb665 ≠ g)); replace HI0 := Aside0.mk (IsS95.below (y15 HI0.out NB0_658.out NB0_659.out) hb); clear hb hbox hg; have hnb16 := NB665_658.out; have hnc16 := NB658_665.out; have hnb17 := NB665_659.out; have hnc17 := NB659_665.out; have hnb18 := NB665_0.out; have hnc18 := NB0_665.out; have hcz19_0 := zh BK665; have hcz19_1 := zh1 BK665; have hfz19_0 := zfr BK665 0; have hfz19_1 := zfr BK665 1; obtain ⟨Ao20, co20, eo20⟩ := Kd.N_slice HO663.out; subst eo20) | ((with_reducible refine gate_callee (f := 58) rfl ?_); refine goesL_ (some 11) rfl rfl Try.func58 (by kernel_rfl) rfl #[.pointer (some ⟨g, 0, none⟩), .int .i64 12] rfl y4 ?_; (with_reducible refine (spec_l6Rd_pick.calls k g s0_0 t664 12 t666 t667 w0 _ ?side1 ?side2 A4.out).mono ?_); (case side1 => exact y28 HI0.out NB0_658.out NB0_659.out NB0_665.out); (case side2 => exact y22 HB.out HI0.out GE658.out GE659.out GE665.out); rintro e w21 ⟨rfl, hi, hb, hk⟩; refine ⟨_, rfl, ?_⟩; replace HO1_0 := Aside0.mk (Kd.V_mono (Kd.V_keep (Kd.V_mono (ok := fun k_ => (((((((P1_0_ k_ ∨ w.heap.size ≤ k_)) ∧ k_ ≠ g) ∧ k_ ≠ gb658) ∧ k_ ≠ gb659) ∧ some k_ ≠ (.slice Ao20 t661.length co20 : Value).ownBlock) ∧ k_ ≠ gb665)) (by (with_reducible repeat (first | apply Kd.V_alloc | apply Kd.V_drewN | apply Kd.V_drew)); exact (Kd.V_mono (Kd.V_far (p := ⟨gb665, 1, none⟩) (Kd.V_far (p := ⟨gb665, 0, none⟩) (Kd.V_mono HO1_0.out (fun k_ hk => (⟨hk, hk.2⟩ : _ ∧ k_ ≠ gb665))) (fun _ hk => hk.2) (.int .i64 t660)) (fun _ hk => hk.2) (.slice Ao20 t661.length co20)) (fun _ h_ => h_.1))) (fun k_ hk_ => (⟨hk_, hk_.1.1.1.1.2⟩ : _ ∧ k_ ≠ g))) hk (fun _ h => h.2)) (fun _ h => h.1)); replace BK658 := Aside0.mk (KeepBut.blk hk (g' := gb658) (o := .cells #[.slice A1_0 l1_0.length c1_0] 30 (0, 0)) (y17 NB658_665.out BK658.out) NB658_0.out (by simp)); replace BK659 := Aside0.mk (KeepBut.blk hk (g' := gb659) (o := .cells #[.int .i64 0, .slice none 0 0] 55 (0, 0)) (y17 NB659_665.out BK659.out) NB659_0.out (by simp)); replace HO663 := Aside0.mk (Kd.N_mono (Kd.N_keep (Kd.N_mono (ok := fun k_ => ((((P1_0_ k_ ∨ w.heap.size ≤ k_)) ∧ (k_ ≠ gb658 ∧ (k_ ≠ gb659 ∧ k_ ≠ g))) ∧ k_ ≠ gb665)) (by (with_reducible repeat (first | apply Kd.N_alloc | apply Kd.N_drewN | apply Kd.N_drew)); exact (Kd.N_mono (Kd.N_far (p := ⟨gb665, 1, none⟩) (Kd.N_far (p := ⟨gb665, 0, none⟩) (Kd.N_mono HO663.out (fun k_ hk => (⟨hk, hk.2⟩ : _ ∧ k_ ≠ gb665))) (fun _ hk => hk.2) (.int .i64 t660)) (fun _ hk => hk.2) (.slice Ao20 t661.length co20)) (fun _ h_ => h_.1))) (fun k_ hk_ => (⟨hk_, hk_.1.2.2.2⟩ : _ ∧ k_ ≠ g))) hk (fun _ h => h.2)) (fun _ h => h.1)); replace BK665 := Aside0.mk (KeepBut.blk hk (g' := gb665) (o := .cells #[.int .i64 t660, .slice Ao20 t661.length co20] 55 (0, 0)) (by (with_reducible repeat (first | refine blk_drewN ?_ _ | refine blk_drew ?_ | refine blk_alloc ?_ _)); refine blk_put (cs := #[.int .i64 t660, .slice none 0 0]) ?_ 1 _ rfl; (with_reducible repeat (first | refine blk_drewN ?_ _ | refine blk_drew ?_ | refine blk_alloc ?_ _)); apply blk_put (i := 0); (case h => exact y0 BK665.out); (case e => rfl)) NB665_0.out (by simp)); replace HK := Aside0.mk (KeepBut.trans (y32 HK.out GW658.out GW659.out GW665.out) hk (.inl rfl)); replace HB := Aside0.mk (hb); replace HI0 := Aside0.mk (hi); (try clear hb); (try clear hb2); (try clear hk); (try clear hi)) | ((with_reducible refine gate_dst (N := 14) rfl ?_); refine Kd.R_lit (Kd.int .i64) _ 3 ?hg (N := 14) ?hd (xs := ([(-1), 1, 9999, 10000] : List Int)) (inner := [.int .i64 (-1), .int .i64 1, .int .i64 9999, .int .i64 10000]) (ok := fun _ => True) (okp := fun _ => True) ?hr ?hp (fun _ hk => hk) trivial (Below.refl _ _) (Nat.le_refl _) (by simp) ?_; (case hd => rfl); (case hg => rfl); (case hr => first | (go_simp; done) | (go_simp; rfl)); (case hp => exact (Reps.one (show Kd.M (Kd.int .i64) _ _ _ (-1) [.int .i64 (-1)] from rfl) (Reps.one (show Kd.M (Kd.int .i64) _ _ _ 1 [.int .i64 1] from rfl) (Reps.one (show Kd.M (Kd.int .i64) _ _ _ 9999 [.int .i64 9999] from rfl) (Reps.one (show Kd.M (Kd.int .i64) _ _ _ 10000 [.int .i64 10000] from rfl) (Reps.none _ _)))))); intro v669 w22 ho23 hb hg_ hnew_; clear hg_ hnew_; (first | rw [← Ny668.out] at ho23 | (simp only [Int.reduceToNat] at ho23; rw [← Ny668.out] at ho23)); replace HO1_0 := Aside0.mk (Kd.V_elder' (y13 HO1_0.out) (Kd.R_base ho23) hb); replace HO663 := Aside0.mk (Kd.N_elder' (y9 HO663.out) (Kd.R_base ho23) hb); have HO670 := Aside0.mk (Kd.R_lower (Kd.R_newM (M := fun k_ => (w.heap.size ≤ k_)) ho23 (keep_size (w := w) (g := g) (row := none) (y32 HK.out GW658.out GW659.out GW665.out)) (fun k_ h_ => h_)) (keep_size (w := w) (g := g) (row := none) (y32 HK.out GW658.out GW659.out GW665.out))); replace BK658 := zbb BK658 hb; replace BK659 := zbb BK659 hb; replace BK665 := zbb BK665 hb; replace HK := Aside0.mk (KeepBut.trans (y32 HK.out GW658.out GW659.out GW665.out) (KeepBut.of_below hb g none) (.inl rfl)); replace HB := Aside0.mk (below_step (y22 HB.out HI0.out GE658.out GE659.out GE665.out) hb); replace HI0 := Aside0.mk (IsS95.below (y28 HI0.out NB0_658.out NB0_659.out NB0_665.out) hb); clear hb ho23) | ((with_reducible refine gate_callee (f := 58) rfl ?_); refine goesL_ (some 16) rfl rfl Try.func58 (by kernel_rfl) rfl #[.pointer (some ⟨g, 0, none⟩), .int .i64 4] rfl y4 ?_; (with_reducible refine (spec_l6Rd_pick.calls k g s0_0 t667 4 t671 t672 w0 _ ?side1 ?side2 A6.out).mono ?_); (case side1 => exact y28 HI0.out NB0_658.out NB0_659.out NB0_665.out); (case side2 => exact y22 HB.out HI0.out GE658.out GE659.out GE665.out); rintro e w24 ⟨rfl, hi, hb, hk⟩; refine ⟨_, rfl, ?_⟩; replace HO1_0 := Aside0.mk (Kd.V_mono (Kd.V_keep (Kd.V_mono (ok := fun k_ => ((((((((P1_0_ k_ ∨ w.heap.size ≤ k_)) ∧ k_ ≠ g) ∧ k_ ≠ gb658) ∧ k_ ≠ gb659) ∧ some k_ ≠ (.slice Ao20 t661.length co20 : Value).ownBlock) ∧ k_ ≠ gb665) ∧ some k_ ≠ (v669 : Value).ownBlock)) (y13 HO1_0.out) (fun k_ hk_ => (⟨hk_, hk_.1.1.1.1.1.2⟩ : _ ∧ k_ ≠ g))) hk (fun _ h => h.2)) (fun _ h => h.1)); replace BK658 := Aside0.mk (KeepBut.blk hk (g' := gb658) (o := .cells #[.slice A1_0 l1_0.length c1_0] 30 (0, 0)) (y0 BK658.out) NB658_0.out (by simp)); replace BK659 := Aside0.mk (KeepBut.blk hk (g' := gb659) (o := .cells #[.int .i64 0, .slice none 0 0] 55 (0, 0)) (y0 BK659.out) NB659_0.out (by simp)); replace HO663 := Aside0.mk (Kd.N_mono (Kd.N_keep (Kd.N_mono (ok := fun k_ => (((((P1_0_ k_ ∨ w.heap.size ≤ k_)) ∧ (k_ ≠ gb658 ∧ (k_ ≠ gb659 ∧ k_ ≠ g))) ∧ k_ ≠ gb665) ∧ some k_ ≠ (v669 : Value).ownBlock)) (y9 HO663.out) (fun k_ hk_ => (⟨hk_, hk_.1.1.2.2.2⟩ : _ ∧ k_ ≠ g))) hk (fun _ h => h.2)) (fun _ h => h.1)); replace BK665 := Aside0.mk (KeepBut.blk hk (g' := gb665) (o := .cells #[.int .i64 t660, .slice Ao20 t661.length co20] 55 (0, 0)) (y0 BK665.out) NB665_0.out (by simp)); replace HO670 := Aside0.mk (Kd.R_mono (Kd.R_keep (IsS95.apart (show IsS95 w0 _ g s0_0 t667 from by repeat (first | (with_reducible first | exact HI0.out | apply IsS95.alloc | apply IsS95.drewN | apply IsS95.drew | apply IsS95.set_1 | refine IsS95.far ?_ NB0_658.out _ | refine IsS95.far ?_ NB0_659.out _ | refine IsS95.far ?_ NB0_665.out _) | exact HI0.out)) (y10 HO670.out) (by decide)) hk (fun _ h => h.2)) (fun _ h => h.1)); replace HK := Aside0.mk (KeepBut.trans (y32 HK.out GW658.out GW659.out GW665.out) hk (.inl rfl)); replace HB := Aside0.mk (hb); replace HI0 := Aside0.mk (hi); (try clear hb); (try clear hb2); (try clear hk); (try clear hi); obtain ⟨Ao25, co25, eo25⟩ := Kd.R_slice HO670.out; subst eo25; have p673 : 0 ≤ (t671 : Int) := of_decide_eq_true y19; have q673 : t671 < (y668.length : Int) := of_decide_eq_true y19; obtain ⟨ad673, e673, hx673_0⟩ := Kd.at_int (Kd.R_reads' HO670.out).2.2 t671 p673 q673; cases e673; replace p673 := eq_true p673; replace q673 := eq_true q673; have hcz26_0 := zh BK665; have hcz26_1 := zh1 BK665; have hfz26_0 := zfr BK665 0; have hfz26_1 := zfr BK665 1; have hnb27 := NB659_0.out; have hnc27 := NB0_659.out; have hcz28_0 := zh BK659; have hcz28_1 := zh1 BK659; have hfz28_0 := zfr BK659 0; have hfz28_1 := zfr BK659 1))
    refine bodyPost_ret (results_cell_row rfl _ _ gb659 55 #[.int .i64 (rd y668 t671), .slice Ao20 t661.length co20] (0, 0) _ rfl (by (with_reducible repeat (first | refine blk_drewN ?_ _ | refine blk_drew ?_ | refine blk_alloc ?_ _)); refine blk_put (cs := #[.int .i64 (rd y668 t671), .slice none 0 0]) ?_ 1 _ rfl; (with_reducible repeat (first | refine blk_drewN ?_ _ | refine blk_drew ?_ | refine blk_alloc ?_ _)); refine blk_put (cs := #[.int .i64 0, .slice none 0 0]) ?_ 0 _ rfl; (with_reducible repeat (first | refine blk_drewN ?_ _ | refine blk_drew ?_ | refine blk_alloc ?_ _)); refine blk_far ?_ NB659_665.out _; (with_reducible repeat (first | refine blk_drewN ?_ _ | refine blk_drew ?_ | refine blk_alloc ?_ _)); exact BK659.out) Try.underlying55 rfl (by kernel_rfl)) rfl ?_
    exact ⟨_, y14, (by (with_reducible repeat (first | apply Kd.N_alloc | apply Kd.N_drewN | apply Kd.N_drew)); exact Kd.N_mono (Kd.N_far (p := ⟨gb659, 1, none⟩) (Kd.N_far (p := ⟨gb659, 0, none⟩) (Kd.N_far (p := ⟨gb665, 0, none⟩) (Kd.N_mono (Kd.N_mono HO663.out (fun k_ hk => (⟨hk, hk.1.2⟩ : _ ∧ k_ ≠ gb665))) (fun k_ hk => (⟨hk, hk.1.1.1.2.2.1⟩ : _ ∧ k_ ≠ gb659))) (fun _ hk => hk.1.2) (.int .i64 (rd y668 t671))) (fun _ hk => hk.2) (.int .i64 (rd y668 t671))) (fun _ hk => hk.2) (.slice Ao20 t661.length co20)) (fun _ hk => hk.1.1.1.1.1)), (y28 HI0.out NB0_658.out NB0_659.out NB0_665.out), (y22 HB.out HI0.out GE658.out GE659.out GE665.out), (y32 HK.out GW658.out GW659.out GW665.out)⟩
   ·rw [if_neg c8] at H
    exact absurd H (by simp)
  ·rw [if_neg c7] at H
   exact absurd H (by simp)
 ·rw [if_neg c5] at H
  have c5b0 : (t666 == 0) = false := beq_eq_false_iff_ne.mpr c5
  have c5b1 : (t666 != 0) = true := bne_iff_ne.mpr c5
  by_cases c29 : t666 = 1
  ·rw [if_pos c29] at H
   have c29b0 : (t666 == 1) = true := beq_iff_eq.mpr c29
   have c29b1 : (t666 != 1) = false := bne_eq_false_iff_eq.mpr c29
   clear c29
   by_cases c30 : t661.length < 4398046511104
   ·rw [if_pos c30] at H
    have LMc30 := Aside0.mk c30
    clear c30
    obtain ⟨y674, hy674⟩ : ∃ y_ : List (S55), y_ = (t661 ++ [(⟨0, ([] : List (S55))⟩ : S55)]) := ⟨_, rfl⟩
    replace H : (some (t660, y674, t667)) = some (r1, r2, r3) := by first | (rw [hy674]; with_reducible exact H) | (have H2_ := (Option.bind_some _ _).symm.trans H; rw [hy674]; with_reducible exact H2_) | (have H2_ := (Option.bind_some _ _).symm.trans H; with_reducible exact H2_) | with_reducible exact H | (rw [hy674]; exact H) | exact H
    have Ny674 := Aside0.mk hy674
    clear hy674
    simp only [Option.some.injEq, Prod.mk.injEq] at H
    obtain ⟨rfl, rfl, rfl⟩ := H
    go_enter Try.func68, Try.ntmps68
    go_wp2_with (first | ((with_reducible refine gate_dst (N := 3) rfl ?_); refine zbx 3 #[.slice A1_0 l1_0.length c1_0] 30 ?_; intro gb658 hg w31 hbox hb; replace HO1_0 := Aside0.mk (Kd.V_below (Kd.V_elderB (y13 HO1_0.out) gb658 (Nat.le_of_eq hg.symm)) hb); replace HB := Aside0.mk (below_step (y33 HB.out HI0.out) hb); have BK658 := Aside0.mk hbox; have GW658 := Aside0.mk ((by rw [hg]; exact (keep_size (w := w) (g := g) (row := none) (y25 HK.out)) : w.heap.size ≤ gb658)); have GE658 := Aside0.mk ((Nat.le_trans HW0.out (by rw [hg]; exact (keep_size (w := w) (g := g) (row := none) (y25 HK.out)) : w.heap.size ≤ gb658) : w0.heap.size ≤ gb658)); replace HK := Aside0.mk (KeepBut.trans (y25 HK.out) (KeepBut.of_below hb g none) (.inl rfl)); have NB0_658 := Aside0.mk ((by rw [hg]; exact Nat.ne_of_lt (IsS95.lt (show IsS95 w0 _ g s0_0 s0_1 from by repeat (first | (with_reducible first | exact HI0.out | apply IsS95.alloc | apply IsS95.drewN | apply IsS95.drew | apply IsS95.set_1) | exact HI0.out))) : g ≠ gb658)); have NB658_0 := Aside0.mk ((by rw [hg]; exact Nat.ne_of_gt (IsS95.lt (show IsS95 w0 _ g s0_0 s0_1 from by repeat (first | (with_reducible first | exact HI0.out | apply IsS95.alloc | apply IsS95.drewN | apply IsS95.drew | apply IsS95.set_1) | exact HI0.out))) : gb658 ≠ g)); replace HI0 := Aside0.mk (IsS95.below (y35 HI0.out) hb); clear hb hbox hg) | ((with_reducible refine gate_dst (N := 4) rfl ?_); refine zbx 4 #[.int .i64 0, .slice none 0 0] 55 ?_; intro gb659 hg w32 hbox hb; replace HO1_0 := Aside0.mk (Kd.V_below (Kd.V_elderB (y13 HO1_0.out) gb659 (Nat.le_of_eq hg.symm)) hb); replace HB := Aside0.mk (below_step (y23 HB.out HI0.out GE658.out) hb); have BK659 := Aside0.mk hbox; have GW659 := Aside0.mk ((by rw [hg]; exact (keep_size (w := w) (g := g) (row := none) (y18 HK.out GW658.out)) : w.heap.size ≤ gb659)); have GE659 := Aside0.mk ((Nat.le_trans HW0.out (by rw [hg]; exact (keep_size (w := w) (g := g) (row := none) (y18 HK.out GW658.out)) : w.heap.size ≤ gb659) : w0.heap.size ≤ gb659)); replace HK := Aside0.mk (KeepBut.trans (y18 HK.out GW658.out) (KeepBut.of_below hb g none) (.inl rfl)); have NB658_659 := zltn hg BK658; have NB659_658 := zgtn hg BK658; replace BK658 := zbb BK658 hb; have NB0_659 := Aside0.mk ((by rw [hg]; exact Nat.ne_of_lt (IsS95.lt (show IsS95 w0 _ g s0_0 s0_1 from by repeat (first | (with_reducible first | exact HI0.out | apply IsS95.alloc | apply IsS95.drewN | apply IsS95.drew | apply IsS95.set_1 | refine IsS95.far ?_ NB0_658.out _) | exact HI0.out))) : g ≠ gb659)); have NB659_0 := Aside0.mk ((by rw [hg]; exact Nat.ne_of_gt (IsS95.lt (show IsS95 w0 _ g s0_0 s0_1 from by repeat (first | (with_reducible first | exact HI0.out | apply IsS95.alloc | apply IsS95.drewN | apply IsS95.drew | apply IsS95.set_1 | refine IsS95.far ?_ NB0_658.out _) | exact HI0.out))) : gb659 ≠ g)); replace HI0 := Aside0.mk (IsS95.below (y24 HI0.out NB0_658.out) hb); clear hb hbox hg; have hnb33 := NB658_659.out; have hnc33 := NB659_658.out; have hnb34 := NB658_0.out; have hnc34 := NB0_658.out; have hcz35_0 := zh BK658; have hfz35_0 := zfr BK658 0) | ((with_reducible refine gate_callee (f := 87) rfl ?_); refine goesL_ (some 9) rfl rfl Try.func87 (by kernel_rfl) rfl #[.pointer (some ⟨g, 0, none⟩), .agg #[.slice A1_0 l1_0.length c1_0]] rfl y4 ?_; (with_reducible refine (spec_l71Val.calls k g s0_0 s0_1 (fun k_ => ((((P1_0_ k_ ∨ w.heap.size ≤ k_) ∧ k_ ≠ g) ∧ k_ ≠ gb658) ∧ k_ ≠ gb659)) _ _ l1_0 t660 t661 t664 w0 _ ?side1 ?side2 ?side3 A3.out).mono ?_); (case side1 => exact y15 HI0.out NB0_658.out NB0_659.out); (case side2 => exact y12 HB.out HI0.out GE658.out GE659.out); (case side3 => exact y80 HO1_0.out); rintro e w36 ⟨v662, rfl, ho0, hi, hb, hk⟩; refine ⟨_, rfl, ?_⟩; replace HO1_0 := Aside0.mk (Kd.V_mono (Kd.V_told (Kd.V_oldK (Kd.V_mono (ok := fun k_ => (((((P1_0_ k_ ∨ w.heap.size ≤ k_)) ∧ k_ ≠ g) ∧ k_ ≠ gb658) ∧ k_ ≠ gb659)) (y13 HO1_0.out) (fun k_ hk_ => (⟨hk_, hk_.1.1.2⟩ : _ ∧ k_ ≠ g))) hk) (Kd.N_base ho0)) (fun _ h_ => h_.1)); have HO663 := Aside0.mk (Kd.N_lower (Kd.N_mono (ok' := fun k_ => (P1_0_ k_ ∨ w.heap.size ≤ k_) ∧ k_ ≠ gb658 ∧ k_ ≠ gb659 ∧ k_ ≠ g) ho0 (fun k_ hk_ => ⟨Or.elim hk_ (fun hs_ => hs_.1.1.1) (fun hn_ => (.inr (Nat.le_trans (keep_size (w := w) (g := g) (row := none) (y11 HK.out GW658.out GW659.out)) hn_))), Or.elim hk_ (fun hs_ => hs_.1.2) (fun hn_ => (Kd.freshB (g := gb658) (o := .cells #[.slice A1_0 l1_0.length c1_0] 30 (0, 0)) (y0 BK658.out) k_ hn_)), Or.elim hk_ (fun hs_ => hs_.2) (fun hn_ => (Kd.freshB (g := gb659) (o := .cells #[.int .i64 0, .slice none 0 0] 55 (0, 0)) (y0 BK659.out) k_ hn_)), Or.elim hk_ (fun hs_ => hs_.1.1.2) (fun hn_ => (IsS95.fresh (y15 HI0.out NB0_658.out NB0_659.out) k_ hn_))⟩)) (keep_size (w := w) (g := g) (row := none) (y11 HK.out GW658.out GW659.out))); replace BK658 := Aside0.mk (KeepBut.blk hk (g' := gb658) (o := .cells #[.slice A1_0 l1_0.length c1_0] 30 (0, 0)) (y0 BK658.out) NB658_0.out (by simp)); replace BK659 := Aside0.mk (KeepBut.blk hk (g' := gb659) (o := .cells #[.int .i64 0, .slice none 0 0] 55 (0, 0)) (y0 BK659.out) NB659_0.out (by simp)); replace HK := Aside0.mk (KeepBut.trans (y11 HK.out GW658.out GW659.out) hk (.inl rfl)); replace HB := Aside0.mk (hb); replace HI0 := Aside0.mk (hi); (try clear hb); (try clear hb2); (try clear hk); (try clear hi); (try clear ho0)) | ((with_reducible refine gate_dst (N := 5) rfl ?_); refine zbx 5 #[.int .i64 0, .slice none 0 0] 55 ?_; intro gb665 hg w37 hbox hb; replace HO1_0 := Aside0.mk (Kd.V_below (Kd.V_elderB (y13 HO1_0.out) gb665 (Nat.le_of_eq hg.symm)) hb); replace HO663 := Aside0.mk (Kd.N_below (Kd.N_elderB (y9 HO663.out) gb665 (Nat.le_of_eq hg.symm)) hb); replace HB := Aside0.mk (below_step (y12 HB.out HI0.out GE658.out GE659.out) hb); have BK665 := Aside0.mk hbox; have GW665 := Aside0.mk ((by rw [hg]; exact (keep_size (w := w) (g := g) (row := none) (y11 HK.out GW658.out GW659.out)) : w.heap.size ≤ gb665)); have GE665 := Aside0.mk ((Nat.le_trans HW0.out (by rw [hg]; exact (keep_size (w := w) (g := g) (row := none) (y11 HK.out GW658.out GW659.out)) : w.heap.size ≤ gb665) : w0.heap.size ≤ gb665)); replace HK := Aside0.mk (KeepBut.trans (y11 HK.out GW658.out GW659.out) (KeepBut.of_below hb g none) (.inl rfl)); have NB658_665 := zltn hg BK658; have NB665_658 := zgtn hg BK658; replace BK658 := zbb BK658 hb; have NB659_665 := zltn hg BK659; have NB665_659 := zgtn hg BK659; replace BK659 := zbb BK659 hb; have NB0_665 := Aside0.mk ((by rw [hg]; exact Nat.ne_of_lt (IsS95.lt (show IsS95 w0 _ g s0_0 t664 from by repeat (first | (with_reducible first | exact HI0.out | apply IsS95.alloc | apply IsS95.drewN | apply IsS95.drew | apply IsS95.set_1 | refine IsS95.far ?_ NB0_658.out _ | refine IsS95.far ?_ NB0_659.out _) | exact HI0.out))) : g ≠ gb665)); have NB665_0 := Aside0.mk ((by rw [hg]; exact Nat.ne_of_gt (IsS95.lt (show IsS95 w0 _ g s0_0 t664 from by repeat (first | (with_reducible first | exact HI0.out | apply IsS95.alloc | apply IsS95.drewN | apply IsS95.drew | apply IsS95.set_1 | refine IsS95.far ?_ NB0_658.out _ | refine IsS95.far ?_ NB0_659.out _) | exact HI0.out))) : gb665 ≠ g)); replace HI0 := Aside0.mk (IsS95.below (y15 HI0.out NB0_658.out NB0_659.out) hb); clear hb hbox hg; have hnb38 := NB665_658.out; have hnc38 := NB658_665.out; have hnb39 := NB665_659.out; have hnc39 := NB659_665.out; have hnb40 := NB665_0.out; have hnc40 := NB0_665.out; have hcz41_0 := zh BK665; have hcz41_1 := zh1 BK665; have hfz41_0 := zfr BK665 0; have hfz41_1 := zfr BK665 1; obtain ⟨Ao42, co42, eo42⟩ := Kd.N_slice HO663.out; subst eo42) | ((with_reducible refine gate_callee (f := 58) rfl ?_); refine goesL_ (some 11) rfl rfl Try.func58 (by kernel_rfl) rfl #[.pointer (some ⟨g, 0, none⟩), .int .i64 12] rfl y4 ?_; (with_reducible refine (spec_l6Rd_pick.calls k g s0_0 t664 12 t666 t667 w0 _ ?side1 ?side2 A4.out).mono ?_); (case side1 => exact y28 HI0.out NB0_658.out NB0_659.out NB0_665.out); (case side2 => exact y22 HB.out HI0.out GE658.out GE659.out GE665.out); rintro e w43 ⟨rfl, hi, hb, hk⟩; refine ⟨_, rfl, ?_⟩; replace HO1_0 := Aside0.mk (Kd.V_mono (Kd.V_keep (Kd.V_mono (ok := fun k_ => (((((((P1_0_ k_ ∨ w.heap.size ≤ k_)) ∧ k_ ≠ g) ∧ k_ ≠ gb658) ∧ k_ ≠ gb659) ∧ some k_ ≠ (.slice Ao42 t661.length co42 : Value).ownBlock) ∧ k_ ≠ gb665)) (by (with_reducible repeat (first | apply Kd.V_alloc | apply Kd.V_drewN | apply Kd.V_drew)); exact (Kd.V_mono (Kd.V_far (p := ⟨gb665, 1, none⟩) (Kd.V_far (p := ⟨gb665, 0, none⟩) (Kd.V_mono HO1_0.out (fun k_ hk => (⟨hk, hk.2⟩ : _ ∧ k_ ≠ gb665))) (fun _ hk => hk.2) (.int .i64 t660)) (fun _ hk => hk.2) (.slice Ao42 t661.length co42)) (fun _ h_ => h_.1))) (fun k_ hk_ => (⟨hk_, hk_.1.1.1.1.2⟩ : _ ∧ k_ ≠ g))) hk (fun _ h => h.2)) (fun _ h => h.1)); replace BK658 := Aside0.mk (KeepBut.blk hk (g' := gb658) (o := .cells #[.slice A1_0 l1_0.length c1_0] 30 (0, 0)) (y17 NB658_665.out BK658.out) NB658_0.out (by simp)); replace BK659 := Aside0.mk (KeepBut.blk hk (g' := gb659) (o := .cells #[.int .i64 0, .slice none 0 0] 55 (0, 0)) (y17 NB659_665.out BK659.out) NB659_0.out (by simp)); replace HO663 := Aside0.mk (Kd.N_mono (Kd.N_keep (Kd.N_mono (ok := fun k_ => ((((P1_0_ k_ ∨ w.heap.size ≤ k_)) ∧ (k_ ≠ gb658 ∧ (k_ ≠ gb659 ∧ k_ ≠ g))) ∧ k_ ≠ gb665)) (by (with_reducible repeat (first | apply Kd.N_alloc | apply Kd.N_drewN | apply Kd.N_drew)); exact (Kd.N_mono (Kd.N_far (p := ⟨gb665, 1, none⟩) (Kd.N_far (p := ⟨gb665, 0, none⟩) (Kd.N_mono HO663.out (fun k_ hk => (⟨hk, hk.2⟩ : _ ∧ k_ ≠ gb665))) (fun _ hk => hk.2) (.int .i64 t660)) (fun _ hk => hk.2) (.slice Ao42 t661.length co42)) (fun _ h_ => h_.1))) (fun k_ hk_ => (⟨hk_, hk_.1.2.2.2⟩ : _ ∧ k_ ≠ g))) hk (fun _ h => h.2)) (fun _ h => h.1)); replace BK665 := Aside0.mk (KeepBut.blk hk (g' := gb665) (o := .cells #[.int .i64 t660, .slice Ao42 t661.length co42] 55 (0, 0)) (by (with_reducible repeat (first | refine blk_drewN ?_ _ | refine blk_drew ?_ | refine blk_alloc ?_ _)); refine blk_put (cs := #[.int .i64 t660, .slice none 0 0]) ?_ 1 _ rfl; (with_reducible repeat (first | refine blk_drewN ?_ _ | refine blk_drew ?_ | refine blk_alloc ?_ _)); apply blk_put (i := 0); (case h => exact y0 BK665.out); (case e => rfl)) NB665_0.out (by simp)); replace HK := Aside0.mk (KeepBut.trans (y32 HK.out GW658.out GW659.out GW665.out) hk (.inl rfl)); replace HB := Aside0.mk (hb); replace HI0 := Aside0.mk (hi); (try clear hb); (try clear hb2); (try clear hk); (try clear hi); have hcz44_0 := zh BK665; have hcz44_1 := zh1 BK665; have hfz44_0 := zfr BK665 0; have hfz44_1 := zfr BK665 1) | ((with_reducible refine gate_builtin (b := .append) (xs := #[.tmp 23, .tmp 25]) rfl ?_); at_builtin; refine Kd.N_append k55 w.heap.size rfl (.tmp 23) (.tmp 25) 53 55 (.agg #[(.int .i64 0), (.slice none 0 0)]) 32 rfl Try.underlying53 info55 rfl (by decide) (by omega) (.slice Ao42 t661.length co42) t661 (⟨0, ([] : List (S55))⟩ : S55) [.int .i64 0, .slice none 0 0] (fun k_ => (P1_0_ k_ ∨ w.heap.size ≤ k_) ∧ k_ ≠ gb658 ∧ k_ ≠ gb659 ∧ k_ ≠ gb665 ∧ k_ ≠ g) (fun k_ => ((fun k_ => (P1_0_ k_ ∨ w.heap.size ≤ k_) ∧ k_ ≠ gb658 ∧ k_ ≠ gb659 ∧ k_ ≠ gb665 ∧ k_ ≠ g)) k_ ∧ some k_ ≠ (.slice Ao42 t661.length co42 : Value).ownBlock) rfl rfl ?aP (fun _ hk => hk) ?aF ?aO (Below.refl _ _) ?aS ?aL ?_; (case aP => exact (k55_mkF _ _ (⟨0, ([] : List (S55))⟩ : S55) (Nat.le_refl _) (Kd.F_nil _ _ _))); (case aF => exact (fun k_ hk => ⟨(.inr (Nat.le_trans (keep_size (w := w) (g := g) (row := none) (y32 HK.out GW658.out GW659.out GW665.out)) hk)), Kd.freshB (g := gb658) (o := .cells #[.slice A1_0 l1_0.length c1_0] 30 (0, 0)) (y0 BK658.out) k_ hk, Kd.freshB (g := gb659) (o := .cells #[.int .i64 0, .slice none 0 0] 55 (0, 0)) (y0 BK659.out) k_ hk, Kd.freshB (g := gb665) (o := .cells #[.int .i64 t660, .slice Ao42 t661.length co42] 55 (0, 0)) (y0 BK665.out) k_ hk, IsS95.fresh (y28 HI0.out NB0_658.out NB0_659.out NB0_665.out) k_ hk⟩)); (case aO => exact (y75 HO663.out)); (case aS => exact (keep_size (w := w) (g := g) (row := none) (y32 HK.out GW658.out GW659.out GW665.out))); (case aL => exact y46 LMc30.out); intro v675 w45 ho hb hg hat; rw [← Ny674.out] at ho; replace HO1_0 := Aside0.mk (Kd.V_afterv (ok := (fun k_ => (P1_0_ k_ ∨ w.heap.size ≤ k_) ∧ k_ ≠ g ∧ k_ ≠ gb658 ∧ k_ ≠ gb659 ∧ k_ ≠ gb665)) (by (with_reducible repeat (first | apply Kd.V_alloc | apply Kd.V_drewN | apply Kd.V_drew)); exact Kd.V_mono HO1_0.out (fun _ hk => ⟨⟨hk.1.1.1.1.1, ⟨hk.1.1.1.1.2, ⟨hk.1.1.1.2, ⟨hk.1.1.2, hk.2⟩⟩⟩⟩, hk.1.2⟩)) hg hat); replace BK658 := Aside0.mk (blk_grown (g := gb658) (o := .cells #[.slice A1_0 l1_0.length c1_0] 30 (0, 0)) (y0 BK658.out) hg (Kd.N_ne HO663.out BK658.out (by decide))); replace BK659 := Aside0.mk (blk_grown (g := gb659) (o := .cells #[.int .i64 0, .slice none 0 0] 55 (0, 0)) (y0 BK659.out) hg (Kd.N_away HO663.out (fun _ hk => hk.1.2.2.1))); replace BK665 := Aside0.mk (blk_grown (g := gb665) (o := .cells #[.int .i64 t660, .slice Ao42 t661.length co42] 55 (0, 0)) (y0 BK665.out) hg (Kd.N_away HO663.out (fun _ hk => hk.2))); replace HB := Aside0.mk (below_weaken (y22 HB.out HI0.out GE658.out GE659.out GE665.out) HL.out hb); replace HI0 := Aside0.mk (IsS95.grown (y28 HI0.out NB0_658.out NB0_659.out NB0_665.out) hg (IsS95.own_neN HI0.out HO663.out (by decide))); replace HK := Aside0.mk (KeepBut.trans (y32 HK.out GW658.out GW659.out GW665.out) (KeepBut.of_grown hg g) (Kd.N_base2 HO663.out)); have HO676 := Aside0.mk (ho); clear HO663; clear ho hb hg hat; obtain ⟨Ao46, co46, eo46⟩ := Kd.N_slice HO676.out; subst eo46; have hcz47_0 := zh BK665; have hcz47_1 := zh1 BK665; have hfz47_0 := zfr BK665 0; have hfz47_1 := zfr BK665 1; have hnb48 := NB659_0.out; have hnc48 := NB0_659.out; have hcz49_0 := zh BK659; have hcz49_1 := zh1 BK659; have hfz49_0 := zfr BK659 0; have hfz49_1 := zfr BK659 1))
    refine bodyPost_ret (results_cell_row rfl _ _ gb659 55 #[.int .i64 t660, .slice Ao46 y674.length co46] (0, 0) _ rfl (by (with_reducible repeat (first | refine blk_drewN ?_ _ | refine blk_drew ?_ | refine blk_alloc ?_ _)); refine blk_put (cs := #[.int .i64 t660, .slice none 0 0]) ?_ 1 _ rfl; (with_reducible repeat (first | refine blk_drewN ?_ _ | refine blk_drew ?_ | refine blk_alloc ?_ _)); refine blk_put (cs := #[.int .i64 0, .slice none 0 0]) ?_ 0 _ rfl; (with_reducible repeat (first | refine blk_drewN ?_ _ | refine blk_drew ?_ | refine blk_alloc ?_ _)); refine blk_far ?_ NB659_665.out _; (with_reducible repeat (first | refine blk_drewN ?_ _ | refine blk_drew ?_ | refine blk_alloc ?_ _)); exact BK659.out) Try.underlying55 rfl (by kernel_rfl)) rfl ?_
    exact ⟨_, y14, (by (with_reducible repeat (first | apply Kd.N_alloc | apply Kd.N_drewN | apply Kd.N_drew)); exact Kd.N_mono (Kd.N_far (p := ⟨gb659, 1, none⟩) (Kd.N_far (p := ⟨gb659, 0, none⟩) (Kd.N_far (p := ⟨gb665, 1, none⟩) (Kd.N_mono (Kd.N_mono HO676.out (fun k_ hk => (⟨hk, hk.2.2.2.1⟩ : _ ∧ k_ ≠ gb665))) (fun k_ hk => (⟨hk, hk.1.2.2.1⟩ : _ ∧ k_ ≠ gb659))) (fun _ hk => hk.1.2) (.slice Ao46 y674.length co46)) (fun _ hk => hk.2) (.int .i64 t660)) (fun _ hk => hk.2) (.slice Ao46 y674.length co46)) (fun _ hk => hk.1.1.1)), (y28 HI0.out NB0_658.out NB0_659.out NB0_665.out), (y22 HB.out HI0.out GE658.out GE659.out GE665.out), (y32 HK.out GW658.out GW659.out GW665.out)⟩
   ·rw [if_neg c30] at H
    exact absurd H (by simp)
  ·rw [if_neg c29] at H
   have c29b0 : (t666 == 1) = false := beq_eq_false_iff_ne.mpr c29
   have c29b1 : (t666 != 1) = true := bne_iff_ne.mpr c29
   by_cases c50 : t666 = 2
   ·rw [if_pos c50] at H
    have c50b0 : (t666 == 2) = true := beq_iff_eq.mpr c50
    have c50b1 : (t666 != 2) = false := bne_eq_false_iff_eq.mpr c50
    clear c50
    have H' := Aside0.mk H
    clear H
    go_enter Try.func68, Try.ntmps68
    go_wp2_with (first | ((with_reducible refine gate_dst (N := 3) rfl ?_); refine zbx 3 #[.slice A1_0 l1_0.length c1_0] 30 ?_; intro gb658 hg w51 hbox hb; replace HO1_0 := Aside0.mk (Kd.V_below (Kd.V_elderB (y13 HO1_0.out) gb658 (Nat.le_of_eq hg.symm)) hb); replace HB := Aside0.mk (below_step (y33 HB.out HI0.out) hb); have BK658 := Aside0.mk hbox; have GW658 := Aside0.mk ((by rw [hg]; exact (keep_size (w := w) (g := g) (row := none) (y25 HK.out)) : w.heap.size ≤ gb658)); have GE658 := Aside0.mk ((Nat.le_trans HW0.out (by rw [hg]; exact (keep_size (w := w) (g := g) (row := none) (y25 HK.out)) : w.heap.size ≤ gb658) : w0.heap.size ≤ gb658)); replace HK := Aside0.mk (KeepBut.trans (y25 HK.out) (KeepBut.of_below hb g none) (.inl rfl)); have NB0_658 := Aside0.mk ((by rw [hg]; exact Nat.ne_of_lt (IsS95.lt (show IsS95 w0 _ g s0_0 s0_1 from by repeat (first | (with_reducible first | exact HI0.out | apply IsS95.alloc | apply IsS95.drewN | apply IsS95.drew | apply IsS95.set_1) | exact HI0.out))) : g ≠ gb658)); have NB658_0 := Aside0.mk ((by rw [hg]; exact Nat.ne_of_gt (IsS95.lt (show IsS95 w0 _ g s0_0 s0_1 from by repeat (first | (with_reducible first | exact HI0.out | apply IsS95.alloc | apply IsS95.drewN | apply IsS95.drew | apply IsS95.set_1) | exact HI0.out))) : gb658 ≠ g)); replace HI0 := Aside0.mk (IsS95.below (y35 HI0.out) hb); clear hb hbox hg) | ((with_reducible refine gate_dst (N := 4) rfl ?_); refine zbx 4 #[.int .i64 0, .slice none 0 0] 55 ?_; intro gb659 hg w52 hbox hb; replace HO1_0 := Aside0.mk (Kd.V_below (Kd.V_elderB (y13 HO1_0.out) gb659 (Nat.le_of_eq hg.symm)) hb); replace HB := Aside0.mk (below_step (y23 HB.out HI0.out GE658.out) hb); have BK659 := Aside0.mk hbox; have GW659 := Aside0.mk ((by rw [hg]; exact (keep_size (w := w) (g := g) (row := none) (y18 HK.out GW658.out)) : w.heap.size ≤ gb659)); have GE659 := Aside0.mk ((Nat.le_trans HW0.out (by rw [hg]; exact (keep_size (w := w) (g := g) (row := none) (y18 HK.out GW658.out)) : w.heap.size ≤ gb659) : w0.heap.size ≤ gb659)); replace HK := Aside0.mk (KeepBut.trans (y18 HK.out GW658.out) (KeepBut.of_below hb g none) (.inl rfl)); have NB658_659 := zltn hg BK658; have NB659_658 := zgtn hg BK658; replace BK658 := zbb BK658 hb; have NB0_659 := Aside0.mk ((by rw [hg]; exact Nat.ne_of_lt (IsS95.lt (show IsS95 w0 _ g s0_0 s0_1 from by repeat (first | (with_reducible first | exact HI0.out | apply IsS95.alloc | apply IsS95.drewN | apply IsS95.drew | apply IsS95.set_1 | refine IsS95.far ?_ NB0_658.out _) | exact HI0.out))) : g ≠ gb659)); have NB659_0 := Aside0.mk ((by rw [hg]; exact Nat.ne_of_gt (IsS95.lt (show IsS95 w0 _ g s0_0 s0_1 from by repeat (first | (with_reducible first | exact HI0.out | apply IsS95.alloc | apply IsS95.drewN | apply IsS95.drew | apply IsS95.set_1 | refine IsS95.far ?_ NB0_658.out _) | exact HI0.out))) : gb659 ≠ g)); replace HI0 := Aside0.mk (IsS95.below (y24 HI0.out NB0_658.out) hb); clear hb hbox hg; have hnb53 := NB658_659.out; have hnc53 := NB659_658.out; have hnb54 := NB658_0.out; have hnc54 := NB0_658.out; have hcz55_0 := zh BK658; have hfz55_0 := zfr BK658 0) | ((with_reducible refine gate_callee (f := 87) rfl ?_); refine goesL_ (some 9) rfl rfl Try.func87 (by kernel_rfl) rfl #[.pointer (some ⟨g, 0, none⟩), .agg #[.slice A1_0 l1_0.length c1_0]] rfl y4 ?_; (with_reducible refine (spec_l71Val.calls k g s0_0 s0_1 (fun k_ => ((((P1_0_ k_ ∨ w.heap.size ≤ k_) ∧ k_ ≠ g) ∧ k_ ≠ gb658) ∧ k_ ≠ gb659)) _ _ l1_0 t660 t661 t664 w0 _ ?side1 ?side2 ?side3 A3.out).mono ?_); (case side1 => exact y15 HI0.out NB0_658.out NB0_659.out); (case side2 => exact y12 HB.out HI0.out GE658.out GE659.out); (case side3 => exact y80 HO1_0.out); rintro e w56 ⟨v662, rfl, ho0, hi, hb, hk⟩; refine ⟨_, rfl, ?_⟩; replace HO1_0 := Aside0.mk (Kd.V_mono (Kd.V_told (Kd.V_oldK (Kd.V_mono (ok := fun k_ => (((((P1_0_ k_ ∨ w.heap.size ≤ k_)) ∧ k_ ≠ g) ∧ k_ ≠ gb658) ∧ k_ ≠ gb659)) (y13 HO1_0.out) (fun k_ hk_ => (⟨hk_, hk_.1.1.2⟩ : _ ∧ k_ ≠ g))) hk) (Kd.N_base ho0)) (fun _ h_ => h_.1)); have HO663 := Aside0.mk (Kd.N_lower (Kd.N_mono (ok' := fun k_ => (P1_0_ k_ ∨ w.heap.size ≤ k_) ∧ k_ ≠ gb658 ∧ k_ ≠ gb659 ∧ k_ ≠ g) ho0 (fun k_ hk_ => ⟨Or.elim hk_ (fun hs_ => hs_.1.1.1) (fun hn_ => (.inr (Nat.le_trans (keep_size (w := w) (g := g) (row := none) (y11 HK.out GW658.out GW659.out)) hn_))), Or.elim hk_ (fun hs_ => hs_.1.2) (fun hn_ => (Kd.freshB (g := gb658) (o := .cells #[.slice A1_0 l1_0.length c1_0] 30 (0, 0)) (y0 BK658.out) k_ hn_)), Or.elim hk_ (fun hs_ => hs_.2) (fun hn_ => (Kd.freshB (g := gb659) (o := .cells #[.int .i64 0, .slice none 0 0] 55 (0, 0)) (y0 BK659.out) k_ hn_)), Or.elim hk_ (fun hs_ => hs_.1.1.2) (fun hn_ => (IsS95.fresh (y15 HI0.out NB0_658.out NB0_659.out) k_ hn_))⟩)) (keep_size (w := w) (g := g) (row := none) (y11 HK.out GW658.out GW659.out))); replace BK658 := Aside0.mk (KeepBut.blk hk (g' := gb658) (o := .cells #[.slice A1_0 l1_0.length c1_0] 30 (0, 0)) (y0 BK658.out) NB658_0.out (by simp)); replace BK659 := Aside0.mk (KeepBut.blk hk (g' := gb659) (o := .cells #[.int .i64 0, .slice none 0 0] 55 (0, 0)) (y0 BK659.out) NB659_0.out (by simp)); replace HK := Aside0.mk (KeepBut.trans (y11 HK.out GW658.out GW659.out) hk (.inl rfl)); replace HB := Aside0.mk (hb); replace HI0 := Aside0.mk (hi); (try clear hb); (try clear hb2); (try clear hk); (try clear hi); (try clear ho0)) | ((with_reducible refine gate_dst (N := 5) rfl ?_); refine zbx 5 #[.int .i64 0, .slice none 0 0] 55 ?_; intro gb665 hg w57 hbox hb; replace HO1_0 := Aside0.mk (Kd.V_below (Kd.V_elderB (y13 HO1_0.out) gb665 (Nat.le_of_eq hg.symm)) hb); replace HO663 := Aside0.mk (Kd.N_below (Kd.N_elderB (y9 HO663.out) gb665 (Nat.le_of_eq hg.symm)) hb); replace HB := Aside0.mk (below_step (y12 HB.out HI0.out GE658.out GE659.out) hb); have BK665 := Aside0.mk hbox; have GW665 := Aside0.mk ((by rw [hg]; exact (keep_size (w := w) (g := g) (row := none) (y11 HK.out GW658.out GW659.out)) : w.heap.size ≤ gb665)); have GE665 := Aside0.mk ((Nat.le_trans HW0.out (by rw [hg]; exact (keep_size (w := w) (g := g) (row := none) (y11 HK.out GW658.out GW659.out)) : w.heap.size ≤ gb665) : w0.heap.size ≤ gb665)); replace HK := Aside0.mk (KeepBut.trans (y11 HK.out GW658.out GW659.out) (KeepBut.of_below hb g none) (.inl rfl)); have NB658_665 := zltn hg BK658; have NB665_658 := zgtn hg BK658; replace BK658 := zbb BK658 hb; have NB659_665 := zltn hg BK659; have NB665_659 := zgtn hg BK659; replace BK659 := zbb BK659 hb; have NB0_665 := Aside0.mk ((by rw [hg]; exact Nat.ne_of_lt (IsS95.lt (show IsS95 w0 _ g s0_0 t664 from by repeat (first | (with_reducible first | exact HI0.out | apply IsS95.alloc | apply IsS95.drewN | apply IsS95.drew | apply IsS95.set_1 | refine IsS95.far ?_ NB0_658.out _ | refine IsS95.far ?_ NB0_659.out _) | exact HI0.out))) : g ≠ gb665)); have NB665_0 := Aside0.mk ((by rw [hg]; exact Nat.ne_of_gt (IsS95.lt (show IsS95 w0 _ g s0_0 t664 from by repeat (first | (with_reducible first | exact HI0.out | apply IsS95.alloc | apply IsS95.drewN | apply IsS95.drew | apply IsS95.set_1 | refine IsS95.far ?_ NB0_658.out _ | refine IsS95.far ?_ NB0_659.out _) | exact HI0.out))) : gb665 ≠ g)); replace HI0 := Aside0.mk (IsS95.below (y15 HI0.out NB0_658.out NB0_659.out) hb); clear hb hbox hg; have hnb58 := NB665_658.out; have hnc58 := NB658_665.out; have hnb59 := NB665_659.out; have hnc59 := NB659_665.out; have hnb60 := NB665_0.out; have hnc60 := NB0_665.out; have hcz61_0 := zh BK665; have hcz61_1 := zh1 BK665; have hfz61_0 := zfr BK665 0; have hfz61_1 := zfr BK665 1; obtain ⟨Ao62, co62, eo62⟩ := Kd.N_slice HO663.out; subst eo62) | ((with_reducible refine gate_callee (f := 58) rfl ?_); refine goesL_ (some 11) rfl rfl Try.func58 (by kernel_rfl) rfl #[.pointer (some ⟨g, 0, none⟩), .int .i64 12] rfl y4 ?_; (with_reducible refine (spec_l6Rd_pick.calls k g s0_0 t664 12 t666 t667 w0 _ ?side1 ?side2 A4.out).mono ?_); (case side1 => exact y28 HI0.out NB0_658.out NB0_659.out NB0_665.out); (case side2 => exact y22 HB.out HI0.out GE658.out GE659.out GE665.out); rintro e w63 ⟨rfl, hi, hb, hk⟩; refine ⟨_, rfl, ?_⟩; replace HO1_0 := Aside0.mk (Kd.V_mono (Kd.V_keep (Kd.V_mono (ok := fun k_ => (((((((P1_0_ k_ ∨ w.heap.size ≤ k_)) ∧ k_ ≠ g) ∧ k_ ≠ gb658) ∧ k_ ≠ gb659) ∧ some k_ ≠ (.slice Ao62 t661.length co62 : Value).ownBlock) ∧ k_ ≠ gb665)) (by (with_reducible repeat (first | apply Kd.V_alloc | apply Kd.V_drewN | apply Kd.V_drew)); exact (Kd.V_mono (Kd.V_far (p := ⟨gb665, 1, none⟩) (Kd.V_far (p := ⟨gb665, 0, none⟩) (Kd.V_mono HO1_0.out (fun k_ hk => (⟨hk, hk.2⟩ : _ ∧ k_ ≠ gb665))) (fun _ hk => hk.2) (.int .i64 t660)) (fun _ hk => hk.2) (.slice Ao62 t661.length co62)) (fun _ h_ => h_.1))) (fun k_ hk_ => (⟨hk_, hk_.1.1.1.1.2⟩ : _ ∧ k_ ≠ g))) hk (fun _ h => h.2)) (fun _ h => h.1)); replace BK658 := Aside0.mk (KeepBut.blk hk (g' := gb658) (o := .cells #[.slice A1_0 l1_0.length c1_0] 30 (0, 0)) (y17 NB658_665.out BK658.out) NB658_0.out (by simp)); replace BK659 := Aside0.mk (KeepBut.blk hk (g' := gb659) (o := .cells #[.int .i64 0, .slice none 0 0] 55 (0, 0)) (y17 NB659_665.out BK659.out) NB659_0.out (by simp)); replace HO663 := Aside0.mk (Kd.N_mono (Kd.N_keep (Kd.N_mono (ok := fun k_ => ((((P1_0_ k_ ∨ w.heap.size ≤ k_)) ∧ (k_ ≠ gb658 ∧ (k_ ≠ gb659 ∧ k_ ≠ g))) ∧ k_ ≠ gb665)) (by (with_reducible repeat (first | apply Kd.N_alloc | apply Kd.N_drewN | apply Kd.N_drew)); exact (Kd.N_mono (Kd.N_far (p := ⟨gb665, 1, none⟩) (Kd.N_far (p := ⟨gb665, 0, none⟩) (Kd.N_mono HO663.out (fun k_ hk => (⟨hk, hk.2⟩ : _ ∧ k_ ≠ gb665))) (fun _ hk => hk.2) (.int .i64 t660)) (fun _ hk => hk.2) (.slice Ao62 t661.length co62)) (fun _ h_ => h_.1))) (fun k_ hk_ => (⟨hk_, hk_.1.2.2.2⟩ : _ ∧ k_ ≠ g))) hk (fun _ h => h.2)) (fun _ h => h.1)); replace BK665 := Aside0.mk (KeepBut.blk hk (g' := gb665) (o := .cells #[.int .i64 t660, .slice Ao62 t661.length co62] 55 (0, 0)) (by (with_reducible repeat (first | refine blk_drewN ?_ _ | refine blk_drew ?_ | refine blk_alloc ?_ _)); refine blk_put (cs := #[.int .i64 t660, .slice none 0 0]) ?_ 1 _ rfl; (with_reducible repeat (first | refine blk_drewN ?_ _ | refine blk_drew ?_ | refine blk_alloc ?_ _)); apply blk_put (i := 0); (case h => exact y0 BK665.out); (case e => rfl)) NB665_0.out (by simp)); replace HK := Aside0.mk (KeepBut.trans (y32 HK.out GW658.out GW659.out GW665.out) hk (.inl rfl)); replace HB := Aside0.mk (hb); replace HI0 := Aside0.mk (hi); (try clear hb); (try clear hb2); (try clear hk); (try clear hi)))
    go_loopg [6] k (fun kq v6 w' => ∃ (x6_1 : Int) (x666000_1 : Int) (x666001_1 : List (S55)) (u666001 : Value), v6 = .int .i64 x6_1 ∧ Aside0 (spec_l71Bad.l0 kq x6_1 s0_0 t667 x666000_1 x666001_1 = some (r1, r2, r3)) ∧ Aside0 (kq ≤ k) ∧ Aside0 (Kd.V k30 30 w' w.heap.size (fun k_ => (P1_0_ k_ ∨ w.heap.size ≤ k_) ∧ some k_ ≠ (u666001 : Value).ownBlock ∧ k_ ≠ gb658 ∧ k_ ≠ gb659 ∧ k_ ≠ gb665 ∧ k_ ≠ g) (.slice A1_0 l1_0.length c1_0) l1_0) ∧ Aside0 (Kd.N k55 55 w' w.heap.size (fun k_ => (P1_0_ k_ ∨ w.heap.size ≤ k_) ∧ k_ ≠ gb658 ∧ k_ ≠ gb659 ∧ k_ ≠ gb665 ∧ k_ ≠ g) u666001 x666001_1) ∧ Aside0 (w'.heap[gb658]? = some (.cells #[(.slice A1_0 l1_0.length c1_0)] 30 (0, 0))) ∧ Aside0 (w'.heap[gb659]? = some (.cells #[.int .i64 0, (.slice none 0 0)] 55 (0, 0))) ∧ Aside0 (w'.heap[gb665]? = some (.cells #[.int .i64 x666000_1, u666001] 55 (0, 0))) ∧ Aside0 (IsS95 w0 w' g s0_0 t667) ∧ Aside0 (KeepBut w w' g none) ∧ Aside0 (Below w0.heap.size w0 w'))
    case atStart => exact ⟨(0), (t660), (t661), (.slice Ao62 t661.length co62), y26, H', ⟨Nat.le_refl _⟩, ⟨(by (with_reducible repeat (first | apply Kd.V_alloc | apply Kd.V_drewN | apply Kd.V_drew)); exact Kd.V_mono HO1_0.out (fun _ hk => ⟨hk.1.1.1.1.1, ⟨hk.1.2, ⟨hk.1.1.1.2, ⟨hk.1.1.2, ⟨hk.2, hk.1.1.1.1.2⟩⟩⟩⟩⟩))⟩, ⟨(y75 HO663.out)⟩, ⟨(y0 BK658.out)⟩, ⟨(y0 BK659.out)⟩, ⟨(y0 BK665.out)⟩, ⟨(y28 HI0.out NB0_658.out NB0_659.out NB0_665.out)⟩, ⟨(y32 HK.out GW658.out GW659.out GW665.out)⟩, ⟨(y22 HB.out HI0.out GE658.out GE659.out GE665.out)⟩⟩
    case round =>
     clear H'
     try clear c1
     try clear c2
     try clear p2
     try clear c3
     try clear c4
     try clear c5
     try clear c5b0
     try clear c5b1
     try clear c6
     try clear p6
     try clear q6
     try clear hx6
     try clear c7
     try clear c7b0
     try clear c8
     try clear c8b0
     try clear c11
     try clear c12
     try clear c16
     try clear c17
     try clear c18
     try clear c27
     try clear c29
     try clear c29b0
     try clear c29b1
     try clear c30
     try clear c33
     try clear c34
     try clear c38
     try clear c39
     try clear c40
     try clear c48
     try clear c50
     try clear c50b0
     try clear c50b1
     try clear c53
     try clear c54
     try clear c58
     try clear c59
     try clear c60
     try clear hcz13_0
     try clear hcz19_0
     try clear hcz19_1
     try clear hcz26_0
     try clear hcz26_1
     try clear hcz28_0
     try clear hcz28_1
     try clear hcz35_0
     try clear hcz41_0
     try clear hcz41_1
     try clear hcz44_0
     try clear hcz44_1
     try clear hcz47_0
     try clear hcz47_1
     try clear hcz49_0
     try clear hcz49_1
     try clear hcz55_0
     try clear hcz61_0
     try clear hcz61_1
     try clear hfz13_0
     try clear hfz19_0
     try clear hfz19_1
     try clear hfz26_0
     try clear hfz26_1
     try clear hfz28_0
     try clear hfz28_1
     try clear hfz35_0
     try clear hfz41_0
     try clear hfz41_1
     try clear hfz44_0
     try clear hfz44_1
     try clear hfz47_0
     try clear hfz47_1
     try clear hfz49_0
     try clear hfz49_1
     try clear hfz55_0
     try clear hfz61_0
     try clear hfz61_1
     try clear hx673_0
     try clear p673
     try clear q673
     obtain ⟨x6_1, x666000_1, x666001_1, u666001, rfl, HA, HK1, HO_659000, HO_666001, BK658, BK659, BK665, HI0, HK, HB⟩ := hrel
     cases gk with
     | zero => exact absurd HA.out (by simp [spec_l71Bad.l0])
     | succ k1 =>
      have H := HA.out
      clear HA
      simp only [spec_l71Bad.l0] at H
      by_cases c64 : x6_1 < 5
      ·rw [if_pos c64] at H
       have c64b0 : decide (x6_1 < 5) = true := decide_eq_true c64
       clear c64
       obtain ⟨y677, hy677⟩ : ∃ y_ : List (S55), y_ = (([(⟨x666000_1, x666001_1⟩ : S55), (⟨0, ([] : List (S55))⟩ : S55)] : List (S55))) := ⟨_, rfl⟩
       replace H : (spec_l71Bad.l0 k1 (wrap64 (x6_1 + 1)) s0_0 t667 0 y677) = some (r1, r2, r3) := by first | (rw [hy677]; with_reducible exact H) | (have H2_ := (Option.bind_some _ _).symm.trans H; rw [hy677]; with_reducible exact H2_) | (have H2_ := (Option.bind_some _ _).symm.trans H; with_reducible exact H2_) | with_reducible exact H | (rw [hy677]; exact H) | exact H
       have Ny677 := Aside0.mk hy677
       clear hy677
       have H' := Aside0.mk H
       clear H
       have hnb65 := NB665_658.out
       have hnc65 := NB658_665.out
       have hnb66 := NB665_659.out
       have hnc66 := NB659_665.out
       have hnb67 := NB665_0.out
       have hnc67 := NB0_665.out
       have hcz68_0 := zh BK665
       have hcz68_1 := zh1 BK665
       have hfz68_0 := zfr BK665 0
       have hfz68_1 := zfr BK665 1
       obtain ⟨Ao69, co69, eo69⟩ := Kd.N_slice HO_666001.out
       subst eo69
       go_wp2_with (first | ((with_reducible refine gate_dst (N := 36) rfl ?_); refine Kd.N_lit k55 _ 55 ?hg (N' := 36) ?hd (xs := ([(⟨x666000_1, x666001_1⟩ : S55), (⟨0, ([] : List (S55))⟩ : S55)] : List (S55))) (inner := [.int .i64 x666000_1, .slice Ao69 x666001_1.length co69, .int .i64 0, .slice none 0 0]) (ok := (fun k_ => (P1_0_ k_ ∨ w.heap.size ≤ k_) ∧ k_ ≠ gb658 ∧ k_ ≠ gb659 ∧ k_ ≠ gb665 ∧ k_ ≠ g)) (okp := (fun k_ => (P1_0_ k_ ∨ w.heap.size ≤ k_) ∧ k_ ≠ gb658 ∧ k_ ≠ gb659 ∧ k_ ≠ gb665 ∧ k_ ≠ g)) ?hr ?hp (fun _ hk => hk) ((show ∀ k_, wr.heap.size ≤ k_ → (fun k_ => (P1_0_ k_ ∨ w.heap.size ≤ k_) ∧ k_ ≠ gb658 ∧ k_ ≠ gb659 ∧ k_ ≠ gb665 ∧ k_ ≠ g) k_ from fun k_ hk => ⟨(.inr (Nat.le_trans (keep_size (w := w) (g := g) (row := none) (y32 HK.out GW658.out GW659.out GW665.out)) hk)), Kd.freshB (g := gb658) (o := .cells #[.slice A1_0 l1_0.length c1_0] 30 (0, 0)) (y0 BK658.out) k_ hk, Kd.freshB (g := gb659) (o := .cells #[.int .i64 0, .slice none 0 0] 55 (0, 0)) (y0 BK659.out) k_ hk, Kd.freshB (g := gb665) (o := .cells #[.int .i64 x666000_1, .slice Ao69 x666001_1.length co69] 55 (0, 0)) (y0 BK665.out) k_ hk, IsS95.fresh (y28 HI0.out NB0_658.out NB0_659.out NB0_665.out) k_ hk⟩) _ (Nat.le_refl _)) (Below.refl _ _) (Nat.le_refl _) (by simp) ?_; (case hd => rfl); (case hg => rfl); (case hr => first | (go_simp; done) | (go_simp; rfl)); (case hp => exact (Reps.c2 (show Kd.FK k55 _ _ (⟨x666000_1, x666001_1⟩ : S55) [.int .i64 x666000_1, .slice Ao69 x666001_1.length co69] from (k55_mkF _ _ (⟨x666000_1, x666001_1⟩ : S55) (Kd.N_reads' (Kd.N_mono (ok' := (fun k_ => (P1_0_ k_ ∨ w.heap.size ≤ k_) ∧ k_ ≠ gb658 ∧ k_ ≠ gb659 ∧ k_ ≠ gb665 ∧ k_ ≠ g)) (HO_666001.out) (fun k_ hk => ⟨hk.1, ⟨hk.2.1, ⟨hk.2.2.1, ⟨hk.2.2.2.1, hk.2.2.2.2⟩⟩⟩⟩))).2.1 (Kd.N_F (Kd.N_mono (ok' := (fun k_ => (P1_0_ k_ ∨ w.heap.size ≤ k_) ∧ k_ ≠ gb658 ∧ k_ ≠ gb659 ∧ k_ ≠ gb665 ∧ k_ ≠ g)) (HO_666001.out) (fun k_ hk => ⟨hk.1, ⟨hk.2.1, ⟨hk.2.2.1, ⟨hk.2.2.2.1, hk.2.2.2.2⟩⟩⟩⟩))))) (Reps.c2 (show Kd.FK k55 _ _ (⟨0, ([] : List (S55))⟩ : S55) [.int .i64 0, .slice none 0 0] from (k55_mkF _ _ (⟨0, ([] : List (S55))⟩ : S55) (Nat.le_refl _) (Kd.F_nil _ _ _))) (Reps.none _ _)))); intro v678 w70 ho71 hb hg_ hnew_; clear hg_ hnew_; (first | rw [← Ny677.out] at ho71 | (simp only [Int.reduceToNat] at ho71; rw [← Ny677.out] at ho71)); replace HO_659000 := Aside0.mk (Kd.V_elder' (y13 HO_659000.out) (Kd.N_base ho71) hb); have HO679 := Aside0.mk (Kd.N_lower ho71 (keep_size (w := w) (g := g) (row := none) (y32 HK.out GW658.out GW659.out GW665.out))); replace BK658 := zbb BK658 hb; replace BK659 := zbb BK659 hb; replace BK665 := zbb BK665 hb; replace HK := Aside0.mk (KeepBut.trans (y32 HK.out GW658.out GW659.out GW665.out) (KeepBut.of_below hb g none) (.inl rfl)); replace HB := Aside0.mk (below_step (y22 HB.out HI0.out GE658.out GE659.out GE665.out) hb); replace HI0 := Aside0.mk (IsS95.below (y28 HI0.out NB0_658.out NB0_659.out NB0_665.out) hb); clear HO_666001; clear hb ho71; obtain ⟨Ao72, co72, eo72⟩ := Kd.N_slice HO679.out; subst eo72; have hcz73_0 := zh BK665; have hcz73_1 := zh1 BK665; have hfz73_0 := zfr BK665 0; have hfz73_1 := zfr BK665 1))
       go_roundg k1
       case measure => have := HK1.out; omega
       case rel => exact ⟨(wrap64 (x6_1 + 1)), (0), (y677), (.slice Ao72 y677.length co72), y26, H', ⟨(y46 HK1.out)⟩, ⟨(by (with_reducible repeat (first | apply Kd.V_alloc | apply Kd.V_drewN | apply Kd.V_drew)); exact Kd.V_mono (Kd.V_far (p := ⟨gb665, 1, none⟩) (Kd.V_far (p := ⟨gb665, 0, none⟩) (Kd.V_mono HO_659000.out (fun k_ hk => (⟨hk, hk.1.2.2.2.2.1⟩ : _ ∧ k_ ≠ gb665))) (fun _ hk => hk.2) (.int .i64 0)) (fun _ hk => hk.2) (.slice Ao72 y677.length co72)) (fun _ hk => ⟨hk.1.1.1, ⟨hk.1.2, ⟨hk.1.1.2.2.1, ⟨hk.1.1.2.2.2.1, ⟨hk.1.1.2.2.2.2.1, hk.1.1.2.2.2.2.2⟩⟩⟩⟩⟩))⟩, ⟨(by (with_reducible repeat (first | apply Kd.N_alloc | apply Kd.N_drewN | apply Kd.N_drew)); exact Kd.N_mono (Kd.N_far (p := ⟨gb665, 1, none⟩) (Kd.N_far (p := ⟨gb665, 0, none⟩) (Kd.N_mono HO679.out (fun k_ hk => (⟨hk, hk.2.2.2.1⟩ : _ ∧ k_ ≠ gb665))) (fun _ hk => hk.2) (.int .i64 0)) (fun _ hk => hk.2) (.slice Ao72 y677.length co72)) (fun _ hk => ⟨hk.1.1, ⟨hk.1.2.1, ⟨hk.1.2.2.1, ⟨hk.1.2.2.2.1, hk.1.2.2.2.2⟩⟩⟩⟩))⟩, ⟨(y17 NB658_665.out BK658.out)⟩, ⟨(y17 NB659_665.out BK659.out)⟩, ⟨(by (with_reducible repeat (first | refine blk_drewN ?_ _ | refine blk_drew ?_ | refine blk_alloc ?_ _)); refine blk_put (cs := #[.int .i64 0, .slice Ao69 x666001_1.length co69]) ?_ 1 _ rfl; (with_reducible repeat (first | refine blk_drewN ?_ _ | refine blk_drew ?_ | refine blk_alloc ?_ _)); refine blk_put (cs := #[.int .i64 x666000_1, .slice Ao69 x666001_1.length co69]) ?_ 0 _ rfl; (with_reducible repeat (first | refine blk_drewN ?_ _ | refine blk_drew ?_ | refine blk_alloc ?_ _)); exact BK665.out)⟩, ⟨(y28 HI0.out NB0_658.out NB0_659.out NB0_665.out)⟩, ⟨(y32 HK.out GW658.out GW659.out GW665.out)⟩, ⟨(y22 HB.out HI0.out GE658.out GE659.out GE665.out)⟩⟩
      ·rw [if_neg c64] at H
       have c64b0 : decide (x6_1 < 5) = false := decide_eq_false c64
       clear c64
       simp only [Option.some.injEq, Prod.mk.injEq] at H
       obtain ⟨rfl, rfl, rfl⟩ := H
       have hnb74 := NB665_658.out
       have hnc74 := NB658_665.out
       have hnb75 := NB665_659.out
       have hnc75 := NB659_665.out
       have hnb76 := NB665_0.out
       have hnc76 := NB0_665.out
       have hcz77_0 := zh BK665
       have hcz77_1 := zh1 BK665
       have hfz77_0 := zfr BK665 0
       have hfz77_1 := zfr BK665 1
       have hnb78 := NB659_658.out
       have hnc78 := NB658_659.out
       have hnb79 := NB659_0.out
       have hnc79 := NB0_659.out
       have hcz80_0 := zh BK659
       have hcz80_1 := zh1 BK659
       have hfz80_0 := zfr BK659 0
       have hfz80_1 := zfr BK659 1
       obtain ⟨Ao81, co81, eo81⟩ := Kd.N_slice HO_666001.out
       subst eo81
       go_wp2
       refine bodyPost_ret (results_cell_row rfl _ _ gb659 55 #[.int .i64 x666000_1, .slice Ao81 x666001_1.length co81] (0, 0) _ rfl (by (with_reducible repeat (first | refine blk_drewN ?_ _ | refine blk_drew ?_ | refine blk_alloc ?_ _)); refine blk_put (cs := #[.int .i64 x666000_1, .slice none 0 0]) ?_ 1 _ rfl; (with_reducible repeat (first | refine blk_drewN ?_ _ | refine blk_drew ?_ | refine blk_alloc ?_ _)); apply blk_put (i := 0); (case h => exact y0 BK659.out); (case e => rfl)) Try.underlying55 rfl (by kernel_rfl)) rfl ?_
       exact ⟨_, y14, (by (with_reducible repeat (first | apply Kd.N_alloc | apply Kd.N_drewN | apply Kd.N_drew)); exact Kd.N_mono (Kd.N_far (p := ⟨gb659, 1, none⟩) (Kd.N_far (p := ⟨gb659, 0, none⟩) (Kd.N_mono HO_666001.out (fun k_ hk => (⟨hk, hk.2.2.1⟩ : _ ∧ k_ ≠ gb659))) (fun _ hk => hk.2) (.int .i64 x666000_1)) (fun _ hk => hk.2) (.slice Ao81 x666001_1.length co81)) (fun _ hk => hk.1.1)), (y28 HI0.out NB0_658.out NB0_659.out NB0_665.out), (y22 HB.out HI0.out GE658.out GE659.out GE665.out), (y32 HK.out GW658.out GW659.out GW665.out)⟩
   ·rw [if_neg c50] at H
    have c50b0 : (t666 == 2) = false := beq_eq_false_iff_ne.mpr c50
    have c50b1 : (t666 != 2) = true := bne_iff_ne.mpr c50
    simp only [Option.some.injEq, Prod.mk.injEq] at H
    obtain ⟨rfl, rfl, rfl⟩ := H
    go_enter Try.func68, Try.ntmps68
    go_wp2_with (first | ((with_reducible refine gate_dst (N := 3) rfl ?_); refine zbx 3 #[.slice A1_0 l1_0.length c1_0] 30 ?_; intro gb658 hg w82 hbox hb; replace HO1_0 := Aside0.mk (Kd.V_below (Kd.V_elderB (y13 HO1_0.out) gb658 (Nat.le_of_eq hg.symm)) hb); replace HB := Aside0.mk (below_step (y33 HB.out HI0.out) hb); have BK658 := Aside0.mk hbox; have GW658 := Aside0.mk ((by rw [hg]; exact (keep_size (w := w) (g := g) (row := none) (y25 HK.out)) : w.heap.size ≤ gb658)); have GE658 := Aside0.mk ((Nat.le_trans HW0.out (by rw [hg]; exact (keep_size (w := w) (g := g) (row := none) (y25 HK.out)) : w.heap.size ≤ gb658) : w0.heap.size ≤ gb658)); replace HK := Aside0.mk (KeepBut.trans (y25 HK.out) (KeepBut.of_below hb g none) (.inl rfl)); have NB0_658 := Aside0.mk ((by rw [hg]; exact Nat.ne_of_lt (IsS95.lt (show IsS95 w0 _ g s0_0 s0_1 from by repeat (first | (with_reducible first | exact HI0.out | apply IsS95.alloc | apply IsS95.drewN | apply IsS95.drew | apply IsS95.set_1) | exact HI0.out))) : g ≠ gb658)); have NB658_0 := Aside0.mk ((by rw [hg]; exact Nat.ne_of_gt (IsS95.lt (show IsS95 w0 _ g s0_0 s0_1 from by repeat (first | (with_reducible first | exact HI0.out | apply IsS95.alloc | apply IsS95.drewN | apply IsS95.drew | apply IsS95.set_1) | exact HI0.out))) : gb658 ≠ g)); replace HI0 := Aside0.mk (IsS95.below (y35 HI0.out) hb); clear hb hbox hg) | ((with_reducible refine gate_dst (N := 4) rfl ?_); refine zbx 4 #[.int .i64 0, .slice none 0 0] 55 ?_; intro gb659 hg w83 hbox hb; replace HO1_0 := Aside0.mk (Kd.V_below (Kd.V_elderB (y13 HO1_0.out) gb659 (Nat.le_of_eq hg.symm)) hb); replace HB := Aside0.mk (below_step (y23 HB.out HI0.out GE658.out) hb); have BK659 := Aside0.mk hbox; have GW659 := Aside0.mk ((by rw [hg]; exact (keep_size (w := w) (g := g) (row := none) (y18 HK.out GW658.out)) : w.heap.size ≤ gb659)); have GE659 := Aside0.mk ((Nat.le_trans HW0.out (by rw [hg]; exact (keep_size (w := w) (g := g) (row := none) (y18 HK.out GW658.out)) : w.heap.size ≤ gb659) : w0.heap.size ≤ gb659)); replace HK := Aside0.mk (KeepBut.trans (y18 HK.out GW658.out) (KeepBut.of_below hb g none) (.inl rfl)); have NB658_659 := zltn hg BK658; have NB659_658 := zgtn hg BK658; replace BK658 := zbb BK658 hb; have NB0_659 := Aside0.mk ((by rw [hg]; exact Nat.ne_of_lt (IsS95.lt (show IsS95 w0 _ g s0_0 s0_1 from by repeat (first | (with_reducible first | exact HI0.out | apply IsS95.alloc | apply IsS95.drewN | apply IsS95.drew | apply IsS95.set_1 | refine IsS95.far ?_ NB0_658.out _) | exact HI0.out))) : g ≠ gb659)); have NB659_0 := Aside0.mk ((by rw [hg]; exact Nat.ne_of_gt (IsS95.lt (show IsS95 w0 _ g s0_0 s0_1 from by repeat (first | (with_reducible first | exact HI0.out | apply IsS95.alloc | apply IsS95.drewN | apply IsS95.drew | apply IsS95.set_1 | refine IsS95.far ?_ NB0_658.out _) | exact HI0.out))) : gb659 ≠ g)); replace HI0 := Aside0.mk (IsS95.below (y24 HI0.out NB0_658.out) hb); clear hb hbox hg; have hnb84 := NB658_659.out; have hnc84 := NB659_658.out; have hnb85 := NB658_0.out; have hnc85 := NB0_658.out; have hcz86_0 := zh BK658; have hfz86_0 := zfr BK658 0) | ((with_reducible refine gate_callee (f := 87) rfl ?_); refine goesL_ (some 9) rfl rfl Try.func87 (by kernel_rfl) rfl #[.pointer (some ⟨g, 0, none⟩), .agg #[.slice A1_0 l1_0.length c1_0]] rfl y4 ?_; (with_reducible refine (spec_l71Val.calls k g s0_0 s0_1 (fun k_ => ((((P1_0_ k_ ∨ w.heap.size ≤ k_) ∧ k_ ≠ g) ∧ k_ ≠ gb658) ∧ k_ ≠ gb659)) _ _ l1_0 t660 t661 t664 w0 _ ?side1 ?side2 ?side3 A3.out).mono ?_); (case side1 => exact y15 HI0.out NB0_658.out NB0_659.out); (case side2 => exact y12 HB.out HI0.out GE658.out GE659.out); (case side3 => exact y80 HO1_0.out); rintro e w87 ⟨v662, rfl, ho0, hi, hb, hk⟩; refine ⟨_, rfl, ?_⟩; replace HO1_0 := Aside0.mk (Kd.V_mono (Kd.V_told (Kd.V_oldK (Kd.V_mono (ok := fun k_ => (((((P1_0_ k_ ∨ w.heap.size ≤ k_)) ∧ k_ ≠ g) ∧ k_ ≠ gb658) ∧ k_ ≠ gb659)) (y13 HO1_0.out) (fun k_ hk_ => (⟨hk_, hk_.1.1.2⟩ : _ ∧ k_ ≠ g))) hk) (Kd.N_base ho0)) (fun _ h_ => h_.1)); have HO663 := Aside0.mk (Kd.N_lower (Kd.N_mono (ok' := fun k_ => (P1_0_ k_ ∨ w.heap.size ≤ k_) ∧ k_ ≠ gb658 ∧ k_ ≠ gb659 ∧ k_ ≠ g) ho0 (fun k_ hk_ => ⟨Or.elim hk_ (fun hs_ => hs_.1.1.1) (fun hn_ => (.inr (Nat.le_trans (keep_size (w := w) (g := g) (row := none) (y11 HK.out GW658.out GW659.out)) hn_))), Or.elim hk_ (fun hs_ => hs_.1.2) (fun hn_ => (Kd.freshB (g := gb658) (o := .cells #[.slice A1_0 l1_0.length c1_0] 30 (0, 0)) (y0 BK658.out) k_ hn_)), Or.elim hk_ (fun hs_ => hs_.2) (fun hn_ => (Kd.freshB (g := gb659) (o := .cells #[.int .i64 0, .slice none 0 0] 55 (0, 0)) (y0 BK659.out) k_ hn_)), Or.elim hk_ (fun hs_ => hs_.1.1.2) (fun hn_ => (IsS95.fresh (y15 HI0.out NB0_658.out NB0_659.out) k_ hn_))⟩)) (keep_size (w := w) (g := g) (row := none) (y11 HK.out GW658.out GW659.out))); replace BK658 := Aside0.mk (KeepBut.blk hk (g' := gb658) (o := .cells #[.slice A1_0 l1_0.length c1_0] 30 (0, 0)) (y0 BK658.out) NB658_0.out (by simp)); replace BK659 := Aside0.mk (KeepBut.blk hk (g' := gb659) (o := .cells #[.int .i64 0, .slice none 0 0] 55 (0, 0)) (y0 BK659.out) NB659_0.out (by simp)); replace HK := Aside0.mk (KeepBut.trans (y11 HK.out GW658.out GW659.out) hk (.inl rfl)); replace HB := Aside0.mk (hb); replace HI0 := Aside0.mk (hi); (try clear hb); (try clear hb2); (try clear hk); (try clear hi); (try clear ho0)) | ((with_reducible refine gate_dst (N := 5) rfl ?_); refine zbx 5 #[.int .i64 0, .slice none 0 0] 55 ?_; intro gb665 hg w88 hbox hb; replace HO1_0 := Aside0.mk (Kd.V_below (Kd.V_elderB (y13 HO1_0.out) gb665 (Nat.le_of_eq hg.symm)) hb); replace HO663 := Aside0.mk (Kd.N_below (Kd.N_elderB (y9 HO663.out) gb665 (Nat.le_of_eq hg.symm)) hb); replace HB := Aside0.mk (below_step (y12 HB.out HI0.out GE658.out GE659.out) hb); have BK665 := Aside0.mk hbox; have GW665 := Aside0.mk ((by rw [hg]; exact (keep_size (w := w) (g := g) (row := none) (y11 HK.out GW658.out GW659.out)) : w.heap.size ≤ gb665)); have GE665 := Aside0.mk ((Nat.le_trans HW0.out (by rw [hg]; exact (keep_size (w := w) (g := g) (row := none) (y11 HK.out GW658.out GW659.out)) : w.heap.size ≤ gb665) : w0.heap.size ≤ gb665)); replace HK := Aside0.mk (KeepBut.trans (y11 HK.out GW658.out GW659.out) (KeepBut.of_below hb g none) (.inl rfl)); have NB658_665 := zltn hg BK658; have NB665_658 := zgtn hg BK658; replace BK658 := zbb BK658 hb; have NB659_665 := zltn hg BK659; have NB665_659 := zgtn hg BK659; replace BK659 := zbb BK659 hb; have NB0_665 := Aside0.mk ((by rw [hg]; exact Nat.ne_of_lt (IsS95.lt (show IsS95 w0 _ g s0_0 t664 from by repeat (first | (with_reducible first | exact HI0.out | apply IsS95.alloc | apply IsS95.drewN | apply IsS95.drew | apply IsS95.set_1 | refine IsS95.far ?_ NB0_658.out _ | refine IsS95.far ?_ NB0_659.out _) | exact HI0.out))) : g ≠ gb665)); have NB665_0 := Aside0.mk ((by rw [hg]; exact Nat.ne_of_gt (IsS95.lt (show IsS95 w0 _ g s0_0 t664 from by repeat (first | (with_reducible first | exact HI0.out | apply IsS95.alloc | apply IsS95.drewN | apply IsS95.drew | apply IsS95.set_1 | refine IsS95.far ?_ NB0_658.out _ | refine IsS95.far ?_ NB0_659.out _) | exact HI0.out))) : gb665 ≠ g)); replace HI0 := Aside0.mk (IsS95.below (y15 HI0.out NB0_658.out NB0_659.out) hb); clear hb hbox hg; have hnb89 := NB665_658.out; have hnc89 := NB658_665.out; have hnb90 := NB665_659.out; have hnc90 := NB659_665.out; have hnb91 := NB665_0.out; have hnc91 := NB0_665.out; have hcz92_0 := zh BK665; have hcz92_1 := zh1 BK665; have hfz92_0 := zfr BK665 0; have hfz92_1 := zfr BK665 1; obtain ⟨Ao93, co93, eo93⟩ := Kd.N_slice HO663.out; subst eo93) | ((with_reducible refine gate_callee (f := 58) rfl ?_); refine goesL_ (some 11) rfl rfl Try.func58 (by kernel_rfl) rfl #[.pointer (some ⟨g, 0, none⟩), .int .i64 12] rfl y4 ?_; (with_reducible refine (spec_l6Rd_pick.calls k g s0_0 t664 12 t666 t667 w0 _ ?side1 ?side2 A4.out).mono ?_); (case side1 => exact y28 HI0.out NB0_658.out NB0_659.out NB0_665.out); (case side2 => exact y22 HB.out HI0.out GE658.out GE659.out GE665.out); rintro e w94 ⟨rfl, hi, hb, hk⟩; refine ⟨_, rfl, ?_⟩; replace HO1_0 := Aside0.mk (Kd.V_mono (Kd.V_keep (Kd.V_mono (ok := fun k_ => (((((((P1_0_ k_ ∨ w.heap.size ≤ k_)) ∧ k_ ≠ g) ∧ k_ ≠ gb658) ∧ k_ ≠ gb659) ∧ some k_ ≠ (.slice Ao93 t661.length co93 : Value).ownBlock) ∧ k_ ≠ gb665)) (by (with_reducible repeat (first | apply Kd.V_alloc | apply Kd.V_drewN | apply Kd.V_drew)); exact (Kd.V_mono (Kd.V_far (p := ⟨gb665, 1, none⟩) (Kd.V_far (p := ⟨gb665, 0, none⟩) (Kd.V_mono HO1_0.out (fun k_ hk => (⟨hk, hk.2⟩ : _ ∧ k_ ≠ gb665))) (fun _ hk => hk.2) (.int .i64 t660)) (fun _ hk => hk.2) (.slice Ao93 t661.length co93)) (fun _ h_ => h_.1))) (fun k_ hk_ => (⟨hk_, hk_.1.1.1.1.2⟩ : _ ∧ k_ ≠ g))) hk (fun _ h => h.2)) (fun _ h => h.1)); replace BK658 := Aside0.mk (KeepBut.blk hk (g' := gb658) (o := .cells #[.slice A1_0 l1_0.length c1_0] 30 (0, 0)) (y17 NB658_665.out BK658.out) NB658_0.out (by simp)); replace BK659 := Aside0.mk (KeepBut.blk hk (g' := gb659) (o := .cells #[.int .i64 0, .slice none 0 0] 55 (0, 0)) (y17 NB659_665.out BK659.out) NB659_0.out (by simp)); replace HO663 := Aside0.mk (Kd.N_mono (Kd.N_keep (Kd.N_mono (ok := fun k_ => ((((P1_0_ k_ ∨ w.heap.size ≤ k_)) ∧ (k_ ≠ gb658 ∧ (k_ ≠ gb659 ∧ k_ ≠ g))) ∧ k_ ≠ gb665)) (by (with_reducible repeat (first | apply Kd.N_alloc | apply Kd.N_drewN | apply Kd.N_drew)); exact (Kd.N_mono (Kd.N_far (p := ⟨gb665, 1, none⟩) (Kd.N_far (p := ⟨gb665, 0, none⟩) (Kd.N_mono HO663.out (fun k_ hk => (⟨hk, hk.2⟩ : _ ∧ k_ ≠ gb665))) (fun _ hk => hk.2) (.int .i64 t660)) (fun _ hk => hk.2) (.slice Ao93 t661.length co93)) (fun _ h_ => h_.1))) (fun k_ hk_ => (⟨hk_, hk_.1.2.2.2⟩ : _ ∧ k_ ≠ g))) hk (fun _ h => h.2)) (fun _ h => h.1)); replace BK665 := Aside0.mk (KeepBut.blk hk (g' := gb665) (o := .cells #[.int .i64 t660, .slice Ao93 t661.length co93] 55 (0, 0)) (by (with_reducible repeat (first | refine blk_drewN ?_ _ | refine blk_drew ?_ | refine blk_alloc ?_ _)); refine blk_put (cs := #[.int .i64 t660, .slice none 0 0]) ?_ 1 _ rfl; (with_reducible repeat (first | refine blk_drewN ?_ _ | refine blk_drew ?_ | refine blk_alloc ?_ _)); apply blk_put (i := 0); (case h => exact y0 BK665.out); (case e => rfl)) NB665_0.out (by simp)); replace HK := Aside0.mk (KeepBut.trans (y32 HK.out GW658.out GW659.out GW665.out) hk (.inl rfl)); replace HB := Aside0.mk (hb); replace HI0 := Aside0.mk (hi); (try clear hb); (try clear hb2); (try clear hk); (try clear hi); have hcz95_0 := zh BK665; have hcz95_1 := zh1 BK665; have hfz95_0 := zfr BK665 0; have hfz95_1 := zfr BK665 1; have hnb96 := NB659_0.out; have hnc96 := NB0_659.out; have hcz97_0 := zh BK659; have hcz97_1 := zh1 BK659; have hfz97_0 := zfr BK659 0; have hfz97_1 := zfr BK659 1))
    refine bodyPost_ret (results_cell_row rfl _ _ gb659 55 #[.int .i64 t660, .slice Ao93 t661.length co93] (0, 0) _ rfl (by (with_reducible repeat (first | refine blk_drewN ?_ _ | refine blk_drew ?_ | refine blk_alloc ?_ _)); refine blk_put (cs := #[.int .i64 t660, .slice none 0 0]) ?_ 1 _ rfl; (with_reducible repeat (first | refine blk_drewN ?_ _ | refine blk_drew ?_ | refine blk_alloc ?_ _)); apply blk_put (i := 0); (case h => exact y0 BK659.out); (case e => rfl)) Try.underlying55 rfl (by kernel_rfl)) rfl ?_
    exact ⟨_, y14, (by (with_reducible repeat (first | apply Kd.N_alloc | apply Kd.N_drewN | apply Kd.N_drew)); exact Kd.N_mono (Kd.N_far (p := ⟨gb659, 1, none⟩) (Kd.N_far (p := ⟨gb659, 0, none⟩) (Kd.N_mono HO663.out (fun k_ hk => (⟨hk, hk.1.2.2.1⟩ : _ ∧ k_ ≠ gb659))) (fun _ hk => hk.2) (.int .i64 t660)) (fun _ hk => hk.2) (.slice Ao93 t661.length co93)) (fun _ hk => hk.1.1.1)), (y28 HI0.out NB0_658.out NB0_659.out NB0_665.out), (y22 HB.out HI0.out GE658.out GE659.out GE665.out), (y32 HK.out GW658.out GW659.out GW665.out)⟩
end Go.Proofs.Ytjhbhihfifhljaa.PA
end
section
namespace Go.Proofs.Ytjhbhihfifhljaa.PA
open Go.RowKit Go.Proofs.YtjhbhihfifhljaaW.PrintWords Go.Proofs.YtjhbhihfifhljaaW.PrintLast Go.Proofs.YtjhbhihfifhljaaW.PrintMore
attribute [local go_sem] max2_int min2_int max_two min_two max_three min_three max_four min_four
set_option linter.unusedVariables false
set_option linter.unusedSimpArgs false
def spec_DrawValOk.f (k : Nat) (l0 : List Int) : Option ((List (S30)) × Int × (List (S55))) := (spec_l6Open.f l0).bind fun bt682 => ((spec_l6Rd_pick.f k bt682.1 bt682.2 4).bind fun bt685 => ((spec_l71Type.f k bt682.1 bt685.2 (wrap64 (1 + bt685.1))).bind fun bt687 => ((spec_l6Rd_pick.f k bt682.1 bt687.2 5).bind fun bt692 => (if bt692.1 = 0 then ((spec_l71Type.f k bt682.1 bt692.2 3).bind fun bt694 => ((spec_l71Bad.f k bt682.1 bt694.2 bt694.1).bind fun bt698 => (some (bt687.1, bt698.1, bt698.2.1)))) else ((spec_l71Bad.f k bt682.1 bt692.2 bt687.1).bind fun bt703 => (some (bt687.1, bt703.1, bt703.2.1)))))))
theorem spec_DrawValOk.mono : ∀ a0 k, LeO (spec_DrawValOk.f k a0) (spec_DrawValOk.f (k + 1) a0) := by
 intro a0 k
 unfold spec_DrawValOk.f
 repeat' first
   | (with_reducible exact spec_l6Rd_pick.mono _ _ _ _)
   | (with_reducible exact spec_l71Bad.mono _ _ _ _)
   | (with_reducible exact spec_l71Type.mono _ _ _ _)
   | (with_reducible exact LeO.refl _)
   | (with_reducible exact LeO.none _)
   | (with_reducible refine LeO.ite ?_ ?_)
   | (with_reducible refine LeO.bind ?_ (fun _ => ?_))
   | exact spec_l6Rd_pick.mono _ _ _ _
   | exact spec_l71Bad.mono _ _ _ _
   | exact spec_l71Type.mono _ _ _ _
   | exact LeO.none _
   | refine LeO.ite ?_ ?_
   | refine LeO.bind ?_ (fun _ => ?_)
set_option maxHeartbeats 8000000 in
set_option maxRecDepth 100000 in
theorem spec_DrawValOk.calls (k : Nat) (A0 : Option Addr) (c0 : Nat) (l0 : List Int) (r1 : List (S30)) (r2 : Int) (r3 : List (S55)) (w : World) (hr0 : Kd.C (Kd.int .u8) w A0 l0.length l0) (hc0 : l0.length ≤ c0) (h : spec_DrawValOk.f k l0 = some (r1, r2, r3)) :
  Calls Try.prog 34 #[.slice A0 l0.length c0] w fun e w' => ∃ v0_ v2_ : Value, e = .returned (.tuple #[.agg #[v0_], .agg #[.int .i64 r2, v2_]]) ∧ Kd.V k30 30 w' w.heap.size (fun k_ => (w.heap.size ≤ k_)) v0_ r1 ∧ Kd.V k55 55 w' w.heap.size (fun k_ => (w.heap.size ≤ k_)) v2_ r3 ∧ Below w.heap.size w w' := by
 have hu30 := Try.underlying30
 have hu55 := Try.underlying55
 have HR0 := Aside0.mk hr0
 have HC0 := Aside0.mk hc0
 clear hr0 hc0
 have HB := Aside0.mk (Below.refl w.heap.size w)
 have H : ((spec_l6Open.f l0).bind fun bt682 => ((spec_l6Rd_pick.f k bt682.1 bt682.2 4).bind fun bt685 => ((spec_l71Type.f k bt682.1 bt685.2 (wrap64 (1 + bt685.1))).bind fun bt687 => ((spec_l6Rd_pick.f k bt682.1 bt687.2 5).bind fun bt692 => (if bt692.1 = 0 then ((spec_l71Type.f k bt682.1 bt692.2 3).bind fun bt694 => ((spec_l71Bad.f k bt682.1 bt694.2 bt694.1).bind fun bt698 => (some (bt687.1, bt698.1, bt698.2.1)))) else ((spec_l71Bad.f k bt682.1 bt692.2 bt687.1).bind fun bt703 => (some (bt687.1, bt703.1, bt703.2.1)))))))) = some (r1, r2, r3) := h
 clear h
 obtain ⟨⟨t682, t683⟩, A20, H⟩ := ob H
 have A2 := Aside0.mk A20
 clear A20
 obtain ⟨⟨t685, t686⟩, A30, H⟩ := ob H
 have A3 := Aside0.mk A30
 clear A30
 obtain ⟨⟨t687, t690⟩, A40, H⟩ := ob H
 have A4 := Aside0.mk A40
 clear A40
 obtain ⟨⟨t692, t693⟩, A50, H⟩ := ob H
 have A5 := Aside0.mk A50
 clear A50
 by_cases c6 : t692 = 0
 ·rw [if_pos c6] at H
  have c6b0 : (t692 == 0) = true := beq_iff_eq.mpr c6
  have c6b1 : (t692 != 0) = false := bne_eq_false_iff_eq.mpr c6
  clear c6
  obtain ⟨⟨t694, t697⟩, A70, H⟩ := ob H
  have A7 := Aside0.mk A70
  clear A70
  obtain ⟨⟨t698, t699, t702⟩, A80, H⟩ := ob H
  have A8 := Aside0.mk A80
  clear A80
  simp only [Option.some.injEq, Prod.mk.injEq] at H
  obtain ⟨rfl, rfl, rfl⟩ := H
  go_enter Try.func34, Try.ntmps34
  try go_wp2_with (first | ((with_reducible refine gate_dst (N := 2) rfl ?_); refine zbx 2 #[.slice none 0 0] 30 ?_; intro gb680 hg w9 hbox hb; have BK680 := Aside0.mk hbox; have GW680 := Aside0.mk ((y5 hg HB.out : w.heap.size ≤ gb680)); have GE680 := Aside0.mk ((y5 hg HB.out : w.heap.size ≤ gb680)); replace HB := Aside0.mk (below_step (y2 HB.out) hb); clear hb hbox hg) | ((with_reducible refine gate_dst (N := 3) rfl ?_); refine zbx 3 #[.int .i64 0, .slice none 0 0] 55 ?_; intro gb681 hg w10 hbox hb; have BK681 := Aside0.mk hbox; have GW681 := Aside0.mk ((y6 hg HB.out GE680.out : w.heap.size ≤ gb681)); have GE681 := Aside0.mk ((y6 hg HB.out GE680.out : w.heap.size ≤ gb681)); replace HB := Aside0.mk (below_step (y3 HB.out GE680.out) hb); have NB680_681 := zltn hg BK680; have NB681_680 := zgtn hg BK680; replace BK680 := zbb BK680 hb; clear hb hbox hg) | ((with_reducible refine gate_callee (f := 52) rfl ?_); refine goesL_ (some 7) rfl rfl Try.func52 (by kernel_rfl) rfl #[.slice A0 l0.length c0] rfl y4 ?_; (with_reducible refine (spec_l6Open.calls _ _ l0 t682 t683 w _ ?side1 ?side2 ?side3 A2.out).mono ?_); (case side1 => exact y1 HB.out GE680.out GE681.out); (case side2 => exact HR0.out); (case side3 => exact HC0.out); rintro e w11 ⟨g684, rfl, hi, hb, hb2⟩; refine ⟨_, rfl, ?_⟩; replace HB := Aside0.mk (hb); have HI684 := Aside0.mk (hi); have NB684_680 := Aside0.mk (IsS95.ne_blk hi (blk_below (g := gb680) (o := .cells #[.slice none 0 0] 30 (0, 0)) (y0 BK680.out) hb2) (by decide)); have NB680_684 := Aside0.mk (Ne.symm (IsS95.ne_blk hi (blk_below (g := gb680) (o := .cells #[.slice none 0 0] 30 (0, 0)) (y0 BK680.out) hb2) (by decide))); replace BK680 := Aside0.mk (blk_below (g := gb680) (o := .cells #[.slice none 0 0] 30 (0, 0)) (y0 BK680.out) hb2); have NB684_681 := Aside0.mk (IsS95.ne_blk hi (blk_below (g := gb681) (o := .cells #[.int .i64 0, .slice none 0 0] 55 (0, 0)) (y0 BK681.out) hb2) (by decide)); have NB681_684 := Aside0.mk (Ne.symm (IsS95.ne_blk hi (blk_below (g := gb681) (o := .cells #[.int .i64 0, .slice none 0 0] 55 (0, 0)) (y0 BK681.out) hb2) (by decide))); replace BK681 := Aside0.mk (blk_below (g := gb681) (o := .cells #[.int .i64 0, .slice none 0 0] 55 (0, 0)) (y0 BK681.out) hb2); (try clear hb); (try clear hb2); (try clear hk); (try clear hi)) | ((with_reducible refine gate_callee (f := 58) rfl ?_); refine goesL_ (some 10) rfl rfl Try.func58 (by kernel_rfl) rfl #[.pointer (some ⟨g684, 0, none⟩), .int .i64 4] rfl y4 ?_; (with_reducible refine (spec_l6Rd_pick.calls k g684 t682 t683 4 t685 t686 w _ ?side1 ?side2 A3.out).mono ?_); (case side1 => exact y15 HI684.out NB684_680.out NB684_681.out); (case side2 => exact y12 HB.out HI684.out GE680.out GE681.out); rintro e w12 ⟨rfl, hi, hb, hk⟩; refine ⟨_, rfl, ?_⟩; replace BK680 := Aside0.mk (KeepBut.blk hk (g' := gb680) (o := .cells #[.slice none 0 0] 30 (0, 0)) (y0 BK680.out) NB680_684.out (by simp)); replace BK681 := Aside0.mk (KeepBut.blk hk (g' := gb681) (o := .cells #[.int .i64 0, .slice none 0 0] 55 (0, 0)) (y0 BK681.out) NB681_684.out (by simp)); replace HB := Aside0.mk (hb); replace HI684 := Aside0.mk (hi); (try clear hb); (try clear hb2); (try clear hk); (try clear hi)) | ((with_reducible refine gate_callee (f := 67) rfl ?_); refine goesL_ (some 12) rfl rfl Try.func67 (by kernel_rfl) rfl #[.pointer (some ⟨g684, 0, none⟩), .int .i64 (wrap64 (1 + t685))] rfl y4 ?_; (with_reducible refine (spec_l71Type.calls k g684 t682 t686 (wrap64 (1 + t685)) t687 t690 w _ ?side1 ?side2 A4.out).mono ?_); (case side1 => exact y15 HI684.out NB684_680.out NB684_681.out); (case side2 => exact y12 HB.out HI684.out GE680.out GE681.out); rintro e w13 ⟨v688, rfl, ho0, hi, hb, hk⟩; refine ⟨_, rfl, ?_⟩; have HO689 := Aside0.mk (Kd.N_lower (Kd.N_mono (ok' := fun k_ => (w.heap.size ≤ k_) ∧ k_ ≠ gb680 ∧ k_ ≠ gb681 ∧ k_ ≠ g684) ho0 (fun k_ hk_ => ⟨(Nat.le_trans (below_size (y12 HB.out HI684.out GE680.out GE681.out)) hk_), (Kd.freshB (g := gb680) (o := .cells #[.slice none 0 0] 30 (0, 0)) (y0 BK680.out) k_ hk_), (Kd.freshB (g := gb681) (o := .cells #[.int .i64 0, .slice none 0 0] 55 (0, 0)) (y0 BK681.out) k_ hk_), (IsS95.fresh (y15 HI684.out NB684_680.out NB684_681.out) k_ hk_)⟩)) (below_size (y12 HB.out HI684.out GE680.out GE681.out))); replace BK680 := Aside0.mk (KeepBut.blk hk (g' := gb680) (o := .cells #[.slice none 0 0] 30 (0, 0)) (y0 BK680.out) NB680_684.out (by simp)); replace BK681 := Aside0.mk (KeepBut.blk hk (g' := gb681) (o := .cells #[.int .i64 0, .slice none 0 0] 55 (0, 0)) (y0 BK681.out) NB681_684.out (by simp)); replace HB := Aside0.mk (hb); replace HI684 := Aside0.mk (hi); (try clear hb); (try clear hb2); (try clear hk); (try clear hi); (try clear ho0)) | ((with_reducible refine gate_dst (N := 5) rfl ?_); refine zbx 5 #[.slice none 0 0] 30 ?_; intro gb691 hg w14 hbox hb; replace HO689 := Aside0.mk (Kd.N_below (Kd.N_elderB (y9 HO689.out) gb691 (Nat.le_of_eq hg.symm)) hb); have BK691 := Aside0.mk hbox; have GW691 := Aside0.mk ((y39 hg HB.out HI684.out GE680.out GE681.out : w.heap.size ≤ gb691)); have GE691 := Aside0.mk ((y39 hg HB.out HI684.out GE680.out GE681.out : w.heap.size ≤ gb691)); replace HB := Aside0.mk (below_step (y12 HB.out HI684.out GE680.out GE681.out) hb); have NB680_691 := zltn hg BK680; have NB691_680 := zgtn hg BK680; replace BK680 := zbb BK680 hb; have NB681_691 := zltn hg BK681; have NB691_681 := zgtn hg BK681; replace BK681 := zbb BK681 hb; have NB684_691 := Aside0.mk ((by rw [hg]; exact Nat.ne_of_lt (IsS95.lt (show IsS95 w _ g684 t682 t690 from by repeat (first | (with_reducible first | exact HI684.out | apply IsS95.alloc | apply IsS95.drewN | apply IsS95.drew | apply IsS95.set_1 | refine IsS95.far ?_ NB684_680.out _ | refine IsS95.far ?_ NB684_681.out _) | exact HI684.out))) : g684 ≠ gb691)); have NB691_684 := Aside0.mk ((by rw [hg]; exact Nat.ne_of_gt (IsS95.lt (show IsS95 w _ g684 t682 t690 from by repeat (first | (with_reducible first | exact HI684.out | apply IsS95.alloc | apply IsS95.drewN | apply IsS95.drew | apply IsS95.set_1 | refine IsS95.far ?_ NB684_680.out _ | refine IsS95.far ?_ NB684_681.out _) | exact HI684.out))) : gb691 ≠ g684)); replace HI684 := Aside0.mk (IsS95.below (y15 HI684.out NB684_680.out NB684_681.out) hb); clear hb hbox hg; obtain ⟨Ao15, co15, eo15⟩ := Kd.N_slice HO689.out; subst eo15; have hnb16 := NB691_680.out; have hnc16 := NB680_691.out; have hnb17 := NB691_681.out; have hnc17 := NB681_691.out; have hnb18 := NB691_684.out; have hnc18 := NB684_691.out; have hcz19_0 := zh BK691; have hfz19_0 := zfr BK691 0) | ((with_reducible refine gate_callee (f := 58) rfl ?_); refine goesL_ (some 14) rfl rfl Try.func58 (by kernel_rfl) rfl #[.pointer (some ⟨g684, 0, none⟩), .int .i64 5] rfl y4 ?_; (with_reducible refine (spec_l6Rd_pick.calls k g684 t682 t690 5 t692 t693 w _ ?side1 ?side2 A5.out).mono ?_); (case side1 => exact y28 HI684.out NB684_680.out NB684_681.out NB684_691.out); (case side2 => exact y22 HB.out HI684.out GE680.out GE681.out GE691.out); rintro e w20 ⟨rfl, hi, hb, hk⟩; refine ⟨_, rfl, ?_⟩; replace BK680 := Aside0.mk (KeepBut.blk hk (g' := gb680) (o := .cells #[.slice none 0 0] 30 (0, 0)) (y21 NB680_691.out BK680.out) NB680_684.out (by simp)); replace BK681 := Aside0.mk (KeepBut.blk hk (g' := gb681) (o := .cells #[.int .i64 0, .slice none 0 0] 55 (0, 0)) (y21 NB681_691.out BK681.out) NB681_684.out (by simp)); replace HO689 := Aside0.mk (Kd.N_mono (Kd.N_keep (Kd.N_mono (ok := fun k_ => ((((w.heap.size ≤ k_)) ∧ (k_ ≠ gb680 ∧ (k_ ≠ gb681 ∧ k_ ≠ g684))) ∧ k_ ≠ gb691)) (by (with_reducible repeat (first | apply Kd.N_alloc | apply Kd.N_drewN | apply Kd.N_drew)); exact (Kd.N_mono (Kd.N_far (p := ⟨gb691, 0, none⟩) (Kd.N_mono HO689.out (fun k_ hk => (⟨hk, hk.2⟩ : _ ∧ k_ ≠ gb691))) (fun _ hk => hk.2) (.slice Ao15 t687.length co15)) (fun _ h_ => h_.1))) (fun k_ hk_ => (⟨hk_, hk_.1.2.2.2⟩ : _ ∧ k_ ≠ g684))) hk (fun _ h => h.2)) (fun _ h => h.1)); replace BK691 := Aside0.mk (KeepBut.blk hk (g' := gb691) (o := .cells #[.slice Ao15 t687.length co15] 30 (0, 0)) (by (with_reducible repeat (first | refine blk_drewN ?_ _ | refine blk_drew ?_ | refine blk_alloc ?_ _)); apply blk_put (i := 0); (case h => exact y0 BK691.out); (case e => rfl)) NB691_684.out (by simp)); replace HB := Aside0.mk (hb); replace HI684 := Aside0.mk (hi); (try clear hb); (try clear hb2); (try clear hk); (try clear hi)))
  replace HO689 := Aside0.mk (Kd.N_drew HO689.out)
  replace BK680 := Aside0.mk (blk_drew BK680.out)
  replace BK681 := Aside0.mk (blk_drew BK681.out)
  replace BK691 := Aside0.mk (blk_drew BK691.out)
  replace HI684 := Aside0.mk (IsS95.drew HI684.out)
  replace HB := Aside0.mk (below_drew1 HB.out)
  refine start_ (n := 7) (S := fun w' => w'.cell? ⟨gb691, 0, none⟩ = some (.slice Ao15 t687.length co15)) (ds := []) #[false, false, false, false, false, false, false] (by kernel_rfl) rfl rfl ((blk_cell BK691.out 0).trans rfl) (fun hHeld => ?_)
  generalize w20.drew = w21 at HO689 BK680 BK681 BK691 HI684 HB hHeld ⊢
  refine pure_ (i := 1) (N := some 17) (v := ?_) (a' := ?_) #[false, true, false, false, false, false, false] rfl rfl (by kernel_rfl) (fun _ _ _ h => h) (Or.inl ⟨(by rfl), ?_⟩) ?_ ?_
  rotate_left
  ·intro w'
   go_simp
   with_reducible rfl
  rotate_left
  ·simp only [Act.put, List.setIfInBounds_toArray, List.set_cons_zero, List.set_cons_succ, i64_w, i32_w]
   rfl
  refine pure_ (i := 2) (N := some 18) (v := ?_) (a' := ?_) #[false, true, true, false, false, false, false] rfl rfl (by kernel_rfl) (fun _ _ _ h => h) (Or.inl ⟨(by rfl), ?_⟩) ?_ ?_
  rotate_left
  ·intro w'
   go_simp
   with_reducible rfl
  rotate_left
  ·simp only [Act.put, List.setIfInBounds_toArray, List.set_cons_zero, List.set_cons_succ, i64_w, i32_w]
   rfl
  refine take_ (i := 0) (N := some 16) (v := ?_) (a' := ?_) #[true, true, true, false, false, false, false] rfl rfl (by kernel_rfl) (fun _ _ _ h => h) (Or.inl ⟨(by rfl), ?_⟩) hHeld ?_ ?_
  rotate_left
  ·intro w' s0
   go_simp
   with_reducible rfl
  rotate_left
  ·simp only [Act.put, List.setIfInBounds_toArray, List.set_cons_zero, List.set_cons_succ, i64_w, i32_w]
   rfl
  refine one_ (i := 3) (N := some 19) #[true, true, true, true, false, false, false] rfl rfl (by kernel_rfl) (by decide) (fun K hK => ?_)
  refine goes_ Try.func67 (by kernel_rfl) rfl #[.pointer (some ⟨g684, 0, none⟩), .int .i64 3] (by rfl) rfl rfl y4 ?_
  with_reducible refine (spec_l71Type.calls k g684 t682 t693 3 t694 t697 w _ ?side1 ?side2 A7.out).mono ?_
  (case side1 => exact y28 HI684.out NB684_680.out NB684_681.out NB684_691.out)
  (case side2 => exact y22 HB.out HI684.out GE680.out GE681.out GE691.out)
  rintro e w22 ⟨v695, rfl, ho0, hi, hb, hk⟩
  refine ⟨_, rfl, ?_⟩
  have HO696 := Aside0.mk (Kd.N_lower (Kd.N_mono (ok' := fun k_ => (w.heap.size ≤ k_) ∧ some k_ ≠ (.slice Ao15 t687.length co15 : Value).ownBlock ∧ k_ ≠ gb680 ∧ k_ ≠ gb681 ∧ k_ ≠ gb691 ∧ k_ ≠ g684) ho0 (fun k_ hk_ => ⟨(Nat.le_trans (below_size (y22 HB.out HI684.out GE680.out GE681.out GE691.out)) hk_), (Kd.fresh' (Kd.N_lt (y9 HO689.out)) k_ hk_), (Kd.freshB (g := gb680) (o := .cells #[.slice none 0 0] 30 (0, 0)) (y0 BK680.out) k_ hk_), (Kd.freshB (g := gb681) (o := .cells #[.int .i64 0, .slice none 0 0] 55 (0, 0)) (y0 BK681.out) k_ hk_), (Kd.freshB (g := gb691) (o := .cells #[.slice Ao15 t687.length co15] 30 (0, 0)) (y0 BK691.out) k_ hk_), (IsS95.fresh (y28 HI684.out NB684_680.out NB684_681.out NB684_691.out) k_ hk_)⟩)) (below_size (y22 HB.out HI684.out GE680.out GE681.out GE691.out)))
  replace BK680 := Aside0.mk (KeepBut.blk hk (g' := gb680) (o := .cells #[.slice none 0 0] 30 (0, 0)) (y0 BK680.out) NB680_684.out (by simp))
  replace BK681 := Aside0.mk (KeepBut.blk hk (g' := gb681) (o := .cells #[.int .i64 0, .slice none 0 0] 55 (0, 0)) (y0 BK681.out) NB681_684.out (by simp))
  replace HO689 := Aside0.mk (Kd.N_mono (Kd.N_told (Kd.N_oldK (Kd.N_mono (ok := fun k_ => ((((w.heap.size ≤ k_)) ∧ (k_ ≠ gb680 ∧ (k_ ≠ gb681 ∧ k_ ≠ g684))) ∧ k_ ≠ gb691)) (y9 HO689.out) (fun k_ hk_ => (⟨hk_, hk_.1.2.2.2⟩ : _ ∧ k_ ≠ g684))) hk) (Kd.N_base ho0)) (fun _ h_ => h_.1))
  replace BK691 := Aside0.mk (KeepBut.blk hk (g' := gb691) (o := .cells #[.slice Ao15 t687.length co15] 30 (0, 0)) (y0 BK691.out) NB691_684.out (by simp))
  replace HB := Aside0.mk (hb)
  replace HI684 := Aside0.mk (hi)
  (try clear hb)
  (try clear hb2)
  (try clear hk)
  (try clear hi)
  (try clear ho0)
  obtain ⟨Ao23, co23, eo23⟩ := Kd.N_slice HO696.out
  (first | subst eo23 | (injection eo23 with f1_ f2_ f3_; have f4_ := f1_.symm; have f5_ := f3_.symm; clear f1_ f2_ f3_; subst f4_; subst f5_))
  refine hK.out _ _ ((blk_cell BK691.out 0).trans rfl) (fun hHeld => ?_)
  clear hK K
  refine norm_ (a' := ?_) ?_ ?_
  rotate_left
  ·show Act.put _ (some 19) _ = _
   simp only [Act.put, List.setIfInBounds_toArray, List.set_cons_zero, List.set_cons_succ, i64_w, i32_w]
   rfl
  refine one_ (i := 4) (N := some 20) #[true, true, true, true, true, false, false] rfl rfl (by kernel_rfl) (by decide) (fun K hK => ?_)
  refine goes_ Try.func68 (by kernel_rfl) rfl #[.pointer (some ⟨g684, 0, none⟩), .agg #[.slice Ao23 t694.length co23]] (by rfl) rfl rfl y4 ?_
  with_reducible refine (spec_l71Bad.calls k g684 t682 t697 (fun k_ => ((w.heap.size ≤ k_) ∧ (some k_ ≠ (.slice Ao15 t687.length co15 : Value).ownBlock ∧ (k_ ≠ gb680 ∧ (k_ ≠ gb681 ∧ (k_ ≠ gb691 ∧ k_ ≠ g684)))))) _ _ t694 t698 t699 t702 w _ ?side1 ?side2 ?side3 A8.out).mono ?_
  (case side1 => exact y28 HI684.out NB684_680.out NB684_681.out NB684_691.out)
  (case side2 => exact y22 HB.out HI684.out GE680.out GE681.out GE691.out)
  (case side3 => exact Kd.V_mono (Kd.N_V (HO696.out)) (fun k_ hk_ => ⟨hk_, hk_.2.2.2.2.2⟩))
  rintro e w24 ⟨v700, rfl, ho0, hi, hb, hk⟩
  refine ⟨_, rfl, ?_⟩
  replace HO696 := Aside0.mk (Kd.N_mono (Kd.N_told (Kd.N_oldK (Kd.N_mono (ok := fun k_ => (((w.heap.size ≤ k_)) ∧ (some k_ ≠ (.slice Ao15 t687.length co15 : Value).ownBlock ∧ (k_ ≠ gb680 ∧ (k_ ≠ gb681 ∧ (k_ ≠ gb691 ∧ k_ ≠ g684)))))) (y9 HO696.out) (fun k_ hk_ => (⟨hk_, hk_.2.2.2.2.2⟩ : _ ∧ k_ ≠ g684))) hk) (Kd.N_base ho0)) (fun _ h_ => h_.1))
  have HO701 := Aside0.mk (Kd.N_lower (Kd.N_mono (ok' := fun k_ => (w.heap.size ≤ k_) ∧ some k_ ≠ (.slice Ao15 t687.length co15 : Value).ownBlock ∧ k_ ≠ gb680 ∧ k_ ≠ gb681 ∧ k_ ≠ gb691 ∧ k_ ≠ g684) ho0 (fun k_ hk_ => ⟨Or.elim hk_ (fun hs_ => hs_.1) (fun hn_ => (Nat.le_trans (below_size (y22 HB.out HI684.out GE680.out GE681.out GE691.out)) hn_)), Or.elim hk_ (fun hs_ => hs_.2.1) (fun hn_ => (Kd.fresh' (Kd.N_lt (y9 HO689.out)) k_ hn_)), Or.elim hk_ (fun hs_ => hs_.2.2.1) (fun hn_ => (Kd.freshB (g := gb680) (o := .cells #[.slice none 0 0] 30 (0, 0)) (y0 BK680.out) k_ hn_)), Or.elim hk_ (fun hs_ => hs_.2.2.2.1) (fun hn_ => (Kd.freshB (g := gb681) (o := .cells #[.int .i64 0, .slice none 0 0] 55 (0, 0)) (y0 BK681.out) k_ hn_)), Or.elim hk_ (fun hs_ => hs_.2.2.2.2.1) (fun hn_ => (Kd.freshB (g := gb691) (o := .cells #[.slice Ao15 t687.length co15] 30 (0, 0)) (y0 BK691.out) k_ hn_)), Or.elim hk_ (fun hs_ => hs_.2.2.2.2.2) (fun hn_ => (IsS95.fresh (y28 HI684.out NB684_680.out NB684_681.out NB684_691.out) k_ hn_))⟩)) (below_size (y22 HB.out HI684.out GE680.out GE681.out GE691.out)))
  replace BK680 := Aside0.mk (KeepBut.blk hk (g' := gb680) (o := .cells #[.slice none 0 0] 30 (0, 0)) (y0 BK680.out) NB680_684.out (by simp))
  replace BK681 := Aside0.mk (KeepBut.blk hk (g' := gb681) (o := .cells #[.int .i64 0, .slice none 0 0] 55 (0, 0)) (y0 BK681.out) NB681_684.out (by simp))
  replace HO689 := Aside0.mk (Kd.N_mono (Kd.N_told (Kd.N_oldK (Kd.N_mono (ok := fun k_ => (((((w.heap.size ≤ k_)) ∧ (k_ ≠ gb680 ∧ (k_ ≠ gb681 ∧ k_ ≠ g684))) ∧ k_ ≠ gb691) ∧ some k_ ≠ (.slice Ao23 t694.length co23 : Value).ownBlock)) (y9 HO689.out) (fun k_ hk_ => (⟨hk_, hk_.1.1.2.2.2⟩ : _ ∧ k_ ≠ g684))) hk) (Kd.N_base ho0)) (fun _ h_ => h_.1))
  replace BK691 := Aside0.mk (KeepBut.blk hk (g' := gb691) (o := .cells #[.slice Ao15 t687.length co15] 30 (0, 0)) (y0 BK691.out) NB691_684.out (by simp))
  replace HB := Aside0.mk (hb)
  replace HI684 := Aside0.mk (hi)
  (try clear hb)
  (try clear hb2)
  (try clear hk)
  (try clear hi)
  (try clear ho0)
  obtain ⟨Ao27, co27, eo27⟩ := Kd.N_slice HO701.out
  (first | subst eo27 | (injection eo27 with f1_ f2_ f3_; have f4_ := f1_.symm; have f5_ := f3_.symm; clear f1_ f2_ f3_; subst f4_; subst f5_))
  refine hK.out _ _ ((blk_cell BK691.out 0).trans rfl) (fun hHeld => ?_)
  clear hK K
  refine norm_ (a' := ?_) ?_ ?_
  rotate_left
  ·show Act.put _ (some 20) _ = _
   simp only [Act.put, List.setIfInBounds_toArray, List.set_cons_zero, List.set_cons_succ, i64_w, i32_w]
   rfl
  refine one_ (i := 5) (N := none) #[true, true, true, true, true, true, false] rfl rfl (by kernel_rfl) (by decide) (fun K hK => ?_)
  have hs25 : w24.cell? ⟨gb680, 0, none⟩ = some (.slice none 0 0) := (blk_cell BK680.out 0).trans rfl
  have hfs25 := zfr BK680 0
  have hns25_1 := NB681_680.out
  have hns25_2 := NB691_680.out
  have hms25_1 := NB680_681.out
  have hms25_2 := NB680_691.out
  refine skip_ (w1 := ?_) (by rfl) rfl ?_ ?_
  rotate_left
  ·go_simp
   rfl
  refine hK.out _ _ (((cell_far (p := ⟨gb680, _, none⟩) NB691_680.out _).trans (hHeld))) (fun hHeld => ?_)
  clear hK K
  refine one_ (i := 6) (N := none) #[true, true, true, true, true, true, true] rfl rfl (by kernel_rfl) (by decide) (fun K hK => ?_)
  have hs26 : w24.cell? ⟨gb681, 0, none⟩ = some (.int .i64 0) := (blk_cell BK681.out 0).trans rfl
  have hfs26 := zfr BK681 0
  have hns26_0 := NB680_681.out
  have hns26_2 := NB691_681.out
  have hms26_0 := NB681_680.out
  have hms26_2 := NB681_691.out
  have hs28 : w24.cell? ⟨gb681, 1, none⟩ = some (.slice none 0 0) := (blk_cell BK681.out 1).trans rfl
  have hfs28 := zfr BK681 1
  have hns28_0 := NB680_681.out
  have hns28_2 := NB691_681.out
  have hms28_0 := NB681_680.out
  have hms28_2 := NB681_691.out
  refine skip_ (w1 := ?_) (by rfl) rfl ?_ ?_
  rotate_left
  ·go_simp
   rfl
  refine hK.out _ _ (((cell_far (p := ⟨gb681, _, none⟩) NB691_681.out _).trans (((cell_far (p := ⟨gb681, _, none⟩) NB691_681.out _).trans (hHeld))))) (fun hHeld => ?_)
  clear hK K
  refine done_ (by kernel_rfl) ?_
  try go_wp2
  refine bodyPost_ret (results_cc rfl _ _ gb680 gb681 30 55 #[.slice Ao15 t687.length co15] #[.int .i64 t698, .slice Ao27 t699.length co27] (0, 0) (0, 0) _ _ rfl (by (with_reducible repeat (first | refine blk_drewN ?_ _ | refine blk_drew ?_ | refine blk_alloc ?_ _)); refine blk_far ?_ NB680_681.out _; (with_reducible repeat (first | refine blk_drewN ?_ _ | refine blk_drew ?_ | refine blk_alloc ?_ _)); refine blk_far ?_ NB680_681.out _; (with_reducible repeat (first | refine blk_drewN ?_ _ | refine blk_drew ?_ | refine blk_alloc ?_ _)); apply blk_put (i := 0); (case h => exact y0 BK680.out); (case e => rfl)) Try.underlying30 rfl (by kernel_rfl) rfl (by (with_reducible repeat (first | refine blk_drewN ?_ _ | refine blk_drew ?_ | refine blk_alloc ?_ _)); refine blk_put (cs := #[.int .i64 t698, .slice none 0 0]) ?_ 1 _ rfl; (with_reducible repeat (first | refine blk_drewN ?_ _ | refine blk_drew ?_ | refine blk_alloc ?_ _)); refine blk_put (cs := #[.int .i64 0, .slice none 0 0]) ?_ 0 _ rfl; (with_reducible repeat (first | refine blk_drewN ?_ _ | refine blk_drew ?_ | refine blk_alloc ?_ _)); refine blk_far ?_ NB681_680.out _; (with_reducible repeat (first | refine blk_drewN ?_ _ | refine blk_drew ?_ | refine blk_alloc ?_ _)); exact BK681.out) Try.underlying55 rfl (by kernel_rfl)) rfl ?_
  exact ⟨_, _, y14, Kd.N_V (by (with_reducible repeat (first | apply Kd.N_alloc | apply Kd.N_drewN | apply Kd.N_drew)); exact Kd.N_mono (Kd.N_far (p := ⟨gb681, 1, none⟩) (Kd.N_far (p := ⟨gb681, 0, none⟩) (Kd.N_far (p := ⟨gb680, 0, none⟩) (Kd.N_mono (Kd.N_mono HO689.out (fun k_ hk => (⟨hk, hk.1.1.1.2.1⟩ : _ ∧ k_ ≠ gb680))) (fun k_ hk => (⟨hk, hk.1.1.1.1.2.2.1⟩ : _ ∧ k_ ≠ gb681))) (fun _ hk => hk.1.2) (.slice Ao15 t687.length co15)) (fun _ hk => hk.2) (.int .i64 t698)) (fun _ hk => hk.2) (.slice Ao27 t699.length co27)) (fun _ hk => hk.1.1.1.1.1.1)), Kd.N_V (by (with_reducible repeat (first | apply Kd.N_alloc | apply Kd.N_drewN | apply Kd.N_drew)); exact Kd.N_mono (Kd.N_far (p := ⟨gb681, 1, none⟩) (Kd.N_far (p := ⟨gb681, 0, none⟩) (Kd.N_far (p := ⟨gb680, 0, none⟩) (Kd.N_mono (Kd.N_mono HO701.out (fun k_ hk => (⟨hk, hk.2.2.1⟩ : _ ∧ k_ ≠ gb680))) (fun k_ hk => (⟨hk, hk.1.2.2.2.1⟩ : _ ∧ k_ ≠ gb681))) (fun _ hk => hk.1.2) (.slice Ao15 t687.length co15)) (fun _ hk => hk.2) (.int .i64 t698)) (fun _ hk => hk.2) (.slice Ao27 t699.length co27)) (fun _ hk => hk.1.1.1)), (y22 HB.out HI684.out GE680.out GE681.out GE691.out)⟩
 ·rw [if_neg c6] at H
  have c6b0 : (t692 == 0) = false := beq_eq_false_iff_ne.mpr c6
  have c6b1 : (t692 != 0) = true := bne_iff_ne.mpr c6
  obtain ⟨⟨t703, t704, t707⟩, A290, H⟩ := ob H
  have A29 := Aside0.mk A290
  clear A290
  simp only [Option.some.injEq, Prod.mk.injEq] at H
  obtain ⟨rfl, rfl, rfl⟩ := H
  go_enter Try.func34, Try.ntmps34
  try go_wp2_with (first | ((with_reducible refine gate_dst (N := 2) rfl ?_); refine zbx 2 #[.slice none 0 0] 30 ?_; intro gb680 hg w30 hbox hb; have BK680 := Aside0.mk hbox; have GW680 := Aside0.mk ((y5 hg HB.out : w.heap.size ≤ gb680)); have GE680 := Aside0.mk ((y5 hg HB.out : w.heap.size ≤ gb680)); replace HB := Aside0.mk (below_step (y2 HB.out) hb); clear hb hbox hg) | ((with_reducible refine gate_dst (N := 3) rfl ?_); refine zbx 3 #[.int .i64 0, .slice none 0 0] 55 ?_; intro gb681 hg w31 hbox hb; have BK681 := Aside0.mk hbox; have GW681 := Aside0.mk ((y6 hg HB.out GE680.out : w.heap.size ≤ gb681)); have GE681 := Aside0.mk ((y6 hg HB.out GE680.out : w.heap.size ≤ gb681)); replace HB := Aside0.mk (below_step (y3 HB.out GE680.out) hb); have NB680_681 := zltn hg BK680; have NB681_680 := zgtn hg BK680; replace BK680 := zbb BK680 hb; clear hb hbox hg) | ((with_reducible refine gate_callee (f := 52) rfl ?_); refine goesL_ (some 7) rfl rfl Try.func52 (by kernel_rfl) rfl #[.slice A0 l0.length c0] rfl y4 ?_; (with_reducible refine (spec_l6Open.calls _ _ l0 t682 t683 w _ ?side1 ?side2 ?side3 A2.out).mono ?_); (case side1 => exact y1 HB.out GE680.out GE681.out); (case side2 => exact HR0.out); (case side3 => exact HC0.out); rintro e w32 ⟨g684, rfl, hi, hb, hb2⟩; refine ⟨_, rfl, ?_⟩; replace HB := Aside0.mk (hb); have HI684 := Aside0.mk (hi); have NB684_680 := Aside0.mk (IsS95.ne_blk hi (blk_below (g := gb680) (o := .cells #[.slice none 0 0] 30 (0, 0)) (y0 BK680.out) hb2) (by decide)); have NB680_684 := Aside0.mk (Ne.symm (IsS95.ne_blk hi (blk_below (g := gb680) (o := .cells #[.slice none 0 0] 30 (0, 0)) (y0 BK680.out) hb2) (by decide))); replace BK680 := Aside0.mk (blk_below (g := gb680) (o := .cells #[.slice none 0 0] 30 (0, 0)) (y0 BK680.out) hb2); have NB684_681 := Aside0.mk (IsS95.ne_blk hi (blk_below (g := gb681) (o := .cells #[.int .i64 0, .slice none 0 0] 55 (0, 0)) (y0 BK681.out) hb2) (by decide)); have NB681_684 := Aside0.mk (Ne.symm (IsS95.ne_blk hi (blk_below (g := gb681) (o := .cells #[.int .i64 0, .slice none 0 0] 55 (0, 0)) (y0 BK681.out) hb2) (by decide))); replace BK681 := Aside0.mk (blk_below (g := gb681) (o := .cells #[.int .i64 0, .slice none 0 0] 55 (0, 0)) (y0 BK681.out) hb2); (try clear hb); (try clear hb2); (try clear hk); (try clear hi)) | ((with_reducible refine gate_callee (f := 58) rfl ?_); refine goesL_ (some 10) rfl rfl Try.func58 (by kernel_rfl) rfl #[.pointer (some ⟨g684, 0, none⟩), .int .i64 4] rfl y4 ?_; (with_reducible refine (spec_l6Rd_pick.calls k g684 t682 t683 4 t685 t686 w _ ?side1 ?side2 A3.out).mono ?_); (case side1 => exact y15 HI684.out NB684_680.out NB684_681.out); (case side2 => exact y12 HB.out HI684.out GE680.out GE681.out); rintro e w33 ⟨rfl, hi, hb, hk⟩; refine ⟨_, rfl, ?_⟩; replace BK680 := Aside0.mk (KeepBut.blk hk (g' := gb680) (o := .cells #[.slice none 0 0] 30 (0, 0)) (y0 BK680.out) NB680_684.out (by simp)); replace BK681 := Aside0.mk (KeepBut.blk hk (g' := gb681) (o := .cells #[.int .i64 0, .slice none 0 0] 55 (0, 0)) (y0 BK681.out) NB681_684.out (by simp)); replace HB := Aside0.mk (hb); replace HI684 := Aside0.mk (hi); (try clear hb); (try clear hb2); (try clear hk); (try clear hi)) | ((with_reducible refine gate_callee (f := 67) rfl ?_); refine goesL_ (some 12) rfl rfl Try.func67 (by kernel_rfl) rfl #[.pointer (some ⟨g684, 0, none⟩), .int .i64 (wrap64 (1 + t685))] rfl y4 ?_; (with_reducible refine (spec_l71Type.calls k g684 t682 t686 (wrap64 (1 + t685)) t687 t690 w _ ?side1 ?side2 A4.out).mono ?_); (case side1 => exact y15 HI684.out NB684_680.out NB684_681.out); (case side2 => exact y12 HB.out HI684.out GE680.out GE681.out); rintro e w34 ⟨v688, rfl, ho0, hi, hb, hk⟩; refine ⟨_, rfl, ?_⟩; have HO689 := Aside0.mk (Kd.N_lower (Kd.N_mono (ok' := fun k_ => (w.heap.size ≤ k_) ∧ k_ ≠ gb680 ∧ k_ ≠ gb681 ∧ k_ ≠ g684) ho0 (fun k_ hk_ => ⟨(Nat.le_trans (below_size (y12 HB.out HI684.out GE680.out GE681.out)) hk_), (Kd.freshB (g := gb680) (o := .cells #[.slice none 0 0] 30 (0, 0)) (y0 BK680.out) k_ hk_), (Kd.freshB (g := gb681) (o := .cells #[.int .i64 0, .slice none 0 0] 55 (0, 0)) (y0 BK681.out) k_ hk_), (IsS95.fresh (y15 HI684.out NB684_680.out NB684_681.out) k_ hk_)⟩)) (below_size (y12 HB.out HI684.out GE680.out GE681.out))); replace BK680 := Aside0.mk (KeepBut.blk hk (g' := gb680) (o := .cells #[.slice none 0 0] 30 (0, 0)) (y0 BK680.out) NB680_684.out (by simp)); replace BK681 := Aside0.mk (KeepBut.blk hk (g' := gb681) (o := .cells #[.int .i64 0, .slice none 0 0] 55 (0, 0)) (y0 BK681.out) NB681_684.out (by simp)); replace HB := Aside0.mk (hb); replace HI684 := Aside0.mk (hi); (try clear hb); (try clear hb2); (try clear hk); (try clear hi); (try clear ho0)) | ((with_reducible refine gate_dst (N := 5) rfl ?_); refine zbx 5 #[.slice none 0 0] 30 ?_; intro gb691 hg w35 hbox hb; replace HO689 := Aside0.mk (Kd.N_below (Kd.N_elderB (y9 HO689.out) gb691 (Nat.le_of_eq hg.symm)) hb); have BK691 := Aside0.mk hbox; have GW691 := Aside0.mk ((y39 hg HB.out HI684.out GE680.out GE681.out : w.heap.size ≤ gb691)); have GE691 := Aside0.mk ((y39 hg HB.out HI684.out GE680.out GE681.out : w.heap.size ≤ gb691)); replace HB := Aside0.mk (below_step (y12 HB.out HI684.out GE680.out GE681.out) hb); have NB680_691 := zltn hg BK680; have NB691_680 := zgtn hg BK680; replace BK680 := zbb BK680 hb; have NB681_691 := zltn hg BK681; have NB691_681 := zgtn hg BK681; replace BK681 := zbb BK681 hb; have NB684_691 := Aside0.mk ((by rw [hg]; exact Nat.ne_of_lt (IsS95.lt (show IsS95 w _ g684 t682 t690 from by repeat (first | (with_reducible first | exact HI684.out | apply IsS95.alloc | apply IsS95.drewN | apply IsS95.drew | apply IsS95.set_1 | refine IsS95.far ?_ NB684_680.out _ | refine IsS95.far ?_ NB684_681.out _) | exact HI684.out))) : g684 ≠ gb691)); have NB691_684 := Aside0.mk ((by rw [hg]; exact Nat.ne_of_gt (IsS95.lt (show IsS95 w _ g684 t682 t690 from by repeat (first | (with_reducible first | exact HI684.out | apply IsS95.alloc | apply IsS95.drewN | apply IsS95.drew | apply IsS95.set_1 | refine IsS95.far ?_ NB684_680.out _ | refine IsS95.far ?_ NB684_681.out _) | exact HI684.out))) : gb691 ≠ g684)); replace HI684 := Aside0.mk (IsS95.below (y15 HI684.out NB684_680.out NB684_681.out) hb); clear hb hbox hg; obtain ⟨Ao36, co36, eo36⟩ := Kd.N_slice HO689.out; subst eo36; have hnb37 := NB691_680.out; have hnc37 := NB680_691.out; have hnb38 := NB691_681.out; have hnc38 := NB681_691.out; have hnb39 := NB691_684.out; have hnc39 := NB684_691.out; have hcz40_0 := zh BK691; have hfz40_0 := zfr BK691 0) | ((with_reducible refine gate_callee (f := 58) rfl ?_); refine goesL_ (some 14) rfl rfl Try.func58 (by kernel_rfl) rfl #[.pointer (some ⟨g684, 0, none⟩), .int .i64 5] rfl y4 ?_; (with_reducible refine (spec_l6Rd_pick.calls k g684 t682 t690 5 t692 t693 w _ ?side1 ?side2 A5.out).mono ?_); (case side1 => exact y28 HI684.out NB684_680.out NB684_681.out NB684_691.out); (case side2 => exact y22 HB.out HI684.out GE680.out GE681.out GE691.out); rintro e w41 ⟨rfl, hi, hb, hk⟩; refine ⟨_, rfl, ?_⟩; replace BK680 := Aside0.mk (KeepBut.blk hk (g' := gb680) (o := .cells #[.slice none 0 0] 30 (0, 0)) (y21 NB680_691.out BK680.out) NB680_684.out (by simp)); replace BK681 := Aside0.mk (KeepBut.blk hk (g' := gb681) (o := .cells #[.int .i64 0, .slice none 0 0] 55 (0, 0)) (y21 NB681_691.out BK681.out) NB681_684.out (by simp)); replace HO689 := Aside0.mk (Kd.N_mono (Kd.N_keep (Kd.N_mono (ok := fun k_ => ((((w.heap.size ≤ k_)) ∧ (k_ ≠ gb680 ∧ (k_ ≠ gb681 ∧ k_ ≠ g684))) ∧ k_ ≠ gb691)) (by (with_reducible repeat (first | apply Kd.N_alloc | apply Kd.N_drewN | apply Kd.N_drew)); exact (Kd.N_mono (Kd.N_far (p := ⟨gb691, 0, none⟩) (Kd.N_mono HO689.out (fun k_ hk => (⟨hk, hk.2⟩ : _ ∧ k_ ≠ gb691))) (fun _ hk => hk.2) (.slice Ao36 t687.length co36)) (fun _ h_ => h_.1))) (fun k_ hk_ => (⟨hk_, hk_.1.2.2.2⟩ : _ ∧ k_ ≠ g684))) hk (fun _ h => h.2)) (fun _ h => h.1)); replace BK691 := Aside0.mk (KeepBut.blk hk (g' := gb691) (o := .cells #[.slice Ao36 t687.length co36] 30 (0, 0)) (by (with_reducible repeat (first | refine blk_drewN ?_ _ | refine blk_drew ?_ | refine blk_alloc ?_ _)); apply blk_put (i := 0); (case h => exact y0 BK691.out); (case e => rfl)) NB691_684.out (by simp)); replace HB := Aside0.mk (hb); replace HI684 := Aside0.mk (hi); (try clear hb); (try clear hb2); (try clear hk); (try clear hi)))
  replace HO689 := Aside0.mk (Kd.N_drew HO689.out)
  replace BK680 := Aside0.mk (blk_drew BK680.out)
  replace BK681 := Aside0.mk (blk_drew BK681.out)
  replace BK691 := Aside0.mk (blk_drew BK691.out)
  replace HI684 := Aside0.mk (IsS95.drew HI684.out)
  replace HB := Aside0.mk (below_drew1 HB.out)
  refine start_ (n := 6) (S := fun w' => w'.cell? ⟨gb691, 0, none⟩ = some (.slice Ao36 t687.length co36)) (ds := []) #[false, false, false, false, false, false] (by kernel_rfl) rfl rfl ((blk_cell BK691.out 0).trans rfl) (fun hHeld => ?_)
  generalize w41.drew = w42 at HO689 BK680 BK681 BK691 HI684 HB hHeld ⊢
  refine pure_ (i := 1) (N := some 22) (v := ?_) (a' := ?_) #[false, true, false, false, false, false] rfl rfl (by kernel_rfl) (fun _ _ _ h => h) (Or.inl ⟨(by rfl), ?_⟩) ?_ ?_
  rotate_left
  ·intro w'
   go_simp
   with_reducible rfl
  rotate_left
  ·simp only [Act.put, List.setIfInBounds_toArray, List.set_cons_zero, List.set_cons_succ, i64_w, i32_w]
   rfl
  refine take_ (i := 0) (N := some 21) (v := ?_) (a' := ?_) #[true, true, false, false, false, false] rfl rfl (by kernel_rfl) (fun _ _ _ h => h) (Or.inl ⟨(by rfl), ?_⟩) hHeld ?_ ?_
  rotate_left
  ·intro w' s0
   go_simp
   with_reducible rfl
  rotate_left
  ·simp only [Act.put, List.setIfInBounds_toArray, List.set_cons_zero, List.set_cons_succ, i64_w, i32_w]
   rfl
  refine take_ (i := 2) (N := some 23) (v := ?_) (a' := ?_) #[true, true, true, false, false, false] rfl rfl (by kernel_rfl) (fun _ _ _ h => h) (Or.inl ⟨(by rfl), ?_⟩) hHeld ?_ ?_
  rotate_left
  ·intro w' s0
   go_simp
   with_reducible rfl
  rotate_left
  ·simp only [Act.put, List.setIfInBounds_toArray, List.set_cons_zero, List.set_cons_succ, i64_w, i32_w]
   rfl
  refine one_ (i := 3) (N := some 24) #[true, true, true, true, false, false] rfl rfl (by kernel_rfl) (by decide) (fun K hK => ?_)
  refine goes_ Try.func68 (by kernel_rfl) rfl #[.pointer (some ⟨g684, 0, none⟩), .agg #[.slice Ao36 t687.length co36]] (by rfl) rfl rfl y4 ?_
  with_reducible refine (spec_l71Bad.calls k g684 t682 t693 (fun k_ => (((w.heap.size ≤ k_) ∧ (k_ ≠ gb680 ∧ (k_ ≠ gb681 ∧ k_ ≠ g684))) ∧ k_ ≠ gb691)) _ _ t687 t703 t704 t707 w _ ?side1 ?side2 ?side3 A29.out).mono ?_
  (case side1 => exact y28 HI684.out NB684_680.out NB684_681.out NB684_691.out)
  (case side2 => exact y22 HB.out HI684.out GE680.out GE681.out GE691.out)
  (case side3 => exact Kd.V_mono (Kd.N_V (HO689.out)) (fun k_ hk_ => ⟨hk_, hk_.1.2.2.2⟩))
  rintro e w43 ⟨v705, rfl, ho0, hi, hb, hk⟩
  refine ⟨_, rfl, ?_⟩
  replace HO689 := Aside0.mk (Kd.N_mono (Kd.N_told (Kd.N_oldK (Kd.N_mono (ok := fun k_ => ((((w.heap.size ≤ k_)) ∧ (k_ ≠ gb680 ∧ (k_ ≠ gb681 ∧ k_ ≠ g684))) ∧ k_ ≠ gb691)) (y9 HO689.out) (fun k_ hk_ => (⟨hk_, hk_.1.2.2.2⟩ : _ ∧ k_ ≠ g684))) hk) (Kd.N_base ho0)) (fun _ h_ => h_.1))
  have HO706 := Aside0.mk (Kd.N_lower (Kd.N_mono (ok' := fun k_ => (w.heap.size ≤ k_) ∧ k_ ≠ gb680 ∧ k_ ≠ gb681 ∧ k_ ≠ gb691 ∧ k_ ≠ g684) ho0 (fun k_ hk_ => ⟨Or.elim hk_ (fun hs_ => hs_.1.1) (fun hn_ => (Nat.le_trans (below_size (y22 HB.out HI684.out GE680.out GE681.out GE691.out)) hn_)), Or.elim hk_ (fun hs_ => hs_.1.2.1) (fun hn_ => (Kd.freshB (g := gb680) (o := .cells #[.slice none 0 0] 30 (0, 0)) (y0 BK680.out) k_ hn_)), Or.elim hk_ (fun hs_ => hs_.1.2.2.1) (fun hn_ => (Kd.freshB (g := gb681) (o := .cells #[.int .i64 0, .slice none 0 0] 55 (0, 0)) (y0 BK681.out) k_ hn_)), Or.elim hk_ (fun hs_ => hs_.2) (fun hn_ => (Kd.freshB (g := gb691) (o := .cells #[.slice Ao36 t687.length co36] 30 (0, 0)) (y0 BK691.out) k_ hn_)), Or.elim hk_ (fun hs_ => hs_.1.2.2.2) (fun hn_ => (IsS95.fresh (y28 HI684.out NB684_680.out NB684_681.out NB684_691.out) k_ hn_))⟩)) (below_size (y22 HB.out HI684.out GE680.out GE681.out GE691.out)))
  replace BK680 := Aside0.mk (KeepBut.blk hk (g' := gb680) (o := .cells #[.slice none 0 0] 30 (0, 0)) (y0 BK680.out) NB680_684.out (by simp))
  replace BK681 := Aside0.mk (KeepBut.blk hk (g' := gb681) (o := .cells #[.int .i64 0, .slice none 0 0] 55 (0, 0)) (y0 BK681.out) NB681_684.out (by simp))
  replace BK691 := Aside0.mk (KeepBut.blk hk (g' := gb691) (o := .cells #[.slice Ao36 t687.length co36] 30 (0, 0)) (y0 BK691.out) NB691_684.out (by simp))
  replace HB := Aside0.mk (hb)
  replace HI684 := Aside0.mk (hi)
  (try clear hb)
  (try clear hb2)
  (try clear hk)
  (try clear hi)
  (try clear ho0)
  obtain ⟨Ao46, co46, eo46⟩ := Kd.N_slice HO706.out
  (first | subst eo46 | (injection eo46 with f1_ f2_ f3_; have f4_ := f1_.symm; have f5_ := f3_.symm; clear f1_ f2_ f3_; subst f4_; subst f5_))
  refine hK.out _ _ ((blk_cell BK691.out 0).trans rfl) (fun hHeld => ?_)
  clear hK K
  refine norm_ (a' := ?_) ?_ ?_
  rotate_left
  ·show Act.put _ (some 24) _ = _
   simp only [Act.put, List.setIfInBounds_toArray, List.set_cons_zero, List.set_cons_succ, i64_w, i32_w]
   rfl
  refine one_ (i := 4) (N := none) #[true, true, true, true, true, false] rfl rfl (by kernel_rfl) (by decide) (fun K hK => ?_)
  have hs44 : w43.cell? ⟨gb680, 0, none⟩ = some (.slice none 0 0) := (blk_cell BK680.out 0).trans rfl
  have hfs44 := zfr BK680 0
  have hns44_1 := NB681_680.out
  have hns44_2 := NB691_680.out
  have hms44_1 := NB680_681.out
  have hms44_2 := NB680_691.out
  refine skip_ (w1 := ?_) (by rfl) rfl ?_ ?_
  rotate_left
  ·go_simp
   rfl
  refine hK.out _ _ (((cell_far (p := ⟨gb680, _, none⟩) NB691_680.out _).trans (hHeld))) (fun hHeld => ?_)
  clear hK K
  refine one_ (i := 5) (N := none) #[true, true, true, true, true, true] rfl rfl (by kernel_rfl) (by decide) (fun K hK => ?_)
  have hs45 : w43.cell? ⟨gb681, 0, none⟩ = some (.int .i64 0) := (blk_cell BK681.out 0).trans rfl
  have hfs45 := zfr BK681 0
  have hns45_0 := NB680_681.out
  have hns45_2 := NB691_681.out
  have hms45_0 := NB681_680.out
  have hms45_2 := NB681_691.out
  have hs47 : w43.cell? ⟨gb681, 1, none⟩ = some (.slice none 0 0) := (blk_cell BK681.out 1).trans rfl
  have hfs47 := zfr BK681 1
  have hns47_0 := NB680_681.out
  have hns47_2 := NB691_681.out
  have hms47_0 := NB681_680.out
  have hms47_2 := NB681_691.out
  refine skip_ (w1 := ?_) (by rfl) rfl ?_ ?_
  rotate_left
  ·go_simp
   rfl
  refine hK.out _ _ (((cell_far (p := ⟨gb681, _, none⟩) NB691_681.out _).trans (((cell_far (p := ⟨gb681, _, none⟩) NB691_681.out _).trans (hHeld))))) (fun hHeld => ?_)
  clear hK K
  refine done_ (by kernel_rfl) ?_
  try go_wp2
  refine bodyPost_ret (results_cc rfl _ _ gb680 gb681 30 55 #[.slice Ao36 t687.length co36] #[.int .i64 t703, .slice Ao46 t704.length co46] (0, 0) (0, 0) _ _ rfl (by (with_reducible repeat (first | refine blk_drewN ?_ _ | refine blk_drew ?_ | refine blk_alloc ?_ _)); refine blk_far ?_ NB680_681.out _; (with_reducible repeat (first | refine blk_drewN ?_ _ | refine blk_drew ?_ | refine blk_alloc ?_ _)); refine blk_far ?_ NB680_681.out _; (with_reducible repeat (first | refine blk_drewN ?_ _ | refine blk_drew ?_ | refine blk_alloc ?_ _)); apply blk_put (i := 0); (case h => exact y0 BK680.out); (case e => rfl)) Try.underlying30 rfl (by kernel_rfl) rfl (by (with_reducible repeat (first | refine blk_drewN ?_ _ | refine blk_drew ?_ | refine blk_alloc ?_ _)); refine blk_put (cs := #[.int .i64 t703, .slice none 0 0]) ?_ 1 _ rfl; (with_reducible repeat (first | refine blk_drewN ?_ _ | refine blk_drew ?_ | refine blk_alloc ?_ _)); refine blk_put (cs := #[.int .i64 0, .slice none 0 0]) ?_ 0 _ rfl; (with_reducible repeat (first | refine blk_drewN ?_ _ | refine blk_drew ?_ | refine blk_alloc ?_ _)); refine blk_far ?_ NB681_680.out _; (with_reducible repeat (first | refine blk_drewN ?_ _ | refine blk_drew ?_ | refine blk_alloc ?_ _)); exact BK681.out) Try.underlying55 rfl (by kernel_rfl)) rfl ?_
  exact ⟨_, _, y14, Kd.N_V (by (with_reducible repeat (first | apply Kd.N_alloc | apply Kd.N_drewN | apply Kd.N_drew)); exact Kd.N_mono (Kd.N_far (p := ⟨gb681, 1, none⟩) (Kd.N_far (p := ⟨gb681, 0, none⟩) (Kd.N_far (p := ⟨gb680, 0, none⟩) (Kd.N_mono (Kd.N_mono HO689.out (fun k_ hk => (⟨hk, hk.1.1.2.1⟩ : _ ∧ k_ ≠ gb680))) (fun k_ hk => (⟨hk, hk.1.1.1.2.2.1⟩ : _ ∧ k_ ≠ gb681))) (fun _ hk => hk.1.2) (.slice Ao36 t687.length co36)) (fun _ hk => hk.2) (.int .i64 t703)) (fun _ hk => hk.2) (.slice Ao46 t704.length co46)) (fun _ hk => hk.1.1.1.1.1)), Kd.N_V (by (with_reducible repeat (first | apply Kd.N_alloc | apply Kd.N_drewN | apply Kd.N_drew)); exact Kd.N_mono (Kd.N_far (p := ⟨gb681, 1, none⟩) (Kd.N_far (p := ⟨gb681, 0, none⟩) (Kd.N_far (p := ⟨gb680, 0, none⟩) (Kd.N_mono (Kd.N_mono HO706.out (fun k_ hk => (⟨hk, hk.2.1⟩ : _ ∧ k_ ≠ gb680))) (fun k_ hk => (⟨hk, hk.1.2.2.1⟩ : _ ∧ k_ ≠ gb681))) (fun _ hk => hk.1.2) (.slice Ao36 t687.length co36)) (fun _ hk => hk.2) (.int .i64 t703)) (fun _ hk => hk.2) (.slice Ao46 t704.length co46)) (fun _ hk => hk.1.1.1)), (y22 HB.out HI684.out GE680.out GE681.out GE691.out)⟩
end Go.Proofs.Ytjhbhihfifhljaa.PA
end
