-- Ytjhbhihfifhljaa's texts for the statement FnValParts, one behind the other (merge.py).
import Derived.Test.YtjhbhihfifhljaaQFnValParts0
import Derived.Test.YtjhbhihfifhljaaQFnValParts1
import Derived.Test.YtjhbhihfifhljaaQFnValParts2
import Derived.OpenShut
import Derived.Laws.BitsLemmas
section
namespace Go.Proofs.Ytjhbhihfifhljaa.PA
open Go.RowKit Go.Proofs.YtjhbhihfifhljaaW.PrintWords Go.Proofs.YtjhbhihfifhljaaW.PrintLast Go.Proofs.YtjhbhihfifhljaaW.PrintMore
attribute [local go_sem] max2_int min2_int max_two min_two max_three min_three max_four min_four
set_option linter.unusedVariables false
set_option linter.unusedSimpArgs false
mutual
def laws_FnValParts.j0 : Nat → List Int → List Int → Bool → Option (Bool)
 | 0, _, _, _ => none
 | k + 1, x0, x1, x20 => if x20 = true then (some true) else ((spec_DrawValOk.f k x0).bind fun bt880 => ((impl_ValOk.f k bt880.1 bt880.2.1 bt880.2.2).bind fun t889 => ((spec_ValOk.f k bt880.1 bt880.2.1 bt880.2.2).bind fun t890 => (if (t889 != t890) = true then (laws_FnValParts.j1 k x1 t889 true bt880.1 bt880.2.1 bt880.2.2) else (if t889 = true then (laws_FnValParts.j1 k x1 t889 ((bt880.1.length : Int) == 0) bt880.1 bt880.2.1 bt880.2.2) else (laws_FnValParts.j1 k x1 t889 true bt880.1 bt880.2.1 bt880.2.2))))))
def laws_FnValParts.j1 : Nat → List Int → Bool → Bool → List (S30) → Int → List (S55) → Option (Bool)
 | 0, _, _, _, _, _, _ => none
 | k + 1, x1, x7, x43, x888000, x889000, x889001 => if x43 = true then ((spec_ValOk.f k x888000 x889000 x889001).bind fun t891 => (some (x7 == t891))) else ((some (([(x1.length : Int) % 2] : List Int) : List Int)).bind fun y892 => ((impl_TypeAt.f k x888000 y892).bind fun bt895 => ((impl_ValAt.f k x889000 x889001 y892).bind fun bt900 => (if bt895.2 = true then (if bt900.2.2 = true then ((impl_ValOk.f k bt895.1 bt900.1 bt900.2.1).bind fun t906 => (some t906)) else (some false)) else (some false)))))
end
def laws_FnValParts.f (k : Nat) (l0 : List Int) (l1 : List Int) : Option (Bool) := if (l0.length : Int) > 1048576 then (laws_FnValParts.j0 k l0 l1 true) else (laws_FnValParts.j0 k l0 l1 (decide ((l1.length : Int) > 1048576)))
theorem laws_FnValParts.mono_l : ∀ k, (∀ y0 y1 y2, LeO (laws_FnValParts.j0 k y0 y1 y2) (laws_FnValParts.j0 (k + 1) y0 y1 y2)) ∧ (∀ y0 y1 y2 y3 y4 y5, LeO (laws_FnValParts.j1 k y0 y1 y2 y3 y4 y5) (laws_FnValParts.j1 (k + 1) y0 y1 y2 y3 y4 y5))
 | 0 => ⟨fun _ _ _ r h => by simp [laws_FnValParts.j0] at h, fun _ _ _ _ _ _ r h => by simp [laws_FnValParts.j1] at h⟩
 | k + 1 => by
  obtain ⟨ih0, ih1⟩ := laws_FnValParts.mono_l k
  refine ⟨?_, ?_⟩
  ·intro y0 y1 y2
   unfold laws_FnValParts.j0
   repeat' first
   | (with_reducible exact ih0 _ _ _)
   | (with_reducible exact ih1 _ _ _ _ _ _)
   | (with_reducible exact impl_TypeAt.mono _ _ _)
   | (with_reducible exact impl_ValAt.mono _ _ _ _)
   | (with_reducible exact impl_ValOk.mono _ _ _ _)
   | (with_reducible exact spec_DrawValOk.mono _ _)
   | (with_reducible exact spec_ValOk.mono _ _ _ _)
   | (with_reducible exact LeO.refl _)
   | (with_reducible exact LeO.none _)
   | (with_reducible refine LeO.ite ?_ ?_)
   | (with_reducible refine LeO.bind ?_ (fun _ => ?_))
   | exact ih0 _ _ _
   | exact ih1 _ _ _ _ _ _
   | exact impl_TypeAt.mono _ _ _
   | exact impl_ValAt.mono _ _ _ _
   | exact impl_ValOk.mono _ _ _ _
   | exact spec_DrawValOk.mono _ _
   | exact spec_ValOk.mono _ _ _ _
   | exact LeO.none _
   | refine LeO.ite ?_ ?_
   | refine LeO.bind ?_ (fun _ => ?_)
  ·intro y0 y1 y2 y3 y4 y5
   unfold laws_FnValParts.j1
   repeat' first
   | (with_reducible exact ih0 _ _ _)
   | (with_reducible exact ih1 _ _ _ _ _ _)
   | (with_reducible exact impl_TypeAt.mono _ _ _)
   | (with_reducible exact impl_ValAt.mono _ _ _ _)
   | (with_reducible exact impl_ValOk.mono _ _ _ _)
   | (with_reducible exact spec_DrawValOk.mono _ _)
   | (with_reducible exact spec_ValOk.mono _ _ _ _)
   | (with_reducible exact LeO.refl _)
   | (with_reducible exact LeO.none _)
   | (with_reducible refine LeO.ite ?_ ?_)
   | (with_reducible refine LeO.bind ?_ (fun _ => ?_))
   | exact ih0 _ _ _
   | exact ih1 _ _ _ _ _ _
   | exact impl_TypeAt.mono _ _ _
   | exact impl_ValAt.mono _ _ _ _
   | exact impl_ValOk.mono _ _ _ _
   | exact spec_DrawValOk.mono _ _
   | exact spec_ValOk.mono _ _ _ _
   | exact LeO.none _
   | refine LeO.ite ?_ ?_
   | refine LeO.bind ?_ (fun _ => ?_)
theorem laws_FnValParts.mono : ∀ a0 a1 k, LeO (laws_FnValParts.f k a0 a1) (laws_FnValParts.f (k + 1) a0 a1) := by
 intro a0 a1 k
 obtain ⟨ih0, ih1⟩ := laws_FnValParts.mono_l k
 unfold laws_FnValParts.f
 repeat' first
   | (with_reducible exact ih0 _ _ _)
   | (with_reducible exact ih1 _ _ _ _ _ _)
   | (with_reducible exact impl_TypeAt.mono _ _ _)
   | (with_reducible exact impl_ValAt.mono _ _ _ _)
   | (with_reducible exact impl_ValOk.mono _ _ _ _)
   | (with_reducible exact spec_DrawValOk.mono _ _)
   | (with_reducible exact spec_ValOk.mono _ _ _ _)
   | (with_reducible exact LeO.refl _)
   | (with_reducible exact LeO.none _)
   | (with_reducible refine LeO.ite ?_ ?_)
   | (with_reducible refine LeO.bind ?_ (fun _ => ?_))
   | exact ih0 _ _ _
   | exact ih1 _ _ _ _ _ _
   | exact impl_TypeAt.mono _ _ _
   | exact impl_ValAt.mono _ _ _ _
   | exact impl_ValOk.mono _ _ _ _
   | exact spec_DrawValOk.mono _ _
   | exact spec_ValOk.mono _ _ _ _
   | exact LeO.none _
   | refine LeO.ite ?_ ?_
   | refine LeO.bind ?_ (fun _ => ?_)
set_option maxHeartbeats 8000000 in
set_option maxRecDepth 100000 in
theorem laws_FnValParts.calls (k : Nat) (A0 : Option Addr) (c0 : Nat) (l0 : List Int) (A1 : Option Addr) (c1 : Nat) (l1 : List Int) (r : Bool) (w : World) (hr0 : Kd.C (Kd.int .u8) w A0 l0.length l0) (hc0 : l0.length ≤ c0) (hr1 : Kd.C (Kd.int .u8) w A1 l1.length l1) (hc1 : l1.length ≤ c1) (h : laws_FnValParts.f k l0 l1 = some r) (hr_ : Aside0 (r = true)) :
  Calls Try.prog 13 #[.slice A0 l0.length c0, .slice A1 l1.length c1] w fun e w' => e = .returned (.bool r) ∧ Below w.heap.size w w' := by
 have hu30 := Try.underlying30
 have hu55 := Try.underlying55
 have HR0 := Aside0.mk hr0
 have HC0 := Aside0.mk hc0
 clear hr0 hc0
 have HR1 := Aside0.mk hr1
 have HC1 := Aside0.mk hc1
 clear hr1 hc1
 have HB := Aside0.mk (Below.refl w.heap.size w)
 have H : (if (l0.length : Int) > 1048576 then (laws_FnValParts.j0 k l0 l1 true) else (laws_FnValParts.j0 k l0 l1 (decide ((l1.length : Int) > 1048576)))) = some r := h
 clear h
 have HC3 := Aside0.mk H
 clear H
 go_enter Try.func13, Try.ntmps13
 go_upto_region 1 with (fail)
 go_cut [20] (fun v20 wc => ∃ (kq : Nat) (x20_2 : Bool), v20 = .bool x20_2 ∧ Aside0 (laws_FnValParts.j0 kq l0 l1 x20_2 = some r) ∧ Aside0 (kq ≤ k) ∧ Aside0 (Below w.heap.size w wc))
 case first =>
  have H := HC3.out
  clear HC3
  by_cases c4 : (l0.length : Int) > 1048576
  ·rw [if_pos c4] at H
   have c4b0 : decide (1048576 < (l0.length : Int)) = true := decide_eq_true c4
   have c4b1 : decide (1048576 < l0.length) = true := decide_eq_true (by omega)
   clear c4
   (first | rw [c4b0] | (simp only [i64_w, i32_w]; rw [c4b0]) | skip)
   have H' := Aside0.mk H
   clear H
   go_wp2
   go_meet
   case rel => exact ⟨_, (true), y26, H', ⟨y43⟩, ⟨(y2 HB.out)⟩⟩
  ·rw [if_neg c4] at H
   have c4b0 : decide (1048576 < (l0.length : Int)) = false := decide_eq_false c4
   have c4b1 : decide (1048576 < l0.length) = false := decide_eq_false (by omega)
   clear c4
   (first | rw [c4b0] | (simp only [i64_w, i32_w]; rw [c4b0]) | skip)
   have H' := Aside0.mk H
   clear H
   go_wp2
   go_meet
   case rel => exact ⟨_, (decide ((l1.length : Int) > 1048576)), y26, H', ⟨y43⟩, ⟨(y2 HB.out)⟩⟩
 case rest =>
  clear HC3
  try clear c1
  try clear p2
  try clear c4
  try clear c4b0
  try clear c4b1
  obtain ⟨kq, x20_2, rfl, HA, HJ2, HB⟩ := hcut
  cases kq with
  | zero => exact absurd HA.out (by simp [laws_FnValParts.j0])
  | succ kj2 =>
   have H := HA.out
   clear HA
   simp only [laws_FnValParts.j0] at H
   by_cases c5 : x20_2 = true
   ·subst c5
    rw [if_pos rfl] at H
    clear hr_
    obtain rfl := Option.some.inj H
    go_wp2
    go_ret
    exact ⟨y14, (y2 HB.out)⟩
   ·replace c5 := Bool.eq_false_iff.mpr c5
    subst c5
    rw [if_neg (show ¬ (false = true) by decide)] at H
    obtain ⟨⟨t880, t883, t884⟩, A60, H⟩ := ob H
    have A6 := Aside0.mk A60
    clear A60
    obtain ⟨t889, A70, H⟩ := ob H
    have A7 := Aside0.mk A70
    clear A70
    have HC8 := Aside0.mk H
    clear H
    go_upto_region 5 with (first | ((with_reducible refine gate_callee (f := 34) rfl ?_); refine goesL_ (some 23) rfl rfl Try.func34 (by kernel_rfl) rfl #[.slice A0 l0.length c0] rfl y4 ?_; (with_reducible refine (spec_DrawValOk.calls kj2 _ _ l0 t880 t883 t884 _ ?side1 ?side2 A6.out).mono ?_); (case side1 => exact y8 HR0.out HB.out); (case side2 => exact HC0.out); rintro e w9 ⟨v881, v885, rfl, ho0, ho1, hb⟩; refine ⟨_, rfl, ?_⟩; have HO882 := Aside0.mk (Kd.V_lower (Kd.V_mono (ok' := fun k_ => True) ho0 (fun k_ hk_ => trivial)) (below_size (y2 HB.out))); have HO886 := Aside0.mk (Kd.V_lower (Kd.V_mono (ok' := fun k_ => True) ho1 (fun k_ hk_ => trivial)) (below_size (y2 HB.out))); replace HB := Aside0.mk (below_step (y2 HB.out) hb); (try clear hb); (try clear hb2); (try clear hk); (try clear hi); (try clear ho0); (try clear ho1)) | ((with_reducible refine gate_dst (N := 5) rfl ?_); (try (refine gate_guard (by rfl) ?_; dsimp only)); refine zbx 5 #[.slice none 0 0] 30 ?_; intro gb887 hg w10 hbox hb; replace HO882 := Aside0.mk (Kd.V_below (Kd.V_elderB (y13 HO882.out) gb887 (Nat.le_of_eq hg.symm)) hb); replace HO886 := Aside0.mk (Kd.V_below (Kd.V_elderB (y13 HO886.out) gb887 (Nat.le_of_eq hg.symm)) hb); have BK887 := Aside0.mk hbox; have GW887 := Aside0.mk ((y5 hg HB.out : w.heap.size ≤ gb887)); have GE887 := Aside0.mk ((y5 hg HB.out : w.heap.size ≤ gb887)); replace HB := Aside0.mk (below_step (y2 HB.out) hb); clear hb hbox hg) | ((with_reducible refine gate_dst (N := 6) rfl ?_); (try (refine gate_guard (by rfl) ?_; dsimp only)); refine zbx 6 #[.int .i64 0, .slice none 0 0] 55 ?_; intro gb888 hg w11 hbox hb; replace HO882 := Aside0.mk (Kd.V_below (Kd.V_elderB (y13 HO882.out) gb888 (Nat.le_of_eq hg.symm)) hb); replace HO886 := Aside0.mk (Kd.V_below (Kd.V_elderB (y13 HO886.out) gb888 (Nat.le_of_eq hg.symm)) hb); have BK888 := Aside0.mk hbox; have GW888 := Aside0.mk ((y6 hg HB.out GE887.out : w.heap.size ≤ gb888)); have GE888 := Aside0.mk ((y6 hg HB.out GE887.out : w.heap.size ≤ gb888)); replace HB := Aside0.mk (below_step (y3 HB.out GE887.out) hb); have NB887_888 := zltn hg BK887; have NB888_887 := zgtn hg BK887; replace BK887 := zbb BK887 hb; clear hb hbox hg; obtain ⟨Ao12, co12, eo12⟩ := Kd.V_slice HO882.out; subst eo12; have hnb13 := NB887_888.out; have hnc13 := NB888_887.out; have hcz14_0 := zh BK887; have hfz14_0 := zfr BK887 0; have hcz15_0 := zh BK888; have hcz15_1 := zh1 BK888; have hfz15_0 := zfr BK888 0; have hfz15_1 := zfr BK888 1; obtain ⟨Ao16, co16, eo16⟩ := Kd.V_slice HO886.out; subst eo16) | ((with_reducible refine gate_callee (f := 35) rfl ?_); refine goesL_ (some 28) rfl rfl Try.func35 (by kernel_rfl) rfl #[.agg #[.slice Ao12 t880.length co12], .agg #[.int .i64 t883, .slice Ao16 t884.length co16]] rfl y4 ?_; (with_reducible refine (impl_ValOk.calls kj2 _ _ t880 t883 _ _ t884 t889 _ ?side1 ?side2 ?side3 ?side4 A7.out).mono ?_); (case side1 => refine (Kd.V_reads' (e := 30) (base := w.heap.size) (ok := fun k_ => ((True ∧ k_ ≠ gb887) ∧ k_ ≠ gb888)) (n := t880.length) (c := co12) ?_).2.2; exact (by (with_reducible repeat (first | apply Kd.V_alloc | apply Kd.V_drewN | apply Kd.V_drew)); exact (Kd.V_mono (Kd.V_mono (Kd.V_far (p := ⟨gb888, 1, none⟩) (Kd.V_far (p := ⟨gb888, 0, none⟩) (Kd.V_far (p := ⟨gb887, 0, none⟩) (Kd.V_mono (Kd.V_mono HO882.out (fun k_ hk => (⟨hk, hk.1.2⟩ : _ ∧ k_ ≠ gb887))) (fun k_ hk => (⟨hk, hk.1.2⟩ : _ ∧ k_ ≠ gb888))) (fun _ hk => hk.1.2) (.slice Ao12 t880.length co12)) (fun _ hk => hk.2) (.int .i64 t883)) (fun _ hk => hk.2) (.slice Ao16 t884.length co16)) (fun _ h_ => h_.1)) (fun _ h_ => h_.1)))); (case side2 => exact (Kd.V_reads' HO882.out).2.1); (case side3 => refine (Kd.V_reads' (e := 55) (base := w.heap.size) (ok := fun k_ => ((True ∧ k_ ≠ gb887) ∧ k_ ≠ gb888)) (n := t884.length) (c := co16) ?_).2.2; exact (by (with_reducible repeat (first | apply Kd.V_alloc | apply Kd.V_drewN | apply Kd.V_drew)); exact (Kd.V_mono (Kd.V_mono (Kd.V_far (p := ⟨gb888, 1, none⟩) (Kd.V_far (p := ⟨gb888, 0, none⟩) (Kd.V_far (p := ⟨gb887, 0, none⟩) (Kd.V_mono (Kd.V_mono HO886.out (fun k_ hk => (⟨hk, hk.1.2⟩ : _ ∧ k_ ≠ gb887))) (fun k_ hk => (⟨hk, hk.1.2⟩ : _ ∧ k_ ≠ gb888))) (fun _ hk => hk.1.2) (.slice Ao12 t880.length co12)) (fun _ hk => hk.2) (.int .i64 t883)) (fun _ hk => hk.2) (.slice Ao16 t884.length co16)) (fun _ h_ => h_.1)) (fun _ h_ => h_.1)))); (case side4 => exact (Kd.V_reads' HO886.out).2.1); rintro e w17 ⟨rfl, hb⟩; refine ⟨_, rfl, ?_⟩; replace HO882 := Aside0.mk (Kd.V_below (by (with_reducible repeat (first | apply Kd.V_alloc | apply Kd.V_drewN | apply Kd.V_drew)); exact (Kd.V_mono (Kd.V_mono (Kd.V_far (p := ⟨gb888, 1, none⟩) (Kd.V_far (p := ⟨gb888, 0, none⟩) (Kd.V_far (p := ⟨gb887, 0, none⟩) (Kd.V_mono (Kd.V_mono HO882.out (fun k_ hk => (⟨hk, hk.1.2⟩ : _ ∧ k_ ≠ gb887))) (fun k_ hk => (⟨hk, hk.1.2⟩ : _ ∧ k_ ≠ gb888))) (fun _ hk => hk.1.2) (.slice Ao12 t880.length co12)) (fun _ hk => hk.2) (.int .i64 t883)) (fun _ hk => hk.2) (.slice Ao16 t884.length co16)) (fun _ h_ => h_.1)) (fun _ h_ => h_.1))) hb); replace HO886 := Aside0.mk (Kd.V_below (by (with_reducible repeat (first | apply Kd.V_alloc | apply Kd.V_drewN | apply Kd.V_drew)); exact (Kd.V_mono (Kd.V_mono (Kd.V_far (p := ⟨gb888, 1, none⟩) (Kd.V_far (p := ⟨gb888, 0, none⟩) (Kd.V_far (p := ⟨gb887, 0, none⟩) (Kd.V_mono (Kd.V_mono HO886.out (fun k_ hk => (⟨hk, hk.1.2⟩ : _ ∧ k_ ≠ gb887))) (fun k_ hk => (⟨hk, hk.1.2⟩ : _ ∧ k_ ≠ gb888))) (fun _ hk => hk.1.2) (.slice Ao12 t880.length co12)) (fun _ hk => hk.2) (.int .i64 t883)) (fun _ hk => hk.2) (.slice Ao16 t884.length co16)) (fun _ h_ => h_.1)) (fun _ h_ => h_.1))) hb); replace BK887 := Aside0.mk (blk_below (g := gb887) (o := .cells #[.slice Ao12 t880.length co12] 30 (0, 0)) (by (with_reducible repeat (first | refine blk_drewN ?_ _ | refine blk_drew ?_ | refine blk_alloc ?_ _)); refine blk_far ?_ NB887_888.out _; (with_reducible repeat (first | refine blk_drewN ?_ _ | refine blk_drew ?_ | refine blk_alloc ?_ _)); refine blk_far ?_ NB887_888.out _; (with_reducible repeat (first | refine blk_drewN ?_ _ | refine blk_drew ?_ | refine blk_alloc ?_ _)); apply blk_put (i := 0); (case h => exact y0 BK887.out); (case e => rfl)) hb); replace BK888 := Aside0.mk (blk_below (g := gb888) (o := .cells #[.int .i64 t883, .slice Ao16 t884.length co16] 55 (0, 0)) (by (with_reducible repeat (first | refine blk_drewN ?_ _ | refine blk_drew ?_ | refine blk_alloc ?_ _)); refine blk_put (cs := #[.int .i64 t883, .slice none 0 0]) ?_ 1 _ rfl; (with_reducible repeat (first | refine blk_drewN ?_ _ | refine blk_drew ?_ | refine blk_alloc ?_ _)); refine blk_put (cs := #[.int .i64 0, .slice none 0 0]) ?_ 0 _ rfl; (with_reducible repeat (first | refine blk_drewN ?_ _ | refine blk_drew ?_ | refine blk_alloc ?_ _)); refine blk_far ?_ NB888_887.out _; (with_reducible repeat (first | refine blk_drewN ?_ _ | refine blk_drew ?_ | refine blk_alloc ?_ _)); exact BK888.out) hb); replace HB := Aside0.mk (below_step (y1 HB.out GE887.out GE888.out) hb); (try clear hb); (try clear hb2); (try clear hk); (try clear hi)))
    (try simp only [Act.put, List.setIfInBounds_toArray, List.set_cons_zero, List.set_cons_succ])
    go_cut [43] (fun v43 wc => ∃ (kq : Nat) (x43_7 : Bool), v43 = .bool x43_7 ∧ Aside0 (laws_FnValParts.j1 kq l1 t889 x43_7 t880 t883 t884 = some r) ∧ Aside0 (kq ≤ kj2) ∧ Aside0 (Kd.V k30 30 wc w.heap.size (fun k_ => k_ ≠ gb887 ∧ k_ ≠ gb888) (.slice Ao12 t880.length co12) t880) ∧ Aside0 (Kd.V k55 55 wc w.heap.size (fun k_ => k_ ≠ gb887 ∧ k_ ≠ gb888) (.slice Ao16 t884.length co16) t884) ∧ Aside0 (wc.heap[gb887]? = some (.cells #[(.slice Ao12 t880.length co12)] 30 (0, 0))) ∧ Aside0 (wc.heap[gb888]? = some (.cells #[.int .i64 t883, (.slice Ao16 t884.length co16)] 55 (0, 0))) ∧ Aside0 (Below w.heap.size w wc))
    case first =>
     have H := HC8.out
     clear HC8
     obtain ⟨t890, A180, H⟩ := ob H
     have A18 := Aside0.mk A180
     clear A180
     by_cases c19 : (t889 != t890) = true
     ·rw [if_pos c19] at H
      have c19b0 : (t889 != t890) = true := c19
      (try (have c19b1 : decide (t889 = t890) = false := by simpa using c19))
      (try (have c19b2 : (t889 == t890) = false := by simpa using c19))
      (try (have c19b3 : ¬ (t889 = t890) := by simpa using c19))
      clear c19
      (first | rw [c19b0] | (simp only [i64_w, i32_w]; rw [c19b0]) | skip)
      have H' := Aside0.mk H
      clear H
      have hnb20 := NB887_888.out
      have hnc20 := NB888_887.out
      have hcz21_0 := zh BK887
      have hfz21_0 := zfr BK887 0
      have hcz22_0 := zh BK888
      have hcz22_1 := zh1 BK888
      have hfz22_0 := zfr BK888 0
      have hfz22_1 := zfr BK888 1
      go_wp2_with (first | ((with_reducible refine gate_callee (f := 36) rfl ?_); refine goesL_ (some 32) rfl rfl Try.func36 (by kernel_rfl) rfl #[.agg #[.slice Ao12 t880.length co12], .agg #[.int .i64 t883, .slice Ao16 t884.length co16]] rfl y4 ?_; (with_reducible refine (spec_ValOk.calls kj2 _ _ t880 t883 _ _ t884 t890 _ ?side1 ?side2 ?side3 ?side4 A18.out).mono ?_); (case side1 => exact y31 HO882.out); (case side2 => exact (Kd.V_reads' HO882.out).2.1); (case side3 => exact y31 HO886.out); (case side4 => exact (Kd.V_reads' HO886.out).2.1); rintro e w23 ⟨rfl, hb⟩; refine ⟨_, rfl, ?_⟩; replace HO882 := Aside0.mk (Kd.V_below (y13 HO882.out) hb); replace HO886 := Aside0.mk (Kd.V_below (y13 HO886.out) hb); replace BK887 := zbb BK887 hb; replace BK888 := zbb BK888 hb; replace HB := Aside0.mk (below_step (y1 HB.out GE887.out GE888.out) hb); (try clear hb); (try clear hb2); (try clear hk); (try clear hi)))
      go_meet
      case rel => exact ⟨_, (true), y26, H', ⟨(y49 HJ2.out)⟩, ⟨(y48 HO882.out)⟩, ⟨(y48 HO886.out)⟩, ⟨(y0 BK887.out)⟩, ⟨(y0 BK888.out)⟩, ⟨(y1 HB.out GE887.out GE888.out)⟩⟩
     ·rw [if_neg c19] at H
      have c19b0 : (t889 != t890) = false := by simpa using c19
      (try (have c19b1 : decide (t889 = t890) = true := by simpa using c19))
      (try (have c19b2 : (t889 == t890) = true := by simpa using c19))
      clear c19
      (first | rw [c19b0] | (simp only [i64_w, i32_w]; rw [c19b0]) | skip)
      by_cases c24 : t889 = true
      ·subst c24
       rw [if_pos rfl] at H
       have H' := Aside0.mk H
       clear H
       have hnb25 := NB887_888.out
       have hnc25 := NB888_887.out
       have hcz26_0 := zh BK887
       have hfz26_0 := zfr BK887 0
       have hcz27_0 := zh BK888
       have hcz27_1 := zh1 BK888
       have hfz27_0 := zfr BK888 0
       have hfz27_1 := zfr BK888 1
       go_wp2_with (first | ((with_reducible refine gate_callee (f := 36) rfl ?_); refine goesL_ (some 32) rfl rfl Try.func36 (by kernel_rfl) rfl #[.agg #[.slice Ao12 t880.length co12], .agg #[.int .i64 t883, .slice Ao16 t884.length co16]] rfl y4 ?_; (with_reducible refine (spec_ValOk.calls kj2 _ _ t880 t883 _ _ t884 t890 _ ?side1 ?side2 ?side3 ?side4 A18.out).mono ?_); (case side1 => exact y31 HO882.out); (case side2 => exact (Kd.V_reads' HO882.out).2.1); (case side3 => exact y31 HO886.out); (case side4 => exact (Kd.V_reads' HO886.out).2.1); rintro e w28 ⟨rfl, hb⟩; refine ⟨_, rfl, ?_⟩; replace HO882 := Aside0.mk (Kd.V_below (y13 HO882.out) hb); replace HO886 := Aside0.mk (Kd.V_below (y13 HO886.out) hb); replace BK887 := zbb BK887 hb; replace BK888 := zbb BK888 hb; replace HB := Aside0.mk (below_step (y1 HB.out GE887.out GE888.out) hb); (try clear hb); (try clear hb2); (try clear hk); (try clear hi); have hcz29_0 := zh BK887; have hfz29_0 := zfr BK887 0))
       go_meet
       case rel => exact ⟨_, (((t880.length : Int) == 0)), y26, H', ⟨(y49 HJ2.out)⟩, ⟨(y48 HO882.out)⟩, ⟨(y48 HO886.out)⟩, ⟨(y0 BK887.out)⟩, ⟨(y0 BK888.out)⟩, ⟨(y1 HB.out GE887.out GE888.out)⟩⟩
      ·replace c24 := Bool.eq_false_iff.mpr c24
       subst c24
       rw [if_neg (show ¬ (false = true) by decide)] at H
       have H' := Aside0.mk H
       clear H
       have hnb30 := NB887_888.out
       have hnc30 := NB888_887.out
       have hcz31_0 := zh BK887
       have hfz31_0 := zfr BK887 0
       have hcz32_0 := zh BK888
       have hcz32_1 := zh1 BK888
       have hfz32_0 := zfr BK888 0
       have hfz32_1 := zfr BK888 1
       go_wp2_with (first | ((with_reducible refine gate_callee (f := 36) rfl ?_); refine goesL_ (some 32) rfl rfl Try.func36 (by kernel_rfl) rfl #[.agg #[.slice Ao12 t880.length co12], .agg #[.int .i64 t883, .slice Ao16 t884.length co16]] rfl y4 ?_; (with_reducible refine (spec_ValOk.calls kj2 _ _ t880 t883 _ _ t884 t890 _ ?side1 ?side2 ?side3 ?side4 A18.out).mono ?_); (case side1 => exact y31 HO882.out); (case side2 => exact (Kd.V_reads' HO882.out).2.1); (case side3 => exact y31 HO886.out); (case side4 => exact (Kd.V_reads' HO886.out).2.1); rintro e w33 ⟨rfl, hb⟩; refine ⟨_, rfl, ?_⟩; replace HO882 := Aside0.mk (Kd.V_below (y13 HO882.out) hb); replace HO886 := Aside0.mk (Kd.V_below (y13 HO886.out) hb); replace BK887 := zbb BK887 hb; replace BK888 := zbb BK888 hb; replace HB := Aside0.mk (below_step (y1 HB.out GE887.out GE888.out) hb); (try clear hb); (try clear hb2); (try clear hk); (try clear hi)))
       go_meet
       case rel => exact ⟨_, (true), y26, H', ⟨(y49 HJ2.out)⟩, ⟨(y48 HO882.out)⟩, ⟨(y48 HO886.out)⟩, ⟨(y0 BK887.out)⟩, ⟨(y0 BK888.out)⟩, ⟨(y1 HB.out GE887.out GE888.out)⟩⟩
    case rest =>
     clear HC8
     try clear c1
     try clear c2
     try clear p2
     try clear c3
     try clear c4
     try clear c4b0
     try clear c4b1
     try clear c5
     try clear c13
     try clear c19
     try clear c19b0
     try clear c19b1
     try clear c19b2
     try clear c20
     try clear c24
     try clear c25
     try clear c30
     try clear hcz14_0
     try clear hcz15_0
     try clear hcz15_1
     try clear hcz21_0
     try clear hcz22_0
     try clear hcz22_1
     try clear hcz26_0
     try clear hcz27_0
     try clear hcz27_1
     try clear hcz29_0
     try clear hcz31_0
     try clear hcz32_0
     try clear hcz32_1
     try clear hfz14_0
     try clear hfz15_0
     try clear hfz15_1
     try clear hfz21_0
     try clear hfz22_0
     try clear hfz22_1
     try clear hfz26_0
     try clear hfz27_0
     try clear hfz27_1
     try clear hfz29_0
     try clear hfz31_0
     try clear hfz32_0
     try clear hfz32_1
     try clear p2
     obtain ⟨kq, x43_7, rfl, HA, HJ7, HO_888000, HO_889001, BK887, BK888, HB⟩ := hcut
     cases kq with
     | zero => exact absurd HA.out (by simp [laws_FnValParts.j1])
     | succ kj7 =>
      have H := HA.out
      clear HA
      simp only [laws_FnValParts.j1] at H
      by_cases c34 : x43_7 = true
      ·subst c34
       rw [if_pos rfl] at H
       obtain ⟨t891, A350, H⟩ := ob H
       have A35 := Aside0.mk A350
       clear A350
       clear hr_
       obtain rfl := Option.some.inj H
       have hnb36 := NB887_888.out
       have hnc36 := NB888_887.out
       have hcz37_0 := zh BK887
       have hfz37_0 := zfr BK887 0
       have hcz38_0 := zh BK888
       have hcz38_1 := zh1 BK888
       have hfz38_0 := zfr BK888 0
       have hfz38_1 := zfr BK888 1
       go_wp2_with (first | ((with_reducible refine gate_callee (f := 36) rfl ?_); refine goesL_ (some 47) rfl rfl Try.func36 (by kernel_rfl) rfl #[.agg #[.slice Ao12 t880.length co12], .agg #[.int .i64 t883, .slice Ao16 t884.length co16]] rfl y4 ?_; (with_reducible refine (spec_ValOk.calls kj7 _ _ t880 t883 _ _ t884 t891 _ ?side1 ?side2 ?side3 ?side4 A35.out).mono ?_); (case side1 => exact y31 HO_888000.out); (case side2 => exact (Kd.V_reads' HO_888000.out).2.1); (case side3 => exact y31 HO_889001.out); (case side4 => exact (Kd.V_reads' HO_889001.out).2.1); rintro e w39 ⟨rfl, hb⟩; refine ⟨_, rfl, ?_⟩; replace HO_888000 := Aside0.mk (Kd.V_below (y13 HO_888000.out) hb); replace HO_889001 := Aside0.mk (Kd.V_below (y13 HO_889001.out) hb); replace BK887 := zbb BK887 hb; replace BK888 := zbb BK888 hb; replace HB := Aside0.mk (below_step (y1 HB.out GE887.out GE888.out) hb); (try clear hb); (try clear hb2); (try clear hk); (try clear hi)))
       go_ret
       exact ⟨y14, (y1 HB.out GE887.out GE888.out)⟩
      ·replace c34 := Bool.eq_false_iff.mpr c34
       subst c34
       rw [if_neg (show ¬ (false = true) by decide)] at H
       obtain ⟨y892, hy892⟩ : ∃ y_ : List Int, y_ = (([(l1.length : Int) % 2] : List Int)) := ⟨_, rfl⟩
       replace H : ((impl_TypeAt.f kj7 t880 y892).bind fun bt895 => ((impl_ValAt.f kj7 t883 t884 y892).bind fun bt900 => (if bt895.2 = true then (if bt900.2.2 = true then ((impl_ValOk.f kj7 bt895.1 bt900.1 bt900.2.1).bind fun t906 => (some t906)) else (some false)) else (some false)))) = some r := by first | (rw [hy892]; with_reducible exact H) | (have H2_ := (Option.bind_some _ _).symm.trans H; rw [hy892]; with_reducible exact H2_) | (have H2_ := (Option.bind_some _ _).symm.trans H; with_reducible exact H2_) | with_reducible exact H | (rw [hy892]; exact H) | exact H
       have Ny892 := Aside0.mk hy892
       clear hy892
       obtain ⟨⟨t895, t898⟩, A400, H⟩ := ob H
       have A40 := Aside0.mk A400
       clear A400
       obtain ⟨⟨t900, t901, t904⟩, A410, H⟩ := ob H
       have A41 := Aside0.mk A410
       clear A410
       by_cases c42 : t898 = true
       ·subst c42
        rw [if_pos rfl] at H
        by_cases c43 : t904 = true
        ·subst c43
         rw [if_pos rfl] at H
         obtain ⟨t906, A440, H⟩ := ob H
         have A44 := Aside0.mk A440
         clear A440
         clear hr_
         obtain rfl := Option.some.inj H
         go_wp2_with (first | ((with_reducible refine gate_dst (N := 52) rfl ?_); (try (refine gate_guard (by rfl) ?_; dsimp only)); refine Kd.R_lit (Kd.int .i64) _ 3 ?hg (N := 52) ?hd (xs := ([(l1.length : Int) % 2] : List Int)) (inner := [.int .i64 ((l1.length : Int) % 2)]) (ok := fun _ => True) (okp := fun _ => True) ?hr ?hp (fun _ hk => hk) trivial (Below.refl _ _) (Nat.le_refl _) (by simp) ?_; (case hd => rfl); (case hg => rfl); (case hr => first | (go_simp; done) | (go_simp; rfl)); (case hp => exact (Reps.one (show Kd.M (Kd.int .i64) _ _ _ ((l1.length : Int) % 2) [.int .i64 ((l1.length : Int) % 2)] from rfl) (Reps.none _ _))); intro v893 w45 ho46 hb hg_ hnew_; clear hg_ hnew_; (first | rw [← Ny892.out] at ho46 | (simp only [Int.reduceToNat] at ho46; rw [← Ny892.out] at ho46)); replace HO_888000 := Aside0.mk (Kd.V_elder' (y13 HO_888000.out) (Kd.R_base ho46) hb); replace HO_889001 := Aside0.mk (Kd.V_elder' (y13 HO_889001.out) (Kd.R_base ho46) hb); have HO894 := Aside0.mk (Kd.R_lower ho46 (below_size (y1 HB.out GE887.out GE888.out))); replace BK887 := zbb BK887 hb; replace BK888 := zbb BK888 hb; replace HB := Aside0.mk (below_step (y1 HB.out GE887.out GE888.out) hb); clear hb ho46; have hnb47 := NB887_888.out; have hnc47 := NB888_887.out; have hcz48_0 := zh BK887; have hfz48_0 := zfr BK887 0; obtain ⟨Ao49, co49, eo49⟩ := Kd.R_slice HO894.out; subst eo49) | ((with_reducible refine gate_callee (f := 21) rfl ?_); refine goesL_ (some 56) rfl rfl Try.func21 (by kernel_rfl) rfl #[.agg #[.slice Ao12 t880.length co12], .slice Ao49 y892.length co49] rfl y4 ?_; (with_reducible refine (impl_TypeAt.calls kj7 (fun k_ => ((k_ ≠ gb887 ∧ k_ ≠ gb888) ∧ some k_ ≠ (.slice Ao49 y892.length co49 : Value).ownBlock)) _ _ t880 _ _ y892 t895 true _ ?side1 ?side2 ?side3 A40.out).mono ?_); (case side1 => exact HO_888000.out); (case side2 => exact y30 HO894.out); (case side3 => exact (Kd.R_reads' HO894.out).2.1); rintro e w50 ⟨v896, rfl, ho0, hb⟩; refine ⟨_, rfl, ?_⟩; replace HO_888000 := Aside0.mk (Kd.V_elder' (y13 HO_888000.out) (Kd.N_base ho0) hb); replace HO_889001 := Aside0.mk (Kd.V_elder' (y13 HO_889001.out) (Kd.N_base ho0) hb); have HO897 := Aside0.mk (Kd.N_lower (Kd.N_mono (ok' := fun k_ => some k_ ≠ (.slice Ao49 y892.length co49 : Value).ownBlock ∧ k_ ≠ gb887 ∧ k_ ≠ gb888) ho0 (fun k_ hk_ => ⟨Or.elim hk_ (fun hs_ => hs_.2) (fun hn_ => (Kd.fresh' (Kd.R_lt (y10 HO894.out)) k_ hn_)), Or.elim hk_ (fun hs_ => hs_.1.1) (fun hn_ => (Kd.freshB (g := gb887) (o := .cells #[.slice Ao12 t880.length co12] 30 (0, 0)) (y0 BK887.out) k_ hn_)), Or.elim hk_ (fun hs_ => hs_.1.2) (fun hn_ => (Kd.freshB (g := gb888) (o := .cells #[.int .i64 t883, .slice Ao16 t884.length co16] 55 (0, 0)) (y0 BK888.out) k_ hn_))⟩)) (below_size (y1 HB.out GE887.out GE888.out))); replace HO894 := Aside0.mk (Kd.R_below (y10 HO894.out) hb); replace BK887 := zbb BK887 hb; replace BK888 := zbb BK888 hb; replace HB := Aside0.mk (below_step (y1 HB.out GE887.out GE888.out) hb); (try clear hb); (try clear hb2); (try clear hk); (try clear hi); (try clear ho0)) | ((with_reducible refine gate_dst (N := 9) rfl ?_); (try (refine gate_guard (by rfl) ?_; dsimp only)); refine zbx 9 #[.slice none 0 0] 30 ?_; intro gb899 hg w51 hbox hb; replace HO_888000 := Aside0.mk (Kd.V_below (Kd.V_elderB (y13 HO_888000.out) gb899 (Nat.le_of_eq hg.symm)) hb); replace HO_889001 := Aside0.mk (Kd.V_below (Kd.V_elderB (y13 HO_889001.out) gb899 (Nat.le_of_eq hg.symm)) hb); replace HO894 := Aside0.mk (Kd.R_below (y10 HO894.out) hb); replace HO897 := Aside0.mk (Kd.N_below (Kd.N_elderB (y9 HO897.out) gb899 (Nat.le_of_eq hg.symm)) hb); have BK899 := Aside0.mk hbox; have GW899 := Aside0.mk ((y20 hg HB.out GE887.out GE888.out : w.heap.size ≤ gb899)); have GE899 := Aside0.mk ((y20 hg HB.out GE887.out GE888.out : w.heap.size ≤ gb899)); replace HB := Aside0.mk (below_step (y1 HB.out GE887.out GE888.out) hb); have NB887_899 := zltn hg BK887; have NB899_887 := zgtn hg BK887; replace BK887 := zbb BK887 hb; have NB888_899 := zltn hg BK888; have NB899_888 := zgtn hg BK888; replace BK888 := zbb BK888 hb; clear hb hbox hg; obtain ⟨Ao52, co52, eo52⟩ := Kd.N_slice HO897.out; subst eo52; have hnb53 := NB899_887.out; have hnc53 := NB887_899.out; have hnb54 := NB899_888.out; have hnc54 := NB888_899.out; have hcz55_0 := zh BK899; have hfz55_0 := zfr BK899 0) | ((with_reducible refine gate_store (t := 30) (p := 9) rfl ?_); refine store_event (t := 30) (p := 9) (v := ?vo_w56) (w1 := (w51.setCell ⟨gb899, 0, none⟩ (.slice Ao52 t895.length co52))) ?hg ?ho ?hn ?hr ?_; (case ho => rfl); (case hg => rfl); (case hn => rfl); (case hr => first | (go_simp; done) | (go_simp; rfl)); intro w56 hw; have n0_ : Aside0 (Kd.V k30 30 w56 w.heap.size (fun k_ => some k_ ≠ (.slice Ao49 y892.length co49 : Value).ownBlock ∧ some k_ ≠ (.slice Ao52 t895.length co52 : Value).ownBlock ∧ k_ ≠ gb887 ∧ k_ ≠ gb888 ∧ k_ ≠ gb899) (.slice Ao12 t880.length co12) t880) := ⟨(by rw [hw]; exact (by (with_reducible repeat (first | apply Kd.V_alloc | apply Kd.V_drewN | apply Kd.V_drew)); exact Kd.V_mono (Kd.V_far (p := ⟨gb899, 0, none⟩) (Kd.V_mono HO_888000.out (fun k_ hk => (⟨hk, hk.2⟩ : _ ∧ k_ ≠ gb899))) (fun _ hk => hk.2) (.slice Ao52 t895.length co52)) (fun _ hk => ⟨hk.1.1.1.2, ⟨hk.1.1.2, ⟨hk.1.1.1.1.1, ⟨hk.1.1.1.1.2, hk.1.2⟩⟩⟩⟩)))⟩; have n1_ : Aside0 (Kd.V k55 55 w56 w.heap.size (fun k_ => some k_ ≠ (.slice Ao49 y892.length co49 : Value).ownBlock ∧ some k_ ≠ (.slice Ao52 t895.length co52 : Value).ownBlock ∧ k_ ≠ gb887 ∧ k_ ≠ gb888 ∧ k_ ≠ gb899) (.slice Ao16 t884.length co16) t884) := ⟨(by rw [hw]; exact (by (with_reducible repeat (first | apply Kd.V_alloc | apply Kd.V_drewN | apply Kd.V_drew)); exact Kd.V_mono (Kd.V_far (p := ⟨gb899, 0, none⟩) (Kd.V_mono HO_889001.out (fun k_ hk => (⟨hk, hk.2⟩ : _ ∧ k_ ≠ gb899))) (fun _ hk => hk.2) (.slice Ao52 t895.length co52)) (fun _ hk => ⟨hk.1.1.1.2, ⟨hk.1.1.2, ⟨hk.1.1.1.1.1, ⟨hk.1.1.1.1.2, hk.1.2⟩⟩⟩⟩)))⟩; have n2_ : Aside0 (Kd.R (Kd.int .i64) 3 w56 w.heap.size (fun _ => True) (.slice Ao49 y892.length co49) y892) := ⟨(by rw [hw]; exact (by (with_reducible repeat (first | apply Kd.R_alloc | apply Kd.R_drewN | apply Kd.R_drew)); exact Kd.R_mono (Kd.R_far (p := ⟨gb899, 0, none⟩) (Kd.R_types HO894.out BK899.out (by decide)) (fun _ hk => hk.2) (.slice Ao52 t895.length co52)) (fun _ hk => trivial)))⟩; have n3_ : Aside0 (Kd.N k30 30 w56 w.heap.size (fun k_ => some k_ ≠ (.slice Ao49 y892.length co49 : Value).ownBlock ∧ k_ ≠ gb887 ∧ k_ ≠ gb888 ∧ k_ ≠ gb899) (.slice Ao52 t895.length co52) t895) := ⟨(by rw [hw]; exact (by (with_reducible repeat (first | apply Kd.N_alloc | apply Kd.N_drewN | apply Kd.N_drew)); exact Kd.N_mono (Kd.N_far (p := ⟨gb899, 0, none⟩) (Kd.N_mono HO897.out (fun k_ hk => (⟨hk, hk.2⟩ : _ ∧ k_ ≠ gb899))) (fun _ hk => hk.2) (.slice Ao52 t895.length co52)) (fun _ hk => ⟨hk.1.1.1, ⟨hk.1.1.2.1, ⟨hk.1.1.2.2, hk.1.2⟩⟩⟩)))⟩; have n4_ : Aside0 (w56.heap[gb887]? = some (.cells #[.slice Ao12 t880.length co12] 30 (0, 0))) := ⟨(by rw [hw]; exact (y21 NB887_899.out BK887.out))⟩; have n5_ : Aside0 (w56.heap[gb888]? = some (.cells #[.int .i64 t883, .slice Ao16 t884.length co16] 55 (0, 0))) := ⟨(by rw [hw]; exact (y21 NB888_899.out BK888.out))⟩; have n6_ : Aside0 (w56.heap[gb899]? = some (.cells #[.slice Ao52 t895.length co52] 30 (0, 0))) := ⟨(by rw [hw]; exact (by (with_reducible repeat (first | refine blk_drewN ?_ _ | refine blk_drew ?_ | refine blk_alloc ?_ _)); apply blk_put (i := 0); (case h => exact y0 BK899.out); (case e => rfl)))⟩; have n7_ : Aside0 (Below w.heap.size w w56) := ⟨(by rw [hw]; exact (y7 HB.out GE887.out GE888.out GE899.out))⟩; clear hw; clear HO_888000; clear HO_889001; clear HO894; clear HO897; clear BK887; clear BK888; clear BK899; clear HB; have HO_888000 := n0_; have HO_889001 := n1_; have HO894 := n2_; have HO897 := n3_; have BK887 := n4_; have BK888 := n5_; have BK899 := n6_; have HB := n7_; clear n0_ n1_ n2_ n3_ n4_ n5_ n6_ n7_; have hcz57_0 := zh BK888; have hcz57_1 := zh1 BK888; have hfz57_0 := zfr BK888 0; have hfz57_1 := zfr BK888 1) | ((with_reducible refine gate_callee (f := 42) rfl ?_); refine goesL_ (some 62) rfl rfl Try.func42 (by kernel_rfl) rfl #[.agg #[.int .i64 t883, .slice Ao16 t884.length co16], .slice Ao49 y892.length co49] rfl y4 ?_; (with_reducible refine (impl_ValAt.calls kj7 t883 (fun k_ => (some k_ ≠ (.slice Ao49 y892.length co49 : Value).ownBlock ∧ (some k_ ≠ (.slice Ao52 t895.length co52 : Value).ownBlock ∧ (k_ ≠ gb887 ∧ (k_ ≠ gb888 ∧ k_ ≠ gb899))))) _ _ t884 _ _ y892 t900 t901 true _ ?side1 ?side2 ?side3 A41.out).mono ?_); (case side1 => exact HO_889001.out); (case side2 => exact y30 HO894.out); (case side3 => exact (Kd.R_reads' HO894.out).2.1); rintro e w58 ⟨v902, rfl, ho0, hb⟩; refine ⟨_, rfl, ?_⟩; replace HO_888000 := Aside0.mk (Kd.V_elder' (y13 HO_888000.out) (Kd.N_base ho0) hb); replace HO_889001 := Aside0.mk (Kd.V_elder' (y13 HO_889001.out) (Kd.N_base ho0) hb); have HO903 := Aside0.mk (Kd.N_lower (Kd.N_mono (ok' := fun k_ => some k_ ≠ (.slice Ao49 y892.length co49 : Value).ownBlock ∧ some k_ ≠ (.slice Ao52 t895.length co52 : Value).ownBlock ∧ k_ ≠ gb887 ∧ k_ ≠ gb888 ∧ k_ ≠ gb899) ho0 (fun k_ hk_ => ⟨Or.elim hk_ (fun hs_ => hs_.1) (fun hn_ => (Kd.fresh' (Kd.R_lt (y10 HO894.out)) k_ hn_)), Or.elim hk_ (fun hs_ => hs_.2.1) (fun hn_ => (Kd.fresh' (Kd.N_lt (y9 HO897.out)) k_ hn_)), Or.elim hk_ (fun hs_ => hs_.2.2.1) (fun hn_ => (Kd.freshB (g := gb887) (o := .cells #[.slice Ao12 t880.length co12] 30 (0, 0)) (y0 BK887.out) k_ hn_)), Or.elim hk_ (fun hs_ => hs_.2.2.2.1) (fun hn_ => (Kd.freshB (g := gb888) (o := .cells #[.int .i64 t883, .slice Ao16 t884.length co16] 55 (0, 0)) (y0 BK888.out) k_ hn_)), Or.elim hk_ (fun hs_ => hs_.2.2.2.2) (fun hn_ => (Kd.freshB (g := gb899) (o := .cells #[.slice Ao52 t895.length co52] 30 (0, 0)) (y0 BK899.out) k_ hn_))⟩)) (below_size (y7 HB.out GE887.out GE888.out GE899.out))); replace HO894 := Aside0.mk (Kd.R_below (y10 HO894.out) hb); replace HO897 := Aside0.mk (Kd.N_elder' (y9 HO897.out) (Kd.N_base ho0) hb); replace BK887 := zbb BK887 hb; replace BK888 := zbb BK888 hb; replace BK899 := zbb BK899 hb; replace HB := Aside0.mk (below_step (y7 HB.out GE887.out GE888.out GE899.out) hb); (try clear hb); (try clear hb2); (try clear hk); (try clear hi); (try clear ho0)) | ((with_reducible refine gate_dst (N := 11) rfl ?_); (try (refine gate_guard (by rfl) ?_; dsimp only)); refine zbx 11 #[.int .i64 0, .slice none 0 0] 55 ?_; intro gb905 hg w59 hbox hb; replace HO_888000 := Aside0.mk (Kd.V_below (Kd.V_elderB (y13 HO_888000.out) gb905 (Nat.le_of_eq hg.symm)) hb); replace HO_889001 := Aside0.mk (Kd.V_below (Kd.V_elderB (y13 HO_889001.out) gb905 (Nat.le_of_eq hg.symm)) hb); replace HO894 := Aside0.mk (Kd.R_below (y10 HO894.out) hb); replace HO897 := Aside0.mk (Kd.N_below (Kd.N_elderB (y9 HO897.out) gb905 (Nat.le_of_eq hg.symm)) hb); replace HO903 := Aside0.mk (Kd.N_below (Kd.N_elderB (y9 HO903.out) gb905 (Nat.le_of_eq hg.symm)) hb); have BK905 := Aside0.mk hbox; have GW905 := Aside0.mk ((y29 hg HB.out GE887.out GE888.out GE899.out : w.heap.size ≤ gb905)); have GE905 := Aside0.mk ((y29 hg HB.out GE887.out GE888.out GE899.out : w.heap.size ≤ gb905)); replace HB := Aside0.mk (below_step (y7 HB.out GE887.out GE888.out GE899.out) hb); have NB887_905 := zltn hg BK887; have NB905_887 := zgtn hg BK887; replace BK887 := zbb BK887 hb; have NB888_905 := zltn hg BK888; have NB905_888 := zgtn hg BK888; replace BK888 := zbb BK888 hb; have NB899_905 := zltn hg BK899; have NB905_899 := zgtn hg BK899; replace BK899 := zbb BK899 hb; clear hb hbox hg; have hnb60 := NB905_887.out; have hnc60 := NB887_905.out; have hnb61 := NB905_888.out; have hnc61 := NB888_905.out; have hnb62 := NB905_899.out; have hnc62 := NB899_905.out; have hcz63_0 := zh BK905; have hcz63_1 := zh1 BK905; have hfz63_0 := zfr BK905 0; have hfz63_1 := zfr BK905 1; obtain ⟨Ao64, co64, eo64⟩ := Kd.N_slice HO903.out; subst eo64; have hcz65_0 := zh BK899; have hfz65_0 := zfr BK899 0) | (go_at_call 35; (with_reducible refine (impl_ValOk.calls kj7 _ _ t895 t900 _ _ t901 t906 _ ?side1 ?side2 ?side3 ?side4 A44.out).mono ?_); (case side1 => refine (Kd.N_reads' (e := 30) (base := w.heap.size) (ok := fun k_ => (((some k_ ≠ (.slice Ao49 y892.length co49 : Value).ownBlock ∧ (k_ ≠ gb887 ∧ (k_ ≠ gb888 ∧ k_ ≠ gb899))) ∧ some k_ ≠ (.slice Ao64 t901.length co64 : Value).ownBlock) ∧ k_ ≠ gb905)) (n := t895.length) (c := co52) ?_).2.2; exact (by (with_reducible repeat (first | apply Kd.N_alloc | apply Kd.N_drewN | apply Kd.N_drew)); exact (Kd.N_mono (Kd.N_far (p := ⟨gb905, 1, none⟩) (Kd.N_far (p := ⟨gb905, 0, none⟩) (Kd.N_mono HO897.out (fun k_ hk => (⟨hk, hk.2⟩ : _ ∧ k_ ≠ gb905))) (fun _ hk => hk.2) (.int .i64 t900)) (fun _ hk => hk.2) (.slice Ao64 t901.length co64)) (fun _ h_ => h_.1)))); (case side2 => exact (Kd.N_reads' HO897.out).2.1); (case side3 => refine (Kd.N_reads' (e := 55) (base := w.heap.size) (ok := fun k_ => ((some k_ ≠ (.slice Ao49 y892.length co49 : Value).ownBlock ∧ (some k_ ≠ (.slice Ao52 t895.length co52 : Value).ownBlock ∧ (k_ ≠ gb887 ∧ (k_ ≠ gb888 ∧ k_ ≠ gb899)))) ∧ k_ ≠ gb905)) (n := t901.length) (c := co64) ?_).2.2; exact (by (with_reducible repeat (first | apply Kd.N_alloc | apply Kd.N_drewN | apply Kd.N_drew)); exact (Kd.N_mono (Kd.N_far (p := ⟨gb905, 1, none⟩) (Kd.N_far (p := ⟨gb905, 0, none⟩) (Kd.N_mono HO903.out (fun k_ hk => (⟨hk, hk.2⟩ : _ ∧ k_ ≠ gb905))) (fun _ hk => hk.2) (.int .i64 t900)) (fun _ hk => hk.2) (.slice Ao64 t901.length co64)) (fun _ h_ => h_.1)))); (case side4 => exact (Kd.N_reads' HO903.out).2.1); rintro e w66 ⟨rfl, hb⟩; replace HO_888000 := Aside0.mk (Kd.V_below (by (with_reducible repeat (first | apply Kd.V_alloc | apply Kd.V_drewN | apply Kd.V_drew)); exact (Kd.V_mono (Kd.V_far (p := ⟨gb905, 1, none⟩) (Kd.V_far (p := ⟨gb905, 0, none⟩) (Kd.V_mono HO_888000.out (fun k_ hk => (⟨hk, hk.2⟩ : _ ∧ k_ ≠ gb905))) (fun _ hk => hk.2) (.int .i64 t900)) (fun _ hk => hk.2) (.slice Ao64 t901.length co64)) (fun _ h_ => h_.1))) hb); replace HO_889001 := Aside0.mk (Kd.V_below (by (with_reducible repeat (first | apply Kd.V_alloc | apply Kd.V_drewN | apply Kd.V_drew)); exact (Kd.V_mono (Kd.V_far (p := ⟨gb905, 1, none⟩) (Kd.V_far (p := ⟨gb905, 0, none⟩) (Kd.V_mono HO_889001.out (fun k_ hk => (⟨hk, hk.2⟩ : _ ∧ k_ ≠ gb905))) (fun _ hk => hk.2) (.int .i64 t900)) (fun _ hk => hk.2) (.slice Ao64 t901.length co64)) (fun _ h_ => h_.1))) hb); replace HO894 := Aside0.mk (Kd.R_below (by (with_reducible repeat (first | apply Kd.R_alloc | apply Kd.R_drewN | apply Kd.R_drew)); exact (Kd.R_mono (Kd.R_far (p := ⟨gb905, 1, none⟩) (Kd.R_far (p := ⟨gb905, 0, none⟩) (Kd.R_types HO894.out BK905.out (by decide)) (fun _ hk => hk.2) (.int .i64 t900)) (fun _ hk => hk.2) (.slice Ao64 t901.length co64)) (fun _ h_ => h_.1))) hb); replace HO897 := Aside0.mk (Kd.N_below (by (with_reducible repeat (first | apply Kd.N_alloc | apply Kd.N_drewN | apply Kd.N_drew)); exact (Kd.N_mono (Kd.N_far (p := ⟨gb905, 1, none⟩) (Kd.N_far (p := ⟨gb905, 0, none⟩) (Kd.N_mono HO897.out (fun k_ hk => (⟨hk, hk.2⟩ : _ ∧ k_ ≠ gb905))) (fun _ hk => hk.2) (.int .i64 t900)) (fun _ hk => hk.2) (.slice Ao64 t901.length co64)) (fun _ h_ => h_.1))) hb); replace HO903 := Aside0.mk (Kd.N_below (by (with_reducible repeat (first | apply Kd.N_alloc | apply Kd.N_drewN | apply Kd.N_drew)); exact (Kd.N_mono (Kd.N_far (p := ⟨gb905, 1, none⟩) (Kd.N_far (p := ⟨gb905, 0, none⟩) (Kd.N_mono HO903.out (fun k_ hk => (⟨hk, hk.2⟩ : _ ∧ k_ ≠ gb905))) (fun _ hk => hk.2) (.int .i64 t900)) (fun _ hk => hk.2) (.slice Ao64 t901.length co64)) (fun _ h_ => h_.1))) hb); replace BK887 := Aside0.mk (blk_below (g := gb887) (o := .cells #[.slice Ao12 t880.length co12] 30 (0, 0)) (y17 NB887_905.out BK887.out) hb); replace BK888 := Aside0.mk (blk_below (g := gb888) (o := .cells #[.int .i64 t883, .slice Ao16 t884.length co16] 55 (0, 0)) (y17 NB888_905.out BK888.out) hb); replace BK899 := Aside0.mk (blk_below (g := gb899) (o := .cells #[.slice Ao52 t895.length co52] 30 (0, 0)) (y17 NB899_905.out BK899.out) hb); replace BK905 := Aside0.mk (blk_below (g := gb905) (o := .cells #[.int .i64 t900, .slice Ao64 t901.length co64] 55 (0, 0)) (by (with_reducible repeat (first | refine blk_drewN ?_ _ | refine blk_drew ?_ | refine blk_alloc ?_ _)); refine blk_put (cs := #[.int .i64 t900, .slice none 0 0]) ?_ 1 _ rfl; (with_reducible repeat (first | refine blk_drewN ?_ _ | refine blk_drew ?_ | refine blk_alloc ?_ _)); apply blk_put (i := 0); (case h => exact y0 BK905.out); (case e => rfl)) hb); replace HB := Aside0.mk (below_step (y16 HB.out GE887.out GE888.out GE899.out GE905.out) hb); (try clear hb); (try clear hb2); (try clear hk); (try clear hi)))
         go_ret
         exact ⟨y14, (y16 HB.out GE887.out GE888.out GE899.out GE905.out)⟩
        ·replace c43 := Bool.eq_false_iff.mpr c43
         subst c43
         rw [if_neg (show ¬ (false = true) by decide)] at H
         exact absurd ((Option.some.inj H).trans hr_.out) (by decide)
       ·replace c42 := Bool.eq_false_iff.mpr c42
        subst c42
        rw [if_neg (show ¬ (false = true) by decide)] at H
        exact absurd ((Option.some.inj H).trans hr_.out) (by decide)
def laws_FnValParts.Pure : Prop := ∀ (l0 : List Int) (l1 : List Int), l0.length ≤ maxLen → l0.length * 1 ≤ 140737488351232 → (∀ x ∈ l0, (Lit.int .u8 x).wf = true) → l1.length ≤ maxLen → l1.length * 1 ≤ 140737488351232 → (∀ x ∈ l1, (Lit.int .u8 x).wf = true) → ∃ k, laws_FnValParts.f k l0 l1 = some true
theorem laws_FnValParts.walk (P : laws_FnValParts.Pure) (a0 : Option Addr) (len0 cap0 : Nat) (z0 : List Int) (a1 : Option Addr) (len1 cap1 : Nat) (z1 : List Int) (w : World) (w0 : (a0 = none ∧ len0 = 0 ∧ cap0 = 0 ∧ z0 = []) ∨ ∃ x, a0 = some x ∧ len0 ≤ cap0 ∧ cap0 ≤ maxLen ∧ z0.length = cap0 ∧ (∀ i, i < z0.length → w.cell? (x.add i) = some (.int .u8 (z0.getD i 0))) ∧ ∀ n ∈ z0, (Lit.int .u8 n).wf = true) (y0 : len0 * 1 ≤ 140737488351232) (w1 : (a1 = none ∧ len1 = 0 ∧ cap1 = 0 ∧ z1 = []) ∨ ∃ x, a1 = some x ∧ len1 ≤ cap1 ∧ cap1 ≤ maxLen ∧ z1.length = cap1 ∧ (∀ i, i < z1.length → w.cell? (x.add i) = some (.int .u8 (z1.getD i 0))) ∧ ∀ n ∈ z1, (Lit.int .u8 n).wf = true) (y1 : len1 * 1 ≤ 140737488351232) :
  Calls Try.prog 13 #[.slice a0 len0 cap0, .slice a1 len1 cap1] w fun e w' => e = .returned (.bool true) ∧ Below w.heap.size w w' := by
 obtain ⟨l0, rfl, hr0, hm0, hw0, hc0⟩ := ReadsInt.ofRowC w0
 obtain ⟨l1, rfl, hr1, hm1, hw1, hc1⟩ := ReadsInt.ofRowC w1
 obtain ⟨k, h⟩ := P l0 l1 hm0 y0 hw0 hm1 y1 hw1
 refine (laws_FnValParts.calls k _ _ l0 _ _ l1 true w (Kd.C_of_reads (d := (0 : Int)) (h1 := fun _ => rfl) hr0) hc0 (Kd.C_of_reads (d := (0 : Int)) (h1 := fun _ => rfl) hr1) hc1 h ⟨rfl⟩).mono ?_
 rintro e w' ⟨rfl, hd⟩
 exact ⟨rfl, hd⟩
end Go.Proofs.Ytjhbhihfifhljaa.PA
end
section
namespace Go.Proofs.Ytjhbhihfifhljaa.Draw
open Go.RowKit Go.Proofs.Ytjhbhihfifhljaa.PA Go.Proofs.YtjhbhihfifhljaaW.PrintWords Go.Proofs.YtjhbhihfifhljaaW.PrintLast
def Bytes (s : List Int) : Prop := s.length ≤ 2000 ∧ ∀ x ∈ s, 0 ≤ x ∧ x ≤ 255
theorem rd_byte {s : List Int} (h : Bytes s) (i : Int) : 0 ≤ rd s i ∧ rd s i ≤ 255 := by
  unfold rd
  rw [List.getD_eq_getElem?_getD]
  cases e : s[i.toNat]? with
  | none => simp
  | some x => exact h.2 x (List.mem_of_getElem? e)
theorem w64 {x : Int} (h0 : -9223372036854775808 ≤ x) (h1 : x ≤ 9223372036854775807) : wrap64 x = x := by unfold wrap64; omega
theorem w01 : wrap64 (0 + 1) = 1 := by rw [w64 (by omega) (by omega)]; rfl
theorem w12 : wrap64 (1 + 1) = 2 := by rw [w64 (by omega) (by omega)]; rfl
theorem xor_nonneg (a b : Nat) (ha : a < 2 ^ 62) (hb : b < 2 ^ 62) : 0 ≤ Go.bits .xor .i64 a b := by
  have hp : (2 : Nat) ^ 62 ≤ 2 ^ IntKind.i64.bits := Nat.pow_le_pow_right (by decide) (by decide)
  have ha' : a % 2 ^ IntKind.i64.bits = a := Nat.mod_eq_of_lt (Nat.lt_of_lt_of_le ha hp)
  have hb' : b % 2 ^ IntKind.i64.bits = b := Nat.mod_eq_of_lt (Nat.lt_of_lt_of_le hb hp)
  simp only [Go.bits, BitVec.ofInt_natCast, BitVec.toNat_xor, BitVec.toNat_ofNat, ha', hb']
  rw [IntKind.wrap_i64]
  have := Nat.xor_lt_two_pow ha hb
  omega
theorem xor_nonneg' (x y : Int) (hx : 0 ≤ x) (hx1 : x < 4611686018427387904) (hy : 0 ≤ y) (hy1 : y < 4611686018427387904) : 0 ≤ Go.bits .xor .i64 x y := by
  obtain ⟨a, rfl⟩ := Int.eq_ofNat_of_zero_le hx
  obtain ⟨b, rfl⟩ := Int.eq_ofNat_of_zero_le hy
  exact xor_nonneg a b (by omega) (by omega)
theorem tmod_range (x n : Int) (hx : 0 ≤ x) (hn : 1 ≤ n) : 0 ≤ Int.tmod x n ∧ Int.tmod x n < n := by
  rw [Int.tmod_eq_emod_of_nonneg hx]
  exact ⟨Int.emod_nonneg _ (by omega), Int.emod_lt_of_pos _ (by omega)⟩
theorem tdiv_range (x n : Int) (hx : 0 ≤ x) (hn : 1 ≤ n) : 0 ≤ Int.tdiv x n ∧ Int.tdiv x n ≤ x := by
  rw [Int.tdiv_eq_ediv_of_nonneg hx]
  exact ⟨Int.ediv_nonneg hx (by omega), Int.ediv_le_self _ hx⟩
theorem pick_ev (s : List Int) (hs : Bytes s) (p n : Int) (hp : 0 ≤ p) (hp1 : p ≤ 1099511627776) (hn : 1 ≤ n) :
    ∃ r, (∀ k, 2 ≤ k → spec_l6Rd_pick.f k s p n = some (r, p + 1)) ∧ 0 ≤ r ∧ r < n := by
  have e1 : wrap64 (p + 1) = p + 1 := w64 (by omega) (by omega)
  have e2 : wrap64 (p + 1 - 1) = p := by rw [w64 (by omega) (by omega)]; omega
  by_cases h0 : (s.length : Int) = 0
  · refine ⟨0, fun k hk => ?_, by omega, by omega⟩
    obtain ⟨k, rfl⟩ : ∃ m, k = m + 1 := ⟨k - 1, by omega⟩
    simp only [spec_l6Rd_pick.f]
    rw [if_neg (by omega), e1, show ((s.length : Int) == 0) = true from beq_iff_eq.2 h0]
    simp only [spec_l6Rd_pick.j0, if_true]
  have hl : 0 < s.length := by omega
  have hl2 := hs.1
  have hb : ((s.length : Int) == 0) = false := by simpa using h0
  by_cases hlt : p < (s.length : Int)
  · have hr := rd_byte hs p
    have hq := tmod_range (rd s p) n hr.1 hn
    refine ⟨_, fun k hk => ?_, hq.1, hq.2⟩
    obtain ⟨k, rfl⟩ : ∃ m, k = m + 1 := ⟨k - 1, by omega⟩
    simp only [spec_l6Rd_pick.f]
    rw [if_neg (by omega), e1, hb]
    simp only [spec_l6Rd_pick.j0, e2]
    rw [if_neg (by simp), if_pos hlt, if_pos hp, if_neg (by omega), w64 (by omega) (by omega)]
  · have m1 := tmod_range p (s.length : Int) hp (by omega)
    have e3 : wrap64 (p * 7) = p * 7 := w64 (by omega) (by omega)
    have e4 : wrap64 (p * 7 + 3) = p * 7 + 3 := w64 (by omega) (by omega)
    have m2 := tmod_range (p * 7 + 3) (s.length : Int) (by omega) (by omega)
    have d1 := tdiv_range p (s.length : Int) hp (by omega)
    have r1 := rd_byte hs (Int.tmod p (s.length : Int))
    have r2 := rd_byte hs (Int.tmod (p * 7 + 3) (s.length : Int))
    generalize ha : rd s (Int.tmod p (s.length : Int)) = a at *
    generalize hc : rd s (Int.tmod (p * 7 + 3) (s.length : Int)) = c at *
    generalize hd : Int.tdiv p (s.length : Int) = d at *
    have e5 : wrap64 (wrap64 (wrap64 (wrap64 (wrap64 a * 131) + wrap64 (wrap64 c * 1117)) + wrap64 (p * 29)) + wrap64 (wrap64 d * 53)) = a * 131 + c * 1117 + p * 29 + d * 53 := by
      rw [w64 (x := a) (by omega) (by omega), w64 (x := c) (by omega) (by omega), w64 (x := d) (by omega) (by omega), w64 (x := a * 131) (by omega) (by omega), w64 (x := c * 1117) (by omega) (by omega), w64 (x := d * 53) (by omega) (by omega), w64 (x := p * 29) (by omega) (by omega), w64 (x := a * 131 + c * 1117) (by omega) (by omega), w64 (x := a * 131 + c * 1117 + p * 29) (by omega) (by omega), w64 (by omega) (by omega)]
    generalize hx : a * 131 + c * 1117 + p * 29 + d * 53 = x at *
    have d2 := tdiv_range x 64 (by omega) (by omega)
    have e6 : wrap64 (Int.tdiv x 64) = Int.tdiv x 64 := w64 (by omega) (by omega)
    have hxor := xor_nonneg' x (Int.tdiv x 64) (by omega) (by omega) d2.1 (by omega)
    have hq := tmod_range (Go.bits .xor .i64 x (Int.tdiv x 64)) n hxor hn
    refine ⟨_, fun k hk => ?_, hq.1, hq.2⟩
    obtain ⟨k, rfl⟩ : ∃ m, k = m + 1 := ⟨k - 1, by omega⟩
    simp only [spec_l6Rd_pick.f]
    rw [if_neg (by omega), e1, hb]
    simp only [spec_l6Rd_pick.j0, e2, e3, e4, ha, hc, hd, e5, e6]
    rw [if_neg (by simp), if_neg hlt, if_neg h0, if_pos m1.1, if_pos m1.2, if_pos m2.1, if_pos m2.2, if_neg (by omega)]
theorem open_ev (l : List Int) (h : ∀ x ∈ l, (Lit.int .u8 x).wf = true) : ∃ s, spec_l6Open.f l = some (s, 0) ∧ Bytes s := by
  have hb : ∀ x ∈ l, 0 ≤ x ∧ x ≤ 255 := fun x hx => bounds_u8 (h x hx)
  unfold spec_l6Open.f
  by_cases hl : (l.length : Int) > 2000
  · rw [if_pos hl, if_pos (by omega)]
    exact ⟨_, rfl, by rw [List.length_take]; omega, fun x hx => hb x (List.mem_of_mem_take hx)⟩
  · rw [if_neg hl]
    exact ⟨_, rfl, by omega, hb⟩
def Dph : Nat → List S30 → Prop
  | 0, l => l = []
  | n + 1, l => ∀ x ∈ l, Dph n x.f0
theorem dph_nil (n : Nat) : Dph n [] := by cases n <;> simp [Dph]
theorem type_ev (s : List Int) (hs : Bytes s) : ∀ (d : Nat), d ≤ 1000 → ∀ (p : Int), 0 ≤ p → p + 2 ^ d ≤ 1099511627776 →
    ∃ r q, (∀ k, 3 * d + 4 ≤ k → spec_l71Type.f k s p d = some (r, q)) ∧ r.length ≤ 2 ∧ p ≤ q ∧ q + 1 ≤ p + 2 ^ d ∧ Dph d r := by
  intro d
  induction d with
  | zero =>
    intro hd p hp hp1
    refine ⟨[], p, fun k hk => ?_, by simp, by omega, by simp, dph_nil _⟩
    obtain ⟨k, rfl⟩ : ∃ m, k = m + 2 := ⟨k - 2, by omega⟩
    simp only [spec_l71Type.f]
    rw [if_pos (by omega)]
    simp only [spec_l71Type.j0, if_true]
  | succ d ih =>
    intro hd p hp hp1
    have hpow : (2 : Int) ^ (d + 1) = 2 ^ d + 2 ^ d := by rw [Int.pow_succ]; omega
    have hpos : (1 : Int) ≤ 2 ^ d := by have := Int.pow_pos (n := 2) (m := d) (by decide); omega
    rw [hpow] at hp1 ⊢
    generalize (2 : Int) ^ d = e at *
    by_cases h2 : (((d + 1 : Nat) : Int)) < 2
    · refine ⟨[], p, fun k hk => ?_, by simp, by omega, by omega, dph_nil _⟩
      obtain ⟨k, rfl⟩ : ∃ m, k = m + 2 := ⟨k - 2, by omega⟩
      simp only [spec_l71Type.f]
      rw [if_pos h2]
      simp only [spec_l71Type.j0, if_true]
    · obtain ⟨r, hr, hr0, hr1⟩ := pick_ev s hs p 3 hp (by omega) (by omega)
      by_cases hrp : r > 0
      · refine ⟨[], p + 1, fun k hk => ?_, by simp, by omega, by omega, dph_nil _⟩
        obtain ⟨k, rfl⟩ : ∃ m, k = m + 2 := ⟨k - 2, by omega⟩
        simp only [spec_l71Type.f]
        rw [if_neg h2, hr (k + 1) (by omega)]
        simp only [Option.bind_some, spec_l71Type.j0]
        rw [if_pos (by simpa using hrp)]
      · obtain ⟨a, q1, h1, _, hq1, hq1', da⟩ := ih (by omega) (p + 1) (by omega) (by omega)
        obtain ⟨b, q2, h3, _, hq2, hq2', db⟩ := ih (by omega) q1 (by omega) (by omega)
        have ew : wrap64 (((d + 1 : Nat) : Int) - 1) = (d : Int) := by
          rw [w64 (by omega) (by omega)]; omega
        refine ⟨[⟨a⟩, ⟨b⟩], q2, fun k hk => ?_, by simp, by omega, by omega, ?_⟩
        rotate_left
        · intro x hx
          rcases List.mem_cons.1 hx with rfl | hx
          · exact da
          · rw [List.mem_singleton.1 hx]; exact db
        · obtain ⟨k, rfl⟩ : ∃ m, k = m + 2 := ⟨k - 2, by omega⟩
          simp only [spec_l71Type.f]
          rw [if_neg h2, hr (k + 1) (by omega)]
          simp only [Option.bind_some, spec_l71Type.j0]
          rw [if_neg (by simpa using hrp), ew, h1 k (by omega)]
          simp only [Option.bind_some]
          rw [h3 k (by omega)]
          simp only [Option.bind_some]
end Go.Proofs.Ytjhbhihfifhljaa.Draw
end
section
namespace Go.Proofs.Ytjhbhihfifhljaa.PA
open Go.RowKit Go.Proofs.YtjhbhihfifhljaaW.PrintWords Go.Proofs.YtjhbhihfifhljaaW.PrintLast Go.Proofs.YtjhbhihfifhljaaW.PrintMore
attribute [local go_sem] max2_int min2_int max_two min_two max_three min_three max_four min_four
set_option linter.unusedVariables false
set_option linter.unusedSimpArgs false
def spec_l71Deep.l0 : Nat → Int → List Int → Int → List (S30) → Option ((List (S30)) × Int)
 | 0, _, _, _, _ => none
 | k + 1, x4, x1000, x1001, x203000 => if x4 < 5 then (spec_l71Deep.l0 k (wrap64 (x4 + 1)) x1000 x1001 (([(⟨x203000⟩ : S30), (⟨([] : List (S30))⟩ : S30)] : List (S30)))) else (some (x203000, x1001))
def spec_l71Deep.f (k : Nat) (s0_0 : List Int) (s0_1 : Int) : Option ((List (S30)) × Int) := (spec_l6Rd_pick.f k s0_0 s0_1 4).bind fun bt196 => ((spec_l71Type.f k s0_0 bt196.2 (wrap64 (1 + bt196.1))).bind fun bt198 => ((spec_l6Rd_pick.f k s0_0 bt198.2 12).bind fun bt203 => (if bt203.1 = 0 then (spec_l71Deep.l0 k 0 s0_0 bt203.2 bt198.1) else (if bt203.1 = 1 then (if bt198.1.length < 5864062014805 then (some ((bt198.1 ++ [(⟨([] : List (S30))⟩ : S30)]), bt203.2)) else (none)) else (some (bt198.1, bt203.2))))))
theorem spec_l71Deep.mono_l : ∀ k, (∀ y0 y1 y2 y3, LeO (spec_l71Deep.l0 k y0 y1 y2 y3) (spec_l71Deep.l0 (k + 1) y0 y1 y2 y3))
 | 0 => fun _ _ _ _ r h => by simp [spec_l71Deep.l0] at h
 | k + 1 => by
  have ih0 := spec_l71Deep.mono_l k
  ·intro y0 y1 y2 y3
   unfold spec_l71Deep.l0
   repeat' first
   | (with_reducible exact ih0 _ _ _ _)
   | (with_reducible exact spec_l6Rd_pick.mono _ _ _ _)
   | (with_reducible exact spec_l71Type.mono _ _ _ _)
   | (with_reducible exact LeO.refl _)
   | (with_reducible exact LeO.none _)
   | (with_reducible refine LeO.ite ?_ ?_)
   | (with_reducible refine LeO.bind ?_ (fun _ => ?_))
   | exact ih0 _ _ _ _
   | exact spec_l6Rd_pick.mono _ _ _ _
   | exact spec_l71Type.mono _ _ _ _
   | exact LeO.none _
   | refine LeO.ite ?_ ?_
   | refine LeO.bind ?_ (fun _ => ?_)
theorem spec_l71Deep.mono : ∀ a0 a1 k, LeO (spec_l71Deep.f k a0 a1) (spec_l71Deep.f (k + 1) a0 a1) := by
 intro a0 a1 k
 have ih0 := spec_l71Deep.mono_l k
 unfold spec_l71Deep.f
 repeat' first
   | (with_reducible exact ih0 _ _ _ _)
   | (with_reducible exact spec_l6Rd_pick.mono _ _ _ _)
   | (with_reducible exact spec_l71Type.mono _ _ _ _)
   | (with_reducible exact LeO.refl _)
   | (with_reducible exact LeO.none _)
   | (with_reducible refine LeO.ite ?_ ?_)
   | (with_reducible refine LeO.bind ?_ (fun _ => ?_))
   | exact ih0 _ _ _ _
   | exact spec_l6Rd_pick.mono _ _ _ _
   | exact spec_l71Type.mono _ _ _ _
   | exact LeO.none _
   | refine LeO.ite ?_ ?_
   | refine LeO.bind ?_ (fun _ => ?_)
set_option maxHeartbeats 8000000 in
set_option maxRecDepth 100000 in
theorem spec_l71Deep.calls (k : Nat) (g : Nat) (s0_0 : List Int) (s0_1 : Int) (r1 : List (S30)) (r2 : Int) (w0 w : World) (hI : IsS95 w0 w g s0_0 s0_1) (hB : Below w0.heap.size w0 w) (h : spec_l71Deep.f k s0_0 s0_1 = some (r1, r2)) :
  Calls Try.prog 51 #[.pointer (some ⟨g, 0, none⟩)] w fun e w' => ∃ v0_ : Value, e = .returned (.agg #[v0_]) ∧ Kd.N k30 30 w' w.heap.size (fun k_ => (w.heap.size ≤ k_)) v0_ r1 ∧ IsS95 w0 w' g s0_0 r2 ∧ Below w0.heap.size w0 w' ∧ KeepBut w w' g none := by
 have hu30 := Try.underlying30
 have HI0 := Aside0.mk hI
 have HK := Aside0.mk (KeepBut.refl w g none)
 have HL := Aside0.mk hB.size
 clear hI
 have HW0 := Aside0.mk hB.size
 have HB := Aside0.mk hB
 clear hB
 have H : ((spec_l6Rd_pick.f k s0_0 s0_1 4).bind fun bt196 => ((spec_l71Type.f k s0_0 bt196.2 (wrap64 (1 + bt196.1))).bind fun bt198 => ((spec_l6Rd_pick.f k s0_0 bt198.2 12).bind fun bt203 => (if bt203.1 = 0 then (spec_l71Deep.l0 k 0 s0_0 bt203.2 bt198.1) else (if bt203.1 = 1 then (if bt198.1.length < 5864062014805 then (some ((bt198.1 ++ [(⟨([] : List (S30))⟩ : S30)]), bt203.2)) else (none)) else (some (bt198.1, bt203.2))))))) = some (r1, r2) := h
 clear h
 obtain ⟨⟨t196, t197⟩, A20, H⟩ := ob H
 have A2 := Aside0.mk A20
 clear A20
 obtain ⟨⟨t198, t201⟩, A30, H⟩ := ob H
 have A3 := Aside0.mk A30
 clear A30
 obtain ⟨⟨t203, t204⟩, A40, H⟩ := ob H
 have A4 := Aside0.mk A40
 clear A40
 by_cases c5 : t203 = 0
 ·rw [if_pos c5] at H
  have c5b0 : (t203 == 0) = true := beq_iff_eq.mpr c5
  have c5b1 : (t203 != 0) = false := bne_eq_false_iff_eq.mpr c5
  clear c5
  have H' := Aside0.mk H
  clear H
  go_enter Try.func51, Try.ntmps51
  go_wp2_with (first | ((with_reducible refine gate_dst (N := 2) rfl ?_); refine zbx 2 #[.slice none 0 0] 30 ?_; intro gb195 hg w6 hbox hb; replace HB := Aside0.mk (below_step (y33 HB.out HI0.out) hb); have BK195 := Aside0.mk hbox; have GW195 := Aside0.mk ((by rw [hg]; exact (keep_size (w := w) (g := g) (row := none) (y25 HK.out)) : w.heap.size ≤ gb195)); have GE195 := Aside0.mk ((Nat.le_trans HW0.out (by rw [hg]; exact (keep_size (w := w) (g := g) (row := none) (y25 HK.out)) : w.heap.size ≤ gb195) : w0.heap.size ≤ gb195)); replace HK := Aside0.mk (KeepBut.trans (y25 HK.out) (KeepBut.of_below hb g none) (.inl rfl)); have NB0_195 := Aside0.mk ((by rw [hg]; exact Nat.ne_of_lt (IsS95.lt (show IsS95 w0 _ g s0_0 s0_1 from by repeat (first | (with_reducible first | exact HI0.out | apply IsS95.alloc | apply IsS95.drewN | apply IsS95.drew | apply IsS95.set_1) | exact HI0.out))) : g ≠ gb195)); have NB195_0 := Aside0.mk ((by rw [hg]; exact Nat.ne_of_gt (IsS95.lt (show IsS95 w0 _ g s0_0 s0_1 from by repeat (first | (with_reducible first | exact HI0.out | apply IsS95.alloc | apply IsS95.drewN | apply IsS95.drew | apply IsS95.set_1) | exact HI0.out))) : gb195 ≠ g)); replace HI0 := Aside0.mk (IsS95.below (y35 HI0.out) hb); clear hb hbox hg) | ((with_reducible refine gate_callee (f := 58) rfl ?_); refine goesL_ (some 7) rfl rfl Try.func58 (by kernel_rfl) rfl #[.pointer (some ⟨g, 0, none⟩), .int .i64 4] rfl y4 ?_; (with_reducible refine (spec_l6Rd_pick.calls k g s0_0 s0_1 4 t196 t197 w0 _ ?side1 ?side2 A2.out).mono ?_); (case side1 => exact y24 HI0.out NB0_195.out); (case side2 => exact y23 HB.out HI0.out GE195.out); rintro e w7 ⟨rfl, hi, hb, hk⟩; refine ⟨_, rfl, ?_⟩; replace BK195 := Aside0.mk (KeepBut.blk hk (g' := gb195) (o := .cells #[.slice none 0 0] 30 (0, 0)) (y0 BK195.out) NB195_0.out (by simp)); replace HK := Aside0.mk (KeepBut.trans (y18 HK.out GW195.out) hk (.inl rfl)); replace HB := Aside0.mk (hb); replace HI0 := Aside0.mk (hi); (try clear hb); (try clear hb2); (try clear hk); (try clear hi)) | ((with_reducible refine gate_callee (f := 67) rfl ?_); refine goesL_ (some 9) rfl rfl Try.func67 (by kernel_rfl) rfl #[.pointer (some ⟨g, 0, none⟩), .int .i64 (wrap64 (1 + t196))] rfl y4 ?_; (with_reducible refine (spec_l71Type.calls k g s0_0 t197 (wrap64 (1 + t196)) t198 t201 w0 _ ?side1 ?side2 A3.out).mono ?_); (case side1 => exact y24 HI0.out NB0_195.out); (case side2 => exact y23 HB.out HI0.out GE195.out); rintro e w8 ⟨v199, rfl, ho0, hi, hb, hk⟩; refine ⟨_, rfl, ?_⟩; have HO200 := Aside0.mk (Kd.N_lower (Kd.N_mono (ok' := fun k_ => (w.heap.size ≤ k_) ∧ k_ ≠ gb195 ∧ k_ ≠ g) ho0 (fun k_ hk_ => ⟨(Nat.le_trans (keep_size (w := w) (g := g) (row := none) (y18 HK.out GW195.out)) hk_), (Kd.freshB (g := gb195) (o := .cells #[.slice none 0 0] 30 (0, 0)) (y0 BK195.out) k_ hk_), (IsS95.fresh (y24 HI0.out NB0_195.out) k_ hk_)⟩)) (keep_size (w := w) (g := g) (row := none) (y18 HK.out GW195.out))); replace BK195 := Aside0.mk (KeepBut.blk hk (g' := gb195) (o := .cells #[.slice none 0 0] 30 (0, 0)) (y0 BK195.out) NB195_0.out (by simp)); replace HK := Aside0.mk (KeepBut.trans (y18 HK.out GW195.out) hk (.inl rfl)); replace HB := Aside0.mk (hb); replace HI0 := Aside0.mk (hi); (try clear hb); (try clear hb2); (try clear hk); (try clear hi); (try clear ho0)) | ((with_reducible refine gate_dst (N := 3) rfl ?_); refine zbx 3 #[.slice none 0 0] 30 ?_; intro gb202 hg w9 hbox hb; replace HO200 := Aside0.mk (Kd.N_below (Kd.N_elderB (y9 HO200.out) gb202 (Nat.le_of_eq hg.symm)) hb); replace HB := Aside0.mk (below_step (y23 HB.out HI0.out GE195.out) hb); have BK202 := Aside0.mk hbox; have GW202 := Aside0.mk ((by rw [hg]; exact (keep_size (w := w) (g := g) (row := none) (y18 HK.out GW195.out)) : w.heap.size ≤ gb202)); have GE202 := Aside0.mk ((Nat.le_trans HW0.out (by rw [hg]; exact (keep_size (w := w) (g := g) (row := none) (y18 HK.out GW195.out)) : w.heap.size ≤ gb202) : w0.heap.size ≤ gb202)); replace HK := Aside0.mk (KeepBut.trans (y18 HK.out GW195.out) (KeepBut.of_below hb g none) (.inl rfl)); have NB195_202 := zltn hg BK195; have NB202_195 := zgtn hg BK195; replace BK195 := zbb BK195 hb; have NB0_202 := Aside0.mk ((by rw [hg]; exact Nat.ne_of_lt (IsS95.lt (show IsS95 w0 _ g s0_0 t201 from by repeat (first | (with_reducible first | exact HI0.out | apply IsS95.alloc | apply IsS95.drewN | apply IsS95.drew | apply IsS95.set_1 | refine IsS95.far ?_ NB0_195.out _) | exact HI0.out))) : g ≠ gb202)); have NB202_0 := Aside0.mk ((by rw [hg]; exact Nat.ne_of_gt (IsS95.lt (show IsS95 w0 _ g s0_0 t201 from by repeat (first | (with_reducible first | exact HI0.out | apply IsS95.alloc | apply IsS95.drewN | apply IsS95.drew | apply IsS95.set_1 | refine IsS95.far ?_ NB0_195.out _) | exact HI0.out))) : gb202 ≠ g)); replace HI0 := Aside0.mk (IsS95.below (y24 HI0.out NB0_195.out) hb); clear hb hbox hg; obtain ⟨Ao10, co10, eo10⟩ := Kd.N_slice HO200.out; subst eo10; have hnb11 := NB202_195.out; have hnc11 := NB195_202.out; have hnb12 := NB202_0.out; have hnc12 := NB0_202.out; have hcz13_0 := zh BK202; have hfz13_0 := zfr BK202 0) | ((with_reducible refine gate_callee (f := 58) rfl ?_); refine goesL_ (some 11) rfl rfl Try.func58 (by kernel_rfl) rfl #[.pointer (some ⟨g, 0, none⟩), .int .i64 12] rfl y4 ?_; (with_reducible refine (spec_l6Rd_pick.calls k g s0_0 t201 12 t203 t204 w0 _ ?side1 ?side2 A4.out).mono ?_); (case side1 => exact y15 HI0.out NB0_195.out NB0_202.out); (case side2 => exact y12 HB.out HI0.out GE195.out GE202.out); rintro e w14 ⟨rfl, hi, hb, hk⟩; refine ⟨_, rfl, ?_⟩; replace BK195 := Aside0.mk (KeepBut.blk hk (g' := gb195) (o := .cells #[.slice none 0 0] 30 (0, 0)) (y21 NB195_202.out BK195.out) NB195_0.out (by simp)); replace HO200 := Aside0.mk (Kd.N_mono (Kd.N_keep (Kd.N_mono (ok := fun k_ => ((((w.heap.size ≤ k_)) ∧ (k_ ≠ gb195 ∧ k_ ≠ g)) ∧ k_ ≠ gb202)) (by (with_reducible repeat (first | apply Kd.N_alloc | apply Kd.N_drewN | apply Kd.N_drew)); exact (Kd.N_mono (Kd.N_far (p := ⟨gb202, 0, none⟩) (Kd.N_mono HO200.out (fun k_ hk => (⟨hk, hk.2⟩ : _ ∧ k_ ≠ gb202))) (fun _ hk => hk.2) (.slice Ao10 t198.length co10)) (fun _ h_ => h_.1))) (fun k_ hk_ => (⟨hk_, hk_.1.2.2⟩ : _ ∧ k_ ≠ g))) hk (fun _ h => h.2)) (fun _ h => h.1)); replace BK202 := Aside0.mk (KeepBut.blk hk (g' := gb202) (o := .cells #[.slice Ao10 t198.length co10] 30 (0, 0)) (by (with_reducible repeat (first | refine blk_drewN ?_ _ | refine blk_drew ?_ | refine blk_alloc ?_ _)); apply blk_put (i := 0); (case h => exact y0 BK202.out); (case e => rfl)) NB202_0.out (by simp)); replace HK := Aside0.mk (KeepBut.trans (y11 HK.out GW195.out GW202.out) hk (.inl rfl)); replace HB := Aside0.mk (hb); replace HI0 := Aside0.mk (hi); (try clear hb); (try clear hb2); (try clear hk); (try clear hi)))
  go_loopg [4] k (fun kq v4 w' => ∃ (x4_1 : Int) (x203000_1 : List (S30)) (u203000 : Value), v4 = .int .i64 x4_1 ∧ Aside0 (spec_l71Deep.l0 kq x4_1 s0_0 t204 x203000_1 = some (r1, r2)) ∧ Aside0 (kq ≤ k) ∧ Aside0 (Kd.N k30 30 w' w.heap.size (fun k_ => (w.heap.size ≤ k_) ∧ k_ ≠ gb195 ∧ k_ ≠ gb202 ∧ k_ ≠ g) u203000 x203000_1) ∧ Aside0 (w'.heap[gb195]? = some (.cells #[(.slice none 0 0)] 30 (0, 0))) ∧ Aside0 (w'.heap[gb202]? = some (.cells #[u203000] 30 (0, 0))) ∧ Aside0 (IsS95 w0 w' g s0_0 t204) ∧ Aside0 (KeepBut w w' g none) ∧ Aside0 (Below w0.heap.size w0 w'))
  case atStart => exact ⟨(0), (t198), (.slice Ao10 t198.length co10), y26, H', ⟨Nat.le_refl _⟩, ⟨(y78 HO200.out)⟩, ⟨(y0 BK195.out)⟩, ⟨(y0 BK202.out)⟩, ⟨(y15 HI0.out NB0_195.out NB0_202.out)⟩, ⟨(y11 HK.out GW195.out GW202.out)⟩, ⟨(y12 HB.out HI0.out GE195.out GE202.out)⟩⟩
  case round =>
   clear H'
   try clear c1
   try clear p2
   try clear c5
   try clear c5b0
   try clear c5b1
   try clear c6
   try clear p6
   try clear c11
   try clear c12
   try clear hcz13_0
   try clear hfz13_0
   obtain ⟨x4_1, x203000_1, u203000, rfl, HA, HK1, HO_203000, BK195, BK202, HI0, HK, HB⟩ := hrel
   cases gk with
   | zero => exact absurd HA.out (by simp [spec_l71Deep.l0])
   | succ k1 =>
    have H := HA.out
    clear HA
    simp only [spec_l71Deep.l0] at H
    by_cases c15 : x4_1 < 5
    ·rw [if_pos c15] at H
     have c15b0 : decide (x4_1 < 5) = true := decide_eq_true c15
     clear c15
     obtain ⟨y205, hy205⟩ : ∃ y_ : List (S30), y_ = (([(⟨x203000_1⟩ : S30), (⟨([] : List (S30))⟩ : S30)] : List (S30))) := ⟨_, rfl⟩
     replace H : (spec_l71Deep.l0 k1 (wrap64 (x4_1 + 1)) s0_0 t204 y205) = some (r1, r2) := by first | (rw [hy205]; with_reducible exact H) | (have H2_ := (Option.bind_some _ _).symm.trans H; rw [hy205]; with_reducible exact H2_) | (have H2_ := (Option.bind_some _ _).symm.trans H; with_reducible exact H2_) | with_reducible exact H | (rw [hy205]; exact H) | exact H
     have Ny205 := Aside0.mk hy205
     clear hy205
     have H' := Aside0.mk H
     clear H
     have hnb16 := NB202_195.out
     have hnc16 := NB195_202.out
     have hnb17 := NB202_0.out
     have hnc17 := NB0_202.out
     have hcz18_0 := zh BK202
     have hfz18_0 := zfr BK202 0
     obtain ⟨Ao19, co19, eo19⟩ := Kd.N_slice HO_203000.out
     subst eo19
     go_wp2_with (first | ((with_reducible refine gate_dst (N := 20) rfl ?_); refine Kd.N_lit k30 _ 30 ?hg (N' := 20) ?hd (xs := ([(⟨x203000_1⟩ : S30), (⟨([] : List (S30))⟩ : S30)] : List (S30))) (inner := [.slice Ao19 x203000_1.length co19, .slice none 0 0]) (ok := (fun k_ => (w.heap.size ≤ k_) ∧ k_ ≠ gb195 ∧ k_ ≠ gb202 ∧ k_ ≠ g)) (okp := (fun k_ => (w.heap.size ≤ k_) ∧ k_ ≠ gb195 ∧ k_ ≠ gb202 ∧ k_ ≠ g)) ?hr ?hp (fun _ hk => hk) ((show ∀ k_, wr.heap.size ≤ k_ → (fun k_ => (w.heap.size ≤ k_) ∧ k_ ≠ gb195 ∧ k_ ≠ gb202 ∧ k_ ≠ g) k_ from fun k_ hk => ⟨(Nat.le_trans (keep_size (w := w) (g := g) (row := none) (y11 HK.out GW195.out GW202.out)) hk), Kd.freshB (g := gb195) (o := .cells #[.slice none 0 0] 30 (0, 0)) (y0 BK195.out) k_ hk, Kd.freshB (g := gb202) (o := .cells #[.slice Ao19 x203000_1.length co19] 30 (0, 0)) (y0 BK202.out) k_ hk, IsS95.fresh (y15 HI0.out NB0_195.out NB0_202.out) k_ hk⟩) _ (Nat.le_refl _)) (Below.refl _ _) (Nat.le_refl _) (by simp) ?_; (case hd => rfl); (case hg => rfl); (case hr => first | (go_simp; done) | (go_simp; rfl)); (case hp => exact (Reps.one (show Kd.FK k30 _ _ (⟨x203000_1⟩ : S30) [.slice Ao19 x203000_1.length co19] from (k30_mkF _ _ (⟨x203000_1⟩ : S30) (Kd.N_reads' (Kd.N_mono (ok' := (fun k_ => (w.heap.size ≤ k_) ∧ k_ ≠ gb195 ∧ k_ ≠ gb202 ∧ k_ ≠ g)) (HO_203000.out) (fun k_ hk => ⟨hk.1, ⟨hk.2.1, ⟨hk.2.2.1, hk.2.2.2⟩⟩⟩))).2.1 (Kd.N_F (Kd.N_mono (ok' := (fun k_ => (w.heap.size ≤ k_) ∧ k_ ≠ gb195 ∧ k_ ≠ gb202 ∧ k_ ≠ g)) (HO_203000.out) (fun k_ hk => ⟨hk.1, ⟨hk.2.1, ⟨hk.2.2.1, hk.2.2.2⟩⟩⟩))))) (Reps.one (show Kd.FK k30 _ _ (⟨([] : List (S30))⟩ : S30) [.slice none 0 0] from (k30_mkF _ _ (⟨([] : List (S30))⟩ : S30) (Nat.le_refl _) (Kd.F_nil _ _ _))) (Reps.none _ _)))); intro v206 w20 ho21 hb hg_ hnew_; clear hg_ hnew_; (first | rw [← Ny205.out] at ho21 | (simp only [Int.reduceToNat] at ho21; rw [← Ny205.out] at ho21)); have HO207 := Aside0.mk (Kd.N_lower ho21 (keep_size (w := w) (g := g) (row := none) (y11 HK.out GW195.out GW202.out))); replace BK195 := zbb BK195 hb; replace BK202 := zbb BK202 hb; replace HK := Aside0.mk (KeepBut.trans (y11 HK.out GW195.out GW202.out) (KeepBut.of_below hb g none) (.inl rfl)); replace HB := Aside0.mk (below_step (y12 HB.out HI0.out GE195.out GE202.out) hb); replace HI0 := Aside0.mk (IsS95.below (y15 HI0.out NB0_195.out NB0_202.out) hb); clear HO_203000; clear hb ho21; obtain ⟨Ao22, co22, eo22⟩ := Kd.N_slice HO207.out; subst eo22; have hcz23_0 := zh BK202; have hfz23_0 := zfr BK202 0))
     go_roundg k1
     case measure => have := HK1.out; omega
     case rel => exact ⟨(wrap64 (x4_1 + 1)), (y205), (.slice Ao22 y205.length co22), y26, H', ⟨(y46 HK1.out)⟩, ⟨(by (with_reducible repeat (first | apply Kd.N_alloc | apply Kd.N_drewN | apply Kd.N_drew)); exact Kd.N_mono (Kd.N_far (p := ⟨gb202, 0, none⟩) (Kd.N_mono HO207.out (fun k_ hk => (⟨hk, hk.2.2.1⟩ : _ ∧ k_ ≠ gb202))) (fun _ hk => hk.2) (.slice Ao22 y205.length co22)) (fun _ hk => ⟨hk.1.1, ⟨hk.1.2.1, ⟨hk.1.2.2.1, hk.1.2.2.2⟩⟩⟩))⟩, ⟨(y21 NB195_202.out BK195.out)⟩, ⟨(by (with_reducible repeat (first | refine blk_drewN ?_ _ | refine blk_drew ?_ | refine blk_alloc ?_ _)); refine blk_put (cs := #[.slice Ao19 x203000_1.length co19]) ?_ 0 _ rfl; (with_reducible repeat (first | refine blk_drewN ?_ _ | refine blk_drew ?_ | refine blk_alloc ?_ _)); exact BK202.out)⟩, ⟨(y15 HI0.out NB0_195.out NB0_202.out)⟩, ⟨(y11 HK.out GW195.out GW202.out)⟩, ⟨(y12 HB.out HI0.out GE195.out GE202.out)⟩⟩
    ·rw [if_neg c15] at H
     have c15b0 : decide (x4_1 < 5) = false := decide_eq_false c15
     clear c15
     simp only [Option.some.injEq, Prod.mk.injEq] at H
     obtain ⟨rfl, rfl⟩ := H
     have hnb24 := NB202_195.out
     have hnc24 := NB195_202.out
     have hnb25 := NB202_0.out
     have hnc25 := NB0_202.out
     have hcz26_0 := zh BK202
     have hfz26_0 := zfr BK202 0
     obtain ⟨Ao27, co27, eo27⟩ := Kd.N_slice HO_203000.out
     subst eo27
     have hnb28 := NB195_0.out
     have hnc28 := NB0_195.out
     have hcz29_0 := zh BK195
     have hfz29_0 := zfr BK195 0
     go_wp2
     refine bodyPost_ret (results_cell_row rfl _ _ gb195 30 #[.slice Ao27 x203000_1.length co27] (0, 0) _ rfl (by (with_reducible repeat (first | refine blk_drewN ?_ _ | refine blk_drew ?_ | refine blk_alloc ?_ _)); apply blk_put (i := 0); (case h => exact y0 BK195.out); (case e => rfl)) Try.underlying30 rfl (by kernel_rfl)) rfl ?_
     exact ⟨_, y14, (by (with_reducible repeat (first | apply Kd.N_alloc | apply Kd.N_drewN | apply Kd.N_drew)); exact Kd.N_mono (Kd.N_far (p := ⟨gb195, 0, none⟩) (Kd.N_mono HO_203000.out (fun k_ hk => (⟨hk, hk.2.1⟩ : _ ∧ k_ ≠ gb195))) (fun _ hk => hk.2) (.slice Ao27 x203000_1.length co27)) (fun _ hk => hk.1.1)), (y15 HI0.out NB0_195.out NB0_202.out), (y12 HB.out HI0.out GE195.out GE202.out), (y11 HK.out GW195.out GW202.out)⟩
 ·rw [if_neg c5] at H
  have c5b0 : (t203 == 0) = false := beq_eq_false_iff_ne.mpr c5
  have c5b1 : (t203 != 0) = true := bne_iff_ne.mpr c5
  by_cases c30 : t203 = 1
  ·rw [if_pos c30] at H
   have c30b0 : (t203 == 1) = true := beq_iff_eq.mpr c30
   have c30b1 : (t203 != 1) = false := bne_eq_false_iff_eq.mpr c30
   clear c30
   by_cases c31 : t198.length < 5864062014805
   ·rw [if_pos c31] at H
    have LMc31 := Aside0.mk c31
    clear c31
    obtain ⟨y208, hy208⟩ : ∃ y_ : List (S30), y_ = (t198 ++ [(⟨([] : List (S30))⟩ : S30)]) := ⟨_, rfl⟩
    replace H : (some (y208, t204)) = some (r1, r2) := by first | (rw [hy208]; with_reducible exact H) | (have H2_ := (Option.bind_some _ _).symm.trans H; rw [hy208]; with_reducible exact H2_) | (have H2_ := (Option.bind_some _ _).symm.trans H; with_reducible exact H2_) | with_reducible exact H | (rw [hy208]; exact H) | exact H
    have Ny208 := Aside0.mk hy208
    clear hy208
    simp only [Option.some.injEq, Prod.mk.injEq] at H
    obtain ⟨rfl, rfl⟩ := H
    go_enter Try.func51, Try.ntmps51
    go_wp2_with (first | ((with_reducible refine gate_dst (N := 2) rfl ?_); refine zbx 2 #[.slice none 0 0] 30 ?_; intro gb195 hg w32 hbox hb; replace HB := Aside0.mk (below_step (y33 HB.out HI0.out) hb); have BK195 := Aside0.mk hbox; have GW195 := Aside0.mk ((by rw [hg]; exact (keep_size (w := w) (g := g) (row := none) (y25 HK.out)) : w.heap.size ≤ gb195)); have GE195 := Aside0.mk ((Nat.le_trans HW0.out (by rw [hg]; exact (keep_size (w := w) (g := g) (row := none) (y25 HK.out)) : w.heap.size ≤ gb195) : w0.heap.size ≤ gb195)); replace HK := Aside0.mk (KeepBut.trans (y25 HK.out) (KeepBut.of_below hb g none) (.inl rfl)); have NB0_195 := Aside0.mk ((by rw [hg]; exact Nat.ne_of_lt (IsS95.lt (show IsS95 w0 _ g s0_0 s0_1 from by repeat (first | (with_reducible first | exact HI0.out | apply IsS95.alloc | apply IsS95.drewN | apply IsS95.drew | apply IsS95.set_1) | exact HI0.out))) : g ≠ gb195)); have NB195_0 := Aside0.mk ((by rw [hg]; exact Nat.ne_of_gt (IsS95.lt (show IsS95 w0 _ g s0_0 s0_1 from by repeat (first | (with_reducible first | exact HI0.out | apply IsS95.alloc | apply IsS95.drewN | apply IsS95.drew | apply IsS95.set_1) | exact HI0.out))) : gb195 ≠ g)); replace HI0 := Aside0.mk (IsS95.below (y35 HI0.out) hb); clear hb hbox hg) | ((with_reducible refine gate_callee (f := 58) rfl ?_); refine goesL_ (some 7) rfl rfl Try.func58 (by kernel_rfl) rfl #[.pointer (some ⟨g, 0, none⟩), .int .i64 4] rfl y4 ?_; (with_reducible refine (spec_l6Rd_pick.calls k g s0_0 s0_1 4 t196 t197 w0 _ ?side1 ?side2 A2.out).mono ?_); (case side1 => exact y24 HI0.out NB0_195.out); (case side2 => exact y23 HB.out HI0.out GE195.out); rintro e w33 ⟨rfl, hi, hb, hk⟩; refine ⟨_, rfl, ?_⟩; replace BK195 := Aside0.mk (KeepBut.blk hk (g' := gb195) (o := .cells #[.slice none 0 0] 30 (0, 0)) (y0 BK195.out) NB195_0.out (by simp)); replace HK := Aside0.mk (KeepBut.trans (y18 HK.out GW195.out) hk (.inl rfl)); replace HB := Aside0.mk (hb); replace HI0 := Aside0.mk (hi); (try clear hb); (try clear hb2); (try clear hk); (try clear hi)) | ((with_reducible refine gate_callee (f := 67) rfl ?_); refine goesL_ (some 9) rfl rfl Try.func67 (by kernel_rfl) rfl #[.pointer (some ⟨g, 0, none⟩), .int .i64 (wrap64 (1 + t196))] rfl y4 ?_; (with_reducible refine (spec_l71Type.calls k g s0_0 t197 (wrap64 (1 + t196)) t198 t201 w0 _ ?side1 ?side2 A3.out).mono ?_); (case side1 => exact y24 HI0.out NB0_195.out); (case side2 => exact y23 HB.out HI0.out GE195.out); rintro e w34 ⟨v199, rfl, ho0, hi, hb, hk⟩; refine ⟨_, rfl, ?_⟩; have HO200 := Aside0.mk (Kd.N_lower (Kd.N_mono (ok' := fun k_ => (w.heap.size ≤ k_) ∧ k_ ≠ gb195 ∧ k_ ≠ g) ho0 (fun k_ hk_ => ⟨(Nat.le_trans (keep_size (w := w) (g := g) (row := none) (y18 HK.out GW195.out)) hk_), (Kd.freshB (g := gb195) (o := .cells #[.slice none 0 0] 30 (0, 0)) (y0 BK195.out) k_ hk_), (IsS95.fresh (y24 HI0.out NB0_195.out) k_ hk_)⟩)) (keep_size (w := w) (g := g) (row := none) (y18 HK.out GW195.out))); replace BK195 := Aside0.mk (KeepBut.blk hk (g' := gb195) (o := .cells #[.slice none 0 0] 30 (0, 0)) (y0 BK195.out) NB195_0.out (by simp)); replace HK := Aside0.mk (KeepBut.trans (y18 HK.out GW195.out) hk (.inl rfl)); replace HB := Aside0.mk (hb); replace HI0 := Aside0.mk (hi); (try clear hb); (try clear hb2); (try clear hk); (try clear hi); (try clear ho0)) | ((with_reducible refine gate_dst (N := 3) rfl ?_); refine zbx 3 #[.slice none 0 0] 30 ?_; intro gb202 hg w35 hbox hb; replace HO200 := Aside0.mk (Kd.N_below (Kd.N_elderB (y9 HO200.out) gb202 (Nat.le_of_eq hg.symm)) hb); replace HB := Aside0.mk (below_step (y23 HB.out HI0.out GE195.out) hb); have BK202 := Aside0.mk hbox; have GW202 := Aside0.mk ((by rw [hg]; exact (keep_size (w := w) (g := g) (row := none) (y18 HK.out GW195.out)) : w.heap.size ≤ gb202)); have GE202 := Aside0.mk ((Nat.le_trans HW0.out (by rw [hg]; exact (keep_size (w := w) (g := g) (row := none) (y18 HK.out GW195.out)) : w.heap.size ≤ gb202) : w0.heap.size ≤ gb202)); replace HK := Aside0.mk (KeepBut.trans (y18 HK.out GW195.out) (KeepBut.of_below hb g none) (.inl rfl)); have NB195_202 := zltn hg BK195; have NB202_195 := zgtn hg BK195; replace BK195 := zbb BK195 hb; have NB0_202 := Aside0.mk ((by rw [hg]; exact Nat.ne_of_lt (IsS95.lt (show IsS95 w0 _ g s0_0 t201 from by repeat (first | (with_reducible first | exact HI0.out | apply IsS95.alloc | apply IsS95.drewN | apply IsS95.drew | apply IsS95.set_1 | refine IsS95.far ?_ NB0_195.out _) | exact HI0.out))) : g ≠ gb202)); have NB202_0 := Aside0.mk ((by rw [hg]; exact Nat.ne_of_gt (IsS95.lt (show IsS95 w0 _ g s0_0 t201 from by repeat (first | (with_reducible first | exact HI0.out | apply IsS95.alloc | apply IsS95.drewN | apply IsS95.drew | apply IsS95.set_1 | refine IsS95.far ?_ NB0_195.out _) | exact HI0.out))) : gb202 ≠ g)); replace HI0 := Aside0.mk (IsS95.below (y24 HI0.out NB0_195.out) hb); clear hb hbox hg; obtain ⟨Ao36, co36, eo36⟩ := Kd.N_slice HO200.out; subst eo36; have hnb37 := NB202_195.out; have hnc37 := NB195_202.out; have hnb38 := NB202_0.out; have hnc38 := NB0_202.out; have hcz39_0 := zh BK202; have hfz39_0 := zfr BK202 0) | ((with_reducible refine gate_callee (f := 58) rfl ?_); refine goesL_ (some 11) rfl rfl Try.func58 (by kernel_rfl) rfl #[.pointer (some ⟨g, 0, none⟩), .int .i64 12] rfl y4 ?_; (with_reducible refine (spec_l6Rd_pick.calls k g s0_0 t201 12 t203 t204 w0 _ ?side1 ?side2 A4.out).mono ?_); (case side1 => exact y15 HI0.out NB0_195.out NB0_202.out); (case side2 => exact y12 HB.out HI0.out GE195.out GE202.out); rintro e w40 ⟨rfl, hi, hb, hk⟩; refine ⟨_, rfl, ?_⟩; replace BK195 := Aside0.mk (KeepBut.blk hk (g' := gb195) (o := .cells #[.slice none 0 0] 30 (0, 0)) (y21 NB195_202.out BK195.out) NB195_0.out (by simp)); replace HO200 := Aside0.mk (Kd.N_mono (Kd.N_keep (Kd.N_mono (ok := fun k_ => ((((w.heap.size ≤ k_)) ∧ (k_ ≠ gb195 ∧ k_ ≠ g)) ∧ k_ ≠ gb202)) (by (with_reducible repeat (first | apply Kd.N_alloc | apply Kd.N_drewN | apply Kd.N_drew)); exact (Kd.N_mono (Kd.N_far (p := ⟨gb202, 0, none⟩) (Kd.N_mono HO200.out (fun k_ hk => (⟨hk, hk.2⟩ : _ ∧ k_ ≠ gb202))) (fun _ hk => hk.2) (.slice Ao36 t198.length co36)) (fun _ h_ => h_.1))) (fun k_ hk_ => (⟨hk_, hk_.1.2.2⟩ : _ ∧ k_ ≠ g))) hk (fun _ h => h.2)) (fun _ h => h.1)); replace BK202 := Aside0.mk (KeepBut.blk hk (g' := gb202) (o := .cells #[.slice Ao36 t198.length co36] 30 (0, 0)) (by (with_reducible repeat (first | refine blk_drewN ?_ _ | refine blk_drew ?_ | refine blk_alloc ?_ _)); apply blk_put (i := 0); (case h => exact y0 BK202.out); (case e => rfl)) NB202_0.out (by simp)); replace HK := Aside0.mk (KeepBut.trans (y11 HK.out GW195.out GW202.out) hk (.inl rfl)); replace HB := Aside0.mk (hb); replace HI0 := Aside0.mk (hi); (try clear hb); (try clear hb2); (try clear hk); (try clear hi); have hcz41_0 := zh BK202; have hfz41_0 := zfr BK202 0) | ((with_reducible refine gate_builtin (b := .append) (xs := #[.tmp 25, .tmp 27]) rfl ?_); at_builtin; refine Kd.N_append k30 w.heap.size rfl (.tmp 25) (.tmp 27) 28 30 (.agg #[(.slice none 0 0)]) 24 rfl Try.underlying28 info30 rfl (by decide) (by omega) (.slice Ao36 t198.length co36) t198 (⟨([] : List (S30))⟩ : S30) [.slice none 0 0] (fun k_ => (w.heap.size ≤ k_) ∧ k_ ≠ gb195 ∧ k_ ≠ gb202 ∧ k_ ≠ g) (fun k_ => ((fun k_ => (w.heap.size ≤ k_) ∧ k_ ≠ gb195 ∧ k_ ≠ gb202 ∧ k_ ≠ g)) k_ ∧ some k_ ≠ (.slice Ao36 t198.length co36 : Value).ownBlock) rfl rfl ?aP (fun _ hk => hk) ?aF ?aO (Below.refl _ _) ?aS ?aL ?_; (case aP => exact (k30_mkF _ _ (⟨([] : List (S30))⟩ : S30) (Nat.le_refl _) (Kd.F_nil _ _ _))); (case aF => exact (fun k_ hk => ⟨(Nat.le_trans (keep_size (w := w) (g := g) (row := none) (y11 HK.out GW195.out GW202.out)) hk), Kd.freshB (g := gb195) (o := .cells #[.slice none 0 0] 30 (0, 0)) (y0 BK195.out) k_ hk, Kd.freshB (g := gb202) (o := .cells #[.slice Ao36 t198.length co36] 30 (0, 0)) (y0 BK202.out) k_ hk, IsS95.fresh (y15 HI0.out NB0_195.out NB0_202.out) k_ hk⟩)); (case aO => exact (y78 HO200.out)); (case aS => exact (keep_size (w := w) (g := g) (row := none) (y11 HK.out GW195.out GW202.out))); (case aL => exact y46 LMc31.out); intro v209 w42 ho hb hg hat; rw [← Ny208.out] at ho; replace BK195 := Aside0.mk (blk_grown (g := gb195) (o := .cells #[.slice none 0 0] 30 (0, 0)) (y0 BK195.out) hg (Kd.N_away HO200.out (fun _ hk => hk.1.2.1))); replace BK202 := Aside0.mk (blk_grown (g := gb202) (o := .cells #[.slice Ao36 t198.length co36] 30 (0, 0)) (y0 BK202.out) hg (Kd.N_away HO200.out (fun _ hk => hk.2))); replace HB := Aside0.mk (below_weaken (y12 HB.out HI0.out GE195.out GE202.out) HL.out hb); replace HI0 := Aside0.mk (IsS95.grown (y15 HI0.out NB0_195.out NB0_202.out) hg (IsS95.own_neN HI0.out HO200.out (by decide))); replace HK := Aside0.mk (KeepBut.trans (y11 HK.out GW195.out GW202.out) (KeepBut.of_grown hg g) (Kd.N_base2 HO200.out)); have HO210 := Aside0.mk (ho); clear HO200; clear ho hb hg hat; obtain ⟨Ao43, co43, eo43⟩ := Kd.N_slice HO210.out; subst eo43; have hcz44_0 := zh BK202; have hfz44_0 := zfr BK202 0; have hnb45 := NB195_0.out; have hnc45 := NB0_195.out; have hcz46_0 := zh BK195; have hfz46_0 := zfr BK195 0))
    refine bodyPost_ret (results_cell_row rfl _ _ gb195 30 #[.slice Ao43 y208.length co43] (0, 0) _ rfl (by (with_reducible repeat (first | refine blk_drewN ?_ _ | refine blk_drew ?_ | refine blk_alloc ?_ _)); refine blk_put (cs := #[.slice none 0 0]) ?_ 0 _ rfl; (with_reducible repeat (first | refine blk_drewN ?_ _ | refine blk_drew ?_ | refine blk_alloc ?_ _)); refine blk_far ?_ NB195_202.out _; (with_reducible repeat (first | refine blk_drewN ?_ _ | refine blk_drew ?_ | refine blk_alloc ?_ _)); exact BK195.out) Try.underlying30 rfl (by kernel_rfl)) rfl ?_
    exact ⟨_, y14, (by (with_reducible repeat (first | apply Kd.N_alloc | apply Kd.N_drewN | apply Kd.N_drew)); exact Kd.N_mono (Kd.N_far (p := ⟨gb195, 0, none⟩) (Kd.N_far (p := ⟨gb202, 0, none⟩) (Kd.N_mono (Kd.N_mono HO210.out (fun k_ hk => (⟨hk, hk.2.2.1⟩ : _ ∧ k_ ≠ gb202))) (fun k_ hk => (⟨hk, hk.1.2.1⟩ : _ ∧ k_ ≠ gb195))) (fun _ hk => hk.1.2) (.slice Ao43 y208.length co43)) (fun _ hk => hk.2) (.slice Ao43 y208.length co43)) (fun _ hk => hk.1.1.1)), (y15 HI0.out NB0_195.out NB0_202.out), (y12 HB.out HI0.out GE195.out GE202.out), (y11 HK.out GW195.out GW202.out)⟩
   ·rw [if_neg c31] at H
    exact absurd H (by simp)
  ·rw [if_neg c30] at H
   have c30b0 : (t203 == 1) = false := beq_eq_false_iff_ne.mpr c30
   have c30b1 : (t203 != 1) = true := bne_iff_ne.mpr c30
   simp only [Option.some.injEq, Prod.mk.injEq] at H
   obtain ⟨rfl, rfl⟩ := H
   go_enter Try.func51, Try.ntmps51
   go_wp2_with (first | ((with_reducible refine gate_dst (N := 2) rfl ?_); refine zbx 2 #[.slice none 0 0] 30 ?_; intro gb195 hg w47 hbox hb; replace HB := Aside0.mk (below_step (y33 HB.out HI0.out) hb); have BK195 := Aside0.mk hbox; have GW195 := Aside0.mk ((by rw [hg]; exact (keep_size (w := w) (g := g) (row := none) (y25 HK.out)) : w.heap.size ≤ gb195)); have GE195 := Aside0.mk ((Nat.le_trans HW0.out (by rw [hg]; exact (keep_size (w := w) (g := g) (row := none) (y25 HK.out)) : w.heap.size ≤ gb195) : w0.heap.size ≤ gb195)); replace HK := Aside0.mk (KeepBut.trans (y25 HK.out) (KeepBut.of_below hb g none) (.inl rfl)); have NB0_195 := Aside0.mk ((by rw [hg]; exact Nat.ne_of_lt (IsS95.lt (show IsS95 w0 _ g s0_0 s0_1 from by repeat (first | (with_reducible first | exact HI0.out | apply IsS95.alloc | apply IsS95.drewN | apply IsS95.drew | apply IsS95.set_1) | exact HI0.out))) : g ≠ gb195)); have NB195_0 := Aside0.mk ((by rw [hg]; exact Nat.ne_of_gt (IsS95.lt (show IsS95 w0 _ g s0_0 s0_1 from by repeat (first | (with_reducible first | exact HI0.out | apply IsS95.alloc | apply IsS95.drewN | apply IsS95.drew | apply IsS95.set_1) | exact HI0.out))) : gb195 ≠ g)); replace HI0 := Aside0.mk (IsS95.below (y35 HI0.out) hb); clear hb hbox hg) | ((with_reducible refine gate_callee (f := 58) rfl ?_); refine goesL_ (some 7) rfl rfl Try.func58 (by kernel_rfl) rfl #[.pointer (some ⟨g, 0, none⟩), .int .i64 4] rfl y4 ?_; (with_reducible refine (spec_l6Rd_pick.calls k g s0_0 s0_1 4 t196 t197 w0 _ ?side1 ?side2 A2.out).mono ?_); (case side1 => exact y24 HI0.out NB0_195.out); (case side2 => exact y23 HB.out HI0.out GE195.out); rintro e w48 ⟨rfl, hi, hb, hk⟩; refine ⟨_, rfl, ?_⟩; replace BK195 := Aside0.mk (KeepBut.blk hk (g' := gb195) (o := .cells #[.slice none 0 0] 30 (0, 0)) (y0 BK195.out) NB195_0.out (by simp)); replace HK := Aside0.mk (KeepBut.trans (y18 HK.out GW195.out) hk (.inl rfl)); replace HB := Aside0.mk (hb); replace HI0 := Aside0.mk (hi); (try clear hb); (try clear hb2); (try clear hk); (try clear hi)) | ((with_reducible refine gate_callee (f := 67) rfl ?_); refine goesL_ (some 9) rfl rfl Try.func67 (by kernel_rfl) rfl #[.pointer (some ⟨g, 0, none⟩), .int .i64 (wrap64 (1 + t196))] rfl y4 ?_; (with_reducible refine (spec_l71Type.calls k g s0_0 t197 (wrap64 (1 + t196)) t198 t201 w0 _ ?side1 ?side2 A3.out).mono ?_); (case side1 => exact y24 HI0.out NB0_195.out); (case side2 => exact y23 HB.out HI0.out GE195.out); rintro e w49 ⟨v199, rfl, ho0, hi, hb, hk⟩; refine ⟨_, rfl, ?_⟩; have HO200 := Aside0.mk (Kd.N_lower (Kd.N_mono (ok' := fun k_ => (w.heap.size ≤ k_) ∧ k_ ≠ gb195 ∧ k_ ≠ g) ho0 (fun k_ hk_ => ⟨(Nat.le_trans (keep_size (w := w) (g := g) (row := none) (y18 HK.out GW195.out)) hk_), (Kd.freshB (g := gb195) (o := .cells #[.slice none 0 0] 30 (0, 0)) (y0 BK195.out) k_ hk_), (IsS95.fresh (y24 HI0.out NB0_195.out) k_ hk_)⟩)) (keep_size (w := w) (g := g) (row := none) (y18 HK.out GW195.out))); replace BK195 := Aside0.mk (KeepBut.blk hk (g' := gb195) (o := .cells #[.slice none 0 0] 30 (0, 0)) (y0 BK195.out) NB195_0.out (by simp)); replace HK := Aside0.mk (KeepBut.trans (y18 HK.out GW195.out) hk (.inl rfl)); replace HB := Aside0.mk (hb); replace HI0 := Aside0.mk (hi); (try clear hb); (try clear hb2); (try clear hk); (try clear hi); (try clear ho0)) | ((with_reducible refine gate_dst (N := 3) rfl ?_); refine zbx 3 #[.slice none 0 0] 30 ?_; intro gb202 hg w50 hbox hb; replace HO200 := Aside0.mk (Kd.N_below (Kd.N_elderB (y9 HO200.out) gb202 (Nat.le_of_eq hg.symm)) hb); replace HB := Aside0.mk (below_step (y23 HB.out HI0.out GE195.out) hb); have BK202 := Aside0.mk hbox; have GW202 := Aside0.mk ((by rw [hg]; exact (keep_size (w := w) (g := g) (row := none) (y18 HK.out GW195.out)) : w.heap.size ≤ gb202)); have GE202 := Aside0.mk ((Nat.le_trans HW0.out (by rw [hg]; exact (keep_size (w := w) (g := g) (row := none) (y18 HK.out GW195.out)) : w.heap.size ≤ gb202) : w0.heap.size ≤ gb202)); replace HK := Aside0.mk (KeepBut.trans (y18 HK.out GW195.out) (KeepBut.of_below hb g none) (.inl rfl)); have NB195_202 := zltn hg BK195; have NB202_195 := zgtn hg BK195; replace BK195 := zbb BK195 hb; have NB0_202 := Aside0.mk ((by rw [hg]; exact Nat.ne_of_lt (IsS95.lt (show IsS95 w0 _ g s0_0 t201 from by repeat (first | (with_reducible first | exact HI0.out | apply IsS95.alloc | apply IsS95.drewN | apply IsS95.drew | apply IsS95.set_1 | refine IsS95.far ?_ NB0_195.out _) | exact HI0.out))) : g ≠ gb202)); have NB202_0 := Aside0.mk ((by rw [hg]; exact Nat.ne_of_gt (IsS95.lt (show IsS95 w0 _ g s0_0 t201 from by repeat (first | (with_reducible first | exact HI0.out | apply IsS95.alloc | apply IsS95.drewN | apply IsS95.drew | apply IsS95.set_1 | refine IsS95.far ?_ NB0_195.out _) | exact HI0.out))) : gb202 ≠ g)); replace HI0 := Aside0.mk (IsS95.below (y24 HI0.out NB0_195.out) hb); clear hb hbox hg; obtain ⟨Ao51, co51, eo51⟩ := Kd.N_slice HO200.out; subst eo51; have hnb52 := NB202_195.out; have hnc52 := NB195_202.out; have hnb53 := NB202_0.out; have hnc53 := NB0_202.out; have hcz54_0 := zh BK202; have hfz54_0 := zfr BK202 0) | ((with_reducible refine gate_callee (f := 58) rfl ?_); refine goesL_ (some 11) rfl rfl Try.func58 (by kernel_rfl) rfl #[.pointer (some ⟨g, 0, none⟩), .int .i64 12] rfl y4 ?_; (with_reducible refine (spec_l6Rd_pick.calls k g s0_0 t201 12 t203 t204 w0 _ ?side1 ?side2 A4.out).mono ?_); (case side1 => exact y15 HI0.out NB0_195.out NB0_202.out); (case side2 => exact y12 HB.out HI0.out GE195.out GE202.out); rintro e w55 ⟨rfl, hi, hb, hk⟩; refine ⟨_, rfl, ?_⟩; replace BK195 := Aside0.mk (KeepBut.blk hk (g' := gb195) (o := .cells #[.slice none 0 0] 30 (0, 0)) (y21 NB195_202.out BK195.out) NB195_0.out (by simp)); replace HO200 := Aside0.mk (Kd.N_mono (Kd.N_keep (Kd.N_mono (ok := fun k_ => ((((w.heap.size ≤ k_)) ∧ (k_ ≠ gb195 ∧ k_ ≠ g)) ∧ k_ ≠ gb202)) (by (with_reducible repeat (first | apply Kd.N_alloc | apply Kd.N_drewN | apply Kd.N_drew)); exact (Kd.N_mono (Kd.N_far (p := ⟨gb202, 0, none⟩) (Kd.N_mono HO200.out (fun k_ hk => (⟨hk, hk.2⟩ : _ ∧ k_ ≠ gb202))) (fun _ hk => hk.2) (.slice Ao51 t198.length co51)) (fun _ h_ => h_.1))) (fun k_ hk_ => (⟨hk_, hk_.1.2.2⟩ : _ ∧ k_ ≠ g))) hk (fun _ h => h.2)) (fun _ h => h.1)); replace BK202 := Aside0.mk (KeepBut.blk hk (g' := gb202) (o := .cells #[.slice Ao51 t198.length co51] 30 (0, 0)) (by (with_reducible repeat (first | refine blk_drewN ?_ _ | refine blk_drew ?_ | refine blk_alloc ?_ _)); apply blk_put (i := 0); (case h => exact y0 BK202.out); (case e => rfl)) NB202_0.out (by simp)); replace HK := Aside0.mk (KeepBut.trans (y11 HK.out GW195.out GW202.out) hk (.inl rfl)); replace HB := Aside0.mk (hb); replace HI0 := Aside0.mk (hi); (try clear hb); (try clear hb2); (try clear hk); (try clear hi); have hcz56_0 := zh BK202; have hfz56_0 := zfr BK202 0; have hnb57 := NB195_0.out; have hnc57 := NB0_195.out; have hcz58_0 := zh BK195; have hfz58_0 := zfr BK195 0))
   refine bodyPost_ret (results_cell_row rfl _ _ gb195 30 #[.slice Ao51 t198.length co51] (0, 0) _ rfl (by (with_reducible repeat (first | refine blk_drewN ?_ _ | refine blk_drew ?_ | refine blk_alloc ?_ _)); apply blk_put (i := 0); (case h => exact y0 BK195.out); (case e => rfl)) Try.underlying30 rfl (by kernel_rfl)) rfl ?_
   exact ⟨_, y14, (by (with_reducible repeat (first | apply Kd.N_alloc | apply Kd.N_drewN | apply Kd.N_drew)); exact Kd.N_mono (Kd.N_far (p := ⟨gb195, 0, none⟩) (Kd.N_mono HO200.out (fun k_ hk => (⟨hk, hk.1.2.1⟩ : _ ∧ k_ ≠ gb195))) (fun _ hk => hk.2) (.slice Ao51 t198.length co51)) (fun _ hk => hk.1.1.1)), (y15 HI0.out NB0_195.out NB0_202.out), (y12 HB.out HI0.out GE195.out GE202.out), (y11 HK.out GW195.out GW202.out)⟩
end Go.Proofs.Ytjhbhihfifhljaa.PA
end
section
namespace Go.Proofs.Ytjhbhihfifhljaa.PA
open Go.RowKit Go.Proofs.YtjhbhihfifhljaaW.PrintWords Go.Proofs.YtjhbhihfifhljaaW.PrintLast Go.Proofs.YtjhbhihfifhljaaW.PrintMore
attribute [local go_sem] max2_int min2_int max_two min_two max_three min_three max_four min_four
set_option linter.unusedVariables false
set_option linter.unusedSimpArgs false
def spec_l1Say.f : Nat → List (S30) → Option (ByteArray)
 | 0, _ => none
 | k + 1, l0_0 => if (l0_0.length : Int) = 0 then (some (⟨#[105]⟩ : ByteArray)) else (if 0 < (l0_0.length : Int) then ((spec_l1Say.f k ((rd_T30 l0_0 0).f0)).bind fun t307 => (if 1 + t307.size ≤ 9223372036854775807 then (if 1 + t307.size + 1 ≤ 9223372036854775807 then (if 1 < (l0_0.length : Int) then ((spec_l1Say.f k ((rd_T30 l0_0 1).f0)).bind fun t309 => (if 1 + t307.size + 1 + t309.size ≤ 9223372036854775807 then (if 1 + t307.size + 1 + t309.size + 1 ≤ 9223372036854775807 then (some (((((⟨#[40]⟩ : ByteArray) ++ t307) ++ (⟨#[44]⟩ : ByteArray)) ++ t309) ++ (⟨#[41]⟩ : ByteArray))) else (none)) else (none))) else (none)) else (none)) else (none))) else (none))
theorem spec_l1Say.mono_l : ∀ k, (∀ y0, LeO (spec_l1Say.f k y0) (spec_l1Say.f (k + 1) y0))
 | 0 => fun _ r h => by simp [spec_l1Say.f] at h
 | k + 1 => by
  have ih0 := spec_l1Say.mono_l k
  ·intro y0
   unfold spec_l1Say.f
   repeat' first
   | (with_reducible exact ih0 _)
   | (with_reducible exact LeO.refl _)
   | (with_reducible exact LeO.none _)
   | (with_reducible refine LeO.ite ?_ ?_)
   | (with_reducible refine LeO.bind ?_ (fun _ => ?_))
   | exact ih0 _
   | exact LeO.none _
   | refine LeO.ite ?_ ?_
   | refine LeO.bind ?_ (fun _ => ?_)
theorem spec_l1Say.mono : ∀ a0 k, LeO (spec_l1Say.f k a0) (spec_l1Say.f (k + 1) a0) := by
 intro a0 k
 have ih0 := spec_l1Say.mono_l k
 exact ih0 a0
def spec_l1Say.T3 : Bool × List (List Nat × List Nat) := (true, [([], []), ([0], [0]), ([1], [1]), ([2], [2]), ([3], [3]), ([4], [4]), ([5], [5]), ([], []), ([7], [7]), ([8], [8]), ([9], [9]), ([10, 4], [10]), ([6, 11], [6, 11]), ([12], [12]), ([13, 11, 0, 1, 2, 3, 4, 5, 6, 7, 8, 9, 10, 11, 12, 13], [13])])
def spec_l1Say.B3 : List Nat := [0, 1, 3, 7, 15, 31, 63, 0, 128, 384, 896, 1951, 4095, 8191, 16383]
theorem spec_l1Say.tab3 : rtab .any (opsOf Try.f55 3) = spec_l1Say.T3 := by kernel_rfl
theorem spec_l1Say.bits3 : waitsOk spec_l1Say.T3.2 spec_l1Say.B3 = true := by kernel_rfl
set_option maxHeartbeats 8000000 in
set_option maxRecDepth 100000 in
theorem spec_l1Say.calls (k : Nat) : ∀ (A0_0 : Option Addr) (c0_0 : Nat) (l0_0 : List (S30)) (r : ByteArray) (w : World) (hr0_0 : Kd.C k30 w A0_0 l0_0.length l0_0) (hc0_0 : l0_0.length ≤ c0_0) (h : spec_l1Say.f k l0_0 = some r),
  Calls Try.prog 55 #[.agg #[.slice A0_0 l0_0.length c0_0]] w fun e w' => e = .returned (.string r) ∧ Below w.heap.size w w' := by
 induction k using Nat.strongRecOn with
 | _ k ih =>
 intro A0_0 c0_0 l0_0 r w hr0_0 hc0_0 h
 cases k with
 | zero => exact absurd h (by simp [spec_l1Say.f])
 | succ k =>
 simp only [spec_l1Say.f] at h
 have hu30 := Try.underlying30
 have HR0_0 := Aside0.mk hr0_0
 have HC0_0 := Aside0.mk hc0_0
 clear hr0_0 hc0_0
 have HB := Aside0.mk (Below.refl w.heap.size w)
 have H : (if (l0_0.length : Int) = 0 then (some (⟨#[105]⟩ : ByteArray)) else (if 0 < (l0_0.length : Int) then ((spec_l1Say.f k ((rd_T30 l0_0 0).f0)).bind fun t307 => (if 1 + t307.size ≤ 9223372036854775807 then (if 1 + t307.size + 1 ≤ 9223372036854775807 then (if 1 < (l0_0.length : Int) then ((spec_l1Say.f k ((rd_T30 l0_0 1).f0)).bind fun t309 => (if 1 + t307.size + 1 + t309.size ≤ 9223372036854775807 then (if 1 + t307.size + 1 + t309.size + 1 ≤ 9223372036854775807 then (some (((((⟨#[40]⟩ : ByteArray) ++ t307) ++ (⟨#[44]⟩ : ByteArray)) ++ t309) ++ (⟨#[41]⟩ : ByteArray))) else (none)) else (none))) else (none)) else (none)) else (none))) else (none))) = some r := h
 clear h
 by_cases c2 : (l0_0.length : Int) = 0
 ·rw [if_pos c2] at H
  have c2b0 : ((l0_0.length : Int) == 0) = true := beq_iff_eq.mpr c2
  have c2b1 : ((l0_0.length : Int) != 0) = false := bne_eq_false_iff_eq.mpr c2
  clear c2
  obtain rfl := Option.some.inj H
  go_enter Try.func55, Try.ntmps55
  go_wp2_with (first | ((with_reducible refine gate_dst (N := 1) rfl ?_); refine zbx 1 #[.slice A0_0 l0_0.length c0_0] 30 ?_; intro gb305 hg w3 hbox hb; have BK305 := Aside0.mk hbox; have GW305 := Aside0.mk ((y5 hg HB.out : w.heap.size ≤ gb305)); have GE305 := Aside0.mk ((y5 hg HB.out : w.heap.size ≤ gb305)); replace HB := Aside0.mk (below_step (y2 HB.out) hb); clear hb hbox hg; have hcz4_0 := zh BK305; have hfz4_0 := zfr BK305 0))
  go_ret
  exact ⟨y14, (y3 HB.out GE305.out)⟩
 ·rw [if_neg c2] at H
  have c2b0 : ((l0_0.length : Int) == 0) = false := beq_eq_false_iff_ne.mpr c2
  have c2b1 : ((l0_0.length : Int) != 0) = true := bne_iff_ne.mpr c2
  have c2b2 : ¬ (l0_0 = []) := fun h_ => c2 (by rw [h_]; rfl)
  by_cases c5 : 0 < (l0_0.length : Int)
  ·rw [if_pos c5] at H
   have c5b0 : decide (0 < (l0_0.length : Int)) = true := decide_eq_true c5
   have c5b1 : decide (0 < l0_0.length) = true := decide_eq_true (by omega)
   clear c5
   obtain ⟨t307, A60, H⟩ := ob H
   have A6 := Aside0.mk A60
   clear A60
   by_cases c7 : 1 + t307.size ≤ 9223372036854775807
   ·rw [if_pos c7] at H
    have c7b0 := eq_true c7
    have c7b1 : decide (1 + t307.size ≤ 9223372036854775807) = true := decide_eq_true c7
    try have c7b2 : (9223372036854775807 < 1 + t307.size) = False := eq_false (Nat.not_lt.2 c7)
    by_cases c8 : 1 + t307.size + 1 ≤ 9223372036854775807
    ·rw [if_pos c8] at H
     have c8b0 := eq_true c8
     have c8b1 : decide (1 + t307.size + 1 ≤ 9223372036854775807) = true := decide_eq_true c8
     try have c8b2 : (9223372036854775807 < 1 + t307.size + 1) = False := eq_false (Nat.not_lt.2 c8)
     by_cases c9 : 1 < (l0_0.length : Int)
     ·rw [if_pos c9] at H
      have c9b0 : decide (1 < (l0_0.length : Int)) = true := decide_eq_true c9
      have c9b1 : decide (1 < l0_0.length) = true := decide_eq_true (by omega)
      clear c9
      obtain ⟨t309, A100, H⟩ := ob H
      have A10 := Aside0.mk A100
      clear A100
      by_cases c11 : 1 + t307.size + 1 + t309.size ≤ 9223372036854775807
      ·rw [if_pos c11] at H
       have c11b0 := eq_true c11
       have c11b1 : decide (1 + t307.size + 1 + t309.size ≤ 9223372036854775807) = true := decide_eq_true c11
       try have c11b2 : (9223372036854775807 < 1 + t307.size + 1 + t309.size) = False := eq_false (Nat.not_lt.2 c11)
       by_cases c12 : 1 + t307.size + 1 + t309.size + 1 ≤ 9223372036854775807
       ·rw [if_pos c12] at H
        have c12b0 := eq_true c12
        have c12b1 : decide (1 + t307.size + 1 + t309.size + 1 ≤ 9223372036854775807) = true := decide_eq_true c12
        try have c12b2 : (9223372036854775807 < 1 + t307.size + 1 + t309.size + 1) = False := eq_false (Nat.not_lt.2 c12)
        obtain rfl := Option.some.inj H
        go_enter Try.func55, Try.ntmps55
        try go_wp2_with (first | ((with_reducible refine gate_dst (N := 1) rfl ?_); refine zbx 1 #[.slice A0_0 l0_0.length c0_0] 30 ?_; intro gb305 hg w13 hbox hb; have BK305 := Aside0.mk hbox; have GW305 := Aside0.mk ((y5 hg HB.out : w.heap.size ≤ gb305)); have GE305 := Aside0.mk ((y5 hg HB.out : w.heap.size ≤ gb305)); replace HB := Aside0.mk (below_step (y2 HB.out) hb); clear hb hbox hg; have hcz14_0 := zh BK305; have hfz14_0 := zfr BK305 0))
        replace BK305 := Aside0.mk (blk_drew BK305.out)
        replace HB := Aside0.mk (below_drew1 HB.out)
        have p306 : 0 ≤ (0 : Int) := (by omega)
        have q306 : 0 < (l0_0.length : Int) := of_decide_eq_true y19
        obtain ⟨ad306, A306_0, c306_0, e306, hx306_0, hl306_0, hi306_0⟩ := at_T30 HR0_0.out 0 p306 q306
        have hw306_0 := hx306_0
        (try rw [show ((0 : Int)).toNat = 0 from rfl] at hw306_0)
        (try rw [show 0 * 1 = 0 from rfl] at hw306_0)
        (try rw [Addr.add_zero'] at hw306_0)
        cases e306
        have qi306 : (0 < l0_0.length) = True := eq_true (by omega)
        (try rw [show ((0 : Int)).toNat = 0 from rfl] at hx306_0)
        (try rw [Addr.add_zero'] at hx306_0)
        replace hx306_0 := (HB.out.cell (World.block_lt_of_cell? w _ hx306_0)).trans hx306_0
        have HR306_0 := Aside0.mk hi306_0
        have HC306_0 := Aside0.mk hl306_0
        clear hi306_0 hl306_0
        replace p306 := eq_true p306
        replace q306 := eq_true q306
        have p308 : 0 ≤ (1 : Int) := (by omega)
        have q308 : 1 < (l0_0.length : Int) := of_decide_eq_true y19
        obtain ⟨ad308, A308_0, c308_0, e308, hx308_0, hl308_0, hi308_0⟩ := at_T30 HR0_0.out 1 p308 q308
        have hw308_0 := hx308_0
        (try rw [show ((1 : Int)).toNat = 1 from rfl] at hw308_0)
        (try rw [show 1 * 1 = 1 from rfl] at hw308_0)
        (try simp only [Nat.reduceMul, Nat.reduceEqDiff, Go.Addr.add, ↓reduceIte] at hw308_0)
        obtain rfl : ad306 = ad308 := (by injection e308)
        (try simp only [show (1 : Int).toNat = 1 from rfl, Nat.reduceMul, Nat.reduceEqDiff, Go.Addr.add, ↓reduceIte] at hx308_0)
        have qi308 : (1 < l0_0.length) = True := eq_true (by omega)
        (try rw [show ((1 : Int)).toNat = 1 from rfl] at hx308_0)
        replace hx308_0 := (HB.out.cell (World.block_lt_of_cell? w _ hx308_0)).trans hx308_0
        have HR308_0 := Aside0.mk hi308_0
        have HC308_0 := Aside0.mk hl308_0
        clear hi308_0 hl308_0
        replace p308 := eq_true p308
        replace q308 := eq_true q308
        refine start_ (n := 15) (S := fun w' => w'.cell? ⟨gb305, 0, none⟩ = some (.slice (some ad306) l0_0.length c0_0) ∧ w'.cell? ad306 = some (.slice A306_0 ((rd_T30 l0_0 0).f0).length c306_0) ∧ w'.cell? ⟨ad306.block, ad306.off + 1, none⟩ = some (.slice A308_0 ((rd_T30 l0_0 1).f0).length c308_0)) (ds := []) #[false, false, false, false, false, false, false, false, false, false, false, false, false, false, false] (by kernel_rfl) rfl rfl ⟨(blk_cell BK305.out 0).trans rfl, ((HB.out.cell (World.block_lt_of_cell? w _ hw306_0)).trans hw306_0), ((HB.out.cell (World.block_lt_of_cell? w _ hw308_0)).trans hw308_0)⟩ (fun hHeld => ?_); refine with_tabW spec_l1Say.tab3 spec_l1Say.bits3 (fun HT_ HW_ => ?_)
        generalize w13.drew = w15 at BK305 HB HR306_0 HR308_0 hx306_0 hx308_0 hHeld ⊢
        refine zp 0 (some 7) HT_ ?_
        refine zp 7 (some 14) HT_ ?_
        refine zt3 1 (some 8) HT_ HW_ hHeld ?_
        refine zp 2 (some 9) HT_ ?_
        refine zt3 3 (some 10) HT_ HW_ hHeld ?_
        refine zt3 8 (some 15) HT_ HW_ hHeld ?_
        refine zp 9 (some 16) HT_ ?_
        refine zt3 10 (some 17) HT_ HW_ hHeld ?_
        refine one_ (i := 4) (N := some 11) #[true, true, true, true, true, false, false, true, true, true, true, false, false, false, false] rfl rfl (one_of HT_.out (by kernel_rfl)) (by decide) (fun K hK => ?_)
        refine goes_ Try.func55 (by kernel_rfl) rfl #[.agg #[.slice A306_0 ((rd_T30 l0_0 0).f0).length c306_0]] (by rfl) rfl rfl y4 ?_
        with_reducible refine (ih k (by omega) _ _ ((rd_T30 l0_0 0).f0) t307 _ ?side1 ?side2 A6.out).mono ?_
        (case side1 => exact y8 HR306_0.out HB.out)
        (case side2 => exact HC306_0.out)
        rintro e w16 ⟨rfl, hb⟩
        refine ⟨_, rfl, ?_⟩
        replace BK305 := zbb BK305 hb
        replace HB := Aside0.mk (below_step (y3 HB.out GE305.out) hb)
        (try clear hb)
        (try clear hb2)
        (try clear hk)
        (try clear hi)
        refine hK.out _ _ ⟨(blk_cell BK305.out 0).trans rfl, ((HB.out.cell (World.block_lt_of_cell? w _ hw306_0)).trans hw306_0), ((HB.out.cell (World.block_lt_of_cell? w _ hw308_0)).trans hw308_0)⟩ (fun hHeld => ?_)
        clear hK K
        refine norm_ (a' := ?_) ?_ ?_
        rotate_left
        ·show Act.put _ (some 11) _ = _
         simp only [Act.put, List.setIfInBounds_toArray, List.set_cons_zero, List.set_cons_succ, i64_w, i32_w]
         rfl
        refine zp 5 (some 12) HT_ ?_
        refine zp 6 (some 13) HT_ ?_
        refine one_ (i := 11) (N := some 18) #[true, true, true, true, true, true, true, true, true, true, true, true, false, false, false] rfl rfl (one_of HT_.out (by kernel_rfl)) (by decide) (fun K hK => ?_)
        refine goes_ Try.func55 (by kernel_rfl) rfl #[.agg #[.slice A308_0 ((rd_T30 l0_0 1).f0).length c308_0]] (by rfl) rfl rfl y4 ?_
        with_reducible refine (ih k (by omega) _ _ ((rd_T30 l0_0 1).f0) t309 _ ?side1 ?side2 A10.out).mono ?_
        (case side1 => exact y8 HR308_0.out HB.out)
        (case side2 => exact HC308_0.out)
        rintro e w17 ⟨rfl, hb⟩
        refine ⟨_, rfl, ?_⟩
        replace BK305 := zbb BK305 hb
        replace HB := Aside0.mk (below_step (y3 HB.out GE305.out) hb)
        (try clear hb)
        (try clear hb2)
        (try clear hk)
        (try clear hi)
        refine hK.out _ _ ⟨(blk_cell BK305.out 0).trans rfl, ((HB.out.cell (World.block_lt_of_cell? w _ hw306_0)).trans hw306_0), ((HB.out.cell (World.block_lt_of_cell? w _ hw308_0)).trans hw308_0)⟩ (fun hHeld => ?_)
        clear hK K
        refine norm_ (a' := ?_) ?_ ?_
        rotate_left
        ·show Act.put _ (some 18) _ = _
         simp only [Act.put, List.setIfInBounds_toArray, List.set_cons_zero, List.set_cons_succ, i64_w, i32_w]
         rfl
        refine zp 12 (some 19) HT_ ?_
        refine zp 13 (some 20) HT_ ?_
        refine zp 14 (some 2) HT_ ?_
        refine done_ (done_of HT_.out (by kernel_rfl)) ?_
        try go_wp2
        go_ret
        exact ⟨y14, (y3 HB.out GE305.out)⟩
       ·rw [if_neg c12] at H
        exact absurd H (by simp)
      ·rw [if_neg c11] at H
       exact absurd H (by simp)
     ·rw [if_neg c9] at H
      exact absurd H (by simp)
    ·rw [if_neg c8] at H
     exact absurd H (by simp)
   ·rw [if_neg c7] at H
    exact absurd H (by simp)
  ·rw [if_neg c5] at H
   exact absurd H (by simp)
end Go.Proofs.Ytjhbhihfifhljaa.PA
end
section
namespace Go.Proofs.Ytjhbhihfifhljaa.PA
open Go.RowKit Go.Proofs.YtjhbhihfifhljaaW.PrintWords Go.Proofs.YtjhbhihfifhljaaW.PrintLast Go.Proofs.YtjhbhihfifhljaaW.PrintMore
attribute [local go_sem] max2_int min2_int max_two min_two max_three min_three max_four min_four
set_option linter.unusedVariables false
set_option linter.unusedSimpArgs false
def spec_TypeText.f (k : Nat) (l0_0 : List (S30)) : Option (ByteArray) := (spec_TypeOk.f k l0_0).bind fun t311 => (if t311 = true then ((spec_l1Say.f k l0_0).bind fun t312 => (some t312)) else (some (⟨#[]⟩ : ByteArray)))
theorem spec_TypeText.mono : ∀ a0 k, LeO (spec_TypeText.f k a0) (spec_TypeText.f (k + 1) a0) := by
 intro a0 k
 unfold spec_TypeText.f
 repeat' first
   | (with_reducible exact spec_TypeOk.mono _ _)
   | (with_reducible exact spec_l1Say.mono _ _)
   | (with_reducible exact LeO.refl _)
   | (with_reducible exact LeO.none _)
   | (with_reducible refine LeO.ite ?_ ?_)
   | (with_reducible refine LeO.bind ?_ (fun _ => ?_))
   | exact spec_TypeOk.mono _ _
   | exact spec_l1Say.mono _ _
   | exact LeO.none _
   | refine LeO.ite ?_ ?_
   | refine LeO.bind ?_ (fun _ => ?_)
set_option maxHeartbeats 8000000 in
set_option maxRecDepth 100000 in
theorem spec_TypeText.calls (k : Nat) (A0_0 : Option Addr) (c0_0 : Nat) (l0_0 : List (S30)) (r : ByteArray) (w : World) (hr0_0 : Kd.C k30 w A0_0 l0_0.length l0_0) (hc0_0 : l0_0.length ≤ c0_0) (h : spec_TypeText.f k l0_0 = some r) :
  Calls Try.prog 22 #[.agg #[.slice A0_0 l0_0.length c0_0]] w fun e w' => e = .returned (.string r) ∧ Below w.heap.size w w' := by
 have hu30 := Try.underlying30
 have HR0_0 := Aside0.mk hr0_0
 have HC0_0 := Aside0.mk hc0_0
 clear hr0_0 hc0_0
 have HB := Aside0.mk (Below.refl w.heap.size w)
 have H : ((spec_TypeOk.f k l0_0).bind fun t311 => (if t311 = true then ((spec_l1Say.f k l0_0).bind fun t312 => (some t312)) else (some (⟨#[]⟩ : ByteArray)))) = some r := h
 clear h
 obtain ⟨t311, A20, H⟩ := ob H
 have A2 := Aside0.mk A20
 clear A20
 by_cases c3 : t311 = true
 ·subst c3
  rw [if_pos rfl] at H
  obtain ⟨t312, A40, H⟩ := ob H
  have A4 := Aside0.mk A40
  clear A40
  obtain rfl := Option.some.inj H
  go_enter Try.func22, Try.ntmps22
  go_wp2_with (first | ((with_reducible refine gate_dst (N := 1) rfl ?_); refine zbx 1 #[.slice A0_0 l0_0.length c0_0] 30 ?_; intro gb310 hg w5 hbox hb; have BK310 := Aside0.mk hbox; have GW310 := Aside0.mk ((y5 hg HB.out : w.heap.size ≤ gb310)); have GE310 := Aside0.mk ((y5 hg HB.out : w.heap.size ≤ gb310)); replace HB := Aside0.mk (below_step (y2 HB.out) hb); clear hb hbox hg; have hcz6_0 := zh BK310; have hfz6_0 := zfr BK310 0) | ((with_reducible refine gate_callee (f := 16) rfl ?_); refine goesL_ (some 4) rfl rfl Try.func16 (by kernel_rfl) rfl #[.agg #[.slice A0_0 l0_0.length c0_0]] rfl y4 ?_; (with_reducible refine (spec_TypeOk.calls k _ _ l0_0 true _ ?side1 ?side2 A2.out).mono ?_); (case side1 => exact y8 HR0_0.out HB.out); (case side2 => exact HC0_0.out); rintro e w7 ⟨rfl, hb⟩; refine ⟨_, rfl, ?_⟩; replace BK310 := zbb BK310 hb; replace HB := Aside0.mk (below_step (y3 HB.out GE310.out) hb); (try clear hb); (try clear hb2); (try clear hk); (try clear hi); have hcz8_0 := zh BK310; have hfz8_0 := zfr BK310 0) | ((with_reducible refine gate_callee (f := 55) rfl ?_); refine goesL_ (some 7) rfl rfl Try.func55 (by kernel_rfl) rfl #[.agg #[.slice A0_0 l0_0.length c0_0]] rfl y4 ?_; (with_reducible refine (spec_l1Say.calls k _ _ l0_0 t312 _ ?side1 ?side2 A4.out).mono ?_); (case side1 => exact y8 HR0_0.out HB.out); (case side2 => exact HC0_0.out); rintro e w9 ⟨rfl, hb⟩; refine ⟨_, rfl, ?_⟩; replace BK310 := zbb BK310 hb; replace HB := Aside0.mk (below_step (y3 HB.out GE310.out) hb); (try clear hb); (try clear hb2); (try clear hk); (try clear hi)))
  go_ret
  exact ⟨y14, (y3 HB.out GE310.out)⟩
 ·replace c3 := Bool.eq_false_iff.mpr c3
  subst c3
  rw [if_neg (show ¬ (false = true) by decide)] at H
  obtain rfl := Option.some.inj H
  go_enter Try.func22, Try.ntmps22
  go_wp2_with (first | ((with_reducible refine gate_dst (N := 1) rfl ?_); refine zbx 1 #[.slice A0_0 l0_0.length c0_0] 30 ?_; intro gb310 hg w10 hbox hb; have BK310 := Aside0.mk hbox; have GW310 := Aside0.mk ((y5 hg HB.out : w.heap.size ≤ gb310)); have GE310 := Aside0.mk ((y5 hg HB.out : w.heap.size ≤ gb310)); replace HB := Aside0.mk (below_step (y2 HB.out) hb); clear hb hbox hg; have hcz11_0 := zh BK310; have hfz11_0 := zfr BK310 0) | ((with_reducible refine gate_callee (f := 16) rfl ?_); refine goesL_ (some 4) rfl rfl Try.func16 (by kernel_rfl) rfl #[.agg #[.slice A0_0 l0_0.length c0_0]] rfl y4 ?_; (with_reducible refine (spec_TypeOk.calls k _ _ l0_0 false _ ?side1 ?side2 A2.out).mono ?_); (case side1 => exact y8 HR0_0.out HB.out); (case side2 => exact HC0_0.out); rintro e w12 ⟨rfl, hb⟩; refine ⟨_, rfl, ?_⟩; replace BK310 := zbb BK310 hb; replace HB := Aside0.mk (below_step (y3 HB.out GE310.out) hb); (try clear hb); (try clear hb2); (try clear hk); (try clear hi)))
  go_ret
  exact ⟨y14, (y3 HB.out GE310.out)⟩
end Go.Proofs.Ytjhbhihfifhljaa.PA
end
section
namespace Go.Proofs.Ytjhbhihfifhljaa.PA
open Go.RowKit Go.Proofs.YtjhbhihfifhljaaW.PrintWords Go.Proofs.YtjhbhihfifhljaaW.PrintLast Go.Proofs.YtjhbhihfifhljaaW.PrintMore
attribute [local go_sem] max2_int min2_int max_two min_two max_three min_three max_four min_four
set_option linter.unusedVariables false
set_option linter.unusedSimpArgs false
def impl_typeIsNum.f (l0_0 : List (S30)) : Option (Bool) := some ((l0_0.length : Int) == 0)
set_option maxHeartbeats 8000000 in
set_option maxRecDepth 100000 in
theorem impl_typeIsNum.calls (A0_0 : Option Addr) (c0_0 : Nat) (l0_0 : List (S30)) (r : Bool) (w : World) (hr0_0 : Kd.C k30 w A0_0 l0_0.length l0_0) (hc0_0 : l0_0.length ≤ c0_0) (h : impl_typeIsNum.f l0_0 = some r) :
  Calls Try.prog 80 #[.agg #[.slice A0_0 l0_0.length c0_0]] w fun e w' => e = .returned (.bool r) ∧ Below w.heap.size w w' := by
 have hu30 := Try.underlying30
 have HR0_0 := Aside0.mk hr0_0
 have HC0_0 := Aside0.mk hc0_0
 clear hr0_0 hc0_0
 have HB := Aside0.mk (Below.refl w.heap.size w)
 have H : (some ((l0_0.length : Int) == 0)) = some r := h
 clear h
 obtain rfl := Option.some.inj H
 go_enter Try.func80, Try.ntmps80
 go_wp2_with (first | ((with_reducible refine gate_dst (N := 1) rfl ?_); refine zbx 1 #[.slice A0_0 l0_0.length c0_0] 30 ?_; intro gb313 hg w2 hbox hb; have BK313 := Aside0.mk hbox; have GW313 := Aside0.mk ((y5 hg HB.out : w.heap.size ≤ gb313)); have GE313 := Aside0.mk ((y5 hg HB.out : w.heap.size ≤ gb313)); replace HB := Aside0.mk (below_step (y2 HB.out) hb); clear hb hbox hg; have hcz3_0 := zh BK313; have hfz3_0 := zfr BK313 0))
 go_ret
 exact ⟨y14, (y3 HB.out GE313.out)⟩
end Go.Proofs.Ytjhbhihfifhljaa.PA
end
section
namespace Go.Proofs.Ytjhbhihfifhljaa.PA
open Go.RowKit Go.Proofs.YtjhbhihfifhljaaW.PrintWords Go.Proofs.YtjhbhihfifhljaaW.PrintLast Go.Proofs.YtjhbhihfifhljaaW.PrintMore
attribute [local go_sem] max2_int min2_int max_two min_two max_three min_three max_four min_four
set_option linter.unusedVariables false
set_option linter.unusedSimpArgs false
def impl_typeWords.f : Nat → List (S30) → Option (ByteArray)
 | 0, _ => none
 | k + 1, l0_0 => (impl_typeIsNum.f l0_0).bind fun t315 => (if t315 = true then (some (⟨#[105]⟩ : ByteArray)) else (if 0 < (l0_0.length : Int) then ((impl_typeWords.f k ((rd_T30 l0_0 0).f0)).bind fun t317 => (if 1 + t317.size ≤ 9223372036854775807 then (if 1 + t317.size + 1 ≤ 9223372036854775807 then (if 1 < (l0_0.length : Int) then ((impl_typeWords.f k ((rd_T30 l0_0 1).f0)).bind fun t319 => (if 1 + t317.size + 1 + t319.size ≤ 9223372036854775807 then (if 1 + t317.size + 1 + t319.size + 1 ≤ 9223372036854775807 then (some (((((⟨#[40]⟩ : ByteArray) ++ t317) ++ (⟨#[44]⟩ : ByteArray)) ++ t319) ++ (⟨#[41]⟩ : ByteArray))) else (none)) else (none))) else (none)) else (none)) else (none))) else (none)))
theorem impl_typeWords.mono_l : ∀ k, (∀ y0, LeO (impl_typeWords.f k y0) (impl_typeWords.f (k + 1) y0))
 | 0 => fun _ r h => by simp [impl_typeWords.f] at h
 | k + 1 => by
  have ih0 := impl_typeWords.mono_l k
  ·intro y0
   unfold impl_typeWords.f
   repeat' first
   | (with_reducible exact ih0 _)
   | (with_reducible exact LeO.refl _)
   | (with_reducible exact LeO.none _)
   | (with_reducible refine LeO.ite ?_ ?_)
   | (with_reducible refine LeO.bind ?_ (fun _ => ?_))
   | exact ih0 _
   | exact LeO.none _
   | refine LeO.ite ?_ ?_
   | refine LeO.bind ?_ (fun _ => ?_)
theorem impl_typeWords.mono : ∀ a0 k, LeO (impl_typeWords.f k a0) (impl_typeWords.f (k + 1) a0) := by
 intro a0 k
 have ih0 := impl_typeWords.mono_l k
 exact ih0 a0
def impl_typeWords.T3 : Bool × List (List Nat × List Nat) := (true, [([], []), ([0], [0]), ([1], [1]), ([2], [2]), ([3], [3]), ([4], [4]), ([5], [5]), ([], []), ([7], [7]), ([8], [8]), ([9], [9]), ([10, 4], [10]), ([6, 11], [6, 11]), ([12], [12]), ([13, 11, 0, 1, 2, 3, 4, 5, 6, 7, 8, 9, 10, 11, 12, 13], [13])])
def impl_typeWords.B3 : List Nat := [0, 1, 3, 7, 15, 31, 63, 0, 128, 384, 896, 1951, 4095, 8191, 16383]
theorem impl_typeWords.tab3 : rtab .any (opsOf Try.f56 3) = impl_typeWords.T3 := by kernel_rfl
theorem impl_typeWords.bits3 : waitsOk impl_typeWords.T3.2 impl_typeWords.B3 = true := by kernel_rfl
set_option maxHeartbeats 8000000 in
set_option maxRecDepth 100000 in
theorem impl_typeWords.calls (k : Nat) : ∀ (A0_0 : Option Addr) (c0_0 : Nat) (l0_0 : List (S30)) (r : ByteArray) (w : World) (hr0_0 : Kd.C k30 w A0_0 l0_0.length l0_0) (hc0_0 : l0_0.length ≤ c0_0) (h : impl_typeWords.f k l0_0 = some r),
  Calls Try.prog 56 #[.agg #[.slice A0_0 l0_0.length c0_0]] w fun e w' => e = .returned (.string r) ∧ Below w.heap.size w w' := by
 induction k using Nat.strongRecOn with
 | _ k ih =>
 intro A0_0 c0_0 l0_0 r w hr0_0 hc0_0 h
 cases k with
 | zero => exact absurd h (by simp [impl_typeWords.f])
 | succ k =>
 simp only [impl_typeWords.f] at h
 have hu30 := Try.underlying30
 have HR0_0 := Aside0.mk hr0_0
 have HC0_0 := Aside0.mk hc0_0
 clear hr0_0 hc0_0
 have HB := Aside0.mk (Below.refl w.heap.size w)
 have H : ((impl_typeIsNum.f l0_0).bind fun t315 => (if t315 = true then (some (⟨#[105]⟩ : ByteArray)) else (if 0 < (l0_0.length : Int) then ((impl_typeWords.f k ((rd_T30 l0_0 0).f0)).bind fun t317 => (if 1 + t317.size ≤ 9223372036854775807 then (if 1 + t317.size + 1 ≤ 9223372036854775807 then (if 1 < (l0_0.length : Int) then ((impl_typeWords.f k ((rd_T30 l0_0 1).f0)).bind fun t319 => (if 1 + t317.size + 1 + t319.size ≤ 9223372036854775807 then (if 1 + t317.size + 1 + t319.size + 1 ≤ 9223372036854775807 then (some (((((⟨#[40]⟩ : ByteArray) ++ t317) ++ (⟨#[44]⟩ : ByteArray)) ++ t319) ++ (⟨#[41]⟩ : ByteArray))) else (none)) else (none))) else (none)) else (none)) else (none))) else (none)))) = some r := h
 clear h
 obtain ⟨t315, A20, H⟩ := ob H
 have A2 := Aside0.mk A20
 clear A20
 by_cases c3 : t315 = true
 ·subst c3
  rw [if_pos rfl] at H
  obtain rfl := Option.some.inj H
  go_enter Try.func56, Try.ntmps56
  go_wp2_with (first | ((with_reducible refine gate_dst (N := 1) rfl ?_); refine zbx 1 #[.slice A0_0 l0_0.length c0_0] 30 ?_; intro gb314 hg w4 hbox hb; have BK314 := Aside0.mk hbox; have GW314 := Aside0.mk ((y5 hg HB.out : w.heap.size ≤ gb314)); have GE314 := Aside0.mk ((y5 hg HB.out : w.heap.size ≤ gb314)); replace HB := Aside0.mk (below_step (y2 HB.out) hb); clear hb hbox hg; have hcz5_0 := zh BK314; have hfz5_0 := zfr BK314 0) | ((with_reducible refine gate_callee (f := 80) rfl ?_); refine goesL_ (some 4) rfl rfl Try.func80 (by kernel_rfl) rfl #[.agg #[.slice A0_0 l0_0.length c0_0]] rfl y4 ?_; (with_reducible refine (impl_typeIsNum.calls _ _ l0_0 true _ ?side1 ?side2 A2.out).mono ?_); (case side1 => exact y8 HR0_0.out HB.out); (case side2 => exact HC0_0.out); rintro e w6 ⟨rfl, hb⟩; refine ⟨_, rfl, ?_⟩; replace BK314 := zbb BK314 hb; replace HB := Aside0.mk (below_step (y3 HB.out GE314.out) hb); (try clear hb); (try clear hb2); (try clear hk); (try clear hi)))
  go_ret
  exact ⟨y14, (y3 HB.out GE314.out)⟩
 ·replace c3 := Bool.eq_false_iff.mpr c3
  subst c3
  rw [if_neg (show ¬ (false = true) by decide)] at H
  by_cases c7 : 0 < (l0_0.length : Int)
  ·rw [if_pos c7] at H
   have c7b0 : decide (0 < (l0_0.length : Int)) = true := decide_eq_true c7
   have c7b1 : decide (0 < l0_0.length) = true := decide_eq_true (by omega)
   clear c7
   obtain ⟨t317, A80, H⟩ := ob H
   have A8 := Aside0.mk A80
   clear A80
   by_cases c9 : 1 + t317.size ≤ 9223372036854775807
   ·rw [if_pos c9] at H
    have c9b0 := eq_true c9
    have c9b1 : decide (1 + t317.size ≤ 9223372036854775807) = true := decide_eq_true c9
    try have c9b2 : (9223372036854775807 < 1 + t317.size) = False := eq_false (Nat.not_lt.2 c9)
    by_cases c10 : 1 + t317.size + 1 ≤ 9223372036854775807
    ·rw [if_pos c10] at H
     have c10b0 := eq_true c10
     have c10b1 : decide (1 + t317.size + 1 ≤ 9223372036854775807) = true := decide_eq_true c10
     try have c10b2 : (9223372036854775807 < 1 + t317.size + 1) = False := eq_false (Nat.not_lt.2 c10)
     by_cases c11 : 1 < (l0_0.length : Int)
     ·rw [if_pos c11] at H
      have c11b0 : decide (1 < (l0_0.length : Int)) = true := decide_eq_true c11
      have c11b1 : decide (1 < l0_0.length) = true := decide_eq_true (by omega)
      clear c11
      obtain ⟨t319, A120, H⟩ := ob H
      have A12 := Aside0.mk A120
      clear A120
      by_cases c13 : 1 + t317.size + 1 + t319.size ≤ 9223372036854775807
      ·rw [if_pos c13] at H
       have c13b0 := eq_true c13
       have c13b1 : decide (1 + t317.size + 1 + t319.size ≤ 9223372036854775807) = true := decide_eq_true c13
       try have c13b2 : (9223372036854775807 < 1 + t317.size + 1 + t319.size) = False := eq_false (Nat.not_lt.2 c13)
       by_cases c14 : 1 + t317.size + 1 + t319.size + 1 ≤ 9223372036854775807
       ·rw [if_pos c14] at H
        have c14b0 := eq_true c14
        have c14b1 : decide (1 + t317.size + 1 + t319.size + 1 ≤ 9223372036854775807) = true := decide_eq_true c14
        try have c14b2 : (9223372036854775807 < 1 + t317.size + 1 + t319.size + 1) = False := eq_false (Nat.not_lt.2 c14)
        obtain rfl := Option.some.inj H
        go_enter Try.func56, Try.ntmps56
        try go_wp2_with (first | ((with_reducible refine gate_dst (N := 1) rfl ?_); refine zbx 1 #[.slice A0_0 l0_0.length c0_0] 30 ?_; intro gb314 hg w15 hbox hb; have BK314 := Aside0.mk hbox; have GW314 := Aside0.mk ((y5 hg HB.out : w.heap.size ≤ gb314)); have GE314 := Aside0.mk ((y5 hg HB.out : w.heap.size ≤ gb314)); replace HB := Aside0.mk (below_step (y2 HB.out) hb); clear hb hbox hg; have hcz16_0 := zh BK314; have hfz16_0 := zfr BK314 0) | ((with_reducible refine gate_callee (f := 80) rfl ?_); refine goesL_ (some 4) rfl rfl Try.func80 (by kernel_rfl) rfl #[.agg #[.slice A0_0 l0_0.length c0_0]] rfl y4 ?_; (with_reducible refine (impl_typeIsNum.calls _ _ l0_0 false _ ?side1 ?side2 A2.out).mono ?_); (case side1 => exact y8 HR0_0.out HB.out); (case side2 => exact HC0_0.out); rintro e w17 ⟨rfl, hb⟩; refine ⟨_, rfl, ?_⟩; replace BK314 := zbb BK314 hb; replace HB := Aside0.mk (below_step (y3 HB.out GE314.out) hb); (try clear hb); (try clear hb2); (try clear hk); (try clear hi)))
        replace BK314 := Aside0.mk (blk_drew BK314.out)
        replace HB := Aside0.mk (below_drew1 HB.out)
        have p316 : 0 ≤ (0 : Int) := (by omega)
        have q316 : 0 < (l0_0.length : Int) := of_decide_eq_true y19
        obtain ⟨ad316, A316_0, c316_0, e316, hx316_0, hl316_0, hi316_0⟩ := at_T30 HR0_0.out 0 p316 q316
        have hw316_0 := hx316_0
        (try rw [show ((0 : Int)).toNat = 0 from rfl] at hw316_0)
        (try rw [show 0 * 1 = 0 from rfl] at hw316_0)
        (try rw [Addr.add_zero'] at hw316_0)
        cases e316
        have qi316 : (0 < l0_0.length) = True := eq_true (by omega)
        (try rw [show ((0 : Int)).toNat = 0 from rfl] at hx316_0)
        (try rw [Addr.add_zero'] at hx316_0)
        replace hx316_0 := (HB.out.cell (World.block_lt_of_cell? w _ hx316_0)).trans hx316_0
        have HR316_0 := Aside0.mk hi316_0
        have HC316_0 := Aside0.mk hl316_0
        clear hi316_0 hl316_0
        replace p316 := eq_true p316
        replace q316 := eq_true q316
        have p318 : 0 ≤ (1 : Int) := (by omega)
        have q318 : 1 < (l0_0.length : Int) := of_decide_eq_true y19
        obtain ⟨ad318, A318_0, c318_0, e318, hx318_0, hl318_0, hi318_0⟩ := at_T30 HR0_0.out 1 p318 q318
        have hw318_0 := hx318_0
        (try rw [show ((1 : Int)).toNat = 1 from rfl] at hw318_0)
        (try rw [show 1 * 1 = 1 from rfl] at hw318_0)
        (try simp only [Nat.reduceMul, Nat.reduceEqDiff, Go.Addr.add, ↓reduceIte] at hw318_0)
        obtain rfl : ad316 = ad318 := (by injection e318)
        (try simp only [show (1 : Int).toNat = 1 from rfl, Nat.reduceMul, Nat.reduceEqDiff, Go.Addr.add, ↓reduceIte] at hx318_0)
        have qi318 : (1 < l0_0.length) = True := eq_true (by omega)
        (try rw [show ((1 : Int)).toNat = 1 from rfl] at hx318_0)
        replace hx318_0 := (HB.out.cell (World.block_lt_of_cell? w _ hx318_0)).trans hx318_0
        have HR318_0 := Aside0.mk hi318_0
        have HC318_0 := Aside0.mk hl318_0
        clear hi318_0 hl318_0
        replace p318 := eq_true p318
        replace q318 := eq_true q318
        refine start_ (n := 15) (S := fun w' => w'.cell? ⟨gb314, 0, none⟩ = some (.slice (some ad316) l0_0.length c0_0) ∧ w'.cell? ad316 = some (.slice A316_0 ((rd_T30 l0_0 0).f0).length c316_0) ∧ w'.cell? ⟨ad316.block, ad316.off + 1, none⟩ = some (.slice A318_0 ((rd_T30 l0_0 1).f0).length c318_0)) (ds := []) #[false, false, false, false, false, false, false, false, false, false, false, false, false, false, false] (by kernel_rfl) rfl rfl ⟨(blk_cell BK314.out 0).trans rfl, ((HB.out.cell (World.block_lt_of_cell? w _ hw316_0)).trans hw316_0), ((HB.out.cell (World.block_lt_of_cell? w _ hw318_0)).trans hw318_0)⟩ (fun hHeld => ?_); refine with_tabW impl_typeWords.tab3 impl_typeWords.bits3 (fun HT_ HW_ => ?_)
        generalize w17.drew = w18 at BK314 HB HR316_0 HR318_0 hx316_0 hx318_0 hHeld ⊢
        refine zp 0 (some 5) HT_ ?_
        refine zp 7 (some 12) HT_ ?_
        refine zt3 1 (some 6) HT_ HW_ hHeld ?_
        refine zp 2 (some 7) HT_ ?_
        refine zt3 3 (some 8) HT_ HW_ hHeld ?_
        refine zt3 8 (some 13) HT_ HW_ hHeld ?_
        refine zp 9 (some 14) HT_ ?_
        refine zt3 10 (some 15) HT_ HW_ hHeld ?_
        refine one_ (i := 4) (N := some 9) #[true, true, true, true, true, false, false, true, true, true, true, false, false, false, false] rfl rfl (one_of HT_.out (by kernel_rfl)) (by decide) (fun K hK => ?_)
        refine goes_ Try.func56 (by kernel_rfl) rfl #[.agg #[.slice A316_0 ((rd_T30 l0_0 0).f0).length c316_0]] (by rfl) rfl rfl y4 ?_
        with_reducible refine (ih k (by omega) _ _ ((rd_T30 l0_0 0).f0) t317 _ ?side1 ?side2 A8.out).mono ?_
        (case side1 => exact y8 HR316_0.out HB.out)
        (case side2 => exact HC316_0.out)
        rintro e w19 ⟨rfl, hb⟩
        refine ⟨_, rfl, ?_⟩
        replace BK314 := zbb BK314 hb
        replace HB := Aside0.mk (below_step (y3 HB.out GE314.out) hb)
        (try clear hb)
        (try clear hb2)
        (try clear hk)
        (try clear hi)
        refine hK.out _ _ ⟨(blk_cell BK314.out 0).trans rfl, ((HB.out.cell (World.block_lt_of_cell? w _ hw316_0)).trans hw316_0), ((HB.out.cell (World.block_lt_of_cell? w _ hw318_0)).trans hw318_0)⟩ (fun hHeld => ?_)
        clear hK K
        refine norm_ (a' := ?_) ?_ ?_
        rotate_left
        ·show Act.put _ (some 9) _ = _
         simp only [Act.put, List.setIfInBounds_toArray, List.set_cons_zero, List.set_cons_succ, i64_w, i32_w]
         rfl
        refine zp 5 (some 10) HT_ ?_
        refine zp 6 (some 11) HT_ ?_
        refine one_ (i := 11) (N := some 16) #[true, true, true, true, true, true, true, true, true, true, true, true, false, false, false] rfl rfl (one_of HT_.out (by kernel_rfl)) (by decide) (fun K hK => ?_)
        refine goes_ Try.func56 (by kernel_rfl) rfl #[.agg #[.slice A318_0 ((rd_T30 l0_0 1).f0).length c318_0]] (by rfl) rfl rfl y4 ?_
        with_reducible refine (ih k (by omega) _ _ ((rd_T30 l0_0 1).f0) t319 _ ?side1 ?side2 A12.out).mono ?_
        (case side1 => exact y8 HR318_0.out HB.out)
        (case side2 => exact HC318_0.out)
        rintro e w20 ⟨rfl, hb⟩
        refine ⟨_, rfl, ?_⟩
        replace BK314 := zbb BK314 hb
        replace HB := Aside0.mk (below_step (y3 HB.out GE314.out) hb)
        (try clear hb)
        (try clear hb2)
        (try clear hk)
        (try clear hi)
        refine hK.out _ _ ⟨(blk_cell BK314.out 0).trans rfl, ((HB.out.cell (World.block_lt_of_cell? w _ hw316_0)).trans hw316_0), ((HB.out.cell (World.block_lt_of_cell? w _ hw318_0)).trans hw318_0)⟩ (fun hHeld => ?_)
        clear hK K
        refine norm_ (a' := ?_) ?_ ?_
        rotate_left
        ·show Act.put _ (some 16) _ = _
         simp only [Act.put, List.setIfInBounds_toArray, List.set_cons_zero, List.set_cons_succ, i64_w, i32_w]
         rfl
        refine zp 12 (some 17) HT_ ?_
        refine zp 13 (some 18) HT_ ?_
        refine zp 14 (some 2) HT_ ?_
        refine done_ (done_of HT_.out (by kernel_rfl)) ?_
        try go_wp2
        go_ret
        exact ⟨y14, (y3 HB.out GE314.out)⟩
       ·rw [if_neg c14] at H
        exact absurd H (by simp)
      ·rw [if_neg c13] at H
       exact absurd H (by simp)
     ·rw [if_neg c11] at H
      exact absurd H (by simp)
    ·rw [if_neg c10] at H
     exact absurd H (by simp)
   ·rw [if_neg c9] at H
    exact absurd H (by simp)
  ·rw [if_neg c7] at H
   exact absurd H (by simp)
end Go.Proofs.Ytjhbhihfifhljaa.PA
end
section
namespace Go.Proofs.Ytjhbhihfifhljaa.PA
open Go.RowKit Go.Proofs.YtjhbhihfifhljaaW.PrintWords Go.Proofs.YtjhbhihfifhljaaW.PrintLast Go.Proofs.YtjhbhihfifhljaaW.PrintMore
attribute [local go_sem] max2_int min2_int max_two min_two max_three min_three max_four min_four
set_option linter.unusedVariables false
set_option linter.unusedSimpArgs false
def impl_TypeText.f (k : Nat) (l0_0 : List (S30)) : Option (ByteArray) := (impl_TypeOk.f k l0_0).bind fun t321 => (if t321 = true then ((impl_typeWords.f k l0_0).bind fun t322 => (some t322)) else (some (⟨#[]⟩ : ByteArray)))
theorem impl_TypeText.mono : ∀ a0 k, LeO (impl_TypeText.f k a0) (impl_TypeText.f (k + 1) a0) := by
 intro a0 k
 unfold impl_TypeText.f
 repeat' first
   | (with_reducible exact impl_TypeOk.mono _ _)
   | (with_reducible exact impl_typeWords.mono _ _)
   | (with_reducible exact LeO.refl _)
   | (with_reducible exact LeO.none _)
   | (with_reducible refine LeO.ite ?_ ?_)
   | (with_reducible refine LeO.bind ?_ (fun _ => ?_))
   | exact impl_TypeOk.mono _ _
   | exact impl_typeWords.mono _ _
   | exact LeO.none _
   | refine LeO.ite ?_ ?_
   | refine LeO.bind ?_ (fun _ => ?_)
set_option maxHeartbeats 8000000 in
set_option maxRecDepth 100000 in
theorem impl_TypeText.calls (k : Nat) (A0_0 : Option Addr) (c0_0 : Nat) (l0_0 : List (S30)) (r : ByteArray) (w : World) (hr0_0 : Kd.C k30 w A0_0 l0_0.length l0_0) (hc0_0 : l0_0.length ≤ c0_0) (h : impl_TypeText.f k l0_0 = some r) :
  Calls Try.prog 23 #[.agg #[.slice A0_0 l0_0.length c0_0]] w fun e w' => e = .returned (.string r) ∧ Below w.heap.size w w' := by
 have hu30 := Try.underlying30
 have HR0_0 := Aside0.mk hr0_0
 have HC0_0 := Aside0.mk hc0_0
 clear hr0_0 hc0_0
 have HB := Aside0.mk (Below.refl w.heap.size w)
 have H : ((impl_TypeOk.f k l0_0).bind fun t321 => (if t321 = true then ((impl_typeWords.f k l0_0).bind fun t322 => (some t322)) else (some (⟨#[]⟩ : ByteArray)))) = some r := h
 clear h
 obtain ⟨t321, A20, H⟩ := ob H
 have A2 := Aside0.mk A20
 clear A20
 by_cases c3 : t321 = true
 ·subst c3
  rw [if_pos rfl] at H
  obtain ⟨t322, A40, H⟩ := ob H
  have A4 := Aside0.mk A40
  clear A40
  obtain rfl := Option.some.inj H
  go_enter Try.func23, Try.ntmps23
  go_wp2_with (first | ((with_reducible refine gate_dst (N := 1) rfl ?_); refine zbx 1 #[.slice A0_0 l0_0.length c0_0] 30 ?_; intro gb320 hg w5 hbox hb; have BK320 := Aside0.mk hbox; have GW320 := Aside0.mk ((y5 hg HB.out : w.heap.size ≤ gb320)); have GE320 := Aside0.mk ((y5 hg HB.out : w.heap.size ≤ gb320)); replace HB := Aside0.mk (below_step (y2 HB.out) hb); clear hb hbox hg; have hcz6_0 := zh BK320; have hfz6_0 := zfr BK320 0) | ((with_reducible refine gate_callee (f := 18) rfl ?_); refine goesL_ (some 4) rfl rfl Try.func18 (by kernel_rfl) rfl #[.agg #[.slice A0_0 l0_0.length c0_0]] rfl y4 ?_; (with_reducible refine (impl_TypeOk.calls k _ _ l0_0 true _ ?side1 ?side2 A2.out).mono ?_); (case side1 => exact y8 HR0_0.out HB.out); (case side2 => exact HC0_0.out); rintro e w7 ⟨rfl, hb⟩; refine ⟨_, rfl, ?_⟩; replace BK320 := zbb BK320 hb; replace HB := Aside0.mk (below_step (y3 HB.out GE320.out) hb); (try clear hb); (try clear hb2); (try clear hk); (try clear hi); have hcz8_0 := zh BK320; have hfz8_0 := zfr BK320 0) | ((with_reducible refine gate_callee (f := 56) rfl ?_); refine goesL_ (some 7) rfl rfl Try.func56 (by kernel_rfl) rfl #[.agg #[.slice A0_0 l0_0.length c0_0]] rfl y4 ?_; (with_reducible refine (impl_typeWords.calls k _ _ l0_0 t322 _ ?side1 ?side2 A4.out).mono ?_); (case side1 => exact y8 HR0_0.out HB.out); (case side2 => exact HC0_0.out); rintro e w9 ⟨rfl, hb⟩; refine ⟨_, rfl, ?_⟩; replace BK320 := zbb BK320 hb; replace HB := Aside0.mk (below_step (y3 HB.out GE320.out) hb); (try clear hb); (try clear hb2); (try clear hk); (try clear hi)))
  go_ret
  exact ⟨y14, (y3 HB.out GE320.out)⟩
 ·replace c3 := Bool.eq_false_iff.mpr c3
  subst c3
  rw [if_neg (show ¬ (false = true) by decide)] at H
  obtain rfl := Option.some.inj H
  go_enter Try.func23, Try.ntmps23
  go_wp2_with (first | ((with_reducible refine gate_dst (N := 1) rfl ?_); refine zbx 1 #[.slice A0_0 l0_0.length c0_0] 30 ?_; intro gb320 hg w10 hbox hb; have BK320 := Aside0.mk hbox; have GW320 := Aside0.mk ((y5 hg HB.out : w.heap.size ≤ gb320)); have GE320 := Aside0.mk ((y5 hg HB.out : w.heap.size ≤ gb320)); replace HB := Aside0.mk (below_step (y2 HB.out) hb); clear hb hbox hg; have hcz11_0 := zh BK320; have hfz11_0 := zfr BK320 0) | ((with_reducible refine gate_callee (f := 18) rfl ?_); refine goesL_ (some 4) rfl rfl Try.func18 (by kernel_rfl) rfl #[.agg #[.slice A0_0 l0_0.length c0_0]] rfl y4 ?_; (with_reducible refine (impl_TypeOk.calls k _ _ l0_0 false _ ?side1 ?side2 A2.out).mono ?_); (case side1 => exact y8 HR0_0.out HB.out); (case side2 => exact HC0_0.out); rintro e w12 ⟨rfl, hb⟩; refine ⟨_, rfl, ?_⟩; replace BK320 := zbb BK320 hb; replace HB := Aside0.mk (below_step (y3 HB.out GE320.out) hb); (try clear hb); (try clear hb2); (try clear hk); (try clear hi)))
  go_ret
  exact ⟨y14, (y3 HB.out GE320.out)⟩
end Go.Proofs.Ytjhbhihfifhljaa.PA
end
section
namespace Go.Proofs.Ytjhbhihfifhljaa.PA
open Go.RowKit Go.Proofs.YtjhbhihfifhljaaW.PrintWords Go.Proofs.YtjhbhihfifhljaaW.PrintLast Go.Proofs.YtjhbhihfifhljaaW.PrintMore
attribute [local go_sem] max2_int min2_int max_two min_two max_three min_three max_four min_four
set_option linter.unusedVariables false
set_option linter.unusedSimpArgs false
def spec_DrawTypeText.f (k : Nat) (l0 : List Int) : Option ((List (S30))) := (spec_l6Open.f l0).bind fun bt339 => ((spec_l71Deep.f k bt339.1 bt339.2).bind fun bt342 => (some bt342.1))
theorem spec_DrawTypeText.mono : ∀ a0 k, LeO (spec_DrawTypeText.f k a0) (spec_DrawTypeText.f (k + 1) a0) := by
 intro a0 k
 unfold spec_DrawTypeText.f
 repeat' first
   | (with_reducible exact spec_l71Deep.mono _ _ _)
   | (with_reducible exact LeO.refl _)
   | (with_reducible exact LeO.none _)
   | (with_reducible refine LeO.ite ?_ ?_)
   | (with_reducible refine LeO.bind ?_ (fun _ => ?_))
   | exact spec_l71Deep.mono _ _ _
   | exact LeO.none _
   | refine LeO.ite ?_ ?_
   | refine LeO.bind ?_ (fun _ => ?_)
set_option maxHeartbeats 8000000 in
set_option maxRecDepth 100000 in
theorem spec_DrawTypeText.calls (k : Nat) (A0 : Option Addr) (c0 : Nat) (l0 : List Int) (r : List (S30)) (w : World) (hr0 : Kd.C (Kd.int .u8) w A0 l0.length l0) (hc0 : l0.length ≤ c0) (h : spec_DrawTypeText.f k l0 = some r) :
  Calls Try.prog 24 #[.slice A0 l0.length c0] w fun e w' => ∃ v0_ : Value, e = .returned (.agg #[v0_]) ∧ Kd.N k30 30 w' w.heap.size (fun k_ => (w.heap.size ≤ k_)) v0_ r ∧ Below w.heap.size w w' := by
 have hu30 := Try.underlying30
 have HR0 := Aside0.mk hr0
 have HC0 := Aside0.mk hc0
 clear hr0 hc0
 have HB := Aside0.mk (Below.refl w.heap.size w)
 have H : ((spec_l6Open.f l0).bind fun bt339 => ((spec_l71Deep.f k bt339.1 bt339.2).bind fun bt342 => (some bt342.1))) = some r := h
 clear h
 obtain ⟨⟨t339, t340⟩, A20, H⟩ := ob H
 have A2 := Aside0.mk A20
 clear A20
 obtain ⟨⟨t342, t345⟩, A30, H⟩ := ob H
 have A3 := Aside0.mk A30
 clear A30
 obtain rfl := Option.some.inj H
 go_enter Try.func24, Try.ntmps24
 go_wp2_with (first | ((with_reducible refine gate_dst (N := 2) rfl ?_); refine zbx 2 #[.slice none 0 0] 30 ?_; intro gb338 hg w4 hbox hb; have BK338 := Aside0.mk hbox; have GW338 := Aside0.mk ((y5 hg HB.out : w.heap.size ≤ gb338)); have GE338 := Aside0.mk ((y5 hg HB.out : w.heap.size ≤ gb338)); replace HB := Aside0.mk (below_step (y2 HB.out) hb); clear hb hbox hg) | ((with_reducible refine gate_callee (f := 52) rfl ?_); refine goesL_ (some 4) rfl rfl Try.func52 (by kernel_rfl) rfl #[.slice A0 l0.length c0] rfl y4 ?_; (with_reducible refine (spec_l6Open.calls _ _ l0 t339 t340 w _ ?side1 ?side2 ?side3 A2.out).mono ?_); (case side1 => exact y3 HB.out GE338.out); (case side2 => exact HR0.out); (case side3 => exact HC0.out); rintro e w5 ⟨g341, rfl, hi, hb, hb2⟩; refine ⟨_, rfl, ?_⟩; replace HB := Aside0.mk (hb); have HI341 := Aside0.mk (hi); have NB341_338 := Aside0.mk (IsS95.ne_blk hi (blk_below (g := gb338) (o := .cells #[.slice none 0 0] 30 (0, 0)) (y0 BK338.out) hb2) (by decide)); have NB338_341 := Aside0.mk (Ne.symm (IsS95.ne_blk hi (blk_below (g := gb338) (o := .cells #[.slice none 0 0] 30 (0, 0)) (y0 BK338.out) hb2) (by decide))); replace BK338 := Aside0.mk (blk_below (g := gb338) (o := .cells #[.slice none 0 0] 30 (0, 0)) (y0 BK338.out) hb2); (try clear hb); (try clear hb2); (try clear hk); (try clear hi)) | ((with_reducible refine gate_callee (f := 51) rfl ?_); refine goesL_ (some 5) rfl rfl Try.func51 (by kernel_rfl) rfl #[.pointer (some ⟨g341, 0, none⟩)] rfl y4 ?_; (with_reducible refine (spec_l71Deep.calls k g341 t339 t340 t342 t345 w _ ?side1 ?side2 A3.out).mono ?_); (case side1 => exact y24 HI341.out NB341_338.out); (case side2 => exact y23 HB.out HI341.out GE338.out); rintro e w6 ⟨v343, rfl, ho0, hi, hb, hk⟩; refine ⟨_, rfl, ?_⟩; have HO344 := Aside0.mk (Kd.N_lower (Kd.N_mono (ok' := fun k_ => (w.heap.size ≤ k_) ∧ k_ ≠ gb338 ∧ k_ ≠ g341) ho0 (fun k_ hk_ => ⟨(Nat.le_trans (below_size (y23 HB.out HI341.out GE338.out)) hk_), (Kd.freshB (g := gb338) (o := .cells #[.slice none 0 0] 30 (0, 0)) (y0 BK338.out) k_ hk_), (IsS95.fresh (y24 HI341.out NB341_338.out) k_ hk_)⟩)) (below_size (y23 HB.out HI341.out GE338.out))); replace BK338 := Aside0.mk (KeepBut.blk hk (g' := gb338) (o := .cells #[.slice none 0 0] 30 (0, 0)) (y0 BK338.out) NB338_341.out (by simp)); replace HB := Aside0.mk (hb); replace HI341 := Aside0.mk (hi); (try clear hb); (try clear hb2); (try clear hk); (try clear hi); (try clear ho0); obtain ⟨Ao7, co7, eo7⟩ := Kd.N_slice HO344.out; subst eo7; have hnb8 := NB338_341.out; have hnc8 := NB341_338.out; have hcz9_0 := zh BK338; have hfz9_0 := zfr BK338 0))
 refine bodyPost_ret (results_cell_row rfl _ _ gb338 30 #[.slice Ao7 t342.length co7] (0, 0) _ rfl (by (with_reducible repeat (first | refine blk_drewN ?_ _ | refine blk_drew ?_ | refine blk_alloc ?_ _)); apply blk_put (i := 0); (case h => exact y0 BK338.out); (case e => rfl)) Try.underlying30 rfl (by kernel_rfl)) rfl ?_
 exact ⟨_, y14, (by (with_reducible repeat (first | apply Kd.N_alloc | apply Kd.N_drewN | apply Kd.N_drew)); exact Kd.N_mono (Kd.N_far (p := ⟨gb338, 0, none⟩) (Kd.N_mono HO344.out (fun k_ hk => (⟨hk, hk.2.1⟩ : _ ∧ k_ ≠ gb338))) (fun _ hk => hk.2) (.slice Ao7 t342.length co7)) (fun _ hk => hk.1.1)), (y23 HB.out HI341.out GE338.out)⟩
end Go.Proofs.Ytjhbhihfifhljaa.PA
end
section
namespace Go.Proofs.Ytjhbhihfifhljaa.PA
open Go.RowKit Go.Proofs.YtjhbhihfifhljaaW.PrintWords Go.Proofs.YtjhbhihfifhljaaW.PrintLast Go.Proofs.YtjhbhihfifhljaaW.PrintMore
attribute [local go_sem] max2_int min2_int max_two min_two max_three min_three max_four min_four
set_option linter.unusedVariables false
set_option linter.unusedSimpArgs false
mutual
def laws_lhType.l0 : Nat → Int → List (S30) → List (S30) → Option (Bool)
 | 0, _, _, _ => none
 | k + 1, x5, x347000, x348000 => if x5 < (x347000.length : Int) then (if 0 ≤ x5 then (if x5 < (x348000.length : Int) then ((laws_lhType.f k ((rd_T30 x347000 x5).f0) ((rd_T30 x348000 x5).f0)).bind fun t350 => (if t350 = true then (laws_lhType.l0 k (wrap64 (x5 + 1)) x347000 x348000) else (some false))) else (none)) else (none)) else (some true)
def laws_lhType.f : Nat → List (S30) → List (S30) → Option (Bool)
 | 0, _, _ => none
 | k + 1, l0_0, l1_0 => if (l0_0.length : Int) = (l1_0.length : Int) then (laws_lhType.l0 k 0 l0_0 l1_0) else (some false)
end
theorem laws_lhType.mono_l : ∀ k, (∀ y0 y1, LeO (laws_lhType.f k y0 y1) (laws_lhType.f (k + 1) y0 y1)) ∧ (∀ y0 y1 y2, LeO (laws_lhType.l0 k y0 y1 y2) (laws_lhType.l0 (k + 1) y0 y1 y2))
 | 0 => ⟨fun _ _ r h => by simp [laws_lhType.f] at h, fun _ _ _ r h => by simp [laws_lhType.l0] at h⟩
 | k + 1 => by
  obtain ⟨ih0, ih1⟩ := laws_lhType.mono_l k
  refine ⟨?_, ?_⟩
  ·intro y0 y1
   unfold laws_lhType.f
   repeat' first
   | (with_reducible exact ih0 _ _)
   | (with_reducible exact ih1 _ _ _)
   | (with_reducible exact LeO.refl _)
   | (with_reducible exact LeO.none _)
   | (with_reducible refine LeO.ite ?_ ?_)
   | (with_reducible refine LeO.bind ?_ (fun _ => ?_))
   | exact ih0 _ _
   | exact ih1 _ _ _
   | exact LeO.none _
   | refine LeO.ite ?_ ?_
   | refine LeO.bind ?_ (fun _ => ?_)
  ·intro y0 y1 y2
   unfold laws_lhType.l0
   repeat' first
   | (with_reducible exact ih0 _ _)
   | (with_reducible exact ih1 _ _ _)
   | (with_reducible exact LeO.refl _)
   | (with_reducible exact LeO.none _)
   | (with_reducible refine LeO.ite ?_ ?_)
   | (with_reducible refine LeO.bind ?_ (fun _ => ?_))
   | exact ih0 _ _
   | exact ih1 _ _ _
   | exact LeO.none _
   | refine LeO.ite ?_ ?_
   | refine LeO.bind ?_ (fun _ => ?_)
theorem laws_lhType.mono : ∀ a0 a1 k, LeO (laws_lhType.f k a0 a1) (laws_lhType.f (k + 1) a0 a1) := by
 intro a0 a1 k
 obtain ⟨ih0, ih1⟩ := laws_lhType.mono_l k
 exact ih0 a0 a1
def laws_lhType.T6 : Bool × List (List Nat × List Nat) := (true, [([], []), ([0], [0]), ([], []), ([1, 2], [1, 2]), ([3], [3]), ([], []), ([5], [5]), ([], []), ([6, 7], [6, 7]), ([8], [8]), ([4, 9], [4, 9]), ([10], [10])])
def laws_lhType.B6 : List Nat := [0, 1, 0, 7, 15, 0, 32, 0, 224, 480, 1023, 2047]
theorem laws_lhType.tab6 : rtab .any (opsOf Try.f25 6) = laws_lhType.T6 := by kernel_rfl
theorem laws_lhType.bits6 : waitsOk laws_lhType.T6.2 laws_lhType.B6 = true := by kernel_rfl
set_option maxHeartbeats 8000000 in
set_option maxRecDepth 100000 in
theorem laws_lhType.calls (k : Nat) : ∀ (A0_0 : Option Addr) (c0_0 : Nat) (l0_0 : List (S30)) (A1_0 : Option Addr) (c1_0 : Nat) (l1_0 : List (S30)) (r : Bool) (w : World) (hr0_0 : Kd.C k30 w A0_0 l0_0.length l0_0) (hc0_0 : l0_0.length ≤ c0_0) (hr1_0 : Kd.C k30 w A1_0 l1_0.length l1_0) (hc1_0 : l1_0.length ≤ c1_0) (h : laws_lhType.f k l0_0 l1_0 = some r),
  Calls Try.prog 25 #[.agg #[.slice A0_0 l0_0.length c0_0], .agg #[.slice A1_0 l1_0.length c1_0]] w fun e w' => e = .returned (.bool r) ∧ Below w.heap.size w w' := by
 induction k using Nat.strongRecOn with
 | _ k ih =>
 intro A0_0 c0_0 l0_0 A1_0 c1_0 l1_0 r w hr0_0 hc0_0 hr1_0 hc1_0 h
 cases k with
 | zero => exact absurd h (by simp [laws_lhType.f])
 | succ k =>
 simp only [laws_lhType.f] at h
 have hu30 := Try.underlying30
 have HR0_0 := Aside0.mk hr0_0
 have HC0_0 := Aside0.mk hc0_0
 clear hr0_0 hc0_0
 have HR1_0 := Aside0.mk hr1_0
 have HC1_0 := Aside0.mk hc1_0
 clear hr1_0 hc1_0
 have HB := Aside0.mk (Below.refl w.heap.size w)
 have H : (if (l0_0.length : Int) = (l1_0.length : Int) then (laws_lhType.l0 k 0 l0_0 l1_0) else (some false)) = some r := h
 clear h
 by_cases c3 : (l0_0.length : Int) = (l1_0.length : Int)
 ·rw [if_pos c3] at H
  have c3b0 : ((l0_0.length : Int) == (l1_0.length : Int)) = true := beq_iff_eq.mpr c3
  have c3b1 : ((l0_0.length : Int) != (l1_0.length : Int)) = false := bne_eq_false_iff_eq.mpr c3
  have c3b2 : (l0_0.length == l1_0.length) = true := by first | simpa using c3 | (simp at c3 ⊢; omega)
  clear c3
  have H' := Aside0.mk H
  clear H
  go_enter Try.func25, Try.ntmps25
  go_wp2_with (first | ((with_reducible refine gate_dst (N := 2) rfl ?_); refine zbx 2 #[.slice A0_0 l0_0.length c0_0] 30 ?_; intro gb346 hg w4 hbox hb; have BK346 := Aside0.mk hbox; have GW346 := Aside0.mk ((y5 hg HB.out : w.heap.size ≤ gb346)); have GE346 := Aside0.mk ((y5 hg HB.out : w.heap.size ≤ gb346)); replace HB := Aside0.mk (below_step (y2 HB.out) hb); clear hb hbox hg) | ((with_reducible refine gate_dst (N := 3) rfl ?_); refine zbx 3 #[.slice A1_0 l1_0.length c1_0] 30 ?_; intro gb347 hg w5 hbox hb; have BK347 := Aside0.mk hbox; have GW347 := Aside0.mk ((y6 hg HB.out GE346.out : w.heap.size ≤ gb347)); have GE347 := Aside0.mk ((y6 hg HB.out GE346.out : w.heap.size ≤ gb347)); replace HB := Aside0.mk (below_step (y3 HB.out GE346.out) hb); have NB346_347 := zltn hg BK346; have NB347_346 := zgtn hg BK346; replace BK346 := zbb BK346 hb; clear hb hbox hg; have hnb6 := NB346_347.out; have hnc6 := NB347_346.out; have hcz7_0 := zh BK346; have hfz7_0 := zfr BK346 0; have hcz8_0 := zh BK347; have hfz8_0 := zfr BK347 0))
  go_loopg [5] k (fun kq v5 w' => ∃ (x5_1 : Int), v5 = .int .i64 x5_1 ∧ Aside0 (laws_lhType.l0 kq x5_1 l0_0 l1_0 = some r) ∧ Aside0 (kq ≤ k) ∧ Aside0 (w'.heap[gb346]? = some (.cells #[(.slice A0_0 l0_0.length c0_0)] 30 (0, 0))) ∧ Aside0 (w'.heap[gb347]? = some (.cells #[(.slice A1_0 l1_0.length c1_0)] 30 (0, 0))) ∧ Aside0 (Below w.heap.size w w'))
  case atStart => exact ⟨(0), y26, H', ⟨Nat.le_refl _⟩, ⟨(y0 BK346.out)⟩, ⟨(y0 BK347.out)⟩, ⟨(y1 HB.out GE346.out GE347.out)⟩⟩
  case round =>
   clear H'
   try clear c1
   try clear c2
   try clear p2
   try clear c3
   try clear c3b0
   try clear c3b1
   try clear c3b2
   try clear c6
   try clear hcz7_0
   try clear hcz8_0
   try clear hfz7_0
   try clear hfz8_0
   obtain ⟨x5_1, rfl, HA, HK1, BK346, BK347, HB⟩ := hrel
   cases gk with
   | zero => exact absurd HA.out (by simp [laws_lhType.l0])
   | succ k1 =>
    have H := HA.out
    clear HA
    simp only [laws_lhType.l0] at H
    by_cases c9 : x5_1 < (l0_0.length : Int)
    ·rw [if_pos c9] at H
     have c9b0 : decide (x5_1 < (l0_0.length : Int)) = true := decide_eq_true c9
     clear c9
     by_cases c10 : 0 ≤ x5_1
     ·rw [if_pos c10] at H
      have c10b0 : decide (0 ≤ x5_1) = true := decide_eq_true c10
      clear c10
      by_cases c11 : x5_1 < (l1_0.length : Int)
      ·rw [if_pos c11] at H
       have c11b0 : decide (x5_1 < (l1_0.length : Int)) = true := decide_eq_true c11
       clear c11
       obtain ⟨t350, A120, H⟩ := ob H
       have A12 := Aside0.mk A120
       clear A120
       by_cases c13 : t350 = true
       ·subst c13
        rw [if_pos rfl] at H
        have H' := Aside0.mk H
        clear H
        have hnb14 := NB346_347.out
        have hnc14 := NB347_346.out
        have hcz15_0 := zh BK346
        have hfz15_0 := zfr BK346 0
        try go_wp2
        replace BK346 := Aside0.mk (blk_drew BK346.out)
        replace BK347 := Aside0.mk (blk_drew BK347.out)
        replace HB := Aside0.mk (below_drew1 HB.out)
        have p348 : 0 ≤ (x5_1 : Int) := of_decide_eq_true y19
        have q348 : x5_1 < (l0_0.length : Int) := of_decide_eq_true y19
        obtain ⟨ad348, A348_0, c348_0, e348, hx348_0, hl348_0, hi348_0⟩ := at_T30 HR0_0.out x5_1 p348 q348
        have hw348_0 := hx348_0
        cases e348
        replace hx348_0 := (HB.out.cell (World.block_lt_of_cell? w _ hx348_0)).trans hx348_0
        have HR348_0 := Aside0.mk hi348_0
        have HC348_0 := Aside0.mk hl348_0
        clear hi348_0 hl348_0
        replace p348 := eq_true p348
        replace q348 := eq_true q348
        have p349 : 0 ≤ (x5_1 : Int) := of_decide_eq_true y19
        have q349 : x5_1 < (l1_0.length : Int) := of_decide_eq_true y19
        obtain ⟨ad349, A349_0, c349_0, e349, hx349_0, hl349_0, hi349_0⟩ := at_T30 HR1_0.out x5_1 p349 q349
        have hw349_0 := hx349_0
        cases e349
        replace hx349_0 := (HB.out.cell (World.block_lt_of_cell? w _ hx349_0)).trans hx349_0
        have HR349_0 := Aside0.mk hi349_0
        have HC349_0 := Aside0.mk hl349_0
        clear hi349_0 hl349_0
        replace p349 := eq_true p349
        replace q349 := eq_true q349
        refine start_ (n := 12) (S := fun w' => w'.cell? ⟨gb346, 0, none⟩ = some (.slice (some ad348) l0_0.length c0_0) ∧ w'.cell? ⟨gb347, 0, none⟩ = some (.slice (some ad349) l1_0.length c1_0) ∧ w'.cell? (ad348.add (x5_1).toNat) = some (.slice A348_0 ((rd_T30 l0_0 x5_1).f0).length c348_0) ∧ w'.cell? (ad349.add (x5_1).toNat) = some (.slice A349_0 ((rd_T30 l1_0 x5_1).f0).length c349_0)) (ds := []) #[false, false, false, false, false, false, false, false, false, false, false, false] (by kernel_rfl) rfl rfl ⟨(blk_cell BK346.out 0).trans rfl, (blk_cell BK347.out 0).trans rfl, ((HB.out.cell (World.block_lt_of_cell? w _ hw348_0)).trans hw348_0), ((HB.out.cell (World.block_lt_of_cell? w _ hw349_0)).trans hw349_0)⟩ (fun hHeld => ?_); refine with_tabW laws_lhType.tab6 laws_lhType.bits6 (fun HT_ HW_ => ?_)
        generalize wr.drew = w16 at BK346 BK347 HB HR348_0 HR349_0 hx348_0 hx349_0 hHeld ⊢
        refine zp 0 (some 20) HT_ ?_
        refine zp 2 (some 22) HT_ ?_
        refine zp 5 (some 25) HT_ ?_
        refine zp 7 (some 27) HT_ ?_
        refine zt4 1 (some 21) HT_ HW_ hHeld ?_
        refine zp 3 (some 23) HT_ ?_
        refine zt4 4 (some 24) HT_ HW_ hHeld ?_
        refine zt4 6 (some 26) HT_ HW_ hHeld ?_
        refine zp 8 (some 28) HT_ ?_
        refine zt4 9 (some 29) HT_ HW_ hHeld ?_
        refine one_ (i := 10) (N := some 30) #[true, true, true, true, true, true, true, true, true, true, true, false] rfl rfl (one_of HT_.out (by kernel_rfl)) (by decide) (fun K hK => ?_)
        refine goes_ Try.func25 (by kernel_rfl) rfl #[.agg #[.slice A348_0 ((rd_T30 l0_0 x5_1).f0).length c348_0], .agg #[.slice A349_0 ((rd_T30 l1_0 x5_1).f0).length c349_0]] (by rfl) rfl rfl y4 ?_
        with_reducible refine (ih k1 (y46 HK1.out) _ _ ((rd_T30 l0_0 x5_1).f0) _ _ ((rd_T30 l1_0 x5_1).f0) true _ ?side1 ?side2 ?side3 ?side4 A12.out).mono ?_
        (case side1 => exact y8 HR348_0.out HB.out)
        (case side2 => exact HC348_0.out)
        (case side3 => exact y8 HR349_0.out HB.out)
        (case side4 => exact HC349_0.out)
        rintro e w17 ⟨rfl, hb⟩
        refine ⟨_, rfl, ?_⟩
        replace BK346 := zbb BK346 hb
        replace BK347 := zbb BK347 hb
        replace HB := Aside0.mk (below_step (y1 HB.out GE346.out GE347.out) hb)
        (try clear hb)
        (try clear hb2)
        (try clear hk)
        (try clear hi)
        refine hK.out _ _ ⟨(blk_cell BK346.out 0).trans rfl, (blk_cell BK347.out 0).trans rfl, ((HB.out.cell (World.block_lt_of_cell? w _ hw348_0)).trans hw348_0), ((HB.out.cell (World.block_lt_of_cell? w _ hw349_0)).trans hw349_0)⟩ (fun hHeld => ?_)
        clear hK K
        refine norm_ (a' := ?_) ?_ ?_
        rotate_left
        ·show Act.put _ (some 30) _ = _
         simp only [Act.put, List.setIfInBounds_toArray, List.set_cons_zero, List.set_cons_succ, i64_w, i32_w]
         rfl
        refine zp 11 (some 31) HT_ ?_
        refine done_ (done_of HT_.out (by kernel_rfl)) ?_
        try go_wp2
        go_roundg k1
        case measure => have := HK1.out; omega
        case rel => exact ⟨(wrap64 (x5_1 + 1)), y26, H', ⟨(y46 HK1.out)⟩, ⟨(y0 BK346.out)⟩, ⟨(y0 BK347.out)⟩, ⟨(y1 HB.out GE346.out GE347.out)⟩⟩
       ·replace c13 := Bool.eq_false_iff.mpr c13
        subst c13
        rw [if_neg (show ¬ (false = true) by decide)] at H
        obtain rfl := Option.some.inj H
        have hnb18 := NB346_347.out
        have hnc18 := NB347_346.out
        have hcz19_0 := zh BK346
        have hfz19_0 := zfr BK346 0
        try go_wp2
        replace BK346 := Aside0.mk (blk_drew BK346.out)
        replace BK347 := Aside0.mk (blk_drew BK347.out)
        replace HB := Aside0.mk (below_drew1 HB.out)
        have p348 : 0 ≤ (x5_1 : Int) := of_decide_eq_true y19
        have q348 : x5_1 < (l0_0.length : Int) := of_decide_eq_true y19
        obtain ⟨ad348, A348_0, c348_0, e348, hx348_0, hl348_0, hi348_0⟩ := at_T30 HR0_0.out x5_1 p348 q348
        have hw348_0 := hx348_0
        cases e348
        replace hx348_0 := (HB.out.cell (World.block_lt_of_cell? w _ hx348_0)).trans hx348_0
        have HR348_0 := Aside0.mk hi348_0
        have HC348_0 := Aside0.mk hl348_0
        clear hi348_0 hl348_0
        replace p348 := eq_true p348
        replace q348 := eq_true q348
        have p349 : 0 ≤ (x5_1 : Int) := of_decide_eq_true y19
        have q349 : x5_1 < (l1_0.length : Int) := of_decide_eq_true y19
        obtain ⟨ad349, A349_0, c349_0, e349, hx349_0, hl349_0, hi349_0⟩ := at_T30 HR1_0.out x5_1 p349 q349
        have hw349_0 := hx349_0
        cases e349
        replace hx349_0 := (HB.out.cell (World.block_lt_of_cell? w _ hx349_0)).trans hx349_0
        have HR349_0 := Aside0.mk hi349_0
        have HC349_0 := Aside0.mk hl349_0
        clear hi349_0 hl349_0
        replace p349 := eq_true p349
        replace q349 := eq_true q349
        refine start_ (n := 12) (S := fun w' => w'.cell? ⟨gb346, 0, none⟩ = some (.slice (some ad348) l0_0.length c0_0) ∧ w'.cell? ⟨gb347, 0, none⟩ = some (.slice (some ad349) l1_0.length c1_0) ∧ w'.cell? (ad348.add (x5_1).toNat) = some (.slice A348_0 ((rd_T30 l0_0 x5_1).f0).length c348_0) ∧ w'.cell? (ad349.add (x5_1).toNat) = some (.slice A349_0 ((rd_T30 l1_0 x5_1).f0).length c349_0)) (ds := []) #[false, false, false, false, false, false, false, false, false, false, false, false] (by kernel_rfl) rfl rfl ⟨(blk_cell BK346.out 0).trans rfl, (blk_cell BK347.out 0).trans rfl, ((HB.out.cell (World.block_lt_of_cell? w _ hw348_0)).trans hw348_0), ((HB.out.cell (World.block_lt_of_cell? w _ hw349_0)).trans hw349_0)⟩ (fun hHeld => ?_); refine with_tabW laws_lhType.tab6 laws_lhType.bits6 (fun HT_ HW_ => ?_)
        generalize wr.drew = w20 at BK346 BK347 HB HR348_0 HR349_0 hx348_0 hx349_0 hHeld ⊢
        refine zp 0 (some 20) HT_ ?_
        refine zp 2 (some 22) HT_ ?_
        refine zp 5 (some 25) HT_ ?_
        refine zp 7 (some 27) HT_ ?_
        refine zt4 1 (some 21) HT_ HW_ hHeld ?_
        refine zp 3 (some 23) HT_ ?_
        refine zt4 4 (some 24) HT_ HW_ hHeld ?_
        refine zt4 6 (some 26) HT_ HW_ hHeld ?_
        refine zp 8 (some 28) HT_ ?_
        refine zt4 9 (some 29) HT_ HW_ hHeld ?_
        refine one_ (i := 10) (N := some 30) #[true, true, true, true, true, true, true, true, true, true, true, false] rfl rfl (one_of HT_.out (by kernel_rfl)) (by decide) (fun K hK => ?_)
        refine goes_ Try.func25 (by kernel_rfl) rfl #[.agg #[.slice A348_0 ((rd_T30 l0_0 x5_1).f0).length c348_0], .agg #[.slice A349_0 ((rd_T30 l1_0 x5_1).f0).length c349_0]] (by rfl) rfl rfl y4 ?_
        with_reducible refine (ih k1 (y46 HK1.out) _ _ ((rd_T30 l0_0 x5_1).f0) _ _ ((rd_T30 l1_0 x5_1).f0) false _ ?side1 ?side2 ?side3 ?side4 A12.out).mono ?_
        (case side1 => exact y8 HR348_0.out HB.out)
        (case side2 => exact HC348_0.out)
        (case side3 => exact y8 HR349_0.out HB.out)
        (case side4 => exact HC349_0.out)
        rintro e w21 ⟨rfl, hb⟩
        refine ⟨_, rfl, ?_⟩
        replace BK346 := zbb BK346 hb
        replace BK347 := zbb BK347 hb
        replace HB := Aside0.mk (below_step (y1 HB.out GE346.out GE347.out) hb)
        (try clear hb)
        (try clear hb2)
        (try clear hk)
        (try clear hi)
        refine hK.out _ _ ⟨(blk_cell BK346.out 0).trans rfl, (blk_cell BK347.out 0).trans rfl, ((HB.out.cell (World.block_lt_of_cell? w _ hw348_0)).trans hw348_0), ((HB.out.cell (World.block_lt_of_cell? w _ hw349_0)).trans hw349_0)⟩ (fun hHeld => ?_)
        clear hK K
        refine norm_ (a' := ?_) ?_ ?_
        rotate_left
        ·show Act.put _ (some 30) _ = _
         simp only [Act.put, List.setIfInBounds_toArray, List.set_cons_zero, List.set_cons_succ, i64_w, i32_w]
         rfl
        refine zp 11 (some 31) HT_ ?_
        refine done_ (done_of HT_.out (by kernel_rfl)) ?_
        try go_wp2
        go_ret
        exact ⟨y14, (y1 HB.out GE346.out GE347.out)⟩
      ·rw [if_neg c11] at H
       exact absurd H (by simp)
     ·rw [if_neg c10] at H
      exact absurd H (by simp)
    ·rw [if_neg c9] at H
     have c9b0 : decide (x5_1 < (l0_0.length : Int)) = false := decide_eq_false c9
     clear c9
     obtain rfl := Option.some.inj H
     have hnb22 := NB346_347.out
     have hnc22 := NB347_346.out
     have hcz23_0 := zh BK346
     have hfz23_0 := zfr BK346 0
     go_wp2
     go_ret
     exact ⟨y14, (y1 HB.out GE346.out GE347.out)⟩
 ·rw [if_neg c3] at H
  have c3b0 : ((l0_0.length : Int) == (l1_0.length : Int)) = false := beq_eq_false_iff_ne.mpr c3
  have c3b1 : ((l0_0.length : Int) != (l1_0.length : Int)) = true := bne_iff_ne.mpr c3
  have c3b2 : (l0_0.length == l1_0.length) = false := by first | simpa using c3 | (simp at c3 ⊢; omega)
  obtain rfl := Option.some.inj H
  go_enter Try.func25, Try.ntmps25
  go_wp2_with (first | ((with_reducible refine gate_dst (N := 2) rfl ?_); refine zbx 2 #[.slice A0_0 l0_0.length c0_0] 30 ?_; intro gb346 hg w24 hbox hb; have BK346 := Aside0.mk hbox; have GW346 := Aside0.mk ((y5 hg HB.out : w.heap.size ≤ gb346)); have GE346 := Aside0.mk ((y5 hg HB.out : w.heap.size ≤ gb346)); replace HB := Aside0.mk (below_step (y2 HB.out) hb); clear hb hbox hg) | ((with_reducible refine gate_dst (N := 3) rfl ?_); refine zbx 3 #[.slice A1_0 l1_0.length c1_0] 30 ?_; intro gb347 hg w25 hbox hb; have BK347 := Aside0.mk hbox; have GW347 := Aside0.mk ((y6 hg HB.out GE346.out : w.heap.size ≤ gb347)); have GE347 := Aside0.mk ((y6 hg HB.out GE346.out : w.heap.size ≤ gb347)); replace HB := Aside0.mk (below_step (y3 HB.out GE346.out) hb); have NB346_347 := zltn hg BK346; have NB347_346 := zgtn hg BK346; replace BK346 := zbb BK346 hb; clear hb hbox hg; have hnb26 := NB346_347.out; have hnc26 := NB347_346.out; have hcz27_0 := zh BK346; have hfz27_0 := zfr BK346 0; have hcz28_0 := zh BK347; have hfz28_0 := zfr BK347 0))
  go_ret
  exact ⟨y14, (y1 HB.out GE346.out GE347.out)⟩
end Go.Proofs.Ytjhbhihfifhljaa.PA
end
section
namespace Go.Proofs.Ytjhbhihfifhljaa.Types
open Go.RowKit Go.Proofs.Ytjhbhihfifhljaa.PA Go.Proofs.YtjhbhihfifhljaaW.PrintWords Go.Proofs.YtjhbhihfifhljaaW.PrintLast Go.Proofs.Ytjhbhihfifhljaa.Draw
abbrev Ty := List S30
theorem rd0 (a : S30) (l : Ty) : rd_T30 (a :: l) 0 = a := rfl
theorem rd1 (a b : S30) (l : Ty) : rd_T30 (a :: b :: l) 1 = b := rfl
def dp : Nat → Ty → Bool
  | 0, _ => false
  | _ + 1, [] => true
  | n + 1, [a, b] => dp n a.f0 && dp n b.f0
  | _ + 1, _ => false
theorem dp_nil (n : Nat) : dp (n + 1) [] = true := rfl
theorem dp_two (n : Nat) (a b : S30) : dp (n + 1) [a, b] = (dp n a.f0 && dp n b.f0) := rfl
theorem dp_odd (n : Nat) (l : Ty) (h0 : l.length ≠ 0) (h2 : l.length ≠ 2) : dp n l = false := by
  cases n with
  | zero => rfl
  | succ n =>
    match l with
    | [] => simp at h0
    | [_] => rfl
    | [_, _] => simp at h2
    | _ :: _ :: _ :: _ => rfl
theorem two_of {l : Ty} (h : l.length = 2) : ∃ a b, l = [a, b] := by
  match l with
  | [a, b] => exact ⟨a, b, rfl⟩
theorem shape (l : Ty) : l = [] ∨ (∃ a b, l = [a, b]) ∨ (l.length ≠ 0 ∧ l.length ≠ 2) := by
  match l with
  | [] => exact .inl rfl
  | [_] => exact .inr (.inr ⟨by simp, by simp⟩)
  | [a, b] => exact .inr (.inl ⟨a, b, rfl⟩)
  | _ :: _ :: _ :: _ => exact .inr (.inr ⟨by simp, by simp⟩)
theorem pred_cast (n : Nat) (hn : n ≤ 1000) : wrap64 (((n + 1 : Nat) : Int) - 1) = (n : Int) := by rw [w64 (by omega) (by omega)]; omega
theorem deep_ev : ∀ (n : Nat), n ≤ 1000 → ∀ (l : Ty) (k : Nat), 5 * n + 3 ≤ k → spec_l1Deep.f k l n = some (dp n l) := by
  intro n
  induction n with
  | zero =>
    intro _ l k hk
    obtain ⟨k, rfl⟩ : ∃ m, k = m + 2 := ⟨k - 2, by omega⟩
    simp only [spec_l1Deep.f]
    rw [if_pos (by omega)]
    simp only [spec_l1Deep.j0, if_true]
    rfl
  | succ n ih =>
    intro hn l k hk
    obtain ⟨k, rfl⟩ : ∃ m, k = m + 5 := ⟨k - 5, by omega⟩
    have hp := pred_cast n (by omega)
    simp only [spec_l1Deep.f]
    rw [if_neg (by omega)]
    rcases shape l with rfl | ⟨a, b, rfl⟩ | ⟨h0, h2⟩
    · rw [if_pos (by simp)]
      simp only [spec_l1Deep.j0, spec_l1Deep.l0]
      rw [if_neg (by simp), if_neg (by simp)]
      rfl
    · rw [if_neg (by simp)]
      simp only [spec_l1Deep.j0]
      rw [if_neg (by simp)]
      simp only [spec_l1Deep.l0, hp, w01, w12]
      rw [if_pos (by simp), if_pos (by omega), rd0, ih (by omega) _ _ (by omega), dp_two]
      simp only [Option.bind_some]
      cases ha : dp n a.f0 with
      | false => simp
      | true =>
        rw [if_pos rfl, if_pos (by simp), if_pos (by omega), rd1, ih (by omega) _ _ (by omega)]
        simp only [Option.bind_some]
        cases hb : dp n b.f0 with
        | false => simp
        | true => rw [if_pos rfl, if_neg (by simp)]; rfl
    · rw [if_neg (by omega), dp_odd _ _ h0 h2]
      simp only [spec_l1Deep.j0]
      rw [if_pos (by simp; omega)]
theorem specOk_ev (l : Ty) (k : Nat) (hk : 23 ≤ k) : spec_TypeOk.f k l = some (dp 4 l) := by
  unfold spec_TypeOk.f
  rw [show (4 : Int) = ((4 : Nat) : Int) from rfl, deep_ev 4 (by omega) l k (by omega)]; rfl
theorem fits_ev : ∀ (n : Nat), n ≤ 1000 → ∀ (l : Ty) (k : Nat), n + 1 ≤ k → impl_typeFits.f k l n = some (dp n l) := by
  intro n
  induction n with
  | zero =>
    intro _ l k hk
    obtain ⟨k, rfl⟩ : ∃ m, k = m + 1 := ⟨k - 1, by omega⟩
    simp only [impl_typeFits.f]
    rw [if_pos (by omega)]; rfl
  | succ n ih =>
    intro hn l k hk
    obtain ⟨k, rfl⟩ : ∃ m, k = m + 1 := ⟨k - 1, by omega⟩
    have hp := pred_cast n (by omega)
    simp only [impl_typeFits.f]
    rw [if_neg (by omega)]
    rcases shape l with rfl | ⟨a, b, rfl⟩ | ⟨h0, h2⟩
    · rw [if_pos (by simp)]; rfl
    · rw [if_neg (by simp), if_pos (by simp), if_pos (by simp), hp, rd0, ih (by omega) _ _ (by omega), dp_two]
      simp only [Option.bind_some]
      cases ha : dp n a.f0 with
      | false => simp
      | true => rw [if_pos rfl, if_pos (by simp), rd1, ih (by omega) _ _ (by omega)]; simp
    · rw [if_neg (by omega), if_neg (by omega), dp_odd _ _ h0 h2]
theorem implOk_ev (l : Ty) (k : Nat) (hk : 5 ≤ k) : impl_TypeOk.f k l = some (dp 4 l) := by
  unfold impl_TypeOk.f
  rw [show (4 : Int) = ((4 : Nat) : Int) from rfl, fits_ev 4 (by omega) l k (by omega)]; rfl
def tx : Nat → Ty → ByteArray
  | n + 1, [a, b] => ((((⟨#[40]⟩ : ByteArray) ++ tx n a.f0) ++ (⟨#[44]⟩ : ByteArray)) ++ tx n b.f0) ++ (⟨#[41]⟩ : ByteArray)
  | _, _ => ⟨#[105]⟩
theorem tx_two (n : Nat) (a b : S30) : tx (n + 1) [a, b] = ((((⟨#[40]⟩ : ByteArray) ++ tx n a.f0) ++ (⟨#[44]⟩ : ByteArray)) ++ tx n b.f0) ++ (⟨#[41]⟩ : ByteArray) := rfl
theorem tx_nil (n : Nat) : tx n [] = ⟨#[105]⟩ := by cases n <;> rfl
theorem tx_size (n : Nat) : ∀ l, (tx n l).size + 3 ≤ 4 * 2 ^ n := by
  induction n with
  | zero => intro l; simp [tx]; decide
  | succ n ih =>
    intro l
    have hp : 1 ≤ 2 ^ n := Nat.one_le_two_pow
    have h1 : (⟨#[105]⟩ : ByteArray).size = 1 := rfl
    rw [Nat.pow_succ]
    match l with
    | [a, b] =>
      have ha := ih a.f0
      have hb := ih b.f0
      rw [tx_two]
      simp only [ByteArray.size_append, show (⟨#[40]⟩ : ByteArray).size = 1 from rfl, show (⟨#[44]⟩ : ByteArray).size = 1 from rfl, show (⟨#[41]⟩ : ByteArray).size = 1 from rfl]
      omega
    | [] => show (⟨#[105]⟩ : ByteArray).size + 3 ≤ _; omega
    | [_] => show (⟨#[105]⟩ : ByteArray).size + 3 ≤ _; omega
    | _ :: _ :: _ :: _ => show (⟨#[105]⟩ : ByteArray).size + 3 ≤ _; omega
theorem say_ev : ∀ (n : Nat), n ≤ 20 → ∀ (l : Ty) (k : Nat), dp n l = true → n + 1 ≤ k → spec_l1Say.f k l = some (tx n l) := by
  intro n
  induction n with
  | zero => intro _ l k h; simp [dp] at h
  | succ n ih =>
    intro hn l k h hk
    obtain ⟨k, rfl⟩ : ∃ m, k = m + 1 := ⟨k - 1, by omega⟩
    simp only [spec_l1Say.f]
    rcases shape l with rfl | ⟨a, b, rfl⟩ | ⟨h0, h2⟩
    · rw [if_pos (by simp)]; rfl
    · rw [dp_two, Bool.and_eq_true] at h
      have s1 := tx_size n a.f0
      have s2 := tx_size n b.f0
      have hup : 2 ^ n ≤ 2 ^ 20 := Nat.pow_le_pow_right (by decide) (by omega)
      have e20 : (2 : Nat) ^ 20 = 1048576 := rfl
      rw [if_neg (by simp), if_pos (by simp), rd0, ih (by omega) _ _ h.1 (by omega)]
      simp only [Option.bind_some]
      rw [if_pos (by omega), if_pos (by omega), if_pos (by simp), rd1, ih (by omega) _ _ h.2 (by omega)]
      simp only [Option.bind_some]
      rw [if_pos (by omega), if_pos (by omega), tx_two]
    · rw [dp_odd _ _ h0 h2] at h; cases h
theorem words_ev : ∀ (n : Nat), n ≤ 20 → ∀ (l : Ty) (k : Nat), dp n l = true → n + 1 ≤ k → impl_typeWords.f k l = some (tx n l) := by
  intro n
  induction n with
  | zero => intro _ l k h; simp [dp] at h
  | succ n ih =>
    intro hn l k h hk
    obtain ⟨k, rfl⟩ : ∃ m, k = m + 1 := ⟨k - 1, by omega⟩
    simp only [impl_typeWords.f, impl_typeIsNum.f, Option.bind_some]
    rcases shape l with rfl | ⟨a, b, rfl⟩ | ⟨h0, h2⟩
    · rw [if_pos (by simp)]; rfl
    · rw [dp_two, Bool.and_eq_true] at h
      have s1 := tx_size n a.f0
      have s2 := tx_size n b.f0
      have hup : 2 ^ n ≤ 2 ^ 20 := Nat.pow_le_pow_right (by decide) (by omega)
      have e20 : (2 : Nat) ^ 20 = 1048576 := rfl
      rw [if_neg (by simp), if_pos (by simp), rd0, ih (by omega) _ _ h.1 (by omega)]
      simp only [Option.bind_some]
      rw [if_pos (by omega), if_pos (by omega), if_pos (by simp), rd1, ih (by omega) _ _ h.2 (by omega)]
      simp only [Option.bind_some]
      rw [if_pos (by omega), if_pos (by omega), tx_two]
    · rw [dp_odd _ _ h0 h2] at h; cases h
def text (l : Ty) : ByteArray := if dp 4 l = true then tx 4 l else ⟨#[]⟩
theorem specText_ev (l : Ty) (k : Nat) (hk : 23 ≤ k) : spec_TypeText.f k l = some (text l) := by
  unfold spec_TypeText.f text
  rw [specOk_ev l k hk]
  simp only [Option.bind_some]
  by_cases h : dp 4 l = true
  · rw [if_pos h, if_pos h, say_ev 4 (by omega) l k h (by omega)]; rfl
  · rw [if_neg h, if_neg h]
theorem implText_ev (l : Ty) (k : Nat) (hk : 5 ≤ k) : impl_TypeText.f k l = some (text l) := by
  unfold impl_TypeText.f text
  rw [implOk_ev l k hk]
  simp only [Option.bind_some]
  by_cases h : dp 4 l = true
  · rw [if_pos h, if_pos h, words_ev 4 (by omega) l k h (by omega)]; rfl
  · rw [if_neg h, if_neg h]
def teq : Nat → Ty → Ty → Bool
  | _ + 1, [], [] => true
  | n + 1, [a, b], [c, d] => teq n a.f0 c.f0 && teq n b.f0 d.f0
  | _, _, _ => false
theorem lh_ev : ∀ (n : Nat) (a b : Ty) (k : Nat), dp n a = true → dp n b = true → 4 * n ≤ k → laws_lhType.f k a b = some (teq n a b) := by
  intro n
  induction n with
  | zero => intro a b k h; simp [dp] at h
  | succ n ih =>
    intro a b k ha hb hk
    obtain ⟨k, rfl⟩ : ∃ m, k = m + 4 := ⟨k - 4, by omega⟩
    simp only [laws_lhType.f]
    rcases shape a with rfl | ⟨a1, a2, rfl⟩ | ⟨h0, h2⟩
    · rcases shape b with rfl | ⟨b1, b2, rfl⟩ | ⟨h0, h2⟩
      · rw [if_pos rfl]; simp only [laws_lhType.l0]; rw [if_neg (by simp)]; rfl
      · rw [if_neg (by simp)]; rfl
      · rw [dp_odd _ _ h0 h2] at hb; cases hb
    · rcases shape b with rfl | ⟨b1, b2, rfl⟩ | ⟨h0, h2⟩
      · rw [if_neg (by simp)]; rfl
      · rw [dp_two, Bool.and_eq_true] at ha hb
        rw [if_pos (by simp)]
        simp only [laws_lhType.l0, w01, w12]
        rw [if_pos (by simp), if_pos (by omega), if_pos (by simp), rd0, rd0, ih _ _ _ ha.1 hb.1 (by omega)]
        simp only [Option.bind_some]
        have e : teq (n + 1) [a1, a2] [b1, b2] = (teq n a1.f0 b1.f0 && teq n a2.f0 b2.f0) := rfl
        rw [e]
        cases h1 : teq n a1.f0 b1.f0 with
        | false => simp
        | true =>
          rw [if_pos rfl, if_pos (by simp), if_pos (by omega), if_pos (by simp), rd1, rd1, ih _ _ _ ha.2 hb.2 (by omega)]
          simp only [Option.bind_some]
          cases h2 : teq n a2.f0 b2.f0 with
          | false => simp
          | true => rw [if_pos rfl, if_neg (by simp)]; rfl
      · rw [dp_odd _ _ h0 h2] at hb; cases hb
    · rw [dp_odd _ _ h0 h2] at ha; cases ha
theorem teq_eq : ∀ (n : Nat) (a b : Ty), teq n a b = true → a = b := by
  intro n
  induction n with
  | zero => intro a b h; simp [teq] at h
  | succ n ih =>
    intro a b h
    unfold teq at h
    split at h
    · rfl
    · rename_i m x y z u he
      cases he
      rw [Bool.and_eq_true] at h
      have h1 := ih _ _ h.1
      have h2 := ih _ _ h.2
      cases x; cases y; cases z; cases u
      simp_all
    · cases h
theorem teq_refl : ∀ (n : Nat) (a : Ty), dp n a = true → teq n a a = true := by
  intro n
  induction n with
  | zero => intro a h; simp [dp] at h
  | succ n ih =>
    intro a h
    rcases shape a with rfl | ⟨a1, a2, rfl⟩ | ⟨h0, h2⟩
    · rfl
    · rw [dp_two, Bool.and_eq_true] at h
      show (teq n a1.f0 a1.f0 && teq n a2.f0 a2.f0) = true
      rw [ih _ h.1, ih _ h.2]; rfl
    · rw [dp_odd _ _ h0 h2] at h; cases h
theorem toList_app (a b : ByteArray) : (a ++ b).toList = a.toList ++ b.toList := by
  rw [ByteArray.toList_eq, ByteArray.toList_eq, ByteArray.toList_eq]; simp
theorem lit_toList (c : UInt8) : (⟨#[c]⟩ : ByteArray).toList = [c] := by rw [ByteArray.toList_eq]
theorem tx_inj : ∀ (n : Nat) (a b : Ty) (r s : List UInt8), dp n a = true → dp n b = true → (tx n a).toList ++ r = (tx n b).toList ++ s → teq n a b = true ∧ r = s := by
  intro n
  induction n with
  | zero => intro a b r s h; simp [dp] at h
  | succ n ih =>
    intro a b r s ha hb h
    rcases shape a with rfl | ⟨a1, a2, rfl⟩ | ⟨h0, h2⟩
    · rcases shape b with rfl | ⟨b1, b2, rfl⟩ | ⟨h0, h2⟩
      · rw [tx_nil] at h
        exact ⟨rfl, List.append_cancel_left h⟩
      · rw [tx_nil, tx_two] at h
        simp only [toList_app, lit_toList, List.cons_append, List.nil_append, List.append_assoc] at h
        injection h with h1 _
        exact absurd h1 (by decide)
      · rw [dp_odd _ _ h0 h2] at hb; cases hb
    · rcases shape b with rfl | ⟨b1, b2, rfl⟩ | ⟨h0, h2⟩
      · rw [tx_nil, tx_two] at h
        simp only [toList_app, lit_toList, List.cons_append, List.nil_append, List.append_assoc] at h
        injection h with h1 _
        exact absurd h1 (by decide)
      · rw [dp_two, Bool.and_eq_true] at ha hb
        rw [tx_two, tx_two] at h
        simp only [toList_app, lit_toList, List.cons_append, List.nil_append, List.append_assoc] at h
        injection h with _ h
        obtain ⟨e1, h⟩ := ih _ _ _ _ ha.1 hb.1 h
        injection h with _ h
        obtain ⟨e2, h⟩ := ih _ _ _ _ ha.2 hb.2 h
        injection h with _ h
        refine ⟨?_, h⟩
        show (teq n a1.f0 b1.f0 && teq n a2.f0 b2.f0) = true
        rw [e1, e2]; rfl
      · rw [dp_odd _ _ h0 h2] at hb; cases hb
    · rw [dp_odd _ _ h0 h2] at ha; cases ha
theorem text_teq (a b : Ty) (ha : dp 4 a = true) (hb : dp 4 b = true) : ((text a).toList == (text b).toList) = teq 4 a b := by
  unfold text
  rw [if_pos ha, if_pos hb]
  by_cases h : (tx 4 a).toList = (tx 4 b).toList
  · rw [beq_iff_eq.2 h, (tx_inj 4 a b [] [] ha hb (by simpa using h)).1]
  · cases e : teq 4 a b with
    | false => exact beq_eq_false_iff_ne.2 h
    | true => exact absurd (by rw [teq_eq _ _ _ e]) h
theorem tx_pos (n : Nat) (l : Ty) : 0 < (tx n l).size := by
  unfold tx
  split
  · simp only [ByteArray.size_append, show (⟨#[40]⟩ : ByteArray).size = 1 from rfl]; omega
  · decide
theorem deepLoop_ev (s : List Int) (p : Int) : ∀ (d i : Nat), i + d = 5 → ∀ (l : Ty), ∃ r, (∀ k' , d + 1 ≤ k' → spec_l71Deep.l0 k' i s p l = some (r, p)) ∧ ∀ n, Dph n l → Dph (n + d) r := by
  intro d
  induction d with
  | zero =>
    intro i hi l
    have hh : ∀ k', 0 + 1 ≤ k' → spec_l71Deep.l0 k' i s p l = some (l, p) := by
      intro k' hk'
      obtain ⟨k', rfl⟩ : ∃ m, k' = m + 1 := ⟨k' - 1, by omega⟩
      simp only [spec_l71Deep.l0]
      rw [if_neg (by omega)]
    exact ⟨l, hh, fun n h => h⟩
  | succ d ih =>
    intro i hi l
    obtain ⟨r, hr, hd⟩ := ih (i + 1) (by omega) [⟨l⟩, ⟨[]⟩]
    have hh : ∀ k', d + 1 + 1 ≤ k' → spec_l71Deep.l0 k' i s p l = some (r, p) := by
      intro k' hk'
      obtain ⟨k', rfl⟩ : ∃ m, k' = m + 1 := ⟨k' - 1, by omega⟩
      simp only [spec_l71Deep.l0]
      rw [if_pos (by omega), w64 (by omega) (by omega)]
      exact hr k' (by omega)
    refine ⟨r, hh, fun n h => ?_⟩
    have := hd (n + 1) (by
      intro x hx
      rcases List.mem_cons.1 hx with rfl | hx
      · exact h
      · rw [List.mem_singleton.1 hx]; exact dph_nil _)
    rwa [show n + (d + 1) = n + 1 + d from by omega]
theorem dph_mono : ∀ (n : Nat) (l : Ty), Dph n l → Dph (n + 1) l := by
  intro n
  induction n with
  | zero => intro l h; rw [show l = [] from h]; exact dph_nil _
  | succ n ih => intro l h x hx; exact ih _ (h x hx)
theorem dph_le (n m : Nat) (h : n ≤ m) (l : Ty) (hd : Dph n l) : Dph m l := by
  induction m with
  | zero => obtain rfl : n = 0 := by omega
            exact hd
  | succ m ih =>
    by_cases e : n = m + 1
    · subst e; exact hd
    · exact dph_mono _ _ (ih (by omega))
theorem l71Deep_ev (s : List Int) (hs : Bytes s) (p : Int) (hp : 0 ≤ p) (hp1 : p ≤ 1099511627000) : ∃ r q, (∀ k, 20 ≤ k → spec_l71Deep.f k s p = some (r, q)) ∧ p ≤ q ∧ q ≤ p + 100 ∧ Dph 10 r := by
  obtain ⟨c, hc, c0, c1⟩ := pick_ev s hs p 4 hp (by omega) (by omega)
  obtain ⟨cn, rfl⟩ := Int.eq_ofNat_of_zero_le c0
  have hpow : (2 : Int) ^ (1 + cn) ≤ 16 := by
    have : (2 : Nat) ^ (1 + cn) ≤ 2 ^ 4 := Nat.pow_le_pow_right (by decide) (by omega)
    exact_mod_cast this
  obtain ⟨t, q1, ht, hl, hq1, hq2, dt⟩ := type_ev s hs (1 + cn) (by omega) (p + 1) (by omega) (by omega)
  obtain ⟨c', hc', c0', c1'⟩ := pick_ev s hs q1 12 (by omega) (by omega) (by omega)
  have ew : wrap64 (1 + (cn : Int)) = ((1 + cn : Nat) : Int) := by rw [w64 (by omega) (by omega)]; omega
  obtain ⟨rl, hrl, hrd⟩ := deepLoop_ev s (q1 + 1) 5 0 rfl t
  have hh : ∃ r, (∀ k, 20 ≤ k → spec_l71Deep.f k s p = some (r, q1 + 1)) ∧ Dph 10 r := by
    by_cases e0 : c' = 0
    · refine ⟨rl, fun k hk => ?_, dph_le _ _ (by omega) _ (hrd _ dt)⟩
      unfold spec_l71Deep.f
      rw [hc k (by omega)]; simp only [Option.bind_some]
      rw [ew, ht k (by omega)]; simp only [Option.bind_some]
      rw [hc' k (by omega)]; simp only [Option.bind_some]
      rw [if_pos e0]
      exact hrl k (by omega)
    · by_cases e1 : c' = 1
      · refine ⟨t ++ [⟨[]⟩], fun k hk => ?_, dph_le (1 + cn) _ (by omega) _ (by
          rw [Nat.add_comm] at dt ⊢
          intro x hx
          rcases List.mem_append.1 hx with hx | hx
          · exact dt x hx
          · rw [List.mem_singleton.1 hx]; exact dph_nil _)⟩
        unfold spec_l71Deep.f
        rw [hc k (by omega)]; simp only [Option.bind_some]
        rw [ew, ht k (by omega)]; simp only [Option.bind_some]
        rw [hc' k (by omega)]; simp only [Option.bind_some]
        rw [if_neg e0, if_pos e1, if_pos (by omega)]
      · refine ⟨t, fun k hk => ?_, dph_le _ _ (by omega) _ dt⟩
        unfold spec_l71Deep.f
        rw [hc k (by omega)]; simp only [Option.bind_some]
        rw [ew, ht k (by omega)]; simp only [Option.bind_some]
        rw [hc' k (by omega)]; simp only [Option.bind_some]
        rw [if_neg e0, if_neg e1]
  obtain ⟨r, hr, hd⟩ := hh
  exact ⟨r, q1 + 1, hr, by omega, by omega, hd⟩
theorem drawText_ev (l : List Int) (h : ∀ x ∈ l, (Lit.int .u8 x).wf = true) : ∃ r, ∀ k, 20 ≤ k → spec_DrawTypeText.f k l = some r := by
  obtain ⟨s, ho, hs⟩ := open_ev l h
  obtain ⟨r, q, hr, _⟩ := l71Deep_ev s hs 0 (by omega) (by omega)
  refine ⟨r, fun k hk => ?_⟩
  unfold spec_DrawTypeText.f
  rw [ho]; simp only [Option.bind_some]
  rw [hr k hk]; rfl
end Go.Proofs.Ytjhbhihfifhljaa.Types
end
section
namespace Go.Proofs.Ytjhbhihfifhljaa.PA
open Go.RowKit Go.Proofs.YtjhbhihfifhljaaW.PrintWords Go.Proofs.YtjhbhihfifhljaaW.PrintLast Go.Proofs.YtjhbhihfifhljaaW.PrintMore
attribute [local go_sem] max2_int min2_int max_two min_two max_three min_three max_four min_four
set_option linter.unusedVariables false
set_option linter.unusedSimpArgs false
def spec_DrawTypeOk.f (k : Nat) (l0 : List Int) : Option ((List (S30))) := (spec_l6Open.f l0).bind fun bt215 => ((spec_l71Deep.f k bt215.1 bt215.2).bind fun bt218 => (some bt218.1))
theorem spec_DrawTypeOk.mono : ∀ a0 k, LeO (spec_DrawTypeOk.f k a0) (spec_DrawTypeOk.f (k + 1) a0) := by
 intro a0 k
 unfold spec_DrawTypeOk.f
 repeat' first
   | (with_reducible exact spec_l71Deep.mono _ _ _)
   | (with_reducible exact LeO.refl _)
   | (with_reducible exact LeO.none _)
   | (with_reducible refine LeO.ite ?_ ?_)
   | (with_reducible refine LeO.bind ?_ (fun _ => ?_))
   | exact spec_l71Deep.mono _ _ _
   | exact LeO.none _
   | refine LeO.ite ?_ ?_
   | refine LeO.bind ?_ (fun _ => ?_)
set_option maxHeartbeats 8000000 in
set_option maxRecDepth 100000 in
theorem spec_DrawTypeOk.calls (k : Nat) (A0 : Option Addr) (c0 : Nat) (l0 : List Int) (r : List (S30)) (w : World) (hr0 : Kd.C (Kd.int .u8) w A0 l0.length l0) (hc0 : l0.length ≤ c0) (h : spec_DrawTypeOk.f k l0 = some r) :
  Calls Try.prog 20 #[.slice A0 l0.length c0] w fun e w' => ∃ v0_ : Value, e = .returned (.agg #[v0_]) ∧ Kd.N k30 30 w' w.heap.size (fun k_ => (w.heap.size ≤ k_)) v0_ r ∧ Below w.heap.size w w' := by
 have hu30 := Try.underlying30
 have HR0 := Aside0.mk hr0
 have HC0 := Aside0.mk hc0
 clear hr0 hc0
 have HB := Aside0.mk (Below.refl w.heap.size w)
 have H : ((spec_l6Open.f l0).bind fun bt215 => ((spec_l71Deep.f k bt215.1 bt215.2).bind fun bt218 => (some bt218.1))) = some r := h
 clear h
 obtain ⟨⟨t215, t216⟩, A20, H⟩ := ob H
 have A2 := Aside0.mk A20
 clear A20
 obtain ⟨⟨t218, t221⟩, A30, H⟩ := ob H
 have A3 := Aside0.mk A30
 clear A30
 obtain rfl := Option.some.inj H
 go_enter Try.func20, Try.ntmps20
 go_wp2_with (first | ((with_reducible refine gate_dst (N := 2) rfl ?_); refine zbx 2 #[.slice none 0 0] 30 ?_; intro gb214 hg w4 hbox hb; have BK214 := Aside0.mk hbox; have GW214 := Aside0.mk ((y5 hg HB.out : w.heap.size ≤ gb214)); have GE214 := Aside0.mk ((y5 hg HB.out : w.heap.size ≤ gb214)); replace HB := Aside0.mk (below_step (y2 HB.out) hb); clear hb hbox hg) | ((with_reducible refine gate_callee (f := 52) rfl ?_); refine goesL_ (some 4) rfl rfl Try.func52 (by kernel_rfl) rfl #[.slice A0 l0.length c0] rfl y4 ?_; (with_reducible refine (spec_l6Open.calls _ _ l0 t215 t216 w _ ?side1 ?side2 ?side3 A2.out).mono ?_); (case side1 => exact y3 HB.out GE214.out); (case side2 => exact HR0.out); (case side3 => exact HC0.out); rintro e w5 ⟨g217, rfl, hi, hb, hb2⟩; refine ⟨_, rfl, ?_⟩; replace HB := Aside0.mk (hb); have HI217 := Aside0.mk (hi); have NB217_214 := Aside0.mk (IsS95.ne_blk hi (blk_below (g := gb214) (o := .cells #[.slice none 0 0] 30 (0, 0)) (y0 BK214.out) hb2) (by decide)); have NB214_217 := Aside0.mk (Ne.symm (IsS95.ne_blk hi (blk_below (g := gb214) (o := .cells #[.slice none 0 0] 30 (0, 0)) (y0 BK214.out) hb2) (by decide))); replace BK214 := Aside0.mk (blk_below (g := gb214) (o := .cells #[.slice none 0 0] 30 (0, 0)) (y0 BK214.out) hb2); (try clear hb); (try clear hb2); (try clear hk); (try clear hi)) | ((with_reducible refine gate_callee (f := 51) rfl ?_); refine goesL_ (some 5) rfl rfl Try.func51 (by kernel_rfl) rfl #[.pointer (some ⟨g217, 0, none⟩)] rfl y4 ?_; (with_reducible refine (spec_l71Deep.calls k g217 t215 t216 t218 t221 w _ ?side1 ?side2 A3.out).mono ?_); (case side1 => exact y24 HI217.out NB217_214.out); (case side2 => exact y23 HB.out HI217.out GE214.out); rintro e w6 ⟨v219, rfl, ho0, hi, hb, hk⟩; refine ⟨_, rfl, ?_⟩; have HO220 := Aside0.mk (Kd.N_lower (Kd.N_mono (ok' := fun k_ => (w.heap.size ≤ k_) ∧ k_ ≠ gb214 ∧ k_ ≠ g217) ho0 (fun k_ hk_ => ⟨(Nat.le_trans (below_size (y23 HB.out HI217.out GE214.out)) hk_), (Kd.freshB (g := gb214) (o := .cells #[.slice none 0 0] 30 (0, 0)) (y0 BK214.out) k_ hk_), (IsS95.fresh (y24 HI217.out NB217_214.out) k_ hk_)⟩)) (below_size (y23 HB.out HI217.out GE214.out))); replace BK214 := Aside0.mk (KeepBut.blk hk (g' := gb214) (o := .cells #[.slice none 0 0] 30 (0, 0)) (y0 BK214.out) NB214_217.out (by simp)); replace HB := Aside0.mk (hb); replace HI217 := Aside0.mk (hi); (try clear hb); (try clear hb2); (try clear hk); (try clear hi); (try clear ho0); obtain ⟨Ao7, co7, eo7⟩ := Kd.N_slice HO220.out; subst eo7; have hnb8 := NB214_217.out; have hnc8 := NB217_214.out; have hcz9_0 := zh BK214; have hfz9_0 := zfr BK214 0))
 refine bodyPost_ret (results_cell_row rfl _ _ gb214 30 #[.slice Ao7 t218.length co7] (0, 0) _ rfl (by (with_reducible repeat (first | refine blk_drewN ?_ _ | refine blk_drew ?_ | refine blk_alloc ?_ _)); apply blk_put (i := 0); (case h => exact y0 BK214.out); (case e => rfl)) Try.underlying30 rfl (by kernel_rfl)) rfl ?_
 exact ⟨_, y14, (by (with_reducible repeat (first | apply Kd.N_alloc | apply Kd.N_drewN | apply Kd.N_drew)); exact Kd.N_mono (Kd.N_far (p := ⟨gb214, 0, none⟩) (Kd.N_mono HO220.out (fun k_ hk => (⟨hk, hk.2.1⟩ : _ ∧ k_ ≠ gb214))) (fun _ hk => hk.2) (.slice Ao7 t218.length co7)) (fun _ hk => hk.1.1)), (y23 HB.out HI217.out GE214.out)⟩
end Go.Proofs.Ytjhbhihfifhljaa.PA
end
section
namespace Go.Proofs.Ytjhbhihfifhljaa.PA
open Go.RowKit Go.Proofs.YtjhbhihfifhljaaW.PrintWords Go.Proofs.YtjhbhihfifhljaaW.PrintLast Go.Proofs.YtjhbhihfifhljaaW.PrintMore
attribute [local go_sem] max2_int min2_int max_two min_two max_three min_three max_four min_four
set_option linter.unusedVariables false
set_option linter.unusedSimpArgs false
def spec_l71Path.l0 : Nat → List Int → List Int → Int → List (S30) → Option (List Int × (List (S30)) × Int)
 | 0, _, _, _, _ => none
 | k + 1, x6, x1000, x1001, x534000 => if (x534000.length : Int) > 0 then ((spec_l6Rd_pick.f k x1000 x1001 3).bind fun bt538 => (if bt538.1 > 0 then ((spec_l6Rd_pick.f k x1000 bt538.2 (x534000.length : Int)).bind fun bt540 => (if x6.length < 17592186044416 then (if 0 ≤ bt540.1 then (if bt540.1 < (x534000.length : Int) then (spec_l71Path.l0 k (x6 ++ [bt540.1]) x1000 bt540.2 ((rd_T30 x534000 bt540.1).f0)) else (none)) else (none)) else (none))) else (some (x6, x534000, bt538.2)))) else (some (x6, x534000, x1001))
def spec_l71Path.f (k : Nat) (s0_0 : List Int) (s0_1 : Int) (l1_0 : List (S30)) : Option (List Int × (List (S30)) × Int) := spec_l71Path.l0 k (([] : List Int)) s0_0 s0_1 l1_0
theorem spec_l71Path.mono_l : ∀ k, (∀ y0 y1 y2 y3, LeO (spec_l71Path.l0 k y0 y1 y2 y3) (spec_l71Path.l0 (k + 1) y0 y1 y2 y3))
 | 0 => fun _ _ _ _ r h => by simp [spec_l71Path.l0] at h
 | k + 1 => by
  have ih0 := spec_l71Path.mono_l k
  ·intro y0 y1 y2 y3
   unfold spec_l71Path.l0
   repeat' first
   | (with_reducible exact ih0 _ _ _ _)
   | (with_reducible exact spec_l6Rd_pick.mono _ _ _ _)
   | (with_reducible exact LeO.refl _)
   | (with_reducible exact LeO.none _)
   | (with_reducible refine LeO.ite ?_ ?_)
   | (with_reducible refine LeO.bind ?_ (fun _ => ?_))
   | exact ih0 _ _ _ _
   | exact spec_l6Rd_pick.mono _ _ _ _
   | exact LeO.none _
   | refine LeO.ite ?_ ?_
   | refine LeO.bind ?_ (fun _ => ?_)
theorem spec_l71Path.mono : ∀ a0 a1 a2 k, LeO (spec_l71Path.f k a0 a1 a2) (spec_l71Path.f (k + 1) a0 a1 a2) := by
 intro a0 a1 a2 k
 have ih0 := spec_l71Path.mono_l k
 unfold spec_l71Path.f
 repeat' first
   | (with_reducible exact ih0 _ _ _ _)
   | (with_reducible exact spec_l6Rd_pick.mono _ _ _ _)
   | (with_reducible exact LeO.refl _)
   | (with_reducible exact LeO.none _)
   | (with_reducible refine LeO.ite ?_ ?_)
   | (with_reducible refine LeO.bind ?_ (fun _ => ?_))
   | exact ih0 _ _ _ _
   | exact spec_l6Rd_pick.mono _ _ _ _
   | exact LeO.none _
   | refine LeO.ite ?_ ?_
   | refine LeO.bind ?_ (fun _ => ?_)
set_option maxHeartbeats 8000000 in
set_option maxRecDepth 100000 in
theorem spec_l71Path.calls (k : Nat) (g : Nat) (s0_0 : List Int) (s0_1 : Int) (P1_0_ : Nat → Prop) (A1_0 : Option Addr) (c1_0 : Nat) (l1_0 : List (S30)) (r1 : List Int) (r2 : List (S30)) (r3 : Int) (w0 w : World) (hI : IsS95 w0 w g s0_0 s0_1) (hB : Below w0.heap.size w0 w) (hs1_0 : Kd.V k30 30 w w.heap.size (fun k_ => P1_0_ k_ ∧ k_ ≠ g) (.slice A1_0 l1_0.length c1_0) l1_0) (h : spec_l71Path.f k s0_0 s0_1 l1_0 = some (r1, r2, r3)) :
  Calls Try.prog 86 #[.pointer (some ⟨g, 0, none⟩), .agg #[.slice A1_0 l1_0.length c1_0]] w fun e w' => ∃ v0_ v1_ : Value, e = .returned (.tuple #[v0_, .agg #[v1_]]) ∧ Kd.R (Kd.int .i64) 3 w' w.heap.size (fun k_ => (w.heap.size ≤ k_)) v0_ r1 ∧ Kd.V k30 30 w' w.heap.size (fun k_ => (P1_0_ k_ ∨ w.heap.size ≤ k_) ∧ some k_ ≠ (v0_ : Value).ownBlock) v1_ r2 ∧ IsS95 w0 w' g s0_0 r3 ∧ Below w0.heap.size w0 w' ∧ KeepBut w w' g none := by
 have hu30 := Try.underlying30
 have HO1_0 := Aside0.mk (show Kd.V k30 30 w w.heap.size (fun k_ => (P1_0_ k_ ∨ w.heap.size ≤ k_) ∧ k_ ≠ g) (.slice A1_0 l1_0.length c1_0) l1_0 from Kd.V_mono hs1_0 (fun k_ hk => ⟨.inl hk.1, hk.2⟩))
 have HI0 := Aside0.mk hI
 have HK := Aside0.mk (KeepBut.refl w g none)
 have HL := Aside0.mk hB.size
 clear hI
 have HW0 := Aside0.mk hB.size
 have HB := Aside0.mk hB
 clear hB
 have H : (spec_l71Path.l0 k (([] : List Int)) s0_0 s0_1 l1_0) = some (r1, r2, r3) := h
 clear h
 obtain ⟨y535, hy535⟩ : ∃ y_ : List Int, y_ = (([] : List Int)) := ⟨_, rfl⟩
 replace H : (spec_l71Path.l0 k y535 s0_0 s0_1 l1_0) = some (r1, r2, r3) := by first | (rw [hy535]; with_reducible exact H) | (have H2_ := (Option.bind_some _ _).symm.trans H; rw [hy535]; with_reducible exact H2_) | (have H2_ := (Option.bind_some _ _).symm.trans H; with_reducible exact H2_) | with_reducible exact H | (rw [hy535]; exact H) | exact H
 have Ny535 := Aside0.mk hy535
 clear hy535
 have H' := Aside0.mk H
 clear H
 go_enter Try.func86, Try.ntmps86
 go_wp2_with (first | ((with_reducible refine gate_dst (N := 3) rfl ?_); refine zbx 3 #[.slice A1_0 l1_0.length c1_0] 30 ?_; intro gb533 hg w3 hbox hb; replace HO1_0 := Aside0.mk (Kd.V_below (Kd.V_elderB (y13 HO1_0.out) gb533 (Nat.le_of_eq hg.symm)) hb); replace HB := Aside0.mk (below_step (y33 HB.out HI0.out) hb); have BK533 := Aside0.mk hbox; have GW533 := Aside0.mk ((by rw [hg]; exact (keep_size (w := w) (g := g) (row := none) (y25 HK.out)) : w.heap.size ≤ gb533)); have GE533 := Aside0.mk ((Nat.le_trans HW0.out (by rw [hg]; exact (keep_size (w := w) (g := g) (row := none) (y25 HK.out)) : w.heap.size ≤ gb533) : w0.heap.size ≤ gb533)); replace HK := Aside0.mk (KeepBut.trans (y25 HK.out) (KeepBut.of_below hb g none) (.inl rfl)); have NB0_533 := Aside0.mk ((by rw [hg]; exact Nat.ne_of_lt (IsS95.lt (show IsS95 w0 _ g s0_0 s0_1 from by repeat (first | (with_reducible first | exact HI0.out | apply IsS95.alloc | apply IsS95.drewN | apply IsS95.drew | apply IsS95.set_1) | exact HI0.out))) : g ≠ gb533)); have NB533_0 := Aside0.mk ((by rw [hg]; exact Nat.ne_of_gt (IsS95.lt (show IsS95 w0 _ g s0_0 s0_1 from by repeat (first | (with_reducible first | exact HI0.out | apply IsS95.alloc | apply IsS95.drewN | apply IsS95.drew | apply IsS95.set_1) | exact HI0.out))) : gb533 ≠ g)); replace HI0 := Aside0.mk (IsS95.below (y35 HI0.out) hb); clear hb hbox hg) | ((with_reducible refine gate_dst (N := 5) rfl ?_); refine zbx 5 #[.slice none 0 0] 30 ?_; intro gb534 hg w4 hbox hb; replace HO1_0 := Aside0.mk (Kd.V_below (Kd.V_elderB (y13 HO1_0.out) gb534 (Nat.le_of_eq hg.symm)) hb); replace HB := Aside0.mk (below_step (y23 HB.out HI0.out GE533.out) hb); have BK534 := Aside0.mk hbox; have GW534 := Aside0.mk ((by rw [hg]; exact (keep_size (w := w) (g := g) (row := none) (y18 HK.out GW533.out)) : w.heap.size ≤ gb534)); have GE534 := Aside0.mk ((Nat.le_trans HW0.out (by rw [hg]; exact (keep_size (w := w) (g := g) (row := none) (y18 HK.out GW533.out)) : w.heap.size ≤ gb534) : w0.heap.size ≤ gb534)); replace HK := Aside0.mk (KeepBut.trans (y18 HK.out GW533.out) (KeepBut.of_below hb g none) (.inl rfl)); have NB533_534 := zltn hg BK533; have NB534_533 := zgtn hg BK533; replace BK533 := zbb BK533 hb; have NB0_534 := Aside0.mk ((by rw [hg]; exact Nat.ne_of_lt (IsS95.lt (show IsS95 w0 _ g s0_0 s0_1 from by repeat (first | (with_reducible first | exact HI0.out | apply IsS95.alloc | apply IsS95.drewN | apply IsS95.drew | apply IsS95.set_1 | refine IsS95.far ?_ NB0_533.out _) | exact HI0.out))) : g ≠ gb534)); have NB534_0 := Aside0.mk ((by rw [hg]; exact Nat.ne_of_gt (IsS95.lt (show IsS95 w0 _ g s0_0 s0_1 from by repeat (first | (with_reducible first | exact HI0.out | apply IsS95.alloc | apply IsS95.drewN | apply IsS95.drew | apply IsS95.set_1 | refine IsS95.far ?_ NB0_533.out _) | exact HI0.out))) : gb534 ≠ g)); replace HI0 := Aside0.mk (IsS95.below (y24 HI0.out NB0_533.out) hb); clear hb hbox hg) | ((with_reducible refine gate_dst (N := 8) rfl ?_); refine Kd.R_lit (Kd.int .i64) _ 3 ?hg (N := 8) ?hd (xs := ([] : List Int)) (inner := []) (ok := fun _ => True) (okp := fun _ => True) ?hr ?hp (fun _ hk => hk) trivial (Below.refl _ _) (Nat.le_refl _) (by simp) ?_; (case hd => rfl); (case hg => rfl); (case hr => first | (go_simp; done) | (go_simp; rfl)); (case hp => exact (Reps.none _ _)); intro v536 w5 ho6 hb hg_ hnew_; clear hg_ hnew_; (first | rw [← Ny535.out] at ho6 | (simp only [Int.reduceToNat] at ho6; rw [← Ny535.out] at ho6)); replace HO1_0 := Aside0.mk (Kd.V_elder' (y13 HO1_0.out) (Kd.R_base ho6) hb); have HO537 := Aside0.mk (Kd.R_lower (Kd.R_newM (M := fun k_ => (w.heap.size ≤ k_)) ho6 (keep_size (w := w) (g := g) (row := none) (y11 HK.out GW533.out GW534.out)) (fun k_ h_ => h_)) (keep_size (w := w) (g := g) (row := none) (y11 HK.out GW533.out GW534.out))); replace BK533 := zbb BK533 hb; replace BK534 := zbb BK534 hb; replace HK := Aside0.mk (KeepBut.trans (y11 HK.out GW533.out GW534.out) (KeepBut.of_below hb g none) (.inl rfl)); replace HB := Aside0.mk (below_step (y12 HB.out HI0.out GE533.out GE534.out) hb); replace HI0 := Aside0.mk (IsS95.below (y15 HI0.out NB0_533.out NB0_534.out) hb); clear hb ho6))
 go_loopg [6] k (fun kq v6 w' => ∃ (x6_1 : List Int) (x1001_1 : Int) (x534000_1 : List (S30)) (u534000 : Value), Aside0 (spec_l71Path.l0 kq x6_1 s0_0 x1001_1 x534000_1 = some (r1, r2, r3)) ∧ Aside0 (kq ≤ k) ∧ Aside0 (Kd.R (Kd.int .i64) 3 w' w.heap.size (fun k_ => (w.heap.size ≤ k_)) v6 x6_1) ∧ Aside0 (Kd.V k30 30 w' w.heap.size (fun k_ => (P1_0_ k_ ∨ w.heap.size ≤ k_) ∧ some k_ ≠ (v6 : Value).ownBlock ∧ k_ ≠ gb533 ∧ k_ ≠ gb534 ∧ k_ ≠ g) u534000 x534000_1) ∧ Aside0 (w'.heap[gb533]? = some (.cells #[u534000] 30 (0, 0))) ∧ Aside0 (w'.heap[gb534]? = some (.cells #[(.slice none 0 0)] 30 (0, 0))) ∧ Aside0 (IsS95 w0 w' g s0_0 x1001_1) ∧ Aside0 (KeepBut w w' g none) ∧ Aside0 (Below w0.heap.size w0 w'))
 case atStart => exact ⟨(y535), (s0_1), (l1_0), (.slice A1_0 l1_0.length c1_0), H', ⟨Nat.le_refl _⟩, ⟨(y71 HO537.out)⟩, ⟨(by (with_reducible repeat (first | apply Kd.V_alloc | apply Kd.V_drewN | apply Kd.V_drew)); exact Kd.V_mono HO1_0.out (fun _ hk => ⟨hk.1.1.1.1, ⟨hk.2, ⟨hk.1.1.2, ⟨hk.1.2, hk.1.1.1.2⟩⟩⟩⟩))⟩, ⟨(y0 BK533.out)⟩, ⟨(y0 BK534.out)⟩, ⟨(y15 HI0.out NB0_533.out NB0_534.out)⟩, ⟨(y11 HK.out GW533.out GW534.out)⟩, ⟨(y12 HB.out HI0.out GE533.out GE534.out)⟩⟩
 case round =>
  clear H'
  try clear c1
  try clear p2
  obtain ⟨x6_1, x1001_1, x534000_1, u534000, HA, HK1, HO_6, HO_534000, BK533, BK534, HI0, HK, HB⟩ := hrel
  cases gk with
  | zero => exact absurd HA.out (by simp [spec_l71Path.l0])
  | succ k1 =>
   have H := HA.out
   clear HA
   simp only [spec_l71Path.l0] at H
   by_cases c7 : (x534000_1.length : Int) > 0
   ·rw [if_pos c7] at H
    have c7b0 : decide (0 < (x534000_1.length : Int)) = true := decide_eq_true c7
    have c7b1 : decide (0 < x534000_1.length) = true := decide_eq_true (by omega)
    clear c7
    obtain ⟨⟨t538, t539⟩, A80, H⟩ := ob H
    have A8 := Aside0.mk A80
    clear A80
    by_cases c9 : t538 > 0
    ·rw [if_pos c9] at H
     have c9b0 : decide (0 < t538) = true := decide_eq_true c9
     clear c9
     obtain ⟨⟨t540, t541⟩, A100, H⟩ := ob H
     have A10 := Aside0.mk A100
     clear A100
     by_cases c11 : x6_1.length < 17592186044416
     ·rw [if_pos c11] at H
      have LMc11 := Aside0.mk c11
      clear c11
      obtain ⟨y542, hy542⟩ : ∃ y_ : List Int, y_ = (x6_1 ++ [t540]) := ⟨_, rfl⟩
      replace H : (if 0 ≤ t540 then (if t540 < (x534000_1.length : Int) then (spec_l71Path.l0 k1 y542 s0_0 t541 ((rd_T30 x534000_1 t540).f0)) else (none)) else (none)) = some (r1, r2, r3) := by first | (rw [hy542]; with_reducible exact H) | (have H2_ := (Option.bind_some _ _).symm.trans H; rw [hy542]; with_reducible exact H2_) | (have H2_ := (Option.bind_some _ _).symm.trans H; with_reducible exact H2_) | with_reducible exact H | (rw [hy542]; exact H) | exact H
      have Ny542 := Aside0.mk hy542
      clear hy542
      by_cases c12 : 0 ≤ t540
      ·rw [if_pos c12] at H
       have c12b0 : decide (0 ≤ t540) = true := decide_eq_true c12
       clear c12
       by_cases c13 : t540 < (x534000_1.length : Int)
       ·rw [if_pos c13] at H
        have c13b0 : decide (t540 < (x534000_1.length : Int)) = true := decide_eq_true c13
        clear c13
        have H' := Aside0.mk H
        clear H
        have hnb14 := NB533_534.out
        have hnc14 := NB534_533.out
        have hnb15 := NB533_0.out
        have hnc15 := NB0_533.out
        have hcz16_0 := zh BK533
        have hfz16_0 := zfr BK533 0
        obtain ⟨Ao17, co17, eo17⟩ := Kd.V_slice HO_534000.out
        subst eo17
        go_wp2_with (first | (go_at_call 58; (with_reducible refine (spec_l6Rd_pick.calls k1 g s0_0 x1001_1 3 t538 t539 w0 _ ?side1 ?side2 A8.out).mono ?_); (case side1 => exact y15 HI0.out NB0_533.out NB0_534.out); (case side2 => exact y12 HB.out HI0.out GE533.out GE534.out); rintro e w18 ⟨rfl, hi, hb, hk⟩; replace HO_6 := Aside0.mk (Kd.R_mono (Kd.R_keep (IsS95.apart (show IsS95 w0 _ g s0_0 x1001_1 from by repeat (first | (with_reducible first | exact HI0.out | apply IsS95.alloc | apply IsS95.drewN | apply IsS95.drew | apply IsS95.set_1 | refine IsS95.far ?_ NB0_533.out _ | refine IsS95.far ?_ NB0_534.out _) | exact HI0.out)) (y10 HO_6.out) (by decide)) hk (fun _ h => h.2)) (fun _ h => h.1)); replace HO_534000 := Aside0.mk (Kd.V_mono (Kd.V_keep (Kd.V_mono (ok := fun k_ => (((P1_0_ k_ ∨ w.heap.size ≤ k_)) ∧ (some k_ ≠ (u6 : Value).ownBlock ∧ (k_ ≠ gb533 ∧ (k_ ≠ gb534 ∧ k_ ≠ g))))) (y13 HO_534000.out) (fun k_ hk_ => (⟨hk_, hk_.2.2.2.2⟩ : _ ∧ k_ ≠ g))) hk (fun _ h => h.2)) (fun _ h => h.1)); replace BK533 := Aside0.mk (KeepBut.blk hk (g' := gb533) (o := .cells #[.slice Ao17 x534000_1.length co17] 30 (0, 0)) (y0 BK533.out) NB533_0.out (by simp)); replace BK534 := Aside0.mk (KeepBut.blk hk (g' := gb534) (o := .cells #[.slice none 0 0] 30 (0, 0)) (y0 BK534.out) NB534_0.out (by simp)); replace HK := Aside0.mk (KeepBut.trans (y11 HK.out GW533.out GW534.out) hk (.inl rfl)); replace HB := Aside0.mk (hb); replace HI0 := Aside0.mk (hi); (try clear hb); (try clear hb2); (try clear hk); (try clear hi); have hcz19_0 := zh BK533; have hfz19_0 := zfr BK533 0) | ((with_reducible refine gate_callee (f := 58) rfl ?_); refine goesL_ (some 22) rfl rfl Try.func58 (by kernel_rfl) rfl #[.pointer (some ⟨g, 0, none⟩), .int .i64 (x534000_1.length : Int)] rfl y4 ?_; (with_reducible refine (spec_l6Rd_pick.calls k1 g s0_0 t539 (x534000_1.length : Int) t540 t541 w0 _ ?side1 ?side2 A10.out).mono ?_); (case side1 => exact y15 HI0.out NB0_533.out NB0_534.out); (case side2 => exact y12 HB.out HI0.out GE533.out GE534.out); rintro e w20 ⟨rfl, hi, hb, hk⟩; refine ⟨_, rfl, ?_⟩; replace HO_6 := Aside0.mk (Kd.R_mono (Kd.R_keep (IsS95.apart (show IsS95 w0 _ g s0_0 t539 from by repeat (first | (with_reducible first | exact HI0.out | apply IsS95.alloc | apply IsS95.drewN | apply IsS95.drew | apply IsS95.set_1 | refine IsS95.far ?_ NB0_533.out _ | refine IsS95.far ?_ NB0_534.out _) | exact HI0.out)) (y10 HO_6.out) (by decide)) hk (fun _ h => h.2)) (fun _ h => h.1)); replace HO_534000 := Aside0.mk (Kd.V_mono (Kd.V_keep (Kd.V_mono (ok := fun k_ => (((P1_0_ k_ ∨ w.heap.size ≤ k_)) ∧ (some k_ ≠ (u6 : Value).ownBlock ∧ (k_ ≠ gb533 ∧ (k_ ≠ gb534 ∧ k_ ≠ g))))) (y13 HO_534000.out) (fun k_ hk_ => (⟨hk_, hk_.2.2.2.2⟩ : _ ∧ k_ ≠ g))) hk (fun _ h => h.2)) (fun _ h => h.1)); replace BK533 := Aside0.mk (KeepBut.blk hk (g' := gb533) (o := .cells #[.slice Ao17 x534000_1.length co17] 30 (0, 0)) (y0 BK533.out) NB533_0.out (by simp)); replace BK534 := Aside0.mk (KeepBut.blk hk (g' := gb534) (o := .cells #[.slice none 0 0] 30 (0, 0)) (y0 BK534.out) NB534_0.out (by simp)); replace HK := Aside0.mk (KeepBut.trans (y11 HK.out GW533.out GW534.out) hk (.inl rfl)); replace HB := Aside0.mk (hb); replace HI0 := Aside0.mk (hi); (try clear hb); (try clear hb2); (try clear hk); (try clear hi)) | ((with_reducible refine gate_builtin (b := .append) (xs := #[.tmp 23, .tmp 25]) rfl ?_); at_builtin; refine Kd.R_append (Kd.int .i64) w.heap.size rfl (.tmp 23) (.tmp 25) 38 3 (.int .i64 0) 8 rfl Try.underlying38 info3 rfl (by decide) (by omega) u6 x6_1 t540 [.int .i64 t540] (fun k_ => (w.heap.size ≤ k_)) (fun _ => False) rfl rfl ?aP (fun _ hk => hk.elim) ?aF ?aO (Below.refl _ _) ?aS ?aL ?_; (case aP => exact rfl); (case aF => exact (fun k_ hk => (Nat.le_trans (keep_size (w := w) (g := g) (row := none) (y11 HK.out GW533.out GW534.out)) hk))); (case aO => exact y77 HO_6.out); (case aS => exact (keep_size (w := w) (g := g) (row := none) (y11 HK.out GW533.out GW534.out))); (case aL => exact y46 LMc11.out); intro v543 w21 ho hb hg hat; rw [← Ny542.out] at ho; replace HO_534000 := Aside0.mk (Kd.V_afterv (ok := (fun k_ => (P1_0_ k_ ∨ w.heap.size ≤ k_) ∧ k_ ≠ gb533 ∧ k_ ≠ gb534 ∧ k_ ≠ g)) (by (with_reducible repeat (first | apply Kd.V_alloc | apply Kd.V_drewN | apply Kd.V_drew)); exact Kd.V_mono HO_534000.out (fun _ hk => ⟨⟨hk.1, ⟨hk.2.2.1, ⟨hk.2.2.2.1, hk.2.2.2.2⟩⟩⟩, hk.2.1⟩)) hg hat); replace BK533 := Aside0.mk (blk_grown (g := gb533) (o := .cells #[.slice Ao17 x534000_1.length co17] 30 (0, 0)) (y0 BK533.out) hg (Kd.R_ne HO_6.out BK533.out (by decide))); replace BK534 := Aside0.mk (blk_grown (g := gb534) (o := .cells #[.slice none 0 0] 30 (0, 0)) (y0 BK534.out) hg (Kd.R_ne HO_6.out BK534.out (by decide))); replace HB := Aside0.mk (below_weaken (y12 HB.out HI0.out GE533.out GE534.out) HL.out hb); replace HI0 := Aside0.mk (IsS95.grown (y15 HI0.out NB0_533.out NB0_534.out) hg (IsS95.own_ne HI0.out HO_6.out (by decide))); replace HK := Aside0.mk (KeepBut.trans (y11 HK.out GW533.out GW534.out) (KeepBut.of_grown hg g) (Kd.R_base2 HO_6.out)); have HO544 := Aside0.mk (ho); clear HO_6; clear ho hb hg hat; have hcz22_0 := zh BK533; have hfz22_0 := zfr BK533 0; have p545 : 0 ≤ (t540 : Int) := of_decide_eq_true y19; have q545 : t540 < (x534000_1.length : Int) := of_decide_eq_true y19; obtain ⟨ad545, A545_0, c545_0, e545, hx545_0, hl545_0, hi545_0⟩ := at_T30 (Kd.V_reads' HO_534000.out).2.2 t540 p545 q545; cases e545; obtain ⟨ce545, hce545, hMe545, hcc545⟩ := Kd.V_get HO_534000.out z30 t540 p545 (by first | exact q545 | exact of_decide_eq_true y19 | (have e_ := (Kd.V_reads' HO_534000.out).1; omega)); obtain ⟨ua545_0, uc545_0, rfl, ul545_0, ge545_0⟩ := k30_openF hMe545; have hv545_0 := hcc545 0 _ rfl; rw [Nat.add_zero, show (k30).sz = 1 from rfl, Nat.mul_one] at hv545_0; replace hv545_0 := Option.some.inj (hv545_0.symm.trans hx545_0); injection hv545_0 with hva_ hvn_ hvc_; rw [hva_] at ge545_0; rw [hvc_] at ul545_0; have HL545_0 := Aside0.mk (show Kd.V k30 30 _ w.heap.size _ _ ((rd_T30 x534000_1 t540).f0) from Kd.V_mk ul545_0 ge545_0); clear hva_ hvn_ hvc_ ge545_0 ul545_0; clear hcc545 hce545; have HR545_0 := Aside0.mk hi545_0; have HC545_0 := Aside0.mk hl545_0; clear hi545_0 hl545_0; replace p545 := eq_true p545; replace q545 := eq_true q545))
        go_roundg k1
        case measure => have := HK1.out; omega
        case rel => exact ⟨(y542), (t541), ((rd_T30 x534000_1 t540).f0), (.slice A545_0 ((rd_T30 x534000_1 t540).f0).length c545_0), H', ⟨(y46 HK1.out)⟩, ⟨(by (with_reducible repeat (first | apply Kd.R_alloc | apply Kd.R_drewN | apply Kd.R_drew)); exact Kd.R_mono (Kd.R_far (p := ⟨gb533, 0, none⟩) (Kd.R_types HO544.out BK533.out (by decide)) (fun _ hk => hk.2) (.slice A545_0 ((rd_T30 x534000_1 t540).f0).length c545_0)) (fun _ hk => hk.1))⟩, ⟨(by (with_reducible repeat (first | apply Kd.V_alloc | apply Kd.V_drewN | apply Kd.V_drew)); exact Kd.V_mono (Kd.V_far (p := ⟨gb533, 0, none⟩) (Kd.V_mono HL545_0.out (fun k_ hk => (⟨hk, hk.1.2.1⟩ : _ ∧ k_ ≠ gb533))) (fun _ hk => hk.2) (.slice A545_0 ((rd_T30 x534000_1 t540).f0).length c545_0)) (fun _ hk => ⟨hk.1.1.1, ⟨hk.1.2, ⟨hk.1.1.2.1, ⟨hk.1.1.2.2.1, hk.1.1.2.2.2⟩⟩⟩⟩))⟩, ⟨(by (with_reducible repeat (first | refine blk_drewN ?_ _ | refine blk_drew ?_ | refine blk_alloc ?_ _)); refine blk_put (cs := #[.slice (some ad545) x534000_1.length co17]) ?_ 0 _ rfl; (with_reducible repeat (first | refine blk_drewN ?_ _ | refine blk_drew ?_ | refine blk_alloc ?_ _)); exact BK533.out)⟩, ⟨(y21 NB534_533.out BK534.out)⟩, ⟨(y15 HI0.out NB0_533.out NB0_534.out)⟩, ⟨(y11 HK.out GW533.out GW534.out)⟩, ⟨(y12 HB.out HI0.out GE533.out GE534.out)⟩⟩
       ·rw [if_neg c13] at H
        exact absurd H (by simp)
      ·rw [if_neg c12] at H
       exact absurd H (by simp)
     ·rw [if_neg c11] at H
      exact absurd H (by simp)
    ·rw [if_neg c9] at H
     have c9b0 : decide (0 < t538) = false := decide_eq_false c9
     clear c9
     simp only [Option.some.injEq, Prod.mk.injEq] at H
     obtain ⟨rfl, rfl, rfl⟩ := H
     have hnb23 := NB533_534.out
     have hnc23 := NB534_533.out
     have hnb24 := NB533_0.out
     have hnc24 := NB0_533.out
     have hcz25_0 := zh BK533
     have hfz25_0 := zfr BK533 0
     obtain ⟨Ao26, co26, eo26⟩ := Kd.V_slice HO_534000.out
     subst eo26
     try go_wp2_with (first | (go_at_call 58; (with_reducible refine (spec_l6Rd_pick.calls k1 g s0_0 x1001_1 3 t538 t539 w0 _ ?side1 ?side2 A8.out).mono ?_); (case side1 => exact y15 HI0.out NB0_533.out NB0_534.out); (case side2 => exact y12 HB.out HI0.out GE533.out GE534.out); rintro e w27 ⟨rfl, hi, hb, hk⟩; replace HO_6 := Aside0.mk (Kd.R_mono (Kd.R_keep (IsS95.apart (show IsS95 w0 _ g s0_0 x1001_1 from by repeat (first | (with_reducible first | exact HI0.out | apply IsS95.alloc | apply IsS95.drewN | apply IsS95.drew | apply IsS95.set_1 | refine IsS95.far ?_ NB0_533.out _ | refine IsS95.far ?_ NB0_534.out _) | exact HI0.out)) (y10 HO_6.out) (by decide)) hk (fun _ h => h.2)) (fun _ h => h.1)); replace HO_534000 := Aside0.mk (Kd.V_mono (Kd.V_keep (Kd.V_mono (ok := fun k_ => (((P1_0_ k_ ∨ w.heap.size ≤ k_)) ∧ (some k_ ≠ (u6 : Value).ownBlock ∧ (k_ ≠ gb533 ∧ (k_ ≠ gb534 ∧ k_ ≠ g))))) (y13 HO_534000.out) (fun k_ hk_ => (⟨hk_, hk_.2.2.2.2⟩ : _ ∧ k_ ≠ g))) hk (fun _ h => h.2)) (fun _ h => h.1)); replace BK533 := Aside0.mk (KeepBut.blk hk (g' := gb533) (o := .cells #[.slice Ao26 x534000_1.length co26] 30 (0, 0)) (y0 BK533.out) NB533_0.out (by simp)); replace BK534 := Aside0.mk (KeepBut.blk hk (g' := gb534) (o := .cells #[.slice none 0 0] 30 (0, 0)) (y0 BK534.out) NB534_0.out (by simp)); replace HK := Aside0.mk (KeepBut.trans (y11 HK.out GW533.out GW534.out) hk (.inl rfl)); replace HB := Aside0.mk (hb); replace HI0 := Aside0.mk (hi); (try clear hb); (try clear hb2); (try clear hk); (try clear hi)))
     replace HO_6 := Aside0.mk (Kd.R_drew HO_6.out)
     replace HO_534000 := Aside0.mk (Kd.V_drew HO_534000.out)
     replace BK533 := Aside0.mk (blk_drew BK533.out)
     replace BK534 := Aside0.mk (blk_drew BK534.out)
     replace HI0 := Aside0.mk (IsS95.drew HI0.out)
     replace HK := Aside0.mk (keep_drew HK.out)
     replace HB := Aside0.mk (below_drew1 HB.out)
     refine start_ (n := 4) (S := fun w' => w'.cell? ⟨gb533, 0, none⟩ = some (.slice Ao26 x534000_1.length co26)) (ds := []) #[false, false, false, false] (by kernel_rfl) rfl rfl ((blk_cell BK533.out 0).trans rfl) (fun hHeld => ?_)
     generalize w27.drew = w28 at HO_6 HO_534000 BK533 BK534 HI0 HK HB hHeld ⊢
     refine pure_ (i := 0) (N := some 32) (v := ?_) (a' := ?_) #[true, false, false, false] rfl rfl (by kernel_rfl) (fun _ _ _ h => h) (Or.inl ⟨(by rfl), ?_⟩) ?_ ?_
     rotate_left
     ·intro w'
      go_simp
      with_reducible rfl
     rotate_left
     ·simp only [Act.put, List.setIfInBounds_toArray, List.set_cons_zero, List.set_cons_succ, i64_w, i32_w]
      rfl
     refine pure_ (i := 2) (N := some 4) (v := ?_) (a' := ?_) #[true, false, true, false] rfl rfl (by kernel_rfl) (fun _ _ _ h => h) (Or.inl ⟨(by rfl), ?_⟩) ?_ ?_
     rotate_left
     ·intro w'
      go_simp
      with_reducible rfl
     rotate_left
     ·simp only [Act.put, List.setIfInBounds_toArray, List.set_cons_zero, List.set_cons_succ, i64_w, i32_w]
      rfl
     refine take_ (i := 1) (N := some 33) (v := ?_) (a' := ?_) #[true, true, true, false] rfl rfl (by kernel_rfl) (fun _ _ _ h => h) (Or.inl ⟨(by rfl), ?_⟩) hHeld ?_ ?_
     rotate_left
     ·intro w' s0
      go_simp
      with_reducible rfl
     rotate_left
     ·simp only [Act.put, List.setIfInBounds_toArray, List.set_cons_zero, List.set_cons_succ, i64_w, i32_w]
      rfl
     refine one_ (i := 3) (N := none) #[true, true, true, true] rfl rfl (by kernel_rfl) (by decide) (fun K hK => ?_)
     have hs29 : w28.cell? ⟨gb534, 0, none⟩ = some (.slice none 0 0) := (blk_cell BK534.out 0).trans rfl
     have hfs29 := zfr BK534 0
     have hns29_0 := NB533_534.out
     have hms29_0 := NB534_533.out
     refine skip_ (w1 := ?_) (by rfl) rfl ?_ ?_
     rotate_left
     ·go_simp
      rfl
     refine hK.out _ _ (((cell_far (p := ⟨gb534, _, none⟩) NB533_534.out _).trans (hHeld))) (fun hHeld => ?_)
     clear hK K
     refine done_ (by kernel_rfl) ?_
     try go_wp2
     refine bodyPost_ret (results_tc rfl _ _ gb534 30 #[.slice Ao26 x534000_1.length co26] (0, 0) _ rfl (by (with_reducible repeat (first | refine blk_drewN ?_ _ | refine blk_drew ?_ | refine blk_alloc ?_ _)); apply blk_put (i := 0); (case h => exact y0 BK534.out); (case e => rfl)) Try.underlying30 rfl (by kernel_rfl)) rfl ?_
     exact ⟨_, _, y14, (by (with_reducible repeat (first | apply Kd.R_alloc | apply Kd.R_drewN | apply Kd.R_drew)); exact Kd.R_mono (Kd.R_far (p := ⟨gb534, 0, none⟩) (Kd.R_types HO_6.out BK534.out (by decide)) (fun _ hk => hk.2) (.slice Ao26 x534000_1.length co26)) (fun _ hk => hk.1)), (by (with_reducible repeat (first | apply Kd.V_alloc | apply Kd.V_drewN | apply Kd.V_drew)); exact Kd.V_mono (Kd.V_far (p := ⟨gb534, 0, none⟩) (Kd.V_mono HO_534000.out (fun k_ hk => (⟨hk, hk.2.2.2.1⟩ : _ ∧ k_ ≠ gb534))) (fun _ hk => hk.2) (.slice Ao26 x534000_1.length co26)) (fun _ hk => ⟨hk.1.1, hk.1.2.1⟩)), (y15 HI0.out NB0_533.out NB0_534.out), (y12 HB.out HI0.out GE533.out GE534.out), (y11 HK.out GW533.out GW534.out)⟩
   ·rw [if_neg c7] at H
    have c7b0 : decide (0 < (x534000_1.length : Int)) = false := decide_eq_false c7
    have c7b1 : decide (0 < x534000_1.length) = false := decide_eq_false (by omega)
    clear c7
    simp only [Option.some.injEq, Prod.mk.injEq] at H
    obtain ⟨rfl, rfl, rfl⟩ := H
    have hnb30 := NB533_534.out
    have hnc30 := NB534_533.out
    have hnb31 := NB533_0.out
    have hnc31 := NB0_533.out
    have hcz32_0 := zh BK533
    have hfz32_0 := zfr BK533 0
    obtain ⟨Ao33, co33, eo33⟩ := Kd.V_slice HO_534000.out
    subst eo33
    try go_wp2
    replace HO_6 := Aside0.mk (Kd.R_drew HO_6.out)
    replace HO_534000 := Aside0.mk (Kd.V_drew HO_534000.out)
    replace BK533 := Aside0.mk (blk_drew BK533.out)
    replace BK534 := Aside0.mk (blk_drew BK534.out)
    replace HI0 := Aside0.mk (IsS95.drew HI0.out)
    replace HK := Aside0.mk (keep_drew HK.out)
    replace HB := Aside0.mk (below_drew1 HB.out)
    refine start_ (n := 4) (S := fun w' => w'.cell? ⟨gb533, 0, none⟩ = some (.slice Ao33 x534000_1.length co33)) (ds := []) #[false, false, false, false] (by kernel_rfl) rfl rfl ((blk_cell BK533.out 0).trans rfl) (fun hHeld => ?_)
    generalize wr.drew = w34 at HO_6 HO_534000 BK533 BK534 HI0 HK HB hHeld ⊢
    refine pure_ (i := 0) (N := some 32) (v := ?_) (a' := ?_) #[true, false, false, false] rfl rfl (by kernel_rfl) (fun _ _ _ h => h) (Or.inl ⟨(by rfl), ?_⟩) ?_ ?_
    rotate_left
    ·intro w'
     go_simp
     with_reducible rfl
    rotate_left
    ·simp only [Act.put, List.setIfInBounds_toArray, List.set_cons_zero, List.set_cons_succ, i64_w, i32_w]
     rfl
    refine pure_ (i := 2) (N := some 4) (v := ?_) (a' := ?_) #[true, false, true, false] rfl rfl (by kernel_rfl) (fun _ _ _ h => h) (Or.inl ⟨(by rfl), ?_⟩) ?_ ?_
    rotate_left
    ·intro w'
     go_simp
     with_reducible rfl
    rotate_left
    ·simp only [Act.put, List.setIfInBounds_toArray, List.set_cons_zero, List.set_cons_succ, i64_w, i32_w]
     rfl
    refine take_ (i := 1) (N := some 33) (v := ?_) (a' := ?_) #[true, true, true, false] rfl rfl (by kernel_rfl) (fun _ _ _ h => h) (Or.inl ⟨(by rfl), ?_⟩) hHeld ?_ ?_
    rotate_left
    ·intro w' s0
     go_simp
     with_reducible rfl
    rotate_left
    ·simp only [Act.put, List.setIfInBounds_toArray, List.set_cons_zero, List.set_cons_succ, i64_w, i32_w]
     rfl
    refine one_ (i := 3) (N := none) #[true, true, true, true] rfl rfl (by kernel_rfl) (by decide) (fun K hK => ?_)
    have hs35 : w34.cell? ⟨gb534, 0, none⟩ = some (.slice none 0 0) := (blk_cell BK534.out 0).trans rfl
    have hfs35 := zfr BK534 0
    have hns35_0 := NB533_534.out
    have hms35_0 := NB534_533.out
    refine skip_ (w1 := ?_) (by rfl) rfl ?_ ?_
    rotate_left
    ·go_simp
     rfl
    refine hK.out _ _ (((cell_far (p := ⟨gb534, _, none⟩) NB533_534.out _).trans (hHeld))) (fun hHeld => ?_)
    clear hK K
    refine done_ (by kernel_rfl) ?_
    try go_wp2
    refine bodyPost_ret (results_tc rfl _ _ gb534 30 #[.slice Ao33 x534000_1.length co33] (0, 0) _ rfl (by (with_reducible repeat (first | refine blk_drewN ?_ _ | refine blk_drew ?_ | refine blk_alloc ?_ _)); apply blk_put (i := 0); (case h => exact y0 BK534.out); (case e => rfl)) Try.underlying30 rfl (by kernel_rfl)) rfl ?_
    exact ⟨_, _, y14, (by (with_reducible repeat (first | apply Kd.R_alloc | apply Kd.R_drewN | apply Kd.R_drew)); exact Kd.R_mono (Kd.R_far (p := ⟨gb534, 0, none⟩) (Kd.R_types HO_6.out BK534.out (by decide)) (fun _ hk => hk.2) (.slice Ao33 x534000_1.length co33)) (fun _ hk => hk.1)), (by (with_reducible repeat (first | apply Kd.V_alloc | apply Kd.V_drewN | apply Kd.V_drew)); exact Kd.V_mono (Kd.V_far (p := ⟨gb534, 0, none⟩) (Kd.V_mono HO_534000.out (fun k_ hk => (⟨hk, hk.2.2.2.1⟩ : _ ∧ k_ ≠ gb534))) (fun _ hk => hk.2) (.slice Ao33 x534000_1.length co33)) (fun _ hk => ⟨hk.1.1, hk.1.2.1⟩)), (y15 HI0.out NB0_533.out NB0_534.out), (y12 HB.out HI0.out GE533.out GE534.out), (y11 HK.out GW533.out GW534.out)⟩
end Go.Proofs.Ytjhbhihfifhljaa.PA
end
section
namespace Go.Proofs.Ytjhbhihfifhljaa.PA
open Go.RowKit Go.Proofs.YtjhbhihfifhljaaW.PrintWords Go.Proofs.YtjhbhihfifhljaaW.PrintLast Go.Proofs.YtjhbhihfifhljaaW.PrintMore
attribute [local go_sem] max2_int min2_int max_two min_two max_three min_three max_four min_four
set_option linter.unusedVariables false
set_option linter.unusedSimpArgs false
def spec_l71Any.f (k : Nat) (s0_0 : List Int) (s0_1 : Int) (l1_0 : List (S30)) : Option (List Int × Int) := (spec_l71Path.f k s0_0 s0_1 l1_0).bind fun bt547 => ((spec_l6Rd_pick.f k s0_0 bt547.2.2 6).bind fun bt555 => (if bt555.1 = 0 then ((spec_l6Rd_pick.f k s0_0 bt555.2 4).bind fun bt557 => (if bt547.1.length < 17592186044416 then (some ((bt547.1 ++ [wrap64 (bt557.1 - 1)]), bt557.2)) else (none))) else (some (bt547.1, bt555.2))))
theorem spec_l71Any.mono : ∀ a0 a1 a2 k, LeO (spec_l71Any.f k a0 a1 a2) (spec_l71Any.f (k + 1) a0 a1 a2) := by
 intro a0 a1 a2 k
 unfold spec_l71Any.f
 repeat' first
   | (with_reducible exact spec_l6Rd_pick.mono _ _ _ _)
   | (with_reducible exact spec_l71Path.mono _ _ _ _)
   | (with_reducible exact LeO.refl _)
   | (with_reducible exact LeO.none _)
   | (with_reducible refine LeO.ite ?_ ?_)
   | (with_reducible refine LeO.bind ?_ (fun _ => ?_))
   | exact spec_l6Rd_pick.mono _ _ _ _
   | exact spec_l71Path.mono _ _ _ _
   | exact LeO.none _
   | refine LeO.ite ?_ ?_
   | refine LeO.bind ?_ (fun _ => ?_)
set_option maxHeartbeats 8000000 in
set_option maxRecDepth 100000 in
theorem spec_l71Any.calls (k : Nat) (g : Nat) (s0_0 : List Int) (s0_1 : Int) (P1_0_ : Nat → Prop) (A1_0 : Option Addr) (c1_0 : Nat) (l1_0 : List (S30)) (r1 : List Int) (r2 : Int) (w0 w : World) (hI : IsS95 w0 w g s0_0 s0_1) (hB : Below w0.heap.size w0 w) (hs1_0 : Kd.V k30 30 w w.heap.size (fun k_ => P1_0_ k_ ∧ k_ ≠ g) (.slice A1_0 l1_0.length c1_0) l1_0) (h : spec_l71Any.f k s0_0 s0_1 l1_0 = some (r1, r2)) :
  Calls Try.prog 64 #[.pointer (some ⟨g, 0, none⟩), .agg #[.slice A1_0 l1_0.length c1_0]] w fun e w' => ∃ v0_ : Value, e = .returned (v0_) ∧ Kd.R (Kd.int .i64) 3 w' w.heap.size (fun k_ => (w.heap.size ≤ k_)) v0_ r1 ∧ IsS95 w0 w' g s0_0 r2 ∧ Below w0.heap.size w0 w' ∧ KeepBut w w' g none := by
 have hu30 := Try.underlying30
 have HO1_0 := Aside0.mk (show Kd.V k30 30 w w.heap.size (fun k_ => (P1_0_ k_ ∨ w.heap.size ≤ k_) ∧ k_ ≠ g) (.slice A1_0 l1_0.length c1_0) l1_0 from Kd.V_mono hs1_0 (fun k_ hk => ⟨.inl hk.1, hk.2⟩))
 have HI0 := Aside0.mk hI
 have HK := Aside0.mk (KeepBut.refl w g none)
 have HL := Aside0.mk hB.size
 clear hI
 have HW0 := Aside0.mk hB.size
 have HB := Aside0.mk hB
 clear hB
 have H : ((spec_l71Path.f k s0_0 s0_1 l1_0).bind fun bt547 => ((spec_l6Rd_pick.f k s0_0 bt547.2.2 6).bind fun bt555 => (if bt555.1 = 0 then ((spec_l6Rd_pick.f k s0_0 bt555.2 4).bind fun bt557 => (if bt547.1.length < 17592186044416 then (some ((bt547.1 ++ [wrap64 (bt557.1 - 1)]), bt557.2)) else (none))) else (some (bt547.1, bt555.2))))) = some (r1, r2) := h
 clear h
 obtain ⟨⟨t547, t550, t553⟩, A30, H⟩ := ob H
 have A3 := Aside0.mk A30
 clear A30
 obtain ⟨⟨t555, t556⟩, A40, H⟩ := ob H
 have A4 := Aside0.mk A40
 clear A40
 by_cases c5 : t555 = 0
 ·rw [if_pos c5] at H
  have c5b0 : (t555 == 0) = true := beq_iff_eq.mpr c5
  have c5b1 : (t555 != 0) = false := bne_eq_false_iff_eq.mpr c5
  clear c5
  obtain ⟨⟨t557, t558⟩, A60, H⟩ := ob H
  have A6 := Aside0.mk A60
  clear A60
  by_cases c7 : t547.length < 17592186044416
  ·rw [if_pos c7] at H
   have LMc7 := Aside0.mk c7
   clear c7
   obtain ⟨y559, hy559⟩ : ∃ y_ : List Int, y_ = (t547 ++ [wrap64 (t557 - 1)]) := ⟨_, rfl⟩
   replace H : (some (y559, t558)) = some (r1, r2) := by first | (rw [hy559]; with_reducible exact H) | (have H2_ := (Option.bind_some _ _).symm.trans H; rw [hy559]; with_reducible exact H2_) | (have H2_ := (Option.bind_some _ _).symm.trans H; with_reducible exact H2_) | with_reducible exact H | (rw [hy559]; exact H) | exact H
   have Ny559 := Aside0.mk hy559
   clear hy559
   simp only [Option.some.injEq, Prod.mk.injEq] at H
   obtain ⟨rfl, rfl⟩ := H
   go_enter Try.func64, Try.ntmps64
   go_wp2_with (first | ((with_reducible refine gate_dst (N := 3) rfl ?_); refine zbx 3 #[.slice A1_0 l1_0.length c1_0] 30 ?_; intro gb546 hg w8 hbox hb; replace HO1_0 := Aside0.mk (Kd.V_below (Kd.V_elderB (y13 HO1_0.out) gb546 (Nat.le_of_eq hg.symm)) hb); replace HB := Aside0.mk (below_step (y33 HB.out HI0.out) hb); have BK546 := Aside0.mk hbox; have GW546 := Aside0.mk ((by rw [hg]; exact (keep_size (w := w) (g := g) (row := none) (y25 HK.out)) : w.heap.size ≤ gb546)); have GE546 := Aside0.mk ((Nat.le_trans HW0.out (by rw [hg]; exact (keep_size (w := w) (g := g) (row := none) (y25 HK.out)) : w.heap.size ≤ gb546) : w0.heap.size ≤ gb546)); replace HK := Aside0.mk (KeepBut.trans (y25 HK.out) (KeepBut.of_below hb g none) (.inl rfl)); have NB0_546 := Aside0.mk ((by rw [hg]; exact Nat.ne_of_lt (IsS95.lt (show IsS95 w0 _ g s0_0 s0_1 from by repeat (first | (with_reducible first | exact HI0.out | apply IsS95.alloc | apply IsS95.drewN | apply IsS95.drew | apply IsS95.set_1) | exact HI0.out))) : g ≠ gb546)); have NB546_0 := Aside0.mk ((by rw [hg]; exact Nat.ne_of_gt (IsS95.lt (show IsS95 w0 _ g s0_0 s0_1 from by repeat (first | (with_reducible first | exact HI0.out | apply IsS95.alloc | apply IsS95.drewN | apply IsS95.drew | apply IsS95.set_1) | exact HI0.out))) : gb546 ≠ g)); replace HI0 := Aside0.mk (IsS95.below (y35 HI0.out) hb); clear hb hbox hg; have hnb9 := NB546_0.out; have hnc9 := NB0_546.out; have hcz10_0 := zh BK546; have hfz10_0 := zfr BK546 0) | ((with_reducible refine gate_callee (f := 86) rfl ?_); refine goesL_ (some 10) rfl rfl Try.func86 (by kernel_rfl) rfl #[.pointer (some ⟨g, 0, none⟩), .agg #[.slice A1_0 l1_0.length c1_0]] rfl y4 ?_; (with_reducible refine (spec_l71Path.calls k g s0_0 s0_1 (fun k_ => (((P1_0_ k_ ∨ w.heap.size ≤ k_) ∧ k_ ≠ g) ∧ k_ ≠ gb546)) _ _ l1_0 t547 t550 t553 w0 _ ?side1 ?side2 ?side3 A3.out).mono ?_); (case side1 => exact y24 HI0.out NB0_546.out); (case side2 => exact y23 HB.out HI0.out GE546.out); (case side3 => exact Kd.V_mono (HO1_0.out) (fun k_ hk_ => ⟨hk_, hk_.1.2⟩)); rintro e w11 ⟨v548, v551, rfl, ho0, ho1, hi, hb, hk⟩; refine ⟨_, rfl, ?_⟩; replace HO1_0 := Aside0.mk (Kd.V_mono (Kd.V_told (Kd.V_oldK (Kd.V_mono (ok := fun k_ => ((((P1_0_ k_ ∨ w.heap.size ≤ k_)) ∧ k_ ≠ g) ∧ k_ ≠ gb546)) (y13 HO1_0.out) (fun k_ hk_ => (⟨hk_, hk_.1.2⟩ : _ ∧ k_ ≠ g))) hk) (Kd.R_base ho0)) (fun _ h_ => h_.1)); have HO549 := Aside0.mk (Kd.R_lower (Kd.R_newM (M := fun k_ => (w.heap.size ≤ k_)) ho0 (keep_size (w := w) (g := g) (row := none) (y18 HK.out GW546.out)) (fun k_ h_ => h_)) (keep_size (w := w) (g := g) (row := none) (y18 HK.out GW546.out))); have HO552 := Aside0.mk (Kd.V_lower (Kd.V_mono (ok' := fun k_ => (P1_0_ k_ ∨ w.heap.size ≤ k_) ∧ some k_ ≠ (v548 : Value).ownBlock ∧ k_ ≠ gb546 ∧ k_ ≠ g) ho1 (fun k_ hk_ => ⟨Or.elim hk_.1 (fun hs_ => hs_.1.1) (fun hn_ => (.inr (Nat.le_trans (keep_size (w := w) (g := g) (row := none) (y18 HK.out GW546.out)) hn_))), hk_.2, Or.elim hk_.1 (fun hs_ => hs_.2) (fun hn_ => (Kd.freshB (g := gb546) (o := .cells #[.slice A1_0 l1_0.length c1_0] 30 (0, 0)) (y0 BK546.out) k_ hn_)), Or.elim hk_.1 (fun hs_ => hs_.1.2) (fun hn_ => (IsS95.fresh (y24 HI0.out NB0_546.out) k_ hn_))⟩)) (keep_size (w := w) (g := g) (row := none) (y18 HK.out GW546.out))); replace BK546 := Aside0.mk (KeepBut.blk hk (g' := gb546) (o := .cells #[.slice A1_0 l1_0.length c1_0] 30 (0, 0)) (y0 BK546.out) NB546_0.out (by simp)); replace HK := Aside0.mk (KeepBut.trans (y18 HK.out GW546.out) hk (.inl rfl)); replace HB := Aside0.mk (hb); replace HI0 := Aside0.mk (hi); (try clear hb); (try clear hb2); (try clear hk); (try clear hi); (try clear ho0); (try clear ho1)) | ((with_reducible refine gate_dst (N := 6) rfl ?_); refine zbx 6 #[.slice none 0 0] 30 ?_; intro gb554 hg w12 hbox hb; replace HO1_0 := Aside0.mk (Kd.V_below (Kd.V_elderB (y13 HO1_0.out) gb554 (Nat.le_of_eq hg.symm)) hb); replace HO549 := Aside0.mk (Kd.R_below (y10 HO549.out) hb); replace HO552 := Aside0.mk (Kd.V_below (Kd.V_elderB (y13 HO552.out) gb554 (Nat.le_of_eq hg.symm)) hb); replace HB := Aside0.mk (below_step (y23 HB.out HI0.out GE546.out) hb); have BK554 := Aside0.mk hbox; have GW554 := Aside0.mk ((by rw [hg]; exact (keep_size (w := w) (g := g) (row := none) (y18 HK.out GW546.out)) : w.heap.size ≤ gb554)); have GE554 := Aside0.mk ((Nat.le_trans HW0.out (by rw [hg]; exact (keep_size (w := w) (g := g) (row := none) (y18 HK.out GW546.out)) : w.heap.size ≤ gb554) : w0.heap.size ≤ gb554)); replace HK := Aside0.mk (KeepBut.trans (y18 HK.out GW546.out) (KeepBut.of_below hb g none) (.inl rfl)); have NB546_554 := zltn hg BK546; have NB554_546 := zgtn hg BK546; replace BK546 := zbb BK546 hb; have NB0_554 := Aside0.mk ((by rw [hg]; exact Nat.ne_of_lt (IsS95.lt (show IsS95 w0 _ g s0_0 t553 from by repeat (first | (with_reducible first | exact HI0.out | apply IsS95.alloc | apply IsS95.drewN | apply IsS95.drew | apply IsS95.set_1 | refine IsS95.far ?_ NB0_546.out _) | exact HI0.out))) : g ≠ gb554)); have NB554_0 := Aside0.mk ((by rw [hg]; exact Nat.ne_of_gt (IsS95.lt (show IsS95 w0 _ g s0_0 t553 from by repeat (first | (with_reducible first | exact HI0.out | apply IsS95.alloc | apply IsS95.drewN | apply IsS95.drew | apply IsS95.set_1 | refine IsS95.far ?_ NB0_546.out _) | exact HI0.out))) : gb554 ≠ g)); replace HI0 := Aside0.mk (IsS95.below (y24 HI0.out NB0_546.out) hb); clear hb hbox hg; obtain ⟨Ao13, co13, eo13⟩ := Kd.V_slice HO552.out; subst eo13; have hnb14 := NB554_546.out; have hnc14 := NB546_554.out; have hnb15 := NB554_0.out; have hnc15 := NB0_554.out; have hcz16_0 := zh BK554; have hfz16_0 := zfr BK554 0) | ((with_reducible refine gate_callee (f := 58) rfl ?_); refine goesL_ (some 14) rfl rfl Try.func58 (by kernel_rfl) rfl #[.pointer (some ⟨g, 0, none⟩), .int .i64 6] rfl y4 ?_; (with_reducible refine (spec_l6Rd_pick.calls k g s0_0 t553 6 t555 t556 w0 _ ?side1 ?side2 A4.out).mono ?_); (case side1 => exact y15 HI0.out NB0_546.out NB0_554.out); (case side2 => exact y12 HB.out HI0.out GE546.out GE554.out); rintro e w17 ⟨rfl, hi, hb, hk⟩; refine ⟨_, rfl, ?_⟩; replace HO1_0 := Aside0.mk (Kd.V_mono (Kd.V_keep (Kd.V_mono (ok := fun k_ => ((((((P1_0_ k_ ∨ w.heap.size ≤ k_)) ∧ k_ ≠ g) ∧ k_ ≠ gb546) ∧ some k_ ≠ (v548 : Value).ownBlock) ∧ k_ ≠ gb554)) (by (with_reducible repeat (first | apply Kd.V_alloc | apply Kd.V_drewN | apply Kd.V_drew)); exact (Kd.V_mono (Kd.V_far (p := ⟨gb554, 0, none⟩) (Kd.V_mono HO1_0.out (fun k_ hk => (⟨hk, hk.2⟩ : _ ∧ k_ ≠ gb554))) (fun _ hk => hk.2) (.slice Ao13 t550.length co13)) (fun _ h_ => h_.1))) (fun k_ hk_ => (⟨hk_, hk_.1.1.1.2⟩ : _ ∧ k_ ≠ g))) hk (fun _ h => h.2)) (fun _ h => h.1)); replace BK546 := Aside0.mk (KeepBut.blk hk (g' := gb546) (o := .cells #[.slice A1_0 l1_0.length c1_0] 30 (0, 0)) (y21 NB546_554.out BK546.out) NB546_0.out (by simp)); replace HO549 := Aside0.mk (Kd.R_mono (Kd.R_keep (IsS95.apart (show IsS95 w0 _ g s0_0 t553 from by repeat (first | (with_reducible first | exact HI0.out | apply IsS95.alloc | apply IsS95.drewN | apply IsS95.drew | apply IsS95.set_1 | refine IsS95.far ?_ NB0_546.out _ | refine IsS95.far ?_ NB0_554.out _) | exact HI0.out)) (by (with_reducible repeat (first | apply Kd.R_alloc | apply Kd.R_drewN | apply Kd.R_drew)); exact (Kd.R_mono (Kd.R_far (p := ⟨gb554, 0, none⟩) (Kd.R_types HO549.out BK554.out (by decide)) (fun _ hk => hk.2) (.slice Ao13 t550.length co13)) (fun _ h_ => h_.1))) (by decide)) hk (fun _ h => h.2)) (fun _ h => h.1)); replace HO552 := Aside0.mk (Kd.V_mono (Kd.V_keep (Kd.V_mono (ok := fun k_ => ((((P1_0_ k_ ∨ w.heap.size ≤ k_)) ∧ (some k_ ≠ (v548 : Value).ownBlock ∧ (k_ ≠ gb546 ∧ k_ ≠ g))) ∧ k_ ≠ gb554)) (by (with_reducible repeat (first | apply Kd.V_alloc | apply Kd.V_drewN | apply Kd.V_drew)); exact (Kd.V_mono (Kd.V_far (p := ⟨gb554, 0, none⟩) (Kd.V_mono HO552.out (fun k_ hk => (⟨hk, hk.2⟩ : _ ∧ k_ ≠ gb554))) (fun _ hk => hk.2) (.slice Ao13 t550.length co13)) (fun _ h_ => h_.1))) (fun k_ hk_ => (⟨hk_, hk_.1.2.2.2⟩ : _ ∧ k_ ≠ g))) hk (fun _ h => h.2)) (fun _ h => h.1)); replace BK554 := Aside0.mk (KeepBut.blk hk (g' := gb554) (o := .cells #[.slice Ao13 t550.length co13] 30 (0, 0)) (by (with_reducible repeat (first | refine blk_drewN ?_ _ | refine blk_drew ?_ | refine blk_alloc ?_ _)); apply blk_put (i := 0); (case h => exact y0 BK554.out); (case e => rfl)) NB554_0.out (by simp)); replace HK := Aside0.mk (KeepBut.trans (y11 HK.out GW546.out GW554.out) hk (.inl rfl)); replace HB := Aside0.mk (hb); replace HI0 := Aside0.mk (hi); (try clear hb); (try clear hb2); (try clear hk); (try clear hi)) | ((with_reducible refine gate_callee (f := 58) rfl ?_); refine goesL_ (some 18) rfl rfl Try.func58 (by kernel_rfl) rfl #[.pointer (some ⟨g, 0, none⟩), .int .i64 4] rfl y4 ?_; (with_reducible refine (spec_l6Rd_pick.calls k g s0_0 t556 4 t557 t558 w0 _ ?side1 ?side2 A6.out).mono ?_); (case side1 => exact y15 HI0.out NB0_546.out NB0_554.out); (case side2 => exact y12 HB.out HI0.out GE546.out GE554.out); rintro e w18 ⟨rfl, hi, hb, hk⟩; refine ⟨_, rfl, ?_⟩; replace HO1_0 := Aside0.mk (Kd.V_mono (Kd.V_keep (Kd.V_mono (ok := fun k_ => ((((((P1_0_ k_ ∨ w.heap.size ≤ k_)) ∧ k_ ≠ g) ∧ k_ ≠ gb546) ∧ some k_ ≠ (v548 : Value).ownBlock) ∧ k_ ≠ gb554)) (y13 HO1_0.out) (fun k_ hk_ => (⟨hk_, hk_.1.1.1.2⟩ : _ ∧ k_ ≠ g))) hk (fun _ h => h.2)) (fun _ h => h.1)); replace BK546 := Aside0.mk (KeepBut.blk hk (g' := gb546) (o := .cells #[.slice A1_0 l1_0.length c1_0] 30 (0, 0)) (y0 BK546.out) NB546_0.out (by simp)); replace HO549 := Aside0.mk (Kd.R_mono (Kd.R_keep (IsS95.apart (show IsS95 w0 _ g s0_0 t556 from by repeat (first | (with_reducible first | exact HI0.out | apply IsS95.alloc | apply IsS95.drewN | apply IsS95.drew | apply IsS95.set_1 | refine IsS95.far ?_ NB0_546.out _ | refine IsS95.far ?_ NB0_554.out _) | exact HI0.out)) (y10 HO549.out) (by decide)) hk (fun _ h => h.2)) (fun _ h => h.1)); replace HO552 := Aside0.mk (Kd.V_mono (Kd.V_keep (Kd.V_mono (ok := fun k_ => ((((P1_0_ k_ ∨ w.heap.size ≤ k_)) ∧ (some k_ ≠ (v548 : Value).ownBlock ∧ (k_ ≠ gb546 ∧ k_ ≠ g))) ∧ k_ ≠ gb554)) (y13 HO552.out) (fun k_ hk_ => (⟨hk_, hk_.1.2.2.2⟩ : _ ∧ k_ ≠ g))) hk (fun _ h => h.2)) (fun _ h => h.1)); replace BK554 := Aside0.mk (KeepBut.blk hk (g' := gb554) (o := .cells #[.slice Ao13 t550.length co13] 30 (0, 0)) (y0 BK554.out) NB554_0.out (by simp)); replace HK := Aside0.mk (KeepBut.trans (y11 HK.out GW546.out GW554.out) hk (.inl rfl)); replace HB := Aside0.mk (hb); replace HI0 := Aside0.mk (hi); (try clear hb); (try clear hb2); (try clear hk); (try clear hi)) | ((with_reducible refine gate_builtin (b := .append) (xs := #[.tmp 16, .tmp 20]) rfl ?_); at_builtin; refine Kd.R_append (Kd.int .i64) w.heap.size rfl (.tmp 16) (.tmp 20) 38 3 (.int .i64 0) 8 rfl Try.underlying38 info3 rfl (by decide) (by omega) v548 t547 (wrap64 (t557 - 1)) [.int .i64 (wrap64 (t557 - 1))] (fun k_ => (w.heap.size ≤ k_)) (fun _ => False) rfl rfl ?aP (fun _ hk => hk.elim) ?aF ?aO (Below.refl _ _) ?aS ?aL ?_; (case aP => exact rfl); (case aF => exact (fun k_ hk => (Nat.le_trans (keep_size (w := w) (g := g) (row := none) (y11 HK.out GW546.out GW554.out)) hk))); (case aO => exact (y71 HO549.out)); (case aS => exact (keep_size (w := w) (g := g) (row := none) (y11 HK.out GW546.out GW554.out))); (case aL => exact y46 LMc7.out); intro v560 w19 ho hb hg hat; rw [← Ny559.out] at ho; replace HO1_0 := Aside0.mk (Kd.V_afterv (ok := (fun k_ => (P1_0_ k_ ∨ w.heap.size ≤ k_) ∧ k_ ≠ g ∧ k_ ≠ gb546 ∧ k_ ≠ gb554)) (by (with_reducible repeat (first | apply Kd.V_alloc | apply Kd.V_drewN | apply Kd.V_drew)); exact Kd.V_mono HO1_0.out (fun _ hk => ⟨⟨hk.1.1.1.1, ⟨hk.1.1.1.2, ⟨hk.1.1.2, hk.2⟩⟩⟩, hk.1.2⟩)) hg hat); replace BK546 := Aside0.mk (blk_grown (g := gb546) (o := .cells #[.slice A1_0 l1_0.length c1_0] 30 (0, 0)) (y0 BK546.out) hg (Kd.R_ne HO549.out BK546.out (by decide))); replace HO552 := Aside0.mk (Kd.V_afterv (ok := (fun k_ => (P1_0_ k_ ∨ w.heap.size ≤ k_) ∧ k_ ≠ gb546 ∧ k_ ≠ g ∧ k_ ≠ gb554)) (by (with_reducible repeat (first | apply Kd.V_alloc | apply Kd.V_drewN | apply Kd.V_drew)); exact Kd.V_mono HO552.out (fun _ hk => ⟨⟨hk.1.1, ⟨hk.1.2.2.1, ⟨hk.1.2.2.2, hk.2⟩⟩⟩, hk.1.2.1⟩)) hg hat); replace BK554 := Aside0.mk (blk_grown (g := gb554) (o := .cells #[.slice Ao13 t550.length co13] 30 (0, 0)) (y0 BK554.out) hg (Kd.R_ne HO549.out BK554.out (by decide))); replace HB := Aside0.mk (below_weaken (y12 HB.out HI0.out GE546.out GE554.out) HL.out hb); replace HI0 := Aside0.mk (IsS95.grown (y15 HI0.out NB0_546.out NB0_554.out) hg (IsS95.own_ne HI0.out HO549.out (by decide))); replace HK := Aside0.mk (KeepBut.trans (y11 HK.out GW546.out GW554.out) (KeepBut.of_grown hg g) (Kd.R_base2 HO549.out)); have HO561 := Aside0.mk (ho); clear HO549; clear ho hb hg hat))
   go_ret
   exact ⟨_, y14, (y10 HO561.out), (y15 HI0.out NB0_546.out NB0_554.out), (y12 HB.out HI0.out GE546.out GE554.out), (y11 HK.out GW546.out GW554.out)⟩
  ·rw [if_neg c7] at H
   exact absurd H (by simp)
 ·rw [if_neg c5] at H
  have c5b0 : (t555 == 0) = false := beq_eq_false_iff_ne.mpr c5
  have c5b1 : (t555 != 0) = true := bne_iff_ne.mpr c5
  simp only [Option.some.injEq, Prod.mk.injEq] at H
  obtain ⟨rfl, rfl⟩ := H
  go_enter Try.func64, Try.ntmps64
  go_wp2_with (first | ((with_reducible refine gate_dst (N := 3) rfl ?_); refine zbx 3 #[.slice A1_0 l1_0.length c1_0] 30 ?_; intro gb546 hg w20 hbox hb; replace HO1_0 := Aside0.mk (Kd.V_below (Kd.V_elderB (y13 HO1_0.out) gb546 (Nat.le_of_eq hg.symm)) hb); replace HB := Aside0.mk (below_step (y33 HB.out HI0.out) hb); have BK546 := Aside0.mk hbox; have GW546 := Aside0.mk ((by rw [hg]; exact (keep_size (w := w) (g := g) (row := none) (y25 HK.out)) : w.heap.size ≤ gb546)); have GE546 := Aside0.mk ((Nat.le_trans HW0.out (by rw [hg]; exact (keep_size (w := w) (g := g) (row := none) (y25 HK.out)) : w.heap.size ≤ gb546) : w0.heap.size ≤ gb546)); replace HK := Aside0.mk (KeepBut.trans (y25 HK.out) (KeepBut.of_below hb g none) (.inl rfl)); have NB0_546 := Aside0.mk ((by rw [hg]; exact Nat.ne_of_lt (IsS95.lt (show IsS95 w0 _ g s0_0 s0_1 from by repeat (first | (with_reducible first | exact HI0.out | apply IsS95.alloc | apply IsS95.drewN | apply IsS95.drew | apply IsS95.set_1) | exact HI0.out))) : g ≠ gb546)); have NB546_0 := Aside0.mk ((by rw [hg]; exact Nat.ne_of_gt (IsS95.lt (show IsS95 w0 _ g s0_0 s0_1 from by repeat (first | (with_reducible first | exact HI0.out | apply IsS95.alloc | apply IsS95.drewN | apply IsS95.drew | apply IsS95.set_1) | exact HI0.out))) : gb546 ≠ g)); replace HI0 := Aside0.mk (IsS95.below (y35 HI0.out) hb); clear hb hbox hg; have hnb21 := NB546_0.out; have hnc21 := NB0_546.out; have hcz22_0 := zh BK546; have hfz22_0 := zfr BK546 0) | ((with_reducible refine gate_callee (f := 86) rfl ?_); refine goesL_ (some 10) rfl rfl Try.func86 (by kernel_rfl) rfl #[.pointer (some ⟨g, 0, none⟩), .agg #[.slice A1_0 l1_0.length c1_0]] rfl y4 ?_; (with_reducible refine (spec_l71Path.calls k g s0_0 s0_1 (fun k_ => (((P1_0_ k_ ∨ w.heap.size ≤ k_) ∧ k_ ≠ g) ∧ k_ ≠ gb546)) _ _ l1_0 t547 t550 t553 w0 _ ?side1 ?side2 ?side3 A3.out).mono ?_); (case side1 => exact y24 HI0.out NB0_546.out); (case side2 => exact y23 HB.out HI0.out GE546.out); (case side3 => exact Kd.V_mono (HO1_0.out) (fun k_ hk_ => ⟨hk_, hk_.1.2⟩)); rintro e w23 ⟨v548, v551, rfl, ho0, ho1, hi, hb, hk⟩; refine ⟨_, rfl, ?_⟩; replace HO1_0 := Aside0.mk (Kd.V_mono (Kd.V_told (Kd.V_oldK (Kd.V_mono (ok := fun k_ => ((((P1_0_ k_ ∨ w.heap.size ≤ k_)) ∧ k_ ≠ g) ∧ k_ ≠ gb546)) (y13 HO1_0.out) (fun k_ hk_ => (⟨hk_, hk_.1.2⟩ : _ ∧ k_ ≠ g))) hk) (Kd.R_base ho0)) (fun _ h_ => h_.1)); have HO549 := Aside0.mk (Kd.R_lower (Kd.R_newM (M := fun k_ => (w.heap.size ≤ k_)) ho0 (keep_size (w := w) (g := g) (row := none) (y18 HK.out GW546.out)) (fun k_ h_ => h_)) (keep_size (w := w) (g := g) (row := none) (y18 HK.out GW546.out))); have HO552 := Aside0.mk (Kd.V_lower (Kd.V_mono (ok' := fun k_ => (P1_0_ k_ ∨ w.heap.size ≤ k_) ∧ some k_ ≠ (v548 : Value).ownBlock ∧ k_ ≠ gb546 ∧ k_ ≠ g) ho1 (fun k_ hk_ => ⟨Or.elim hk_.1 (fun hs_ => hs_.1.1) (fun hn_ => (.inr (Nat.le_trans (keep_size (w := w) (g := g) (row := none) (y18 HK.out GW546.out)) hn_))), hk_.2, Or.elim hk_.1 (fun hs_ => hs_.2) (fun hn_ => (Kd.freshB (g := gb546) (o := .cells #[.slice A1_0 l1_0.length c1_0] 30 (0, 0)) (y0 BK546.out) k_ hn_)), Or.elim hk_.1 (fun hs_ => hs_.1.2) (fun hn_ => (IsS95.fresh (y24 HI0.out NB0_546.out) k_ hn_))⟩)) (keep_size (w := w) (g := g) (row := none) (y18 HK.out GW546.out))); replace BK546 := Aside0.mk (KeepBut.blk hk (g' := gb546) (o := .cells #[.slice A1_0 l1_0.length c1_0] 30 (0, 0)) (y0 BK546.out) NB546_0.out (by simp)); replace HK := Aside0.mk (KeepBut.trans (y18 HK.out GW546.out) hk (.inl rfl)); replace HB := Aside0.mk (hb); replace HI0 := Aside0.mk (hi); (try clear hb); (try clear hb2); (try clear hk); (try clear hi); (try clear ho0); (try clear ho1)) | ((with_reducible refine gate_dst (N := 6) rfl ?_); refine zbx 6 #[.slice none 0 0] 30 ?_; intro gb554 hg w24 hbox hb; replace HO1_0 := Aside0.mk (Kd.V_below (Kd.V_elderB (y13 HO1_0.out) gb554 (Nat.le_of_eq hg.symm)) hb); replace HO549 := Aside0.mk (Kd.R_below (y10 HO549.out) hb); replace HO552 := Aside0.mk (Kd.V_below (Kd.V_elderB (y13 HO552.out) gb554 (Nat.le_of_eq hg.symm)) hb); replace HB := Aside0.mk (below_step (y23 HB.out HI0.out GE546.out) hb); have BK554 := Aside0.mk hbox; have GW554 := Aside0.mk ((by rw [hg]; exact (keep_size (w := w) (g := g) (row := none) (y18 HK.out GW546.out)) : w.heap.size ≤ gb554)); have GE554 := Aside0.mk ((Nat.le_trans HW0.out (by rw [hg]; exact (keep_size (w := w) (g := g) (row := none) (y18 HK.out GW546.out)) : w.heap.size ≤ gb554) : w0.heap.size ≤ gb554)); replace HK := Aside0.mk (KeepBut.trans (y18 HK.out GW546.out) (KeepBut.of_below hb g none) (.inl rfl)); have NB546_554 := zltn hg BK546; have NB554_546 := zgtn hg BK546; replace BK546 := zbb BK546 hb; have NB0_554 := Aside0.mk ((by rw [hg]; exact Nat.ne_of_lt (IsS95.lt (show IsS95 w0 _ g s0_0 t553 from by repeat (first | (with_reducible first | exact HI0.out | apply IsS95.alloc | apply IsS95.drewN | apply IsS95.drew | apply IsS95.set_1 | refine IsS95.far ?_ NB0_546.out _) | exact HI0.out))) : g ≠ gb554)); have NB554_0 := Aside0.mk ((by rw [hg]; exact Nat.ne_of_gt (IsS95.lt (show IsS95 w0 _ g s0_0 t553 from by repeat (first | (with_reducible first | exact HI0.out | apply IsS95.alloc | apply IsS95.drewN | apply IsS95.drew | apply IsS95.set_1 | refine IsS95.far ?_ NB0_546.out _) | exact HI0.out))) : gb554 ≠ g)); replace HI0 := Aside0.mk (IsS95.below (y24 HI0.out NB0_546.out) hb); clear hb hbox hg; obtain ⟨Ao25, co25, eo25⟩ := Kd.V_slice HO552.out; subst eo25; have hnb26 := NB554_546.out; have hnc26 := NB546_554.out; have hnb27 := NB554_0.out; have hnc27 := NB0_554.out; have hcz28_0 := zh BK554; have hfz28_0 := zfr BK554 0) | ((with_reducible refine gate_callee (f := 58) rfl ?_); refine goesL_ (some 14) rfl rfl Try.func58 (by kernel_rfl) rfl #[.pointer (some ⟨g, 0, none⟩), .int .i64 6] rfl y4 ?_; (with_reducible refine (spec_l6Rd_pick.calls k g s0_0 t553 6 t555 t556 w0 _ ?side1 ?side2 A4.out).mono ?_); (case side1 => exact y15 HI0.out NB0_546.out NB0_554.out); (case side2 => exact y12 HB.out HI0.out GE546.out GE554.out); rintro e w29 ⟨rfl, hi, hb, hk⟩; refine ⟨_, rfl, ?_⟩; replace HO1_0 := Aside0.mk (Kd.V_mono (Kd.V_keep (Kd.V_mono (ok := fun k_ => ((((((P1_0_ k_ ∨ w.heap.size ≤ k_)) ∧ k_ ≠ g) ∧ k_ ≠ gb546) ∧ some k_ ≠ (v548 : Value).ownBlock) ∧ k_ ≠ gb554)) (by (with_reducible repeat (first | apply Kd.V_alloc | apply Kd.V_drewN | apply Kd.V_drew)); exact (Kd.V_mono (Kd.V_far (p := ⟨gb554, 0, none⟩) (Kd.V_mono HO1_0.out (fun k_ hk => (⟨hk, hk.2⟩ : _ ∧ k_ ≠ gb554))) (fun _ hk => hk.2) (.slice Ao25 t550.length co25)) (fun _ h_ => h_.1))) (fun k_ hk_ => (⟨hk_, hk_.1.1.1.2⟩ : _ ∧ k_ ≠ g))) hk (fun _ h => h.2)) (fun _ h => h.1)); replace BK546 := Aside0.mk (KeepBut.blk hk (g' := gb546) (o := .cells #[.slice A1_0 l1_0.length c1_0] 30 (0, 0)) (y21 NB546_554.out BK546.out) NB546_0.out (by simp)); replace HO549 := Aside0.mk (Kd.R_mono (Kd.R_keep (IsS95.apart (show IsS95 w0 _ g s0_0 t553 from by repeat (first | (with_reducible first | exact HI0.out | apply IsS95.alloc | apply IsS95.drewN | apply IsS95.drew | apply IsS95.set_1 | refine IsS95.far ?_ NB0_546.out _ | refine IsS95.far ?_ NB0_554.out _) | exact HI0.out)) (by (with_reducible repeat (first | apply Kd.R_alloc | apply Kd.R_drewN | apply Kd.R_drew)); exact (Kd.R_mono (Kd.R_far (p := ⟨gb554, 0, none⟩) (Kd.R_types HO549.out BK554.out (by decide)) (fun _ hk => hk.2) (.slice Ao25 t550.length co25)) (fun _ h_ => h_.1))) (by decide)) hk (fun _ h => h.2)) (fun _ h => h.1)); replace HO552 := Aside0.mk (Kd.V_mono (Kd.V_keep (Kd.V_mono (ok := fun k_ => ((((P1_0_ k_ ∨ w.heap.size ≤ k_)) ∧ (some k_ ≠ (v548 : Value).ownBlock ∧ (k_ ≠ gb546 ∧ k_ ≠ g))) ∧ k_ ≠ gb554)) (by (with_reducible repeat (first | apply Kd.V_alloc | apply Kd.V_drewN | apply Kd.V_drew)); exact (Kd.V_mono (Kd.V_far (p := ⟨gb554, 0, none⟩) (Kd.V_mono HO552.out (fun k_ hk => (⟨hk, hk.2⟩ : _ ∧ k_ ≠ gb554))) (fun _ hk => hk.2) (.slice Ao25 t550.length co25)) (fun _ h_ => h_.1))) (fun k_ hk_ => (⟨hk_, hk_.1.2.2.2⟩ : _ ∧ k_ ≠ g))) hk (fun _ h => h.2)) (fun _ h => h.1)); replace BK554 := Aside0.mk (KeepBut.blk hk (g' := gb554) (o := .cells #[.slice Ao25 t550.length co25] 30 (0, 0)) (by (with_reducible repeat (first | refine blk_drewN ?_ _ | refine blk_drew ?_ | refine blk_alloc ?_ _)); apply blk_put (i := 0); (case h => exact y0 BK554.out); (case e => rfl)) NB554_0.out (by simp)); replace HK := Aside0.mk (KeepBut.trans (y11 HK.out GW546.out GW554.out) hk (.inl rfl)); replace HB := Aside0.mk (hb); replace HI0 := Aside0.mk (hi); (try clear hb); (try clear hb2); (try clear hk); (try clear hi)))
  go_ret
  exact ⟨_, y14, (y71 HO549.out), (y15 HI0.out NB0_546.out NB0_554.out), (y12 HB.out HI0.out GE546.out GE554.out), (y11 HK.out GW546.out GW554.out)⟩
end Go.Proofs.Ytjhbhihfifhljaa.PA
end
section
namespace Go.Proofs.Ytjhbhihfifhljaa.PA
open Go.RowKit Go.Proofs.YtjhbhihfifhljaaW.PrintWords Go.Proofs.YtjhbhihfifhljaaW.PrintLast Go.Proofs.YtjhbhihfifhljaaW.PrintMore
attribute [local go_sem] max2_int min2_int max_two min_two max_three min_three max_four min_four
set_option linter.unusedVariables false
set_option linter.unusedSimpArgs false
def spec_DrawTypeAt.f (k : Nat) (l0 : List Int) : Option ((List (S30)) × List Int) := (spec_l6Open.f l0).bind fun bt563 => ((spec_l71Deep.f k bt563.1 bt563.2).bind fun bt566 => ((spec_l71Any.f k bt563.1 bt566.2 bt566.1).bind fun bt571 => (some (bt566.1, bt571.1))))
theorem spec_DrawTypeAt.mono : ∀ a0 k, LeO (spec_DrawTypeAt.f k a0) (spec_DrawTypeAt.f (k + 1) a0) := by
 intro a0 k
 unfold spec_DrawTypeAt.f
 repeat' first
   | (with_reducible exact spec_l71Any.mono _ _ _ _)
   | (with_reducible exact spec_l71Deep.mono _ _ _)
   | (with_reducible exact LeO.refl _)
   | (with_reducible exact LeO.none _)
   | (with_reducible refine LeO.ite ?_ ?_)
   | (with_reducible refine LeO.bind ?_ (fun _ => ?_))
   | exact spec_l71Any.mono _ _ _ _
   | exact spec_l71Deep.mono _ _ _
   | exact LeO.none _
   | refine LeO.ite ?_ ?_
   | refine LeO.bind ?_ (fun _ => ?_)
set_option maxHeartbeats 8000000 in
set_option maxRecDepth 100000 in
theorem spec_DrawTypeAt.calls (k : Nat) (A0 : Option Addr) (c0 : Nat) (l0 : List Int) (r1 : List (S30)) (r2 : List Int) (w : World) (hr0 : Kd.C (Kd.int .u8) w A0 l0.length l0) (hc0 : l0.length ≤ c0) (h : spec_DrawTypeAt.f k l0 = some (r1, r2)) :
  Calls Try.prog 32 #[.slice A0 l0.length c0] w fun e w' => ∃ v0_ v1_ : Value, e = .returned (.tuple #[.agg #[v0_], v1_]) ∧ Kd.N k30 30 w' w.heap.size (fun k_ => (w.heap.size ≤ k_) ∧ some k_ ≠ (v1_ : Value).ownBlock) v0_ r1 ∧ Kd.R (Kd.int .i64) 3 w' w.heap.size (fun k_ => (w.heap.size ≤ k_)) v1_ r2 ∧ Below w.heap.size w w' := by
 have hu30 := Try.underlying30
 have HR0 := Aside0.mk hr0
 have HC0 := Aside0.mk hc0
 clear hr0 hc0
 have HB := Aside0.mk (Below.refl w.heap.size w)
 have H : ((spec_l6Open.f l0).bind fun bt563 => ((spec_l71Deep.f k bt563.1 bt563.2).bind fun bt566 => ((spec_l71Any.f k bt563.1 bt566.2 bt566.1).bind fun bt571 => (some (bt566.1, bt571.1))))) = some (r1, r2) := h
 clear h
 obtain ⟨⟨t563, t564⟩, A20, H⟩ := ob H
 have A2 := Aside0.mk A20
 clear A20
 obtain ⟨⟨t566, t569⟩, A30, H⟩ := ob H
 have A3 := Aside0.mk A30
 clear A30
 obtain ⟨⟨t571, t574⟩, A40, H⟩ := ob H
 have A4 := Aside0.mk A40
 clear A40
 simp only [Option.some.injEq, Prod.mk.injEq] at H
 obtain ⟨rfl, rfl⟩ := H
 go_enter Try.func32, Try.ntmps32
 try go_wp2_with (first | ((with_reducible refine gate_dst (N := 2) rfl ?_); refine zbx 2 #[.slice none 0 0] 30 ?_; intro gb562 hg w5 hbox hb; have BK562 := Aside0.mk hbox; have GW562 := Aside0.mk ((y5 hg HB.out : w.heap.size ≤ gb562)); have GE562 := Aside0.mk ((y5 hg HB.out : w.heap.size ≤ gb562)); replace HB := Aside0.mk (below_step (y2 HB.out) hb); clear hb hbox hg) | ((with_reducible refine gate_callee (f := 52) rfl ?_); refine goesL_ (some 7) rfl rfl Try.func52 (by kernel_rfl) rfl #[.slice A0 l0.length c0] rfl y4 ?_; (with_reducible refine (spec_l6Open.calls _ _ l0 t563 t564 w _ ?side1 ?side2 ?side3 A2.out).mono ?_); (case side1 => exact y3 HB.out GE562.out); (case side2 => exact HR0.out); (case side3 => exact HC0.out); rintro e w6 ⟨g565, rfl, hi, hb, hb2⟩; refine ⟨_, rfl, ?_⟩; replace HB := Aside0.mk (hb); have HI565 := Aside0.mk (hi); have NB565_562 := Aside0.mk (IsS95.ne_blk hi (blk_below (g := gb562) (o := .cells #[.slice none 0 0] 30 (0, 0)) (y0 BK562.out) hb2) (by decide)); have NB562_565 := Aside0.mk (Ne.symm (IsS95.ne_blk hi (blk_below (g := gb562) (o := .cells #[.slice none 0 0] 30 (0, 0)) (y0 BK562.out) hb2) (by decide))); replace BK562 := Aside0.mk (blk_below (g := gb562) (o := .cells #[.slice none 0 0] 30 (0, 0)) (y0 BK562.out) hb2); (try clear hb); (try clear hb2); (try clear hk); (try clear hi)) | ((with_reducible refine gate_callee (f := 51) rfl ?_); refine goesL_ (some 9) rfl rfl Try.func51 (by kernel_rfl) rfl #[.pointer (some ⟨g565, 0, none⟩)] rfl y4 ?_; (with_reducible refine (spec_l71Deep.calls k g565 t563 t564 t566 t569 w _ ?side1 ?side2 A3.out).mono ?_); (case side1 => exact y24 HI565.out NB565_562.out); (case side2 => exact y23 HB.out HI565.out GE562.out); rintro e w7 ⟨v567, rfl, ho0, hi, hb, hk⟩; refine ⟨_, rfl, ?_⟩; have HO568 := Aside0.mk (Kd.N_lower (Kd.N_mono (ok' := fun k_ => (w.heap.size ≤ k_) ∧ k_ ≠ gb562 ∧ k_ ≠ g565) ho0 (fun k_ hk_ => ⟨(Nat.le_trans (below_size (y23 HB.out HI565.out GE562.out)) hk_), (Kd.freshB (g := gb562) (o := .cells #[.slice none 0 0] 30 (0, 0)) (y0 BK562.out) k_ hk_), (IsS95.fresh (y24 HI565.out NB565_562.out) k_ hk_)⟩)) (below_size (y23 HB.out HI565.out GE562.out))); replace BK562 := Aside0.mk (KeepBut.blk hk (g' := gb562) (o := .cells #[.slice none 0 0] 30 (0, 0)) (y0 BK562.out) NB562_565.out (by simp)); replace HB := Aside0.mk (hb); replace HI565 := Aside0.mk (hi); (try clear hb); (try clear hb2); (try clear hk); (try clear hi); (try clear ho0)) | ((with_reducible refine gate_dst (N := 5) rfl ?_); refine zbx 5 #[.slice none 0 0] 30 ?_; intro gb570 hg w8 hbox hb; replace HO568 := Aside0.mk (Kd.N_below (Kd.N_elderB (y9 HO568.out) gb570 (Nat.le_of_eq hg.symm)) hb); have BK570 := Aside0.mk hbox; have GW570 := Aside0.mk ((y64 hg HB.out HI565.out GE562.out : w.heap.size ≤ gb570)); have GE570 := Aside0.mk ((y64 hg HB.out HI565.out GE562.out : w.heap.size ≤ gb570)); replace HB := Aside0.mk (below_step (y23 HB.out HI565.out GE562.out) hb); have NB562_570 := zltn hg BK562; have NB570_562 := zgtn hg BK562; replace BK562 := zbb BK562 hb; have NB565_570 := Aside0.mk ((by rw [hg]; exact Nat.ne_of_lt (IsS95.lt (show IsS95 w _ g565 t563 t569 from by repeat (first | (with_reducible first | exact HI565.out | apply IsS95.alloc | apply IsS95.drewN | apply IsS95.drew | apply IsS95.set_1 | refine IsS95.far ?_ NB565_562.out _) | exact HI565.out))) : g565 ≠ gb570)); have NB570_565 := Aside0.mk ((by rw [hg]; exact Nat.ne_of_gt (IsS95.lt (show IsS95 w _ g565 t563 t569 from by repeat (first | (with_reducible first | exact HI565.out | apply IsS95.alloc | apply IsS95.drewN | apply IsS95.drew | apply IsS95.set_1 | refine IsS95.far ?_ NB565_562.out _) | exact HI565.out))) : gb570 ≠ g565)); replace HI565 := Aside0.mk (IsS95.below (y24 HI565.out NB565_562.out) hb); clear hb hbox hg; obtain ⟨Ao9, co9, eo9⟩ := Kd.N_slice HO568.out; subst eo9; have hnb10 := NB570_562.out; have hnc10 := NB562_570.out; have hnb11 := NB570_565.out; have hnc11 := NB565_570.out; have hcz12_0 := zh BK570; have hfz12_0 := zfr BK570 0))
 have n0_ : Aside0 (Kd.N k30 30 (w8.setCell ⟨gb570, 0, none⟩ (.slice Ao9 t566.length co9)) w.heap.size (fun k_ => (w.heap.size ≤ k_) ∧ k_ ≠ gb562 ∧ k_ ≠ g565 ∧ k_ ≠ gb570) (.slice Ao9 t566.length co9) t566) := ⟨(by (with_reducible repeat (first | apply Kd.N_alloc | apply Kd.N_drewN | apply Kd.N_drew)); exact Kd.N_mono (Kd.N_far (p := ⟨gb570, 0, none⟩) (Kd.N_mono HO568.out (fun k_ hk => (⟨hk, hk.2⟩ : _ ∧ k_ ≠ gb570))) (fun _ hk => hk.2) (.slice Ao9 t566.length co9)) (fun _ hk => ⟨hk.1.1.1, ⟨hk.1.1.2.1, ⟨hk.1.1.2.2, hk.1.2⟩⟩⟩))⟩
 have n1_ : Aside0 ((w8.setCell ⟨gb570, 0, none⟩ (.slice Ao9 t566.length co9)).heap[gb562]? = some (.cells #[.slice none 0 0] 30 (0, 0))) := ⟨(y21 NB562_570.out BK562.out)⟩
 have n2_ : Aside0 ((w8.setCell ⟨gb570, 0, none⟩ (.slice Ao9 t566.length co9)).heap[gb570]? = some (.cells #[.slice Ao9 t566.length co9] 30 (0, 0))) := ⟨(by (with_reducible repeat (first | refine blk_drewN ?_ _ | refine blk_drew ?_ | refine blk_alloc ?_ _)); refine blk_put (cs := #[.slice none 0 0]) ?_ 0 _ rfl; (with_reducible repeat (first | refine blk_drewN ?_ _ | refine blk_drew ?_ | refine blk_alloc ?_ _)); exact BK570.out)⟩
 have n3_ : Aside0 (IsS95 w (w8.setCell ⟨gb570, 0, none⟩ (.slice Ao9 t566.length co9)) g565 t563 t569) := ⟨(y15 HI565.out NB565_562.out NB565_570.out)⟩
 have n4_ : Aside0 (Below w.heap.size w (w8.setCell ⟨gb570, 0, none⟩ (.slice Ao9 t566.length co9))) := ⟨(y12 HB.out HI565.out GE562.out GE570.out)⟩
 (try clear HO568)
 (try clear BK562)
 (try clear BK570)
 (try clear HI565)
 (try clear HB)
 generalize (w8.setCell ⟨gb570, 0, none⟩ (.slice Ao9 t566.length co9)) = w13 at n0_ n1_ n2_ n3_ n4_ ⊢
 have HO568 := n0_
 have BK562 := n1_
 have BK570 := n2_
 have HI565 := n3_
 have HB := n4_
 clear n0_ n1_ n2_ n3_ n4_
 replace HO568 := Aside0.mk (Kd.N_drew HO568.out)
 replace BK562 := Aside0.mk (blk_drew BK562.out)
 replace BK570 := Aside0.mk (blk_drew BK570.out)
 replace HI565 := Aside0.mk (IsS95.drew HI565.out)
 replace HB := Aside0.mk (below_drew1 HB.out)
 refine start_ (n := 6) (S := fun w' => w'.cell? ⟨gb570, 0, none⟩ = some (.slice Ao9 t566.length co9)) (ds := []) #[false, false, false, false, false, false] (by kernel_rfl) rfl rfl ((blk_cell BK570.out 0).trans rfl) (fun hHeld => ?_)
 generalize w13.drew = w14 at HO568 BK562 BK570 HI565 HB hHeld ⊢
 refine pure_ (i := 1) (N := some 11) (v := ?_) (a' := ?_) #[false, true, false, false, false, false] rfl rfl (by kernel_rfl) (fun _ _ _ h => h) (Or.inl ⟨(by rfl), ?_⟩) ?_ ?_
 rotate_left
 ·intro w'
  go_simp
  with_reducible rfl
 rotate_left
 ·simp only [Act.put, List.setIfInBounds_toArray, List.set_cons_zero, List.set_cons_succ, i64_w, i32_w]
  rfl
 refine take_ (i := 0) (N := some 10) (v := ?_) (a' := ?_) #[true, true, false, false, false, false] rfl rfl (by kernel_rfl) (fun _ _ _ h => h) (Or.inl ⟨(by rfl), ?_⟩) hHeld ?_ ?_
 rotate_left
 ·intro w' s0
  go_simp
  with_reducible rfl
 rotate_left
 ·simp only [Act.put, List.setIfInBounds_toArray, List.set_cons_zero, List.set_cons_succ, i64_w, i32_w]
  rfl
 refine take_ (i := 2) (N := some 12) (v := ?_) (a' := ?_) #[true, true, true, false, false, false] rfl rfl (by kernel_rfl) (fun _ _ _ h => h) (Or.inl ⟨(by rfl), ?_⟩) hHeld ?_ ?_
 rotate_left
 ·intro w' s0
  go_simp
  with_reducible rfl
 rotate_left
 ·simp only [Act.put, List.setIfInBounds_toArray, List.set_cons_zero, List.set_cons_succ, i64_w, i32_w]
  rfl
 refine one_ (i := 3) (N := some 13) #[true, true, true, true, false, false] rfl rfl (by kernel_rfl) (by decide) (fun K hK => ?_)
 refine goes_ Try.func64 (by kernel_rfl) rfl #[.pointer (some ⟨g565, 0, none⟩), .agg #[.slice Ao9 t566.length co9]] (by rfl) rfl rfl y4 ?_
 with_reducible refine (spec_l71Any.calls k g565 t563 t569 (fun k_ => ((w.heap.size ≤ k_) ∧ (k_ ≠ gb562 ∧ (k_ ≠ g565 ∧ k_ ≠ gb570)))) _ _ t566 t571 t574 w _ ?side1 ?side2 ?side3 A4.out).mono ?_
 (case side1 => exact y15 HI565.out NB565_562.out NB565_570.out)
 (case side2 => exact y12 HB.out HI565.out GE562.out GE570.out)
 (case side3 => exact Kd.V_mono (Kd.N_V (HO568.out)) (fun k_ hk_ => ⟨hk_, hk_.2.2.1⟩))
 rintro e w15 ⟨v572, rfl, ho0, hi, hb, hk⟩
 refine ⟨_, rfl, ?_⟩
 replace BK562 := Aside0.mk (KeepBut.blk hk (g' := gb562) (o := .cells #[.slice none 0 0] 30 (0, 0)) (y0 BK562.out) NB562_565.out (by simp))
 replace HO568 := Aside0.mk (Kd.N_mono (Kd.N_told (Kd.N_oldK (Kd.N_mono (ok := fun k_ => (((w.heap.size ≤ k_)) ∧ (k_ ≠ gb562 ∧ (k_ ≠ g565 ∧ k_ ≠ gb570)))) (y9 HO568.out) (fun k_ hk_ => (⟨hk_, hk_.2.2.1⟩ : _ ∧ k_ ≠ g565))) hk) (Kd.R_base ho0)) (fun _ h_ => h_.1))
 replace BK570 := Aside0.mk (KeepBut.blk hk (g' := gb570) (o := .cells #[.slice Ao9 t566.length co9] 30 (0, 0)) (y0 BK570.out) NB570_565.out (by simp))
 have HO573 := Aside0.mk (Kd.R_lower (Kd.R_newM (M := fun k_ => (w.heap.size ≤ k_)) ho0 (below_size (y12 HB.out HI565.out GE562.out GE570.out)) (fun k_ h_ => h_)) (below_size (y12 HB.out HI565.out GE562.out GE570.out)))
 replace HB := Aside0.mk (hb)
 replace HI565 := Aside0.mk (hi)
 (try clear hb)
 (try clear hb2)
 (try clear hk)
 (try clear hi)
 (try clear ho0)
 refine hK.out _ _ ((blk_cell BK570.out 0).trans rfl) (fun hHeld => ?_)
 clear hK K
 refine norm_ (a' := ?_) ?_ ?_
 rotate_left
 ·show Act.put _ (some 13) _ = _
  simp only [Act.put, List.setIfInBounds_toArray, List.set_cons_zero, List.set_cons_succ, i64_w, i32_w]
  rfl
 refine one_ (i := 4) (N := none) #[true, true, true, true, true, false] rfl rfl (by kernel_rfl) (by decide) (fun K hK => ?_)
 have hs16 : w15.cell? ⟨gb562, 0, none⟩ = some (.slice none 0 0) := (blk_cell BK562.out 0).trans rfl
 have hfs16 := zfr BK562 0
 have hns16_1 := NB570_562.out
 have hms16_1 := NB562_570.out
 refine skip_ (w1 := ?_) (by rfl) rfl ?_ ?_
 rotate_left
 ·go_simp
  rfl
 refine hK.out _ _ (((cell_far (p := ⟨gb562, _, none⟩) NB570_562.out _).trans (hHeld))) (fun hHeld => ?_)
 clear hK K
 refine pure_ (i := 5) (N := some 3) (v := ?_) (a' := ?_) #[true, true, true, true, true, true] rfl rfl (by kernel_rfl) (fun _ _ _ h => h) (Or.inl ⟨(by rfl), ?_⟩) ?_ ?_
 rotate_left
 ·intro w'
  go_simp
  with_reducible rfl
 rotate_left
 ·simp only [Act.put, List.setIfInBounds_toArray, List.set_cons_zero, List.set_cons_succ, i64_w, i32_w]
  rfl
 refine done_ (by kernel_rfl) ?_
 try go_wp2
 refine bodyPost_ret (results_ct rfl _ _ gb562 30 #[.slice Ao9 t566.length co9] (0, 0) _ rfl (by (with_reducible repeat (first | refine blk_drewN ?_ _ | refine blk_drew ?_ | refine blk_alloc ?_ _)); apply blk_put (i := 0); (case h => exact y0 BK562.out); (case e => rfl)) Try.underlying30 rfl (by kernel_rfl)) rfl ?_
 exact ⟨_, _, y14, (by (with_reducible repeat (first | apply Kd.N_alloc | apply Kd.N_drewN | apply Kd.N_drew)); exact Kd.N_mono (Kd.N_far (p := ⟨gb562, 0, none⟩) (Kd.N_mono HO568.out (fun k_ hk => (⟨hk, hk.1.2.1⟩ : _ ∧ k_ ≠ gb562))) (fun _ hk => hk.2) (.slice Ao9 t566.length co9)) (fun _ hk => ⟨hk.1.1.1, hk.1.2⟩)), (by (with_reducible repeat (first | apply Kd.R_alloc | apply Kd.R_drewN | apply Kd.R_drew)); exact Kd.R_mono (Kd.R_far (p := ⟨gb562, 0, none⟩) (Kd.R_types HO573.out BK562.out (by decide)) (fun _ hk => hk.2) (.slice Ao9 t566.length co9)) (fun _ hk => hk.1.1)), (y12 HB.out HI565.out GE562.out GE570.out)⟩
end Go.Proofs.Ytjhbhihfifhljaa.PA
end
section
namespace Go.Proofs.Ytjhbhihfifhljaa.PA
open Go.RowKit Go.Proofs.YtjhbhihfifhljaaW.PrintWords Go.Proofs.YtjhbhihfifhljaaW.PrintLast Go.Proofs.YtjhbhihfifhljaaW.PrintMore
attribute [local go_sem] max2_int min2_int max_two min_two max_three min_three max_four min_four
set_option linter.unusedVariables false
set_option linter.unusedSimpArgs false
mutual
def spec_l1Copy.l0 : Nat → Int → List (S30) → List (S30) → Option ((List (S30)))
 | 0, _, _, _ => none
 | k + 1, x4, x576000, x578000 => if x4 < (x576000.length : Int) then (if 0 ≤ x4 then ((spec_l1Copy.f k ((rd_T30 x576000 x4).f0)).bind fun t579 => (if x578000.length < 5864062014805 then (spec_l1Copy.l0 k (wrap64 (x4 + 1)) x576000 (x578000 ++ [(⟨t579⟩ : S30)])) else (none))) else (none)) else (some x578000)
def spec_l1Copy.f : Nat → List (S30) → Option ((List (S30)))
 | 0, _ => none
 | k + 1, l0_0 => spec_l1Copy.l0 k 0 l0_0 ([] : List (S30))
end
theorem spec_l1Copy.mono_l : ∀ k, (∀ y0, LeO (spec_l1Copy.f k y0) (spec_l1Copy.f (k + 1) y0)) ∧ (∀ y0 y1 y2, LeO (spec_l1Copy.l0 k y0 y1 y2) (spec_l1Copy.l0 (k + 1) y0 y1 y2))
 | 0 => ⟨fun _ r h => by simp [spec_l1Copy.f] at h, fun _ _ _ r h => by simp [spec_l1Copy.l0] at h⟩
 | k + 1 => by
  obtain ⟨ih0, ih1⟩ := spec_l1Copy.mono_l k
  refine ⟨?_, ?_⟩
  ·intro y0
   unfold spec_l1Copy.f
   repeat' first
   | (with_reducible exact ih0 _)
   | (with_reducible exact ih1 _ _ _)
   | (with_reducible exact LeO.refl _)
   | (with_reducible exact LeO.none _)
   | (with_reducible refine LeO.ite ?_ ?_)
   | (with_reducible refine LeO.bind ?_ (fun _ => ?_))
   | exact ih0 _
   | exact ih1 _ _ _
   | exact LeO.none _
   | refine LeO.ite ?_ ?_
   | refine LeO.bind ?_ (fun _ => ?_)
  ·intro y0 y1 y2
   unfold spec_l1Copy.l0
   repeat' first
   | (with_reducible exact ih0 _)
   | (with_reducible exact ih1 _ _ _)
   | (with_reducible exact LeO.refl _)
   | (with_reducible exact LeO.none _)
   | (with_reducible refine LeO.ite ?_ ?_)
   | (with_reducible refine LeO.bind ?_ (fun _ => ?_))
   | exact ih0 _
   | exact ih1 _ _ _
   | exact LeO.none _
   | refine LeO.ite ?_ ?_
   | refine LeO.bind ?_ (fun _ => ?_)
theorem spec_l1Copy.mono : ∀ a0 k, LeO (spec_l1Copy.f k a0) (spec_l1Copy.f (k + 1) a0) := by
 intro a0 k
 obtain ⟨ih0, ih1⟩ := spec_l1Copy.mono_l k
 exact ih0 a0
def spec_l1Copy.T5 : Bool × List (List Nat × List Nat) := (true, [([], []), ([0], [0]), ([], []), ([2], [2]), ([], []), ([3, 4], [3, 4]), ([5], [5]), ([6], [6]), ([7], [7]), ([1, 8, 7], [1, 8]), ([0, 1, 2, 3, 4, 5, 6, 7, 8, 9], []), ([10, 9, 9, 0, 1, 2, 3, 4, 5, 6, 7, 8, 9], [9, 10])])
def spec_l1Copy.B5 : List Nat := [0, 1, 0, 4, 0, 28, 60, 124, 252, 511, 1023, 2047]
theorem spec_l1Copy.tab5 : rtab .any (opsOf Try.f66 5) = spec_l1Copy.T5 := by kernel_rfl
theorem spec_l1Copy.bits5 : waitsOk spec_l1Copy.T5.2 spec_l1Copy.B5 = true := by kernel_rfl
set_option maxHeartbeats 8000000 in
set_option maxRecDepth 100000 in
theorem spec_l1Copy.calls (k : Nat) : ∀ (A0_0 : Option Addr) (c0_0 : Nat) (l0_0 : List (S30)) (r : List (S30)) (w : World) (hr0_0 : Kd.C k30 w A0_0 l0_0.length l0_0) (hc0_0 : l0_0.length ≤ c0_0) (h : spec_l1Copy.f k l0_0 = some r),
  Calls Try.prog 66 #[.agg #[.slice A0_0 l0_0.length c0_0]] w fun e w' => ∃ v0_ : Value, e = .returned (.agg #[v0_]) ∧ Kd.R k30 30 w' w.heap.size (fun _ => True) v0_ r ∧ Below w.heap.size w w' := by
 induction k using Nat.strongRecOn with
 | _ k ih =>
 intro A0_0 c0_0 l0_0 r w hr0_0 hc0_0 h
 cases k with
 | zero => exact absurd h (by simp [spec_l1Copy.f])
 | succ k =>
 simp only [spec_l1Copy.f] at h
 have hu30 := Try.underlying30
 have HR0_0 := Aside0.mk hr0_0
 have HC0_0 := Aside0.mk hc0_0
 clear hr0_0 hc0_0
 have HB := Aside0.mk (Below.refl w.heap.size w)
 have H : (spec_l1Copy.l0 k 0 l0_0 ([] : List (S30))) = some r := h
 clear h
 have H' := Aside0.mk H
 clear H
 go_enter Try.func66, Try.ntmps66
 go_wp2_with (first | ((with_reducible refine gate_dst (N := 1) rfl ?_); refine zbx 1 #[.slice A0_0 l0_0.length c0_0] 30 ?_; intro gb575 hg w2 hbox hb; have BK575 := Aside0.mk hbox; have GW575 := Aside0.mk ((y5 hg HB.out : w.heap.size ≤ gb575)); have GE575 := Aside0.mk ((y5 hg HB.out : w.heap.size ≤ gb575)); replace HB := Aside0.mk (below_step (y2 HB.out) hb); clear hb hbox hg) | ((with_reducible refine gate_dst (N := 2) rfl ?_); refine zbx 2 #[.slice none 0 0] 30 ?_; intro gb576 hg w3 hbox hb; have BK576 := Aside0.mk hbox; have GW576 := Aside0.mk ((y6 hg HB.out GE575.out : w.heap.size ≤ gb576)); have GE576 := Aside0.mk ((y6 hg HB.out GE575.out : w.heap.size ≤ gb576)); replace HB := Aside0.mk (below_step (y3 HB.out GE575.out) hb); have NB575_576 := zltn hg BK575; have NB576_575 := zgtn hg BK575; replace BK575 := zbb BK575 hb; clear hb hbox hg) | ((with_reducible refine gate_dst (N := 3) rfl ?_); refine zbx 3 #[.slice none 0 0] 30 ?_; intro gb577 hg w4 hbox hb; have BK577 := Aside0.mk hbox; have GW577 := Aside0.mk ((y20 hg HB.out GE575.out GE576.out : w.heap.size ≤ gb577)); have GE577 := Aside0.mk ((y20 hg HB.out GE575.out GE576.out : w.heap.size ≤ gb577)); replace HB := Aside0.mk (below_step (y1 HB.out GE575.out GE576.out) hb); have NB575_577 := zltn hg BK575; have NB577_575 := zgtn hg BK575; replace BK575 := zbb BK575 hb; have NB576_577 := zltn hg BK576; have NB577_576 := zgtn hg BK576; replace BK576 := zbb BK576 hb; clear hb hbox hg; have hnb5 := NB577_575.out; have hnc5 := NB575_577.out; have hnb6 := NB577_576.out; have hnc6 := NB576_577.out; have hcz7_0 := zh BK577; have hfz7_0 := zfr BK577 0))
 go_loopg [4] k (fun kq v4 w' => ∃ (x4_1 : Int) (x578000_1 : List (S30)) (u578000 : Value), v4 = .int .i64 x4_1 ∧ Aside0 (spec_l1Copy.l0 kq x4_1 l0_0 x578000_1 = some r) ∧ Aside0 (kq ≤ k) ∧ Aside0 (Kd.R k30 30 w' w.heap.size (fun k_ => k_ ≠ gb575 ∧ k_ ≠ gb576 ∧ k_ ≠ gb577) u578000 x578000_1) ∧ Aside0 (w'.heap[gb575]? = some (.cells #[(.slice A0_0 l0_0.length c0_0)] 30 (0, 0))) ∧ Aside0 (w'.heap[gb576]? = some (.cells #[(.slice none 0 0)] 30 (0, 0))) ∧ Aside0 (w'.heap[gb577]? = some (.cells #[u578000] 30 (0, 0))) ∧ Aside0 (Below w.heap.size w w'))
 case atStart => exact ⟨(0), (([] : List (S30))), (.slice none 0 0), y26, H', ⟨Nat.le_refl _⟩, ⟨y36⟩, ⟨(y21 NB575_577.out BK575.out)⟩, ⟨(y21 NB576_577.out BK576.out)⟩, ⟨(by (with_reducible repeat (first | refine blk_drewN ?_ _ | refine blk_drew ?_ | refine blk_alloc ?_ _)); refine blk_put (cs := #[.slice none 0 0]) ?_ 0 _ rfl; (with_reducible repeat (first | refine blk_drewN ?_ _ | refine blk_drew ?_ | refine blk_alloc ?_ _)); exact BK577.out)⟩, ⟨(y7 HB.out GE575.out GE576.out GE577.out)⟩⟩
 case round =>
  clear H'
  try clear p2
  try clear c5
  try clear c6
  try clear hcz7_0
  try clear hfz7_0
  obtain ⟨x4_1, x578000_1, u578000, rfl, HA, HK1, HO_578000, BK575, BK576, BK577, HB⟩ := hrel
  cases gk with
  | zero => exact absurd HA.out (by simp [spec_l1Copy.l0])
  | succ k1 =>
   have H := HA.out
   clear HA
   simp only [spec_l1Copy.l0] at H
   by_cases c8 : x4_1 < (l0_0.length : Int)
   ·rw [if_pos c8] at H
    have c8b0 : decide (x4_1 < (l0_0.length : Int)) = true := decide_eq_true c8
    clear c8
    by_cases c9 : 0 ≤ x4_1
    ·rw [if_pos c9] at H
     have c9b0 : decide (0 ≤ x4_1) = true := decide_eq_true c9
     clear c9
     obtain ⟨t579, A100, H⟩ := ob H
     have A10 := Aside0.mk A100
     clear A100
     by_cases c11 : x578000_1.length < 5864062014805
     ·rw [if_pos c11] at H
      have LMc11 := Aside0.mk c11
      clear c11
      obtain ⟨y582, hy582⟩ : ∃ y_ : List (S30), y_ = (x578000_1 ++ [(⟨t579⟩ : S30)]) := ⟨_, rfl⟩
      replace H : (spec_l1Copy.l0 k1 (wrap64 (x4_1 + 1)) l0_0 y582) = some r := by first | (rw [hy582]; with_reducible exact H) | (have H2_ := (Option.bind_some _ _).symm.trans H; rw [hy582]; with_reducible exact H2_) | (have H2_ := (Option.bind_some _ _).symm.trans H; with_reducible exact H2_) | with_reducible exact H | (rw [hy582]; exact H) | exact H
      have Ny582 := Aside0.mk hy582
      clear hy582
      have H' := Aside0.mk H
      clear H
      have hnb12 := NB575_576.out
      have hnc12 := NB576_575.out
      have hnb13 := NB575_577.out
      have hnc13 := NB577_575.out
      have hcz14_0 := zh BK575
      have hfz14_0 := zfr BK575 0
      try go_wp2
      replace HO_578000 := Aside0.mk (Kd.R_drew HO_578000.out)
      replace BK575 := Aside0.mk (blk_drew BK575.out)
      replace BK576 := Aside0.mk (blk_drew BK576.out)
      replace BK577 := Aside0.mk (blk_drew BK577.out)
      replace HB := Aside0.mk (below_drew1 HB.out)
      have p578 : 0 ≤ (x4_1 : Int) := of_decide_eq_true y19
      have q578 : x4_1 < (l0_0.length : Int) := of_decide_eq_true y19
      obtain ⟨ad578, A578_0, c578_0, e578, hx578_0, hl578_0, hi578_0⟩ := at_T30 HR0_0.out x4_1 p578 q578
      have hw578_0 := hx578_0
      cases e578
      replace hx578_0 := (HB.out.cell (World.block_lt_of_cell? w _ hx578_0)).trans hx578_0
      have HR578_0 := Aside0.mk hi578_0
      have HC578_0 := Aside0.mk hl578_0
      clear hi578_0 hl578_0
      replace p578 := eq_true p578
      replace q578 := eq_true q578
      refine start_ (n := 12) (S := fun w' => w'.cell? ⟨gb577, 0, none⟩ = some (u578000) ∧ w'.cell? ⟨gb575, 0, none⟩ = some (.slice (some ad578) l0_0.length c0_0) ∧ w'.cell? (ad578.add (x4_1).toNat) = some (.slice A578_0 ((rd_T30 l0_0 x4_1).f0).length c578_0)) (ds := [11]) #[false, false, false, false, false, false, false, false, false, false, false, false] (by kernel_rfl) rfl rfl ⟨(blk_cell BK577.out 0).trans rfl, (blk_cell BK575.out 0).trans rfl, ((HB.out.cell (World.block_lt_of_cell? w _ hw578_0)).trans hw578_0)⟩ (fun hHeld => ?_); refine with_tabW spec_l1Copy.tab5 spec_l1Copy.bits5 (fun HT_ HW_ => ?_)
      generalize wr.drew = w15 at HO_578000 BK575 BK576 BK577 HB HR578_0 hx578_0 hHeld ⊢
      refine zp 0 (some 13) HT_ ?_
      refine zp 2 (some 15) HT_ ?_
      refine zp 4 (some 17) HT_ ?_
      refine zt3 1 (some 14) HT_ HW_ hHeld ?_
      refine zt3 3 (some 16) HT_ HW_ hHeld ?_
      refine zp 5 (some 18) HT_ ?_
      refine zt3 6 (some 19) HT_ HW_ hHeld ?_
      refine one_ (i := 7) (N := some 20) #[true, true, true, true, true, true, true, true, false, false, false, false] rfl rfl (one_of HT_.out (by kernel_rfl)) (by decide) (fun K hK => ?_)
      refine goes_ Try.func66 (by kernel_rfl) rfl #[.agg #[.slice A578_0 ((rd_T30 l0_0 x4_1).f0).length c578_0]] (by rfl) rfl rfl y4 ?_
      with_reducible refine (ih k1 (y46 HK1.out) _ _ ((rd_T30 l0_0 x4_1).f0) t579 _ ?side1 ?side2 A10.out).mono ?_
      (case side1 => exact y8 HR578_0.out HB.out)
      (case side2 => exact HC578_0.out)
      rintro e w16 ⟨v580, rfl, ho0, hb⟩
      refine ⟨_, rfl, ?_⟩
      have HO581 := Aside0.mk (Kd.R_lower (Kd.R_newB (Kd.R_newB (Kd.R_newB (Kd.R_new' ho0 (Kd.R_lt (y10 HO_578000.out))) (g := gb575) (o := .cells #[.slice (some ad578) l0_0.length c0_0] 30 (0, 0)) (y0 BK575.out)) (g := gb576) (o := .cells #[.slice none 0 0] 30 (0, 0)) (y0 BK576.out)) (g := gb577) (o := .cells #[u578000] 30 (0, 0)) (y0 BK577.out)) (below_size (y7 HB.out GE575.out GE576.out GE577.out)))
      replace HO_578000 := Aside0.mk (Kd.R_elder' (y10 HO_578000.out) (Kd.R_base ho0) hb)
      replace BK575 := zbb BK575 hb
      replace BK576 := zbb BK576 hb
      replace BK577 := zbb BK577 hb
      replace HB := Aside0.mk (below_step (y7 HB.out GE575.out GE576.out GE577.out) hb)
      (try clear hb)
      (try clear hb2)
      (try clear hk)
      (try clear hi)
      (try clear ho0)
      obtain ⟨Ao18, co18, eo18⟩ := Kd.R_slice HO581.out
      (first | subst eo18 | (injection eo18 with f1_ f2_ f3_; have f4_ := f1_.symm; have f5_ := f3_.symm; clear f1_ f2_ f3_; subst f4_; subst f5_))
      refine hK.out _ _ ⟨(blk_cell BK577.out 0).trans rfl, (blk_cell BK575.out 0).trans rfl, ((HB.out.cell (World.block_lt_of_cell? w _ hw578_0)).trans hw578_0)⟩ (fun hHeld => ?_)
      clear hK K
      refine norm_ (a' := ?_) ?_ ?_
      rotate_left
      ·show Act.put _ (some 20) _ = _
       simp only [Act.put, List.setIfInBounds_toArray, List.set_cons_zero, List.set_cons_succ, i64_w, i32_w]
       rfl
      refine one_ (i := 8) (N := some 21) #[true, true, true, true, true, true, true, true, true, false, false, false] rfl rfl (one_of HT_.out (by kernel_rfl)) (by decide) (fun K hK => ?_)
      refine value_ (w1 := ?_) (v := ?_) (by rfl) rfl ?_ ?_
      rotate_left 2
      ·go_simp
       constructor
       ·rfl
       ·rfl
      refine hK.out _ _ ⟨(blk_cell (blk_alloc BK577.out _) 0).trans rfl, (blk_cell (blk_alloc BK575.out _) 0).trans rfl, (World.cell?_alloc_lt _ _ _ (World.block_lt_of_cell? _ _ (((HB.out.cell (World.block_lt_of_cell? w _ hw578_0)).trans hw578_0)))).trans (((HB.out.cell (World.block_lt_of_cell? w _ hw578_0)).trans hw578_0))⟩ (fun hHeld => ?_)
      clear hK K
      refine norm_ (a' := ?_) ?_ ?_
      rotate_left
      ·show Act.put _ (some 21) _ = _
       simp only [Act.put, List.setIfInBounds_toArray, List.set_cons_zero, List.set_cons_succ, i64_w, i32_w]
       rfl
      refine one_ (i := 9) (N := some 22) #[true, true, true, true, true, true, true, true, true, true, false, false] rfl rfl (one_of HT_.out (by kernel_rfl)) (by decide) (fun K hK => ?_)
      refine Kd.R_append_step k30 (w0 := w) w.heap.size (by rfl) (.tmp 14) (.tmp 21) 28 30 (.agg #[(.slice none 0 0)]) 24 rfl Try.underlying28 info30 rfl (by decide) (by omega) u578000 x578000_1 (⟨t579⟩ : S30) [.slice Ao18 t579.length co18] (fun k_ => k_ ≠ gb575 ∧ k_ ≠ gb576 ∧ k_ ≠ gb577) (fun k_ => ((fun k_ => k_ ≠ gb575 ∧ k_ ≠ gb576 ∧ k_ ≠ gb577)) k_ ∧ some k_ ≠ (u578000 : Value).ownBlock) rfl rfl ?aP (fun _ hk => hk) ?aF ?aO ?aB ?aS ?aL ?_
      (case aP => exact k30_mkM _ _ _ (⟨t579⟩ : S30) (Kd.R_mono (HO581.out) (fun k_ hk => ⟨⟨hk.1.1.2, ⟨hk.1.2, hk.2⟩⟩, hk.1.1.1.2⟩)))
      (case aB => exact (y7 HB.out GE575.out GE576.out GE577.out))
      (case aF => exact (fun k_ hk => ⟨Kd.freshB (g := gb575) (o := .cells #[.slice (some ad578) l0_0.length c0_0] 30 (0, 0)) (y0 BK575.out) k_ hk, Kd.freshB (g := gb576) (o := .cells #[.slice none 0 0] 30 (0, 0)) (y0 BK576.out) k_ hk, Kd.freshB (g := gb577) (o := .cells #[u578000] 30 (0, 0)) (y0 BK577.out) k_ hk⟩))
      (case aO => exact (by (with_reducible repeat (first | apply Kd.R_alloc | apply Kd.R_drewN | apply Kd.R_drew)); exact Kd.R_mono HO_578000.out (fun _ hk => ⟨hk.1.1, ⟨hk.1.2.1, hk.1.2.2⟩⟩)))
      (case aS => exact (below_size (y7 HB.out GE575.out GE576.out GE577.out)))
      (case aL => exact y46 LMc11.out)
      intro v583 w17 ho hb hg hat
      rw [← Ny582.out] at ho
      replace BK575 := Aside0.mk (blk_grown (g := gb575) (o := .cells #[.slice (some ad578) l0_0.length c0_0] 30 (0, 0)) (y0 BK575.out) hg (Kd.R_away HO_578000.out (fun _ hk => hk.1.1)))
      replace BK576 := Aside0.mk (blk_grown (g := gb576) (o := .cells #[.slice none 0 0] 30 (0, 0)) (y0 BK576.out) hg (Kd.R_away HO_578000.out (fun _ hk => hk.1.2.1)))
      replace BK577 := Aside0.mk (blk_grown (g := gb577) (o := .cells #[u578000] 30 (0, 0)) (y0 BK577.out) hg (Kd.R_away HO_578000.out (fun _ hk => hk.1.2.2)))
      replace HB := Aside0.mk (hb)
      have HO584 := Aside0.mk (ho)
      clear HO581 HO_578000
      clear ho hb hg hat
      obtain ⟨Ao19, co19, eo19⟩ := Kd.R_slice HO584.out
      (first | subst eo19 | (injection eo19 with f1_ f2_ f3_; have f4_ := f1_.symm; have f5_ := f3_.symm; clear f1_ f2_ f3_; subst f4_; subst f5_))
      refine hK.out _ _ ⟨(blk_cell BK577.out 0).trans rfl, (blk_cell BK575.out 0).trans rfl, ((HB.out.cell (World.block_lt_of_cell? w _ hw578_0)).trans hw578_0)⟩ (fun hHeld => ?_)
      clear hK K
      refine norm_ (a' := ?_) ?_ ?_
      rotate_left
      ·show Act.put _ (some 22) _ = _
       simp only [Act.put, List.setIfInBounds_toArray, List.set_cons_zero, List.set_cons_succ, i64_w, i32_w]
       rfl
      refine zp 10 (some 23) HT_ ?_
      refine last_ (i := 11) (N := none) #[true, true, true, true, true, true, true, true, true, true, true, true] rfl rfl (one_of HT_.out (by kernel_rfl)) (by decide) (fun K hK => ?_)
      have hs20 : w17.cell? ⟨gb577, 0, none⟩ = some (u578000) := (blk_cell BK577.out 0).trans rfl
      have hfs20 := zfr BK577 0
      have hns20_0 := NB575_577.out
      have hns20_1 := NB576_577.out
      have hms20_0 := NB577_575.out
      have hms20_1 := NB577_576.out
      refine skip_ (w1 := ?_) (by rfl) rfl ?_ ?_
      rotate_left
      ·go_simp
       rfl
      refine hK.out _ _ ?_
      clear hK K
      refine done_ (done_of HT_.out (by kernel_rfl)) ?_
      try go_wp2
      go_roundg k1
      case measure => have := HK1.out; omega
      case rel => exact ⟨(wrap64 (x4_1 + 1)), (y582), (.slice Ao19 y582.length co19), y26, H', ⟨(y46 HK1.out)⟩, ⟨(by (with_reducible repeat (first | apply Kd.R_alloc | apply Kd.R_drewN | apply Kd.R_drew)); exact Kd.R_mono (Kd.R_far (p := ⟨gb577, 0, none⟩) (Kd.R_mono HO584.out (fun k_ hk => (⟨hk, hk.2.2⟩ : _ ∧ k_ ≠ gb577))) (fun _ hk => hk.2) (.slice Ao19 y582.length co19)) (fun _ hk => ⟨hk.1.1, ⟨hk.1.2.1, hk.1.2.2⟩⟩))⟩, ⟨(y21 NB575_577.out BK575.out)⟩, ⟨(y21 NB576_577.out BK576.out)⟩, ⟨(by (with_reducible repeat (first | refine blk_drewN ?_ _ | refine blk_drew ?_ | refine blk_alloc ?_ _)); refine blk_put (cs := #[u578000]) ?_ 0 _ rfl; (with_reducible repeat (first | refine blk_drewN ?_ _ | refine blk_drew ?_ | refine blk_alloc ?_ _)); exact BK577.out)⟩, ⟨(y7 HB.out GE575.out GE576.out GE577.out)⟩⟩
     ·rw [if_neg c11] at H
      exact absurd H (by simp)
    ·rw [if_neg c9] at H
     exact absurd H (by simp)
   ·rw [if_neg c8] at H
    have c8b0 : decide (x4_1 < (l0_0.length : Int)) = false := decide_eq_false c8
    clear c8
    obtain rfl := Option.some.inj H
    have hnb21 := NB575_576.out
    have hnc21 := NB576_575.out
    have hnb22 := NB575_577.out
    have hnc22 := NB577_575.out
    have hcz23_0 := zh BK575
    have hfz23_0 := zfr BK575 0
    have hnb24 := NB577_576.out
    have hnc24 := NB576_577.out
    have hcz25_0 := zh BK577
    have hfz25_0 := zfr BK577 0
    obtain ⟨Ao26, co26, eo26⟩ := Kd.R_slice HO_578000.out
    subst eo26
    have hcz27_0 := zh BK576
    have hfz27_0 := zfr BK576 0
    go_wp2
    refine bodyPost_ret (results_cell_row rfl _ _ gb576 30 #[.slice Ao26 x578000_1.length co26] (0, 0) _ rfl (by (with_reducible repeat (first | refine blk_drewN ?_ _ | refine blk_drew ?_ | refine blk_alloc ?_ _)); apply blk_put (i := 0); (case h => exact y0 BK576.out); (case e => rfl)) Try.underlying30 rfl (by kernel_rfl)) rfl ?_
    exact ⟨_, y14, (by (with_reducible repeat (first | apply Kd.R_alloc | apply Kd.R_drewN | apply Kd.R_drew)); exact Kd.R_mono (Kd.R_far (p := ⟨gb576, 0, none⟩) (Kd.R_mono HO_578000.out (fun k_ hk => (⟨hk, hk.2.1⟩ : _ ∧ k_ ≠ gb576))) (fun _ hk => hk.2) (.slice Ao26 x578000_1.length co26)) (fun _ hk => trivial)), (y7 HB.out GE575.out GE576.out GE577.out)⟩
end Go.Proofs.Ytjhbhihfifhljaa.PA
end
