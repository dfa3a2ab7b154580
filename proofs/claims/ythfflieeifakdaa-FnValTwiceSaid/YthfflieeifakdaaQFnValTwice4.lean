-- Ythfflieeifakdaa's texts for the statement FnValTwice, one behind the other (merge.py).
import Derived.Test.YthfflieeifakdaaQFnValTwice0
import Derived.Test.YthfflieeifakdaaQFnValTwice3
import Derived.Test.YthfflieeifakdaaQFnValTwice1
import Derived.Test.YthfflieeifakdaaQFnValTwice2
import Derived.OpenShut
import Derived.Laws.BitsLemmas
section
namespace Go.Proofs.Ythfflieeifakdaa.PA
open Go.RowKit Go.Proofs.YthfflieeifakdaaW.PrintWords Go.Proofs.YthfflieeifakdaaW.PrintLast Go.Proofs.YthfflieeifakdaaW.PrintMore
attribute [local go_sem] max2_int min2_int max_two min_two max_three min_three max_four min_four
set_option linter.unusedVariables false
set_option linter.unusedSimpArgs false
def spec_ValPut.j0 : Nat → List Int → Bool → Int → List (S25) → Int → List (S25) → Int → List (S25) → Option (Int × (List (S25)) × Bool)
 | 0, _, _, _, _, _, _, _, _ => none
 | k + 1, x1, x26, x742000, x742001, x743000, x743001, x750000, x750001 => if x26 = true then (some (0, ([] : List (S25)), false)) else ((spec_l1Of.f k x750000 x750001 4).bind fun bt751 => ((spec_l1Of.f k x743000 x743001 4).bind fun bt756 => ((spec_l1Same.f k bt751.1 bt756.1).bind fun t761 => (if t761 = true then ((spec_l1Put.f k x742000 x742001 x1 x743000 x743001).bind fun bt762 => (some (bt762.1, bt762.2, true))) else (some (0, ([] : List (S25)), false))))))
def spec_ValPut.f (k : Nat) (a0_0 : Int) (l0_1 : List (S25)) (l1 : List Int) (a2_0 : Int) (l2_1 : List (S25)) : Option (Int × (List (S25)) × Bool) := (spec_ValAt.f k a0_0 l0_1 l1).bind fun bt744 => (if bt744.2.2 = true then ((spec_l1Any.f k a2_0 l2_1).bind fun t750 => (spec_ValPut.j0 k l1 (!t750) a0_0 l0_1 a2_0 l2_1 bt744.1 bt744.2.1)) else (spec_ValPut.j0 k l1 true a0_0 l0_1 a2_0 l2_1 bt744.1 bt744.2.1))
theorem spec_ValPut.mono_l : ∀ k, (∀ y0 y1 y2 y3 y4 y5 y6 y7, LeO (spec_ValPut.j0 k y0 y1 y2 y3 y4 y5 y6 y7) (spec_ValPut.j0 (k + 1) y0 y1 y2 y3 y4 y5 y6 y7))
 | 0 => fun _ _ _ _ _ _ _ _ r h => by simp [spec_ValPut.j0] at h
 | k + 1 => by
  have ih0 := spec_ValPut.mono_l k
  ·intro y0 y1 y2 y3 y4 y5 y6 y7
   unfold spec_ValPut.j0
   repeat' first
   | (with_reducible exact ih0 _ _ _ _ _ _ _ _)
   | (with_reducible exact spec_ValAt.mono _ _ _ _)
   | (with_reducible exact spec_l1Any.mono _ _ _)
   | (with_reducible exact spec_l1Of.mono _ _ _ _)
   | (with_reducible exact spec_l1Put.mono _ _ _ _ _ _)
   | (with_reducible exact spec_l1Same.mono _ _ _)
   | (with_reducible exact LeO.refl _)
   | (with_reducible exact LeO.none _)
   | (with_reducible refine LeO.ite ?_ ?_)
   | (with_reducible refine LeO.bind ?_ (fun _ => ?_))
   | exact ih0 _ _ _ _ _ _ _ _
   | exact spec_ValAt.mono _ _ _ _
   | exact spec_l1Any.mono _ _ _
   | exact spec_l1Of.mono _ _ _ _
   | exact spec_l1Put.mono _ _ _ _ _ _
   | exact spec_l1Same.mono _ _ _
   | exact LeO.none _
   | refine LeO.ite ?_ ?_
   | refine LeO.bind ?_ (fun _ => ?_)
theorem spec_ValPut.mono : ∀ a0 a1 a2 a3 a4 k, LeO (spec_ValPut.f k a0 a1 a2 a3 a4) (spec_ValPut.f (k + 1) a0 a1 a2 a3 a4) := by
 intro a0 a1 a2 a3 a4 k
 have ih0 := spec_ValPut.mono_l k
 unfold spec_ValPut.f
 repeat' first
   | (with_reducible exact ih0 _ _ _ _ _ _ _ _)
   | (with_reducible exact spec_ValAt.mono _ _ _ _)
   | (with_reducible exact spec_l1Any.mono _ _ _)
   | (with_reducible exact spec_l1Of.mono _ _ _ _)
   | (with_reducible exact spec_l1Put.mono _ _ _ _ _ _)
   | (with_reducible exact spec_l1Same.mono _ _ _)
   | (with_reducible exact LeO.refl _)
   | (with_reducible exact LeO.none _)
   | (with_reducible refine LeO.ite ?_ ?_)
   | (with_reducible refine LeO.bind ?_ (fun _ => ?_))
   | exact ih0 _ _ _ _ _ _ _ _
   | exact spec_ValAt.mono _ _ _ _
   | exact spec_l1Any.mono _ _ _
   | exact spec_l1Of.mono _ _ _ _
   | exact spec_l1Put.mono _ _ _ _ _ _
   | exact spec_l1Same.mono _ _ _
   | exact LeO.none _
   | refine LeO.ite ?_ ?_
   | refine LeO.bind ?_ (fun _ => ?_)
set_option maxHeartbeats 8000000 in
set_option maxRecDepth 100000 in
theorem spec_ValPut.calls (k : Nat) (a0_0 : Int) (A0_1 : Option Addr) (c0_1 : Nat) (l0_1 : List (S25)) (A1 : Option Addr) (c1 : Nat) (l1 : List Int) (a2_0 : Int) (A2_1 : Option Addr) (c2_1 : Nat) (l2_1 : List (S25)) (r1 : Int) (r2 : List (S25)) (r3 : Bool) (w : World) (hr0_1 : Kd.C k25 w A0_1 l0_1.length l0_1) (hc0_1 : l0_1.length ≤ c0_1) (hr1 : Kd.C (Kd.int .i64) w A1 l1.length l1) (hc1 : l1.length ≤ c1) (hr2_1 : Kd.C k25 w A2_1 l2_1.length l2_1) (hc2_1 : l2_1.length ≤ c2_1) (h : spec_ValPut.f k a0_0 l0_1 l1 a2_0 l2_1 = some (r1, r2, r3)) :
  Calls Try.prog 26 #[.agg #[.int .i64 a0_0, .slice A0_1 l0_1.length c0_1], .slice A1 l1.length c1, .agg #[.int .i64 a2_0, .slice A2_1 l2_1.length c2_1]] w fun e w' => ∃ v1_ : Value, e = .returned (.tuple #[.agg #[.int .i64 r1, v1_], .bool r3]) ∧ Kd.N k25 25 w' w.heap.size (fun k_ => (w.heap.size ≤ k_)) v1_ r2 ∧ Below w.heap.size w w' := by
 have hu25 := Try.underlying25
 have hu50 := Try.underlying50
 have HR0_1 := Aside0.mk hr0_1
 have HC0_1 := Aside0.mk hc0_1
 clear hr0_1 hc0_1
 have HR1 := Aside0.mk hr1
 have HC1 := Aside0.mk hc1
 clear hr1 hc1
 have HR2_1 := Aside0.mk hr2_1
 have HC2_1 := Aside0.mk hc2_1
 clear hr2_1 hc2_1
 have HB := Aside0.mk (Below.refl w.heap.size w)
 have H : ((spec_ValAt.f k a0_0 l0_1 l1).bind fun bt744 => (if bt744.2.2 = true then ((spec_l1Any.f k a2_0 l2_1).bind fun t750 => (spec_ValPut.j0 k l1 (!t750) a0_0 l0_1 a2_0 l2_1 bt744.1 bt744.2.1)) else (spec_ValPut.j0 k l1 true a0_0 l0_1 a2_0 l2_1 bt744.1 bt744.2.1))) = some (r1, r2, r3) := h
 clear h
 obtain ⟨⟨t744, t745, t748⟩, A40, H⟩ := ob H
 have A4 := Aside0.mk A40
 clear A40
 have HC5 := Aside0.mk H
 clear H
 go_enter Try.func26, Try.ntmps26
 go_upto_region 2 with (first | ((with_reducible refine gate_dst (N := 3) rfl ?_); refine zbx 3 #[.int .i64 a0_0, .slice A0_1 l0_1.length c0_1] 25 ?_; intro gb741 hg w6 hbox hb; have BK741 := Aside0.mk hbox; have GW741 := Aside0.mk ((y10 hg HB.out : w.heap.size ≤ gb741)); have GE741 := Aside0.mk ((y10 hg HB.out : w.heap.size ≤ gb741)); replace HB := Aside0.mk (below_step (y6 HB.out) hb); clear hb hbox hg) | ((with_reducible refine gate_dst (N := 5) rfl ?_); refine zbx 5 #[.int .i64 a2_0, .slice A2_1 l2_1.length c2_1] 25 ?_; intro gb742 hg w7 hbox hb; have BK742 := Aside0.mk hbox; have GW742 := Aside0.mk ((y12 hg HB.out GE741.out : w.heap.size ≤ gb742)); have GE742 := Aside0.mk ((y12 hg HB.out GE741.out : w.heap.size ≤ gb742)); replace HB := Aside0.mk (below_step (y7 HB.out GE741.out) hb); have NB741_742 := zltn hg BK741; have NB742_741 := zgtn hg BK741; replace BK741 := zbb BK741 hb; clear hb hbox hg) | ((with_reducible refine gate_dst (N := 6) rfl ?_); refine zbx 6 #[.int .i64 0, .slice none 0 0] 25 ?_; intro gb743 hg w8 hbox hb; have BK743 := Aside0.mk hbox; have GW743 := Aside0.mk ((y16 hg HB.out GE741.out GE742.out : w.heap.size ≤ gb743)); have GE743 := Aside0.mk ((y16 hg HB.out GE741.out GE742.out : w.heap.size ≤ gb743)); replace HB := Aside0.mk (below_step (y3 HB.out GE741.out GE742.out) hb); have NB741_743 := zltn hg BK741; have NB743_741 := zgtn hg BK741; replace BK741 := zbb BK741 hb; have NB742_743 := zltn hg BK742; have NB743_742 := zgtn hg BK742; replace BK742 := zbb BK742 hb; clear hb hbox hg; have hnb9 := NB741_742.out; have hnc9 := NB742_741.out; have hnb10 := NB741_743.out; have hnc10 := NB743_741.out; have hcz11_0 := zh BK741; have hcz11_1 := zh1 BK741; have hfz11_0 := zfr BK741 0; have hfz11_1 := zfr BK741 1) | ((with_reducible refine gate_callee (f := 13) rfl ?_); refine goesL_ (some 17) rfl rfl Try.func13 (by kernel_rfl) rfl #[.agg #[.int .i64 a0_0, .slice A0_1 l0_1.length c0_1], .slice A1 l1.length c1] rfl y9 ?_; (with_reducible refine (spec_ValAt.calls k a0_0 (fun k_ => k_ < w.heap.size) _ _ l0_1 _ _ l1 t744 t745 t748 _ ?side1 ?side2 ?side3 A4.out).mono ?_); (case side1 => exact Kd.V_mk HC0_1.out (Kd.F_below (Kd.C_F k25_heap HR0_1.out) (y4 HB.out GE741.out GE742.out GE743.out))); (case side2 => exact y18 HR1.out HB.out); (case side3 => exact HC1.out); rintro e w12 ⟨v746, rfl, ho0, hb⟩; refine ⟨_, rfl, ?_⟩; have HO747 := Aside0.mk (Kd.N_lower (Kd.N_mono (ok' := fun k_ => (w.heap.size ≤ k_) ∧ k_ ≠ gb741 ∧ k_ ≠ gb742 ∧ k_ ≠ gb743) (Kd.R_N (Kd.R_bound ho0)) (fun k_ hk_ => ⟨(Nat.le_trans (below_size (y4 HB.out GE741.out GE742.out GE743.out)) hk_.2.1), (Kd.freshB (g := gb741) (o := .cells #[.int .i64 a0_0, .slice A0_1 l0_1.length c0_1] 25 (0, 0)) (y0 BK741.out) k_ hk_.2.1), (Kd.freshB (g := gb742) (o := .cells #[.int .i64 a2_0, .slice A2_1 l2_1.length c2_1] 25 (0, 0)) (y0 BK742.out) k_ hk_.2.1), (Kd.freshB (g := gb743) (o := .cells #[.int .i64 0, .slice none 0 0] 25 (0, 0)) (y0 BK743.out) k_ hk_.2.1)⟩)) (below_size (y4 HB.out GE741.out GE742.out GE743.out))); replace BK741 := zbb BK741 hb; replace BK742 := zbb BK742 hb; replace BK743 := zbb BK743 hb; replace HB := Aside0.mk (below_step (y4 HB.out GE741.out GE742.out GE743.out) hb); (try clear hb); (try clear hb2); (try clear hk); (try clear hi); (try clear ho0)) | ((with_reducible refine gate_dst (N := 8) rfl ?_); refine zbx 8 #[.int .i64 0, .slice none 0 0] 25 ?_; intro gb749 hg w13 hbox hb; replace HO747 := Aside0.mk (Kd.N_below (Kd.N_elderB (y2 HO747.out) gb749 (Nat.le_of_eq hg.symm)) hb); have BK749 := Aside0.mk hbox; have GW749 := Aside0.mk ((y20 hg HB.out GE741.out GE742.out GE743.out : w.heap.size ≤ gb749)); have GE749 := Aside0.mk ((y20 hg HB.out GE741.out GE742.out GE743.out : w.heap.size ≤ gb749)); replace HB := Aside0.mk (below_step (y4 HB.out GE741.out GE742.out GE743.out) hb); have NB741_749 := zltn hg BK741; have NB749_741 := zgtn hg BK741; replace BK741 := zbb BK741 hb; have NB742_749 := zltn hg BK742; have NB749_742 := zgtn hg BK742; replace BK742 := zbb BK742 hb; have NB743_749 := zltn hg BK743; have NB749_743 := zgtn hg BK743; replace BK743 := zbb BK743 hb; clear hb hbox hg; have hnb14 := NB749_741.out; have hnc14 := NB741_749.out; have hnb15 := NB749_742.out; have hnc15 := NB742_749.out; have hnb16 := NB749_743.out; have hnc16 := NB743_749.out; have hcz17_0 := zh BK749; have hcz17_1 := zh1 BK749; have hfz17_0 := zfr BK749 0; have hfz17_1 := zfr BK749 1; obtain ⟨Ao18, co18, eo18⟩ := Kd.N_slice HO747.out; subst eo18))
 (try simp only [Act.put, List.setIfInBounds_toArray, List.set_cons_zero, List.set_cons_succ])
 go_cut [26] (fun v26 wc => ∃ (kq : Nat) (x26_4 : Bool), v26 = .bool x26_4 ∧ Aside0 (spec_ValPut.j0 kq l1 x26_4 a0_0 l0_1 a2_0 l2_1 t744 t745 = some (r1, r2, r3)) ∧ Aside0 (kq ≤ k) ∧ Aside0 (Kd.N k25 25 wc w.heap.size (fun k_ => (w.heap.size ≤ k_) ∧ k_ ≠ gb741 ∧ k_ ≠ gb742 ∧ k_ ≠ gb743 ∧ k_ ≠ gb749) (.slice Ao18 t745.length co18) t745) ∧ Aside0 (wc.heap[gb741]? = some (.cells #[.int .i64 a0_0, (.slice A0_1 l0_1.length c0_1)] 25 (0, 0))) ∧ Aside0 (wc.heap[gb742]? = some (.cells #[.int .i64 a2_0, (.slice A2_1 l2_1.length c2_1)] 25 (0, 0))) ∧ Aside0 (wc.heap[gb743]? = some (.cells #[.int .i64 0, (.slice none 0 0)] 25 (0, 0))) ∧ Aside0 (wc.heap[gb749]? = some (.cells #[.int .i64 t744, (.slice Ao18 t745.length co18)] 25 (0, 0))) ∧ Aside0 (Below w.heap.size w wc))
 case first =>
  have H := HC5.out
  clear HC5
  by_cases c19 : t748 = true
  ·subst c19
   rw [if_pos rfl] at H
   obtain ⟨t750, A200, H⟩ := ob H
   have A20 := Aside0.mk A200
   clear A200
   have H' := Aside0.mk H
   clear H
   have hnb21 := NB742_741.out
   have hnc21 := NB741_742.out
   have hnb22 := NB742_743.out
   have hnc22 := NB743_742.out
   have hnb23 := NB742_749.out
   have hnc23 := NB749_742.out
   have hcz24_0 := zh BK742
   have hcz24_1 := zh1 BK742
   have hfz24_0 := zfr BK742 0
   have hfz24_1 := zfr BK742 1
   go_wp2_with (first | (go_at_call 35; (with_reducible refine (spec_l1Any.calls k a2_0 _ _ l2_1 t750 _ ?side1 ?side2 A20.out).mono ?_); (case side1 => exact Kd.C_below HR2_1.out (y5 HB.out GE741.out GE742.out GE743.out GE749.out)); (case side2 => exact HC2_1.out); rintro e w25 ⟨rfl, hb⟩; replace HO747 := Aside0.mk (Kd.N_below (by (with_reducible repeat (first | apply Kd.N_alloc | apply Kd.N_drewN | apply Kd.N_drew)); exact (Kd.N_mono (Kd.N_far (p := ⟨gb749, 1, none⟩) (Kd.N_far (p := ⟨gb749, 0, none⟩) (Kd.N_mono HO747.out (fun k_ hk => (⟨hk, hk.2⟩ : _ ∧ k_ ≠ gb749))) (fun _ hk => hk.2) (.int .i64 t744)) (fun _ hk => hk.2) (.slice Ao18 t745.length co18)) (fun _ h_ => h_.1))) hb); replace BK741 := Aside0.mk (blk_below (g := gb741) (o := .cells #[.int .i64 a0_0, .slice A0_1 l0_1.length c0_1] 25 (0, 0)) (y1 NB741_749.out BK741.out) hb); replace BK742 := Aside0.mk (blk_below (g := gb742) (o := .cells #[.int .i64 a2_0, .slice A2_1 l2_1.length c2_1] 25 (0, 0)) (y1 NB742_749.out BK742.out) hb); replace BK743 := Aside0.mk (blk_below (g := gb743) (o := .cells #[.int .i64 0, .slice none 0 0] 25 (0, 0)) (y1 NB743_749.out BK743.out) hb); replace BK749 := Aside0.mk (blk_below (g := gb749) (o := .cells #[.int .i64 t744, .slice Ao18 t745.length co18] 25 (0, 0)) (by (with_reducible repeat (first | refine blk_drewN ?_ _ | refine blk_drew ?_ | refine blk_alloc ?_ _)); refine blk_put (cs := #[.int .i64 t744, .slice none 0 0]) ?_ 1 _ rfl; (with_reducible repeat (first | refine blk_drewN ?_ _ | refine blk_drew ?_ | refine blk_alloc ?_ _)); apply blk_put (i := 0); (case h => exact y0 BK749.out); (case e => rfl)) hb); replace HB := Aside0.mk (below_step (y5 HB.out GE741.out GE742.out GE743.out GE749.out) hb); (try clear hb); (try clear hb2); (try clear hk); (try clear hi)))
   go_meet
   case rel => exact ⟨_, (!t750), y29, H', ⟨y50⟩, ⟨(y61 HO747.out)⟩, ⟨(y0 BK741.out)⟩, ⟨(y0 BK742.out)⟩, ⟨(y0 BK743.out)⟩, ⟨(y0 BK749.out)⟩, ⟨(y5 HB.out GE741.out GE742.out GE743.out GE749.out)⟩⟩
  ·replace c19 := Bool.eq_false_iff.mpr c19
   subst c19
   rw [if_neg (show ¬ (false = true) by decide)] at H
   have H' := Aside0.mk H
   clear H
   go_wp2
   go_meet
   case rel => exact ⟨_, (true), y29, H', ⟨y50⟩, ⟨(by (with_reducible repeat (first | apply Kd.N_alloc | apply Kd.N_drewN | apply Kd.N_drew)); exact Kd.N_mono (Kd.N_far (p := ⟨gb749, 1, none⟩) (Kd.N_far (p := ⟨gb749, 0, none⟩) (Kd.N_mono HO747.out (fun k_ hk => (⟨hk, hk.2⟩ : _ ∧ k_ ≠ gb749))) (fun _ hk => hk.2) (.int .i64 t744)) (fun _ hk => hk.2) (.slice Ao18 t745.length co18)) (fun _ hk => ⟨hk.1.1.1, ⟨hk.1.1.2.1, ⟨hk.1.1.2.2.1, ⟨hk.1.1.2.2.2, hk.1.2⟩⟩⟩⟩))⟩, ⟨(y1 NB741_749.out BK741.out)⟩, ⟨(y1 NB742_749.out BK742.out)⟩, ⟨(y1 NB743_749.out BK743.out)⟩, ⟨(by (with_reducible repeat (first | refine blk_drewN ?_ _ | refine blk_drew ?_ | refine blk_alloc ?_ _)); refine blk_put (cs := #[.int .i64 t744, .slice none 0 0]) ?_ 1 _ rfl; (with_reducible repeat (first | refine blk_drewN ?_ _ | refine blk_drew ?_ | refine blk_alloc ?_ _)); refine blk_put (cs := #[.int .i64 0, .slice none 0 0]) ?_ 0 _ rfl; (with_reducible repeat (first | refine blk_drewN ?_ _ | refine blk_drew ?_ | refine blk_alloc ?_ _)); exact BK749.out)⟩, ⟨(y5 HB.out GE741.out GE742.out GE743.out GE749.out)⟩⟩
 case rest =>
  clear HC5
  try clear c1
  try clear c2
  try clear p2
  try clear c9
  try clear c10
  try clear c13
  try clear c14
  try clear c15
  try clear c16
  try clear c19
  try clear c21
  try clear c22
  try clear c23
  try clear hcz11_0
  try clear hcz11_1
  try clear hcz17_0
  try clear hcz17_1
  try clear hcz24_0
  try clear hcz24_1
  try clear hfz11_0
  try clear hfz11_1
  try clear hfz17_0
  try clear hfz17_1
  try clear hfz24_0
  try clear hfz24_1
  obtain ⟨kq, x26_4, rfl, HA, HJ4, HO_750001, BK741, BK742, BK743, BK749, HB⟩ := hcut
  cases kq with
  | zero => exact absurd HA.out (by simp [spec_ValPut.j0])
  | succ kj4 =>
   have H := HA.out
   clear HA
   simp only [spec_ValPut.j0] at H
   by_cases c26 : x26_4 = true
   ·subst c26
    rw [if_pos rfl] at H
    simp only [Option.some.injEq, Prod.mk.injEq] at H
    obtain ⟨rfl, rfl, rfl⟩ := H
    have hnb27 := NB743_741.out
    have hnc27 := NB741_743.out
    have hnb28 := NB743_742.out
    have hnc28 := NB742_743.out
    have hnb29 := NB743_749.out
    have hnc29 := NB749_743.out
    have hcz30_0 := zh BK743
    have hcz30_1 := zh1 BK743
    have hfz30_0 := zfr BK743 0
    have hfz30_1 := zfr BK743 1
    go_wp2
    refine bodyPost_ret (results_ct rfl _ _ gb743 25 #[.int .i64 0, .slice none 0 0] (0, 0) _ rfl (by (with_reducible repeat (first | refine blk_drewN ?_ _ | refine blk_drew ?_ | refine blk_alloc ?_ _)); refine blk_put (cs := #[.int .i64 0, .slice none 0 0]) ?_ 1 _ rfl; (with_reducible repeat (first | refine blk_drewN ?_ _ | refine blk_drew ?_ | refine blk_alloc ?_ _)); apply blk_put (i := 0); (case h => exact y0 BK743.out); (case e => rfl)) Try.underlying25 rfl (by kernel_rfl)) rfl ?_
    exact ⟨_, y15, y38, (y5 HB.out GE741.out GE742.out GE743.out GE749.out)⟩
   ·replace c26 := Bool.eq_false_iff.mpr c26
    subst c26
    rw [if_neg (show ¬ (false = true) by decide)] at H
    obtain ⟨⟨t751, t754⟩, A310, H⟩ := ob H
    have A31 := Aside0.mk A310
    clear A310
    obtain ⟨⟨t756, t759⟩, A320, H⟩ := ob H
    have A32 := Aside0.mk A320
    clear A320
    obtain ⟨t761, A330, H⟩ := ob H
    have A33 := Aside0.mk A330
    clear A330
    have HZ34 := Aside0.mk H
    clear H
    have hnb35 := NB749_741.out
    have hnc35 := NB741_749.out
    have hnb36 := NB749_742.out
    have hnc36 := NB742_749.out
    have hnb37 := NB749_743.out
    have hnc37 := NB743_749.out
    have hcz38_0 := zh BK749
    have hcz38_1 := zh1 BK749
    have hfz38_0 := zfr BK749 0
    have hfz38_1 := zfr BK749 1
    go_upto_if 41 with (first | ((with_reducible refine gate_callee (f := 49) rfl ?_); refine goesL_ (some 30) rfl rfl Try.func49 (by kernel_rfl) rfl #[.agg #[.int .i64 t744, .slice Ao18 t745.length co18], .int .i64 4] rfl y9 ?_; (with_reducible refine (spec_l1Of.calls kj4 t744 _ _ t745 4 t751 t754 _ ?side1 ?side2 A31.out).mono ?_); (case side1 => exact y36 HO_750001.out); (case side2 => exact (Kd.N_reads' HO_750001.out).2.1); rintro e w39 ⟨v752, rfl, ho0, hb⟩; refine ⟨_, rfl, ?_⟩; have HO753 := Aside0.mk (Kd.N_lower (Kd.N_mono (ok' := fun k_ => (w.heap.size ≤ k_) ∧ some k_ ≠ (.slice Ao18 t745.length co18 : Value).ownBlock ∧ k_ ≠ gb741 ∧ k_ ≠ gb742 ∧ k_ ≠ gb743 ∧ k_ ≠ gb749) (Kd.R_N (Kd.R_bound ho0)) (fun k_ hk_ => ⟨(Nat.le_trans (below_size (y5 HB.out GE741.out GE742.out GE743.out GE749.out)) hk_.2.1), (Kd.fresh' (Kd.N_lt (y2 HO_750001.out)) k_ hk_.2.1), (Kd.freshB (g := gb741) (o := .cells #[.int .i64 a0_0, .slice A0_1 l0_1.length c0_1] 25 (0, 0)) (y0 BK741.out) k_ hk_.2.1), (Kd.freshB (g := gb742) (o := .cells #[.int .i64 a2_0, .slice A2_1 l2_1.length c2_1] 25 (0, 0)) (y0 BK742.out) k_ hk_.2.1), (Kd.freshB (g := gb743) (o := .cells #[.int .i64 0, .slice none 0 0] 25 (0, 0)) (y0 BK743.out) k_ hk_.2.1), (Kd.freshB (g := gb749) (o := .cells #[.int .i64 t744, .slice Ao18 t745.length co18] 25 (0, 0)) (y0 BK749.out) k_ hk_.2.1)⟩)) (below_size (y5 HB.out GE741.out GE742.out GE743.out GE749.out))); replace HO_750001 := Aside0.mk (Kd.N_elder' (y2 HO_750001.out) (Kd.R_base ho0) hb); replace BK741 := zbb BK741 hb; replace BK742 := zbb BK742 hb; replace BK743 := zbb BK743 hb; replace BK749 := zbb BK749 hb; replace HB := Aside0.mk (below_step (y5 HB.out GE741.out GE742.out GE743.out GE749.out) hb); (try clear hb); (try clear hb2); (try clear hk); (try clear hi); (try clear ho0)) | ((with_reducible refine gate_dst (N := 10) rfl ?_); refine zbx 10 #[.slice none 0 0] 50 ?_; intro gb755 hg w40 hbox hb; replace HO_750001 := Aside0.mk (Kd.N_below (Kd.N_elderB (y2 HO_750001.out) gb755 (Nat.le_of_eq hg.symm)) hb); replace HO753 := Aside0.mk (Kd.N_below (Kd.N_elderB (y2 HO753.out) gb755 (Nat.le_of_eq hg.symm)) hb); have BK755 := Aside0.mk hbox; have GW755 := Aside0.mk ((y27 hg HB.out GE741.out GE742.out GE743.out GE749.out : w.heap.size ≤ gb755)); have GE755 := Aside0.mk ((y27 hg HB.out GE741.out GE742.out GE743.out GE749.out : w.heap.size ≤ gb755)); replace HB := Aside0.mk (below_step (y5 HB.out GE741.out GE742.out GE743.out GE749.out) hb); have NB741_755 := zltn hg BK741; have NB755_741 := zgtn hg BK741; replace BK741 := zbb BK741 hb; have NB742_755 := zltn hg BK742; have NB755_742 := zgtn hg BK742; replace BK742 := zbb BK742 hb; have NB743_755 := zltn hg BK743; have NB755_743 := zgtn hg BK743; replace BK743 := zbb BK743 hb; have NB749_755 := zltn hg BK749; have NB755_749 := zgtn hg BK749; replace BK749 := zbb BK749 hb; clear hb hbox hg; obtain ⟨Ao41, co41, eo41⟩ := Kd.N_slice HO753.out; subst eo41; have hnb42 := NB755_741.out; have hnc42 := NB741_755.out; have hnb43 := NB755_742.out; have hnc43 := NB742_755.out; have hnb44 := NB755_743.out; have hnc44 := NB743_755.out; have hnb45 := NB755_749.out; have hnc45 := NB749_755.out; have hcz46_0 := zh BK755; have hfz46_0 := zfr BK755 0; have hnb47 := NB742_741.out; have hnc47 := NB741_742.out; have hnb48 := NB742_743.out; have hnc48 := NB743_742.out; have hcz49_0 := zh BK742; have hcz49_1 := zh1 BK742; have hfz49_0 := zfr BK742 0; have hfz49_1 := zfr BK742 1) | ((with_reducible refine gate_callee (f := 49) rfl ?_); refine goesL_ (some 35) rfl rfl Try.func49 (by kernel_rfl) rfl #[.agg #[.int .i64 a2_0, .slice A2_1 l2_1.length c2_1], .int .i64 4] rfl y9 ?_; (with_reducible refine (spec_l1Of.calls kj4 a2_0 _ _ l2_1 4 t756 t759 _ ?side1 ?side2 A32.out).mono ?_); (case side1 => exact Kd.C_below HR2_1.out (y14 HB.out GE741.out GE742.out GE743.out GE749.out GE755.out)); (case side2 => exact HC2_1.out); rintro e w50 ⟨v757, rfl, ho0, hb⟩; refine ⟨_, rfl, ?_⟩; have HO758 := Aside0.mk (Kd.N_lower (Kd.N_mono (ok' := fun k_ => (w.heap.size ≤ k_) ∧ some k_ ≠ (.slice Ao18 t745.length co18 : Value).ownBlock ∧ some k_ ≠ (.slice Ao41 t751.length co41 : Value).ownBlock ∧ k_ ≠ gb741 ∧ k_ ≠ gb742 ∧ k_ ≠ gb743 ∧ k_ ≠ gb749 ∧ k_ ≠ gb755) (Kd.R_N (Kd.R_bound ho0)) (fun k_ hk_ => ⟨(Nat.le_trans (below_size (y14 HB.out GE741.out GE742.out GE743.out GE749.out GE755.out)) hk_.2.1), (Kd.fresh' (Kd.N_lt (by (with_reducible repeat (first | apply Kd.N_alloc | apply Kd.N_drewN | apply Kd.N_drew)); exact (Kd.N_mono (Kd.N_far (p := ⟨gb755, 0, none⟩) (Kd.N_mono HO_750001.out (fun k_ hk => (⟨hk, hk.2⟩ : _ ∧ k_ ≠ gb755))) (fun _ hk => hk.2) (.slice Ao41 t751.length co41)) (fun _ h_ => h_.1)))) k_ hk_.2.1), (Kd.fresh' (Kd.N_lt (by (with_reducible repeat (first | apply Kd.N_alloc | apply Kd.N_drewN | apply Kd.N_drew)); exact (Kd.N_mono (Kd.N_far (p := ⟨gb755, 0, none⟩) (Kd.N_mono HO753.out (fun k_ hk => (⟨hk, hk.2⟩ : _ ∧ k_ ≠ gb755))) (fun _ hk => hk.2) (.slice Ao41 t751.length co41)) (fun _ h_ => h_.1)))) k_ hk_.2.1), (Kd.freshB (g := gb741) (o := .cells #[.int .i64 a0_0, .slice A0_1 l0_1.length c0_1] 25 (0, 0)) (y13 NB741_755.out BK741.out) k_ hk_.2.1), (Kd.freshB (g := gb742) (o := .cells #[.int .i64 a2_0, .slice A2_1 l2_1.length c2_1] 25 (0, 0)) (y13 NB742_755.out BK742.out) k_ hk_.2.1), (Kd.freshB (g := gb743) (o := .cells #[.int .i64 0, .slice none 0 0] 25 (0, 0)) (y13 NB743_755.out BK743.out) k_ hk_.2.1), (Kd.freshB (g := gb749) (o := .cells #[.int .i64 t744, .slice Ao18 t745.length co18] 25 (0, 0)) (y13 NB749_755.out BK749.out) k_ hk_.2.1), (Kd.freshB (g := gb755) (o := .cells #[.slice Ao41 t751.length co41] 50 (0, 0)) (by (with_reducible repeat (first | refine blk_drewN ?_ _ | refine blk_drew ?_ | refine blk_alloc ?_ _)); apply blk_put (i := 0); (case h => exact y0 BK755.out); (case e => rfl)) k_ hk_.2.1)⟩)) (below_size (y14 HB.out GE741.out GE742.out GE743.out GE749.out GE755.out))); replace HO_750001 := Aside0.mk (Kd.N_elder' (by (with_reducible repeat (first | apply Kd.N_alloc | apply Kd.N_drewN | apply Kd.N_drew)); exact (Kd.N_mono (Kd.N_far (p := ⟨gb755, 0, none⟩) (Kd.N_mono HO_750001.out (fun k_ hk => (⟨hk, hk.2⟩ : _ ∧ k_ ≠ gb755))) (fun _ hk => hk.2) (.slice Ao41 t751.length co41)) (fun _ h_ => h_.1))) (Kd.R_base ho0) hb); replace HO753 := Aside0.mk (Kd.N_elder' (by (with_reducible repeat (first | apply Kd.N_alloc | apply Kd.N_drewN | apply Kd.N_drew)); exact (Kd.N_mono (Kd.N_far (p := ⟨gb755, 0, none⟩) (Kd.N_mono HO753.out (fun k_ hk => (⟨hk, hk.2⟩ : _ ∧ k_ ≠ gb755))) (fun _ hk => hk.2) (.slice Ao41 t751.length co41)) (fun _ h_ => h_.1))) (Kd.R_base ho0) hb); replace BK741 := zbf BK741 NB741_755 hb; replace BK742 := zbf BK742 NB742_755 hb; replace BK743 := zbf BK743 NB743_755 hb; replace BK749 := zbf BK749 NB749_755 hb; replace BK755 := Aside0.mk (blk_below (g := gb755) (o := .cells #[.slice Ao41 t751.length co41] 50 (0, 0)) (by (with_reducible repeat (first | refine blk_drewN ?_ _ | refine blk_drew ?_ | refine blk_alloc ?_ _)); apply blk_put (i := 0); (case h => exact y0 BK755.out); (case e => rfl)) hb); replace HB := Aside0.mk (below_step (y14 HB.out GE741.out GE742.out GE743.out GE749.out GE755.out) hb); (try clear hb); (try clear hb2); (try clear hk); (try clear hi); (try clear ho0)) | ((with_reducible refine gate_dst (N := 12) rfl ?_); refine zbx 12 #[.slice none 0 0] 50 ?_; intro gb760 hg w51 hbox hb; replace HO_750001 := Aside0.mk (Kd.N_below (Kd.N_elderB (y2 HO_750001.out) gb760 (Nat.le_of_eq hg.symm)) hb); replace HO753 := Aside0.mk (Kd.N_below (Kd.N_elderB (y2 HO753.out) gb760 (Nat.le_of_eq hg.symm)) hb); replace HO758 := Aside0.mk (Kd.N_below (Kd.N_elderB (y2 HO758.out) gb760 (Nat.le_of_eq hg.symm)) hb); have BK760 := Aside0.mk hbox; have GW760 := Aside0.mk ((y30 hg HB.out GE741.out GE742.out GE743.out GE749.out GE755.out : w.heap.size ≤ gb760)); have GE760 := Aside0.mk ((y30 hg HB.out GE741.out GE742.out GE743.out GE749.out GE755.out : w.heap.size ≤ gb760)); replace HB := Aside0.mk (below_step (y14 HB.out GE741.out GE742.out GE743.out GE749.out GE755.out) hb); have NB741_760 := zltn hg BK741; have NB760_741 := zgtn hg BK741; replace BK741 := zbb BK741 hb; have NB742_760 := zltn hg BK742; have NB760_742 := zgtn hg BK742; replace BK742 := zbb BK742 hb; have NB743_760 := zltn hg BK743; have NB760_743 := zgtn hg BK743; replace BK743 := zbb BK743 hb; have NB749_760 := zltn hg BK749; have NB760_749 := zgtn hg BK749; replace BK749 := zbb BK749 hb; have NB755_760 := zltn hg BK755; have NB760_755 := zgtn hg BK755; replace BK755 := zbb BK755 hb; clear hb hbox hg; obtain ⟨Ao52, co52, eo52⟩ := Kd.N_slice HO758.out; subst eo52; have hnb53 := NB760_741.out; have hnc53 := NB741_760.out; have hnb54 := NB760_742.out; have hnc54 := NB742_760.out; have hnb55 := NB760_743.out; have hnc55 := NB743_760.out; have hnb56 := NB760_749.out; have hnc56 := NB749_760.out; have hnb57 := NB760_755.out; have hnc57 := NB755_760.out; have hcz58_0 := zh BK760; have hfz58_0 := zfr BK760 0; have hcz59_0 := zh BK755; have hfz59_0 := zfr BK755 0) | ((with_reducible refine gate_callee (f := 50) rfl ?_); refine goesL_ (some 40) rfl rfl Try.func50 (by kernel_rfl) rfl #[.agg #[.slice Ao41 t751.length co41], .agg #[.slice Ao52 t756.length co52]] rfl y9 ?_; (with_reducible refine (spec_l1Same.calls kj4 _ _ t751 _ _ t756 t761 _ ?side1 ?side2 ?side3 ?side4 A33.out).mono ?_); (case side1 => refine (Kd.N_reads' (e := 50) (base := w.heap.size) (ok := fun k_ => (((((w.heap.size ≤ k_) ∧ (some k_ ≠ (.slice Ao18 t745.length co18 : Value).ownBlock ∧ (k_ ≠ gb741 ∧ (k_ ≠ gb742 ∧ (k_ ≠ gb743 ∧ k_ ≠ gb749))))) ∧ k_ ≠ gb755) ∧ some k_ ≠ (.slice Ao52 t756.length co52 : Value).ownBlock) ∧ k_ ≠ gb760)) (n := t751.length) (c := co41) ?_).2.2; exact (by (with_reducible repeat (first | apply Kd.N_alloc | apply Kd.N_drewN | apply Kd.N_drew)); exact (Kd.N_mono (Kd.N_far (p := ⟨gb760, 0, none⟩) (Kd.N_mono HO753.out (fun k_ hk => (⟨hk, hk.2⟩ : _ ∧ k_ ≠ gb760))) (fun _ hk => hk.2) (.slice Ao52 t756.length co52)) (fun _ h_ => h_.1)))); (case side2 => exact (Kd.N_reads' HO753.out).2.1); (case side3 => refine (Kd.N_reads' (e := 50) (base := w.heap.size) (ok := fun k_ => (((w.heap.size ≤ k_) ∧ (some k_ ≠ (.slice Ao18 t745.length co18 : Value).ownBlock ∧ (some k_ ≠ (.slice Ao41 t751.length co41 : Value).ownBlock ∧ (k_ ≠ gb741 ∧ (k_ ≠ gb742 ∧ (k_ ≠ gb743 ∧ (k_ ≠ gb749 ∧ k_ ≠ gb755))))))) ∧ k_ ≠ gb760)) (n := t756.length) (c := co52) ?_).2.2; exact (by (with_reducible repeat (first | apply Kd.N_alloc | apply Kd.N_drewN | apply Kd.N_drew)); exact (Kd.N_mono (Kd.N_far (p := ⟨gb760, 0, none⟩) (Kd.N_mono HO758.out (fun k_ hk => (⟨hk, hk.2⟩ : _ ∧ k_ ≠ gb760))) (fun _ hk => hk.2) (.slice Ao52 t756.length co52)) (fun _ h_ => h_.1)))); (case side4 => exact (Kd.N_reads' HO758.out).2.1); rintro e w60 ⟨rfl, hb⟩; refine ⟨_, rfl, ?_⟩; replace HO_750001 := Aside0.mk (Kd.N_below (by (with_reducible repeat (first | apply Kd.N_alloc | apply Kd.N_drewN | apply Kd.N_drew)); exact (Kd.N_mono (Kd.N_far (p := ⟨gb760, 0, none⟩) (Kd.N_mono HO_750001.out (fun k_ hk => (⟨hk, hk.2⟩ : _ ∧ k_ ≠ gb760))) (fun _ hk => hk.2) (.slice Ao52 t756.length co52)) (fun _ h_ => h_.1))) hb); replace HO753 := Aside0.mk (Kd.N_below (by (with_reducible repeat (first | apply Kd.N_alloc | apply Kd.N_drewN | apply Kd.N_drew)); exact (Kd.N_mono (Kd.N_far (p := ⟨gb760, 0, none⟩) (Kd.N_mono HO753.out (fun k_ hk => (⟨hk, hk.2⟩ : _ ∧ k_ ≠ gb760))) (fun _ hk => hk.2) (.slice Ao52 t756.length co52)) (fun _ h_ => h_.1))) hb); replace HO758 := Aside0.mk (Kd.N_below (by (with_reducible repeat (first | apply Kd.N_alloc | apply Kd.N_drewN | apply Kd.N_drew)); exact (Kd.N_mono (Kd.N_far (p := ⟨gb760, 0, none⟩) (Kd.N_mono HO758.out (fun k_ hk => (⟨hk, hk.2⟩ : _ ∧ k_ ≠ gb760))) (fun _ hk => hk.2) (.slice Ao52 t756.length co52)) (fun _ h_ => h_.1))) hb); replace BK741 := zbf BK741 NB741_760 hb; replace BK742 := zbf BK742 NB742_760 hb; replace BK743 := zbf BK743 NB743_760 hb; replace BK749 := zbf BK749 NB749_760 hb; replace BK755 := zbf BK755 NB755_760 hb; replace BK760 := Aside0.mk (blk_below (g := gb760) (o := .cells #[.slice Ao52 t756.length co52] 50 (0, 0)) (by (with_reducible repeat (first | refine blk_drewN ?_ _ | refine blk_drew ?_ | refine blk_alloc ?_ _)); apply blk_put (i := 0); (case h => exact y0 BK760.out); (case e => rfl)) hb); replace HB := Aside0.mk (below_step (y17 HB.out GE741.out GE742.out GE743.out GE749.out GE755.out GE760.out) hb); (try clear hb); (try clear hb2); (try clear hk); (try clear hi)))
    (try simp only [Act.put, List.setIfInBounds_toArray, List.set_cons_zero, List.set_cons_succ])
    have H := HZ34.out
    clear HZ34
    by_cases c61 : t761 = true
    ·subst c61
     rw [if_pos rfl] at H
     obtain ⟨⟨t762, t763⟩, A620, H⟩ := ob H
     have A62 := Aside0.mk A620
     clear A620
     simp only [Option.some.injEq, Prod.mk.injEq] at H
     obtain ⟨rfl, rfl, rfl⟩ := H
     have hnb63 := NB741_742.out
     have hnc63 := NB742_741.out
     have hnb64 := NB741_743.out
     have hnc64 := NB743_741.out
     have hnb65 := NB741_749.out
     have hnc65 := NB749_741.out
     have hnb66 := NB741_755.out
     have hnc66 := NB755_741.out
     have hnb67 := NB741_760.out
     have hnc67 := NB760_741.out
     have hcz68_0 := zh BK741
     have hcz68_1 := zh1 BK741
     have hfz68_0 := zfr BK741 0
     have hfz68_1 := zfr BK741 1
     have hnb69 := NB742_743.out
     have hnc69 := NB743_742.out
     have hnb70 := NB742_749.out
     have hnc70 := NB749_742.out
     have hnb71 := NB742_755.out
     have hnc71 := NB755_742.out
     have hnb72 := NB742_760.out
     have hnc72 := NB760_742.out
     have hcz73_0 := zh BK742
     have hcz73_1 := zh1 BK742
     have hfz73_0 := zfr BK742 0
     have hfz73_1 := zfr BK742 1
     go_wp2_with (first | ((with_reducible refine gate_callee (f := 51) rfl ?_); refine goesL_ (some 46) rfl rfl Try.func51 (by kernel_rfl) rfl #[.agg #[.int .i64 a0_0, .slice A0_1 l0_1.length c0_1], .slice A1 l1.length c1, .agg #[.int .i64 a2_0, .slice A2_1 l2_1.length c2_1]] rfl y9 ?_; (with_reducible refine (spec_l1Put.calls kj4 a0_0 _ _ l0_1 _ _ l1 a2_0 _ _ l2_1 t762 t763 _ ?side1 ?side2 ?side3 ?side4 ?side5 ?side6 A62.out).mono ?_); (case side1 => exact y18 HR0_1.out HB.out); (case side2 => exact HC0_1.out); (case side3 => exact y18 HR1.out HB.out); (case side4 => exact HC1.out); (case side5 => exact y18 HR2_1.out HB.out); (case side6 => exact HC2_1.out); rintro e w74 ⟨v764, rfl, ho0, hb⟩; refine ⟨_, rfl, ?_⟩; have HO765 := Aside0.mk (Kd.N_lower (Kd.N_mono (ok' := fun k_ => (w.heap.size ≤ k_) ∧ some k_ ≠ (.slice Ao18 t745.length co18 : Value).ownBlock ∧ some k_ ≠ (.slice Ao41 t751.length co41 : Value).ownBlock ∧ some k_ ≠ (.slice Ao52 t756.length co52 : Value).ownBlock ∧ k_ ≠ gb741 ∧ k_ ≠ gb742 ∧ k_ ≠ gb743 ∧ k_ ≠ gb749 ∧ k_ ≠ gb755 ∧ k_ ≠ gb760) ho0 (fun k_ hk_ => ⟨(Nat.le_trans (below_size (y17 HB.out GE741.out GE742.out GE743.out GE749.out GE755.out GE760.out)) hk_), (Kd.fresh' (Kd.N_lt (y2 HO_750001.out)) k_ hk_), (Kd.fresh' (Kd.N_lt (y2 HO753.out)) k_ hk_), (Kd.fresh' (Kd.N_lt (y2 HO758.out)) k_ hk_), (Kd.freshB (g := gb741) (o := .cells #[.int .i64 a0_0, .slice A0_1 l0_1.length c0_1] 25 (0, 0)) (y0 BK741.out) k_ hk_), (Kd.freshB (g := gb742) (o := .cells #[.int .i64 a2_0, .slice A2_1 l2_1.length c2_1] 25 (0, 0)) (y0 BK742.out) k_ hk_), (Kd.freshB (g := gb743) (o := .cells #[.int .i64 0, .slice none 0 0] 25 (0, 0)) (y0 BK743.out) k_ hk_), (Kd.freshB (g := gb749) (o := .cells #[.int .i64 t744, .slice Ao18 t745.length co18] 25 (0, 0)) (y0 BK749.out) k_ hk_), (Kd.freshB (g := gb755) (o := .cells #[.slice Ao41 t751.length co41] 50 (0, 0)) (y0 BK755.out) k_ hk_), (Kd.freshB (g := gb760) (o := .cells #[.slice Ao52 t756.length co52] 50 (0, 0)) (y0 BK760.out) k_ hk_)⟩)) (below_size (y17 HB.out GE741.out GE742.out GE743.out GE749.out GE755.out GE760.out))); replace HO_750001 := Aside0.mk (Kd.N_elder' (y2 HO_750001.out) (Kd.N_base ho0) hb); replace HO753 := Aside0.mk (Kd.N_elder' (y2 HO753.out) (Kd.N_base ho0) hb); replace HO758 := Aside0.mk (Kd.N_elder' (y2 HO758.out) (Kd.N_base ho0) hb); replace BK741 := zbb BK741 hb; replace BK742 := zbb BK742 hb; replace BK743 := zbb BK743 hb; replace BK749 := zbb BK749 hb; replace BK755 := zbb BK755 hb; replace BK760 := zbb BK760 hb; replace HB := Aside0.mk (below_step (y17 HB.out GE741.out GE742.out GE743.out GE749.out GE755.out GE760.out) hb); (try clear hb); (try clear hb2); (try clear hk); (try clear hi); (try clear ho0); have hnb75 := NB743_749.out; have hnc75 := NB749_743.out; have hnb76 := NB743_755.out; have hnc76 := NB755_743.out; have hnb77 := NB743_760.out; have hnc77 := NB760_743.out; have hcz78_0 := zh BK743; have hcz78_1 := zh1 BK743; have hfz78_0 := zfr BK743 0; have hfz78_1 := zfr BK743 1; obtain ⟨Ao79, co79, eo79⟩ := Kd.N_slice HO765.out; subst eo79))
     refine bodyPost_ret (results_ct rfl _ _ gb743 25 #[.int .i64 t762, .slice Ao79 t763.length co79] (0, 0) _ rfl (by (with_reducible repeat (first | refine blk_drewN ?_ _ | refine blk_drew ?_ | refine blk_alloc ?_ _)); refine blk_put (cs := #[.int .i64 t762, .slice none 0 0]) ?_ 1 _ rfl; (with_reducible repeat (first | refine blk_drewN ?_ _ | refine blk_drew ?_ | refine blk_alloc ?_ _)); apply blk_put (i := 0); (case h => exact y0 BK743.out); (case e => rfl)) Try.underlying25 rfl (by kernel_rfl)) rfl ?_
     exact ⟨_, y15, (by (with_reducible repeat (first | apply Kd.N_alloc | apply Kd.N_drewN | apply Kd.N_drew)); exact Kd.N_mono (Kd.N_far (p := ⟨gb743, 1, none⟩) (Kd.N_far (p := ⟨gb743, 0, none⟩) (Kd.N_mono HO765.out (fun k_ hk => (⟨hk, hk.2.2.2.2.2.2.1⟩ : _ ∧ k_ ≠ gb743))) (fun _ hk => hk.2) (.int .i64 t762)) (fun _ hk => hk.2) (.slice Ao79 t763.length co79)) (fun _ hk => hk.1.1)), (y17 HB.out GE741.out GE742.out GE743.out GE749.out GE755.out GE760.out)⟩
    ·replace c61 := Bool.eq_false_iff.mpr c61
     subst c61
     rw [if_neg (show ¬ (false = true) by decide)] at H
     simp only [Option.some.injEq, Prod.mk.injEq] at H
     obtain ⟨rfl, rfl, rfl⟩ := H
     have hnb80 := NB743_741.out
     have hnc80 := NB741_743.out
     have hnb81 := NB743_742.out
     have hnc81 := NB742_743.out
     have hnb82 := NB743_749.out
     have hnc82 := NB749_743.out
     have hnb83 := NB743_755.out
     have hnc83 := NB755_743.out
     have hnb84 := NB743_760.out
     have hnc84 := NB760_743.out
     have hcz85_0 := zh BK743
     have hcz85_1 := zh1 BK743
     have hfz85_0 := zfr BK743 0
     have hfz85_1 := zfr BK743 1
     go_wp2
     refine bodyPost_ret (results_ct rfl _ _ gb743 25 #[.int .i64 0, .slice none 0 0] (0, 0) _ rfl (by (with_reducible repeat (first | refine blk_drewN ?_ _ | refine blk_drew ?_ | refine blk_alloc ?_ _)); refine blk_put (cs := #[.int .i64 0, .slice none 0 0]) ?_ 1 _ rfl; (with_reducible repeat (first | refine blk_drewN ?_ _ | refine blk_drew ?_ | refine blk_alloc ?_ _)); apply blk_put (i := 0); (case h => exact y0 BK743.out); (case e => rfl)) Try.underlying25 rfl (by kernel_rfl)) rfl ?_
     exact ⟨_, y15, y38, (y17 HB.out GE741.out GE742.out GE743.out GE749.out GE755.out GE760.out)⟩
end Go.Proofs.Ythfflieeifakdaa.PA
end
section
namespace Go.Proofs.Ythfflieeifakdaa.PA
open Go.RowKit Go.Proofs.YthfflieeifakdaaW.PrintWords Go.Proofs.YthfflieeifakdaaW.PrintLast Go.Proofs.YthfflieeifakdaaW.PrintMore
attribute [local go_sem] max2_int min2_int max_two min_two max_three min_three max_four min_four
set_option linter.unusedVariables false
set_option linter.unusedSimpArgs false
def laws_FnValTwice.j0 : Nat → List Int → Bool → Bool → Bool → Int → List (S25) → Int → List (S25) → Int → List (S25) → Int → List (S25) → Option (Bool)
 | 0, _, _, _, _, _, _, _, _, _, _, _, _ => none
 | k + 1, x4, x7, x9, x51, x922000, x922001, x923000, x923001, x929000, x929001, x935000, x935001 => if x51 = true then (if (x9 == x7) = true then ((laws_lhVal.f k x935000 x935001 x929000 x929001).bind fun t936 => (some t936)) else (some false)) else ((impl_ValAt.f k x922000 x922001 x4).bind fun bt937 => ((impl_ValPut.f k x935000 x935001 x4 bt937.1 bt937.2.1).bind fun bt943 => ((impl_ValPut.f k bt943.1 bt943.2.1 x4 x923000 x923001).bind fun bt949 => (if bt943.2.2 = true then (if bt949.2.2 = true then ((laws_lhVal.f k bt943.1 bt943.2.1 x922000 x922001).bind fun t955 => (if t955 = true then ((laws_lhVal.f k bt949.1 bt949.2.1 x935000 x935001).bind fun t956 => (some t956)) else (some false))) else (some false)) else (some false)))))
def laws_FnValTwice.f (k : Nat) (l0 : List Int) : Option (Bool) := if (l0.length : Int) > 1048576 then (some true) else ((spec_DrawValPut.f k l0).bind fun bt910 => ((spec_ValPut.f k bt910.1 bt910.2.1 bt910.2.2.1 bt910.2.2.2.1 bt910.2.2.2.2).bind fun bt923 => ((impl_ValPut.f k bt910.1 bt910.2.1 bt910.2.2.1 bt910.2.2.2.1 bt910.2.2.2.2).bind fun bt929 => (if (bt929.2.2 != bt923.2.2) = true then (laws_FnValTwice.j0 k bt910.2.2.1 bt923.2.2 bt929.2.2 true bt910.1 bt910.2.1 bt910.2.2.2.1 bt910.2.2.2.2 bt923.1 bt923.2.1 bt929.1 bt929.2.1) else ((laws_lhVal.f k bt929.1 bt929.2.1 bt923.1 bt923.2.1).bind fun t935 => (if t935 = true then (laws_FnValTwice.j0 k bt910.2.2.1 bt923.2.2 bt929.2.2 (!bt929.2.2) bt910.1 bt910.2.1 bt910.2.2.2.1 bt910.2.2.2.2 bt923.1 bt923.2.1 bt929.1 bt929.2.1) else (laws_FnValTwice.j0 k bt910.2.2.1 bt923.2.2 bt929.2.2 true bt910.1 bt910.2.1 bt910.2.2.2.1 bt910.2.2.2.2 bt923.1 bt923.2.1 bt929.1 bt929.2.1)))))))
theorem laws_FnValTwice.mono_l : ∀ k, (∀ y0 y1 y2 y3 y4 y5 y6 y7 y8 y9 y10 y11, LeO (laws_FnValTwice.j0 k y0 y1 y2 y3 y4 y5 y6 y7 y8 y9 y10 y11) (laws_FnValTwice.j0 (k + 1) y0 y1 y2 y3 y4 y5 y6 y7 y8 y9 y10 y11))
 | 0 => fun _ _ _ _ _ _ _ _ _ _ _ _ r h => by simp [laws_FnValTwice.j0] at h
 | k + 1 => by
  have ih0 := laws_FnValTwice.mono_l k
  ·intro y0 y1 y2 y3 y4 y5 y6 y7 y8 y9 y10 y11
   unfold laws_FnValTwice.j0
   repeat' first
   | (with_reducible exact ih0 _ _ _ _ _ _ _ _ _ _ _ _)
   | (with_reducible exact impl_ValAt.mono _ _ _ _)
   | (with_reducible exact impl_ValPut.mono _ _ _ _ _ _)
   | (with_reducible exact laws_lhVal.mono _ _ _ _ _)
   | (with_reducible exact spec_DrawValPut.mono _ _)
   | (with_reducible exact spec_ValPut.mono _ _ _ _ _ _)
   | (with_reducible exact LeO.refl _)
   | (with_reducible exact LeO.none _)
   | (with_reducible refine LeO.ite ?_ ?_)
   | (with_reducible refine LeO.bind ?_ (fun _ => ?_))
   | exact ih0 _ _ _ _ _ _ _ _ _ _ _ _
   | exact impl_ValAt.mono _ _ _ _
   | exact impl_ValPut.mono _ _ _ _ _ _
   | exact laws_lhVal.mono _ _ _ _ _
   | exact spec_DrawValPut.mono _ _
   | exact spec_ValPut.mono _ _ _ _ _ _
   | exact LeO.none _
   | refine LeO.ite ?_ ?_
   | refine LeO.bind ?_ (fun _ => ?_)
theorem laws_FnValTwice.mono : ∀ a0 k, LeO (laws_FnValTwice.f k a0) (laws_FnValTwice.f (k + 1) a0) := by
 intro a0 k
 have ih0 := laws_FnValTwice.mono_l k
 unfold laws_FnValTwice.f
 repeat' first
   | (with_reducible exact ih0 _ _ _ _ _ _ _ _ _ _ _ _)
   | (with_reducible exact impl_ValAt.mono _ _ _ _)
   | (with_reducible exact impl_ValPut.mono _ _ _ _ _ _)
   | (with_reducible exact laws_lhVal.mono _ _ _ _ _)
   | (with_reducible exact spec_DrawValPut.mono _ _)
   | (with_reducible exact spec_ValPut.mono _ _ _ _ _ _)
   | (with_reducible exact LeO.refl _)
   | (with_reducible exact LeO.none _)
   | (with_reducible refine LeO.ite ?_ ?_)
   | (with_reducible refine LeO.bind ?_ (fun _ => ?_))
   | exact ih0 _ _ _ _ _ _ _ _ _ _ _ _
   | exact impl_ValAt.mono _ _ _ _
   | exact impl_ValPut.mono _ _ _ _ _ _
   | exact laws_lhVal.mono _ _ _ _ _
   | exact spec_DrawValPut.mono _ _
   | exact spec_ValPut.mono _ _ _ _ _ _
   | exact LeO.none _
   | refine LeO.ite ?_ ?_
   | refine LeO.bind ?_ (fun _ => ?_)
set_option maxHeartbeats 8000000 in
set_option maxRecDepth 100000 in
theorem laws_FnValTwice.calls (k : Nat) (A0 : Option Addr) (c0 : Nat) (l0 : List Int) (r : Bool) (w : World) (hr0 : Kd.C (Kd.int .u8) w A0 l0.length l0) (hc0 : l0.length ≤ c0) (h : laws_FnValTwice.f k l0 = some r) (hr_ : Aside0 (r = true)) :
  Calls Try.prog 9 #[.slice A0 l0.length c0] w fun e w' => e = .returned (.bool r) ∧ Below w.heap.size w w' := by
 have hu25 := Try.underlying25
 have HR0 := Aside0.mk hr0
 have HC0 := Aside0.mk hc0
 clear hr0 hc0
 have HB := Aside0.mk (Below.refl w.heap.size w)
 have H : (if (l0.length : Int) > 1048576 then (some true) else ((spec_DrawValPut.f k l0).bind fun bt910 => ((spec_ValPut.f k bt910.1 bt910.2.1 bt910.2.2.1 bt910.2.2.2.1 bt910.2.2.2.2).bind fun bt923 => ((impl_ValPut.f k bt910.1 bt910.2.1 bt910.2.2.1 bt910.2.2.2.1 bt910.2.2.2.2).bind fun bt929 => (if (bt929.2.2 != bt923.2.2) = true then (laws_FnValTwice.j0 k bt910.2.2.1 bt923.2.2 bt929.2.2 true bt910.1 bt910.2.1 bt910.2.2.2.1 bt910.2.2.2.2 bt923.1 bt923.2.1 bt929.1 bt929.2.1) else ((laws_lhVal.f k bt929.1 bt929.2.1 bt923.1 bt923.2.1).bind fun t935 => (if t935 = true then (laws_FnValTwice.j0 k bt910.2.2.1 bt923.2.2 bt929.2.2 (!bt929.2.2) bt910.1 bt910.2.1 bt910.2.2.2.1 bt910.2.2.2.2 bt923.1 bt923.2.1 bt929.1 bt929.2.1) else (laws_FnValTwice.j0 k bt910.2.2.1 bt923.2.2 bt929.2.2 true bt910.1 bt910.2.1 bt910.2.2.2.1 bt910.2.2.2.2 bt923.1 bt923.2.1 bt929.1 bt929.2.1)))))))) = some r := h
 clear h
 by_cases c2 : (l0.length : Int) > 1048576
 ·rw [if_pos c2] at H
  have c2b0 : decide (1048576 < (l0.length : Int)) = true := decide_eq_true c2
  have c2b1 : decide (1048576 < l0.length) = true := decide_eq_true (by omega)
  clear c2
  clear hr_
  obtain rfl := Option.some.inj H
  go_enter Try.func9, Try.ntmps9
  go_wp2
  go_ret
  exact ⟨y15, (y6 HB.out)⟩
 ·rw [if_neg c2] at H
  have c2b0 : decide (1048576 < (l0.length : Int)) = false := decide_eq_false c2
  have c2b1 : decide (1048576 < l0.length) = false := decide_eq_false (by omega)
  clear c2
  obtain ⟨⟨t910, t911, t914, t917, t918⟩, A30, H⟩ := ob H
  have A3 := Aside0.mk A30
  clear A30
  obtain ⟨⟨t923, t924, t927⟩, A40, H⟩ := ob H
  have A4 := Aside0.mk A40
  clear A40
  obtain ⟨⟨t929, t930, t933⟩, A50, H⟩ := ob H
  have A5 := Aside0.mk A50
  clear A50
  have HC6 := Aside0.mk H
  clear H
  go_enter Try.func9, Try.ntmps9
  go_upto_region 6 with (first | ((with_reducible refine gate_callee (f := 25) rfl ?_); refine goesL_ (some 21) rfl rfl Try.func25 (by kernel_rfl) rfl #[.slice A0 l0.length c0] rfl y9 ?_; (with_reducible refine (spec_DrawValPut.calls k _ _ l0 t910 t911 t914 t917 t918 _ ?side1 ?side2 A3.out).mono ?_); (case side1 => exact y60 HR0.out); (case side2 => exact HC0.out); rintro e w7 ⟨v912, v915, v919, rfl, ho0, ho1, ho2, hb⟩; refine ⟨_, rfl, ?_⟩; have HO913 := Aside0.mk (Kd.N_lower (Kd.N_mono (ok' := fun k_ => some k_ ≠ (v915 : Value).ownBlock ∧ some k_ ≠ (v919 : Value).ownBlock) ho0 (fun k_ hk_ => ⟨hk_.2.1, hk_.2.2⟩)) (below_size (y6 HB.out))); have HO916 := Aside0.mk (Kd.R_lower (Kd.R_mono (ok' := fun k_ => True) ho1 (fun _ _ => trivial)) (below_size (y6 HB.out))); have HO920 := Aside0.mk (Kd.N_lower (Kd.N_mono (ok' := fun k_ => some k_ ≠ (v912 : Value).ownBlock ∧ some k_ ≠ (v915 : Value).ownBlock) ho2 (fun k_ hk_ => ⟨hk_.2.1, hk_.2.2⟩)) (below_size (y6 HB.out))); replace HB := Aside0.mk (below_step (y6 HB.out) hb); (try clear hb); (try clear hb2); (try clear hk); (try clear hi); (try clear ho0); (try clear ho1); (try clear ho2)) | ((with_reducible refine gate_dst (N := 3) rfl ?_); refine zbx 3 #[.int .i64 0, .slice none 0 0] 25 ?_; intro gb921 hg w8 hbox hb; replace HO913 := Aside0.mk (Kd.N_below (Kd.N_elderB (y2 HO913.out) gb921 (Nat.le_of_eq hg.symm)) hb); replace HO916 := Aside0.mk (Kd.R_below (y8 HO916.out) hb); replace HO920 := Aside0.mk (Kd.N_below (Kd.N_elderB (y2 HO920.out) gb921 (Nat.le_of_eq hg.symm)) hb); have BK921 := Aside0.mk hbox; have GW921 := Aside0.mk ((y10 hg HB.out : w.heap.size ≤ gb921)); have GE921 := Aside0.mk ((y10 hg HB.out : w.heap.size ≤ gb921)); replace HB := Aside0.mk (below_step (y6 HB.out) hb); clear hb hbox hg) | ((with_reducible refine gate_dst (N := 5) rfl ?_); refine zbx 5 #[.int .i64 0, .slice none 0 0] 25 ?_; intro gb922 hg w9 hbox hb; replace HO913 := Aside0.mk (Kd.N_below (Kd.N_elderB (y2 HO913.out) gb922 (Nat.le_of_eq hg.symm)) hb); replace HO916 := Aside0.mk (Kd.R_below (y8 HO916.out) hb); replace HO920 := Aside0.mk (Kd.N_below (Kd.N_elderB (y2 HO920.out) gb922 (Nat.le_of_eq hg.symm)) hb); have BK922 := Aside0.mk hbox; have GW922 := Aside0.mk ((y12 hg HB.out GE921.out : w.heap.size ≤ gb922)); have GE922 := Aside0.mk ((y12 hg HB.out GE921.out : w.heap.size ≤ gb922)); replace HB := Aside0.mk (below_step (y7 HB.out GE921.out) hb); have NB921_922 := zltn hg BK921; have NB922_921 := zgtn hg BK921; replace BK921 := zbb BK921 hb; clear hb hbox hg; have hnb10 := NB921_922.out; have hnc10 := NB922_921.out; have hcz11_0 := zh BK921; have hcz11_1 := zh1 BK921; have hfz11_0 := zfr BK921 0; have hfz11_1 := zfr BK921 1; obtain ⟨Ao12, co12, eo12⟩ := Kd.N_slice HO913.out; subst eo12; have hcz13_0 := zh BK922; have hcz13_1 := zh1 BK922; have hfz13_0 := zfr BK922 0; have hfz13_1 := zfr BK922 1; obtain ⟨Ao14, co14, eo14⟩ := Kd.N_slice HO920.out; subst eo14; obtain ⟨Ao15, co15, eo15⟩ := Kd.R_slice HO916.out; subst eo15) | ((with_reducible refine gate_callee (f := 26) rfl ?_); refine goesL_ (some 29) rfl rfl Try.func26 (by kernel_rfl) rfl #[.agg #[.int .i64 t910, .slice Ao12 t911.length co12], .slice Ao15 t914.length co15, .agg #[.int .i64 t917, .slice Ao14 t918.length co14]] rfl y9 ?_; (with_reducible refine (spec_ValPut.calls k t910 _ _ t911 _ _ t914 t917 _ _ t918 t923 t924 t927 _ ?side1 ?side2 ?side3 ?side4 ?side5 ?side6 A4.out).mono ?_); (case side1 => refine (Kd.N_reads' (e := 25) (base := w.heap.size) (ok := fun k_ => (((some k_ ≠ (.slice Ao15 t914.length co15 : Value).ownBlock ∧ some k_ ≠ (.slice Ao14 t918.length co14 : Value).ownBlock) ∧ k_ ≠ gb921) ∧ k_ ≠ gb922)) (n := t911.length) (c := co12) ?_).2.2; exact (by (with_reducible repeat (first | apply Kd.N_alloc | apply Kd.N_drewN | apply Kd.N_drew)); exact (Kd.N_mono (Kd.N_mono (Kd.N_far (p := ⟨gb922, 1, none⟩) (Kd.N_far (p := ⟨gb922, 0, none⟩) (Kd.N_far (p := ⟨gb921, 1, none⟩) (Kd.N_far (p := ⟨gb921, 0, none⟩) (Kd.N_mono (Kd.N_mono HO913.out (fun k_ hk => (⟨hk, hk.1.2⟩ : _ ∧ k_ ≠ gb921))) (fun k_ hk => (⟨hk, hk.1.2⟩ : _ ∧ k_ ≠ gb922))) (fun _ hk => hk.1.2) (.int .i64 t910)) (fun _ hk => hk.1.2) (.slice Ao12 t911.length co12)) (fun _ hk => hk.2) (.int .i64 t917)) (fun _ hk => hk.2) (.slice Ao14 t918.length co14)) (fun _ h_ => h_.1)) (fun _ h_ => h_.1)))); (case side2 => exact (Kd.N_reads' HO913.out).2.1); (case side3 => refine (Kd.R_reads' (e := 3) (base := w.heap.size) (ok := fun k_ => True) (n := t914.length) (c := co15) ?_).2.2; exact (by (with_reducible repeat (first | apply Kd.R_alloc | apply Kd.R_drewN | apply Kd.R_drew)); exact (Kd.R_mono (Kd.R_mono (Kd.R_far (p := ⟨gb922, 1, none⟩) (Kd.R_far (p := ⟨gb922, 0, none⟩) (Kd.R_far (p := ⟨gb921, 1, none⟩) (Kd.R_far (p := ⟨gb921, 0, none⟩) (Kd.R_types (Kd.R_types HO916.out BK921.out (by decide)) BK922.out (by decide)) (fun _ hk => hk.1.2) (.int .i64 t910)) (fun _ hk => hk.1.2) (.slice Ao12 t911.length co12)) (fun _ hk => hk.2) (.int .i64 t917)) (fun _ hk => hk.2) (.slice Ao14 t918.length co14)) (fun _ h_ => h_.1)) (fun _ h_ => h_.1)))); (case side4 => exact (Kd.R_reads' HO916.out).2.1); (case side5 => refine (Kd.N_reads' (e := 25) (base := w.heap.size) (ok := fun k_ => (((some k_ ≠ (.slice Ao12 t911.length co12 : Value).ownBlock ∧ some k_ ≠ (.slice Ao15 t914.length co15 : Value).ownBlock) ∧ k_ ≠ gb921) ∧ k_ ≠ gb922)) (n := t918.length) (c := co14) ?_).2.2; exact (by (with_reducible repeat (first | apply Kd.N_alloc | apply Kd.N_drewN | apply Kd.N_drew)); exact (Kd.N_mono (Kd.N_mono (Kd.N_far (p := ⟨gb922, 1, none⟩) (Kd.N_far (p := ⟨gb922, 0, none⟩) (Kd.N_far (p := ⟨gb921, 1, none⟩) (Kd.N_far (p := ⟨gb921, 0, none⟩) (Kd.N_mono (Kd.N_mono HO920.out (fun k_ hk => (⟨hk, hk.1.2⟩ : _ ∧ k_ ≠ gb921))) (fun k_ hk => (⟨hk, hk.1.2⟩ : _ ∧ k_ ≠ gb922))) (fun _ hk => hk.1.2) (.int .i64 t910)) (fun _ hk => hk.1.2) (.slice Ao12 t911.length co12)) (fun _ hk => hk.2) (.int .i64 t917)) (fun _ hk => hk.2) (.slice Ao14 t918.length co14)) (fun _ h_ => h_.1)) (fun _ h_ => h_.1)))); (case side6 => exact (Kd.N_reads' HO920.out).2.1); rintro e w16 ⟨v925, rfl, ho0, hb⟩; refine ⟨_, rfl, ?_⟩; have HO926 := Aside0.mk (Kd.N_lower (Kd.N_mono (ok' := fun k_ => some k_ ≠ (.slice Ao12 t911.length co12 : Value).ownBlock ∧ some k_ ≠ (.slice Ao15 t914.length co15 : Value).ownBlock ∧ some k_ ≠ (.slice Ao14 t918.length co14 : Value).ownBlock ∧ k_ ≠ gb921 ∧ k_ ≠ gb922) ho0 (fun k_ hk_ => ⟨(Kd.fresh' (Kd.N_lt (by (with_reducible repeat (first | apply Kd.N_alloc | apply Kd.N_drewN | apply Kd.N_drew)); exact (Kd.N_mono (Kd.N_mono (Kd.N_far (p := ⟨gb922, 1, none⟩) (Kd.N_far (p := ⟨gb922, 0, none⟩) (Kd.N_far (p := ⟨gb921, 1, none⟩) (Kd.N_far (p := ⟨gb921, 0, none⟩) (Kd.N_mono (Kd.N_mono HO913.out (fun k_ hk => (⟨hk, hk.1.2⟩ : _ ∧ k_ ≠ gb921))) (fun k_ hk => (⟨hk, hk.1.2⟩ : _ ∧ k_ ≠ gb922))) (fun _ hk => hk.1.2) (.int .i64 t910)) (fun _ hk => hk.1.2) (.slice Ao12 t911.length co12)) (fun _ hk => hk.2) (.int .i64 t917)) (fun _ hk => hk.2) (.slice Ao14 t918.length co14)) (fun _ h_ => h_.1)) (fun _ h_ => h_.1)))) k_ hk_), (Kd.fresh' (Kd.R_lt (by (with_reducible repeat (first | apply Kd.R_alloc | apply Kd.R_drewN | apply Kd.R_drew)); exact (Kd.R_mono (Kd.R_mono (Kd.R_far (p := ⟨gb922, 1, none⟩) (Kd.R_far (p := ⟨gb922, 0, none⟩) (Kd.R_far (p := ⟨gb921, 1, none⟩) (Kd.R_far (p := ⟨gb921, 0, none⟩) (Kd.R_types (Kd.R_types HO916.out BK921.out (by decide)) BK922.out (by decide)) (fun _ hk => hk.1.2) (.int .i64 t910)) (fun _ hk => hk.1.2) (.slice Ao12 t911.length co12)) (fun _ hk => hk.2) (.int .i64 t917)) (fun _ hk => hk.2) (.slice Ao14 t918.length co14)) (fun _ h_ => h_.1)) (fun _ h_ => h_.1)))) k_ hk_), (Kd.fresh' (Kd.N_lt (by (with_reducible repeat (first | apply Kd.N_alloc | apply Kd.N_drewN | apply Kd.N_drew)); exact (Kd.N_mono (Kd.N_mono (Kd.N_far (p := ⟨gb922, 1, none⟩) (Kd.N_far (p := ⟨gb922, 0, none⟩) (Kd.N_far (p := ⟨gb921, 1, none⟩) (Kd.N_far (p := ⟨gb921, 0, none⟩) (Kd.N_mono (Kd.N_mono HO920.out (fun k_ hk => (⟨hk, hk.1.2⟩ : _ ∧ k_ ≠ gb921))) (fun k_ hk => (⟨hk, hk.1.2⟩ : _ ∧ k_ ≠ gb922))) (fun _ hk => hk.1.2) (.int .i64 t910)) (fun _ hk => hk.1.2) (.slice Ao12 t911.length co12)) (fun _ hk => hk.2) (.int .i64 t917)) (fun _ hk => hk.2) (.slice Ao14 t918.length co14)) (fun _ h_ => h_.1)) (fun _ h_ => h_.1)))) k_ hk_), (Kd.freshB (g := gb921) (o := .cells #[.int .i64 t910, .slice Ao12 t911.length co12] 25 (0, 0)) (by (with_reducible repeat (first | refine blk_drewN ?_ _ | refine blk_drew ?_ | refine blk_alloc ?_ _)); refine blk_far ?_ NB921_922.out _; (with_reducible repeat (first | refine blk_drewN ?_ _ | refine blk_drew ?_ | refine blk_alloc ?_ _)); refine blk_far ?_ NB921_922.out _; (with_reducible repeat (first | refine blk_drewN ?_ _ | refine blk_drew ?_ | refine blk_alloc ?_ _)); refine blk_put (cs := #[.int .i64 t910, .slice none 0 0]) ?_ 1 _ rfl; (with_reducible repeat (first | refine blk_drewN ?_ _ | refine blk_drew ?_ | refine blk_alloc ?_ _)); apply blk_put (i := 0); (case h => exact y0 BK921.out); (case e => rfl)) k_ hk_), (Kd.freshB (g := gb922) (o := .cells #[.int .i64 t917, .slice Ao14 t918.length co14] 25 (0, 0)) (by (with_reducible repeat (first | refine blk_drewN ?_ _ | refine blk_drew ?_ | refine blk_alloc ?_ _)); refine blk_put (cs := #[.int .i64 t917, .slice none 0 0]) ?_ 1 _ rfl; (with_reducible repeat (first | refine blk_drewN ?_ _ | refine blk_drew ?_ | refine blk_alloc ?_ _)); refine blk_put (cs := #[.int .i64 0, .slice none 0 0]) ?_ 0 _ rfl; (with_reducible repeat (first | refine blk_drewN ?_ _ | refine blk_drew ?_ | refine blk_alloc ?_ _)); refine blk_far ?_ NB922_921.out _; (with_reducible repeat (first | refine blk_drewN ?_ _ | refine blk_drew ?_ | refine blk_alloc ?_ _)); refine blk_far ?_ NB922_921.out _; (with_reducible repeat (first | refine blk_drewN ?_ _ | refine blk_drew ?_ | refine blk_alloc ?_ _)); exact BK922.out) k_ hk_)⟩)) (below_size (y3 HB.out GE921.out GE922.out))); replace HO913 := Aside0.mk (Kd.N_elder' (by (with_reducible repeat (first | apply Kd.N_alloc | apply Kd.N_drewN | apply Kd.N_drew)); exact (Kd.N_mono (Kd.N_mono (Kd.N_far (p := ⟨gb922, 1, none⟩) (Kd.N_far (p := ⟨gb922, 0, none⟩) (Kd.N_far (p := ⟨gb921, 1, none⟩) (Kd.N_far (p := ⟨gb921, 0, none⟩) (Kd.N_mono (Kd.N_mono HO913.out (fun k_ hk => (⟨hk, hk.1.2⟩ : _ ∧ k_ ≠ gb921))) (fun k_ hk => (⟨hk, hk.1.2⟩ : _ ∧ k_ ≠ gb922))) (fun _ hk => hk.1.2) (.int .i64 t910)) (fun _ hk => hk.1.2) (.slice Ao12 t911.length co12)) (fun _ hk => hk.2) (.int .i64 t917)) (fun _ hk => hk.2) (.slice Ao14 t918.length co14)) (fun _ h_ => h_.1)) (fun _ h_ => h_.1))) (Kd.N_base ho0) hb); replace HO916 := Aside0.mk (Kd.R_below (by (with_reducible repeat (first | apply Kd.R_alloc | apply Kd.R_drewN | apply Kd.R_drew)); exact (Kd.R_mono (Kd.R_mono (Kd.R_far (p := ⟨gb922, 1, none⟩) (Kd.R_far (p := ⟨gb922, 0, none⟩) (Kd.R_far (p := ⟨gb921, 1, none⟩) (Kd.R_far (p := ⟨gb921, 0, none⟩) (Kd.R_types (Kd.R_types HO916.out BK921.out (by decide)) BK922.out (by decide)) (fun _ hk => hk.1.2) (.int .i64 t910)) (fun _ hk => hk.1.2) (.slice Ao12 t911.length co12)) (fun _ hk => hk.2) (.int .i64 t917)) (fun _ hk => hk.2) (.slice Ao14 t918.length co14)) (fun _ h_ => h_.1)) (fun _ h_ => h_.1))) hb); replace HO920 := Aside0.mk (Kd.N_elder' (by (with_reducible repeat (first | apply Kd.N_alloc | apply Kd.N_drewN | apply Kd.N_drew)); exact (Kd.N_mono (Kd.N_mono (Kd.N_far (p := ⟨gb922, 1, none⟩) (Kd.N_far (p := ⟨gb922, 0, none⟩) (Kd.N_far (p := ⟨gb921, 1, none⟩) (Kd.N_far (p := ⟨gb921, 0, none⟩) (Kd.N_mono (Kd.N_mono HO920.out (fun k_ hk => (⟨hk, hk.1.2⟩ : _ ∧ k_ ≠ gb921))) (fun k_ hk => (⟨hk, hk.1.2⟩ : _ ∧ k_ ≠ gb922))) (fun _ hk => hk.1.2) (.int .i64 t910)) (fun _ hk => hk.1.2) (.slice Ao12 t911.length co12)) (fun _ hk => hk.2) (.int .i64 t917)) (fun _ hk => hk.2) (.slice Ao14 t918.length co14)) (fun _ h_ => h_.1)) (fun _ h_ => h_.1))) (Kd.N_base ho0) hb); replace BK921 := Aside0.mk (blk_below (g := gb921) (o := .cells #[.int .i64 t910, .slice Ao12 t911.length co12] 25 (0, 0)) (by (with_reducible repeat (first | refine blk_drewN ?_ _ | refine blk_drew ?_ | refine blk_alloc ?_ _)); refine blk_far ?_ NB921_922.out _; (with_reducible repeat (first | refine blk_drewN ?_ _ | refine blk_drew ?_ | refine blk_alloc ?_ _)); refine blk_far ?_ NB921_922.out _; (with_reducible repeat (first | refine blk_drewN ?_ _ | refine blk_drew ?_ | refine blk_alloc ?_ _)); refine blk_put (cs := #[.int .i64 t910, .slice none 0 0]) ?_ 1 _ rfl; (with_reducible repeat (first | refine blk_drewN ?_ _ | refine blk_drew ?_ | refine blk_alloc ?_ _)); apply blk_put (i := 0); (case h => exact y0 BK921.out); (case e => rfl)) hb); replace BK922 := Aside0.mk (blk_below (g := gb922) (o := .cells #[.int .i64 t917, .slice Ao14 t918.length co14] 25 (0, 0)) (by (with_reducible repeat (first | refine blk_drewN ?_ _ | refine blk_drew ?_ | refine blk_alloc ?_ _)); refine blk_put (cs := #[.int .i64 t917, .slice none 0 0]) ?_ 1 _ rfl; (with_reducible repeat (first | refine blk_drewN ?_ _ | refine blk_drew ?_ | refine blk_alloc ?_ _)); refine blk_put (cs := #[.int .i64 0, .slice none 0 0]) ?_ 0 _ rfl; (with_reducible repeat (first | refine blk_drewN ?_ _ | refine blk_drew ?_ | refine blk_alloc ?_ _)); refine blk_far ?_ NB922_921.out _; (with_reducible repeat (first | refine blk_drewN ?_ _ | refine blk_drew ?_ | refine blk_alloc ?_ _)); refine blk_far ?_ NB922_921.out _; (with_reducible repeat (first | refine blk_drewN ?_ _ | refine blk_drew ?_ | refine blk_alloc ?_ _)); exact BK922.out) hb); replace HB := Aside0.mk (below_step (y3 HB.out GE921.out GE922.out) hb); (try clear hb); (try clear hb2); (try clear hk); (try clear hi); (try clear ho0)) | ((with_reducible refine gate_dst (N := 6) rfl ?_); refine zbx 6 #[.int .i64 0, .slice none 0 0] 25 ?_; intro gb928 hg w17 hbox hb; replace HO913 := Aside0.mk (Kd.N_below (Kd.N_elderB (y2 HO913.out) gb928 (Nat.le_of_eq hg.symm)) hb); replace HO916 := Aside0.mk (Kd.R_below (y8 HO916.out) hb); replace HO920 := Aside0.mk (Kd.N_below (Kd.N_elderB (y2 HO920.out) gb928 (Nat.le_of_eq hg.symm)) hb); replace HO926 := Aside0.mk (Kd.N_below (Kd.N_elderB (y2 HO926.out) gb928 (Nat.le_of_eq hg.symm)) hb); have BK928 := Aside0.mk hbox; have GW928 := Aside0.mk ((y16 hg HB.out GE921.out GE922.out : w.heap.size ≤ gb928)); have GE928 := Aside0.mk ((y16 hg HB.out GE921.out GE922.out : w.heap.size ≤ gb928)); replace HB := Aside0.mk (below_step (y3 HB.out GE921.out GE922.out) hb); have NB921_928 := zltn hg BK921; have NB928_921 := zgtn hg BK921; replace BK921 := zbb BK921 hb; have NB922_928 := zltn hg BK922; have NB928_922 := zgtn hg BK922; replace BK922 := zbb BK922 hb; clear hb hbox hg; have hnb18 := NB928_921.out; have hnc18 := NB921_928.out; have hnb19 := NB928_922.out; have hnc19 := NB922_928.out; have hcz20_0 := zh BK928; have hcz20_1 := zh1 BK928; have hfz20_0 := zfr BK928 0; have hfz20_1 := zfr BK928 1; obtain ⟨Ao21, co21, eo21⟩ := Kd.N_slice HO926.out; subst eo21) | ((with_reducible refine gate_store (t := 25) (p := 6) rfl ?_); refine store_event (t := 25) (p := 6) (v := ?vo_w22) (w1 := ((w17.setCell ⟨gb928, 0, none⟩ (.int .i64 t923)).setCell ⟨gb928, 1, none⟩ (.slice Ao21 t924.length co21))) ?hg ?ho ?hn ?hr ?_; (case ho => rfl); (case hg => rfl); (case hn => rfl); (case hr => first | (go_simp; done) | (go_simp; rfl)); intro w22 hw; have n0_ : Aside0 (Kd.N k25 25 w22 w.heap.size (fun k_ => some k_ ≠ (.slice Ao15 t914.length co15 : Value).ownBlock ∧ some k_ ≠ (.slice Ao14 t918.length co14 : Value).ownBlock ∧ some k_ ≠ (.slice Ao21 t924.length co21 : Value).ownBlock ∧ k_ ≠ gb921 ∧ k_ ≠ gb922 ∧ k_ ≠ gb928) (.slice Ao12 t911.length co12) t911) := ⟨(by rw [hw]; exact (by (with_reducible repeat (first | apply Kd.N_alloc | apply Kd.N_drewN | apply Kd.N_drew)); exact Kd.N_mono (Kd.N_far (p := ⟨gb928, 1, none⟩) (Kd.N_far (p := ⟨gb928, 0, none⟩) (Kd.N_mono HO913.out (fun k_ hk => (⟨hk, hk.2⟩ : _ ∧ k_ ≠ gb928))) (fun _ hk => hk.2) (.int .i64 t923)) (fun _ hk => hk.2) (.slice Ao21 t924.length co21)) (fun _ hk => ⟨hk.1.1.1.1.1.1, ⟨hk.1.1.1.1.1.2, ⟨hk.1.1.2, ⟨hk.1.1.1.1.2, ⟨hk.1.1.1.2, hk.1.2⟩⟩⟩⟩⟩)))⟩; have n1_ : Aside0 (Kd.R (Kd.int .i64) 3 w22 w.heap.size (fun _ => True) (.slice Ao15 t914.length co15) t914) := ⟨(by rw [hw]; exact (by (with_reducible repeat (first | apply Kd.R_alloc | apply Kd.R_drewN | apply Kd.R_drew)); exact Kd.R_mono (Kd.R_far (p := ⟨gb928, 1, none⟩) (Kd.R_far (p := ⟨gb928, 0, none⟩) (Kd.R_types HO916.out BK928.out (by decide)) (fun _ hk => hk.2) (.int .i64 t923)) (fun _ hk => hk.2) (.slice Ao21 t924.length co21)) (fun _ hk => trivial)))⟩; have n2_ : Aside0 (Kd.N k25 25 w22 w.heap.size (fun k_ => some k_ ≠ (.slice Ao12 t911.length co12 : Value).ownBlock ∧ some k_ ≠ (.slice Ao15 t914.length co15 : Value).ownBlock ∧ some k_ ≠ (.slice Ao21 t924.length co21 : Value).ownBlock ∧ k_ ≠ gb921 ∧ k_ ≠ gb922 ∧ k_ ≠ gb928) (.slice Ao14 t918.length co14) t918) := ⟨(by rw [hw]; exact (by (with_reducible repeat (first | apply Kd.N_alloc | apply Kd.N_drewN | apply Kd.N_drew)); exact Kd.N_mono (Kd.N_far (p := ⟨gb928, 1, none⟩) (Kd.N_far (p := ⟨gb928, 0, none⟩) (Kd.N_mono HO920.out (fun k_ hk => (⟨hk, hk.2⟩ : _ ∧ k_ ≠ gb928))) (fun _ hk => hk.2) (.int .i64 t923)) (fun _ hk => hk.2) (.slice Ao21 t924.length co21)) (fun _ hk => ⟨hk.1.1.1.1.1.1, ⟨hk.1.1.1.1.1.2, ⟨hk.1.1.2, ⟨hk.1.1.1.1.2, ⟨hk.1.1.1.2, hk.1.2⟩⟩⟩⟩⟩)))⟩; have n3_ : Aside0 (Kd.N k25 25 w22 w.heap.size (fun k_ => some k_ ≠ (.slice Ao12 t911.length co12 : Value).ownBlock ∧ some k_ ≠ (.slice Ao15 t914.length co15 : Value).ownBlock ∧ some k_ ≠ (.slice Ao14 t918.length co14 : Value).ownBlock ∧ k_ ≠ gb921 ∧ k_ ≠ gb922 ∧ k_ ≠ gb928) (.slice Ao21 t924.length co21) t924) := ⟨(by rw [hw]; exact (by (with_reducible repeat (first | apply Kd.N_alloc | apply Kd.N_drewN | apply Kd.N_drew)); exact Kd.N_mono (Kd.N_far (p := ⟨gb928, 1, none⟩) (Kd.N_far (p := ⟨gb928, 0, none⟩) (Kd.N_mono HO926.out (fun k_ hk => (⟨hk, hk.2⟩ : _ ∧ k_ ≠ gb928))) (fun _ hk => hk.2) (.int .i64 t923)) (fun _ hk => hk.2) (.slice Ao21 t924.length co21)) (fun _ hk => ⟨hk.1.1.1, ⟨hk.1.1.2.1, ⟨hk.1.1.2.2.1, ⟨hk.1.1.2.2.2.1, ⟨hk.1.1.2.2.2.2, hk.1.2⟩⟩⟩⟩⟩)))⟩; have n4_ : Aside0 (w22.heap[gb921]? = some (.cells #[.int .i64 t910, .slice Ao12 t911.length co12] 25 (0, 0))) := ⟨(by rw [hw]; exact (y1 NB921_928.out BK921.out))⟩; have n5_ : Aside0 (w22.heap[gb922]? = some (.cells #[.int .i64 t917, .slice Ao14 t918.length co14] 25 (0, 0))) := ⟨(by rw [hw]; exact (y1 NB922_928.out BK922.out))⟩; have n6_ : Aside0 (w22.heap[gb928]? = some (.cells #[.int .i64 t923, .slice Ao21 t924.length co21] 25 (0, 0))) := ⟨(by rw [hw]; exact (by (with_reducible repeat (first | refine blk_drewN ?_ _ | refine blk_drew ?_ | refine blk_alloc ?_ _)); refine blk_put (cs := #[.int .i64 t923, .slice none 0 0]) ?_ 1 _ rfl; (with_reducible repeat (first | refine blk_drewN ?_ _ | refine blk_drew ?_ | refine blk_alloc ?_ _)); apply blk_put (i := 0); (case h => exact y0 BK928.out); (case e => rfl)))⟩; have n7_ : Aside0 (Below w.heap.size w w22) := ⟨(by rw [hw]; exact (y4 HB.out GE921.out GE922.out GE928.out))⟩; clear hw; clear HO913; clear HO916; clear HO920; clear HO926; clear BK921; clear BK922; clear BK928; clear HB; have HO913 := n0_; have HO916 := n1_; have HO920 := n2_; have HO926 := n3_; have BK921 := n4_; have BK922 := n5_; have BK928 := n6_; have HB := n7_; clear n0_ n1_ n2_ n3_ n4_ n5_ n6_ n7_; have hcz23_0 := zh BK921; have hcz23_1 := zh1 BK921; have hfz23_0 := zfr BK921 0; have hfz23_1 := zfr BK921 1; have hcz24_0 := zh BK922; have hcz24_1 := zh1 BK922; have hfz24_0 := zfr BK922 0; have hfz24_1 := zfr BK922 1) | ((with_reducible refine gate_callee (f := 24) rfl ?_); refine goesL_ (some 36) rfl rfl Try.func24 (by kernel_rfl) rfl #[.agg #[.int .i64 t910, .slice Ao12 t911.length co12], .slice Ao15 t914.length co15, .agg #[.int .i64 t917, .slice Ao14 t918.length co14]] rfl y9 ?_; (with_reducible refine (impl_ValPut.calls k t910 (fun k_ => (some k_ ≠ (.slice Ao15 t914.length co15 : Value).ownBlock ∧ (some k_ ≠ (.slice Ao14 t918.length co14 : Value).ownBlock ∧ (some k_ ≠ (.slice Ao21 t924.length co21 : Value).ownBlock ∧ (k_ ≠ gb921 ∧ (k_ ≠ gb922 ∧ k_ ≠ gb928)))))) _ _ t911 _ _ t914 t917 (fun k_ => (some k_ ≠ (.slice Ao12 t911.length co12 : Value).ownBlock ∧ (some k_ ≠ (.slice Ao15 t914.length co15 : Value).ownBlock ∧ (some k_ ≠ (.slice Ao21 t924.length co21 : Value).ownBlock ∧ (k_ ≠ gb921 ∧ (k_ ≠ gb922 ∧ k_ ≠ gb928)))))) _ _ t918 t929 t930 t933 _ ?side1 ?side2 ?side3 ?side4 A5.out).mono ?_); (case side1 => exact Kd.N_V (HO913.out)); (case side2 => exact y34 HO916.out); (case side3 => exact (Kd.R_reads' HO916.out).2.1); (case side4 => exact Kd.N_V (HO920.out)); rintro e w25 ⟨v931, rfl, ho0, hb⟩; refine ⟨_, rfl, ?_⟩; replace HO913 := Aside0.mk (Kd.N_elder' (y2 HO913.out) (Kd.N_base ho0) hb); replace HO920 := Aside0.mk (Kd.N_elder' (y2 HO920.out) (Kd.N_base ho0) hb); have HO932 := Aside0.mk (Kd.N_lower (Kd.N_mono (ok' := fun k_ => some k_ ≠ (.slice Ao15 t914.length co15 : Value).ownBlock ∧ some k_ ≠ (.slice Ao21 t924.length co21 : Value).ownBlock ∧ k_ ≠ gb921 ∧ k_ ≠ gb922 ∧ k_ ≠ gb928) ho0 (fun k_ hk_ => ⟨Or.elim hk_ (fun hs_ => Or.elim hs_ (fun hs_ => hs_.1) (fun hs_ => hs_.2.1)) (fun hn_ => (Kd.fresh' (Kd.R_lt (y8 HO916.out)) k_ hn_)), Or.elim hk_ (fun hs_ => Or.elim hs_ (fun hs_ => hs_.2.2.1) (fun hs_ => hs_.2.2.1)) (fun hn_ => (Kd.fresh' (Kd.N_lt (y2 HO926.out)) k_ hn_)), Or.elim hk_ (fun hs_ => Or.elim hs_ (fun hs_ => hs_.2.2.2.1) (fun hs_ => hs_.2.2.2.1)) (fun hn_ => (Kd.freshB (g := gb921) (o := .cells #[.int .i64 t910, .slice Ao12 t911.length co12] 25 (0, 0)) (y0 BK921.out) k_ hn_)), Or.elim hk_ (fun hs_ => Or.elim hs_ (fun hs_ => hs_.2.2.2.2.1) (fun hs_ => hs_.2.2.2.2.1)) (fun hn_ => (Kd.freshB (g := gb922) (o := .cells #[.int .i64 t917, .slice Ao14 t918.length co14] 25 (0, 0)) (y0 BK922.out) k_ hn_)), Or.elim hk_ (fun hs_ => Or.elim hs_ (fun hs_ => hs_.2.2.2.2.2) (fun hs_ => hs_.2.2.2.2.2)) (fun hn_ => (Kd.freshB (g := gb928) (o := .cells #[.int .i64 t923, .slice Ao21 t924.length co21] 25 (0, 0)) (y0 BK928.out) k_ hn_))⟩)) (below_size (y4 HB.out GE921.out GE922.out GE928.out))); replace HO916 := Aside0.mk (Kd.R_below (y8 HO916.out) hb); replace HO926 := Aside0.mk (Kd.N_elder' (y2 HO926.out) (Kd.N_base ho0) hb); replace BK921 := zbb BK921 hb; replace BK922 := zbb BK922 hb; replace BK928 := zbb BK928 hb; replace HB := Aside0.mk (below_step (y4 HB.out GE921.out GE922.out GE928.out) hb); (try clear hb); (try clear hb2); (try clear hk); (try clear hi); (try clear ho0)) | ((with_reducible refine gate_dst (N := 8) rfl ?_); refine zbx 8 #[.int .i64 0, .slice none 0 0] 25 ?_; intro gb934 hg w26 hbox hb; replace HO913 := Aside0.mk (Kd.N_below (Kd.N_elderB (y2 HO913.out) gb934 (Nat.le_of_eq hg.symm)) hb); replace HO916 := Aside0.mk (Kd.R_below (y8 HO916.out) hb); replace HO920 := Aside0.mk (Kd.N_below (Kd.N_elderB (y2 HO920.out) gb934 (Nat.le_of_eq hg.symm)) hb); replace HO926 := Aside0.mk (Kd.N_below (Kd.N_elderB (y2 HO926.out) gb934 (Nat.le_of_eq hg.symm)) hb); replace HO932 := Aside0.mk (Kd.N_below (Kd.N_elderB (y2 HO932.out) gb934 (Nat.le_of_eq hg.symm)) hb); have BK934 := Aside0.mk hbox; have GW934 := Aside0.mk ((y20 hg HB.out GE921.out GE922.out GE928.out : w.heap.size ≤ gb934)); have GE934 := Aside0.mk ((y20 hg HB.out GE921.out GE922.out GE928.out : w.heap.size ≤ gb934)); replace HB := Aside0.mk (below_step (y4 HB.out GE921.out GE922.out GE928.out) hb); have NB921_934 := zltn hg BK921; have NB934_921 := zgtn hg BK921; replace BK921 := zbb BK921 hb; have NB922_934 := zltn hg BK922; have NB934_922 := zgtn hg BK922; replace BK922 := zbb BK922 hb; have NB928_934 := zltn hg BK928; have NB934_928 := zgtn hg BK928; replace BK928 := zbb BK928 hb; clear hb hbox hg; have hnb27 := NB934_921.out; have hnc27 := NB921_934.out; have hnb28 := NB934_922.out; have hnc28 := NB922_934.out; have hnb29 := NB934_928.out; have hnc29 := NB928_934.out; have hcz30_0 := zh BK934; have hcz30_1 := zh1 BK934; have hfz30_0 := zfr BK934 0; have hfz30_1 := zfr BK934 1; obtain ⟨Ao31, co31, eo31⟩ := Kd.N_slice HO932.out; subst eo31))
  (try simp only [Act.put, List.setIfInBounds_toArray, List.set_cons_zero, List.set_cons_succ])
  go_cut [51] (fun v51 wc => ∃ (kq : Nat) (x51_5 : Bool), v51 = .bool x51_5 ∧ Aside0 (laws_FnValTwice.j0 kq t914 t927 t933 x51_5 t910 t911 t917 t918 t923 t924 t929 t930 = some r) ∧ Aside0 (kq ≤ k) ∧ Aside0 (Kd.R (Kd.int .i64) 3 wc w.heap.size (fun _ => True) (.slice Ao15 t914.length co15) t914) ∧ Aside0 (Kd.N k25 25 wc w.heap.size (fun k_ => some k_ ≠ ((.slice Ao15 t914.length co15) : Value).ownBlock ∧ some k_ ≠ ((.slice Ao14 t918.length co14) : Value).ownBlock ∧ some k_ ≠ ((.slice Ao21 t924.length co21) : Value).ownBlock ∧ some k_ ≠ ((.slice Ao31 t930.length co31) : Value).ownBlock ∧ k_ ≠ gb921 ∧ k_ ≠ gb922 ∧ k_ ≠ gb928 ∧ k_ ≠ gb934) (.slice Ao12 t911.length co12) t911) ∧ Aside0 (Kd.N k25 25 wc w.heap.size (fun k_ => some k_ ≠ ((.slice Ao15 t914.length co15) : Value).ownBlock ∧ some k_ ≠ ((.slice Ao12 t911.length co12) : Value).ownBlock ∧ some k_ ≠ ((.slice Ao21 t924.length co21) : Value).ownBlock ∧ some k_ ≠ ((.slice Ao31 t930.length co31) : Value).ownBlock ∧ k_ ≠ gb921 ∧ k_ ≠ gb922 ∧ k_ ≠ gb928 ∧ k_ ≠ gb934) (.slice Ao14 t918.length co14) t918) ∧ Aside0 (Kd.N k25 25 wc w.heap.size (fun k_ => some k_ ≠ ((.slice Ao15 t914.length co15) : Value).ownBlock ∧ some k_ ≠ ((.slice Ao12 t911.length co12) : Value).ownBlock ∧ some k_ ≠ ((.slice Ao14 t918.length co14) : Value).ownBlock ∧ some k_ ≠ ((.slice Ao31 t930.length co31) : Value).ownBlock ∧ k_ ≠ gb921 ∧ k_ ≠ gb922 ∧ k_ ≠ gb928 ∧ k_ ≠ gb934) (.slice Ao21 t924.length co21) t924) ∧ Aside0 (Kd.N k25 25 wc w.heap.size (fun k_ => some k_ ≠ ((.slice Ao15 t914.length co15) : Value).ownBlock ∧ some k_ ≠ ((.slice Ao21 t924.length co21) : Value).ownBlock ∧ k_ ≠ gb921 ∧ k_ ≠ gb922 ∧ k_ ≠ gb928 ∧ k_ ≠ gb934) (.slice Ao31 t930.length co31) t930) ∧ Aside0 (wc.heap[gb921]? = some (.cells #[.int .i64 t910, (.slice Ao12 t911.length co12)] 25 (0, 0))) ∧ Aside0 (wc.heap[gb922]? = some (.cells #[.int .i64 t917, (.slice Ao14 t918.length co14)] 25 (0, 0))) ∧ Aside0 (wc.heap[gb928]? = some (.cells #[.int .i64 t923, (.slice Ao21 t924.length co21)] 25 (0, 0))) ∧ Aside0 (wc.heap[gb934]? = some (.cells #[.int .i64 t929, (.slice Ao31 t930.length co31)] 25 (0, 0))) ∧ Aside0 (Below w.heap.size w wc))
  case first =>
   have H := HC6.out
   clear HC6
   by_cases c32 : (t933 != t927) = true
   ·rw [if_pos c32] at H
    have c32b0 : (t933 != t927) = true := c32
    (try (have c32b1 : decide (t933 = t927) = false := by simpa using c32))
    (try (have c32b2 : (t933 == t927) = false := by simpa using c32))
    (try (have c32b3 : ¬ (t933 = t927) := by simpa using c32))
    clear c32
    (first | rw [c32b0] | (simp only [i64_w, i32_w]; rw [c32b0]) | rw [show (!t933 == t927) = (t933 != t927) from by cases t933 <;> cases t927 <;> rfl, c32b0] | skip)
    have H' := Aside0.mk H
    clear H
    go_wp2
    go_meet
    case rel => exact ⟨_, (true), y29, H', ⟨y50⟩, ⟨(by (with_reducible repeat (first | apply Kd.R_alloc | apply Kd.R_drewN | apply Kd.R_drew)); exact Kd.R_mono (Kd.R_far (p := ⟨gb934, 1, none⟩) (Kd.R_far (p := ⟨gb934, 0, none⟩) (Kd.R_types HO916.out BK934.out (by decide)) (fun _ hk => hk.2) (.int .i64 t929)) (fun _ hk => hk.2) (.slice Ao31 t930.length co31)) (fun _ hk => trivial))⟩, ⟨(by (with_reducible repeat (first | apply Kd.N_alloc | apply Kd.N_drewN | apply Kd.N_drew)); exact Kd.N_mono (Kd.N_far (p := ⟨gb934, 1, none⟩) (Kd.N_far (p := ⟨gb934, 0, none⟩) (Kd.N_mono HO913.out (fun k_ hk => (⟨hk, hk.2⟩ : _ ∧ k_ ≠ gb934))) (fun _ hk => hk.2) (.int .i64 t929)) (fun _ hk => hk.2) (.slice Ao31 t930.length co31)) (fun _ hk => ⟨hk.1.1.1.1, ⟨hk.1.1.1.2.1, ⟨hk.1.1.1.2.2.1, ⟨hk.1.1.2, ⟨hk.1.1.1.2.2.2.1, ⟨hk.1.1.1.2.2.2.2.1, ⟨hk.1.1.1.2.2.2.2.2, hk.1.2⟩⟩⟩⟩⟩⟩⟩))⟩, ⟨(by (with_reducible repeat (first | apply Kd.N_alloc | apply Kd.N_drewN | apply Kd.N_drew)); exact Kd.N_mono (Kd.N_far (p := ⟨gb934, 1, none⟩) (Kd.N_far (p := ⟨gb934, 0, none⟩) (Kd.N_mono HO920.out (fun k_ hk => (⟨hk, hk.2⟩ : _ ∧ k_ ≠ gb934))) (fun _ hk => hk.2) (.int .i64 t929)) (fun _ hk => hk.2) (.slice Ao31 t930.length co31)) (fun _ hk => ⟨hk.1.1.1.2.1, ⟨hk.1.1.1.1, ⟨hk.1.1.1.2.2.1, ⟨hk.1.1.2, ⟨hk.1.1.1.2.2.2.1, ⟨hk.1.1.1.2.2.2.2.1, ⟨hk.1.1.1.2.2.2.2.2, hk.1.2⟩⟩⟩⟩⟩⟩⟩))⟩, ⟨(by (with_reducible repeat (first | apply Kd.N_alloc | apply Kd.N_drewN | apply Kd.N_drew)); exact Kd.N_mono (Kd.N_far (p := ⟨gb934, 1, none⟩) (Kd.N_far (p := ⟨gb934, 0, none⟩) (Kd.N_mono HO926.out (fun k_ hk => (⟨hk, hk.2⟩ : _ ∧ k_ ≠ gb934))) (fun _ hk => hk.2) (.int .i64 t929)) (fun _ hk => hk.2) (.slice Ao31 t930.length co31)) (fun _ hk => ⟨hk.1.1.1.2.1, ⟨hk.1.1.1.1, ⟨hk.1.1.1.2.2.1, ⟨hk.1.1.2, ⟨hk.1.1.1.2.2.2.1, ⟨hk.1.1.1.2.2.2.2.1, ⟨hk.1.1.1.2.2.2.2.2, hk.1.2⟩⟩⟩⟩⟩⟩⟩))⟩, ⟨(by (with_reducible repeat (first | apply Kd.N_alloc | apply Kd.N_drewN | apply Kd.N_drew)); exact Kd.N_mono (Kd.N_far (p := ⟨gb934, 1, none⟩) (Kd.N_far (p := ⟨gb934, 0, none⟩) (Kd.N_mono HO932.out (fun k_ hk => (⟨hk, hk.2⟩ : _ ∧ k_ ≠ gb934))) (fun _ hk => hk.2) (.int .i64 t929)) (fun _ hk => hk.2) (.slice Ao31 t930.length co31)) (fun _ hk => ⟨hk.1.1.1, ⟨hk.1.1.2.1, ⟨hk.1.1.2.2.1, ⟨hk.1.1.2.2.2.1, ⟨hk.1.1.2.2.2.2, hk.1.2⟩⟩⟩⟩⟩))⟩, ⟨(y1 NB921_934.out BK921.out)⟩, ⟨(y1 NB922_934.out BK922.out)⟩, ⟨(y1 NB928_934.out BK928.out)⟩, ⟨(by (with_reducible repeat (first | refine blk_drewN ?_ _ | refine blk_drew ?_ | refine blk_alloc ?_ _)); refine blk_put (cs := #[.int .i64 t929, .slice none 0 0]) ?_ 1 _ rfl; (with_reducible repeat (first | refine blk_drewN ?_ _ | refine blk_drew ?_ | refine blk_alloc ?_ _)); refine blk_put (cs := #[.int .i64 0, .slice none 0 0]) ?_ 0 _ rfl; (with_reducible repeat (first | refine blk_drewN ?_ _ | refine blk_drew ?_ | refine blk_alloc ?_ _)); exact BK934.out)⟩, ⟨(y5 HB.out GE921.out GE922.out GE928.out GE934.out)⟩⟩
   ·rw [if_neg c32] at H
    have c32b0 : (t933 != t927) = false := by simpa using c32
    (try (have c32b1 : decide (t933 = t927) = true := by simpa using c32))
    (try (have c32b2 : (t933 == t927) = true := by simpa using c32))
    clear c32
    (first | rw [c32b0] | (simp only [i64_w, i32_w]; rw [c32b0]) | rw [show (!t933 == t927) = (t933 != t927) from by cases t933 <;> cases t927 <;> rfl, c32b0] | skip)
    obtain ⟨t935, A330, H⟩ := ob H
    have A33 := Aside0.mk A330
    clear A330
    by_cases c34 : t935 = true
    ·subst c34
     rw [if_pos rfl] at H
     have H' := Aside0.mk H
     clear H
     have hnb35 := NB934_921.out
     have hnc35 := NB921_934.out
     have hnb36 := NB934_922.out
     have hnc36 := NB922_934.out
     have hnb37 := NB934_928.out
     have hnc37 := NB928_934.out
     have hcz38_0 := zh BK934
     have hcz38_1 := zh1 BK934
     have hfz38_0 := zfr BK934 0
     have hfz38_1 := zfr BK934 1
     have hnb39 := NB928_921.out
     have hnc39 := NB921_928.out
     have hnb40 := NB928_922.out
     have hnc40 := NB922_928.out
     have hcz41_0 := zh BK928
     have hcz41_1 := zh1 BK928
     have hfz41_0 := zfr BK928 0
     have hfz41_1 := zfr BK928 1
     go_wp2_with (first | (go_at_call 15; (with_reducible refine (laws_lhVal.calls k t929 _ _ t930 t923 _ _ t924 true _ ?side1 ?side2 ?side3 ?side4 A33.out).mono ?_); (case side1 => refine (Kd.N_reads' (e := 25) (base := w.heap.size) (ok := fun k_ => ((some k_ ≠ (.slice Ao15 t914.length co15 : Value).ownBlock ∧ (some k_ ≠ (.slice Ao21 t924.length co21 : Value).ownBlock ∧ (k_ ≠ gb921 ∧ (k_ ≠ gb922 ∧ k_ ≠ gb928)))) ∧ k_ ≠ gb934)) (n := t930.length) (c := co31) ?_).2.2; exact (by (with_reducible repeat (first | apply Kd.N_alloc | apply Kd.N_drewN | apply Kd.N_drew)); exact (Kd.N_mono (Kd.N_far (p := ⟨gb934, 1, none⟩) (Kd.N_far (p := ⟨gb934, 0, none⟩) (Kd.N_mono HO932.out (fun k_ hk => (⟨hk, hk.2⟩ : _ ∧ k_ ≠ gb934))) (fun _ hk => hk.2) (.int .i64 t929)) (fun _ hk => hk.2) (.slice Ao31 t930.length co31)) (fun _ h_ => h_.1)))); (case side2 => exact (Kd.N_reads' HO932.out).2.1); (case side3 => refine (Kd.N_reads' (e := 25) (base := w.heap.size) (ok := fun k_ => (((some k_ ≠ (.slice Ao12 t911.length co12 : Value).ownBlock ∧ (some k_ ≠ (.slice Ao15 t914.length co15 : Value).ownBlock ∧ (some k_ ≠ (.slice Ao14 t918.length co14 : Value).ownBlock ∧ (k_ ≠ gb921 ∧ (k_ ≠ gb922 ∧ k_ ≠ gb928))))) ∧ some k_ ≠ (.slice Ao31 t930.length co31 : Value).ownBlock) ∧ k_ ≠ gb934)) (n := t924.length) (c := co21) ?_).2.2; exact (by (with_reducible repeat (first | apply Kd.N_alloc | apply Kd.N_drewN | apply Kd.N_drew)); exact (Kd.N_mono (Kd.N_far (p := ⟨gb934, 1, none⟩) (Kd.N_far (p := ⟨gb934, 0, none⟩) (Kd.N_mono HO926.out (fun k_ hk => (⟨hk, hk.2⟩ : _ ∧ k_ ≠ gb934))) (fun _ hk => hk.2) (.int .i64 t929)) (fun _ hk => hk.2) (.slice Ao31 t930.length co31)) (fun _ h_ => h_.1)))); (case side4 => exact (Kd.N_reads' HO926.out).2.1); rintro e w42 ⟨rfl, hb⟩; replace HO913 := Aside0.mk (Kd.N_below (by (with_reducible repeat (first | apply Kd.N_alloc | apply Kd.N_drewN | apply Kd.N_drew)); exact (Kd.N_mono (Kd.N_far (p := ⟨gb934, 1, none⟩) (Kd.N_far (p := ⟨gb934, 0, none⟩) (Kd.N_mono HO913.out (fun k_ hk => (⟨hk, hk.2⟩ : _ ∧ k_ ≠ gb934))) (fun _ hk => hk.2) (.int .i64 t929)) (fun _ hk => hk.2) (.slice Ao31 t930.length co31)) (fun _ h_ => h_.1))) hb); replace HO916 := Aside0.mk (Kd.R_below (by (with_reducible repeat (first | apply Kd.R_alloc | apply Kd.R_drewN | apply Kd.R_drew)); exact (Kd.R_mono (Kd.R_far (p := ⟨gb934, 1, none⟩) (Kd.R_far (p := ⟨gb934, 0, none⟩) (Kd.R_types HO916.out BK934.out (by decide)) (fun _ hk => hk.2) (.int .i64 t929)) (fun _ hk => hk.2) (.slice Ao31 t930.length co31)) (fun _ h_ => h_.1))) hb); replace HO920 := Aside0.mk (Kd.N_below (by (with_reducible repeat (first | apply Kd.N_alloc | apply Kd.N_drewN | apply Kd.N_drew)); exact (Kd.N_mono (Kd.N_far (p := ⟨gb934, 1, none⟩) (Kd.N_far (p := ⟨gb934, 0, none⟩) (Kd.N_mono HO920.out (fun k_ hk => (⟨hk, hk.2⟩ : _ ∧ k_ ≠ gb934))) (fun _ hk => hk.2) (.int .i64 t929)) (fun _ hk => hk.2) (.slice Ao31 t930.length co31)) (fun _ h_ => h_.1))) hb); replace HO926 := Aside0.mk (Kd.N_below (by (with_reducible repeat (first | apply Kd.N_alloc | apply Kd.N_drewN | apply Kd.N_drew)); exact (Kd.N_mono (Kd.N_far (p := ⟨gb934, 1, none⟩) (Kd.N_far (p := ⟨gb934, 0, none⟩) (Kd.N_mono HO926.out (fun k_ hk => (⟨hk, hk.2⟩ : _ ∧ k_ ≠ gb934))) (fun _ hk => hk.2) (.int .i64 t929)) (fun _ hk => hk.2) (.slice Ao31 t930.length co31)) (fun _ h_ => h_.1))) hb); replace HO932 := Aside0.mk (Kd.N_below (by (with_reducible repeat (first | apply Kd.N_alloc | apply Kd.N_drewN | apply Kd.N_drew)); exact (Kd.N_mono (Kd.N_far (p := ⟨gb934, 1, none⟩) (Kd.N_far (p := ⟨gb934, 0, none⟩) (Kd.N_mono HO932.out (fun k_ hk => (⟨hk, hk.2⟩ : _ ∧ k_ ≠ gb934))) (fun _ hk => hk.2) (.int .i64 t929)) (fun _ hk => hk.2) (.slice Ao31 t930.length co31)) (fun _ h_ => h_.1))) hb); replace BK921 := Aside0.mk (blk_below (g := gb921) (o := .cells #[.int .i64 t910, .slice Ao12 t911.length co12] 25 (0, 0)) (y1 NB921_934.out BK921.out) hb); replace BK922 := Aside0.mk (blk_below (g := gb922) (o := .cells #[.int .i64 t917, .slice Ao14 t918.length co14] 25 (0, 0)) (y1 NB922_934.out BK922.out) hb); replace BK928 := Aside0.mk (blk_below (g := gb928) (o := .cells #[.int .i64 t923, .slice Ao21 t924.length co21] 25 (0, 0)) (y1 NB928_934.out BK928.out) hb); replace BK934 := Aside0.mk (blk_below (g := gb934) (o := .cells #[.int .i64 t929, .slice Ao31 t930.length co31] 25 (0, 0)) (by (with_reducible repeat (first | refine blk_drewN ?_ _ | refine blk_drew ?_ | refine blk_alloc ?_ _)); refine blk_put (cs := #[.int .i64 t929, .slice none 0 0]) ?_ 1 _ rfl; (with_reducible repeat (first | refine blk_drewN ?_ _ | refine blk_drew ?_ | refine blk_alloc ?_ _)); apply blk_put (i := 0); (case h => exact y0 BK934.out); (case e => rfl)) hb); replace HB := Aside0.mk (below_step (y5 HB.out GE921.out GE922.out GE928.out GE934.out) hb); (try clear hb); (try clear hb2); (try clear hk); (try clear hi)))
     go_meet
     case rel => exact ⟨_, (!t933), y29, H', ⟨y50⟩, ⟨(y8 HO916.out)⟩, ⟨(y45 HO913.out)⟩, ⟨(y39 HO920.out)⟩, ⟨(y39 HO926.out)⟩, ⟨(y49 HO932.out)⟩, ⟨(y0 BK921.out)⟩, ⟨(y0 BK922.out)⟩, ⟨(y0 BK928.out)⟩, ⟨(y0 BK934.out)⟩, ⟨(y5 HB.out GE921.out GE922.out GE928.out GE934.out)⟩⟩
    ·replace c34 := Bool.eq_false_iff.mpr c34
     subst c34
     rw [if_neg (show ¬ (false = true) by decide)] at H
     have H' := Aside0.mk H
     clear H
     have hnb43 := NB934_921.out
     have hnc43 := NB921_934.out
     have hnb44 := NB934_922.out
     have hnc44 := NB922_934.out
     have hnb45 := NB934_928.out
     have hnc45 := NB928_934.out
     have hcz46_0 := zh BK934
     have hcz46_1 := zh1 BK934
     have hfz46_0 := zfr BK934 0
     have hfz46_1 := zfr BK934 1
     have hnb47 := NB928_921.out
     have hnc47 := NB921_928.out
     have hnb48 := NB928_922.out
     have hnc48 := NB922_928.out
     have hcz49_0 := zh BK928
     have hcz49_1 := zh1 BK928
     have hfz49_0 := zfr BK928 0
     have hfz49_1 := zfr BK928 1
     go_wp2_with (first | (go_at_call 15; (with_reducible refine (laws_lhVal.calls k t929 _ _ t930 t923 _ _ t924 false _ ?side1 ?side2 ?side3 ?side4 A33.out).mono ?_); (case side1 => refine (Kd.N_reads' (e := 25) (base := w.heap.size) (ok := fun k_ => ((some k_ ≠ (.slice Ao15 t914.length co15 : Value).ownBlock ∧ (some k_ ≠ (.slice Ao21 t924.length co21 : Value).ownBlock ∧ (k_ ≠ gb921 ∧ (k_ ≠ gb922 ∧ k_ ≠ gb928)))) ∧ k_ ≠ gb934)) (n := t930.length) (c := co31) ?_).2.2; exact (by (with_reducible repeat (first | apply Kd.N_alloc | apply Kd.N_drewN | apply Kd.N_drew)); exact (Kd.N_mono (Kd.N_far (p := ⟨gb934, 1, none⟩) (Kd.N_far (p := ⟨gb934, 0, none⟩) (Kd.N_mono HO932.out (fun k_ hk => (⟨hk, hk.2⟩ : _ ∧ k_ ≠ gb934))) (fun _ hk => hk.2) (.int .i64 t929)) (fun _ hk => hk.2) (.slice Ao31 t930.length co31)) (fun _ h_ => h_.1)))); (case side2 => exact (Kd.N_reads' HO932.out).2.1); (case side3 => refine (Kd.N_reads' (e := 25) (base := w.heap.size) (ok := fun k_ => (((some k_ ≠ (.slice Ao12 t911.length co12 : Value).ownBlock ∧ (some k_ ≠ (.slice Ao15 t914.length co15 : Value).ownBlock ∧ (some k_ ≠ (.slice Ao14 t918.length co14 : Value).ownBlock ∧ (k_ ≠ gb921 ∧ (k_ ≠ gb922 ∧ k_ ≠ gb928))))) ∧ some k_ ≠ (.slice Ao31 t930.length co31 : Value).ownBlock) ∧ k_ ≠ gb934)) (n := t924.length) (c := co21) ?_).2.2; exact (by (with_reducible repeat (first | apply Kd.N_alloc | apply Kd.N_drewN | apply Kd.N_drew)); exact (Kd.N_mono (Kd.N_far (p := ⟨gb934, 1, none⟩) (Kd.N_far (p := ⟨gb934, 0, none⟩) (Kd.N_mono HO926.out (fun k_ hk => (⟨hk, hk.2⟩ : _ ∧ k_ ≠ gb934))) (fun _ hk => hk.2) (.int .i64 t929)) (fun _ hk => hk.2) (.slice Ao31 t930.length co31)) (fun _ h_ => h_.1)))); (case side4 => exact (Kd.N_reads' HO926.out).2.1); rintro e w50 ⟨rfl, hb⟩; replace HO913 := Aside0.mk (Kd.N_below (by (with_reducible repeat (first | apply Kd.N_alloc | apply Kd.N_drewN | apply Kd.N_drew)); exact (Kd.N_mono (Kd.N_far (p := ⟨gb934, 1, none⟩) (Kd.N_far (p := ⟨gb934, 0, none⟩) (Kd.N_mono HO913.out (fun k_ hk => (⟨hk, hk.2⟩ : _ ∧ k_ ≠ gb934))) (fun _ hk => hk.2) (.int .i64 t929)) (fun _ hk => hk.2) (.slice Ao31 t930.length co31)) (fun _ h_ => h_.1))) hb); replace HO916 := Aside0.mk (Kd.R_below (by (with_reducible repeat (first | apply Kd.R_alloc | apply Kd.R_drewN | apply Kd.R_drew)); exact (Kd.R_mono (Kd.R_far (p := ⟨gb934, 1, none⟩) (Kd.R_far (p := ⟨gb934, 0, none⟩) (Kd.R_types HO916.out BK934.out (by decide)) (fun _ hk => hk.2) (.int .i64 t929)) (fun _ hk => hk.2) (.slice Ao31 t930.length co31)) (fun _ h_ => h_.1))) hb); replace HO920 := Aside0.mk (Kd.N_below (by (with_reducible repeat (first | apply Kd.N_alloc | apply Kd.N_drewN | apply Kd.N_drew)); exact (Kd.N_mono (Kd.N_far (p := ⟨gb934, 1, none⟩) (Kd.N_far (p := ⟨gb934, 0, none⟩) (Kd.N_mono HO920.out (fun k_ hk => (⟨hk, hk.2⟩ : _ ∧ k_ ≠ gb934))) (fun _ hk => hk.2) (.int .i64 t929)) (fun _ hk => hk.2) (.slice Ao31 t930.length co31)) (fun _ h_ => h_.1))) hb); replace HO926 := Aside0.mk (Kd.N_below (by (with_reducible repeat (first | apply Kd.N_alloc | apply Kd.N_drewN | apply Kd.N_drew)); exact (Kd.N_mono (Kd.N_far (p := ⟨gb934, 1, none⟩) (Kd.N_far (p := ⟨gb934, 0, none⟩) (Kd.N_mono HO926.out (fun k_ hk => (⟨hk, hk.2⟩ : _ ∧ k_ ≠ gb934))) (fun _ hk => hk.2) (.int .i64 t929)) (fun _ hk => hk.2) (.slice Ao31 t930.length co31)) (fun _ h_ => h_.1))) hb); replace HO932 := Aside0.mk (Kd.N_below (by (with_reducible repeat (first | apply Kd.N_alloc | apply Kd.N_drewN | apply Kd.N_drew)); exact (Kd.N_mono (Kd.N_far (p := ⟨gb934, 1, none⟩) (Kd.N_far (p := ⟨gb934, 0, none⟩) (Kd.N_mono HO932.out (fun k_ hk => (⟨hk, hk.2⟩ : _ ∧ k_ ≠ gb934))) (fun _ hk => hk.2) (.int .i64 t929)) (fun _ hk => hk.2) (.slice Ao31 t930.length co31)) (fun _ h_ => h_.1))) hb); replace BK921 := Aside0.mk (blk_below (g := gb921) (o := .cells #[.int .i64 t910, .slice Ao12 t911.length co12] 25 (0, 0)) (y1 NB921_934.out BK921.out) hb); replace BK922 := Aside0.mk (blk_below (g := gb922) (o := .cells #[.int .i64 t917, .slice Ao14 t918.length co14] 25 (0, 0)) (y1 NB922_934.out BK922.out) hb); replace BK928 := Aside0.mk (blk_below (g := gb928) (o := .cells #[.int .i64 t923, .slice Ao21 t924.length co21] 25 (0, 0)) (y1 NB928_934.out BK928.out) hb); replace BK934 := Aside0.mk (blk_below (g := gb934) (o := .cells #[.int .i64 t929, .slice Ao31 t930.length co31] 25 (0, 0)) (by (with_reducible repeat (first | refine blk_drewN ?_ _ | refine blk_drew ?_ | refine blk_alloc ?_ _)); refine blk_put (cs := #[.int .i64 t929, .slice none 0 0]) ?_ 1 _ rfl; (with_reducible repeat (first | refine blk_drewN ?_ _ | refine blk_drew ?_ | refine blk_alloc ?_ _)); apply blk_put (i := 0); (case h => exact y0 BK934.out); (case e => rfl)) hb); replace HB := Aside0.mk (below_step (y5 HB.out GE921.out GE922.out GE928.out GE934.out) hb); (try clear hb); (try clear hb2); (try clear hk); (try clear hi)))
     go_meet
     case rel => exact ⟨_, (true), y29, H', ⟨y50⟩, ⟨(y8 HO916.out)⟩, ⟨(y45 HO913.out)⟩, ⟨(y39 HO920.out)⟩, ⟨(y39 HO926.out)⟩, ⟨(y49 HO932.out)⟩, ⟨(y0 BK921.out)⟩, ⟨(y0 BK922.out)⟩, ⟨(y0 BK928.out)⟩, ⟨(y0 BK934.out)⟩, ⟨(y5 HB.out GE921.out GE922.out GE928.out GE934.out)⟩⟩
  case rest =>
   clear HC6
   try clear c1
   try clear c2
   try clear c2b0
   try clear c2b1
   try clear p2
   try clear c3
   try clear c4
   try clear c9
   try clear c10
   try clear c18
   try clear c19
   try clear c24
   try clear c25
   try clear c26
   try clear c27
   try clear c28
   try clear c29
   try clear c32
   try clear c32b0
   try clear c32b1
   try clear c32b2
   try clear c34
   try clear c35
   try clear c36
   try clear c37
   try clear c39
   try clear c40
   try clear c43
   try clear c44
   try clear c45
   try clear c47
   try clear c48
   try clear hcz11_0
   try clear hcz11_1
   try clear hcz13_0
   try clear hcz13_1
   try clear hcz20_0
   try clear hcz20_1
   try clear hcz23_0
   try clear hcz23_1
   try clear hcz24_0
   try clear hcz24_1
   try clear hcz30_0
   try clear hcz30_1
   try clear hcz38_0
   try clear hcz38_1
   try clear hcz41_0
   try clear hcz41_1
   try clear hcz46_0
   try clear hcz46_1
   try clear hcz49_0
   try clear hcz49_1
   try clear hfz11_0
   try clear hfz11_1
   try clear hfz13_0
   try clear hfz13_1
   try clear hfz20_0
   try clear hfz20_1
   try clear hfz23_0
   try clear hfz23_1
   try clear hfz24_0
   try clear hfz24_1
   try clear hfz30_0
   try clear hfz30_1
   try clear hfz38_0
   try clear hfz38_1
   try clear hfz41_0
   try clear hfz41_1
   try clear hfz46_0
   try clear hfz46_1
   try clear hfz49_0
   try clear hfz49_1
   obtain ⟨kq, x51_5, rfl, HA, HJ5, HO_4, HO_922001, HO_923001, HO_929001, HO_935001, BK921, BK922, BK928, BK934, HB⟩ := hcut
   cases kq with
   | zero => exact absurd HA.out (by simp [laws_FnValTwice.j0])
   | succ kj5 =>
    have H := HA.out
    clear HA
    simp only [laws_FnValTwice.j0] at H
    by_cases c51 : x51_5 = true
    ·subst c51
     rw [if_pos rfl] at H
     by_cases c52 : (t933 == t927) = true
     ·rw [if_pos c52] at H
      have c52b0 : (t933 == t927) = true := c52
      (try (have c52b1 : decide (t933 = t927) = true := by simpa using c52))
      (try (have c52b2 : (t933 == t927) = true := by simpa using c52))
      clear c52
      obtain ⟨t936, A530, H⟩ := ob H
      have A53 := Aside0.mk A530
      clear A530
      clear hr_
      obtain rfl := Option.some.inj H
      have hnb54 := NB934_921.out
      have hnc54 := NB921_934.out
      have hnb55 := NB934_922.out
      have hnc55 := NB922_934.out
      have hnb56 := NB934_928.out
      have hnc56 := NB928_934.out
      have hcz57_0 := zh BK934
      have hcz57_1 := zh1 BK934
      have hfz57_0 := zfr BK934 0
      have hfz57_1 := zfr BK934 1
      have hnb58 := NB928_921.out
      have hnc58 := NB921_928.out
      have hnb59 := NB928_922.out
      have hnc59 := NB922_928.out
      have hcz60_0 := zh BK928
      have hcz60_1 := zh1 BK928
      have hfz60_0 := zfr BK928 0
      have hfz60_1 := zfr BK928 1
      go_wp2_with (first | (go_at_call 15; (with_reducible refine (laws_lhVal.calls kj5 t929 _ _ t930 t923 _ _ t924 t936 _ ?side1 ?side2 ?side3 ?side4 A53.out).mono ?_); (case side1 => exact y36 HO_935001.out); (case side2 => exact (Kd.N_reads' HO_935001.out).2.1); (case side3 => exact y36 HO_929001.out); (case side4 => exact (Kd.N_reads' HO_929001.out).2.1); rintro e w61 ⟨rfl, hb⟩; replace HO_4 := Aside0.mk (Kd.R_below (y8 HO_4.out) hb); replace HO_922001 := Aside0.mk (Kd.N_below (y2 HO_922001.out) hb); replace HO_923001 := Aside0.mk (Kd.N_below (y2 HO_923001.out) hb); replace HO_929001 := Aside0.mk (Kd.N_below (y2 HO_929001.out) hb); replace HO_935001 := Aside0.mk (Kd.N_below (y2 HO_935001.out) hb); replace BK921 := zbb BK921 hb; replace BK922 := zbb BK922 hb; replace BK928 := zbb BK928 hb; replace BK934 := zbb BK934 hb; replace HB := Aside0.mk (below_step (y5 HB.out GE921.out GE922.out GE928.out GE934.out) hb); (try clear hb); (try clear hb2); (try clear hk); (try clear hi)))
      go_ret
      exact ⟨y15, (y5 HB.out GE921.out GE922.out GE928.out GE934.out)⟩
     ·rw [if_neg c52] at H
      have c52b0 : (t933 == t927) = false := by simpa using c52
      (try (have c52b1 : decide (t933 = t927) = false := by simpa using c52))
      (try (have c52b2 : (t933 == t927) = false := by simpa using c52))
      (try (have c52b3 : ¬ (t933 = t927) := by simpa using c52))
      clear c52
      exact absurd ((Option.some.inj H).trans hr_.out) (by decide)
    ·replace c51 := Bool.eq_false_iff.mpr c51
     subst c51
     rw [if_neg (show ¬ (false = true) by decide)] at H
     obtain ⟨⟨t937, t938, t941⟩, A620, H⟩ := ob H
     have A62 := Aside0.mk A620
     clear A620
     obtain ⟨⟨t943, t944, t947⟩, A630, H⟩ := ob H
     have A63 := Aside0.mk A630
     clear A630
     obtain ⟨⟨t949, t950, t953⟩, A640, H⟩ := ob H
     have A64 := Aside0.mk A640
     clear A640
     by_cases c65 : t947 = true
     ·subst c65
      rw [if_pos rfl] at H
      by_cases c66 : t953 = true
      ·subst c66
       rw [if_pos rfl] at H
       obtain ⟨t955, A670, H⟩ := ob H
       have A67 := Aside0.mk A670
       clear A670
       by_cases c68 : t955 = true
       ·subst c68
        rw [if_pos rfl] at H
        obtain ⟨t956, A690, H⟩ := ob H
        have A69 := Aside0.mk A690
        clear A690
        clear hr_
        obtain rfl := Option.some.inj H
        have hnb70 := NB921_922.out
        have hnc70 := NB922_921.out
        have hnb71 := NB921_928.out
        have hnc71 := NB928_921.out
        have hnb72 := NB921_934.out
        have hnc72 := NB934_921.out
        have hcz73_0 := zh BK921
        have hcz73_1 := zh1 BK921
        have hfz73_0 := zfr BK921 0
        have hfz73_1 := zfr BK921 1
        go_wp2_with (first | ((with_reducible refine gate_callee (f := 14) rfl ?_); refine goesL_ (some 63) rfl rfl Try.func14 (by kernel_rfl) rfl #[.agg #[.int .i64 t910, .slice Ao12 t911.length co12], .slice Ao15 t914.length co15] rfl y9 ?_; (with_reducible refine (impl_ValAt.calls kj5 t910 (fun k_ => (some k_ ≠ (.slice Ao15 t914.length co15 : Value).ownBlock ∧ (some k_ ≠ (.slice Ao14 t918.length co14 : Value).ownBlock ∧ (some k_ ≠ (.slice Ao21 t924.length co21 : Value).ownBlock ∧ (some k_ ≠ (.slice Ao31 t930.length co31 : Value).ownBlock ∧ (k_ ≠ gb921 ∧ (k_ ≠ gb922 ∧ (k_ ≠ gb928 ∧ k_ ≠ gb934)))))))) _ _ t911 _ _ t914 t937 t938 t941 _ ?side1 ?side2 ?side3 A62.out).mono ?_); (case side1 => exact Kd.N_V (HO_922001.out)); (case side2 => exact y34 HO_4.out); (case side3 => exact (Kd.R_reads' HO_4.out).2.1); rintro e w74 ⟨v939, rfl, ho0, hb⟩; refine ⟨_, rfl, ?_⟩; replace HO_922001 := Aside0.mk (Kd.N_elder' (y2 HO_922001.out) (Kd.N_base ho0) hb); have HO940 := Aside0.mk (Kd.N_lower (Kd.N_mono (ok' := fun k_ => some k_ ≠ (.slice Ao15 t914.length co15 : Value).ownBlock ∧ some k_ ≠ (.slice Ao14 t918.length co14 : Value).ownBlock ∧ some k_ ≠ (.slice Ao21 t924.length co21 : Value).ownBlock ∧ some k_ ≠ (.slice Ao31 t930.length co31 : Value).ownBlock ∧ k_ ≠ gb921 ∧ k_ ≠ gb922 ∧ k_ ≠ gb928 ∧ k_ ≠ gb934) ho0 (fun k_ hk_ => ⟨Or.elim hk_ (fun hs_ => hs_.1) (fun hn_ => (Kd.fresh' (Kd.R_lt (y8 HO_4.out)) k_ hn_)), Or.elim hk_ (fun hs_ => hs_.2.1) (fun hn_ => (Kd.fresh' (Kd.N_lt (y2 HO_923001.out)) k_ hn_)), Or.elim hk_ (fun hs_ => hs_.2.2.1) (fun hn_ => (Kd.fresh' (Kd.N_lt (y2 HO_929001.out)) k_ hn_)), Or.elim hk_ (fun hs_ => hs_.2.2.2.1) (fun hn_ => (Kd.fresh' (Kd.N_lt (y2 HO_935001.out)) k_ hn_)), Or.elim hk_ (fun hs_ => hs_.2.2.2.2.1) (fun hn_ => (Kd.freshB (g := gb921) (o := .cells #[.int .i64 t910, .slice Ao12 t911.length co12] 25 (0, 0)) (y0 BK921.out) k_ hn_)), Or.elim hk_ (fun hs_ => hs_.2.2.2.2.2.1) (fun hn_ => (Kd.freshB (g := gb922) (o := .cells #[.int .i64 t917, .slice Ao14 t918.length co14] 25 (0, 0)) (y0 BK922.out) k_ hn_)), Or.elim hk_ (fun hs_ => hs_.2.2.2.2.2.2.1) (fun hn_ => (Kd.freshB (g := gb928) (o := .cells #[.int .i64 t923, .slice Ao21 t924.length co21] 25 (0, 0)) (y0 BK928.out) k_ hn_)), Or.elim hk_ (fun hs_ => hs_.2.2.2.2.2.2.2) (fun hn_ => (Kd.freshB (g := gb934) (o := .cells #[.int .i64 t929, .slice Ao31 t930.length co31] 25 (0, 0)) (y0 BK934.out) k_ hn_))⟩)) (below_size (y5 HB.out GE921.out GE922.out GE928.out GE934.out))); replace HO_4 := Aside0.mk (Kd.R_below (y8 HO_4.out) hb); replace HO_923001 := Aside0.mk (Kd.N_elder' (y2 HO_923001.out) (Kd.N_base ho0) hb); replace HO_929001 := Aside0.mk (Kd.N_elder' (y2 HO_929001.out) (Kd.N_base ho0) hb); replace HO_935001 := Aside0.mk (Kd.N_elder' (y2 HO_935001.out) (Kd.N_base ho0) hb); replace BK921 := zbb BK921 hb; replace BK922 := zbb BK922 hb; replace BK928 := zbb BK928 hb; replace BK934 := zbb BK934 hb; replace HB := Aside0.mk (below_step (y5 HB.out GE921.out GE922.out GE928.out GE934.out) hb); (try clear hb); (try clear hb2); (try clear hk); (try clear hi); (try clear ho0)) | ((with_reducible refine gate_dst (N := 10) rfl ?_); refine zbx 10 #[.int .i64 0, .slice none 0 0] 25 ?_; intro gb942 hg w75 hbox hb; replace HO_4 := Aside0.mk (Kd.R_below (y8 HO_4.out) hb); replace HO_922001 := Aside0.mk (Kd.N_below (Kd.N_elderB (y2 HO_922001.out) gb942 (Nat.le_of_eq hg.symm)) hb); replace HO_923001 := Aside0.mk (Kd.N_below (Kd.N_elderB (y2 HO_923001.out) gb942 (Nat.le_of_eq hg.symm)) hb); replace HO_929001 := Aside0.mk (Kd.N_below (Kd.N_elderB (y2 HO_929001.out) gb942 (Nat.le_of_eq hg.symm)) hb); replace HO_935001 := Aside0.mk (Kd.N_below (Kd.N_elderB (y2 HO_935001.out) gb942 (Nat.le_of_eq hg.symm)) hb); replace HO940 := Aside0.mk (Kd.N_below (Kd.N_elderB (y2 HO940.out) gb942 (Nat.le_of_eq hg.symm)) hb); have BK942 := Aside0.mk hbox; have GW942 := Aside0.mk ((y27 hg HB.out GE921.out GE922.out GE928.out GE934.out : w.heap.size ≤ gb942)); have GE942 := Aside0.mk ((y27 hg HB.out GE921.out GE922.out GE928.out GE934.out : w.heap.size ≤ gb942)); replace HB := Aside0.mk (below_step (y5 HB.out GE921.out GE922.out GE928.out GE934.out) hb); have NB921_942 := zltn hg BK921; have NB942_921 := zgtn hg BK921; replace BK921 := zbb BK921 hb; have NB922_942 := zltn hg BK922; have NB942_922 := zgtn hg BK922; replace BK922 := zbb BK922 hb; have NB928_942 := zltn hg BK928; have NB942_928 := zgtn hg BK928; replace BK928 := zbb BK928 hb; have NB934_942 := zltn hg BK934; have NB942_934 := zgtn hg BK934; replace BK934 := zbb BK934 hb; clear hb hbox hg; have hnb76 := NB942_921.out; have hnc76 := NB921_942.out; have hnb77 := NB942_922.out; have hnc77 := NB922_942.out; have hnb78 := NB942_928.out; have hnc78 := NB928_942.out; have hnb79 := NB942_934.out; have hnc79 := NB934_942.out; have hcz80_0 := zh BK942; have hcz80_1 := zh1 BK942; have hfz80_0 := zfr BK942 0; have hfz80_1 := zfr BK942 1; obtain ⟨Ao81, co81, eo81⟩ := Kd.N_slice HO940.out; subst eo81) | ((with_reducible refine gate_store (t := 25) (p := 10) rfl ?_); refine store_event (t := 25) (p := 10) (v := ?vo_w82) (w1 := ((w75.setCell ⟨gb942, 0, none⟩ (.int .i64 t937)).setCell ⟨gb942, 1, none⟩ (.slice Ao81 t938.length co81))) ?hg ?ho ?hn ?hr ?_; (case ho => rfl); (case hg => rfl); (case hn => rfl); (case hr => first | (go_simp; done) | (go_simp; rfl)); intro w82 hw; have n0_ : Aside0 (Kd.R (Kd.int .i64) 3 w82 w.heap.size (fun _ => True) (.slice Ao15 t914.length co15) t914) := ⟨(by rw [hw]; exact (by (with_reducible repeat (first | apply Kd.R_alloc | apply Kd.R_drewN | apply Kd.R_drew)); exact Kd.R_mono (Kd.R_far (p := ⟨gb942, 1, none⟩) (Kd.R_far (p := ⟨gb942, 0, none⟩) (Kd.R_types HO_4.out BK942.out (by decide)) (fun _ hk => hk.2) (.int .i64 t937)) (fun _ hk => hk.2) (.slice Ao81 t938.length co81)) (fun _ hk => trivial)))⟩; have n1_ : Aside0 (Kd.N k25 25 w82 w.heap.size (fun k_ => some k_ ≠ (.slice Ao15 t914.length co15 : Value).ownBlock ∧ some k_ ≠ (.slice Ao14 t918.length co14 : Value).ownBlock ∧ some k_ ≠ (.slice Ao21 t924.length co21 : Value).ownBlock ∧ some k_ ≠ (.slice Ao31 t930.length co31 : Value).ownBlock ∧ some k_ ≠ (.slice Ao81 t938.length co81 : Value).ownBlock ∧ k_ ≠ gb921 ∧ k_ ≠ gb922 ∧ k_ ≠ gb928 ∧ k_ ≠ gb934 ∧ k_ ≠ gb942) (.slice Ao12 t911.length co12) t911) := ⟨(by rw [hw]; exact (by (with_reducible repeat (first | apply Kd.N_alloc | apply Kd.N_drewN | apply Kd.N_drew)); exact Kd.N_mono (Kd.N_far (p := ⟨gb942, 1, none⟩) (Kd.N_far (p := ⟨gb942, 0, none⟩) (Kd.N_mono HO_922001.out (fun k_ hk => (⟨hk, hk.2⟩ : _ ∧ k_ ≠ gb942))) (fun _ hk => hk.2) (.int .i64 t937)) (fun _ hk => hk.2) (.slice Ao81 t938.length co81)) (fun _ hk => ⟨hk.1.1.1.1, ⟨hk.1.1.1.2.1, ⟨hk.1.1.1.2.2.1, ⟨hk.1.1.1.2.2.2.1, ⟨hk.1.1.2, ⟨hk.1.1.1.2.2.2.2.1, ⟨hk.1.1.1.2.2.2.2.2.1, ⟨hk.1.1.1.2.2.2.2.2.2.1, ⟨hk.1.1.1.2.2.2.2.2.2.2, hk.1.2⟩⟩⟩⟩⟩⟩⟩⟩⟩)))⟩; have n2_ : Aside0 (Kd.N k25 25 w82 w.heap.size (fun k_ => some k_ ≠ (.slice Ao15 t914.length co15 : Value).ownBlock ∧ some k_ ≠ (.slice Ao12 t911.length co12 : Value).ownBlock ∧ some k_ ≠ (.slice Ao21 t924.length co21 : Value).ownBlock ∧ some k_ ≠ (.slice Ao31 t930.length co31 : Value).ownBlock ∧ some k_ ≠ (.slice Ao81 t938.length co81 : Value).ownBlock ∧ k_ ≠ gb921 ∧ k_ ≠ gb922 ∧ k_ ≠ gb928 ∧ k_ ≠ gb934 ∧ k_ ≠ gb942) (.slice Ao14 t918.length co14) t918) := ⟨(by rw [hw]; exact (by (with_reducible repeat (first | apply Kd.N_alloc | apply Kd.N_drewN | apply Kd.N_drew)); exact Kd.N_mono (Kd.N_far (p := ⟨gb942, 1, none⟩) (Kd.N_far (p := ⟨gb942, 0, none⟩) (Kd.N_mono HO_923001.out (fun k_ hk => (⟨hk, hk.2⟩ : _ ∧ k_ ≠ gb942))) (fun _ hk => hk.2) (.int .i64 t937)) (fun _ hk => hk.2) (.slice Ao81 t938.length co81)) (fun _ hk => ⟨hk.1.1.1.1, ⟨hk.1.1.1.2.1, ⟨hk.1.1.1.2.2.1, ⟨hk.1.1.1.2.2.2.1, ⟨hk.1.1.2, ⟨hk.1.1.1.2.2.2.2.1, ⟨hk.1.1.1.2.2.2.2.2.1, ⟨hk.1.1.1.2.2.2.2.2.2.1, ⟨hk.1.1.1.2.2.2.2.2.2.2, hk.1.2⟩⟩⟩⟩⟩⟩⟩⟩⟩)))⟩; have n3_ : Aside0 (Kd.N k25 25 w82 w.heap.size (fun k_ => some k_ ≠ (.slice Ao15 t914.length co15 : Value).ownBlock ∧ some k_ ≠ (.slice Ao12 t911.length co12 : Value).ownBlock ∧ some k_ ≠ (.slice Ao14 t918.length co14 : Value).ownBlock ∧ some k_ ≠ (.slice Ao31 t930.length co31 : Value).ownBlock ∧ some k_ ≠ (.slice Ao81 t938.length co81 : Value).ownBlock ∧ k_ ≠ gb921 ∧ k_ ≠ gb922 ∧ k_ ≠ gb928 ∧ k_ ≠ gb934 ∧ k_ ≠ gb942) (.slice Ao21 t924.length co21) t924) := ⟨(by rw [hw]; exact (by (with_reducible repeat (first | apply Kd.N_alloc | apply Kd.N_drewN | apply Kd.N_drew)); exact Kd.N_mono (Kd.N_far (p := ⟨gb942, 1, none⟩) (Kd.N_far (p := ⟨gb942, 0, none⟩) (Kd.N_mono HO_929001.out (fun k_ hk => (⟨hk, hk.2⟩ : _ ∧ k_ ≠ gb942))) (fun _ hk => hk.2) (.int .i64 t937)) (fun _ hk => hk.2) (.slice Ao81 t938.length co81)) (fun _ hk => ⟨hk.1.1.1.1, ⟨hk.1.1.1.2.1, ⟨hk.1.1.1.2.2.1, ⟨hk.1.1.1.2.2.2.1, ⟨hk.1.1.2, ⟨hk.1.1.1.2.2.2.2.1, ⟨hk.1.1.1.2.2.2.2.2.1, ⟨hk.1.1.1.2.2.2.2.2.2.1, ⟨hk.1.1.1.2.2.2.2.2.2.2, hk.1.2⟩⟩⟩⟩⟩⟩⟩⟩⟩)))⟩; have n4_ : Aside0 (Kd.N k25 25 w82 w.heap.size (fun k_ => some k_ ≠ (.slice Ao15 t914.length co15 : Value).ownBlock ∧ some k_ ≠ (.slice Ao21 t924.length co21 : Value).ownBlock ∧ some k_ ≠ (.slice Ao81 t938.length co81 : Value).ownBlock ∧ k_ ≠ gb921 ∧ k_ ≠ gb922 ∧ k_ ≠ gb928 ∧ k_ ≠ gb934 ∧ k_ ≠ gb942) (.slice Ao31 t930.length co31) t930) := ⟨(by rw [hw]; exact (by (with_reducible repeat (first | apply Kd.N_alloc | apply Kd.N_drewN | apply Kd.N_drew)); exact Kd.N_mono (Kd.N_far (p := ⟨gb942, 1, none⟩) (Kd.N_far (p := ⟨gb942, 0, none⟩) (Kd.N_mono HO_935001.out (fun k_ hk => (⟨hk, hk.2⟩ : _ ∧ k_ ≠ gb942))) (fun _ hk => hk.2) (.int .i64 t937)) (fun _ hk => hk.2) (.slice Ao81 t938.length co81)) (fun _ hk => ⟨hk.1.1.1.1, ⟨hk.1.1.1.2.1, ⟨hk.1.1.2, ⟨hk.1.1.1.2.2.1, ⟨hk.1.1.1.2.2.2.1, ⟨hk.1.1.1.2.2.2.2.1, ⟨hk.1.1.1.2.2.2.2.2, hk.1.2⟩⟩⟩⟩⟩⟩⟩)))⟩; have n5_ : Aside0 (Kd.N k25 25 w82 w.heap.size (fun k_ => some k_ ≠ (.slice Ao15 t914.length co15 : Value).ownBlock ∧ some k_ ≠ (.slice Ao14 t918.length co14 : Value).ownBlock ∧ some k_ ≠ (.slice Ao21 t924.length co21 : Value).ownBlock ∧ some k_ ≠ (.slice Ao31 t930.length co31 : Value).ownBlock ∧ k_ ≠ gb921 ∧ k_ ≠ gb922 ∧ k_ ≠ gb928 ∧ k_ ≠ gb934 ∧ k_ ≠ gb942) (.slice Ao81 t938.length co81) t938) := ⟨(by rw [hw]; exact (by (with_reducible repeat (first | apply Kd.N_alloc | apply Kd.N_drewN | apply Kd.N_drew)); exact Kd.N_mono (Kd.N_far (p := ⟨gb942, 1, none⟩) (Kd.N_far (p := ⟨gb942, 0, none⟩) (Kd.N_mono HO940.out (fun k_ hk => (⟨hk, hk.2⟩ : _ ∧ k_ ≠ gb942))) (fun _ hk => hk.2) (.int .i64 t937)) (fun _ hk => hk.2) (.slice Ao81 t938.length co81)) (fun _ hk => ⟨hk.1.1.1, ⟨hk.1.1.2.1, ⟨hk.1.1.2.2.1, ⟨hk.1.1.2.2.2.1, ⟨hk.1.1.2.2.2.2.1, ⟨hk.1.1.2.2.2.2.2.1, ⟨hk.1.1.2.2.2.2.2.2.1, ⟨hk.1.1.2.2.2.2.2.2.2, hk.1.2⟩⟩⟩⟩⟩⟩⟩⟩)))⟩; have n6_ : Aside0 (w82.heap[gb921]? = some (.cells #[.int .i64 t910, .slice Ao12 t911.length co12] 25 (0, 0))) := ⟨(by rw [hw]; exact (y1 NB921_942.out BK921.out))⟩; have n7_ : Aside0 (w82.heap[gb922]? = some (.cells #[.int .i64 t917, .slice Ao14 t918.length co14] 25 (0, 0))) := ⟨(by rw [hw]; exact (y1 NB922_942.out BK922.out))⟩; have n8_ : Aside0 (w82.heap[gb928]? = some (.cells #[.int .i64 t923, .slice Ao21 t924.length co21] 25 (0, 0))) := ⟨(by rw [hw]; exact (y1 NB928_942.out BK928.out))⟩; have n9_ : Aside0 (w82.heap[gb934]? = some (.cells #[.int .i64 t929, .slice Ao31 t930.length co31] 25 (0, 0))) := ⟨(by rw [hw]; exact (y1 NB934_942.out BK934.out))⟩; have n10_ : Aside0 (w82.heap[gb942]? = some (.cells #[.int .i64 t937, .slice Ao81 t938.length co81] 25 (0, 0))) := ⟨(by rw [hw]; exact (by (with_reducible repeat (first | refine blk_drewN ?_ _ | refine blk_drew ?_ | refine blk_alloc ?_ _)); refine blk_put (cs := #[.int .i64 t937, .slice none 0 0]) ?_ 1 _ rfl; (with_reducible repeat (first | refine blk_drewN ?_ _ | refine blk_drew ?_ | refine blk_alloc ?_ _)); apply blk_put (i := 0); (case h => exact y0 BK942.out); (case e => rfl)))⟩; have n11_ : Aside0 (Below w.heap.size w w82) := ⟨(by rw [hw]; exact (y14 HB.out GE921.out GE922.out GE928.out GE934.out GE942.out))⟩; clear hw; clear HO_4; clear HO_922001; clear HO_923001; clear HO_929001; clear HO_935001; clear HO940; clear BK921; clear BK922; clear BK928; clear BK934; clear BK942; clear HB; have HO_4 := n0_; have HO_922001 := n1_; have HO_923001 := n2_; have HO_929001 := n3_; have HO_935001 := n4_; have HO940 := n5_; have BK921 := n6_; have BK922 := n7_; have BK928 := n8_; have BK934 := n9_; have BK942 := n10_; have HB := n11_; clear n0_ n1_ n2_ n3_ n4_ n5_ n6_ n7_ n8_ n9_ n10_ n11_; have hnb83 := NB934_922.out; have hnc83 := NB922_934.out; have hnb84 := NB934_928.out; have hnc84 := NB928_934.out; have hcz85_0 := zh BK934; have hcz85_1 := zh1 BK934; have hfz85_0 := zfr BK934 0; have hfz85_1 := zfr BK934 1; have hcz86_0 := zh BK942; have hcz86_1 := zh1 BK942; have hfz86_0 := zfr BK942 0; have hfz86_1 := zfr BK942 1) | ((with_reducible refine gate_callee (f := 24) rfl ?_); refine goesL_ (some 70) rfl rfl Try.func24 (by kernel_rfl) rfl #[.agg #[.int .i64 t929, .slice Ao31 t930.length co31], .slice Ao15 t914.length co15, .agg #[.int .i64 t937, .slice Ao81 t938.length co81]] rfl y9 ?_; (with_reducible refine (impl_ValPut.calls kj5 t929 (fun k_ => (some k_ ≠ (.slice Ao15 t914.length co15 : Value).ownBlock ∧ (some k_ ≠ (.slice Ao21 t924.length co21 : Value).ownBlock ∧ (some k_ ≠ (.slice Ao81 t938.length co81 : Value).ownBlock ∧ (k_ ≠ gb921 ∧ (k_ ≠ gb922 ∧ (k_ ≠ gb928 ∧ (k_ ≠ gb934 ∧ k_ ≠ gb942)))))))) _ _ t930 _ _ t914 t937 (fun k_ => (some k_ ≠ (.slice Ao15 t914.length co15 : Value).ownBlock ∧ (some k_ ≠ (.slice Ao14 t918.length co14 : Value).ownBlock ∧ (some k_ ≠ (.slice Ao21 t924.length co21 : Value).ownBlock ∧ (some k_ ≠ (.slice Ao31 t930.length co31 : Value).ownBlock ∧ (k_ ≠ gb921 ∧ (k_ ≠ gb922 ∧ (k_ ≠ gb928 ∧ (k_ ≠ gb934 ∧ k_ ≠ gb942))))))))) _ _ t938 t943 t944 true _ ?side1 ?side2 ?side3 ?side4 A63.out).mono ?_); (case side1 => exact Kd.N_V (HO_935001.out)); (case side2 => exact y34 HO_4.out); (case side3 => exact (Kd.R_reads' HO_4.out).2.1); (case side4 => exact Kd.N_V (HO940.out)); rintro e w87 ⟨v945, rfl, ho0, hb⟩; refine ⟨_, rfl, ?_⟩; replace HO_922001 := Aside0.mk (Kd.N_elder' (y2 HO_922001.out) (Kd.N_base ho0) hb); replace HO_923001 := Aside0.mk (Kd.N_elder' (y2 HO_923001.out) (Kd.N_base ho0) hb); replace HO_935001 := Aside0.mk (Kd.N_elder' (y2 HO_935001.out) (Kd.N_base ho0) hb); replace HO940 := Aside0.mk (Kd.N_elder' (y2 HO940.out) (Kd.N_base ho0) hb); have HO946 := Aside0.mk (Kd.N_lower (Kd.N_mono (ok' := fun k_ => some k_ ≠ (.slice Ao15 t914.length co15 : Value).ownBlock ∧ some k_ ≠ (.slice Ao21 t924.length co21 : Value).ownBlock ∧ k_ ≠ gb921 ∧ k_ ≠ gb922 ∧ k_ ≠ gb928 ∧ k_ ≠ gb934 ∧ k_ ≠ gb942) ho0 (fun k_ hk_ => ⟨Or.elim hk_ (fun hs_ => Or.elim hs_ (fun hs_ => hs_.1) (fun hs_ => hs_.1)) (fun hn_ => (Kd.fresh' (Kd.R_lt (y8 HO_4.out)) k_ hn_)), Or.elim hk_ (fun hs_ => Or.elim hs_ (fun hs_ => hs_.2.1) (fun hs_ => hs_.2.2.1)) (fun hn_ => (Kd.fresh' (Kd.N_lt (y2 HO_929001.out)) k_ hn_)), Or.elim hk_ (fun hs_ => Or.elim hs_ (fun hs_ => hs_.2.2.2.1) (fun hs_ => hs_.2.2.2.2.1)) (fun hn_ => (Kd.freshB (g := gb921) (o := .cells #[.int .i64 t910, .slice Ao12 t911.length co12] 25 (0, 0)) (y0 BK921.out) k_ hn_)), Or.elim hk_ (fun hs_ => Or.elim hs_ (fun hs_ => hs_.2.2.2.2.1) (fun hs_ => hs_.2.2.2.2.2.1)) (fun hn_ => (Kd.freshB (g := gb922) (o := .cells #[.int .i64 t917, .slice Ao14 t918.length co14] 25 (0, 0)) (y0 BK922.out) k_ hn_)), Or.elim hk_ (fun hs_ => Or.elim hs_ (fun hs_ => hs_.2.2.2.2.2.1) (fun hs_ => hs_.2.2.2.2.2.2.1)) (fun hn_ => (Kd.freshB (g := gb928) (o := .cells #[.int .i64 t923, .slice Ao21 t924.length co21] 25 (0, 0)) (y0 BK928.out) k_ hn_)), Or.elim hk_ (fun hs_ => Or.elim hs_ (fun hs_ => hs_.2.2.2.2.2.2.1) (fun hs_ => hs_.2.2.2.2.2.2.2.1)) (fun hn_ => (Kd.freshB (g := gb934) (o := .cells #[.int .i64 t929, .slice Ao31 t930.length co31] 25 (0, 0)) (y0 BK934.out) k_ hn_)), Or.elim hk_ (fun hs_ => Or.elim hs_ (fun hs_ => hs_.2.2.2.2.2.2.2) (fun hs_ => hs_.2.2.2.2.2.2.2.2)) (fun hn_ => (Kd.freshB (g := gb942) (o := .cells #[.int .i64 t937, .slice Ao81 t938.length co81] 25 (0, 0)) (y0 BK942.out) k_ hn_))⟩)) (below_size (y14 HB.out GE921.out GE922.out GE928.out GE934.out GE942.out))); replace HO_4 := Aside0.mk (Kd.R_below (y8 HO_4.out) hb); replace HO_929001 := Aside0.mk (Kd.N_elder' (y2 HO_929001.out) (Kd.N_base ho0) hb); replace BK921 := zbb BK921 hb; replace BK922 := zbb BK922 hb; replace BK928 := zbb BK928 hb; replace BK934 := zbb BK934 hb; replace BK942 := zbb BK942 hb; replace HB := Aside0.mk (below_step (y14 HB.out GE921.out GE922.out GE928.out GE934.out GE942.out) hb); (try clear hb); (try clear hb2); (try clear hk); (try clear hi); (try clear ho0)) | ((with_reducible refine gate_dst (N := 12) rfl ?_); refine zbx 12 #[.int .i64 0, .slice none 0 0] 25 ?_; intro gb948 hg w88 hbox hb; replace HO_4 := Aside0.mk (Kd.R_below (y8 HO_4.out) hb); replace HO_922001 := Aside0.mk (Kd.N_below (Kd.N_elderB (y2 HO_922001.out) gb948 (Nat.le_of_eq hg.symm)) hb); replace HO_923001 := Aside0.mk (Kd.N_below (Kd.N_elderB (y2 HO_923001.out) gb948 (Nat.le_of_eq hg.symm)) hb); replace HO_929001 := Aside0.mk (Kd.N_below (Kd.N_elderB (y2 HO_929001.out) gb948 (Nat.le_of_eq hg.symm)) hb); replace HO_935001 := Aside0.mk (Kd.N_below (Kd.N_elderB (y2 HO_935001.out) gb948 (Nat.le_of_eq hg.symm)) hb); replace HO940 := Aside0.mk (Kd.N_below (Kd.N_elderB (y2 HO940.out) gb948 (Nat.le_of_eq hg.symm)) hb); replace HO946 := Aside0.mk (Kd.N_below (Kd.N_elderB (y2 HO946.out) gb948 (Nat.le_of_eq hg.symm)) hb); have BK948 := Aside0.mk hbox; have GW948 := Aside0.mk ((y30 hg HB.out GE921.out GE922.out GE928.out GE934.out GE942.out : w.heap.size ≤ gb948)); have GE948 := Aside0.mk ((y30 hg HB.out GE921.out GE922.out GE928.out GE934.out GE942.out : w.heap.size ≤ gb948)); replace HB := Aside0.mk (below_step (y14 HB.out GE921.out GE922.out GE928.out GE934.out GE942.out) hb); have NB921_948 := zltn hg BK921; have NB948_921 := zgtn hg BK921; replace BK921 := zbb BK921 hb; have NB922_948 := zltn hg BK922; have NB948_922 := zgtn hg BK922; replace BK922 := zbb BK922 hb; have NB928_948 := zltn hg BK928; have NB948_928 := zgtn hg BK928; replace BK928 := zbb BK928 hb; have NB934_948 := zltn hg BK934; have NB948_934 := zgtn hg BK934; replace BK934 := zbb BK934 hb; have NB942_948 := zltn hg BK942; have NB948_942 := zgtn hg BK942; replace BK942 := zbb BK942 hb; clear hb hbox hg; have hnb89 := NB948_921.out; have hnc89 := NB921_948.out; have hnb90 := NB948_922.out; have hnc90 := NB922_948.out; have hnb91 := NB948_928.out; have hnc91 := NB928_948.out; have hnb92 := NB948_934.out; have hnc92 := NB934_948.out; have hnb93 := NB948_942.out; have hnc93 := NB942_948.out; have hcz94_0 := zh BK948; have hcz94_1 := zh1 BK948; have hfz94_0 := zfr BK948 0; have hfz94_1 := zfr BK948 1; obtain ⟨Ao95, co95, eo95⟩ := Kd.N_slice HO946.out; subst eo95) | ((with_reducible refine gate_store (t := 25) (p := 12) rfl ?_); refine store_event (t := 25) (p := 12) (v := ?vo_w96) (w1 := ((w88.setCell ⟨gb948, 0, none⟩ (.int .i64 t943)).setCell ⟨gb948, 1, none⟩ (.slice Ao95 t944.length co95))) ?hg ?ho ?hn ?hr ?_; (case ho => rfl); (case hg => rfl); (case hn => rfl); (case hr => first | (go_simp; done) | (go_simp; rfl)); intro w96 hw; have n0_ : Aside0 (Kd.R (Kd.int .i64) 3 w96 w.heap.size (fun _ => True) (.slice Ao15 t914.length co15) t914) := ⟨(by rw [hw]; exact (by (with_reducible repeat (first | apply Kd.R_alloc | apply Kd.R_drewN | apply Kd.R_drew)); exact Kd.R_mono (Kd.R_far (p := ⟨gb948, 1, none⟩) (Kd.R_far (p := ⟨gb948, 0, none⟩) (Kd.R_types HO_4.out BK948.out (by decide)) (fun _ hk => hk.2) (.int .i64 t943)) (fun _ hk => hk.2) (.slice Ao95 t944.length co95)) (fun _ hk => trivial)))⟩; have n1_ : Aside0 (Kd.N k25 25 w96 w.heap.size (fun k_ => some k_ ≠ (.slice Ao15 t914.length co15 : Value).ownBlock ∧ some k_ ≠ (.slice Ao14 t918.length co14 : Value).ownBlock ∧ some k_ ≠ (.slice Ao21 t924.length co21 : Value).ownBlock ∧ some k_ ≠ (.slice Ao31 t930.length co31 : Value).ownBlock ∧ some k_ ≠ (.slice Ao81 t938.length co81 : Value).ownBlock ∧ some k_ ≠ (.slice Ao95 t944.length co95 : Value).ownBlock ∧ k_ ≠ gb921 ∧ k_ ≠ gb922 ∧ k_ ≠ gb928 ∧ k_ ≠ gb934 ∧ k_ ≠ gb942 ∧ k_ ≠ gb948) (.slice Ao12 t911.length co12) t911) := ⟨(by rw [hw]; exact (by (with_reducible repeat (first | apply Kd.N_alloc | apply Kd.N_drewN | apply Kd.N_drew)); exact Kd.N_mono (Kd.N_far (p := ⟨gb948, 1, none⟩) (Kd.N_far (p := ⟨gb948, 0, none⟩) (Kd.N_mono HO_922001.out (fun k_ hk => (⟨hk, hk.2⟩ : _ ∧ k_ ≠ gb948))) (fun _ hk => hk.2) (.int .i64 t943)) (fun _ hk => hk.2) (.slice Ao95 t944.length co95)) (fun _ hk => ⟨hk.1.1.1.1, ⟨hk.1.1.1.2.1, ⟨hk.1.1.1.2.2.1, ⟨hk.1.1.1.2.2.2.1, ⟨hk.1.1.1.2.2.2.2.1, ⟨hk.1.1.2, ⟨hk.1.1.1.2.2.2.2.2.1, ⟨hk.1.1.1.2.2.2.2.2.2.1, ⟨hk.1.1.1.2.2.2.2.2.2.2.1, ⟨hk.1.1.1.2.2.2.2.2.2.2.2.1, ⟨hk.1.1.1.2.2.2.2.2.2.2.2.2, hk.1.2⟩⟩⟩⟩⟩⟩⟩⟩⟩⟩⟩)))⟩; have n2_ : Aside0 (Kd.N k25 25 w96 w.heap.size (fun k_ => some k_ ≠ (.slice Ao15 t914.length co15 : Value).ownBlock ∧ some k_ ≠ (.slice Ao12 t911.length co12 : Value).ownBlock ∧ some k_ ≠ (.slice Ao21 t924.length co21 : Value).ownBlock ∧ some k_ ≠ (.slice Ao31 t930.length co31 : Value).ownBlock ∧ some k_ ≠ (.slice Ao81 t938.length co81 : Value).ownBlock ∧ some k_ ≠ (.slice Ao95 t944.length co95 : Value).ownBlock ∧ k_ ≠ gb921 ∧ k_ ≠ gb922 ∧ k_ ≠ gb928 ∧ k_ ≠ gb934 ∧ k_ ≠ gb942 ∧ k_ ≠ gb948) (.slice Ao14 t918.length co14) t918) := ⟨(by rw [hw]; exact (by (with_reducible repeat (first | apply Kd.N_alloc | apply Kd.N_drewN | apply Kd.N_drew)); exact Kd.N_mono (Kd.N_far (p := ⟨gb948, 1, none⟩) (Kd.N_far (p := ⟨gb948, 0, none⟩) (Kd.N_mono HO_923001.out (fun k_ hk => (⟨hk, hk.2⟩ : _ ∧ k_ ≠ gb948))) (fun _ hk => hk.2) (.int .i64 t943)) (fun _ hk => hk.2) (.slice Ao95 t944.length co95)) (fun _ hk => ⟨hk.1.1.1.1, ⟨hk.1.1.1.2.1, ⟨hk.1.1.1.2.2.1, ⟨hk.1.1.1.2.2.2.1, ⟨hk.1.1.1.2.2.2.2.1, ⟨hk.1.1.2, ⟨hk.1.1.1.2.2.2.2.2.1, ⟨hk.1.1.1.2.2.2.2.2.2.1, ⟨hk.1.1.1.2.2.2.2.2.2.2.1, ⟨hk.1.1.1.2.2.2.2.2.2.2.2.1, ⟨hk.1.1.1.2.2.2.2.2.2.2.2.2, hk.1.2⟩⟩⟩⟩⟩⟩⟩⟩⟩⟩⟩)))⟩; have n3_ : Aside0 (Kd.N k25 25 w96 w.heap.size (fun k_ => some k_ ≠ (.slice Ao15 t914.length co15 : Value).ownBlock ∧ some k_ ≠ (.slice Ao12 t911.length co12 : Value).ownBlock ∧ some k_ ≠ (.slice Ao14 t918.length co14 : Value).ownBlock ∧ some k_ ≠ (.slice Ao31 t930.length co31 : Value).ownBlock ∧ some k_ ≠ (.slice Ao81 t938.length co81 : Value).ownBlock ∧ some k_ ≠ (.slice Ao95 t944.length co95 : Value).ownBlock ∧ k_ ≠ gb921 ∧ k_ ≠ gb922 ∧ k_ ≠ gb928 ∧ k_ ≠ gb934 ∧ k_ ≠ gb942 ∧ k_ ≠ gb948) (.slice Ao21 t924.length co21) t924) := ⟨(by rw [hw]; exact (by (with_reducible repeat (first | apply Kd.N_alloc | apply Kd.N_drewN | apply Kd.N_drew)); exact Kd.N_mono (Kd.N_far (p := ⟨gb948, 1, none⟩) (Kd.N_far (p := ⟨gb948, 0, none⟩) (Kd.N_mono HO_929001.out (fun k_ hk => (⟨hk, hk.2⟩ : _ ∧ k_ ≠ gb948))) (fun _ hk => hk.2) (.int .i64 t943)) (fun _ hk => hk.2) (.slice Ao95 t944.length co95)) (fun _ hk => ⟨hk.1.1.1.1, ⟨hk.1.1.1.2.1, ⟨hk.1.1.1.2.2.1, ⟨hk.1.1.1.2.2.2.1, ⟨hk.1.1.1.2.2.2.2.1, ⟨hk.1.1.2, ⟨hk.1.1.1.2.2.2.2.2.1, ⟨hk.1.1.1.2.2.2.2.2.2.1, ⟨hk.1.1.1.2.2.2.2.2.2.2.1, ⟨hk.1.1.1.2.2.2.2.2.2.2.2.1, ⟨hk.1.1.1.2.2.2.2.2.2.2.2.2, hk.1.2⟩⟩⟩⟩⟩⟩⟩⟩⟩⟩⟩)))⟩; have n4_ : Aside0 (Kd.N k25 25 w96 w.heap.size (fun k_ => some k_ ≠ (.slice Ao15 t914.length co15 : Value).ownBlock ∧ some k_ ≠ (.slice Ao21 t924.length co21 : Value).ownBlock ∧ some k_ ≠ (.slice Ao81 t938.length co81 : Value).ownBlock ∧ some k_ ≠ (.slice Ao95 t944.length co95 : Value).ownBlock ∧ k_ ≠ gb921 ∧ k_ ≠ gb922 ∧ k_ ≠ gb928 ∧ k_ ≠ gb934 ∧ k_ ≠ gb942 ∧ k_ ≠ gb948) (.slice Ao31 t930.length co31) t930) := ⟨(by rw [hw]; exact (by (with_reducible repeat (first | apply Kd.N_alloc | apply Kd.N_drewN | apply Kd.N_drew)); exact Kd.N_mono (Kd.N_far (p := ⟨gb948, 1, none⟩) (Kd.N_far (p := ⟨gb948, 0, none⟩) (Kd.N_mono HO_935001.out (fun k_ hk => (⟨hk, hk.2⟩ : _ ∧ k_ ≠ gb948))) (fun _ hk => hk.2) (.int .i64 t943)) (fun _ hk => hk.2) (.slice Ao95 t944.length co95)) (fun _ hk => ⟨hk.1.1.1.1, ⟨hk.1.1.1.2.1, ⟨hk.1.1.1.2.2.1, ⟨hk.1.1.2, ⟨hk.1.1.1.2.2.2.1, ⟨hk.1.1.1.2.2.2.2.1, ⟨hk.1.1.1.2.2.2.2.2.1, ⟨hk.1.1.1.2.2.2.2.2.2.1, ⟨hk.1.1.1.2.2.2.2.2.2.2, hk.1.2⟩⟩⟩⟩⟩⟩⟩⟩⟩)))⟩; have n5_ : Aside0 (Kd.N k25 25 w96 w.heap.size (fun k_ => some k_ ≠ (.slice Ao15 t914.length co15 : Value).ownBlock ∧ some k_ ≠ (.slice Ao14 t918.length co14 : Value).ownBlock ∧ some k_ ≠ (.slice Ao21 t924.length co21 : Value).ownBlock ∧ some k_ ≠ (.slice Ao31 t930.length co31 : Value).ownBlock ∧ some k_ ≠ (.slice Ao95 t944.length co95 : Value).ownBlock ∧ k_ ≠ gb921 ∧ k_ ≠ gb922 ∧ k_ ≠ gb928 ∧ k_ ≠ gb934 ∧ k_ ≠ gb942 ∧ k_ ≠ gb948) (.slice Ao81 t938.length co81) t938) := ⟨(by rw [hw]; exact (by (with_reducible repeat (first | apply Kd.N_alloc | apply Kd.N_drewN | apply Kd.N_drew)); exact Kd.N_mono (Kd.N_far (p := ⟨gb948, 1, none⟩) (Kd.N_far (p := ⟨gb948, 0, none⟩) (Kd.N_mono HO940.out (fun k_ hk => (⟨hk, hk.2⟩ : _ ∧ k_ ≠ gb948))) (fun _ hk => hk.2) (.int .i64 t943)) (fun _ hk => hk.2) (.slice Ao95 t944.length co95)) (fun _ hk => ⟨hk.1.1.1.1, ⟨hk.1.1.1.2.1, ⟨hk.1.1.1.2.2.1, ⟨hk.1.1.1.2.2.2.1, ⟨hk.1.1.2, ⟨hk.1.1.1.2.2.2.2.1, ⟨hk.1.1.1.2.2.2.2.2.1, ⟨hk.1.1.1.2.2.2.2.2.2.1, ⟨hk.1.1.1.2.2.2.2.2.2.2.1, ⟨hk.1.1.1.2.2.2.2.2.2.2.2, hk.1.2⟩⟩⟩⟩⟩⟩⟩⟩⟩⟩)))⟩; have n6_ : Aside0 (Kd.N k25 25 w96 w.heap.size (fun k_ => some k_ ≠ (.slice Ao15 t914.length co15 : Value).ownBlock ∧ some k_ ≠ (.slice Ao21 t924.length co21 : Value).ownBlock ∧ k_ ≠ gb921 ∧ k_ ≠ gb922 ∧ k_ ≠ gb928 ∧ k_ ≠ gb934 ∧ k_ ≠ gb942 ∧ k_ ≠ gb948) (.slice Ao95 t944.length co95) t944) := ⟨(by rw [hw]; exact (by (with_reducible repeat (first | apply Kd.N_alloc | apply Kd.N_drewN | apply Kd.N_drew)); exact Kd.N_mono (Kd.N_far (p := ⟨gb948, 1, none⟩) (Kd.N_far (p := ⟨gb948, 0, none⟩) (Kd.N_mono HO946.out (fun k_ hk => (⟨hk, hk.2⟩ : _ ∧ k_ ≠ gb948))) (fun _ hk => hk.2) (.int .i64 t943)) (fun _ hk => hk.2) (.slice Ao95 t944.length co95)) (fun _ hk => ⟨hk.1.1.1, ⟨hk.1.1.2.1, ⟨hk.1.1.2.2.1, ⟨hk.1.1.2.2.2.1, ⟨hk.1.1.2.2.2.2.1, ⟨hk.1.1.2.2.2.2.2.1, ⟨hk.1.1.2.2.2.2.2.2, hk.1.2⟩⟩⟩⟩⟩⟩⟩)))⟩; have n7_ : Aside0 (w96.heap[gb921]? = some (.cells #[.int .i64 t910, .slice Ao12 t911.length co12] 25 (0, 0))) := ⟨(by rw [hw]; exact (y1 NB921_948.out BK921.out))⟩; have n8_ : Aside0 (w96.heap[gb922]? = some (.cells #[.int .i64 t917, .slice Ao14 t918.length co14] 25 (0, 0))) := ⟨(by rw [hw]; exact (y1 NB922_948.out BK922.out))⟩; have n9_ : Aside0 (w96.heap[gb928]? = some (.cells #[.int .i64 t923, .slice Ao21 t924.length co21] 25 (0, 0))) := ⟨(by rw [hw]; exact (y1 NB928_948.out BK928.out))⟩; have n10_ : Aside0 (w96.heap[gb934]? = some (.cells #[.int .i64 t929, .slice Ao31 t930.length co31] 25 (0, 0))) := ⟨(by rw [hw]; exact (y1 NB934_948.out BK934.out))⟩; have n11_ : Aside0 (w96.heap[gb942]? = some (.cells #[.int .i64 t937, .slice Ao81 t938.length co81] 25 (0, 0))) := ⟨(by rw [hw]; exact (y1 NB942_948.out BK942.out))⟩; have n12_ : Aside0 (w96.heap[gb948]? = some (.cells #[.int .i64 t943, .slice Ao95 t944.length co95] 25 (0, 0))) := ⟨(by rw [hw]; exact (by (with_reducible repeat (first | refine blk_drewN ?_ _ | refine blk_drew ?_ | refine blk_alloc ?_ _)); refine blk_put (cs := #[.int .i64 t943, .slice none 0 0]) ?_ 1 _ rfl; (with_reducible repeat (first | refine blk_drewN ?_ _ | refine blk_drew ?_ | refine blk_alloc ?_ _)); apply blk_put (i := 0); (case h => exact y0 BK948.out); (case e => rfl)))⟩; have n13_ : Aside0 (Below w.heap.size w w96) := ⟨(by rw [hw]; exact (y17 HB.out GE921.out GE922.out GE928.out GE934.out GE942.out GE948.out))⟩; clear hw; clear HO_4; clear HO_922001; clear HO_923001; clear HO_929001; clear HO_935001; clear HO940; clear HO946; clear BK921; clear BK922; clear BK928; clear BK934; clear BK942; clear BK948; clear HB; have HO_4 := n0_; have HO_922001 := n1_; have HO_923001 := n2_; have HO_929001 := n3_; have HO_935001 := n4_; have HO940 := n5_; have HO946 := n6_; have BK921 := n7_; have BK922 := n8_; have BK928 := n9_; have BK934 := n10_; have BK942 := n11_; have BK948 := n12_; have HB := n13_; clear n0_ n1_ n2_ n3_ n4_ n5_ n6_ n7_ n8_ n9_ n10_ n11_ n12_ n13_; have hcz97_0 := zh BK948; have hcz97_1 := zh1 BK948; have hfz97_0 := zfr BK948 0; have hfz97_1 := zfr BK948 1; have hnb98 := NB922_928.out; have hnc98 := NB928_922.out; have hcz99_0 := zh BK922; have hcz99_1 := zh1 BK922; have hfz99_0 := zfr BK922 0; have hfz99_1 := zfr BK922 1) | ((with_reducible refine gate_callee (f := 24) rfl ?_); refine goesL_ (some 77) rfl rfl Try.func24 (by kernel_rfl) rfl #[.agg #[.int .i64 t943, .slice Ao95 t944.length co95], .slice Ao15 t914.length co15, .agg #[.int .i64 t917, .slice Ao14 t918.length co14]] rfl y9 ?_; (with_reducible refine (impl_ValPut.calls kj5 t943 (fun k_ => (some k_ ≠ (.slice Ao15 t914.length co15 : Value).ownBlock ∧ (some k_ ≠ (.slice Ao21 t924.length co21 : Value).ownBlock ∧ (k_ ≠ gb921 ∧ (k_ ≠ gb922 ∧ (k_ ≠ gb928 ∧ (k_ ≠ gb934 ∧ (k_ ≠ gb942 ∧ k_ ≠ gb948)))))))) _ _ t944 _ _ t914 t917 (fun k_ => (some k_ ≠ (.slice Ao15 t914.length co15 : Value).ownBlock ∧ (some k_ ≠ (.slice Ao12 t911.length co12 : Value).ownBlock ∧ (some k_ ≠ (.slice Ao21 t924.length co21 : Value).ownBlock ∧ (some k_ ≠ (.slice Ao31 t930.length co31 : Value).ownBlock ∧ (some k_ ≠ (.slice Ao81 t938.length co81 : Value).ownBlock ∧ (some k_ ≠ (.slice Ao95 t944.length co95 : Value).ownBlock ∧ (k_ ≠ gb921 ∧ (k_ ≠ gb922 ∧ (k_ ≠ gb928 ∧ (k_ ≠ gb934 ∧ (k_ ≠ gb942 ∧ k_ ≠ gb948)))))))))))) _ _ t918 t949 t950 true _ ?side1 ?side2 ?side3 ?side4 A64.out).mono ?_); (case side1 => exact Kd.N_V (HO946.out)); (case side2 => exact y34 HO_4.out); (case side3 => exact (Kd.R_reads' HO_4.out).2.1); (case side4 => exact Kd.N_V (HO_923001.out)); rintro e w100 ⟨v951, rfl, ho0, hb⟩; refine ⟨_, rfl, ?_⟩; replace HO_922001 := Aside0.mk (Kd.N_elder' (y2 HO_922001.out) (Kd.N_base ho0) hb); replace HO_923001 := Aside0.mk (Kd.N_elder' (y2 HO_923001.out) (Kd.N_base ho0) hb); replace HO_935001 := Aside0.mk (Kd.N_elder' (y2 HO_935001.out) (Kd.N_base ho0) hb); replace HO940 := Aside0.mk (Kd.N_elder' (y2 HO940.out) (Kd.N_base ho0) hb); replace HO946 := Aside0.mk (Kd.N_elder' (y2 HO946.out) (Kd.N_base ho0) hb); have HO952 := Aside0.mk (Kd.N_lower (Kd.N_mono (ok' := fun k_ => some k_ ≠ (.slice Ao15 t914.length co15 : Value).ownBlock ∧ some k_ ≠ (.slice Ao21 t924.length co21 : Value).ownBlock ∧ k_ ≠ gb921 ∧ k_ ≠ gb922 ∧ k_ ≠ gb928 ∧ k_ ≠ gb934 ∧ k_ ≠ gb942 ∧ k_ ≠ gb948) ho0 (fun k_ hk_ => ⟨Or.elim hk_ (fun hs_ => Or.elim hs_ (fun hs_ => hs_.1) (fun hs_ => hs_.1)) (fun hn_ => (Kd.fresh' (Kd.R_lt (y8 HO_4.out)) k_ hn_)), Or.elim hk_ (fun hs_ => Or.elim hs_ (fun hs_ => hs_.2.1) (fun hs_ => hs_.2.2.1)) (fun hn_ => (Kd.fresh' (Kd.N_lt (y2 HO_929001.out)) k_ hn_)), Or.elim hk_ (fun hs_ => Or.elim hs_ (fun hs_ => hs_.2.2.1) (fun hs_ => hs_.2.2.2.2.2.2.1)) (fun hn_ => (Kd.freshB (g := gb921) (o := .cells #[.int .i64 t910, .slice Ao12 t911.length co12] 25 (0, 0)) (y0 BK921.out) k_ hn_)), Or.elim hk_ (fun hs_ => Or.elim hs_ (fun hs_ => hs_.2.2.2.1) (fun hs_ => hs_.2.2.2.2.2.2.2.1)) (fun hn_ => (Kd.freshB (g := gb922) (o := .cells #[.int .i64 t917, .slice Ao14 t918.length co14] 25 (0, 0)) (y0 BK922.out) k_ hn_)), Or.elim hk_ (fun hs_ => Or.elim hs_ (fun hs_ => hs_.2.2.2.2.1) (fun hs_ => hs_.2.2.2.2.2.2.2.2.1)) (fun hn_ => (Kd.freshB (g := gb928) (o := .cells #[.int .i64 t923, .slice Ao21 t924.length co21] 25 (0, 0)) (y0 BK928.out) k_ hn_)), Or.elim hk_ (fun hs_ => Or.elim hs_ (fun hs_ => hs_.2.2.2.2.2.1) (fun hs_ => hs_.2.2.2.2.2.2.2.2.2.1)) (fun hn_ => (Kd.freshB (g := gb934) (o := .cells #[.int .i64 t929, .slice Ao31 t930.length co31] 25 (0, 0)) (y0 BK934.out) k_ hn_)), Or.elim hk_ (fun hs_ => Or.elim hs_ (fun hs_ => hs_.2.2.2.2.2.2.1) (fun hs_ => hs_.2.2.2.2.2.2.2.2.2.2.1)) (fun hn_ => (Kd.freshB (g := gb942) (o := .cells #[.int .i64 t937, .slice Ao81 t938.length co81] 25 (0, 0)) (y0 BK942.out) k_ hn_)), Or.elim hk_ (fun hs_ => Or.elim hs_ (fun hs_ => hs_.2.2.2.2.2.2.2) (fun hs_ => hs_.2.2.2.2.2.2.2.2.2.2.2)) (fun hn_ => (Kd.freshB (g := gb948) (o := .cells #[.int .i64 t943, .slice Ao95 t944.length co95] 25 (0, 0)) (y0 BK948.out) k_ hn_))⟩)) (below_size (y17 HB.out GE921.out GE922.out GE928.out GE934.out GE942.out GE948.out))); replace HO_4 := Aside0.mk (Kd.R_below (y8 HO_4.out) hb); replace HO_929001 := Aside0.mk (Kd.N_elder' (y2 HO_929001.out) (Kd.N_base ho0) hb); replace BK921 := zbb BK921 hb; replace BK922 := zbb BK922 hb; replace BK928 := zbb BK928 hb; replace BK934 := zbb BK934 hb; replace BK942 := zbb BK942 hb; replace BK948 := zbb BK948 hb; replace HB := Aside0.mk (below_step (y17 HB.out GE921.out GE922.out GE928.out GE934.out GE942.out GE948.out) hb); (try clear hb); (try clear hb2); (try clear hk); (try clear hi); (try clear ho0)) | ((with_reducible refine gate_dst (N := 14) rfl ?_); refine zbx 14 #[.int .i64 0, .slice none 0 0] 25 ?_; intro gb954 hg w101 hbox hb; replace HO_4 := Aside0.mk (Kd.R_below (y8 HO_4.out) hb); replace HO_922001 := Aside0.mk (Kd.N_below (Kd.N_elderB (y2 HO_922001.out) gb954 (Nat.le_of_eq hg.symm)) hb); replace HO_923001 := Aside0.mk (Kd.N_below (Kd.N_elderB (y2 HO_923001.out) gb954 (Nat.le_of_eq hg.symm)) hb); replace HO_929001 := Aside0.mk (Kd.N_below (Kd.N_elderB (y2 HO_929001.out) gb954 (Nat.le_of_eq hg.symm)) hb); replace HO_935001 := Aside0.mk (Kd.N_below (Kd.N_elderB (y2 HO_935001.out) gb954 (Nat.le_of_eq hg.symm)) hb); replace HO940 := Aside0.mk (Kd.N_below (Kd.N_elderB (y2 HO940.out) gb954 (Nat.le_of_eq hg.symm)) hb); replace HO946 := Aside0.mk (Kd.N_below (Kd.N_elderB (y2 HO946.out) gb954 (Nat.le_of_eq hg.symm)) hb); replace HO952 := Aside0.mk (Kd.N_below (Kd.N_elderB (y2 HO952.out) gb954 (Nat.le_of_eq hg.symm)) hb); have BK954 := Aside0.mk hbox; have GW954 := Aside0.mk ((y75 hg HB.out GE921.out GE922.out GE928.out GE934.out GE942.out GE948.out : w.heap.size ≤ gb954)); have GE954 := Aside0.mk ((y75 hg HB.out GE921.out GE922.out GE928.out GE934.out GE942.out GE948.out : w.heap.size ≤ gb954)); replace HB := Aside0.mk (below_step (y17 HB.out GE921.out GE922.out GE928.out GE934.out GE942.out GE948.out) hb); have NB921_954 := zltn hg BK921; have NB954_921 := zgtn hg BK921; replace BK921 := zbb BK921 hb; have NB922_954 := zltn hg BK922; have NB954_922 := zgtn hg BK922; replace BK922 := zbb BK922 hb; have NB928_954 := zltn hg BK928; have NB954_928 := zgtn hg BK928; replace BK928 := zbb BK928 hb; have NB934_954 := zltn hg BK934; have NB954_934 := zgtn hg BK934; replace BK934 := zbb BK934 hb; have NB942_954 := zltn hg BK942; have NB954_942 := zgtn hg BK942; replace BK942 := zbb BK942 hb; have NB948_954 := zltn hg BK948; have NB954_948 := zgtn hg BK948; replace BK948 := zbb BK948 hb; clear hb hbox hg; have hnb102 := NB954_921.out; have hnc102 := NB921_954.out; have hnb103 := NB954_922.out; have hnc103 := NB922_954.out; have hnb104 := NB954_928.out; have hnc104 := NB928_954.out; have hnb105 := NB954_934.out; have hnc105 := NB934_954.out; have hnb106 := NB954_942.out; have hnc106 := NB942_954.out; have hnb107 := NB954_948.out; have hnc107 := NB948_954.out; have hcz108_0 := zh BK954; have hcz108_1 := zh1 BK954; have hfz108_0 := zfr BK954 0; have hfz108_1 := zfr BK954 1; obtain ⟨Ao109, co109, eo109⟩ := Kd.N_slice HO952.out; subst eo109; have hcz110_0 := zh BK948; have hcz110_1 := zh1 BK948; have hfz110_0 := zfr BK948 0; have hfz110_1 := zfr BK948 1; have hcz111_0 := zh BK921; have hcz111_1 := zh1 BK921; have hfz111_0 := zfr BK921 0; have hfz111_1 := zfr BK921 1) | (go_at_call 15; (with_reducible refine (laws_lhVal.calls kj5 t943 _ _ t944 t910 _ _ t911 true _ ?side1 ?side2 ?side3 ?side4 A67.out).mono ?_); (case side1 => refine (Kd.N_reads' (e := 25) (base := w.heap.size) (ok := fun k_ => (((some k_ ≠ (.slice Ao15 t914.length co15 : Value).ownBlock ∧ (some k_ ≠ (.slice Ao21 t924.length co21 : Value).ownBlock ∧ (k_ ≠ gb921 ∧ (k_ ≠ gb922 ∧ (k_ ≠ gb928 ∧ (k_ ≠ gb934 ∧ (k_ ≠ gb942 ∧ k_ ≠ gb948))))))) ∧ some k_ ≠ (.slice Ao109 t950.length co109 : Value).ownBlock) ∧ k_ ≠ gb954)) (n := t944.length) (c := co95) ?_).2.2; exact (by (with_reducible repeat (first | apply Kd.N_alloc | apply Kd.N_drewN | apply Kd.N_drew)); exact (Kd.N_mono (Kd.N_far (p := ⟨gb954, 1, none⟩) (Kd.N_far (p := ⟨gb954, 0, none⟩) (Kd.N_mono HO946.out (fun k_ hk => (⟨hk, hk.2⟩ : _ ∧ k_ ≠ gb954))) (fun _ hk => hk.2) (.int .i64 t949)) (fun _ hk => hk.2) (.slice Ao109 t950.length co109)) (fun _ h_ => h_.1)))); (case side2 => exact (Kd.N_reads' HO946.out).2.1); (case side3 => refine (Kd.N_reads' (e := 25) (base := w.heap.size) (ok := fun k_ => (((some k_ ≠ (.slice Ao15 t914.length co15 : Value).ownBlock ∧ (some k_ ≠ (.slice Ao14 t918.length co14 : Value).ownBlock ∧ (some k_ ≠ (.slice Ao21 t924.length co21 : Value).ownBlock ∧ (some k_ ≠ (.slice Ao31 t930.length co31 : Value).ownBlock ∧ (some k_ ≠ (.slice Ao81 t938.length co81 : Value).ownBlock ∧ (some k_ ≠ (.slice Ao95 t944.length co95 : Value).ownBlock ∧ (k_ ≠ gb921 ∧ (k_ ≠ gb922 ∧ (k_ ≠ gb928 ∧ (k_ ≠ gb934 ∧ (k_ ≠ gb942 ∧ k_ ≠ gb948))))))))))) ∧ some k_ ≠ (.slice Ao109 t950.length co109 : Value).ownBlock) ∧ k_ ≠ gb954)) (n := t911.length) (c := co12) ?_).2.2; exact (by (with_reducible repeat (first | apply Kd.N_alloc | apply Kd.N_drewN | apply Kd.N_drew)); exact (Kd.N_mono (Kd.N_far (p := ⟨gb954, 1, none⟩) (Kd.N_far (p := ⟨gb954, 0, none⟩) (Kd.N_mono HO_922001.out (fun k_ hk => (⟨hk, hk.2⟩ : _ ∧ k_ ≠ gb954))) (fun _ hk => hk.2) (.int .i64 t949)) (fun _ hk => hk.2) (.slice Ao109 t950.length co109)) (fun _ h_ => h_.1)))); (case side4 => exact (Kd.N_reads' HO_922001.out).2.1); rintro e w112 ⟨rfl, hb⟩; replace HO_4 := Aside0.mk (Kd.R_below (by (with_reducible repeat (first | apply Kd.R_alloc | apply Kd.R_drewN | apply Kd.R_drew)); exact (Kd.R_mono (Kd.R_far (p := ⟨gb954, 1, none⟩) (Kd.R_far (p := ⟨gb954, 0, none⟩) (Kd.R_types HO_4.out BK954.out (by decide)) (fun _ hk => hk.2) (.int .i64 t949)) (fun _ hk => hk.2) (.slice Ao109 t950.length co109)) (fun _ h_ => h_.1))) hb); replace HO_922001 := Aside0.mk (Kd.N_below (by (with_reducible repeat (first | apply Kd.N_alloc | apply Kd.N_drewN | apply Kd.N_drew)); exact (Kd.N_mono (Kd.N_far (p := ⟨gb954, 1, none⟩) (Kd.N_far (p := ⟨gb954, 0, none⟩) (Kd.N_mono HO_922001.out (fun k_ hk => (⟨hk, hk.2⟩ : _ ∧ k_ ≠ gb954))) (fun _ hk => hk.2) (.int .i64 t949)) (fun _ hk => hk.2) (.slice Ao109 t950.length co109)) (fun _ h_ => h_.1))) hb); replace HO_923001 := Aside0.mk (Kd.N_below (by (with_reducible repeat (first | apply Kd.N_alloc | apply Kd.N_drewN | apply Kd.N_drew)); exact (Kd.N_mono (Kd.N_far (p := ⟨gb954, 1, none⟩) (Kd.N_far (p := ⟨gb954, 0, none⟩) (Kd.N_mono HO_923001.out (fun k_ hk => (⟨hk, hk.2⟩ : _ ∧ k_ ≠ gb954))) (fun _ hk => hk.2) (.int .i64 t949)) (fun _ hk => hk.2) (.slice Ao109 t950.length co109)) (fun _ h_ => h_.1))) hb); replace HO_929001 := Aside0.mk (Kd.N_below (by (with_reducible repeat (first | apply Kd.N_alloc | apply Kd.N_drewN | apply Kd.N_drew)); exact (Kd.N_mono (Kd.N_far (p := ⟨gb954, 1, none⟩) (Kd.N_far (p := ⟨gb954, 0, none⟩) (Kd.N_mono HO_929001.out (fun k_ hk => (⟨hk, hk.2⟩ : _ ∧ k_ ≠ gb954))) (fun _ hk => hk.2) (.int .i64 t949)) (fun _ hk => hk.2) (.slice Ao109 t950.length co109)) (fun _ h_ => h_.1))) hb); replace HO_935001 := Aside0.mk (Kd.N_below (by (with_reducible repeat (first | apply Kd.N_alloc | apply Kd.N_drewN | apply Kd.N_drew)); exact (Kd.N_mono (Kd.N_far (p := ⟨gb954, 1, none⟩) (Kd.N_far (p := ⟨gb954, 0, none⟩) (Kd.N_mono HO_935001.out (fun k_ hk => (⟨hk, hk.2⟩ : _ ∧ k_ ≠ gb954))) (fun _ hk => hk.2) (.int .i64 t949)) (fun _ hk => hk.2) (.slice Ao109 t950.length co109)) (fun _ h_ => h_.1))) hb); replace HO940 := Aside0.mk (Kd.N_below (by (with_reducible repeat (first | apply Kd.N_alloc | apply Kd.N_drewN | apply Kd.N_drew)); exact (Kd.N_mono (Kd.N_far (p := ⟨gb954, 1, none⟩) (Kd.N_far (p := ⟨gb954, 0, none⟩) (Kd.N_mono HO940.out (fun k_ hk => (⟨hk, hk.2⟩ : _ ∧ k_ ≠ gb954))) (fun _ hk => hk.2) (.int .i64 t949)) (fun _ hk => hk.2) (.slice Ao109 t950.length co109)) (fun _ h_ => h_.1))) hb); replace HO946 := Aside0.mk (Kd.N_below (by (with_reducible repeat (first | apply Kd.N_alloc | apply Kd.N_drewN | apply Kd.N_drew)); exact (Kd.N_mono (Kd.N_far (p := ⟨gb954, 1, none⟩) (Kd.N_far (p := ⟨gb954, 0, none⟩) (Kd.N_mono HO946.out (fun k_ hk => (⟨hk, hk.2⟩ : _ ∧ k_ ≠ gb954))) (fun _ hk => hk.2) (.int .i64 t949)) (fun _ hk => hk.2) (.slice Ao109 t950.length co109)) (fun _ h_ => h_.1))) hb); replace HO952 := Aside0.mk (Kd.N_below (by (with_reducible repeat (first | apply Kd.N_alloc | apply Kd.N_drewN | apply Kd.N_drew)); exact (Kd.N_mono (Kd.N_far (p := ⟨gb954, 1, none⟩) (Kd.N_far (p := ⟨gb954, 0, none⟩) (Kd.N_mono HO952.out (fun k_ hk => (⟨hk, hk.2⟩ : _ ∧ k_ ≠ gb954))) (fun _ hk => hk.2) (.int .i64 t949)) (fun _ hk => hk.2) (.slice Ao109 t950.length co109)) (fun _ h_ => h_.1))) hb); replace BK921 := Aside0.mk (blk_below (g := gb921) (o := .cells #[.int .i64 t910, .slice Ao12 t911.length co12] 25 (0, 0)) (y1 NB921_954.out BK921.out) hb); replace BK922 := Aside0.mk (blk_below (g := gb922) (o := .cells #[.int .i64 t917, .slice Ao14 t918.length co14] 25 (0, 0)) (y1 NB922_954.out BK922.out) hb); replace BK928 := Aside0.mk (blk_below (g := gb928) (o := .cells #[.int .i64 t923, .slice Ao21 t924.length co21] 25 (0, 0)) (y1 NB928_954.out BK928.out) hb); replace BK934 := Aside0.mk (blk_below (g := gb934) (o := .cells #[.int .i64 t929, .slice Ao31 t930.length co31] 25 (0, 0)) (y1 NB934_954.out BK934.out) hb); replace BK942 := Aside0.mk (blk_below (g := gb942) (o := .cells #[.int .i64 t937, .slice Ao81 t938.length co81] 25 (0, 0)) (y1 NB942_954.out BK942.out) hb); replace BK948 := Aside0.mk (blk_below (g := gb948) (o := .cells #[.int .i64 t943, .slice Ao95 t944.length co95] 25 (0, 0)) (y1 NB948_954.out BK948.out) hb); replace BK954 := Aside0.mk (blk_below (g := gb954) (o := .cells #[.int .i64 t949, .slice Ao109 t950.length co109] 25 (0, 0)) (by (with_reducible repeat (first | refine blk_drewN ?_ _ | refine blk_drew ?_ | refine blk_alloc ?_ _)); refine blk_put (cs := #[.int .i64 t949, .slice none 0 0]) ?_ 1 _ rfl; (with_reducible repeat (first | refine blk_drewN ?_ _ | refine blk_drew ?_ | refine blk_alloc ?_ _)); apply blk_put (i := 0); (case h => exact y0 BK954.out); (case e => rfl)) hb); replace HB := Aside0.mk (below_step (y59 HB.out GE921.out GE922.out GE928.out GE934.out GE942.out GE948.out GE954.out) hb); (try clear hb); (try clear hb2); (try clear hk); (try clear hi); have hcz113_0 := zh BK954; have hcz113_1 := zh1 BK954; have hfz113_0 := zfr BK954 0; have hfz113_1 := zfr BK954 1; have hcz114_0 := zh BK934; have hcz114_1 := zh1 BK934; have hfz114_0 := zfr BK934 0; have hfz114_1 := zfr BK934 1) | (go_at_call 15; (with_reducible refine (laws_lhVal.calls kj5 t949 _ _ t950 t929 _ _ t930 t956 _ ?side1 ?side2 ?side3 ?side4 A69.out).mono ?_); (case side1 => exact y36 HO952.out); (case side2 => exact (Kd.N_reads' HO952.out).2.1); (case side3 => exact y36 HO_935001.out); (case side4 => exact (Kd.N_reads' HO_935001.out).2.1); rintro e w115 ⟨rfl, hb⟩; replace HO_4 := Aside0.mk (Kd.R_below (y8 HO_4.out) hb); replace HO_922001 := Aside0.mk (Kd.N_below (y2 HO_922001.out) hb); replace HO_923001 := Aside0.mk (Kd.N_below (y2 HO_923001.out) hb); replace HO_929001 := Aside0.mk (Kd.N_below (y2 HO_929001.out) hb); replace HO_935001 := Aside0.mk (Kd.N_below (y2 HO_935001.out) hb); replace HO940 := Aside0.mk (Kd.N_below (y2 HO940.out) hb); replace HO946 := Aside0.mk (Kd.N_below (y2 HO946.out) hb); replace HO952 := Aside0.mk (Kd.N_below (y2 HO952.out) hb); replace BK921 := zbb BK921 hb; replace BK922 := zbb BK922 hb; replace BK928 := zbb BK928 hb; replace BK934 := zbb BK934 hb; replace BK942 := zbb BK942 hb; replace BK948 := zbb BK948 hb; replace BK954 := zbb BK954 hb; replace HB := Aside0.mk (below_step (y59 HB.out GE921.out GE922.out GE928.out GE934.out GE942.out GE948.out GE954.out) hb); (try clear hb); (try clear hb2); (try clear hk); (try clear hi)))
        go_ret
        exact ⟨y15, (y59 HB.out GE921.out GE922.out GE928.out GE934.out GE942.out GE948.out GE954.out)⟩
       ·replace c68 := Bool.eq_false_iff.mpr c68
        subst c68
        rw [if_neg (show ¬ (false = true) by decide)] at H
        exact absurd ((Option.some.inj H).trans hr_.out) (by decide)
      ·replace c66 := Bool.eq_false_iff.mpr c66
       subst c66
       rw [if_neg (show ¬ (false = true) by decide)] at H
       exact absurd ((Option.some.inj H).trans hr_.out) (by decide)
     ·replace c65 := Bool.eq_false_iff.mpr c65
      subst c65
      rw [if_neg (show ¬ (false = true) by decide)] at H
      exact absurd ((Option.some.inj H).trans hr_.out) (by decide)
def laws_FnValTwice.Pure : Prop := ∀ (l0 : List Int), l0.length ≤ maxLen → l0.length * 1 ≤ 140737488351232 → (∀ x ∈ l0, (Lit.int .u8 x).wf = true) → ∃ k, laws_FnValTwice.f k l0 = some true
theorem laws_FnValTwice.walk (P : laws_FnValTwice.Pure) (a0 : Option Addr) (len0 cap0 : Nat) (z0 : List Int) (w : World) (w0 : (a0 = none ∧ len0 = 0 ∧ cap0 = 0 ∧ z0 = []) ∨ ∃ x, a0 = some x ∧ len0 ≤ cap0 ∧ cap0 ≤ maxLen ∧ z0.length = cap0 ∧ (∀ i, i < z0.length → w.cell? (x.add i) = some (.int .u8 (z0.getD i 0))) ∧ ∀ n ∈ z0, (Lit.int .u8 n).wf = true) (y0 : len0 * 1 ≤ 140737488351232) :
  Calls Try.prog 9 #[.slice a0 len0 cap0] w fun e w' => e = .returned (.bool true) ∧ Below w.heap.size w w' := by
 obtain ⟨l0, rfl, hr0, hm0, hw0, hc0⟩ := ReadsInt.ofRowC w0
 obtain ⟨k, h⟩ := P l0 hm0 y0 hw0
 refine (laws_FnValTwice.calls k _ _ l0 true w (Kd.C_of_reads (d := (0 : Int)) (h1 := fun _ => rfl) hr0) hc0 h ⟨rfl⟩).mono ?_
 rintro e w' ⟨rfl, hd⟩
 exact ⟨rfl, hd⟩
end Go.Proofs.Ythfflieeifakdaa.PA
end
section
namespace Go.Proofs.Ythfflieeifakdaa.Draw
open Go.RowKit Go.Proofs.Ythfflieeifakdaa.PA Go.Proofs.YthfflieeifakdaaW.PrintWords Go.Proofs.YthfflieeifakdaaW.PrintLast
def Bytes (s : List Int) : Prop := s.length ≤ 2000 ∧ ∀ x ∈ s, 0 ≤ x ∧ x ≤ 255
theorem rd_byte {s : List Int} (h : Bytes s) (i : Int) : 0 ≤ rd s i ∧ rd s i ≤ 255 := by
  unfold rd
  rw [List.getD_eq_getElem?_getD]
  cases e : s[i.toNat]? with
  | none => simp
  | some x => exact h.2 x (List.mem_of_getElem? e)
theorem w64 {x : Int} (h0 : -9223372036854775808 ≤ x) (h1 : x ≤ 9223372036854775807) : wrap64 x = x := by unfold wrap64; omega
theorem w01 : wrap64 (0 + 1) = 1 := by rw [w64 (by omega) (by omega)]; rfl
theorem w12 : wrap64 (1 + 1) = 2 := by rw [w64 (by omega) (by omega)]; rfl
theorem xor_nonneg (a b : Nat) (ha : a < 2 ^ 62) (hb : b < 2 ^ 62) : 0 ≤ Go.bits .xor .i64 a b := by
  have hp : (2 : Nat) ^ 62 ≤ 2 ^ IntKind.i64.bits := Nat.pow_le_pow_right (by decide) (by decide)
  have ha' : a % 2 ^ IntKind.i64.bits = a := Nat.mod_eq_of_lt (Nat.lt_of_lt_of_le ha hp)
  have hb' : b % 2 ^ IntKind.i64.bits = b := Nat.mod_eq_of_lt (Nat.lt_of_lt_of_le hb hp)
  simp only [Go.bits, BitVec.ofInt_natCast, BitVec.toNat_xor, BitVec.toNat_ofNat, ha', hb']
  rw [IntKind.wrap_i64]
  have := Nat.xor_lt_two_pow ha hb
  omega
theorem xor_nonneg' (x y : Int) (hx : 0 ≤ x) (hx1 : x < 4611686018427387904) (hy : 0 ≤ y) (hy1 : y < 4611686018427387904) : 0 ≤ Go.bits .xor .i64 x y := by
  obtain ⟨a, rfl⟩ := Int.eq_ofNat_of_zero_le hx
  obtain ⟨b, rfl⟩ := Int.eq_ofNat_of_zero_le hy
  exact xor_nonneg a b (by omega) (by omega)
theorem tmod_range (x n : Int) (hx : 0 ≤ x) (hn : 1 ≤ n) : 0 ≤ Int.tmod x n ∧ Int.tmod x n < n := by
  rw [Int.tmod_eq_emod_of_nonneg hx]
  exact ⟨Int.emod_nonneg _ (by omega), Int.emod_lt_of_pos _ (by omega)⟩
theorem tdiv_range (x n : Int) (hx : 0 ≤ x) (hn : 1 ≤ n) : 0 ≤ Int.tdiv x n ∧ Int.tdiv x n ≤ x := by
  rw [Int.tdiv_eq_ediv_of_nonneg hx]
  exact ⟨Int.ediv_nonneg hx (by omega), Int.ediv_le_self _ hx⟩
theorem pick_ev (s : List Int) (hs : Bytes s) (p n : Int) (hp : 0 ≤ p) (hp1 : p ≤ 1099511627776) (hn : 1 ≤ n) :
    ∃ r, (∀ k, 2 ≤ k → spec_l6Rd_pick.f k s p n = some (r, p + 1)) ∧ 0 ≤ r ∧ r < n := by
  have e1 : wrap64 (p + 1) = p + 1 := w64 (by omega) (by omega)
  have e2 : wrap64 (p + 1 - 1) = p := by rw [w64 (by omega) (by omega)]; omega
  by_cases h0 : (s.length : Int) = 0
  · refine ⟨0, fun k hk => ?_, by omega, by omega⟩
    obtain ⟨k, rfl⟩ : ∃ m, k = m + 1 := ⟨k - 1, by omega⟩
    simp only [spec_l6Rd_pick.f]
    rw [if_neg (by omega), e1, show ((s.length : Int) == 0) = true from beq_iff_eq.2 h0]
    simp only [spec_l6Rd_pick.j0, if_true]
  have hl : 0 < s.length := by omega
  have hl2 := hs.1
  have hb : ((s.length : Int) == 0) = false := by simpa using h0
  by_cases hlt : p < (s.length : Int)
  · have hr := rd_byte hs p
    have hq := tmod_range (rd s p) n hr.1 hn
    refine ⟨_, fun k hk => ?_, hq.1, hq.2⟩
    obtain ⟨k, rfl⟩ : ∃ m, k = m + 1 := ⟨k - 1, by omega⟩
    simp only [spec_l6Rd_pick.f]
    rw [if_neg (by omega), e1, hb]
    simp only [spec_l6Rd_pick.j0, e2]
    rw [if_neg (by simp), if_pos hlt, if_pos hp, if_neg (by omega), w64 (by omega) (by omega)]
  · have m1 := tmod_range p (s.length : Int) hp (by omega)
    have e3 : wrap64 (p * 7) = p * 7 := w64 (by omega) (by omega)
    have e4 : wrap64 (p * 7 + 3) = p * 7 + 3 := w64 (by omega) (by omega)
    have m2 := tmod_range (p * 7 + 3) (s.length : Int) (by omega) (by omega)
    have d1 := tdiv_range p (s.length : Int) hp (by omega)
    have r1 := rd_byte hs (Int.tmod p (s.length : Int))
    have r2 := rd_byte hs (Int.tmod (p * 7 + 3) (s.length : Int))
    generalize ha : rd s (Int.tmod p (s.length : Int)) = a at *
    generalize hc : rd s (Int.tmod (p * 7 + 3) (s.length : Int)) = c at *
    generalize hd : Int.tdiv p (s.length : Int) = d at *
    have e5 : wrap64 (wrap64 (wrap64 (wrap64 (wrap64 a * 131) + wrap64 (wrap64 c * 1117)) + wrap64 (p * 29)) + wrap64 (wrap64 d * 53)) = a * 131 + c * 1117 + p * 29 + d * 53 := by
      rw [w64 (x := a) (by omega) (by omega), w64 (x := c) (by omega) (by omega), w64 (x := d) (by omega) (by omega), w64 (x := a * 131) (by omega) (by omega), w64 (x := c * 1117) (by omega) (by omega), w64 (x := d * 53) (by omega) (by omega), w64 (x := p * 29) (by omega) (by omega), w64 (x := a * 131 + c * 1117) (by omega) (by omega), w64 (x := a * 131 + c * 1117 + p * 29) (by omega) (by omega), w64 (by omega) (by omega)]
    generalize hx : a * 131 + c * 1117 + p * 29 + d * 53 = x at *
    have d2 := tdiv_range x 64 (by omega) (by omega)
    have e6 : wrap64 (Int.tdiv x 64) = Int.tdiv x 64 := w64 (by omega) (by omega)
    have hxor := xor_nonneg' x (Int.tdiv x 64) (by omega) (by omega) d2.1 (by omega)
    have hq := tmod_range (Go.bits .xor .i64 x (Int.tdiv x 64)) n hxor hn
    refine ⟨_, fun k hk => ?_, hq.1, hq.2⟩
    obtain ⟨k, rfl⟩ : ∃ m, k = m + 1 := ⟨k - 1, by omega⟩
    simp only [spec_l6Rd_pick.f]
    rw [if_neg (by omega), e1, hb]
    simp only [spec_l6Rd_pick.j0, e2, e3, e4, ha, hc, hd, e5, e6]
    rw [if_neg (by simp), if_neg hlt, if_neg h0, if_pos m1.1, if_pos m1.2, if_pos m2.1, if_pos m2.2, if_neg (by omega)]
theorem open_ev (l : List Int) (h : ∀ x ∈ l, (Lit.int .u8 x).wf = true) : ∃ s, spec_l6Open.f l = some (s, 0) ∧ Bytes s := by
  have hb : ∀ x ∈ l, 0 ≤ x ∧ x ≤ 255 := fun x hx => bounds_u8 (h x hx)
  unfold spec_l6Open.f
  by_cases hl : (l.length : Int) > 2000
  · rw [if_pos hl, if_pos (by omega)]
    exact ⟨_, rfl, by rw [List.length_take]; omega, fun x hx => hb x (List.mem_of_mem_take hx)⟩
  · rw [if_neg hl]
    exact ⟨_, rfl, by omega, hb⟩
def Dph : Nat → List S50 → Prop
  | 0, l => l = []
  | n + 1, l => ∀ x ∈ l, Dph n x.f0
theorem dph_nil (n : Nat) : Dph n [] := by cases n <;> simp [Dph]
theorem type_ev (s : List Int) (hs : Bytes s) : ∀ (d : Nat), d ≤ 1000 → ∀ (p : Int), 0 ≤ p → p + 2 ^ d ≤ 1099511627776 →
    ∃ r q, (∀ k, 3 * d + 4 ≤ k → spec_l71Type.f k s p d = some (r, q)) ∧ r.length ≤ 2 ∧ p ≤ q ∧ q + 1 ≤ p + 2 ^ d ∧ Dph d r := by
  intro d
  induction d with
  | zero =>
    intro hd p hp hp1
    refine ⟨[], p, fun k hk => ?_, by simp, by omega, by simp, dph_nil _⟩
    obtain ⟨k, rfl⟩ : ∃ m, k = m + 2 := ⟨k - 2, by omega⟩
    simp only [spec_l71Type.f]
    rw [if_pos (by omega)]
    simp only [spec_l71Type.j0, if_true]
  | succ d ih =>
    intro hd p hp hp1
    have hpow : (2 : Int) ^ (d + 1) = 2 ^ d + 2 ^ d := by rw [Int.pow_succ]; omega
    have hpos : (1 : Int) ≤ 2 ^ d := by have := Int.pow_pos (n := 2) (m := d) (by decide); omega
    rw [hpow] at hp1 ⊢
    generalize (2 : Int) ^ d = e at *
    by_cases h2 : (((d + 1 : Nat) : Int)) < 2
    · refine ⟨[], p, fun k hk => ?_, by simp, by omega, by omega, dph_nil _⟩
      obtain ⟨k, rfl⟩ : ∃ m, k = m + 2 := ⟨k - 2, by omega⟩
      simp only [spec_l71Type.f]
      rw [if_pos h2]
      simp only [spec_l71Type.j0, if_true]
    · obtain ⟨r, hr, hr0, hr1⟩ := pick_ev s hs p 3 hp (by omega) (by omega)
      by_cases hrp : r > 0
      · refine ⟨[], p + 1, fun k hk => ?_, by simp, by omega, by omega, dph_nil _⟩
        obtain ⟨k, rfl⟩ : ∃ m, k = m + 2 := ⟨k - 2, by omega⟩
        simp only [spec_l71Type.f]
        rw [if_neg h2, hr (k + 1) (by omega)]
        simp only [Option.bind_some, spec_l71Type.j0]
        rw [if_pos (by simpa using hrp)]
      · obtain ⟨a, q1, h1, _, hq1, hq1', da⟩ := ih (by omega) (p + 1) (by omega) (by omega)
        obtain ⟨b, q2, h3, _, hq2, hq2', db⟩ := ih (by omega) q1 (by omega) (by omega)
        have ew : wrap64 (((d + 1 : Nat) : Int) - 1) = (d : Int) := by
          rw [w64 (by omega) (by omega)]; omega
        refine ⟨[⟨a⟩, ⟨b⟩], q2, fun k hk => ?_, by simp, by omega, by omega, ?_⟩
        rotate_left
        · intro x hx
          rcases List.mem_cons.1 hx with rfl | hx
          · exact da
          · rw [List.mem_singleton.1 hx]; exact db
        · obtain ⟨k, rfl⟩ : ∃ m, k = m + 2 := ⟨k - 2, by omega⟩
          simp only [spec_l71Type.f]
          rw [if_neg h2, hr (k + 1) (by omega)]
          simp only [Option.bind_some, spec_l71Type.j0]
          rw [if_neg (by simpa using hrp), ew, h1 k (by omega)]
          simp only [Option.bind_some]
          rw [h3 k (by omega)]
          simp only [Option.bind_some]
end Go.Proofs.Ythfflieeifakdaa.Draw
end
section
namespace Go.Proofs.Ythfflieeifakdaa.PA
open Go.RowKit Go.Proofs.YthfflieeifakdaaW.PrintWords Go.Proofs.YthfflieeifakdaaW.PrintLast Go.Proofs.YthfflieeifakdaaW.PrintMore
attribute [local go_sem] max2_int min2_int max_two min_two max_three min_three max_four min_four
set_option linter.unusedVariables false
set_option linter.unusedSimpArgs false
def impl_typeFits.f : Nat → List (S50) → Int → Option (Bool)
 | 0, _, _ => none
 | k + 1, l0_0, a1 => if a1 < 1 then (some false) else (if (l0_0.length : Int) = 0 then (some true) else (if (l0_0.length : Int) = 2 then (if 0 < (l0_0.length : Int) then ((impl_typeFits.f k ((rd_T50 l0_0 0).f0) (wrap64 (a1 - 1))).bind fun t1097 => (if t1097 = true then (if 1 < (l0_0.length : Int) then ((impl_typeFits.f k ((rd_T50 l0_0 1).f0) (wrap64 (a1 - 1))).bind fun t1099 => (some t1099)) else (none)) else (some false))) else (none)) else (some false)))
theorem impl_typeFits.mono_l : ∀ k, (∀ y0 y1, LeO (impl_typeFits.f k y0 y1) (impl_typeFits.f (k + 1) y0 y1))
 | 0 => fun _ _ r h => by simp [impl_typeFits.f] at h
 | k + 1 => by
  have ih0 := impl_typeFits.mono_l k
  ·intro y0 y1
   unfold impl_typeFits.f
   repeat' first
   | (with_reducible exact ih0 _ _)
   | (with_reducible exact LeO.refl _)
   | (with_reducible exact LeO.none _)
   | (with_reducible refine LeO.ite ?_ ?_)
   | (with_reducible refine LeO.bind ?_ (fun _ => ?_))
   | exact ih0 _ _
   | exact LeO.none _
   | refine LeO.ite ?_ ?_
   | refine LeO.bind ?_ (fun _ => ?_)
theorem impl_typeFits.mono : ∀ a0 a1 k, LeO (impl_typeFits.f k a0 a1) (impl_typeFits.f (k + 1) a0 a1) := by
 intro a0 a1 k
 have ih0 := impl_typeFits.mono_l k
 exact ih0 a0 a1
set_option maxHeartbeats 8000000 in
set_option maxRecDepth 100000 in
theorem impl_typeFits.calls (k : Nat) : ∀ (A0_0 : Option Addr) (c0_0 : Nat) (l0_0 : List (S50)) (a1 : Int) (r : Bool) (w : World) (hr0_0 : Kd.C k50 w A0_0 l0_0.length l0_0) (hc0_0 : l0_0.length ≤ c0_0) (h : impl_typeFits.f k l0_0 a1 = some r),
  Calls Try.prog 59 #[.agg #[.slice A0_0 l0_0.length c0_0], .int .i64 a1] w fun e w' => e = .returned (.bool r) ∧ Below w.heap.size w w' := by
 induction k using Nat.strongRecOn with
 | _ k ih =>
 intro A0_0 c0_0 l0_0 a1 r w hr0_0 hc0_0 h
 cases k with
 | zero => exact absurd h (by simp [impl_typeFits.f])
 | succ k =>
 simp only [impl_typeFits.f] at h
 have hu50 := Try.underlying50
 have HR0_0 := Aside0.mk hr0_0
 have HC0_0 := Aside0.mk hc0_0
 clear hr0_0 hc0_0
 have HB := Aside0.mk (Below.refl w.heap.size w)
 have H : (if a1 < 1 then (some false) else (if (l0_0.length : Int) = 0 then (some true) else (if (l0_0.length : Int) = 2 then (if 0 < (l0_0.length : Int) then ((impl_typeFits.f k ((rd_T50 l0_0 0).f0) (wrap64 (a1 - 1))).bind fun t1097 => (if t1097 = true then (if 1 < (l0_0.length : Int) then ((impl_typeFits.f k ((rd_T50 l0_0 1).f0) (wrap64 (a1 - 1))).bind fun t1099 => (some t1099)) else (none)) else (some false))) else (none)) else (some false)))) = some r := h
 clear h
 have HZ3 := Aside0.mk H
 clear H
 go_enter Try.func59, Try.ntmps59
 go_upto_if 6 with (first | ((with_reducible refine gate_dst (N := 2) rfl ?_); refine zbx 2 #[.slice A0_0 l0_0.length c0_0] 50 ?_; intro gb1095 hg w4 hbox hb; have BK1095 := Aside0.mk hbox; have GW1095 := Aside0.mk ((y10 hg HB.out : w.heap.size ≤ gb1095)); have GE1095 := Aside0.mk ((y10 hg HB.out : w.heap.size ≤ gb1095)); replace HB := Aside0.mk (below_step (y6 HB.out) hb); clear hb hbox hg))
 (try simp only [Act.put, List.setIfInBounds_toArray, List.set_cons_zero, List.set_cons_succ])
 have H := HZ3.out
 clear HZ3
 by_cases c5 : a1 < 1
 ·rw [if_pos c5] at H
  have c5b0 : decide (a1 < 1) = true := decide_eq_true c5
  clear c5
  (first | rw [c5b0] | (simp only [i64_w, i32_w]; rw [c5b0]) | skip)
  obtain rfl := Option.some.inj H
  go_wp2
  go_ret
  exact ⟨y15, (y7 HB.out GE1095.out)⟩
 ·rw [if_neg c5] at H
  have c5b0 : decide (a1 < 1) = false := decide_eq_false c5
  clear c5
  (first | rw [c5b0] | (simp only [i64_w, i32_w]; rw [c5b0]) | skip)
  by_cases c6 : (l0_0.length : Int) = 0
  ·rw [if_pos c6] at H
   have c6b0 : ((l0_0.length : Int) == 0) = true := beq_iff_eq.mpr c6
   have c6b1 : ((l0_0.length : Int) != 0) = false := bne_eq_false_iff_eq.mpr c6
   clear c6
   obtain rfl := Option.some.inj H
   have hcz7_0 := zh BK1095
   have hfz7_0 := zfr BK1095 0
   go_wp2
   go_ret
   exact ⟨y15, (y7 HB.out GE1095.out)⟩
  ·rw [if_neg c6] at H
   have c6b0 : ((l0_0.length : Int) == 0) = false := beq_eq_false_iff_ne.mpr c6
   have c6b1 : ((l0_0.length : Int) != 0) = true := bne_iff_ne.mpr c6
   have c6b2 : ¬ (l0_0 = []) := fun h_ => c6 (by rw [h_]; rfl)
   by_cases c8 : (l0_0.length : Int) = 2
   ·rw [if_pos c8] at H
    have c8b0 : ((l0_0.length : Int) == 2) = true := beq_iff_eq.mpr c8
    have c8b1 : ((l0_0.length : Int) != 2) = false := bne_eq_false_iff_eq.mpr c8
    clear c8
    by_cases c9 : 0 < (l0_0.length : Int)
    ·rw [if_pos c9] at H
     have c9b0 : decide (0 < (l0_0.length : Int)) = true := decide_eq_true c9
     have c9b1 : decide (0 < l0_0.length) = true := decide_eq_true (by omega)
     clear c9
     obtain ⟨t1097, A100, H⟩ := ob H
     have A10 := Aside0.mk A100
     clear A100
     by_cases c11 : t1097 = true
     ·subst c11
      rw [if_pos rfl] at H
      by_cases c12 : 1 < (l0_0.length : Int)
      ·rw [if_pos c12] at H
       have c12b0 : decide (1 < (l0_0.length : Int)) = true := decide_eq_true c12
       have c12b1 : decide (1 < l0_0.length) = true := decide_eq_true (by omega)
       clear c12
       obtain ⟨t1099, A130, H⟩ := ob H
       have A13 := Aside0.mk A130
       clear A130
       obtain rfl := Option.some.inj H
       have hcz14_0 := zh BK1095
       have hfz14_0 := zfr BK1095 0
       have p1096 : 0 ≤ (0 : Int) := (by omega)
       have q1096 : 0 < (l0_0.length : Int) := of_decide_eq_true y23
       obtain ⟨ad1096, A1096_0, c1096_0, e1096, hx1096_0, hl1096_0, hi1096_0⟩ := at_T50 HR0_0.out 0 p1096 q1096
       cases e1096
       have qi1096 : (0 < l0_0.length) = True := eq_true (by omega)
       (try rw [show ((0 : Int)).toNat = 0 from rfl] at hx1096_0)
       (try rw [Addr.add_zero'] at hx1096_0)
       replace hx1096_0 := (HB.out.cell (World.block_lt_of_cell? w _ hx1096_0)).trans hx1096_0
       have HR1096_0 := Aside0.mk hi1096_0
       have HC1096_0 := Aside0.mk hl1096_0
       clear hi1096_0 hl1096_0
       replace p1096 := eq_true p1096
       replace q1096 := eq_true q1096
       go_wp2_with (first | (go_at_call 59; (with_reducible refine (ih k (by omega) _ _ ((rd_T50 l0_0 0).f0) (wrap64 (a1 - 1)) true _ ?side1 ?side2 A10.out).mono ?_); (case side1 => exact y18 HR1096_0.out HB.out); (case side2 => exact HC1096_0.out); rintro e w15 ⟨rfl, hb⟩; replace BK1095 := zbb BK1095 hb; replace HB := Aside0.mk (below_step (y7 HB.out GE1095.out) hb); (try clear hb); (try clear hb2); (try clear hk); (try clear hi); have hcz16_0 := zh BK1095; have hfz16_0 := zfr BK1095 0; have p1098 : 0 ≤ (1 : Int) := (by omega); have q1098 : 1 < (l0_0.length : Int) := of_decide_eq_true y23; obtain ⟨ad1098, A1098_0, c1098_0, e1098, hx1098_0, hl1098_0, hi1098_0⟩ := at_T50 HR0_0.out 1 p1098 q1098; obtain rfl : ad1096 = ad1098 := (by injection e1098); (try simp only [show (1 : Int).toNat = 1 from rfl, Nat.reduceMul, Nat.reduceEqDiff, Go.Addr.add, ↓reduceIte] at hx1098_0); have qi1098 : (1 < l0_0.length) = True := eq_true (by omega); (try rw [show ((1 : Int)).toNat = 1 from rfl] at hx1098_0); replace hx1098_0 := (HB.out.cell (World.block_lt_of_cell? w _ hx1098_0)).trans hx1098_0; have HR1098_0 := Aside0.mk hi1098_0; have HC1098_0 := Aside0.mk hl1098_0; clear hi1098_0 hl1098_0; replace p1098 := eq_true p1098; replace q1098 := eq_true q1098) | (go_at_call 59; (with_reducible refine (ih k (by omega) _ _ ((rd_T50 l0_0 1).f0) (wrap64 (a1 - 1)) t1099 _ ?side1 ?side2 A13.out).mono ?_); (case side1 => exact y18 HR1098_0.out HB.out); (case side2 => exact HC1098_0.out); rintro e w17 ⟨rfl, hb⟩; replace BK1095 := zbb BK1095 hb; replace HB := Aside0.mk (below_step (y7 HB.out GE1095.out) hb); (try clear hb); (try clear hb2); (try clear hk); (try clear hi)))
       go_ret
       exact ⟨y15, (y7 HB.out GE1095.out)⟩
      ·rw [if_neg c12] at H
       exact absurd H (by simp)
     ·replace c11 := Bool.eq_false_iff.mpr c11
      subst c11
      rw [if_neg (show ¬ (false = true) by decide)] at H
      obtain rfl := Option.some.inj H
      have hcz18_0 := zh BK1095
      have hfz18_0 := zfr BK1095 0
      have p1096 : 0 ≤ (0 : Int) := (by omega)
      have q1096 : 0 < (l0_0.length : Int) := of_decide_eq_true y23
      obtain ⟨ad1096, A1096_0, c1096_0, e1096, hx1096_0, hl1096_0, hi1096_0⟩ := at_T50 HR0_0.out 0 p1096 q1096
      cases e1096
      have qi1096 : (0 < l0_0.length) = True := eq_true (by omega)
      (try rw [show ((0 : Int)).toNat = 0 from rfl] at hx1096_0)
      (try rw [Addr.add_zero'] at hx1096_0)
      replace hx1096_0 := (HB.out.cell (World.block_lt_of_cell? w _ hx1096_0)).trans hx1096_0
      have HR1096_0 := Aside0.mk hi1096_0
      have HC1096_0 := Aside0.mk hl1096_0
      clear hi1096_0 hl1096_0
      replace p1096 := eq_true p1096
      replace q1096 := eq_true q1096
      go_wp2_with (first | (go_at_call 59; (with_reducible refine (ih k (by omega) _ _ ((rd_T50 l0_0 0).f0) (wrap64 (a1 - 1)) false _ ?side1 ?side2 A10.out).mono ?_); (case side1 => exact y18 HR1096_0.out HB.out); (case side2 => exact HC1096_0.out); rintro e w19 ⟨rfl, hb⟩; replace BK1095 := zbb BK1095 hb; replace HB := Aside0.mk (below_step (y7 HB.out GE1095.out) hb); (try clear hb); (try clear hb2); (try clear hk); (try clear hi)))
      go_ret
      exact ⟨y15, (y7 HB.out GE1095.out)⟩
    ·rw [if_neg c9] at H
     exact absurd H (by simp)
   ·rw [if_neg c8] at H
    have c8b0 : ((l0_0.length : Int) == 2) = false := beq_eq_false_iff_ne.mpr c8
    have c8b1 : ((l0_0.length : Int) != 2) = true := bne_iff_ne.mpr c8
    obtain rfl := Option.some.inj H
    have hcz20_0 := zh BK1095
    have hfz20_0 := zfr BK1095 0
    go_wp2
    go_ret
    exact ⟨y15, (y7 HB.out GE1095.out)⟩
end Go.Proofs.Ythfflieeifakdaa.PA
end
section
namespace Go.Proofs.Ythfflieeifakdaa.PA
open Go.RowKit Go.Proofs.YthfflieeifakdaaW.PrintWords Go.Proofs.YthfflieeifakdaaW.PrintLast Go.Proofs.YthfflieeifakdaaW.PrintMore
attribute [local go_sem] max2_int min2_int max_two min_two max_three min_three max_four min_four
set_option linter.unusedVariables false
set_option linter.unusedSimpArgs false
def impl_TypeOk.f (k : Nat) (l0_0 : List (S50)) : Option (Bool) := (impl_typeFits.f k l0_0 4).bind fun t1101 => (some t1101)
theorem impl_TypeOk.mono : ∀ a0 k, LeO (impl_TypeOk.f k a0) (impl_TypeOk.f (k + 1) a0) := by
 intro a0 k
 unfold impl_TypeOk.f
 repeat' first
   | (with_reducible exact impl_typeFits.mono _ _ _)
   | (with_reducible exact LeO.refl _)
   | (with_reducible exact LeO.none _)
   | (with_reducible refine LeO.ite ?_ ?_)
   | (with_reducible refine LeO.bind ?_ (fun _ => ?_))
   | exact impl_typeFits.mono _ _ _
   | exact LeO.none _
   | refine LeO.ite ?_ ?_
   | refine LeO.bind ?_ (fun _ => ?_)
set_option maxHeartbeats 8000000 in
set_option maxRecDepth 100000 in
theorem impl_TypeOk.calls (k : Nat) (A0_0 : Option Addr) (c0_0 : Nat) (l0_0 : List (S50)) (r : Bool) (w : World) (hr0_0 : Kd.C k50 w A0_0 l0_0.length l0_0) (hc0_0 : l0_0.length ≤ c0_0) (h : impl_TypeOk.f k l0_0 = some r) :
  Calls Try.prog 52 #[.agg #[.slice A0_0 l0_0.length c0_0]] w fun e w' => e = .returned (.bool r) ∧ Below w.heap.size w w' := by
 have hu50 := Try.underlying50
 have HR0_0 := Aside0.mk hr0_0
 have HC0_0 := Aside0.mk hc0_0
 clear hr0_0 hc0_0
 have HB := Aside0.mk (Below.refl w.heap.size w)
 have H : ((impl_typeFits.f k l0_0 4).bind fun t1101 => (some t1101)) = some r := h
 clear h
 obtain ⟨t1101, A20, H⟩ := ob H
 have A2 := Aside0.mk A20
 clear A20
 obtain rfl := Option.some.inj H
 go_enter Try.func52, Try.ntmps52
 go_wp2_with (first | ((with_reducible refine gate_dst (N := 1) rfl ?_); refine zbx 1 #[.slice A0_0 l0_0.length c0_0] 50 ?_; intro gb1100 hg w3 hbox hb; have BK1100 := Aside0.mk hbox; have GW1100 := Aside0.mk ((y10 hg HB.out : w.heap.size ≤ gb1100)); have GE1100 := Aside0.mk ((y10 hg HB.out : w.heap.size ≤ gb1100)); replace HB := Aside0.mk (below_step (y6 HB.out) hb); clear hb hbox hg; have hcz4_0 := zh BK1100; have hfz4_0 := zfr BK1100 0) | ((with_reducible refine gate_callee (f := 59) rfl ?_); refine goesL_ (some 4) rfl rfl Try.func59 (by kernel_rfl) rfl #[.agg #[.slice A0_0 l0_0.length c0_0], .int .i64 4] rfl y9 ?_; (with_reducible refine (impl_typeFits.calls k _ _ l0_0 4 t1101 _ ?side1 ?side2 A2.out).mono ?_); (case side1 => exact y18 HR0_0.out HB.out); (case side2 => exact HC0_0.out); rintro e w5 ⟨rfl, hb⟩; refine ⟨_, rfl, ?_⟩; replace BK1100 := zbb BK1100 hb; replace HB := Aside0.mk (below_step (y7 HB.out GE1100.out) hb); (try clear hb); (try clear hb2); (try clear hk); (try clear hi)))
 go_ret
 exact ⟨y15, (y7 HB.out GE1100.out)⟩
end Go.Proofs.Ythfflieeifakdaa.PA
end
section
namespace Go.Proofs.Ythfflieeifakdaa.Types
open Go.RowKit Go.Proofs.Ythfflieeifakdaa.PA Go.Proofs.YthfflieeifakdaaW.PrintWords Go.Proofs.YthfflieeifakdaaW.PrintLast Go.Proofs.Ythfflieeifakdaa.Draw
abbrev Ty := List S50
theorem rd0 (a : S50) (l : Ty) : rd_T50 (a :: l) 0 = a := rfl
theorem rd1 (a b : S50) (l : Ty) : rd_T50 (a :: b :: l) 1 = b := rfl
def dp : Nat → Ty → Bool
  | 0, _ => false
  | _ + 1, [] => true
  | n + 1, [a, b] => dp n a.f0 && dp n b.f0
  | _ + 1, _ => false
theorem dp_nil (n : Nat) : dp (n + 1) [] = true := rfl
theorem dp_two (n : Nat) (a b : S50) : dp (n + 1) [a, b] = (dp n a.f0 && dp n b.f0) := rfl
theorem dp_odd (n : Nat) (l : Ty) (h0 : l.length ≠ 0) (h2 : l.length ≠ 2) : dp n l = false := by
  cases n with
  | zero => rfl
  | succ n =>
    match l with
    | [] => simp at h0
    | [_] => rfl
    | [_, _] => simp at h2
    | _ :: _ :: _ :: _ => rfl
theorem two_of {l : Ty} (h : l.length = 2) : ∃ a b, l = [a, b] := by
  match l with
  | [a, b] => exact ⟨a, b, rfl⟩
theorem shape (l : Ty) : l = [] ∨ (∃ a b, l = [a, b]) ∨ (l.length ≠ 0 ∧ l.length ≠ 2) := by
  match l with
  | [] => exact .inl rfl
  | [_] => exact .inr (.inr ⟨by simp, by simp⟩)
  | [a, b] => exact .inr (.inl ⟨a, b, rfl⟩)
  | _ :: _ :: _ :: _ => exact .inr (.inr ⟨by simp, by simp⟩)
theorem pred_cast (n : Nat) (hn : n ≤ 1000) : wrap64 (((n + 1 : Nat) : Int) - 1) = (n : Int) := by rw [w64 (by omega) (by omega)]; omega
theorem deep_ev : ∀ (n : Nat), n ≤ 1000 → ∀ (l : Ty) (k : Nat), 5 * n + 3 ≤ k → spec_l1Deep.f k l n = some (dp n l) := by
  intro n
  induction n with
  | zero =>
    intro _ l k hk
    obtain ⟨k, rfl⟩ : ∃ m, k = m + 2 := ⟨k - 2, by omega⟩
    simp only [spec_l1Deep.f]
    rw [if_pos (by omega)]
    simp only [spec_l1Deep.j0, if_true]
    rfl
  | succ n ih =>
    intro hn l k hk
    obtain ⟨k, rfl⟩ : ∃ m, k = m + 5 := ⟨k - 5, by omega⟩
    have hp := pred_cast n (by omega)
    simp only [spec_l1Deep.f]
    rw [if_neg (by omega)]
    rcases shape l with rfl | ⟨a, b, rfl⟩ | ⟨h0, h2⟩
    · rw [if_pos (by simp)]
      simp only [spec_l1Deep.j0, spec_l1Deep.l0]
      rw [if_neg (by simp), if_neg (by simp)]
      rfl
    · rw [if_neg (by simp)]
      simp only [spec_l1Deep.j0]
      rw [if_neg (by simp)]
      simp only [spec_l1Deep.l0, hp, w01, w12]
      rw [if_pos (by simp), if_pos (by omega), rd0, ih (by omega) _ _ (by omega), dp_two]
      simp only [Option.bind_some]
      cases ha : dp n a.f0 with
      | false => simp
      | true =>
        rw [if_pos rfl, if_pos (by simp), if_pos (by omega), rd1, ih (by omega) _ _ (by omega)]
        simp only [Option.bind_some]
        cases hb : dp n b.f0 with
        | false => simp
        | true => rw [if_pos rfl, if_neg (by simp)]; rfl
    · rw [if_neg (by omega), dp_odd _ _ h0 h2]
      simp only [spec_l1Deep.j0]
      rw [if_pos (by simp; omega)]
theorem specOk_ev (l : Ty) (k : Nat) (hk : 23 ≤ k) : spec_TypeOk.f k l = some (dp 4 l) := by
  unfold spec_TypeOk.f
  rw [show (4 : Int) = ((4 : Nat) : Int) from rfl, deep_ev 4 (by omega) l k (by omega)]; rfl
theorem fits_ev : ∀ (n : Nat), n ≤ 1000 → ∀ (l : Ty) (k : Nat), n + 1 ≤ k → impl_typeFits.f k l n = some (dp n l) := by
  intro n
  induction n with
  | zero =>
    intro _ l k hk
    obtain ⟨k, rfl⟩ : ∃ m, k = m + 1 := ⟨k - 1, by omega⟩
    simp only [impl_typeFits.f]
    rw [if_pos (by omega)]; rfl
  | succ n ih =>
    intro hn l k hk
    obtain ⟨k, rfl⟩ : ∃ m, k = m + 1 := ⟨k - 1, by omega⟩
    have hp := pred_cast n (by omega)
    simp only [impl_typeFits.f]
    rw [if_neg (by omega)]
    rcases shape l with rfl | ⟨a, b, rfl⟩ | ⟨h0, h2⟩
    · rw [if_pos (by simp)]; rfl
    · rw [if_neg (by simp), if_pos (by simp), if_pos (by simp), hp, rd0, ih (by omega) _ _ (by omega), dp_two]
      simp only [Option.bind_some]
      cases ha : dp n a.f0 with
      | false => simp
      | true => rw [if_pos rfl, if_pos (by simp), rd1, ih (by omega) _ _ (by omega)]; simp
    · rw [if_neg (by omega), if_neg (by omega), dp_odd _ _ h0 h2]
theorem implOk_ev (l : Ty) (k : Nat) (hk : 5 ≤ k) : impl_TypeOk.f k l = some (dp 4 l) := by
  unfold impl_TypeOk.f
  rw [show (4 : Int) = ((4 : Nat) : Int) from rfl, fits_ev 4 (by omega) l k (by omega)]; rfl
def tx : Nat → Ty → ByteArray
  | n + 1, [a, b] => ((((⟨#[40]⟩ : ByteArray) ++ tx n a.f0) ++ (⟨#[44]⟩ : ByteArray)) ++ tx n b.f0) ++ (⟨#[41]⟩ : ByteArray)
  | _, _ => ⟨#[105]⟩
theorem tx_two (n : Nat) (a b : S50) : tx (n + 1) [a, b] = ((((⟨#[40]⟩ : ByteArray) ++ tx n a.f0) ++ (⟨#[44]⟩ : ByteArray)) ++ tx n b.f0) ++ (⟨#[41]⟩ : ByteArray) := rfl
theorem tx_nil (n : Nat) : tx n [] = ⟨#[105]⟩ := by cases n <;> rfl
theorem tx_size (n : Nat) : ∀ l, (tx n l).size + 3 ≤ 4 * 2 ^ n := by
  induction n with
  | zero => intro l; simp [tx]; decide
  | succ n ih =>
    intro l
    have hp : 1 ≤ 2 ^ n := Nat.one_le_two_pow
    have h1 : (⟨#[105]⟩ : ByteArray).size = 1 := rfl
    rw [Nat.pow_succ]
    match l with
    | [a, b] =>
      have ha := ih a.f0
      have hb := ih b.f0
      rw [tx_two]
      simp only [ByteArray.size_append, show (⟨#[40]⟩ : ByteArray).size = 1 from rfl, show (⟨#[44]⟩ : ByteArray).size = 1 from rfl, show (⟨#[41]⟩ : ByteArray).size = 1 from rfl]
      omega
    | [] => show (⟨#[105]⟩ : ByteArray).size + 3 ≤ _; omega
    | [_] => show (⟨#[105]⟩ : ByteArray).size + 3 ≤ _; omega
    | _ :: _ :: _ :: _ => show (⟨#[105]⟩ : ByteArray).size + 3 ≤ _; omega
def text (l : Ty) : ByteArray := if dp 4 l = true then tx 4 l else ⟨#[]⟩
def teq : Nat → Ty → Ty → Bool
  | _ + 1, [], [] => true
  | n + 1, [a, b], [c, d] => teq n a.f0 c.f0 && teq n b.f0 d.f0
  | _, _, _ => false
theorem teq_eq : ∀ (n : Nat) (a b : Ty), teq n a b = true → a = b := by
  intro n
  induction n with
  | zero => intro a b h; simp [teq] at h
  | succ n ih =>
    intro a b h
    unfold teq at h
    split at h
    · rfl
    · rename_i m x y z u he
      cases he
      rw [Bool.and_eq_true] at h
      have h1 := ih _ _ h.1
      have h2 := ih _ _ h.2
      cases x; cases y; cases z; cases u
      simp_all
    · cases h
theorem teq_refl : ∀ (n : Nat) (a : Ty), dp n a = true → teq n a a = true := by
  intro n
  induction n with
  | zero => intro a h; simp [dp] at h
  | succ n ih =>
    intro a h
    rcases shape a with rfl | ⟨a1, a2, rfl⟩ | ⟨h0, h2⟩
    · rfl
    · rw [dp_two, Bool.and_eq_true] at h
      show (teq n a1.f0 a1.f0 && teq n a2.f0 a2.f0) = true
      rw [ih _ h.1, ih _ h.2]; rfl
    · rw [dp_odd _ _ h0 h2] at h; cases h
theorem toList_app (a b : ByteArray) : (a ++ b).toList = a.toList ++ b.toList := by
  rw [ByteArray.toList_eq, ByteArray.toList_eq, ByteArray.toList_eq]; simp
theorem lit_toList (c : UInt8) : (⟨#[c]⟩ : ByteArray).toList = [c] := by rw [ByteArray.toList_eq]
theorem tx_inj : ∀ (n : Nat) (a b : Ty) (r s : List UInt8), dp n a = true → dp n b = true → (tx n a).toList ++ r = (tx n b).toList ++ s → teq n a b = true ∧ r = s := by
  intro n
  induction n with
  | zero => intro a b r s h; simp [dp] at h
  | succ n ih =>
    intro a b r s ha hb h
    rcases shape a with rfl | ⟨a1, a2, rfl⟩ | ⟨h0, h2⟩
    · rcases shape b with rfl | ⟨b1, b2, rfl⟩ | ⟨h0, h2⟩
      · rw [tx_nil] at h
        exact ⟨rfl, List.append_cancel_left h⟩
      · rw [tx_nil, tx_two] at h
        simp only [toList_app, lit_toList, List.cons_append, List.nil_append, List.append_assoc] at h
        injection h with h1 _
        exact absurd h1 (by decide)
      · rw [dp_odd _ _ h0 h2] at hb; cases hb
    · rcases shape b with rfl | ⟨b1, b2, rfl⟩ | ⟨h0, h2⟩
      · rw [tx_nil, tx_two] at h
        simp only [toList_app, lit_toList, List.cons_append, List.nil_append, List.append_assoc] at h
        injection h with h1 _
        exact absurd h1 (by decide)
      · rw [dp_two, Bool.and_eq_true] at ha hb
        rw [tx_two, tx_two] at h
        simp only [toList_app, lit_toList, List.cons_append, List.nil_append, List.append_assoc] at h
        injection h with _ h
        obtain ⟨e1, h⟩ := ih _ _ _ _ ha.1 hb.1 h
        injection h with _ h
        obtain ⟨e2, h⟩ := ih _ _ _ _ ha.2 hb.2 h
        injection h with _ h
        refine ⟨?_, h⟩
        show (teq n a1.f0 b1.f0 && teq n a2.f0 b2.f0) = true
        rw [e1, e2]; rfl
      · rw [dp_odd _ _ h0 h2] at hb; cases hb
    · rw [dp_odd _ _ h0 h2] at ha; cases ha
theorem text_teq (a b : Ty) (ha : dp 4 a = true) (hb : dp 4 b = true) : ((text a).toList == (text b).toList) = teq 4 a b := by
  unfold text
  rw [if_pos ha, if_pos hb]
  by_cases h : (tx 4 a).toList = (tx 4 b).toList
  · rw [beq_iff_eq.2 h, (tx_inj 4 a b [] [] ha hb (by simpa using h)).1]
  · cases e : teq 4 a b with
    | false => exact beq_eq_false_iff_ne.2 h
    | true => exact absurd (by rw [teq_eq _ _ _ e]) h
theorem tx_pos (n : Nat) (l : Ty) : 0 < (tx n l).size := by
  unfold tx
  split
  · simp only [ByteArray.size_append, show (⟨#[40]⟩ : ByteArray).size = 1 from rfl]; omega
  · decide
theorem dph_mono : ∀ (n : Nat) (l : Ty), Dph n l → Dph (n + 1) l := by
  intro n
  induction n with
  | zero => intro l h; rw [show l = [] from h]; exact dph_nil _
  | succ n ih => intro l h x hx; exact ih _ (h x hx)
theorem dph_le (n m : Nat) (h : n ≤ m) (l : Ty) (hd : Dph n l) : Dph m l := by
  induction m with
  | zero => obtain rfl : n = 0 := by omega
            exact hd
  | succ m ih =>
    by_cases e : n = m + 1
    · subst e; exact hd
    · exact dph_mono _ _ (ih (by omega))
end Go.Proofs.Ythfflieeifakdaa.Types
end
section
namespace Go.Proofs.Ythfflieeifakdaa.Paths
open Go.RowKit Go.Proofs.Ythfflieeifakdaa.PA Go.Proofs.YthfflieeifakdaaW.PrintWords Go.Proofs.YthfflieeifakdaaW.PrintLast Go.Proofs.Ythfflieeifakdaa.Draw Go.Proofs.Ythfflieeifakdaa.Types
def pf : List Int → Ty → Option Ty
  | [], t => some t
  | i :: r, [a, b] => if i = 0 then pf r a.f0 else if i = 1 then pf r b.f0 else none
  | _ :: _, _ => none
theorem pf_nil (t : Ty) : pf [] t = some t := by cases t <;> rfl
theorem pf_two (i : Int) (r : List Int) (a b : S50) : pf (i :: r) [a, b] = if i = 0 then pf r a.f0 else if i = 1 then pf r b.f0 else none := rfl
theorem pf_odd (i : Int) (r : List Int) (t : Ty) (h : t.length ≠ 2) : pf (i :: r) t = none := by
  match t with
  | [] => rfl
  | [_] => rfl
  | [_, _] => simp at h
  | _ :: _ :: _ :: _ => rfl
theorem pf_app (p q : List Int) : ∀ t, pf (p ++ q) t = (pf p t).bind (pf q) := by
  induction p with
  | nil => intro t; rw [List.nil_append, pf_nil]; rfl
  | cons i r ih =>
    intro t
    by_cases h : t.length = 2
    · obtain ⟨a, b, rfl⟩ := two_of h
      rw [List.cons_append, pf_two, pf_two]
      split
      · exact ih _
      · split
        · exact ih _
        · rfl
    · rw [List.cons_append, pf_odd _ _ _ h, pf_odd _ _ _ h]; rfl
theorem dp_succ : ∀ (n : Nat) (t : Ty), dp n t = true → dp (n + 1) t = true := by
  intro n
  induction n with
  | zero => intro t h; simp [dp] at h
  | succ n ih =>
    intro t h
    rcases Types.shape t with rfl | ⟨a, b, rfl⟩ | ⟨h0, h2⟩
    · rfl
    · rw [dp_two, Bool.and_eq_true] at h ⊢
      exact ⟨ih _ h.1, ih _ h.2⟩
    · rw [dp_odd _ _ h0 h2] at h; cases h
theorem dp_pf (n : Nat) : ∀ (p : List Int) (t u : Ty), dp n t = true → pf p t = some u → dp n u = true := by
  intro p
  induction p with
  | nil => intro t u h e; rw [pf_nil] at e; cases e; exact h
  | cons i r ih =>
    intro t u h e
    by_cases h2 : t.length = 2
    · obtain ⟨a, b, rfl⟩ := two_of h2
      cases n with
      | zero => simp [dp] at h
      | succ n =>
        rw [dp_two, Bool.and_eq_true] at h
        rw [pf_two] at e
        split at e
        · exact ih _ _ (dp_succ _ _ h.1) e
        · split at e
          · exact ih _ _ (dp_succ _ _ h.2) e
          · cases e
    · rw [pf_odd _ _ _ h2] at e; cases e
theorem rd_mid (pre r : List Int) (i : Int) : rd (pre ++ i :: r) (pre.length : Int) = i := by
  unfold rd
  rw [Int.toNat_natCast, List.getD_eq_getElem?_getD, List.getElem?_append_right (Nat.le_refl _)]
  simp
def at_ (o : Option Ty) : Ty × Bool := match o with | some u => (u, true) | none => ([], false)
theorem specCopy_ev : ∀ (n : Nat) (t : Ty) (k : Nat), dp n t = true → 4 * n ≤ k → spec_l1Copy.f k t = some t := by
  intro n
  induction n with
  | zero => intro t k h; simp [dp] at h
  | succ n ih =>
    intro t k h hk
    obtain ⟨k, rfl⟩ : ∃ m, k = m + 4 := ⟨k - 4, by omega⟩
    simp only [spec_l1Copy.f]
    rcases Types.shape t with rfl | ⟨a, b, rfl⟩ | ⟨h0, h2⟩
    · simp only [spec_l1Copy.l0]; rw [if_neg (by simp)]
    · rw [dp_two, Bool.and_eq_true] at h
      simp only [spec_l1Copy.l0, w01, w12]
      rw [if_pos (by simp), if_pos (by omega), rd0, ih _ _ h.1 (by omega)]; simp only [Option.bind_some]
      rw [if_pos (by simp), if_pos (by simp), if_pos (by omega), rd1, ih _ _ h.2 (by omega)]; simp only [Option.bind_some]
      rw [if_pos (by simp), if_neg (by simp)]
      cases a; cases b; rfl
    · rw [dp_odd _ _ h0 h2] at h; cases h
def tat (t : Ty) (p : List Int) : Ty × Bool := if dp 4 t = true then at_ (pf p t) else ([], false)
theorem specLoop_ev (n : Nat) : ∀ (r pre : List Int) (t : Ty) (k : Nat), dp n t = true → pre.length + r.length ≤ 4611686018427387904 → r.length + 4 * n + 1 ≤ k →
    spec_TypeAt.l0 k (pre ++ r) (pre.length : Int) t = some (at_ (pf r t)) := by
  intro r
  induction r with
  | nil =>
    intro pre t k d h1 hk
    obtain ⟨k, rfl⟩ : ∃ m, k = m + 1 := ⟨k - 1, by omega⟩
    simp only [List.length_nil] at hk
    simp only [spec_TypeAt.l0]
    rw [if_neg (by simp), specCopy_ev n t k d (by omega), pf_nil]; rfl
  | cons i r ih =>
    intro pre t k d h1 hk
    simp only [List.length_cons] at h1 hk
    obtain ⟨k, rfl⟩ : ∃ m, k = m + 1 := ⟨k - 1, by omega⟩
    simp only [spec_TypeAt.l0, spec_l6In.f]
    have hl : ((pre ++ i :: r).length : Int) = pre.length + 1 + r.length := by simp; omega
    rw [if_pos (by omega), if_pos (by omega), rd_mid]
    rcases Types.shape t with rfl | ⟨a, b, rfl⟩ | ⟨h0, h2⟩
    · rw [pf_odd _ _ _ (by simp), show wrap64 ((([] : Ty).length : Int) - 1) = -1 from w64 (by simp) (by simp)]
      by_cases hn : i ≥ 0
      · rw [if_pos hn]; simp only [Option.bind_some]; rw [if_neg (by simp; omega)]; rfl
      · rw [if_neg hn]; rfl
    · rw [pf_two, show wrap64 ((([a, b] : Ty).length : Int) - 1) = 1 from w64 (by simp) (by simp)]
      cases n with
      | zero => simp [dp] at d
      | succ n =>
        rw [dp_two, Bool.and_eq_true] at d
        by_cases hn : i ≥ 0
        · rw [if_pos hn]; simp only [Option.bind_some]
          by_cases hb : i ≤ 1
          · rw [if_pos (by simpa using hb), if_pos (by omega), if_pos (by simp; omega), w64 (by omega) (by omega)]
            have ea : pre ++ i :: r = (pre ++ [i]) ++ r := by simp
            have el : (pre.length : Int) + 1 = ((pre ++ [i]).length : Int) := by simp
            rw [el, ea]
            by_cases h0 : i = 0
            · rw [if_pos h0, h0, rd0, ih _ _ _ (dp_succ _ _ d.1) (by simp; omega) (by omega)]
            · rw [if_neg h0, if_pos (by omega), show i = 1 by omega, rd1, ih _ _ _ (dp_succ _ _ d.2) (by simp; omega) (by omega)]
          · rw [if_neg (by simpa using hb), if_neg (by omega), if_neg (by omega)]; rfl
        · rw [if_neg hn, if_neg (show ¬ i = 0 by omega), if_neg (show ¬ i = 1 by omega)]; rfl
    · rw [dp_odd _ _ h0 h2] at d; cases d
theorem specTypeAt_ev (t : Ty) (p : List Int) (k : Nat) (h : p.length ≤ 4611686018427387904) (hk : p.length + 30 ≤ k) : spec_TypeAt.f k t p = some (tat t p) := by
  unfold spec_TypeAt.f tat
  rw [specOk_ev t k (by omega)]; simp only [Option.bind_some]
  by_cases d : dp 4 t = true
  · rw [if_pos d, if_pos d]
    have := specLoop_ev 4 p [] t k d (by simpa using h) (by omega)
    simpa using this
  · rw [if_neg d, if_neg d]
theorem tat_ok (t : Ty) (p : List Int) : dp 4 (tat t p).1 = true := by
  unfold tat
  split
  · rename_i d
    cases e : pf p t with
    | none => rfl
    | some u => exact dp_pf 4 _ _ _ d e
  · rfl
theorem rdT_dph (d : Nat) (t : Ty) (h : Dph (d + 1) t) (i : Int) : Dph d (rd_T50 t i).f0 := by
  unfold rd_T50
  rw [List.getD_eq_getElem?_getD]
  cases e : t[i.toNat]? with
  | none => exact dph_nil d
  | some x => exact h x (List.mem_of_getElem? e)
theorem pathLoop_ev (s : List Int) (hs : Bytes s) : ∀ (d : Nat) (t : Ty), d ≤ 1000 → Dph d t → ∀ (p : Int) (pre : List Int), 0 ≤ p → p + 2 * d + 3 ≤ 1099511627776 → pre.length + d ≤ 1000 →
    ∃ r u q, (∀ k, d + 3 ≤ k → spec_l71Path.l0 k pre s p t = some (r, u, q)) ∧ p ≤ q ∧ q ≤ p + 2 * d + 1 ∧ r.length ≤ pre.length + d := by
  intro d
  induction d with
  | zero =>
    intro t _ h p pre hp hp1 hl
    rw [show t = [] from h]
    refine ⟨pre, [], p, fun k hk => ?_, by omega, by omega, by omega⟩
    obtain ⟨k, rfl⟩ : ∃ m, k = m + 1 := ⟨k - 1, by omega⟩
    simp only [spec_l71Path.l0]
    rw [if_neg (by simp)]
  | succ d ih =>
    intro t hd h p pre hp hp1 hl
    by_cases h0 : (t.length : Int) > 0
    · obtain ⟨c, hc, c0, c1⟩ := pick_ev s hs p 3 hp (by omega) (by omega)
      by_cases hcp : c > 0
      · obtain ⟨i, hi, i0, i1⟩ := pick_ev s hs (p + 1) (t.length : Int) (by omega) (by omega) (by omega)
        obtain ⟨r, u, q, hr, hq, hq2, hrl⟩ := ih (rd_T50 t i).f0 (by omega) (rdT_dph _ _ h i) (p + 1 + 1) (pre ++ [i]) (by omega) (by omega) (by simp; omega)
        refine ⟨r, u, q, fun k hk => ?_, by omega, by omega, by simp at hrl; omega⟩
        obtain ⟨k, rfl⟩ : ∃ m, k = m + 1 := ⟨k - 1, by omega⟩
        simp only [spec_l71Path.l0]
        rw [if_pos h0, hc k (by omega)]; simp only [Option.bind_some]
        rw [if_pos hcp, hi k (by omega)]; simp only [Option.bind_some]
        rw [if_pos (by omega), if_pos i0, if_pos i1]
        exact hr k (by omega)
      · refine ⟨pre, t, p + 1, fun k hk => ?_, by omega, by omega, by omega⟩
        obtain ⟨k, rfl⟩ : ∃ m, k = m + 1 := ⟨k - 1, by omega⟩
        simp only [spec_l71Path.l0]
        rw [if_pos h0, hc k (by omega)]; simp only [Option.bind_some]
        rw [if_neg hcp]
    · refine ⟨pre, t, p, fun k hk => ?_, by omega, by omega, by omega⟩
      obtain ⟨k, rfl⟩ : ∃ m, k = m + 1 := ⟨k - 1, by omega⟩
      simp only [spec_l71Path.l0]
      rw [if_neg h0]
theorem any_ev (s : List Int) (hs : Bytes s) (d : Nat) (t : Ty) (hd : d ≤ 900) (h : Dph d t) (p : Int) (hp : 0 ≤ p) (hp1 : p ≤ 1099511620000) :
    ∃ r q, (∀ k, d + 4 ≤ k → spec_l71Any.f k s p t = some (r, q)) ∧ p ≤ q ∧ q ≤ p + 2 * d + 3 ∧ r.length ≤ d + 1 := by
  obtain ⟨r, u, q, hr, hq, hq2, hl⟩ := pathLoop_ev s hs d t (by omega) h p [] hp (by omega) (by simp; omega)
  simp only [List.length_nil] at hl
  obtain ⟨c, hc, c0, c1⟩ := pick_ev s hs q 6 (by omega) (by omega) (by omega)
  have hf : ∀ k, d + 4 ≤ k → spec_l71Path.f k s p t = some (r, u, q) := fun k hk => hr k (by omega)
  by_cases e : c = 0
  · obtain ⟨c', hc', _, _⟩ := pick_ev s hs (q + 1) 4 (by omega) (by omega) (by omega)
    refine ⟨r ++ [wrap64 (c' - 1)], q + 1 + 1, fun k hk => ?_, by omega, by omega, by simp; omega⟩
    unfold spec_l71Any.f
    rw [hf k hk]; simp only [Option.bind_some]
    rw [hc k (by omega)]; simp only [Option.bind_some]
    rw [if_pos e, hc' k (by omega)]; simp only [Option.bind_some]
    rw [if_pos (by omega)]
  · refine ⟨r, q + 1, fun k hk => ?_, by omega, by omega, by omega⟩
    unfold spec_l71Any.f
    rw [hf k hk]; simp only [Option.bind_some]
    rw [hc k (by omega)]; simp only [Option.bind_some]
    rw [if_neg e]
end Go.Proofs.Ythfflieeifakdaa.Paths
end
section
namespace Go.Proofs.Ythfflieeifakdaa.PA
open Go.RowKit Go.Proofs.YthfflieeifakdaaW.PrintWords Go.Proofs.YthfflieeifakdaaW.PrintLast Go.Proofs.YthfflieeifakdaaW.PrintMore
attribute [local go_sem] max2_int min2_int max_two min_two max_three min_three max_four min_four
set_option linter.unusedVariables false
set_option linter.unusedSimpArgs false
def spec_DrawValOk.f (k : Nat) (l0 : List Int) : Option ((List (S50)) × Int × (List (S25))) := (spec_l6Open.f l0).bind fun bt1069 => ((spec_l6Rd_pick.f k bt1069.1 bt1069.2 4).bind fun bt1072 => ((spec_l71Type.f k bt1069.1 bt1072.2 (wrap64 (1 + bt1072.1))).bind fun bt1074 => ((spec_l6Rd_pick.f k bt1069.1 bt1074.2 5).bind fun bt1079 => (if bt1079.1 = 0 then ((spec_l71Type.f k bt1069.1 bt1079.2 3).bind fun bt1081 => ((spec_l71Bad.f k bt1069.1 bt1081.2 bt1081.1).bind fun bt1085 => (some (bt1074.1, bt1085.1, bt1085.2.1)))) else ((spec_l71Bad.f k bt1069.1 bt1079.2 bt1074.1).bind fun bt1090 => (some (bt1074.1, bt1090.1, bt1090.2.1)))))))
theorem spec_DrawValOk.mono : ∀ a0 k, LeO (spec_DrawValOk.f k a0) (spec_DrawValOk.f (k + 1) a0) := by
 intro a0 k
 unfold spec_DrawValOk.f
 repeat' first
   | (with_reducible exact spec_l6Rd_pick.mono _ _ _ _)
   | (with_reducible exact spec_l71Bad.mono _ _ _ _)
   | (with_reducible exact spec_l71Type.mono _ _ _ _)
   | (with_reducible exact LeO.refl _)
   | (with_reducible exact LeO.none _)
   | (with_reducible refine LeO.ite ?_ ?_)
   | (with_reducible refine LeO.bind ?_ (fun _ => ?_))
   | exact spec_l6Rd_pick.mono _ _ _ _
   | exact spec_l71Bad.mono _ _ _ _
   | exact spec_l71Type.mono _ _ _ _
   | exact LeO.none _
   | refine LeO.ite ?_ ?_
   | refine LeO.bind ?_ (fun _ => ?_)
set_option maxHeartbeats 8000000 in
set_option maxRecDepth 100000 in
theorem spec_DrawValOk.calls (k : Nat) (A0 : Option Addr) (c0 : Nat) (l0 : List Int) (r1 : List (S50)) (r2 : Int) (r3 : List (S25)) (w : World) (hr0 : Kd.C (Kd.int .u8) w A0 l0.length l0) (hc0 : l0.length ≤ c0) (h : spec_DrawValOk.f k l0 = some (r1, r2, r3)) :
  Calls Try.prog 27 #[.slice A0 l0.length c0] w fun e w' => ∃ v0_ v2_ : Value, e = .returned (.tuple #[.agg #[v0_], .agg #[.int .i64 r2, v2_]]) ∧ Kd.V k50 50 w' w.heap.size (fun k_ => (w.heap.size ≤ k_)) v0_ r1 ∧ Kd.V k25 25 w' w.heap.size (fun k_ => (w.heap.size ≤ k_)) v2_ r3 ∧ Below w.heap.size w w' := by
 have hu50 := Try.underlying50
 have hu25 := Try.underlying25
 have HR0 := Aside0.mk hr0
 have HC0 := Aside0.mk hc0
 clear hr0 hc0
 have HB := Aside0.mk (Below.refl w.heap.size w)
 have H : ((spec_l6Open.f l0).bind fun bt1069 => ((spec_l6Rd_pick.f k bt1069.1 bt1069.2 4).bind fun bt1072 => ((spec_l71Type.f k bt1069.1 bt1072.2 (wrap64 (1 + bt1072.1))).bind fun bt1074 => ((spec_l6Rd_pick.f k bt1069.1 bt1074.2 5).bind fun bt1079 => (if bt1079.1 = 0 then ((spec_l71Type.f k bt1069.1 bt1079.2 3).bind fun bt1081 => ((spec_l71Bad.f k bt1069.1 bt1081.2 bt1081.1).bind fun bt1085 => (some (bt1074.1, bt1085.1, bt1085.2.1)))) else ((spec_l71Bad.f k bt1069.1 bt1079.2 bt1074.1).bind fun bt1090 => (some (bt1074.1, bt1090.1, bt1090.2.1)))))))) = some (r1, r2, r3) := h
 clear h
 obtain ⟨⟨t1069, t1070⟩, A20, H⟩ := ob H
 have A2 := Aside0.mk A20
 clear A20
 obtain ⟨⟨t1072, t1073⟩, A30, H⟩ := ob H
 have A3 := Aside0.mk A30
 clear A30
 obtain ⟨⟨t1074, t1077⟩, A40, H⟩ := ob H
 have A4 := Aside0.mk A40
 clear A40
 obtain ⟨⟨t1079, t1080⟩, A50, H⟩ := ob H
 have A5 := Aside0.mk A50
 clear A50
 have HZ6 := Aside0.mk H
 clear H
 go_enter Try.func27, Try.ntmps27
 go_upto_if 15 with (first | ((with_reducible refine gate_dst (N := 2) rfl ?_); refine zbx 2 #[.slice none 0 0] 50 ?_; intro gb1067 hg w7 hbox hb; have BK1067 := Aside0.mk hbox; have GW1067 := Aside0.mk ((y10 hg HB.out : w.heap.size ≤ gb1067)); have GE1067 := Aside0.mk ((y10 hg HB.out : w.heap.size ≤ gb1067)); replace HB := Aside0.mk (below_step (y6 HB.out) hb); clear hb hbox hg) | ((with_reducible refine gate_dst (N := 3) rfl ?_); refine zbx 3 #[.int .i64 0, .slice none 0 0] 25 ?_; intro gb1068 hg w8 hbox hb; have BK1068 := Aside0.mk hbox; have GW1068 := Aside0.mk ((y12 hg HB.out GE1067.out : w.heap.size ≤ gb1068)); have GE1068 := Aside0.mk ((y12 hg HB.out GE1067.out : w.heap.size ≤ gb1068)); replace HB := Aside0.mk (below_step (y7 HB.out GE1067.out) hb); have NB1067_1068 := zltn hg BK1067; have NB1068_1067 := zgtn hg BK1067; replace BK1067 := zbb BK1067 hb; clear hb hbox hg) | ((with_reducible refine gate_callee (f := 30) rfl ?_); refine goesL_ (some 7) rfl rfl Try.func30 (by kernel_rfl) rfl #[.slice A0 l0.length c0] rfl y9 ?_; (with_reducible refine (spec_l6Open.calls _ _ l0 t1069 t1070 w _ ?side1 ?side2 ?side3 A2.out).mono ?_); (case side1 => exact y3 HB.out GE1067.out GE1068.out); (case side2 => exact HR0.out); (case side3 => exact HC0.out); rintro e w9 ⟨g1071, rfl, hi, hb, hb2⟩; refine ⟨_, rfl, ?_⟩; replace HB := Aside0.mk (hb); have HI1071 := Aside0.mk (hi); have NB1071_1067 := Aside0.mk (IsS75.ne_blk hi (blk_below (g := gb1067) (o := .cells #[.slice none 0 0] 50 (0, 0)) (y0 BK1067.out) hb2) (by decide)); have NB1067_1071 := Aside0.mk (Ne.symm (IsS75.ne_blk hi (blk_below (g := gb1067) (o := .cells #[.slice none 0 0] 50 (0, 0)) (y0 BK1067.out) hb2) (by decide))); replace BK1067 := Aside0.mk (blk_below (g := gb1067) (o := .cells #[.slice none 0 0] 50 (0, 0)) (y0 BK1067.out) hb2); have NB1071_1068 := Aside0.mk (IsS75.ne_blk hi (blk_below (g := gb1068) (o := .cells #[.int .i64 0, .slice none 0 0] 25 (0, 0)) (y0 BK1068.out) hb2) (by decide)); have NB1068_1071 := Aside0.mk (Ne.symm (IsS75.ne_blk hi (blk_below (g := gb1068) (o := .cells #[.int .i64 0, .slice none 0 0] 25 (0, 0)) (y0 BK1068.out) hb2) (by decide))); replace BK1068 := Aside0.mk (blk_below (g := gb1068) (o := .cells #[.int .i64 0, .slice none 0 0] 25 (0, 0)) (y0 BK1068.out) hb2); (try clear hb); (try clear hb2); (try clear hk); (try clear hi)) | ((with_reducible refine gate_callee (f := 32) rfl ?_); refine goesL_ (some 10) rfl rfl Try.func32 (by kernel_rfl) rfl #[.pointer (some ⟨g1071, 0, none⟩), .int .i64 4] rfl y9 ?_; (with_reducible refine (spec_l6Rd_pick.calls k g1071 t1069 t1070 4 t1072 t1073 w _ ?side1 ?side2 A3.out).mono ?_); (case side1 => exact y24 HI1071.out NB1071_1067.out NB1071_1068.out); (case side2 => exact y19 HB.out HI1071.out GE1067.out GE1068.out); rintro e w10 ⟨rfl, hi, hb, hk⟩; refine ⟨_, rfl, ?_⟩; replace BK1067 := Aside0.mk (KeepBut.blk hk (g' := gb1067) (o := .cells #[.slice none 0 0] 50 (0, 0)) (y0 BK1067.out) NB1067_1071.out (by simp)); replace BK1068 := Aside0.mk (KeepBut.blk hk (g' := gb1068) (o := .cells #[.int .i64 0, .slice none 0 0] 25 (0, 0)) (y0 BK1068.out) NB1068_1071.out (by simp)); replace HB := Aside0.mk (hb); replace HI1071 := Aside0.mk (hi); (try clear hb); (try clear hb2); (try clear hk); (try clear hi)) | ((with_reducible refine gate_callee (f := 31) rfl ?_); refine goesL_ (some 12) rfl rfl Try.func31 (by kernel_rfl) rfl #[.pointer (some ⟨g1071, 0, none⟩), .int .i64 (wrap64 (1 + t1072))] rfl y9 ?_; (with_reducible refine (spec_l71Type.calls k g1071 t1069 t1073 (wrap64 (1 + t1072)) t1074 t1077 w _ ?side1 ?side2 A4.out).mono ?_); (case side1 => exact y24 HI1071.out NB1071_1067.out NB1071_1068.out); (case side2 => exact y19 HB.out HI1071.out GE1067.out GE1068.out); rintro e w11 ⟨v1075, rfl, ho0, hi, hb, hk⟩; refine ⟨_, rfl, ?_⟩; have HO1076 := Aside0.mk (Kd.N_lower (Kd.N_mono (ok' := fun k_ => (w.heap.size ≤ k_) ∧ k_ ≠ gb1067 ∧ k_ ≠ gb1068 ∧ k_ ≠ g1071) ho0 (fun k_ hk_ => ⟨(Nat.le_trans (below_size (y19 HB.out HI1071.out GE1067.out GE1068.out)) hk_), (Kd.freshB (g := gb1067) (o := .cells #[.slice none 0 0] 50 (0, 0)) (y0 BK1067.out) k_ hk_), (Kd.freshB (g := gb1068) (o := .cells #[.int .i64 0, .slice none 0 0] 25 (0, 0)) (y0 BK1068.out) k_ hk_), (IsS75.fresh (y24 HI1071.out NB1071_1067.out NB1071_1068.out) k_ hk_)⟩)) (below_size (y19 HB.out HI1071.out GE1067.out GE1068.out))); replace BK1067 := Aside0.mk (KeepBut.blk hk (g' := gb1067) (o := .cells #[.slice none 0 0] 50 (0, 0)) (y0 BK1067.out) NB1067_1071.out (by simp)); replace BK1068 := Aside0.mk (KeepBut.blk hk (g' := gb1068) (o := .cells #[.int .i64 0, .slice none 0 0] 25 (0, 0)) (y0 BK1068.out) NB1068_1071.out (by simp)); replace HB := Aside0.mk (hb); replace HI1071 := Aside0.mk (hi); (try clear hb); (try clear hb2); (try clear hk); (try clear hi); (try clear ho0)) | ((with_reducible refine gate_dst (N := 5) rfl ?_); refine zbx 5 #[.slice none 0 0] 50 ?_; intro gb1078 hg w12 hbox hb; replace HO1076 := Aside0.mk (Kd.N_below (Kd.N_elderB (y2 HO1076.out) gb1078 (Nat.le_of_eq hg.symm)) hb); have BK1078 := Aside0.mk hbox; have GW1078 := Aside0.mk ((y58 hg HB.out HI1071.out GE1067.out GE1068.out : w.heap.size ≤ gb1078)); have GE1078 := Aside0.mk ((y58 hg HB.out HI1071.out GE1067.out GE1068.out : w.heap.size ≤ gb1078)); replace HB := Aside0.mk (below_step (y19 HB.out HI1071.out GE1067.out GE1068.out) hb); have NB1067_1078 := zltn hg BK1067; have NB1078_1067 := zgtn hg BK1067; replace BK1067 := zbb BK1067 hb; have NB1068_1078 := zltn hg BK1068; have NB1078_1068 := zgtn hg BK1068; replace BK1068 := zbb BK1068 hb; have NB1071_1078 := Aside0.mk ((by rw [hg]; exact Nat.ne_of_lt (IsS75.lt (show IsS75 w _ g1071 t1069 t1077 from by repeat (first | (with_reducible first | exact HI1071.out | apply IsS75.alloc | apply IsS75.drewN | apply IsS75.drew | apply IsS75.set_1 | refine IsS75.far ?_ NB1071_1067.out _ | refine IsS75.far ?_ NB1071_1068.out _) | exact HI1071.out))) : g1071 ≠ gb1078)); have NB1078_1071 := Aside0.mk ((by rw [hg]; exact Nat.ne_of_gt (IsS75.lt (show IsS75 w _ g1071 t1069 t1077 from by repeat (first | (with_reducible first | exact HI1071.out | apply IsS75.alloc | apply IsS75.drewN | apply IsS75.drew | apply IsS75.set_1 | refine IsS75.far ?_ NB1071_1067.out _ | refine IsS75.far ?_ NB1071_1068.out _) | exact HI1071.out))) : gb1078 ≠ g1071)); replace HI1071 := Aside0.mk (IsS75.below (y24 HI1071.out NB1071_1067.out NB1071_1068.out) hb); clear hb hbox hg; obtain ⟨Ao13, co13, eo13⟩ := Kd.N_slice HO1076.out; subst eo13; have hnb14 := NB1078_1067.out; have hnc14 := NB1067_1078.out; have hnb15 := NB1078_1068.out; have hnc15 := NB1068_1078.out; have hnb16 := NB1078_1071.out; have hnc16 := NB1071_1078.out; have hcz17_0 := zh BK1078; have hfz17_0 := zfr BK1078 0) | ((with_reducible refine gate_callee (f := 32) rfl ?_); refine goesL_ (some 14) rfl rfl Try.func32 (by kernel_rfl) rfl #[.pointer (some ⟨g1071, 0, none⟩), .int .i64 5] rfl y9 ?_; (with_reducible refine (spec_l6Rd_pick.calls k g1071 t1069 t1077 5 t1079 t1080 w _ ?side1 ?side2 A5.out).mono ?_); (case side1 => exact y25 HI1071.out NB1071_1067.out NB1071_1068.out NB1071_1078.out); (case side2 => exact y21 HB.out HI1071.out GE1067.out GE1068.out GE1078.out); rintro e w18 ⟨rfl, hi, hb, hk⟩; refine ⟨_, rfl, ?_⟩; replace BK1067 := Aside0.mk (KeepBut.blk hk (g' := gb1067) (o := .cells #[.slice none 0 0] 50 (0, 0)) (y13 NB1067_1078.out BK1067.out) NB1067_1071.out (by simp)); replace BK1068 := Aside0.mk (KeepBut.blk hk (g' := gb1068) (o := .cells #[.int .i64 0, .slice none 0 0] 25 (0, 0)) (y13 NB1068_1078.out BK1068.out) NB1068_1071.out (by simp)); replace HO1076 := Aside0.mk (Kd.N_mono (Kd.N_keep (Kd.N_mono (ok := fun k_ => ((((w.heap.size ≤ k_)) ∧ (k_ ≠ gb1067 ∧ (k_ ≠ gb1068 ∧ k_ ≠ g1071))) ∧ k_ ≠ gb1078)) (by (with_reducible repeat (first | apply Kd.N_alloc | apply Kd.N_drewN | apply Kd.N_drew)); exact (Kd.N_mono (Kd.N_far (p := ⟨gb1078, 0, none⟩) (Kd.N_mono HO1076.out (fun k_ hk => (⟨hk, hk.2⟩ : _ ∧ k_ ≠ gb1078))) (fun _ hk => hk.2) (.slice Ao13 t1074.length co13)) (fun _ h_ => h_.1))) (fun k_ hk_ => (⟨hk_, hk_.1.2.2.2⟩ : _ ∧ k_ ≠ g1071))) hk (fun _ h => h.2)) (fun _ h => h.1)); replace BK1078 := Aside0.mk (KeepBut.blk hk (g' := gb1078) (o := .cells #[.slice Ao13 t1074.length co13] 50 (0, 0)) (by (with_reducible repeat (first | refine blk_drewN ?_ _ | refine blk_drew ?_ | refine blk_alloc ?_ _)); apply blk_put (i := 0); (case h => exact y0 BK1078.out); (case e => rfl)) NB1078_1071.out (by simp)); replace HB := Aside0.mk (hb); replace HI1071 := Aside0.mk (hi); (try clear hb); (try clear hb2); (try clear hk); (try clear hi)))
 (try simp only [Act.put, List.setIfInBounds_toArray, List.set_cons_zero, List.set_cons_succ])
 have H := HZ6.out
 clear HZ6
 by_cases c19 : t1079 = 0
 ·rw [if_pos c19] at H
  have c19b0 : (t1079 == 0) = true := beq_iff_eq.mpr c19
  have c19b1 : (t1079 != 0) = false := bne_eq_false_iff_eq.mpr c19
  clear c19
  (first | rw [c19b0] | (simp only [i64_w, i32_w]; rw [c19b0]) | skip)
  obtain ⟨⟨t1081, t1084⟩, A200, H⟩ := ob H
  have A20 := Aside0.mk A200
  clear A200
  obtain ⟨⟨t1085, t1086, t1089⟩, A210, H⟩ := ob H
  have A21 := Aside0.mk A210
  clear A210
  simp only [Option.some.injEq, Prod.mk.injEq] at H
  obtain ⟨rfl, rfl, rfl⟩ := H
  try go_wp2
  replace HO1076 := Aside0.mk (Kd.N_drew HO1076.out)
  replace BK1067 := Aside0.mk (blk_drew BK1067.out)
  replace BK1068 := Aside0.mk (blk_drew BK1068.out)
  replace BK1078 := Aside0.mk (blk_drew BK1078.out)
  replace HI1071 := Aside0.mk (IsS75.drew HI1071.out)
  replace HB := Aside0.mk (below_drew1 HB.out)
  refine start_ (n := 7) (S := fun w' => w'.cell? ⟨gb1078, 0, none⟩ = some (.slice Ao13 t1074.length co13)) (ds := []) #[false, false, false, false, false, false, false] (by kernel_rfl) rfl rfl ((blk_cell BK1078.out 0).trans rfl) (fun hHeld => ?_)
  generalize w18.drew = w22 at HO1076 BK1067 BK1068 BK1078 HI1071 HB hHeld ⊢
  refine pure_ (i := 1) (N := some 17) (v := ?_) (a' := ?_) #[false, true, false, false, false, false, false] rfl rfl (by kernel_rfl) (fun _ _ _ h => h) (Or.inl ⟨(by rfl), ?_⟩) ?_ ?_
  rotate_left
  ·intro w'
   go_simp
   with_reducible rfl
  rotate_left
  ·simp only [Act.put, List.setIfInBounds_toArray, List.set_cons_zero, List.set_cons_succ, i64_w, i32_w]
   rfl
  refine pure_ (i := 2) (N := some 18) (v := ?_) (a' := ?_) #[false, true, true, false, false, false, false] rfl rfl (by kernel_rfl) (fun _ _ _ h => h) (Or.inl ⟨(by rfl), ?_⟩) ?_ ?_
  rotate_left
  ·intro w'
   go_simp
   with_reducible rfl
  rotate_left
  ·simp only [Act.put, List.setIfInBounds_toArray, List.set_cons_zero, List.set_cons_succ, i64_w, i32_w]
   rfl
  refine take_ (i := 0) (N := some 16) (v := ?_) (a' := ?_) #[true, true, true, false, false, false, false] rfl rfl (by kernel_rfl) (fun _ _ _ h => h) (Or.inl ⟨(by rfl), ?_⟩) hHeld ?_ ?_
  rotate_left
  ·intro w' s0
   go_simp
   with_reducible rfl
  rotate_left
  ·simp only [Act.put, List.setIfInBounds_toArray, List.set_cons_zero, List.set_cons_succ, i64_w, i32_w]
   rfl
  refine one_ (i := 3) (N := some 19) #[true, true, true, true, false, false, false] rfl rfl (by kernel_rfl) (by decide) (fun K hK => ?_)
  refine goes_ Try.func31 (by kernel_rfl) rfl #[.pointer (some ⟨g1071, 0, none⟩), .int .i64 3] (by rfl) rfl rfl y9 ?_
  with_reducible refine (spec_l71Type.calls k g1071 t1069 t1080 3 t1081 t1084 w _ ?side1 ?side2 A20.out).mono ?_
  (case side1 => exact y25 HI1071.out NB1071_1067.out NB1071_1068.out NB1071_1078.out)
  (case side2 => exact y21 HB.out HI1071.out GE1067.out GE1068.out GE1078.out)
  rintro e w23 ⟨v1082, rfl, ho0, hi, hb, hk⟩
  refine ⟨_, rfl, ?_⟩
  have HO1083 := Aside0.mk (Kd.N_lower (Kd.N_mono (ok' := fun k_ => (w.heap.size ≤ k_) ∧ some k_ ≠ (.slice Ao13 t1074.length co13 : Value).ownBlock ∧ k_ ≠ gb1067 ∧ k_ ≠ gb1068 ∧ k_ ≠ gb1078 ∧ k_ ≠ g1071) ho0 (fun k_ hk_ => ⟨(Nat.le_trans (below_size (y21 HB.out HI1071.out GE1067.out GE1068.out GE1078.out)) hk_), (Kd.fresh' (Kd.N_lt (y2 HO1076.out)) k_ hk_), (Kd.freshB (g := gb1067) (o := .cells #[.slice none 0 0] 50 (0, 0)) (y0 BK1067.out) k_ hk_), (Kd.freshB (g := gb1068) (o := .cells #[.int .i64 0, .slice none 0 0] 25 (0, 0)) (y0 BK1068.out) k_ hk_), (Kd.freshB (g := gb1078) (o := .cells #[.slice Ao13 t1074.length co13] 50 (0, 0)) (y0 BK1078.out) k_ hk_), (IsS75.fresh (y25 HI1071.out NB1071_1067.out NB1071_1068.out NB1071_1078.out) k_ hk_)⟩)) (below_size (y21 HB.out HI1071.out GE1067.out GE1068.out GE1078.out)))
  replace BK1067 := Aside0.mk (KeepBut.blk hk (g' := gb1067) (o := .cells #[.slice none 0 0] 50 (0, 0)) (y0 BK1067.out) NB1067_1071.out (by simp))
  replace BK1068 := Aside0.mk (KeepBut.blk hk (g' := gb1068) (o := .cells #[.int .i64 0, .slice none 0 0] 25 (0, 0)) (y0 BK1068.out) NB1068_1071.out (by simp))
  replace HO1076 := Aside0.mk (Kd.N_mono (Kd.N_told (Kd.N_oldK (Kd.N_mono (ok := fun k_ => ((((w.heap.size ≤ k_)) ∧ (k_ ≠ gb1067 ∧ (k_ ≠ gb1068 ∧ k_ ≠ g1071))) ∧ k_ ≠ gb1078)) (y2 HO1076.out) (fun k_ hk_ => (⟨hk_, hk_.1.2.2.2⟩ : _ ∧ k_ ≠ g1071))) hk) (Kd.N_base ho0)) (fun _ h_ => h_.1))
  replace BK1078 := Aside0.mk (KeepBut.blk hk (g' := gb1078) (o := .cells #[.slice Ao13 t1074.length co13] 50 (0, 0)) (y0 BK1078.out) NB1078_1071.out (by simp))
  replace HB := Aside0.mk (hb)
  replace HI1071 := Aside0.mk (hi)
  (try clear hb)
  (try clear hb2)
  (try clear hk)
  (try clear hi)
  (try clear ho0)
  obtain ⟨Ao24, co24, eo24⟩ := Kd.N_slice HO1083.out
  (first | subst eo24 | (injection eo24 with f1_ f2_ f3_; have f4_ := f1_.symm; have f5_ := f3_.symm; clear f1_ f2_ f3_; subst f4_; subst f5_))
  refine hK.out _ _ ((blk_cell BK1078.out 0).trans rfl) (fun hHeld => ?_)
  clear hK K
  refine norm_ (a' := ?_) ?_ ?_
  rotate_left
  ·show Act.put _ (some 19) _ = _
   simp only [Act.put, List.setIfInBounds_toArray, List.set_cons_zero, List.set_cons_succ, i64_w, i32_w]
   rfl
  refine one_ (i := 4) (N := some 20) #[true, true, true, true, true, false, false] rfl rfl (by kernel_rfl) (by decide) (fun K hK => ?_)
  refine goes_ Try.func33 (by kernel_rfl) rfl #[.pointer (some ⟨g1071, 0, none⟩), .agg #[.slice Ao24 t1081.length co24]] (by rfl) rfl rfl y9 ?_
  with_reducible refine (spec_l71Bad.calls k g1071 t1069 t1084 (fun k_ => ((w.heap.size ≤ k_) ∧ (some k_ ≠ (.slice Ao13 t1074.length co13 : Value).ownBlock ∧ (k_ ≠ gb1067 ∧ (k_ ≠ gb1068 ∧ (k_ ≠ gb1078 ∧ k_ ≠ g1071)))))) _ _ t1081 t1085 t1086 t1089 w _ ?side1 ?side2 ?side3 A21.out).mono ?_
  (case side1 => exact y25 HI1071.out NB1071_1067.out NB1071_1068.out NB1071_1078.out)
  (case side2 => exact y21 HB.out HI1071.out GE1067.out GE1068.out GE1078.out)
  (case side3 => exact Kd.V_mono (Kd.N_V (HO1083.out)) (fun k_ hk_ => ⟨hk_, hk_.2.2.2.2.2⟩))
  rintro e w25 ⟨v1087, rfl, ho0, hi, hb, hk⟩
  refine ⟨_, rfl, ?_⟩
  replace HO1083 := Aside0.mk (Kd.N_mono (Kd.N_told (Kd.N_oldK (Kd.N_mono (ok := fun k_ => (((w.heap.size ≤ k_)) ∧ (some k_ ≠ (.slice Ao13 t1074.length co13 : Value).ownBlock ∧ (k_ ≠ gb1067 ∧ (k_ ≠ gb1068 ∧ (k_ ≠ gb1078 ∧ k_ ≠ g1071)))))) (y2 HO1083.out) (fun k_ hk_ => (⟨hk_, hk_.2.2.2.2.2⟩ : _ ∧ k_ ≠ g1071))) hk) (Kd.N_base ho0)) (fun _ h_ => h_.1))
  have HO1088 := Aside0.mk (Kd.N_lower (Kd.N_mono (ok' := fun k_ => (w.heap.size ≤ k_) ∧ some k_ ≠ (.slice Ao13 t1074.length co13 : Value).ownBlock ∧ k_ ≠ gb1067 ∧ k_ ≠ gb1068 ∧ k_ ≠ gb1078 ∧ k_ ≠ g1071) ho0 (fun k_ hk_ => ⟨Or.elim hk_ (fun hs_ => hs_.1) (fun hn_ => (Nat.le_trans (below_size (y21 HB.out HI1071.out GE1067.out GE1068.out GE1078.out)) hn_)), Or.elim hk_ (fun hs_ => hs_.2.1) (fun hn_ => (Kd.fresh' (Kd.N_lt (y2 HO1076.out)) k_ hn_)), Or.elim hk_ (fun hs_ => hs_.2.2.1) (fun hn_ => (Kd.freshB (g := gb1067) (o := .cells #[.slice none 0 0] 50 (0, 0)) (y0 BK1067.out) k_ hn_)), Or.elim hk_ (fun hs_ => hs_.2.2.2.1) (fun hn_ => (Kd.freshB (g := gb1068) (o := .cells #[.int .i64 0, .slice none 0 0] 25 (0, 0)) (y0 BK1068.out) k_ hn_)), Or.elim hk_ (fun hs_ => hs_.2.2.2.2.1) (fun hn_ => (Kd.freshB (g := gb1078) (o := .cells #[.slice Ao13 t1074.length co13] 50 (0, 0)) (y0 BK1078.out) k_ hn_)), Or.elim hk_ (fun hs_ => hs_.2.2.2.2.2) (fun hn_ => (IsS75.fresh (y25 HI1071.out NB1071_1067.out NB1071_1068.out NB1071_1078.out) k_ hn_))⟩)) (below_size (y21 HB.out HI1071.out GE1067.out GE1068.out GE1078.out)))
  replace BK1067 := Aside0.mk (KeepBut.blk hk (g' := gb1067) (o := .cells #[.slice none 0 0] 50 (0, 0)) (y0 BK1067.out) NB1067_1071.out (by simp))
  replace BK1068 := Aside0.mk (KeepBut.blk hk (g' := gb1068) (o := .cells #[.int .i64 0, .slice none 0 0] 25 (0, 0)) (y0 BK1068.out) NB1068_1071.out (by simp))
  replace HO1076 := Aside0.mk (Kd.N_mono (Kd.N_told (Kd.N_oldK (Kd.N_mono (ok := fun k_ => (((((w.heap.size ≤ k_)) ∧ (k_ ≠ gb1067 ∧ (k_ ≠ gb1068 ∧ k_ ≠ g1071))) ∧ k_ ≠ gb1078) ∧ some k_ ≠ (.slice Ao24 t1081.length co24 : Value).ownBlock)) (y2 HO1076.out) (fun k_ hk_ => (⟨hk_, hk_.1.1.2.2.2⟩ : _ ∧ k_ ≠ g1071))) hk) (Kd.N_base ho0)) (fun _ h_ => h_.1))
  replace BK1078 := Aside0.mk (KeepBut.blk hk (g' := gb1078) (o := .cells #[.slice Ao13 t1074.length co13] 50 (0, 0)) (y0 BK1078.out) NB1078_1071.out (by simp))
  replace HB := Aside0.mk (hb)
  replace HI1071 := Aside0.mk (hi)
  (try clear hb)
  (try clear hb2)
  (try clear hk)
  (try clear hi)
  (try clear ho0)
  obtain ⟨Ao28, co28, eo28⟩ := Kd.N_slice HO1088.out
  (first | subst eo28 | (injection eo28 with f1_ f2_ f3_; have f4_ := f1_.symm; have f5_ := f3_.symm; clear f1_ f2_ f3_; subst f4_; subst f5_))
  refine hK.out _ _ ((blk_cell BK1078.out 0).trans rfl) (fun hHeld => ?_)
  clear hK K
  refine norm_ (a' := ?_) ?_ ?_
  rotate_left
  ·show Act.put _ (some 20) _ = _
   simp only [Act.put, List.setIfInBounds_toArray, List.set_cons_zero, List.set_cons_succ, i64_w, i32_w]
   rfl
  refine one_ (i := 5) (N := none) #[true, true, true, true, true, true, false] rfl rfl (by kernel_rfl) (by decide) (fun K hK => ?_)
  have hs26 : w25.cell? ⟨gb1067, 0, none⟩ = some (.slice none 0 0) := (blk_cell BK1067.out 0).trans rfl
  have hfs26 := zfr BK1067 0
  have hns26_1 := NB1068_1067.out
  have hns26_2 := NB1078_1067.out
  have hms26_1 := NB1067_1068.out
  have hms26_2 := NB1067_1078.out
  refine skip_ (w1 := ?_) (by rfl) rfl ?_ ?_
  rotate_left
  ·go_simp
   rfl
  refine hK.out _ _ (((cell_far (p := ⟨gb1067, _, none⟩) NB1078_1067.out _).trans (hHeld))) (fun hHeld => ?_)
  clear hK K
  refine one_ (i := 6) (N := none) #[true, true, true, true, true, true, true] rfl rfl (by kernel_rfl) (by decide) (fun K hK => ?_)
  have hs27 : w25.cell? ⟨gb1068, 0, none⟩ = some (.int .i64 0) := (blk_cell BK1068.out 0).trans rfl
  have hfs27 := zfr BK1068 0
  have hns27_0 := NB1067_1068.out
  have hns27_2 := NB1078_1068.out
  have hms27_0 := NB1068_1067.out
  have hms27_2 := NB1068_1078.out
  have hs29 : w25.cell? ⟨gb1068, 1, none⟩ = some (.slice none 0 0) := (blk_cell BK1068.out 1).trans rfl
  have hfs29 := zfr BK1068 1
  have hns29_0 := NB1067_1068.out
  have hns29_2 := NB1078_1068.out
  have hms29_0 := NB1068_1067.out
  have hms29_2 := NB1068_1078.out
  refine skip_ (w1 := ?_) (by rfl) rfl ?_ ?_
  rotate_left
  ·go_simp
   rfl
  refine hK.out _ _ (((cell_far (p := ⟨gb1068, _, none⟩) NB1078_1068.out _).trans (((cell_far (p := ⟨gb1068, _, none⟩) NB1078_1068.out _).trans (hHeld))))) (fun hHeld => ?_)
  clear hK K
  refine done_ (by kernel_rfl) ?_
  try go_wp2
  refine bodyPost_ret (results_cc rfl _ _ gb1067 gb1068 50 25 #[.slice Ao13 t1074.length co13] #[.int .i64 t1085, .slice Ao28 t1086.length co28] (0, 0) (0, 0) _ _ rfl (by (with_reducible repeat (first | refine blk_drewN ?_ _ | refine blk_drew ?_ | refine blk_alloc ?_ _)); refine blk_far ?_ NB1067_1068.out _; (with_reducible repeat (first | refine blk_drewN ?_ _ | refine blk_drew ?_ | refine blk_alloc ?_ _)); refine blk_far ?_ NB1067_1068.out _; (with_reducible repeat (first | refine blk_drewN ?_ _ | refine blk_drew ?_ | refine blk_alloc ?_ _)); apply blk_put (i := 0); (case h => exact y0 BK1067.out); (case e => rfl)) Try.underlying50 rfl (by kernel_rfl) rfl (by (with_reducible repeat (first | refine blk_drewN ?_ _ | refine blk_drew ?_ | refine blk_alloc ?_ _)); refine blk_put (cs := #[.int .i64 t1085, .slice none 0 0]) ?_ 1 _ rfl; (with_reducible repeat (first | refine blk_drewN ?_ _ | refine blk_drew ?_ | refine blk_alloc ?_ _)); refine blk_put (cs := #[.int .i64 0, .slice none 0 0]) ?_ 0 _ rfl; (with_reducible repeat (first | refine blk_drewN ?_ _ | refine blk_drew ?_ | refine blk_alloc ?_ _)); refine blk_far ?_ NB1068_1067.out _; (with_reducible repeat (first | refine blk_drewN ?_ _ | refine blk_drew ?_ | refine blk_alloc ?_ _)); exact BK1068.out) Try.underlying25 rfl (by kernel_rfl)) rfl ?_
  exact ⟨_, _, y15, Kd.N_V (by (with_reducible repeat (first | apply Kd.N_alloc | apply Kd.N_drewN | apply Kd.N_drew)); exact Kd.N_mono (Kd.N_far (p := ⟨gb1068, 1, none⟩) (Kd.N_far (p := ⟨gb1068, 0, none⟩) (Kd.N_far (p := ⟨gb1067, 0, none⟩) (Kd.N_mono (Kd.N_mono HO1076.out (fun k_ hk => (⟨hk, hk.1.1.1.2.1⟩ : _ ∧ k_ ≠ gb1067))) (fun k_ hk => (⟨hk, hk.1.1.1.1.2.2.1⟩ : _ ∧ k_ ≠ gb1068))) (fun _ hk => hk.1.2) (.slice Ao13 t1074.length co13)) (fun _ hk => hk.2) (.int .i64 t1085)) (fun _ hk => hk.2) (.slice Ao28 t1086.length co28)) (fun _ hk => hk.1.1.1.1.1.1)), Kd.N_V (by (with_reducible repeat (first | apply Kd.N_alloc | apply Kd.N_drewN | apply Kd.N_drew)); exact Kd.N_mono (Kd.N_far (p := ⟨gb1068, 1, none⟩) (Kd.N_far (p := ⟨gb1068, 0, none⟩) (Kd.N_far (p := ⟨gb1067, 0, none⟩) (Kd.N_mono (Kd.N_mono HO1088.out (fun k_ hk => (⟨hk, hk.2.2.1⟩ : _ ∧ k_ ≠ gb1067))) (fun k_ hk => (⟨hk, hk.1.2.2.2.1⟩ : _ ∧ k_ ≠ gb1068))) (fun _ hk => hk.1.2) (.slice Ao13 t1074.length co13)) (fun _ hk => hk.2) (.int .i64 t1085)) (fun _ hk => hk.2) (.slice Ao28 t1086.length co28)) (fun _ hk => hk.1.1.1)), (y21 HB.out HI1071.out GE1067.out GE1068.out GE1078.out)⟩
 ·rw [if_neg c19] at H
  have c19b0 : (t1079 == 0) = false := beq_eq_false_iff_ne.mpr c19
  have c19b1 : (t1079 != 0) = true := bne_iff_ne.mpr c19
  (first | rw [c19b0] | (simp only [i64_w, i32_w]; rw [c19b0]) | skip)
  obtain ⟨⟨t1090, t1091, t1094⟩, A300, H⟩ := ob H
  have A30 := Aside0.mk A300
  clear A300
  simp only [Option.some.injEq, Prod.mk.injEq] at H
  obtain ⟨rfl, rfl, rfl⟩ := H
  try go_wp2
  replace HO1076 := Aside0.mk (Kd.N_drew HO1076.out)
  replace BK1067 := Aside0.mk (blk_drew BK1067.out)
  replace BK1068 := Aside0.mk (blk_drew BK1068.out)
  replace BK1078 := Aside0.mk (blk_drew BK1078.out)
  replace HI1071 := Aside0.mk (IsS75.drew HI1071.out)
  replace HB := Aside0.mk (below_drew1 HB.out)
  refine start_ (n := 6) (S := fun w' => w'.cell? ⟨gb1078, 0, none⟩ = some (.slice Ao13 t1074.length co13)) (ds := []) #[false, false, false, false, false, false] (by kernel_rfl) rfl rfl ((blk_cell BK1078.out 0).trans rfl) (fun hHeld => ?_)
  generalize w18.drew = w31 at HO1076 BK1067 BK1068 BK1078 HI1071 HB hHeld ⊢
  refine pure_ (i := 1) (N := some 22) (v := ?_) (a' := ?_) #[false, true, false, false, false, false] rfl rfl (by kernel_rfl) (fun _ _ _ h => h) (Or.inl ⟨(by rfl), ?_⟩) ?_ ?_
  rotate_left
  ·intro w'
   go_simp
   with_reducible rfl
  rotate_left
  ·simp only [Act.put, List.setIfInBounds_toArray, List.set_cons_zero, List.set_cons_succ, i64_w, i32_w]
   rfl
  refine take_ (i := 0) (N := some 21) (v := ?_) (a' := ?_) #[true, true, false, false, false, false] rfl rfl (by kernel_rfl) (fun _ _ _ h => h) (Or.inl ⟨(by rfl), ?_⟩) hHeld ?_ ?_
  rotate_left
  ·intro w' s0
   go_simp
   with_reducible rfl
  rotate_left
  ·simp only [Act.put, List.setIfInBounds_toArray, List.set_cons_zero, List.set_cons_succ, i64_w, i32_w]
   rfl
  refine take_ (i := 2) (N := some 23) (v := ?_) (a' := ?_) #[true, true, true, false, false, false] rfl rfl (by kernel_rfl) (fun _ _ _ h => h) (Or.inl ⟨(by rfl), ?_⟩) hHeld ?_ ?_
  rotate_left
  ·intro w' s0
   go_simp
   with_reducible rfl
  rotate_left
  ·simp only [Act.put, List.setIfInBounds_toArray, List.set_cons_zero, List.set_cons_succ, i64_w, i32_w]
   rfl
  refine one_ (i := 3) (N := some 24) #[true, true, true, true, false, false] rfl rfl (by kernel_rfl) (by decide) (fun K hK => ?_)
  refine goes_ Try.func33 (by kernel_rfl) rfl #[.pointer (some ⟨g1071, 0, none⟩), .agg #[.slice Ao13 t1074.length co13]] (by rfl) rfl rfl y9 ?_
  with_reducible refine (spec_l71Bad.calls k g1071 t1069 t1080 (fun k_ => (((w.heap.size ≤ k_) ∧ (k_ ≠ gb1067 ∧ (k_ ≠ gb1068 ∧ k_ ≠ g1071))) ∧ k_ ≠ gb1078)) _ _ t1074 t1090 t1091 t1094 w _ ?side1 ?side2 ?side3 A30.out).mono ?_
  (case side1 => exact y25 HI1071.out NB1071_1067.out NB1071_1068.out NB1071_1078.out)
  (case side2 => exact y21 HB.out HI1071.out GE1067.out GE1068.out GE1078.out)
  (case side3 => exact Kd.V_mono (Kd.N_V (HO1076.out)) (fun k_ hk_ => ⟨hk_, hk_.1.2.2.2⟩))
  rintro e w32 ⟨v1092, rfl, ho0, hi, hb, hk⟩
  refine ⟨_, rfl, ?_⟩
  replace HO1076 := Aside0.mk (Kd.N_mono (Kd.N_told (Kd.N_oldK (Kd.N_mono (ok := fun k_ => ((((w.heap.size ≤ k_)) ∧ (k_ ≠ gb1067 ∧ (k_ ≠ gb1068 ∧ k_ ≠ g1071))) ∧ k_ ≠ gb1078)) (y2 HO1076.out) (fun k_ hk_ => (⟨hk_, hk_.1.2.2.2⟩ : _ ∧ k_ ≠ g1071))) hk) (Kd.N_base ho0)) (fun _ h_ => h_.1))
  have HO1093 := Aside0.mk (Kd.N_lower (Kd.N_mono (ok' := fun k_ => (w.heap.size ≤ k_) ∧ k_ ≠ gb1067 ∧ k_ ≠ gb1068 ∧ k_ ≠ gb1078 ∧ k_ ≠ g1071) ho0 (fun k_ hk_ => ⟨Or.elim hk_ (fun hs_ => hs_.1.1) (fun hn_ => (Nat.le_trans (below_size (y21 HB.out HI1071.out GE1067.out GE1068.out GE1078.out)) hn_)), Or.elim hk_ (fun hs_ => hs_.1.2.1) (fun hn_ => (Kd.freshB (g := gb1067) (o := .cells #[.slice none 0 0] 50 (0, 0)) (y0 BK1067.out) k_ hn_)), Or.elim hk_ (fun hs_ => hs_.1.2.2.1) (fun hn_ => (Kd.freshB (g := gb1068) (o := .cells #[.int .i64 0, .slice none 0 0] 25 (0, 0)) (y0 BK1068.out) k_ hn_)), Or.elim hk_ (fun hs_ => hs_.2) (fun hn_ => (Kd.freshB (g := gb1078) (o := .cells #[.slice Ao13 t1074.length co13] 50 (0, 0)) (y0 BK1078.out) k_ hn_)), Or.elim hk_ (fun hs_ => hs_.1.2.2.2) (fun hn_ => (IsS75.fresh (y25 HI1071.out NB1071_1067.out NB1071_1068.out NB1071_1078.out) k_ hn_))⟩)) (below_size (y21 HB.out HI1071.out GE1067.out GE1068.out GE1078.out)))
  replace BK1067 := Aside0.mk (KeepBut.blk hk (g' := gb1067) (o := .cells #[.slice none 0 0] 50 (0, 0)) (y0 BK1067.out) NB1067_1071.out (by simp))
  replace BK1068 := Aside0.mk (KeepBut.blk hk (g' := gb1068) (o := .cells #[.int .i64 0, .slice none 0 0] 25 (0, 0)) (y0 BK1068.out) NB1068_1071.out (by simp))
  replace BK1078 := Aside0.mk (KeepBut.blk hk (g' := gb1078) (o := .cells #[.slice Ao13 t1074.length co13] 50 (0, 0)) (y0 BK1078.out) NB1078_1071.out (by simp))
  replace HB := Aside0.mk (hb)
  replace HI1071 := Aside0.mk (hi)
  (try clear hb)
  (try clear hb2)
  (try clear hk)
  (try clear hi)
  (try clear ho0)
  obtain ⟨Ao35, co35, eo35⟩ := Kd.N_slice HO1093.out
  (first | subst eo35 | (injection eo35 with f1_ f2_ f3_; have f4_ := f1_.symm; have f5_ := f3_.symm; clear f1_ f2_ f3_; subst f4_; subst f5_))
  refine hK.out _ _ ((blk_cell BK1078.out 0).trans rfl) (fun hHeld => ?_)
  clear hK K
  refine norm_ (a' := ?_) ?_ ?_
  rotate_left
  ·show Act.put _ (some 24) _ = _
   simp only [Act.put, List.setIfInBounds_toArray, List.set_cons_zero, List.set_cons_succ, i64_w, i32_w]
   rfl
  refine one_ (i := 4) (N := none) #[true, true, true, true, true, false] rfl rfl (by kernel_rfl) (by decide) (fun K hK => ?_)
  have hs33 : w32.cell? ⟨gb1067, 0, none⟩ = some (.slice none 0 0) := (blk_cell BK1067.out 0).trans rfl
  have hfs33 := zfr BK1067 0
  have hns33_1 := NB1068_1067.out
  have hns33_2 := NB1078_1067.out
  have hms33_1 := NB1067_1068.out
  have hms33_2 := NB1067_1078.out
  refine skip_ (w1 := ?_) (by rfl) rfl ?_ ?_
  rotate_left
  ·go_simp
   rfl
  refine hK.out _ _ (((cell_far (p := ⟨gb1067, _, none⟩) NB1078_1067.out _).trans (hHeld))) (fun hHeld => ?_)
  clear hK K
  refine one_ (i := 5) (N := none) #[true, true, true, true, true, true] rfl rfl (by kernel_rfl) (by decide) (fun K hK => ?_)
  have hs34 : w32.cell? ⟨gb1068, 0, none⟩ = some (.int .i64 0) := (blk_cell BK1068.out 0).trans rfl
  have hfs34 := zfr BK1068 0
  have hns34_0 := NB1067_1068.out
  have hns34_2 := NB1078_1068.out
  have hms34_0 := NB1068_1067.out
  have hms34_2 := NB1068_1078.out
  have hs36 : w32.cell? ⟨gb1068, 1, none⟩ = some (.slice none 0 0) := (blk_cell BK1068.out 1).trans rfl
  have hfs36 := zfr BK1068 1
  have hns36_0 := NB1067_1068.out
  have hns36_2 := NB1078_1068.out
  have hms36_0 := NB1068_1067.out
  have hms36_2 := NB1068_1078.out
  refine skip_ (w1 := ?_) (by rfl) rfl ?_ ?_
  rotate_left
  ·go_simp
   rfl
  refine hK.out _ _ (((cell_far (p := ⟨gb1068, _, none⟩) NB1078_1068.out _).trans (((cell_far (p := ⟨gb1068, _, none⟩) NB1078_1068.out _).trans (hHeld))))) (fun hHeld => ?_)
  clear hK K
  refine done_ (by kernel_rfl) ?_
  try go_wp2
  refine bodyPost_ret (results_cc rfl _ _ gb1067 gb1068 50 25 #[.slice Ao13 t1074.length co13] #[.int .i64 t1090, .slice Ao35 t1091.length co35] (0, 0) (0, 0) _ _ rfl (by (with_reducible repeat (first | refine blk_drewN ?_ _ | refine blk_drew ?_ | refine blk_alloc ?_ _)); refine blk_far ?_ NB1067_1068.out _; (with_reducible repeat (first | refine blk_drewN ?_ _ | refine blk_drew ?_ | refine blk_alloc ?_ _)); refine blk_far ?_ NB1067_1068.out _; (with_reducible repeat (first | refine blk_drewN ?_ _ | refine blk_drew ?_ | refine blk_alloc ?_ _)); apply blk_put (i := 0); (case h => exact y0 BK1067.out); (case e => rfl)) Try.underlying50 rfl (by kernel_rfl) rfl (by (with_reducible repeat (first | refine blk_drewN ?_ _ | refine blk_drew ?_ | refine blk_alloc ?_ _)); refine blk_put (cs := #[.int .i64 t1090, .slice none 0 0]) ?_ 1 _ rfl; (with_reducible repeat (first | refine blk_drewN ?_ _ | refine blk_drew ?_ | refine blk_alloc ?_ _)); refine blk_put (cs := #[.int .i64 0, .slice none 0 0]) ?_ 0 _ rfl; (with_reducible repeat (first | refine blk_drewN ?_ _ | refine blk_drew ?_ | refine blk_alloc ?_ _)); refine blk_far ?_ NB1068_1067.out _; (with_reducible repeat (first | refine blk_drewN ?_ _ | refine blk_drew ?_ | refine blk_alloc ?_ _)); exact BK1068.out) Try.underlying25 rfl (by kernel_rfl)) rfl ?_
  exact ⟨_, _, y15, Kd.N_V (by (with_reducible repeat (first | apply Kd.N_alloc | apply Kd.N_drewN | apply Kd.N_drew)); exact Kd.N_mono (Kd.N_far (p := ⟨gb1068, 1, none⟩) (Kd.N_far (p := ⟨gb1068, 0, none⟩) (Kd.N_far (p := ⟨gb1067, 0, none⟩) (Kd.N_mono (Kd.N_mono HO1076.out (fun k_ hk => (⟨hk, hk.1.1.2.1⟩ : _ ∧ k_ ≠ gb1067))) (fun k_ hk => (⟨hk, hk.1.1.1.2.2.1⟩ : _ ∧ k_ ≠ gb1068))) (fun _ hk => hk.1.2) (.slice Ao13 t1074.length co13)) (fun _ hk => hk.2) (.int .i64 t1090)) (fun _ hk => hk.2) (.slice Ao35 t1091.length co35)) (fun _ hk => hk.1.1.1.1.1)), Kd.N_V (by (with_reducible repeat (first | apply Kd.N_alloc | apply Kd.N_drewN | apply Kd.N_drew)); exact Kd.N_mono (Kd.N_far (p := ⟨gb1068, 1, none⟩) (Kd.N_far (p := ⟨gb1068, 0, none⟩) (Kd.N_far (p := ⟨gb1067, 0, none⟩) (Kd.N_mono (Kd.N_mono HO1093.out (fun k_ hk => (⟨hk, hk.2.1⟩ : _ ∧ k_ ≠ gb1067))) (fun k_ hk => (⟨hk, hk.1.2.2.1⟩ : _ ∧ k_ ≠ gb1068))) (fun _ hk => hk.1.2) (.slice Ao13 t1074.length co13)) (fun _ hk => hk.2) (.int .i64 t1090)) (fun _ hk => hk.2) (.slice Ao35 t1091.length co35)) (fun _ hk => hk.1.1.1)), (y21 HB.out HI1071.out GE1067.out GE1068.out GE1078.out)⟩
end Go.Proofs.Ythfflieeifakdaa.PA
end
section
namespace Go.Proofs.Ythfflieeifakdaa.PA
open Go.RowKit Go.Proofs.YthfflieeifakdaaW.PrintWords Go.Proofs.YthfflieeifakdaaW.PrintLast Go.Proofs.YthfflieeifakdaaW.PrintMore
attribute [local go_sem] max2_int min2_int max_two min_two max_three min_three max_four min_four
set_option linter.unusedVariables false
set_option linter.unusedSimpArgs false
def impl_ValOk.f (k : Nat) (l0_0 : List (S50)) (a1_0 : Int) (l1_1 : List (S25)) : Option (Bool) := (impl_TypeOk.f k l0_0).bind fun t1104 => (if t1104 = true then ((impl_valTyped.f k a1_0 l1_1).bind fun bt1105 => (if bt1105.2 = true then ((impl_typeSame.f k bt1105.1 l0_0).bind fun t1110 => (some t1110)) else (some false))) else (some false))
theorem impl_ValOk.mono : ∀ a0 a1 a2 k, LeO (impl_ValOk.f k a0 a1 a2) (impl_ValOk.f (k + 1) a0 a1 a2) := by
 intro a0 a1 a2 k
 unfold impl_ValOk.f
 repeat' first
   | (with_reducible exact impl_TypeOk.mono _ _)
   | (with_reducible exact impl_typeSame.mono _ _ _)
   | (with_reducible exact impl_valTyped.mono _ _ _)
   | (with_reducible exact LeO.refl _)
   | (with_reducible exact LeO.none _)
   | (with_reducible refine LeO.ite ?_ ?_)
   | (with_reducible refine LeO.bind ?_ (fun _ => ?_))
   | exact impl_TypeOk.mono _ _
   | exact impl_typeSame.mono _ _ _
   | exact impl_valTyped.mono _ _ _
   | exact LeO.none _
   | refine LeO.ite ?_ ?_
   | refine LeO.bind ?_ (fun _ => ?_)
set_option maxHeartbeats 8000000 in
set_option maxRecDepth 100000 in
theorem impl_ValOk.calls (k : Nat) (A0_0 : Option Addr) (c0_0 : Nat) (l0_0 : List (S50)) (a1_0 : Int) (A1_1 : Option Addr) (c1_1 : Nat) (l1_1 : List (S25)) (r : Bool) (w : World) (hr0_0 : Kd.C k50 w A0_0 l0_0.length l0_0) (hc0_0 : l0_0.length ≤ c0_0) (hr1_1 : Kd.C k25 w A1_1 l1_1.length l1_1) (hc1_1 : l1_1.length ≤ c1_1) (h : impl_ValOk.f k l0_0 a1_0 l1_1 = some r) :
  Calls Try.prog 28 #[.agg #[.slice A0_0 l0_0.length c0_0], .agg #[.int .i64 a1_0, .slice A1_1 l1_1.length c1_1]] w fun e w' => e = .returned (.bool r) ∧ Below w.heap.size w w' := by
 have hu50 := Try.underlying50
 have hu25 := Try.underlying25
 have HR0_0 := Aside0.mk hr0_0
 have HC0_0 := Aside0.mk hc0_0
 clear hr0_0 hc0_0
 have HR1_1 := Aside0.mk hr1_1
 have HC1_1 := Aside0.mk hc1_1
 clear hr1_1 hc1_1
 have HB := Aside0.mk (Below.refl w.heap.size w)
 have H : ((impl_TypeOk.f k l0_0).bind fun t1104 => (if t1104 = true then ((impl_valTyped.f k a1_0 l1_1).bind fun bt1105 => (if bt1105.2 = true then ((impl_typeSame.f k bt1105.1 l0_0).bind fun t1110 => (some t1110)) else (some false))) else (some false))) = some r := h
 clear h
 obtain ⟨t1104, A30, H⟩ := ob H
 have A3 := Aside0.mk A30
 clear A30
 have HZ4 := Aside0.mk H
 clear H
 go_enter Try.func28, Try.ntmps28
 go_upto_if 9 with (first | ((with_reducible refine gate_dst (N := 2) rfl ?_); refine zbx 2 #[.slice A0_0 l0_0.length c0_0] 50 ?_; intro gb1102 hg w5 hbox hb; have BK1102 := Aside0.mk hbox; have GW1102 := Aside0.mk ((y10 hg HB.out : w.heap.size ≤ gb1102)); have GE1102 := Aside0.mk ((y10 hg HB.out : w.heap.size ≤ gb1102)); replace HB := Aside0.mk (below_step (y6 HB.out) hb); clear hb hbox hg) | ((with_reducible refine gate_dst (N := 3) rfl ?_); refine zbx 3 #[.int .i64 a1_0, .slice A1_1 l1_1.length c1_1] 25 ?_; intro gb1103 hg w6 hbox hb; have BK1103 := Aside0.mk hbox; have GW1103 := Aside0.mk ((y12 hg HB.out GE1102.out : w.heap.size ≤ gb1103)); have GE1103 := Aside0.mk ((y12 hg HB.out GE1102.out : w.heap.size ≤ gb1103)); replace HB := Aside0.mk (below_step (y7 HB.out GE1102.out) hb); have NB1102_1103 := zltn hg BK1102; have NB1103_1102 := zgtn hg BK1102; replace BK1102 := zbb BK1102 hb; clear hb hbox hg; have hnb7 := NB1102_1103.out; have hnc7 := NB1103_1102.out; have hcz8_0 := zh BK1102; have hfz8_0 := zfr BK1102 0) | ((with_reducible refine gate_callee (f := 52) rfl ?_); refine goesL_ (some 8) rfl rfl Try.func52 (by kernel_rfl) rfl #[.agg #[.slice A0_0 l0_0.length c0_0]] rfl y9 ?_; (with_reducible refine (impl_TypeOk.calls k _ _ l0_0 t1104 _ ?side1 ?side2 A3.out).mono ?_); (case side1 => exact y18 HR0_0.out HB.out); (case side2 => exact HC0_0.out); rintro e w9 ⟨rfl, hb⟩; refine ⟨_, rfl, ?_⟩; replace BK1102 := zbb BK1102 hb; replace BK1103 := zbb BK1103 hb; replace HB := Aside0.mk (below_step (y3 HB.out GE1102.out GE1103.out) hb); (try clear hb); (try clear hb2); (try clear hk); (try clear hi)))
 (try simp only [Act.put, List.setIfInBounds_toArray, List.set_cons_zero, List.set_cons_succ])
 have H := HZ4.out
 clear HZ4
 by_cases c10 : t1104 = true
 ·subst c10
  rw [if_pos rfl] at H
  obtain ⟨⟨t1105, t1108⟩, A110, H⟩ := ob H
  have A11 := Aside0.mk A110
  clear A110
  by_cases c12 : t1108 = true
  ·subst c12
   rw [if_pos rfl] at H
   obtain ⟨t1110, A130, H⟩ := ob H
   have A13 := Aside0.mk A130
   clear A130
   obtain rfl := Option.some.inj H
   have hnb14 := NB1103_1102.out
   have hnc14 := NB1102_1103.out
   have hcz15_0 := zh BK1103
   have hcz15_1 := zh1 BK1103
   have hfz15_0 := zfr BK1103 0
   have hfz15_1 := zfr BK1103 1
   go_wp2_with (first | ((with_reducible refine gate_callee (f := 38) rfl ?_); refine goesL_ (some 12) rfl rfl Try.func38 (by kernel_rfl) rfl #[.agg #[.int .i64 a1_0, .slice A1_1 l1_1.length c1_1]] rfl y9 ?_; (with_reducible refine (impl_valTyped.calls k a1_0 _ _ l1_1 t1105 true _ ?side1 ?side2 A11.out).mono ?_); (case side1 => exact y18 HR1_1.out HB.out); (case side2 => exact HC1_1.out); rintro e w16 ⟨v1106, rfl, ho0, hb⟩; refine ⟨_, rfl, ?_⟩; have HO1107 := Aside0.mk (Kd.N_lower (Kd.N_mono (ok' := fun k_ => k_ ≠ gb1102 ∧ k_ ≠ gb1103) ho0 (fun k_ hk_ => ⟨(Kd.freshB (g := gb1102) (o := .cells #[.slice A0_0 l0_0.length c0_0] 50 (0, 0)) (y0 BK1102.out) k_ hk_), (Kd.freshB (g := gb1103) (o := .cells #[.int .i64 a1_0, .slice A1_1 l1_1.length c1_1] 25 (0, 0)) (y0 BK1103.out) k_ hk_)⟩)) (below_size (y3 HB.out GE1102.out GE1103.out))); replace BK1102 := zbb BK1102 hb; replace BK1103 := zbb BK1103 hb; replace HB := Aside0.mk (below_step (y3 HB.out GE1102.out GE1103.out) hb); (try clear hb); (try clear hb2); (try clear hk); (try clear hi); (try clear ho0)) | ((with_reducible refine gate_dst (N := 5) rfl ?_); refine zbx 5 #[.slice none 0 0] 50 ?_; intro gb1109 hg w17 hbox hb; replace HO1107 := Aside0.mk (Kd.N_below (Kd.N_elderB (y2 HO1107.out) gb1109 (Nat.le_of_eq hg.symm)) hb); have BK1109 := Aside0.mk hbox; have GW1109 := Aside0.mk ((y16 hg HB.out GE1102.out GE1103.out : w.heap.size ≤ gb1109)); have GE1109 := Aside0.mk ((y16 hg HB.out GE1102.out GE1103.out : w.heap.size ≤ gb1109)); replace HB := Aside0.mk (below_step (y3 HB.out GE1102.out GE1103.out) hb); have NB1102_1109 := zltn hg BK1102; have NB1109_1102 := zgtn hg BK1102; replace BK1102 := zbb BK1102 hb; have NB1103_1109 := zltn hg BK1103; have NB1109_1103 := zgtn hg BK1103; replace BK1103 := zbb BK1103 hb; clear hb hbox hg; obtain ⟨Ao18, co18, eo18⟩ := Kd.N_slice HO1107.out; subst eo18; have hnb19 := NB1109_1102.out; have hnc19 := NB1102_1109.out; have hnb20 := NB1109_1103.out; have hnc20 := NB1103_1109.out; have hcz21_0 := zh BK1109; have hfz21_0 := zfr BK1109 0; have hcz22_0 := zh BK1102; have hfz22_0 := zfr BK1102 0) | (go_at_call 46; (with_reducible refine (impl_typeSame.calls k _ _ t1105 _ _ l0_0 t1110 _ ?side1 ?side2 ?side3 ?side4 A13.out).mono ?_); (case side1 => refine (Kd.N_reads' (e := 50) (base := w.heap.size) (ok := fun k_ => ((k_ ≠ gb1102 ∧ k_ ≠ gb1103) ∧ k_ ≠ gb1109)) (n := t1105.length) (c := co18) ?_).2.2; exact (by (with_reducible repeat (first | apply Kd.N_alloc | apply Kd.N_drewN | apply Kd.N_drew)); exact (Kd.N_mono (Kd.N_far (p := ⟨gb1109, 0, none⟩) (Kd.N_mono HO1107.out (fun k_ hk => (⟨hk, hk.2⟩ : _ ∧ k_ ≠ gb1109))) (fun _ hk => hk.2) (.slice Ao18 t1105.length co18)) (fun _ h_ => h_.1)))); (case side2 => exact (Kd.N_reads' HO1107.out).2.1); (case side3 => exact y54 HR0_0.out HB.out GE1102.out GE1103.out GE1109.out); (case side4 => exact HC0_0.out); rintro e w23 ⟨rfl, hb⟩; replace HO1107 := Aside0.mk (Kd.N_below (by (with_reducible repeat (first | apply Kd.N_alloc | apply Kd.N_drewN | apply Kd.N_drew)); exact (Kd.N_mono (Kd.N_far (p := ⟨gb1109, 0, none⟩) (Kd.N_mono HO1107.out (fun k_ hk => (⟨hk, hk.2⟩ : _ ∧ k_ ≠ gb1109))) (fun _ hk => hk.2) (.slice Ao18 t1105.length co18)) (fun _ h_ => h_.1))) hb); replace BK1102 := zbf BK1102 NB1102_1109 hb; replace BK1103 := zbf BK1103 NB1103_1109 hb; replace BK1109 := Aside0.mk (blk_below (g := gb1109) (o := .cells #[.slice Ao18 t1105.length co18] 50 (0, 0)) (by (with_reducible repeat (first | refine blk_drewN ?_ _ | refine blk_drew ?_ | refine blk_alloc ?_ _)); apply blk_put (i := 0); (case h => exact y0 BK1109.out); (case e => rfl)) hb); replace HB := Aside0.mk (below_step (y4 HB.out GE1102.out GE1103.out GE1109.out) hb); (try clear hb); (try clear hb2); (try clear hk); (try clear hi)))
   go_ret
   exact ⟨y15, (y4 HB.out GE1102.out GE1103.out GE1109.out)⟩
  ·replace c12 := Bool.eq_false_iff.mpr c12
   subst c12
   rw [if_neg (show ¬ (false = true) by decide)] at H
   obtain rfl := Option.some.inj H
   have hnb24 := NB1103_1102.out
   have hnc24 := NB1102_1103.out
   have hcz25_0 := zh BK1103
   have hcz25_1 := zh1 BK1103
   have hfz25_0 := zfr BK1103 0
   have hfz25_1 := zfr BK1103 1
   go_wp2_with (first | ((with_reducible refine gate_callee (f := 38) rfl ?_); refine goesL_ (some 12) rfl rfl Try.func38 (by kernel_rfl) rfl #[.agg #[.int .i64 a1_0, .slice A1_1 l1_1.length c1_1]] rfl y9 ?_; (with_reducible refine (impl_valTyped.calls k a1_0 _ _ l1_1 t1105 false _ ?side1 ?side2 A11.out).mono ?_); (case side1 => exact y18 HR1_1.out HB.out); (case side2 => exact HC1_1.out); rintro e w26 ⟨v1106, rfl, ho0, hb⟩; refine ⟨_, rfl, ?_⟩; have HO1107 := Aside0.mk (Kd.N_lower (Kd.N_mono (ok' := fun k_ => k_ ≠ gb1102 ∧ k_ ≠ gb1103) ho0 (fun k_ hk_ => ⟨(Kd.freshB (g := gb1102) (o := .cells #[.slice A0_0 l0_0.length c0_0] 50 (0, 0)) (y0 BK1102.out) k_ hk_), (Kd.freshB (g := gb1103) (o := .cells #[.int .i64 a1_0, .slice A1_1 l1_1.length c1_1] 25 (0, 0)) (y0 BK1103.out) k_ hk_)⟩)) (below_size (y3 HB.out GE1102.out GE1103.out))); replace BK1102 := zbb BK1102 hb; replace BK1103 := zbb BK1103 hb; replace HB := Aside0.mk (below_step (y3 HB.out GE1102.out GE1103.out) hb); (try clear hb); (try clear hb2); (try clear hk); (try clear hi); (try clear ho0)) | ((with_reducible refine gate_dst (N := 5) rfl ?_); refine zbx 5 #[.slice none 0 0] 50 ?_; intro gb1109 hg w27 hbox hb; replace HO1107 := Aside0.mk (Kd.N_below (Kd.N_elderB (y2 HO1107.out) gb1109 (Nat.le_of_eq hg.symm)) hb); have BK1109 := Aside0.mk hbox; have GW1109 := Aside0.mk ((y16 hg HB.out GE1102.out GE1103.out : w.heap.size ≤ gb1109)); have GE1109 := Aside0.mk ((y16 hg HB.out GE1102.out GE1103.out : w.heap.size ≤ gb1109)); replace HB := Aside0.mk (below_step (y3 HB.out GE1102.out GE1103.out) hb); have NB1102_1109 := zltn hg BK1102; have NB1109_1102 := zgtn hg BK1102; replace BK1102 := zbb BK1102 hb; have NB1103_1109 := zltn hg BK1103; have NB1109_1103 := zgtn hg BK1103; replace BK1103 := zbb BK1103 hb; clear hb hbox hg; obtain ⟨Ao28, co28, eo28⟩ := Kd.N_slice HO1107.out; subst eo28; have hnb29 := NB1109_1102.out; have hnc29 := NB1102_1109.out; have hnb30 := NB1109_1103.out; have hnc30 := NB1103_1109.out; have hcz31_0 := zh BK1109; have hfz31_0 := zfr BK1109 0))
   go_ret
   exact ⟨y15, (y4 HB.out GE1102.out GE1103.out GE1109.out)⟩
 ·replace c10 := Bool.eq_false_iff.mpr c10
  subst c10
  rw [if_neg (show ¬ (false = true) by decide)] at H
  obtain rfl := Option.some.inj H
  go_wp2
  go_ret
  exact ⟨y15, (y3 HB.out GE1102.out GE1103.out)⟩
end Go.Proofs.Ythfflieeifakdaa.PA
end
section
set_option linter.unusedVariables false
namespace Go.Proofs.Ythfflieeifakdaa.Vals
open Go.RowKit Go.Proofs.Ythfflieeifakdaa.PA Go.Proofs.YthfflieeifakdaaW.PrintWords Go.Proofs.YthfflieeifakdaaW.PrintLast Go.Proofs.Ythfflieeifakdaa.Draw Go.Proofs.Ythfflieeifakdaa.Types Go.Proofs.Ythfflieeifakdaa.Paths
abbrev Vl := List S25
theorem rv0 (a : S25) (l : Vl) : rd_T25 (a :: l) 0 = a := rfl
theorem rv1 (a b : S25) (l : Vl) : rd_T25 (a :: b :: l) 1 = b := rfl
theorem shapeV (l : Vl) : l = [] ∨ (∃ a b, l = [a, b]) ∨ (l.length ≠ 0 ∧ l.length ≠ 2) := by
  match l with
  | [] => exact .inl rfl
  | [_] => exact .inr (.inr ⟨by simp, by simp⟩)
  | [a, b] => exact .inr (.inl ⟨a, b, rfl⟩)
  | _ :: _ :: _ :: _ => exact .inr (.inr ⟨by simp, by simp⟩)
def vt : Nat → Int → Vl → Option Ty
  | 0, _, _ => none
  | _ + 1, x, [] => if 0 ≤ x ∧ x ≤ 9999 then some [] else none
  | n + 1, x, [a, b] => if x = 0 then (vt n a.f0 a.f1).bind fun s => (vt n b.f0 b.f1).bind fun t => some [⟨s⟩, ⟨t⟩] else none
  | _ + 1, _, _ => none
theorem vt_nil (n : Nat) (x : Int) : vt (n + 1) x [] = if 0 ≤ x ∧ x ≤ 9999 then some [] else none := rfl
theorem vt_two (n : Nat) (x : Int) (a b : S25) : vt (n + 1) x [a, b] = if x = 0 then (vt n a.f0 a.f1).bind fun s => (vt n b.f0 b.f1).bind fun t => some [⟨s⟩, ⟨t⟩] else none := rfl
theorem vt_odd (n : Nat) (x : Int) (l : Vl) (h0 : l.length ≠ 0) (h2 : l.length ≠ 2) : vt n x l = none := by
  cases n with
  | zero => rfl
  | succ n =>
    match l with
    | [] => simp at h0
    | [_] => rfl
    | [_, _] => simp at h2
    | _ :: _ :: _ :: _ => rfl
theorem vt_cases {n : Nat} {x : Int} {l : Vl} {t : Ty} (h : vt (n + 1) x l = some t) :
    (l = [] ∧ t = [] ∧ 0 ≤ x ∧ x ≤ 9999) ∨ ∃ a b s u, l = [a, b] ∧ x = 0 ∧ t = [⟨s⟩, ⟨u⟩] ∧ vt n a.f0 a.f1 = some s ∧ vt n b.f0 b.f1 = some u := by
  rcases shapeV l with rfl | ⟨a, b, rfl⟩ | ⟨h0, h2⟩
  · rw [vt_nil] at h
    split at h
    · rename_i hx
      cases h
      exact .inl ⟨rfl, rfl, hx.1, hx.2⟩
    · cases h
  · rw [vt_two] at h
    split at h
    · rename_i hx
      cases e1 : vt n a.f0 a.f1 with
      | none => rw [e1] at h; cases h
      | some s =>
        cases e2 : vt n b.f0 b.f1 with
        | none => rw [e1, e2] at h; cases h
        | some u =>
          rw [e1, e2] at h
          cases h
          exact .inr ⟨a, b, s, u, rfl, hx, rfl, e1, e2⟩
    · cases h
  · rw [vt_odd _ _ _ h0 h2] at h; cases h
theorem vt_dp : ∀ (n : Nat) (x : Int) (l : Vl) (t : Ty), vt n x l = some t → dp n t = true := by
  intro n
  induction n with
  | zero => intro x l t h; cases h
  | succ n ih =>
    intro x l t h
    rcases vt_cases h with ⟨_, rfl, _, _⟩ | ⟨a, b, s, u, _, _, rfl, h1, h2⟩
    · rfl
    · rw [dp_two, ih _ _ _ h1, ih _ _ _ h2]; rfl
theorem vt_succ : ∀ (n : Nat) (x : Int) (l : Vl) (t : Ty), vt n x l = some t → vt (n + 1) x l = some t := by
  intro n
  induction n with
  | zero => intro x l t h; cases h
  | succ n ih =>
    intro x l t h
    rcases vt_cases h with ⟨rfl, rfl, h0, h1⟩ | ⟨a, b, s, u, rfl, rfl, rfl, h1, h2⟩
    · rw [vt_nil, if_pos ⟨h0, h1⟩]
    · rw [vt_two, if_pos rfl, ih _ _ _ h1, ih _ _ _ h2]; rfl
theorem valType_ev : ∀ (n : Nat), n ≤ 1000 → ∀ (x : Int) (l : Vl) (k : Nat), 2 * n + 2 ≤ k → impl_valType.f k x l n = some (at_ (vt n x l)) := by
  intro n
  induction n with
  | zero =>
    intro _ x l k hk
    obtain ⟨k, rfl⟩ : ∃ m, k = m + 1 := ⟨k - 1, by omega⟩
    simp only [impl_valType.f]
    rw [if_pos (by omega)]; rfl
  | succ n ih =>
    intro hn x l k hk
    obtain ⟨k, rfl⟩ : ∃ m, k = m + 2 := ⟨k - 2, by omega⟩
    have hp := pred_cast n (by omega)
    simp only [impl_valType.f]
    rw [if_neg (by omega)]
    rcases shapeV l with rfl | ⟨a, b, rfl⟩ | ⟨h0, h2⟩
    · rw [if_pos (by simp), vt_nil]
      by_cases h0 : x ≥ 0
      · rw [if_pos h0]
        by_cases h9 : x ≤ 9999
        · rw [if_pos ⟨h0, h9⟩, decide_eq_true h9]; rfl
        · rw [if_neg (fun h => h9 h.2), decide_eq_false h9]; rfl
      · rw [if_neg h0, if_neg (fun h => h0 h.1)]; rfl
    · rw [if_neg (by simp), if_pos (by simp), vt_two]
      simp only [impl_valType.j0, hp, rv0, rv1]
      by_cases hx : x = 0
      · rw [if_neg (by simp [hx]), if_pos (by simp), if_pos hx, ih (by omega) _ _ _ (by omega)]; simp only [Option.bind_some]
        rw [if_pos (by simp), ih (by omega) _ _ _ (by omega)]; simp only [Option.bind_some]
        cases vt n a.f0 a.f1 with
        | none => rfl
        | some s =>
          cases vt n b.f0 b.f1 with
          | none => rfl
          | some u => rfl
      · rw [if_pos (by simpa using hx), if_neg hx]; rfl
    · rw [if_neg (by omega), if_neg (by omega), vt_odd _ _ _ h0 h2]
      simp only [impl_valType.j0, if_true]; rfl
theorem typed_ev (x : Int) (l : Vl) (k : Nat) (hk : 10 ≤ k) : impl_valTyped.f k x l = some (at_ (vt 4 x l)) := by
  unfold impl_valTyped.f
  rw [show (4 : Int) = ((4 : Nat) : Int) from rfl, valType_ev 4 (by omega) x l k (by omega)]; rfl
theorem same_ev : ∀ (n : Nat) (a b : Ty) (k : Nat), dp n a = true → dp n b = true → 4 * n ≤ k → impl_typeSame.f k a b = some (teq n a b) := by
  intro n
  induction n with
  | zero => intro a b k h; simp [dp] at h
  | succ n ih =>
    intro a b k ha hb hk
    obtain ⟨k, rfl⟩ : ∃ m, k = m + 4 := ⟨k - 4, by omega⟩
    simp only [impl_typeSame.f]
    rcases Types.shape a with rfl | ⟨a1, a2, rfl⟩ | ⟨h0, h2⟩
    · rcases Types.shape b with rfl | ⟨b1, b2, rfl⟩ | ⟨h0, h2⟩
      · rw [if_pos rfl]; simp only [impl_typeSame.l0]; rw [if_neg (by simp)]; rfl
      · rw [if_neg (by simp)]; rfl
      · rw [dp_odd _ _ h0 h2] at hb; cases hb
    · rcases Types.shape b with rfl | ⟨b1, b2, rfl⟩ | ⟨h0, h2⟩
      · rw [if_neg (by simp)]; rfl
      · rw [dp_two, Bool.and_eq_true] at ha hb
        rw [if_pos (by simp)]
        simp only [impl_typeSame.l0, w01, w12]
        rw [if_pos (by simp), if_pos (by omega), if_pos (by simp), if_pos (by simp), rd0, rd0, ih _ _ _ ha.1 hb.1 (by omega)]
        simp only [Option.bind_some]
        have e : teq (n + 1) [a1, a2] [b1, b2] = (teq n a1.f0 b1.f0 && teq n a2.f0 b2.f0) := rfl
        rw [e]
        cases h1 : teq n a1.f0 b1.f0 with
        | false => simp
        | true =>
          rw [if_pos rfl, if_pos (by simp), if_pos (by omega), if_pos (by simp), if_pos (by simp), rd1, rd1, ih _ _ _ ha.2 hb.2 (by omega)]
          simp only [Option.bind_some]
          cases h2 : teq n a2.f0 b2.f0 with
          | false => simp
          | true => rw [if_pos rfl, if_neg (by simp)]; rfl
      · rw [dp_odd _ _ h0 h2] at hb; cases hb
    · rw [dp_odd _ _ h0 h2] at ha; cases ha
def vm (n : Nat) (t : Ty) (x : Int) (l : Vl) : Bool := match vt n x l with | some s => teq n s t | none => false
def vo (t : Ty) (x : Int) (l : Vl) : Bool := dp 4 t && vm 4 t x l
theorem implValOk_ev (t : Ty) (x : Int) (l : Vl) (k : Nat) (hk : 20 ≤ k) : impl_ValOk.f k t x l = some (vo t x l) := by
  unfold impl_ValOk.f vo vm
  rw [implOk_ev t k (by omega)]; simp only [Option.bind_some]
  cases d : dp 4 t with
  | false => rfl
  | true =>
    simp only [if_true, Bool.true_and]
    rw [typed_ev x l k (by omega)]; simp only [Option.bind_some]
    cases e : vt 4 x l with
    | none => rfl
    | some s =>
      simp only [at_, if_true]
      rw [same_ev 4 s t k (vt_dp _ _ _ _ e) d (by omega)]; rfl
theorem vm_two (n : Nat) (x : Int) (a b : S50) (c d : S25) : vm (n + 1) [a, b] x [c, d] = ((x == 0) && (vm n a.f0 c.f0 c.f1 && vm n b.f0 d.f0 d.f1)) := by
  unfold vm
  rw [vt_two]
  by_cases hx : x = 0
  · rw [if_pos hx, beq_iff_eq.2 hx]
    cases vt n c.f0 c.f1 with
    | none => rfl
    | some s =>
      cases vt n d.f0 d.f1 with
      | none => simp
      | some u => rfl
  · rw [if_neg hx, beq_eq_false_iff_ne.2 hx]; rfl
theorem l1Val_ev : ∀ (n : Nat) (t : Ty) (x : Int) (l : Vl) (k : Nat), dp n t = true → 5 * n ≤ k → spec_l1Val.f k t x l = some (vm n t x l) := by
  intro n
  induction n with
  | zero => intro t x l k h; simp [dp] at h
  | succ n ih =>
    intro t x l k h hk
    obtain ⟨k, rfl⟩ : ∃ m, k = m + 5 := ⟨k - 5, by omega⟩
    simp only [spec_l1Val.f, spec_l6In.f]
    have bad : ∀ m t x l, spec_l1Val.j0 (m + 1) true t x l = some false := fun m t x l => by simp only [spec_l1Val.j0, if_true]
    rcases Types.shape t with rfl | ⟨a, b, rfl⟩ | ⟨h0, h2⟩
    · rcases shapeV l with rfl | ⟨c, d, rfl⟩ | ⟨g0, g2⟩
      · rw [if_pos (by simp), if_neg (by simp)]
        simp only [vm, vt_nil]
        by_cases hx : x ≥ 0
        · rw [if_pos hx]; simp only [Option.bind_some]
          by_cases h9 : x ≤ 9999
          · rw [decide_eq_true h9, if_pos ⟨hx, h9⟩]
            simp only [spec_l1Val.j0, spec_l1Val.l0, Bool.not_true]
            rw [if_neg (by simp), if_neg (by simp)]; rfl
          · rw [decide_eq_false h9, if_neg (fun h => h9 h.2)]
            exact bad _ _ _ _
        · rw [if_neg hx, if_neg (fun h => hx h.1)]; simp only [Option.bind_some]
          exact bad _ _ _ _
      · rw [if_neg (by simp), bad]
        simp only [vm]
        cases e : vt (n + 1) x [c, d] with
        | none => rfl
        | some s =>
          rcases vt_cases e with ⟨h, _⟩ | ⟨_, _, s, u, _, _, rfl, _, _⟩
          · cases h
          · rfl
      · rw [if_neg (by simp; simpa using g0), bad]
        simp only [vm, vt_odd _ _ _ g0 g2]
    · rcases shapeV l with rfl | ⟨c, d, rfl⟩ | ⟨g0, g2⟩
      · rw [if_neg (by simp), bad]
        simp only [vm, vt_nil]
        split
        · rename_i h; split at h
          · cases h; rfl
          · cases h
        · rfl
      · rw [if_pos (by simp), if_pos (by simp), vm_two]
        by_cases hx : x = 0
        · rw [if_pos hx, if_pos (by omega)]; simp only [Option.bind_some]
          rw [decide_eq_true (by omega)]
          rw [dp_two, Bool.and_eq_true] at h
          simp only [spec_l1Val.j0, spec_l1Val.l0, Bool.not_true, w01, w12]
          rw [if_neg (by simp), if_pos (by simp), if_pos (by omega), if_pos (by simp), rd0, rv0, ih _ _ _ _ h.1 (by omega)]; simp only [Option.bind_some]
          rw [beq_iff_eq.2 hx, Bool.true_and]
          cases e1 : vm n a.f0 c.f0 c.f1 with
          | false => rw [if_neg (by simp)]; rfl
          | true =>
            rw [if_pos rfl, if_pos (by simp), if_pos (by omega), if_pos (by simp), rd1, rv1, ih _ _ _ _ h.2 (by omega)]; simp only [Option.bind_some]
            cases e2 : vm n b.f0 d.f0 d.f1 with
            | false => rw [if_neg (by simp)]; rfl
            | true => rw [if_pos rfl, if_neg (by simp)]; rfl
        · rw [if_neg hx, bad, beq_eq_false_iff_ne.2 hx]; rfl
      · rw [if_neg (by simp; omega), bad]
        simp only [vm, vt_odd _ _ _ g0 g2]
    · rw [dp_odd _ _ h0 h2] at h; cases h
theorem specValOk_ev (t : Ty) (x : Int) (l : Vl) (k : Nat) (hk : 23 ≤ k) : spec_ValOk.f k t x l = some (vo t x l) := by
  unfold spec_ValOk.f vo
  rw [specOk_ev t k (by omega)]; simp only [Option.bind_some]
  cases d : dp 4 t with
  | false => rfl
  | true =>
    simp only [if_true, Bool.true_and]
    rw [l1Val_ev 4 t x l k d (by omega)]; rfl
theorem teq_self (t u : Ty) (n : Nat) (ht : dp n t = true) (hu : dp n u = true) : teq n t u = teq n u t := by
  cases e : teq n t u with
  | true => rw [teq_eq _ _ _ e, teq_refl _ _ hu]
  | false =>
    cases e2 : teq n u t with
    | true => rw [teq_eq _ _ _ e2, teq_refl _ _ ht] at e; cases e
    | false => rfl
theorem vo_iff (t : Ty) (x : Int) (l : Vl) : vo t x l = true ↔ vt 4 x l = some t := by
  unfold vo vm
  constructor
  · intro h
    rw [Bool.and_eq_true] at h
    cases e : vt 4 x l with
    | none => rw [e] at h; cases h.2
    | some s => rw [e] at h; rw [teq_eq _ _ _ h.2]
  · intro h
    have d := vt_dp _ _ _ _ h
    rw [h, d]
    exact teq_refl 4 t d
def pv : List Int → Int → Vl → Option (Int × Vl)
  | [], x, l => some (x, l)
  | i :: r, _, [a, b] => if i = 0 then pv r a.f0 a.f1 else if i = 1 then pv r b.f0 b.f1 else none
  | _ :: _, _, _ => none
theorem pv_nil (x : Int) (l : Vl) : pv [] x l = some (x, l) := by cases l <;> rfl
theorem pv_two (i : Int) (r : List Int) (x : Int) (a b : S25) : pv (i :: r) x [a, b] = if i = 0 then pv r a.f0 a.f1 else if i = 1 then pv r b.f0 b.f1 else none := rfl
theorem pv_odd (i : Int) (r : List Int) (x : Int) (l : Vl) (h : l.length ≠ 2) : pv (i :: r) x l = none := by
  match l with
  | [] => rfl
  | [_] => rfl
  | [_, _] => simp at h
  | _ :: _ :: _ :: _ => rfl
theorem pv_app (p q : List Int) : ∀ x l, pv (p ++ q) x l = (pv p x l).bind fun r => pv q r.1 r.2 := by
  induction p with
  | nil => intro x l; rw [List.nil_append, pv_nil]; rfl
  | cons i r ih =>
    intro x l
    by_cases h : l.length = 2
    · rcases shapeV l with rfl | ⟨a, b, rfl⟩ | ⟨_, h2⟩
      · simp at h
      · rw [List.cons_append, pv_two, pv_two]
        split
        · exact ih _ _
        · split
          · exact ih _ _
          · rfl
      · exact absurd h h2
    · rw [List.cons_append, pv_odd _ _ _ _ h, pv_odd _ _ _ _ h]; rfl
theorem vt_pv (n : Nat) : ∀ (p : List Int) (x : Int) (l : Vl) (t : Ty), vt n x l = some t →
    (∀ y m, pv p x l = some (y, m) → ∃ u, pf p t = some u ∧ vt n y m = some u) ∧ (pv p x l = none → pf p t = none) := by
  intro p
  induction p with
  | nil =>
    intro x l t h
    rw [pv_nil]
    exact ⟨fun y m e => by cases e; exact ⟨t, pf_nil t, h⟩, fun e => by cases e⟩
  | cons i r ih =>
    intro x l t h
    cases n with
    | zero => cases h
    | succ n =>
      rcases vt_cases h with ⟨rfl, rfl, _, _⟩ | ⟨a, b, s, u, rfl, rfl, rfl, h1, h2⟩
      · exact ⟨fun y m e => (by cases e), fun _ => rfl⟩
      · rw [pv_two, pf_two]
        by_cases h0 : i = 0
        · rw [if_pos h0, if_pos h0]; exact ih _ _ _ (vt_succ _ _ _ _ h1)
        · rw [if_neg h0, if_neg h0]
          by_cases h3 : i = 1
          · rw [if_pos h3, if_pos h3]; exact ih _ _ _ (vt_succ _ _ _ _ h2)
          · rw [if_neg h3, if_neg h3]; exact ⟨fun y m e => (by cases e), fun _ => rfl⟩
def av (o : Option (Int × Vl)) : Int × Vl × Bool := match o with | some r => (r.1, r.2, true) | none => (0, [], false)
theorem valLoop_ev : ∀ (r pre : List Int) (x : Int) (l : Vl) (k : Nat), pre.length + r.length ≤ 4611686018427387904 → r.length + 1 ≤ k →
    impl_Val.l0 k (pre ++ r) ((pre ++ r).length : Int) (pre.length : Int) x l = some (av (pv r x l)) := by
  intro r
  induction r with
  | nil =>
    intro pre x l k h1 hk
    obtain ⟨k, rfl⟩ : ∃ m, k = m + 1 := ⟨k - 1, by simp at hk; omega⟩
    simp only [impl_Val.l0]
    rw [if_neg (by simp), pv_nil]; rfl
  | cons i r ih =>
    intro pre x l k h1 hk
    simp only [List.length_cons] at h1 hk
    obtain ⟨k, rfl⟩ : ∃ m, k = m + 1 := ⟨k - 1, by omega⟩
    simp only [impl_Val.l0, impl_Val_parts.f, Option.bind_some]
    have hl : ((pre ++ i :: r).length : Int) = pre.length + 1 + r.length := by simp; omega
    rw [if_pos (by omega), if_pos (by omega), if_pos (by omega), rd_mid]
    rcases shapeV l with rfl | ⟨a, b, rfl⟩ | ⟨_, h2⟩
    · rw [if_neg (by simp), pv_odd _ _ _ _ (by simp)]; rfl
    · rw [if_pos (by simp), pv_two]
      by_cases hn : i < 0
      · rw [if_pos hn, if_neg (by omega), if_neg (by omega)]; rfl
      · rw [if_neg hn]
        by_cases hb : i > 1
        · rw [if_pos hb, if_neg (by omega), if_neg (by omega)]; rfl
        · rw [if_neg hb, if_pos (by omega), if_pos (by simp; omega), w64 (by omega) (by omega)]
          have ea : pre ++ i :: r = (pre ++ [i]) ++ r := by simp
          have el : (pre.length : Int) + 1 = ((pre ++ [i]).length : Int) := by simp
          rw [el, ea]
          by_cases h0 : i = 0
          · rw [if_pos h0, ih _ _ _ _ (by simp; omega) (by omega), h0, rv0]
          · rw [if_neg h0, if_pos (by omega), ih _ _ _ _ (by simp; omega) (by omega), show i = 1 by omega, rv1]
    · rw [if_neg (by omega), pv_odd _ _ _ _ h2]; rfl
theorem implVal_ev (x : Int) (l : Vl) (p : List Int) (k : Nat) (h : p.length ≤ 4611686018427387904) (hk : p.length + 1 ≤ k) : impl_Val.f k x l p = some (av (pv p x l)) := by
  unfold impl_Val.f
  have := valLoop_ev p [] x l k (by simpa using h) hk
  simpa using this
theorem valCopy_ev : ∀ (n : Nat) (x : Int) (l : Vl) (t : Ty) (k : Nat), vt n x l = some t → n ≤ k → impl_valCopy.f k x l = some (x, l) := by
  intro n
  induction n with
  | zero => intro x l t k h; cases h
  | succ n ih =>
    intro x l t k h hk
    obtain ⟨k, rfl⟩ : ∃ m, k = m + 1 := ⟨k - 1, by omega⟩
    simp only [impl_valCopy.f]
    rcases vt_cases h with ⟨rfl, rfl, _, _⟩ | ⟨a, b, s, u, rfl, rfl, rfl, h1, h2⟩
    · rw [if_pos (by simp)]
    · rw [if_neg (by simp), if_pos (by simp), rv0, ih _ _ _ _ h1 (by omega)]; simp only [Option.bind_some]
      rw [if_pos (by simp), rv1, ih _ _ _ _ h2 (by omega)]; simp only [Option.bind_some]
      cases a; cases b; rfl
def vat (x : Int) (l : Vl) (p : List Int) : Int × Vl × Bool := if (vt 4 x l).isSome = true then av (pv p x l) else (0, [], false)
theorem implValAt_ev (x : Int) (l : Vl) (p : List Int) (k : Nat) (h : p.length ≤ 4611686018427387904) (hk : p.length + 20 ≤ k) : impl_ValAt.f k x l p = some (vat x l p) := by
  unfold impl_ValAt.f vat
  rw [typed_ev x l k (by omega)]; simp only [Option.bind_some]
  cases e : vt 4 x l with
  | none => rfl
  | some t =>
    simp only [at_, if_true, Option.isSome_some]
    rw [implVal_ev x l p k h (by omega)]; simp only [Option.bind_some]
    cases e2 : pv p x l with
    | none => rfl
    | some r =>
      obtain ⟨u, _, hu⟩ := (vt_pv 4 p x l t e).1 r.1 r.2 e2
      simp only [av, if_true]
      rw [valCopy_ev 4 r.1 r.2 u k hu (by omega)]; rfl
theorem type_dp (s : List Int) : ∀ (k d : Nat) (p : Int) (r : Ty) (q : Int), d ≤ 1000 → spec_l71Type.f k s p d = some (r, q) → dp (d + 1) r = true := by
  intro k
  induction k using Nat.strongRecOn with
  | _ k ih =>
    intro d p r q hd h
    match k, ih, h with
    | 0, _, h => simp [spec_l71Type.f] at h
    | 1, _, h =>
      simp only [spec_l71Type.f] at h
      split at h
      · simp [spec_l71Type.j0] at h
      · cases e : spec_l6Rd_pick.f 0 s p 3 with
        | none => rw [e] at h; cases h
        | some c => rw [e] at h; simp [spec_l71Type.j0] at h
    | k + 2, ih, h =>
      simp only [spec_l71Type.f] at h
      split at h
      · simp only [spec_l71Type.j0, if_true] at h
        cases h; rfl
      · rename_i h2
        cases e : spec_l6Rd_pick.f (k + 1) s p 3 with
        | none => rw [e] at h; cases h
        | some c =>
          rw [e] at h
          simp only [Option.bind_some, spec_l71Type.j0] at h
          split at h
          · cases h; rfl
          · obtain ⟨d, rfl⟩ : ∃ m, d = m + 1 := ⟨d - 1, by omega⟩
            have ew : wrap64 (((d + 1 : Nat) : Int) - 1) = (d : Int) := pred_cast d (by omega)
            rw [ew] at h
            cases e1 : spec_l71Type.f k s c.2 d with
            | none => rw [e1] at h; cases h
            | some a =>
              rw [e1] at h
              simp only [Option.bind_some] at h
              cases e2 : spec_l71Type.f k s a.2 d with
              | none => rw [e2] at h; cases h
              | some b =>
                rw [e2] at h
                cases h
                rw [dp_two, ih k (by omega) d _ a.1 a.2 (by omega) e1, ih k (by omega) d _ b.1 b.2 (by omega) e2]; rfl
theorem val_ev (s : List Int) (hs : Bytes s) : ∀ (n : Nat) (t : Ty) (p : Int), dp n t = true → 0 ≤ p → p + 2 ^ n ≤ 1099511000000 →
    ∃ x l q, (∀ k, n + 3 ≤ k → spec_l71Val.f k s p t = some (x, l, q)) ∧ p ≤ q ∧ q ≤ p + 2 ^ n ∧ l.length ≤ 2 := by
  intro n
  induction n with
  | zero => intro t p h; simp [dp] at h
  | succ n ih =>
    intro t p h hp hp1
    have hpow : (2 : Int) ^ (n + 1) = 2 ^ n + 2 ^ n := by rw [Int.pow_succ]; omega
    have hpos : (1 : Int) ≤ 2 ^ n := by have := Int.pow_pos (n := 2) (m := n) (by decide); omega
    rw [hpow] at hp1 ⊢
    generalize (2 : Int) ^ n = e at *
    rcases Types.shape t with rfl | ⟨a, b, rfl⟩ | ⟨h0, h2⟩
    · obtain ⟨c, hc, c0, c1⟩ := pick_ev s hs p 7 hp (by omega) (by omega)
      refine ⟨rd [0, 1, 2, 3, 7, 50, 9999] c, [], p + 1, fun k hk => ?_, by omega, by omega, by simp⟩
      obtain ⟨k, rfl⟩ : ∃ m, k = m + 1 := ⟨k - 1, by omega⟩
      simp only [spec_l71Val.f]
      rw [if_pos (by simp)]; simp only [Option.bind_some]
      rw [hc k (by omega)]; simp only [Option.bind_some]
      rw [if_pos c0, if_pos (by simp; omega)]
    · rw [dp_two, Bool.and_eq_true] at h
      obtain ⟨x1, l1, q1, h1, g1, g2, _⟩ := ih a.f0 p h.1 hp (by omega)
      obtain ⟨x2, l2, q2, h3, g3, g4, _⟩ := ih b.f0 q1 h.2 (by omega) (by omega)
      refine ⟨0, [⟨x1, l1⟩, ⟨x2, l2⟩], q2, fun k hk => ?_, by omega, by omega, by simp⟩
      obtain ⟨k, rfl⟩ : ∃ m, k = m + 1 := ⟨k - 1, by omega⟩
      simp only [spec_l71Val.f]
      rw [if_neg (by simp), if_pos (by simp), rd0, h1 k (by omega)]; simp only [Option.bind_some]
      rw [if_pos (by simp), rd1, h3 k (by omega)]; rfl
    · rw [dp_odd _ _ h0 h2] at h; cases h
theorem badLoop_ev (s : List Int) (p : Int) : ∀ (d i : Nat), i + d = 5 → ∀ (x : Int) (l : Vl), ∃ y m, ∀ k, d + 1 ≤ k → spec_l71Bad.l0 k i s p x l = some (y, m, p) := by
  intro d
  induction d with
  | zero =>
    intro i hi x l
    refine ⟨x, l, fun k hk => ?_⟩
    obtain ⟨k, rfl⟩ : ∃ m, k = m + 1 := ⟨k - 1, by omega⟩
    simp only [spec_l71Bad.l0]
    rw [if_neg (by omega)]
  | succ d ih =>
    intro i hi x l
    obtain ⟨y, m, h⟩ := ih (i + 1) (by omega) 0 [⟨x, l⟩, ⟨0, []⟩]
    refine ⟨y, m, fun k hk => ?_⟩
    obtain ⟨k, rfl⟩ : ∃ m, k = m + 1 := ⟨k - 1, by omega⟩
    simp only [spec_l71Bad.l0]
    rw [if_pos (by omega), w64 (by omega) (by omega)]
    exact h k (by omega)
theorem pow20 (n : Nat) (hn : n ≤ 20) : (2 : Int) ^ n ≤ 1048576 := by
  have h : (2 : Nat) ^ n ≤ 2 ^ 20 := Nat.pow_le_pow_right (by decide) hn
  have e : (2 : Nat) ^ 20 = 1048576 := rfl
  rw [e] at h
  have := Int.ofNat_le.2 h
  rwa [Int.natCast_pow] at this
theorem bad_ev (s : List Int) (hs : Bytes s) (n : Nat) (hn : n ≤ 20) (t : Ty) (d : dp n t = true) (p : Int) (hp : 0 ≤ p) (hp1 : p ≤ 1099500000000) :
    ∃ x l q, (∀ k, n + 12 ≤ k → spec_l71Bad.f k s p t = some (x, l, q)) ∧ p ≤ q ∧ q ≤ p + 1048578 := by
  have hmax := pow20 n hn
  obtain ⟨x, l, q, hv, g1, g2, hl⟩ := val_ev s hs n t p d hp (by omega)
  generalize (2 : Int) ^ n = e at *
  obtain ⟨c, hc, c0, c1⟩ := pick_ev s hs q 12 (by omega) (by omega) (by omega)
  by_cases e0 : c = 0
  · obtain ⟨c', hc', c0', c1'⟩ := pick_ev s hs (q + 1) 4 (by omega) (by omega) (by omega)
    refine ⟨rd [(-1), 1, 9999, 10000] c', l, q + 1 + 1, fun k hk => ?_, by omega, by omega⟩
    unfold spec_l71Bad.f
    rw [hv k (by omega)]; simp only [Option.bind_some]
    rw [hc k (by omega)]; simp only [Option.bind_some]
    rw [if_pos e0, hc' k (by omega)]; simp only [Option.bind_some]
    rw [if_pos c0', if_pos (by simp; omega)]
  · by_cases e1 : c = 1
    · refine ⟨x, l ++ [⟨0, []⟩], q + 1, fun k hk => ?_, by omega, by omega⟩
      unfold spec_l71Bad.f
      rw [hv k (by omega)]; simp only [Option.bind_some]
      rw [hc k (by omega)]; simp only [Option.bind_some]
      rw [if_neg e0, if_pos e1, if_pos (by omega)]
    · by_cases e2 : c = 2
      · obtain ⟨y, m, hm⟩ := badLoop_ev s (q + 1) 5 0 rfl x l
        refine ⟨y, m, q + 1, fun k hk => ?_, by omega, by omega⟩
        unfold spec_l71Bad.f
        rw [hv k (by omega)]; simp only [Option.bind_some]
        rw [hc k (by omega)]; simp only [Option.bind_some]
        rw [if_neg e0, if_neg e1, if_pos e2]
        exact hm k (by omega)
      · refine ⟨x, l, q + 1, fun k hk => ?_, by omega, by omega⟩
        unfold spec_l71Bad.f
        rw [hv k (by omega)]; simp only [Option.bind_some]
        rw [hc k (by omega)]; simp only [Option.bind_some]
        rw [if_neg e0, if_neg e1, if_neg e2]
theorem typeN_ev (s : List Int) (hs : Bytes s) (d : Nat) (hd : d ≤ 20) (p : Int) (hp : 0 ≤ p) (hp1 : p ≤ 1099500000000) :
    ∃ r q, (∀ k, 3 * d + 4 ≤ k → spec_l71Type.f k s p d = some (r, q)) ∧ p ≤ q ∧ q ≤ p + 1048576 ∧ dp (d + 1) r = true := by
  have hmax := pow20 d hd
  obtain ⟨r, q, hr, _, h1, h2, _⟩ := type_ev s hs d (by omega) p hp (by omega)
  exact ⟨r, q, hr, h1, by omega, type_dp s _ d p r q (by omega) (hr (3 * d + 4) (Nat.le_refl _))⟩
theorem drawVal_ev (l : List Int) (h : ∀ x ∈ l, (Lit.int .u8 x).wf = true) : ∃ t x v, ∀ k, 60 ≤ k → spec_DrawValOk.f k l = some (t, x, v) := by
  obtain ⟨s, ho, hs⟩ := open_ev l h
  obtain ⟨c, hc, c0, c1⟩ := pick_ev s hs 0 4 (by omega) (by omega) (by omega)
  obtain ⟨cn, rfl⟩ := Int.eq_ofNat_of_zero_le c0
  have ew : wrap64 (1 + (cn : Int)) = ((1 + cn : Nat) : Int) := by rw [w64 (by omega) (by omega)]; omega
  obtain ⟨t, q1, ht, g1, g2, d1⟩ := typeN_ev s hs (1 + cn) (by omega) (0 + 1) (by omega) (by omega)
  obtain ⟨c', hc', c0', c1'⟩ := pick_ev s hs q1 5 (by omega) (by omega) (by omega)
  by_cases e : c' = 0
  · obtain ⟨t2, q2, ht2, g3, g4, d2⟩ := typeN_ev s hs 3 (by omega) (q1 + 1) (by omega) (by omega)
    obtain ⟨x, v, q3, hx, _, _⟩ := bad_ev s hs 4 (by omega) t2 d2 q2 (by omega) (by omega)
    refine ⟨t, x, v, fun k hk => ?_⟩
    unfold spec_DrawValOk.f
    rw [ho]; simp only [Option.bind_some]
    rw [hc k (by omega)]; simp only [Option.bind_some]
    rw [ew, ht k (by omega)]; simp only [Option.bind_some]
    rw [hc' k (by omega)]; simp only [Option.bind_some]
    rw [if_pos e, show (3 : Int) = ((3 : Nat) : Int) from rfl, ht2 k (by omega)]; simp only [Option.bind_some]
    rw [hx k (by omega)]; rfl
  · obtain ⟨x, v, q3, hx, _, _⟩ := bad_ev s hs (1 + cn + 1) (by omega) t d1 (q1 + 1) (by omega) (by omega)
    refine ⟨t, x, v, fun k hk => ?_⟩
    unfold spec_DrawValOk.f
    rw [ho]; simp only [Option.bind_some]
    rw [hc k (by omega)]; simp only [Option.bind_some]
    rw [ew, ht k (by omega)]; simp only [Option.bind_some]
    rw [hc' k (by omega)]; simp only [Option.bind_some]
    rw [if_neg e, hx k (by omega)]; rfl
end Go.Proofs.Ythfflieeifakdaa.Vals
end
section
set_option linter.unusedVariables false
set_option linter.unusedSimpArgs false
namespace Go.Proofs.Ythfflieeifakdaa.Ats
open Go.RowKit Go.Proofs.Ythfflieeifakdaa.PA Go.Proofs.YthfflieeifakdaaW.PrintWords Go.Proofs.YthfflieeifakdaaW.PrintLast Go.Proofs.Ythfflieeifakdaa.Draw Go.Proofs.Ythfflieeifakdaa.Types Go.Proofs.Ythfflieeifakdaa.Paths Go.Proofs.Ythfflieeifakdaa.Vals
def st : Nat → Vl → Option Ty
  | 0, _ => none
  | _ + 1, [] => some []
  | n + 1, [a, b] => (st n a.f1).bind fun s => (st n b.f1).bind fun t => some [⟨s⟩, ⟨t⟩]
  | _ + 1, _ => none
theorem st_nil (n : Nat) : st (n + 1) [] = some [] := rfl
theorem st_two (n : Nat) (a b : S25) : st (n + 1) [a, b] = (st n a.f1).bind fun s => (st n b.f1).bind fun t => some [⟨s⟩, ⟨t⟩] := rfl
theorem st_odd (n : Nat) (l : Vl) (h0 : l.length ≠ 0) (h2 : l.length ≠ 2) : st n l = none := by
  cases n with
  | zero => rfl
  | succ n =>
    match l with
    | [] => simp at h0
    | [_] => rfl
    | [_, _] => simp at h2
    | _ :: _ :: _ :: _ => rfl
theorem st_vt : ∀ (n : Nat) (x : Int) (l : Vl) (t : Ty), vt n x l = some t → st n l = some t := by
  intro n
  induction n with
  | zero => intro x l t h; cases h
  | succ n ih =>
    intro x l t h
    rcases vt_cases h with ⟨rfl, rfl, _, _⟩ | ⟨a, b, s, u, rfl, rfl, rfl, h1, h2⟩
    · rfl
    · rw [st_two, ih _ _ _ h1, ih _ _ _ h2]; rfl
theorem of_ev : ∀ (n : Nat), n ≤ 1000 → ∀ (x : Int) (l : Vl) (k : Nat), 5 * n + 3 ≤ k →
    (∀ t, st n l = some t → spec_l1Of.f k x l n = some (t, true)) ∧ (st n l = none → ∃ t, spec_l1Of.f k x l n = some (t, false)) := by
  intro n
  induction n with
  | zero =>
    intro _ x l k hk
    obtain ⟨k, rfl⟩ : ∃ m, k = m + 2 := ⟨k - 2, by omega⟩
    refine ⟨fun t h => (by cases h), fun _ => ⟨[], ?_⟩⟩
    simp only [spec_l1Of.f]
    rw [if_pos (by omega)]
    simp only [spec_l1Of.j0, if_true]
  | succ n ih =>
    intro hn x l k hk
    obtain ⟨k, rfl⟩ : ∃ m, k = m + 5 := ⟨k - 5, by omega⟩
    have hp := pred_cast n (by omega)
    simp only [spec_l1Of.f]
    rw [if_neg (by omega)]
    rcases shapeV l with rfl | ⟨a, b, rfl⟩ | ⟨h0, h2⟩
    · rw [if_pos (by simp)]
      refine ⟨fun t h => ?_, fun h => (by cases h)⟩
      cases h
      simp only [spec_l1Of.j0, spec_l1Of.l0]
      rw [if_neg (by simp), if_neg (by simp)]
    · rw [if_neg (by simp), show ((([a, b] : Vl).length : Int) != 2) = false from by simp]
      simp only [spec_l1Of.j0, spec_l1Of.l0, hp, w01, w12]
      rw [if_neg (by simp), if_pos (by simp), if_pos (by omega), rv0, st_two]
      have i1 := ih (by omega) a.f0 a.f1 (k + 2) (by omega)
      cases e1 : st n a.f1 with
      | none =>
        obtain ⟨t, h1⟩ := i1.2 e1
        rw [h1]; simp only [Option.bind_some]
        exact ⟨fun t h => (by cases h), fun _ => ⟨[], by rw [if_neg (by simp)]⟩⟩
      | some s =>
        rw [i1.1 s e1]; simp only [Option.bind_some, if_true]
        rw [if_pos (by simp), if_pos (by simp), if_pos (by omega), rv1]
        have i2 := ih (by omega) b.f0 b.f1 (k + 1) (by omega)
        cases e2 : st n b.f1 with
        | none =>
          obtain ⟨t, h1⟩ := i2.2 e2
          rw [h1]; simp only [Option.bind_some]
          exact ⟨fun t h => (by cases h), fun _ => ⟨_, by rw [if_neg (by simp)]⟩⟩
        | some u =>
          rw [i2.1 u e2]; simp only [Option.bind_some, if_true]
          rw [if_pos (by simp), if_neg (by simp)]
          exact ⟨fun t h => (by cases h; rfl), fun h => (by cases h)⟩
    · rw [if_neg (by omega), show ((l.length : Int) != 2) = true from by simp; omega]
      refine ⟨fun t h => (by rw [st_odd _ _ h0 h2] at h; cases h), fun _ => ⟨[], ?_⟩⟩
      simp only [spec_l1Of.j0, if_true]
theorem any_ok (x : Int) (l : Vl) (k : Nat) (hk : 25 ≤ k) : spec_l1Any.f k x l = some (vt 4 x l).isSome := by
  unfold spec_l1Any.f
  rw [show (4 : Int) = ((4 : Nat) : Int) from rfl]
  have h := of_ev 4 (by omega) x l k (by omega)
  cases e : st 4 l with
  | none =>
    obtain ⟨t, h1⟩ := h.2 e
    rw [h1]; simp only [Option.bind_some]
    rw [if_neg (by simp)]
    cases e2 : vt 4 x l with
    | none => rfl
    | some t => rw [st_vt _ _ _ _ e2] at e; cases e
  | some t =>
    rw [h.1 t e]; simp only [Option.bind_some, if_true]
    rw [specValOk_ev t x l k (by omega)]; simp only [Option.bind_some]
    cases e2 : vt 4 x l with
    | none =>
      cases e3 : vo t x l with
      | false => rfl
      | true => rw [(vo_iff t x l).1 e3] at e2; cases e2
    | some u =>
      have := st_vt _ _ _ _ e2
      rw [e] at this
      cases this
      rw [(vo_iff t x l).2 e2]; rfl
theorem anew_ev : ∀ (n : Nat) (x : Int) (l : Vl) (t : Ty) (k : Nat), vt n x l = some t → 4 * n ≤ k → spec_l1Anew.f k x l = some (x, l) := by
  intro n
  induction n with
  | zero => intro x l t k h; cases h
  | succ n ih =>
    intro x l t k h hk
    obtain ⟨k, rfl⟩ : ∃ m, k = m + 4 := ⟨k - 4, by omega⟩
    simp only [spec_l1Anew.f]
    rcases vt_cases h with ⟨rfl, rfl, _, _⟩ | ⟨a, b, s, u, rfl, rfl, rfl, h1, h2⟩
    · simp only [spec_l1Anew.l0]; rw [if_neg (by simp)]
    · simp only [spec_l1Anew.l0, w01, w12]
      rw [if_pos (by simp), if_pos (by omega), rv0, ih _ _ _ _ h1 (by omega)]; simp only [Option.bind_some]
      rw [if_pos (by simp), if_pos (by simp), if_pos (by omega), rv1, ih _ _ _ _ h2 (by omega)]; simp only [Option.bind_some]
      rw [if_pos (by simp), if_neg (by simp)]
      cases a; cases b; rfl
theorem specVLoop_ev (n : Nat) : ∀ (r pre : List Int) (x : Int) (l : Vl) (t : Ty) (k : Nat), vt n x l = some t → pre.length + r.length ≤ 4611686018427387904 → r.length + 4 * n + 1 ≤ k →
    spec_ValAt.l0 k (pre ++ r) (pre.length : Int) x l = some (av (pv r x l)) := by
  intro r
  induction r with
  | nil =>
    intro pre x l t k h h1 hk
    obtain ⟨k, rfl⟩ : ∃ m, k = m + 1 := ⟨k - 1, by omega⟩
    simp only [List.length_nil] at hk
    simp only [spec_ValAt.l0]
    rw [if_neg (by simp), anew_ev n x l t k h (by omega), pv_nil]; rfl
  | cons i r ih =>
    intro pre x l t k h h1 hk
    simp only [List.length_cons] at h1 hk
    obtain ⟨k, rfl⟩ : ∃ m, k = m + 1 := ⟨k - 1, by omega⟩
    simp only [spec_ValAt.l0, spec_l6In.f]
    have hl : ((pre ++ i :: r).length : Int) = pre.length + 1 + r.length := by simp; omega
    rw [if_pos (by omega), if_pos (by omega), rd_mid]
    cases n with
    | zero => cases h
    | succ n =>
      rcases vt_cases h with ⟨rfl, rfl, _, _⟩ | ⟨a, b, s, u, rfl, rfl, rfl, g1, g2⟩
      · rw [pv_odd _ _ _ _ (by simp), show wrap64 ((([] : Vl).length : Int) - 1) = -1 from w64 (by simp) (by simp)]
        by_cases hn : i ≥ 0
        · rw [if_pos hn]; simp only [Option.bind_some]; rw [if_neg (by simp; omega)]; rfl
        · rw [if_neg hn]; rfl
      · rw [pv_two, show wrap64 ((([a, b] : Vl).length : Int) - 1) = 1 from w64 (by simp) (by simp)]
        by_cases hn : i ≥ 0
        · rw [if_pos hn]; simp only [Option.bind_some]
          by_cases hb : i ≤ 1
          · rw [if_pos (by simpa using hb), if_pos (by omega), if_pos (by simp; omega), w64 (by omega) (by omega)]
            have ea : pre ++ i :: r = (pre ++ [i]) ++ r := by simp
            have el : (pre.length : Int) + 1 = ((pre ++ [i]).length : Int) := by simp
            rw [el, ea]
            by_cases h0 : i = 0
            · rw [if_pos h0, h0, rv0, ih _ _ _ _ _ (vt_succ _ _ _ _ g1) (by simp; omega) (by omega)]
            · rw [if_neg h0, if_pos (by omega), show i = 1 by omega, rv1, ih _ _ _ _ _ (vt_succ _ _ _ _ g2) (by simp; omega) (by omega)]
          · rw [if_neg (by simpa using hb), if_neg (by omega), if_neg (by omega)]; rfl
        · rw [if_neg hn, if_neg (show ¬ i = 0 by omega), if_neg (show ¬ i = 1 by omega)]; rfl
theorem specValAt_ev (x : Int) (l : Vl) (p : List Int) (k : Nat) (h : p.length ≤ 4611686018427387904) (hk : p.length + 30 ≤ k) : spec_ValAt.f k x l p = some (vat x l p) := by
  unfold spec_ValAt.f vat
  rw [any_ok x l k (by omega)]; simp only [Option.bind_some]
  cases e : vt 4 x l with
  | none => rfl
  | some t =>
    simp only [Option.isSome_some, if_true]
    have := specVLoop_ev 4 p [] x l t k e (by simpa using h) (by omega)
    simpa using this
theorem vat_vt (x : Int) (l : Vl) (p : List Int) : ∃ t, vt 4 (vat x l p).1 (vat x l p).2.1 = some t := by
  unfold vat
  cases e : vt 4 x l with
  | none => exact ⟨[], rfl⟩
  | some t =>
    simp only [Option.isSome_some, if_true]
    cases e2 : pv p x l with
    | none => exact ⟨[], rfl⟩
    | some r =>
      obtain ⟨u, _, hu⟩ := (vt_pv 4 p x l t e).1 r.1 r.2 e2
      exact ⟨u, hu⟩
theorem lhv_self : ∀ (n : Nat) (x : Int) (l : Vl) (t : Ty) (k : Nat), vt n x l = some t → 5 * n ≤ k → laws_lhVal.f k x l x l = some true := by
  intro n
  induction n with
  | zero => intro x l t k h; cases h
  | succ n ih =>
    intro x l t k h hk
    obtain ⟨k, rfl⟩ : ∃ m, k = m + 5 := ⟨k - 5, by omega⟩
    simp only [laws_lhVal.f, if_true]
    rw [show ((l.length : Int) != (l.length : Int)) = false from by simp]
    rcases vt_cases h with ⟨rfl, rfl, _, _⟩ | ⟨a, b, s, u, rfl, rfl, rfl, h1, h2⟩
    · simp only [laws_lhVal.j0, laws_lhVal.l0]; rw [if_neg (by simp), if_neg (by simp)]
    · simp only [laws_lhVal.j0, laws_lhVal.l0, w01, w12]
      rw [if_neg (by simp), if_pos (by simp), if_pos (by omega), if_pos (by simp), rv0, ih _ _ _ _ h1 (by omega)]; simp only [Option.bind_some, if_true]
      rw [if_pos (by simp), if_pos (by omega), if_pos (by simp), rv1, ih _ _ _ _ h2 (by omega)]; simp only [Option.bind_some, if_true]
      rw [if_neg (by simp)]
end Go.Proofs.Ythfflieeifakdaa.Ats
end
section
set_option linter.unusedVariables false
set_option linter.unusedSimpArgs false
namespace Go.Proofs.Ythfflieeifakdaa.Puts
open Go.RowKit Go.Proofs.Ythfflieeifakdaa.PA Go.Proofs.YthfflieeifakdaaW.PrintWords Go.Proofs.YthfflieeifakdaaW.PrintLast Go.Proofs.Ythfflieeifakdaa.Draw Go.Proofs.Ythfflieeifakdaa.Types Go.Proofs.Ythfflieeifakdaa.Paths Go.Proofs.Ythfflieeifakdaa.Vals Go.Proofs.Ythfflieeifakdaa.Ats
def wp : List Int → Int → Vl → Int → Vl → Int × Vl
  | [], _, _, y, m => (y, m)
  | i :: r, _, [a, b], y, m => if i = 0 then (0, [⟨(wp r a.f0 a.f1 y m).1, (wp r a.f0 a.f1 y m).2⟩, b]) else (0, [a, ⟨(wp r b.f0 b.f1 y m).1, (wp r b.f0 b.f1 y m).2⟩])
  | _ :: _, x, l, _, _ => (x, l)
theorem wp_nil (x : Int) (l : Vl) (y : Int) (m : Vl) : wp [] x l y m = (y, m) := by cases l <;> rfl
theorem wp_two (i : Int) (r : List Int) (x : Int) (a b : S25) (y : Int) (m : Vl) : wp (i :: r) x [a, b] y m = if i = 0 then (0, [⟨(wp r a.f0 a.f1 y m).1, (wp r a.f0 a.f1 y m).2⟩, b]) else (0, [a, ⟨(wp r b.f0 b.f1 y m).1, (wp r b.f0 b.f1 y m).2⟩]) := rfl
theorem vt_le (n m : Nat) (h : n ≤ m) (x : Int) (l : Vl) (t : Ty) (e : vt n x l = some t) : vt m x l = some t := by
  induction m with
  | zero => obtain rfl : n = 0 := by omega
            exact e
  | succ m ih =>
    by_cases g : n = m + 1
    · subst g; exact e
    · exact vt_succ _ _ _ _ (ih (by omega))
theorem vt_same {n m : Nat} {x : Int} {l : Vl} {t u : Ty} (h : vt n x l = some t) (g : vt m x l = some u) : t = u := by
  have h1 := vt_le n (max n m) (Nat.le_max_left _ _) x l t h
  have h2 := vt_le m (max n m) (Nat.le_max_right _ _) x l u g
  rw [h1] at h2
  cases h2; rfl
theorem vt_low : ∀ (m n : Nat) (x : Int) (l : Vl) (t : Ty), vt n x l = some t → dp m t = true → vt m x l = some t := by
  intro m
  induction m with
  | zero => intro n x l t _ h; simp [dp] at h
  | succ m ih =>
    intro n x l t h d
    cases n with
    | zero => cases h
    | succ n =>
      rcases vt_cases h with ⟨rfl, rfl, h0, h1⟩ | ⟨a, b, s, u, rfl, rfl, rfl, h1, h2⟩
      · rw [vt_nil, if_pos ⟨h0, h1⟩]
      · rw [dp_two, Bool.and_eq_true] at d
        rw [vt_two, if_pos rfl, ih _ _ _ _ h1 d.1, ih _ _ _ _ h2 d.2]; rfl
theorem wp_all : ∀ (p : List Int) (n : Nat) (x : Int) (l : Vl) (t : Ty) (q : Int × Vl) (y : Int) (m : Vl) (s : Ty) (N : Nat), vt n x l = some t → pv p x l = some q → vt N q.1 q.2 = some s → vt N y m = some s →
    vt n (wp p x l y m).1 (wp p x l y m).2 = some t ∧ pv p (wp p x l y m).1 (wp p x l y m).2 = some (y, m) ∧ wp p (wp p x l y m).1 (wp p x l y m).2 q.1 q.2 = (x, l) ∧ wp p x l q.1 q.2 = (x, l) := by
  intro p
  induction p with
  | nil =>
    intro n x l t q y m s N h e hq hy
    rw [pv_nil] at e
    cases e
    have := vt_same h hq
    subst this
    simp only [wp_nil, pv_nil]
    exact ⟨vt_low _ _ _ _ _ hy (vt_dp _ _ _ _ h), by trivial, by trivial, by trivial⟩
  | cons i r ih =>
    intro n x l t q y m s N h e hq hy
    cases n with
    | zero => cases h
    | succ n =>
      rcases vt_cases h with ⟨rfl, rfl, _, _⟩ | ⟨a, b, s1, u1, rfl, rfl, rfl, h1, h2⟩
      · cases e
      · rw [pv_two] at e
        rw [wp_two, wp_two]
        by_cases h0 : i = 0
        · rw [if_pos h0] at e
          rw [if_pos h0, if_pos h0]
          obtain ⟨g1, g2, g3, g4⟩ := ih n a.f0 a.f1 s1 q y m s N h1 e hq hy
          refine ⟨?_, ?_, ?_, ?_⟩
          · rw [vt_two, if_pos rfl, g1, h2]; rfl
          · rw [pv_two, if_pos h0]; exact g2
          · rw [wp_two, if_pos h0]; simp only [g3]; cases a; rfl
          · simp only [g4]; cases a; rfl
        · rw [if_neg h0] at e
          by_cases h3 : i = 1
          · rw [if_pos h3] at e
            rw [if_neg h0, if_neg h0]
            obtain ⟨g1, g2, g3, g4⟩ := ih n b.f0 b.f1 u1 q y m s N h2 e hq hy
            refine ⟨?_, ?_, ?_, ?_⟩
            · rw [vt_two, if_pos rfl, g1, h1]; rfl
            · rw [pv_two, if_neg h0, if_pos h3]; exact g2
            · rw [wp_two, if_neg h0]; simp only [g3]; cases b; rfl
            · simp only [g4]; cases b; rfl
          · rw [if_neg h3] at e; cases e
theorem pv_len : ∀ (p : List Int) (n : Nat) (x : Int) (l : Vl) (t : Ty) (q : Int × Vl), vt n x l = some t → pv p x l = some q → p.length < n := by
  intro p
  induction p with
  | nil => intro n x l t q h _; cases n with
    | zero => cases h
    | succ n => simp
  | cons i r ih =>
    intro n x l t q h e
    cases n with
    | zero => cases h
    | succ n =>
      rcases vt_cases h with ⟨rfl, rfl, _, _⟩ | ⟨a, b, s1, u1, rfl, rfl, rfl, h1, h2⟩
      · cases e
      · rw [pv_two] at e
        split at e
        · have := ih n _ _ _ _ h1 e; simp; omega
        · split at e
          · have := ih n _ _ _ _ h2 e; simp; omega
          · cases e
theorem valWith_ev : ∀ (p : List Int) (n : Nat) (x : Int) (l : Vl) (t : Ty) (q : Int × Vl) (y : Int) (m : Vl) (u : Ty) (k : Nat), vt n x l = some t → pv p x l = some q → vt 4 y m = some u → 5 * p.length + n + 8 ≤ k →
    impl_valWith.f k x l p y m = some (wp p x l y m) := by
  intro p
  induction p with
  | nil =>
    intro n x l t q y m u k h e hy hk
    obtain ⟨k, rfl⟩ : ∃ m, k = m + 1 := ⟨k - 1, by omega⟩
    simp only [impl_valWith.f]
    rw [if_pos (by first | (simp; done) | (simp; omega)), valCopy_ev 4 y m u k hy (by omega), wp_nil]; rfl
  | cons i r ih =>
    intro n x l t q y m u k h e hy hk
    simp only [List.length_cons] at hk
    obtain ⟨k, rfl⟩ : ∃ m, k = m + 4 := ⟨k - 4, by omega⟩
    simp only [impl_valWith.f]
    cases n with
    | zero => cases h
    | succ n =>
      rcases vt_cases h with ⟨rfl, rfl, _, _⟩ | ⟨a, b, s1, u1, rfl, rfl, rfl, h1, h2⟩
      · cases e
      · rw [pv_two] at e
        have r0 : rd (i :: r) 0 = i := rfl
        have d1 : (i :: r).drop 1 = r := rfl
        rw [if_neg (by first | omega | (simp; done) | (simp; omega))]
        simp only [impl_valWith.l0, r0, d1, w01, w12]
        rw [if_pos (by first | (simp; done) | (simp; omega)), if_pos (by first | omega | (simp; omega)), if_pos (by first | (simp; done) | (simp; omega)), if_pos (by first | omega | (simp; done) | (simp; omega)), wp_two]
        by_cases h0 : i = 0
        · rw [if_pos h0] at e
          subst h0
          rw [if_pos (by trivial), if_pos (by first | (simp; done) | (simp; omega)), rv0, ih n _ _ _ _ _ _ _ (k + 2) h1 e hy (by omega)]; simp only [Option.bind_some]
          rw [if_pos (by first | (simp; done) | (simp; omega)), if_pos (by first | (simp; done) | (simp; omega)), if_pos (by first | omega | (simp; omega)), if_pos (by first | (simp; done) | (simp; omega)), if_pos (by first | omega | (simp; done) | (simp; omega)), if_neg (by omega), rv1, valCopy_ev n _ _ _ (k + 1) h2 (by omega)]; simp only [Option.bind_some]
          rw [if_pos (by simp), if_neg (by simp), if_pos (by trivial)]
          cases b; rfl
        · rw [if_neg h0] at e
          by_cases h3 : i = 1
          · rw [if_pos h3] at e
            subst h3
            rw [if_neg (by omega), rv0, valCopy_ev n _ _ _ (k + 2) h1 (by omega)]; simp only [Option.bind_some]
            rw [if_pos (by first | (simp; done) | (simp; omega)), if_pos (by first | (simp; done) | (simp; omega)), if_pos (by first | omega | (simp; omega)), if_pos (by first | (simp; done) | (simp; omega)), if_pos (by first | omega | (simp; done) | (simp; omega)), if_pos (by trivial), if_pos (by first | (simp; done) | (simp; omega)), rv1, ih n _ _ _ _ _ _ _ (k + 1) h2 e hy (by omega)]; simp only [Option.bind_some]
            rw [if_pos (by first | (simp; done) | (simp; omega)), if_neg (by first | (simp; done) | (simp; omega)), if_neg (by omega)]
            cases a; rfl
          · rw [if_neg h3] at e; cases e
theorem l1Put_ev : ∀ (p : List Int) (n : Nat) (x : Int) (l : Vl) (t : Ty) (q : Int × Vl) (y : Int) (m : Vl) (u : Ty) (k : Nat), vt n x l = some t → pv p x l = some q → vt 4 y m = some u → p.length + 4 * n + 20 ≤ k →
    spec_l1Put.f k x l p y m = some (wp p x l y m) := by
  intro p
  induction p with
  | nil =>
    intro n x l t q y m u k h e hy hk
    obtain ⟨k, rfl⟩ : ∃ m, k = m + 1 := ⟨k - 1, by omega⟩
    simp only [spec_l1Put.f]
    rw [if_pos (by first | (simp; done) | (simp; omega)), anew_ev 4 y m u k hy (by omega), wp_nil]; rfl
  | cons i r ih =>
    intro n x l t q y m u k h e hy hk
    simp only [List.length_cons] at hk
    obtain ⟨k, rfl⟩ : ∃ m, k = m + 1 := ⟨k - 1, by omega⟩
    simp only [spec_l1Put.f]
    have h' := h
    cases n with
    | zero => cases h
    | succ n =>
      rcases vt_cases h with ⟨rfl, rfl, _, _⟩ | ⟨a, b, s1, u1, rfl, rfl, rfl, h1, h2⟩
      · cases e
      · rw [pv_two] at e
        have r0 : rd (i :: r) 0 = i := rfl
        have d1 : (i :: r).drop 1 = r := rfl
        rw [if_neg (by first | omega | (simp; done) | (simp; omega)), anew_ev (n + 1) _ _ _ k h' (by omega)]; simp only [Option.bind_some, r0, d1]
        rw [if_pos (by first | omega | (simp; done) | (simp; omega)), wp_two]
        by_cases h0 : i = 0
        · rw [if_pos h0] at e
          subst h0
          rw [if_pos (by first | omega | (simp; omega)), if_pos (by first | (simp; done) | (simp; omega)), if_pos (by first | (simp; done) | (simp; omega)), rv0, ih n _ _ _ _ _ _ _ k h1 e hy (by omega)]; simp only [Option.bind_some]
          rw [if_pos (by first | (simp; done) | (simp; omega)), if_pos (by trivial)]; rfl
        · rw [if_neg h0] at e
          by_cases h3 : i = 1
          · rw [if_pos h3] at e
            subst h3
            rw [if_pos (by first | omega | (simp; omega)), if_pos (by first | (simp; done) | (simp; omega)), if_pos (by first | (simp; done) | (simp; omega)), rv1, ih n _ _ _ _ _ _ _ k h2 e hy (by omega)]; simp only [Option.bind_some]
            rw [if_pos (by first | (simp; done) | (simp; omega)), if_neg (by omega)]; rfl
          · rw [if_neg h3] at e; cases e
theorem l1Same_ev : ∀ (n : Nat) (a b : Ty) (k : Nat), dp n a = true → dp n b = true → 4 * n ≤ k → spec_l1Same.f k a b = some (teq n a b) := by
  intro n
  induction n with
  | zero => intro a b k h; simp [dp] at h
  | succ n ih =>
    intro a b k ha hb hk
    obtain ⟨k, rfl⟩ : ∃ m, k = m + 4 := ⟨k - 4, by omega⟩
    simp only [spec_l1Same.f]
    rcases Types.shape a with rfl | ⟨a1, a2, rfl⟩ | ⟨h0, h2⟩
    · rcases Types.shape b with rfl | ⟨b1, b2, rfl⟩ | ⟨h0, h2⟩
      · rw [if_pos (by trivial)]; simp only [spec_l1Same.l0]; rw [if_neg (by first | (simp; done) | (simp; omega))]; rfl
      · rw [if_neg (by first | (simp; done) | (simp; omega))]; rfl
      · rw [dp_odd _ _ h0 h2] at hb; cases hb
    · rcases Types.shape b with rfl | ⟨b1, b2, rfl⟩ | ⟨h0, h2⟩
      · rw [if_neg (by first | (simp; done) | (simp; omega))]; rfl
      · rw [dp_two, Bool.and_eq_true] at ha hb
        rw [if_pos (by first | (simp; done) | (simp; omega))]
        simp only [spec_l1Same.l0, w01, w12]
        rw [if_pos (by first | (simp; done) | (simp; omega)), if_pos (by first | omega | (simp; omega)), if_pos (by first | (simp; done) | (simp; omega)), rd0, rd0, ih _ _ _ ha.1 hb.1 (by omega)]
        simp only [Option.bind_some]
        have e : teq (n + 1) [a1, a2] [b1, b2] = (teq n a1.f0 b1.f0 && teq n a2.f0 b2.f0) := rfl
        rw [e]
        cases h1 : teq n a1.f0 b1.f0 with
        | false => simp
        | true =>
          rw [if_pos (by trivial), if_pos (by first | (simp; done) | (simp; omega)), if_pos (by first | omega | (simp; omega)), if_pos (by first | (simp; done) | (simp; omega)), rd1, rd1, ih _ _ _ ha.2 hb.2 (by omega)]
          simp only [Option.bind_some]
          cases h2 : teq n a2.f0 b2.f0 with
          | false => simp
          | true => rw [if_pos (by trivial), if_neg (by first | (simp; done) | (simp; omega))]; rfl
      · rw [dp_odd _ _ h0 h2] at hb; cases hb
    · rw [dp_odd _ _ h0 h2] at ha; cases ha
def vput (x : Int) (l : Vl) (p : List Int) (y : Int) (m : Vl) : Int × Vl × Bool :=
  match vt 4 x l, pv p x l, vt 4 y m with
  | some _, some q, some u => match vt 4 q.1 q.2 with
    | some s => if teq 4 s u = true then ((wp p x l y m).1, (wp p x l y m).2, true) else (0, [], false)
    | none => (0, [], false)
  | _, _, _ => (0, [], false)
theorem implPut_ev (x : Int) (l : Vl) (p : List Int) (y : Int) (m : Vl) (k : Nat) (h : p.length ≤ 1000) (hk : 6000 ≤ k) : impl_ValPut.f k x l p y m = some (vput x l p y m) := by
  unfold impl_ValPut.f
  rw [implValAt_ev x l p k (by omega) (by omega)]; simp only [Option.bind_some]
  unfold vat vput
  cases e : vt 4 x l with
  | none => rfl
  | some t =>
    cases e2 : pv p x l with
    | none => rfl
    | some q =>
      obtain ⟨s, _, hs⟩ := (vt_pv 4 p x l t e).1 q.1 q.2 e2
      simp only [Option.isSome_some, if_true, av]
      rw [typed_ev _ _ k (by omega)]; simp only [Option.bind_some]
      rw [typed_ev _ _ k (by omega)]; simp only [Option.bind_some]
      cases e3 : vt 4 y m with
      | none => rfl
      | some u =>
        simp only [hs, at_, if_true]
        rw [same_ev 4 s u k (vt_dp _ _ _ _ hs) (vt_dp _ _ _ _ e3) (by omega)]; simp only [Option.bind_some]
        cases g : teq 4 s u with
        | false => rfl
        | true =>
          simp only [if_true]
          rw [valWith_ev p 4 x l t q y m u k e e2 e3 (by omega)]; rfl
theorem specPut_ev (x : Int) (l : Vl) (p : List Int) (y : Int) (m : Vl) (k : Nat) (h : p.length ≤ 1000) (hk : 6000 ≤ k) : spec_ValPut.f k x l p y m = some (vput x l p y m) := by
  obtain ⟨k, rfl⟩ : ∃ m, k = m + 1 := ⟨k - 1, by omega⟩
  unfold spec_ValPut.f
  rw [specValAt_ev x l p (k + 1) (by omega) (by omega)]; simp only [Option.bind_some]
  have bad : ∀ a b c d e f, spec_ValPut.j0 (k + 1) p true a b c d e f = some (0, [], false) := fun a b c d e f => by simp only [spec_ValPut.j0, if_true]
  unfold vat vput
  cases e : vt 4 x l with
  | none => simp [spec_ValPut.j0, av]
  | some t =>
    cases e2 : pv p x l with
    | none => simp [spec_ValPut.j0, av]
    | some q =>
      obtain ⟨s, _, hs⟩ := (vt_pv 4 p x l t e).1 q.1 q.2 e2
      simp only [Option.isSome_some, if_true, av]
      rw [any_ok _ _ (k + 1) (by omega)]; simp only [Option.bind_some]
      cases e3 : vt 4 y m with
      | none => simp [spec_ValPut.j0, av]
      | some u =>
        simp only [spec_ValPut.j0, Option.isSome_some, Bool.not_true]
        rw [if_neg (by simp), show (4 : Int) = ((4 : Nat) : Int) from rfl, (of_ev 4 (by omega) q.1 q.2 k (by omega)).1 s (st_vt _ _ _ _ hs)]; simp only [Option.bind_some]
        rw [(of_ev 4 (by omega) y m k (by omega)).1 u (st_vt _ _ _ _ e3)]; simp only [Option.bind_some]
        rw [l1Same_ev 4 s u k (vt_dp _ _ _ _ hs) (vt_dp _ _ _ _ e3) (by omega)]; simp only [Option.bind_some, hs]
        cases g : teq 4 s u with
        | false => rfl
        | true =>
          simp only [if_true]
          rw [l1Put_ev p 4 x l t q y m u k e e2 e3 (by omega)]; rfl
end Go.Proofs.Ythfflieeifakdaa.Puts
end
