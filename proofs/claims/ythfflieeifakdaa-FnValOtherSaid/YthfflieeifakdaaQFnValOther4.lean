-- Ythfflieeifakdaa's texts for the statement FnValOther, one behind the other (merge.py).
import Derived.Test.YthfflieeifakdaaQFnValOther0
import Derived.Test.YthfflieeifakdaaQFnValOther3
import Derived.Test.YthfflieeifakdaaQFnValOther1
import Derived.Test.YthfflieeifakdaaQFnValOther2
import Derived.OpenShut
import Derived.Laws.BitsLemmas
section
namespace Go.Proofs.Ythfflieeifakdaa.PA
open Go.RowKit Go.Proofs.YthfflieeifakdaaW.PrintWords Go.Proofs.YthfflieeifakdaaW.PrintLast Go.Proofs.YthfflieeifakdaaW.PrintMore
attribute [local go_sem] max2_int min2_int max_two min_two max_three min_three max_four min_four
set_option linter.unusedVariables false
set_option linter.unusedSimpArgs false
def spec_ValPut.j0 : Nat → List Int → Bool → Int → List (S25) → Int → List (S25) → Int → List (S25) → Option (Int × (List (S25)) × Bool)
 | 0, _, _, _, _, _, _, _, _ => none
 | k + 1, x1, x26, x742000, x742001, x743000, x743001, x750000, x750001 => if x26 = true then (some (0, ([] : List (S25)), false)) else ((spec_l1Of.f k x750000 x750001 4).bind fun bt751 => ((spec_l1Of.f k x743000 x743001 4).bind fun bt756 => ((spec_l1Same.f k bt751.1 bt756.1).bind fun t761 => (if t761 = true then ((spec_l1Put.f k x742000 x742001 x1 x743000 x743001).bind fun bt762 => (some (bt762.1, bt762.2, true))) else (some (0, ([] : List (S25)), false))))))
def spec_ValPut.f (k : Nat) (a0_0 : Int) (l0_1 : List (S25)) (l1 : List Int) (a2_0 : Int) (l2_1 : List (S25)) : Option (Int × (List (S25)) × Bool) := (spec_ValAt.f k a0_0 l0_1 l1).bind fun bt744 => (if bt744.2.2 = true then ((spec_l1Any.f k a2_0 l2_1).bind fun t750 => (spec_ValPut.j0 k l1 (!t750) a0_0 l0_1 a2_0 l2_1 bt744.1 bt744.2.1)) else (spec_ValPut.j0 k l1 true a0_0 l0_1 a2_0 l2_1 bt744.1 bt744.2.1))
theorem spec_ValPut.mono_l : ∀ k, (∀ y0 y1 y2 y3 y4 y5 y6 y7, LeO (spec_ValPut.j0 k y0 y1 y2 y3 y4 y5 y6 y7) (spec_ValPut.j0 (k + 1) y0 y1 y2 y3 y4 y5 y6 y7))
 | 0 => fun _ _ _ _ _ _ _ _ r h => by simp [spec_ValPut.j0] at h
 | k + 1 => by
  have ih0 := spec_ValPut.mono_l k
  ·intro y0 y1 y2 y3 y4 y5 y6 y7
   unfold spec_ValPut.j0
   repeat' first
   | (with_reducible exact ih0 _ _ _ _ _ _ _ _)
   | (with_reducible exact spec_ValAt.mono _ _ _ _)
   | (with_reducible exact spec_l1Any.mono _ _ _)
   | (with_reducible exact spec_l1Of.mono _ _ _ _)
   | (with_reducible exact spec_l1Put.mono _ _ _ _ _ _)
   | (with_reducible exact spec_l1Same.mono _ _ _)
   | (with_reducible exact LeO.refl _)
   | (with_reducible exact LeO.none _)
   | (with_reducible refine LeO.ite ?_ ?_)
   | (with_reducible refine LeO.bind ?_ (fun _ => ?_))
   | exact ih0 _ _ _ _ _ _ _ _
   | exact spec_ValAt.mono _ _ _ _
   | exact spec_l1Any.mono _ _ _
   | exact spec_l1Of.mono _ _ _ _
   | exact spec_l1Put.mono _ _ _ _ _ _
   | exact spec_l1Same.mono _ _ _
   | exact LeO.none _
   | refine LeO.ite ?_ ?_
   | refine LeO.bind ?_ (fun _ => ?_)
theorem spec_ValPut.mono : ∀ a0 a1 a2 a3 a4 k, LeO (spec_ValPut.f k a0 a1 a2 a3 a4) (spec_ValPut.f (k + 1) a0 a1 a2 a3 a4) := by
 intro a0 a1 a2 a3 a4 k
 have ih0 := spec_ValPut.mono_l k
 unfold spec_ValPut.f
 repeat' first
   | (with_reducible exact ih0 _ _ _ _ _ _ _ _)
   | (with_reducible exact spec_ValAt.mono _ _ _ _)
   | (with_reducible exact spec_l1Any.mono _ _ _)
   | (with_reducible exact spec_l1Of.mono _ _ _ _)
   | (with_reducible exact spec_l1Put.mono _ _ _ _ _ _)
   | (with_reducible exact spec_l1Same.mono _ _ _)
   | (with_reducible exact LeO.refl _)
   | (with_reducible exact LeO.none _)
   | (with_reducible refine LeO.ite ?_ ?_)
   | (with_reducible refine LeO.bind ?_ (fun _ => ?_))
   | exact ih0 _ _ _ _ _ _ _ _
   | exact spec_ValAt.mono _ _ _ _
   | exact spec_l1Any.mono _ _ _
   | exact spec_l1Of.mono _ _ _ _
   | exact spec_l1Put.mono _ _ _ _ _ _
   | exact spec_l1Same.mono _ _ _
   | exact LeO.none _
   | refine LeO.ite ?_ ?_
   | refine LeO.bind ?_ (fun _ => ?_)
set_option maxHeartbeats 8000000 in
set_option maxRecDepth 100000 in
theorem spec_ValPut.calls (k : Nat) (a0_0 : Int) (A0_1 : Option Addr) (c0_1 : Nat) (l0_1 : List (S25)) (A1 : Option Addr) (c1 : Nat) (l1 : List Int) (a2_0 : Int) (A2_1 : Option Addr) (c2_1 : Nat) (l2_1 : List (S25)) (r1 : Int) (r2 : List (S25)) (r3 : Bool) (w : World) (hr0_1 : Kd.C k25 w A0_1 l0_1.length l0_1) (hc0_1 : l0_1.length ≤ c0_1) (hr1 : Kd.C (Kd.int .i64) w A1 l1.length l1) (hc1 : l1.length ≤ c1) (hr2_1 : Kd.C k25 w A2_1 l2_1.length l2_1) (hc2_1 : l2_1.length ≤ c2_1) (h : spec_ValPut.f k a0_0 l0_1 l1 a2_0 l2_1 = some (r1, r2, r3)) :
  Calls Try.prog 26 #[.agg #[.int .i64 a0_0, .slice A0_1 l0_1.length c0_1], .slice A1 l1.length c1, .agg #[.int .i64 a2_0, .slice A2_1 l2_1.length c2_1]] w fun e w' => ∃ v1_ : Value, e = .returned (.tuple #[.agg #[.int .i64 r1, v1_], .bool r3]) ∧ Kd.N k25 25 w' w.heap.size (fun k_ => (w.heap.size ≤ k_)) v1_ r2 ∧ Below w.heap.size w w' := by
 have hu25 := Try.underlying25
 have hu50 := Try.underlying50
 have HR0_1 := Aside0.mk hr0_1
 have HC0_1 := Aside0.mk hc0_1
 clear hr0_1 hc0_1
 have HR1 := Aside0.mk hr1
 have HC1 := Aside0.mk hc1
 clear hr1 hc1
 have HR2_1 := Aside0.mk hr2_1
 have HC2_1 := Aside0.mk hc2_1
 clear hr2_1 hc2_1
 have HB := Aside0.mk (Below.refl w.heap.size w)
 have H : ((spec_ValAt.f k a0_0 l0_1 l1).bind fun bt744 => (if bt744.2.2 = true then ((spec_l1Any.f k a2_0 l2_1).bind fun t750 => (spec_ValPut.j0 k l1 (!t750) a0_0 l0_1 a2_0 l2_1 bt744.1 bt744.2.1)) else (spec_ValPut.j0 k l1 true a0_0 l0_1 a2_0 l2_1 bt744.1 bt744.2.1))) = some (r1, r2, r3) := h
 clear h
 obtain ⟨⟨t744, t745, t748⟩, A40, H⟩ := ob H
 have A4 := Aside0.mk A40
 clear A40
 have HC5 := Aside0.mk H
 clear H
 go_enter Try.func26, Try.ntmps26
 go_upto_region 2 with (first | ((with_reducible refine gate_dst (N := 3) rfl ?_); refine zbx 3 #[.int .i64 a0_0, .slice A0_1 l0_1.length c0_1] 25 ?_; intro gb741 hg w6 hbox hb; have BK741 := Aside0.mk hbox; have GW741 := Aside0.mk ((y10 hg HB.out : w.heap.size ≤ gb741)); have GE741 := Aside0.mk ((y10 hg HB.out : w.heap.size ≤ gb741)); replace HB := Aside0.mk (below_step (y6 HB.out) hb); clear hb hbox hg) | ((with_reducible refine gate_dst (N := 5) rfl ?_); refine zbx 5 #[.int .i64 a2_0, .slice A2_1 l2_1.length c2_1] 25 ?_; intro gb742 hg w7 hbox hb; have BK742 := Aside0.mk hbox; have GW742 := Aside0.mk ((y12 hg HB.out GE741.out : w.heap.size ≤ gb742)); have GE742 := Aside0.mk ((y12 hg HB.out GE741.out : w.heap.size ≤ gb742)); replace HB := Aside0.mk (below_step (y7 HB.out GE741.out) hb); have NB741_742 := zltn hg BK741; have NB742_741 := zgtn hg BK741; replace BK741 := zbb BK741 hb; clear hb hbox hg) | ((with_reducible refine gate_dst (N := 6) rfl ?_); refine zbx 6 #[.int .i64 0, .slice none 0 0] 25 ?_; intro gb743 hg w8 hbox hb; have BK743 := Aside0.mk hbox; have GW743 := Aside0.mk ((y16 hg HB.out GE741.out GE742.out : w.heap.size ≤ gb743)); have GE743 := Aside0.mk ((y16 hg HB.out GE741.out GE742.out : w.heap.size ≤ gb743)); replace HB := Aside0.mk (below_step (y3 HB.out GE741.out GE742.out) hb); have NB741_743 := zltn hg BK741; have NB743_741 := zgtn hg BK741; replace BK741 := zbb BK741 hb; have NB742_743 := zltn hg BK742; have NB743_742 := zgtn hg BK742; replace BK742 := zbb BK742 hb; clear hb hbox hg; have hnb9 := NB741_742.out; have hnc9 := NB742_741.out; have hnb10 := NB741_743.out; have hnc10 := NB743_741.out; have hcz11_0 := zh BK741; have hcz11_1 := zh1 BK741; have hfz11_0 := zfr BK741 0; have hfz11_1 := zfr BK741 1) | ((with_reducible refine gate_callee (f := 13) rfl ?_); refine goesL_ (some 17) rfl rfl Try.func13 (by kernel_rfl) rfl #[.agg #[.int .i64 a0_0, .slice A0_1 l0_1.length c0_1], .slice A1 l1.length c1] rfl y9 ?_; (with_reducible refine (spec_ValAt.calls k a0_0 (fun k_ => k_ < w.heap.size) _ _ l0_1 _ _ l1 t744 t745 t748 _ ?side1 ?side2 ?side3 A4.out).mono ?_); (case side1 => exact Kd.V_mk HC0_1.out (Kd.F_below (Kd.C_F k25_heap HR0_1.out) (y4 HB.out GE741.out GE742.out GE743.out))); (case side2 => exact y18 HR1.out HB.out); (case side3 => exact HC1.out); rintro e w12 ⟨v746, rfl, ho0, hb⟩; refine ⟨_, rfl, ?_⟩; have HO747 := Aside0.mk (Kd.N_lower (Kd.N_mono (ok' := fun k_ => (w.heap.size ≤ k_) ∧ k_ ≠ gb741 ∧ k_ ≠ gb742 ∧ k_ ≠ gb743) (Kd.R_N (Kd.R_bound ho0)) (fun k_ hk_ => ⟨(Nat.le_trans (below_size (y4 HB.out GE741.out GE742.out GE743.out)) hk_.2.1), (Kd.freshB (g := gb741) (o := .cells #[.int .i64 a0_0, .slice A0_1 l0_1.length c0_1] 25 (0, 0)) (y0 BK741.out) k_ hk_.2.1), (Kd.freshB (g := gb742) (o := .cells #[.int .i64 a2_0, .slice A2_1 l2_1.length c2_1] 25 (0, 0)) (y0 BK742.out) k_ hk_.2.1), (Kd.freshB (g := gb743) (o := .cells #[.int .i64 0, .slice none 0 0] 25 (0, 0)) (y0 BK743.out) k_ hk_.2.1)⟩)) (below_size (y4 HB.out GE741.out GE742.out GE743.out))); replace BK741 := zbb BK741 hb; replace BK742 := zbb BK742 hb; replace BK743 := zbb BK743 hb; replace HB := Aside0.mk (below_step (y4 HB.out GE741.out GE742.out GE743.out) hb); (try clear hb); (try clear hb2); (try clear hk); (try clear hi); (try clear ho0)) | ((with_reducible refine gate_dst (N := 8) rfl ?_); refine zbx 8 #[.int .i64 0, .slice none 0 0] 25 ?_; intro gb749 hg w13 hbox hb; replace HO747 := Aside0.mk (Kd.N_below (Kd.N_elderB (y2 HO747.out) gb749 (Nat.le_of_eq hg.symm)) hb); have BK749 := Aside0.mk hbox; have GW749 := Aside0.mk ((y20 hg HB.out GE741.out GE742.out GE743.out : w.heap.size ≤ gb749)); have GE749 := Aside0.mk ((y20 hg HB.out GE741.out GE742.out GE743.out : w.heap.size ≤ gb749)); replace HB := Aside0.mk (below_step (y4 HB.out GE741.out GE742.out GE743.out) hb); have NB741_749 := zltn hg BK741; have NB749_741 := zgtn hg BK741; replace BK741 := zbb BK741 hb; have NB742_749 := zltn hg BK742; have NB749_742 := zgtn hg BK742; replace BK742 := zbb BK742 hb; have NB743_749 := zltn hg BK743; have NB749_743 := zgtn hg BK743; replace BK743 := zbb BK743 hb; clear hb hbox hg; have hnb14 := NB749_741.out; have hnc14 := NB741_749.out; have hnb15 := NB749_742.out; have hnc15 := NB742_749.out; have hnb16 := NB749_743.out; have hnc16 := NB743_749.out; have hcz17_0 := zh BK749; have hcz17_1 := zh1 BK749; have hfz17_0 := zfr BK749 0; have hfz17_1 := zfr BK749 1; obtain ⟨Ao18, co18, eo18⟩ := Kd.N_slice HO747.out; subst eo18))
 (try simp only [Act.put, List.setIfInBounds_toArray, List.set_cons_zero, List.set_cons_succ])
 go_cut [26] (fun v26 wc => ∃ (kq : Nat) (x26_4 : Bool), v26 = .bool x26_4 ∧ Aside0 (spec_ValPut.j0 kq l1 x26_4 a0_0 l0_1 a2_0 l2_1 t744 t745 = some (r1, r2, r3)) ∧ Aside0 (kq ≤ k) ∧ Aside0 (Kd.N k25 25 wc w.heap.size (fun k_ => (w.heap.size ≤ k_) ∧ k_ ≠ gb741 ∧ k_ ≠ gb742 ∧ k_ ≠ gb743 ∧ k_ ≠ gb749) (.slice Ao18 t745.length co18) t745) ∧ Aside0 (wc.heap[gb741]? = some (.cells #[.int .i64 a0_0, (.slice A0_1 l0_1.length c0_1)] 25 (0, 0))) ∧ Aside0 (wc.heap[gb742]? = some (.cells #[.int .i64 a2_0, (.slice A2_1 l2_1.length c2_1)] 25 (0, 0))) ∧ Aside0 (wc.heap[gb743]? = some (.cells #[.int .i64 0, (.slice none 0 0)] 25 (0, 0))) ∧ Aside0 (wc.heap[gb749]? = some (.cells #[.int .i64 t744, (.slice Ao18 t745.length co18)] 25 (0, 0))) ∧ Aside0 (Below w.heap.size w wc))
 case first =>
  have H := HC5.out
  clear HC5
  by_cases c19 : t748 = true
  ·subst c19
   rw [if_pos rfl] at H
   obtain ⟨t750, A200, H⟩ := ob H
   have A20 := Aside0.mk A200
   clear A200
   have H' := Aside0.mk H
   clear H
   have hnb21 := NB742_741.out
   have hnc21 := NB741_742.out
   have hnb22 := NB742_743.out
   have hnc22 := NB743_742.out
   have hnb23 := NB742_749.out
   have hnc23 := NB749_742.out
   have hcz24_0 := zh BK742
   have hcz24_1 := zh1 BK742
   have hfz24_0 := zfr BK742 0
   have hfz24_1 := zfr BK742 1
   go_wp2_with (first | (go_at_call 35; (with_reducible refine (spec_l1Any.calls k a2_0 _ _ l2_1 t750 _ ?side1 ?side2 A20.out).mono ?_); (case side1 => exact Kd.C_below HR2_1.out (y5 HB.out GE741.out GE742.out GE743.out GE749.out)); (case side2 => exact HC2_1.out); rintro e w25 ⟨rfl, hb⟩; replace HO747 := Aside0.mk (Kd.N_below (by (with_reducible repeat (first | apply Kd.N_alloc | apply Kd.N_drewN | apply Kd.N_drew)); exact (Kd.N_mono (Kd.N_far (p := ⟨gb749, 1, none⟩) (Kd.N_far (p := ⟨gb749, 0, none⟩) (Kd.N_mono HO747.out (fun k_ hk => (⟨hk, hk.2⟩ : _ ∧ k_ ≠ gb749))) (fun _ hk => hk.2) (.int .i64 t744)) (fun _ hk => hk.2) (.slice Ao18 t745.length co18)) (fun _ h_ => h_.1))) hb); replace BK741 := Aside0.mk (blk_below (g := gb741) (o := .cells #[.int .i64 a0_0, .slice A0_1 l0_1.length c0_1] 25 (0, 0)) (y1 NB741_749.out BK741.out) hb); replace BK742 := Aside0.mk (blk_below (g := gb742) (o := .cells #[.int .i64 a2_0, .slice A2_1 l2_1.length c2_1] 25 (0, 0)) (y1 NB742_749.out BK742.out) hb); replace BK743 := Aside0.mk (blk_below (g := gb743) (o := .cells #[.int .i64 0, .slice none 0 0] 25 (0, 0)) (y1 NB743_749.out BK743.out) hb); replace BK749 := Aside0.mk (blk_below (g := gb749) (o := .cells #[.int .i64 t744, .slice Ao18 t745.length co18] 25 (0, 0)) (by (with_reducible repeat (first | refine blk_drewN ?_ _ | refine blk_drew ?_ | refine blk_alloc ?_ _)); refine blk_put (cs := #[.int .i64 t744, .slice none 0 0]) ?_ 1 _ rfl; (with_reducible repeat (first | refine blk_drewN ?_ _ | refine blk_drew ?_ | refine blk_alloc ?_ _)); apply blk_put (i := 0); (case h => exact y0 BK749.out); (case e => rfl)) hb); replace HB := Aside0.mk (below_step (y5 HB.out GE741.out GE742.out GE743.out GE749.out) hb); (try clear hb); (try clear hb2); (try clear hk); (try clear hi)))
   go_meet
   case rel => exact ⟨_, (!t750), y29, H', ⟨y50⟩, ⟨(y61 HO747.out)⟩, ⟨(y0 BK741.out)⟩, ⟨(y0 BK742.out)⟩, ⟨(y0 BK743.out)⟩, ⟨(y0 BK749.out)⟩, ⟨(y5 HB.out GE741.out GE742.out GE743.out GE749.out)⟩⟩
  ·replace c19 := Bool.eq_false_iff.mpr c19
   subst c19
   rw [if_neg (show ¬ (false = true) by decide)] at H
   have H' := Aside0.mk H
   clear H
   go_wp2
   go_meet
   case rel => exact ⟨_, (true), y29, H', ⟨y50⟩, ⟨(by (with_reducible repeat (first | apply Kd.N_alloc | apply Kd.N_drewN | apply Kd.N_drew)); exact Kd.N_mono (Kd.N_far (p := ⟨gb749, 1, none⟩) (Kd.N_far (p := ⟨gb749, 0, none⟩) (Kd.N_mono HO747.out (fun k_ hk => (⟨hk, hk.2⟩ : _ ∧ k_ ≠ gb749))) (fun _ hk => hk.2) (.int .i64 t744)) (fun _ hk => hk.2) (.slice Ao18 t745.length co18)) (fun _ hk => ⟨hk.1.1.1, ⟨hk.1.1.2.1, ⟨hk.1.1.2.2.1, ⟨hk.1.1.2.2.2, hk.1.2⟩⟩⟩⟩))⟩, ⟨(y1 NB741_749.out BK741.out)⟩, ⟨(y1 NB742_749.out BK742.out)⟩, ⟨(y1 NB743_749.out BK743.out)⟩, ⟨(by (with_reducible repeat (first | refine blk_drewN ?_ _ | refine blk_drew ?_ | refine blk_alloc ?_ _)); refine blk_put (cs := #[.int .i64 t744, .slice none 0 0]) ?_ 1 _ rfl; (with_reducible repeat (first | refine blk_drewN ?_ _ | refine blk_drew ?_ | refine blk_alloc ?_ _)); refine blk_put (cs := #[.int .i64 0, .slice none 0 0]) ?_ 0 _ rfl; (with_reducible repeat (first | refine blk_drewN ?_ _ | refine blk_drew ?_ | refine blk_alloc ?_ _)); exact BK749.out)⟩, ⟨(y5 HB.out GE741.out GE742.out GE743.out GE749.out)⟩⟩
 case rest =>
  clear HC5
  try clear c1
  try clear c2
  try clear p2
  try clear c9
  try clear c10
  try clear c13
  try clear c14
  try clear c15
  try clear c16
  try clear c19
  try clear c21
  try clear c22
  try clear c23
  try clear hcz11_0
  try clear hcz11_1
  try clear hcz17_0
  try clear hcz17_1
  try clear hcz24_0
  try clear hcz24_1
  try clear hfz11_0
  try clear hfz11_1
  try clear hfz17_0
  try clear hfz17_1
  try clear hfz24_0
  try clear hfz24_1
  obtain ⟨kq, x26_4, rfl, HA, HJ4, HO_750001, BK741, BK742, BK743, BK749, HB⟩ := hcut
  cases kq with
  | zero => exact absurd HA.out (by simp [spec_ValPut.j0])
  | succ kj4 =>
   have H := HA.out
   clear HA
   simp only [spec_ValPut.j0] at H
   by_cases c26 : x26_4 = true
   ·subst c26
    rw [if_pos rfl] at H
    simp only [Option.some.injEq, Prod.mk.injEq] at H
    obtain ⟨rfl, rfl, rfl⟩ := H
    have hnb27 := NB743_741.out
    have hnc27 := NB741_743.out
    have hnb28 := NB743_742.out
    have hnc28 := NB742_743.out
    have hnb29 := NB743_749.out
    have hnc29 := NB749_743.out
    have hcz30_0 := zh BK743
    have hcz30_1 := zh1 BK743
    have hfz30_0 := zfr BK743 0
    have hfz30_1 := zfr BK743 1
    go_wp2
    refine bodyPost_ret (results_ct rfl _ _ gb743 25 #[.int .i64 0, .slice none 0 0] (0, 0) _ rfl (by (with_reducible repeat (first | refine blk_drewN ?_ _ | refine blk_drew ?_ | refine blk_alloc ?_ _)); refine blk_put (cs := #[.int .i64 0, .slice none 0 0]) ?_ 1 _ rfl; (with_reducible repeat (first | refine blk_drewN ?_ _ | refine blk_drew ?_ | refine blk_alloc ?_ _)); apply blk_put (i := 0); (case h => exact y0 BK743.out); (case e => rfl)) Try.underlying25 rfl (by kernel_rfl)) rfl ?_
    exact ⟨_, y15, y38, (y5 HB.out GE741.out GE742.out GE743.out GE749.out)⟩
   ·replace c26 := Bool.eq_false_iff.mpr c26
    subst c26
    rw [if_neg (show ¬ (false = true) by decide)] at H
    obtain ⟨⟨t751, t754⟩, A310, H⟩ := ob H
    have A31 := Aside0.mk A310
    clear A310
    obtain ⟨⟨t756, t759⟩, A320, H⟩ := ob H
    have A32 := Aside0.mk A320
    clear A320
    obtain ⟨t761, A330, H⟩ := ob H
    have A33 := Aside0.mk A330
    clear A330
    have HZ34 := Aside0.mk H
    clear H
    have hnb35 := NB749_741.out
    have hnc35 := NB741_749.out
    have hnb36 := NB749_742.out
    have hnc36 := NB742_749.out
    have hnb37 := NB749_743.out
    have hnc37 := NB743_749.out
    have hcz38_0 := zh BK749
    have hcz38_1 := zh1 BK749
    have hfz38_0 := zfr BK749 0
    have hfz38_1 := zfr BK749 1
    go_upto_if 41 with (first | ((with_reducible refine gate_callee (f := 49) rfl ?_); refine goesL_ (some 30) rfl rfl Try.func49 (by kernel_rfl) rfl #[.agg #[.int .i64 t744, .slice Ao18 t745.length co18], .int .i64 4] rfl y9 ?_; (with_reducible refine (spec_l1Of.calls kj4 t744 _ _ t745 4 t751 t754 _ ?side1 ?side2 A31.out).mono ?_); (case side1 => exact y36 HO_750001.out); (case side2 => exact (Kd.N_reads' HO_750001.out).2.1); rintro e w39 ⟨v752, rfl, ho0, hb⟩; refine ⟨_, rfl, ?_⟩; have HO753 := Aside0.mk (Kd.N_lower (Kd.N_mono (ok' := fun k_ => (w.heap.size ≤ k_) ∧ some k_ ≠ (.slice Ao18 t745.length co18 : Value).ownBlock ∧ k_ ≠ gb741 ∧ k_ ≠ gb742 ∧ k_ ≠ gb743 ∧ k_ ≠ gb749) (Kd.R_N (Kd.R_bound ho0)) (fun k_ hk_ => ⟨(Nat.le_trans (below_size (y5 HB.out GE741.out GE742.out GE743.out GE749.out)) hk_.2.1), (Kd.fresh' (Kd.N_lt (y2 HO_750001.out)) k_ hk_.2.1), (Kd.freshB (g := gb741) (o := .cells #[.int .i64 a0_0, .slice A0_1 l0_1.length c0_1] 25 (0, 0)) (y0 BK741.out) k_ hk_.2.1), (Kd.freshB (g := gb742) (o := .cells #[.int .i64 a2_0, .slice A2_1 l2_1.length c2_1] 25 (0, 0)) (y0 BK742.out) k_ hk_.2.1), (Kd.freshB (g := gb743) (o := .cells #[.int .i64 0, .slice none 0 0] 25 (0, 0)) (y0 BK743.out) k_ hk_.2.1), (Kd.freshB (g := gb749) (o := .cells #[.int .i64 t744, .slice Ao18 t745.length co18] 25 (0, 0)) (y0 BK749.out) k_ hk_.2.1)⟩)) (below_size (y5 HB.out GE741.out GE742.out GE743.out GE749.out))); replace HO_750001 := Aside0.mk (Kd.N_elder' (y2 HO_750001.out) (Kd.R_base ho0) hb); replace BK741 := zbb BK741 hb; replace BK742 := zbb BK742 hb; replace BK743 := zbb BK743 hb; replace BK749 := zbb BK749 hb; replace HB := Aside0.mk (below_step (y5 HB.out GE741.out GE742.out GE743.out GE749.out) hb); (try clear hb); (try clear hb2); (try clear hk); (try clear hi); (try clear ho0)) | ((with_reducible refine gate_dst (N := 10) rfl ?_); refine zbx 10 #[.slice none 0 0] 50 ?_; intro gb755 hg w40 hbox hb; replace HO_750001 := Aside0.mk (Kd.N_below (Kd.N_elderB (y2 HO_750001.out) gb755 (Nat.le_of_eq hg.symm)) hb); replace HO753 := Aside0.mk (Kd.N_below (Kd.N_elderB (y2 HO753.out) gb755 (Nat.le_of_eq hg.symm)) hb); have BK755 := Aside0.mk hbox; have GW755 := Aside0.mk ((y27 hg HB.out GE741.out GE742.out GE743.out GE749.out : w.heap.size ≤ gb755)); have GE755 := Aside0.mk ((y27 hg HB.out GE741.out GE742.out GE743.out GE749.out : w.heap.size ≤ gb755)); replace HB := Aside0.mk (below_step (y5 HB.out GE741.out GE742.out GE743.out GE749.out) hb); have NB741_755 := zltn hg BK741; have NB755_741 := zgtn hg BK741; replace BK741 := zbb BK741 hb; have NB742_755 := zltn hg BK742; have NB755_742 := zgtn hg BK742; replace BK742 := zbb BK742 hb; have NB743_755 := zltn hg BK743; have NB755_743 := zgtn hg BK743; replace BK743 := zbb BK743 hb; have NB749_755 := zltn hg BK749; have NB755_749 := zgtn hg BK749; replace BK749 := zbb BK749 hb; clear hb hbox hg; obtain ⟨Ao41, co41, eo41⟩ := Kd.N_slice HO753.out; subst eo41; have hnb42 := NB755_741.out; have hnc42 := NB741_755.out; have hnb43 := NB755_742.out; have hnc43 := NB742_755.out; have hnb44 := NB755_743.out; have hnc44 := NB743_755.out; have hnb45 := NB755_749.out; have hnc45 := NB749_755.out; have hcz46_0 := zh BK755; have hfz46_0 := zfr BK755 0; have hnb47 := NB742_741.out; have hnc47 := NB741_742.out; have hnb48 := NB742_743.out; have hnc48 := NB743_742.out; have hcz49_0 := zh BK742; have hcz49_1 := zh1 BK742; have hfz49_0 := zfr BK742 0; have hfz49_1 := zfr BK742 1) | ((with_reducible refine gate_callee (f := 49) rfl ?_); refine goesL_ (some 35) rfl rfl Try.func49 (by kernel_rfl) rfl #[.agg #[.int .i64 a2_0, .slice A2_1 l2_1.length c2_1], .int .i64 4] rfl y9 ?_; (with_reducible refine (spec_l1Of.calls kj4 a2_0 _ _ l2_1 4 t756 t759 _ ?side1 ?side2 A32.out).mono ?_); (case side1 => exact Kd.C_below HR2_1.out (y14 HB.out GE741.out GE742.out GE743.out GE749.out GE755.out)); (case side2 => exact HC2_1.out); rintro e w50 ⟨v757, rfl, ho0, hb⟩; refine ⟨_, rfl, ?_⟩; have HO758 := Aside0.mk (Kd.N_lower (Kd.N_mono (ok' := fun k_ => (w.heap.size ≤ k_) ∧ some k_ ≠ (.slice Ao18 t745.length co18 : Value).ownBlock ∧ some k_ ≠ (.slice Ao41 t751.length co41 : Value).ownBlock ∧ k_ ≠ gb741 ∧ k_ ≠ gb742 ∧ k_ ≠ gb743 ∧ k_ ≠ gb749 ∧ k_ ≠ gb755) (Kd.R_N (Kd.R_bound ho0)) (fun k_ hk_ => ⟨(Nat.le_trans (below_size (y14 HB.out GE741.out GE742.out GE743.out GE749.out GE755.out)) hk_.2.1), (Kd.fresh' (Kd.N_lt (by (with_reducible repeat (first | apply Kd.N_alloc | apply Kd.N_drewN | apply Kd.N_drew)); exact (Kd.N_mono (Kd.N_far (p := ⟨gb755, 0, none⟩) (Kd.N_mono HO_750001.out (fun k_ hk => (⟨hk, hk.2⟩ : _ ∧ k_ ≠ gb755))) (fun _ hk => hk.2) (.slice Ao41 t751.length co41)) (fun _ h_ => h_.1)))) k_ hk_.2.1), (Kd.fresh' (Kd.N_lt (by (with_reducible repeat (first | apply Kd.N_alloc | apply Kd.N_drewN | apply Kd.N_drew)); exact (Kd.N_mono (Kd.N_far (p := ⟨gb755, 0, none⟩) (Kd.N_mono HO753.out (fun k_ hk => (⟨hk, hk.2⟩ : _ ∧ k_ ≠ gb755))) (fun _ hk => hk.2) (.slice Ao41 t751.length co41)) (fun _ h_ => h_.1)))) k_ hk_.2.1), (Kd.freshB (g := gb741) (o := .cells #[.int .i64 a0_0, .slice A0_1 l0_1.length c0_1] 25 (0, 0)) (y13 NB741_755.out BK741.out) k_ hk_.2.1), (Kd.freshB (g := gb742) (o := .cells #[.int .i64 a2_0, .slice A2_1 l2_1.length c2_1] 25 (0, 0)) (y13 NB742_755.out BK742.out) k_ hk_.2.1), (Kd.freshB (g := gb743) (o := .cells #[.int .i64 0, .slice none 0 0] 25 (0, 0)) (y13 NB743_755.out BK743.out) k_ hk_.2.1), (Kd.freshB (g := gb749) (o := .cells #[.int .i64 t744, .slice Ao18 t745.length co18] 25 (0, 0)) (y13 NB749_755.out BK749.out) k_ hk_.2.1), (Kd.freshB (g := gb755) (o := .cells #[.slice Ao41 t751.length co41] 50 (0, 0)) (by (with_reducible repeat (first | refine blk_drewN ?_ _ | refine blk_drew ?_ | refine blk_alloc ?_ _)); apply blk_put (i := 0); (case h => exact y0 BK755.out); (case e => rfl)) k_ hk_.2.1)⟩)) (below_size (y14 HB.out GE741.out GE742.out GE743.out GE749.out GE755.out))); replace HO_750001 := Aside0.mk (Kd.N_elder' (by (with_reducible repeat (first | apply Kd.N_alloc | apply Kd.N_drewN | apply Kd.N_drew)); exact (Kd.N_mono (Kd.N_far (p := ⟨gb755, 0, none⟩) (Kd.N_mono HO_750001.out (fun k_ hk => (⟨hk, hk.2⟩ : _ ∧ k_ ≠ gb755))) (fun _ hk => hk.2) (.slice Ao41 t751.length co41)) (fun _ h_ => h_.1))) (Kd.R_base ho0) hb); replace HO753 := Aside0.mk (Kd.N_elder' (by (with_reducible repeat (first | apply Kd.N_alloc | apply Kd.N_drewN | apply Kd.N_drew)); exact (Kd.N_mono (Kd.N_far (p := ⟨gb755, 0, none⟩) (Kd.N_mono HO753.out (fun k_ hk => (⟨hk, hk.2⟩ : _ ∧ k_ ≠ gb755))) (fun _ hk => hk.2) (.slice Ao41 t751.length co41)) (fun _ h_ => h_.1))) (Kd.R_base ho0) hb); replace BK741 := zbf BK741 NB741_755 hb; replace BK742 := zbf BK742 NB742_755 hb; replace BK743 := zbf BK743 NB743_755 hb; replace BK749 := zbf BK749 NB749_755 hb; replace BK755 := Aside0.mk (blk_below (g := gb755) (o := .cells #[.slice Ao41 t751.length co41] 50 (0, 0)) (by (with_reducible repeat (first | refine blk_drewN ?_ _ | refine blk_drew ?_ | refine blk_alloc ?_ _)); apply blk_put (i := 0); (case h => exact y0 BK755.out); (case e => rfl)) hb); replace HB := Aside0.mk (below_step (y14 HB.out GE741.out GE742.out GE743.out GE749.out GE755.out) hb); (try clear hb); (try clear hb2); (try clear hk); (try clear hi); (try clear ho0)) | ((with_reducible refine gate_dst (N := 12) rfl ?_); refine zbx 12 #[.slice none 0 0] 50 ?_; intro gb760 hg w51 hbox hb; replace HO_750001 := Aside0.mk (Kd.N_below (Kd.N_elderB (y2 HO_750001.out) gb760 (Nat.le_of_eq hg.symm)) hb); replace HO753 := Aside0.mk (Kd.N_below (Kd.N_elderB (y2 HO753.out) gb760 (Nat.le_of_eq hg.symm)) hb); replace HO758 := Aside0.mk (Kd.N_below (Kd.N_elderB (y2 HO758.out) gb760 (Nat.le_of_eq hg.symm)) hb); have BK760 := Aside0.mk hbox; have GW760 := Aside0.mk ((y30 hg HB.out GE741.out GE742.out GE743.out GE749.out GE755.out : w.heap.size ≤ gb760)); have GE760 := Aside0.mk ((y30 hg HB.out GE741.out GE742.out GE743.out GE749.out GE755.out : w.heap.size ≤ gb760)); replace HB := Aside0.mk (below_step (y14 HB.out GE741.out GE742.out GE743.out GE749.out GE755.out) hb); have NB741_760 := zltn hg BK741; have NB760_741 := zgtn hg BK741; replace BK741 := zbb BK741 hb; have NB742_760 := zltn hg BK742; have NB760_742 := zgtn hg BK742; replace BK742 := zbb BK742 hb; have NB743_760 := zltn hg BK743; have NB760_743 := zgtn hg BK743; replace BK743 := zbb BK743 hb; have NB749_760 := zltn hg BK749; have NB760_749 := zgtn hg BK749; replace BK749 := zbb BK749 hb; have NB755_760 := zltn hg BK755; have NB760_755 := zgtn hg BK755; replace BK755 := zbb BK755 hb; clear hb hbox hg; obtain ⟨Ao52, co52, eo52⟩ := Kd.N_slice HO758.out; subst eo52; have hnb53 := NB760_741.out; have hnc53 := NB741_760.out; have hnb54 := NB760_742.out; have hnc54 := NB742_760.out; have hnb55 := NB760_743.out; have hnc55 := NB743_760.out; have hnb56 := NB760_749.out; have hnc56 := NB749_760.out; have hnb57 := NB760_755.out; have hnc57 := NB755_760.out; have hcz58_0 := zh BK760; have hfz58_0 := zfr BK760 0; have hcz59_0 := zh BK755; have hfz59_0 := zfr BK755 0) | ((with_reducible refine gate_callee (f := 50) rfl ?_); refine goesL_ (some 40) rfl rfl Try.func50 (by kernel_rfl) rfl #[.agg #[.slice Ao41 t751.length co41], .agg #[.slice Ao52 t756.length co52]] rfl y9 ?_; (with_reducible refine (spec_l1Same.calls kj4 _ _ t751 _ _ t756 t761 _ ?side1 ?side2 ?side3 ?side4 A33.out).mono ?_); (case side1 => refine (Kd.N_reads' (e := 50) (base := w.heap.size) (ok := fun k_ => (((((w.heap.size ≤ k_) ∧ (some k_ ≠ (.slice Ao18 t745.length co18 : Value).ownBlock ∧ (k_ ≠ gb741 ∧ (k_ ≠ gb742 ∧ (k_ ≠ gb743 ∧ k_ ≠ gb749))))) ∧ k_ ≠ gb755) ∧ some k_ ≠ (.slice Ao52 t756.length co52 : Value).ownBlock) ∧ k_ ≠ gb760)) (n := t751.length) (c := co41) ?_).2.2; exact (by (with_reducible repeat (first | apply Kd.N_alloc | apply Kd.N_drewN | apply Kd.N_drew)); exact (Kd.N_mono (Kd.N_far (p := ⟨gb760, 0, none⟩) (Kd.N_mono HO753.out (fun k_ hk => (⟨hk, hk.2⟩ : _ ∧ k_ ≠ gb760))) (fun _ hk => hk.2) (.slice Ao52 t756.length co52)) (fun _ h_ => h_.1)))); (case side2 => exact (Kd.N_reads' HO753.out).2.1); (case side3 => refine (Kd.N_reads' (e := 50) (base := w.heap.size) (ok := fun k_ => (((w.heap.size ≤ k_) ∧ (some k_ ≠ (.slice Ao18 t745.length co18 : Value).ownBlock ∧ (some k_ ≠ (.slice Ao41 t751.length co41 : Value).ownBlock ∧ (k_ ≠ gb741 ∧ (k_ ≠ gb742 ∧ (k_ ≠ gb743 ∧ (k_ ≠ gb749 ∧ k_ ≠ gb755))))))) ∧ k_ ≠ gb760)) (n := t756.length) (c := co52) ?_).2.2; exact (by (with_reducible repeat (first | apply Kd.N_alloc | apply Kd.N_drewN | apply Kd.N_drew)); exact (Kd.N_mono (Kd.N_far (p := ⟨gb760, 0, none⟩) (Kd.N_mono HO758.out (fun k_ hk => (⟨hk, hk.2⟩ : _ ∧ k_ ≠ gb760))) (fun _ hk => hk.2) (.slice Ao52 t756.length co52)) (fun _ h_ => h_.1)))); (case side4 => exact (Kd.N_reads' HO758.out).2.1); rintro e w60 ⟨rfl, hb⟩; refine ⟨_, rfl, ?_⟩; replace HO_750001 := Aside0.mk (Kd.N_below (by (with_reducible repeat (first | apply Kd.N_alloc | apply Kd.N_drewN | apply Kd.N_drew)); exact (Kd.N_mono (Kd.N_far (p := ⟨gb760, 0, none⟩) (Kd.N_mono HO_750001.out (fun k_ hk => (⟨hk, hk.2⟩ : _ ∧ k_ ≠ gb760))) (fun _ hk => hk.2) (.slice Ao52 t756.length co52)) (fun _ h_ => h_.1))) hb); replace HO753 := Aside0.mk (Kd.N_below (by (with_reducible repeat (first | apply Kd.N_alloc | apply Kd.N_drewN | apply Kd.N_drew)); exact (Kd.N_mono (Kd.N_far (p := ⟨gb760, 0, none⟩) (Kd.N_mono HO753.out (fun k_ hk => (⟨hk, hk.2⟩ : _ ∧ k_ ≠ gb760))) (fun _ hk => hk.2) (.slice Ao52 t756.length co52)) (fun _ h_ => h_.1))) hb); replace HO758 := Aside0.mk (Kd.N_below (by (with_reducible repeat (first | apply Kd.N_alloc | apply Kd.N_drewN | apply Kd.N_drew)); exact (Kd.N_mono (Kd.N_far (p := ⟨gb760, 0, none⟩) (Kd.N_mono HO758.out (fun k_ hk => (⟨hk, hk.2⟩ : _ ∧ k_ ≠ gb760))) (fun _ hk => hk.2) (.slice Ao52 t756.length co52)) (fun _ h_ => h_.1))) hb); replace BK741 := zbf BK741 NB741_760 hb; replace BK742 := zbf BK742 NB742_760 hb; replace BK743 := zbf BK743 NB743_760 hb; replace BK749 := zbf BK749 NB749_760 hb; replace BK755 := zbf BK755 NB755_760 hb; replace BK760 := Aside0.mk (blk_below (g := gb760) (o := .cells #[.slice Ao52 t756.length co52] 50 (0, 0)) (by (with_reducible repeat (first | refine blk_drewN ?_ _ | refine blk_drew ?_ | refine blk_alloc ?_ _)); apply blk_put (i := 0); (case h => exact y0 BK760.out); (case e => rfl)) hb); replace HB := Aside0.mk (below_step (y17 HB.out GE741.out GE742.out GE743.out GE749.out GE755.out GE760.out) hb); (try clear hb); (try clear hb2); (try clear hk); (try clear hi)))
    (try simp only [Act.put, List.setIfInBounds_toArray, List.set_cons_zero, List.set_cons_succ])
    have H := HZ34.out
    clear HZ34
    by_cases c61 : t761 = true
    ·subst c61
     rw [if_pos rfl] at H
     obtain ⟨⟨t762, t763⟩, A620, H⟩ := ob H
     have A62 := Aside0.mk A620
     clear A620
     simp only [Option.some.injEq, Prod.mk.injEq] at H
     obtain ⟨rfl, rfl, rfl⟩ := H
     have hnb63 := NB741_742.out
     have hnc63 := NB742_741.out
     have hnb64 := NB741_743.out
     have hnc64 := NB743_741.out
     have hnb65 := NB741_749.out
     have hnc65 := NB749_741.out
     have hnb66 := NB741_755.out
     have hnc66 := NB755_741.out
     have hnb67 := NB741_760.out
     have hnc67 := NB760_741.out
     have hcz68_0 := zh BK741
     have hcz68_1 := zh1 BK741
     have hfz68_0 := zfr BK741 0
     have hfz68_1 := zfr BK741 1
     have hnb69 := NB742_743.out
     have hnc69 := NB743_742.out
     have hnb70 := NB742_749.out
     have hnc70 := NB749_742.out
     have hnb71 := NB742_755.out
     have hnc71 := NB755_742.out
     have hnb72 := NB742_760.out
     have hnc72 := NB760_742.out
     have hcz73_0 := zh BK742
     have hcz73_1 := zh1 BK742
     have hfz73_0 := zfr BK742 0
     have hfz73_1 := zfr BK742 1
     go_wp2_with (first | ((with_reducible refine gate_callee (f := 51) rfl ?_); refine goesL_ (some 46) rfl rfl Try.func51 (by kernel_rfl) rfl #[.agg #[.int .i64 a0_0, .slice A0_1 l0_1.length c0_1], .slice A1 l1.length c1, .agg #[.int .i64 a2_0, .slice A2_1 l2_1.length c2_1]] rfl y9 ?_; (with_reducible refine (spec_l1Put.calls kj4 a0_0 _ _ l0_1 _ _ l1 a2_0 _ _ l2_1 t762 t763 _ ?side1 ?side2 ?side3 ?side4 ?side5 ?side6 A62.out).mono ?_); (case side1 => exact y18 HR0_1.out HB.out); (case side2 => exact HC0_1.out); (case side3 => exact y18 HR1.out HB.out); (case side4 => exact HC1.out); (case side5 => exact y18 HR2_1.out HB.out); (case side6 => exact HC2_1.out); rintro e w74 ⟨v764, rfl, ho0, hb⟩; refine ⟨_, rfl, ?_⟩; have HO765 := Aside0.mk (Kd.N_lower (Kd.N_mono (ok' := fun k_ => (w.heap.size ≤ k_) ∧ some k_ ≠ (.slice Ao18 t745.length co18 : Value).ownBlock ∧ some k_ ≠ (.slice Ao41 t751.length co41 : Value).ownBlock ∧ some k_ ≠ (.slice Ao52 t756.length co52 : Value).ownBlock ∧ k_ ≠ gb741 ∧ k_ ≠ gb742 ∧ k_ ≠ gb743 ∧ k_ ≠ gb749 ∧ k_ ≠ gb755 ∧ k_ ≠ gb760) ho0 (fun k_ hk_ => ⟨(Nat.le_trans (below_size (y17 HB.out GE741.out GE742.out GE743.out GE749.out GE755.out GE760.out)) hk_), (Kd.fresh' (Kd.N_lt (y2 HO_750001.out)) k_ hk_), (Kd.fresh' (Kd.N_lt (y2 HO753.out)) k_ hk_), (Kd.fresh' (Kd.N_lt (y2 HO758.out)) k_ hk_), (Kd.freshB (g := gb741) (o := .cells #[.int .i64 a0_0, .slice A0_1 l0_1.length c0_1] 25 (0, 0)) (y0 BK741.out) k_ hk_), (Kd.freshB (g := gb742) (o := .cells #[.int .i64 a2_0, .slice A2_1 l2_1.length c2_1] 25 (0, 0)) (y0 BK742.out) k_ hk_), (Kd.freshB (g := gb743) (o := .cells #[.int .i64 0, .slice none 0 0] 25 (0, 0)) (y0 BK743.out) k_ hk_), (Kd.freshB (g := gb749) (o := .cells #[.int .i64 t744, .slice Ao18 t745.length co18] 25 (0, 0)) (y0 BK749.out) k_ hk_), (Kd.freshB (g := gb755) (o := .cells #[.slice Ao41 t751.length co41] 50 (0, 0)) (y0 BK755.out) k_ hk_), (Kd.freshB (g := gb760) (o := .cells #[.slice Ao52 t756.length co52] 50 (0, 0)) (y0 BK760.out) k_ hk_)⟩)) (below_size (y17 HB.out GE741.out GE742.out GE743.out GE749.out GE755.out GE760.out))); replace HO_750001 := Aside0.mk (Kd.N_elder' (y2 HO_750001.out) (Kd.N_base ho0) hb); replace HO753 := Aside0.mk (Kd.N_elder' (y2 HO753.out) (Kd.N_base ho0) hb); replace HO758 := Aside0.mk (Kd.N_elder' (y2 HO758.out) (Kd.N_base ho0) hb); replace BK741 := zbb BK741 hb; replace BK742 := zbb BK742 hb; replace BK743 := zbb BK743 hb; replace BK749 := zbb BK749 hb; replace BK755 := zbb BK755 hb; replace BK760 := zbb BK760 hb; replace HB := Aside0.mk (below_step (y17 HB.out GE741.out GE742.out GE743.out GE749.out GE755.out GE760.out) hb); (try clear hb); (try clear hb2); (try clear hk); (try clear hi); (try clear ho0); have hnb75 := NB743_749.out; have hnc75 := NB749_743.out; have hnb76 := NB743_755.out; have hnc76 := NB755_743.out; have hnb77 := NB743_760.out; have hnc77 := NB760_743.out; have hcz78_0 := zh BK743; have hcz78_1 := zh1 BK743; have hfz78_0 := zfr BK743 0; have hfz78_1 := zfr BK743 1; obtain ⟨Ao79, co79, eo79⟩ := Kd.N_slice HO765.out; subst eo79))
     refine bodyPost_ret (results_ct rfl _ _ gb743 25 #[.int .i64 t762, .slice Ao79 t763.length co79] (0, 0) _ rfl (by (with_reducible repeat (first | refine blk_drewN ?_ _ | refine blk_drew ?_ | refine blk_alloc ?_ _)); refine blk_put (cs := #[.int .i64 t762, .slice none 0 0]) ?_ 1 _ rfl; (with_reducible repeat (first | refine blk_drewN ?_ _ | refine blk_drew ?_ | refine blk_alloc ?_ _)); apply blk_put (i := 0); (case h => exact y0 BK743.out); (case e => rfl)) Try.underlying25 rfl (by kernel_rfl)) rfl ?_
     exact ⟨_, y15, (by (with_reducible repeat (first | apply Kd.N_alloc | apply Kd.N_drewN | apply Kd.N_drew)); exact Kd.N_mono (Kd.N_far (p := ⟨gb743, 1, none⟩) (Kd.N_far (p := ⟨gb743, 0, none⟩) (Kd.N_mono HO765.out (fun k_ hk => (⟨hk, hk.2.2.2.2.2.2.1⟩ : _ ∧ k_ ≠ gb743))) (fun _ hk => hk.2) (.int .i64 t762)) (fun _ hk => hk.2) (.slice Ao79 t763.length co79)) (fun _ hk => hk.1.1)), (y17 HB.out GE741.out GE742.out GE743.out GE749.out GE755.out GE760.out)⟩
    ·replace c61 := Bool.eq_false_iff.mpr c61
     subst c61
     rw [if_neg (show ¬ (false = true) by decide)] at H
     simp only [Option.some.injEq, Prod.mk.injEq] at H
     obtain ⟨rfl, rfl, rfl⟩ := H
     have hnb80 := NB743_741.out
     have hnc80 := NB741_743.out
     have hnb81 := NB743_742.out
     have hnc81 := NB742_743.out
     have hnb82 := NB743_749.out
     have hnc82 := NB749_743.out
     have hnb83 := NB743_755.out
     have hnc83 := NB755_743.out
     have hnb84 := NB743_760.out
     have hnc84 := NB760_743.out
     have hcz85_0 := zh BK743
     have hcz85_1 := zh1 BK743
     have hfz85_0 := zfr BK743 0
     have hfz85_1 := zfr BK743 1
     go_wp2
     refine bodyPost_ret (results_ct rfl _ _ gb743 25 #[.int .i64 0, .slice none 0 0] (0, 0) _ rfl (by (with_reducible repeat (first | refine blk_drewN ?_ _ | refine blk_drew ?_ | refine blk_alloc ?_ _)); refine blk_put (cs := #[.int .i64 0, .slice none 0 0]) ?_ 1 _ rfl; (with_reducible repeat (first | refine blk_drewN ?_ _ | refine blk_drew ?_ | refine blk_alloc ?_ _)); apply blk_put (i := 0); (case h => exact y0 BK743.out); (case e => rfl)) Try.underlying25 rfl (by kernel_rfl)) rfl ?_
     exact ⟨_, y15, y38, (y17 HB.out GE741.out GE742.out GE743.out GE749.out GE755.out GE760.out)⟩
end Go.Proofs.Ythfflieeifakdaa.PA
end
section
namespace Go.Proofs.Ythfflieeifakdaa.PA
open Go.RowKit Go.Proofs.YthfflieeifakdaaW.PrintWords Go.Proofs.YthfflieeifakdaaW.PrintLast Go.Proofs.YthfflieeifakdaaW.PrintMore
attribute [local go_sem] max2_int min2_int max_two min_two max_three min_three max_four min_four
set_option linter.unusedVariables false
set_option linter.unusedSimpArgs false
mutual
def laws_FnValOther.j0 : Nat → List Int → List Int → Bool → Option (Bool)
 | 0, _, _, _ => none
 | k + 1, x0, x1, x25 => if x25 = true then (some true) else ((spec_DrawValPut.f k x0).bind fun bt818 => ((spec_ValPut.f k bt818.1 bt818.2.1 bt818.2.2.1 bt818.2.2.2.1 bt818.2.2.2.2).bind fun bt831 => ((impl_ValPut.f k bt818.1 bt818.2.1 bt818.2.2.1 bt818.2.2.2.1 bt818.2.2.2.2).bind fun bt837 => (if (bt837.2.2 != bt831.2.2) = true then (laws_FnValOther.j1 k x1 bt818.2.2.1 bt831.2.2 bt837.2.2 true bt818.1 bt818.2.1 bt831.1 bt831.2.1 bt837.1 bt837.2.1) else ((laws_lhVal.f k bt837.1 bt837.2.1 bt831.1 bt831.2.1).bind fun t843 => (if t843 = true then (if bt837.2.2 = true then (laws_FnValOther.j1 k x1 bt818.2.2.1 bt831.2.2 bt837.2.2 ((bt818.2.2.1.length : Int) == 0) bt818.1 bt818.2.1 bt831.1 bt831.2.1 bt837.1 bt837.2.1) else (laws_FnValOther.j1 k x1 bt818.2.2.1 bt831.2.2 bt837.2.2 true bt818.1 bt818.2.1 bt831.1 bt831.2.1 bt837.1 bt837.2.1)) else (laws_FnValOther.j1 k x1 bt818.2.2.1 bt831.2.2 bt837.2.2 true bt818.1 bt818.2.1 bt831.1 bt831.2.1 bt837.1 bt837.2.1)))))))
def laws_FnValOther.j1 : Nat → List Int → List Int → Bool → Bool → Bool → Int → List (S25) → Int → List (S25) → Int → List (S25) → Option (Bool)
 | 0, _, _, _, _, _, _, _, _, _, _, _ => none
 | k + 1, x1, x6, x9, x11, x63, x830000, x830001, x837000, x837001, x843000, x843001 => if x63 = true then (if (x11 == x9) = true then ((laws_lhVal.f k x843000 x843001 x837000 x837001).bind fun t844 => (some t844)) else (some false)) else (if (x6.length : Int) = 0 then (none) else ((some (([] : List Int) : List Int)).bind fun y845 => (if 0 ≤ ((x1.length : Int) % (x6.length : Int)) then (if ((x1.length : Int) % (x6.length : Int)) ≤ (x6.length : Int) then ((some (x6.take (((x1.length : Int) % (x6.length : Int)) : Int).toNat : List Int)).bind fun y848 => (if y845.length + y848.length < 17592186044416 then ((some (y845 ++ y848 : List Int)).bind fun y853 => (if ((x1.length : Int) % (x6.length : Int)) < (x6.length : Int) then ((some (([wrap64 (1 - (rd x6 ((x1.length : Int) % (x6.length : Int))))] : List Int) : List Int)).bind fun y857 => (if y853.length + y857.length < 17592186044416 then ((some (y853 ++ y857 : List Int)).bind fun y860 => ((impl_ValAt.f k x830000 x830001 y860).bind fun bt863 => ((impl_ValAt.f k x843000 x843001 y860).bind fun bt869 => (if bt863.2.2 = true then (if bt869.2.2 = true then ((laws_lhVal.f k bt863.1 bt863.2.1 bt869.1 bt869.2.1).bind fun t875 => (some t875)) else (some false)) else (some false))))) else (none))) else (none))) else (none))) else (none)) else (none))))
end
def laws_FnValOther.f (k : Nat) (l0 : List Int) (l1 : List Int) : Option (Bool) := if (l0.length : Int) > 1048576 then (laws_FnValOther.j0 k l0 l1 true) else (laws_FnValOther.j0 k l0 l1 (decide ((l1.length : Int) > 1048576)))
theorem laws_FnValOther.mono_l : ∀ k, (∀ y0 y1 y2, LeO (laws_FnValOther.j0 k y0 y1 y2) (laws_FnValOther.j0 (k + 1) y0 y1 y2)) ∧ (∀ y0 y1 y2 y3 y4 y5 y6 y7 y8 y9 y10, LeO (laws_FnValOther.j1 k y0 y1 y2 y3 y4 y5 y6 y7 y8 y9 y10) (laws_FnValOther.j1 (k + 1) y0 y1 y2 y3 y4 y5 y6 y7 y8 y9 y10))
 | 0 => ⟨fun _ _ _ r h => by simp [laws_FnValOther.j0] at h, fun _ _ _ _ _ _ _ _ _ _ _ r h => by simp [laws_FnValOther.j1] at h⟩
 | k + 1 => by
  obtain ⟨ih0, ih1⟩ := laws_FnValOther.mono_l k
  refine ⟨?_, ?_⟩
  ·intro y0 y1 y2
   unfold laws_FnValOther.j0
   repeat' first
   | (with_reducible exact ih0 _ _ _)
   | (with_reducible exact ih1 _ _ _ _ _ _ _ _ _ _ _)
   | (with_reducible exact impl_ValAt.mono _ _ _ _)
   | (with_reducible exact impl_ValPut.mono _ _ _ _ _ _)
   | (with_reducible exact laws_lhVal.mono _ _ _ _ _)
   | (with_reducible exact spec_DrawValPut.mono _ _)
   | (with_reducible exact spec_ValPut.mono _ _ _ _ _ _)
   | (with_reducible exact LeO.refl _)
   | (with_reducible exact LeO.none _)
   | (with_reducible refine LeO.ite ?_ ?_)
   | (with_reducible refine LeO.bind ?_ (fun _ => ?_))
   | exact ih0 _ _ _
   | exact ih1 _ _ _ _ _ _ _ _ _ _ _
   | exact impl_ValAt.mono _ _ _ _
   | exact impl_ValPut.mono _ _ _ _ _ _
   | exact laws_lhVal.mono _ _ _ _ _
   | exact spec_DrawValPut.mono _ _
   | exact spec_ValPut.mono _ _ _ _ _ _
   | exact LeO.none _
   | refine LeO.ite ?_ ?_
   | refine LeO.bind ?_ (fun _ => ?_)
  ·intro y0 y1 y2 y3 y4 y5 y6 y7 y8 y9 y10
   unfold laws_FnValOther.j1
   repeat' first
   | (with_reducible exact ih0 _ _ _)
   | (with_reducible exact ih1 _ _ _ _ _ _ _ _ _ _ _)
   | (with_reducible exact impl_ValAt.mono _ _ _ _)
   | (with_reducible exact impl_ValPut.mono _ _ _ _ _ _)
   | (with_reducible exact laws_lhVal.mono _ _ _ _ _)
   | (with_reducible exact spec_DrawValPut.mono _ _)
   | (with_reducible exact spec_ValPut.mono _ _ _ _ _ _)
   | (with_reducible exact LeO.refl _)
   | (with_reducible exact LeO.none _)
   | (with_reducible refine LeO.ite ?_ ?_)
   | (with_reducible refine LeO.bind ?_ (fun _ => ?_))
   | exact ih0 _ _ _
   | exact ih1 _ _ _ _ _ _ _ _ _ _ _
   | exact impl_ValAt.mono _ _ _ _
   | exact impl_ValPut.mono _ _ _ _ _ _
   | exact laws_lhVal.mono _ _ _ _ _
   | exact spec_DrawValPut.mono _ _
   | exact spec_ValPut.mono _ _ _ _ _ _
   | exact LeO.none _
   | refine LeO.ite ?_ ?_
   | refine LeO.bind ?_ (fun _ => ?_)
theorem laws_FnValOther.mono : ∀ a0 a1 k, LeO (laws_FnValOther.f k a0 a1) (laws_FnValOther.f (k + 1) a0 a1) := by
 intro a0 a1 k
 obtain ⟨ih0, ih1⟩ := laws_FnValOther.mono_l k
 unfold laws_FnValOther.f
 repeat' first
   | (with_reducible exact ih0 _ _ _)
   | (with_reducible exact ih1 _ _ _ _ _ _ _ _ _ _ _)
   | (with_reducible exact impl_ValAt.mono _ _ _ _)
   | (with_reducible exact impl_ValPut.mono _ _ _ _ _ _)
   | (with_reducible exact laws_lhVal.mono _ _ _ _ _)
   | (with_reducible exact spec_DrawValPut.mono _ _)
   | (with_reducible exact spec_ValPut.mono _ _ _ _ _ _)
   | (with_reducible exact LeO.refl _)
   | (with_reducible exact LeO.none _)
   | (with_reducible refine LeO.ite ?_ ?_)
   | (with_reducible refine LeO.bind ?_ (fun _ => ?_))
   | exact ih0 _ _ _
   | exact ih1 _ _ _ _ _ _ _ _ _ _ _
   | exact impl_ValAt.mono _ _ _ _
   | exact impl_ValPut.mono _ _ _ _ _ _
   | exact laws_lhVal.mono _ _ _ _ _
   | exact spec_DrawValPut.mono _ _
   | exact spec_ValPut.mono _ _ _ _ _ _
   | exact LeO.none _
   | refine LeO.ite ?_ ?_
   | refine LeO.bind ?_ (fun _ => ?_)
def laws_FnValOther.T9 : Bool × List (List Nat × List Nat) := (true, [([], []), ([], []), ([], []), ([1, 2], [1, 2]), ([0, 3], [0, 3]), ([], []), ([], []), ([5, 6], [5, 6]), ([7], [7]), ([8], [8]), ([9], [9]), ([4, 10, 4], [4, 10]), ([11, 11, 0, 1, 2, 3, 4, 5, 6, 7, 8, 9, 10, 11], [11])])
def laws_FnValOther.B9 : List Nat := [0, 0, 0, 6, 15, 0, 0, 96, 224, 480, 992, 2047, 4095]
theorem laws_FnValOther.tab9 : rtab .any (opsOf Try.f7 9) = laws_FnValOther.T9 := by kernel_rfl
theorem laws_FnValOther.bits9 : waitsOk laws_FnValOther.T9.2 laws_FnValOther.B9 = true := by kernel_rfl
set_option maxHeartbeats 8000000 in
set_option maxRecDepth 100000 in
theorem laws_FnValOther.calls (k : Nat) (A0 : Option Addr) (c0 : Nat) (l0 : List Int) (A1 : Option Addr) (c1 : Nat) (l1 : List Int) (r : Bool) (w : World) (hr0 : Kd.C (Kd.int .u8) w A0 l0.length l0) (hc0 : l0.length ≤ c0) (hr1 : Kd.C (Kd.int .u8) w A1 l1.length l1) (hc1 : l1.length ≤ c1) (h : laws_FnValOther.f k l0 l1 = some r) (hr_ : Aside0 (r = true)) :
  Calls Try.prog 7 #[.slice A0 l0.length c0, .slice A1 l1.length c1] w fun e w' => e = .returned (.bool r) ∧ Below w.heap.size w w' := by
 have hu25 := Try.underlying25
 have HR0 := Aside0.mk hr0
 have HC0 := Aside0.mk hc0
 clear hr0 hc0
 have HR1 := Aside0.mk hr1
 have HC1 := Aside0.mk hc1
 clear hr1 hc1
 have HB := Aside0.mk (Below.refl w.heap.size w)
 have H : (if (l0.length : Int) > 1048576 then (laws_FnValOther.j0 k l0 l1 true) else (laws_FnValOther.j0 k l0 l1 (decide ((l1.length : Int) > 1048576)))) = some r := h
 clear h
 have HC3 := Aside0.mk H
 clear H
 go_enter Try.func7, Try.ntmps7
 go_upto_region 1 with (fail)
 go_cut [25] (fun v25 wc => ∃ (kq : Nat) (x25_2 : Bool), v25 = .bool x25_2 ∧ Aside0 (laws_FnValOther.j0 kq l0 l1 x25_2 = some r) ∧ Aside0 (kq ≤ k) ∧ Aside0 (Below w.heap.size w wc))
 case first =>
  have H := HC3.out
  clear HC3
  by_cases c4 : (l0.length : Int) > 1048576
  ·rw [if_pos c4] at H
   have c4b0 : decide (1048576 < (l0.length : Int)) = true := decide_eq_true c4
   have c4b1 : decide (1048576 < l0.length) = true := decide_eq_true (by omega)
   clear c4
   (first | rw [c4b0] | (simp only [i64_w, i32_w]; rw [c4b0]) | skip)
   have H' := Aside0.mk H
   clear H
   go_wp2
   go_meet
   case rel => exact ⟨_, (true), y29, H', ⟨y50⟩, ⟨(y6 HB.out)⟩⟩
  ·rw [if_neg c4] at H
   have c4b0 : decide (1048576 < (l0.length : Int)) = false := decide_eq_false c4
   have c4b1 : decide (1048576 < l0.length) = false := decide_eq_false (by omega)
   clear c4
   (first | rw [c4b0] | (simp only [i64_w, i32_w]; rw [c4b0]) | skip)
   have H' := Aside0.mk H
   clear H
   go_wp2
   go_meet
   case rel => exact ⟨_, (decide ((l1.length : Int) > 1048576)), y29, H', ⟨y50⟩, ⟨(y6 HB.out)⟩⟩
 case rest =>
  clear HC3
  try clear c1
  try clear p2
  try clear c4
  try clear c4b0
  try clear c4b1
  obtain ⟨kq, x25_2, rfl, HA, HJ2, HB⟩ := hcut
  cases kq with
  | zero => exact absurd HA.out (by simp [laws_FnValOther.j0])
  | succ kj2 =>
   have H := HA.out
   clear HA
   simp only [laws_FnValOther.j0] at H
   by_cases c5 : x25_2 = true
   ·subst c5
    rw [if_pos rfl] at H
    clear hr_
    obtain rfl := Option.some.inj H
    go_wp2
    go_ret
    exact ⟨y15, (y6 HB.out)⟩
   ·replace c5 := Bool.eq_false_iff.mpr c5
    subst c5
    rw [if_neg (show ¬ (false = true) by decide)] at H
    obtain ⟨⟨t818, t819, t822, t825, t826⟩, A60, H⟩ := ob H
    have A6 := Aside0.mk A60
    clear A60
    obtain ⟨⟨t831, t832, t835⟩, A70, H⟩ := ob H
    have A7 := Aside0.mk A70
    clear A70
    obtain ⟨⟨t837, t838, t841⟩, A80, H⟩ := ob H
    have A8 := Aside0.mk A80
    clear A80
    have HC9 := Aside0.mk H
    clear H
    go_upto_region 6 with (first | ((with_reducible refine gate_callee (f := 25) rfl ?_); refine goesL_ (some 28) rfl rfl Try.func25 (by kernel_rfl) rfl #[.slice A0 l0.length c0] rfl y9 ?_; (with_reducible refine (spec_DrawValPut.calls kj2 _ _ l0 t818 t819 t822 t825 t826 _ ?side1 ?side2 A6.out).mono ?_); (case side1 => exact y18 HR0.out HB.out); (case side2 => exact HC0.out); rintro e w10 ⟨v820, v823, v827, rfl, ho0, ho1, ho2, hb⟩; refine ⟨_, rfl, ?_⟩; have HO821 := Aside0.mk (Kd.N_lower (Kd.N_mono (ok' := fun k_ => some k_ ≠ (v823 : Value).ownBlock ∧ some k_ ≠ (v827 : Value).ownBlock) ho0 (fun k_ hk_ => ⟨hk_.2.1, hk_.2.2⟩)) (below_size (y6 HB.out))); have HO824 := Aside0.mk (Kd.R_lower (Kd.R_mono (ok' := fun k_ => True) ho1 (fun _ _ => trivial)) (below_size (y6 HB.out))); have HO828 := Aside0.mk (Kd.N_lower (Kd.N_mono (ok' := fun k_ => some k_ ≠ (v820 : Value).ownBlock ∧ some k_ ≠ (v823 : Value).ownBlock) ho2 (fun k_ hk_ => ⟨hk_.2.1, hk_.2.2⟩)) (below_size (y6 HB.out))); replace HB := Aside0.mk (below_step (y6 HB.out) hb); (try clear hb); (try clear hb2); (try clear hk); (try clear hi); (try clear ho0); (try clear ho1); (try clear ho2)) | ((with_reducible refine gate_dst (N := 5) rfl ?_); (try (refine gate_guard (by rfl) ?_; dsimp only)); refine zbx 5 #[.int .i64 0, .slice none 0 0] 25 ?_; intro gb829 hg w11 hbox hb; replace HO821 := Aside0.mk (Kd.N_below (Kd.N_elderB (y2 HO821.out) gb829 (Nat.le_of_eq hg.symm)) hb); replace HO824 := Aside0.mk (Kd.R_below (y8 HO824.out) hb); replace HO828 := Aside0.mk (Kd.N_below (Kd.N_elderB (y2 HO828.out) gb829 (Nat.le_of_eq hg.symm)) hb); have BK829 := Aside0.mk hbox; have GW829 := Aside0.mk ((y10 hg HB.out : w.heap.size ≤ gb829)); have GE829 := Aside0.mk ((y10 hg HB.out : w.heap.size ≤ gb829)); replace HB := Aside0.mk (below_step (y6 HB.out) hb); clear hb hbox hg) | ((with_reducible refine gate_dst (N := 7) rfl ?_); (try (refine gate_guard (by rfl) ?_; dsimp only)); refine zbx 7 #[.int .i64 0, .slice none 0 0] 25 ?_; intro gb830 hg w12 hbox hb; replace HO821 := Aside0.mk (Kd.N_below (Kd.N_elderB (y2 HO821.out) gb830 (Nat.le_of_eq hg.symm)) hb); replace HO824 := Aside0.mk (Kd.R_below (y8 HO824.out) hb); replace HO828 := Aside0.mk (Kd.N_below (Kd.N_elderB (y2 HO828.out) gb830 (Nat.le_of_eq hg.symm)) hb); have BK830 := Aside0.mk hbox; have GW830 := Aside0.mk ((y12 hg HB.out GE829.out : w.heap.size ≤ gb830)); have GE830 := Aside0.mk ((y12 hg HB.out GE829.out : w.heap.size ≤ gb830)); replace HB := Aside0.mk (below_step (y7 HB.out GE829.out) hb); have NB829_830 := zltn hg BK829; have NB830_829 := zgtn hg BK829; replace BK829 := zbb BK829 hb; clear hb hbox hg; have hnb13 := NB829_830.out; have hnc13 := NB830_829.out; have hcz14_0 := zh BK829; have hcz14_1 := zh1 BK829; have hfz14_0 := zfr BK829 0; have hfz14_1 := zfr BK829 1; obtain ⟨Ao15, co15, eo15⟩ := Kd.N_slice HO821.out; subst eo15; have hcz16_0 := zh BK830; have hcz16_1 := zh1 BK830; have hfz16_0 := zfr BK830 0; have hfz16_1 := zfr BK830 1; obtain ⟨Ao17, co17, eo17⟩ := Kd.N_slice HO828.out; subst eo17; obtain ⟨Ao18, co18, eo18⟩ := Kd.R_slice HO824.out; subst eo18) | ((with_reducible refine gate_callee (f := 26) rfl ?_); refine goesL_ (some 36) rfl rfl Try.func26 (by kernel_rfl) rfl #[.agg #[.int .i64 t818, .slice Ao15 t819.length co15], .slice Ao18 t822.length co18, .agg #[.int .i64 t825, .slice Ao17 t826.length co17]] rfl y9 ?_; (with_reducible refine (spec_ValPut.calls kj2 t818 _ _ t819 _ _ t822 t825 _ _ t826 t831 t832 t835 _ ?side1 ?side2 ?side3 ?side4 ?side5 ?side6 A7.out).mono ?_); (case side1 => refine (Kd.N_reads' (e := 25) (base := w.heap.size) (ok := fun k_ => (((some k_ ≠ (.slice Ao18 t822.length co18 : Value).ownBlock ∧ some k_ ≠ (.slice Ao17 t826.length co17 : Value).ownBlock) ∧ k_ ≠ gb829) ∧ k_ ≠ gb830)) (n := t819.length) (c := co15) ?_).2.2; exact (by (with_reducible repeat (first | apply Kd.N_alloc | apply Kd.N_drewN | apply Kd.N_drew)); exact (Kd.N_mono (Kd.N_mono (Kd.N_far (p := ⟨gb830, 1, none⟩) (Kd.N_far (p := ⟨gb830, 0, none⟩) (Kd.N_far (p := ⟨gb829, 1, none⟩) (Kd.N_far (p := ⟨gb829, 0, none⟩) (Kd.N_mono (Kd.N_mono HO821.out (fun k_ hk => (⟨hk, hk.1.2⟩ : _ ∧ k_ ≠ gb829))) (fun k_ hk => (⟨hk, hk.1.2⟩ : _ ∧ k_ ≠ gb830))) (fun _ hk => hk.1.2) (.int .i64 t818)) (fun _ hk => hk.1.2) (.slice Ao15 t819.length co15)) (fun _ hk => hk.2) (.int .i64 t825)) (fun _ hk => hk.2) (.slice Ao17 t826.length co17)) (fun _ h_ => h_.1)) (fun _ h_ => h_.1)))); (case side2 => exact (Kd.N_reads' HO821.out).2.1); (case side3 => refine (Kd.R_reads' (e := 3) (base := w.heap.size) (ok := fun k_ => True) (n := t822.length) (c := co18) ?_).2.2; exact (by (with_reducible repeat (first | apply Kd.R_alloc | apply Kd.R_drewN | apply Kd.R_drew)); exact (Kd.R_mono (Kd.R_mono (Kd.R_far (p := ⟨gb830, 1, none⟩) (Kd.R_far (p := ⟨gb830, 0, none⟩) (Kd.R_far (p := ⟨gb829, 1, none⟩) (Kd.R_far (p := ⟨gb829, 0, none⟩) (Kd.R_types (Kd.R_types HO824.out BK829.out (by decide)) BK830.out (by decide)) (fun _ hk => hk.1.2) (.int .i64 t818)) (fun _ hk => hk.1.2) (.slice Ao15 t819.length co15)) (fun _ hk => hk.2) (.int .i64 t825)) (fun _ hk => hk.2) (.slice Ao17 t826.length co17)) (fun _ h_ => h_.1)) (fun _ h_ => h_.1)))); (case side4 => exact (Kd.R_reads' HO824.out).2.1); (case side5 => refine (Kd.N_reads' (e := 25) (base := w.heap.size) (ok := fun k_ => (((some k_ ≠ (.slice Ao15 t819.length co15 : Value).ownBlock ∧ some k_ ≠ (.slice Ao18 t822.length co18 : Value).ownBlock) ∧ k_ ≠ gb829) ∧ k_ ≠ gb830)) (n := t826.length) (c := co17) ?_).2.2; exact (by (with_reducible repeat (first | apply Kd.N_alloc | apply Kd.N_drewN | apply Kd.N_drew)); exact (Kd.N_mono (Kd.N_mono (Kd.N_far (p := ⟨gb830, 1, none⟩) (Kd.N_far (p := ⟨gb830, 0, none⟩) (Kd.N_far (p := ⟨gb829, 1, none⟩) (Kd.N_far (p := ⟨gb829, 0, none⟩) (Kd.N_mono (Kd.N_mono HO828.out (fun k_ hk => (⟨hk, hk.1.2⟩ : _ ∧ k_ ≠ gb829))) (fun k_ hk => (⟨hk, hk.1.2⟩ : _ ∧ k_ ≠ gb830))) (fun _ hk => hk.1.2) (.int .i64 t818)) (fun _ hk => hk.1.2) (.slice Ao15 t819.length co15)) (fun _ hk => hk.2) (.int .i64 t825)) (fun _ hk => hk.2) (.slice Ao17 t826.length co17)) (fun _ h_ => h_.1)) (fun _ h_ => h_.1)))); (case side6 => exact (Kd.N_reads' HO828.out).2.1); rintro e w19 ⟨v833, rfl, ho0, hb⟩; refine ⟨_, rfl, ?_⟩; have HO834 := Aside0.mk (Kd.N_lower (Kd.N_mono (ok' := fun k_ => some k_ ≠ (.slice Ao15 t819.length co15 : Value).ownBlock ∧ some k_ ≠ (.slice Ao18 t822.length co18 : Value).ownBlock ∧ some k_ ≠ (.slice Ao17 t826.length co17 : Value).ownBlock ∧ k_ ≠ gb829 ∧ k_ ≠ gb830) ho0 (fun k_ hk_ => ⟨(Kd.fresh' (Kd.N_lt (by (with_reducible repeat (first | apply Kd.N_alloc | apply Kd.N_drewN | apply Kd.N_drew)); exact (Kd.N_mono (Kd.N_mono (Kd.N_far (p := ⟨gb830, 1, none⟩) (Kd.N_far (p := ⟨gb830, 0, none⟩) (Kd.N_far (p := ⟨gb829, 1, none⟩) (Kd.N_far (p := ⟨gb829, 0, none⟩) (Kd.N_mono (Kd.N_mono HO821.out (fun k_ hk => (⟨hk, hk.1.2⟩ : _ ∧ k_ ≠ gb829))) (fun k_ hk => (⟨hk, hk.1.2⟩ : _ ∧ k_ ≠ gb830))) (fun _ hk => hk.1.2) (.int .i64 t818)) (fun _ hk => hk.1.2) (.slice Ao15 t819.length co15)) (fun _ hk => hk.2) (.int .i64 t825)) (fun _ hk => hk.2) (.slice Ao17 t826.length co17)) (fun _ h_ => h_.1)) (fun _ h_ => h_.1)))) k_ hk_), (Kd.fresh' (Kd.R_lt (by (with_reducible repeat (first | apply Kd.R_alloc | apply Kd.R_drewN | apply Kd.R_drew)); exact (Kd.R_mono (Kd.R_mono (Kd.R_far (p := ⟨gb830, 1, none⟩) (Kd.R_far (p := ⟨gb830, 0, none⟩) (Kd.R_far (p := ⟨gb829, 1, none⟩) (Kd.R_far (p := ⟨gb829, 0, none⟩) (Kd.R_types (Kd.R_types HO824.out BK829.out (by decide)) BK830.out (by decide)) (fun _ hk => hk.1.2) (.int .i64 t818)) (fun _ hk => hk.1.2) (.slice Ao15 t819.length co15)) (fun _ hk => hk.2) (.int .i64 t825)) (fun _ hk => hk.2) (.slice Ao17 t826.length co17)) (fun _ h_ => h_.1)) (fun _ h_ => h_.1)))) k_ hk_), (Kd.fresh' (Kd.N_lt (by (with_reducible repeat (first | apply Kd.N_alloc | apply Kd.N_drewN | apply Kd.N_drew)); exact (Kd.N_mono (Kd.N_mono (Kd.N_far (p := ⟨gb830, 1, none⟩) (Kd.N_far (p := ⟨gb830, 0, none⟩) (Kd.N_far (p := ⟨gb829, 1, none⟩) (Kd.N_far (p := ⟨gb829, 0, none⟩) (Kd.N_mono (Kd.N_mono HO828.out (fun k_ hk => (⟨hk, hk.1.2⟩ : _ ∧ k_ ≠ gb829))) (fun k_ hk => (⟨hk, hk.1.2⟩ : _ ∧ k_ ≠ gb830))) (fun _ hk => hk.1.2) (.int .i64 t818)) (fun _ hk => hk.1.2) (.slice Ao15 t819.length co15)) (fun _ hk => hk.2) (.int .i64 t825)) (fun _ hk => hk.2) (.slice Ao17 t826.length co17)) (fun _ h_ => h_.1)) (fun _ h_ => h_.1)))) k_ hk_), (Kd.freshB (g := gb829) (o := .cells #[.int .i64 t818, .slice Ao15 t819.length co15] 25 (0, 0)) (by (with_reducible repeat (first | refine blk_drewN ?_ _ | refine blk_drew ?_ | refine blk_alloc ?_ _)); refine blk_far ?_ NB829_830.out _; (with_reducible repeat (first | refine blk_drewN ?_ _ | refine blk_drew ?_ | refine blk_alloc ?_ _)); refine blk_far ?_ NB829_830.out _; (with_reducible repeat (first | refine blk_drewN ?_ _ | refine blk_drew ?_ | refine blk_alloc ?_ _)); refine blk_put (cs := #[.int .i64 t818, .slice none 0 0]) ?_ 1 _ rfl; (with_reducible repeat (first | refine blk_drewN ?_ _ | refine blk_drew ?_ | refine blk_alloc ?_ _)); apply blk_put (i := 0); (case h => exact y0 BK829.out); (case e => rfl)) k_ hk_), (Kd.freshB (g := gb830) (o := .cells #[.int .i64 t825, .slice Ao17 t826.length co17] 25 (0, 0)) (by (with_reducible repeat (first | refine blk_drewN ?_ _ | refine blk_drew ?_ | refine blk_alloc ?_ _)); refine blk_put (cs := #[.int .i64 t825, .slice none 0 0]) ?_ 1 _ rfl; (with_reducible repeat (first | refine blk_drewN ?_ _ | refine blk_drew ?_ | refine blk_alloc ?_ _)); refine blk_put (cs := #[.int .i64 0, .slice none 0 0]) ?_ 0 _ rfl; (with_reducible repeat (first | refine blk_drewN ?_ _ | refine blk_drew ?_ | refine blk_alloc ?_ _)); refine blk_far ?_ NB830_829.out _; (with_reducible repeat (first | refine blk_drewN ?_ _ | refine blk_drew ?_ | refine blk_alloc ?_ _)); refine blk_far ?_ NB830_829.out _; (with_reducible repeat (first | refine blk_drewN ?_ _ | refine blk_drew ?_ | refine blk_alloc ?_ _)); exact BK830.out) k_ hk_)⟩)) (below_size (y3 HB.out GE829.out GE830.out))); replace HO821 := Aside0.mk (Kd.N_elder' (by (with_reducible repeat (first | apply Kd.N_alloc | apply Kd.N_drewN | apply Kd.N_drew)); exact (Kd.N_mono (Kd.N_mono (Kd.N_far (p := ⟨gb830, 1, none⟩) (Kd.N_far (p := ⟨gb830, 0, none⟩) (Kd.N_far (p := ⟨gb829, 1, none⟩) (Kd.N_far (p := ⟨gb829, 0, none⟩) (Kd.N_mono (Kd.N_mono HO821.out (fun k_ hk => (⟨hk, hk.1.2⟩ : _ ∧ k_ ≠ gb829))) (fun k_ hk => (⟨hk, hk.1.2⟩ : _ ∧ k_ ≠ gb830))) (fun _ hk => hk.1.2) (.int .i64 t818)) (fun _ hk => hk.1.2) (.slice Ao15 t819.length co15)) (fun _ hk => hk.2) (.int .i64 t825)) (fun _ hk => hk.2) (.slice Ao17 t826.length co17)) (fun _ h_ => h_.1)) (fun _ h_ => h_.1))) (Kd.N_base ho0) hb); replace HO824 := Aside0.mk (Kd.R_below (by (with_reducible repeat (first | apply Kd.R_alloc | apply Kd.R_drewN | apply Kd.R_drew)); exact (Kd.R_mono (Kd.R_mono (Kd.R_far (p := ⟨gb830, 1, none⟩) (Kd.R_far (p := ⟨gb830, 0, none⟩) (Kd.R_far (p := ⟨gb829, 1, none⟩) (Kd.R_far (p := ⟨gb829, 0, none⟩) (Kd.R_types (Kd.R_types HO824.out BK829.out (by decide)) BK830.out (by decide)) (fun _ hk => hk.1.2) (.int .i64 t818)) (fun _ hk => hk.1.2) (.slice Ao15 t819.length co15)) (fun _ hk => hk.2) (.int .i64 t825)) (fun _ hk => hk.2) (.slice Ao17 t826.length co17)) (fun _ h_ => h_.1)) (fun _ h_ => h_.1))) hb); replace HO828 := Aside0.mk (Kd.N_elder' (by (with_reducible repeat (first | apply Kd.N_alloc | apply Kd.N_drewN | apply Kd.N_drew)); exact (Kd.N_mono (Kd.N_mono (Kd.N_far (p := ⟨gb830, 1, none⟩) (Kd.N_far (p := ⟨gb830, 0, none⟩) (Kd.N_far (p := ⟨gb829, 1, none⟩) (Kd.N_far (p := ⟨gb829, 0, none⟩) (Kd.N_mono (Kd.N_mono HO828.out (fun k_ hk => (⟨hk, hk.1.2⟩ : _ ∧ k_ ≠ gb829))) (fun k_ hk => (⟨hk, hk.1.2⟩ : _ ∧ k_ ≠ gb830))) (fun _ hk => hk.1.2) (.int .i64 t818)) (fun _ hk => hk.1.2) (.slice Ao15 t819.length co15)) (fun _ hk => hk.2) (.int .i64 t825)) (fun _ hk => hk.2) (.slice Ao17 t826.length co17)) (fun _ h_ => h_.1)) (fun _ h_ => h_.1))) (Kd.N_base ho0) hb); replace BK829 := Aside0.mk (blk_below (g := gb829) (o := .cells #[.int .i64 t818, .slice Ao15 t819.length co15] 25 (0, 0)) (by (with_reducible repeat (first | refine blk_drewN ?_ _ | refine blk_drew ?_ | refine blk_alloc ?_ _)); refine blk_far ?_ NB829_830.out _; (with_reducible repeat (first | refine blk_drewN ?_ _ | refine blk_drew ?_ | refine blk_alloc ?_ _)); refine blk_far ?_ NB829_830.out _; (with_reducible repeat (first | refine blk_drewN ?_ _ | refine blk_drew ?_ | refine blk_alloc ?_ _)); refine blk_put (cs := #[.int .i64 t818, .slice none 0 0]) ?_ 1 _ rfl; (with_reducible repeat (first | refine blk_drewN ?_ _ | refine blk_drew ?_ | refine blk_alloc ?_ _)); apply blk_put (i := 0); (case h => exact y0 BK829.out); (case e => rfl)) hb); replace BK830 := Aside0.mk (blk_below (g := gb830) (o := .cells #[.int .i64 t825, .slice Ao17 t826.length co17] 25 (0, 0)) (by (with_reducible repeat (first | refine blk_drewN ?_ _ | refine blk_drew ?_ | refine blk_alloc ?_ _)); refine blk_put (cs := #[.int .i64 t825, .slice none 0 0]) ?_ 1 _ rfl; (with_reducible repeat (first | refine blk_drewN ?_ _ | refine blk_drew ?_ | refine blk_alloc ?_ _)); refine blk_put (cs := #[.int .i64 0, .slice none 0 0]) ?_ 0 _ rfl; (with_reducible repeat (first | refine blk_drewN ?_ _ | refine blk_drew ?_ | refine blk_alloc ?_ _)); refine blk_far ?_ NB830_829.out _; (with_reducible repeat (first | refine blk_drewN ?_ _ | refine blk_drew ?_ | refine blk_alloc ?_ _)); refine blk_far ?_ NB830_829.out _; (with_reducible repeat (first | refine blk_drewN ?_ _ | refine blk_drew ?_ | refine blk_alloc ?_ _)); exact BK830.out) hb); replace HB := Aside0.mk (below_step (y3 HB.out GE829.out GE830.out) hb); (try clear hb); (try clear hb2); (try clear hk); (try clear hi); (try clear ho0)) | ((with_reducible refine gate_dst (N := 8) rfl ?_); (try (refine gate_guard (by rfl) ?_; dsimp only)); refine zbx 8 #[.int .i64 0, .slice none 0 0] 25 ?_; intro gb836 hg w20 hbox hb; replace HO821 := Aside0.mk (Kd.N_below (Kd.N_elderB (y2 HO821.out) gb836 (Nat.le_of_eq hg.symm)) hb); replace HO824 := Aside0.mk (Kd.R_below (y8 HO824.out) hb); replace HO828 := Aside0.mk (Kd.N_below (Kd.N_elderB (y2 HO828.out) gb836 (Nat.le_of_eq hg.symm)) hb); replace HO834 := Aside0.mk (Kd.N_below (Kd.N_elderB (y2 HO834.out) gb836 (Nat.le_of_eq hg.symm)) hb); have BK836 := Aside0.mk hbox; have GW836 := Aside0.mk ((y16 hg HB.out GE829.out GE830.out : w.heap.size ≤ gb836)); have GE836 := Aside0.mk ((y16 hg HB.out GE829.out GE830.out : w.heap.size ≤ gb836)); replace HB := Aside0.mk (below_step (y3 HB.out GE829.out GE830.out) hb); have NB829_836 := zltn hg BK829; have NB836_829 := zgtn hg BK829; replace BK829 := zbb BK829 hb; have NB830_836 := zltn hg BK830; have NB836_830 := zgtn hg BK830; replace BK830 := zbb BK830 hb; clear hb hbox hg; have hnb21 := NB836_829.out; have hnc21 := NB829_836.out; have hnb22 := NB836_830.out; have hnc22 := NB830_836.out; have hcz23_0 := zh BK836; have hcz23_1 := zh1 BK836; have hfz23_0 := zfr BK836 0; have hfz23_1 := zfr BK836 1; obtain ⟨Ao24, co24, eo24⟩ := Kd.N_slice HO834.out; subst eo24) | ((with_reducible refine gate_store (t := 25) (p := 8) rfl ?_); refine store_event (t := 25) (p := 8) (v := ?vo_w25) (w1 := ((w20.setCell ⟨gb836, 0, none⟩ (.int .i64 t831)).setCell ⟨gb836, 1, none⟩ (.slice Ao24 t832.length co24))) ?hg ?ho ?hn ?hr ?_; (case ho => rfl); (case hg => rfl); (case hn => rfl); (case hr => first | (go_simp; done) | (go_simp; rfl)); intro w25 hw; have n0_ : Aside0 (Kd.N k25 25 w25 w.heap.size (fun k_ => some k_ ≠ (.slice Ao18 t822.length co18 : Value).ownBlock ∧ some k_ ≠ (.slice Ao17 t826.length co17 : Value).ownBlock ∧ some k_ ≠ (.slice Ao24 t832.length co24 : Value).ownBlock ∧ k_ ≠ gb829 ∧ k_ ≠ gb830 ∧ k_ ≠ gb836) (.slice Ao15 t819.length co15) t819) := ⟨(by rw [hw]; exact (by (with_reducible repeat (first | apply Kd.N_alloc | apply Kd.N_drewN | apply Kd.N_drew)); exact Kd.N_mono (Kd.N_far (p := ⟨gb836, 1, none⟩) (Kd.N_far (p := ⟨gb836, 0, none⟩) (Kd.N_mono HO821.out (fun k_ hk => (⟨hk, hk.2⟩ : _ ∧ k_ ≠ gb836))) (fun _ hk => hk.2) (.int .i64 t831)) (fun _ hk => hk.2) (.slice Ao24 t832.length co24)) (fun _ hk => ⟨hk.1.1.1.1.1.1, ⟨hk.1.1.1.1.1.2, ⟨hk.1.1.2, ⟨hk.1.1.1.1.2, ⟨hk.1.1.1.2, hk.1.2⟩⟩⟩⟩⟩)))⟩; have n1_ : Aside0 (Kd.R (Kd.int .i64) 3 w25 w.heap.size (fun _ => True) (.slice Ao18 t822.length co18) t822) := ⟨(by rw [hw]; exact (by (with_reducible repeat (first | apply Kd.R_alloc | apply Kd.R_drewN | apply Kd.R_drew)); exact Kd.R_mono (Kd.R_far (p := ⟨gb836, 1, none⟩) (Kd.R_far (p := ⟨gb836, 0, none⟩) (Kd.R_types HO824.out BK836.out (by decide)) (fun _ hk => hk.2) (.int .i64 t831)) (fun _ hk => hk.2) (.slice Ao24 t832.length co24)) (fun _ hk => trivial)))⟩; have n2_ : Aside0 (Kd.N k25 25 w25 w.heap.size (fun k_ => some k_ ≠ (.slice Ao15 t819.length co15 : Value).ownBlock ∧ some k_ ≠ (.slice Ao18 t822.length co18 : Value).ownBlock ∧ some k_ ≠ (.slice Ao24 t832.length co24 : Value).ownBlock ∧ k_ ≠ gb829 ∧ k_ ≠ gb830 ∧ k_ ≠ gb836) (.slice Ao17 t826.length co17) t826) := ⟨(by rw [hw]; exact (by (with_reducible repeat (first | apply Kd.N_alloc | apply Kd.N_drewN | apply Kd.N_drew)); exact Kd.N_mono (Kd.N_far (p := ⟨gb836, 1, none⟩) (Kd.N_far (p := ⟨gb836, 0, none⟩) (Kd.N_mono HO828.out (fun k_ hk => (⟨hk, hk.2⟩ : _ ∧ k_ ≠ gb836))) (fun _ hk => hk.2) (.int .i64 t831)) (fun _ hk => hk.2) (.slice Ao24 t832.length co24)) (fun _ hk => ⟨hk.1.1.1.1.1.1, ⟨hk.1.1.1.1.1.2, ⟨hk.1.1.2, ⟨hk.1.1.1.1.2, ⟨hk.1.1.1.2, hk.1.2⟩⟩⟩⟩⟩)))⟩; have n3_ : Aside0 (Kd.N k25 25 w25 w.heap.size (fun k_ => some k_ ≠ (.slice Ao15 t819.length co15 : Value).ownBlock ∧ some k_ ≠ (.slice Ao18 t822.length co18 : Value).ownBlock ∧ some k_ ≠ (.slice Ao17 t826.length co17 : Value).ownBlock ∧ k_ ≠ gb829 ∧ k_ ≠ gb830 ∧ k_ ≠ gb836) (.slice Ao24 t832.length co24) t832) := ⟨(by rw [hw]; exact (by (with_reducible repeat (first | apply Kd.N_alloc | apply Kd.N_drewN | apply Kd.N_drew)); exact Kd.N_mono (Kd.N_far (p := ⟨gb836, 1, none⟩) (Kd.N_far (p := ⟨gb836, 0, none⟩) (Kd.N_mono HO834.out (fun k_ hk => (⟨hk, hk.2⟩ : _ ∧ k_ ≠ gb836))) (fun _ hk => hk.2) (.int .i64 t831)) (fun _ hk => hk.2) (.slice Ao24 t832.length co24)) (fun _ hk => ⟨hk.1.1.1, ⟨hk.1.1.2.1, ⟨hk.1.1.2.2.1, ⟨hk.1.1.2.2.2.1, ⟨hk.1.1.2.2.2.2, hk.1.2⟩⟩⟩⟩⟩)))⟩; have n4_ : Aside0 (w25.heap[gb829]? = some (.cells #[.int .i64 t818, .slice Ao15 t819.length co15] 25 (0, 0))) := ⟨(by rw [hw]; exact (y1 NB829_836.out BK829.out))⟩; have n5_ : Aside0 (w25.heap[gb830]? = some (.cells #[.int .i64 t825, .slice Ao17 t826.length co17] 25 (0, 0))) := ⟨(by rw [hw]; exact (y1 NB830_836.out BK830.out))⟩; have n6_ : Aside0 (w25.heap[gb836]? = some (.cells #[.int .i64 t831, .slice Ao24 t832.length co24] 25 (0, 0))) := ⟨(by rw [hw]; exact (by (with_reducible repeat (first | refine blk_drewN ?_ _ | refine blk_drew ?_ | refine blk_alloc ?_ _)); refine blk_put (cs := #[.int .i64 t831, .slice none 0 0]) ?_ 1 _ rfl; (with_reducible repeat (first | refine blk_drewN ?_ _ | refine blk_drew ?_ | refine blk_alloc ?_ _)); apply blk_put (i := 0); (case h => exact y0 BK836.out); (case e => rfl)))⟩; have n7_ : Aside0 (Below w.heap.size w w25) := ⟨(by rw [hw]; exact (y4 HB.out GE829.out GE830.out GE836.out))⟩; clear hw; clear HO821; clear HO824; clear HO828; clear HO834; clear BK829; clear BK830; clear BK836; clear HB; have HO821 := n0_; have HO824 := n1_; have HO828 := n2_; have HO834 := n3_; have BK829 := n4_; have BK830 := n5_; have BK836 := n6_; have HB := n7_; clear n0_ n1_ n2_ n3_ n4_ n5_ n6_ n7_; have hcz26_0 := zh BK829; have hcz26_1 := zh1 BK829; have hfz26_0 := zfr BK829 0; have hfz26_1 := zfr BK829 1; have hcz27_0 := zh BK830; have hcz27_1 := zh1 BK830; have hfz27_0 := zfr BK830 0; have hfz27_1 := zfr BK830 1) | ((with_reducible refine gate_callee (f := 24) rfl ?_); refine goesL_ (some 43) rfl rfl Try.func24 (by kernel_rfl) rfl #[.agg #[.int .i64 t818, .slice Ao15 t819.length co15], .slice Ao18 t822.length co18, .agg #[.int .i64 t825, .slice Ao17 t826.length co17]] rfl y9 ?_; (with_reducible refine (impl_ValPut.calls kj2 t818 (fun k_ => (some k_ ≠ (.slice Ao18 t822.length co18 : Value).ownBlock ∧ (some k_ ≠ (.slice Ao17 t826.length co17 : Value).ownBlock ∧ (some k_ ≠ (.slice Ao24 t832.length co24 : Value).ownBlock ∧ (k_ ≠ gb829 ∧ (k_ ≠ gb830 ∧ k_ ≠ gb836)))))) _ _ t819 _ _ t822 t825 (fun k_ => (some k_ ≠ (.slice Ao15 t819.length co15 : Value).ownBlock ∧ (some k_ ≠ (.slice Ao18 t822.length co18 : Value).ownBlock ∧ (some k_ ≠ (.slice Ao24 t832.length co24 : Value).ownBlock ∧ (k_ ≠ gb829 ∧ (k_ ≠ gb830 ∧ k_ ≠ gb836)))))) _ _ t826 t837 t838 t841 _ ?side1 ?side2 ?side3 ?side4 A8.out).mono ?_); (case side1 => exact Kd.N_V (HO821.out)); (case side2 => exact y34 HO824.out); (case side3 => exact (Kd.R_reads' HO824.out).2.1); (case side4 => exact Kd.N_V (HO828.out)); rintro e w28 ⟨v839, rfl, ho0, hb⟩; refine ⟨_, rfl, ?_⟩; replace HO821 := Aside0.mk (Kd.N_elder' (y2 HO821.out) (Kd.N_base ho0) hb); replace HO828 := Aside0.mk (Kd.N_elder' (y2 HO828.out) (Kd.N_base ho0) hb); have HO840 := Aside0.mk (Kd.N_lower (Kd.N_mono (ok' := fun k_ => some k_ ≠ (.slice Ao18 t822.length co18 : Value).ownBlock ∧ some k_ ≠ (.slice Ao24 t832.length co24 : Value).ownBlock ∧ k_ ≠ gb829 ∧ k_ ≠ gb830 ∧ k_ ≠ gb836) ho0 (fun k_ hk_ => ⟨Or.elim hk_ (fun hs_ => Or.elim hs_ (fun hs_ => hs_.1) (fun hs_ => hs_.2.1)) (fun hn_ => (Kd.fresh' (Kd.R_lt (y8 HO824.out)) k_ hn_)), Or.elim hk_ (fun hs_ => Or.elim hs_ (fun hs_ => hs_.2.2.1) (fun hs_ => hs_.2.2.1)) (fun hn_ => (Kd.fresh' (Kd.N_lt (y2 HO834.out)) k_ hn_)), Or.elim hk_ (fun hs_ => Or.elim hs_ (fun hs_ => hs_.2.2.2.1) (fun hs_ => hs_.2.2.2.1)) (fun hn_ => (Kd.freshB (g := gb829) (o := .cells #[.int .i64 t818, .slice Ao15 t819.length co15] 25 (0, 0)) (y0 BK829.out) k_ hn_)), Or.elim hk_ (fun hs_ => Or.elim hs_ (fun hs_ => hs_.2.2.2.2.1) (fun hs_ => hs_.2.2.2.2.1)) (fun hn_ => (Kd.freshB (g := gb830) (o := .cells #[.int .i64 t825, .slice Ao17 t826.length co17] 25 (0, 0)) (y0 BK830.out) k_ hn_)), Or.elim hk_ (fun hs_ => Or.elim hs_ (fun hs_ => hs_.2.2.2.2.2) (fun hs_ => hs_.2.2.2.2.2)) (fun hn_ => (Kd.freshB (g := gb836) (o := .cells #[.int .i64 t831, .slice Ao24 t832.length co24] 25 (0, 0)) (y0 BK836.out) k_ hn_))⟩)) (below_size (y4 HB.out GE829.out GE830.out GE836.out))); replace HO824 := Aside0.mk (Kd.R_below (y8 HO824.out) hb); replace HO834 := Aside0.mk (Kd.N_elder' (y2 HO834.out) (Kd.N_base ho0) hb); replace BK829 := zbb BK829 hb; replace BK830 := zbb BK830 hb; replace BK836 := zbb BK836 hb; replace HB := Aside0.mk (below_step (y4 HB.out GE829.out GE830.out GE836.out) hb); (try clear hb); (try clear hb2); (try clear hk); (try clear hi); (try clear ho0)) | ((with_reducible refine gate_dst (N := 10) rfl ?_); (try (refine gate_guard (by rfl) ?_; dsimp only)); refine zbx 10 #[.int .i64 0, .slice none 0 0] 25 ?_; intro gb842 hg w29 hbox hb; replace HO821 := Aside0.mk (Kd.N_below (Kd.N_elderB (y2 HO821.out) gb842 (Nat.le_of_eq hg.symm)) hb); replace HO824 := Aside0.mk (Kd.R_below (y8 HO824.out) hb); replace HO828 := Aside0.mk (Kd.N_below (Kd.N_elderB (y2 HO828.out) gb842 (Nat.le_of_eq hg.symm)) hb); replace HO834 := Aside0.mk (Kd.N_below (Kd.N_elderB (y2 HO834.out) gb842 (Nat.le_of_eq hg.symm)) hb); replace HO840 := Aside0.mk (Kd.N_below (Kd.N_elderB (y2 HO840.out) gb842 (Nat.le_of_eq hg.symm)) hb); have BK842 := Aside0.mk hbox; have GW842 := Aside0.mk ((y20 hg HB.out GE829.out GE830.out GE836.out : w.heap.size ≤ gb842)); have GE842 := Aside0.mk ((y20 hg HB.out GE829.out GE830.out GE836.out : w.heap.size ≤ gb842)); replace HB := Aside0.mk (below_step (y4 HB.out GE829.out GE830.out GE836.out) hb); have NB829_842 := zltn hg BK829; have NB842_829 := zgtn hg BK829; replace BK829 := zbb BK829 hb; have NB830_842 := zltn hg BK830; have NB842_830 := zgtn hg BK830; replace BK830 := zbb BK830 hb; have NB836_842 := zltn hg BK836; have NB842_836 := zgtn hg BK836; replace BK836 := zbb BK836 hb; clear hb hbox hg; have hnb30 := NB842_829.out; have hnc30 := NB829_842.out; have hnb31 := NB842_830.out; have hnc31 := NB830_842.out; have hnb32 := NB842_836.out; have hnc32 := NB836_842.out; have hcz33_0 := zh BK842; have hcz33_1 := zh1 BK842; have hfz33_0 := zfr BK842 0; have hfz33_1 := zfr BK842 1; obtain ⟨Ao34, co34, eo34⟩ := Kd.N_slice HO840.out; subst eo34))
    (try simp only [Act.put, List.setIfInBounds_toArray, List.set_cons_zero, List.set_cons_succ])
    go_cut [63] (fun v63 wc => ∃ (kq : Nat) (x63_8 : Bool), v63 = .bool x63_8 ∧ Aside0 (laws_FnValOther.j1 kq l1 t822 t835 t841 x63_8 t818 t819 t831 t832 t837 t838 = some r) ∧ Aside0 (kq ≤ kj2) ∧ Aside0 (Kd.R (Kd.int .i64) 3 wc w.heap.size (fun _ => True) (.slice Ao18 t822.length co18) t822) ∧ Aside0 (Kd.N k25 25 wc w.heap.size (fun k_ => some k_ ≠ ((.slice Ao18 t822.length co18) : Value).ownBlock ∧ some k_ ≠ ((.slice Ao17 t826.length co17) : Value).ownBlock ∧ some k_ ≠ ((.slice Ao24 t832.length co24) : Value).ownBlock ∧ some k_ ≠ ((.slice Ao34 t838.length co34) : Value).ownBlock ∧ k_ ≠ gb829 ∧ k_ ≠ gb830 ∧ k_ ≠ gb836 ∧ k_ ≠ gb842) (.slice Ao15 t819.length co15) t819) ∧ Aside0 (Kd.N k25 25 wc w.heap.size (fun k_ => some k_ ≠ ((.slice Ao18 t822.length co18) : Value).ownBlock ∧ some k_ ≠ ((.slice Ao15 t819.length co15) : Value).ownBlock ∧ some k_ ≠ ((.slice Ao24 t832.length co24) : Value).ownBlock ∧ some k_ ≠ ((.slice Ao34 t838.length co34) : Value).ownBlock ∧ k_ ≠ gb829 ∧ k_ ≠ gb830 ∧ k_ ≠ gb836 ∧ k_ ≠ gb842) (.slice Ao17 t826.length co17) t826) ∧ Aside0 (Kd.N k25 25 wc w.heap.size (fun k_ => some k_ ≠ ((.slice Ao18 t822.length co18) : Value).ownBlock ∧ some k_ ≠ ((.slice Ao15 t819.length co15) : Value).ownBlock ∧ some k_ ≠ ((.slice Ao17 t826.length co17) : Value).ownBlock ∧ some k_ ≠ ((.slice Ao34 t838.length co34) : Value).ownBlock ∧ k_ ≠ gb829 ∧ k_ ≠ gb830 ∧ k_ ≠ gb836 ∧ k_ ≠ gb842) (.slice Ao24 t832.length co24) t832) ∧ Aside0 (Kd.N k25 25 wc w.heap.size (fun k_ => some k_ ≠ ((.slice Ao18 t822.length co18) : Value).ownBlock ∧ some k_ ≠ ((.slice Ao24 t832.length co24) : Value).ownBlock ∧ k_ ≠ gb829 ∧ k_ ≠ gb830 ∧ k_ ≠ gb836 ∧ k_ ≠ gb842) (.slice Ao34 t838.length co34) t838) ∧ Aside0 (wc.heap[gb829]? = some (.cells #[.int .i64 t818, (.slice Ao15 t819.length co15)] 25 (0, 0))) ∧ Aside0 (wc.heap[gb830]? = some (.cells #[.int .i64 t825, (.slice Ao17 t826.length co17)] 25 (0, 0))) ∧ Aside0 (wc.heap[gb836]? = some (.cells #[.int .i64 t831, (.slice Ao24 t832.length co24)] 25 (0, 0))) ∧ Aside0 (wc.heap[gb842]? = some (.cells #[.int .i64 t837, (.slice Ao34 t838.length co34)] 25 (0, 0))) ∧ Aside0 (Below w.heap.size w wc))
    case first =>
     have H := HC9.out
     clear HC9
     by_cases c35 : (t841 != t835) = true
     ·rw [if_pos c35] at H
      have c35b0 : (t841 != t835) = true := c35
      (try (have c35b1 : decide (t841 = t835) = false := by simpa using c35))
      (try (have c35b2 : (t841 == t835) = false := by simpa using c35))
      (try (have c35b3 : ¬ (t841 = t835) := by simpa using c35))
      clear c35
      (first | rw [c35b0] | (simp only [i64_w, i32_w]; rw [c35b0]) | rw [show (!t841 == t835) = (t841 != t835) from by cases t841 <;> cases t835 <;> rfl, c35b0] | skip)
      have H' := Aside0.mk H
      clear H
      go_wp2
      go_meet
      case rel => exact ⟨_, (true), y29, H', ⟨(y100 HJ2.out)⟩, ⟨(by (with_reducible repeat (first | apply Kd.R_alloc | apply Kd.R_drewN | apply Kd.R_drew)); exact Kd.R_mono (Kd.R_far (p := ⟨gb842, 1, none⟩) (Kd.R_far (p := ⟨gb842, 0, none⟩) (Kd.R_types HO824.out BK842.out (by decide)) (fun _ hk => hk.2) (.int .i64 t837)) (fun _ hk => hk.2) (.slice Ao34 t838.length co34)) (fun _ hk => trivial))⟩, ⟨(by (with_reducible repeat (first | apply Kd.N_alloc | apply Kd.N_drewN | apply Kd.N_drew)); exact Kd.N_mono (Kd.N_far (p := ⟨gb842, 1, none⟩) (Kd.N_far (p := ⟨gb842, 0, none⟩) (Kd.N_mono HO821.out (fun k_ hk => (⟨hk, hk.2⟩ : _ ∧ k_ ≠ gb842))) (fun _ hk => hk.2) (.int .i64 t837)) (fun _ hk => hk.2) (.slice Ao34 t838.length co34)) (fun _ hk => ⟨hk.1.1.1.1, ⟨hk.1.1.1.2.1, ⟨hk.1.1.1.2.2.1, ⟨hk.1.1.2, ⟨hk.1.1.1.2.2.2.1, ⟨hk.1.1.1.2.2.2.2.1, ⟨hk.1.1.1.2.2.2.2.2, hk.1.2⟩⟩⟩⟩⟩⟩⟩))⟩, ⟨(by (with_reducible repeat (first | apply Kd.N_alloc | apply Kd.N_drewN | apply Kd.N_drew)); exact Kd.N_mono (Kd.N_far (p := ⟨gb842, 1, none⟩) (Kd.N_far (p := ⟨gb842, 0, none⟩) (Kd.N_mono HO828.out (fun k_ hk => (⟨hk, hk.2⟩ : _ ∧ k_ ≠ gb842))) (fun _ hk => hk.2) (.int .i64 t837)) (fun _ hk => hk.2) (.slice Ao34 t838.length co34)) (fun _ hk => ⟨hk.1.1.1.2.1, ⟨hk.1.1.1.1, ⟨hk.1.1.1.2.2.1, ⟨hk.1.1.2, ⟨hk.1.1.1.2.2.2.1, ⟨hk.1.1.1.2.2.2.2.1, ⟨hk.1.1.1.2.2.2.2.2, hk.1.2⟩⟩⟩⟩⟩⟩⟩))⟩, ⟨(by (with_reducible repeat (first | apply Kd.N_alloc | apply Kd.N_drewN | apply Kd.N_drew)); exact Kd.N_mono (Kd.N_far (p := ⟨gb842, 1, none⟩) (Kd.N_far (p := ⟨gb842, 0, none⟩) (Kd.N_mono HO834.out (fun k_ hk => (⟨hk, hk.2⟩ : _ ∧ k_ ≠ gb842))) (fun _ hk => hk.2) (.int .i64 t837)) (fun _ hk => hk.2) (.slice Ao34 t838.length co34)) (fun _ hk => ⟨hk.1.1.1.2.1, ⟨hk.1.1.1.1, ⟨hk.1.1.1.2.2.1, ⟨hk.1.1.2, ⟨hk.1.1.1.2.2.2.1, ⟨hk.1.1.1.2.2.2.2.1, ⟨hk.1.1.1.2.2.2.2.2, hk.1.2⟩⟩⟩⟩⟩⟩⟩))⟩, ⟨(by (with_reducible repeat (first | apply Kd.N_alloc | apply Kd.N_drewN | apply Kd.N_drew)); exact Kd.N_mono (Kd.N_far (p := ⟨gb842, 1, none⟩) (Kd.N_far (p := ⟨gb842, 0, none⟩) (Kd.N_mono HO840.out (fun k_ hk => (⟨hk, hk.2⟩ : _ ∧ k_ ≠ gb842))) (fun _ hk => hk.2) (.int .i64 t837)) (fun _ hk => hk.2) (.slice Ao34 t838.length co34)) (fun _ hk => ⟨hk.1.1.1, ⟨hk.1.1.2.1, ⟨hk.1.1.2.2.1, ⟨hk.1.1.2.2.2.1, ⟨hk.1.1.2.2.2.2, hk.1.2⟩⟩⟩⟩⟩))⟩, ⟨(y1 NB829_842.out BK829.out)⟩, ⟨(y1 NB830_842.out BK830.out)⟩, ⟨(y1 NB836_842.out BK836.out)⟩, ⟨(by (with_reducible repeat (first | refine blk_drewN ?_ _ | refine blk_drew ?_ | refine blk_alloc ?_ _)); refine blk_put (cs := #[.int .i64 t837, .slice none 0 0]) ?_ 1 _ rfl; (with_reducible repeat (first | refine blk_drewN ?_ _ | refine blk_drew ?_ | refine blk_alloc ?_ _)); refine blk_put (cs := #[.int .i64 0, .slice none 0 0]) ?_ 0 _ rfl; (with_reducible repeat (first | refine blk_drewN ?_ _ | refine blk_drew ?_ | refine blk_alloc ?_ _)); exact BK842.out)⟩, ⟨(y5 HB.out GE829.out GE830.out GE836.out GE842.out)⟩⟩
     ·rw [if_neg c35] at H
      have c35b0 : (t841 != t835) = false := by simpa using c35
      (try (have c35b1 : decide (t841 = t835) = true := by simpa using c35))
      (try (have c35b2 : (t841 == t835) = true := by simpa using c35))
      clear c35
      (first | rw [c35b0] | (simp only [i64_w, i32_w]; rw [c35b0]) | rw [show (!t841 == t835) = (t841 != t835) from by cases t841 <;> cases t835 <;> rfl, c35b0] | skip)
      obtain ⟨t843, A360, H⟩ := ob H
      have A36 := Aside0.mk A360
      clear A360
      by_cases c37 : t843 = true
      ·subst c37
       rw [if_pos rfl] at H
       by_cases c38 : t841 = true
       ·subst c38
        rw [if_pos rfl] at H
        have H' := Aside0.mk H
        clear H
        have hnb39 := NB842_829.out
        have hnc39 := NB829_842.out
        have hnb40 := NB842_830.out
        have hnc40 := NB830_842.out
        have hnb41 := NB842_836.out
        have hnc41 := NB836_842.out
        have hcz42_0 := zh BK842
        have hcz42_1 := zh1 BK842
        have hfz42_0 := zfr BK842 0
        have hfz42_1 := zfr BK842 1
        have hnb43 := NB836_829.out
        have hnc43 := NB829_836.out
        have hnb44 := NB836_830.out
        have hnc44 := NB830_836.out
        have hcz45_0 := zh BK836
        have hcz45_1 := zh1 BK836
        have hfz45_0 := zfr BK836 0
        have hfz45_1 := zfr BK836 1
        go_wp2_with (first | (go_at_call 15; (with_reducible refine (laws_lhVal.calls kj2 t837 _ _ t838 t831 _ _ t832 true _ ?side1 ?side2 ?side3 ?side4 A36.out).mono ?_); (case side1 => refine (Kd.N_reads' (e := 25) (base := w.heap.size) (ok := fun k_ => ((some k_ ≠ (.slice Ao18 t822.length co18 : Value).ownBlock ∧ (some k_ ≠ (.slice Ao24 t832.length co24 : Value).ownBlock ∧ (k_ ≠ gb829 ∧ (k_ ≠ gb830 ∧ k_ ≠ gb836)))) ∧ k_ ≠ gb842)) (n := t838.length) (c := co34) ?_).2.2; exact (by (with_reducible repeat (first | apply Kd.N_alloc | apply Kd.N_drewN | apply Kd.N_drew)); exact (Kd.N_mono (Kd.N_far (p := ⟨gb842, 1, none⟩) (Kd.N_far (p := ⟨gb842, 0, none⟩) (Kd.N_mono HO840.out (fun k_ hk => (⟨hk, hk.2⟩ : _ ∧ k_ ≠ gb842))) (fun _ hk => hk.2) (.int .i64 t837)) (fun _ hk => hk.2) (.slice Ao34 t838.length co34)) (fun _ h_ => h_.1)))); (case side2 => exact (Kd.N_reads' HO840.out).2.1); (case side3 => refine (Kd.N_reads' (e := 25) (base := w.heap.size) (ok := fun k_ => (((some k_ ≠ (.slice Ao15 t819.length co15 : Value).ownBlock ∧ (some k_ ≠ (.slice Ao18 t822.length co18 : Value).ownBlock ∧ (some k_ ≠ (.slice Ao17 t826.length co17 : Value).ownBlock ∧ (k_ ≠ gb829 ∧ (k_ ≠ gb830 ∧ k_ ≠ gb836))))) ∧ some k_ ≠ (.slice Ao34 t838.length co34 : Value).ownBlock) ∧ k_ ≠ gb842)) (n := t832.length) (c := co24) ?_).2.2; exact (by (with_reducible repeat (first | apply Kd.N_alloc | apply Kd.N_drewN | apply Kd.N_drew)); exact (Kd.N_mono (Kd.N_far (p := ⟨gb842, 1, none⟩) (Kd.N_far (p := ⟨gb842, 0, none⟩) (Kd.N_mono HO834.out (fun k_ hk => (⟨hk, hk.2⟩ : _ ∧ k_ ≠ gb842))) (fun _ hk => hk.2) (.int .i64 t837)) (fun _ hk => hk.2) (.slice Ao34 t838.length co34)) (fun _ h_ => h_.1)))); (case side4 => exact (Kd.N_reads' HO834.out).2.1); rintro e w46 ⟨rfl, hb⟩; replace HO821 := Aside0.mk (Kd.N_below (by (with_reducible repeat (first | apply Kd.N_alloc | apply Kd.N_drewN | apply Kd.N_drew)); exact (Kd.N_mono (Kd.N_far (p := ⟨gb842, 1, none⟩) (Kd.N_far (p := ⟨gb842, 0, none⟩) (Kd.N_mono HO821.out (fun k_ hk => (⟨hk, hk.2⟩ : _ ∧ k_ ≠ gb842))) (fun _ hk => hk.2) (.int .i64 t837)) (fun _ hk => hk.2) (.slice Ao34 t838.length co34)) (fun _ h_ => h_.1))) hb); replace HO824 := Aside0.mk (Kd.R_below (by (with_reducible repeat (first | apply Kd.R_alloc | apply Kd.R_drewN | apply Kd.R_drew)); exact (Kd.R_mono (Kd.R_far (p := ⟨gb842, 1, none⟩) (Kd.R_far (p := ⟨gb842, 0, none⟩) (Kd.R_types HO824.out BK842.out (by decide)) (fun _ hk => hk.2) (.int .i64 t837)) (fun _ hk => hk.2) (.slice Ao34 t838.length co34)) (fun _ h_ => h_.1))) hb); replace HO828 := Aside0.mk (Kd.N_below (by (with_reducible repeat (first | apply Kd.N_alloc | apply Kd.N_drewN | apply Kd.N_drew)); exact (Kd.N_mono (Kd.N_far (p := ⟨gb842, 1, none⟩) (Kd.N_far (p := ⟨gb842, 0, none⟩) (Kd.N_mono HO828.out (fun k_ hk => (⟨hk, hk.2⟩ : _ ∧ k_ ≠ gb842))) (fun _ hk => hk.2) (.int .i64 t837)) (fun _ hk => hk.2) (.slice Ao34 t838.length co34)) (fun _ h_ => h_.1))) hb); replace HO834 := Aside0.mk (Kd.N_below (by (with_reducible repeat (first | apply Kd.N_alloc | apply Kd.N_drewN | apply Kd.N_drew)); exact (Kd.N_mono (Kd.N_far (p := ⟨gb842, 1, none⟩) (Kd.N_far (p := ⟨gb842, 0, none⟩) (Kd.N_mono HO834.out (fun k_ hk => (⟨hk, hk.2⟩ : _ ∧ k_ ≠ gb842))) (fun _ hk => hk.2) (.int .i64 t837)) (fun _ hk => hk.2) (.slice Ao34 t838.length co34)) (fun _ h_ => h_.1))) hb); replace HO840 := Aside0.mk (Kd.N_below (by (with_reducible repeat (first | apply Kd.N_alloc | apply Kd.N_drewN | apply Kd.N_drew)); exact (Kd.N_mono (Kd.N_far (p := ⟨gb842, 1, none⟩) (Kd.N_far (p := ⟨gb842, 0, none⟩) (Kd.N_mono HO840.out (fun k_ hk => (⟨hk, hk.2⟩ : _ ∧ k_ ≠ gb842))) (fun _ hk => hk.2) (.int .i64 t837)) (fun _ hk => hk.2) (.slice Ao34 t838.length co34)) (fun _ h_ => h_.1))) hb); replace BK829 := Aside0.mk (blk_below (g := gb829) (o := .cells #[.int .i64 t818, .slice Ao15 t819.length co15] 25 (0, 0)) (y1 NB829_842.out BK829.out) hb); replace BK830 := Aside0.mk (blk_below (g := gb830) (o := .cells #[.int .i64 t825, .slice Ao17 t826.length co17] 25 (0, 0)) (y1 NB830_842.out BK830.out) hb); replace BK836 := Aside0.mk (blk_below (g := gb836) (o := .cells #[.int .i64 t831, .slice Ao24 t832.length co24] 25 (0, 0)) (y1 NB836_842.out BK836.out) hb); replace BK842 := Aside0.mk (blk_below (g := gb842) (o := .cells #[.int .i64 t837, .slice Ao34 t838.length co34] 25 (0, 0)) (by (with_reducible repeat (first | refine blk_drewN ?_ _ | refine blk_drew ?_ | refine blk_alloc ?_ _)); refine blk_put (cs := #[.int .i64 t837, .slice none 0 0]) ?_ 1 _ rfl; (with_reducible repeat (first | refine blk_drewN ?_ _ | refine blk_drew ?_ | refine blk_alloc ?_ _)); apply blk_put (i := 0); (case h => exact y0 BK842.out); (case e => rfl)) hb); replace HB := Aside0.mk (below_step (y5 HB.out GE829.out GE830.out GE836.out GE842.out) hb); (try clear hb); (try clear hb2); (try clear hk); (try clear hi)))
        go_meet
        case rel => exact ⟨_, (((t822.length : Int) == 0)), y29, H', ⟨(y100 HJ2.out)⟩, ⟨(y8 HO824.out)⟩, ⟨(y45 HO821.out)⟩, ⟨(y39 HO828.out)⟩, ⟨(y39 HO834.out)⟩, ⟨(y49 HO840.out)⟩, ⟨(y0 BK829.out)⟩, ⟨(y0 BK830.out)⟩, ⟨(y0 BK836.out)⟩, ⟨(y0 BK842.out)⟩, ⟨(y5 HB.out GE829.out GE830.out GE836.out GE842.out)⟩⟩
       ·replace c38 := Bool.eq_false_iff.mpr c38
        subst c38
        rw [if_neg (show ¬ (false = true) by decide)] at H
        have H' := Aside0.mk H
        clear H
        have hnb47 := NB842_829.out
        have hnc47 := NB829_842.out
        have hnb48 := NB842_830.out
        have hnc48 := NB830_842.out
        have hnb49 := NB842_836.out
        have hnc49 := NB836_842.out
        have hcz50_0 := zh BK842
        have hcz50_1 := zh1 BK842
        have hfz50_0 := zfr BK842 0
        have hfz50_1 := zfr BK842 1
        have hnb51 := NB836_829.out
        have hnc51 := NB829_836.out
        have hnb52 := NB836_830.out
        have hnc52 := NB830_836.out
        have hcz53_0 := zh BK836
        have hcz53_1 := zh1 BK836
        have hfz53_0 := zfr BK836 0
        have hfz53_1 := zfr BK836 1
        go_wp2_with (first | (go_at_call 15; (with_reducible refine (laws_lhVal.calls kj2 t837 _ _ t838 t831 _ _ t832 true _ ?side1 ?side2 ?side3 ?side4 A36.out).mono ?_); (case side1 => refine (Kd.N_reads' (e := 25) (base := w.heap.size) (ok := fun k_ => ((some k_ ≠ (.slice Ao18 t822.length co18 : Value).ownBlock ∧ (some k_ ≠ (.slice Ao24 t832.length co24 : Value).ownBlock ∧ (k_ ≠ gb829 ∧ (k_ ≠ gb830 ∧ k_ ≠ gb836)))) ∧ k_ ≠ gb842)) (n := t838.length) (c := co34) ?_).2.2; exact (by (with_reducible repeat (first | apply Kd.N_alloc | apply Kd.N_drewN | apply Kd.N_drew)); exact (Kd.N_mono (Kd.N_far (p := ⟨gb842, 1, none⟩) (Kd.N_far (p := ⟨gb842, 0, none⟩) (Kd.N_mono HO840.out (fun k_ hk => (⟨hk, hk.2⟩ : _ ∧ k_ ≠ gb842))) (fun _ hk => hk.2) (.int .i64 t837)) (fun _ hk => hk.2) (.slice Ao34 t838.length co34)) (fun _ h_ => h_.1)))); (case side2 => exact (Kd.N_reads' HO840.out).2.1); (case side3 => refine (Kd.N_reads' (e := 25) (base := w.heap.size) (ok := fun k_ => (((some k_ ≠ (.slice Ao15 t819.length co15 : Value).ownBlock ∧ (some k_ ≠ (.slice Ao18 t822.length co18 : Value).ownBlock ∧ (some k_ ≠ (.slice Ao17 t826.length co17 : Value).ownBlock ∧ (k_ ≠ gb829 ∧ (k_ ≠ gb830 ∧ k_ ≠ gb836))))) ∧ some k_ ≠ (.slice Ao34 t838.length co34 : Value).ownBlock) ∧ k_ ≠ gb842)) (n := t832.length) (c := co24) ?_).2.2; exact (by (with_reducible repeat (first | apply Kd.N_alloc | apply Kd.N_drewN | apply Kd.N_drew)); exact (Kd.N_mono (Kd.N_far (p := ⟨gb842, 1, none⟩) (Kd.N_far (p := ⟨gb842, 0, none⟩) (Kd.N_mono HO834.out (fun k_ hk => (⟨hk, hk.2⟩ : _ ∧ k_ ≠ gb842))) (fun _ hk => hk.2) (.int .i64 t837)) (fun _ hk => hk.2) (.slice Ao34 t838.length co34)) (fun _ h_ => h_.1)))); (case side4 => exact (Kd.N_reads' HO834.out).2.1); rintro e w54 ⟨rfl, hb⟩; replace HO821 := Aside0.mk (Kd.N_below (by (with_reducible repeat (first | apply Kd.N_alloc | apply Kd.N_drewN | apply Kd.N_drew)); exact (Kd.N_mono (Kd.N_far (p := ⟨gb842, 1, none⟩) (Kd.N_far (p := ⟨gb842, 0, none⟩) (Kd.N_mono HO821.out (fun k_ hk => (⟨hk, hk.2⟩ : _ ∧ k_ ≠ gb842))) (fun _ hk => hk.2) (.int .i64 t837)) (fun _ hk => hk.2) (.slice Ao34 t838.length co34)) (fun _ h_ => h_.1))) hb); replace HO824 := Aside0.mk (Kd.R_below (by (with_reducible repeat (first | apply Kd.R_alloc | apply Kd.R_drewN | apply Kd.R_drew)); exact (Kd.R_mono (Kd.R_far (p := ⟨gb842, 1, none⟩) (Kd.R_far (p := ⟨gb842, 0, none⟩) (Kd.R_types HO824.out BK842.out (by decide)) (fun _ hk => hk.2) (.int .i64 t837)) (fun _ hk => hk.2) (.slice Ao34 t838.length co34)) (fun _ h_ => h_.1))) hb); replace HO828 := Aside0.mk (Kd.N_below (by (with_reducible repeat (first | apply Kd.N_alloc | apply Kd.N_drewN | apply Kd.N_drew)); exact (Kd.N_mono (Kd.N_far (p := ⟨gb842, 1, none⟩) (Kd.N_far (p := ⟨gb842, 0, none⟩) (Kd.N_mono HO828.out (fun k_ hk => (⟨hk, hk.2⟩ : _ ∧ k_ ≠ gb842))) (fun _ hk => hk.2) (.int .i64 t837)) (fun _ hk => hk.2) (.slice Ao34 t838.length co34)) (fun _ h_ => h_.1))) hb); replace HO834 := Aside0.mk (Kd.N_below (by (with_reducible repeat (first | apply Kd.N_alloc | apply Kd.N_drewN | apply Kd.N_drew)); exact (Kd.N_mono (Kd.N_far (p := ⟨gb842, 1, none⟩) (Kd.N_far (p := ⟨gb842, 0, none⟩) (Kd.N_mono HO834.out (fun k_ hk => (⟨hk, hk.2⟩ : _ ∧ k_ ≠ gb842))) (fun _ hk => hk.2) (.int .i64 t837)) (fun _ hk => hk.2) (.slice Ao34 t838.length co34)) (fun _ h_ => h_.1))) hb); replace HO840 := Aside0.mk (Kd.N_below (by (with_reducible repeat (first | apply Kd.N_alloc | apply Kd.N_drewN | apply Kd.N_drew)); exact (Kd.N_mono (Kd.N_far (p := ⟨gb842, 1, none⟩) (Kd.N_far (p := ⟨gb842, 0, none⟩) (Kd.N_mono HO840.out (fun k_ hk => (⟨hk, hk.2⟩ : _ ∧ k_ ≠ gb842))) (fun _ hk => hk.2) (.int .i64 t837)) (fun _ hk => hk.2) (.slice Ao34 t838.length co34)) (fun _ h_ => h_.1))) hb); replace BK829 := Aside0.mk (blk_below (g := gb829) (o := .cells #[.int .i64 t818, .slice Ao15 t819.length co15] 25 (0, 0)) (y1 NB829_842.out BK829.out) hb); replace BK830 := Aside0.mk (blk_below (g := gb830) (o := .cells #[.int .i64 t825, .slice Ao17 t826.length co17] 25 (0, 0)) (y1 NB830_842.out BK830.out) hb); replace BK836 := Aside0.mk (blk_below (g := gb836) (o := .cells #[.int .i64 t831, .slice Ao24 t832.length co24] 25 (0, 0)) (y1 NB836_842.out BK836.out) hb); replace BK842 := Aside0.mk (blk_below (g := gb842) (o := .cells #[.int .i64 t837, .slice Ao34 t838.length co34] 25 (0, 0)) (by (with_reducible repeat (first | refine blk_drewN ?_ _ | refine blk_drew ?_ | refine blk_alloc ?_ _)); refine blk_put (cs := #[.int .i64 t837, .slice none 0 0]) ?_ 1 _ rfl; (with_reducible repeat (first | refine blk_drewN ?_ _ | refine blk_drew ?_ | refine blk_alloc ?_ _)); apply blk_put (i := 0); (case h => exact y0 BK842.out); (case e => rfl)) hb); replace HB := Aside0.mk (below_step (y5 HB.out GE829.out GE830.out GE836.out GE842.out) hb); (try clear hb); (try clear hb2); (try clear hk); (try clear hi)))
        go_meet
        case rel => exact ⟨_, (true), y29, H', ⟨(y100 HJ2.out)⟩, ⟨(y8 HO824.out)⟩, ⟨(y45 HO821.out)⟩, ⟨(y39 HO828.out)⟩, ⟨(y39 HO834.out)⟩, ⟨(y49 HO840.out)⟩, ⟨(y0 BK829.out)⟩, ⟨(y0 BK830.out)⟩, ⟨(y0 BK836.out)⟩, ⟨(y0 BK842.out)⟩, ⟨(y5 HB.out GE829.out GE830.out GE836.out GE842.out)⟩⟩
      ·replace c37 := Bool.eq_false_iff.mpr c37
       subst c37
       rw [if_neg (show ¬ (false = true) by decide)] at H
       have H' := Aside0.mk H
       clear H
       have hnb55 := NB842_829.out
       have hnc55 := NB829_842.out
       have hnb56 := NB842_830.out
       have hnc56 := NB830_842.out
       have hnb57 := NB842_836.out
       have hnc57 := NB836_842.out
       have hcz58_0 := zh BK842
       have hcz58_1 := zh1 BK842
       have hfz58_0 := zfr BK842 0
       have hfz58_1 := zfr BK842 1
       have hnb59 := NB836_829.out
       have hnc59 := NB829_836.out
       have hnb60 := NB836_830.out
       have hnc60 := NB830_836.out
       have hcz61_0 := zh BK836
       have hcz61_1 := zh1 BK836
       have hfz61_0 := zfr BK836 0
       have hfz61_1 := zfr BK836 1
       go_wp2_with (first | (go_at_call 15; (with_reducible refine (laws_lhVal.calls kj2 t837 _ _ t838 t831 _ _ t832 false _ ?side1 ?side2 ?side3 ?side4 A36.out).mono ?_); (case side1 => refine (Kd.N_reads' (e := 25) (base := w.heap.size) (ok := fun k_ => ((some k_ ≠ (.slice Ao18 t822.length co18 : Value).ownBlock ∧ (some k_ ≠ (.slice Ao24 t832.length co24 : Value).ownBlock ∧ (k_ ≠ gb829 ∧ (k_ ≠ gb830 ∧ k_ ≠ gb836)))) ∧ k_ ≠ gb842)) (n := t838.length) (c := co34) ?_).2.2; exact (by (with_reducible repeat (first | apply Kd.N_alloc | apply Kd.N_drewN | apply Kd.N_drew)); exact (Kd.N_mono (Kd.N_far (p := ⟨gb842, 1, none⟩) (Kd.N_far (p := ⟨gb842, 0, none⟩) (Kd.N_mono HO840.out (fun k_ hk => (⟨hk, hk.2⟩ : _ ∧ k_ ≠ gb842))) (fun _ hk => hk.2) (.int .i64 t837)) (fun _ hk => hk.2) (.slice Ao34 t838.length co34)) (fun _ h_ => h_.1)))); (case side2 => exact (Kd.N_reads' HO840.out).2.1); (case side3 => refine (Kd.N_reads' (e := 25) (base := w.heap.size) (ok := fun k_ => (((some k_ ≠ (.slice Ao15 t819.length co15 : Value).ownBlock ∧ (some k_ ≠ (.slice Ao18 t822.length co18 : Value).ownBlock ∧ (some k_ ≠ (.slice Ao17 t826.length co17 : Value).ownBlock ∧ (k_ ≠ gb829 ∧ (k_ ≠ gb830 ∧ k_ ≠ gb836))))) ∧ some k_ ≠ (.slice Ao34 t838.length co34 : Value).ownBlock) ∧ k_ ≠ gb842)) (n := t832.length) (c := co24) ?_).2.2; exact (by (with_reducible repeat (first | apply Kd.N_alloc | apply Kd.N_drewN | apply Kd.N_drew)); exact (Kd.N_mono (Kd.N_far (p := ⟨gb842, 1, none⟩) (Kd.N_far (p := ⟨gb842, 0, none⟩) (Kd.N_mono HO834.out (fun k_ hk => (⟨hk, hk.2⟩ : _ ∧ k_ ≠ gb842))) (fun _ hk => hk.2) (.int .i64 t837)) (fun _ hk => hk.2) (.slice Ao34 t838.length co34)) (fun _ h_ => h_.1)))); (case side4 => exact (Kd.N_reads' HO834.out).2.1); rintro e w62 ⟨rfl, hb⟩; replace HO821 := Aside0.mk (Kd.N_below (by (with_reducible repeat (first | apply Kd.N_alloc | apply Kd.N_drewN | apply Kd.N_drew)); exact (Kd.N_mono (Kd.N_far (p := ⟨gb842, 1, none⟩) (Kd.N_far (p := ⟨gb842, 0, none⟩) (Kd.N_mono HO821.out (fun k_ hk => (⟨hk, hk.2⟩ : _ ∧ k_ ≠ gb842))) (fun _ hk => hk.2) (.int .i64 t837)) (fun _ hk => hk.2) (.slice Ao34 t838.length co34)) (fun _ h_ => h_.1))) hb); replace HO824 := Aside0.mk (Kd.R_below (by (with_reducible repeat (first | apply Kd.R_alloc | apply Kd.R_drewN | apply Kd.R_drew)); exact (Kd.R_mono (Kd.R_far (p := ⟨gb842, 1, none⟩) (Kd.R_far (p := ⟨gb842, 0, none⟩) (Kd.R_types HO824.out BK842.out (by decide)) (fun _ hk => hk.2) (.int .i64 t837)) (fun _ hk => hk.2) (.slice Ao34 t838.length co34)) (fun _ h_ => h_.1))) hb); replace HO828 := Aside0.mk (Kd.N_below (by (with_reducible repeat (first | apply Kd.N_alloc | apply Kd.N_drewN | apply Kd.N_drew)); exact (Kd.N_mono (Kd.N_far (p := ⟨gb842, 1, none⟩) (Kd.N_far (p := ⟨gb842, 0, none⟩) (Kd.N_mono HO828.out (fun k_ hk => (⟨hk, hk.2⟩ : _ ∧ k_ ≠ gb842))) (fun _ hk => hk.2) (.int .i64 t837)) (fun _ hk => hk.2) (.slice Ao34 t838.length co34)) (fun _ h_ => h_.1))) hb); replace HO834 := Aside0.mk (Kd.N_below (by (with_reducible repeat (first | apply Kd.N_alloc | apply Kd.N_drewN | apply Kd.N_drew)); exact (Kd.N_mono (Kd.N_far (p := ⟨gb842, 1, none⟩) (Kd.N_far (p := ⟨gb842, 0, none⟩) (Kd.N_mono HO834.out (fun k_ hk => (⟨hk, hk.2⟩ : _ ∧ k_ ≠ gb842))) (fun _ hk => hk.2) (.int .i64 t837)) (fun _ hk => hk.2) (.slice Ao34 t838.length co34)) (fun _ h_ => h_.1))) hb); replace HO840 := Aside0.mk (Kd.N_below (by (with_reducible repeat (first | apply Kd.N_alloc | apply Kd.N_drewN | apply Kd.N_drew)); exact (Kd.N_mono (Kd.N_far (p := ⟨gb842, 1, none⟩) (Kd.N_far (p := ⟨gb842, 0, none⟩) (Kd.N_mono HO840.out (fun k_ hk => (⟨hk, hk.2⟩ : _ ∧ k_ ≠ gb842))) (fun _ hk => hk.2) (.int .i64 t837)) (fun _ hk => hk.2) (.slice Ao34 t838.length co34)) (fun _ h_ => h_.1))) hb); replace BK829 := Aside0.mk (blk_below (g := gb829) (o := .cells #[.int .i64 t818, .slice Ao15 t819.length co15] 25 (0, 0)) (y1 NB829_842.out BK829.out) hb); replace BK830 := Aside0.mk (blk_below (g := gb830) (o := .cells #[.int .i64 t825, .slice Ao17 t826.length co17] 25 (0, 0)) (y1 NB830_842.out BK830.out) hb); replace BK836 := Aside0.mk (blk_below (g := gb836) (o := .cells #[.int .i64 t831, .slice Ao24 t832.length co24] 25 (0, 0)) (y1 NB836_842.out BK836.out) hb); replace BK842 := Aside0.mk (blk_below (g := gb842) (o := .cells #[.int .i64 t837, .slice Ao34 t838.length co34] 25 (0, 0)) (by (with_reducible repeat (first | refine blk_drewN ?_ _ | refine blk_drew ?_ | refine blk_alloc ?_ _)); refine blk_put (cs := #[.int .i64 t837, .slice none 0 0]) ?_ 1 _ rfl; (with_reducible repeat (first | refine blk_drewN ?_ _ | refine blk_drew ?_ | refine blk_alloc ?_ _)); apply blk_put (i := 0); (case h => exact y0 BK842.out); (case e => rfl)) hb); replace HB := Aside0.mk (below_step (y5 HB.out GE829.out GE830.out GE836.out GE842.out) hb); (try clear hb); (try clear hb2); (try clear hk); (try clear hi)))
       go_meet
       case rel => exact ⟨_, (true), y29, H', ⟨(y100 HJ2.out)⟩, ⟨(y8 HO824.out)⟩, ⟨(y45 HO821.out)⟩, ⟨(y39 HO828.out)⟩, ⟨(y39 HO834.out)⟩, ⟨(y49 HO840.out)⟩, ⟨(y0 BK829.out)⟩, ⟨(y0 BK830.out)⟩, ⟨(y0 BK836.out)⟩, ⟨(y0 BK842.out)⟩, ⟨(y5 HB.out GE829.out GE830.out GE836.out GE842.out)⟩⟩
    case rest =>
     clear HC9
     try clear c1
     try clear c2
     try clear p2
     try clear c3
     try clear c4
     try clear c4b0
     try clear c4b1
     try clear c5
     try clear c6
     try clear c7
     try clear c13
     try clear c21
     try clear c22
     try clear c24
     try clear c25
     try clear c26
     try clear c30
     try clear c31
     try clear c32
     try clear c35
     try clear c35b0
     try clear c35b1
     try clear c35b2
     try clear c37
     try clear c38
     try clear c39
     try clear c40
     try clear c41
     try clear c43
     try clear c44
     try clear c47
     try clear c48
     try clear c49
     try clear c51
     try clear c52
     try clear c55
     try clear c56
     try clear c57
     try clear c59
     try clear c60
     try clear hcz14_0
     try clear hcz14_1
     try clear hcz16_0
     try clear hcz16_1
     try clear hcz23_0
     try clear hcz23_1
     try clear hcz26_0
     try clear hcz26_1
     try clear hcz27_0
     try clear hcz27_1
     try clear hcz33_0
     try clear hcz33_1
     try clear hcz42_0
     try clear hcz42_1
     try clear hcz45_0
     try clear hcz45_1
     try clear hcz50_0
     try clear hcz50_1
     try clear hcz53_0
     try clear hcz53_1
     try clear hcz58_0
     try clear hcz58_1
     try clear hcz61_0
     try clear hcz61_1
     try clear hfz14_0
     try clear hfz14_1
     try clear hfz16_0
     try clear hfz16_1
     try clear hfz23_0
     try clear hfz23_1
     try clear hfz26_0
     try clear hfz26_1
     try clear hfz27_0
     try clear hfz27_1
     try clear hfz33_0
     try clear hfz33_1
     try clear hfz42_0
     try clear hfz42_1
     try clear hfz45_0
     try clear hfz45_1
     try clear hfz50_0
     try clear hfz50_1
     try clear hfz53_0
     try clear hfz53_1
     try clear hfz58_0
     try clear hfz58_1
     try clear hfz61_0
     try clear hfz61_1
     try clear p2
     obtain ⟨kq, x63_8, rfl, HA, HJ8, HO_6, HO_830001, HO_831001, HO_837001, HO_843001, BK829, BK830, BK836, BK842, HB⟩ := hcut
     cases kq with
     | zero => exact absurd HA.out (by simp [laws_FnValOther.j1])
     | succ kj8 =>
      have H := HA.out
      clear HA
      simp only [laws_FnValOther.j1] at H
      by_cases c63 : x63_8 = true
      ·subst c63
       rw [if_pos rfl] at H
       by_cases c64 : (t841 == t835) = true
       ·rw [if_pos c64] at H
        have c64b0 : (t841 == t835) = true := c64
        (try (have c64b1 : decide (t841 = t835) = true := by simpa using c64))
        (try (have c64b2 : (t841 == t835) = true := by simpa using c64))
        clear c64
        obtain ⟨t844, A650, H⟩ := ob H
        have A65 := Aside0.mk A650
        clear A650
        clear hr_
        obtain rfl := Option.some.inj H
        have hnb66 := NB842_829.out
        have hnc66 := NB829_842.out
        have hnb67 := NB842_830.out
        have hnc67 := NB830_842.out
        have hnb68 := NB842_836.out
        have hnc68 := NB836_842.out
        have hcz69_0 := zh BK842
        have hcz69_1 := zh1 BK842
        have hfz69_0 := zfr BK842 0
        have hfz69_1 := zfr BK842 1
        have hnb70 := NB836_829.out
        have hnc70 := NB829_836.out
        have hnb71 := NB836_830.out
        have hnc71 := NB830_836.out
        have hcz72_0 := zh BK836
        have hcz72_1 := zh1 BK836
        have hfz72_0 := zfr BK836 0
        have hfz72_1 := zfr BK836 1
        go_wp2_with (first | (go_at_call 15; (with_reducible refine (laws_lhVal.calls kj8 t837 _ _ t838 t831 _ _ t832 t844 _ ?side1 ?side2 ?side3 ?side4 A65.out).mono ?_); (case side1 => exact y36 HO_843001.out); (case side2 => exact (Kd.N_reads' HO_843001.out).2.1); (case side3 => exact y36 HO_837001.out); (case side4 => exact (Kd.N_reads' HO_837001.out).2.1); rintro e w73 ⟨rfl, hb⟩; replace HO_6 := Aside0.mk (Kd.R_below (y8 HO_6.out) hb); replace HO_830001 := Aside0.mk (Kd.N_below (y2 HO_830001.out) hb); replace HO_831001 := Aside0.mk (Kd.N_below (y2 HO_831001.out) hb); replace HO_837001 := Aside0.mk (Kd.N_below (y2 HO_837001.out) hb); replace HO_843001 := Aside0.mk (Kd.N_below (y2 HO_843001.out) hb); replace BK829 := zbb BK829 hb; replace BK830 := zbb BK830 hb; replace BK836 := zbb BK836 hb; replace BK842 := zbb BK842 hb; replace HB := Aside0.mk (below_step (y5 HB.out GE829.out GE830.out GE836.out GE842.out) hb); (try clear hb); (try clear hb2); (try clear hk); (try clear hi)))
        go_ret
        exact ⟨y15, (y5 HB.out GE829.out GE830.out GE836.out GE842.out)⟩
       ·rw [if_neg c64] at H
        have c64b0 : (t841 == t835) = false := by simpa using c64
        (try (have c64b1 : decide (t841 = t835) = false := by simpa using c64))
        (try (have c64b2 : (t841 == t835) = false := by simpa using c64))
        (try (have c64b3 : ¬ (t841 = t835) := by simpa using c64))
        clear c64
        exact absurd ((Option.some.inj H).trans hr_.out) (by decide)
      ·replace c63 := Bool.eq_false_iff.mpr c63
       subst c63
       rw [if_neg (show ¬ (false = true) by decide)] at H
       by_cases c74 : (t822.length : Int) = 0
       ·rw [if_pos c74] at H
        exact absurd H (by simp)
       ·rw [if_neg c74] at H
        have c74b0 : ((t822.length : Int) == 0) = false := beq_eq_false_iff_ne.mpr c74
        have c74b1 : ((t822.length : Int) != 0) = true := bne_iff_ne.mpr c74
        have c74b2 : ¬ (t822 = []) := fun h_ => c74 (by rw [h_]; rfl)
        obtain ⟨y845, hy845⟩ : ∃ y_ : List Int, y_ = (([] : List Int)) := ⟨_, rfl⟩
        replace H : (if 0 ≤ ((l1.length : Int) % (t822.length : Int)) then (if ((l1.length : Int) % (t822.length : Int)) ≤ (t822.length : Int) then ((some (t822.take (((l1.length : Int) % (t822.length : Int)) : Int).toNat : List Int)).bind fun y848 => (if y845.length + y848.length < 17592186044416 then ((some (y845 ++ y848 : List Int)).bind fun y853 => (if ((l1.length : Int) % (t822.length : Int)) < (t822.length : Int) then ((some (([wrap64 (1 - (rd t822 ((l1.length : Int) % (t822.length : Int))))] : List Int) : List Int)).bind fun y857 => (if y853.length + y857.length < 17592186044416 then ((some (y853 ++ y857 : List Int)).bind fun y860 => ((impl_ValAt.f kj8 t818 t819 y860).bind fun bt863 => ((impl_ValAt.f kj8 t837 t838 y860).bind fun bt869 => (if bt863.2.2 = true then (if bt869.2.2 = true then ((laws_lhVal.f kj8 bt863.1 bt863.2.1 bt869.1 bt869.2.1).bind fun t875 => (some t875)) else (some false)) else (some false))))) else (none))) else (none))) else (none))) else (none)) else (none)) = some r := by first | (rw [hy845]; with_reducible exact H) | (have H2_ := (Option.bind_some _ _).symm.trans H; rw [hy845]; with_reducible exact H2_) | (have H2_ := (Option.bind_some _ _).symm.trans H; with_reducible exact H2_) | with_reducible exact H | (rw [hy845]; exact H) | exact H
        have Ny845 := Aside0.mk hy845
        clear hy845
        obtain ⟨ji75, hji75⟩ : ∃ j_ : Int, ((l1.length : Int) % (t822.length : Int)) = j_ := ⟨_, rfl⟩
        replace H : (if 0 ≤ (ji75) then (if (ji75) ≤ (t822.length : Int) then ((some (t822.take ((ji75) : Int).toNat : List Int)).bind fun y848 => (if y845.length + y848.length < 17592186044416 then ((some (y845 ++ y848 : List Int)).bind fun y853 => (if (ji75) < (t822.length : Int) then ((some (([wrap64 (1 - (rd t822 (ji75)))] : List Int) : List Int)).bind fun y857 => (if y853.length + y857.length < 17592186044416 then ((some (y853 ++ y857 : List Int)).bind fun y860 => ((impl_ValAt.f kj8 t818 t819 y860).bind fun bt863 => ((impl_ValAt.f kj8 t837 t838 y860).bind fun bt869 => (if bt863.2.2 = true then (if bt869.2.2 = true then ((laws_lhVal.f kj8 bt863.1 bt863.2.1 bt869.1 bt869.2.1).bind fun t875 => (some t875)) else (some false)) else (some false))))) else (none))) else (none))) else (none))) else (none)) else (none)) = some r := by first | (rw [hji75] at H; exact H) | (simp only [hji75] at H ⊢; exact H)
        by_cases c76 : 0 ≤ (ji75)
        ·rw [if_pos c76] at H
         have c76b0 := eq_true c76
         have c76b1 : decide (0 ≤ (ji75)) = true := decide_eq_true c76
         clear c76
         by_cases c77 : (ji75) ≤ (t822.length : Int)
         ·rw [if_pos c77] at H
          have c77b0 := eq_true c77
          have c77b1 : decide ((ji75) ≤ (t822.length : Int)) = true := decide_eq_true c77
          clear c77
          obtain ⟨y848, hy848⟩ : ∃ y_ : List Int, y_ = (t822.take ((ji75) : Int).toNat) := ⟨_, rfl⟩
          replace H : (if y845.length + y848.length < 17592186044416 then ((some (y845 ++ y848 : List Int)).bind fun y853 => (if (ji75) < (t822.length : Int) then ((some (([wrap64 (1 - (rd t822 (ji75)))] : List Int) : List Int)).bind fun y857 => (if y853.length + y857.length < 17592186044416 then ((some (y853 ++ y857 : List Int)).bind fun y860 => ((impl_ValAt.f kj8 t818 t819 y860).bind fun bt863 => ((impl_ValAt.f kj8 t837 t838 y860).bind fun bt869 => (if bt863.2.2 = true then (if bt869.2.2 = true then ((laws_lhVal.f kj8 bt863.1 bt863.2.1 bt869.1 bt869.2.1).bind fun t875 => (some t875)) else (some false)) else (some false))))) else (none))) else (none))) else (none)) = some r := by first | (rw [hy848]; with_reducible exact H) | (have H2_ := (Option.bind_some _ _).symm.trans H; rw [hy848]; with_reducible exact H2_) | (have H2_ := (Option.bind_some _ _).symm.trans H; with_reducible exact H2_) | with_reducible exact H | (rw [hy848]; exact H) | exact H
          have Ny848 := Aside0.mk hy848
          clear hy848
          by_cases c78 : y845.length + y848.length < 17592186044416
          ·rw [if_pos c78] at H
           have LMc78 := Aside0.mk c78
           clear c78
           obtain ⟨y853, hy853⟩ : ∃ y_ : List Int, y_ = (y845 ++ y848) := ⟨_, rfl⟩
           replace H : (if (ji75) < (t822.length : Int) then ((some (([wrap64 (1 - (rd t822 (ji75)))] : List Int) : List Int)).bind fun y857 => (if y853.length + y857.length < 17592186044416 then ((some (y853 ++ y857 : List Int)).bind fun y860 => ((impl_ValAt.f kj8 t818 t819 y860).bind fun bt863 => ((impl_ValAt.f kj8 t837 t838 y860).bind fun bt869 => (if bt863.2.2 = true then (if bt869.2.2 = true then ((laws_lhVal.f kj8 bt863.1 bt863.2.1 bt869.1 bt869.2.1).bind fun t875 => (some t875)) else (some false)) else (some false))))) else (none))) else (none)) = some r := by first | (rw [hy853]; with_reducible exact H) | (have H2_ := (Option.bind_some _ _).symm.trans H; rw [hy853]; with_reducible exact H2_) | (have H2_ := (Option.bind_some _ _).symm.trans H; with_reducible exact H2_) | with_reducible exact H | (rw [hy853]; exact H) | exact H
           have Ny853 := Aside0.mk hy853
           clear hy853
           by_cases c79 : (ji75) < (t822.length : Int)
           ·rw [if_pos c79] at H
            have c79b0 : decide ((ji75) < (t822.length : Int)) = true := decide_eq_true c79
            clear c79
            obtain ⟨y857, hy857⟩ : ∃ y_ : List Int, y_ = (([wrap64 (1 - (rd t822 (ji75)))] : List Int)) := ⟨_, rfl⟩
            replace H : (if y853.length + y857.length < 17592186044416 then ((some (y853 ++ y857 : List Int)).bind fun y860 => ((impl_ValAt.f kj8 t818 t819 y860).bind fun bt863 => ((impl_ValAt.f kj8 t837 t838 y860).bind fun bt869 => (if bt863.2.2 = true then (if bt869.2.2 = true then ((laws_lhVal.f kj8 bt863.1 bt863.2.1 bt869.1 bt869.2.1).bind fun t875 => (some t875)) else (some false)) else (some false))))) else (none)) = some r := by first | (rw [hy857]; with_reducible exact H) | (have H2_ := (Option.bind_some _ _).symm.trans H; rw [hy857]; with_reducible exact H2_) | (have H2_ := (Option.bind_some _ _).symm.trans H; with_reducible exact H2_) | with_reducible exact H | (rw [hy857]; exact H) | exact H
            have Ny857 := Aside0.mk hy857
            clear hy857
            by_cases c80 : y853.length + y857.length < 17592186044416
            ·rw [if_pos c80] at H
             have LMc80 := Aside0.mk c80
             clear c80
             obtain ⟨y860, hy860⟩ : ∃ y_ : List Int, y_ = (y853 ++ y857) := ⟨_, rfl⟩
             replace H : ((impl_ValAt.f kj8 t818 t819 y860).bind fun bt863 => ((impl_ValAt.f kj8 t837 t838 y860).bind fun bt869 => (if bt863.2.2 = true then (if bt869.2.2 = true then ((laws_lhVal.f kj8 bt863.1 bt863.2.1 bt869.1 bt869.2.1).bind fun t875 => (some t875)) else (some false)) else (some false)))) = some r := by first | (rw [hy860]; with_reducible exact H) | (have H2_ := (Option.bind_some _ _).symm.trans H; rw [hy860]; with_reducible exact H2_) | (have H2_ := (Option.bind_some _ _).symm.trans H; with_reducible exact H2_) | with_reducible exact H | (rw [hy860]; exact H) | exact H
             have Ny860 := Aside0.mk hy860
             clear hy860
             have HZ81 := Aside0.mk H
             clear H
             try go_wp2
             replace HO_6 := Aside0.mk (Kd.R_drew HO_6.out)
             replace HO_830001 := Aside0.mk (Kd.N_drew HO_830001.out)
             replace HO_831001 := Aside0.mk (Kd.N_drew HO_831001.out)
             replace HO_837001 := Aside0.mk (Kd.N_drew HO_837001.out)
             replace HO_843001 := Aside0.mk (Kd.N_drew HO_843001.out)
             replace BK829 := Aside0.mk (blk_drew BK829.out)
             replace BK830 := Aside0.mk (blk_drew BK830.out)
             replace BK836 := Aside0.mk (blk_drew BK836.out)
             replace BK842 := Aside0.mk (blk_drew BK842.out)
             replace HB := Aside0.mk (below_drew1 HB.out)
             have q83 : ((ji75) : Int) ≤ ((t822.length : Int) : Int) := of_decide_eq_true y23
             obtain ⟨i083, hi083, _, hsz83, _⟩ := info_parts info3
             have hroom83 : t822.length ≤ co18 := (Kd.R_reads' HO_6.out).2.1
             have hC83 : Kd.F (Kd.int .i64) _ _ Ao18 t822.length t822 := (Kd.V_at (base := w.heap.size) (Kd.R_V (Kd.R_types (Kd.R_types (Kd.R_types (Kd.R_types (Kd.R_apart' (Kd.R_apart' (Kd.R_apart' (Kd.R_apart' (HO_6.out) (Kd.N_typed HO_830001.out) (by decide)) (Kd.N_typed HO_831001.out) (by decide)) (Kd.N_typed HO_837001.out) (by decide)) (Kd.N_typed HO_843001.out) (by decide)) BK829.out (by decide)) BK830.out (by decide)) BK836.out (by decide)) BK842.out (by decide)))).2.2
             have hcut83 := cut_to (P := Try.prog) 26 3 .i64 Try.underlying26 hi083 Ao18 t822.length co18 (ji75) (of_decide_eq_true y23) q83 hroom83
             have hr83 := Kd.F_take (m := ((ji75) : Int).toNat) hC83 (by omega)
             have hy83 : y848.length = ((ji75) : Int).toNat := (by rw [Ny848.out, List.length_take]; omega)
             rw [← Ny848.out] at hr83
             rw [← hy83] at hcut83
             have HO852 := Aside0.mk (show Kd.V (Kd.int .i64) 3 _ w.heap.size _ (.slice Ao18 y848.length co18) y848 from Kd.V_mk (by omega) hr83)
             have HC852 := Aside0.mk (show y848.length ≤ co18 from by omega)
             clear hr83 hC83 hroom83 hi083 hsz83
             have KY83 := Aside0.mk hy83
             clear hy83
             replace q83 := eq_true q83
             have p856 : 0 ≤ ((ji75) : Int) := of_decide_eq_true y23
             have q856 : (ji75) < (t822.length : Int) := of_decide_eq_true y23
             obtain ⟨ad856, e856, hx856_0⟩ := Kd.at_int (Kd.R_reads' HO_6.out).2.2 (ji75) p856 q856
             cases e856
             replace p856 := eq_true p856
             replace q856 := eq_true q856
             refine start_ (n := 13) (S := fun w' => w'.cell? (ad856.add ((ji75)).toNat) = some (.int .i64 (rd t822 (ji75)))) (ds := []) #[false, false, false, false, false, false, false, false, false, false, false, false, false] (by kernel_rfl) rfl rfl (hx856_0) (fun hHeld => ?_); refine with_tabW laws_FnValOther.tab9 laws_FnValOther.bits9 (fun HT_ HW_ => ?_)
             generalize wc.drew = w82 at HO_6 HO_830001 HO_831001 HO_837001 HO_843001 BK829 BK830 BK836 BK842 HB HO852 hx856_0 hHeld ⊢
             refine zp 1 (some 78) HT_ ?_
             refine zp 2 (some 79) HT_ ?_
             refine zp 3 (some 80) HT_ ?_
             refine zp 5 (some 82) HT_ ?_
             refine zp 6 (some 83) HT_ ?_
             refine zp 7 (some 84) HT_ ?_
             refine take_ (i := 8) (N := some 85) (v := ?_) (a' := ?_) #[false, true, true, true, false, true, true, true, true, false, false, false, false] rfl rfl (take_ofW HT_.out HW_.out (by kernel_rfl)) (fun _ _ _ h => h) (Or.inl ⟨(by rfl), ?_⟩) hHeld ?_ ?_
             rotate_left
             ·intro w' s0
              go_simp
              with_reducible rfl
             rotate_left
             ·simp only [Act.put, List.setIfInBounds_toArray, List.set_cons_zero, List.set_cons_succ, i64_w, i32_w]
              rfl
             refine zp 9 (some 86) HT_ ?_
             refine join_ (σ := Value × Value × Value) 2 #[true, true, true, true, true, true, true, true, true, true, true, false, false] (fun s_ => [(77, s_.1), (81, s_.2.1), (87, s_.2.2)]) (fun s_ w' => (w'.cell? (ad856.add ((ji75)).toNat) = some (.int .i64 (rd t822 (ji75)))) ∧ (Kd.V (Kd.int .i64) 3 w' w.heap.size (fun k_ => some k_ ≠ (s_.2.1 : Value).ownBlock ∧ some k_ ≠ (s_.2.2 : Value).ownBlock ∧ some k_ ≠ (.slice Ao15 t819.length co15 : Value).ownBlock ∧ some k_ ≠ (.slice Ao17 t826.length co17 : Value).ownBlock ∧ some k_ ≠ (.slice Ao24 t832.length co24 : Value).ownBlock ∧ some k_ ≠ (.slice Ao34 t838.length co34 : Value).ownBlock ∧ k_ ≠ gb829 ∧ k_ ≠ gb830 ∧ k_ ≠ gb836 ∧ k_ ≠ gb842) (.slice (some ad856) y848.length co18) y848) ∧ (Kd.R (Kd.int .i64) 3 w' w.heap.size (fun k_ => some k_ ≠ (s_.2.2 : Value).ownBlock ∧ some k_ ≠ (.slice (some ad856) t822.length co18 : Value).ownBlock) s_.2.1 y853) ∧ (Kd.R (Kd.int .i64) 3 w' w.heap.size (fun k_ => some k_ ≠ (s_.2.1 : Value).ownBlock ∧ some k_ ≠ (.slice (some ad856) t822.length co18 : Value).ownBlock) s_.2.2 y857) ∧ (Kd.R (Kd.int .i64) 3 w' w.heap.size (fun k_ => some k_ ≠ (s_.2.1 : Value).ownBlock ∧ some k_ ≠ (s_.2.2 : Value).ownBlock) (.slice (some ad856) t822.length co18) t822) ∧ (Kd.N k25 25 w' w.heap.size (fun k_ => some k_ ≠ (s_.2.1 : Value).ownBlock ∧ some k_ ≠ (s_.2.2 : Value).ownBlock ∧ some k_ ≠ (.slice (some ad856) t822.length co18 : Value).ownBlock ∧ some k_ ≠ (.slice Ao17 t826.length co17 : Value).ownBlock ∧ some k_ ≠ (.slice Ao24 t832.length co24 : Value).ownBlock ∧ some k_ ≠ (.slice Ao34 t838.length co34 : Value).ownBlock ∧ k_ ≠ gb829 ∧ k_ ≠ gb830 ∧ k_ ≠ gb836 ∧ k_ ≠ gb842) (.slice Ao15 t819.length co15) t819) ∧ (Kd.N k25 25 w' w.heap.size (fun k_ => some k_ ≠ (s_.2.1 : Value).ownBlock ∧ some k_ ≠ (s_.2.2 : Value).ownBlock ∧ some k_ ≠ (.slice (some ad856) t822.length co18 : Value).ownBlock ∧ some k_ ≠ (.slice Ao15 t819.length co15 : Value).ownBlock ∧ some k_ ≠ (.slice Ao24 t832.length co24 : Value).ownBlock ∧ some k_ ≠ (.slice Ao34 t838.length co34 : Value).ownBlock ∧ k_ ≠ gb829 ∧ k_ ≠ gb830 ∧ k_ ≠ gb836 ∧ k_ ≠ gb842) (.slice Ao17 t826.length co17) t826) ∧ (Kd.N k25 25 w' w.heap.size (fun k_ => some k_ ≠ (s_.2.1 : Value).ownBlock ∧ some k_ ≠ (s_.2.2 : Value).ownBlock ∧ some k_ ≠ (.slice (some ad856) t822.length co18 : Value).ownBlock ∧ some k_ ≠ (.slice Ao15 t819.length co15 : Value).ownBlock ∧ some k_ ≠ (.slice Ao17 t826.length co17 : Value).ownBlock ∧ some k_ ≠ (.slice Ao34 t838.length co34 : Value).ownBlock ∧ k_ ≠ gb829 ∧ k_ ≠ gb830 ∧ k_ ≠ gb836 ∧ k_ ≠ gb842) (.slice Ao24 t832.length co24) t832) ∧ (Kd.N k25 25 w' w.heap.size (fun k_ => some k_ ≠ (s_.2.1 : Value).ownBlock ∧ some k_ ≠ (s_.2.2 : Value).ownBlock ∧ some k_ ≠ (.slice (some ad856) t822.length co18 : Value).ownBlock ∧ some k_ ≠ (.slice Ao24 t832.length co24 : Value).ownBlock ∧ k_ ≠ gb829 ∧ k_ ≠ gb830 ∧ k_ ≠ gb836 ∧ k_ ≠ gb842) (.slice Ao34 t838.length co34) t838) ∧ (w'.heap[gb829]? = some (.cells #[.int .i64 t818, .slice Ao15 t819.length co15] 25 (0, 0))) ∧ (w'.heap[gb830]? = some (.cells #[.int .i64 t825, .slice Ao17 t826.length co17] 25 (0, 0))) ∧ (w'.heap[gb836]? = some (.cells #[.int .i64 t831, .slice Ao24 t832.length co24] 25 (0, 0))) ∧ (w'.heap[gb842]? = some (.cells #[.int .i64 t837, .slice Ao34 t838.length co34] 25 (0, 0))) ∧ (Below w.heap.size w w')) ?_ ?_
             rotate_left
             ·intro hCont
              refine two_ (i := 0) (j := 10) (Ni := some 77) (Nj := some 87) #[true, true, true, true, false, true, true, true, true, true, false, false, false] #[false, true, true, true, false, true, true, true, true, true, true, false, false] rfl rfl rfl rfl (two_of HT_.out (by kernel_rfl)) (by decide) (by decide) (fun K hK => ?_) (fun K hK => ?_)
              ·skip
               refine Kd.R_lit_step (Kd.int .i64) _ 3 ?hg (N := 77) ?hd (xs := ([] : List Int)) (inner := []) (ok := fun _ => True) (okp := fun _ => True) ?hr ?hp (fun _ hk => hk) trivial (Below.refl _ _) (Nat.le_refl _) (by simp) ?_; (case hd => rfl); (case hg => rfl); (case hr => first | (go_simp; done) | (go_simp; rfl)); (case hp => exact (Reps.none _ _))
               intro v846 w84 ho85 hb hg_ hnew_
               have HS0_ := (hb.cell (World.block_lt_of_cell? _ _ (hHeld))).trans (hHeld)
               clear hg_ hnew_
               (first | rw [← Ny845.out] at ho85 | (simp only [Int.reduceToNat] at ho85; rw [← Ny845.out] at ho85))
               replace HO_830001 := Aside0.mk (Kd.N_elder' (y2 HO_830001.out) (Kd.R_base ho85) hb)
               replace HO_831001 := Aside0.mk (Kd.N_elder' (y2 HO_831001.out) (Kd.R_base ho85) hb)
               replace HO_837001 := Aside0.mk (Kd.N_elder' (y2 HO_837001.out) (Kd.R_base ho85) hb)
               replace HO_843001 := Aside0.mk (Kd.N_elder' (y2 HO_843001.out) (Kd.R_base ho85) hb)
               replace HO852 := Aside0.mk (Kd.V_elder' (y11 HO852.out) (Kd.R_base ho85) hb)
               have HO847 := Aside0.mk (Kd.R_lower (Kd.R_new' ho85 (Kd.R_lt (y8 HO_6.out))) (below_size (y5 HB.out GE829.out GE830.out GE836.out GE842.out)))
               replace HO_6 := Aside0.mk (Kd.R_elder' (y8 HO_6.out) (Kd.R_base ho85) hb)
               replace BK829 := zbb BK829 hb
               replace BK830 := zbb BK830 hb
               replace BK836 := zbb BK836 hb
               replace BK842 := zbb BK842 hb
               replace HB := Aside0.mk (below_step (y5 HB.out GE829.out GE830.out GE836.out GE842.out) hb)
               clear hb ho85
               refine hK.out _ _ (HS0_) (fun hHeld => ?_)
               clear hK K
               refine norm_ (a' := ?_) ?_ ?_
               rotate_left
               ·show Act.put _ (some 77) _ = _
                simp only [Act.put, List.setIfInBounds_toArray, List.set_cons_zero, List.set_cons_succ, i64_w, i32_w]
                rfl
               refine two_ (i := 4) (j := 10) (Ni := some 81) (Nj := some 87) #[true, true, true, true, true, true, true, true, true, true, false, false, false] #[true, true, true, true, false, true, true, true, true, true, true, false, false] rfl rfl rfl rfl (two_of HT_.out (by kernel_rfl)) (by decide) (by decide) (fun K hK => ?_) (fun K hK => ?_)
               ·skip
                refine Kd.R_append_rows_step (Kd.int .i64) (w0 := w) w.heap.size (by rfl) (.tmp 77) (.tmp 80) 26 3 (.int .i64 0) 8 rfl Try.underlying26 info3 rfl (by decide) (by omega) v846 y845 y848 _ _ _ (fun k_ => some k_ ≠ (.slice (some ad856) t822.length co18 : Value).ownBlock) (fun _ => False) rfl rfl ?aO ?aR (fun _ _ h => h) (fun _ h => h.elim) ?aF ?aB ?aS ?aL ?_
                (case aR => exact y33 HO852.out)
                (case aB => exact y52 HB.out GE829.out GE830.out GE836.out GE842.out)
                (case aF => exact y105 HO_6.out)
                (case aO => exact y107 HO847.out)
                (case aS => exact y51 HB.out GE829.out GE830.out GE836.out GE842.out)
                (case aL => exact y69 LMc78.out)
                intro v854 w86 ho hb hg hat
                have HS0_ := cell_grown hg (hHeld) (by first | (rw [add_block]; exact hf_R_ne hg (ok := (fun _ => True)) (y8 HO_6.out)) | (show some (Addr.add _ _).block ≠ _; rw [add_block]; exact hf_R_ne hg (ok := (fun _ => True)) (y8 HO_6.out)) | exact hf_R_ne hg (ok := (fun _ => True)) (y8 HO_6.out))
                rw [← Ny853.out] at ho
                replace HO_6 := Aside0.mk (Kd.R_after (ok := (fun _ => True)) (y8 HO_6.out) hg hat)
                replace HO_830001 := Aside0.mk (Kd.N_afterv (ok := (fun k_ => some k_ ≠ (.slice (some ad856) t822.length co18 : Value).ownBlock ∧ some k_ ≠ (.slice Ao17 t826.length co17 : Value).ownBlock ∧ some k_ ≠ (.slice Ao24 t832.length co24 : Value).ownBlock ∧ some k_ ≠ (.slice Ao34 t838.length co34 : Value).ownBlock ∧ k_ ≠ gb829 ∧ k_ ≠ gb830 ∧ k_ ≠ gb836 ∧ k_ ≠ gb842)) (y2 HO_830001.out) hg hat)
                replace HO_831001 := Aside0.mk (Kd.N_afterv (ok := (fun k_ => some k_ ≠ (.slice (some ad856) t822.length co18 : Value).ownBlock ∧ some k_ ≠ (.slice Ao15 t819.length co15 : Value).ownBlock ∧ some k_ ≠ (.slice Ao24 t832.length co24 : Value).ownBlock ∧ some k_ ≠ (.slice Ao34 t838.length co34 : Value).ownBlock ∧ k_ ≠ gb829 ∧ k_ ≠ gb830 ∧ k_ ≠ gb836 ∧ k_ ≠ gb842)) (y2 HO_831001.out) hg hat)
                replace HO_837001 := Aside0.mk (Kd.N_afterv (ok := (fun k_ => some k_ ≠ (.slice (some ad856) t822.length co18 : Value).ownBlock ∧ some k_ ≠ (.slice Ao15 t819.length co15 : Value).ownBlock ∧ some k_ ≠ (.slice Ao17 t826.length co17 : Value).ownBlock ∧ some k_ ≠ (.slice Ao34 t838.length co34 : Value).ownBlock ∧ k_ ≠ gb829 ∧ k_ ≠ gb830 ∧ k_ ≠ gb836 ∧ k_ ≠ gb842)) (y2 HO_837001.out) hg hat)
                replace HO_843001 := Aside0.mk (Kd.N_afterv (ok := (fun k_ => some k_ ≠ (.slice (some ad856) t822.length co18 : Value).ownBlock ∧ some k_ ≠ (.slice Ao24 t832.length co24 : Value).ownBlock ∧ k_ ≠ gb829 ∧ k_ ≠ gb830 ∧ k_ ≠ gb836 ∧ k_ ≠ gb842)) (y2 HO_843001.out) hg hat)
                replace BK829 := Aside0.mk (blk_grown (g := gb829) (o := .cells #[.int .i64 t818, .slice Ao15 t819.length co15] 25 (0, 0)) (y0 BK829.out) hg (Kd.R_ne HO847.out BK829.out (by decide)))
                replace BK830 := Aside0.mk (blk_grown (g := gb830) (o := .cells #[.int .i64 t825, .slice Ao17 t826.length co17] 25 (0, 0)) (y0 BK830.out) hg (Kd.R_ne HO847.out BK830.out (by decide)))
                replace BK836 := Aside0.mk (blk_grown (g := gb836) (o := .cells #[.int .i64 t831, .slice Ao24 t832.length co24] 25 (0, 0)) (y0 BK836.out) hg (Kd.R_ne HO847.out BK836.out (by decide)))
                replace BK842 := Aside0.mk (blk_grown (g := gb842) (o := .cells #[.int .i64 t837, .slice Ao34 t838.length co34] 25 (0, 0)) (y0 BK842.out) hg (Kd.R_ne HO847.out BK842.out (by decide)))
                replace HO852 := Aside0.mk (Kd.V_afterv (ok := (fun k_ => some k_ ≠ (.slice Ao15 t819.length co15 : Value).ownBlock ∧ some k_ ≠ (.slice Ao17 t826.length co17 : Value).ownBlock ∧ some k_ ≠ (.slice Ao24 t832.length co24 : Value).ownBlock ∧ some k_ ≠ (.slice Ao34 t838.length co34 : Value).ownBlock ∧ k_ ≠ gb829 ∧ k_ ≠ gb830 ∧ k_ ≠ gb836 ∧ k_ ≠ gb842)) (by (with_reducible repeat (first | apply Kd.V_alloc | apply Kd.V_drewN | apply Kd.V_drew)); exact Kd.V_mono HO852.out (fun _ hk => ⟨⟨hk.1.1.1.1.1.1.1.1.2, ⟨hk.1.1.1.1.1.1.1.2, ⟨hk.1.1.1.1.1.1.2, ⟨hk.1.1.1.1.1.2, ⟨hk.1.1.1.1.2, ⟨hk.1.1.1.2, ⟨hk.1.1.2, hk.1.2⟩⟩⟩⟩⟩⟩⟩, hk.2⟩)) hg hat)
                replace HB := Aside0.mk (hb)
                have HO855 := Aside0.mk (ho)
                clear HO847
                clear ho hb hg hat
                refine hK.out _ _ (HS0_) (fun hHeld => ?_)
                clear hK K
                refine norm_ (a' := ?_) ?_ ?_
                rotate_left
                ·show Act.put _ (some 81) _ = _
                 simp only [Act.put, List.setIfInBounds_toArray, List.set_cons_zero, List.set_cons_succ, i64_w, i32_w]
                 rfl
                refine one_ (i := 10) (N := some 87) #[true, true, true, true, true, true, true, true, true, true, true, false, false] rfl rfl (one_of HT_.out (by kernel_rfl)) (by decide) (fun K hK => ?_)
                refine Kd.R_lit_step (Kd.int .i64) _ 3 ?hg (N := 87) ?hd (xs := ([wrap64 (1 - (rd t822 (ji75)))] : List Int)) (inner := [.int .i64 (wrap64 (1 - (rd t822 (ji75))))]) (ok := fun _ => True) (okp := fun _ => True) ?hr ?hp (fun _ hk => hk) trivial (Below.refl _ _) (Nat.le_refl _) (by simp) ?_; (case hd => rfl); (case hg => rfl); (case hr => first | (go_simp; done) | (go_simp; rfl)); (case hp => exact (Reps.one (show Kd.M (Kd.int .i64) _ _ _ (wrap64 (1 - (rd t822 (ji75)))) [.int .i64 (wrap64 (1 - (rd t822 (ji75))))] from rfl) (Reps.none _ _)))
                intro v858 w87 ho88 hb hg_ hnew_
                have HS0_ := (hb.cell (World.block_lt_of_cell? _ _ (hHeld))).trans (hHeld)
                clear hg_ hnew_
                (first | rw [← Ny857.out] at ho88 | (simp only [Int.reduceToNat] at ho88; rw [← Ny857.out] at ho88))
                replace HO_830001 := Aside0.mk (Kd.N_elder' (y2 HO_830001.out) (Kd.R_base ho88) hb)
                replace HO_831001 := Aside0.mk (Kd.N_elder' (y2 HO_831001.out) (Kd.R_base ho88) hb)
                replace HO_837001 := Aside0.mk (Kd.N_elder' (y2 HO_837001.out) (Kd.R_base ho88) hb)
                replace HO_843001 := Aside0.mk (Kd.N_elder' (y2 HO_843001.out) (Kd.R_base ho88) hb)
                replace HO852 := Aside0.mk (Kd.V_elder' (y11 HO852.out) (Kd.R_base ho88) hb)
                have HO859 := Aside0.mk (Kd.R_lower (Kd.R_new' (Kd.R_new' ho88 (Kd.R_lt (y8 HO_6.out))) (Kd.R_lt (y8 HO855.out))) (below_size (y5 HB.out GE829.out GE830.out GE836.out GE842.out)))
                replace HO_6 := Aside0.mk (Kd.R_elder' (y8 HO_6.out) (Kd.R_base ho88) hb)
                replace HO855 := Aside0.mk (Kd.R_elder' (y8 HO855.out) (Kd.R_base ho88) hb)
                replace BK829 := zbb BK829 hb
                replace BK830 := zbb BK830 hb
                replace BK836 := zbb BK836 hb
                replace BK842 := zbb BK842 hb
                replace HB := Aside0.mk (below_step (y5 HB.out GE829.out GE830.out GE836.out GE842.out) hb)
                clear hb ho88
                refine hK.out _ _ (HS0_) (fun hHeld => ?_)
                clear hK K
                refine norm_ (a' := ?_) ?_ ?_
                rotate_left
                ·show Act.put _ (some 87) _ = _
                 simp only [Act.put, List.setIfInBounds_toArray, List.set_cons_zero, List.set_cons_succ, i64_w, i32_w]
                 rfl
                exact norm_ y74 (hCont (v846, v854, v858) _ ⟨hHeld, (by (with_reducible repeat (first | apply Kd.V_alloc | apply Kd.V_drewN | apply Kd.V_drew)); exact Kd.V_mono HO852.out (fun _ hk => ⟨hk.1.2, ⟨hk.2, ⟨hk.1.1.1, ⟨hk.1.1.2.1, ⟨hk.1.1.2.2.1, ⟨hk.1.1.2.2.2.1, ⟨hk.1.1.2.2.2.2.1, ⟨hk.1.1.2.2.2.2.2.1, ⟨hk.1.1.2.2.2.2.2.2.1, hk.1.1.2.2.2.2.2.2.2⟩⟩⟩⟩⟩⟩⟩⟩⟩)), (y42 HO855.out), (y68 HO859.out), (y48 HO_6.out), (y62 HO_830001.out), (y62 HO_831001.out), (y62 HO_837001.out), (by (with_reducible repeat (first | apply Kd.N_alloc | apply Kd.N_drewN | apply Kd.N_drew)); exact Kd.N_mono HO_843001.out (fun _ hk => ⟨hk.1.2, ⟨hk.2, ⟨hk.1.1.1, ⟨hk.1.1.2.1, ⟨hk.1.1.2.2.1, ⟨hk.1.1.2.2.2.1, ⟨hk.1.1.2.2.2.2.1, hk.1.1.2.2.2.2.2⟩⟩⟩⟩⟩⟩⟩)), (y0 BK829.out), (y0 BK830.out), (y0 BK836.out), (y0 BK842.out), (y5 HB.out GE829.out GE830.out GE836.out GE842.out)⟩)
               ·skip
                refine Kd.R_lit_step (Kd.int .i64) _ 3 ?hg (N := 87) ?hd (xs := ([wrap64 (1 - (rd t822 (ji75)))] : List Int)) (inner := [.int .i64 (wrap64 (1 - (rd t822 (ji75))))]) (ok := fun _ => True) (okp := fun _ => True) ?hr ?hp (fun _ hk => hk) trivial (Below.refl _ _) (Nat.le_refl _) (by simp) ?_; (case hd => rfl); (case hg => rfl); (case hr => first | (go_simp; done) | (go_simp; rfl)); (case hp => exact (Reps.one (show Kd.M (Kd.int .i64) _ _ _ (wrap64 (1 - (rd t822 (ji75)))) [.int .i64 (wrap64 (1 - (rd t822 (ji75))))] from rfl) (Reps.none _ _)))
                intro v858 w86 ho87 hb hg_ hnew_
                have HS0_ := (hb.cell (World.block_lt_of_cell? _ _ (hHeld))).trans (hHeld)
                clear hg_ hnew_
                (first | rw [← Ny857.out] at ho87 | (simp only [Int.reduceToNat] at ho87; rw [← Ny857.out] at ho87))
                replace HO_830001 := Aside0.mk (Kd.N_elder' (y2 HO_830001.out) (Kd.R_base ho87) hb)
                replace HO_831001 := Aside0.mk (Kd.N_elder' (y2 HO_831001.out) (Kd.R_base ho87) hb)
                replace HO_837001 := Aside0.mk (Kd.N_elder' (y2 HO_837001.out) (Kd.R_base ho87) hb)
                replace HO_843001 := Aside0.mk (Kd.N_elder' (y2 HO_843001.out) (Kd.R_base ho87) hb)
                replace HO852 := Aside0.mk (Kd.V_elder' (y11 HO852.out) (Kd.R_base ho87) hb)
                have HO859 := Aside0.mk (Kd.R_lower (Kd.R_new' (Kd.R_new' ho87 (Kd.R_lt (y8 HO_6.out))) (Kd.R_lt (y8 HO847.out))) (below_size (y5 HB.out GE829.out GE830.out GE836.out GE842.out)))
                replace HO_6 := Aside0.mk (Kd.R_elder' (y8 HO_6.out) (Kd.R_base ho87) hb)
                replace HO847 := Aside0.mk (Kd.R_elder' (y8 HO847.out) (Kd.R_base ho87) hb)
                replace BK829 := zbb BK829 hb
                replace BK830 := zbb BK830 hb
                replace BK836 := zbb BK836 hb
                replace BK842 := zbb BK842 hb
                replace HB := Aside0.mk (below_step (y5 HB.out GE829.out GE830.out GE836.out GE842.out) hb)
                clear hb ho87
                refine hK.out _ _ (HS0_) (fun hHeld => ?_)
                clear hK K
                refine norm_ (a' := ?_) ?_ ?_
                rotate_left
                ·show Act.put _ (some 87) _ = _
                 simp only [Act.put, List.setIfInBounds_toArray, List.set_cons_zero, List.set_cons_succ, i64_w, i32_w]
                 rfl
                refine one_ (i := 4) (N := some 81) #[true, true, true, true, true, true, true, true, true, true, true, false, false] rfl rfl (one_of HT_.out (by kernel_rfl)) (by decide) (fun K hK => ?_)
                refine Kd.R_append_rows_step (Kd.int .i64) (w0 := w) w.heap.size (by rfl) (.tmp 77) (.tmp 80) 26 3 (.int .i64 0) 8 rfl Try.underlying26 info3 rfl (by decide) (by omega) v846 y845 y848 _ _ _ (fun k_ => some k_ ≠ (.slice (some ad856) t822.length co18 : Value).ownBlock ∧ some k_ ≠ (v858 : Value).ownBlock) (fun _ => False) rfl rfl ?aO ?aR (fun _ _ h => h) (fun _ h => h.elim) ?aF ?aB ?aS ?aL ?_
                (case aR => exact y33 HO852.out)
                (case aB => exact y52 HB.out GE829.out GE830.out GE836.out GE842.out)
                (case aF => exact y53 HO_6.out HO859.out)
                (case aO => exact y106 HO847.out)
                (case aS => exact y51 HB.out GE829.out GE830.out GE836.out GE842.out)
                (case aL => exact y69 LMc78.out)
                intro v854 w88 ho hb hg hat
                have HS0_ := cell_grown hg (hHeld) (by first | (rw [add_block]; exact hf_R_ne hg (ok := (fun k_ => some k_ ≠ (v858 : Value).ownBlock)) (y68 HO_6.out)) | (show some (Addr.add _ _).block ≠ _; rw [add_block]; exact hf_R_ne hg (ok := (fun k_ => some k_ ≠ (v858 : Value).ownBlock)) (y68 HO_6.out)) | exact hf_R_ne hg (ok := (fun k_ => some k_ ≠ (v858 : Value).ownBlock)) (y68 HO_6.out))
                rw [← Ny853.out] at ho
                replace HO_6 := Aside0.mk (Kd.R_after (ok := (fun k_ => some k_ ≠ (v858 : Value).ownBlock)) (y68 HO_6.out) hg hat)
                replace HO_830001 := Aside0.mk (Kd.N_afterv (ok := (fun k_ => some k_ ≠ (.slice (some ad856) t822.length co18 : Value).ownBlock ∧ some k_ ≠ (.slice Ao17 t826.length co17 : Value).ownBlock ∧ some k_ ≠ (.slice Ao24 t832.length co24 : Value).ownBlock ∧ some k_ ≠ (.slice Ao34 t838.length co34 : Value).ownBlock ∧ some k_ ≠ (v858 : Value).ownBlock ∧ k_ ≠ gb829 ∧ k_ ≠ gb830 ∧ k_ ≠ gb836 ∧ k_ ≠ gb842)) (y63 HO_830001.out) hg hat)
                replace HO_831001 := Aside0.mk (Kd.N_afterv (ok := (fun k_ => some k_ ≠ (.slice (some ad856) t822.length co18 : Value).ownBlock ∧ some k_ ≠ (.slice Ao15 t819.length co15 : Value).ownBlock ∧ some k_ ≠ (.slice Ao24 t832.length co24 : Value).ownBlock ∧ some k_ ≠ (.slice Ao34 t838.length co34 : Value).ownBlock ∧ some k_ ≠ (v858 : Value).ownBlock ∧ k_ ≠ gb829 ∧ k_ ≠ gb830 ∧ k_ ≠ gb836 ∧ k_ ≠ gb842)) (y63 HO_831001.out) hg hat)
                replace HO_837001 := Aside0.mk (Kd.N_afterv (ok := (fun k_ => some k_ ≠ (.slice (some ad856) t822.length co18 : Value).ownBlock ∧ some k_ ≠ (.slice Ao15 t819.length co15 : Value).ownBlock ∧ some k_ ≠ (.slice Ao17 t826.length co17 : Value).ownBlock ∧ some k_ ≠ (.slice Ao34 t838.length co34 : Value).ownBlock ∧ some k_ ≠ (v858 : Value).ownBlock ∧ k_ ≠ gb829 ∧ k_ ≠ gb830 ∧ k_ ≠ gb836 ∧ k_ ≠ gb842)) (y63 HO_837001.out) hg hat)
                replace HO_843001 := Aside0.mk (Kd.N_afterv (ok := (fun k_ => some k_ ≠ (.slice (some ad856) t822.length co18 : Value).ownBlock ∧ some k_ ≠ (.slice Ao24 t832.length co24 : Value).ownBlock ∧ some k_ ≠ (v858 : Value).ownBlock ∧ k_ ≠ gb829 ∧ k_ ≠ gb830 ∧ k_ ≠ gb836 ∧ k_ ≠ gb842)) (by (with_reducible repeat (first | apply Kd.N_alloc | apply Kd.N_drewN | apply Kd.N_drew)); exact Kd.N_mono HO_843001.out (fun _ hk => ⟨⟨hk.1.1.1, ⟨hk.1.1.2.1, ⟨hk.2, ⟨hk.1.1.2.2.1, ⟨hk.1.1.2.2.2.1, ⟨hk.1.1.2.2.2.2.1, hk.1.1.2.2.2.2.2⟩⟩⟩⟩⟩⟩, hk.1.2⟩)) hg hat)
                replace BK829 := Aside0.mk (blk_grown (g := gb829) (o := .cells #[.int .i64 t818, .slice Ao15 t819.length co15] 25 (0, 0)) (y0 BK829.out) hg (Kd.R_ne HO847.out BK829.out (by decide)))
                replace BK830 := Aside0.mk (blk_grown (g := gb830) (o := .cells #[.int .i64 t825, .slice Ao17 t826.length co17] 25 (0, 0)) (y0 BK830.out) hg (Kd.R_ne HO847.out BK830.out (by decide)))
                replace BK836 := Aside0.mk (blk_grown (g := gb836) (o := .cells #[.int .i64 t831, .slice Ao24 t832.length co24] 25 (0, 0)) (y0 BK836.out) hg (Kd.R_ne HO847.out BK836.out (by decide)))
                replace BK842 := Aside0.mk (blk_grown (g := gb842) (o := .cells #[.int .i64 t837, .slice Ao34 t838.length co34] 25 (0, 0)) (y0 BK842.out) hg (Kd.R_ne HO847.out BK842.out (by decide)))
                replace HO852 := Aside0.mk (Kd.V_afterv (ok := (fun k_ => some k_ ≠ (.slice Ao15 t819.length co15 : Value).ownBlock ∧ some k_ ≠ (.slice Ao17 t826.length co17 : Value).ownBlock ∧ some k_ ≠ (.slice Ao24 t832.length co24 : Value).ownBlock ∧ some k_ ≠ (.slice Ao34 t838.length co34 : Value).ownBlock ∧ some k_ ≠ (v858 : Value).ownBlock ∧ k_ ≠ gb829 ∧ k_ ≠ gb830 ∧ k_ ≠ gb836 ∧ k_ ≠ gb842)) (by (with_reducible repeat (first | apply Kd.V_alloc | apply Kd.V_drewN | apply Kd.V_drew)); exact Kd.V_mono HO852.out (fun _ hk => ⟨⟨hk.1.1.1.1.1.1.1.1.1.2, ⟨hk.1.1.1.1.1.1.1.1.2, ⟨hk.1.1.1.1.1.1.1.2, ⟨hk.1.1.1.1.1.1.2, ⟨hk.2, ⟨hk.1.1.1.1.1.2, ⟨hk.1.1.1.1.2, ⟨hk.1.1.1.2, hk.1.1.2⟩⟩⟩⟩⟩⟩⟩⟩, hk.1.2⟩)) hg hat)
                replace HO859 := Aside0.mk (Kd.R_after (ok := (fun k_ => some k_ ≠ (.slice (some ad856) t822.length co18 : Value).ownBlock)) (y48 HO859.out) hg hat)
                replace HB := Aside0.mk (hb)
                have HO855 := Aside0.mk (ho)
                clear HO847
                clear ho hb hg hat
                refine hK.out _ _ (HS0_) (fun hHeld => ?_)
                clear hK K
                refine norm_ (a' := ?_) ?_ ?_
                rotate_left
                ·show Act.put _ (some 81) _ = _
                 simp only [Act.put, List.setIfInBounds_toArray, List.set_cons_zero, List.set_cons_succ, i64_w, i32_w]
                 rfl
                exact norm_ y74 (hCont (v846, v854, v858) _ ⟨hHeld, (y76 HO852.out), (y42 HO855.out), (y42 HO859.out), (y42 HO_6.out), (y43 HO_830001.out), (y43 HO_831001.out), (y43 HO_837001.out), (y84 HO_843001.out), (y0 BK829.out), (y0 BK830.out), (y0 BK836.out), (y0 BK842.out), (y5 HB.out GE829.out GE830.out GE836.out GE842.out)⟩)
              ·skip
               refine Kd.R_lit_step (Kd.int .i64) _ 3 ?hg (N := 87) ?hd (xs := ([wrap64 (1 - (rd t822 (ji75)))] : List Int)) (inner := [.int .i64 (wrap64 (1 - (rd t822 (ji75))))]) (ok := fun _ => True) (okp := fun _ => True) ?hr ?hp (fun _ hk => hk) trivial (Below.refl _ _) (Nat.le_refl _) (by simp) ?_; (case hd => rfl); (case hg => rfl); (case hr => first | (go_simp; done) | (go_simp; rfl)); (case hp => exact (Reps.one (show Kd.M (Kd.int .i64) _ _ _ (wrap64 (1 - (rd t822 (ji75)))) [.int .i64 (wrap64 (1 - (rd t822 (ji75))))] from rfl) (Reps.none _ _)))
               intro v858 w84 ho85 hb hg_ hnew_
               have HS0_ := (hb.cell (World.block_lt_of_cell? _ _ (hHeld))).trans (hHeld)
               clear hg_ hnew_
               (first | rw [← Ny857.out] at ho85 | (simp only [Int.reduceToNat] at ho85; rw [← Ny857.out] at ho85))
               replace HO_830001 := Aside0.mk (Kd.N_elder' (y2 HO_830001.out) (Kd.R_base ho85) hb)
               replace HO_831001 := Aside0.mk (Kd.N_elder' (y2 HO_831001.out) (Kd.R_base ho85) hb)
               replace HO_837001 := Aside0.mk (Kd.N_elder' (y2 HO_837001.out) (Kd.R_base ho85) hb)
               replace HO_843001 := Aside0.mk (Kd.N_elder' (y2 HO_843001.out) (Kd.R_base ho85) hb)
               replace HO852 := Aside0.mk (Kd.V_elder' (y11 HO852.out) (Kd.R_base ho85) hb)
               have HO859 := Aside0.mk (Kd.R_lower (Kd.R_new' ho85 (Kd.R_lt (y8 HO_6.out))) (below_size (y5 HB.out GE829.out GE830.out GE836.out GE842.out)))
               replace HO_6 := Aside0.mk (Kd.R_elder' (y8 HO_6.out) (Kd.R_base ho85) hb)
               replace BK829 := zbb BK829 hb
               replace BK830 := zbb BK830 hb
               replace BK836 := zbb BK836 hb
               replace BK842 := zbb BK842 hb
               replace HB := Aside0.mk (below_step (y5 HB.out GE829.out GE830.out GE836.out GE842.out) hb)
               clear hb ho85
               refine hK.out _ _ (HS0_) (fun hHeld => ?_)
               clear hK K
               refine norm_ (a' := ?_) ?_ ?_
               rotate_left
               ·show Act.put _ (some 87) _ = _
                simp only [Act.put, List.setIfInBounds_toArray, List.set_cons_zero, List.set_cons_succ, i64_w, i32_w]
                rfl
               refine one_ (i := 0) (N := some 77) #[true, true, true, true, false, true, true, true, true, true, true, false, false] rfl rfl (one_of HT_.out (by kernel_rfl)) (by decide) (fun K hK => ?_)
               refine Kd.R_lit_step (Kd.int .i64) _ 3 ?hg (N := 77) ?hd (xs := ([] : List Int)) (inner := []) (ok := fun _ => True) (okp := fun _ => True) ?hr ?hp (fun _ hk => hk) trivial (Below.refl _ _) (Nat.le_refl _) (by simp) ?_; (case hd => rfl); (case hg => rfl); (case hr => first | (go_simp; done) | (go_simp; rfl)); (case hp => exact (Reps.none _ _))
               intro v846 w86 ho87 hb hg_ hnew_
               have HS0_ := (hb.cell (World.block_lt_of_cell? _ _ (hHeld))).trans (hHeld)
               clear hg_ hnew_
               (first | rw [← Ny845.out] at ho87 | (simp only [Int.reduceToNat] at ho87; rw [← Ny845.out] at ho87))
               replace HO_830001 := Aside0.mk (Kd.N_elder' (y2 HO_830001.out) (Kd.R_base ho87) hb)
               replace HO_831001 := Aside0.mk (Kd.N_elder' (y2 HO_831001.out) (Kd.R_base ho87) hb)
               replace HO_837001 := Aside0.mk (Kd.N_elder' (y2 HO_837001.out) (Kd.R_base ho87) hb)
               replace HO_843001 := Aside0.mk (Kd.N_elder' (y2 HO_843001.out) (Kd.R_base ho87) hb)
               replace HO852 := Aside0.mk (Kd.V_elder' (y11 HO852.out) (Kd.R_base ho87) hb)
               have HO847 := Aside0.mk (Kd.R_lower (Kd.R_new' (Kd.R_new' ho87 (Kd.R_lt (y8 HO_6.out))) (Kd.R_lt (y8 HO859.out))) (below_size (y5 HB.out GE829.out GE830.out GE836.out GE842.out)))
               replace HO_6 := Aside0.mk (Kd.R_elder' (y8 HO_6.out) (Kd.R_base ho87) hb)
               replace HO859 := Aside0.mk (Kd.R_elder' (y8 HO859.out) (Kd.R_base ho87) hb)
               replace BK829 := zbb BK829 hb
               replace BK830 := zbb BK830 hb
               replace BK836 := zbb BK836 hb
               replace BK842 := zbb BK842 hb
               replace HB := Aside0.mk (below_step (y5 HB.out GE829.out GE830.out GE836.out GE842.out) hb)
               clear hb ho87
               refine hK.out _ _ (HS0_) (fun hHeld => ?_)
               clear hK K
               refine norm_ (a' := ?_) ?_ ?_
               rotate_left
               ·show Act.put _ (some 77) _ = _
                simp only [Act.put, List.setIfInBounds_toArray, List.set_cons_zero, List.set_cons_succ, i64_w, i32_w]
                rfl
               refine one_ (i := 4) (N := some 81) #[true, true, true, true, true, true, true, true, true, true, true, false, false] rfl rfl (one_of HT_.out (by kernel_rfl)) (by decide) (fun K hK => ?_)
               refine Kd.R_append_rows_step (Kd.int .i64) (w0 := w) w.heap.size (by rfl) (.tmp 77) (.tmp 80) 26 3 (.int .i64 0) 8 rfl Try.underlying26 info3 rfl (by decide) (by omega) v846 y845 y848 _ _ _ (fun k_ => some k_ ≠ (.slice (some ad856) t822.length co18 : Value).ownBlock ∧ some k_ ≠ (v858 : Value).ownBlock) (fun _ => False) rfl rfl ?aO ?aR (fun _ _ h => h) (fun _ h => h.elim) ?aF ?aB ?aS ?aL ?_
               (case aR => exact y33 HO852.out)
               (case aB => exact y52 HB.out GE829.out GE830.out GE836.out GE842.out)
               (case aF => exact y53 HO_6.out HO859.out)
               (case aO => exact y106 HO847.out)
               (case aS => exact y51 HB.out GE829.out GE830.out GE836.out GE842.out)
               (case aL => exact y69 LMc78.out)
               intro v854 w88 ho hb hg hat
               have HS0_ := cell_grown hg (hHeld) (by first | (rw [add_block]; exact hf_R_ne hg (ok := (fun k_ => some k_ ≠ (v858 : Value).ownBlock)) (y48 HO_6.out)) | (show some (Addr.add _ _).block ≠ _; rw [add_block]; exact hf_R_ne hg (ok := (fun k_ => some k_ ≠ (v858 : Value).ownBlock)) (y48 HO_6.out)) | exact hf_R_ne hg (ok := (fun k_ => some k_ ≠ (v858 : Value).ownBlock)) (y48 HO_6.out))
               rw [← Ny853.out] at ho
               replace HO_6 := Aside0.mk (Kd.R_after (ok := (fun k_ => some k_ ≠ (v858 : Value).ownBlock)) (y48 HO_6.out) hg hat)
               replace HO_830001 := Aside0.mk (Kd.N_afterv (ok := (fun k_ => some k_ ≠ (.slice (some ad856) t822.length co18 : Value).ownBlock ∧ some k_ ≠ (.slice Ao17 t826.length co17 : Value).ownBlock ∧ some k_ ≠ (.slice Ao24 t832.length co24 : Value).ownBlock ∧ some k_ ≠ (.slice Ao34 t838.length co34 : Value).ownBlock ∧ some k_ ≠ (v858 : Value).ownBlock ∧ k_ ≠ gb829 ∧ k_ ≠ gb830 ∧ k_ ≠ gb836 ∧ k_ ≠ gb842)) (y64 HO_830001.out) hg hat)
               replace HO_831001 := Aside0.mk (Kd.N_afterv (ok := (fun k_ => some k_ ≠ (.slice (some ad856) t822.length co18 : Value).ownBlock ∧ some k_ ≠ (.slice Ao15 t819.length co15 : Value).ownBlock ∧ some k_ ≠ (.slice Ao24 t832.length co24 : Value).ownBlock ∧ some k_ ≠ (.slice Ao34 t838.length co34 : Value).ownBlock ∧ some k_ ≠ (v858 : Value).ownBlock ∧ k_ ≠ gb829 ∧ k_ ≠ gb830 ∧ k_ ≠ gb836 ∧ k_ ≠ gb842)) (y64 HO_831001.out) hg hat)
               replace HO_837001 := Aside0.mk (Kd.N_afterv (ok := (fun k_ => some k_ ≠ (.slice (some ad856) t822.length co18 : Value).ownBlock ∧ some k_ ≠ (.slice Ao15 t819.length co15 : Value).ownBlock ∧ some k_ ≠ (.slice Ao17 t826.length co17 : Value).ownBlock ∧ some k_ ≠ (.slice Ao34 t838.length co34 : Value).ownBlock ∧ some k_ ≠ (v858 : Value).ownBlock ∧ k_ ≠ gb829 ∧ k_ ≠ gb830 ∧ k_ ≠ gb836 ∧ k_ ≠ gb842)) (y64 HO_837001.out) hg hat)
               replace HO_843001 := Aside0.mk (Kd.N_afterv (ok := (fun k_ => some k_ ≠ (.slice (some ad856) t822.length co18 : Value).ownBlock ∧ some k_ ≠ (.slice Ao24 t832.length co24 : Value).ownBlock ∧ some k_ ≠ (v858 : Value).ownBlock ∧ k_ ≠ gb829 ∧ k_ ≠ gb830 ∧ k_ ≠ gb836 ∧ k_ ≠ gb842)) (by (with_reducible repeat (first | apply Kd.N_alloc | apply Kd.N_drewN | apply Kd.N_drew)); exact Kd.N_mono HO_843001.out (fun _ hk => ⟨⟨hk.1.1.1, ⟨hk.1.1.2.1, ⟨hk.1.2, ⟨hk.1.1.2.2.1, ⟨hk.1.1.2.2.2.1, ⟨hk.1.1.2.2.2.2.1, hk.1.1.2.2.2.2.2⟩⟩⟩⟩⟩⟩, hk.2⟩)) hg hat)
               replace BK829 := Aside0.mk (blk_grown (g := gb829) (o := .cells #[.int .i64 t818, .slice Ao15 t819.length co15] 25 (0, 0)) (y0 BK829.out) hg (Kd.R_ne HO847.out BK829.out (by decide)))
               replace BK830 := Aside0.mk (blk_grown (g := gb830) (o := .cells #[.int .i64 t825, .slice Ao17 t826.length co17] 25 (0, 0)) (y0 BK830.out) hg (Kd.R_ne HO847.out BK830.out (by decide)))
               replace BK836 := Aside0.mk (blk_grown (g := gb836) (o := .cells #[.int .i64 t831, .slice Ao24 t832.length co24] 25 (0, 0)) (y0 BK836.out) hg (Kd.R_ne HO847.out BK836.out (by decide)))
               replace BK842 := Aside0.mk (blk_grown (g := gb842) (o := .cells #[.int .i64 t837, .slice Ao34 t838.length co34] 25 (0, 0)) (y0 BK842.out) hg (Kd.R_ne HO847.out BK842.out (by decide)))
               replace HO852 := Aside0.mk (Kd.V_afterv (ok := (fun k_ => some k_ ≠ (.slice Ao15 t819.length co15 : Value).ownBlock ∧ some k_ ≠ (.slice Ao17 t826.length co17 : Value).ownBlock ∧ some k_ ≠ (.slice Ao24 t832.length co24 : Value).ownBlock ∧ some k_ ≠ (.slice Ao34 t838.length co34 : Value).ownBlock ∧ some k_ ≠ (v858 : Value).ownBlock ∧ k_ ≠ gb829 ∧ k_ ≠ gb830 ∧ k_ ≠ gb836 ∧ k_ ≠ gb842)) (by (with_reducible repeat (first | apply Kd.V_alloc | apply Kd.V_drewN | apply Kd.V_drew)); exact Kd.V_mono HO852.out (fun _ hk => ⟨⟨hk.1.1.1.1.1.1.1.1.1.2, ⟨hk.1.1.1.1.1.1.1.1.2, ⟨hk.1.1.1.1.1.1.1.2, ⟨hk.1.1.1.1.1.1.2, ⟨hk.1.2, ⟨hk.1.1.1.1.1.2, ⟨hk.1.1.1.1.2, ⟨hk.1.1.1.2, hk.1.1.2⟩⟩⟩⟩⟩⟩⟩⟩, hk.2⟩)) hg hat)
               replace HO859 := Aside0.mk (Kd.R_after (ok := (fun k_ => some k_ ≠ (.slice (some ad856) t822.length co18 : Value).ownBlock)) (y48 HO859.out) hg hat)
               replace HB := Aside0.mk (hb)
               have HO855 := Aside0.mk (ho)
               clear HO847
               clear ho hb hg hat
               refine hK.out _ _ (HS0_) (fun hHeld => ?_)
               clear hK K
               refine norm_ (a' := ?_) ?_ ?_
               rotate_left
               ·show Act.put _ (some 81) _ = _
                simp only [Act.put, List.setIfInBounds_toArray, List.set_cons_zero, List.set_cons_succ, i64_w, i32_w]
                rfl
               exact norm_ y74 (hCont (v846, v854, v858) _ ⟨hHeld, (y76 HO852.out), (y42 HO855.out), (y42 HO859.out), (y42 HO_6.out), (y43 HO_830001.out), (y43 HO_831001.out), (y43 HO_837001.out), (y84 HO_843001.out), (y0 BK829.out), (y0 BK830.out), (y0 BK836.out), (y0 BK842.out), (y5 HB.out GE829.out GE830.out GE836.out GE842.out)⟩)
             rintro ⟨v846, v854, v858⟩ w89 ⟨hS_, h0_, h1_, h2_, h3_, h4_, h5_, h6_, h7_, h8_, h9_, h10_, h11_, h12_⟩
             have n0_ : Aside0 (Kd.V (Kd.int .i64) 3 w89 w.heap.size (fun k_ => some k_ ≠ (v854 : Value).ownBlock ∧ some k_ ≠ (v858 : Value).ownBlock ∧ some k_ ≠ (.slice Ao15 t819.length co15 : Value).ownBlock ∧ some k_ ≠ (.slice Ao17 t826.length co17 : Value).ownBlock ∧ some k_ ≠ (.slice Ao24 t832.length co24 : Value).ownBlock ∧ some k_ ≠ (.slice Ao34 t838.length co34 : Value).ownBlock ∧ k_ ≠ gb829 ∧ k_ ≠ gb830 ∧ k_ ≠ gb836 ∧ k_ ≠ gb842) (.slice (some ad856) y848.length co18) y848) := ⟨h0_⟩
             have n1_ : Aside0 (Kd.R (Kd.int .i64) 3 w89 w.heap.size (fun k_ => some k_ ≠ (v858 : Value).ownBlock ∧ some k_ ≠ (.slice (some ad856) t822.length co18 : Value).ownBlock) v854 y853) := ⟨h1_⟩
             have n2_ : Aside0 (Kd.R (Kd.int .i64) 3 w89 w.heap.size (fun k_ => some k_ ≠ (v854 : Value).ownBlock ∧ some k_ ≠ (.slice (some ad856) t822.length co18 : Value).ownBlock) v858 y857) := ⟨h2_⟩
             have n3_ : Aside0 (Kd.R (Kd.int .i64) 3 w89 w.heap.size (fun k_ => some k_ ≠ (v854 : Value).ownBlock ∧ some k_ ≠ (v858 : Value).ownBlock) (.slice (some ad856) t822.length co18) t822) := ⟨h3_⟩
             have n4_ : Aside0 (Kd.N k25 25 w89 w.heap.size (fun k_ => some k_ ≠ (v854 : Value).ownBlock ∧ some k_ ≠ (v858 : Value).ownBlock ∧ some k_ ≠ (.slice (some ad856) t822.length co18 : Value).ownBlock ∧ some k_ ≠ (.slice Ao17 t826.length co17 : Value).ownBlock ∧ some k_ ≠ (.slice Ao24 t832.length co24 : Value).ownBlock ∧ some k_ ≠ (.slice Ao34 t838.length co34 : Value).ownBlock ∧ k_ ≠ gb829 ∧ k_ ≠ gb830 ∧ k_ ≠ gb836 ∧ k_ ≠ gb842) (.slice Ao15 t819.length co15) t819) := ⟨h4_⟩
             have n5_ : Aside0 (Kd.N k25 25 w89 w.heap.size (fun k_ => some k_ ≠ (v854 : Value).ownBlock ∧ some k_ ≠ (v858 : Value).ownBlock ∧ some k_ ≠ (.slice (some ad856) t822.length co18 : Value).ownBlock ∧ some k_ ≠ (.slice Ao15 t819.length co15 : Value).ownBlock ∧ some k_ ≠ (.slice Ao24 t832.length co24 : Value).ownBlock ∧ some k_ ≠ (.slice Ao34 t838.length co34 : Value).ownBlock ∧ k_ ≠ gb829 ∧ k_ ≠ gb830 ∧ k_ ≠ gb836 ∧ k_ ≠ gb842) (.slice Ao17 t826.length co17) t826) := ⟨h5_⟩
             have n6_ : Aside0 (Kd.N k25 25 w89 w.heap.size (fun k_ => some k_ ≠ (v854 : Value).ownBlock ∧ some k_ ≠ (v858 : Value).ownBlock ∧ some k_ ≠ (.slice (some ad856) t822.length co18 : Value).ownBlock ∧ some k_ ≠ (.slice Ao15 t819.length co15 : Value).ownBlock ∧ some k_ ≠ (.slice Ao17 t826.length co17 : Value).ownBlock ∧ some k_ ≠ (.slice Ao34 t838.length co34 : Value).ownBlock ∧ k_ ≠ gb829 ∧ k_ ≠ gb830 ∧ k_ ≠ gb836 ∧ k_ ≠ gb842) (.slice Ao24 t832.length co24) t832) := ⟨h6_⟩
             have n7_ : Aside0 (Kd.N k25 25 w89 w.heap.size (fun k_ => some k_ ≠ (v854 : Value).ownBlock ∧ some k_ ≠ (v858 : Value).ownBlock ∧ some k_ ≠ (.slice (some ad856) t822.length co18 : Value).ownBlock ∧ some k_ ≠ (.slice Ao24 t832.length co24 : Value).ownBlock ∧ k_ ≠ gb829 ∧ k_ ≠ gb830 ∧ k_ ≠ gb836 ∧ k_ ≠ gb842) (.slice Ao34 t838.length co34) t838) := ⟨h7_⟩
             have n8_ : Aside0 (w89.heap[gb829]? = some (.cells #[.int .i64 t818, .slice Ao15 t819.length co15] 25 (0, 0))) := ⟨h8_⟩
             have n9_ : Aside0 (w89.heap[gb830]? = some (.cells #[.int .i64 t825, .slice Ao17 t826.length co17] 25 (0, 0))) := ⟨h9_⟩
             have n10_ : Aside0 (w89.heap[gb836]? = some (.cells #[.int .i64 t831, .slice Ao24 t832.length co24] 25 (0, 0))) := ⟨h10_⟩
             have n11_ : Aside0 (w89.heap[gb842]? = some (.cells #[.int .i64 t837, .slice Ao34 t838.length co34] 25 (0, 0))) := ⟨h11_⟩
             have n12_ : Aside0 (Below w.heap.size w w89) := ⟨h12_⟩
             clear HO_6
             clear HO_830001
             clear HO_831001
             clear HO_837001
             clear HO_843001
             clear BK829
             clear BK830
             clear BK836
             clear BK842
             clear HB
             clear h0_ h1_ h2_ h3_ h4_ h5_ h6_ h7_ h8_ h9_ h10_ h11_ h12_
             have HO852 := n0_
             have HO855 := n1_
             have HO859 := n2_
             have HO_6 := n3_
             have HO_830001 := n4_
             have HO_831001 := n5_
             have HO_837001 := n6_
             have HO_843001 := n7_
             have BK829 := n8_
             have BK830 := n9_
             have BK836 := n10_
             have BK842 := n11_
             have HB := n12_
             clear n0_ n1_ n2_ n3_ n4_ n5_ n6_ n7_ n8_ n9_ n10_ n11_ n12_
             have hHeld : w89.cell? (ad856.add ((ji75)).toNat) = some (.int .i64 (rd t822 (ji75))) := hS_
             obtain ⟨Ao91, co91, eo91⟩ := Kd.R_slice HO859.out
             (first | subst eo91 | (injection eo91 with f1_ f2_ f3_; have f4_ := f1_.symm; have f5_ := f3_.symm; clear f1_ f2_ f3_; subst f4_; subst f5_))
             refine norm_ (a' := ?_) ?_ ?_
             rotate_left
             ·simp only [putAll, Act.put, List.setIfInBounds_toArray, List.set_cons_zero, List.set_cons_succ]
              rfl
             refine one_ (i := 11) (N := some 88) #[true, true, true, true, true, true, true, true, true, true, true, true, false] rfl rfl (one_of HT_.out (by kernel_rfl)) (by decide) (fun K hK => ?_)
             refine Kd.R_append_rows_step (Kd.int .i64) (w0 := w) w.heap.size (by rfl) (.tmp 81) (.tmp 87) 26 3 (.int .i64 0) 8 rfl Try.underlying26 info3 rfl (by decide) (by omega) v854 y853 y857 _ _ _ (fun k_ => some k_ ≠ (.slice (some ad856) t822.length co18 : Value).ownBlock ∧ some k_ ≠ (.slice Ao91 y857.length co91 : Value).ownBlock) (fun _ => False) rfl rfl ?aO ?aR (fun _ _ h => h) (fun _ h => h.elim) ?aF ?aB ?aS ?aL ?_
             (case aR => exact y34 HO859.out)
             (case aB => exact y52 HB.out GE829.out GE830.out GE836.out GE842.out)
             (case aF => exact y53 HO_6.out HO859.out)
             (case aO => exact (y42 HO855.out))
             (case aS => exact y51 HB.out GE829.out GE830.out GE836.out GE842.out)
             (case aL => exact y69 LMc80.out)
             intro v861 w90 ho hb hg hat
             have HS0_ := cell_grown hg (hHeld) (by first | (rw [add_block]; exact hf_R_ne hg (ok := (fun k_ => some k_ ≠ (.slice Ao91 y857.length co91 : Value).ownBlock)) (y42 HO_6.out)) | (show some (Addr.add _ _).block ≠ _; rw [add_block]; exact hf_R_ne hg (ok := (fun k_ => some k_ ≠ (.slice Ao91 y857.length co91 : Value).ownBlock)) (y42 HO_6.out)) | exact hf_R_ne hg (ok := (fun k_ => some k_ ≠ (.slice Ao91 y857.length co91 : Value).ownBlock)) (y42 HO_6.out))
             rw [← Ny860.out] at ho
             replace HO_6 := Aside0.mk (Kd.R_after (ok := (fun k_ => some k_ ≠ (.slice Ao91 y857.length co91 : Value).ownBlock)) (y42 HO_6.out) hg hat)
             replace HO_830001 := Aside0.mk (Kd.N_afterv (ok := (fun k_ => some k_ ≠ (.slice (some ad856) t822.length co18 : Value).ownBlock ∧ some k_ ≠ (.slice Ao17 t826.length co17 : Value).ownBlock ∧ some k_ ≠ (.slice Ao24 t832.length co24 : Value).ownBlock ∧ some k_ ≠ (.slice Ao34 t838.length co34 : Value).ownBlock ∧ some k_ ≠ (.slice Ao91 y857.length co91 : Value).ownBlock ∧ k_ ≠ gb829 ∧ k_ ≠ gb830 ∧ k_ ≠ gb836 ∧ k_ ≠ gb842)) (y65 HO_830001.out) hg hat)
             replace HO_831001 := Aside0.mk (Kd.N_afterv (ok := (fun k_ => some k_ ≠ (.slice (some ad856) t822.length co18 : Value).ownBlock ∧ some k_ ≠ (.slice Ao15 t819.length co15 : Value).ownBlock ∧ some k_ ≠ (.slice Ao24 t832.length co24 : Value).ownBlock ∧ some k_ ≠ (.slice Ao34 t838.length co34 : Value).ownBlock ∧ some k_ ≠ (.slice Ao91 y857.length co91 : Value).ownBlock ∧ k_ ≠ gb829 ∧ k_ ≠ gb830 ∧ k_ ≠ gb836 ∧ k_ ≠ gb842)) (y65 HO_831001.out) hg hat)
             replace HO_837001 := Aside0.mk (Kd.N_afterv (ok := (fun k_ => some k_ ≠ (.slice (some ad856) t822.length co18 : Value).ownBlock ∧ some k_ ≠ (.slice Ao15 t819.length co15 : Value).ownBlock ∧ some k_ ≠ (.slice Ao17 t826.length co17 : Value).ownBlock ∧ some k_ ≠ (.slice Ao34 t838.length co34 : Value).ownBlock ∧ some k_ ≠ (.slice Ao91 y857.length co91 : Value).ownBlock ∧ k_ ≠ gb829 ∧ k_ ≠ gb830 ∧ k_ ≠ gb836 ∧ k_ ≠ gb842)) (y65 HO_837001.out) hg hat)
             replace HO_843001 := Aside0.mk (Kd.N_afterv (ok := (fun k_ => some k_ ≠ (.slice (some ad856) t822.length co18 : Value).ownBlock ∧ some k_ ≠ (.slice Ao24 t832.length co24 : Value).ownBlock ∧ some k_ ≠ (.slice Ao91 y857.length co91 : Value).ownBlock ∧ k_ ≠ gb829 ∧ k_ ≠ gb830 ∧ k_ ≠ gb836 ∧ k_ ≠ gb842)) (by (with_reducible repeat (first | apply Kd.N_alloc | apply Kd.N_drewN | apply Kd.N_drew)); exact Kd.N_mono HO_843001.out (fun _ hk => ⟨⟨hk.2.2.1, ⟨hk.2.2.2.1, ⟨hk.2.1, ⟨hk.2.2.2.2.1, ⟨hk.2.2.2.2.2.1, ⟨hk.2.2.2.2.2.2.1, hk.2.2.2.2.2.2.2⟩⟩⟩⟩⟩⟩, hk.1⟩)) hg hat)
             replace BK829 := Aside0.mk (blk_grown (g := gb829) (o := .cells #[.int .i64 t818, .slice Ao15 t819.length co15] 25 (0, 0)) (y0 BK829.out) hg (Kd.R_ne HO855.out BK829.out (by decide)))
             replace BK830 := Aside0.mk (blk_grown (g := gb830) (o := .cells #[.int .i64 t825, .slice Ao17 t826.length co17] 25 (0, 0)) (y0 BK830.out) hg (Kd.R_ne HO855.out BK830.out (by decide)))
             replace BK836 := Aside0.mk (blk_grown (g := gb836) (o := .cells #[.int .i64 t831, .slice Ao24 t832.length co24] 25 (0, 0)) (y0 BK836.out) hg (Kd.R_ne HO855.out BK836.out (by decide)))
             replace BK842 := Aside0.mk (blk_grown (g := gb842) (o := .cells #[.int .i64 t837, .slice Ao34 t838.length co34] 25 (0, 0)) (y0 BK842.out) hg (Kd.R_ne HO855.out BK842.out (by decide)))
             replace HO852 := Aside0.mk (Kd.V_afterv (ok := (fun k_ => some k_ ≠ (.slice Ao15 t819.length co15 : Value).ownBlock ∧ some k_ ≠ (.slice Ao17 t826.length co17 : Value).ownBlock ∧ some k_ ≠ (.slice Ao24 t832.length co24 : Value).ownBlock ∧ some k_ ≠ (.slice Ao34 t838.length co34 : Value).ownBlock ∧ some k_ ≠ (.slice Ao91 y857.length co91 : Value).ownBlock ∧ k_ ≠ gb829 ∧ k_ ≠ gb830 ∧ k_ ≠ gb836 ∧ k_ ≠ gb842)) (by (with_reducible repeat (first | apply Kd.V_alloc | apply Kd.V_drewN | apply Kd.V_drew)); exact Kd.V_mono HO852.out (fun _ hk => ⟨⟨hk.2.2.1, ⟨hk.2.2.2.1, ⟨hk.2.2.2.2.1, ⟨hk.2.2.2.2.2.1, ⟨hk.2.1, ⟨hk.2.2.2.2.2.2.1, ⟨hk.2.2.2.2.2.2.2.1, ⟨hk.2.2.2.2.2.2.2.2.1, hk.2.2.2.2.2.2.2.2.2⟩⟩⟩⟩⟩⟩⟩⟩, hk.1⟩)) hg hat)
             replace HO859 := Aside0.mk (Kd.R_after (ok := (fun k_ => some k_ ≠ (.slice (some ad856) t822.length co18 : Value).ownBlock)) (y42 HO859.out) hg hat)
             replace HB := Aside0.mk (hb)
             have HO862 := Aside0.mk (ho)
             clear HO855
             clear ho hb hg hat
             refine hK.out _ _ (HS0_) (fun hHeld => ?_)
             clear hK K
             refine norm_ (a' := ?_) ?_ ?_
             rotate_left
             ·show Act.put _ (some 88) _ = _
              simp only [Act.put, List.setIfInBounds_toArray, List.set_cons_zero, List.set_cons_succ, i64_w, i32_w]
              rfl
             refine zp 12 (some 13) HT_ ?_
             refine done_ (done_of HT_.out (by kernel_rfl)) ?_
             have H := HZ81.out
             clear HZ81
             obtain ⟨⟨t863, t864, t867⟩, A920, H⟩ := ob H
             have A92 := Aside0.mk A920
             clear A920
             obtain ⟨⟨t869, t870, t873⟩, A930, H⟩ := ob H
             have A93 := Aside0.mk A930
             clear A930
             by_cases c94 : t867 = true
             ·subst c94
              rw [if_pos rfl] at H
              by_cases c95 : t873 = true
              ·subst c95
               rw [if_pos rfl] at H
               obtain ⟨t875, A960, H⟩ := ob H
               have A96 := Aside0.mk A960
               clear A960
               clear hr_
               obtain rfl := Option.some.inj H
               have hnb97 := NB829_830.out
               have hnc97 := NB830_829.out
               have hnb98 := NB829_836.out
               have hnc98 := NB836_829.out
               have hnb99 := NB829_842.out
               have hnc99 := NB842_829.out
               have hcz100_0 := zh BK829
               have hcz100_1 := zh1 BK829
               have hfz100_0 := zfr BK829 0
               have hfz100_1 := zfr BK829 1
               obtain ⟨Ao101, co101, eo101⟩ := Kd.R_slice HO862.out
               subst eo101
               go_wp2_with (first | ((with_reducible refine gate_callee (f := 14) rfl ?_); refine goesL_ (some 92) rfl rfl Try.func14 (by kernel_rfl) rfl #[.agg #[.int .i64 t818, .slice Ao15 t819.length co15], .slice Ao101 y860.length co101] rfl y9 ?_; (with_reducible refine (impl_ValAt.calls kj8 t818 (fun k_ => ((some k_ ≠ (.slice (some ad856) t822.length co18 : Value).ownBlock ∧ (some k_ ≠ (.slice Ao17 t826.length co17 : Value).ownBlock ∧ (some k_ ≠ (.slice Ao24 t832.length co24 : Value).ownBlock ∧ (some k_ ≠ (.slice Ao34 t838.length co34 : Value).ownBlock ∧ (some k_ ≠ (.slice Ao91 y857.length co91 : Value).ownBlock ∧ (k_ ≠ gb829 ∧ (k_ ≠ gb830 ∧ (k_ ≠ gb836 ∧ k_ ≠ gb842)))))))) ∧ some k_ ≠ (.slice Ao101 y860.length co101 : Value).ownBlock)) _ _ t819 _ _ y860 t863 t864 true _ ?side1 ?side2 ?side3 A92.out).mono ?_); (case side1 => exact Kd.N_V (HO_830001.out)); (case side2 => exact y34 HO862.out); (case side3 => exact (Kd.R_reads' HO862.out).2.1); rintro e w102 ⟨v865, rfl, ho0, hb⟩; refine ⟨_, rfl, ?_⟩; replace HO_830001 := Aside0.mk (Kd.N_elder' (y2 HO_830001.out) (Kd.N_base ho0) hb); replace HO852 := Aside0.mk (Kd.V_elder' (y11 HO852.out) (Kd.N_base ho0) hb); have HO866 := Aside0.mk (Kd.N_lower (Kd.N_mono (ok' := fun k_ => some k_ ≠ (.slice (some ad856) t822.length co18 : Value).ownBlock ∧ some k_ ≠ (.slice Ao17 t826.length co17 : Value).ownBlock ∧ some k_ ≠ (.slice Ao24 t832.length co24 : Value).ownBlock ∧ some k_ ≠ (.slice Ao34 t838.length co34 : Value).ownBlock ∧ some k_ ≠ (.slice Ao91 y857.length co91 : Value).ownBlock ∧ some k_ ≠ (.slice Ao101 y860.length co101 : Value).ownBlock ∧ k_ ≠ gb829 ∧ k_ ≠ gb830 ∧ k_ ≠ gb836 ∧ k_ ≠ gb842) ho0 (fun k_ hk_ => ⟨Or.elim hk_ (fun hs_ => hs_.1.1) (fun hn_ => (Kd.fresh' (Kd.R_lt (y8 HO_6.out)) k_ hn_)), Or.elim hk_ (fun hs_ => hs_.1.2.1) (fun hn_ => (Kd.fresh' (Kd.N_lt (y2 HO_831001.out)) k_ hn_)), Or.elim hk_ (fun hs_ => hs_.1.2.2.1) (fun hn_ => (Kd.fresh' (Kd.N_lt (y2 HO_837001.out)) k_ hn_)), Or.elim hk_ (fun hs_ => hs_.1.2.2.2.1) (fun hn_ => (Kd.fresh' (Kd.N_lt (y2 HO_843001.out)) k_ hn_)), Or.elim hk_ (fun hs_ => hs_.1.2.2.2.2.1) (fun hn_ => (Kd.fresh' (Kd.R_lt (y8 HO859.out)) k_ hn_)), Or.elim hk_ (fun hs_ => hs_.2) (fun hn_ => (Kd.fresh' (Kd.R_lt (y8 HO862.out)) k_ hn_)), Or.elim hk_ (fun hs_ => hs_.1.2.2.2.2.2.1) (fun hn_ => (Kd.freshB (g := gb829) (o := .cells #[.int .i64 t818, .slice Ao15 t819.length co15] 25 (0, 0)) (y0 BK829.out) k_ hn_)), Or.elim hk_ (fun hs_ => hs_.1.2.2.2.2.2.2.1) (fun hn_ => (Kd.freshB (g := gb830) (o := .cells #[.int .i64 t825, .slice Ao17 t826.length co17] 25 (0, 0)) (y0 BK830.out) k_ hn_)), Or.elim hk_ (fun hs_ => hs_.1.2.2.2.2.2.2.2.1) (fun hn_ => (Kd.freshB (g := gb836) (o := .cells #[.int .i64 t831, .slice Ao24 t832.length co24] 25 (0, 0)) (y0 BK836.out) k_ hn_)), Or.elim hk_ (fun hs_ => hs_.1.2.2.2.2.2.2.2.2) (fun hn_ => (Kd.freshB (g := gb842) (o := .cells #[.int .i64 t837, .slice Ao34 t838.length co34] 25 (0, 0)) (y0 BK842.out) k_ hn_))⟩)) (below_size (y5 HB.out GE829.out GE830.out GE836.out GE842.out))); replace HO_6 := Aside0.mk (Kd.R_below (y8 HO_6.out) hb); replace HO_831001 := Aside0.mk (Kd.N_elder' (y2 HO_831001.out) (Kd.N_base ho0) hb); replace HO_837001 := Aside0.mk (Kd.N_elder' (y2 HO_837001.out) (Kd.N_base ho0) hb); replace HO_843001 := Aside0.mk (Kd.N_elder' (y2 HO_843001.out) (Kd.N_base ho0) hb); replace HO859 := Aside0.mk (Kd.R_below (y8 HO859.out) hb); replace HO862 := Aside0.mk (Kd.R_below (y8 HO862.out) hb); replace BK829 := zbb BK829 hb; replace BK830 := zbb BK830 hb; replace BK836 := zbb BK836 hb; replace BK842 := zbb BK842 hb; replace HB := Aside0.mk (below_step (y5 HB.out GE829.out GE830.out GE836.out GE842.out) hb); (try clear hb); (try clear hb2); (try clear hk); (try clear hi); (try clear ho0)) | ((with_reducible refine gate_dst (N := 14) rfl ?_); (try (refine gate_guard (by rfl) ?_; dsimp only)); refine zbx 14 #[.int .i64 0, .slice none 0 0] 25 ?_; intro gb868 hg w103 hbox hb; replace HO_6 := Aside0.mk (Kd.R_below (y8 HO_6.out) hb); replace HO_830001 := Aside0.mk (Kd.N_below (Kd.N_elderB (y2 HO_830001.out) gb868 (Nat.le_of_eq hg.symm)) hb); replace HO_831001 := Aside0.mk (Kd.N_below (Kd.N_elderB (y2 HO_831001.out) gb868 (Nat.le_of_eq hg.symm)) hb); replace HO_837001 := Aside0.mk (Kd.N_below (Kd.N_elderB (y2 HO_837001.out) gb868 (Nat.le_of_eq hg.symm)) hb); replace HO_843001 := Aside0.mk (Kd.N_below (Kd.N_elderB (y2 HO_843001.out) gb868 (Nat.le_of_eq hg.symm)) hb); replace HO852 := Aside0.mk (Kd.V_below (Kd.V_elderB (y11 HO852.out) gb868 (Nat.le_of_eq hg.symm)) hb); replace HO859 := Aside0.mk (Kd.R_below (y8 HO859.out) hb); replace HO862 := Aside0.mk (Kd.R_below (y8 HO862.out) hb); replace HO866 := Aside0.mk (Kd.N_below (Kd.N_elderB (y2 HO866.out) gb868 (Nat.le_of_eq hg.symm)) hb); have BK868 := Aside0.mk hbox; have GW868 := Aside0.mk ((y27 hg HB.out GE829.out GE830.out GE836.out GE842.out : w.heap.size ≤ gb868)); have GE868 := Aside0.mk ((y27 hg HB.out GE829.out GE830.out GE836.out GE842.out : w.heap.size ≤ gb868)); replace HB := Aside0.mk (below_step (y5 HB.out GE829.out GE830.out GE836.out GE842.out) hb); have NB829_868 := zltn hg BK829; have NB868_829 := zgtn hg BK829; replace BK829 := zbb BK829 hb; have NB830_868 := zltn hg BK830; have NB868_830 := zgtn hg BK830; replace BK830 := zbb BK830 hb; have NB836_868 := zltn hg BK836; have NB868_836 := zgtn hg BK836; replace BK836 := zbb BK836 hb; have NB842_868 := zltn hg BK842; have NB868_842 := zgtn hg BK842; replace BK842 := zbb BK842 hb; clear hb hbox hg; have hnb104 := NB868_829.out; have hnc104 := NB829_868.out; have hnb105 := NB868_830.out; have hnc105 := NB830_868.out; have hnb106 := NB868_836.out; have hnc106 := NB836_868.out; have hnb107 := NB868_842.out; have hnc107 := NB842_868.out; have hcz108_0 := zh BK868; have hcz108_1 := zh1 BK868; have hfz108_0 := zfr BK868 0; have hfz108_1 := zfr BK868 1; obtain ⟨Ao109, co109, eo109⟩ := Kd.N_slice HO866.out; subst eo109) | ((with_reducible refine gate_store (t := 25) (p := 14) rfl ?_); refine store_event (t := 25) (p := 14) (v := ?vo_w110) (w1 := ((w103.setCell ⟨gb868, 0, none⟩ (.int .i64 t863)).setCell ⟨gb868, 1, none⟩ (.slice Ao109 t864.length co109))) ?hg ?ho ?hn ?hr ?_; (case ho => rfl); (case hg => rfl); (case hn => rfl); (case hr => first | (go_simp; done) | (go_simp; rfl)); intro w110 hw; have n0_ : Aside0 (Kd.R (Kd.int .i64) 3 w110 w.heap.size (fun k_ => some k_ ≠ (.slice Ao91 y857.length co91 : Value).ownBlock ∧ some k_ ≠ (.slice Ao101 y860.length co101 : Value).ownBlock) (.slice (some ad856) t822.length co18) t822) := ⟨(by rw [hw]; exact (by (with_reducible repeat (first | apply Kd.R_alloc | apply Kd.R_drewN | apply Kd.R_drew)); exact Kd.R_mono (Kd.R_far (p := ⟨gb868, 1, none⟩) (Kd.R_far (p := ⟨gb868, 0, none⟩) (Kd.R_types HO_6.out BK868.out (by decide)) (fun _ hk => hk.2) (.int .i64 t863)) (fun _ hk => hk.2) (.slice Ao109 t864.length co109)) (fun _ hk => ⟨hk.1.1, hk.1.2⟩)))⟩; have n1_ : Aside0 (Kd.N k25 25 w110 w.heap.size (fun k_ => some k_ ≠ (.slice (some ad856) t822.length co18 : Value).ownBlock ∧ some k_ ≠ (.slice Ao17 t826.length co17 : Value).ownBlock ∧ some k_ ≠ (.slice Ao24 t832.length co24 : Value).ownBlock ∧ some k_ ≠ (.slice Ao34 t838.length co34 : Value).ownBlock ∧ some k_ ≠ (.slice Ao91 y857.length co91 : Value).ownBlock ∧ some k_ ≠ (.slice Ao101 y860.length co101 : Value).ownBlock ∧ some k_ ≠ (.slice Ao109 t864.length co109 : Value).ownBlock ∧ k_ ≠ gb829 ∧ k_ ≠ gb830 ∧ k_ ≠ gb836 ∧ k_ ≠ gb842 ∧ k_ ≠ gb868) (.slice Ao15 t819.length co15) t819) := ⟨(by rw [hw]; exact (by (with_reducible repeat (first | apply Kd.N_alloc | apply Kd.N_drewN | apply Kd.N_drew)); exact Kd.N_mono (Kd.N_far (p := ⟨gb868, 1, none⟩) (Kd.N_far (p := ⟨gb868, 0, none⟩) (Kd.N_mono HO_830001.out (fun k_ hk => (⟨hk, hk.2⟩ : _ ∧ k_ ≠ gb868))) (fun _ hk => hk.2) (.int .i64 t863)) (fun _ hk => hk.2) (.slice Ao109 t864.length co109)) (fun _ hk => ⟨hk.1.1.1.1.1, ⟨hk.1.1.1.1.2.1, ⟨hk.1.1.1.1.2.2.1, ⟨hk.1.1.1.1.2.2.2.1, ⟨hk.1.1.1.1.2.2.2.2.1, ⟨hk.1.1.1.2, ⟨hk.1.1.2, ⟨hk.1.1.1.1.2.2.2.2.2.1, ⟨hk.1.1.1.1.2.2.2.2.2.2.1, ⟨hk.1.1.1.1.2.2.2.2.2.2.2.1, ⟨hk.1.1.1.1.2.2.2.2.2.2.2.2, hk.1.2⟩⟩⟩⟩⟩⟩⟩⟩⟩⟩⟩)))⟩; have n2_ : Aside0 (Kd.N k25 25 w110 w.heap.size (fun k_ => some k_ ≠ (.slice (some ad856) t822.length co18 : Value).ownBlock ∧ some k_ ≠ (.slice Ao15 t819.length co15 : Value).ownBlock ∧ some k_ ≠ (.slice Ao24 t832.length co24 : Value).ownBlock ∧ some k_ ≠ (.slice Ao34 t838.length co34 : Value).ownBlock ∧ some k_ ≠ (.slice Ao91 y857.length co91 : Value).ownBlock ∧ some k_ ≠ (.slice Ao101 y860.length co101 : Value).ownBlock ∧ some k_ ≠ (.slice Ao109 t864.length co109 : Value).ownBlock ∧ k_ ≠ gb829 ∧ k_ ≠ gb830 ∧ k_ ≠ gb836 ∧ k_ ≠ gb842 ∧ k_ ≠ gb868) (.slice Ao17 t826.length co17) t826) := ⟨(by rw [hw]; exact (by (with_reducible repeat (first | apply Kd.N_alloc | apply Kd.N_drewN | apply Kd.N_drew)); exact Kd.N_mono (Kd.N_far (p := ⟨gb868, 1, none⟩) (Kd.N_far (p := ⟨gb868, 0, none⟩) (Kd.N_mono HO_831001.out (fun k_ hk => (⟨hk, hk.2⟩ : _ ∧ k_ ≠ gb868))) (fun _ hk => hk.2) (.int .i64 t863)) (fun _ hk => hk.2) (.slice Ao109 t864.length co109)) (fun _ hk => ⟨hk.1.1.1.1.1, ⟨hk.1.1.1.1.2.1, ⟨hk.1.1.1.1.2.2.1, ⟨hk.1.1.1.1.2.2.2.1, ⟨hk.1.1.1.1.2.2.2.2.1, ⟨hk.1.1.1.2, ⟨hk.1.1.2, ⟨hk.1.1.1.1.2.2.2.2.2.1, ⟨hk.1.1.1.1.2.2.2.2.2.2.1, ⟨hk.1.1.1.1.2.2.2.2.2.2.2.1, ⟨hk.1.1.1.1.2.2.2.2.2.2.2.2, hk.1.2⟩⟩⟩⟩⟩⟩⟩⟩⟩⟩⟩)))⟩; have n3_ : Aside0 (Kd.N k25 25 w110 w.heap.size (fun k_ => some k_ ≠ (.slice (some ad856) t822.length co18 : Value).ownBlock ∧ some k_ ≠ (.slice Ao15 t819.length co15 : Value).ownBlock ∧ some k_ ≠ (.slice Ao17 t826.length co17 : Value).ownBlock ∧ some k_ ≠ (.slice Ao34 t838.length co34 : Value).ownBlock ∧ some k_ ≠ (.slice Ao91 y857.length co91 : Value).ownBlock ∧ some k_ ≠ (.slice Ao101 y860.length co101 : Value).ownBlock ∧ some k_ ≠ (.slice Ao109 t864.length co109 : Value).ownBlock ∧ k_ ≠ gb829 ∧ k_ ≠ gb830 ∧ k_ ≠ gb836 ∧ k_ ≠ gb842 ∧ k_ ≠ gb868) (.slice Ao24 t832.length co24) t832) := ⟨(by rw [hw]; exact (by (with_reducible repeat (first | apply Kd.N_alloc | apply Kd.N_drewN | apply Kd.N_drew)); exact Kd.N_mono (Kd.N_far (p := ⟨gb868, 1, none⟩) (Kd.N_far (p := ⟨gb868, 0, none⟩) (Kd.N_mono HO_837001.out (fun k_ hk => (⟨hk, hk.2⟩ : _ ∧ k_ ≠ gb868))) (fun _ hk => hk.2) (.int .i64 t863)) (fun _ hk => hk.2) (.slice Ao109 t864.length co109)) (fun _ hk => ⟨hk.1.1.1.1.1, ⟨hk.1.1.1.1.2.1, ⟨hk.1.1.1.1.2.2.1, ⟨hk.1.1.1.1.2.2.2.1, ⟨hk.1.1.1.1.2.2.2.2.1, ⟨hk.1.1.1.2, ⟨hk.1.1.2, ⟨hk.1.1.1.1.2.2.2.2.2.1, ⟨hk.1.1.1.1.2.2.2.2.2.2.1, ⟨hk.1.1.1.1.2.2.2.2.2.2.2.1, ⟨hk.1.1.1.1.2.2.2.2.2.2.2.2, hk.1.2⟩⟩⟩⟩⟩⟩⟩⟩⟩⟩⟩)))⟩; have n4_ : Aside0 (Kd.N k25 25 w110 w.heap.size (fun k_ => some k_ ≠ (.slice (some ad856) t822.length co18 : Value).ownBlock ∧ some k_ ≠ (.slice Ao24 t832.length co24 : Value).ownBlock ∧ some k_ ≠ (.slice Ao91 y857.length co91 : Value).ownBlock ∧ some k_ ≠ (.slice Ao101 y860.length co101 : Value).ownBlock ∧ some k_ ≠ (.slice Ao109 t864.length co109 : Value).ownBlock ∧ k_ ≠ gb829 ∧ k_ ≠ gb830 ∧ k_ ≠ gb836 ∧ k_ ≠ gb842 ∧ k_ ≠ gb868) (.slice Ao34 t838.length co34) t838) := ⟨(by rw [hw]; exact (by (with_reducible repeat (first | apply Kd.N_alloc | apply Kd.N_drewN | apply Kd.N_drew)); exact Kd.N_mono (Kd.N_far (p := ⟨gb868, 1, none⟩) (Kd.N_far (p := ⟨gb868, 0, none⟩) (Kd.N_mono HO_843001.out (fun k_ hk => (⟨hk, hk.2⟩ : _ ∧ k_ ≠ gb868))) (fun _ hk => hk.2) (.int .i64 t863)) (fun _ hk => hk.2) (.slice Ao109 t864.length co109)) (fun _ hk => ⟨hk.1.1.1.1.1, ⟨hk.1.1.1.1.2.1, ⟨hk.1.1.1.1.2.2.1, ⟨hk.1.1.1.2, ⟨hk.1.1.2, ⟨hk.1.1.1.1.2.2.2.1, ⟨hk.1.1.1.1.2.2.2.2.1, ⟨hk.1.1.1.1.2.2.2.2.2.1, ⟨hk.1.1.1.1.2.2.2.2.2.2, hk.1.2⟩⟩⟩⟩⟩⟩⟩⟩⟩)))⟩; have n5_ : Aside0 (Kd.V (Kd.int .i64) 3 w110 w.heap.size (fun k_ => some k_ ≠ (.slice Ao15 t819.length co15 : Value).ownBlock ∧ some k_ ≠ (.slice Ao17 t826.length co17 : Value).ownBlock ∧ some k_ ≠ (.slice Ao24 t832.length co24 : Value).ownBlock ∧ some k_ ≠ (.slice Ao34 t838.length co34 : Value).ownBlock ∧ some k_ ≠ (.slice Ao91 y857.length co91 : Value).ownBlock ∧ some k_ ≠ (.slice Ao101 y860.length co101 : Value).ownBlock ∧ some k_ ≠ (.slice Ao109 t864.length co109 : Value).ownBlock ∧ k_ ≠ gb829 ∧ k_ ≠ gb830 ∧ k_ ≠ gb836 ∧ k_ ≠ gb842 ∧ k_ ≠ gb868) (.slice (some ad856) y848.length co18) y848) := ⟨(by rw [hw]; exact (by (with_reducible repeat (first | apply Kd.V_alloc | apply Kd.V_drewN | apply Kd.V_drew)); exact Kd.V_mono (Kd.V_far (p := ⟨gb868, 1, none⟩) (Kd.V_far (p := ⟨gb868, 0, none⟩) (Kd.V_mono HO852.out (fun k_ hk => (⟨hk, hk.2⟩ : _ ∧ k_ ≠ gb868))) (fun _ hk => hk.2) (.int .i64 t863)) (fun _ hk => hk.2) (.slice Ao109 t864.length co109)) (fun _ hk => ⟨hk.1.1.1.1.1, ⟨hk.1.1.1.1.2.1, ⟨hk.1.1.1.1.2.2.1, ⟨hk.1.1.1.1.2.2.2.1, ⟨hk.1.1.1.1.2.2.2.2.1, ⟨hk.1.1.1.2, ⟨hk.1.1.2, ⟨hk.1.1.1.1.2.2.2.2.2.1, ⟨hk.1.1.1.1.2.2.2.2.2.2.1, ⟨hk.1.1.1.1.2.2.2.2.2.2.2.1, ⟨hk.1.1.1.1.2.2.2.2.2.2.2.2, hk.1.2⟩⟩⟩⟩⟩⟩⟩⟩⟩⟩⟩)))⟩; have n6_ : Aside0 (Kd.R (Kd.int .i64) 3 w110 w.heap.size (fun k_ => some k_ ≠ (.slice (some ad856) t822.length co18 : Value).ownBlock ∧ some k_ ≠ (.slice Ao101 y860.length co101 : Value).ownBlock) (.slice Ao91 y857.length co91) y857) := ⟨(by rw [hw]; exact (by (with_reducible repeat (first | apply Kd.R_alloc | apply Kd.R_drewN | apply Kd.R_drew)); exact Kd.R_mono (Kd.R_far (p := ⟨gb868, 1, none⟩) (Kd.R_far (p := ⟨gb868, 0, none⟩) (Kd.R_types HO859.out BK868.out (by decide)) (fun _ hk => hk.2) (.int .i64 t863)) (fun _ hk => hk.2) (.slice Ao109 t864.length co109)) (fun _ hk => ⟨hk.1.1, hk.1.2⟩)))⟩; have n7_ : Aside0 (Kd.R (Kd.int .i64) 3 w110 w.heap.size (fun k_ => some k_ ≠ (.slice (some ad856) t822.length co18 : Value).ownBlock ∧ some k_ ≠ (.slice Ao91 y857.length co91 : Value).ownBlock) (.slice Ao101 y860.length co101) y860) := ⟨(by rw [hw]; exact (by (with_reducible repeat (first | apply Kd.R_alloc | apply Kd.R_drewN | apply Kd.R_drew)); exact Kd.R_mono (Kd.R_far (p := ⟨gb868, 1, none⟩) (Kd.R_far (p := ⟨gb868, 0, none⟩) (Kd.R_types HO862.out BK868.out (by decide)) (fun _ hk => hk.2) (.int .i64 t863)) (fun _ hk => hk.2) (.slice Ao109 t864.length co109)) (fun _ hk => ⟨hk.1.1, hk.1.2⟩)))⟩; have n8_ : Aside0 (Kd.N k25 25 w110 w.heap.size (fun k_ => some k_ ≠ (.slice (some ad856) t822.length co18 : Value).ownBlock ∧ some k_ ≠ (.slice Ao17 t826.length co17 : Value).ownBlock ∧ some k_ ≠ (.slice Ao24 t832.length co24 : Value).ownBlock ∧ some k_ ≠ (.slice Ao34 t838.length co34 : Value).ownBlock ∧ some k_ ≠ (.slice Ao91 y857.length co91 : Value).ownBlock ∧ some k_ ≠ (.slice Ao101 y860.length co101 : Value).ownBlock ∧ k_ ≠ gb829 ∧ k_ ≠ gb830 ∧ k_ ≠ gb836 ∧ k_ ≠ gb842 ∧ k_ ≠ gb868) (.slice Ao109 t864.length co109) t864) := ⟨(by rw [hw]; exact (by (with_reducible repeat (first | apply Kd.N_alloc | apply Kd.N_drewN | apply Kd.N_drew)); exact Kd.N_mono (Kd.N_far (p := ⟨gb868, 1, none⟩) (Kd.N_far (p := ⟨gb868, 0, none⟩) (Kd.N_mono HO866.out (fun k_ hk => (⟨hk, hk.2⟩ : _ ∧ k_ ≠ gb868))) (fun _ hk => hk.2) (.int .i64 t863)) (fun _ hk => hk.2) (.slice Ao109 t864.length co109)) (fun _ hk => ⟨hk.1.1.1, ⟨hk.1.1.2.1, ⟨hk.1.1.2.2.1, ⟨hk.1.1.2.2.2.1, ⟨hk.1.1.2.2.2.2.1, ⟨hk.1.1.2.2.2.2.2.1, ⟨hk.1.1.2.2.2.2.2.2.1, ⟨hk.1.1.2.2.2.2.2.2.2.1, ⟨hk.1.1.2.2.2.2.2.2.2.2.1, ⟨hk.1.1.2.2.2.2.2.2.2.2.2, hk.1.2⟩⟩⟩⟩⟩⟩⟩⟩⟩⟩)))⟩; have n9_ : Aside0 (w110.heap[gb829]? = some (.cells #[.int .i64 t818, .slice Ao15 t819.length co15] 25 (0, 0))) := ⟨(by rw [hw]; exact (y1 NB829_868.out BK829.out))⟩; have n10_ : Aside0 (w110.heap[gb830]? = some (.cells #[.int .i64 t825, .slice Ao17 t826.length co17] 25 (0, 0))) := ⟨(by rw [hw]; exact (y1 NB830_868.out BK830.out))⟩; have n11_ : Aside0 (w110.heap[gb836]? = some (.cells #[.int .i64 t831, .slice Ao24 t832.length co24] 25 (0, 0))) := ⟨(by rw [hw]; exact (y1 NB836_868.out BK836.out))⟩; have n12_ : Aside0 (w110.heap[gb842]? = some (.cells #[.int .i64 t837, .slice Ao34 t838.length co34] 25 (0, 0))) := ⟨(by rw [hw]; exact (y1 NB842_868.out BK842.out))⟩; have n13_ : Aside0 (w110.heap[gb868]? = some (.cells #[.int .i64 t863, .slice Ao109 t864.length co109] 25 (0, 0))) := ⟨(by rw [hw]; exact (by (with_reducible repeat (first | refine blk_drewN ?_ _ | refine blk_drew ?_ | refine blk_alloc ?_ _)); refine blk_put (cs := #[.int .i64 t863, .slice none 0 0]) ?_ 1 _ rfl; (with_reducible repeat (first | refine blk_drewN ?_ _ | refine blk_drew ?_ | refine blk_alloc ?_ _)); apply blk_put (i := 0); (case h => exact y0 BK868.out); (case e => rfl)))⟩; have n14_ : Aside0 (Below w.heap.size w w110) := ⟨(by rw [hw]; exact (y14 HB.out GE829.out GE830.out GE836.out GE842.out GE868.out))⟩; clear hw; clear HO_6; clear HO_830001; clear HO_831001; clear HO_837001; clear HO_843001; clear HO852; clear HO859; clear HO862; clear HO866; clear BK829; clear BK830; clear BK836; clear BK842; clear BK868; clear HB; have HO_6 := n0_; have HO_830001 := n1_; have HO_831001 := n2_; have HO_837001 := n3_; have HO_843001 := n4_; have HO852 := n5_; have HO859 := n6_; have HO862 := n7_; have HO866 := n8_; have BK829 := n9_; have BK830 := n10_; have BK836 := n11_; have BK842 := n12_; have BK868 := n13_; have HB := n14_; clear n0_ n1_ n2_ n3_ n4_ n5_ n6_ n7_ n8_ n9_ n10_ n11_ n12_ n13_ n14_; have hnb111 := NB842_830.out; have hnc111 := NB830_842.out; have hnb112 := NB842_836.out; have hnc112 := NB836_842.out; have hcz113_0 := zh BK842; have hcz113_1 := zh1 BK842; have hfz113_0 := zfr BK842 0; have hfz113_1 := zfr BK842 1) | ((with_reducible refine gate_callee (f := 14) rfl ?_); refine goesL_ (some 98) rfl rfl Try.func14 (by kernel_rfl) rfl #[.agg #[.int .i64 t837, .slice Ao34 t838.length co34], .slice Ao101 y860.length co101] rfl y9 ?_; (with_reducible refine (impl_ValAt.calls kj8 t837 (fun k_ => (some k_ ≠ (.slice (some ad856) t822.length co18 : Value).ownBlock ∧ (some k_ ≠ (.slice Ao24 t832.length co24 : Value).ownBlock ∧ (some k_ ≠ (.slice Ao91 y857.length co91 : Value).ownBlock ∧ (some k_ ≠ (.slice Ao101 y860.length co101 : Value).ownBlock ∧ (some k_ ≠ (.slice Ao109 t864.length co109 : Value).ownBlock ∧ (k_ ≠ gb829 ∧ (k_ ≠ gb830 ∧ (k_ ≠ gb836 ∧ (k_ ≠ gb842 ∧ k_ ≠ gb868)))))))))) _ _ t838 _ _ y860 t869 t870 true _ ?side1 ?side2 ?side3 A93.out).mono ?_); (case side1 => exact Kd.N_V (HO_843001.out)); (case side2 => exact y34 HO862.out); (case side3 => exact (Kd.R_reads' HO862.out).2.1); rintro e w114 ⟨v871, rfl, ho0, hb⟩; refine ⟨_, rfl, ?_⟩; replace HO_830001 := Aside0.mk (Kd.N_elder' (y2 HO_830001.out) (Kd.N_base ho0) hb); replace HO_831001 := Aside0.mk (Kd.N_elder' (y2 HO_831001.out) (Kd.N_base ho0) hb); replace HO_843001 := Aside0.mk (Kd.N_elder' (y2 HO_843001.out) (Kd.N_base ho0) hb); replace HO852 := Aside0.mk (Kd.V_elder' (y11 HO852.out) (Kd.N_base ho0) hb); have HO872 := Aside0.mk (Kd.N_lower (Kd.N_mono (ok' := fun k_ => some k_ ≠ (.slice (some ad856) t822.length co18 : Value).ownBlock ∧ some k_ ≠ (.slice Ao24 t832.length co24 : Value).ownBlock ∧ some k_ ≠ (.slice Ao91 y857.length co91 : Value).ownBlock ∧ some k_ ≠ (.slice Ao101 y860.length co101 : Value).ownBlock ∧ some k_ ≠ (.slice Ao109 t864.length co109 : Value).ownBlock ∧ k_ ≠ gb829 ∧ k_ ≠ gb830 ∧ k_ ≠ gb836 ∧ k_ ≠ gb842 ∧ k_ ≠ gb868) ho0 (fun k_ hk_ => ⟨Or.elim hk_ (fun hs_ => hs_.1) (fun hn_ => (Kd.fresh' (Kd.R_lt (y8 HO_6.out)) k_ hn_)), Or.elim hk_ (fun hs_ => hs_.2.1) (fun hn_ => (Kd.fresh' (Kd.N_lt (y2 HO_837001.out)) k_ hn_)), Or.elim hk_ (fun hs_ => hs_.2.2.1) (fun hn_ => (Kd.fresh' (Kd.R_lt (y8 HO859.out)) k_ hn_)), Or.elim hk_ (fun hs_ => hs_.2.2.2.1) (fun hn_ => (Kd.fresh' (Kd.R_lt (y8 HO862.out)) k_ hn_)), Or.elim hk_ (fun hs_ => hs_.2.2.2.2.1) (fun hn_ => (Kd.fresh' (Kd.N_lt (y2 HO866.out)) k_ hn_)), Or.elim hk_ (fun hs_ => hs_.2.2.2.2.2.1) (fun hn_ => (Kd.freshB (g := gb829) (o := .cells #[.int .i64 t818, .slice Ao15 t819.length co15] 25 (0, 0)) (y0 BK829.out) k_ hn_)), Or.elim hk_ (fun hs_ => hs_.2.2.2.2.2.2.1) (fun hn_ => (Kd.freshB (g := gb830) (o := .cells #[.int .i64 t825, .slice Ao17 t826.length co17] 25 (0, 0)) (y0 BK830.out) k_ hn_)), Or.elim hk_ (fun hs_ => hs_.2.2.2.2.2.2.2.1) (fun hn_ => (Kd.freshB (g := gb836) (o := .cells #[.int .i64 t831, .slice Ao24 t832.length co24] 25 (0, 0)) (y0 BK836.out) k_ hn_)), Or.elim hk_ (fun hs_ => hs_.2.2.2.2.2.2.2.2.1) (fun hn_ => (Kd.freshB (g := gb842) (o := .cells #[.int .i64 t837, .slice Ao34 t838.length co34] 25 (0, 0)) (y0 BK842.out) k_ hn_)), Or.elim hk_ (fun hs_ => hs_.2.2.2.2.2.2.2.2.2) (fun hn_ => (Kd.freshB (g := gb868) (o := .cells #[.int .i64 t863, .slice Ao109 t864.length co109] 25 (0, 0)) (y0 BK868.out) k_ hn_))⟩)) (below_size (y14 HB.out GE829.out GE830.out GE836.out GE842.out GE868.out))); replace HO_6 := Aside0.mk (Kd.R_below (y8 HO_6.out) hb); replace HO_837001 := Aside0.mk (Kd.N_elder' (y2 HO_837001.out) (Kd.N_base ho0) hb); replace HO859 := Aside0.mk (Kd.R_below (y8 HO859.out) hb); replace HO862 := Aside0.mk (Kd.R_below (y8 HO862.out) hb); replace HO866 := Aside0.mk (Kd.N_elder' (y2 HO866.out) (Kd.N_base ho0) hb); replace BK829 := zbb BK829 hb; replace BK830 := zbb BK830 hb; replace BK836 := zbb BK836 hb; replace BK842 := zbb BK842 hb; replace BK868 := zbb BK868 hb; replace HB := Aside0.mk (below_step (y14 HB.out GE829.out GE830.out GE836.out GE842.out GE868.out) hb); (try clear hb); (try clear hb2); (try clear hk); (try clear hi); (try clear ho0)) | ((with_reducible refine gate_dst (N := 16) rfl ?_); (try (refine gate_guard (by rfl) ?_; dsimp only)); refine zbx 16 #[.int .i64 0, .slice none 0 0] 25 ?_; intro gb874 hg w115 hbox hb; replace HO_6 := Aside0.mk (Kd.R_below (y8 HO_6.out) hb); replace HO_830001 := Aside0.mk (Kd.N_below (Kd.N_elderB (y2 HO_830001.out) gb874 (Nat.le_of_eq hg.symm)) hb); replace HO_831001 := Aside0.mk (Kd.N_below (Kd.N_elderB (y2 HO_831001.out) gb874 (Nat.le_of_eq hg.symm)) hb); replace HO_837001 := Aside0.mk (Kd.N_below (Kd.N_elderB (y2 HO_837001.out) gb874 (Nat.le_of_eq hg.symm)) hb); replace HO_843001 := Aside0.mk (Kd.N_below (Kd.N_elderB (y2 HO_843001.out) gb874 (Nat.le_of_eq hg.symm)) hb); replace HO852 := Aside0.mk (Kd.V_below (Kd.V_elderB (y11 HO852.out) gb874 (Nat.le_of_eq hg.symm)) hb); replace HO859 := Aside0.mk (Kd.R_below (y8 HO859.out) hb); replace HO862 := Aside0.mk (Kd.R_below (y8 HO862.out) hb); replace HO866 := Aside0.mk (Kd.N_below (Kd.N_elderB (y2 HO866.out) gb874 (Nat.le_of_eq hg.symm)) hb); replace HO872 := Aside0.mk (Kd.N_below (Kd.N_elderB (y2 HO872.out) gb874 (Nat.le_of_eq hg.symm)) hb); have BK874 := Aside0.mk hbox; have GW874 := Aside0.mk ((y30 hg HB.out GE829.out GE830.out GE836.out GE842.out GE868.out : w.heap.size ≤ gb874)); have GE874 := Aside0.mk ((y30 hg HB.out GE829.out GE830.out GE836.out GE842.out GE868.out : w.heap.size ≤ gb874)); replace HB := Aside0.mk (below_step (y14 HB.out GE829.out GE830.out GE836.out GE842.out GE868.out) hb); have NB829_874 := zltn hg BK829; have NB874_829 := zgtn hg BK829; replace BK829 := zbb BK829 hb; have NB830_874 := zltn hg BK830; have NB874_830 := zgtn hg BK830; replace BK830 := zbb BK830 hb; have NB836_874 := zltn hg BK836; have NB874_836 := zgtn hg BK836; replace BK836 := zbb BK836 hb; have NB842_874 := zltn hg BK842; have NB874_842 := zgtn hg BK842; replace BK842 := zbb BK842 hb; have NB868_874 := zltn hg BK868; have NB874_868 := zgtn hg BK868; replace BK868 := zbb BK868 hb; clear hb hbox hg; have hnb116 := NB874_829.out; have hnc116 := NB829_874.out; have hnb117 := NB874_830.out; have hnc117 := NB830_874.out; have hnb118 := NB874_836.out; have hnc118 := NB836_874.out; have hnb119 := NB874_842.out; have hnc119 := NB842_874.out; have hnb120 := NB874_868.out; have hnc120 := NB868_874.out; have hcz121_0 := zh BK874; have hcz121_1 := zh1 BK874; have hfz121_0 := zfr BK874 0; have hfz121_1 := zfr BK874 1; obtain ⟨Ao122, co122, eo122⟩ := Kd.N_slice HO872.out; subst eo122; have hcz123_0 := zh BK868; have hcz123_1 := zh1 BK868; have hfz123_0 := zfr BK868 0; have hfz123_1 := zfr BK868 1) | (go_at_call 15; (with_reducible refine (laws_lhVal.calls kj8 t863 _ _ t864 t869 _ _ t870 t875 _ ?side1 ?side2 ?side3 ?side4 A96.out).mono ?_); (case side1 => refine (Kd.N_reads' (e := 25) (base := w.heap.size) (ok := fun k_ => (((some k_ ≠ (.slice (some ad856) t822.length co18 : Value).ownBlock ∧ (some k_ ≠ (.slice Ao17 t826.length co17 : Value).ownBlock ∧ (some k_ ≠ (.slice Ao24 t832.length co24 : Value).ownBlock ∧ (some k_ ≠ (.slice Ao34 t838.length co34 : Value).ownBlock ∧ (some k_ ≠ (.slice Ao91 y857.length co91 : Value).ownBlock ∧ (some k_ ≠ (.slice Ao101 y860.length co101 : Value).ownBlock ∧ (k_ ≠ gb829 ∧ (k_ ≠ gb830 ∧ (k_ ≠ gb836 ∧ (k_ ≠ gb842 ∧ k_ ≠ gb868)))))))))) ∧ some k_ ≠ (.slice Ao122 t870.length co122 : Value).ownBlock) ∧ k_ ≠ gb874)) (n := t864.length) (c := co109) ?_).2.2; exact (by (with_reducible repeat (first | apply Kd.N_alloc | apply Kd.N_drewN | apply Kd.N_drew)); exact (Kd.N_mono (Kd.N_far (p := ⟨gb874, 1, none⟩) (Kd.N_far (p := ⟨gb874, 0, none⟩) (Kd.N_mono HO866.out (fun k_ hk => (⟨hk, hk.2⟩ : _ ∧ k_ ≠ gb874))) (fun _ hk => hk.2) (.int .i64 t869)) (fun _ hk => hk.2) (.slice Ao122 t870.length co122)) (fun _ h_ => h_.1)))); (case side2 => exact (Kd.N_reads' HO866.out).2.1); (case side3 => refine (Kd.N_reads' (e := 25) (base := w.heap.size) (ok := fun k_ => ((some k_ ≠ (.slice (some ad856) t822.length co18 : Value).ownBlock ∧ (some k_ ≠ (.slice Ao24 t832.length co24 : Value).ownBlock ∧ (some k_ ≠ (.slice Ao91 y857.length co91 : Value).ownBlock ∧ (some k_ ≠ (.slice Ao101 y860.length co101 : Value).ownBlock ∧ (some k_ ≠ (.slice Ao109 t864.length co109 : Value).ownBlock ∧ (k_ ≠ gb829 ∧ (k_ ≠ gb830 ∧ (k_ ≠ gb836 ∧ (k_ ≠ gb842 ∧ k_ ≠ gb868))))))))) ∧ k_ ≠ gb874)) (n := t870.length) (c := co122) ?_).2.2; exact (by (with_reducible repeat (first | apply Kd.N_alloc | apply Kd.N_drewN | apply Kd.N_drew)); exact (Kd.N_mono (Kd.N_far (p := ⟨gb874, 1, none⟩) (Kd.N_far (p := ⟨gb874, 0, none⟩) (Kd.N_mono HO872.out (fun k_ hk => (⟨hk, hk.2⟩ : _ ∧ k_ ≠ gb874))) (fun _ hk => hk.2) (.int .i64 t869)) (fun _ hk => hk.2) (.slice Ao122 t870.length co122)) (fun _ h_ => h_.1)))); (case side4 => exact (Kd.N_reads' HO872.out).2.1); rintro e w124 ⟨rfl, hb⟩; replace HO_6 := Aside0.mk (Kd.R_below (by (with_reducible repeat (first | apply Kd.R_alloc | apply Kd.R_drewN | apply Kd.R_drew)); exact (Kd.R_mono (Kd.R_far (p := ⟨gb874, 1, none⟩) (Kd.R_far (p := ⟨gb874, 0, none⟩) (Kd.R_types HO_6.out BK874.out (by decide)) (fun _ hk => hk.2) (.int .i64 t869)) (fun _ hk => hk.2) (.slice Ao122 t870.length co122)) (fun _ h_ => h_.1))) hb); replace HO_830001 := Aside0.mk (Kd.N_below (by (with_reducible repeat (first | apply Kd.N_alloc | apply Kd.N_drewN | apply Kd.N_drew)); exact (Kd.N_mono (Kd.N_far (p := ⟨gb874, 1, none⟩) (Kd.N_far (p := ⟨gb874, 0, none⟩) (Kd.N_mono HO_830001.out (fun k_ hk => (⟨hk, hk.2⟩ : _ ∧ k_ ≠ gb874))) (fun _ hk => hk.2) (.int .i64 t869)) (fun _ hk => hk.2) (.slice Ao122 t870.length co122)) (fun _ h_ => h_.1))) hb); replace HO_831001 := Aside0.mk (Kd.N_below (by (with_reducible repeat (first | apply Kd.N_alloc | apply Kd.N_drewN | apply Kd.N_drew)); exact (Kd.N_mono (Kd.N_far (p := ⟨gb874, 1, none⟩) (Kd.N_far (p := ⟨gb874, 0, none⟩) (Kd.N_mono HO_831001.out (fun k_ hk => (⟨hk, hk.2⟩ : _ ∧ k_ ≠ gb874))) (fun _ hk => hk.2) (.int .i64 t869)) (fun _ hk => hk.2) (.slice Ao122 t870.length co122)) (fun _ h_ => h_.1))) hb); replace HO_837001 := Aside0.mk (Kd.N_below (by (with_reducible repeat (first | apply Kd.N_alloc | apply Kd.N_drewN | apply Kd.N_drew)); exact (Kd.N_mono (Kd.N_far (p := ⟨gb874, 1, none⟩) (Kd.N_far (p := ⟨gb874, 0, none⟩) (Kd.N_mono HO_837001.out (fun k_ hk => (⟨hk, hk.2⟩ : _ ∧ k_ ≠ gb874))) (fun _ hk => hk.2) (.int .i64 t869)) (fun _ hk => hk.2) (.slice Ao122 t870.length co122)) (fun _ h_ => h_.1))) hb); replace HO_843001 := Aside0.mk (Kd.N_below (by (with_reducible repeat (first | apply Kd.N_alloc | apply Kd.N_drewN | apply Kd.N_drew)); exact (Kd.N_mono (Kd.N_far (p := ⟨gb874, 1, none⟩) (Kd.N_far (p := ⟨gb874, 0, none⟩) (Kd.N_mono HO_843001.out (fun k_ hk => (⟨hk, hk.2⟩ : _ ∧ k_ ≠ gb874))) (fun _ hk => hk.2) (.int .i64 t869)) (fun _ hk => hk.2) (.slice Ao122 t870.length co122)) (fun _ h_ => h_.1))) hb); replace HO852 := Aside0.mk (Kd.V_below (by (with_reducible repeat (first | apply Kd.V_alloc | apply Kd.V_drewN | apply Kd.V_drew)); exact (Kd.V_mono (Kd.V_far (p := ⟨gb874, 1, none⟩) (Kd.V_far (p := ⟨gb874, 0, none⟩) (Kd.V_mono HO852.out (fun k_ hk => (⟨hk, hk.2⟩ : _ ∧ k_ ≠ gb874))) (fun _ hk => hk.2) (.int .i64 t869)) (fun _ hk => hk.2) (.slice Ao122 t870.length co122)) (fun _ h_ => h_.1))) hb); replace HO859 := Aside0.mk (Kd.R_below (by (with_reducible repeat (first | apply Kd.R_alloc | apply Kd.R_drewN | apply Kd.R_drew)); exact (Kd.R_mono (Kd.R_far (p := ⟨gb874, 1, none⟩) (Kd.R_far (p := ⟨gb874, 0, none⟩) (Kd.R_types HO859.out BK874.out (by decide)) (fun _ hk => hk.2) (.int .i64 t869)) (fun _ hk => hk.2) (.slice Ao122 t870.length co122)) (fun _ h_ => h_.1))) hb); replace HO862 := Aside0.mk (Kd.R_below (by (with_reducible repeat (first | apply Kd.R_alloc | apply Kd.R_drewN | apply Kd.R_drew)); exact (Kd.R_mono (Kd.R_far (p := ⟨gb874, 1, none⟩) (Kd.R_far (p := ⟨gb874, 0, none⟩) (Kd.R_types HO862.out BK874.out (by decide)) (fun _ hk => hk.2) (.int .i64 t869)) (fun _ hk => hk.2) (.slice Ao122 t870.length co122)) (fun _ h_ => h_.1))) hb); replace HO866 := Aside0.mk (Kd.N_below (by (with_reducible repeat (first | apply Kd.N_alloc | apply Kd.N_drewN | apply Kd.N_drew)); exact (Kd.N_mono (Kd.N_far (p := ⟨gb874, 1, none⟩) (Kd.N_far (p := ⟨gb874, 0, none⟩) (Kd.N_mono HO866.out (fun k_ hk => (⟨hk, hk.2⟩ : _ ∧ k_ ≠ gb874))) (fun _ hk => hk.2) (.int .i64 t869)) (fun _ hk => hk.2) (.slice Ao122 t870.length co122)) (fun _ h_ => h_.1))) hb); replace HO872 := Aside0.mk (Kd.N_below (by (with_reducible repeat (first | apply Kd.N_alloc | apply Kd.N_drewN | apply Kd.N_drew)); exact (Kd.N_mono (Kd.N_far (p := ⟨gb874, 1, none⟩) (Kd.N_far (p := ⟨gb874, 0, none⟩) (Kd.N_mono HO872.out (fun k_ hk => (⟨hk, hk.2⟩ : _ ∧ k_ ≠ gb874))) (fun _ hk => hk.2) (.int .i64 t869)) (fun _ hk => hk.2) (.slice Ao122 t870.length co122)) (fun _ h_ => h_.1))) hb); replace BK829 := Aside0.mk (blk_below (g := gb829) (o := .cells #[.int .i64 t818, .slice Ao15 t819.length co15] 25 (0, 0)) (y1 NB829_874.out BK829.out) hb); replace BK830 := Aside0.mk (blk_below (g := gb830) (o := .cells #[.int .i64 t825, .slice Ao17 t826.length co17] 25 (0, 0)) (y1 NB830_874.out BK830.out) hb); replace BK836 := Aside0.mk (blk_below (g := gb836) (o := .cells #[.int .i64 t831, .slice Ao24 t832.length co24] 25 (0, 0)) (y1 NB836_874.out BK836.out) hb); replace BK842 := Aside0.mk (blk_below (g := gb842) (o := .cells #[.int .i64 t837, .slice Ao34 t838.length co34] 25 (0, 0)) (y1 NB842_874.out BK842.out) hb); replace BK868 := Aside0.mk (blk_below (g := gb868) (o := .cells #[.int .i64 t863, .slice Ao109 t864.length co109] 25 (0, 0)) (y1 NB868_874.out BK868.out) hb); replace BK874 := Aside0.mk (blk_below (g := gb874) (o := .cells #[.int .i64 t869, .slice Ao122 t870.length co122] 25 (0, 0)) (by (with_reducible repeat (first | refine blk_drewN ?_ _ | refine blk_drew ?_ | refine blk_alloc ?_ _)); refine blk_put (cs := #[.int .i64 t869, .slice none 0 0]) ?_ 1 _ rfl; (with_reducible repeat (first | refine blk_drewN ?_ _ | refine blk_drew ?_ | refine blk_alloc ?_ _)); apply blk_put (i := 0); (case h => exact y0 BK874.out); (case e => rfl)) hb); replace HB := Aside0.mk (below_step (y17 HB.out GE829.out GE830.out GE836.out GE842.out GE868.out GE874.out) hb); (try clear hb); (try clear hb2); (try clear hk); (try clear hi)))
               go_ret
               exact ⟨(by first | rfl | (simp [errW_none, errW_some] <;> rfl) | (simp only [← hji75]; first | rfl | (simp [errW_none, errW_some] <;> rfl)) | (simp [*, errW_none, errW_some] <;> rfl)), (y17 HB.out GE829.out GE830.out GE836.out GE842.out GE868.out GE874.out)⟩
              ·replace c95 := Bool.eq_false_iff.mpr c95
               subst c95
               rw [if_neg (show ¬ (false = true) by decide)] at H
               exact absurd ((Option.some.inj H).trans hr_.out) (by decide)
             ·replace c94 := Bool.eq_false_iff.mpr c94
              subst c94
              rw [if_neg (show ¬ (false = true) by decide)] at H
              exact absurd ((Option.some.inj H).trans hr_.out) (by decide)
            ·rw [if_neg c80] at H
             exact absurd H (by simp)
           ·rw [if_neg c79] at H
            exact absurd H (by simp)
          ·rw [if_neg c78] at H
           exact absurd H (by simp)
         ·rw [if_neg c77] at H
          exact absurd H (by simp)
        ·rw [if_neg c76] at H
         exact absurd H (by simp)
def laws_FnValOther.Pure : Prop := ∀ (l0 : List Int) (l1 : List Int), l0.length ≤ maxLen → l0.length * 1 ≤ 140737488351232 → (∀ x ∈ l0, (Lit.int .u8 x).wf = true) → l1.length ≤ maxLen → l1.length * 1 ≤ 140737488351232 → (∀ x ∈ l1, (Lit.int .u8 x).wf = true) → ∃ k, laws_FnValOther.f k l0 l1 = some true
theorem laws_FnValOther.walk (P : laws_FnValOther.Pure) (a0 : Option Addr) (len0 cap0 : Nat) (z0 : List Int) (a1 : Option Addr) (len1 cap1 : Nat) (z1 : List Int) (w : World) (w0 : (a0 = none ∧ len0 = 0 ∧ cap0 = 0 ∧ z0 = []) ∨ ∃ x, a0 = some x ∧ len0 ≤ cap0 ∧ cap0 ≤ maxLen ∧ z0.length = cap0 ∧ (∀ i, i < z0.length → w.cell? (x.add i) = some (.int .u8 (z0.getD i 0))) ∧ ∀ n ∈ z0, (Lit.int .u8 n).wf = true) (y0 : len0 * 1 ≤ 140737488351232) (w1 : (a1 = none ∧ len1 = 0 ∧ cap1 = 0 ∧ z1 = []) ∨ ∃ x, a1 = some x ∧ len1 ≤ cap1 ∧ cap1 ≤ maxLen ∧ z1.length = cap1 ∧ (∀ i, i < z1.length → w.cell? (x.add i) = some (.int .u8 (z1.getD i 0))) ∧ ∀ n ∈ z1, (Lit.int .u8 n).wf = true) (y1 : len1 * 1 ≤ 140737488351232) :
  Calls Try.prog 7 #[.slice a0 len0 cap0, .slice a1 len1 cap1] w fun e w' => e = .returned (.bool true) ∧ Below w.heap.size w w' := by
 obtain ⟨l0, rfl, hr0, hm0, hw0, hc0⟩ := ReadsInt.ofRowC w0
 obtain ⟨l1, rfl, hr1, hm1, hw1, hc1⟩ := ReadsInt.ofRowC w1
 obtain ⟨k, h⟩ := P l0 l1 hm0 y0 hw0 hm1 y1 hw1
 refine (laws_FnValOther.calls k _ _ l0 _ _ l1 true w (Kd.C_of_reads (d := (0 : Int)) (h1 := fun _ => rfl) hr0) hc0 (Kd.C_of_reads (d := (0 : Int)) (h1 := fun _ => rfl) hr1) hc1 h ⟨rfl⟩).mono ?_
 rintro e w' ⟨rfl, hd⟩
 exact ⟨rfl, hd⟩
end Go.Proofs.Ythfflieeifakdaa.PA
end
section
namespace Go.Proofs.Ythfflieeifakdaa.Draw
open Go.RowKit Go.Proofs.Ythfflieeifakdaa.PA Go.Proofs.YthfflieeifakdaaW.PrintWords Go.Proofs.YthfflieeifakdaaW.PrintLast
def Bytes (s : List Int) : Prop := s.length ≤ 2000 ∧ ∀ x ∈ s, 0 ≤ x ∧ x ≤ 255
theorem rd_byte {s : List Int} (h : Bytes s) (i : Int) : 0 ≤ rd s i ∧ rd s i ≤ 255 := by
  unfold rd
  rw [List.getD_eq_getElem?_getD]
  cases e : s[i.toNat]? with
  | none => simp
  | some x => exact h.2 x (List.mem_of_getElem? e)
theorem w64 {x : Int} (h0 : -9223372036854775808 ≤ x) (h1 : x ≤ 9223372036854775807) : wrap64 x = x := by unfold wrap64; omega
theorem w01 : wrap64 (0 + 1) = 1 := by rw [w64 (by omega) (by omega)]; rfl
theorem w12 : wrap64 (1 + 1) = 2 := by rw [w64 (by omega) (by omega)]; rfl
theorem xor_nonneg (a b : Nat) (ha : a < 2 ^ 62) (hb : b < 2 ^ 62) : 0 ≤ Go.bits .xor .i64 a b := by
  have hp : (2 : Nat) ^ 62 ≤ 2 ^ IntKind.i64.bits := Nat.pow_le_pow_right (by decide) (by decide)
  have ha' : a % 2 ^ IntKind.i64.bits = a := Nat.mod_eq_of_lt (Nat.lt_of_lt_of_le ha hp)
  have hb' : b % 2 ^ IntKind.i64.bits = b := Nat.mod_eq_of_lt (Nat.lt_of_lt_of_le hb hp)
  simp only [Go.bits, BitVec.ofInt_natCast, BitVec.toNat_xor, BitVec.toNat_ofNat, ha', hb']
  rw [IntKind.wrap_i64]
  have := Nat.xor_lt_two_pow ha hb
  omega
theorem xor_nonneg' (x y : Int) (hx : 0 ≤ x) (hx1 : x < 4611686018427387904) (hy : 0 ≤ y) (hy1 : y < 4611686018427387904) : 0 ≤ Go.bits .xor .i64 x y := by
  obtain ⟨a, rfl⟩ := Int.eq_ofNat_of_zero_le hx
  obtain ⟨b, rfl⟩ := Int.eq_ofNat_of_zero_le hy
  exact xor_nonneg a b (by omega) (by omega)
theorem tmod_range (x n : Int) (hx : 0 ≤ x) (hn : 1 ≤ n) : 0 ≤ Int.tmod x n ∧ Int.tmod x n < n := by
  rw [Int.tmod_eq_emod_of_nonneg hx]
  exact ⟨Int.emod_nonneg _ (by omega), Int.emod_lt_of_pos _ (by omega)⟩
theorem tdiv_range (x n : Int) (hx : 0 ≤ x) (hn : 1 ≤ n) : 0 ≤ Int.tdiv x n ∧ Int.tdiv x n ≤ x := by
  rw [Int.tdiv_eq_ediv_of_nonneg hx]
  exact ⟨Int.ediv_nonneg hx (by omega), Int.ediv_le_self _ hx⟩
theorem pick_ev (s : List Int) (hs : Bytes s) (p n : Int) (hp : 0 ≤ p) (hp1 : p ≤ 1099511627776) (hn : 1 ≤ n) :
    ∃ r, (∀ k, 2 ≤ k → spec_l6Rd_pick.f k s p n = some (r, p + 1)) ∧ 0 ≤ r ∧ r < n := by
  have e1 : wrap64 (p + 1) = p + 1 := w64 (by omega) (by omega)
  have e2 : wrap64 (p + 1 - 1) = p := by rw [w64 (by omega) (by omega)]; omega
  by_cases h0 : (s.length : Int) = 0
  · refine ⟨0, fun k hk => ?_, by omega, by omega⟩
    obtain ⟨k, rfl⟩ : ∃ m, k = m + 1 := ⟨k - 1, by omega⟩
    simp only [spec_l6Rd_pick.f]
    rw [if_neg (by omega), e1, show ((s.length : Int) == 0) = true from beq_iff_eq.2 h0]
    simp only [spec_l6Rd_pick.j0, if_true]
  have hl : 0 < s.length := by omega
  have hl2 := hs.1
  have hb : ((s.length : Int) == 0) = false := by simpa using h0
  by_cases hlt : p < (s.length : Int)
  · have hr := rd_byte hs p
    have hq := tmod_range (rd s p) n hr.1 hn
    refine ⟨_, fun k hk => ?_, hq.1, hq.2⟩
    obtain ⟨k, rfl⟩ : ∃ m, k = m + 1 := ⟨k - 1, by omega⟩
    simp only [spec_l6Rd_pick.f]
    rw [if_neg (by omega), e1, hb]
    simp only [spec_l6Rd_pick.j0, e2]
    rw [if_neg (by simp), if_pos hlt, if_pos hp, if_neg (by omega), w64 (by omega) (by omega)]
  · have m1 := tmod_range p (s.length : Int) hp (by omega)
    have e3 : wrap64 (p * 7) = p * 7 := w64 (by omega) (by omega)
    have e4 : wrap64 (p * 7 + 3) = p * 7 + 3 := w64 (by omega) (by omega)
    have m2 := tmod_range (p * 7 + 3) (s.length : Int) (by omega) (by omega)
    have d1 := tdiv_range p (s.length : Int) hp (by omega)
    have r1 := rd_byte hs (Int.tmod p (s.length : Int))
    have r2 := rd_byte hs (Int.tmod (p * 7 + 3) (s.length : Int))
    generalize ha : rd s (Int.tmod p (s.length : Int)) = a at *
    generalize hc : rd s (Int.tmod (p * 7 + 3) (s.length : Int)) = c at *
    generalize hd : Int.tdiv p (s.length : Int) = d at *
    have e5 : wrap64 (wrap64 (wrap64 (wrap64 (wrap64 a * 131) + wrap64 (wrap64 c * 1117)) + wrap64 (p * 29)) + wrap64 (wrap64 d * 53)) = a * 131 + c * 1117 + p * 29 + d * 53 := by
      rw [w64 (x := a) (by omega) (by omega), w64 (x := c) (by omega) (by omega), w64 (x := d) (by omega) (by omega), w64 (x := a * 131) (by omega) (by omega), w64 (x := c * 1117) (by omega) (by omega), w64 (x := d * 53) (by omega) (by omega), w64 (x := p * 29) (by omega) (by omega), w64 (x := a * 131 + c * 1117) (by omega) (by omega), w64 (x := a * 131 + c * 1117 + p * 29) (by omega) (by omega), w64 (by omega) (by omega)]
    generalize hx : a * 131 + c * 1117 + p * 29 + d * 53 = x at *
    have d2 := tdiv_range x 64 (by omega) (by omega)
    have e6 : wrap64 (Int.tdiv x 64) = Int.tdiv x 64 := w64 (by omega) (by omega)
    have hxor := xor_nonneg' x (Int.tdiv x 64) (by omega) (by omega) d2.1 (by omega)
    have hq := tmod_range (Go.bits .xor .i64 x (Int.tdiv x 64)) n hxor hn
    refine ⟨_, fun k hk => ?_, hq.1, hq.2⟩
    obtain ⟨k, rfl⟩ : ∃ m, k = m + 1 := ⟨k - 1, by omega⟩
    simp only [spec_l6Rd_pick.f]
    rw [if_neg (by omega), e1, hb]
    simp only [spec_l6Rd_pick.j0, e2, e3, e4, ha, hc, hd, e5, e6]
    rw [if_neg (by simp), if_neg hlt, if_neg h0, if_pos m1.1, if_pos m1.2, if_pos m2.1, if_pos m2.2, if_neg (by omega)]
theorem open_ev (l : List Int) (h : ∀ x ∈ l, (Lit.int .u8 x).wf = true) : ∃ s, spec_l6Open.f l = some (s, 0) ∧ Bytes s := by
  have hb : ∀ x ∈ l, 0 ≤ x ∧ x ≤ 255 := fun x hx => bounds_u8 (h x hx)
  unfold spec_l6Open.f
  by_cases hl : (l.length : Int) > 2000
  · rw [if_pos hl, if_pos (by omega)]
    exact ⟨_, rfl, by rw [List.length_take]; omega, fun x hx => hb x (List.mem_of_mem_take hx)⟩
  · rw [if_neg hl]
    exact ⟨_, rfl, by omega, hb⟩
def Dph : Nat → List S50 → Prop
  | 0, l => l = []
  | n + 1, l => ∀ x ∈ l, Dph n x.f0
theorem dph_nil (n : Nat) : Dph n [] := by cases n <;> simp [Dph]
theorem type_ev (s : List Int) (hs : Bytes s) : ∀ (d : Nat), d ≤ 1000 → ∀ (p : Int), 0 ≤ p → p + 2 ^ d ≤ 1099511627776 →
    ∃ r q, (∀ k, 3 * d + 4 ≤ k → spec_l71Type.f k s p d = some (r, q)) ∧ r.length ≤ 2 ∧ p ≤ q ∧ q + 1 ≤ p + 2 ^ d ∧ Dph d r := by
  intro d
  induction d with
  | zero =>
    intro hd p hp hp1
    refine ⟨[], p, fun k hk => ?_, by simp, by omega, by simp, dph_nil _⟩
    obtain ⟨k, rfl⟩ : ∃ m, k = m + 2 := ⟨k - 2, by omega⟩
    simp only [spec_l71Type.f]
    rw [if_pos (by omega)]
    simp only [spec_l71Type.j0, if_true]
  | succ d ih =>
    intro hd p hp hp1
    have hpow : (2 : Int) ^ (d + 1) = 2 ^ d + 2 ^ d := by rw [Int.pow_succ]; omega
    have hpos : (1 : Int) ≤ 2 ^ d := by have := Int.pow_pos (n := 2) (m := d) (by decide); omega
    rw [hpow] at hp1 ⊢
    generalize (2 : Int) ^ d = e at *
    by_cases h2 : (((d + 1 : Nat) : Int)) < 2
    · refine ⟨[], p, fun k hk => ?_, by simp, by omega, by omega, dph_nil _⟩
      obtain ⟨k, rfl⟩ : ∃ m, k = m + 2 := ⟨k - 2, by omega⟩
      simp only [spec_l71Type.f]
      rw [if_pos h2]
      simp only [spec_l71Type.j0, if_true]
    · obtain ⟨r, hr, hr0, hr1⟩ := pick_ev s hs p 3 hp (by omega) (by omega)
      by_cases hrp : r > 0
      · refine ⟨[], p + 1, fun k hk => ?_, by simp, by omega, by omega, dph_nil _⟩
        obtain ⟨k, rfl⟩ : ∃ m, k = m + 2 := ⟨k - 2, by omega⟩
        simp only [spec_l71Type.f]
        rw [if_neg h2, hr (k + 1) (by omega)]
        simp only [Option.bind_some, spec_l71Type.j0]
        rw [if_pos (by simpa using hrp)]
      · obtain ⟨a, q1, h1, _, hq1, hq1', da⟩ := ih (by omega) (p + 1) (by omega) (by omega)
        obtain ⟨b, q2, h3, _, hq2, hq2', db⟩ := ih (by omega) q1 (by omega) (by omega)
        have ew : wrap64 (((d + 1 : Nat) : Int) - 1) = (d : Int) := by
          rw [w64 (by omega) (by omega)]; omega
        refine ⟨[⟨a⟩, ⟨b⟩], q2, fun k hk => ?_, by simp, by omega, by omega, ?_⟩
        rotate_left
        · intro x hx
          rcases List.mem_cons.1 hx with rfl | hx
          · exact da
          · rw [List.mem_singleton.1 hx]; exact db
        · obtain ⟨k, rfl⟩ : ∃ m, k = m + 2 := ⟨k - 2, by omega⟩
          simp only [spec_l71Type.f]
          rw [if_neg h2, hr (k + 1) (by omega)]
          simp only [Option.bind_some, spec_l71Type.j0]
          rw [if_neg (by simpa using hrp), ew, h1 k (by omega)]
          simp only [Option.bind_some]
          rw [h3 k (by omega)]
          simp only [Option.bind_some]
end Go.Proofs.Ythfflieeifakdaa.Draw
end
section
namespace Go.Proofs.Ythfflieeifakdaa.PA
open Go.RowKit Go.Proofs.YthfflieeifakdaaW.PrintWords Go.Proofs.YthfflieeifakdaaW.PrintLast Go.Proofs.YthfflieeifakdaaW.PrintMore
attribute [local go_sem] max2_int min2_int max_two min_two max_three min_three max_four min_four
set_option linter.unusedVariables false
set_option linter.unusedSimpArgs false
def impl_typeFits.f : Nat → List (S50) → Int → Option (Bool)
 | 0, _, _ => none
 | k + 1, l0_0, a1 => if a1 < 1 then (some false) else (if (l0_0.length : Int) = 0 then (some true) else (if (l0_0.length : Int) = 2 then (if 0 < (l0_0.length : Int) then ((impl_typeFits.f k ((rd_T50 l0_0 0).f0) (wrap64 (a1 - 1))).bind fun t1097 => (if t1097 = true then (if 1 < (l0_0.length : Int) then ((impl_typeFits.f k ((rd_T50 l0_0 1).f0) (wrap64 (a1 - 1))).bind fun t1099 => (some t1099)) else (none)) else (some false))) else (none)) else (some false)))
theorem impl_typeFits.mono_l : ∀ k, (∀ y0 y1, LeO (impl_typeFits.f k y0 y1) (impl_typeFits.f (k + 1) y0 y1))
 | 0 => fun _ _ r h => by simp [impl_typeFits.f] at h
 | k + 1 => by
  have ih0 := impl_typeFits.mono_l k
  ·intro y0 y1
   unfold impl_typeFits.f
   repeat' first
   | (with_reducible exact ih0 _ _)
   | (with_reducible exact LeO.refl _)
   | (with_reducible exact LeO.none _)
   | (with_reducible refine LeO.ite ?_ ?_)
   | (with_reducible refine LeO.bind ?_ (fun _ => ?_))
   | exact ih0 _ _
   | exact LeO.none _
   | refine LeO.ite ?_ ?_
   | refine LeO.bind ?_ (fun _ => ?_)
theorem impl_typeFits.mono : ∀ a0 a1 k, LeO (impl_typeFits.f k a0 a1) (impl_typeFits.f (k + 1) a0 a1) := by
 intro a0 a1 k
 have ih0 := impl_typeFits.mono_l k
 exact ih0 a0 a1
set_option maxHeartbeats 8000000 in
set_option maxRecDepth 100000 in
theorem impl_typeFits.calls (k : Nat) : ∀ (A0_0 : Option Addr) (c0_0 : Nat) (l0_0 : List (S50)) (a1 : Int) (r : Bool) (w : World) (hr0_0 : Kd.C k50 w A0_0 l0_0.length l0_0) (hc0_0 : l0_0.length ≤ c0_0) (h : impl_typeFits.f k l0_0 a1 = some r),
  Calls Try.prog 59 #[.agg #[.slice A0_0 l0_0.length c0_0], .int .i64 a1] w fun e w' => e = .returned (.bool r) ∧ Below w.heap.size w w' := by
 induction k using Nat.strongRecOn with
 | _ k ih =>
 intro A0_0 c0_0 l0_0 a1 r w hr0_0 hc0_0 h
 cases k with
 | zero => exact absurd h (by simp [impl_typeFits.f])
 | succ k =>
 simp only [impl_typeFits.f] at h
 have hu50 := Try.underlying50
 have HR0_0 := Aside0.mk hr0_0
 have HC0_0 := Aside0.mk hc0_0
 clear hr0_0 hc0_0
 have HB := Aside0.mk (Below.refl w.heap.size w)
 have H : (if a1 < 1 then (some false) else (if (l0_0.length : Int) = 0 then (some true) else (if (l0_0.length : Int) = 2 then (if 0 < (l0_0.length : Int) then ((impl_typeFits.f k ((rd_T50 l0_0 0).f0) (wrap64 (a1 - 1))).bind fun t1097 => (if t1097 = true then (if 1 < (l0_0.length : Int) then ((impl_typeFits.f k ((rd_T50 l0_0 1).f0) (wrap64 (a1 - 1))).bind fun t1099 => (some t1099)) else (none)) else (some false))) else (none)) else (some false)))) = some r := h
 clear h
 have HZ3 := Aside0.mk H
 clear H
 go_enter Try.func59, Try.ntmps59
 go_upto_if 6 with (first | ((with_reducible refine gate_dst (N := 2) rfl ?_); refine zbx 2 #[.slice A0_0 l0_0.length c0_0] 50 ?_; intro gb1095 hg w4 hbox hb; have BK1095 := Aside0.mk hbox; have GW1095 := Aside0.mk ((y10 hg HB.out : w.heap.size ≤ gb1095)); have GE1095 := Aside0.mk ((y10 hg HB.out : w.heap.size ≤ gb1095)); replace HB := Aside0.mk (below_step (y6 HB.out) hb); clear hb hbox hg))
 (try simp only [Act.put, List.setIfInBounds_toArray, List.set_cons_zero, List.set_cons_succ])
 have H := HZ3.out
 clear HZ3
 by_cases c5 : a1 < 1
 ·rw [if_pos c5] at H
  have c5b0 : decide (a1 < 1) = true := decide_eq_true c5
  clear c5
  (first | rw [c5b0] | (simp only [i64_w, i32_w]; rw [c5b0]) | skip)
  obtain rfl := Option.some.inj H
  go_wp2
  go_ret
  exact ⟨y15, (y7 HB.out GE1095.out)⟩
 ·rw [if_neg c5] at H
  have c5b0 : decide (a1 < 1) = false := decide_eq_false c5
  clear c5
  (first | rw [c5b0] | (simp only [i64_w, i32_w]; rw [c5b0]) | skip)
  by_cases c6 : (l0_0.length : Int) = 0
  ·rw [if_pos c6] at H
   have c6b0 : ((l0_0.length : Int) == 0) = true := beq_iff_eq.mpr c6
   have c6b1 : ((l0_0.length : Int) != 0) = false := bne_eq_false_iff_eq.mpr c6
   clear c6
   obtain rfl := Option.some.inj H
   have hcz7_0 := zh BK1095
   have hfz7_0 := zfr BK1095 0
   go_wp2
   go_ret
   exact ⟨y15, (y7 HB.out GE1095.out)⟩
  ·rw [if_neg c6] at H
   have c6b0 : ((l0_0.length : Int) == 0) = false := beq_eq_false_iff_ne.mpr c6
   have c6b1 : ((l0_0.length : Int) != 0) = true := bne_iff_ne.mpr c6
   have c6b2 : ¬ (l0_0 = []) := fun h_ => c6 (by rw [h_]; rfl)
   by_cases c8 : (l0_0.length : Int) = 2
   ·rw [if_pos c8] at H
    have c8b0 : ((l0_0.length : Int) == 2) = true := beq_iff_eq.mpr c8
    have c8b1 : ((l0_0.length : Int) != 2) = false := bne_eq_false_iff_eq.mpr c8
    clear c8
    by_cases c9 : 0 < (l0_0.length : Int)
    ·rw [if_pos c9] at H
     have c9b0 : decide (0 < (l0_0.length : Int)) = true := decide_eq_true c9
     have c9b1 : decide (0 < l0_0.length) = true := decide_eq_true (by omega)
     clear c9
     obtain ⟨t1097, A100, H⟩ := ob H
     have A10 := Aside0.mk A100
     clear A100
     by_cases c11 : t1097 = true
     ·subst c11
      rw [if_pos rfl] at H
      by_cases c12 : 1 < (l0_0.length : Int)
      ·rw [if_pos c12] at H
       have c12b0 : decide (1 < (l0_0.length : Int)) = true := decide_eq_true c12
       have c12b1 : decide (1 < l0_0.length) = true := decide_eq_true (by omega)
       clear c12
       obtain ⟨t1099, A130, H⟩ := ob H
       have A13 := Aside0.mk A130
       clear A130
       obtain rfl := Option.some.inj H
       have hcz14_0 := zh BK1095
       have hfz14_0 := zfr BK1095 0
       have p1096 : 0 ≤ (0 : Int) := (by omega)
       have q1096 : 0 < (l0_0.length : Int) := of_decide_eq_true y23
       obtain ⟨ad1096, A1096_0, c1096_0, e1096, hx1096_0, hl1096_0, hi1096_0⟩ := at_T50 HR0_0.out 0 p1096 q1096
       cases e1096
       have qi1096 : (0 < l0_0.length) = True := eq_true (by omega)
       (try rw [show ((0 : Int)).toNat = 0 from rfl] at hx1096_0)
       (try rw [Addr.add_zero'] at hx1096_0)
       replace hx1096_0 := (HB.out.cell (World.block_lt_of_cell? w _ hx1096_0)).trans hx1096_0
       have HR1096_0 := Aside0.mk hi1096_0
       have HC1096_0 := Aside0.mk hl1096_0
       clear hi1096_0 hl1096_0
       replace p1096 := eq_true p1096
       replace q1096 := eq_true q1096
       go_wp2_with (first | (go_at_call 59; (with_reducible refine (ih k (by omega) _ _ ((rd_T50 l0_0 0).f0) (wrap64 (a1 - 1)) true _ ?side1 ?side2 A10.out).mono ?_); (case side1 => exact y18 HR1096_0.out HB.out); (case side2 => exact HC1096_0.out); rintro e w15 ⟨rfl, hb⟩; replace BK1095 := zbb BK1095 hb; replace HB := Aside0.mk (below_step (y7 HB.out GE1095.out) hb); (try clear hb); (try clear hb2); (try clear hk); (try clear hi); have hcz16_0 := zh BK1095; have hfz16_0 := zfr BK1095 0; have p1098 : 0 ≤ (1 : Int) := (by omega); have q1098 : 1 < (l0_0.length : Int) := of_decide_eq_true y23; obtain ⟨ad1098, A1098_0, c1098_0, e1098, hx1098_0, hl1098_0, hi1098_0⟩ := at_T50 HR0_0.out 1 p1098 q1098; obtain rfl : ad1096 = ad1098 := (by injection e1098); (try simp only [show (1 : Int).toNat = 1 from rfl, Nat.reduceMul, Nat.reduceEqDiff, Go.Addr.add, ↓reduceIte] at hx1098_0); have qi1098 : (1 < l0_0.length) = True := eq_true (by omega); (try rw [show ((1 : Int)).toNat = 1 from rfl] at hx1098_0); replace hx1098_0 := (HB.out.cell (World.block_lt_of_cell? w _ hx1098_0)).trans hx1098_0; have HR1098_0 := Aside0.mk hi1098_0; have HC1098_0 := Aside0.mk hl1098_0; clear hi1098_0 hl1098_0; replace p1098 := eq_true p1098; replace q1098 := eq_true q1098) | (go_at_call 59; (with_reducible refine (ih k (by omega) _ _ ((rd_T50 l0_0 1).f0) (wrap64 (a1 - 1)) t1099 _ ?side1 ?side2 A13.out).mono ?_); (case side1 => exact y18 HR1098_0.out HB.out); (case side2 => exact HC1098_0.out); rintro e w17 ⟨rfl, hb⟩; replace BK1095 := zbb BK1095 hb; replace HB := Aside0.mk (below_step (y7 HB.out GE1095.out) hb); (try clear hb); (try clear hb2); (try clear hk); (try clear hi)))
       go_ret
       exact ⟨y15, (y7 HB.out GE1095.out)⟩
      ·rw [if_neg c12] at H
       exact absurd H (by simp)
     ·replace c11 := Bool.eq_false_iff.mpr c11
      subst c11
      rw [if_neg (show ¬ (false = true) by decide)] at H
      obtain rfl := Option.some.inj H
      have hcz18_0 := zh BK1095
      have hfz18_0 := zfr BK1095 0
      have p1096 : 0 ≤ (0 : Int) := (by omega)
      have q1096 : 0 < (l0_0.length : Int) := of_decide_eq_true y23
      obtain ⟨ad1096, A1096_0, c1096_0, e1096, hx1096_0, hl1096_0, hi1096_0⟩ := at_T50 HR0_0.out 0 p1096 q1096
      cases e1096
      have qi1096 : (0 < l0_0.length) = True := eq_true (by omega)
      (try rw [show ((0 : Int)).toNat = 0 from rfl] at hx1096_0)
      (try rw [Addr.add_zero'] at hx1096_0)
      replace hx1096_0 := (HB.out.cell (World.block_lt_of_cell? w _ hx1096_0)).trans hx1096_0
      have HR1096_0 := Aside0.mk hi1096_0
      have HC1096_0 := Aside0.mk hl1096_0
      clear hi1096_0 hl1096_0
      replace p1096 := eq_true p1096
      replace q1096 := eq_true q1096
      go_wp2_with (first | (go_at_call 59; (with_reducible refine (ih k (by omega) _ _ ((rd_T50 l0_0 0).f0) (wrap64 (a1 - 1)) false _ ?side1 ?side2 A10.out).mono ?_); (case side1 => exact y18 HR1096_0.out HB.out); (case side2 => exact HC1096_0.out); rintro e w19 ⟨rfl, hb⟩; replace BK1095 := zbb BK1095 hb; replace HB := Aside0.mk (below_step (y7 HB.out GE1095.out) hb); (try clear hb); (try clear hb2); (try clear hk); (try clear hi)))
      go_ret
      exact ⟨y15, (y7 HB.out GE1095.out)⟩
    ·rw [if_neg c9] at H
     exact absurd H (by simp)
   ·rw [if_neg c8] at H
    have c8b0 : ((l0_0.length : Int) == 2) = false := beq_eq_false_iff_ne.mpr c8
    have c8b1 : ((l0_0.length : Int) != 2) = true := bne_iff_ne.mpr c8
    obtain rfl := Option.some.inj H
    have hcz20_0 := zh BK1095
    have hfz20_0 := zfr BK1095 0
    go_wp2
    go_ret
    exact ⟨y15, (y7 HB.out GE1095.out)⟩
end Go.Proofs.Ythfflieeifakdaa.PA
end
section
namespace Go.Proofs.Ythfflieeifakdaa.PA
open Go.RowKit Go.Proofs.YthfflieeifakdaaW.PrintWords Go.Proofs.YthfflieeifakdaaW.PrintLast Go.Proofs.YthfflieeifakdaaW.PrintMore
attribute [local go_sem] max2_int min2_int max_two min_two max_three min_three max_four min_four
set_option linter.unusedVariables false
set_option linter.unusedSimpArgs false
def impl_TypeOk.f (k : Nat) (l0_0 : List (S50)) : Option (Bool) := (impl_typeFits.f k l0_0 4).bind fun t1101 => (some t1101)
theorem impl_TypeOk.mono : ∀ a0 k, LeO (impl_TypeOk.f k a0) (impl_TypeOk.f (k + 1) a0) := by
 intro a0 k
 unfold impl_TypeOk.f
 repeat' first
   | (with_reducible exact impl_typeFits.mono _ _ _)
   | (with_reducible exact LeO.refl _)
   | (with_reducible exact LeO.none _)
   | (with_reducible refine LeO.ite ?_ ?_)
   | (with_reducible refine LeO.bind ?_ (fun _ => ?_))
   | exact impl_typeFits.mono _ _ _
   | exact LeO.none _
   | refine LeO.ite ?_ ?_
   | refine LeO.bind ?_ (fun _ => ?_)
set_option maxHeartbeats 8000000 in
set_option maxRecDepth 100000 in
theorem impl_TypeOk.calls (k : Nat) (A0_0 : Option Addr) (c0_0 : Nat) (l0_0 : List (S50)) (r : Bool) (w : World) (hr0_0 : Kd.C k50 w A0_0 l0_0.length l0_0) (hc0_0 : l0_0.length ≤ c0_0) (h : impl_TypeOk.f k l0_0 = some r) :
  Calls Try.prog 52 #[.agg #[.slice A0_0 l0_0.length c0_0]] w fun e w' => e = .returned (.bool r) ∧ Below w.heap.size w w' := by
 have hu50 := Try.underlying50
 have HR0_0 := Aside0.mk hr0_0
 have HC0_0 := Aside0.mk hc0_0
 clear hr0_0 hc0_0
 have HB := Aside0.mk (Below.refl w.heap.size w)
 have H : ((impl_typeFits.f k l0_0 4).bind fun t1101 => (some t1101)) = some r := h
 clear h
 obtain ⟨t1101, A20, H⟩ := ob H
 have A2 := Aside0.mk A20
 clear A20
 obtain rfl := Option.some.inj H
 go_enter Try.func52, Try.ntmps52
 go_wp2_with (first | ((with_reducible refine gate_dst (N := 1) rfl ?_); refine zbx 1 #[.slice A0_0 l0_0.length c0_0] 50 ?_; intro gb1100 hg w3 hbox hb; have BK1100 := Aside0.mk hbox; have GW1100 := Aside0.mk ((y10 hg HB.out : w.heap.size ≤ gb1100)); have GE1100 := Aside0.mk ((y10 hg HB.out : w.heap.size ≤ gb1100)); replace HB := Aside0.mk (below_step (y6 HB.out) hb); clear hb hbox hg; have hcz4_0 := zh BK1100; have hfz4_0 := zfr BK1100 0) | ((with_reducible refine gate_callee (f := 59) rfl ?_); refine goesL_ (some 4) rfl rfl Try.func59 (by kernel_rfl) rfl #[.agg #[.slice A0_0 l0_0.length c0_0], .int .i64 4] rfl y9 ?_; (with_reducible refine (impl_typeFits.calls k _ _ l0_0 4 t1101 _ ?side1 ?side2 A2.out).mono ?_); (case side1 => exact y18 HR0_0.out HB.out); (case side2 => exact HC0_0.out); rintro e w5 ⟨rfl, hb⟩; refine ⟨_, rfl, ?_⟩; replace BK1100 := zbb BK1100 hb; replace HB := Aside0.mk (below_step (y7 HB.out GE1100.out) hb); (try clear hb); (try clear hb2); (try clear hk); (try clear hi)))
 go_ret
 exact ⟨y15, (y7 HB.out GE1100.out)⟩
end Go.Proofs.Ythfflieeifakdaa.PA
end
section
namespace Go.Proofs.Ythfflieeifakdaa.Types
open Go.RowKit Go.Proofs.Ythfflieeifakdaa.PA Go.Proofs.YthfflieeifakdaaW.PrintWords Go.Proofs.YthfflieeifakdaaW.PrintLast Go.Proofs.Ythfflieeifakdaa.Draw
abbrev Ty := List S50
theorem rd0 (a : S50) (l : Ty) : rd_T50 (a :: l) 0 = a := rfl
theorem rd1 (a b : S50) (l : Ty) : rd_T50 (a :: b :: l) 1 = b := rfl
def dp : Nat → Ty → Bool
  | 0, _ => false
  | _ + 1, [] => true
  | n + 1, [a, b] => dp n a.f0 && dp n b.f0
  | _ + 1, _ => false
theorem dp_nil (n : Nat) : dp (n + 1) [] = true := rfl
theorem dp_two (n : Nat) (a b : S50) : dp (n + 1) [a, b] = (dp n a.f0 && dp n b.f0) := rfl
theorem dp_odd (n : Nat) (l : Ty) (h0 : l.length ≠ 0) (h2 : l.length ≠ 2) : dp n l = false := by
  cases n with
  | zero => rfl
  | succ n =>
    match l with
    | [] => simp at h0
    | [_] => rfl
    | [_, _] => simp at h2
    | _ :: _ :: _ :: _ => rfl
theorem two_of {l : Ty} (h : l.length = 2) : ∃ a b, l = [a, b] := by
  match l with
  | [a, b] => exact ⟨a, b, rfl⟩
theorem shape (l : Ty) : l = [] ∨ (∃ a b, l = [a, b]) ∨ (l.length ≠ 0 ∧ l.length ≠ 2) := by
  match l with
  | [] => exact .inl rfl
  | [_] => exact .inr (.inr ⟨by simp, by simp⟩)
  | [a, b] => exact .inr (.inl ⟨a, b, rfl⟩)
  | _ :: _ :: _ :: _ => exact .inr (.inr ⟨by simp, by simp⟩)
theorem pred_cast (n : Nat) (hn : n ≤ 1000) : wrap64 (((n + 1 : Nat) : Int) - 1) = (n : Int) := by rw [w64 (by omega) (by omega)]; omega
theorem deep_ev : ∀ (n : Nat), n ≤ 1000 → ∀ (l : Ty) (k : Nat), 5 * n + 3 ≤ k → spec_l1Deep.f k l n = some (dp n l) := by
  intro n
  induction n with
  | zero =>
    intro _ l k hk
    obtain ⟨k, rfl⟩ : ∃ m, k = m + 2 := ⟨k - 2, by omega⟩
    simp only [spec_l1Deep.f]
    rw [if_pos (by omega)]
    simp only [spec_l1Deep.j0, if_true]
    rfl
  | succ n ih =>
    intro hn l k hk
    obtain ⟨k, rfl⟩ : ∃ m, k = m + 5 := ⟨k - 5, by omega⟩
    have hp := pred_cast n (by omega)
    simp only [spec_l1Deep.f]
    rw [if_neg (by omega)]
    rcases shape l with rfl | ⟨a, b, rfl⟩ | ⟨h0, h2⟩
    · rw [if_pos (by simp)]
      simp only [spec_l1Deep.j0, spec_l1Deep.l0]
      rw [if_neg (by simp), if_neg (by simp)]
      rfl
    · rw [if_neg (by simp)]
      simp only [spec_l1Deep.j0]
      rw [if_neg (by simp)]
      simp only [spec_l1Deep.l0, hp, w01, w12]
      rw [if_pos (by simp), if_pos (by omega), rd0, ih (by omega) _ _ (by omega), dp_two]
      simp only [Option.bind_some]
      cases ha : dp n a.f0 with
      | false => simp
      | true =>
        rw [if_pos rfl, if_pos (by simp), if_pos (by omega), rd1, ih (by omega) _ _ (by omega)]
        simp only [Option.bind_some]
        cases hb : dp n b.f0 with
        | false => simp
        | true => rw [if_pos rfl, if_neg (by simp)]; rfl
    · rw [if_neg (by omega), dp_odd _ _ h0 h2]
      simp only [spec_l1Deep.j0]
      rw [if_pos (by simp; omega)]
theorem specOk_ev (l : Ty) (k : Nat) (hk : 23 ≤ k) : spec_TypeOk.f k l = some (dp 4 l) := by
  unfold spec_TypeOk.f
  rw [show (4 : Int) = ((4 : Nat) : Int) from rfl, deep_ev 4 (by omega) l k (by omega)]; rfl
theorem fits_ev : ∀ (n : Nat), n ≤ 1000 → ∀ (l : Ty) (k : Nat), n + 1 ≤ k → impl_typeFits.f k l n = some (dp n l) := by
  intro n
  induction n with
  | zero =>
    intro _ l k hk
    obtain ⟨k, rfl⟩ : ∃ m, k = m + 1 := ⟨k - 1, by omega⟩
    simp only [impl_typeFits.f]
    rw [if_pos (by omega)]; rfl
  | succ n ih =>
    intro hn l k hk
    obtain ⟨k, rfl⟩ : ∃ m, k = m + 1 := ⟨k - 1, by omega⟩
    have hp := pred_cast n (by omega)
    simp only [impl_typeFits.f]
    rw [if_neg (by omega)]
    rcases shape l with rfl | ⟨a, b, rfl⟩ | ⟨h0, h2⟩
    · rw [if_pos (by simp)]; rfl
    · rw [if_neg (by simp), if_pos (by simp), if_pos (by simp), hp, rd0, ih (by omega) _ _ (by omega), dp_two]
      simp only [Option.bind_some]
      cases ha : dp n a.f0 with
      | false => simp
      | true => rw [if_pos rfl, if_pos (by simp), rd1, ih (by omega) _ _ (by omega)]; simp
    · rw [if_neg (by omega), if_neg (by omega), dp_odd _ _ h0 h2]
theorem implOk_ev (l : Ty) (k : Nat) (hk : 5 ≤ k) : impl_TypeOk.f k l = some (dp 4 l) := by
  unfold impl_TypeOk.f
  rw [show (4 : Int) = ((4 : Nat) : Int) from rfl, fits_ev 4 (by omega) l k (by omega)]; rfl
def tx : Nat → Ty → ByteArray
  | n + 1, [a, b] => ((((⟨#[40]⟩ : ByteArray) ++ tx n a.f0) ++ (⟨#[44]⟩ : ByteArray)) ++ tx n b.f0) ++ (⟨#[41]⟩ : ByteArray)
  | _, _ => ⟨#[105]⟩
theorem tx_two (n : Nat) (a b : S50) : tx (n + 1) [a, b] = ((((⟨#[40]⟩ : ByteArray) ++ tx n a.f0) ++ (⟨#[44]⟩ : ByteArray)) ++ tx n b.f0) ++ (⟨#[41]⟩ : ByteArray) := rfl
theorem tx_nil (n : Nat) : tx n [] = ⟨#[105]⟩ := by cases n <;> rfl
theorem tx_size (n : Nat) : ∀ l, (tx n l).size + 3 ≤ 4 * 2 ^ n := by
  induction n with
  | zero => intro l; simp [tx]; decide
  | succ n ih =>
    intro l
    have hp : 1 ≤ 2 ^ n := Nat.one_le_two_pow
    have h1 : (⟨#[105]⟩ : ByteArray).size = 1 := rfl
    rw [Nat.pow_succ]
    match l with
    | [a, b] =>
      have ha := ih a.f0
      have hb := ih b.f0
      rw [tx_two]
      simp only [ByteArray.size_append, show (⟨#[40]⟩ : ByteArray).size = 1 from rfl, show (⟨#[44]⟩ : ByteArray).size = 1 from rfl, show (⟨#[41]⟩ : ByteArray).size = 1 from rfl]
      omega
    | [] => show (⟨#[105]⟩ : ByteArray).size + 3 ≤ _; omega
    | [_] => show (⟨#[105]⟩ : ByteArray).size + 3 ≤ _; omega
    | _ :: _ :: _ :: _ => show (⟨#[105]⟩ : ByteArray).size + 3 ≤ _; omega
def text (l : Ty) : ByteArray := if dp 4 l = true then tx 4 l else ⟨#[]⟩
def teq : Nat → Ty → Ty → Bool
  | _ + 1, [], [] => true
  | n + 1, [a, b], [c, d] => teq n a.f0 c.f0 && teq n b.f0 d.f0
  | _, _, _ => false
theorem teq_eq : ∀ (n : Nat) (a b : Ty), teq n a b = true → a = b := by
  intro n
  induction n with
  | zero => intro a b h; simp [teq] at h
  | succ n ih =>
    intro a b h
    unfold teq at h
    split at h
    · rfl
    · rename_i m x y z u he
      cases he
      rw [Bool.and_eq_true] at h
      have h1 := ih _ _ h.1
      have h2 := ih _ _ h.2
      cases x; cases y; cases z; cases u
      simp_all
    · cases h
theorem teq_refl : ∀ (n : Nat) (a : Ty), dp n a = true → teq n a a = true := by
  intro n
  induction n with
  | zero => intro a h; simp [dp] at h
  | succ n ih =>
    intro a h
    rcases shape a with rfl | ⟨a1, a2, rfl⟩ | ⟨h0, h2⟩
    · rfl
    · rw [dp_two, Bool.and_eq_true] at h
      show (teq n a1.f0 a1.f0 && teq n a2.f0 a2.f0) = true
      rw [ih _ h.1, ih _ h.2]; rfl
    · rw [dp_odd _ _ h0 h2] at h; cases h
theorem toList_app (a b : ByteArray) : (a ++ b).toList = a.toList ++ b.toList := by
  rw [ByteArray.toList_eq, ByteArray.toList_eq, ByteArray.toList_eq]; simp
theorem lit_toList (c : UInt8) : (⟨#[c]⟩ : ByteArray).toList = [c] := by rw [ByteArray.toList_eq]
theorem tx_inj : ∀ (n : Nat) (a b : Ty) (r s : List UInt8), dp n a = true → dp n b = true → (tx n a).toList ++ r = (tx n b).toList ++ s → teq n a b = true ∧ r = s := by
  intro n
  induction n with
  | zero => intro a b r s h; simp [dp] at h
  | succ n ih =>
    intro a b r s ha hb h
    rcases shape a with rfl | ⟨a1, a2, rfl⟩ | ⟨h0, h2⟩
    · rcases shape b with rfl | ⟨b1, b2, rfl⟩ | ⟨h0, h2⟩
      · rw [tx_nil] at h
        exact ⟨rfl, List.append_cancel_left h⟩
      · rw [tx_nil, tx_two] at h
        simp only [toList_app, lit_toList, List.cons_append, List.nil_append, List.append_assoc] at h
        injection h with h1 _
        exact absurd h1 (by decide)
      · rw [dp_odd _ _ h0 h2] at hb; cases hb
    · rcases shape b with rfl | ⟨b1, b2, rfl⟩ | ⟨h0, h2⟩
      · rw [tx_nil, tx_two] at h
        simp only [toList_app, lit_toList, List.cons_append, List.nil_append, List.append_assoc] at h
        injection h with h1 _
        exact absurd h1 (by decide)
      · rw [dp_two, Bool.and_eq_true] at ha hb
        rw [tx_two, tx_two] at h
        simp only [toList_app, lit_toList, List.cons_append, List.nil_append, List.append_assoc] at h
        injection h with _ h
        obtain ⟨e1, h⟩ := ih _ _ _ _ ha.1 hb.1 h
        injection h with _ h
        obtain ⟨e2, h⟩ := ih _ _ _ _ ha.2 hb.2 h
        injection h with _ h
        refine ⟨?_, h⟩
        show (teq n a1.f0 b1.f0 && teq n a2.f0 b2.f0) = true
        rw [e1, e2]; rfl
      · rw [dp_odd _ _ h0 h2] at hb; cases hb
    · rw [dp_odd _ _ h0 h2] at ha; cases ha
theorem text_teq (a b : Ty) (ha : dp 4 a = true) (hb : dp 4 b = true) : ((text a).toList == (text b).toList) = teq 4 a b := by
  unfold text
  rw [if_pos ha, if_pos hb]
  by_cases h : (tx 4 a).toList = (tx 4 b).toList
  · rw [beq_iff_eq.2 h, (tx_inj 4 a b [] [] ha hb (by simpa using h)).1]
  · cases e : teq 4 a b with
    | false => exact beq_eq_false_iff_ne.2 h
    | true => exact absurd (by rw [teq_eq _ _ _ e]) h
theorem tx_pos (n : Nat) (l : Ty) : 0 < (tx n l).size := by
  unfold tx
  split
  · simp only [ByteArray.size_append, show (⟨#[40]⟩ : ByteArray).size = 1 from rfl]; omega
  · decide
theorem dph_mono : ∀ (n : Nat) (l : Ty), Dph n l → Dph (n + 1) l := by
  intro n
  induction n with
  | zero => intro l h; rw [show l = [] from h]; exact dph_nil _
  | succ n ih => intro l h x hx; exact ih _ (h x hx)
theorem dph_le (n m : Nat) (h : n ≤ m) (l : Ty) (hd : Dph n l) : Dph m l := by
  induction m with
  | zero => obtain rfl : n = 0 := by omega
            exact hd
  | succ m ih =>
    by_cases e : n = m + 1
    · subst e; exact hd
    · exact dph_mono _ _ (ih (by omega))
end Go.Proofs.Ythfflieeifakdaa.Types
end
section
namespace Go.Proofs.Ythfflieeifakdaa.Paths
open Go.RowKit Go.Proofs.Ythfflieeifakdaa.PA Go.Proofs.YthfflieeifakdaaW.PrintWords Go.Proofs.YthfflieeifakdaaW.PrintLast Go.Proofs.Ythfflieeifakdaa.Draw Go.Proofs.Ythfflieeifakdaa.Types
def pf : List Int → Ty → Option Ty
  | [], t => some t
  | i :: r, [a, b] => if i = 0 then pf r a.f0 else if i = 1 then pf r b.f0 else none
  | _ :: _, _ => none
theorem pf_nil (t : Ty) : pf [] t = some t := by cases t <;> rfl
theorem pf_two (i : Int) (r : List Int) (a b : S50) : pf (i :: r) [a, b] = if i = 0 then pf r a.f0 else if i = 1 then pf r b.f0 else none := rfl
theorem pf_odd (i : Int) (r : List Int) (t : Ty) (h : t.length ≠ 2) : pf (i :: r) t = none := by
  match t with
  | [] => rfl
  | [_] => rfl
  | [_, _] => simp at h
  | _ :: _ :: _ :: _ => rfl
theorem pf_app (p q : List Int) : ∀ t, pf (p ++ q) t = (pf p t).bind (pf q) := by
  induction p with
  | nil => intro t; rw [List.nil_append, pf_nil]; rfl
  | cons i r ih =>
    intro t
    by_cases h : t.length = 2
    · obtain ⟨a, b, rfl⟩ := two_of h
      rw [List.cons_append, pf_two, pf_two]
      split
      · exact ih _
      · split
        · exact ih _
        · rfl
    · rw [List.cons_append, pf_odd _ _ _ h, pf_odd _ _ _ h]; rfl
theorem dp_succ : ∀ (n : Nat) (t : Ty), dp n t = true → dp (n + 1) t = true := by
  intro n
  induction n with
  | zero => intro t h; simp [dp] at h
  | succ n ih =>
    intro t h
    rcases Types.shape t with rfl | ⟨a, b, rfl⟩ | ⟨h0, h2⟩
    · rfl
    · rw [dp_two, Bool.and_eq_true] at h ⊢
      exact ⟨ih _ h.1, ih _ h.2⟩
    · rw [dp_odd _ _ h0 h2] at h; cases h
theorem dp_pf (n : Nat) : ∀ (p : List Int) (t u : Ty), dp n t = true → pf p t = some u → dp n u = true := by
  intro p
  induction p with
  | nil => intro t u h e; rw [pf_nil] at e; cases e; exact h
  | cons i r ih =>
    intro t u h e
    by_cases h2 : t.length = 2
    · obtain ⟨a, b, rfl⟩ := two_of h2
      cases n with
      | zero => simp [dp] at h
      | succ n =>
        rw [dp_two, Bool.and_eq_true] at h
        rw [pf_two] at e
        split at e
        · exact ih _ _ (dp_succ _ _ h.1) e
        · split at e
          · exact ih _ _ (dp_succ _ _ h.2) e
          · cases e
    · rw [pf_odd _ _ _ h2] at e; cases e
theorem rd_mid (pre r : List Int) (i : Int) : rd (pre ++ i :: r) (pre.length : Int) = i := by
  unfold rd
  rw [Int.toNat_natCast, List.getD_eq_getElem?_getD, List.getElem?_append_right (Nat.le_refl _)]
  simp
def at_ (o : Option Ty) : Ty × Bool := match o with | some u => (u, true) | none => ([], false)
theorem specCopy_ev : ∀ (n : Nat) (t : Ty) (k : Nat), dp n t = true → 4 * n ≤ k → spec_l1Copy.f k t = some t := by
  intro n
  induction n with
  | zero => intro t k h; simp [dp] at h
  | succ n ih =>
    intro t k h hk
    obtain ⟨k, rfl⟩ : ∃ m, k = m + 4 := ⟨k - 4, by omega⟩
    simp only [spec_l1Copy.f]
    rcases Types.shape t with rfl | ⟨a, b, rfl⟩ | ⟨h0, h2⟩
    · simp only [spec_l1Copy.l0]; rw [if_neg (by simp)]
    · rw [dp_two, Bool.and_eq_true] at h
      simp only [spec_l1Copy.l0, w01, w12]
      rw [if_pos (by simp), if_pos (by omega), rd0, ih _ _ h.1 (by omega)]; simp only [Option.bind_some]
      rw [if_pos (by simp), if_pos (by simp), if_pos (by omega), rd1, ih _ _ h.2 (by omega)]; simp only [Option.bind_some]
      rw [if_pos (by simp), if_neg (by simp)]
      cases a; cases b; rfl
    · rw [dp_odd _ _ h0 h2] at h; cases h
def tat (t : Ty) (p : List Int) : Ty × Bool := if dp 4 t = true then at_ (pf p t) else ([], false)
theorem specLoop_ev (n : Nat) : ∀ (r pre : List Int) (t : Ty) (k : Nat), dp n t = true → pre.length + r.length ≤ 4611686018427387904 → r.length + 4 * n + 1 ≤ k →
    spec_TypeAt.l0 k (pre ++ r) (pre.length : Int) t = some (at_ (pf r t)) := by
  intro r
  induction r with
  | nil =>
    intro pre t k d h1 hk
    obtain ⟨k, rfl⟩ : ∃ m, k = m + 1 := ⟨k - 1, by omega⟩
    simp only [List.length_nil] at hk
    simp only [spec_TypeAt.l0]
    rw [if_neg (by simp), specCopy_ev n t k d (by omega), pf_nil]; rfl
  | cons i r ih =>
    intro pre t k d h1 hk
    simp only [List.length_cons] at h1 hk
    obtain ⟨k, rfl⟩ : ∃ m, k = m + 1 := ⟨k - 1, by omega⟩
    simp only [spec_TypeAt.l0, spec_l6In.f]
    have hl : ((pre ++ i :: r).length : Int) = pre.length + 1 + r.length := by simp; omega
    rw [if_pos (by omega), if_pos (by omega), rd_mid]
    rcases Types.shape t with rfl | ⟨a, b, rfl⟩ | ⟨h0, h2⟩
    · rw [pf_odd _ _ _ (by simp), show wrap64 ((([] : Ty).length : Int) - 1) = -1 from w64 (by simp) (by simp)]
      by_cases hn : i ≥ 0
      · rw [if_pos hn]; simp only [Option.bind_some]; rw [if_neg (by simp; omega)]; rfl
      · rw [if_neg hn]; rfl
    · rw [pf_two, show wrap64 ((([a, b] : Ty).length : Int) - 1) = 1 from w64 (by simp) (by simp)]
      cases n with
      | zero => simp [dp] at d
      | succ n =>
        rw [dp_two, Bool.and_eq_true] at d
        by_cases hn : i ≥ 0
        · rw [if_pos hn]; simp only [Option.bind_some]
          by_cases hb : i ≤ 1
          · rw [if_pos (by simpa using hb), if_pos (by omega), if_pos (by simp; omega), w64 (by omega) (by omega)]
            have ea : pre ++ i :: r = (pre ++ [i]) ++ r := by simp
            have el : (pre.length : Int) + 1 = ((pre ++ [i]).length : Int) := by simp
            rw [el, ea]
            by_cases h0 : i = 0
            · rw [if_pos h0, h0, rd0, ih _ _ _ (dp_succ _ _ d.1) (by simp; omega) (by omega)]
            · rw [if_neg h0, if_pos (by omega), show i = 1 by omega, rd1, ih _ _ _ (dp_succ _ _ d.2) (by simp; omega) (by omega)]
          · rw [if_neg (by simpa using hb), if_neg (by omega), if_neg (by omega)]; rfl
        · rw [if_neg hn, if_neg (show ¬ i = 0 by omega), if_neg (show ¬ i = 1 by omega)]; rfl
    · rw [dp_odd _ _ h0 h2] at d; cases d
theorem specTypeAt_ev (t : Ty) (p : List Int) (k : Nat) (h : p.length ≤ 4611686018427387904) (hk : p.length + 30 ≤ k) : spec_TypeAt.f k t p = some (tat t p) := by
  unfold spec_TypeAt.f tat
  rw [specOk_ev t k (by omega)]; simp only [Option.bind_some]
  by_cases d : dp 4 t = true
  · rw [if_pos d, if_pos d]
    have := specLoop_ev 4 p [] t k d (by simpa using h) (by omega)
    simpa using this
  · rw [if_neg d, if_neg d]
theorem tat_ok (t : Ty) (p : List Int) : dp 4 (tat t p).1 = true := by
  unfold tat
  split
  · rename_i d
    cases e : pf p t with
    | none => rfl
    | some u => exact dp_pf 4 _ _ _ d e
  · rfl
theorem rdT_dph (d : Nat) (t : Ty) (h : Dph (d + 1) t) (i : Int) : Dph d (rd_T50 t i).f0 := by
  unfold rd_T50
  rw [List.getD_eq_getElem?_getD]
  cases e : t[i.toNat]? with
  | none => exact dph_nil d
  | some x => exact h x (List.mem_of_getElem? e)
theorem pathLoop_ev (s : List Int) (hs : Bytes s) : ∀ (d : Nat) (t : Ty), d ≤ 1000 → Dph d t → ∀ (p : Int) (pre : List Int), 0 ≤ p → p + 2 * d + 3 ≤ 1099511627776 → pre.length + d ≤ 1000 →
    ∃ r u q, (∀ k, d + 3 ≤ k → spec_l71Path.l0 k pre s p t = some (r, u, q)) ∧ p ≤ q ∧ q ≤ p + 2 * d + 1 ∧ r.length ≤ pre.length + d := by
  intro d
  induction d with
  | zero =>
    intro t _ h p pre hp hp1 hl
    rw [show t = [] from h]
    refine ⟨pre, [], p, fun k hk => ?_, by omega, by omega, by omega⟩
    obtain ⟨k, rfl⟩ : ∃ m, k = m + 1 := ⟨k - 1, by omega⟩
    simp only [spec_l71Path.l0]
    rw [if_neg (by simp)]
  | succ d ih =>
    intro t hd h p pre hp hp1 hl
    by_cases h0 : (t.length : Int) > 0
    · obtain ⟨c, hc, c0, c1⟩ := pick_ev s hs p 3 hp (by omega) (by omega)
      by_cases hcp : c > 0
      · obtain ⟨i, hi, i0, i1⟩ := pick_ev s hs (p + 1) (t.length : Int) (by omega) (by omega) (by omega)
        obtain ⟨r, u, q, hr, hq, hq2, hrl⟩ := ih (rd_T50 t i).f0 (by omega) (rdT_dph _ _ h i) (p + 1 + 1) (pre ++ [i]) (by omega) (by omega) (by simp; omega)
        refine ⟨r, u, q, fun k hk => ?_, by omega, by omega, by simp at hrl; omega⟩
        obtain ⟨k, rfl⟩ : ∃ m, k = m + 1 := ⟨k - 1, by omega⟩
        simp only [spec_l71Path.l0]
        rw [if_pos h0, hc k (by omega)]; simp only [Option.bind_some]
        rw [if_pos hcp, hi k (by omega)]; simp only [Option.bind_some]
        rw [if_pos (by omega), if_pos i0, if_pos i1]
        exact hr k (by omega)
      · refine ⟨pre, t, p + 1, fun k hk => ?_, by omega, by omega, by omega⟩
        obtain ⟨k, rfl⟩ : ∃ m, k = m + 1 := ⟨k - 1, by omega⟩
        simp only [spec_l71Path.l0]
        rw [if_pos h0, hc k (by omega)]; simp only [Option.bind_some]
        rw [if_neg hcp]
    · refine ⟨pre, t, p, fun k hk => ?_, by omega, by omega, by omega⟩
      obtain ⟨k, rfl⟩ : ∃ m, k = m + 1 := ⟨k - 1, by omega⟩
      simp only [spec_l71Path.l0]
      rw [if_neg h0]
theorem any_ev (s : List Int) (hs : Bytes s) (d : Nat) (t : Ty) (hd : d ≤ 900) (h : Dph d t) (p : Int) (hp : 0 ≤ p) (hp1 : p ≤ 1099511620000) :
    ∃ r q, (∀ k, d + 4 ≤ k → spec_l71Any.f k s p t = some (r, q)) ∧ p ≤ q ∧ q ≤ p + 2 * d + 3 ∧ r.length ≤ d + 1 := by
  obtain ⟨r, u, q, hr, hq, hq2, hl⟩ := pathLoop_ev s hs d t (by omega) h p [] hp (by omega) (by simp; omega)
  simp only [List.length_nil] at hl
  obtain ⟨c, hc, c0, c1⟩ := pick_ev s hs q 6 (by omega) (by omega) (by omega)
  have hf : ∀ k, d + 4 ≤ k → spec_l71Path.f k s p t = some (r, u, q) := fun k hk => hr k (by omega)
  by_cases e : c = 0
  · obtain ⟨c', hc', _, _⟩ := pick_ev s hs (q + 1) 4 (by omega) (by omega) (by omega)
    refine ⟨r ++ [wrap64 (c' - 1)], q + 1 + 1, fun k hk => ?_, by omega, by omega, by simp; omega⟩
    unfold spec_l71Any.f
    rw [hf k hk]; simp only [Option.bind_some]
    rw [hc k (by omega)]; simp only [Option.bind_some]
    rw [if_pos e, hc' k (by omega)]; simp only [Option.bind_some]
    rw [if_pos (by omega)]
  · refine ⟨r, q + 1, fun k hk => ?_, by omega, by omega, by omega⟩
    unfold spec_l71Any.f
    rw [hf k hk]; simp only [Option.bind_some]
    rw [hc k (by omega)]; simp only [Option.bind_some]
    rw [if_neg e]
end Go.Proofs.Ythfflieeifakdaa.Paths
end
section
namespace Go.Proofs.Ythfflieeifakdaa.PA
open Go.RowKit Go.Proofs.YthfflieeifakdaaW.PrintWords Go.Proofs.YthfflieeifakdaaW.PrintLast Go.Proofs.YthfflieeifakdaaW.PrintMore
attribute [local go_sem] max2_int min2_int max_two min_two max_three min_three max_four min_four
set_option linter.unusedVariables false
set_option linter.unusedSimpArgs false
def spec_DrawValOk.f (k : Nat) (l0 : List Int) : Option ((List (S50)) × Int × (List (S25))) := (spec_l6Open.f l0).bind fun bt1069 => ((spec_l6Rd_pick.f k bt1069.1 bt1069.2 4).bind fun bt1072 => ((spec_l71Type.f k bt1069.1 bt1072.2 (wrap64 (1 + bt1072.1))).bind fun bt1074 => ((spec_l6Rd_pick.f k bt1069.1 bt1074.2 5).bind fun bt1079 => (if bt1079.1 = 0 then ((spec_l71Type.f k bt1069.1 bt1079.2 3).bind fun bt1081 => ((spec_l71Bad.f k bt1069.1 bt1081.2 bt1081.1).bind fun bt1085 => (some (bt1074.1, bt1085.1, bt1085.2.1)))) else ((spec_l71Bad.f k bt1069.1 bt1079.2 bt1074.1).bind fun bt1090 => (some (bt1074.1, bt1090.1, bt1090.2.1)))))))
theorem spec_DrawValOk.mono : ∀ a0 k, LeO (spec_DrawValOk.f k a0) (spec_DrawValOk.f (k + 1) a0) := by
 intro a0 k
 unfold spec_DrawValOk.f
 repeat' first
   | (with_reducible exact spec_l6Rd_pick.mono _ _ _ _)
   | (with_reducible exact spec_l71Bad.mono _ _ _ _)
   | (with_reducible exact spec_l71Type.mono _ _ _ _)
   | (with_reducible exact LeO.refl _)
   | (with_reducible exact LeO.none _)
   | (with_reducible refine LeO.ite ?_ ?_)
   | (with_reducible refine LeO.bind ?_ (fun _ => ?_))
   | exact spec_l6Rd_pick.mono _ _ _ _
   | exact spec_l71Bad.mono _ _ _ _
   | exact spec_l71Type.mono _ _ _ _
   | exact LeO.none _
   | refine LeO.ite ?_ ?_
   | refine LeO.bind ?_ (fun _ => ?_)
set_option maxHeartbeats 8000000 in
set_option maxRecDepth 100000 in
theorem spec_DrawValOk.calls (k : Nat) (A0 : Option Addr) (c0 : Nat) (l0 : List Int) (r1 : List (S50)) (r2 : Int) (r3 : List (S25)) (w : World) (hr0 : Kd.C (Kd.int .u8) w A0 l0.length l0) (hc0 : l0.length ≤ c0) (h : spec_DrawValOk.f k l0 = some (r1, r2, r3)) :
  Calls Try.prog 27 #[.slice A0 l0.length c0] w fun e w' => ∃ v0_ v2_ : Value, e = .returned (.tuple #[.agg #[v0_], .agg #[.int .i64 r2, v2_]]) ∧ Kd.V k50 50 w' w.heap.size (fun k_ => (w.heap.size ≤ k_)) v0_ r1 ∧ Kd.V k25 25 w' w.heap.size (fun k_ => (w.heap.size ≤ k_)) v2_ r3 ∧ Below w.heap.size w w' := by
 have hu50 := Try.underlying50
 have hu25 := Try.underlying25
 have HR0 := Aside0.mk hr0
 have HC0 := Aside0.mk hc0
 clear hr0 hc0
 have HB := Aside0.mk (Below.refl w.heap.size w)
 have H : ((spec_l6Open.f l0).bind fun bt1069 => ((spec_l6Rd_pick.f k bt1069.1 bt1069.2 4).bind fun bt1072 => ((spec_l71Type.f k bt1069.1 bt1072.2 (wrap64 (1 + bt1072.1))).bind fun bt1074 => ((spec_l6Rd_pick.f k bt1069.1 bt1074.2 5).bind fun bt1079 => (if bt1079.1 = 0 then ((spec_l71Type.f k bt1069.1 bt1079.2 3).bind fun bt1081 => ((spec_l71Bad.f k bt1069.1 bt1081.2 bt1081.1).bind fun bt1085 => (some (bt1074.1, bt1085.1, bt1085.2.1)))) else ((spec_l71Bad.f k bt1069.1 bt1079.2 bt1074.1).bind fun bt1090 => (some (bt1074.1, bt1090.1, bt1090.2.1)))))))) = some (r1, r2, r3) := h
 clear h
 obtain ⟨⟨t1069, t1070⟩, A20, H⟩ := ob H
 have A2 := Aside0.mk A20
 clear A20
 obtain ⟨⟨t1072, t1073⟩, A30, H⟩ := ob H
 have A3 := Aside0.mk A30
 clear A30
 obtain ⟨⟨t1074, t1077⟩, A40, H⟩ := ob H
 have A4 := Aside0.mk A40
 clear A40
 obtain ⟨⟨t1079, t1080⟩, A50, H⟩ := ob H
 have A5 := Aside0.mk A50
 clear A50
 have HZ6 := Aside0.mk H
 clear H
 go_enter Try.func27, Try.ntmps27
 go_upto_if 15 with (first | ((with_reducible refine gate_dst (N := 2) rfl ?_); refine zbx 2 #[.slice none 0 0] 50 ?_; intro gb1067 hg w7 hbox hb; have BK1067 := Aside0.mk hbox; have GW1067 := Aside0.mk ((y10 hg HB.out : w.heap.size ≤ gb1067)); have GE1067 := Aside0.mk ((y10 hg HB.out : w.heap.size ≤ gb1067)); replace HB := Aside0.mk (below_step (y6 HB.out) hb); clear hb hbox hg) | ((with_reducible refine gate_dst (N := 3) rfl ?_); refine zbx 3 #[.int .i64 0, .slice none 0 0] 25 ?_; intro gb1068 hg w8 hbox hb; have BK1068 := Aside0.mk hbox; have GW1068 := Aside0.mk ((y12 hg HB.out GE1067.out : w.heap.size ≤ gb1068)); have GE1068 := Aside0.mk ((y12 hg HB.out GE1067.out : w.heap.size ≤ gb1068)); replace HB := Aside0.mk (below_step (y7 HB.out GE1067.out) hb); have NB1067_1068 := zltn hg BK1067; have NB1068_1067 := zgtn hg BK1067; replace BK1067 := zbb BK1067 hb; clear hb hbox hg) | ((with_reducible refine gate_callee (f := 30) rfl ?_); refine goesL_ (some 7) rfl rfl Try.func30 (by kernel_rfl) rfl #[.slice A0 l0.length c0] rfl y9 ?_; (with_reducible refine (spec_l6Open.calls _ _ l0 t1069 t1070 w _ ?side1 ?side2 ?side3 A2.out).mono ?_); (case side1 => exact y3 HB.out GE1067.out GE1068.out); (case side2 => exact HR0.out); (case side3 => exact HC0.out); rintro e w9 ⟨g1071, rfl, hi, hb, hb2⟩; refine ⟨_, rfl, ?_⟩; replace HB := Aside0.mk (hb); have HI1071 := Aside0.mk (hi); have NB1071_1067 := Aside0.mk (IsS75.ne_blk hi (blk_below (g := gb1067) (o := .cells #[.slice none 0 0] 50 (0, 0)) (y0 BK1067.out) hb2) (by decide)); have NB1067_1071 := Aside0.mk (Ne.symm (IsS75.ne_blk hi (blk_below (g := gb1067) (o := .cells #[.slice none 0 0] 50 (0, 0)) (y0 BK1067.out) hb2) (by decide))); replace BK1067 := Aside0.mk (blk_below (g := gb1067) (o := .cells #[.slice none 0 0] 50 (0, 0)) (y0 BK1067.out) hb2); have NB1071_1068 := Aside0.mk (IsS75.ne_blk hi (blk_below (g := gb1068) (o := .cells #[.int .i64 0, .slice none 0 0] 25 (0, 0)) (y0 BK1068.out) hb2) (by decide)); have NB1068_1071 := Aside0.mk (Ne.symm (IsS75.ne_blk hi (blk_below (g := gb1068) (o := .cells #[.int .i64 0, .slice none 0 0] 25 (0, 0)) (y0 BK1068.out) hb2) (by decide))); replace BK1068 := Aside0.mk (blk_below (g := gb1068) (o := .cells #[.int .i64 0, .slice none 0 0] 25 (0, 0)) (y0 BK1068.out) hb2); (try clear hb); (try clear hb2); (try clear hk); (try clear hi)) | ((with_reducible refine gate_callee (f := 32) rfl ?_); refine goesL_ (some 10) rfl rfl Try.func32 (by kernel_rfl) rfl #[.pointer (some ⟨g1071, 0, none⟩), .int .i64 4] rfl y9 ?_; (with_reducible refine (spec_l6Rd_pick.calls k g1071 t1069 t1070 4 t1072 t1073 w _ ?side1 ?side2 A3.out).mono ?_); (case side1 => exact y24 HI1071.out NB1071_1067.out NB1071_1068.out); (case side2 => exact y19 HB.out HI1071.out GE1067.out GE1068.out); rintro e w10 ⟨rfl, hi, hb, hk⟩; refine ⟨_, rfl, ?_⟩; replace BK1067 := Aside0.mk (KeepBut.blk hk (g' := gb1067) (o := .cells #[.slice none 0 0] 50 (0, 0)) (y0 BK1067.out) NB1067_1071.out (by simp)); replace BK1068 := Aside0.mk (KeepBut.blk hk (g' := gb1068) (o := .cells #[.int .i64 0, .slice none 0 0] 25 (0, 0)) (y0 BK1068.out) NB1068_1071.out (by simp)); replace HB := Aside0.mk (hb); replace HI1071 := Aside0.mk (hi); (try clear hb); (try clear hb2); (try clear hk); (try clear hi)) | ((with_reducible refine gate_callee (f := 31) rfl ?_); refine goesL_ (some 12) rfl rfl Try.func31 (by kernel_rfl) rfl #[.pointer (some ⟨g1071, 0, none⟩), .int .i64 (wrap64 (1 + t1072))] rfl y9 ?_; (with_reducible refine (spec_l71Type.calls k g1071 t1069 t1073 (wrap64 (1 + t1072)) t1074 t1077 w _ ?side1 ?side2 A4.out).mono ?_); (case side1 => exact y24 HI1071.out NB1071_1067.out NB1071_1068.out); (case side2 => exact y19 HB.out HI1071.out GE1067.out GE1068.out); rintro e w11 ⟨v1075, rfl, ho0, hi, hb, hk⟩; refine ⟨_, rfl, ?_⟩; have HO1076 := Aside0.mk (Kd.N_lower (Kd.N_mono (ok' := fun k_ => (w.heap.size ≤ k_) ∧ k_ ≠ gb1067 ∧ k_ ≠ gb1068 ∧ k_ ≠ g1071) ho0 (fun k_ hk_ => ⟨(Nat.le_trans (below_size (y19 HB.out HI1071.out GE1067.out GE1068.out)) hk_), (Kd.freshB (g := gb1067) (o := .cells #[.slice none 0 0] 50 (0, 0)) (y0 BK1067.out) k_ hk_), (Kd.freshB (g := gb1068) (o := .cells #[.int .i64 0, .slice none 0 0] 25 (0, 0)) (y0 BK1068.out) k_ hk_), (IsS75.fresh (y24 HI1071.out NB1071_1067.out NB1071_1068.out) k_ hk_)⟩)) (below_size (y19 HB.out HI1071.out GE1067.out GE1068.out))); replace BK1067 := Aside0.mk (KeepBut.blk hk (g' := gb1067) (o := .cells #[.slice none 0 0] 50 (0, 0)) (y0 BK1067.out) NB1067_1071.out (by simp)); replace BK1068 := Aside0.mk (KeepBut.blk hk (g' := gb1068) (o := .cells #[.int .i64 0, .slice none 0 0] 25 (0, 0)) (y0 BK1068.out) NB1068_1071.out (by simp)); replace HB := Aside0.mk (hb); replace HI1071 := Aside0.mk (hi); (try clear hb); (try clear hb2); (try clear hk); (try clear hi); (try clear ho0)) | ((with_reducible refine gate_dst (N := 5) rfl ?_); refine zbx 5 #[.slice none 0 0] 50 ?_; intro gb1078 hg w12 hbox hb; replace HO1076 := Aside0.mk (Kd.N_below (Kd.N_elderB (y2 HO1076.out) gb1078 (Nat.le_of_eq hg.symm)) hb); have BK1078 := Aside0.mk hbox; have GW1078 := Aside0.mk ((y58 hg HB.out HI1071.out GE1067.out GE1068.out : w.heap.size ≤ gb1078)); have GE1078 := Aside0.mk ((y58 hg HB.out HI1071.out GE1067.out GE1068.out : w.heap.size ≤ gb1078)); replace HB := Aside0.mk (below_step (y19 HB.out HI1071.out GE1067.out GE1068.out) hb); have NB1067_1078 := zltn hg BK1067; have NB1078_1067 := zgtn hg BK1067; replace BK1067 := zbb BK1067 hb; have NB1068_1078 := zltn hg BK1068; have NB1078_1068 := zgtn hg BK1068; replace BK1068 := zbb BK1068 hb; have NB1071_1078 := Aside0.mk ((by rw [hg]; exact Nat.ne_of_lt (IsS75.lt (show IsS75 w _ g1071 t1069 t1077 from by repeat (first | (with_reducible first | exact HI1071.out | apply IsS75.alloc | apply IsS75.drewN | apply IsS75.drew | apply IsS75.set_1 | refine IsS75.far ?_ NB1071_1067.out _ | refine IsS75.far ?_ NB1071_1068.out _) | exact HI1071.out))) : g1071 ≠ gb1078)); have NB1078_1071 := Aside0.mk ((by rw [hg]; exact Nat.ne_of_gt (IsS75.lt (show IsS75 w _ g1071 t1069 t1077 from by repeat (first | (with_reducible first | exact HI1071.out | apply IsS75.alloc | apply IsS75.drewN | apply IsS75.drew | apply IsS75.set_1 | refine IsS75.far ?_ NB1071_1067.out _ | refine IsS75.far ?_ NB1071_1068.out _) | exact HI1071.out))) : gb1078 ≠ g1071)); replace HI1071 := Aside0.mk (IsS75.below (y24 HI1071.out NB1071_1067.out NB1071_1068.out) hb); clear hb hbox hg; obtain ⟨Ao13, co13, eo13⟩ := Kd.N_slice HO1076.out; subst eo13; have hnb14 := NB1078_1067.out; have hnc14 := NB1067_1078.out; have hnb15 := NB1078_1068.out; have hnc15 := NB1068_1078.out; have hnb16 := NB1078_1071.out; have hnc16 := NB1071_1078.out; have hcz17_0 := zh BK1078; have hfz17_0 := zfr BK1078 0) | ((with_reducible refine gate_callee (f := 32) rfl ?_); refine goesL_ (some 14) rfl rfl Try.func32 (by kernel_rfl) rfl #[.pointer (some ⟨g1071, 0, none⟩), .int .i64 5] rfl y9 ?_; (with_reducible refine (spec_l6Rd_pick.calls k g1071 t1069 t1077 5 t1079 t1080 w _ ?side1 ?side2 A5.out).mono ?_); (case side1 => exact y25 HI1071.out NB1071_1067.out NB1071_1068.out NB1071_1078.out); (case side2 => exact y21 HB.out HI1071.out GE1067.out GE1068.out GE1078.out); rintro e w18 ⟨rfl, hi, hb, hk⟩; refine ⟨_, rfl, ?_⟩; replace BK1067 := Aside0.mk (KeepBut.blk hk (g' := gb1067) (o := .cells #[.slice none 0 0] 50 (0, 0)) (y13 NB1067_1078.out BK1067.out) NB1067_1071.out (by simp)); replace BK1068 := Aside0.mk (KeepBut.blk hk (g' := gb1068) (o := .cells #[.int .i64 0, .slice none 0 0] 25 (0, 0)) (y13 NB1068_1078.out BK1068.out) NB1068_1071.out (by simp)); replace HO1076 := Aside0.mk (Kd.N_mono (Kd.N_keep (Kd.N_mono (ok := fun k_ => ((((w.heap.size ≤ k_)) ∧ (k_ ≠ gb1067 ∧ (k_ ≠ gb1068 ∧ k_ ≠ g1071))) ∧ k_ ≠ gb1078)) (by (with_reducible repeat (first | apply Kd.N_alloc | apply Kd.N_drewN | apply Kd.N_drew)); exact (Kd.N_mono (Kd.N_far (p := ⟨gb1078, 0, none⟩) (Kd.N_mono HO1076.out (fun k_ hk => (⟨hk, hk.2⟩ : _ ∧ k_ ≠ gb1078))) (fun _ hk => hk.2) (.slice Ao13 t1074.length co13)) (fun _ h_ => h_.1))) (fun k_ hk_ => (⟨hk_, hk_.1.2.2.2⟩ : _ ∧ k_ ≠ g1071))) hk (fun _ h => h.2)) (fun _ h => h.1)); replace BK1078 := Aside0.mk (KeepBut.blk hk (g' := gb1078) (o := .cells #[.slice Ao13 t1074.length co13] 50 (0, 0)) (by (with_reducible repeat (first | refine blk_drewN ?_ _ | refine blk_drew ?_ | refine blk_alloc ?_ _)); apply blk_put (i := 0); (case h => exact y0 BK1078.out); (case e => rfl)) NB1078_1071.out (by simp)); replace HB := Aside0.mk (hb); replace HI1071 := Aside0.mk (hi); (try clear hb); (try clear hb2); (try clear hk); (try clear hi)))
 (try simp only [Act.put, List.setIfInBounds_toArray, List.set_cons_zero, List.set_cons_succ])
 have H := HZ6.out
 clear HZ6
 by_cases c19 : t1079 = 0
 ·rw [if_pos c19] at H
  have c19b0 : (t1079 == 0) = true := beq_iff_eq.mpr c19
  have c19b1 : (t1079 != 0) = false := bne_eq_false_iff_eq.mpr c19
  clear c19
  (first | rw [c19b0] | (simp only [i64_w, i32_w]; rw [c19b0]) | skip)
  obtain ⟨⟨t1081, t1084⟩, A200, H⟩ := ob H
  have A20 := Aside0.mk A200
  clear A200
  obtain ⟨⟨t1085, t1086, t1089⟩, A210, H⟩ := ob H
  have A21 := Aside0.mk A210
  clear A210
  simp only [Option.some.injEq, Prod.mk.injEq] at H
  obtain ⟨rfl, rfl, rfl⟩ := H
  try go_wp2
  replace HO1076 := Aside0.mk (Kd.N_drew HO1076.out)
  replace BK1067 := Aside0.mk (blk_drew BK1067.out)
  replace BK1068 := Aside0.mk (blk_drew BK1068.out)
  replace BK1078 := Aside0.mk (blk_drew BK1078.out)
  replace HI1071 := Aside0.mk (IsS75.drew HI1071.out)
  replace HB := Aside0.mk (below_drew1 HB.out)
  refine start_ (n := 7) (S := fun w' => w'.cell? ⟨gb1078, 0, none⟩ = some (.slice Ao13 t1074.length co13)) (ds := []) #[false, false, false, false, false, false, false] (by kernel_rfl) rfl rfl ((blk_cell BK1078.out 0).trans rfl) (fun hHeld => ?_)
  generalize w18.drew = w22 at HO1076 BK1067 BK1068 BK1078 HI1071 HB hHeld ⊢
  refine pure_ (i := 1) (N := some 17) (v := ?_) (a' := ?_) #[false, true, false, false, false, false, false] rfl rfl (by kernel_rfl) (fun _ _ _ h => h) (Or.inl ⟨(by rfl), ?_⟩) ?_ ?_
  rotate_left
  ·intro w'
   go_simp
   with_reducible rfl
  rotate_left
  ·simp only [Act.put, List.setIfInBounds_toArray, List.set_cons_zero, List.set_cons_succ, i64_w, i32_w]
   rfl
  refine pure_ (i := 2) (N := some 18) (v := ?_) (a' := ?_) #[false, true, true, false, false, false, false] rfl rfl (by kernel_rfl) (fun _ _ _ h => h) (Or.inl ⟨(by rfl), ?_⟩) ?_ ?_
  rotate_left
  ·intro w'
   go_simp
   with_reducible rfl
  rotate_left
  ·simp only [Act.put, List.setIfInBounds_toArray, List.set_cons_zero, List.set_cons_succ, i64_w, i32_w]
   rfl
  refine take_ (i := 0) (N := some 16) (v := ?_) (a' := ?_) #[true, true, true, false, false, false, false] rfl rfl (by kernel_rfl) (fun _ _ _ h => h) (Or.inl ⟨(by rfl), ?_⟩) hHeld ?_ ?_
  rotate_left
  ·intro w' s0
   go_simp
   with_reducible rfl
  rotate_left
  ·simp only [Act.put, List.setIfInBounds_toArray, List.set_cons_zero, List.set_cons_succ, i64_w, i32_w]
   rfl
  refine one_ (i := 3) (N := some 19) #[true, true, true, true, false, false, false] rfl rfl (by kernel_rfl) (by decide) (fun K hK => ?_)
  refine goes_ Try.func31 (by kernel_rfl) rfl #[.pointer (some ⟨g1071, 0, none⟩), .int .i64 3] (by rfl) rfl rfl y9 ?_
  with_reducible refine (spec_l71Type.calls k g1071 t1069 t1080 3 t1081 t1084 w _ ?side1 ?side2 A20.out).mono ?_
  (case side1 => exact y25 HI1071.out NB1071_1067.out NB1071_1068.out NB1071_1078.out)
  (case side2 => exact y21 HB.out HI1071.out GE1067.out GE1068.out GE1078.out)
  rintro e w23 ⟨v1082, rfl, ho0, hi, hb, hk⟩
  refine ⟨_, rfl, ?_⟩
  have HO1083 := Aside0.mk (Kd.N_lower (Kd.N_mono (ok' := fun k_ => (w.heap.size ≤ k_) ∧ some k_ ≠ (.slice Ao13 t1074.length co13 : Value).ownBlock ∧ k_ ≠ gb1067 ∧ k_ ≠ gb1068 ∧ k_ ≠ gb1078 ∧ k_ ≠ g1071) ho0 (fun k_ hk_ => ⟨(Nat.le_trans (below_size (y21 HB.out HI1071.out GE1067.out GE1068.out GE1078.out)) hk_), (Kd.fresh' (Kd.N_lt (y2 HO1076.out)) k_ hk_), (Kd.freshB (g := gb1067) (o := .cells #[.slice none 0 0] 50 (0, 0)) (y0 BK1067.out) k_ hk_), (Kd.freshB (g := gb1068) (o := .cells #[.int .i64 0, .slice none 0 0] 25 (0, 0)) (y0 BK1068.out) k_ hk_), (Kd.freshB (g := gb1078) (o := .cells #[.slice Ao13 t1074.length co13] 50 (0, 0)) (y0 BK1078.out) k_ hk_), (IsS75.fresh (y25 HI1071.out NB1071_1067.out NB1071_1068.out NB1071_1078.out) k_ hk_)⟩)) (below_size (y21 HB.out HI1071.out GE1067.out GE1068.out GE1078.out)))
  replace BK1067 := Aside0.mk (KeepBut.blk hk (g' := gb1067) (o := .cells #[.slice none 0 0] 50 (0, 0)) (y0 BK1067.out) NB1067_1071.out (by simp))
  replace BK1068 := Aside0.mk (KeepBut.blk hk (g' := gb1068) (o := .cells #[.int .i64 0, .slice none 0 0] 25 (0, 0)) (y0 BK1068.out) NB1068_1071.out (by simp))
  replace HO1076 := Aside0.mk (Kd.N_mono (Kd.N_told (Kd.N_oldK (Kd.N_mono (ok := fun k_ => ((((w.heap.size ≤ k_)) ∧ (k_ ≠ gb1067 ∧ (k_ ≠ gb1068 ∧ k_ ≠ g1071))) ∧ k_ ≠ gb1078)) (y2 HO1076.out) (fun k_ hk_ => (⟨hk_, hk_.1.2.2.2⟩ : _ ∧ k_ ≠ g1071))) hk) (Kd.N_base ho0)) (fun _ h_ => h_.1))
  replace BK1078 := Aside0.mk (KeepBut.blk hk (g' := gb1078) (o := .cells #[.slice Ao13 t1074.length co13] 50 (0, 0)) (y0 BK1078.out) NB1078_1071.out (by simp))
  replace HB := Aside0.mk (hb)
  replace HI1071 := Aside0.mk (hi)
  (try clear hb)
  (try clear hb2)
  (try clear hk)
  (try clear hi)
  (try clear ho0)
  obtain ⟨Ao24, co24, eo24⟩ := Kd.N_slice HO1083.out
  (first | subst eo24 | (injection eo24 with f1_ f2_ f3_; have f4_ := f1_.symm; have f5_ := f3_.symm; clear f1_ f2_ f3_; subst f4_; subst f5_))
  refine hK.out _ _ ((blk_cell BK1078.out 0).trans rfl) (fun hHeld => ?_)
  clear hK K
  refine norm_ (a' := ?_) ?_ ?_
  rotate_left
  ·show Act.put _ (some 19) _ = _
   simp only [Act.put, List.setIfInBounds_toArray, List.set_cons_zero, List.set_cons_succ, i64_w, i32_w]
   rfl
  refine one_ (i := 4) (N := some 20) #[true, true, true, true, true, false, false] rfl rfl (by kernel_rfl) (by decide) (fun K hK => ?_)
  refine goes_ Try.func33 (by kernel_rfl) rfl #[.pointer (some ⟨g1071, 0, none⟩), .agg #[.slice Ao24 t1081.length co24]] (by rfl) rfl rfl y9 ?_
  with_reducible refine (spec_l71Bad.calls k g1071 t1069 t1084 (fun k_ => ((w.heap.size ≤ k_) ∧ (some k_ ≠ (.slice Ao13 t1074.length co13 : Value).ownBlock ∧ (k_ ≠ gb1067 ∧ (k_ ≠ gb1068 ∧ (k_ ≠ gb1078 ∧ k_ ≠ g1071)))))) _ _ t1081 t1085 t1086 t1089 w _ ?side1 ?side2 ?side3 A21.out).mono ?_
  (case side1 => exact y25 HI1071.out NB1071_1067.out NB1071_1068.out NB1071_1078.out)
  (case side2 => exact y21 HB.out HI1071.out GE1067.out GE1068.out GE1078.out)
  (case side3 => exact Kd.V_mono (Kd.N_V (HO1083.out)) (fun k_ hk_ => ⟨hk_, hk_.2.2.2.2.2⟩))
  rintro e w25 ⟨v1087, rfl, ho0, hi, hb, hk⟩
  refine ⟨_, rfl, ?_⟩
  replace HO1083 := Aside0.mk (Kd.N_mono (Kd.N_told (Kd.N_oldK (Kd.N_mono (ok := fun k_ => (((w.heap.size ≤ k_)) ∧ (some k_ ≠ (.slice Ao13 t1074.length co13 : Value).ownBlock ∧ (k_ ≠ gb1067 ∧ (k_ ≠ gb1068 ∧ (k_ ≠ gb1078 ∧ k_ ≠ g1071)))))) (y2 HO1083.out) (fun k_ hk_ => (⟨hk_, hk_.2.2.2.2.2⟩ : _ ∧ k_ ≠ g1071))) hk) (Kd.N_base ho0)) (fun _ h_ => h_.1))
  have HO1088 := Aside0.mk (Kd.N_lower (Kd.N_mono (ok' := fun k_ => (w.heap.size ≤ k_) ∧ some k_ ≠ (.slice Ao13 t1074.length co13 : Value).ownBlock ∧ k_ ≠ gb1067 ∧ k_ ≠ gb1068 ∧ k_ ≠ gb1078 ∧ k_ ≠ g1071) ho0 (fun k_ hk_ => ⟨Or.elim hk_ (fun hs_ => hs_.1) (fun hn_ => (Nat.le_trans (below_size (y21 HB.out HI1071.out GE1067.out GE1068.out GE1078.out)) hn_)), Or.elim hk_ (fun hs_ => hs_.2.1) (fun hn_ => (Kd.fresh' (Kd.N_lt (y2 HO1076.out)) k_ hn_)), Or.elim hk_ (fun hs_ => hs_.2.2.1) (fun hn_ => (Kd.freshB (g := gb1067) (o := .cells #[.slice none 0 0] 50 (0, 0)) (y0 BK1067.out) k_ hn_)), Or.elim hk_ (fun hs_ => hs_.2.2.2.1) (fun hn_ => (Kd.freshB (g := gb1068) (o := .cells #[.int .i64 0, .slice none 0 0] 25 (0, 0)) (y0 BK1068.out) k_ hn_)), Or.elim hk_ (fun hs_ => hs_.2.2.2.2.1) (fun hn_ => (Kd.freshB (g := gb1078) (o := .cells #[.slice Ao13 t1074.length co13] 50 (0, 0)) (y0 BK1078.out) k_ hn_)), Or.elim hk_ (fun hs_ => hs_.2.2.2.2.2) (fun hn_ => (IsS75.fresh (y25 HI1071.out NB1071_1067.out NB1071_1068.out NB1071_1078.out) k_ hn_))⟩)) (below_size (y21 HB.out HI1071.out GE1067.out GE1068.out GE1078.out)))
  replace BK1067 := Aside0.mk (KeepBut.blk hk (g' := gb1067) (o := .cells #[.slice none 0 0] 50 (0, 0)) (y0 BK1067.out) NB1067_1071.out (by simp))
  replace BK1068 := Aside0.mk (KeepBut.blk hk (g' := gb1068) (o := .cells #[.int .i64 0, .slice none 0 0] 25 (0, 0)) (y0 BK1068.out) NB1068_1071.out (by simp))
  replace HO1076 := Aside0.mk (Kd.N_mono (Kd.N_told (Kd.N_oldK (Kd.N_mono (ok := fun k_ => (((((w.heap.size ≤ k_)) ∧ (k_ ≠ gb1067 ∧ (k_ ≠ gb1068 ∧ k_ ≠ g1071))) ∧ k_ ≠ gb1078) ∧ some k_ ≠ (.slice Ao24 t1081.length co24 : Value).ownBlock)) (y2 HO1076.out) (fun k_ hk_ => (⟨hk_, hk_.1.1.2.2.2⟩ : _ ∧ k_ ≠ g1071))) hk) (Kd.N_base ho0)) (fun _ h_ => h_.1))
  replace BK1078 := Aside0.mk (KeepBut.blk hk (g' := gb1078) (o := .cells #[.slice Ao13 t1074.length co13] 50 (0, 0)) (y0 BK1078.out) NB1078_1071.out (by simp))
  replace HB := Aside0.mk (hb)
  replace HI1071 := Aside0.mk (hi)
  (try clear hb)
  (try clear hb2)
  (try clear hk)
  (try clear hi)
  (try clear ho0)
  obtain ⟨Ao28, co28, eo28⟩ := Kd.N_slice HO1088.out
  (first | subst eo28 | (injection eo28 with f1_ f2_ f3_; have f4_ := f1_.symm; have f5_ := f3_.symm; clear f1_ f2_ f3_; subst f4_; subst f5_))
  refine hK.out _ _ ((blk_cell BK1078.out 0).trans rfl) (fun hHeld => ?_)
  clear hK K
  refine norm_ (a' := ?_) ?_ ?_
  rotate_left
  ·show Act.put _ (some 20) _ = _
   simp only [Act.put, List.setIfInBounds_toArray, List.set_cons_zero, List.set_cons_succ, i64_w, i32_w]
   rfl
  refine one_ (i := 5) (N := none) #[true, true, true, true, true, true, false] rfl rfl (by kernel_rfl) (by decide) (fun K hK => ?_)
  have hs26 : w25.cell? ⟨gb1067, 0, none⟩ = some (.slice none 0 0) := (blk_cell BK1067.out 0).trans rfl
  have hfs26 := zfr BK1067 0
  have hns26_1 := NB1068_1067.out
  have hns26_2 := NB1078_1067.out
  have hms26_1 := NB1067_1068.out
  have hms26_2 := NB1067_1078.out
  refine skip_ (w1 := ?_) (by rfl) rfl ?_ ?_
  rotate_left
  ·go_simp
   rfl
  refine hK.out _ _ (((cell_far (p := ⟨gb1067, _, none⟩) NB1078_1067.out _).trans (hHeld))) (fun hHeld => ?_)
  clear hK K
  refine one_ (i := 6) (N := none) #[true, true, true, true, true, true, true] rfl rfl (by kernel_rfl) (by decide) (fun K hK => ?_)
  have hs27 : w25.cell? ⟨gb1068, 0, none⟩ = some (.int .i64 0) := (blk_cell BK1068.out 0).trans rfl
  have hfs27 := zfr BK1068 0
  have hns27_0 := NB1067_1068.out
  have hns27_2 := NB1078_1068.out
  have hms27_0 := NB1068_1067.out
  have hms27_2 := NB1068_1078.out
  have hs29 : w25.cell? ⟨gb1068, 1, none⟩ = some (.slice none 0 0) := (blk_cell BK1068.out 1).trans rfl
  have hfs29 := zfr BK1068 1
  have hns29_0 := NB1067_1068.out
  have hns29_2 := NB1078_1068.out
  have hms29_0 := NB1068_1067.out
  have hms29_2 := NB1068_1078.out
  refine skip_ (w1 := ?_) (by rfl) rfl ?_ ?_
  rotate_left
  ·go_simp
   rfl
  refine hK.out _ _ (((cell_far (p := ⟨gb1068, _, none⟩) NB1078_1068.out _).trans (((cell_far (p := ⟨gb1068, _, none⟩) NB1078_1068.out _).trans (hHeld))))) (fun hHeld => ?_)
  clear hK K
  refine done_ (by kernel_rfl) ?_
  try go_wp2
  refine bodyPost_ret (results_cc rfl _ _ gb1067 gb1068 50 25 #[.slice Ao13 t1074.length co13] #[.int .i64 t1085, .slice Ao28 t1086.length co28] (0, 0) (0, 0) _ _ rfl (by (with_reducible repeat (first | refine blk_drewN ?_ _ | refine blk_drew ?_ | refine blk_alloc ?_ _)); refine blk_far ?_ NB1067_1068.out _; (with_reducible repeat (first | refine blk_drewN ?_ _ | refine blk_drew ?_ | refine blk_alloc ?_ _)); refine blk_far ?_ NB1067_1068.out _; (with_reducible repeat (first | refine blk_drewN ?_ _ | refine blk_drew ?_ | refine blk_alloc ?_ _)); apply blk_put (i := 0); (case h => exact y0 BK1067.out); (case e => rfl)) Try.underlying50 rfl (by kernel_rfl) rfl (by (with_reducible repeat (first | refine blk_drewN ?_ _ | refine blk_drew ?_ | refine blk_alloc ?_ _)); refine blk_put (cs := #[.int .i64 t1085, .slice none 0 0]) ?_ 1 _ rfl; (with_reducible repeat (first | refine blk_drewN ?_ _ | refine blk_drew ?_ | refine blk_alloc ?_ _)); refine blk_put (cs := #[.int .i64 0, .slice none 0 0]) ?_ 0 _ rfl; (with_reducible repeat (first | refine blk_drewN ?_ _ | refine blk_drew ?_ | refine blk_alloc ?_ _)); refine blk_far ?_ NB1068_1067.out _; (with_reducible repeat (first | refine blk_drewN ?_ _ | refine blk_drew ?_ | refine blk_alloc ?_ _)); exact BK1068.out) Try.underlying25 rfl (by kernel_rfl)) rfl ?_
  exact ⟨_, _, y15, Kd.N_V (by (with_reducible repeat (first | apply Kd.N_alloc | apply Kd.N_drewN | apply Kd.N_drew)); exact Kd.N_mono (Kd.N_far (p := ⟨gb1068, 1, none⟩) (Kd.N_far (p := ⟨gb1068, 0, none⟩) (Kd.N_far (p := ⟨gb1067, 0, none⟩) (Kd.N_mono (Kd.N_mono HO1076.out (fun k_ hk => (⟨hk, hk.1.1.1.2.1⟩ : _ ∧ k_ ≠ gb1067))) (fun k_ hk => (⟨hk, hk.1.1.1.1.2.2.1⟩ : _ ∧ k_ ≠ gb1068))) (fun _ hk => hk.1.2) (.slice Ao13 t1074.length co13)) (fun _ hk => hk.2) (.int .i64 t1085)) (fun _ hk => hk.2) (.slice Ao28 t1086.length co28)) (fun _ hk => hk.1.1.1.1.1.1)), Kd.N_V (by (with_reducible repeat (first | apply Kd.N_alloc | apply Kd.N_drewN | apply Kd.N_drew)); exact Kd.N_mono (Kd.N_far (p := ⟨gb1068, 1, none⟩) (Kd.N_far (p := ⟨gb1068, 0, none⟩) (Kd.N_far (p := ⟨gb1067, 0, none⟩) (Kd.N_mono (Kd.N_mono HO1088.out (fun k_ hk => (⟨hk, hk.2.2.1⟩ : _ ∧ k_ ≠ gb1067))) (fun k_ hk => (⟨hk, hk.1.2.2.2.1⟩ : _ ∧ k_ ≠ gb1068))) (fun _ hk => hk.1.2) (.slice Ao13 t1074.length co13)) (fun _ hk => hk.2) (.int .i64 t1085)) (fun _ hk => hk.2) (.slice Ao28 t1086.length co28)) (fun _ hk => hk.1.1.1)), (y21 HB.out HI1071.out GE1067.out GE1068.out GE1078.out)⟩
 ·rw [if_neg c19] at H
  have c19b0 : (t1079 == 0) = false := beq_eq_false_iff_ne.mpr c19
  have c19b1 : (t1079 != 0) = true := bne_iff_ne.mpr c19
  (first | rw [c19b0] | (simp only [i64_w, i32_w]; rw [c19b0]) | skip)
  obtain ⟨⟨t1090, t1091, t1094⟩, A300, H⟩ := ob H
  have A30 := Aside0.mk A300
  clear A300
  simp only [Option.some.injEq, Prod.mk.injEq] at H
  obtain ⟨rfl, rfl, rfl⟩ := H
  try go_wp2
  replace HO1076 := Aside0.mk (Kd.N_drew HO1076.out)
  replace BK1067 := Aside0.mk (blk_drew BK1067.out)
  replace BK1068 := Aside0.mk (blk_drew BK1068.out)
  replace BK1078 := Aside0.mk (blk_drew BK1078.out)
  replace HI1071 := Aside0.mk (IsS75.drew HI1071.out)
  replace HB := Aside0.mk (below_drew1 HB.out)
  refine start_ (n := 6) (S := fun w' => w'.cell? ⟨gb1078, 0, none⟩ = some (.slice Ao13 t1074.length co13)) (ds := []) #[false, false, false, false, false, false] (by kernel_rfl) rfl rfl ((blk_cell BK1078.out 0).trans rfl) (fun hHeld => ?_)
  generalize w18.drew = w31 at HO1076 BK1067 BK1068 BK1078 HI1071 HB hHeld ⊢
  refine pure_ (i := 1) (N := some 22) (v := ?_) (a' := ?_) #[false, true, false, false, false, false] rfl rfl (by kernel_rfl) (fun _ _ _ h => h) (Or.inl ⟨(by rfl), ?_⟩) ?_ ?_
  rotate_left
  ·intro w'
   go_simp
   with_reducible rfl
  rotate_left
  ·simp only [Act.put, List.setIfInBounds_toArray, List.set_cons_zero, List.set_cons_succ, i64_w, i32_w]
   rfl
  refine take_ (i := 0) (N := some 21) (v := ?_) (a' := ?_) #[true, true, false, false, false, false] rfl rfl (by kernel_rfl) (fun _ _ _ h => h) (Or.inl ⟨(by rfl), ?_⟩) hHeld ?_ ?_
  rotate_left
  ·intro w' s0
   go_simp
   with_reducible rfl
  rotate_left
  ·simp only [Act.put, List.setIfInBounds_toArray, List.set_cons_zero, List.set_cons_succ, i64_w, i32_w]
   rfl
  refine take_ (i := 2) (N := some 23) (v := ?_) (a' := ?_) #[true, true, true, false, false, false] rfl rfl (by kernel_rfl) (fun _ _ _ h => h) (Or.inl ⟨(by rfl), ?_⟩) hHeld ?_ ?_
  rotate_left
  ·intro w' s0
   go_simp
   with_reducible rfl
  rotate_left
  ·simp only [Act.put, List.setIfInBounds_toArray, List.set_cons_zero, List.set_cons_succ, i64_w, i32_w]
   rfl
  refine one_ (i := 3) (N := some 24) #[true, true, true, true, false, false] rfl rfl (by kernel_rfl) (by decide) (fun K hK => ?_)
  refine goes_ Try.func33 (by kernel_rfl) rfl #[.pointer (some ⟨g1071, 0, none⟩), .agg #[.slice Ao13 t1074.length co13]] (by rfl) rfl rfl y9 ?_
  with_reducible refine (spec_l71Bad.calls k g1071 t1069 t1080 (fun k_ => (((w.heap.size ≤ k_) ∧ (k_ ≠ gb1067 ∧ (k_ ≠ gb1068 ∧ k_ ≠ g1071))) ∧ k_ ≠ gb1078)) _ _ t1074 t1090 t1091 t1094 w _ ?side1 ?side2 ?side3 A30.out).mono ?_
  (case side1 => exact y25 HI1071.out NB1071_1067.out NB1071_1068.out NB1071_1078.out)
  (case side2 => exact y21 HB.out HI1071.out GE1067.out GE1068.out GE1078.out)
  (case side3 => exact Kd.V_mono (Kd.N_V (HO1076.out)) (fun k_ hk_ => ⟨hk_, hk_.1.2.2.2⟩))
  rintro e w32 ⟨v1092, rfl, ho0, hi, hb, hk⟩
  refine ⟨_, rfl, ?_⟩
  replace HO1076 := Aside0.mk (Kd.N_mono (Kd.N_told (Kd.N_oldK (Kd.N_mono (ok := fun k_ => ((((w.heap.size ≤ k_)) ∧ (k_ ≠ gb1067 ∧ (k_ ≠ gb1068 ∧ k_ ≠ g1071))) ∧ k_ ≠ gb1078)) (y2 HO1076.out) (fun k_ hk_ => (⟨hk_, hk_.1.2.2.2⟩ : _ ∧ k_ ≠ g1071))) hk) (Kd.N_base ho0)) (fun _ h_ => h_.1))
  have HO1093 := Aside0.mk (Kd.N_lower (Kd.N_mono (ok' := fun k_ => (w.heap.size ≤ k_) ∧ k_ ≠ gb1067 ∧ k_ ≠ gb1068 ∧ k_ ≠ gb1078 ∧ k_ ≠ g1071) ho0 (fun k_ hk_ => ⟨Or.elim hk_ (fun hs_ => hs_.1.1) (fun hn_ => (Nat.le_trans (below_size (y21 HB.out HI1071.out GE1067.out GE1068.out GE1078.out)) hn_)), Or.elim hk_ (fun hs_ => hs_.1.2.1) (fun hn_ => (Kd.freshB (g := gb1067) (o := .cells #[.slice none 0 0] 50 (0, 0)) (y0 BK1067.out) k_ hn_)), Or.elim hk_ (fun hs_ => hs_.1.2.2.1) (fun hn_ => (Kd.freshB (g := gb1068) (o := .cells #[.int .i64 0, .slice none 0 0] 25 (0, 0)) (y0 BK1068.out) k_ hn_)), Or.elim hk_ (fun hs_ => hs_.2) (fun hn_ => (Kd.freshB (g := gb1078) (o := .cells #[.slice Ao13 t1074.length co13] 50 (0, 0)) (y0 BK1078.out) k_ hn_)), Or.elim hk_ (fun hs_ => hs_.1.2.2.2) (fun hn_ => (IsS75.fresh (y25 HI1071.out NB1071_1067.out NB1071_1068.out NB1071_1078.out) k_ hn_))⟩)) (below_size (y21 HB.out HI1071.out GE1067.out GE1068.out GE1078.out)))
  replace BK1067 := Aside0.mk (KeepBut.blk hk (g' := gb1067) (o := .cells #[.slice none 0 0] 50 (0, 0)) (y0 BK1067.out) NB1067_1071.out (by simp))
  replace BK1068 := Aside0.mk (KeepBut.blk hk (g' := gb1068) (o := .cells #[.int .i64 0, .slice none 0 0] 25 (0, 0)) (y0 BK1068.out) NB1068_1071.out (by simp))
  replace BK1078 := Aside0.mk (KeepBut.blk hk (g' := gb1078) (o := .cells #[.slice Ao13 t1074.length co13] 50 (0, 0)) (y0 BK1078.out) NB1078_1071.out (by simp))
  replace HB := Aside0.mk (hb)
  replace HI1071 := Aside0.mk (hi)
  (try clear hb)
  (try clear hb2)
  (try clear hk)
  (try clear hi)
  (try clear ho0)
  obtain ⟨Ao35, co35, eo35⟩ := Kd.N_slice HO1093.out
  (first | subst eo35 | (injection eo35 with f1_ f2_ f3_; have f4_ := f1_.symm; have f5_ := f3_.symm; clear f1_ f2_ f3_; subst f4_; subst f5_))
  refine hK.out _ _ ((blk_cell BK1078.out 0).trans rfl) (fun hHeld => ?_)
  clear hK K
  refine norm_ (a' := ?_) ?_ ?_
  rotate_left
  ·show Act.put _ (some 24) _ = _
   simp only [Act.put, List.setIfInBounds_toArray, List.set_cons_zero, List.set_cons_succ, i64_w, i32_w]
   rfl
  refine one_ (i := 4) (N := none) #[true, true, true, true, true, false] rfl rfl (by kernel_rfl) (by decide) (fun K hK => ?_)
  have hs33 : w32.cell? ⟨gb1067, 0, none⟩ = some (.slice none 0 0) := (blk_cell BK1067.out 0).trans rfl
  have hfs33 := zfr BK1067 0
  have hns33_1 := NB1068_1067.out
  have hns33_2 := NB1078_1067.out
  have hms33_1 := NB1067_1068.out
  have hms33_2 := NB1067_1078.out
  refine skip_ (w1 := ?_) (by rfl) rfl ?_ ?_
  rotate_left
  ·go_simp
   rfl
  refine hK.out _ _ (((cell_far (p := ⟨gb1067, _, none⟩) NB1078_1067.out _).trans (hHeld))) (fun hHeld => ?_)
  clear hK K
  refine one_ (i := 5) (N := none) #[true, true, true, true, true, true] rfl rfl (by kernel_rfl) (by decide) (fun K hK => ?_)
  have hs34 : w32.cell? ⟨gb1068, 0, none⟩ = some (.int .i64 0) := (blk_cell BK1068.out 0).trans rfl
  have hfs34 := zfr BK1068 0
  have hns34_0 := NB1067_1068.out
  have hns34_2 := NB1078_1068.out
  have hms34_0 := NB1068_1067.out
  have hms34_2 := NB1068_1078.out
  have hs36 : w32.cell? ⟨gb1068, 1, none⟩ = some (.slice none 0 0) := (blk_cell BK1068.out 1).trans rfl
  have hfs36 := zfr BK1068 1
  have hns36_0 := NB1067_1068.out
  have hns36_2 := NB1078_1068.out
  have hms36_0 := NB1068_1067.out
  have hms36_2 := NB1068_1078.out
  refine skip_ (w1 := ?_) (by rfl) rfl ?_ ?_
  rotate_left
  ·go_simp
   rfl
  refine hK.out _ _ (((cell_far (p := ⟨gb1068, _, none⟩) NB1078_1068.out _).trans (((cell_far (p := ⟨gb1068, _, none⟩) NB1078_1068.out _).trans (hHeld))))) (fun hHeld => ?_)
  clear hK K
  refine done_ (by kernel_rfl) ?_
  try go_wp2
  refine bodyPost_ret (results_cc rfl _ _ gb1067 gb1068 50 25 #[.slice Ao13 t1074.length co13] #[.int .i64 t1090, .slice Ao35 t1091.length co35] (0, 0) (0, 0) _ _ rfl (by (with_reducible repeat (first | refine blk_drewN ?_ _ | refine blk_drew ?_ | refine blk_alloc ?_ _)); refine blk_far ?_ NB1067_1068.out _; (with_reducible repeat (first | refine blk_drewN ?_ _ | refine blk_drew ?_ | refine blk_alloc ?_ _)); refine blk_far ?_ NB1067_1068.out _; (with_reducible repeat (first | refine blk_drewN ?_ _ | refine blk_drew ?_ | refine blk_alloc ?_ _)); apply blk_put (i := 0); (case h => exact y0 BK1067.out); (case e => rfl)) Try.underlying50 rfl (by kernel_rfl) rfl (by (with_reducible repeat (first | refine blk_drewN ?_ _ | refine blk_drew ?_ | refine blk_alloc ?_ _)); refine blk_put (cs := #[.int .i64 t1090, .slice none 0 0]) ?_ 1 _ rfl; (with_reducible repeat (first | refine blk_drewN ?_ _ | refine blk_drew ?_ | refine blk_alloc ?_ _)); refine blk_put (cs := #[.int .i64 0, .slice none 0 0]) ?_ 0 _ rfl; (with_reducible repeat (first | refine blk_drewN ?_ _ | refine blk_drew ?_ | refine blk_alloc ?_ _)); refine blk_far ?_ NB1068_1067.out _; (with_reducible repeat (first | refine blk_drewN ?_ _ | refine blk_drew ?_ | refine blk_alloc ?_ _)); exact BK1068.out) Try.underlying25 rfl (by kernel_rfl)) rfl ?_
  exact ⟨_, _, y15, Kd.N_V (by (with_reducible repeat (first | apply Kd.N_alloc | apply Kd.N_drewN | apply Kd.N_drew)); exact Kd.N_mono (Kd.N_far (p := ⟨gb1068, 1, none⟩) (Kd.N_far (p := ⟨gb1068, 0, none⟩) (Kd.N_far (p := ⟨gb1067, 0, none⟩) (Kd.N_mono (Kd.N_mono HO1076.out (fun k_ hk => (⟨hk, hk.1.1.2.1⟩ : _ ∧ k_ ≠ gb1067))) (fun k_ hk => (⟨hk, hk.1.1.1.2.2.1⟩ : _ ∧ k_ ≠ gb1068))) (fun _ hk => hk.1.2) (.slice Ao13 t1074.length co13)) (fun _ hk => hk.2) (.int .i64 t1090)) (fun _ hk => hk.2) (.slice Ao35 t1091.length co35)) (fun _ hk => hk.1.1.1.1.1)), Kd.N_V (by (with_reducible repeat (first | apply Kd.N_alloc | apply Kd.N_drewN | apply Kd.N_drew)); exact Kd.N_mono (Kd.N_far (p := ⟨gb1068, 1, none⟩) (Kd.N_far (p := ⟨gb1068, 0, none⟩) (Kd.N_far (p := ⟨gb1067, 0, none⟩) (Kd.N_mono (Kd.N_mono HO1093.out (fun k_ hk => (⟨hk, hk.2.1⟩ : _ ∧ k_ ≠ gb1067))) (fun k_ hk => (⟨hk, hk.1.2.2.1⟩ : _ ∧ k_ ≠ gb1068))) (fun _ hk => hk.1.2) (.slice Ao13 t1074.length co13)) (fun _ hk => hk.2) (.int .i64 t1090)) (fun _ hk => hk.2) (.slice Ao35 t1091.length co35)) (fun _ hk => hk.1.1.1)), (y21 HB.out HI1071.out GE1067.out GE1068.out GE1078.out)⟩
end Go.Proofs.Ythfflieeifakdaa.PA
end
section
namespace Go.Proofs.Ythfflieeifakdaa.PA
open Go.RowKit Go.Proofs.YthfflieeifakdaaW.PrintWords Go.Proofs.YthfflieeifakdaaW.PrintLast Go.Proofs.YthfflieeifakdaaW.PrintMore
attribute [local go_sem] max2_int min2_int max_two min_two max_three min_three max_four min_four
set_option linter.unusedVariables false
set_option linter.unusedSimpArgs false
def impl_ValOk.f (k : Nat) (l0_0 : List (S50)) (a1_0 : Int) (l1_1 : List (S25)) : Option (Bool) := (impl_TypeOk.f k l0_0).bind fun t1104 => (if t1104 = true then ((impl_valTyped.f k a1_0 l1_1).bind fun bt1105 => (if bt1105.2 = true then ((impl_typeSame.f k bt1105.1 l0_0).bind fun t1110 => (some t1110)) else (some false))) else (some false))
theorem impl_ValOk.mono : ∀ a0 a1 a2 k, LeO (impl_ValOk.f k a0 a1 a2) (impl_ValOk.f (k + 1) a0 a1 a2) := by
 intro a0 a1 a2 k
 unfold impl_ValOk.f
 repeat' first
   | (with_reducible exact impl_TypeOk.mono _ _)
   | (with_reducible exact impl_typeSame.mono _ _ _)
   | (with_reducible exact impl_valTyped.mono _ _ _)
   | (with_reducible exact LeO.refl _)
   | (with_reducible exact LeO.none _)
   | (with_reducible refine LeO.ite ?_ ?_)
   | (with_reducible refine LeO.bind ?_ (fun _ => ?_))
   | exact impl_TypeOk.mono _ _
   | exact impl_typeSame.mono _ _ _
   | exact impl_valTyped.mono _ _ _
   | exact LeO.none _
   | refine LeO.ite ?_ ?_
   | refine LeO.bind ?_ (fun _ => ?_)
set_option maxHeartbeats 8000000 in
set_option maxRecDepth 100000 in
theorem impl_ValOk.calls (k : Nat) (A0_0 : Option Addr) (c0_0 : Nat) (l0_0 : List (S50)) (a1_0 : Int) (A1_1 : Option Addr) (c1_1 : Nat) (l1_1 : List (S25)) (r : Bool) (w : World) (hr0_0 : Kd.C k50 w A0_0 l0_0.length l0_0) (hc0_0 : l0_0.length ≤ c0_0) (hr1_1 : Kd.C k25 w A1_1 l1_1.length l1_1) (hc1_1 : l1_1.length ≤ c1_1) (h : impl_ValOk.f k l0_0 a1_0 l1_1 = some r) :
  Calls Try.prog 28 #[.agg #[.slice A0_0 l0_0.length c0_0], .agg #[.int .i64 a1_0, .slice A1_1 l1_1.length c1_1]] w fun e w' => e = .returned (.bool r) ∧ Below w.heap.size w w' := by
 have hu50 := Try.underlying50
 have hu25 := Try.underlying25
 have HR0_0 := Aside0.mk hr0_0
 have HC0_0 := Aside0.mk hc0_0
 clear hr0_0 hc0_0
 have HR1_1 := Aside0.mk hr1_1
 have HC1_1 := Aside0.mk hc1_1
 clear hr1_1 hc1_1
 have HB := Aside0.mk (Below.refl w.heap.size w)
 have H : ((impl_TypeOk.f k l0_0).bind fun t1104 => (if t1104 = true then ((impl_valTyped.f k a1_0 l1_1).bind fun bt1105 => (if bt1105.2 = true then ((impl_typeSame.f k bt1105.1 l0_0).bind fun t1110 => (some t1110)) else (some false))) else (some false))) = some r := h
 clear h
 obtain ⟨t1104, A30, H⟩ := ob H
 have A3 := Aside0.mk A30
 clear A30
 have HZ4 := Aside0.mk H
 clear H
 go_enter Try.func28, Try.ntmps28
 go_upto_if 9 with (first | ((with_reducible refine gate_dst (N := 2) rfl ?_); refine zbx 2 #[.slice A0_0 l0_0.length c0_0] 50 ?_; intro gb1102 hg w5 hbox hb; have BK1102 := Aside0.mk hbox; have GW1102 := Aside0.mk ((y10 hg HB.out : w.heap.size ≤ gb1102)); have GE1102 := Aside0.mk ((y10 hg HB.out : w.heap.size ≤ gb1102)); replace HB := Aside0.mk (below_step (y6 HB.out) hb); clear hb hbox hg) | ((with_reducible refine gate_dst (N := 3) rfl ?_); refine zbx 3 #[.int .i64 a1_0, .slice A1_1 l1_1.length c1_1] 25 ?_; intro gb1103 hg w6 hbox hb; have BK1103 := Aside0.mk hbox; have GW1103 := Aside0.mk ((y12 hg HB.out GE1102.out : w.heap.size ≤ gb1103)); have GE1103 := Aside0.mk ((y12 hg HB.out GE1102.out : w.heap.size ≤ gb1103)); replace HB := Aside0.mk (below_step (y7 HB.out GE1102.out) hb); have NB1102_1103 := zltn hg BK1102; have NB1103_1102 := zgtn hg BK1102; replace BK1102 := zbb BK1102 hb; clear hb hbox hg; have hnb7 := NB1102_1103.out; have hnc7 := NB1103_1102.out; have hcz8_0 := zh BK1102; have hfz8_0 := zfr BK1102 0) | ((with_reducible refine gate_callee (f := 52) rfl ?_); refine goesL_ (some 8) rfl rfl Try.func52 (by kernel_rfl) rfl #[.agg #[.slice A0_0 l0_0.length c0_0]] rfl y9 ?_; (with_reducible refine (impl_TypeOk.calls k _ _ l0_0 t1104 _ ?side1 ?side2 A3.out).mono ?_); (case side1 => exact y18 HR0_0.out HB.out); (case side2 => exact HC0_0.out); rintro e w9 ⟨rfl, hb⟩; refine ⟨_, rfl, ?_⟩; replace BK1102 := zbb BK1102 hb; replace BK1103 := zbb BK1103 hb; replace HB := Aside0.mk (below_step (y3 HB.out GE1102.out GE1103.out) hb); (try clear hb); (try clear hb2); (try clear hk); (try clear hi)))
 (try simp only [Act.put, List.setIfInBounds_toArray, List.set_cons_zero, List.set_cons_succ])
 have H := HZ4.out
 clear HZ4
 by_cases c10 : t1104 = true
 ·subst c10
  rw [if_pos rfl] at H
  obtain ⟨⟨t1105, t1108⟩, A110, H⟩ := ob H
  have A11 := Aside0.mk A110
  clear A110
  by_cases c12 : t1108 = true
  ·subst c12
   rw [if_pos rfl] at H
   obtain ⟨t1110, A130, H⟩ := ob H
   have A13 := Aside0.mk A130
   clear A130
   obtain rfl := Option.some.inj H
   have hnb14 := NB1103_1102.out
   have hnc14 := NB1102_1103.out
   have hcz15_0 := zh BK1103
   have hcz15_1 := zh1 BK1103
   have hfz15_0 := zfr BK1103 0
   have hfz15_1 := zfr BK1103 1
   go_wp2_with (first | ((with_reducible refine gate_callee (f := 38) rfl ?_); refine goesL_ (some 12) rfl rfl Try.func38 (by kernel_rfl) rfl #[.agg #[.int .i64 a1_0, .slice A1_1 l1_1.length c1_1]] rfl y9 ?_; (with_reducible refine (impl_valTyped.calls k a1_0 _ _ l1_1 t1105 true _ ?side1 ?side2 A11.out).mono ?_); (case side1 => exact y18 HR1_1.out HB.out); (case side2 => exact HC1_1.out); rintro e w16 ⟨v1106, rfl, ho0, hb⟩; refine ⟨_, rfl, ?_⟩; have HO1107 := Aside0.mk (Kd.N_lower (Kd.N_mono (ok' := fun k_ => k_ ≠ gb1102 ∧ k_ ≠ gb1103) ho0 (fun k_ hk_ => ⟨(Kd.freshB (g := gb1102) (o := .cells #[.slice A0_0 l0_0.length c0_0] 50 (0, 0)) (y0 BK1102.out) k_ hk_), (Kd.freshB (g := gb1103) (o := .cells #[.int .i64 a1_0, .slice A1_1 l1_1.length c1_1] 25 (0, 0)) (y0 BK1103.out) k_ hk_)⟩)) (below_size (y3 HB.out GE1102.out GE1103.out))); replace BK1102 := zbb BK1102 hb; replace BK1103 := zbb BK1103 hb; replace HB := Aside0.mk (below_step (y3 HB.out GE1102.out GE1103.out) hb); (try clear hb); (try clear hb2); (try clear hk); (try clear hi); (try clear ho0)) | ((with_reducible refine gate_dst (N := 5) rfl ?_); refine zbx 5 #[.slice none 0 0] 50 ?_; intro gb1109 hg w17 hbox hb; replace HO1107 := Aside0.mk (Kd.N_below (Kd.N_elderB (y2 HO1107.out) gb1109 (Nat.le_of_eq hg.symm)) hb); have BK1109 := Aside0.mk hbox; have GW1109 := Aside0.mk ((y16 hg HB.out GE1102.out GE1103.out : w.heap.size ≤ gb1109)); have GE1109 := Aside0.mk ((y16 hg HB.out GE1102.out GE1103.out : w.heap.size ≤ gb1109)); replace HB := Aside0.mk (below_step (y3 HB.out GE1102.out GE1103.out) hb); have NB1102_1109 := zltn hg BK1102; have NB1109_1102 := zgtn hg BK1102; replace BK1102 := zbb BK1102 hb; have NB1103_1109 := zltn hg BK1103; have NB1109_1103 := zgtn hg BK1103; replace BK1103 := zbb BK1103 hb; clear hb hbox hg; obtain ⟨Ao18, co18, eo18⟩ := Kd.N_slice HO1107.out; subst eo18; have hnb19 := NB1109_1102.out; have hnc19 := NB1102_1109.out; have hnb20 := NB1109_1103.out; have hnc20 := NB1103_1109.out; have hcz21_0 := zh BK1109; have hfz21_0 := zfr BK1109 0; have hcz22_0 := zh BK1102; have hfz22_0 := zfr BK1102 0) | (go_at_call 46; (with_reducible refine (impl_typeSame.calls k _ _ t1105 _ _ l0_0 t1110 _ ?side1 ?side2 ?side3 ?side4 A13.out).mono ?_); (case side1 => refine (Kd.N_reads' (e := 50) (base := w.heap.size) (ok := fun k_ => ((k_ ≠ gb1102 ∧ k_ ≠ gb1103) ∧ k_ ≠ gb1109)) (n := t1105.length) (c := co18) ?_).2.2; exact (by (with_reducible repeat (first | apply Kd.N_alloc | apply Kd.N_drewN | apply Kd.N_drew)); exact (Kd.N_mono (Kd.N_far (p := ⟨gb1109, 0, none⟩) (Kd.N_mono HO1107.out (fun k_ hk => (⟨hk, hk.2⟩ : _ ∧ k_ ≠ gb1109))) (fun _ hk => hk.2) (.slice Ao18 t1105.length co18)) (fun _ h_ => h_.1)))); (case side2 => exact (Kd.N_reads' HO1107.out).2.1); (case side3 => exact y54 HR0_0.out HB.out GE1102.out GE1103.out GE1109.out); (case side4 => exact HC0_0.out); rintro e w23 ⟨rfl, hb⟩; replace HO1107 := Aside0.mk (Kd.N_below (by (with_reducible repeat (first | apply Kd.N_alloc | apply Kd.N_drewN | apply Kd.N_drew)); exact (Kd.N_mono (Kd.N_far (p := ⟨gb1109, 0, none⟩) (Kd.N_mono HO1107.out (fun k_ hk => (⟨hk, hk.2⟩ : _ ∧ k_ ≠ gb1109))) (fun _ hk => hk.2) (.slice Ao18 t1105.length co18)) (fun _ h_ => h_.1))) hb); replace BK1102 := zbf BK1102 NB1102_1109 hb; replace BK1103 := zbf BK1103 NB1103_1109 hb; replace BK1109 := Aside0.mk (blk_below (g := gb1109) (o := .cells #[.slice Ao18 t1105.length co18] 50 (0, 0)) (by (with_reducible repeat (first | refine blk_drewN ?_ _ | refine blk_drew ?_ | refine blk_alloc ?_ _)); apply blk_put (i := 0); (case h => exact y0 BK1109.out); (case e => rfl)) hb); replace HB := Aside0.mk (below_step (y4 HB.out GE1102.out GE1103.out GE1109.out) hb); (try clear hb); (try clear hb2); (try clear hk); (try clear hi)))
   go_ret
   exact ⟨y15, (y4 HB.out GE1102.out GE1103.out GE1109.out)⟩
  ·replace c12 := Bool.eq_false_iff.mpr c12
   subst c12
   rw [if_neg (show ¬ (false = true) by decide)] at H
   obtain rfl := Option.some.inj H
   have hnb24 := NB1103_1102.out
   have hnc24 := NB1102_1103.out
   have hcz25_0 := zh BK1103
   have hcz25_1 := zh1 BK1103
   have hfz25_0 := zfr BK1103 0
   have hfz25_1 := zfr BK1103 1
   go_wp2_with (first | ((with_reducible refine gate_callee (f := 38) rfl ?_); refine goesL_ (some 12) rfl rfl Try.func38 (by kernel_rfl) rfl #[.agg #[.int .i64 a1_0, .slice A1_1 l1_1.length c1_1]] rfl y9 ?_; (with_reducible refine (impl_valTyped.calls k a1_0 _ _ l1_1 t1105 false _ ?side1 ?side2 A11.out).mono ?_); (case side1 => exact y18 HR1_1.out HB.out); (case side2 => exact HC1_1.out); rintro e w26 ⟨v1106, rfl, ho0, hb⟩; refine ⟨_, rfl, ?_⟩; have HO1107 := Aside0.mk (Kd.N_lower (Kd.N_mono (ok' := fun k_ => k_ ≠ gb1102 ∧ k_ ≠ gb1103) ho0 (fun k_ hk_ => ⟨(Kd.freshB (g := gb1102) (o := .cells #[.slice A0_0 l0_0.length c0_0] 50 (0, 0)) (y0 BK1102.out) k_ hk_), (Kd.freshB (g := gb1103) (o := .cells #[.int .i64 a1_0, .slice A1_1 l1_1.length c1_1] 25 (0, 0)) (y0 BK1103.out) k_ hk_)⟩)) (below_size (y3 HB.out GE1102.out GE1103.out))); replace BK1102 := zbb BK1102 hb; replace BK1103 := zbb BK1103 hb; replace HB := Aside0.mk (below_step (y3 HB.out GE1102.out GE1103.out) hb); (try clear hb); (try clear hb2); (try clear hk); (try clear hi); (try clear ho0)) | ((with_reducible refine gate_dst (N := 5) rfl ?_); refine zbx 5 #[.slice none 0 0] 50 ?_; intro gb1109 hg w27 hbox hb; replace HO1107 := Aside0.mk (Kd.N_below (Kd.N_elderB (y2 HO1107.out) gb1109 (Nat.le_of_eq hg.symm)) hb); have BK1109 := Aside0.mk hbox; have GW1109 := Aside0.mk ((y16 hg HB.out GE1102.out GE1103.out : w.heap.size ≤ gb1109)); have GE1109 := Aside0.mk ((y16 hg HB.out GE1102.out GE1103.out : w.heap.size ≤ gb1109)); replace HB := Aside0.mk (below_step (y3 HB.out GE1102.out GE1103.out) hb); have NB1102_1109 := zltn hg BK1102; have NB1109_1102 := zgtn hg BK1102; replace BK1102 := zbb BK1102 hb; have NB1103_1109 := zltn hg BK1103; have NB1109_1103 := zgtn hg BK1103; replace BK1103 := zbb BK1103 hb; clear hb hbox hg; obtain ⟨Ao28, co28, eo28⟩ := Kd.N_slice HO1107.out; subst eo28; have hnb29 := NB1109_1102.out; have hnc29 := NB1102_1109.out; have hnb30 := NB1109_1103.out; have hnc30 := NB1103_1109.out; have hcz31_0 := zh BK1109; have hfz31_0 := zfr BK1109 0))
   go_ret
   exact ⟨y15, (y4 HB.out GE1102.out GE1103.out GE1109.out)⟩
 ·replace c10 := Bool.eq_false_iff.mpr c10
  subst c10
  rw [if_neg (show ¬ (false = true) by decide)] at H
  obtain rfl := Option.some.inj H
  go_wp2
  go_ret
  exact ⟨y15, (y3 HB.out GE1102.out GE1103.out)⟩
end Go.Proofs.Ythfflieeifakdaa.PA
end
