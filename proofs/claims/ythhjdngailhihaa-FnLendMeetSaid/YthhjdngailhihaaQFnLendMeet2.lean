-- Ythhjdngailhihaa's texts for the statement FnLendMeet, one behind the other (merge.py).
import Derived.Test.YthhjdngailhihaaQFnLendMeet0
import Derived.Test.YthhjdngailhihaaQFnLendMeet1
import Derived.OpenShut
import Derived.Laws.BitsLemmas
import Derived.SizedLaws
import Derived.ChangeSlices
import Derived.Test.YthhjdngailhihaaRows
import Derived.WalkKit
import Derived.ProofKit
import Derived.ShutString
import Derived.ChangeOld
import Derived.Below
section
namespace Go.Proofs.Ythhjdngailhihaa.PA
open Go.RowKit Go.Proofs.YthhjdngailhihaaW.PrintWords Go.Proofs.YthhjdngailhihaaW.PrintLast Go.Proofs.YthhjdngailhihaaW.PrintMore
attribute [local go_sem] max2_int min2_int max_two min_two max_three min_three max_four min_four
set_option linter.unusedVariables false
set_option linter.unusedSimpArgs false
mutual
def laws_FnLendMeet.j0 : Nat → List Int → List Int → Bool → Option (Bool)
 | 0, _, _, _ => none
 | k + 1, x0, x1, x17 => if x17 = true then (some true) else ((spec_DrawLendMeet.f k x0).bind fun bt191 => ((impl_LendMeet.f k bt191.1 bt191.2.1 bt191.2.2.1 bt191.2.2.2).bind fun t201 => ((spec_LendMeet.f k bt191.1 bt191.2.1 bt191.2.2.1 bt191.2.2.2).bind fun t202 => (if (t201 != t202) = true then (laws_FnLendMeet.j1 k x1 t201 true bt191.1 bt191.2.1) else ((impl_LendMeet.f k bt191.2.2.1 bt191.2.2.2 bt191.1 bt191.2.1).bind fun t203 => (laws_FnLendMeet.j1 k x1 t201 (t203 != t201) bt191.1 bt191.2.1))))))
def laws_FnLendMeet.j1 : Nat → List Int → Bool → Bool → ByteArray → List Int → Option (Bool)
 | 0, _, _, _, _, _ => none
 | k + 1, x1, x7, x37, x200000, x200001 => if x37 = true then (some false) else ((impl_LendMeet.f k x200000 x200001 x200000 x200001).bind fun t204 => ((some (([] : List Int) : List Int)).bind fun y205 => (if y205.length + x200001.length < 17592186044416 then ((some (y205 ++ x200001 : List Int)).bind fun y208 => ((some (([(x1.length : Int) % 2] : List Int) : List Int)).bind fun y211 => (if y208.length + y211.length < 17592186044416 then ((some (y208 ++ y211 : List Int)).bind fun y214 => ((spec_LendMeet.f k x200000 x200001 x200000 x200001).bind fun t218 => (if (t204 == t218) = true then (if t204 = true then (if (y214.length : Int) > 4 then (if x7 = true then (some t204) else (some true)) else ((impl_LendMeet.f k x200000 x200001 x200000 y214).bind fun t219 => (if t219 = true then (if x7 = true then (some t204) else (some true)) else (some false)))) else (if x7 = true then (some t204) else (some true))) else (some false)))) else (none)))) else (none))))
end
def laws_FnLendMeet.f (k : Nat) (l0 : List Int) (l1 : List Int) : Option (Bool) := if (l0.length : Int) > 1048576 then (laws_FnLendMeet.j0 k l0 l1 true) else (laws_FnLendMeet.j0 k l0 l1 (decide ((l1.length : Int) > 1048576)))
theorem laws_FnLendMeet.mono_l : ∀ k, (∀ y0 y1 y2, LeO (laws_FnLendMeet.j0 k y0 y1 y2) (laws_FnLendMeet.j0 (k + 1) y0 y1 y2)) ∧ (∀ y0 y1 y2 y3 y4, LeO (laws_FnLendMeet.j1 k y0 y1 y2 y3 y4) (laws_FnLendMeet.j1 (k + 1) y0 y1 y2 y3 y4))
 | 0 => ⟨fun _ _ _ r h => by simp [laws_FnLendMeet.j0] at h, fun _ _ _ _ _ r h => by simp [laws_FnLendMeet.j1] at h⟩
 | k + 1 => by
  obtain ⟨ih0, ih1⟩ := laws_FnLendMeet.mono_l k
  refine ⟨?_, ?_⟩
  ·intro y0 y1 y2
   unfold laws_FnLendMeet.j0
   repeat' first
   | (with_reducible exact ih0 _ _ _)
   | (with_reducible exact ih1 _ _ _ _ _)
   | (with_reducible exact impl_LendMeet.mono _ _ _ _ _)
   | (with_reducible exact spec_DrawLendMeet.mono _ _)
   | (with_reducible exact spec_LendMeet.mono _ _ _ _ _)
   | (with_reducible exact LeO.refl _)
   | (with_reducible exact LeO.none _)
   | (with_reducible refine LeO.ite ?_ ?_)
   | (with_reducible refine LeO.bind ?_ (fun _ => ?_))
   | exact ih0 _ _ _
   | exact ih1 _ _ _ _ _
   | exact impl_LendMeet.mono _ _ _ _ _
   | exact spec_DrawLendMeet.mono _ _
   | exact spec_LendMeet.mono _ _ _ _ _
   | exact LeO.none _
   | refine LeO.ite ?_ ?_
   | refine LeO.bind ?_ (fun _ => ?_)
  ·intro y0 y1 y2 y3 y4
   unfold laws_FnLendMeet.j1
   repeat' first
   | (with_reducible exact ih0 _ _ _)
   | (with_reducible exact ih1 _ _ _ _ _)
   | (with_reducible exact impl_LendMeet.mono _ _ _ _ _)
   | (with_reducible exact spec_DrawLendMeet.mono _ _)
   | (with_reducible exact spec_LendMeet.mono _ _ _ _ _)
   | (with_reducible exact LeO.refl _)
   | (with_reducible exact LeO.none _)
   | (with_reducible refine LeO.ite ?_ ?_)
   | (with_reducible refine LeO.bind ?_ (fun _ => ?_))
   | exact ih0 _ _ _
   | exact ih1 _ _ _ _ _
   | exact impl_LendMeet.mono _ _ _ _ _
   | exact spec_DrawLendMeet.mono _ _
   | exact spec_LendMeet.mono _ _ _ _ _
   | exact LeO.none _
   | refine LeO.ite ?_ ?_
   | refine LeO.bind ?_ (fun _ => ?_)
theorem laws_FnLendMeet.mono : ∀ a0 a1 k, LeO (laws_FnLendMeet.f k a0 a1) (laws_FnLendMeet.f (k + 1) a0 a1) := by
 intro a0 a1 k
 obtain ⟨ih0, ih1⟩ := laws_FnLendMeet.mono_l k
 unfold laws_FnLendMeet.f
 repeat' first
   | (with_reducible exact ih0 _ _ _)
   | (with_reducible exact ih1 _ _ _ _ _)
   | (with_reducible exact impl_LendMeet.mono _ _ _ _ _)
   | (with_reducible exact spec_DrawLendMeet.mono _ _)
   | (with_reducible exact spec_LendMeet.mono _ _ _ _ _)
   | (with_reducible exact LeO.refl _)
   | (with_reducible exact LeO.none _)
   | (with_reducible refine LeO.ite ?_ ?_)
   | (with_reducible refine LeO.bind ?_ (fun _ => ?_))
   | exact ih0 _ _ _
   | exact ih1 _ _ _ _ _
   | exact impl_LendMeet.mono _ _ _ _ _
   | exact spec_DrawLendMeet.mono _ _
   | exact spec_LendMeet.mono _ _ _ _ _
   | exact LeO.none _
   | refine LeO.ite ?_ ?_
   | refine LeO.bind ?_ (fun _ => ?_)
def laws_FnLendMeet.T8 : Bool × List (List Nat × List Nat) := (true, [([], []), ([0], [0]), ([], []), ([], []), ([3], [3]), ([2, 4], [2, 4]), ([], []), ([6], [6]), ([7], [7]), ([8], [8]), ([5, 9, 5], [5, 9]), ([1, 10], [1, 10]), ([], []), ([12, 11, 10, 0, 1, 2, 3, 4, 5, 6, 7, 8, 9, 10, 11, 12], [11, 12])])
def laws_FnLendMeet.B8 : List Nat := [0, 1, 0, 0, 8, 28, 0, 64, 192, 448, 1020, 2047, 0, 8191]
theorem laws_FnLendMeet.tab8 : rtab .any (opsOf Try.f3 8) = laws_FnLendMeet.T8 := by kernel_rfl
theorem laws_FnLendMeet.bits8 : waitsOk laws_FnLendMeet.T8.2 laws_FnLendMeet.B8 = true := by kernel_rfl
set_option maxHeartbeats 8000000 in
set_option maxRecDepth 100000 in
theorem laws_FnLendMeet.calls (k : Nat) (A0 : Option Addr) (c0 : Nat) (l0 : List Int) (A1 : Option Addr) (c1 : Nat) (l1 : List Int) (r : Bool) (w : World) (hr0 : Kd.C (Kd.int .u8) w A0 l0.length l0) (hc0 : l0.length ≤ c0) (hr1 : Kd.C (Kd.int .u8) w A1 l1.length l1) (hc1 : l1.length ≤ c1) (h : laws_FnLendMeet.f k l0 l1 = some r) (hr_ : Aside0 (r = true)) :
  Calls Try.prog 3 #[.slice A0 l0.length c0, .slice A1 l1.length c1] w fun e w' => e = .returned (.bool r) ∧ Below w.heap.size w w' := by
 have hu25 := Try.underlying25
 have HR0 := Aside0.mk hr0
 have HC0 := Aside0.mk hc0
 clear hr0 hc0
 have HR1 := Aside0.mk hr1
 have HC1 := Aside0.mk hc1
 clear hr1 hc1
 have HB := Aside0.mk (Below.refl w.heap.size w)
 have H : (if (l0.length : Int) > 1048576 then (laws_FnLendMeet.j0 k l0 l1 true) else (laws_FnLendMeet.j0 k l0 l1 (decide ((l1.length : Int) > 1048576)))) = some r := h
 clear h
 have HC3 := Aside0.mk H
 clear H
 go_enter Try.func3, Try.ntmps3
 go_upto_region 1 with (fail)
 go_cut [17] (fun v17 wc => ∃ (kq : Nat) (x17_2 : Bool), v17 = .bool x17_2 ∧ Aside0 (laws_FnLendMeet.j0 kq l0 l1 x17_2 = some r) ∧ Aside0 (kq ≤ k) ∧ Aside0 (Below w.heap.size w wc))
 case first =>
  have H := HC3.out
  clear HC3
  by_cases c4 : (l0.length : Int) > 1048576
  ·rw [if_pos c4] at H
   have c4b0 : decide (1048576 < (l0.length : Int)) = true := decide_eq_true c4
   have c4b1 : decide (1048576 < l0.length) = true := decide_eq_true (by omega)
   clear c4
   (first | rw [c4b0] | (simp only [i64_w, i32_w]; rw [c4b0]) | skip)
   have H' := Aside0.mk H
   clear H
   go_wp2
   go_meet
   case rel => exact ⟨_, (true), y19, H', ⟨y57⟩, ⟨(y4 HB.out)⟩⟩
  ·rw [if_neg c4] at H
   have c4b0 : decide (1048576 < (l0.length : Int)) = false := decide_eq_false c4
   have c4b1 : decide (1048576 < l0.length) = false := decide_eq_false (by omega)
   clear c4
   (first | rw [c4b0] | (simp only [i64_w, i32_w]; rw [c4b0]) | skip)
   have H' := Aside0.mk H
   clear H
   go_wp2
   go_meet
   case rel => exact ⟨_, (decide ((l1.length : Int) > 1048576)), y19, H', ⟨y57⟩, ⟨(y4 HB.out)⟩⟩
 case rest =>
  clear HC3
  try clear c1
  try clear p2
  try clear c3
  try clear c4
  try clear c4b0
  try clear c4b1
  obtain ⟨kq, x17_2, rfl, HA, HJ2, HB⟩ := hcut
  cases kq with
  | zero => exact absurd HA.out (by simp [laws_FnLendMeet.j0])
  | succ kj2 =>
   have H := HA.out
   clear HA
   simp only [laws_FnLendMeet.j0] at H
   by_cases c5 : x17_2 = true
   ·subst c5
    rw [if_pos rfl] at H
    clear hr_
    obtain rfl := Option.some.inj H
    go_wp2
    go_ret
    exact ⟨y16, (y4 HB.out)⟩
   ·replace c5 := Bool.eq_false_iff.mpr c5
    subst c5
    rw [if_neg (show ¬ (false = true) by decide)] at H
    obtain ⟨⟨t191, t192, t195, t196⟩, A60, H⟩ := ob H
    have A6 := Aside0.mk A60
    clear A60
    obtain ⟨t201, A70, H⟩ := ob H
    have A7 := Aside0.mk A70
    clear A70
    have HC8 := Aside0.mk H
    clear H
    go_upto_region 5 with (first | ((with_reducible refine gate_callee (f := 5) rfl ?_); refine goesL_ (some 20) rfl rfl Try.func5 (by kernel_rfl) rfl #[.slice A0 l0.length c0] rfl y9 ?_; (with_reducible refine (spec_DrawLendMeet.calls kj2 _ _ l0 t191 t192 t195 t196 _ ?side1 ?side2 A6.out).mono ?_); (case side1 => exact y10 HR0.out HB.out); (case side2 => exact HC0.out); rintro e w9 ⟨v193, v197, rfl, ho0, ho1, hb⟩; refine ⟨_, rfl, ?_⟩; have HO194 := Aside0.mk (Kd.R_lower ho0 (below_size (y4 HB.out))); have HO198 := Aside0.mk (Kd.R_lower ho1 (below_size (y4 HB.out))); replace HB := Aside0.mk (below_step (y4 HB.out) hb); (try clear hb); (try clear hb2); (try clear hk); (try clear hi); (try clear ho0); (try clear ho1)) | ((with_reducible refine gate_dst (N := 5) rfl ?_); (try (refine gate_guard (by rfl) ?_; dsimp only)); refine zbx 5 #[.string (⟨#[]⟩ : ByteArray), .slice none 0 0] 25 ?_; intro gb199 hg w10 hbox hb; replace HO194 := Aside0.mk (Kd.R_below (y0 HO194.out) hb); replace HO198 := Aside0.mk (Kd.R_below (y0 HO198.out) hb); have BK199 := Aside0.mk hbox; have GW199 := Aside0.mk ((y6 hg HB.out : w.heap.size ≤ gb199)); have GE199 := Aside0.mk ((y6 hg HB.out : w.heap.size ≤ gb199)); replace HB := Aside0.mk (below_step (y4 HB.out) hb); clear hb hbox hg) | ((with_reducible refine gate_dst (N := 6) rfl ?_); (try (refine gate_guard (by rfl) ?_; dsimp only)); refine zbx 6 #[.string (⟨#[]⟩ : ByteArray), .slice none 0 0] 25 ?_; intro gb200 hg w11 hbox hb; replace HO194 := Aside0.mk (Kd.R_below (y0 HO194.out) hb); replace HO198 := Aside0.mk (Kd.R_below (y0 HO198.out) hb); have BK200 := Aside0.mk hbox; have GW200 := Aside0.mk ((y7 hg HB.out GE199.out : w.heap.size ≤ gb200)); have GE200 := Aside0.mk ((y7 hg HB.out GE199.out : w.heap.size ≤ gb200)); replace HB := Aside0.mk (below_step (y3 HB.out GE199.out) hb); have NB199_200 := zltn hg BK199; have NB200_199 := zgtn hg BK199; replace BK199 := zbb BK199 hb; clear hb hbox hg; have hnb12 := NB199_200.out; have hnc12 := NB200_199.out; have hcz13_0 := zh BK199; have hcz13_1 := zh1 BK199; have hfz13_0 := zfr BK199 0; have hfz13_1 := zfr BK199 1; obtain ⟨Ao14, co14, eo14⟩ := Kd.R_slice HO194.out; subst eo14; have hcz15_0 := zh BK200; have hcz15_1 := zh1 BK200; have hfz15_0 := zfr BK200 0; have hfz15_1 := zfr BK200 1; obtain ⟨Ao16, co16, eo16⟩ := Kd.R_slice HO198.out; subst eo16) | ((with_reducible refine gate_callee (f := 6) rfl ?_); refine goesL_ (some 25) rfl rfl Try.func6 (by kernel_rfl) rfl #[.agg #[.string t191, .slice Ao14 t192.length co14], .agg #[.string t195, .slice Ao16 t196.length co16]] rfl y9 ?_; (with_reducible refine (impl_LendMeet.calls kj2 t191 _ _ t192 t195 _ _ t196 t201 _ ?side1 ?side2 ?side3 ?side4 A7.out).mono ?_); (case side1 => refine (Kd.R_reads' (e := 3) (base := w.heap.size) (ok := fun k_ => some k_ ≠ (.slice Ao16 t196.length co16 : Value).ownBlock) (n := t192.length) (c := co14) ?_).2.2; exact (by (with_reducible repeat (first | apply Kd.R_alloc | apply Kd.R_drewN | apply Kd.R_drew)); exact (Kd.R_mono (Kd.R_mono (Kd.R_far (p := ⟨gb200, 1, none⟩) (Kd.R_far (p := ⟨gb200, 0, none⟩) (Kd.R_far (p := ⟨gb199, 1, none⟩) (Kd.R_far (p := ⟨gb199, 0, none⟩) (Kd.R_types (Kd.R_types HO194.out BK199.out (by decide)) BK200.out (by decide)) (fun _ hk => hk.1.2) (.string t191)) (fun _ hk => hk.1.2) (.slice Ao14 t192.length co14)) (fun _ hk => hk.2) (.string t195)) (fun _ hk => hk.2) (.slice Ao16 t196.length co16)) (fun _ h_ => h_.1)) (fun _ h_ => h_.1)))); (case side2 => exact (Kd.R_reads' HO194.out).2.1); (case side3 => refine (Kd.R_reads' (e := 3) (base := w.heap.size) (ok := fun k_ => some k_ ≠ (.slice Ao14 t192.length co14 : Value).ownBlock) (n := t196.length) (c := co16) ?_).2.2; exact (by (with_reducible repeat (first | apply Kd.R_alloc | apply Kd.R_drewN | apply Kd.R_drew)); exact (Kd.R_mono (Kd.R_mono (Kd.R_far (p := ⟨gb200, 1, none⟩) (Kd.R_far (p := ⟨gb200, 0, none⟩) (Kd.R_far (p := ⟨gb199, 1, none⟩) (Kd.R_far (p := ⟨gb199, 0, none⟩) (Kd.R_types (Kd.R_types HO198.out BK199.out (by decide)) BK200.out (by decide)) (fun _ hk => hk.1.2) (.string t191)) (fun _ hk => hk.1.2) (.slice Ao14 t192.length co14)) (fun _ hk => hk.2) (.string t195)) (fun _ hk => hk.2) (.slice Ao16 t196.length co16)) (fun _ h_ => h_.1)) (fun _ h_ => h_.1)))); (case side4 => exact (Kd.R_reads' HO198.out).2.1); rintro e w17 ⟨rfl, hb⟩; refine ⟨_, rfl, ?_⟩; replace HO194 := Aside0.mk (Kd.R_below (by (with_reducible repeat (first | apply Kd.R_alloc | apply Kd.R_drewN | apply Kd.R_drew)); exact (Kd.R_mono (Kd.R_mono (Kd.R_far (p := ⟨gb200, 1, none⟩) (Kd.R_far (p := ⟨gb200, 0, none⟩) (Kd.R_far (p := ⟨gb199, 1, none⟩) (Kd.R_far (p := ⟨gb199, 0, none⟩) (Kd.R_types (Kd.R_types HO194.out BK199.out (by decide)) BK200.out (by decide)) (fun _ hk => hk.1.2) (.string t191)) (fun _ hk => hk.1.2) (.slice Ao14 t192.length co14)) (fun _ hk => hk.2) (.string t195)) (fun _ hk => hk.2) (.slice Ao16 t196.length co16)) (fun _ h_ => h_.1)) (fun _ h_ => h_.1))) hb); replace HO198 := Aside0.mk (Kd.R_below (by (with_reducible repeat (first | apply Kd.R_alloc | apply Kd.R_drewN | apply Kd.R_drew)); exact (Kd.R_mono (Kd.R_mono (Kd.R_far (p := ⟨gb200, 1, none⟩) (Kd.R_far (p := ⟨gb200, 0, none⟩) (Kd.R_far (p := ⟨gb199, 1, none⟩) (Kd.R_far (p := ⟨gb199, 0, none⟩) (Kd.R_types (Kd.R_types HO198.out BK199.out (by decide)) BK200.out (by decide)) (fun _ hk => hk.1.2) (.string t191)) (fun _ hk => hk.1.2) (.slice Ao14 t192.length co14)) (fun _ hk => hk.2) (.string t195)) (fun _ hk => hk.2) (.slice Ao16 t196.length co16)) (fun _ h_ => h_.1)) (fun _ h_ => h_.1))) hb); replace BK199 := Aside0.mk (blk_below (g := gb199) (o := .cells #[.string t191, .slice Ao14 t192.length co14] 25 (0, 0)) (by (with_reducible repeat (first | refine blk_drewN ?_ _ | refine blk_drew ?_ | refine blk_alloc ?_ _)); refine blk_far ?_ NB199_200.out _; (with_reducible repeat (first | refine blk_drewN ?_ _ | refine blk_drew ?_ | refine blk_alloc ?_ _)); refine blk_far ?_ NB199_200.out _; (with_reducible repeat (first | refine blk_drewN ?_ _ | refine blk_drew ?_ | refine blk_alloc ?_ _)); refine blk_put (cs := #[.string t191, .slice none 0 0]) ?_ 1 _ rfl; (with_reducible repeat (first | refine blk_drewN ?_ _ | refine blk_drew ?_ | refine blk_alloc ?_ _)); apply blk_put (i := 0); (case h => exact y2 BK199.out); (case e => rfl)) hb); replace BK200 := Aside0.mk (blk_below (g := gb200) (o := .cells #[.string t195, .slice Ao16 t196.length co16] 25 (0, 0)) (by (with_reducible repeat (first | refine blk_drewN ?_ _ | refine blk_drew ?_ | refine blk_alloc ?_ _)); refine blk_put (cs := #[.string t195, .slice none 0 0]) ?_ 1 _ rfl; (with_reducible repeat (first | refine blk_drewN ?_ _ | refine blk_drew ?_ | refine blk_alloc ?_ _)); refine blk_put (cs := #[.string (⟨#[]⟩ : ByteArray), .slice none 0 0]) ?_ 0 _ rfl; (with_reducible repeat (first | refine blk_drewN ?_ _ | refine blk_drew ?_ | refine blk_alloc ?_ _)); refine blk_far ?_ NB200_199.out _; (with_reducible repeat (first | refine blk_drewN ?_ _ | refine blk_drew ?_ | refine blk_alloc ?_ _)); refine blk_far ?_ NB200_199.out _; (with_reducible repeat (first | refine blk_drewN ?_ _ | refine blk_drew ?_ | refine blk_alloc ?_ _)); exact BK200.out) hb); replace HB := Aside0.mk (below_step (y1 HB.out GE199.out GE200.out) hb); (try clear hb); (try clear hb2); (try clear hk); (try clear hi)))
    (try simp only [Act.put, List.setIfInBounds_toArray, List.set_cons_zero, List.set_cons_succ])
    go_cut [37] (fun v37 wc => ∃ (kq : Nat) (x37_7 : Bool), v37 = .bool x37_7 ∧ Aside0 (laws_FnLendMeet.j1 kq l1 t201 x37_7 t191 t192 = some r) ∧ Aside0 (kq ≤ kj2) ∧ Aside0 (Kd.R (Kd.int .i64) 3 wc w.heap.size (fun k_ => some k_ ≠ ((.slice Ao16 t196.length co16) : Value).ownBlock) (.slice Ao14 t192.length co14) t192) ∧ Aside0 (Kd.R (Kd.int .i64) 3 wc w.heap.size (fun k_ => some k_ ≠ ((.slice Ao14 t192.length co14) : Value).ownBlock) (.slice Ao16 t196.length co16) t196) ∧ Aside0 (wc.heap[gb199]? = some (.cells #[.string t191, (.slice Ao14 t192.length co14)] 25 (0, 0))) ∧ Aside0 (wc.heap[gb200]? = some (.cells #[.string t195, (.slice Ao16 t196.length co16)] 25 (0, 0))) ∧ Aside0 (Below w.heap.size w wc))
    case first =>
     have H := HC8.out
     clear HC8
     obtain ⟨t202, A180, H⟩ := ob H
     have A18 := Aside0.mk A180
     clear A180
     by_cases c19 : (t201 != t202) = true
     ·rw [if_pos c19] at H
      have c19b0 : (t201 != t202) = true := c19
      (try (have c19b1 : decide (t201 = t202) = false := by simpa using c19))
      (try (have c19b2 : (t201 == t202) = false := by simpa using c19))
      (try (have c19b3 : ¬ (t201 = t202) := by simpa using c19))
      clear c19
      (first | rw [c19b0] | (simp only [i64_w, i32_w]; rw [c19b0]) | rw [show (!t201 == t202) = (t201 != t202) from by cases t201 <;> cases t202 <;> rfl, c19b0] | skip)
      have H' := Aside0.mk H
      clear H
      have hnb20 := NB199_200.out
      have hnc20 := NB200_199.out
      have hcz21_0 := zh BK199
      have hcz21_1 := zh1 BK199
      have hfz21_0 := zfr BK199 0
      have hfz21_1 := zfr BK199 1
      have hcz22_0 := zh BK200
      have hcz22_1 := zh1 BK200
      have hfz22_0 := zfr BK200 0
      have hfz22_1 := zfr BK200 1
      go_wp2_with (first | ((with_reducible refine gate_callee (f := 7) rfl ?_); refine goesL_ (some 29) rfl rfl Try.func7 (by kernel_rfl) rfl #[.agg #[.string t191, .slice Ao14 t192.length co14], .agg #[.string t195, .slice Ao16 t196.length co16]] rfl y9 ?_; (with_reducible refine (spec_LendMeet.calls kj2 t191 _ _ t192 t195 _ _ t196 t202 _ ?side1 ?side2 ?side3 ?side4 A18.out).mono ?_); (case side1 => exact y15 HO194.out); (case side2 => exact (Kd.R_reads' HO194.out).2.1); (case side3 => exact y15 HO198.out); (case side4 => exact (Kd.R_reads' HO198.out).2.1); rintro e w23 ⟨rfl, hb⟩; refine ⟨_, rfl, ?_⟩; replace HO194 := Aside0.mk (Kd.R_below (y0 HO194.out) hb); replace HO198 := Aside0.mk (Kd.R_below (y0 HO198.out) hb); replace BK199 := zbb BK199 hb; replace BK200 := zbb BK200 hb; replace HB := Aside0.mk (below_step (y1 HB.out GE199.out GE200.out) hb); (try clear hb); (try clear hb2); (try clear hk); (try clear hi)))
      go_meet
      case rel => exact ⟨_, (true), y19, H', ⟨(y60 HJ2.out)⟩, ⟨(y0 HO194.out)⟩, ⟨(y0 HO198.out)⟩, ⟨(y2 BK199.out)⟩, ⟨(y2 BK200.out)⟩, ⟨(y1 HB.out GE199.out GE200.out)⟩⟩
     ·rw [if_neg c19] at H
      have c19b0 : (t201 != t202) = false := by simpa using c19
      (try (have c19b1 : decide (t201 = t202) = true := by simpa using c19))
      (try (have c19b2 : (t201 == t202) = true := by simpa using c19))
      clear c19
      (first | rw [c19b0] | (simp only [i64_w, i32_w]; rw [c19b0]) | rw [show (!t201 == t202) = (t201 != t202) from by cases t201 <;> cases t202 <;> rfl, c19b0] | skip)
      obtain ⟨t203, A240, H⟩ := ob H
      have A24 := Aside0.mk A240
      clear A240
      have H' := Aside0.mk H
      clear H
      have hnb25 := NB199_200.out
      have hnc25 := NB200_199.out
      have hcz26_0 := zh BK199
      have hcz26_1 := zh1 BK199
      have hfz26_0 := zfr BK199 0
      have hfz26_1 := zfr BK199 1
      have hcz27_0 := zh BK200
      have hcz27_1 := zh1 BK200
      have hfz27_0 := zfr BK200 0
      have hfz27_1 := zfr BK200 1
      go_wp2_with (first | ((with_reducible refine gate_callee (f := 7) rfl ?_); refine goesL_ (some 29) rfl rfl Try.func7 (by kernel_rfl) rfl #[.agg #[.string t191, .slice Ao14 t192.length co14], .agg #[.string t195, .slice Ao16 t196.length co16]] rfl y9 ?_; (with_reducible refine (spec_LendMeet.calls kj2 t191 _ _ t192 t195 _ _ t196 t202 _ ?side1 ?side2 ?side3 ?side4 A18.out).mono ?_); (case side1 => exact y15 HO194.out); (case side2 => exact (Kd.R_reads' HO194.out).2.1); (case side3 => exact y15 HO198.out); (case side4 => exact (Kd.R_reads' HO198.out).2.1); rintro e w28 ⟨rfl, hb⟩; refine ⟨_, rfl, ?_⟩; replace HO194 := Aside0.mk (Kd.R_below (y0 HO194.out) hb); replace HO198 := Aside0.mk (Kd.R_below (y0 HO198.out) hb); replace BK199 := zbb BK199 hb; replace BK200 := zbb BK200 hb; replace HB := Aside0.mk (below_step (y1 HB.out GE199.out GE200.out) hb); (try clear hb); (try clear hb2); (try clear hk); (try clear hi); have hcz29_0 := zh BK200; have hcz29_1 := zh1 BK200; have hfz29_0 := zfr BK200 0; have hfz29_1 := zfr BK200 1; have hcz30_0 := zh BK199; have hcz30_1 := zh1 BK199; have hfz30_0 := zfr BK199 0; have hfz30_1 := zfr BK199 1) | (go_at_call 6; (with_reducible refine (impl_LendMeet.calls kj2 t195 _ _ t196 t191 _ _ t192 t203 _ ?side1 ?side2 ?side3 ?side4 A24.out).mono ?_); (case side1 => exact y15 HO198.out); (case side2 => exact (Kd.R_reads' HO198.out).2.1); (case side3 => exact y15 HO194.out); (case side4 => exact (Kd.R_reads' HO194.out).2.1); rintro e w31 ⟨rfl, hb⟩; replace HO194 := Aside0.mk (Kd.R_below (y0 HO194.out) hb); replace HO198 := Aside0.mk (Kd.R_below (y0 HO198.out) hb); replace BK199 := zbb BK199 hb; replace BK200 := zbb BK200 hb; replace HB := Aside0.mk (below_step (y1 HB.out GE199.out GE200.out) hb); (try clear hb); (try clear hb2); (try clear hk); (try clear hi)))
      go_meet
      case rel => exact ⟨_, ((t203 != t201)), y19, H', ⟨(y60 HJ2.out)⟩, ⟨(y0 HO194.out)⟩, ⟨(y0 HO198.out)⟩, ⟨(y2 BK199.out)⟩, ⟨(y2 BK200.out)⟩, ⟨(y1 HB.out GE199.out GE200.out)⟩⟩
    case rest =>
     clear HC8
     try clear c1
     try clear c2
     try clear p2
     try clear c3
     try clear c4
     try clear c4b0
     try clear c4b1
     try clear c5
     try clear c6
     try clear c7
     try clear c12
     try clear c19
     try clear c19b0
     try clear c19b1
     try clear c19b2
     try clear c20
     try clear c25
     try clear hcz13_0
     try clear hcz13_1
     try clear hcz15_0
     try clear hcz15_1
     try clear hcz21_0
     try clear hcz21_1
     try clear hcz22_0
     try clear hcz22_1
     try clear hcz26_0
     try clear hcz26_1
     try clear hcz27_0
     try clear hcz27_1
     try clear hcz29_0
     try clear hcz29_1
     try clear hcz30_0
     try clear hcz30_1
     try clear hfz13_0
     try clear hfz13_1
     try clear hfz15_0
     try clear hfz15_1
     try clear hfz21_0
     try clear hfz21_1
     try clear hfz22_0
     try clear hfz22_1
     try clear hfz26_0
     try clear hfz26_1
     try clear hfz27_0
     try clear hfz27_1
     try clear hfz29_0
     try clear hfz29_1
     try clear hfz30_0
     try clear hfz30_1
     try clear p2
     obtain ⟨kq, x37_7, rfl, HA, HJ7, HO_200001, HO_201001, BK199, BK200, HB⟩ := hcut
     cases kq with
     | zero => exact absurd HA.out (by simp [laws_FnLendMeet.j1])
     | succ kj7 =>
      have H := HA.out
      clear HA
      simp only [laws_FnLendMeet.j1] at H
      by_cases c32 : x37_7 = true
      ·subst c32
       rw [if_pos rfl] at H
       exact absurd ((Option.some.inj H).trans hr_.out) (by decide)
      ·replace c32 := Bool.eq_false_iff.mpr c32
       subst c32
       rw [if_neg (show ¬ (false = true) by decide)] at H
       obtain ⟨t204, A330, H⟩ := ob H
       have A33 := Aside0.mk A330
       clear A330
       obtain ⟨y205, hy205⟩ : ∃ y_ : List Int, y_ = (([] : List Int)) := ⟨_, rfl⟩
       replace H : (if y205.length + t192.length < 17592186044416 then ((some (y205 ++ t192 : List Int)).bind fun y208 => ((some (([(l1.length : Int) % 2] : List Int) : List Int)).bind fun y211 => (if y208.length + y211.length < 17592186044416 then ((some (y208 ++ y211 : List Int)).bind fun y214 => ((spec_LendMeet.f kj7 t191 t192 t191 t192).bind fun t218 => (if (t204 == t218) = true then (if t204 = true then (if (y214.length : Int) > 4 then (if t201 = true then (some t204) else (some true)) else ((impl_LendMeet.f kj7 t191 t192 t191 y214).bind fun t219 => (if t219 = true then (if t201 = true then (some t204) else (some true)) else (some false)))) else (if t201 = true then (some t204) else (some true))) else (some false)))) else (none)))) else (none)) = some r := by first | (rw [hy205]; with_reducible exact H) | (have H2_ := (Option.bind_some _ _).symm.trans H; rw [hy205]; with_reducible exact H2_) | (have H2_ := (Option.bind_some _ _).symm.trans H; with_reducible exact H2_) | with_reducible exact H | (rw [hy205]; exact H) | exact H
       have Ny205 := Aside0.mk hy205
       clear hy205
       by_cases c34 : y205.length + t192.length < 17592186044416
       ·rw [if_pos c34] at H
        have LMc34 := Aside0.mk c34
        clear c34
        obtain ⟨y208, hy208⟩ : ∃ y_ : List Int, y_ = (y205 ++ t192) := ⟨_, rfl⟩
        replace H : ((some (([(l1.length : Int) % 2] : List Int) : List Int)).bind fun y211 => (if y208.length + y211.length < 17592186044416 then ((some (y208 ++ y211 : List Int)).bind fun y214 => ((spec_LendMeet.f kj7 t191 t192 t191 t192).bind fun t218 => (if (t204 == t218) = true then (if t204 = true then (if (y214.length : Int) > 4 then (if t201 = true then (some t204) else (some true)) else ((impl_LendMeet.f kj7 t191 t192 t191 y214).bind fun t219 => (if t219 = true then (if t201 = true then (some t204) else (some true)) else (some false)))) else (if t201 = true then (some t204) else (some true))) else (some false)))) else (none))) = some r := by first | (rw [hy208]; with_reducible exact H) | (have H2_ := (Option.bind_some _ _).symm.trans H; rw [hy208]; with_reducible exact H2_) | (have H2_ := (Option.bind_some _ _).symm.trans H; with_reducible exact H2_) | with_reducible exact H | (rw [hy208]; exact H) | exact H
        have Ny208 := Aside0.mk hy208
        clear hy208
        obtain ⟨y211, hy211⟩ : ∃ y_ : List Int, y_ = (([(l1.length : Int) % 2] : List Int)) := ⟨_, rfl⟩
        replace H : (if y208.length + y211.length < 17592186044416 then ((some (y208 ++ y211 : List Int)).bind fun y214 => ((spec_LendMeet.f kj7 t191 t192 t191 t192).bind fun t218 => (if (t204 == t218) = true then (if t204 = true then (if (y214.length : Int) > 4 then (if t201 = true then (some t204) else (some true)) else ((impl_LendMeet.f kj7 t191 t192 t191 y214).bind fun t219 => (if t219 = true then (if t201 = true then (some t204) else (some true)) else (some false)))) else (if t201 = true then (some t204) else (some true))) else (some false)))) else (none)) = some r := by first | (rw [hy211]; with_reducible exact H) | (have H2_ := (Option.bind_some _ _).symm.trans H; rw [hy211]; with_reducible exact H2_) | (have H2_ := (Option.bind_some _ _).symm.trans H; with_reducible exact H2_) | with_reducible exact H | (rw [hy211]; exact H) | exact H
        have Ny211 := Aside0.mk hy211
        clear hy211
        by_cases c35 : y208.length + y211.length < 17592186044416
        ·rw [if_pos c35] at H
         have LMc35 := Aside0.mk c35
         clear c35
         obtain ⟨y214, hy214⟩ : ∃ y_ : List Int, y_ = (y208 ++ y211) := ⟨_, rfl⟩
         replace H : ((spec_LendMeet.f kj7 t191 t192 t191 t192).bind fun t218 => (if (t204 == t218) = true then (if t204 = true then (if (y214.length : Int) > 4 then (if t201 = true then (some t204) else (some true)) else ((impl_LendMeet.f kj7 t191 t192 t191 y214).bind fun t219 => (if t219 = true then (if t201 = true then (some t204) else (some true)) else (some false)))) else (if t201 = true then (some t204) else (some true))) else (some false))) = some r := by first | (rw [hy214]; with_reducible exact H) | (have H2_ := (Option.bind_some _ _).symm.trans H; rw [hy214]; with_reducible exact H2_) | (have H2_ := (Option.bind_some _ _).symm.trans H; with_reducible exact H2_) | with_reducible exact H | (rw [hy214]; exact H) | exact H
         have Ny214 := Aside0.mk hy214
         clear hy214
         have HZ36 := Aside0.mk H
         clear H
         have hnb37 := NB199_200.out
         have hnc37 := NB200_199.out
         have hcz38_0 := zh BK199
         have hcz38_1 := zh1 BK199
         have hfz38_0 := zfr BK199 0
         have hfz38_1 := zfr BK199 1
         try go_wp2_with (first | ((with_reducible refine gate_callee (f := 6) rfl ?_); refine goesL_ (some 40) rfl rfl Try.func6 (by kernel_rfl) rfl #[.agg #[.string t191, .slice Ao14 t192.length co14], .agg #[.string t191, .slice Ao14 t192.length co14]] rfl y9 ?_; (with_reducible refine (impl_LendMeet.calls kj7 t191 _ _ t192 t191 _ _ t192 t204 _ ?side1 ?side2 ?side3 ?side4 A33.out).mono ?_); (case side1 => exact y15 HO_200001.out); (case side2 => exact (Kd.R_reads' HO_200001.out).2.1); (case side3 => exact y15 HO_200001.out); (case side4 => exact (Kd.R_reads' HO_200001.out).2.1); rintro e w39 ⟨rfl, hb⟩; refine ⟨_, rfl, ?_⟩; replace HO_200001 := Aside0.mk (Kd.R_below (y0 HO_200001.out) hb); replace HO_201001 := Aside0.mk (Kd.R_below (y0 HO_201001.out) hb); replace BK199 := zbb BK199 hb; replace BK200 := zbb BK200 hb; replace HB := Aside0.mk (below_step (y1 HB.out GE199.out GE200.out) hb); (try clear hb); (try clear hb2); (try clear hk); (try clear hi)))
         replace HO_200001 := Aside0.mk (Kd.R_drew HO_200001.out)
         replace HO_201001 := Aside0.mk (Kd.R_drew HO_201001.out)
         replace BK199 := Aside0.mk (blk_drew BK199.out)
         replace BK200 := Aside0.mk (blk_drew BK200.out)
         replace HB := Aside0.mk (below_drew1 HB.out)
         refine start_ (n := 14) (S := fun w' => w'.cell? ⟨gb199, 0, none⟩ = some (.string t191) ∧ w'.cell? ⟨gb199, 1, none⟩ = some (.slice Ao14 t192.length co14)) (ds := []) #[false, false, false, false, false, false, false, false, false, false, false, false, false, false] (by kernel_rfl) rfl rfl ⟨(blk_cell BK199.out 0).trans rfl, (blk_cell BK199.out 1).trans rfl⟩ (fun hHeld => ?_); refine with_tabW laws_FnLendMeet.tab8 laws_FnLendMeet.bits8 (fun HT_ HW_ => ?_)
         generalize w39.drew = w40 at HO_200001 HO_201001 BK199 BK200 HB hHeld ⊢
         refine zp 0 (some 41) HT_ ?_
         refine zp 3 (some 44) HT_ ?_
         refine zp 6 (some 47) HT_ ?_
         refine zp 7 (some 48) HT_ ?_
         refine zp 8 (some 49) HT_ ?_
         refine zt2 1 (some 42) HT_ HW_ hHeld ?_
         refine zt2 4 (some 45) HT_ HW_ hHeld ?_
         refine join_ (σ := Value × Value × Value × Value × Nat) 1 #[true, true, true, true, true, true, true, true, true, true, true, true, true, false] (fun s_ => [(43, s_.1), (46, s_.2.1), (50, s_.2.2.1), (51, s_.2.2.2.1), (9, .pointer (some ⟨s_.2.2.2.2, 0, none⟩)), (52, .agg #[.string t191, s_.2.2.2.1])]) (fun s_ w' => (w'.cell? ⟨gb199, 0, none⟩ = some (.string t191) ∧ w'.cell? ⟨gb199, 1, none⟩ = some (.slice Ao14 t192.length co14)) ∧ (Kd.R (Kd.int .i64) 3 w' w.heap.size (fun k_ => some k_ ≠ (s_.2.2.2.1 : Value).ownBlock ∧ some k_ ≠ (.slice Ao14 t192.length co14 : Value).ownBlock ∧ some k_ ≠ (.slice Ao16 t196.length co16 : Value).ownBlock) s_.2.2.1 y211) ∧ (Kd.R (Kd.int .i64) 3 w' w.heap.size (fun k_ => some k_ ≠ (s_.2.2.1 : Value).ownBlock ∧ some k_ ≠ (.slice Ao14 t192.length co14 : Value).ownBlock ∧ some k_ ≠ (.slice Ao16 t196.length co16 : Value).ownBlock) s_.2.2.2.1 y214) ∧ (Kd.R (Kd.int .i64) 3 w' w.heap.size (fun k_ => some k_ ≠ (s_.2.2.1 : Value).ownBlock ∧ some k_ ≠ (s_.2.2.2.1 : Value).ownBlock ∧ some k_ ≠ (.slice Ao16 t196.length co16 : Value).ownBlock) (.slice Ao14 t192.length co14) t192) ∧ (Kd.R (Kd.int .i64) 3 w' w.heap.size (fun k_ => some k_ ≠ (s_.2.2.1 : Value).ownBlock ∧ some k_ ≠ (s_.2.2.2.1 : Value).ownBlock ∧ some k_ ≠ (.slice Ao14 t192.length co14 : Value).ownBlock) (.slice Ao16 t196.length co16) t196) ∧ (w'.heap[gb199]? = some (.cells #[.string t191, .slice Ao14 t192.length co14] 25 (0, 0))) ∧ (w'.heap[gb200]? = some (.cells #[.string t195, .slice Ao16 t196.length co16] 25 (0, 0))) ∧ (w'.heap[s_.2.2.2.2]? = some (.cells #[.string (⟨#[]⟩ : ByteArray), .slice none 0 0] 25 (0, 0))) ∧ (w.heap.size ≤ s_.2.2.2.2) ∧ (w.heap.size ≤ s_.2.2.2.2) ∧ (gb199 ≠ s_.2.2.2.2) ∧ (s_.2.2.2.2 ≠ gb199) ∧ (gb200 ≠ s_.2.2.2.2) ∧ (s_.2.2.2.2 ≠ gb200) ∧ (Below w.heap.size w w')) ?_ ?_
         rotate_left
         ·intro hJ2_5_9_10_12
          refine join_ (σ := Value × Value × Value × Value) 2 #[true, true, true, true, true, true, true, true, true, true, true, true, false, false] (fun s_ => [(43, s_.1), (46, s_.2.1), (50, s_.2.2.1), (51, s_.2.2.2), (52, .agg #[.string t191, s_.2.2.2])]) (fun s_ w' => (w'.cell? ⟨gb199, 0, none⟩ = some (.string t191) ∧ w'.cell? ⟨gb199, 1, none⟩ = some (.slice Ao14 t192.length co14)) ∧ (Kd.R (Kd.int .i64) 3 w' w.heap.size (fun k_ => some k_ ≠ (s_.2.2.2 : Value).ownBlock ∧ some k_ ≠ (.slice Ao14 t192.length co14 : Value).ownBlock ∧ some k_ ≠ (.slice Ao16 t196.length co16 : Value).ownBlock) s_.2.2.1 y211) ∧ (Kd.R (Kd.int .i64) 3 w' w.heap.size (fun k_ => some k_ ≠ (s_.2.2.1 : Value).ownBlock ∧ some k_ ≠ (.slice Ao14 t192.length co14 : Value).ownBlock ∧ some k_ ≠ (.slice Ao16 t196.length co16 : Value).ownBlock) s_.2.2.2 y214) ∧ (Kd.R (Kd.int .i64) 3 w' w.heap.size (fun k_ => some k_ ≠ (s_.2.2.1 : Value).ownBlock ∧ some k_ ≠ (s_.2.2.2 : Value).ownBlock ∧ some k_ ≠ (.slice Ao16 t196.length co16 : Value).ownBlock) (.slice Ao14 t192.length co14) t192) ∧ (Kd.R (Kd.int .i64) 3 w' w.heap.size (fun k_ => some k_ ≠ (s_.2.2.1 : Value).ownBlock ∧ some k_ ≠ (s_.2.2.2 : Value).ownBlock ∧ some k_ ≠ (.slice Ao14 t192.length co14 : Value).ownBlock) (.slice Ao16 t196.length co16) t196) ∧ (w'.heap[gb199]? = some (.cells #[.string t191, .slice Ao14 t192.length co14] 25 (0, 0))) ∧ (w'.heap[gb200]? = some (.cells #[.string t195, .slice Ao16 t196.length co16] 25 (0, 0))) ∧ (Below w.heap.size w w')) ?_ ?_
          rotate_left
          ·intro hJ2_5_9_10
           refine join_ (σ := Value × Value × Value × Nat) 3 #[true, true, true, true, true, true, true, true, true, true, false, false, true, false] (fun s_ => [(43, s_.1), (46, s_.2.1), (50, s_.2.2.1), (9, .pointer (some ⟨s_.2.2.2, 0, none⟩))]) (fun s_ w' => (w'.cell? ⟨gb199, 0, none⟩ = some (.string t191) ∧ w'.cell? ⟨gb199, 1, none⟩ = some (.slice Ao14 t192.length co14)) ∧ (Kd.R (Kd.int .i64) 3 w' w.heap.size (fun k_ => some k_ ≠ (s_.2.2.1 : Value).ownBlock ∧ some k_ ≠ (.slice Ao14 t192.length co14 : Value).ownBlock ∧ some k_ ≠ (.slice Ao16 t196.length co16 : Value).ownBlock) s_.2.1 y208) ∧ (Kd.R (Kd.int .i64) 3 w' w.heap.size (fun k_ => some k_ ≠ (s_.2.1 : Value).ownBlock ∧ some k_ ≠ (.slice Ao14 t192.length co14 : Value).ownBlock ∧ some k_ ≠ (.slice Ao16 t196.length co16 : Value).ownBlock) s_.2.2.1 y211) ∧ (Kd.R (Kd.int .i64) 3 w' w.heap.size (fun k_ => some k_ ≠ (s_.2.1 : Value).ownBlock ∧ some k_ ≠ (s_.2.2.1 : Value).ownBlock ∧ some k_ ≠ (.slice Ao16 t196.length co16 : Value).ownBlock) (.slice Ao14 t192.length co14) t192) ∧ (Kd.R (Kd.int .i64) 3 w' w.heap.size (fun k_ => some k_ ≠ (s_.2.1 : Value).ownBlock ∧ some k_ ≠ (s_.2.2.1 : Value).ownBlock ∧ some k_ ≠ (.slice Ao14 t192.length co14 : Value).ownBlock) (.slice Ao16 t196.length co16) t196) ∧ (w'.heap[gb199]? = some (.cells #[.string t191, .slice Ao14 t192.length co14] 25 (0, 0))) ∧ (w'.heap[gb200]? = some (.cells #[.string t195, .slice Ao16 t196.length co16] 25 (0, 0))) ∧ (w'.heap[s_.2.2.2]? = some (.cells #[.string (⟨#[]⟩ : ByteArray), .slice none 0 0] 25 (0, 0))) ∧ (w.heap.size ≤ s_.2.2.2) ∧ (w.heap.size ≤ s_.2.2.2) ∧ (gb199 ≠ s_.2.2.2) ∧ (s_.2.2.2 ≠ gb199) ∧ (gb200 ≠ s_.2.2.2) ∧ (s_.2.2.2 ≠ gb200) ∧ (Below w.heap.size w w')) ?_ ?_
           rotate_left
           ·intro hJ2_5_9_12
            refine join_ (σ := Value × Value × Value) 4 #[true, true, true, true, true, true, true, true, true, true, false, false, false, false] (fun s_ => [(43, s_.1), (46, s_.2.1), (50, s_.2.2)]) (fun s_ w' => (w'.cell? ⟨gb199, 0, none⟩ = some (.string t191) ∧ w'.cell? ⟨gb199, 1, none⟩ = some (.slice Ao14 t192.length co14)) ∧ (Kd.R (Kd.int .i64) 3 w' w.heap.size (fun k_ => some k_ ≠ (s_.2.2 : Value).ownBlock ∧ some k_ ≠ (.slice Ao14 t192.length co14 : Value).ownBlock ∧ some k_ ≠ (.slice Ao16 t196.length co16 : Value).ownBlock) s_.2.1 y208) ∧ (Kd.R (Kd.int .i64) 3 w' w.heap.size (fun k_ => some k_ ≠ (s_.2.1 : Value).ownBlock ∧ some k_ ≠ (.slice Ao14 t192.length co14 : Value).ownBlock ∧ some k_ ≠ (.slice Ao16 t196.length co16 : Value).ownBlock) s_.2.2 y211) ∧ (Kd.R (Kd.int .i64) 3 w' w.heap.size (fun k_ => some k_ ≠ (s_.2.1 : Value).ownBlock ∧ some k_ ≠ (s_.2.2 : Value).ownBlock ∧ some k_ ≠ (.slice Ao16 t196.length co16 : Value).ownBlock) (.slice Ao14 t192.length co14) t192) ∧ (Kd.R (Kd.int .i64) 3 w' w.heap.size (fun k_ => some k_ ≠ (s_.2.1 : Value).ownBlock ∧ some k_ ≠ (s_.2.2 : Value).ownBlock ∧ some k_ ≠ (.slice Ao14 t192.length co14 : Value).ownBlock) (.slice Ao16 t196.length co16) t196) ∧ (w'.heap[gb199]? = some (.cells #[.string t191, .slice Ao14 t192.length co14] 25 (0, 0))) ∧ (w'.heap[gb200]? = some (.cells #[.string t195, .slice Ao16 t196.length co16] 25 (0, 0))) ∧ (Below w.heap.size w w')) ?_ ?_
            rotate_left
            ·intro hJ2_5_9
             refine join_ (σ := Value × Value × Nat) 4 #[true, true, true, true, true, true, true, true, true, false, false, false, true, false] (fun s_ => [(43, s_.1), (46, s_.2.1), (9, .pointer (some ⟨s_.2.2, 0, none⟩))]) (fun s_ w' => (w'.cell? ⟨gb199, 0, none⟩ = some (.string t191) ∧ w'.cell? ⟨gb199, 1, none⟩ = some (.slice Ao14 t192.length co14)) ∧ (Kd.R (Kd.int .i64) 3 w' w.heap.size (fun k_ => some k_ ≠ (.slice Ao14 t192.length co14 : Value).ownBlock ∧ some k_ ≠ (.slice Ao16 t196.length co16 : Value).ownBlock) s_.2.1 y208) ∧ (Kd.R (Kd.int .i64) 3 w' w.heap.size (fun k_ => some k_ ≠ (s_.2.1 : Value).ownBlock ∧ some k_ ≠ (.slice Ao16 t196.length co16 : Value).ownBlock) (.slice Ao14 t192.length co14) t192) ∧ (Kd.R (Kd.int .i64) 3 w' w.heap.size (fun k_ => some k_ ≠ (s_.2.1 : Value).ownBlock ∧ some k_ ≠ (.slice Ao14 t192.length co14 : Value).ownBlock) (.slice Ao16 t196.length co16) t196) ∧ (w'.heap[gb199]? = some (.cells #[.string t191, .slice Ao14 t192.length co14] 25 (0, 0))) ∧ (w'.heap[gb200]? = some (.cells #[.string t195, .slice Ao16 t196.length co16] 25 (0, 0))) ∧ (w'.heap[s_.2.2]? = some (.cells #[.string (⟨#[]⟩ : ByteArray), .slice none 0 0] 25 (0, 0))) ∧ (w.heap.size ≤ s_.2.2) ∧ (w.heap.size ≤ s_.2.2) ∧ (gb199 ≠ s_.2.2) ∧ (s_.2.2 ≠ gb199) ∧ (gb200 ≠ s_.2.2) ∧ (s_.2.2 ≠ gb200) ∧ (Below w.heap.size w w')) ?_ ?_
             rotate_left
             ·intro hJ2_5_12
              refine join_ (σ := Value × Value × Nat) 4 #[true, true, true, true, true, false, true, true, true, true, false, false, true, false] (fun s_ => [(43, s_.1), (50, s_.2.1), (9, .pointer (some ⟨s_.2.2, 0, none⟩))]) (fun s_ w' => (w'.cell? ⟨gb199, 0, none⟩ = some (.string t191) ∧ w'.cell? ⟨gb199, 1, none⟩ = some (.slice Ao14 t192.length co14)) ∧ (Kd.R (Kd.int .i64) 3 w' w.heap.size (fun k_ => some k_ ≠ (s_.2.1 : Value).ownBlock ∧ some k_ ≠ (.slice Ao14 t192.length co14 : Value).ownBlock ∧ some k_ ≠ (.slice Ao16 t196.length co16 : Value).ownBlock) s_.1 y205) ∧ (Kd.R (Kd.int .i64) 3 w' w.heap.size (fun k_ => some k_ ≠ (s_.1 : Value).ownBlock ∧ some k_ ≠ (.slice Ao14 t192.length co14 : Value).ownBlock ∧ some k_ ≠ (.slice Ao16 t196.length co16 : Value).ownBlock) s_.2.1 y211) ∧ (Kd.R (Kd.int .i64) 3 w' w.heap.size (fun k_ => some k_ ≠ (s_.1 : Value).ownBlock ∧ some k_ ≠ (s_.2.1 : Value).ownBlock ∧ some k_ ≠ (.slice Ao16 t196.length co16 : Value).ownBlock) (.slice Ao14 t192.length co14) t192) ∧ (Kd.R (Kd.int .i64) 3 w' w.heap.size (fun k_ => some k_ ≠ (s_.1 : Value).ownBlock ∧ some k_ ≠ (s_.2.1 : Value).ownBlock ∧ some k_ ≠ (.slice Ao14 t192.length co14 : Value).ownBlock) (.slice Ao16 t196.length co16) t196) ∧ (w'.heap[gb199]? = some (.cells #[.string t191, .slice Ao14 t192.length co14] 25 (0, 0))) ∧ (w'.heap[gb200]? = some (.cells #[.string t195, .slice Ao16 t196.length co16] 25 (0, 0))) ∧ (w'.heap[s_.2.2]? = some (.cells #[.string (⟨#[]⟩ : ByteArray), .slice none 0 0] 25 (0, 0))) ∧ (w.heap.size ≤ s_.2.2) ∧ (w.heap.size ≤ s_.2.2) ∧ (gb199 ≠ s_.2.2) ∧ (s_.2.2 ≠ gb199) ∧ (gb200 ≠ s_.2.2) ∧ (s_.2.2 ≠ gb200) ∧ (Below w.heap.size w w')) ?_ ?_
              rotate_left
              ·intro hJ2_9_12
               refine join_ (σ := Value × Value) 5 #[true, true, true, true, true, true, true, true, true, false, false, false, false, false] (fun s_ => [(43, s_.1), (46, s_.2)]) (fun s_ w' => (w'.cell? ⟨gb199, 0, none⟩ = some (.string t191) ∧ w'.cell? ⟨gb199, 1, none⟩ = some (.slice Ao14 t192.length co14)) ∧ (Kd.R (Kd.int .i64) 3 w' w.heap.size (fun k_ => some k_ ≠ (.slice Ao14 t192.length co14 : Value).ownBlock ∧ some k_ ≠ (.slice Ao16 t196.length co16 : Value).ownBlock) s_.2 y208) ∧ (Kd.R (Kd.int .i64) 3 w' w.heap.size (fun k_ => some k_ ≠ (s_.2 : Value).ownBlock ∧ some k_ ≠ (.slice Ao16 t196.length co16 : Value).ownBlock) (.slice Ao14 t192.length co14) t192) ∧ (Kd.R (Kd.int .i64) 3 w' w.heap.size (fun k_ => some k_ ≠ (s_.2 : Value).ownBlock ∧ some k_ ≠ (.slice Ao14 t192.length co14 : Value).ownBlock) (.slice Ao16 t196.length co16) t196) ∧ (w'.heap[gb199]? = some (.cells #[.string t191, .slice Ao14 t192.length co14] 25 (0, 0))) ∧ (w'.heap[gb200]? = some (.cells #[.string t195, .slice Ao16 t196.length co16] 25 (0, 0))) ∧ (Below w.heap.size w w')) ?_ ?_
               rotate_left
               ·intro hJ2_5
                refine join_ (σ := Value × Value) 5 #[true, true, true, true, true, false, true, true, true, true, false, false, false, false] (fun s_ => [(43, s_.1), (50, s_.2)]) (fun s_ w' => (w'.cell? ⟨gb199, 0, none⟩ = some (.string t191) ∧ w'.cell? ⟨gb199, 1, none⟩ = some (.slice Ao14 t192.length co14)) ∧ (Kd.R (Kd.int .i64) 3 w' w.heap.size (fun k_ => some k_ ≠ (s_.2 : Value).ownBlock ∧ some k_ ≠ (.slice Ao14 t192.length co14 : Value).ownBlock ∧ some k_ ≠ (.slice Ao16 t196.length co16 : Value).ownBlock) s_.1 y205) ∧ (Kd.R (Kd.int .i64) 3 w' w.heap.size (fun k_ => some k_ ≠ (s_.1 : Value).ownBlock ∧ some k_ ≠ (.slice Ao14 t192.length co14 : Value).ownBlock ∧ some k_ ≠ (.slice Ao16 t196.length co16 : Value).ownBlock) s_.2 y211) ∧ (Kd.R (Kd.int .i64) 3 w' w.heap.size (fun k_ => some k_ ≠ (s_.1 : Value).ownBlock ∧ some k_ ≠ (s_.2 : Value).ownBlock ∧ some k_ ≠ (.slice Ao16 t196.length co16 : Value).ownBlock) (.slice Ao14 t192.length co14) t192) ∧ (Kd.R (Kd.int .i64) 3 w' w.heap.size (fun k_ => some k_ ≠ (s_.1 : Value).ownBlock ∧ some k_ ≠ (s_.2 : Value).ownBlock ∧ some k_ ≠ (.slice Ao14 t192.length co14 : Value).ownBlock) (.slice Ao16 t196.length co16) t196) ∧ (w'.heap[gb199]? = some (.cells #[.string t191, .slice Ao14 t192.length co14] 25 (0, 0))) ∧ (w'.heap[gb200]? = some (.cells #[.string t195, .slice Ao16 t196.length co16] 25 (0, 0))) ∧ (Below w.heap.size w w')) ?_ ?_
                rotate_left
                ·intro hJ2_9
                 refine join_ (σ := Value × Nat) 5 #[true, true, true, true, true, false, true, true, true, false, false, false, true, false] (fun s_ => [(43, s_.1), (9, .pointer (some ⟨s_.2, 0, none⟩))]) (fun s_ w' => (w'.cell? ⟨gb199, 0, none⟩ = some (.string t191) ∧ w'.cell? ⟨gb199, 1, none⟩ = some (.slice Ao14 t192.length co14)) ∧ (Kd.R (Kd.int .i64) 3 w' w.heap.size (fun k_ => some k_ ≠ (.slice Ao14 t192.length co14 : Value).ownBlock ∧ some k_ ≠ (.slice Ao16 t196.length co16 : Value).ownBlock) s_.1 y205) ∧ (Kd.R (Kd.int .i64) 3 w' w.heap.size (fun k_ => some k_ ≠ (s_.1 : Value).ownBlock ∧ some k_ ≠ (.slice Ao16 t196.length co16 : Value).ownBlock) (.slice Ao14 t192.length co14) t192) ∧ (Kd.R (Kd.int .i64) 3 w' w.heap.size (fun k_ => some k_ ≠ (s_.1 : Value).ownBlock ∧ some k_ ≠ (.slice Ao14 t192.length co14 : Value).ownBlock) (.slice Ao16 t196.length co16) t196) ∧ (w'.heap[gb199]? = some (.cells #[.string t191, .slice Ao14 t192.length co14] 25 (0, 0))) ∧ (w'.heap[gb200]? = some (.cells #[.string t195, .slice Ao16 t196.length co16] 25 (0, 0))) ∧ (w'.heap[s_.2]? = some (.cells #[.string (⟨#[]⟩ : ByteArray), .slice none 0 0] 25 (0, 0))) ∧ (w.heap.size ≤ s_.2) ∧ (w.heap.size ≤ s_.2) ∧ (gb199 ≠ s_.2) ∧ (s_.2 ≠ gb199) ∧ (gb200 ≠ s_.2) ∧ (s_.2 ≠ gb200) ∧ (Below w.heap.size w w')) ?_ ?_
                 rotate_left
                 ·intro hJ2_12
                  refine join_ (σ := Value × Nat) 5 #[true, true, false, true, true, false, true, true, true, true, false, false, true, false] (fun s_ => [(50, s_.1), (9, .pointer (some ⟨s_.2, 0, none⟩))]) (fun s_ w' => (w'.cell? ⟨gb199, 0, none⟩ = some (.string t191) ∧ w'.cell? ⟨gb199, 1, none⟩ = some (.slice Ao14 t192.length co14)) ∧ (Kd.R (Kd.int .i64) 3 w' w.heap.size (fun k_ => some k_ ≠ (.slice Ao14 t192.length co14 : Value).ownBlock ∧ some k_ ≠ (.slice Ao16 t196.length co16 : Value).ownBlock) s_.1 y211) ∧ (Kd.R (Kd.int .i64) 3 w' w.heap.size (fun k_ => some k_ ≠ (s_.1 : Value).ownBlock ∧ some k_ ≠ (.slice Ao16 t196.length co16 : Value).ownBlock) (.slice Ao14 t192.length co14) t192) ∧ (Kd.R (Kd.int .i64) 3 w' w.heap.size (fun k_ => some k_ ≠ (s_.1 : Value).ownBlock ∧ some k_ ≠ (.slice Ao14 t192.length co14 : Value).ownBlock) (.slice Ao16 t196.length co16) t196) ∧ (w'.heap[gb199]? = some (.cells #[.string t191, .slice Ao14 t192.length co14] 25 (0, 0))) ∧ (w'.heap[gb200]? = some (.cells #[.string t195, .slice Ao16 t196.length co16] 25 (0, 0))) ∧ (w'.heap[s_.2]? = some (.cells #[.string (⟨#[]⟩ : ByteArray), .slice none 0 0] 25 (0, 0))) ∧ (w.heap.size ≤ s_.2) ∧ (w.heap.size ≤ s_.2) ∧ (gb199 ≠ s_.2) ∧ (s_.2 ≠ gb199) ∧ (gb200 ≠ s_.2) ∧ (s_.2 ≠ gb200) ∧ (Below w.heap.size w w')) ?_ ?_
                  rotate_left
                  ·intro hJ9_12
                   refine join_ (σ := Value) 6 #[true, true, true, true, true, false, true, true, true, false, false, false, false, false] (fun s_ => [(43, s_)]) (fun s_ w' => (w'.cell? ⟨gb199, 0, none⟩ = some (.string t191) ∧ w'.cell? ⟨gb199, 1, none⟩ = some (.slice Ao14 t192.length co14)) ∧ (Kd.R (Kd.int .i64) 3 w' w.heap.size (fun k_ => some k_ ≠ (.slice Ao14 t192.length co14 : Value).ownBlock ∧ some k_ ≠ (.slice Ao16 t196.length co16 : Value).ownBlock) s_ y205) ∧ (Kd.R (Kd.int .i64) 3 w' w.heap.size (fun k_ => some k_ ≠ (s_ : Value).ownBlock ∧ some k_ ≠ (.slice Ao16 t196.length co16 : Value).ownBlock) (.slice Ao14 t192.length co14) t192) ∧ (Kd.R (Kd.int .i64) 3 w' w.heap.size (fun k_ => some k_ ≠ (s_ : Value).ownBlock ∧ some k_ ≠ (.slice Ao14 t192.length co14 : Value).ownBlock) (.slice Ao16 t196.length co16) t196) ∧ (w'.heap[gb199]? = some (.cells #[.string t191, .slice Ao14 t192.length co14] 25 (0, 0))) ∧ (w'.heap[gb200]? = some (.cells #[.string t195, .slice Ao16 t196.length co16] 25 (0, 0))) ∧ (Below w.heap.size w w')) ?_ ?_
                   rotate_left
                   ·intro hJ2
                    refine join_ (σ := Value) 6 #[true, true, false, true, true, false, true, true, true, true, false, false, false, false] (fun s_ => [(50, s_)]) (fun s_ w' => (w'.cell? ⟨gb199, 0, none⟩ = some (.string t191) ∧ w'.cell? ⟨gb199, 1, none⟩ = some (.slice Ao14 t192.length co14)) ∧ (Kd.R (Kd.int .i64) 3 w' w.heap.size (fun k_ => some k_ ≠ (.slice Ao14 t192.length co14 : Value).ownBlock ∧ some k_ ≠ (.slice Ao16 t196.length co16 : Value).ownBlock) s_ y211) ∧ (Kd.R (Kd.int .i64) 3 w' w.heap.size (fun k_ => some k_ ≠ (s_ : Value).ownBlock ∧ some k_ ≠ (.slice Ao16 t196.length co16 : Value).ownBlock) (.slice Ao14 t192.length co14) t192) ∧ (Kd.R (Kd.int .i64) 3 w' w.heap.size (fun k_ => some k_ ≠ (s_ : Value).ownBlock ∧ some k_ ≠ (.slice Ao14 t192.length co14 : Value).ownBlock) (.slice Ao16 t196.length co16) t196) ∧ (w'.heap[gb199]? = some (.cells #[.string t191, .slice Ao14 t192.length co14] 25 (0, 0))) ∧ (w'.heap[gb200]? = some (.cells #[.string t195, .slice Ao16 t196.length co16] 25 (0, 0))) ∧ (Below w.heap.size w w')) ?_ ?_
                    rotate_left
                    ·intro hJ9
                     refine join_ (σ := Nat) 6 #[true, true, false, true, true, false, true, true, true, false, false, false, true, false] (fun s_ => [(9, .pointer (some ⟨s_, 0, none⟩))]) (fun s_ w' => (w'.cell? ⟨gb199, 0, none⟩ = some (.string t191) ∧ w'.cell? ⟨gb199, 1, none⟩ = some (.slice Ao14 t192.length co14)) ∧ (Kd.R (Kd.int .i64) 3 w' w.heap.size (fun k_ => some k_ ≠ (.slice Ao16 t196.length co16 : Value).ownBlock) (.slice Ao14 t192.length co14) t192) ∧ (Kd.R (Kd.int .i64) 3 w' w.heap.size (fun k_ => some k_ ≠ (.slice Ao14 t192.length co14 : Value).ownBlock) (.slice Ao16 t196.length co16) t196) ∧ (w'.heap[gb199]? = some (.cells #[.string t191, .slice Ao14 t192.length co14] 25 (0, 0))) ∧ (w'.heap[gb200]? = some (.cells #[.string t195, .slice Ao16 t196.length co16] 25 (0, 0))) ∧ (w'.heap[s_]? = some (.cells #[.string (⟨#[]⟩ : ByteArray), .slice none 0 0] 25 (0, 0))) ∧ (w.heap.size ≤ s_) ∧ (w.heap.size ≤ s_) ∧ (gb199 ≠ s_) ∧ (s_ ≠ gb199) ∧ (gb200 ≠ s_) ∧ (s_ ≠ gb200) ∧ (Below w.heap.size w w')) ?_ ?_
                     rotate_left
                     ·intro hJ12
                      refine three_ (i := 2) (j := 9) (k := 12) (Ni := some 43) (Nj := some 50) (Nk := some 9) #[true, true, true, true, true, false, true, true, true, false, false, false, false, false] #[true, true, false, true, true, false, true, true, true, true, false, false, false, false] #[true, true, false, true, true, false, true, true, true, false, false, false, true, false] rfl rfl rfl rfl rfl rfl (three_of HT_.out (by kernel_rfl)) (by decide) (by decide) (by decide) (fun K hK => ?_) (fun K hK => ?_) (fun K hK => ?_)
                      ·skip
                       refine Kd.R_lit_step (Kd.int .i64) _ 3 ?hg (N := 43) ?hd (xs := ([] : List Int)) (inner := []) (ok := fun _ => True) (okp := fun _ => True) ?hr ?hp (fun _ hk => hk) trivial (Below.refl _ _) (Nat.le_refl _) (by simp) ?_; (case hd => rfl); (case hg => rfl); (case hr => first | (go_simp; done) | (go_simp; rfl)); (case hp => exact (Reps.none _ _))
                       intro v206 w41 ho42 hb hg_ hnew_
                       clear hg_ hnew_
                       (first | rw [← Ny205.out] at ho42 | (simp only [Int.reduceToNat] at ho42; rw [← Ny205.out] at ho42))
                       have HO207 := Aside0.mk (Kd.R_lower (Kd.R_new' (Kd.R_new' ho42 (Kd.R_lt (y0 HO_200001.out))) (Kd.R_lt (y0 HO_201001.out))) (below_size (y1 HB.out GE199.out GE200.out)))
                       replace HO_200001 := Aside0.mk (Kd.R_elder' (y0 HO_200001.out) (Kd.R_base ho42) hb)
                       replace HO_201001 := Aside0.mk (Kd.R_elder' (y0 HO_201001.out) (Kd.R_base ho42) hb)
                       replace BK199 := zbb BK199 hb
                       replace BK200 := zbb BK200 hb
                       replace HB := Aside0.mk (below_step (y1 HB.out GE199.out GE200.out) hb)
                       clear hb ho42
                       refine hK.out _ _ ⟨(blk_cell BK199.out 0).trans rfl, (blk_cell BK199.out 1).trans rfl⟩ (fun hHeld => ?_)
                       clear hK K
                       refine norm_ (a' := ?_) ?_ ?_
                       rotate_left
                       ·show Act.put _ (some 43) _ = _
                        simp only [Act.put, List.setIfInBounds_toArray, List.set_cons_zero, List.set_cons_succ, i64_w, i32_w]
                        rfl
                       exact norm_ y11 (hJ2 (v206) _ ⟨hHeld, (y47 HO207.out), (y20 HO_200001.out), (y20 HO_201001.out), (y2 BK199.out), (y2 BK200.out), (y1 HB.out GE199.out GE200.out)⟩)
                      ·skip
                       refine Kd.R_lit_step (Kd.int .i64) _ 3 ?hg (N := 50) ?hd (xs := ([(l1.length : Int) % 2] : List Int)) (inner := [.int .i64 ((l1.length : Int) % 2)]) (ok := fun _ => True) (okp := fun _ => True) ?hr ?hp (fun _ hk => hk) trivial (Below.refl _ _) (Nat.le_refl _) (by simp) ?_; (case hd => rfl); (case hg => rfl); (case hr => first | (go_simp; done) | (go_simp; rfl)); (case hp => exact (Reps.one (show Kd.M (Kd.int .i64) _ _ _ ((l1.length : Int) % 2) [.int .i64 ((l1.length : Int) % 2)] from rfl) (Reps.none _ _)))
                       intro v212 w41 ho42 hb hg_ hnew_
                       clear hg_ hnew_
                       (first | rw [← Ny211.out] at ho42 | (simp only [Int.reduceToNat] at ho42; rw [← Ny211.out] at ho42))
                       have HO213 := Aside0.mk (Kd.R_lower (Kd.R_new' (Kd.R_new' ho42 (Kd.R_lt (y0 HO_200001.out))) (Kd.R_lt (y0 HO_201001.out))) (below_size (y1 HB.out GE199.out GE200.out)))
                       replace HO_200001 := Aside0.mk (Kd.R_elder' (y0 HO_200001.out) (Kd.R_base ho42) hb)
                       replace HO_201001 := Aside0.mk (Kd.R_elder' (y0 HO_201001.out) (Kd.R_base ho42) hb)
                       replace BK199 := zbb BK199 hb
                       replace BK200 := zbb BK200 hb
                       replace HB := Aside0.mk (below_step (y1 HB.out GE199.out GE200.out) hb)
                       clear hb ho42
                       refine hK.out _ _ ⟨(blk_cell BK199.out 0).trans rfl, (blk_cell BK199.out 1).trans rfl⟩ (fun hHeld => ?_)
                       clear hK K
                       refine norm_ (a' := ?_) ?_ ?_
                       rotate_left
                       ·show Act.put _ (some 50) _ = _
                        simp only [Act.put, List.setIfInBounds_toArray, List.set_cons_zero, List.set_cons_succ, i64_w, i32_w]
                        rfl
                       exact norm_ y11 (hJ9 (v212) _ ⟨hHeld, (y47 HO213.out), (y20 HO_200001.out), (y20 HO_201001.out), (y2 BK199.out), (y2 BK200.out), (y1 HB.out GE199.out GE200.out)⟩)
                      ·skip
                       refine box_step ?hg (N := 9) ?hd (cs := #[.string (⟨#[]⟩ : ByteArray), .slice none 0 0]) (t := 25) ?hr ?_; (case hd => rfl); (case hg => rfl); (case hr => first | (go_simp; done) | (go_simp; rfl))
                       intro gb217 hg w41 hbox hb
                       replace HO_200001 := Aside0.mk (Kd.R_below (y0 HO_200001.out) hb)
                       replace HO_201001 := Aside0.mk (Kd.R_below (y0 HO_201001.out) hb)
                       have BK217 := Aside0.mk hbox
                       have GW217 := Aside0.mk ((y18 hg HB.out GE199.out GE200.out : w.heap.size ≤ gb217))
                       have GE217 := Aside0.mk ((y18 hg HB.out GE199.out GE200.out : w.heap.size ≤ gb217))
                       replace HB := Aside0.mk (below_step (y1 HB.out GE199.out GE200.out) hb)
                       have NB199_217 := zltn hg BK199
                       have NB217_199 := zgtn hg BK199
                       replace BK199 := zbb BK199 hb
                       have NB200_217 := zltn hg BK200
                       have NB217_200 := zgtn hg BK200
                       replace BK200 := zbb BK200 hb
                       clear hb hbox hg
                       refine hK.out _ _ ⟨(blk_cell BK199.out 0).trans rfl, (blk_cell BK199.out 1).trans rfl⟩ (fun hHeld => ?_)
                       clear hK K
                       refine norm_ (a' := ?_) ?_ ?_
                       rotate_left
                       ·show Act.put _ (some 9) _ = _
                        simp only [Act.put, List.setIfInBounds_toArray, List.set_cons_zero, List.set_cons_succ, i64_w, i32_w]
                        rfl
                       exact norm_ y11 (hJ12 (gb217) _ ⟨hHeld, (y0 HO_200001.out), (y0 HO_201001.out), (y2 BK199.out), (y2 BK200.out), (y2 BK217.out), GW217.out, GE217.out, NB199_217.out, NB217_199.out, NB200_217.out, NB217_200.out, (y5 HB.out GE199.out GE200.out GE217.out)⟩)
                     ·skip
                      rintro gb217 w42 ⟨hS_, h0_, h1_, h2_, h3_, h4_, h5_, h6_, h7_, h8_, h9_, h10_, h11_⟩
                      have n0_ : Aside0 (Kd.R (Kd.int .i64) 3 w42 w.heap.size (fun k_ => some k_ ≠ (.slice Ao16 t196.length co16 : Value).ownBlock) (.slice Ao14 t192.length co14) t192) := ⟨h0_⟩
                      have n1_ : Aside0 (Kd.R (Kd.int .i64) 3 w42 w.heap.size (fun k_ => some k_ ≠ (.slice Ao14 t192.length co14 : Value).ownBlock) (.slice Ao16 t196.length co16) t196) := ⟨h1_⟩
                      have n2_ : Aside0 (w42.heap[gb199]? = some (.cells #[.string t191, .slice Ao14 t192.length co14] 25 (0, 0))) := ⟨h2_⟩
                      have n3_ : Aside0 (w42.heap[gb200]? = some (.cells #[.string t195, .slice Ao16 t196.length co16] 25 (0, 0))) := ⟨h3_⟩
                      have n4_ : Aside0 (w42.heap[gb217]? = some (.cells #[.string (⟨#[]⟩ : ByteArray), .slice none 0 0] 25 (0, 0))) := ⟨h4_⟩
                      have n5_ : Aside0 (w.heap.size ≤ gb217) := ⟨h5_⟩
                      have n6_ : Aside0 (w.heap.size ≤ gb217) := ⟨h6_⟩
                      have n7_ : Aside0 (gb199 ≠ gb217) := ⟨h7_⟩
                      have n8_ : Aside0 (gb217 ≠ gb199) := ⟨h8_⟩
                      have n9_ : Aside0 (gb200 ≠ gb217) := ⟨h9_⟩
                      have n10_ : Aside0 (gb217 ≠ gb200) := ⟨h10_⟩
                      have n11_ : Aside0 (Below w.heap.size w w42) := ⟨h11_⟩
                      clear HO_200001
                      clear HO_201001
                      clear BK199
                      clear BK200
                      clear HB
                      clear h0_ h1_ h2_ h3_ h4_ h5_ h6_ h7_ h8_ h9_ h10_ h11_
                      have HO_200001 := n0_
                      have HO_201001 := n1_
                      have BK199 := n2_
                      have BK200 := n3_
                      have BK217 := n4_
                      have GW217 := n5_
                      have GE217 := n6_
                      have NB199_217 := n7_
                      have NB217_199 := n8_
                      have NB200_217 := n9_
                      have NB217_200 := n10_
                      have HB := n11_
                      clear n0_ n1_ n2_ n3_ n4_ n5_ n6_ n7_ n8_ n9_ n10_ n11_
                      have hHeld : w42.cell? ⟨gb199, 0, none⟩ = some (.string t191) ∧ w42.cell? ⟨gb199, 1, none⟩ = some (.slice Ao14 t192.length co14) := hS_
                      refine norm_ (a' := ?_) ?_ ?_
                      rotate_left
                      ·simp only [putAll, Act.put, List.setIfInBounds_toArray, List.set_cons_zero, List.set_cons_succ]
                       rfl
                      refine two_ (i := 2) (j := 9) (Ni := some 43) (Nj := some 50) #[true, true, true, true, true, false, true, true, true, false, false, false, true, false] #[true, true, false, true, true, false, true, true, true, true, false, false, true, false] rfl rfl rfl rfl (two_of HT_.out (by kernel_rfl)) (by decide) (by decide) (fun K hK => ?_) (fun K hK => ?_)
                      ·skip
                       refine Kd.R_lit_step (Kd.int .i64) _ 3 ?hg (N := 43) ?hd (xs := ([] : List Int)) (inner := []) (ok := fun _ => True) (okp := fun _ => True) ?hr ?hp (fun _ hk => hk) trivial (Below.refl _ _) (Nat.le_refl _) (by simp) ?_; (case hd => rfl); (case hg => rfl); (case hr => first | (go_simp; done) | (go_simp; rfl)); (case hp => exact (Reps.none _ _))
                       intro v206 w43 ho44 hb hg_ hnew_
                       clear hg_ hnew_
                       (first | rw [← Ny205.out] at ho44 | (simp only [Int.reduceToNat] at ho44; rw [← Ny205.out] at ho44))
                       have HO207 := Aside0.mk (Kd.R_lower (Kd.R_new' (Kd.R_new' ho44 (Kd.R_lt (y0 HO_200001.out))) (Kd.R_lt (y0 HO_201001.out))) (below_size (y5 HB.out GE199.out GE200.out GE217.out)))
                       replace HO_200001 := Aside0.mk (Kd.R_elder' (y0 HO_200001.out) (Kd.R_base ho44) hb)
                       replace HO_201001 := Aside0.mk (Kd.R_elder' (y0 HO_201001.out) (Kd.R_base ho44) hb)
                       replace BK199 := zbb BK199 hb
                       replace BK200 := zbb BK200 hb
                       replace BK217 := zbb BK217 hb
                       replace HB := Aside0.mk (below_step (y5 HB.out GE199.out GE200.out GE217.out) hb)
                       clear hb ho44
                       refine hK.out _ _ ⟨(blk_cell BK199.out 0).trans rfl, (blk_cell BK199.out 1).trans rfl⟩ (fun hHeld => ?_)
                       clear hK K
                       refine norm_ (a' := ?_) ?_ ?_
                       rotate_left
                       ·show Act.put _ (some 43) _ = _
                        simp only [Act.put, List.setIfInBounds_toArray, List.set_cons_zero, List.set_cons_succ, i64_w, i32_w]
                        rfl
                       exact norm_ y11 (hJ2_12 (v206, gb217) _ ⟨hHeld, (y47 HO207.out), (y20 HO_200001.out), (y20 HO_201001.out), (y2 BK199.out), (y2 BK200.out), (y2 BK217.out), GW217.out, GE217.out, NB199_217.out, NB217_199.out, NB200_217.out, NB217_200.out, (y5 HB.out GE199.out GE200.out GE217.out)⟩)
                      ·skip
                       refine Kd.R_lit_step (Kd.int .i64) _ 3 ?hg (N := 50) ?hd (xs := ([(l1.length : Int) % 2] : List Int)) (inner := [.int .i64 ((l1.length : Int) % 2)]) (ok := fun _ => True) (okp := fun _ => True) ?hr ?hp (fun _ hk => hk) trivial (Below.refl _ _) (Nat.le_refl _) (by simp) ?_; (case hd => rfl); (case hg => rfl); (case hr => first | (go_simp; done) | (go_simp; rfl)); (case hp => exact (Reps.one (show Kd.M (Kd.int .i64) _ _ _ ((l1.length : Int) % 2) [.int .i64 ((l1.length : Int) % 2)] from rfl) (Reps.none _ _)))
                       intro v212 w43 ho44 hb hg_ hnew_
                       clear hg_ hnew_
                       (first | rw [← Ny211.out] at ho44 | (simp only [Int.reduceToNat] at ho44; rw [← Ny211.out] at ho44))
                       have HO213 := Aside0.mk (Kd.R_lower (Kd.R_new' (Kd.R_new' ho44 (Kd.R_lt (y0 HO_200001.out))) (Kd.R_lt (y0 HO_201001.out))) (below_size (y5 HB.out GE199.out GE200.out GE217.out)))
                       replace HO_200001 := Aside0.mk (Kd.R_elder' (y0 HO_200001.out) (Kd.R_base ho44) hb)
                       replace HO_201001 := Aside0.mk (Kd.R_elder' (y0 HO_201001.out) (Kd.R_base ho44) hb)
                       replace BK199 := zbb BK199 hb
                       replace BK200 := zbb BK200 hb
                       replace BK217 := zbb BK217 hb
                       replace HB := Aside0.mk (below_step (y5 HB.out GE199.out GE200.out GE217.out) hb)
                       clear hb ho44
                       refine hK.out _ _ ⟨(blk_cell BK199.out 0).trans rfl, (blk_cell BK199.out 1).trans rfl⟩ (fun hHeld => ?_)
                       clear hK K
                       refine norm_ (a' := ?_) ?_ ?_
                       rotate_left
                       ·show Act.put _ (some 50) _ = _
                        simp only [Act.put, List.setIfInBounds_toArray, List.set_cons_zero, List.set_cons_succ, i64_w, i32_w]
                        rfl
                       exact norm_ y11 (hJ9_12 (v212, gb217) _ ⟨hHeld, (y47 HO213.out), (y20 HO_200001.out), (y20 HO_201001.out), (y2 BK199.out), (y2 BK200.out), (y2 BK217.out), GW217.out, GE217.out, NB199_217.out, NB217_199.out, NB200_217.out, NB217_200.out, (y5 HB.out GE199.out GE200.out GE217.out)⟩)
                    ·skip
                     rintro v212 w43 ⟨hS_, h0_, h1_, h2_, h3_, h4_, h5_⟩
                     have n0_ : Aside0 (Kd.R (Kd.int .i64) 3 w43 w.heap.size (fun k_ => some k_ ≠ (.slice Ao14 t192.length co14 : Value).ownBlock ∧ some k_ ≠ (.slice Ao16 t196.length co16 : Value).ownBlock) v212 y211) := ⟨h0_⟩
                     have n1_ : Aside0 (Kd.R (Kd.int .i64) 3 w43 w.heap.size (fun k_ => some k_ ≠ (v212 : Value).ownBlock ∧ some k_ ≠ (.slice Ao16 t196.length co16 : Value).ownBlock) (.slice Ao14 t192.length co14) t192) := ⟨h1_⟩
                     have n2_ : Aside0 (Kd.R (Kd.int .i64) 3 w43 w.heap.size (fun k_ => some k_ ≠ (v212 : Value).ownBlock ∧ some k_ ≠ (.slice Ao14 t192.length co14 : Value).ownBlock) (.slice Ao16 t196.length co16) t196) := ⟨h2_⟩
                     have n3_ : Aside0 (w43.heap[gb199]? = some (.cells #[.string t191, .slice Ao14 t192.length co14] 25 (0, 0))) := ⟨h3_⟩
                     have n4_ : Aside0 (w43.heap[gb200]? = some (.cells #[.string t195, .slice Ao16 t196.length co16] 25 (0, 0))) := ⟨h4_⟩
                     have n5_ : Aside0 (Below w.heap.size w w43) := ⟨h5_⟩
                     clear HO_200001
                     clear HO_201001
                     clear BK199
                     clear BK200
                     clear HB
                     clear h0_ h1_ h2_ h3_ h4_ h5_
                     have HO213 := n0_
                     have HO_200001 := n1_
                     have HO_201001 := n2_
                     have BK199 := n3_
                     have BK200 := n4_
                     have HB := n5_
                     clear n0_ n1_ n2_ n3_ n4_ n5_
                     have hHeld : w43.cell? ⟨gb199, 0, none⟩ = some (.string t191) ∧ w43.cell? ⟨gb199, 1, none⟩ = some (.slice Ao14 t192.length co14) := hS_
                     refine norm_ (a' := ?_) ?_ ?_
                     rotate_left
                     ·simp only [putAll, Act.put, List.setIfInBounds_toArray, List.set_cons_zero, List.set_cons_succ]
                      rfl
                     refine two_ (i := 2) (j := 12) (Ni := some 43) (Nj := some 9) #[true, true, true, true, true, false, true, true, true, true, false, false, false, false] #[true, true, false, true, true, false, true, true, true, true, false, false, true, false] rfl rfl rfl rfl (two_of HT_.out (by kernel_rfl)) (by decide) (by decide) (fun K hK => ?_) (fun K hK => ?_)
                     ·skip
                      refine Kd.R_lit_step (Kd.int .i64) _ 3 ?hg (N := 43) ?hd (xs := ([] : List Int)) (inner := []) (ok := fun _ => True) (okp := fun _ => True) ?hr ?hp (fun _ hk => hk) trivial (Below.refl _ _) (Nat.le_refl _) (by simp) ?_; (case hd => rfl); (case hg => rfl); (case hr => first | (go_simp; done) | (go_simp; rfl)); (case hp => exact (Reps.none _ _))
                      intro v206 w44 ho45 hb hg_ hnew_
                      clear hg_ hnew_
                      (first | rw [← Ny205.out] at ho45 | (simp only [Int.reduceToNat] at ho45; rw [← Ny205.out] at ho45))
                      have HO207 := Aside0.mk (Kd.R_lower (Kd.R_new' (Kd.R_new' (Kd.R_new' ho45 (Kd.R_lt (y0 HO_200001.out))) (Kd.R_lt (y0 HO_201001.out))) (Kd.R_lt (y0 HO213.out))) (below_size (y1 HB.out GE199.out GE200.out)))
                      replace HO_200001 := Aside0.mk (Kd.R_elder' (y0 HO_200001.out) (Kd.R_base ho45) hb)
                      replace HO_201001 := Aside0.mk (Kd.R_elder' (y0 HO_201001.out) (Kd.R_base ho45) hb)
                      replace HO213 := Aside0.mk (Kd.R_elder' (y0 HO213.out) (Kd.R_base ho45) hb)
                      replace BK199 := zbb BK199 hb
                      replace BK200 := zbb BK200 hb
                      replace HB := Aside0.mk (below_step (y1 HB.out GE199.out GE200.out) hb)
                      clear hb ho45
                      refine hK.out _ _ ⟨(blk_cell BK199.out 0).trans rfl, (blk_cell BK199.out 1).trans rfl⟩ (fun hHeld => ?_)
                      clear hK K
                      refine norm_ (a' := ?_) ?_ ?_
                      rotate_left
                      ·show Act.put _ (some 43) _ = _
                       simp only [Act.put, List.setIfInBounds_toArray, List.set_cons_zero, List.set_cons_succ, i64_w, i32_w]
                       rfl
                      exact norm_ y11 (hJ2_9 (v206, v212) _ ⟨hHeld, (y34 HO207.out), (y21 HO213.out), (y21 HO_200001.out), (y21 HO_201001.out), (y2 BK199.out), (y2 BK200.out), (y1 HB.out GE199.out GE200.out)⟩)
                     ·skip
                      refine box_step ?hg (N := 9) ?hd (cs := #[.string (⟨#[]⟩ : ByteArray), .slice none 0 0]) (t := 25) ?hr ?_; (case hd => rfl); (case hg => rfl); (case hr => first | (go_simp; done) | (go_simp; rfl))
                      intro gb217 hg w44 hbox hb
                      replace HO_200001 := Aside0.mk (Kd.R_below (y0 HO_200001.out) hb)
                      replace HO_201001 := Aside0.mk (Kd.R_below (y0 HO_201001.out) hb)
                      replace HO213 := Aside0.mk (Kd.R_below (y0 HO213.out) hb)
                      have BK217 := Aside0.mk hbox
                      have GW217 := Aside0.mk ((y18 hg HB.out GE199.out GE200.out : w.heap.size ≤ gb217))
                      have GE217 := Aside0.mk ((y18 hg HB.out GE199.out GE200.out : w.heap.size ≤ gb217))
                      replace HB := Aside0.mk (below_step (y1 HB.out GE199.out GE200.out) hb)
                      have NB199_217 := zltn hg BK199
                      have NB217_199 := zgtn hg BK199
                      replace BK199 := zbb BK199 hb
                      have NB200_217 := zltn hg BK200
                      have NB217_200 := zgtn hg BK200
                      replace BK200 := zbb BK200 hb
                      clear hb hbox hg
                      refine hK.out _ _ ⟨(blk_cell BK199.out 0).trans rfl, (blk_cell BK199.out 1).trans rfl⟩ (fun hHeld => ?_)
                      clear hK K
                      refine norm_ (a' := ?_) ?_ ?_
                      rotate_left
                      ·show Act.put _ (some 9) _ = _
                       simp only [Act.put, List.setIfInBounds_toArray, List.set_cons_zero, List.set_cons_succ, i64_w, i32_w]
                       rfl
                      exact norm_ y11 (hJ9_12 (v212, gb217) _ ⟨hHeld, (y0 HO213.out), (y0 HO_200001.out), (y0 HO_201001.out), (y2 BK199.out), (y2 BK200.out), (y2 BK217.out), GW217.out, GE217.out, NB199_217.out, NB217_199.out, NB200_217.out, NB217_200.out, (y5 HB.out GE199.out GE200.out GE217.out)⟩)
                   ·skip
                    rintro v206 w43 ⟨hS_, h0_, h1_, h2_, h3_, h4_, h5_⟩
                    have n0_ : Aside0 (Kd.R (Kd.int .i64) 3 w43 w.heap.size (fun k_ => some k_ ≠ (.slice Ao14 t192.length co14 : Value).ownBlock ∧ some k_ ≠ (.slice Ao16 t196.length co16 : Value).ownBlock) v206 y205) := ⟨h0_⟩
                    have n1_ : Aside0 (Kd.R (Kd.int .i64) 3 w43 w.heap.size (fun k_ => some k_ ≠ (v206 : Value).ownBlock ∧ some k_ ≠ (.slice Ao16 t196.length co16 : Value).ownBlock) (.slice Ao14 t192.length co14) t192) := ⟨h1_⟩
                    have n2_ : Aside0 (Kd.R (Kd.int .i64) 3 w43 w.heap.size (fun k_ => some k_ ≠ (v206 : Value).ownBlock ∧ some k_ ≠ (.slice Ao14 t192.length co14 : Value).ownBlock) (.slice Ao16 t196.length co16) t196) := ⟨h2_⟩
                    have n3_ : Aside0 (w43.heap[gb199]? = some (.cells #[.string t191, .slice Ao14 t192.length co14] 25 (0, 0))) := ⟨h3_⟩
                    have n4_ : Aside0 (w43.heap[gb200]? = some (.cells #[.string t195, .slice Ao16 t196.length co16] 25 (0, 0))) := ⟨h4_⟩
                    have n5_ : Aside0 (Below w.heap.size w w43) := ⟨h5_⟩
                    clear HO_200001
                    clear HO_201001
                    clear BK199
                    clear BK200
                    clear HB
                    clear h0_ h1_ h2_ h3_ h4_ h5_
                    have HO207 := n0_
                    have HO_200001 := n1_
                    have HO_201001 := n2_
                    have BK199 := n3_
                    have BK200 := n4_
                    have HB := n5_
                    clear n0_ n1_ n2_ n3_ n4_ n5_
                    have hHeld : w43.cell? ⟨gb199, 0, none⟩ = some (.string t191) ∧ w43.cell? ⟨gb199, 1, none⟩ = some (.slice Ao14 t192.length co14) := hS_
                    refine norm_ (a' := ?_) ?_ ?_
                    rotate_left
                    ·simp only [putAll, Act.put, List.setIfInBounds_toArray, List.set_cons_zero, List.set_cons_succ]
                     rfl
                    refine three_ (i := 5) (j := 9) (k := 12) (Ni := some 46) (Nj := some 50) (Nk := some 9) #[true, true, true, true, true, true, true, true, true, false, false, false, false, false] #[true, true, true, true, true, false, true, true, true, true, false, false, false, false] #[true, true, true, true, true, false, true, true, true, false, false, false, true, false] rfl rfl rfl rfl rfl rfl (three_of HT_.out (by kernel_rfl)) (by decide) (by decide) (by decide) (fun K hK => ?_) (fun K hK => ?_) (fun K hK => ?_)
                    ·skip
                     refine Kd.R_append_rows_step (Kd.int .i64) (w0 := w) w.heap.size (by rfl) (.tmp 43) (.tmp 45) 23 3 (.int .i64 0) 8 rfl Try.underlying23 info3 rfl (by decide) (by omega) v206 y205 t192 _ _ _ (fun k_ => some k_ ≠ (.slice Ao14 t192.length co14 : Value).ownBlock ∧ some k_ ≠ (.slice Ao16 t196.length co16 : Value).ownBlock) (fun _ => False) rfl rfl ?aO ?aR (fun _ _ h => h) (fun _ h => h.elim) ?aF ?aB ?aS ?aL ?_
                     (case aR => exact y15 HO_200001.out)
                     (case aB => exact y46 HB.out GE199.out GE200.out)
                     (case aF => exact y44 HO_200001.out HO_201001.out)
                     (case aO => exact y56 HO207.out)
                     (case aS => exact y38 HB.out GE199.out GE200.out)
                     (case aL => exact y59 LMc34.out)
                     intro v209 w44 ho hb hg hat
                     rw [← Ny208.out] at ho
                     replace HO_200001 := Aside0.mk (Kd.R_after (ok := (fun k_ => some k_ ≠ (.slice Ao16 t196.length co16 : Value).ownBlock)) (y20 HO_200001.out) hg hat)
                     replace HO_201001 := Aside0.mk (Kd.R_after (ok := (fun k_ => some k_ ≠ (.slice Ao14 t192.length co14 : Value).ownBlock)) (y20 HO_201001.out) hg hat)
                     replace BK199 := Aside0.mk (blk_grown (g := gb199) (o := .cells #[.string t191, .slice Ao14 t192.length co14] 25 (0, 0)) (y2 BK199.out) hg (Kd.R_ne HO207.out BK199.out (by decide)))
                     replace BK200 := Aside0.mk (blk_grown (g := gb200) (o := .cells #[.string t195, .slice Ao16 t196.length co16] 25 (0, 0)) (y2 BK200.out) hg (Kd.R_ne HO207.out BK200.out (by decide)))
                     replace HB := Aside0.mk (hb)
                     have HO210 := Aside0.mk (ho)
                     clear HO207
                     clear ho hb hg hat
                     refine hK.out _ _ ⟨(blk_cell BK199.out 0).trans rfl, (blk_cell BK199.out 1).trans rfl⟩ (fun hHeld => ?_)
                     clear hK K
                     refine norm_ (a' := ?_) ?_ ?_
                     rotate_left
                     ·show Act.put _ (some 46) _ = _
                      simp only [Act.put, List.setIfInBounds_toArray, List.set_cons_zero, List.set_cons_succ, i64_w, i32_w]
                      rfl
                     exact norm_ y11 (hJ2_5 (v206, v209) _ ⟨hHeld, (y0 HO210.out), (y20 HO_200001.out), (y20 HO_201001.out), (y2 BK199.out), (y2 BK200.out), (y1 HB.out GE199.out GE200.out)⟩)
                    ·skip
                     refine Kd.R_lit_step (Kd.int .i64) _ 3 ?hg (N := 50) ?hd (xs := ([(l1.length : Int) % 2] : List Int)) (inner := [.int .i64 ((l1.length : Int) % 2)]) (ok := fun _ => True) (okp := fun _ => True) ?hr ?hp (fun _ hk => hk) trivial (Below.refl _ _) (Nat.le_refl _) (by simp) ?_; (case hd => rfl); (case hg => rfl); (case hr => first | (go_simp; done) | (go_simp; rfl)); (case hp => exact (Reps.one (show Kd.M (Kd.int .i64) _ _ _ ((l1.length : Int) % 2) [.int .i64 ((l1.length : Int) % 2)] from rfl) (Reps.none _ _)))
                     intro v212 w44 ho45 hb hg_ hnew_
                     clear hg_ hnew_
                     (first | rw [← Ny211.out] at ho45 | (simp only [Int.reduceToNat] at ho45; rw [← Ny211.out] at ho45))
                     have HO213 := Aside0.mk (Kd.R_lower (Kd.R_new' (Kd.R_new' (Kd.R_new' ho45 (Kd.R_lt (y0 HO_200001.out))) (Kd.R_lt (y0 HO_201001.out))) (Kd.R_lt (y0 HO207.out))) (below_size (y1 HB.out GE199.out GE200.out)))
                     replace HO_200001 := Aside0.mk (Kd.R_elder' (y0 HO_200001.out) (Kd.R_base ho45) hb)
                     replace HO_201001 := Aside0.mk (Kd.R_elder' (y0 HO_201001.out) (Kd.R_base ho45) hb)
                     replace HO207 := Aside0.mk (Kd.R_elder' (y0 HO207.out) (Kd.R_base ho45) hb)
                     replace BK199 := zbb BK199 hb
                     replace BK200 := zbb BK200 hb
                     replace HB := Aside0.mk (below_step (y1 HB.out GE199.out GE200.out) hb)
                     clear hb ho45
                     refine hK.out _ _ ⟨(blk_cell BK199.out 0).trans rfl, (blk_cell BK199.out 1).trans rfl⟩ (fun hHeld => ?_)
                     clear hK K
                     refine norm_ (a' := ?_) ?_ ?_
                     rotate_left
                     ·show Act.put _ (some 50) _ = _
                      simp only [Act.put, List.setIfInBounds_toArray, List.set_cons_zero, List.set_cons_succ, i64_w, i32_w]
                      rfl
                     exact norm_ y11 (hJ2_9 (v206, v212) _ ⟨hHeld, (y21 HO207.out), (y34 HO213.out), (y28 HO_200001.out), (y28 HO_201001.out), (y2 BK199.out), (y2 BK200.out), (y1 HB.out GE199.out GE200.out)⟩)
                    ·skip
                     refine box_step ?hg (N := 9) ?hd (cs := #[.string (⟨#[]⟩ : ByteArray), .slice none 0 0]) (t := 25) ?hr ?_; (case hd => rfl); (case hg => rfl); (case hr => first | (go_simp; done) | (go_simp; rfl))
                     intro gb217 hg w44 hbox hb
                     replace HO_200001 := Aside0.mk (Kd.R_below (y0 HO_200001.out) hb)
                     replace HO_201001 := Aside0.mk (Kd.R_below (y0 HO_201001.out) hb)
                     replace HO207 := Aside0.mk (Kd.R_below (y0 HO207.out) hb)
                     have BK217 := Aside0.mk hbox
                     have GW217 := Aside0.mk ((y18 hg HB.out GE199.out GE200.out : w.heap.size ≤ gb217))
                     have GE217 := Aside0.mk ((y18 hg HB.out GE199.out GE200.out : w.heap.size ≤ gb217))
                     replace HB := Aside0.mk (below_step (y1 HB.out GE199.out GE200.out) hb)
                     have NB199_217 := zltn hg BK199
                     have NB217_199 := zgtn hg BK199
                     replace BK199 := zbb BK199 hb
                     have NB200_217 := zltn hg BK200
                     have NB217_200 := zgtn hg BK200
                     replace BK200 := zbb BK200 hb
                     clear hb hbox hg
                     refine hK.out _ _ ⟨(blk_cell BK199.out 0).trans rfl, (blk_cell BK199.out 1).trans rfl⟩ (fun hHeld => ?_)
                     clear hK K
                     refine norm_ (a' := ?_) ?_ ?_
                     rotate_left
                     ·show Act.put _ (some 9) _ = _
                      simp only [Act.put, List.setIfInBounds_toArray, List.set_cons_zero, List.set_cons_succ, i64_w, i32_w]
                      rfl
                     exact norm_ y11 (hJ2_12 (v206, gb217) _ ⟨hHeld, (y0 HO207.out), (y0 HO_200001.out), (y0 HO_201001.out), (y2 BK199.out), (y2 BK200.out), (y2 BK217.out), GW217.out, GE217.out, NB199_217.out, NB217_199.out, NB200_217.out, NB217_200.out, (y5 HB.out GE199.out GE200.out GE217.out)⟩)
                  ·skip
                   rintro ⟨v212, gb217⟩ w44 ⟨hS_, h0_, h1_, h2_, h3_, h4_, h5_, h6_, h7_, h8_, h9_, h10_, h11_, h12_⟩
                   have n0_ : Aside0 (Kd.R (Kd.int .i64) 3 w44 w.heap.size (fun k_ => some k_ ≠ (.slice Ao14 t192.length co14 : Value).ownBlock ∧ some k_ ≠ (.slice Ao16 t196.length co16 : Value).ownBlock) v212 y211) := ⟨h0_⟩
                   have n1_ : Aside0 (Kd.R (Kd.int .i64) 3 w44 w.heap.size (fun k_ => some k_ ≠ (v212 : Value).ownBlock ∧ some k_ ≠ (.slice Ao16 t196.length co16 : Value).ownBlock) (.slice Ao14 t192.length co14) t192) := ⟨h1_⟩
                   have n2_ : Aside0 (Kd.R (Kd.int .i64) 3 w44 w.heap.size (fun k_ => some k_ ≠ (v212 : Value).ownBlock ∧ some k_ ≠ (.slice Ao14 t192.length co14 : Value).ownBlock) (.slice Ao16 t196.length co16) t196) := ⟨h2_⟩
                   have n3_ : Aside0 (w44.heap[gb199]? = some (.cells #[.string t191, .slice Ao14 t192.length co14] 25 (0, 0))) := ⟨h3_⟩
                   have n4_ : Aside0 (w44.heap[gb200]? = some (.cells #[.string t195, .slice Ao16 t196.length co16] 25 (0, 0))) := ⟨h4_⟩
                   have n5_ : Aside0 (w44.heap[gb217]? = some (.cells #[.string (⟨#[]⟩ : ByteArray), .slice none 0 0] 25 (0, 0))) := ⟨h5_⟩
                   have n6_ : Aside0 (w.heap.size ≤ gb217) := ⟨h6_⟩
                   have n7_ : Aside0 (w.heap.size ≤ gb217) := ⟨h7_⟩
                   have n8_ : Aside0 (gb199 ≠ gb217) := ⟨h8_⟩
                   have n9_ : Aside0 (gb217 ≠ gb199) := ⟨h9_⟩
                   have n10_ : Aside0 (gb200 ≠ gb217) := ⟨h10_⟩
                   have n11_ : Aside0 (gb217 ≠ gb200) := ⟨h11_⟩
                   have n12_ : Aside0 (Below w.heap.size w w44) := ⟨h12_⟩
                   clear HO_200001
                   clear HO_201001
                   clear BK199
                   clear BK200
                   clear HB
                   clear h0_ h1_ h2_ h3_ h4_ h5_ h6_ h7_ h8_ h9_ h10_ h11_ h12_
                   have HO213 := n0_
                   have HO_200001 := n1_
                   have HO_201001 := n2_
                   have BK199 := n3_
                   have BK200 := n4_
                   have BK217 := n5_
                   have GW217 := n6_
                   have GE217 := n7_
                   have NB199_217 := n8_
                   have NB217_199 := n9_
                   have NB200_217 := n10_
                   have NB217_200 := n11_
                   have HB := n12_
                   clear n0_ n1_ n2_ n3_ n4_ n5_ n6_ n7_ n8_ n9_ n10_ n11_ n12_
                   have hHeld : w44.cell? ⟨gb199, 0, none⟩ = some (.string t191) ∧ w44.cell? ⟨gb199, 1, none⟩ = some (.slice Ao14 t192.length co14) := hS_
                   refine norm_ (a' := ?_) ?_ ?_
                   rotate_left
                   ·simp only [putAll, Act.put, List.setIfInBounds_toArray, List.set_cons_zero, List.set_cons_succ]
                    rfl
                   refine one_ (i := 2) (N := some 43) #[true, true, true, true, true, false, true, true, true, true, false, false, true, false] rfl rfl (one_of HT_.out (by kernel_rfl)) (by decide) (fun K hK => ?_)
                   refine Kd.R_lit_step (Kd.int .i64) _ 3 ?hg (N := 43) ?hd (xs := ([] : List Int)) (inner := []) (ok := fun _ => True) (okp := fun _ => True) ?hr ?hp (fun _ hk => hk) trivial (Below.refl _ _) (Nat.le_refl _) (by simp) ?_; (case hd => rfl); (case hg => rfl); (case hr => first | (go_simp; done) | (go_simp; rfl)); (case hp => exact (Reps.none _ _))
                   intro v206 w45 ho46 hb hg_ hnew_
                   clear hg_ hnew_
                   (first | rw [← Ny205.out] at ho46 | (simp only [Int.reduceToNat] at ho46; rw [← Ny205.out] at ho46))
                   have HO207 := Aside0.mk (Kd.R_lower (Kd.R_new' (Kd.R_new' (Kd.R_new' ho46 (Kd.R_lt (y0 HO_200001.out))) (Kd.R_lt (y0 HO_201001.out))) (Kd.R_lt (y0 HO213.out))) (below_size (y5 HB.out GE199.out GE200.out GE217.out)))
                   replace HO_200001 := Aside0.mk (Kd.R_elder' (y0 HO_200001.out) (Kd.R_base ho46) hb)
                   replace HO_201001 := Aside0.mk (Kd.R_elder' (y0 HO_201001.out) (Kd.R_base ho46) hb)
                   replace HO213 := Aside0.mk (Kd.R_elder' (y0 HO213.out) (Kd.R_base ho46) hb)
                   replace BK199 := zbb BK199 hb
                   replace BK200 := zbb BK200 hb
                   replace BK217 := zbb BK217 hb
                   replace HB := Aside0.mk (below_step (y5 HB.out GE199.out GE200.out GE217.out) hb)
                   clear hb ho46
                   refine hK.out _ _ ⟨(blk_cell BK199.out 0).trans rfl, (blk_cell BK199.out 1).trans rfl⟩ (fun hHeld => ?_)
                   clear hK K
                   refine norm_ (a' := ?_) ?_ ?_
                   rotate_left
                   ·show Act.put _ (some 43) _ = _
                    simp only [Act.put, List.setIfInBounds_toArray, List.set_cons_zero, List.set_cons_succ, i64_w, i32_w]
                    rfl
                   exact norm_ y11 (hJ2_9_12 (v206, v212, gb217) _ ⟨hHeld, (y34 HO207.out), (y21 HO213.out), (y21 HO_200001.out), (y21 HO_201001.out), (y2 BK199.out), (y2 BK200.out), (y2 BK217.out), GW217.out, GE217.out, NB199_217.out, NB217_199.out, NB200_217.out, NB217_200.out, (y5 HB.out GE199.out GE200.out GE217.out)⟩)
                 ·skip
                  rintro ⟨v206, gb217⟩ w44 ⟨hS_, h0_, h1_, h2_, h3_, h4_, h5_, h6_, h7_, h8_, h9_, h10_, h11_, h12_⟩
                  have n0_ : Aside0 (Kd.R (Kd.int .i64) 3 w44 w.heap.size (fun k_ => some k_ ≠ (.slice Ao14 t192.length co14 : Value).ownBlock ∧ some k_ ≠ (.slice Ao16 t196.length co16 : Value).ownBlock) v206 y205) := ⟨h0_⟩
                  have n1_ : Aside0 (Kd.R (Kd.int .i64) 3 w44 w.heap.size (fun k_ => some k_ ≠ (v206 : Value).ownBlock ∧ some k_ ≠ (.slice Ao16 t196.length co16 : Value).ownBlock) (.slice Ao14 t192.length co14) t192) := ⟨h1_⟩
                  have n2_ : Aside0 (Kd.R (Kd.int .i64) 3 w44 w.heap.size (fun k_ => some k_ ≠ (v206 : Value).ownBlock ∧ some k_ ≠ (.slice Ao14 t192.length co14 : Value).ownBlock) (.slice Ao16 t196.length co16) t196) := ⟨h2_⟩
                  have n3_ : Aside0 (w44.heap[gb199]? = some (.cells #[.string t191, .slice Ao14 t192.length co14] 25 (0, 0))) := ⟨h3_⟩
                  have n4_ : Aside0 (w44.heap[gb200]? = some (.cells #[.string t195, .slice Ao16 t196.length co16] 25 (0, 0))) := ⟨h4_⟩
                  have n5_ : Aside0 (w44.heap[gb217]? = some (.cells #[.string (⟨#[]⟩ : ByteArray), .slice none 0 0] 25 (0, 0))) := ⟨h5_⟩
                  have n6_ : Aside0 (w.heap.size ≤ gb217) := ⟨h6_⟩
                  have n7_ : Aside0 (w.heap.size ≤ gb217) := ⟨h7_⟩
                  have n8_ : Aside0 (gb199 ≠ gb217) := ⟨h8_⟩
                  have n9_ : Aside0 (gb217 ≠ gb199) := ⟨h9_⟩
                  have n10_ : Aside0 (gb200 ≠ gb217) := ⟨h10_⟩
                  have n11_ : Aside0 (gb217 ≠ gb200) := ⟨h11_⟩
                  have n12_ : Aside0 (Below w.heap.size w w44) := ⟨h12_⟩
                  clear HO_200001
                  clear HO_201001
                  clear BK199
                  clear BK200
                  clear HB
                  clear h0_ h1_ h2_ h3_ h4_ h5_ h6_ h7_ h8_ h9_ h10_ h11_ h12_
                  have HO207 := n0_
                  have HO_200001 := n1_
                  have HO_201001 := n2_
                  have BK199 := n3_
                  have BK200 := n4_
                  have BK217 := n5_
                  have GW217 := n6_
                  have GE217 := n7_
                  have NB199_217 := n8_
                  have NB217_199 := n9_
                  have NB200_217 := n10_
                  have NB217_200 := n11_
                  have HB := n12_
                  clear n0_ n1_ n2_ n3_ n4_ n5_ n6_ n7_ n8_ n9_ n10_ n11_ n12_
                  have hHeld : w44.cell? ⟨gb199, 0, none⟩ = some (.string t191) ∧ w44.cell? ⟨gb199, 1, none⟩ = some (.slice Ao14 t192.length co14) := hS_
                  refine norm_ (a' := ?_) ?_ ?_
                  rotate_left
                  ·simp only [putAll, Act.put, List.setIfInBounds_toArray, List.set_cons_zero, List.set_cons_succ]
                   rfl
                  refine two_ (i := 5) (j := 9) (Ni := some 46) (Nj := some 50) #[true, true, true, true, true, true, true, true, true, false, false, false, true, false] #[true, true, true, true, true, false, true, true, true, true, false, false, true, false] rfl rfl rfl rfl (two_of HT_.out (by kernel_rfl)) (by decide) (by decide) (fun K hK => ?_) (fun K hK => ?_)
                  ·skip
                   refine Kd.R_append_rows_step (Kd.int .i64) (w0 := w) w.heap.size (by rfl) (.tmp 43) (.tmp 45) 23 3 (.int .i64 0) 8 rfl Try.underlying23 info3 rfl (by decide) (by omega) v206 y205 t192 _ _ _ (fun k_ => some k_ ≠ (.slice Ao14 t192.length co14 : Value).ownBlock ∧ some k_ ≠ (.slice Ao16 t196.length co16 : Value).ownBlock) (fun _ => False) rfl rfl ?aO ?aR (fun _ _ h => h) (fun _ h => h.elim) ?aF ?aB ?aS ?aL ?_
                   (case aR => exact y15 HO_200001.out)
                   (case aB => exact y36 HB.out GE199.out GE200.out GE217.out)
                   (case aF => exact y44 HO_200001.out HO_201001.out)
                   (case aO => exact y56 HO207.out)
                   (case aS => exact y35 HB.out GE199.out GE200.out GE217.out)
                   (case aL => exact y59 LMc34.out)
                   intro v209 w45 ho hb hg hat
                   rw [← Ny208.out] at ho
                   replace HO_200001 := Aside0.mk (Kd.R_after (ok := (fun k_ => some k_ ≠ (.slice Ao16 t196.length co16 : Value).ownBlock)) (y20 HO_200001.out) hg hat)
                   replace HO_201001 := Aside0.mk (Kd.R_after (ok := (fun k_ => some k_ ≠ (.slice Ao14 t192.length co14 : Value).ownBlock)) (y20 HO_201001.out) hg hat)
                   replace BK199 := Aside0.mk (blk_grown (g := gb199) (o := .cells #[.string t191, .slice Ao14 t192.length co14] 25 (0, 0)) (y2 BK199.out) hg (Kd.R_ne HO207.out BK199.out (by decide)))
                   replace BK200 := Aside0.mk (blk_grown (g := gb200) (o := .cells #[.string t195, .slice Ao16 t196.length co16] 25 (0, 0)) (y2 BK200.out) hg (Kd.R_ne HO207.out BK200.out (by decide)))
                   replace BK217 := Aside0.mk (blk_grown (g := gb217) (o := .cells #[.string (⟨#[]⟩ : ByteArray), .slice none 0 0] 25 (0, 0)) (y2 BK217.out) hg (Kd.R_ne HO207.out BK217.out (by decide)))
                   replace HB := Aside0.mk (hb)
                   have HO210 := Aside0.mk (ho)
                   clear HO207
                   clear ho hb hg hat
                   refine hK.out _ _ ⟨(blk_cell BK199.out 0).trans rfl, (blk_cell BK199.out 1).trans rfl⟩ (fun hHeld => ?_)
                   clear hK K
                   refine norm_ (a' := ?_) ?_ ?_
                   rotate_left
                   ·show Act.put _ (some 46) _ = _
                    simp only [Act.put, List.setIfInBounds_toArray, List.set_cons_zero, List.set_cons_succ, i64_w, i32_w]
                    rfl
                   exact norm_ y11 (hJ2_5_12 (v206, v209, gb217) _ ⟨hHeld, (y0 HO210.out), (y20 HO_200001.out), (y20 HO_201001.out), (y2 BK199.out), (y2 BK200.out), (y2 BK217.out), GW217.out, GE217.out, NB199_217.out, NB217_199.out, NB200_217.out, NB217_200.out, (y5 HB.out GE199.out GE200.out GE217.out)⟩)
                  ·skip
                   refine Kd.R_lit_step (Kd.int .i64) _ 3 ?hg (N := 50) ?hd (xs := ([(l1.length : Int) % 2] : List Int)) (inner := [.int .i64 ((l1.length : Int) % 2)]) (ok := fun _ => True) (okp := fun _ => True) ?hr ?hp (fun _ hk => hk) trivial (Below.refl _ _) (Nat.le_refl _) (by simp) ?_; (case hd => rfl); (case hg => rfl); (case hr => first | (go_simp; done) | (go_simp; rfl)); (case hp => exact (Reps.one (show Kd.M (Kd.int .i64) _ _ _ ((l1.length : Int) % 2) [.int .i64 ((l1.length : Int) % 2)] from rfl) (Reps.none _ _)))
                   intro v212 w45 ho46 hb hg_ hnew_
                   clear hg_ hnew_
                   (first | rw [← Ny211.out] at ho46 | (simp only [Int.reduceToNat] at ho46; rw [← Ny211.out] at ho46))
                   have HO213 := Aside0.mk (Kd.R_lower (Kd.R_new' (Kd.R_new' (Kd.R_new' ho46 (Kd.R_lt (y0 HO_200001.out))) (Kd.R_lt (y0 HO_201001.out))) (Kd.R_lt (y0 HO207.out))) (below_size (y5 HB.out GE199.out GE200.out GE217.out)))
                   replace HO_200001 := Aside0.mk (Kd.R_elder' (y0 HO_200001.out) (Kd.R_base ho46) hb)
                   replace HO_201001 := Aside0.mk (Kd.R_elder' (y0 HO_201001.out) (Kd.R_base ho46) hb)
                   replace HO207 := Aside0.mk (Kd.R_elder' (y0 HO207.out) (Kd.R_base ho46) hb)
                   replace BK199 := zbb BK199 hb
                   replace BK200 := zbb BK200 hb
                   replace BK217 := zbb BK217 hb
                   replace HB := Aside0.mk (below_step (y5 HB.out GE199.out GE200.out GE217.out) hb)
                   clear hb ho46
                   refine hK.out _ _ ⟨(blk_cell BK199.out 0).trans rfl, (blk_cell BK199.out 1).trans rfl⟩ (fun hHeld => ?_)
                   clear hK K
                   refine norm_ (a' := ?_) ?_ ?_
                   rotate_left
                   ·show Act.put _ (some 50) _ = _
                    simp only [Act.put, List.setIfInBounds_toArray, List.set_cons_zero, List.set_cons_succ, i64_w, i32_w]
                    rfl
                   exact norm_ y11 (hJ2_9_12 (v206, v212, gb217) _ ⟨hHeld, (y21 HO207.out), (y34 HO213.out), (y28 HO_200001.out), (y28 HO_201001.out), (y2 BK199.out), (y2 BK200.out), (y2 BK217.out), GW217.out, GE217.out, NB199_217.out, NB217_199.out, NB200_217.out, NB217_200.out, (y5 HB.out GE199.out GE200.out GE217.out)⟩)
                ·skip
                 rintro ⟨v206, v212⟩ w45 ⟨hS_, h0_, h1_, h2_, h3_, h4_, h5_, h6_⟩
                 have n0_ : Aside0 (Kd.R (Kd.int .i64) 3 w45 w.heap.size (fun k_ => some k_ ≠ (v212 : Value).ownBlock ∧ some k_ ≠ (.slice Ao14 t192.length co14 : Value).ownBlock ∧ some k_ ≠ (.slice Ao16 t196.length co16 : Value).ownBlock) v206 y205) := ⟨h0_⟩
                 have n1_ : Aside0 (Kd.R (Kd.int .i64) 3 w45 w.heap.size (fun k_ => some k_ ≠ (v206 : Value).ownBlock ∧ some k_ ≠ (.slice Ao14 t192.length co14 : Value).ownBlock ∧ some k_ ≠ (.slice Ao16 t196.length co16 : Value).ownBlock) v212 y211) := ⟨h1_⟩
                 have n2_ : Aside0 (Kd.R (Kd.int .i64) 3 w45 w.heap.size (fun k_ => some k_ ≠ (v206 : Value).ownBlock ∧ some k_ ≠ (v212 : Value).ownBlock ∧ some k_ ≠ (.slice Ao16 t196.length co16 : Value).ownBlock) (.slice Ao14 t192.length co14) t192) := ⟨h2_⟩
                 have n3_ : Aside0 (Kd.R (Kd.int .i64) 3 w45 w.heap.size (fun k_ => some k_ ≠ (v206 : Value).ownBlock ∧ some k_ ≠ (v212 : Value).ownBlock ∧ some k_ ≠ (.slice Ao14 t192.length co14 : Value).ownBlock) (.slice Ao16 t196.length co16) t196) := ⟨h3_⟩
                 have n4_ : Aside0 (w45.heap[gb199]? = some (.cells #[.string t191, .slice Ao14 t192.length co14] 25 (0, 0))) := ⟨h4_⟩
                 have n5_ : Aside0 (w45.heap[gb200]? = some (.cells #[.string t195, .slice Ao16 t196.length co16] 25 (0, 0))) := ⟨h5_⟩
                 have n6_ : Aside0 (Below w.heap.size w w45) := ⟨h6_⟩
                 clear HO_200001
                 clear HO_201001
                 clear BK199
                 clear BK200
                 clear HB
                 clear h0_ h1_ h2_ h3_ h4_ h5_ h6_
                 have HO207 := n0_
                 have HO213 := n1_
                 have HO_200001 := n2_
                 have HO_201001 := n3_
                 have BK199 := n4_
                 have BK200 := n5_
                 have HB := n6_
                 clear n0_ n1_ n2_ n3_ n4_ n5_ n6_
                 have hHeld : w45.cell? ⟨gb199, 0, none⟩ = some (.string t191) ∧ w45.cell? ⟨gb199, 1, none⟩ = some (.slice Ao14 t192.length co14) := hS_
                 refine norm_ (a' := ?_) ?_ ?_
                 rotate_left
                 ·simp only [putAll, Act.put, List.setIfInBounds_toArray, List.set_cons_zero, List.set_cons_succ]
                  rfl
                 refine two_ (i := 5) (j := 12) (Ni := some 46) (Nj := some 9) #[true, true, true, true, true, true, true, true, true, true, false, false, false, false] #[true, true, true, true, true, false, true, true, true, true, false, false, true, false] rfl rfl rfl rfl (two_of HT_.out (by kernel_rfl)) (by decide) (by decide) (fun K hK => ?_) (fun K hK => ?_)
                 ·skip
                  refine Kd.R_append_rows_step (Kd.int .i64) (w0 := w) w.heap.size (by rfl) (.tmp 43) (.tmp 45) 23 3 (.int .i64 0) 8 rfl Try.underlying23 info3 rfl (by decide) (by omega) v206 y205 t192 _ _ _ (fun k_ => some k_ ≠ (.slice Ao14 t192.length co14 : Value).ownBlock ∧ some k_ ≠ (.slice Ao16 t196.length co16 : Value).ownBlock ∧ some k_ ≠ (v212 : Value).ownBlock) (fun _ => False) rfl rfl ?aO ?aR (fun _ _ h => h) (fun _ h => h.elim) ?aF ?aB ?aS ?aL ?_
                  (case aR => exact y15 HO_200001.out)
                  (case aB => exact y46 HB.out GE199.out GE200.out)
                  (case aF => exact y24 HO_200001.out HO_201001.out HO213.out)
                  (case aO => exact y37 HO207.out)
                  (case aS => exact y38 HB.out GE199.out GE200.out)
                  (case aL => exact y59 LMc34.out)
                  intro v209 w46 ho hb hg hat
                  rw [← Ny208.out] at ho
                  replace HO_200001 := Aside0.mk (Kd.R_after (ok := (fun k_ => some k_ ≠ (.slice Ao16 t196.length co16 : Value).ownBlock ∧ some k_ ≠ (v212 : Value).ownBlock)) (y29 HO_200001.out) hg hat)
                  replace HO_201001 := Aside0.mk (Kd.R_after (ok := (fun k_ => some k_ ≠ (.slice Ao14 t192.length co14 : Value).ownBlock ∧ some k_ ≠ (v212 : Value).ownBlock)) (y29 HO_201001.out) hg hat)
                  replace BK199 := Aside0.mk (blk_grown (g := gb199) (o := .cells #[.string t191, .slice Ao14 t192.length co14] 25 (0, 0)) (y2 BK199.out) hg (Kd.R_ne HO207.out BK199.out (by decide)))
                  replace BK200 := Aside0.mk (blk_grown (g := gb200) (o := .cells #[.string t195, .slice Ao16 t196.length co16] 25 (0, 0)) (y2 BK200.out) hg (Kd.R_ne HO207.out BK200.out (by decide)))
                  replace HO213 := Aside0.mk (Kd.R_after (ok := (fun k_ => some k_ ≠ (.slice Ao14 t192.length co14 : Value).ownBlock ∧ some k_ ≠ (.slice Ao16 t196.length co16 : Value).ownBlock)) (y40 HO213.out) hg hat)
                  replace HB := Aside0.mk (hb)
                  have HO210 := Aside0.mk (ho)
                  clear HO207
                  clear ho hb hg hat
                  refine hK.out _ _ ⟨(blk_cell BK199.out 0).trans rfl, (blk_cell BK199.out 1).trans rfl⟩ (fun hHeld => ?_)
                  clear hK K
                  refine norm_ (a' := ?_) ?_ ?_
                  rotate_left
                  ·show Act.put _ (some 46) _ = _
                   simp only [Act.put, List.setIfInBounds_toArray, List.set_cons_zero, List.set_cons_succ, i64_w, i32_w]
                   rfl
                  exact norm_ y11 (hJ2_5_9 (v206, v209, v212) _ ⟨hHeld, (y41 HO210.out), (y21 HO213.out), (y42 HO_200001.out), (y42 HO_201001.out), (y2 BK199.out), (y2 BK200.out), (y1 HB.out GE199.out GE200.out)⟩)
                 ·skip
                  refine box_step ?hg (N := 9) ?hd (cs := #[.string (⟨#[]⟩ : ByteArray), .slice none 0 0]) (t := 25) ?hr ?_; (case hd => rfl); (case hg => rfl); (case hr => first | (go_simp; done) | (go_simp; rfl))
                  intro gb217 hg w46 hbox hb
                  replace HO_200001 := Aside0.mk (Kd.R_below (y0 HO_200001.out) hb)
                  replace HO_201001 := Aside0.mk (Kd.R_below (y0 HO_201001.out) hb)
                  replace HO207 := Aside0.mk (Kd.R_below (y0 HO207.out) hb)
                  replace HO213 := Aside0.mk (Kd.R_below (y0 HO213.out) hb)
                  have BK217 := Aside0.mk hbox
                  have GW217 := Aside0.mk ((y18 hg HB.out GE199.out GE200.out : w.heap.size ≤ gb217))
                  have GE217 := Aside0.mk ((y18 hg HB.out GE199.out GE200.out : w.heap.size ≤ gb217))
                  replace HB := Aside0.mk (below_step (y1 HB.out GE199.out GE200.out) hb)
                  have NB199_217 := zltn hg BK199
                  have NB217_199 := zgtn hg BK199
                  replace BK199 := zbb BK199 hb
                  have NB200_217 := zltn hg BK200
                  have NB217_200 := zgtn hg BK200
                  replace BK200 := zbb BK200 hb
                  clear hb hbox hg
                  refine hK.out _ _ ⟨(blk_cell BK199.out 0).trans rfl, (blk_cell BK199.out 1).trans rfl⟩ (fun hHeld => ?_)
                  clear hK K
                  refine norm_ (a' := ?_) ?_ ?_
                  rotate_left
                  ·show Act.put _ (some 9) _ = _
                   simp only [Act.put, List.setIfInBounds_toArray, List.set_cons_zero, List.set_cons_succ, i64_w, i32_w]
                   rfl
                  exact norm_ y11 (hJ2_9_12 (v206, v212, gb217) _ ⟨hHeld, (y0 HO207.out), (y0 HO213.out), (y0 HO_200001.out), (y0 HO_201001.out), (y2 BK199.out), (y2 BK200.out), (y2 BK217.out), GW217.out, GE217.out, NB199_217.out, NB217_199.out, NB200_217.out, NB217_200.out, (y5 HB.out GE199.out GE200.out GE217.out)⟩)
               ·skip
                rintro ⟨v206, v209⟩ w44 ⟨hS_, h0_, h1_, h2_, h3_, h4_, h5_⟩
                have n0_ : Aside0 (Kd.R (Kd.int .i64) 3 w44 w.heap.size (fun k_ => some k_ ≠ (.slice Ao14 t192.length co14 : Value).ownBlock ∧ some k_ ≠ (.slice Ao16 t196.length co16 : Value).ownBlock) v209 y208) := ⟨h0_⟩
                have n1_ : Aside0 (Kd.R (Kd.int .i64) 3 w44 w.heap.size (fun k_ => some k_ ≠ (v209 : Value).ownBlock ∧ some k_ ≠ (.slice Ao16 t196.length co16 : Value).ownBlock) (.slice Ao14 t192.length co14) t192) := ⟨h1_⟩
                have n2_ : Aside0 (Kd.R (Kd.int .i64) 3 w44 w.heap.size (fun k_ => some k_ ≠ (v209 : Value).ownBlock ∧ some k_ ≠ (.slice Ao14 t192.length co14 : Value).ownBlock) (.slice Ao16 t196.length co16) t196) := ⟨h2_⟩
                have n3_ : Aside0 (w44.heap[gb199]? = some (.cells #[.string t191, .slice Ao14 t192.length co14] 25 (0, 0))) := ⟨h3_⟩
                have n4_ : Aside0 (w44.heap[gb200]? = some (.cells #[.string t195, .slice Ao16 t196.length co16] 25 (0, 0))) := ⟨h4_⟩
                have n5_ : Aside0 (Below w.heap.size w w44) := ⟨h5_⟩
                clear HO_200001
                clear HO_201001
                clear BK199
                clear BK200
                clear HB
                clear h0_ h1_ h2_ h3_ h4_ h5_
                have HO210 := n0_
                have HO_200001 := n1_
                have HO_201001 := n2_
                have BK199 := n3_
                have BK200 := n4_
                have HB := n5_
                clear n0_ n1_ n2_ n3_ n4_ n5_
                have hHeld : w44.cell? ⟨gb199, 0, none⟩ = some (.string t191) ∧ w44.cell? ⟨gb199, 1, none⟩ = some (.slice Ao14 t192.length co14) := hS_
                refine norm_ (a' := ?_) ?_ ?_
                rotate_left
                ·simp only [putAll, Act.put, List.setIfInBounds_toArray, List.set_cons_zero, List.set_cons_succ]
                 rfl
                refine two_ (i := 9) (j := 12) (Ni := some 50) (Nj := some 9) #[true, true, true, true, true, true, true, true, true, true, false, false, false, false] #[true, true, true, true, true, true, true, true, true, false, false, false, true, false] rfl rfl rfl rfl (two_of HT_.out (by kernel_rfl)) (by decide) (by decide) (fun K hK => ?_) (fun K hK => ?_)
                ·skip
                 refine Kd.R_lit_step (Kd.int .i64) _ 3 ?hg (N := 50) ?hd (xs := ([(l1.length : Int) % 2] : List Int)) (inner := [.int .i64 ((l1.length : Int) % 2)]) (ok := fun _ => True) (okp := fun _ => True) ?hr ?hp (fun _ hk => hk) trivial (Below.refl _ _) (Nat.le_refl _) (by simp) ?_; (case hd => rfl); (case hg => rfl); (case hr => first | (go_simp; done) | (go_simp; rfl)); (case hp => exact (Reps.one (show Kd.M (Kd.int .i64) _ _ _ ((l1.length : Int) % 2) [.int .i64 ((l1.length : Int) % 2)] from rfl) (Reps.none _ _)))
                 intro v212 w45 ho46 hb hg_ hnew_
                 clear hg_ hnew_
                 (first | rw [← Ny211.out] at ho46 | (simp only [Int.reduceToNat] at ho46; rw [← Ny211.out] at ho46))
                 have HO213 := Aside0.mk (Kd.R_lower (Kd.R_new' (Kd.R_new' (Kd.R_new' ho46 (Kd.R_lt (y0 HO_200001.out))) (Kd.R_lt (y0 HO_201001.out))) (Kd.R_lt (y0 HO210.out))) (below_size (y1 HB.out GE199.out GE200.out)))
                 replace HO_200001 := Aside0.mk (Kd.R_elder' (y0 HO_200001.out) (Kd.R_base ho46) hb)
                 replace HO_201001 := Aside0.mk (Kd.R_elder' (y0 HO_201001.out) (Kd.R_base ho46) hb)
                 replace HO210 := Aside0.mk (Kd.R_elder' (y0 HO210.out) (Kd.R_base ho46) hb)
                 replace BK199 := zbb BK199 hb
                 replace BK200 := zbb BK200 hb
                 replace HB := Aside0.mk (below_step (y1 HB.out GE199.out GE200.out) hb)
                 clear hb ho46
                 refine hK.out _ _ ⟨(blk_cell BK199.out 0).trans rfl, (blk_cell BK199.out 1).trans rfl⟩ (fun hHeld => ?_)
                 clear hK K
                 refine norm_ (a' := ?_) ?_ ?_
                 rotate_left
                 ·show Act.put _ (some 50) _ = _
                  simp only [Act.put, List.setIfInBounds_toArray, List.set_cons_zero, List.set_cons_succ, i64_w, i32_w]
                  rfl
                 exact norm_ y11 (hJ2_5_9 (v206, v209, v212) _ ⟨hHeld, (y21 HO210.out), (y34 HO213.out), (y28 HO_200001.out), (y28 HO_201001.out), (y2 BK199.out), (y2 BK200.out), (y1 HB.out GE199.out GE200.out)⟩)
                ·skip
                 refine box_step ?hg (N := 9) ?hd (cs := #[.string (⟨#[]⟩ : ByteArray), .slice none 0 0]) (t := 25) ?hr ?_; (case hd => rfl); (case hg => rfl); (case hr => first | (go_simp; done) | (go_simp; rfl))
                 intro gb217 hg w45 hbox hb
                 replace HO_200001 := Aside0.mk (Kd.R_below (y0 HO_200001.out) hb)
                 replace HO_201001 := Aside0.mk (Kd.R_below (y0 HO_201001.out) hb)
                 replace HO210 := Aside0.mk (Kd.R_below (y0 HO210.out) hb)
                 have BK217 := Aside0.mk hbox
                 have GW217 := Aside0.mk ((y18 hg HB.out GE199.out GE200.out : w.heap.size ≤ gb217))
                 have GE217 := Aside0.mk ((y18 hg HB.out GE199.out GE200.out : w.heap.size ≤ gb217))
                 replace HB := Aside0.mk (below_step (y1 HB.out GE199.out GE200.out) hb)
                 have NB199_217 := zltn hg BK199
                 have NB217_199 := zgtn hg BK199
                 replace BK199 := zbb BK199 hb
                 have NB200_217 := zltn hg BK200
                 have NB217_200 := zgtn hg BK200
                 replace BK200 := zbb BK200 hb
                 clear hb hbox hg
                 refine hK.out _ _ ⟨(blk_cell BK199.out 0).trans rfl, (blk_cell BK199.out 1).trans rfl⟩ (fun hHeld => ?_)
                 clear hK K
                 refine norm_ (a' := ?_) ?_ ?_
                 rotate_left
                 ·show Act.put _ (some 9) _ = _
                  simp only [Act.put, List.setIfInBounds_toArray, List.set_cons_zero, List.set_cons_succ, i64_w, i32_w]
                  rfl
                 exact norm_ y11 (hJ2_5_12 (v206, v209, gb217) _ ⟨hHeld, (y0 HO210.out), (y0 HO_200001.out), (y0 HO_201001.out), (y2 BK199.out), (y2 BK200.out), (y2 BK217.out), GW217.out, GE217.out, NB199_217.out, NB217_199.out, NB200_217.out, NB217_200.out, (y5 HB.out GE199.out GE200.out GE217.out)⟩)
              ·skip
               rintro ⟨v206, v212, gb217⟩ w46 ⟨hS_, h0_, h1_, h2_, h3_, h4_, h5_, h6_, h7_, h8_, h9_, h10_, h11_, h12_, h13_⟩
               have n0_ : Aside0 (Kd.R (Kd.int .i64) 3 w46 w.heap.size (fun k_ => some k_ ≠ (v212 : Value).ownBlock ∧ some k_ ≠ (.slice Ao14 t192.length co14 : Value).ownBlock ∧ some k_ ≠ (.slice Ao16 t196.length co16 : Value).ownBlock) v206 y205) := ⟨h0_⟩
               have n1_ : Aside0 (Kd.R (Kd.int .i64) 3 w46 w.heap.size (fun k_ => some k_ ≠ (v206 : Value).ownBlock ∧ some k_ ≠ (.slice Ao14 t192.length co14 : Value).ownBlock ∧ some k_ ≠ (.slice Ao16 t196.length co16 : Value).ownBlock) v212 y211) := ⟨h1_⟩
               have n2_ : Aside0 (Kd.R (Kd.int .i64) 3 w46 w.heap.size (fun k_ => some k_ ≠ (v206 : Value).ownBlock ∧ some k_ ≠ (v212 : Value).ownBlock ∧ some k_ ≠ (.slice Ao16 t196.length co16 : Value).ownBlock) (.slice Ao14 t192.length co14) t192) := ⟨h2_⟩
               have n3_ : Aside0 (Kd.R (Kd.int .i64) 3 w46 w.heap.size (fun k_ => some k_ ≠ (v206 : Value).ownBlock ∧ some k_ ≠ (v212 : Value).ownBlock ∧ some k_ ≠ (.slice Ao14 t192.length co14 : Value).ownBlock) (.slice Ao16 t196.length co16) t196) := ⟨h3_⟩
               have n4_ : Aside0 (w46.heap[gb199]? = some (.cells #[.string t191, .slice Ao14 t192.length co14] 25 (0, 0))) := ⟨h4_⟩
               have n5_ : Aside0 (w46.heap[gb200]? = some (.cells #[.string t195, .slice Ao16 t196.length co16] 25 (0, 0))) := ⟨h5_⟩
               have n6_ : Aside0 (w46.heap[gb217]? = some (.cells #[.string (⟨#[]⟩ : ByteArray), .slice none 0 0] 25 (0, 0))) := ⟨h6_⟩
               have n7_ : Aside0 (w.heap.size ≤ gb217) := ⟨h7_⟩
               have n8_ : Aside0 (w.heap.size ≤ gb217) := ⟨h8_⟩
               have n9_ : Aside0 (gb199 ≠ gb217) := ⟨h9_⟩
               have n10_ : Aside0 (gb217 ≠ gb199) := ⟨h10_⟩
               have n11_ : Aside0 (gb200 ≠ gb217) := ⟨h11_⟩
               have n12_ : Aside0 (gb217 ≠ gb200) := ⟨h12_⟩
               have n13_ : Aside0 (Below w.heap.size w w46) := ⟨h13_⟩
               clear HO_200001
               clear HO_201001
               clear BK199
               clear BK200
               clear HB
               clear h0_ h1_ h2_ h3_ h4_ h5_ h6_ h7_ h8_ h9_ h10_ h11_ h12_ h13_
               have HO207 := n0_
               have HO213 := n1_
               have HO_200001 := n2_
               have HO_201001 := n3_
               have BK199 := n4_
               have BK200 := n5_
               have BK217 := n6_
               have GW217 := n7_
               have GE217 := n8_
               have NB199_217 := n9_
               have NB217_199 := n10_
               have NB200_217 := n11_
               have NB217_200 := n12_
               have HB := n13_
               clear n0_ n1_ n2_ n3_ n4_ n5_ n6_ n7_ n8_ n9_ n10_ n11_ n12_ n13_
               have hHeld : w46.cell? ⟨gb199, 0, none⟩ = some (.string t191) ∧ w46.cell? ⟨gb199, 1, none⟩ = some (.slice Ao14 t192.length co14) := hS_
               refine norm_ (a' := ?_) ?_ ?_
               rotate_left
               ·simp only [putAll, Act.put, List.setIfInBounds_toArray, List.set_cons_zero, List.set_cons_succ]
                rfl
               refine one_ (i := 5) (N := some 46) #[true, true, true, true, true, true, true, true, true, true, false, false, true, false] rfl rfl (one_of HT_.out (by kernel_rfl)) (by decide) (fun K hK => ?_)
               refine Kd.R_append_rows_step (Kd.int .i64) (w0 := w) w.heap.size (by rfl) (.tmp 43) (.tmp 45) 23 3 (.int .i64 0) 8 rfl Try.underlying23 info3 rfl (by decide) (by omega) v206 y205 t192 _ _ _ (fun k_ => some k_ ≠ (.slice Ao14 t192.length co14 : Value).ownBlock ∧ some k_ ≠ (.slice Ao16 t196.length co16 : Value).ownBlock ∧ some k_ ≠ (v212 : Value).ownBlock) (fun _ => False) rfl rfl ?aO ?aR (fun _ _ h => h) (fun _ h => h.elim) ?aF ?aB ?aS ?aL ?_
               (case aR => exact y15 HO_200001.out)
               (case aB => exact y36 HB.out GE199.out GE200.out GE217.out)
               (case aF => exact y24 HO_200001.out HO_201001.out HO213.out)
               (case aO => exact y37 HO207.out)
               (case aS => exact y35 HB.out GE199.out GE200.out GE217.out)
               (case aL => exact y59 LMc34.out)
               intro v209 w47 ho hb hg hat
               rw [← Ny208.out] at ho
               replace HO_200001 := Aside0.mk (Kd.R_after (ok := (fun k_ => some k_ ≠ (.slice Ao16 t196.length co16 : Value).ownBlock ∧ some k_ ≠ (v212 : Value).ownBlock)) (y29 HO_200001.out) hg hat)
               replace HO_201001 := Aside0.mk (Kd.R_after (ok := (fun k_ => some k_ ≠ (.slice Ao14 t192.length co14 : Value).ownBlock ∧ some k_ ≠ (v212 : Value).ownBlock)) (y29 HO_201001.out) hg hat)
               replace BK199 := Aside0.mk (blk_grown (g := gb199) (o := .cells #[.string t191, .slice Ao14 t192.length co14] 25 (0, 0)) (y2 BK199.out) hg (Kd.R_ne HO207.out BK199.out (by decide)))
               replace BK200 := Aside0.mk (blk_grown (g := gb200) (o := .cells #[.string t195, .slice Ao16 t196.length co16] 25 (0, 0)) (y2 BK200.out) hg (Kd.R_ne HO207.out BK200.out (by decide)))
               replace HO213 := Aside0.mk (Kd.R_after (ok := (fun k_ => some k_ ≠ (.slice Ao14 t192.length co14 : Value).ownBlock ∧ some k_ ≠ (.slice Ao16 t196.length co16 : Value).ownBlock)) (y40 HO213.out) hg hat)
               replace BK217 := Aside0.mk (blk_grown (g := gb217) (o := .cells #[.string (⟨#[]⟩ : ByteArray), .slice none 0 0] 25 (0, 0)) (y2 BK217.out) hg (Kd.R_ne HO207.out BK217.out (by decide)))
               replace HB := Aside0.mk (hb)
               have HO210 := Aside0.mk (ho)
               clear HO207
               clear ho hb hg hat
               refine hK.out _ _ ⟨(blk_cell BK199.out 0).trans rfl, (blk_cell BK199.out 1).trans rfl⟩ (fun hHeld => ?_)
               clear hK K
               refine norm_ (a' := ?_) ?_ ?_
               rotate_left
               ·show Act.put _ (some 46) _ = _
                simp only [Act.put, List.setIfInBounds_toArray, List.set_cons_zero, List.set_cons_succ, i64_w, i32_w]
                rfl
               exact norm_ y11 (hJ2_5_9_12 (v206, v209, v212, gb217) _ ⟨hHeld, (y41 HO210.out), (y21 HO213.out), (y42 HO_200001.out), (y42 HO_201001.out), (y2 BK199.out), (y2 BK200.out), (y2 BK217.out), GW217.out, GE217.out, NB199_217.out, NB217_199.out, NB200_217.out, NB217_200.out, (y5 HB.out GE199.out GE200.out GE217.out)⟩)
             ·skip
              rintro ⟨v206, v209, gb217⟩ w45 ⟨hS_, h0_, h1_, h2_, h3_, h4_, h5_, h6_, h7_, h8_, h9_, h10_, h11_, h12_⟩
              have n0_ : Aside0 (Kd.R (Kd.int .i64) 3 w45 w.heap.size (fun k_ => some k_ ≠ (.slice Ao14 t192.length co14 : Value).ownBlock ∧ some k_ ≠ (.slice Ao16 t196.length co16 : Value).ownBlock) v209 y208) := ⟨h0_⟩
              have n1_ : Aside0 (Kd.R (Kd.int .i64) 3 w45 w.heap.size (fun k_ => some k_ ≠ (v209 : Value).ownBlock ∧ some k_ ≠ (.slice Ao16 t196.length co16 : Value).ownBlock) (.slice Ao14 t192.length co14) t192) := ⟨h1_⟩
              have n2_ : Aside0 (Kd.R (Kd.int .i64) 3 w45 w.heap.size (fun k_ => some k_ ≠ (v209 : Value).ownBlock ∧ some k_ ≠ (.slice Ao14 t192.length co14 : Value).ownBlock) (.slice Ao16 t196.length co16) t196) := ⟨h2_⟩
              have n3_ : Aside0 (w45.heap[gb199]? = some (.cells #[.string t191, .slice Ao14 t192.length co14] 25 (0, 0))) := ⟨h3_⟩
              have n4_ : Aside0 (w45.heap[gb200]? = some (.cells #[.string t195, .slice Ao16 t196.length co16] 25 (0, 0))) := ⟨h4_⟩
              have n5_ : Aside0 (w45.heap[gb217]? = some (.cells #[.string (⟨#[]⟩ : ByteArray), .slice none 0 0] 25 (0, 0))) := ⟨h5_⟩
              have n6_ : Aside0 (w.heap.size ≤ gb217) := ⟨h6_⟩
              have n7_ : Aside0 (w.heap.size ≤ gb217) := ⟨h7_⟩
              have n8_ : Aside0 (gb199 ≠ gb217) := ⟨h8_⟩
              have n9_ : Aside0 (gb217 ≠ gb199) := ⟨h9_⟩
              have n10_ : Aside0 (gb200 ≠ gb217) := ⟨h10_⟩
              have n11_ : Aside0 (gb217 ≠ gb200) := ⟨h11_⟩
              have n12_ : Aside0 (Below w.heap.size w w45) := ⟨h12_⟩
              clear HO_200001
              clear HO_201001
              clear BK199
              clear BK200
              clear HB
              clear h0_ h1_ h2_ h3_ h4_ h5_ h6_ h7_ h8_ h9_ h10_ h11_ h12_
              have HO210 := n0_
              have HO_200001 := n1_
              have HO_201001 := n2_
              have BK199 := n3_
              have BK200 := n4_
              have BK217 := n5_
              have GW217 := n6_
              have GE217 := n7_
              have NB199_217 := n8_
              have NB217_199 := n9_
              have NB200_217 := n10_
              have NB217_200 := n11_
              have HB := n12_
              clear n0_ n1_ n2_ n3_ n4_ n5_ n6_ n7_ n8_ n9_ n10_ n11_ n12_
              have hHeld : w45.cell? ⟨gb199, 0, none⟩ = some (.string t191) ∧ w45.cell? ⟨gb199, 1, none⟩ = some (.slice Ao14 t192.length co14) := hS_
              refine norm_ (a' := ?_) ?_ ?_
              rotate_left
              ·simp only [putAll, Act.put, List.setIfInBounds_toArray, List.set_cons_zero, List.set_cons_succ]
               rfl
              refine one_ (i := 9) (N := some 50) #[true, true, true, true, true, true, true, true, true, true, false, false, true, false] rfl rfl (one_of HT_.out (by kernel_rfl)) (by decide) (fun K hK => ?_)
              refine Kd.R_lit_step (Kd.int .i64) _ 3 ?hg (N := 50) ?hd (xs := ([(l1.length : Int) % 2] : List Int)) (inner := [.int .i64 ((l1.length : Int) % 2)]) (ok := fun _ => True) (okp := fun _ => True) ?hr ?hp (fun _ hk => hk) trivial (Below.refl _ _) (Nat.le_refl _) (by simp) ?_; (case hd => rfl); (case hg => rfl); (case hr => first | (go_simp; done) | (go_simp; rfl)); (case hp => exact (Reps.one (show Kd.M (Kd.int .i64) _ _ _ ((l1.length : Int) % 2) [.int .i64 ((l1.length : Int) % 2)] from rfl) (Reps.none _ _)))
              intro v212 w46 ho47 hb hg_ hnew_
              clear hg_ hnew_
              (first | rw [← Ny211.out] at ho47 | (simp only [Int.reduceToNat] at ho47; rw [← Ny211.out] at ho47))
              have HO213 := Aside0.mk (Kd.R_lower (Kd.R_new' (Kd.R_new' (Kd.R_new' ho47 (Kd.R_lt (y0 HO_200001.out))) (Kd.R_lt (y0 HO_201001.out))) (Kd.R_lt (y0 HO210.out))) (below_size (y5 HB.out GE199.out GE200.out GE217.out)))
              replace HO_200001 := Aside0.mk (Kd.R_elder' (y0 HO_200001.out) (Kd.R_base ho47) hb)
              replace HO_201001 := Aside0.mk (Kd.R_elder' (y0 HO_201001.out) (Kd.R_base ho47) hb)
              replace HO210 := Aside0.mk (Kd.R_elder' (y0 HO210.out) (Kd.R_base ho47) hb)
              replace BK199 := zbb BK199 hb
              replace BK200 := zbb BK200 hb
              replace BK217 := zbb BK217 hb
              replace HB := Aside0.mk (below_step (y5 HB.out GE199.out GE200.out GE217.out) hb)
              clear hb ho47
              refine hK.out _ _ ⟨(blk_cell BK199.out 0).trans rfl, (blk_cell BK199.out 1).trans rfl⟩ (fun hHeld => ?_)
              clear hK K
              refine norm_ (a' := ?_) ?_ ?_
              rotate_left
              ·show Act.put _ (some 50) _ = _
               simp only [Act.put, List.setIfInBounds_toArray, List.set_cons_zero, List.set_cons_succ, i64_w, i32_w]
               rfl
              exact norm_ y11 (hJ2_5_9_12 (v206, v209, v212, gb217) _ ⟨hHeld, (y21 HO210.out), (y34 HO213.out), (y28 HO_200001.out), (y28 HO_201001.out), (y2 BK199.out), (y2 BK200.out), (y2 BK217.out), GW217.out, GE217.out, NB199_217.out, NB217_199.out, NB200_217.out, NB217_200.out, (y5 HB.out GE199.out GE200.out GE217.out)⟩)
            ·skip
             rintro ⟨v206, v209, v212⟩ w46 ⟨hS_, h0_, h1_, h2_, h3_, h4_, h5_, h6_⟩
             have n0_ : Aside0 (Kd.R (Kd.int .i64) 3 w46 w.heap.size (fun k_ => some k_ ≠ (v212 : Value).ownBlock ∧ some k_ ≠ (.slice Ao14 t192.length co14 : Value).ownBlock ∧ some k_ ≠ (.slice Ao16 t196.length co16 : Value).ownBlock) v209 y208) := ⟨h0_⟩
             have n1_ : Aside0 (Kd.R (Kd.int .i64) 3 w46 w.heap.size (fun k_ => some k_ ≠ (v209 : Value).ownBlock ∧ some k_ ≠ (.slice Ao14 t192.length co14 : Value).ownBlock ∧ some k_ ≠ (.slice Ao16 t196.length co16 : Value).ownBlock) v212 y211) := ⟨h1_⟩
             have n2_ : Aside0 (Kd.R (Kd.int .i64) 3 w46 w.heap.size (fun k_ => some k_ ≠ (v209 : Value).ownBlock ∧ some k_ ≠ (v212 : Value).ownBlock ∧ some k_ ≠ (.slice Ao16 t196.length co16 : Value).ownBlock) (.slice Ao14 t192.length co14) t192) := ⟨h2_⟩
             have n3_ : Aside0 (Kd.R (Kd.int .i64) 3 w46 w.heap.size (fun k_ => some k_ ≠ (v209 : Value).ownBlock ∧ some k_ ≠ (v212 : Value).ownBlock ∧ some k_ ≠ (.slice Ao14 t192.length co14 : Value).ownBlock) (.slice Ao16 t196.length co16) t196) := ⟨h3_⟩
             have n4_ : Aside0 (w46.heap[gb199]? = some (.cells #[.string t191, .slice Ao14 t192.length co14] 25 (0, 0))) := ⟨h4_⟩
             have n5_ : Aside0 (w46.heap[gb200]? = some (.cells #[.string t195, .slice Ao16 t196.length co16] 25 (0, 0))) := ⟨h5_⟩
             have n6_ : Aside0 (Below w.heap.size w w46) := ⟨h6_⟩
             clear HO_200001
             clear HO_201001
             clear BK199
             clear BK200
             clear HB
             clear h0_ h1_ h2_ h3_ h4_ h5_ h6_
             have HO210 := n0_
             have HO213 := n1_
             have HO_200001 := n2_
             have HO_201001 := n3_
             have BK199 := n4_
             have BK200 := n5_
             have HB := n6_
             clear n0_ n1_ n2_ n3_ n4_ n5_ n6_
             have hHeld : w46.cell? ⟨gb199, 0, none⟩ = some (.string t191) ∧ w46.cell? ⟨gb199, 1, none⟩ = some (.slice Ao14 t192.length co14) := hS_
             refine norm_ (a' := ?_) ?_ ?_
             rotate_left
             ·simp only [putAll, Act.put, List.setIfInBounds_toArray, List.set_cons_zero, List.set_cons_succ]
              rfl
             refine two_ (i := 10) (j := 12) (Ni := some 51) (Nj := some 9) #[true, true, true, true, true, true, true, true, true, true, true, false, false, false] #[true, true, true, true, true, true, true, true, true, true, false, false, true, false] rfl rfl rfl rfl (two_of HT_.out (by kernel_rfl)) (by decide) (by decide) (fun K hK => ?_) (fun K hK => ?_)
             ·skip
              obtain ⟨Ao48, co48, eo48⟩ := Kd.R_slice HO213.out
              (first | subst eo48 | (injection eo48 with f1_ f2_ f3_; have f4_ := f1_.symm; have f5_ := f3_.symm; clear f1_ f2_ f3_; subst f4_; subst f5_))
              refine Kd.R_append_rows_step (Kd.int .i64) (w0 := w) w.heap.size (by rfl) (.tmp 46) (.tmp 50) 23 3 (.int .i64 0) 8 rfl Try.underlying23 info3 rfl (by decide) (by omega) v209 y208 y211 _ _ _ (fun k_ => some k_ ≠ (.slice Ao14 t192.length co14 : Value).ownBlock ∧ some k_ ≠ (.slice Ao16 t196.length co16 : Value).ownBlock ∧ some k_ ≠ (.slice Ao48 y211.length co48 : Value).ownBlock) (fun _ => False) rfl rfl ?aO ?aR (fun _ _ h => h) (fun _ h => h.elim) ?aF ?aB ?aS ?aL ?_
              (case aR => exact y15 HO213.out)
              (case aB => exact y46 HB.out GE199.out GE200.out)
              (case aF => exact y24 HO_200001.out HO_201001.out HO213.out)
              (case aO => exact y37 HO210.out)
              (case aS => exact y38 HB.out GE199.out GE200.out)
              (case aL => exact y59 LMc35.out)
              intro v215 w47 ho hb hg hat
              rw [← Ny214.out] at ho
              replace HO_200001 := Aside0.mk (Kd.R_after (ok := (fun k_ => some k_ ≠ (.slice Ao16 t196.length co16 : Value).ownBlock ∧ some k_ ≠ (.slice Ao48 y211.length co48 : Value).ownBlock)) (y29 HO_200001.out) hg hat)
              replace HO_201001 := Aside0.mk (Kd.R_after (ok := (fun k_ => some k_ ≠ (.slice Ao14 t192.length co14 : Value).ownBlock ∧ some k_ ≠ (.slice Ao48 y211.length co48 : Value).ownBlock)) (y29 HO_201001.out) hg hat)
              replace BK199 := Aside0.mk (blk_grown (g := gb199) (o := .cells #[.string t191, .slice Ao14 t192.length co14] 25 (0, 0)) (y2 BK199.out) hg (Kd.R_ne HO210.out BK199.out (by decide)))
              replace BK200 := Aside0.mk (blk_grown (g := gb200) (o := .cells #[.string t195, .slice Ao16 t196.length co16] 25 (0, 0)) (y2 BK200.out) hg (Kd.R_ne HO210.out BK200.out (by decide)))
              replace HO213 := Aside0.mk (Kd.R_after (ok := (fun k_ => some k_ ≠ (.slice Ao14 t192.length co14 : Value).ownBlock ∧ some k_ ≠ (.slice Ao16 t196.length co16 : Value).ownBlock)) (y40 HO213.out) hg hat)
              replace HB := Aside0.mk (hb)
              have HO216 := Aside0.mk (ho)
              clear HO210
              clear ho hb hg hat
              obtain ⟨Ao49, co49, eo49⟩ := Kd.R_slice HO216.out
              (first | subst eo49 | (injection eo49 with f1_ f2_ f3_; have f4_ := f1_.symm; have f5_ := f3_.symm; clear f1_ f2_ f3_; subst f4_; subst f5_))
              refine hK.out _ _ ⟨(blk_cell BK199.out 0).trans rfl, (blk_cell BK199.out 1).trans rfl⟩ (fun hHeld => ?_)
              clear hK K
              refine norm_ (a' := ?_) ?_ ?_
              rotate_left
              ·show Act.put _ (some 51) _ = _
               simp only [Act.put, List.setIfInBounds_toArray, List.set_cons_zero, List.set_cons_succ, i64_w, i32_w]
               rfl
              refine zp 11 (some 52) HT_ ?_
              exact norm_ y11 (hJ2_5_9_10 (v206, v209, .slice Ao48 y211.length co48, .slice Ao49 y214.length co49) _ ⟨hHeld, (y21 HO213.out), (y41 HO216.out), (y43 HO_200001.out), (y43 HO_201001.out), (y2 BK199.out), (y2 BK200.out), (y1 HB.out GE199.out GE200.out)⟩)
             ·skip
              refine box_step ?hg (N := 9) ?hd (cs := #[.string (⟨#[]⟩ : ByteArray), .slice none 0 0]) (t := 25) ?hr ?_; (case hd => rfl); (case hg => rfl); (case hr => first | (go_simp; done) | (go_simp; rfl))
              intro gb217 hg w47 hbox hb
              replace HO_200001 := Aside0.mk (Kd.R_below (y0 HO_200001.out) hb)
              replace HO_201001 := Aside0.mk (Kd.R_below (y0 HO_201001.out) hb)
              replace HO210 := Aside0.mk (Kd.R_below (y0 HO210.out) hb)
              replace HO213 := Aside0.mk (Kd.R_below (y0 HO213.out) hb)
              have BK217 := Aside0.mk hbox
              have GW217 := Aside0.mk ((y18 hg HB.out GE199.out GE200.out : w.heap.size ≤ gb217))
              have GE217 := Aside0.mk ((y18 hg HB.out GE199.out GE200.out : w.heap.size ≤ gb217))
              replace HB := Aside0.mk (below_step (y1 HB.out GE199.out GE200.out) hb)
              have NB199_217 := zltn hg BK199
              have NB217_199 := zgtn hg BK199
              replace BK199 := zbb BK199 hb
              have NB200_217 := zltn hg BK200
              have NB217_200 := zgtn hg BK200
              replace BK200 := zbb BK200 hb
              clear hb hbox hg
              refine hK.out _ _ ⟨(blk_cell BK199.out 0).trans rfl, (blk_cell BK199.out 1).trans rfl⟩ (fun hHeld => ?_)
              clear hK K
              refine norm_ (a' := ?_) ?_ ?_
              rotate_left
              ·show Act.put _ (some 9) _ = _
               simp only [Act.put, List.setIfInBounds_toArray, List.set_cons_zero, List.set_cons_succ, i64_w, i32_w]
               rfl
              exact norm_ y11 (hJ2_5_9_12 (v206, v209, v212, gb217) _ ⟨hHeld, (y0 HO210.out), (y0 HO213.out), (y0 HO_200001.out), (y0 HO_201001.out), (y2 BK199.out), (y2 BK200.out), (y2 BK217.out), GW217.out, GE217.out, NB199_217.out, NB217_199.out, NB200_217.out, NB217_200.out, (y5 HB.out GE199.out GE200.out GE217.out)⟩)
           ·skip
            rintro ⟨v206, v209, v212, gb217⟩ w47 ⟨hS_, h0_, h1_, h2_, h3_, h4_, h5_, h6_, h7_, h8_, h9_, h10_, h11_, h12_, h13_⟩
            have n0_ : Aside0 (Kd.R (Kd.int .i64) 3 w47 w.heap.size (fun k_ => some k_ ≠ (v212 : Value).ownBlock ∧ some k_ ≠ (.slice Ao14 t192.length co14 : Value).ownBlock ∧ some k_ ≠ (.slice Ao16 t196.length co16 : Value).ownBlock) v209 y208) := ⟨h0_⟩
            have n1_ : Aside0 (Kd.R (Kd.int .i64) 3 w47 w.heap.size (fun k_ => some k_ ≠ (v209 : Value).ownBlock ∧ some k_ ≠ (.slice Ao14 t192.length co14 : Value).ownBlock ∧ some k_ ≠ (.slice Ao16 t196.length co16 : Value).ownBlock) v212 y211) := ⟨h1_⟩
            have n2_ : Aside0 (Kd.R (Kd.int .i64) 3 w47 w.heap.size (fun k_ => some k_ ≠ (v209 : Value).ownBlock ∧ some k_ ≠ (v212 : Value).ownBlock ∧ some k_ ≠ (.slice Ao16 t196.length co16 : Value).ownBlock) (.slice Ao14 t192.length co14) t192) := ⟨h2_⟩
            have n3_ : Aside0 (Kd.R (Kd.int .i64) 3 w47 w.heap.size (fun k_ => some k_ ≠ (v209 : Value).ownBlock ∧ some k_ ≠ (v212 : Value).ownBlock ∧ some k_ ≠ (.slice Ao14 t192.length co14 : Value).ownBlock) (.slice Ao16 t196.length co16) t196) := ⟨h3_⟩
            have n4_ : Aside0 (w47.heap[gb199]? = some (.cells #[.string t191, .slice Ao14 t192.length co14] 25 (0, 0))) := ⟨h4_⟩
            have n5_ : Aside0 (w47.heap[gb200]? = some (.cells #[.string t195, .slice Ao16 t196.length co16] 25 (0, 0))) := ⟨h5_⟩
            have n6_ : Aside0 (w47.heap[gb217]? = some (.cells #[.string (⟨#[]⟩ : ByteArray), .slice none 0 0] 25 (0, 0))) := ⟨h6_⟩
            have n7_ : Aside0 (w.heap.size ≤ gb217) := ⟨h7_⟩
            have n8_ : Aside0 (w.heap.size ≤ gb217) := ⟨h8_⟩
            have n9_ : Aside0 (gb199 ≠ gb217) := ⟨h9_⟩
            have n10_ : Aside0 (gb217 ≠ gb199) := ⟨h10_⟩
            have n11_ : Aside0 (gb200 ≠ gb217) := ⟨h11_⟩
            have n12_ : Aside0 (gb217 ≠ gb200) := ⟨h12_⟩
            have n13_ : Aside0 (Below w.heap.size w w47) := ⟨h13_⟩
            clear HO_200001
            clear HO_201001
            clear BK199
            clear BK200
            clear HB
            clear h0_ h1_ h2_ h3_ h4_ h5_ h6_ h7_ h8_ h9_ h10_ h11_ h12_ h13_
            have HO210 := n0_
            have HO213 := n1_
            have HO_200001 := n2_
            have HO_201001 := n3_
            have BK199 := n4_
            have BK200 := n5_
            have BK217 := n6_
            have GW217 := n7_
            have GE217 := n8_
            have NB199_217 := n9_
            have NB217_199 := n10_
            have NB200_217 := n11_
            have NB217_200 := n12_
            have HB := n13_
            clear n0_ n1_ n2_ n3_ n4_ n5_ n6_ n7_ n8_ n9_ n10_ n11_ n12_ n13_
            have hHeld : w47.cell? ⟨gb199, 0, none⟩ = some (.string t191) ∧ w47.cell? ⟨gb199, 1, none⟩ = some (.slice Ao14 t192.length co14) := hS_
            obtain ⟨Ao49, co49, eo49⟩ := Kd.R_slice HO213.out
            (first | subst eo49 | (injection eo49 with f1_ f2_ f3_; have f4_ := f1_.symm; have f5_ := f3_.symm; clear f1_ f2_ f3_; subst f4_; subst f5_))
            refine norm_ (a' := ?_) ?_ ?_
            rotate_left
            ·simp only [putAll, Act.put, List.setIfInBounds_toArray, List.set_cons_zero, List.set_cons_succ]
             rfl
            refine one_ (i := 10) (N := some 51) #[true, true, true, true, true, true, true, true, true, true, true, false, true, false] rfl rfl (one_of HT_.out (by kernel_rfl)) (by decide) (fun K hK => ?_)
            refine Kd.R_append_rows_step (Kd.int .i64) (w0 := w) w.heap.size (by rfl) (.tmp 46) (.tmp 50) 23 3 (.int .i64 0) 8 rfl Try.underlying23 info3 rfl (by decide) (by omega) v209 y208 y211 _ _ _ (fun k_ => some k_ ≠ (.slice Ao14 t192.length co14 : Value).ownBlock ∧ some k_ ≠ (.slice Ao16 t196.length co16 : Value).ownBlock ∧ some k_ ≠ (.slice Ao49 y211.length co49 : Value).ownBlock) (fun _ => False) rfl rfl ?aO ?aR (fun _ _ h => h) (fun _ h => h.elim) ?aF ?aB ?aS ?aL ?_
            (case aR => exact y15 HO213.out)
            (case aB => exact y36 HB.out GE199.out GE200.out GE217.out)
            (case aF => exact y24 HO_200001.out HO_201001.out HO213.out)
            (case aO => exact y37 HO210.out)
            (case aS => exact y35 HB.out GE199.out GE200.out GE217.out)
            (case aL => exact y59 LMc35.out)
            intro v215 w48 ho hb hg hat
            rw [← Ny214.out] at ho
            replace HO_200001 := Aside0.mk (Kd.R_after (ok := (fun k_ => some k_ ≠ (.slice Ao16 t196.length co16 : Value).ownBlock ∧ some k_ ≠ (.slice Ao49 y211.length co49 : Value).ownBlock)) (y29 HO_200001.out) hg hat)
            replace HO_201001 := Aside0.mk (Kd.R_after (ok := (fun k_ => some k_ ≠ (.slice Ao14 t192.length co14 : Value).ownBlock ∧ some k_ ≠ (.slice Ao49 y211.length co49 : Value).ownBlock)) (y29 HO_201001.out) hg hat)
            replace BK199 := Aside0.mk (blk_grown (g := gb199) (o := .cells #[.string t191, .slice Ao14 t192.length co14] 25 (0, 0)) (y2 BK199.out) hg (Kd.R_ne HO210.out BK199.out (by decide)))
            replace BK200 := Aside0.mk (blk_grown (g := gb200) (o := .cells #[.string t195, .slice Ao16 t196.length co16] 25 (0, 0)) (y2 BK200.out) hg (Kd.R_ne HO210.out BK200.out (by decide)))
            replace HO213 := Aside0.mk (Kd.R_after (ok := (fun k_ => some k_ ≠ (.slice Ao14 t192.length co14 : Value).ownBlock ∧ some k_ ≠ (.slice Ao16 t196.length co16 : Value).ownBlock)) (y40 HO213.out) hg hat)
            replace BK217 := Aside0.mk (blk_grown (g := gb217) (o := .cells #[.string (⟨#[]⟩ : ByteArray), .slice none 0 0] 25 (0, 0)) (y2 BK217.out) hg (Kd.R_ne HO210.out BK217.out (by decide)))
            replace HB := Aside0.mk (hb)
            have HO216 := Aside0.mk (ho)
            clear HO210
            clear ho hb hg hat
            obtain ⟨Ao50, co50, eo50⟩ := Kd.R_slice HO216.out
            (first | subst eo50 | (injection eo50 with f1_ f2_ f3_; have f4_ := f1_.symm; have f5_ := f3_.symm; clear f1_ f2_ f3_; subst f4_; subst f5_))
            refine hK.out _ _ ⟨(blk_cell BK199.out 0).trans rfl, (blk_cell BK199.out 1).trans rfl⟩ (fun hHeld => ?_)
            clear hK K
            refine norm_ (a' := ?_) ?_ ?_
            rotate_left
            ·show Act.put _ (some 51) _ = _
             simp only [Act.put, List.setIfInBounds_toArray, List.set_cons_zero, List.set_cons_succ, i64_w, i32_w]
             rfl
            refine zp 11 (some 52) HT_ ?_
            exact norm_ y11 (hJ2_5_9_10_12 (v206, v209, .slice Ao49 y211.length co49, .slice Ao50 y214.length co50, gb217) _ ⟨hHeld, (y21 HO213.out), (y41 HO216.out), (y43 HO_200001.out), (y43 HO_201001.out), (y2 BK199.out), (y2 BK200.out), (y2 BK217.out), GW217.out, GE217.out, NB199_217.out, NB217_199.out, NB200_217.out, NB217_200.out, (y5 HB.out GE199.out GE200.out GE217.out)⟩)
          ·skip
           rintro ⟨v206, v209, v212, v215⟩ w49 ⟨hS_, h0_, h1_, h2_, h3_, h4_, h5_, h6_⟩
           have n0_ : Aside0 (Kd.R (Kd.int .i64) 3 w49 w.heap.size (fun k_ => some k_ ≠ (v215 : Value).ownBlock ∧ some k_ ≠ (.slice Ao14 t192.length co14 : Value).ownBlock ∧ some k_ ≠ (.slice Ao16 t196.length co16 : Value).ownBlock) v212 y211) := ⟨h0_⟩
           have n1_ : Aside0 (Kd.R (Kd.int .i64) 3 w49 w.heap.size (fun k_ => some k_ ≠ (v212 : Value).ownBlock ∧ some k_ ≠ (.slice Ao14 t192.length co14 : Value).ownBlock ∧ some k_ ≠ (.slice Ao16 t196.length co16 : Value).ownBlock) v215 y214) := ⟨h1_⟩
           have n2_ : Aside0 (Kd.R (Kd.int .i64) 3 w49 w.heap.size (fun k_ => some k_ ≠ (v212 : Value).ownBlock ∧ some k_ ≠ (v215 : Value).ownBlock ∧ some k_ ≠ (.slice Ao16 t196.length co16 : Value).ownBlock) (.slice Ao14 t192.length co14) t192) := ⟨h2_⟩
           have n3_ : Aside0 (Kd.R (Kd.int .i64) 3 w49 w.heap.size (fun k_ => some k_ ≠ (v212 : Value).ownBlock ∧ some k_ ≠ (v215 : Value).ownBlock ∧ some k_ ≠ (.slice Ao14 t192.length co14 : Value).ownBlock) (.slice Ao16 t196.length co16) t196) := ⟨h3_⟩
           have n4_ : Aside0 (w49.heap[gb199]? = some (.cells #[.string t191, .slice Ao14 t192.length co14] 25 (0, 0))) := ⟨h4_⟩
           have n5_ : Aside0 (w49.heap[gb200]? = some (.cells #[.string t195, .slice Ao16 t196.length co16] 25 (0, 0))) := ⟨h5_⟩
           have n6_ : Aside0 (Below w.heap.size w w49) := ⟨h6_⟩
           clear HO_200001
           clear HO_201001
           clear BK199
           clear BK200
           clear HB
           clear h0_ h1_ h2_ h3_ h4_ h5_ h6_
           have HO213 := n0_
           have HO216 := n1_
           have HO_200001 := n2_
           have HO_201001 := n3_
           have BK199 := n4_
           have BK200 := n5_
           have HB := n6_
           clear n0_ n1_ n2_ n3_ n4_ n5_ n6_
           have hHeld : w49.cell? ⟨gb199, 0, none⟩ = some (.string t191) ∧ w49.cell? ⟨gb199, 1, none⟩ = some (.slice Ao14 t192.length co14) := hS_
           obtain ⟨Ao50, co50, eo50⟩ := Kd.R_slice HO216.out
           (first | subst eo50 | (injection eo50 with f1_ f2_ f3_; have f4_ := f1_.symm; have f5_ := f3_.symm; clear f1_ f2_ f3_; subst f4_; subst f5_))
           refine norm_ (a' := ?_) ?_ ?_
           rotate_left
           ·simp only [putAll, Act.put, List.setIfInBounds_toArray, List.set_cons_zero, List.set_cons_succ]
            rfl
           refine one_ (i := 12) (N := some 9) #[true, true, true, true, true, true, true, true, true, true, true, true, true, false] rfl rfl (one_of HT_.out (by kernel_rfl)) (by decide) (fun K hK => ?_)
           refine box_step ?hg (N := 9) ?hd (cs := #[.string (⟨#[]⟩ : ByteArray), .slice none 0 0]) (t := 25) ?hr ?_; (case hd => rfl); (case hg => rfl); (case hr => first | (go_simp; done) | (go_simp; rfl))
           intro gb217 hg w51 hbox hb
           replace HO_200001 := Aside0.mk (Kd.R_below (y0 HO_200001.out) hb)
           replace HO_201001 := Aside0.mk (Kd.R_below (y0 HO_201001.out) hb)
           replace HO213 := Aside0.mk (Kd.R_below (y0 HO213.out) hb)
           replace HO216 := Aside0.mk (Kd.R_below (y0 HO216.out) hb)
           have BK217 := Aside0.mk hbox
           have GW217 := Aside0.mk ((y18 hg HB.out GE199.out GE200.out : w.heap.size ≤ gb217))
           have GE217 := Aside0.mk ((y18 hg HB.out GE199.out GE200.out : w.heap.size ≤ gb217))
           replace HB := Aside0.mk (below_step (y1 HB.out GE199.out GE200.out) hb)
           have NB199_217 := zltn hg BK199
           have NB217_199 := zgtn hg BK199
           replace BK199 := zbb BK199 hb
           have NB200_217 := zltn hg BK200
           have NB217_200 := zgtn hg BK200
           replace BK200 := zbb BK200 hb
           clear hb hbox hg
           refine hK.out _ _ ⟨(blk_cell BK199.out 0).trans rfl, (blk_cell BK199.out 1).trans rfl⟩ (fun hHeld => ?_)
           clear hK K
           refine norm_ (a' := ?_) ?_ ?_
           rotate_left
           ·show Act.put _ (some 9) _ = _
            simp only [Act.put, List.setIfInBounds_toArray, List.set_cons_zero, List.set_cons_succ, i64_w, i32_w]
            rfl
           exact norm_ y11 (hJ2_5_9_10_12 (v206, v209, v212, .slice Ao50 y214.length co50, gb217) _ ⟨hHeld, (y0 HO213.out), (y0 HO216.out), (y0 HO_200001.out), (y0 HO_201001.out), (y2 BK199.out), (y2 BK200.out), (y2 BK217.out), GW217.out, GE217.out, NB199_217.out, NB217_199.out, NB200_217.out, NB217_200.out, (y5 HB.out GE199.out GE200.out GE217.out)⟩)
         rintro ⟨v206, v209, v212, v215, gb217⟩ w50 ⟨hS_, h0_, h1_, h2_, h3_, h4_, h5_, h6_, h7_, h8_, h9_, h10_, h11_, h12_, h13_⟩
         have n0_ : Aside0 (Kd.R (Kd.int .i64) 3 w50 w.heap.size (fun k_ => some k_ ≠ (v215 : Value).ownBlock ∧ some k_ ≠ (.slice Ao14 t192.length co14 : Value).ownBlock ∧ some k_ ≠ (.slice Ao16 t196.length co16 : Value).ownBlock) v212 y211) := ⟨h0_⟩
         have n1_ : Aside0 (Kd.R (Kd.int .i64) 3 w50 w.heap.size (fun k_ => some k_ ≠ (v212 : Value).ownBlock ∧ some k_ ≠ (.slice Ao14 t192.length co14 : Value).ownBlock ∧ some k_ ≠ (.slice Ao16 t196.length co16 : Value).ownBlock) v215 y214) := ⟨h1_⟩
         have n2_ : Aside0 (Kd.R (Kd.int .i64) 3 w50 w.heap.size (fun k_ => some k_ ≠ (v212 : Value).ownBlock ∧ some k_ ≠ (v215 : Value).ownBlock ∧ some k_ ≠ (.slice Ao16 t196.length co16 : Value).ownBlock) (.slice Ao14 t192.length co14) t192) := ⟨h2_⟩
         have n3_ : Aside0 (Kd.R (Kd.int .i64) 3 w50 w.heap.size (fun k_ => some k_ ≠ (v212 : Value).ownBlock ∧ some k_ ≠ (v215 : Value).ownBlock ∧ some k_ ≠ (.slice Ao14 t192.length co14 : Value).ownBlock) (.slice Ao16 t196.length co16) t196) := ⟨h3_⟩
         have n4_ : Aside0 (w50.heap[gb199]? = some (.cells #[.string t191, .slice Ao14 t192.length co14] 25 (0, 0))) := ⟨h4_⟩
         have n5_ : Aside0 (w50.heap[gb200]? = some (.cells #[.string t195, .slice Ao16 t196.length co16] 25 (0, 0))) := ⟨h5_⟩
         have n6_ : Aside0 (w50.heap[gb217]? = some (.cells #[.string (⟨#[]⟩ : ByteArray), .slice none 0 0] 25 (0, 0))) := ⟨h6_⟩
         have n7_ : Aside0 (w.heap.size ≤ gb217) := ⟨h7_⟩
         have n8_ : Aside0 (w.heap.size ≤ gb217) := ⟨h8_⟩
         have n9_ : Aside0 (gb199 ≠ gb217) := ⟨h9_⟩
         have n10_ : Aside0 (gb217 ≠ gb199) := ⟨h10_⟩
         have n11_ : Aside0 (gb200 ≠ gb217) := ⟨h11_⟩
         have n12_ : Aside0 (gb217 ≠ gb200) := ⟨h12_⟩
         have n13_ : Aside0 (Below w.heap.size w w50) := ⟨h13_⟩
         clear HO_200001
         clear HO_201001
         clear BK199
         clear BK200
         clear HB
         clear h0_ h1_ h2_ h3_ h4_ h5_ h6_ h7_ h8_ h9_ h10_ h11_ h12_ h13_
         have HO213 := n0_
         have HO216 := n1_
         have HO_200001 := n2_
         have HO_201001 := n3_
         have BK199 := n4_
         have BK200 := n5_
         have BK217 := n6_
         have GW217 := n7_
         have GE217 := n8_
         have NB199_217 := n9_
         have NB217_199 := n10_
         have NB200_217 := n11_
         have NB217_200 := n12_
         have HB := n13_
         clear n0_ n1_ n2_ n3_ n4_ n5_ n6_ n7_ n8_ n9_ n10_ n11_ n12_ n13_
         have hHeld : w50.cell? ⟨gb199, 0, none⟩ = some (.string t191) ∧ w50.cell? ⟨gb199, 1, none⟩ = some (.slice Ao14 t192.length co14) := hS_
         obtain ⟨Ao51, co51, eo51⟩ := Kd.R_slice HO216.out
         (first | subst eo51 | (injection eo51 with f1_ f2_ f3_; have f4_ := f1_.symm; have f5_ := f3_.symm; clear f1_ f2_ f3_; subst f4_; subst f5_))
         refine norm_ (a' := ?_) ?_ ?_
         rotate_left
         ·simp only [putAll, Act.put, List.setIfInBounds_toArray, List.set_cons_zero, List.set_cons_succ]
          rfl
         refine one_ (i := 13) (N := none) #[true, true, true, true, true, true, true, true, true, true, true, true, true, true] rfl rfl (one_of HT_.out (by kernel_rfl)) (by decide) (fun K hK => ?_)
         have hs52 : w50.cell? ⟨gb217, 0, none⟩ = some (.string (⟨#[]⟩ : ByteArray)) := (blk_cell BK217.out 0).trans rfl
         have hfs52 := zfr BK217 0
         have hns52_0 := NB199_217.out
         have hns52_1 := NB200_217.out
         have hms52_0 := NB217_199.out
         have hms52_1 := NB217_200.out
         have hs53 : w50.cell? ⟨gb217, 1, none⟩ = some (.slice none 0 0) := (blk_cell BK217.out 1).trans rfl
         have hfs53 := zfr BK217 1
         have hns53_0 := NB199_217.out
         have hns53_1 := NB200_217.out
         have hms53_0 := NB217_199.out
         have hms53_1 := NB217_200.out
         refine skip_ (w1 := ?_) (by rfl) rfl ?_ ?_
         rotate_left
         ·go_simp
          rfl
         refine hK.out _ _ ⟨((cell_far (p := ⟨gb217, _, none⟩) NB199_217.out _).trans (((cell_far (p := ⟨gb217, _, none⟩) NB199_217.out _).trans (hHeld.1)))), ((cell_far (p := ⟨gb217, _, none⟩) NB199_217.out _).trans (((cell_far (p := ⟨gb217, _, none⟩) NB199_217.out _).trans (hHeld.2))))⟩ (fun hHeld => ?_)
         clear hK K
         refine done_ (done_of HT_.out (by kernel_rfl)) ?_
         have H := HZ36.out
         clear HZ36
         obtain ⟨t218, A540, H⟩ := ob H
         have A54 := Aside0.mk A540
         clear A540
         by_cases c55 : (t204 == t218) = true
         ·rw [if_pos c55] at H
          have c55b0 : (t204 == t218) = true := c55
          (try (have c55b1 : decide (t204 = t218) = true := by simpa using c55))
          (try (have c55b2 : (t204 == t218) = true := by simpa using c55))
          clear c55
          by_cases c56 : t204 = true
          ·subst c56
           rw [if_pos rfl] at H
           by_cases c57 : (y214.length : Int) > 4
           ·rw [if_pos c57] at H
            have c57b0 : decide (4 < (y214.length : Int)) = true := decide_eq_true c57
            have c57b1 : decide (4 < y214.length) = true := decide_eq_true (by omega)
            clear c57
            by_cases c58 : t201 = true
            ·subst c58
             rw [if_pos rfl] at H
             clear hr_
             obtain rfl := Option.some.inj H
             have hnb59 := NB199_200.out
             have hnc59 := NB200_199.out
             have hnb60 := NB199_217.out
             have hnc60 := NB217_199.out
             have hcz61_0 := zh BK199
             have hcz61_1 := zh1 BK199
             have hfz61_0 := zfr BK199 0
             have hfz61_1 := zfr BK199 1
             go_wp2_with (first | ((with_reducible refine gate_callee (f := 7) rfl ?_); refine goesL_ (some 56) rfl rfl Try.func7 (by kernel_rfl) rfl #[.agg #[.string t191, .slice Ao14 t192.length co14], .agg #[.string t191, .slice Ao14 t192.length co14]] rfl y9 ?_; (with_reducible refine (spec_LendMeet.calls kj7 t191 _ _ t192 t191 _ _ t192 t218 _ ?side1 ?side2 ?side3 ?side4 A54.out).mono ?_); (case side1 => refine (Kd.R_reads' (e := 3) (base := w.heap.size) (ok := fun k_ => (some k_ ≠ (v212 : Value).ownBlock ∧ (some k_ ≠ (.slice Ao51 y214.length co51 : Value).ownBlock ∧ some k_ ≠ (.slice Ao16 t196.length co16 : Value).ownBlock))) (n := t192.length) (c := co14) ?_).2.2; exact (by (with_reducible repeat (first | apply Kd.R_alloc | apply Kd.R_drewN | apply Kd.R_drew)); exact (Kd.R_mono (Kd.R_far (p := ⟨gb217, 1, none⟩) (Kd.R_far (p := ⟨gb217, 0, none⟩) (Kd.R_types HO_200001.out BK217.out (by decide)) (fun _ hk => hk.2) (.string t191)) (fun _ hk => hk.2) (.slice Ao51 y214.length co51)) (fun _ h_ => h_.1)))); (case side2 => exact (Kd.R_reads' HO_200001.out).2.1); (case side3 => refine (Kd.R_reads' (e := 3) (base := w.heap.size) (ok := fun k_ => (some k_ ≠ (v212 : Value).ownBlock ∧ (some k_ ≠ (.slice Ao51 y214.length co51 : Value).ownBlock ∧ some k_ ≠ (.slice Ao16 t196.length co16 : Value).ownBlock))) (n := t192.length) (c := co14) ?_).2.2; exact (by (with_reducible repeat (first | apply Kd.R_alloc | apply Kd.R_drewN | apply Kd.R_drew)); exact (Kd.R_mono (Kd.R_far (p := ⟨gb217, 1, none⟩) (Kd.R_far (p := ⟨gb217, 0, none⟩) (Kd.R_types HO_200001.out BK217.out (by decide)) (fun _ hk => hk.2) (.string t191)) (fun _ hk => hk.2) (.slice Ao51 y214.length co51)) (fun _ h_ => h_.1)))); (case side4 => exact (Kd.R_reads' HO_200001.out).2.1); rintro e w62 ⟨rfl, hb⟩; refine ⟨_, rfl, ?_⟩; replace HO_200001 := Aside0.mk (Kd.R_below (by (with_reducible repeat (first | apply Kd.R_alloc | apply Kd.R_drewN | apply Kd.R_drew)); exact (Kd.R_mono (Kd.R_far (p := ⟨gb217, 1, none⟩) (Kd.R_far (p := ⟨gb217, 0, none⟩) (Kd.R_types HO_200001.out BK217.out (by decide)) (fun _ hk => hk.2) (.string t191)) (fun _ hk => hk.2) (.slice Ao51 y214.length co51)) (fun _ h_ => h_.1))) hb); replace HO_201001 := Aside0.mk (Kd.R_below (by (with_reducible repeat (first | apply Kd.R_alloc | apply Kd.R_drewN | apply Kd.R_drew)); exact (Kd.R_mono (Kd.R_far (p := ⟨gb217, 1, none⟩) (Kd.R_far (p := ⟨gb217, 0, none⟩) (Kd.R_types HO_201001.out BK217.out (by decide)) (fun _ hk => hk.2) (.string t191)) (fun _ hk => hk.2) (.slice Ao51 y214.length co51)) (fun _ h_ => h_.1))) hb); replace HO213 := Aside0.mk (Kd.R_below (by (with_reducible repeat (first | apply Kd.R_alloc | apply Kd.R_drewN | apply Kd.R_drew)); exact (Kd.R_mono (Kd.R_far (p := ⟨gb217, 1, none⟩) (Kd.R_far (p := ⟨gb217, 0, none⟩) (Kd.R_types HO213.out BK217.out (by decide)) (fun _ hk => hk.2) (.string t191)) (fun _ hk => hk.2) (.slice Ao51 y214.length co51)) (fun _ h_ => h_.1))) hb); replace HO216 := Aside0.mk (Kd.R_below (by (with_reducible repeat (first | apply Kd.R_alloc | apply Kd.R_drewN | apply Kd.R_drew)); exact (Kd.R_mono (Kd.R_far (p := ⟨gb217, 1, none⟩) (Kd.R_far (p := ⟨gb217, 0, none⟩) (Kd.R_types HO216.out BK217.out (by decide)) (fun _ hk => hk.2) (.string t191)) (fun _ hk => hk.2) (.slice Ao51 y214.length co51)) (fun _ h_ => h_.1))) hb); replace BK199 := Aside0.mk (blk_below (g := gb199) (o := .cells #[.string t191, .slice Ao14 t192.length co14] 25 (0, 0)) (y8 NB199_217.out BK199.out) hb); replace BK200 := Aside0.mk (blk_below (g := gb200) (o := .cells #[.string t195, .slice Ao16 t196.length co16] 25 (0, 0)) (y8 NB200_217.out BK200.out) hb); replace BK217 := Aside0.mk (blk_below (g := gb217) (o := .cells #[.string t191, .slice Ao51 y214.length co51] 25 (0, 0)) (by (with_reducible repeat (first | refine blk_drewN ?_ _ | refine blk_drew ?_ | refine blk_alloc ?_ _)); refine blk_put (cs := #[.string t191, .slice none 0 0]) ?_ 1 _ rfl; (with_reducible repeat (first | refine blk_drewN ?_ _ | refine blk_drew ?_ | refine blk_alloc ?_ _)); apply blk_put (i := 0); (case h => exact y2 BK217.out); (case e => rfl)) hb); replace HB := Aside0.mk (below_step (y5 HB.out GE199.out GE200.out GE217.out) hb); (try clear hb); (try clear hb2); (try clear hk); (try clear hi); have hnb63 := NB217_200.out; have hnc63 := NB200_217.out; have hcz64_0 := zh BK217; have hcz64_1 := zh1 BK217; have hfz64_0 := zfr BK217 0; have hfz64_1 := zfr BK217 1))
             go_ret
             exact ⟨y16, (y5 HB.out GE199.out GE200.out GE217.out)⟩
            ·replace c58 := Bool.eq_false_iff.mpr c58
             subst c58
             rw [if_neg (show ¬ (false = true) by decide)] at H
             clear hr_
             obtain rfl := Option.some.inj H
             have hnb65 := NB199_200.out
             have hnc65 := NB200_199.out
             have hnb66 := NB199_217.out
             have hnc66 := NB217_199.out
             have hcz67_0 := zh BK199
             have hcz67_1 := zh1 BK199
             have hfz67_0 := zfr BK199 0
             have hfz67_1 := zfr BK199 1
             go_wp2_with (first | ((with_reducible refine gate_callee (f := 7) rfl ?_); refine goesL_ (some 56) rfl rfl Try.func7 (by kernel_rfl) rfl #[.agg #[.string t191, .slice Ao14 t192.length co14], .agg #[.string t191, .slice Ao14 t192.length co14]] rfl y9 ?_; (with_reducible refine (spec_LendMeet.calls kj7 t191 _ _ t192 t191 _ _ t192 t218 _ ?side1 ?side2 ?side3 ?side4 A54.out).mono ?_); (case side1 => refine (Kd.R_reads' (e := 3) (base := w.heap.size) (ok := fun k_ => (some k_ ≠ (v212 : Value).ownBlock ∧ (some k_ ≠ (.slice Ao51 y214.length co51 : Value).ownBlock ∧ some k_ ≠ (.slice Ao16 t196.length co16 : Value).ownBlock))) (n := t192.length) (c := co14) ?_).2.2; exact (by (with_reducible repeat (first | apply Kd.R_alloc | apply Kd.R_drewN | apply Kd.R_drew)); exact (Kd.R_mono (Kd.R_far (p := ⟨gb217, 1, none⟩) (Kd.R_far (p := ⟨gb217, 0, none⟩) (Kd.R_types HO_200001.out BK217.out (by decide)) (fun _ hk => hk.2) (.string t191)) (fun _ hk => hk.2) (.slice Ao51 y214.length co51)) (fun _ h_ => h_.1)))); (case side2 => exact (Kd.R_reads' HO_200001.out).2.1); (case side3 => refine (Kd.R_reads' (e := 3) (base := w.heap.size) (ok := fun k_ => (some k_ ≠ (v212 : Value).ownBlock ∧ (some k_ ≠ (.slice Ao51 y214.length co51 : Value).ownBlock ∧ some k_ ≠ (.slice Ao16 t196.length co16 : Value).ownBlock))) (n := t192.length) (c := co14) ?_).2.2; exact (by (with_reducible repeat (first | apply Kd.R_alloc | apply Kd.R_drewN | apply Kd.R_drew)); exact (Kd.R_mono (Kd.R_far (p := ⟨gb217, 1, none⟩) (Kd.R_far (p := ⟨gb217, 0, none⟩) (Kd.R_types HO_200001.out BK217.out (by decide)) (fun _ hk => hk.2) (.string t191)) (fun _ hk => hk.2) (.slice Ao51 y214.length co51)) (fun _ h_ => h_.1)))); (case side4 => exact (Kd.R_reads' HO_200001.out).2.1); rintro e w68 ⟨rfl, hb⟩; refine ⟨_, rfl, ?_⟩; replace HO_200001 := Aside0.mk (Kd.R_below (by (with_reducible repeat (first | apply Kd.R_alloc | apply Kd.R_drewN | apply Kd.R_drew)); exact (Kd.R_mono (Kd.R_far (p := ⟨gb217, 1, none⟩) (Kd.R_far (p := ⟨gb217, 0, none⟩) (Kd.R_types HO_200001.out BK217.out (by decide)) (fun _ hk => hk.2) (.string t191)) (fun _ hk => hk.2) (.slice Ao51 y214.length co51)) (fun _ h_ => h_.1))) hb); replace HO_201001 := Aside0.mk (Kd.R_below (by (with_reducible repeat (first | apply Kd.R_alloc | apply Kd.R_drewN | apply Kd.R_drew)); exact (Kd.R_mono (Kd.R_far (p := ⟨gb217, 1, none⟩) (Kd.R_far (p := ⟨gb217, 0, none⟩) (Kd.R_types HO_201001.out BK217.out (by decide)) (fun _ hk => hk.2) (.string t191)) (fun _ hk => hk.2) (.slice Ao51 y214.length co51)) (fun _ h_ => h_.1))) hb); replace HO213 := Aside0.mk (Kd.R_below (by (with_reducible repeat (first | apply Kd.R_alloc | apply Kd.R_drewN | apply Kd.R_drew)); exact (Kd.R_mono (Kd.R_far (p := ⟨gb217, 1, none⟩) (Kd.R_far (p := ⟨gb217, 0, none⟩) (Kd.R_types HO213.out BK217.out (by decide)) (fun _ hk => hk.2) (.string t191)) (fun _ hk => hk.2) (.slice Ao51 y214.length co51)) (fun _ h_ => h_.1))) hb); replace HO216 := Aside0.mk (Kd.R_below (by (with_reducible repeat (first | apply Kd.R_alloc | apply Kd.R_drewN | apply Kd.R_drew)); exact (Kd.R_mono (Kd.R_far (p := ⟨gb217, 1, none⟩) (Kd.R_far (p := ⟨gb217, 0, none⟩) (Kd.R_types HO216.out BK217.out (by decide)) (fun _ hk => hk.2) (.string t191)) (fun _ hk => hk.2) (.slice Ao51 y214.length co51)) (fun _ h_ => h_.1))) hb); replace BK199 := Aside0.mk (blk_below (g := gb199) (o := .cells #[.string t191, .slice Ao14 t192.length co14] 25 (0, 0)) (y8 NB199_217.out BK199.out) hb); replace BK200 := Aside0.mk (blk_below (g := gb200) (o := .cells #[.string t195, .slice Ao16 t196.length co16] 25 (0, 0)) (y8 NB200_217.out BK200.out) hb); replace BK217 := Aside0.mk (blk_below (g := gb217) (o := .cells #[.string t191, .slice Ao51 y214.length co51] 25 (0, 0)) (by (with_reducible repeat (first | refine blk_drewN ?_ _ | refine blk_drew ?_ | refine blk_alloc ?_ _)); refine blk_put (cs := #[.string t191, .slice none 0 0]) ?_ 1 _ rfl; (with_reducible repeat (first | refine blk_drewN ?_ _ | refine blk_drew ?_ | refine blk_alloc ?_ _)); apply blk_put (i := 0); (case h => exact y2 BK217.out); (case e => rfl)) hb); replace HB := Aside0.mk (below_step (y5 HB.out GE199.out GE200.out GE217.out) hb); (try clear hb); (try clear hb2); (try clear hk); (try clear hi); have hnb69 := NB217_200.out; have hnc69 := NB200_217.out; have hcz70_0 := zh BK217; have hcz70_1 := zh1 BK217; have hfz70_0 := zfr BK217 0; have hfz70_1 := zfr BK217 1))
             go_ret
             exact ⟨y16, (y5 HB.out GE199.out GE200.out GE217.out)⟩
           ·rw [if_neg c57] at H
            have c57b0 : decide (4 < (y214.length : Int)) = false := decide_eq_false c57
            have c57b1 : decide (4 < y214.length) = false := decide_eq_false (by omega)
            clear c57
            obtain ⟨t219, A710, H⟩ := ob H
            have A71 := Aside0.mk A710
            clear A710
            by_cases c72 : t219 = true
            ·subst c72
             rw [if_pos rfl] at H
             by_cases c73 : t201 = true
             ·subst c73
              rw [if_pos rfl] at H
              clear hr_
              obtain rfl := Option.some.inj H
              have hnb74 := NB199_200.out
              have hnc74 := NB200_199.out
              have hnb75 := NB199_217.out
              have hnc75 := NB217_199.out
              have hcz76_0 := zh BK199
              have hcz76_1 := zh1 BK199
              have hfz76_0 := zfr BK199 0
              have hfz76_1 := zfr BK199 1
              go_wp2_with (first | ((with_reducible refine gate_callee (f := 7) rfl ?_); refine goesL_ (some 56) rfl rfl Try.func7 (by kernel_rfl) rfl #[.agg #[.string t191, .slice Ao14 t192.length co14], .agg #[.string t191, .slice Ao14 t192.length co14]] rfl y9 ?_; (with_reducible refine (spec_LendMeet.calls kj7 t191 _ _ t192 t191 _ _ t192 t218 _ ?side1 ?side2 ?side3 ?side4 A54.out).mono ?_); (case side1 => refine (Kd.R_reads' (e := 3) (base := w.heap.size) (ok := fun k_ => (some k_ ≠ (v212 : Value).ownBlock ∧ (some k_ ≠ (.slice Ao51 y214.length co51 : Value).ownBlock ∧ some k_ ≠ (.slice Ao16 t196.length co16 : Value).ownBlock))) (n := t192.length) (c := co14) ?_).2.2; exact (by (with_reducible repeat (first | apply Kd.R_alloc | apply Kd.R_drewN | apply Kd.R_drew)); exact (Kd.R_mono (Kd.R_far (p := ⟨gb217, 1, none⟩) (Kd.R_far (p := ⟨gb217, 0, none⟩) (Kd.R_types HO_200001.out BK217.out (by decide)) (fun _ hk => hk.2) (.string t191)) (fun _ hk => hk.2) (.slice Ao51 y214.length co51)) (fun _ h_ => h_.1)))); (case side2 => exact (Kd.R_reads' HO_200001.out).2.1); (case side3 => refine (Kd.R_reads' (e := 3) (base := w.heap.size) (ok := fun k_ => (some k_ ≠ (v212 : Value).ownBlock ∧ (some k_ ≠ (.slice Ao51 y214.length co51 : Value).ownBlock ∧ some k_ ≠ (.slice Ao16 t196.length co16 : Value).ownBlock))) (n := t192.length) (c := co14) ?_).2.2; exact (by (with_reducible repeat (first | apply Kd.R_alloc | apply Kd.R_drewN | apply Kd.R_drew)); exact (Kd.R_mono (Kd.R_far (p := ⟨gb217, 1, none⟩) (Kd.R_far (p := ⟨gb217, 0, none⟩) (Kd.R_types HO_200001.out BK217.out (by decide)) (fun _ hk => hk.2) (.string t191)) (fun _ hk => hk.2) (.slice Ao51 y214.length co51)) (fun _ h_ => h_.1)))); (case side4 => exact (Kd.R_reads' HO_200001.out).2.1); rintro e w77 ⟨rfl, hb⟩; refine ⟨_, rfl, ?_⟩; replace HO_200001 := Aside0.mk (Kd.R_below (by (with_reducible repeat (first | apply Kd.R_alloc | apply Kd.R_drewN | apply Kd.R_drew)); exact (Kd.R_mono (Kd.R_far (p := ⟨gb217, 1, none⟩) (Kd.R_far (p := ⟨gb217, 0, none⟩) (Kd.R_types HO_200001.out BK217.out (by decide)) (fun _ hk => hk.2) (.string t191)) (fun _ hk => hk.2) (.slice Ao51 y214.length co51)) (fun _ h_ => h_.1))) hb); replace HO_201001 := Aside0.mk (Kd.R_below (by (with_reducible repeat (first | apply Kd.R_alloc | apply Kd.R_drewN | apply Kd.R_drew)); exact (Kd.R_mono (Kd.R_far (p := ⟨gb217, 1, none⟩) (Kd.R_far (p := ⟨gb217, 0, none⟩) (Kd.R_types HO_201001.out BK217.out (by decide)) (fun _ hk => hk.2) (.string t191)) (fun _ hk => hk.2) (.slice Ao51 y214.length co51)) (fun _ h_ => h_.1))) hb); replace HO213 := Aside0.mk (Kd.R_below (by (with_reducible repeat (first | apply Kd.R_alloc | apply Kd.R_drewN | apply Kd.R_drew)); exact (Kd.R_mono (Kd.R_far (p := ⟨gb217, 1, none⟩) (Kd.R_far (p := ⟨gb217, 0, none⟩) (Kd.R_types HO213.out BK217.out (by decide)) (fun _ hk => hk.2) (.string t191)) (fun _ hk => hk.2) (.slice Ao51 y214.length co51)) (fun _ h_ => h_.1))) hb); replace HO216 := Aside0.mk (Kd.R_below (by (with_reducible repeat (first | apply Kd.R_alloc | apply Kd.R_drewN | apply Kd.R_drew)); exact (Kd.R_mono (Kd.R_far (p := ⟨gb217, 1, none⟩) (Kd.R_far (p := ⟨gb217, 0, none⟩) (Kd.R_types HO216.out BK217.out (by decide)) (fun _ hk => hk.2) (.string t191)) (fun _ hk => hk.2) (.slice Ao51 y214.length co51)) (fun _ h_ => h_.1))) hb); replace BK199 := Aside0.mk (blk_below (g := gb199) (o := .cells #[.string t191, .slice Ao14 t192.length co14] 25 (0, 0)) (y8 NB199_217.out BK199.out) hb); replace BK200 := Aside0.mk (blk_below (g := gb200) (o := .cells #[.string t195, .slice Ao16 t196.length co16] 25 (0, 0)) (y8 NB200_217.out BK200.out) hb); replace BK217 := Aside0.mk (blk_below (g := gb217) (o := .cells #[.string t191, .slice Ao51 y214.length co51] 25 (0, 0)) (by (with_reducible repeat (first | refine blk_drewN ?_ _ | refine blk_drew ?_ | refine blk_alloc ?_ _)); refine blk_put (cs := #[.string t191, .slice none 0 0]) ?_ 1 _ rfl; (with_reducible repeat (first | refine blk_drewN ?_ _ | refine blk_drew ?_ | refine blk_alloc ?_ _)); apply blk_put (i := 0); (case h => exact y2 BK217.out); (case e => rfl)) hb); replace HB := Aside0.mk (below_step (y5 HB.out GE199.out GE200.out GE217.out) hb); (try clear hb); (try clear hb2); (try clear hk); (try clear hi); have hnb78 := NB217_200.out; have hnc78 := NB200_217.out; have hcz79_0 := zh BK217; have hcz79_1 := zh1 BK217; have hfz79_0 := zfr BK217 0; have hfz79_1 := zfr BK217 1; have hcz80_0 := zh BK199; have hcz80_1 := zh1 BK199; have hfz80_0 := zfr BK199 0; have hfz80_1 := zfr BK199 1) | (go_at_call 6; (with_reducible refine (impl_LendMeet.calls kj7 t191 _ _ t192 t191 _ _ y214 true _ ?side1 ?side2 ?side3 ?side4 A71.out).mono ?_); (case side1 => exact y15 HO_200001.out); (case side2 => exact (Kd.R_reads' HO_200001.out).2.1); (case side3 => exact y15 HO216.out); (case side4 => exact (Kd.R_reads' HO216.out).2.1); rintro e w81 ⟨rfl, hb⟩; replace HO_200001 := Aside0.mk (Kd.R_below (y0 HO_200001.out) hb); replace HO_201001 := Aside0.mk (Kd.R_below (y0 HO_201001.out) hb); replace HO213 := Aside0.mk (Kd.R_below (y0 HO213.out) hb); replace HO216 := Aside0.mk (Kd.R_below (y0 HO216.out) hb); replace BK199 := zbb BK199 hb; replace BK200 := zbb BK200 hb; replace BK217 := zbb BK217 hb; replace HB := Aside0.mk (below_step (y5 HB.out GE199.out GE200.out GE217.out) hb); (try clear hb); (try clear hb2); (try clear hk); (try clear hi)))
              go_ret
              exact ⟨y16, (y5 HB.out GE199.out GE200.out GE217.out)⟩
             ·replace c73 := Bool.eq_false_iff.mpr c73
              subst c73
              rw [if_neg (show ¬ (false = true) by decide)] at H
              clear hr_
              obtain rfl := Option.some.inj H
              have hnb82 := NB199_200.out
              have hnc82 := NB200_199.out
              have hnb83 := NB199_217.out
              have hnc83 := NB217_199.out
              have hcz84_0 := zh BK199
              have hcz84_1 := zh1 BK199
              have hfz84_0 := zfr BK199 0
              have hfz84_1 := zfr BK199 1
              go_wp2_with (first | ((with_reducible refine gate_callee (f := 7) rfl ?_); refine goesL_ (some 56) rfl rfl Try.func7 (by kernel_rfl) rfl #[.agg #[.string t191, .slice Ao14 t192.length co14], .agg #[.string t191, .slice Ao14 t192.length co14]] rfl y9 ?_; (with_reducible refine (spec_LendMeet.calls kj7 t191 _ _ t192 t191 _ _ t192 t218 _ ?side1 ?side2 ?side3 ?side4 A54.out).mono ?_); (case side1 => refine (Kd.R_reads' (e := 3) (base := w.heap.size) (ok := fun k_ => (some k_ ≠ (v212 : Value).ownBlock ∧ (some k_ ≠ (.slice Ao51 y214.length co51 : Value).ownBlock ∧ some k_ ≠ (.slice Ao16 t196.length co16 : Value).ownBlock))) (n := t192.length) (c := co14) ?_).2.2; exact (by (with_reducible repeat (first | apply Kd.R_alloc | apply Kd.R_drewN | apply Kd.R_drew)); exact (Kd.R_mono (Kd.R_far (p := ⟨gb217, 1, none⟩) (Kd.R_far (p := ⟨gb217, 0, none⟩) (Kd.R_types HO_200001.out BK217.out (by decide)) (fun _ hk => hk.2) (.string t191)) (fun _ hk => hk.2) (.slice Ao51 y214.length co51)) (fun _ h_ => h_.1)))); (case side2 => exact (Kd.R_reads' HO_200001.out).2.1); (case side3 => refine (Kd.R_reads' (e := 3) (base := w.heap.size) (ok := fun k_ => (some k_ ≠ (v212 : Value).ownBlock ∧ (some k_ ≠ (.slice Ao51 y214.length co51 : Value).ownBlock ∧ some k_ ≠ (.slice Ao16 t196.length co16 : Value).ownBlock))) (n := t192.length) (c := co14) ?_).2.2; exact (by (with_reducible repeat (first | apply Kd.R_alloc | apply Kd.R_drewN | apply Kd.R_drew)); exact (Kd.R_mono (Kd.R_far (p := ⟨gb217, 1, none⟩) (Kd.R_far (p := ⟨gb217, 0, none⟩) (Kd.R_types HO_200001.out BK217.out (by decide)) (fun _ hk => hk.2) (.string t191)) (fun _ hk => hk.2) (.slice Ao51 y214.length co51)) (fun _ h_ => h_.1)))); (case side4 => exact (Kd.R_reads' HO_200001.out).2.1); rintro e w85 ⟨rfl, hb⟩; refine ⟨_, rfl, ?_⟩; replace HO_200001 := Aside0.mk (Kd.R_below (by (with_reducible repeat (first | apply Kd.R_alloc | apply Kd.R_drewN | apply Kd.R_drew)); exact (Kd.R_mono (Kd.R_far (p := ⟨gb217, 1, none⟩) (Kd.R_far (p := ⟨gb217, 0, none⟩) (Kd.R_types HO_200001.out BK217.out (by decide)) (fun _ hk => hk.2) (.string t191)) (fun _ hk => hk.2) (.slice Ao51 y214.length co51)) (fun _ h_ => h_.1))) hb); replace HO_201001 := Aside0.mk (Kd.R_below (by (with_reducible repeat (first | apply Kd.R_alloc | apply Kd.R_drewN | apply Kd.R_drew)); exact (Kd.R_mono (Kd.R_far (p := ⟨gb217, 1, none⟩) (Kd.R_far (p := ⟨gb217, 0, none⟩) (Kd.R_types HO_201001.out BK217.out (by decide)) (fun _ hk => hk.2) (.string t191)) (fun _ hk => hk.2) (.slice Ao51 y214.length co51)) (fun _ h_ => h_.1))) hb); replace HO213 := Aside0.mk (Kd.R_below (by (with_reducible repeat (first | apply Kd.R_alloc | apply Kd.R_drewN | apply Kd.R_drew)); exact (Kd.R_mono (Kd.R_far (p := ⟨gb217, 1, none⟩) (Kd.R_far (p := ⟨gb217, 0, none⟩) (Kd.R_types HO213.out BK217.out (by decide)) (fun _ hk => hk.2) (.string t191)) (fun _ hk => hk.2) (.slice Ao51 y214.length co51)) (fun _ h_ => h_.1))) hb); replace HO216 := Aside0.mk (Kd.R_below (by (with_reducible repeat (first | apply Kd.R_alloc | apply Kd.R_drewN | apply Kd.R_drew)); exact (Kd.R_mono (Kd.R_far (p := ⟨gb217, 1, none⟩) (Kd.R_far (p := ⟨gb217, 0, none⟩) (Kd.R_types HO216.out BK217.out (by decide)) (fun _ hk => hk.2) (.string t191)) (fun _ hk => hk.2) (.slice Ao51 y214.length co51)) (fun _ h_ => h_.1))) hb); replace BK199 := Aside0.mk (blk_below (g := gb199) (o := .cells #[.string t191, .slice Ao14 t192.length co14] 25 (0, 0)) (y8 NB199_217.out BK199.out) hb); replace BK200 := Aside0.mk (blk_below (g := gb200) (o := .cells #[.string t195, .slice Ao16 t196.length co16] 25 (0, 0)) (y8 NB200_217.out BK200.out) hb); replace BK217 := Aside0.mk (blk_below (g := gb217) (o := .cells #[.string t191, .slice Ao51 y214.length co51] 25 (0, 0)) (by (with_reducible repeat (first | refine blk_drewN ?_ _ | refine blk_drew ?_ | refine blk_alloc ?_ _)); refine blk_put (cs := #[.string t191, .slice none 0 0]) ?_ 1 _ rfl; (with_reducible repeat (first | refine blk_drewN ?_ _ | refine blk_drew ?_ | refine blk_alloc ?_ _)); apply blk_put (i := 0); (case h => exact y2 BK217.out); (case e => rfl)) hb); replace HB := Aside0.mk (below_step (y5 HB.out GE199.out GE200.out GE217.out) hb); (try clear hb); (try clear hb2); (try clear hk); (try clear hi); have hnb86 := NB217_200.out; have hnc86 := NB200_217.out; have hcz87_0 := zh BK217; have hcz87_1 := zh1 BK217; have hfz87_0 := zfr BK217 0; have hfz87_1 := zfr BK217 1; have hcz88_0 := zh BK199; have hcz88_1 := zh1 BK199; have hfz88_0 := zfr BK199 0; have hfz88_1 := zfr BK199 1) | (go_at_call 6; (with_reducible refine (impl_LendMeet.calls kj7 t191 _ _ t192 t191 _ _ y214 true _ ?side1 ?side2 ?side3 ?side4 A71.out).mono ?_); (case side1 => exact y15 HO_200001.out); (case side2 => exact (Kd.R_reads' HO_200001.out).2.1); (case side3 => exact y15 HO216.out); (case side4 => exact (Kd.R_reads' HO216.out).2.1); rintro e w89 ⟨rfl, hb⟩; replace HO_200001 := Aside0.mk (Kd.R_below (y0 HO_200001.out) hb); replace HO_201001 := Aside0.mk (Kd.R_below (y0 HO_201001.out) hb); replace HO213 := Aside0.mk (Kd.R_below (y0 HO213.out) hb); replace HO216 := Aside0.mk (Kd.R_below (y0 HO216.out) hb); replace BK199 := zbb BK199 hb; replace BK200 := zbb BK200 hb; replace BK217 := zbb BK217 hb; replace HB := Aside0.mk (below_step (y5 HB.out GE199.out GE200.out GE217.out) hb); (try clear hb); (try clear hb2); (try clear hk); (try clear hi)))
              go_ret
              exact ⟨y16, (y5 HB.out GE199.out GE200.out GE217.out)⟩
            ·replace c72 := Bool.eq_false_iff.mpr c72
             subst c72
             rw [if_neg (show ¬ (false = true) by decide)] at H
             exact absurd ((Option.some.inj H).trans hr_.out) (by decide)
          ·replace c56 := Bool.eq_false_iff.mpr c56
           subst c56
           rw [if_neg (show ¬ (false = true) by decide)] at H
           by_cases c90 : t201 = true
           ·subst c90
            rw [if_pos rfl] at H
            exact absurd ((Option.some.inj H).trans hr_.out) (by decide)
           ·replace c90 := Bool.eq_false_iff.mpr c90
            subst c90
            rw [if_neg (show ¬ (false = true) by decide)] at H
            clear hr_
            obtain rfl := Option.some.inj H
            have hnb91 := NB199_200.out
            have hnc91 := NB200_199.out
            have hnb92 := NB199_217.out
            have hnc92 := NB217_199.out
            have hcz93_0 := zh BK199
            have hcz93_1 := zh1 BK199
            have hfz93_0 := zfr BK199 0
            have hfz93_1 := zfr BK199 1
            go_wp2_with (first | ((with_reducible refine gate_callee (f := 7) rfl ?_); refine goesL_ (some 56) rfl rfl Try.func7 (by kernel_rfl) rfl #[.agg #[.string t191, .slice Ao14 t192.length co14], .agg #[.string t191, .slice Ao14 t192.length co14]] rfl y9 ?_; (with_reducible refine (spec_LendMeet.calls kj7 t191 _ _ t192 t191 _ _ t192 t218 _ ?side1 ?side2 ?side3 ?side4 A54.out).mono ?_); (case side1 => refine (Kd.R_reads' (e := 3) (base := w.heap.size) (ok := fun k_ => (some k_ ≠ (v212 : Value).ownBlock ∧ (some k_ ≠ (.slice Ao51 y214.length co51 : Value).ownBlock ∧ some k_ ≠ (.slice Ao16 t196.length co16 : Value).ownBlock))) (n := t192.length) (c := co14) ?_).2.2; exact (by (with_reducible repeat (first | apply Kd.R_alloc | apply Kd.R_drewN | apply Kd.R_drew)); exact (Kd.R_mono (Kd.R_far (p := ⟨gb217, 1, none⟩) (Kd.R_far (p := ⟨gb217, 0, none⟩) (Kd.R_types HO_200001.out BK217.out (by decide)) (fun _ hk => hk.2) (.string t191)) (fun _ hk => hk.2) (.slice Ao51 y214.length co51)) (fun _ h_ => h_.1)))); (case side2 => exact (Kd.R_reads' HO_200001.out).2.1); (case side3 => refine (Kd.R_reads' (e := 3) (base := w.heap.size) (ok := fun k_ => (some k_ ≠ (v212 : Value).ownBlock ∧ (some k_ ≠ (.slice Ao51 y214.length co51 : Value).ownBlock ∧ some k_ ≠ (.slice Ao16 t196.length co16 : Value).ownBlock))) (n := t192.length) (c := co14) ?_).2.2; exact (by (with_reducible repeat (first | apply Kd.R_alloc | apply Kd.R_drewN | apply Kd.R_drew)); exact (Kd.R_mono (Kd.R_far (p := ⟨gb217, 1, none⟩) (Kd.R_far (p := ⟨gb217, 0, none⟩) (Kd.R_types HO_200001.out BK217.out (by decide)) (fun _ hk => hk.2) (.string t191)) (fun _ hk => hk.2) (.slice Ao51 y214.length co51)) (fun _ h_ => h_.1)))); (case side4 => exact (Kd.R_reads' HO_200001.out).2.1); rintro e w94 ⟨rfl, hb⟩; refine ⟨_, rfl, ?_⟩; replace HO_200001 := Aside0.mk (Kd.R_below (by (with_reducible repeat (first | apply Kd.R_alloc | apply Kd.R_drewN | apply Kd.R_drew)); exact (Kd.R_mono (Kd.R_far (p := ⟨gb217, 1, none⟩) (Kd.R_far (p := ⟨gb217, 0, none⟩) (Kd.R_types HO_200001.out BK217.out (by decide)) (fun _ hk => hk.2) (.string t191)) (fun _ hk => hk.2) (.slice Ao51 y214.length co51)) (fun _ h_ => h_.1))) hb); replace HO_201001 := Aside0.mk (Kd.R_below (by (with_reducible repeat (first | apply Kd.R_alloc | apply Kd.R_drewN | apply Kd.R_drew)); exact (Kd.R_mono (Kd.R_far (p := ⟨gb217, 1, none⟩) (Kd.R_far (p := ⟨gb217, 0, none⟩) (Kd.R_types HO_201001.out BK217.out (by decide)) (fun _ hk => hk.2) (.string t191)) (fun _ hk => hk.2) (.slice Ao51 y214.length co51)) (fun _ h_ => h_.1))) hb); replace HO213 := Aside0.mk (Kd.R_below (by (with_reducible repeat (first | apply Kd.R_alloc | apply Kd.R_drewN | apply Kd.R_drew)); exact (Kd.R_mono (Kd.R_far (p := ⟨gb217, 1, none⟩) (Kd.R_far (p := ⟨gb217, 0, none⟩) (Kd.R_types HO213.out BK217.out (by decide)) (fun _ hk => hk.2) (.string t191)) (fun _ hk => hk.2) (.slice Ao51 y214.length co51)) (fun _ h_ => h_.1))) hb); replace HO216 := Aside0.mk (Kd.R_below (by (with_reducible repeat (first | apply Kd.R_alloc | apply Kd.R_drewN | apply Kd.R_drew)); exact (Kd.R_mono (Kd.R_far (p := ⟨gb217, 1, none⟩) (Kd.R_far (p := ⟨gb217, 0, none⟩) (Kd.R_types HO216.out BK217.out (by decide)) (fun _ hk => hk.2) (.string t191)) (fun _ hk => hk.2) (.slice Ao51 y214.length co51)) (fun _ h_ => h_.1))) hb); replace BK199 := Aside0.mk (blk_below (g := gb199) (o := .cells #[.string t191, .slice Ao14 t192.length co14] 25 (0, 0)) (y8 NB199_217.out BK199.out) hb); replace BK200 := Aside0.mk (blk_below (g := gb200) (o := .cells #[.string t195, .slice Ao16 t196.length co16] 25 (0, 0)) (y8 NB200_217.out BK200.out) hb); replace BK217 := Aside0.mk (blk_below (g := gb217) (o := .cells #[.string t191, .slice Ao51 y214.length co51] 25 (0, 0)) (by (with_reducible repeat (first | refine blk_drewN ?_ _ | refine blk_drew ?_ | refine blk_alloc ?_ _)); refine blk_put (cs := #[.string t191, .slice none 0 0]) ?_ 1 _ rfl; (with_reducible repeat (first | refine blk_drewN ?_ _ | refine blk_drew ?_ | refine blk_alloc ?_ _)); apply blk_put (i := 0); (case h => exact y2 BK217.out); (case e => rfl)) hb); replace HB := Aside0.mk (below_step (y5 HB.out GE199.out GE200.out GE217.out) hb); (try clear hb); (try clear hb2); (try clear hk); (try clear hi)))
            go_ret
            exact ⟨y16, (y5 HB.out GE199.out GE200.out GE217.out)⟩
         ·rw [if_neg c55] at H
          have c55b0 : (t204 == t218) = false := by simpa using c55
          (try (have c55b1 : decide (t204 = t218) = false := by simpa using c55))
          (try (have c55b2 : (t204 == t218) = false := by simpa using c55))
          (try (have c55b3 : ¬ (t204 = t218) := by simpa using c55))
          clear c55
          exact absurd ((Option.some.inj H).trans hr_.out) (by decide)
        ·rw [if_neg c35] at H
         exact absurd H (by simp)
       ·rw [if_neg c34] at H
        exact absurd H (by simp)
def laws_FnLendMeet.Pure : Prop := ∀ (l0 : List Int) (l1 : List Int), l0.length ≤ maxLen → l0.length * 1 ≤ 140737488351232 → (∀ x ∈ l0, (Lit.int .u8 x).wf = true) → l1.length ≤ maxLen → l1.length * 1 ≤ 140737488351232 → (∀ x ∈ l1, (Lit.int .u8 x).wf = true) → ∃ k, laws_FnLendMeet.f k l0 l1 = some true
theorem laws_FnLendMeet.walk (P : laws_FnLendMeet.Pure) (a0 : Option Addr) (len0 cap0 : Nat) (z0 : List Int) (a1 : Option Addr) (len1 cap1 : Nat) (z1 : List Int) (w : World) (w0 : (a0 = none ∧ len0 = 0 ∧ cap0 = 0 ∧ z0 = []) ∨ ∃ x, a0 = some x ∧ len0 ≤ cap0 ∧ cap0 ≤ maxLen ∧ z0.length = cap0 ∧ (∀ i, i < z0.length → w.cell? (x.add i) = some (.int .u8 (z0.getD i 0))) ∧ ∀ n ∈ z0, (Lit.int .u8 n).wf = true) (y0 : len0 * 1 ≤ 140737488351232) (w1 : (a1 = none ∧ len1 = 0 ∧ cap1 = 0 ∧ z1 = []) ∨ ∃ x, a1 = some x ∧ len1 ≤ cap1 ∧ cap1 ≤ maxLen ∧ z1.length = cap1 ∧ (∀ i, i < z1.length → w.cell? (x.add i) = some (.int .u8 (z1.getD i 0))) ∧ ∀ n ∈ z1, (Lit.int .u8 n).wf = true) (y1 : len1 * 1 ≤ 140737488351232) :
  Calls Try.prog 3 #[.slice a0 len0 cap0, .slice a1 len1 cap1] w fun e w' => e = .returned (.bool true) ∧ Below w.heap.size w w' := by
 obtain ⟨l0, rfl, hr0, hm0, hw0, hc0⟩ := ReadsInt.ofRowC w0
 obtain ⟨l1, rfl, hr1, hm1, hw1, hc1⟩ := ReadsInt.ofRowC w1
 obtain ⟨k, h⟩ := P l0 l1 hm0 y0 hw0 hm1 y1 hw1
 refine (laws_FnLendMeet.calls k _ _ l0 _ _ l1 true w (Kd.C_of_reads (d := (0 : Int)) (h1 := fun _ => rfl) hr0) hc0 (Kd.C_of_reads (d := (0 : Int)) (h1 := fun _ => rfl) hr1) hc1 h ⟨rfl⟩).mono ?_
 rintro e w' ⟨rfl, hd⟩
 exact ⟨rfl, hd⟩
end Go.Proofs.Ythhjdngailhihaa.PA
end
section
namespace Go.Proofs.Ythhjdngailhihaa.Draw
open Go.RowKit Go.Proofs.Ythhjdngailhihaa.PA Go.Proofs.YthhjdngailhihaaW.PrintWords Go.Proofs.YthhjdngailhihaaW.PrintLast
def Bytes (s : List Int) : Prop := s.length ≤ 2000 ∧ ∀ x ∈ s, 0 ≤ x ∧ x ≤ 255
theorem rd_byte {s : List Int} (h : Bytes s) (i : Int) : 0 ≤ rd s i ∧ rd s i ≤ 255 := by
  unfold rd
  rw [List.getD_eq_getElem?_getD]
  cases e : s[i.toNat]? with
  | none => simp
  | some x => exact h.2 x (List.mem_of_getElem? e)
theorem w64 {x : Int} (h0 : -9223372036854775808 ≤ x) (h1 : x ≤ 9223372036854775807) : wrap64 x = x := by unfold wrap64; omega
theorem w01 : wrap64 (0 + 1) = 1 := by rw [w64 (by omega) (by omega)]; rfl
theorem w12 : wrap64 (1 + 1) = 2 := by rw [w64 (by omega) (by omega)]; rfl
theorem xor_nonneg (a b : Nat) (ha : a < 2 ^ 62) (hb : b < 2 ^ 62) : 0 ≤ Go.bits .xor .i64 a b := by
  have hp : (2 : Nat) ^ 62 ≤ 2 ^ IntKind.i64.bits := Nat.pow_le_pow_right (by decide) (by decide)
  have ha' : a % 2 ^ IntKind.i64.bits = a := Nat.mod_eq_of_lt (Nat.lt_of_lt_of_le ha hp)
  have hb' : b % 2 ^ IntKind.i64.bits = b := Nat.mod_eq_of_lt (Nat.lt_of_lt_of_le hb hp)
  simp only [Go.bits, BitVec.ofInt_natCast, BitVec.toNat_xor, BitVec.toNat_ofNat, ha', hb']
  rw [IntKind.wrap_i64]
  have := Nat.xor_lt_two_pow ha hb
  omega
theorem xor_nonneg' (x y : Int) (hx : 0 ≤ x) (hx1 : x < 4611686018427387904) (hy : 0 ≤ y) (hy1 : y < 4611686018427387904) : 0 ≤ Go.bits .xor .i64 x y := by
  obtain ⟨a, rfl⟩ := Int.eq_ofNat_of_zero_le hx
  obtain ⟨b, rfl⟩ := Int.eq_ofNat_of_zero_le hy
  exact xor_nonneg a b (by omega) (by omega)
theorem tmod_range (x n : Int) (hx : 0 ≤ x) (hn : 1 ≤ n) : 0 ≤ Int.tmod x n ∧ Int.tmod x n < n := by
  rw [Int.tmod_eq_emod_of_nonneg hx]
  exact ⟨Int.emod_nonneg _ (by omega), Int.emod_lt_of_pos _ (by omega)⟩
theorem tdiv_range (x n : Int) (hx : 0 ≤ x) (hn : 1 ≤ n) : 0 ≤ Int.tdiv x n ∧ Int.tdiv x n ≤ x := by
  rw [Int.tdiv_eq_ediv_of_nonneg hx]
  exact ⟨Int.ediv_nonneg hx (by omega), Int.ediv_le_self _ hx⟩
theorem pick_ev (s : List Int) (hs : Bytes s) (p n : Int) (hp : 0 ≤ p) (hp1 : p ≤ 1099511627776) (hn : 1 ≤ n) :
    ∃ r, (∀ k, 2 ≤ k → spec_l6Rd_pick.f k s p n = some (r, p + 1)) ∧ 0 ≤ r ∧ r < n := by
  have e1 : wrap64 (p + 1) = p + 1 := w64 (by omega) (by omega)
  have e2 : wrap64 (p + 1 - 1) = p := by rw [w64 (by omega) (by omega)]; omega
  by_cases h0 : (s.length : Int) = 0
  · refine ⟨0, fun k hk => ?_, by omega, by omega⟩
    obtain ⟨k, rfl⟩ : ∃ m, k = m + 1 := ⟨k - 1, by omega⟩
    simp only [spec_l6Rd_pick.f]
    rw [if_neg (by omega), e1, show ((s.length : Int) == 0) = true from beq_iff_eq.2 h0]
    simp only [spec_l6Rd_pick.j0, if_true]
  have hl : 0 < s.length := by omega
  have hl2 := hs.1
  have hb : ((s.length : Int) == 0) = false := by simpa using h0
  by_cases hlt : p < (s.length : Int)
  · have hr := rd_byte hs p
    have hq := tmod_range (rd s p) n hr.1 hn
    refine ⟨_, fun k hk => ?_, hq.1, hq.2⟩
    obtain ⟨k, rfl⟩ : ∃ m, k = m + 1 := ⟨k - 1, by omega⟩
    simp only [spec_l6Rd_pick.f]
    rw [if_neg (by omega), e1, hb]
    simp only [spec_l6Rd_pick.j0, e2]
    rw [if_neg (by simp), if_pos hlt, if_pos hp, if_neg (by omega), w64 (by omega) (by omega)]
  · have m1 := tmod_range p (s.length : Int) hp (by omega)
    have e3 : wrap64 (p * 7) = p * 7 := w64 (by omega) (by omega)
    have e4 : wrap64 (p * 7 + 3) = p * 7 + 3 := w64 (by omega) (by omega)
    have m2 := tmod_range (p * 7 + 3) (s.length : Int) (by omega) (by omega)
    have d1 := tdiv_range p (s.length : Int) hp (by omega)
    have r1 := rd_byte hs (Int.tmod p (s.length : Int))
    have r2 := rd_byte hs (Int.tmod (p * 7 + 3) (s.length : Int))
    generalize ha : rd s (Int.tmod p (s.length : Int)) = a at *
    generalize hc : rd s (Int.tmod (p * 7 + 3) (s.length : Int)) = c at *
    generalize hd : Int.tdiv p (s.length : Int) = d at *
    have e5 : wrap64 (wrap64 (wrap64 (wrap64 (wrap64 a * 131) + wrap64 (wrap64 c * 1117)) + wrap64 (p * 29)) + wrap64 (wrap64 d * 53)) = a * 131 + c * 1117 + p * 29 + d * 53 := by
      rw [w64 (x := a) (by omega) (by omega), w64 (x := c) (by omega) (by omega), w64 (x := d) (by omega) (by omega), w64 (x := a * 131) (by omega) (by omega), w64 (x := c * 1117) (by omega) (by omega), w64 (x := d * 53) (by omega) (by omega), w64 (x := p * 29) (by omega) (by omega), w64 (x := a * 131 + c * 1117) (by omega) (by omega), w64 (x := a * 131 + c * 1117 + p * 29) (by omega) (by omega), w64 (by omega) (by omega)]
    generalize hx : a * 131 + c * 1117 + p * 29 + d * 53 = x at *
    have d2 := tdiv_range x 64 (by omega) (by omega)
    have e6 : wrap64 (Int.tdiv x 64) = Int.tdiv x 64 := w64 (by omega) (by omega)
    have hxor := xor_nonneg' x (Int.tdiv x 64) (by omega) (by omega) d2.1 (by omega)
    have hq := tmod_range (Go.bits .xor .i64 x (Int.tdiv x 64)) n hxor hn
    refine ⟨_, fun k hk => ?_, hq.1, hq.2⟩
    obtain ⟨k, rfl⟩ : ∃ m, k = m + 1 := ⟨k - 1, by omega⟩
    simp only [spec_l6Rd_pick.f]
    rw [if_neg (by omega), e1, hb]
    simp only [spec_l6Rd_pick.j0, e2, e3, e4, ha, hc, hd, e5, e6]
    rw [if_neg (by simp), if_neg hlt, if_neg h0, if_pos m1.1, if_pos m1.2, if_pos m2.1, if_pos m2.2, if_neg (by omega)]
theorem open_ev (l : List Int) (h : ∀ x ∈ l, (Lit.int .u8 x).wf = true) : ∃ s, spec_l6Open.f l = some (s, 0) ∧ Bytes s := by
  have hb : ∀ x ∈ l, 0 ≤ x ∧ x ≤ 255 := fun x hx => bounds_u8 (h x hx)
  unfold spec_l6Open.f
  by_cases hl : (l.length : Int) > 2000
  · rw [if_pos hl, if_pos (by omega)]
    exact ⟨_, rfl, by rw [List.length_take]; omega, fun x hx => hb x (List.mem_of_mem_take hx)⟩
  · rw [if_neg hl]
    exact ⟨_, rfl, by omega, hb⟩
end Go.Proofs.Ythhjdngailhihaa.Draw
end
section
set_option linter.unusedVariables false
set_option linter.unusedSimpArgs false
namespace Go.Proofs.Ythhjdngailhihaa.Places
open Go.RowKit Go.Proofs.Ythhjdngailhihaa.PA Go.Proofs.YthhjdngailhihaaW.PrintWords Go.Proofs.YthhjdngailhihaaW.PrintLast Go.Proofs.Ythhjdngailhihaa.Draw
theorem rdm (pre r : List Int) (i : Int) : rd (pre ++ i :: r) (pre.length : Int) = i := by
  unfold rd
  rw [List.getD_eq_getElem?_getD, show ((pre.length : Int)).toNat = pre.length by omega]
  simp
def nl (a : ByteArray) : Nat → Nat → Bool
  | 0, _ => true
  | n + 1, i => if bt a i < 97 then false else if bt a i > 122 then false else nl a n (i + 1)
theorem nameLoop_ev (a : ByteArray) (hs : a.size ≤ 1000) : ∀ (n i k : Nat), i + n = a.size → n + 1 ≤ k → impl_nameForm.l0 k a (a.size : Int) (i : Int) = some (nl a n i) := by
  intro n
  induction n with
  | zero =>
    intro i k h hk
    obtain ⟨k, rfl⟩ : ∃ m, k = m + 1 := ⟨k - 1, by omega⟩
    simp only [impl_nameForm.l0]
    rw [if_neg (by omega)]; rfl
  | succ n ih =>
    intro i k h hk
    obtain ⟨k, rfl⟩ : ∃ m, k = m + 1 := ⟨k - 1, by omega⟩
    simp only [impl_nameForm.l0, nl]
    rw [if_pos (by omega), if_pos (by omega), if_pos (by omega)]
    by_cases c1 : bt a i < 97
    · rw [if_pos c1, if_pos c1]
    · rw [if_neg c1, if_neg c1]
      by_cases c2 : bt a i > 122
      · rw [if_pos c2, if_pos c2]
      · rw [if_neg c2, if_neg c2, w64 (by omega) (by omega)]
        exact ih (i + 1) k (by omega) (by omega)
theorem name2Loop_ev (a : ByteArray) (hs : a.size ≤ 1000) : ∀ (n i k : Nat), i + n = a.size → n + 1 ≤ k → spec_l2Name.l0 k a (i : Int) = some (nl a n i) := by
  intro n
  induction n with
  | zero =>
    intro i k h hk
    obtain ⟨k, rfl⟩ : ∃ m, k = m + 1 := ⟨k - 1, by omega⟩
    simp only [spec_l2Name.l0]
    rw [if_neg (by omega)]; rfl
  | succ n ih =>
    intro i k h hk
    obtain ⟨k, rfl⟩ : ∃ m, k = m + 1 := ⟨k - 1, by omega⟩
    simp only [spec_l2Name.l0, nl]
    rw [if_pos (by omega), if_pos (by omega)]
    by_cases c1 : bt a i < 97
    · rw [if_pos c1, if_pos c1]
    · rw [if_neg c1, if_neg c1]
      by_cases c2 : bt a i > 122
      · rw [if_pos c2, if_pos c2]
      · rw [if_neg c2, if_neg c2, w64 (by omega) (by omega)]
        exact ih (i + 1) k (by omega) (by omega)
def nf (a : ByteArray) : Bool := if a.size < 1 then false else if a.size > 6 then false else nl a a.size 0
theorem implName_ev (a : ByteArray) (k : Nat) (hk : 10 ≤ k) : impl_nameForm.f k a = some (nf a) := by
  obtain ⟨k, rfl⟩ : ∃ m, k = m + 1 := ⟨k - 1, by omega⟩
  unfold impl_nameForm.f nf
  by_cases c : a.size < 1
  · rw [if_pos (by omega), if_pos c]; simp only [impl_nameForm.j0, if_true]
  · rw [if_neg (by omega), if_neg c]
    by_cases c2 : a.size > 6
    · rw [show decide ((a.size : Int) > 6) = true from decide_eq_true (by omega), if_pos c2]; simp only [impl_nameForm.j0, if_true]
    · rw [show decide ((a.size : Int) > 6) = false from decide_eq_false (by omega), if_neg c2]
      simp only [impl_nameForm.j0]
      rw [if_neg (by simp)]
      exact nameLoop_ev a (by omega) a.size 0 k (by omega) (by omega)
theorem specName_ev (a : ByteArray) (k : Nat) (hk : 10 ≤ k) : spec_l2Name.f k a = some (nf a) := by
  obtain ⟨k, rfl⟩ : ∃ m, k = m + 1 := ⟨k - 1, by omega⟩
  unfold spec_l2Name.f nf
  by_cases c : a.size < 1
  · rw [if_pos (by omega), if_pos c]; simp only [spec_l2Name.j0, if_true]
  · rw [if_neg (by omega), if_neg c]
    by_cases c2 : a.size > 6
    · rw [show decide ((a.size : Int) > 6) = true from decide_eq_true (by omega), if_pos c2]; simp only [spec_l2Name.j0, if_true]
    · rw [show decide ((a.size : Int) > 6) = false from decide_eq_false (by omega), if_neg c2]
      simp only [spec_l2Name.j0]
      rw [if_neg (by simp)]
      exact name2Loop_ev a (by omega) a.size 0 k (by omega) (by omega)
def pl : List Int → Bool
  | [] => true
  | i :: r => if i < 0 then false else if i > 1 then false else pl r
def pf (l : List Int) : Bool := if l.length > 4 then false else pl l
theorem pathLoop_ev : ∀ (r pre : List Int) (k : Nat), pre.length + r.length ≤ 1000 → r.length + 1 ≤ k → impl_pathForm.l0 k (pre ++ r) ((pre ++ r).length : Int) (pre.length : Int) = some (pl r) := by
  intro r
  induction r with
  | nil =>
    intro pre k h hk
    obtain ⟨k, rfl⟩ : ∃ m, k = m + 1 := ⟨k - 1, by omega⟩
    simp only [impl_pathForm.l0]
    rw [if_neg (by simp)]; rfl
  | cons i r ih =>
    intro pre k h hk
    simp only [List.length_cons] at h hk
    obtain ⟨k, rfl⟩ : ∃ m, k = m + 1 := ⟨k - 1, by omega⟩
    have hl : ((pre ++ i :: r).length : Int) = pre.length + 1 + r.length := by simp; omega
    simp only [impl_pathForm.l0, rdm, pl]
    rw [if_pos (by omega), if_pos (by omega), if_pos (by omega)]
    by_cases c1 : i < 0
    · rw [if_pos c1, if_pos c1]
    · rw [if_neg c1, if_neg c1]
      by_cases c2 : i > 1
      · rw [if_pos c2, if_pos c2]
      · rw [if_neg c2, if_neg c2, w64 (by omega) (by omega)]
        have ea : pre ++ i :: r = (pre ++ [i]) ++ r := by simp
        have el : (pre.length : Int) + 1 = ((pre ++ [i]).length : Int) := by simp
        rw [el, ea]
        exact ih _ k (by simp; omega) (by omega)
theorem path2Loop_ev (a : ByteArray) : ∀ (r pre : List Int) (k : Nat), pre.length + r.length ≤ 1000 → r.length + 1 ≤ k → spec_l2Place.l0 k (pre.length : Int) a (pre ++ r) = some (pl r) := by
  intro r
  induction r with
  | nil =>
    intro pre k h hk
    obtain ⟨k, rfl⟩ : ∃ m, k = m + 1 := ⟨k - 1, by omega⟩
    simp only [spec_l2Place.l0]
    rw [if_neg (by simp)]; rfl
  | cons i r ih =>
    intro pre k h hk
    simp only [List.length_cons] at h hk
    obtain ⟨k, rfl⟩ : ∃ m, k = m + 1 := ⟨k - 1, by omega⟩
    have hl : ((pre ++ i :: r).length : Int) = pre.length + 1 + r.length := by simp; omega
    simp only [spec_l2Place.l0, rdm, pl, spec_l6In.f]
    rw [if_pos (by omega), if_pos (by omega)]
    by_cases c1 : i < 0
    · rw [if_neg (by omega), if_pos c1]; rfl
    · rw [if_pos (by omega), if_neg c1]; simp only [Option.bind_some]
      by_cases c2 : i > 1
      · rw [if_neg (by simp; omega), if_pos c2]
      · rw [if_pos (by simp; omega), if_neg c2, w64 (by omega) (by omega)]
        have ea : pre ++ i :: r = (pre ++ [i]) ++ r := by simp
        have el : (pre.length : Int) + 1 = ((pre ++ [i]).length : Int) := by simp
        rw [el, ea]
        exact ih _ k (by simp; omega) (by omega)
def wf (a : ByteArray) (l : List Int) : Bool := nf a && pf l
theorem implForm_ev (a : ByteArray) (l : List Int) (k : Nat) (hk : 20 ≤ k) : impl_placeForm.f k a l = some (wf a l) := by
  unfold impl_placeForm.f wf
  rw [implName_ev a k (by omega)]; simp only [Option.bind_some]
  cases nf a with
  | false => rfl
  | true =>
    simp only [if_true]
    unfold impl_pathForm.f pf
    by_cases c : l.length > 4
    · rw [if_pos (by omega), if_pos c]; rfl
    · rw [if_neg (by omega), if_neg c]
      have := pathLoop_ev l [] k (by simp; omega) (by omega)
      simp only [List.nil_append, List.length_nil] at this
      rw [show ((0 : Nat) : Int) = 0 from rfl] at this
      rw [this]; simp
theorem specForm_ev (a : ByteArray) (l : List Int) (k : Nat) (hk : 20 ≤ k) : spec_l2Place.f k a l = some (wf a l) := by
  obtain ⟨k, rfl⟩ : ∃ m, k = m + 1 := ⟨k - 1, by omega⟩
  unfold spec_l2Place.f wf
  rw [specName_ev a (k + 1) (by omega)]; simp only [Option.bind_some]
  cases nf a with
  | false => simp only [spec_l2Place.j0, if_true]; rfl
  | true =>
    simp only [if_true, spec_l2Place.j0]
    unfold pf
    by_cases c : l.length > 4
    · rw [if_pos (by simp; omega), if_pos c]; rfl
    · rw [if_neg (by simp; omega), if_neg c]
      have := path2Loop_ev a l [] k (by simp; omega) (by omega)
      simp only [List.nil_append, List.length_nil] at this
      rw [show ((0 : Nat) : Int) = 0 from rfl] at this
      rw [this]; simp
def mt : List Int → List Int → Bool
  | [], _ => true
  | _ :: _, [] => true
  | i :: r, j :: s => if i = j then mt r s else false
theorem mt_nil (l : List Int) : mt l [] = true := by cases l <;> rfl
theorem mt_self : ∀ l, mt l l = true := by
  intro l
  induction l with
  | nil => rfl
  | cons i r ih => unfold mt; rw [if_pos rfl, ih]
theorem mt_app : ∀ l r, mt l (l ++ r) = true := by
  intro l r
  induction l with
  | nil => rfl
  | cons i s ih => rw [List.cons_append]; unfold mt; rw [if_pos rfl, ih]
theorem mt_comm : ∀ l m, mt l m = mt m l := by
  intro l
  induction l with
  | nil => intro m; rw [mt_nil]; rfl
  | cons i r ih =>
    intro m
    cases m with
    | nil => rfl
    | cons j s =>
      unfold mt
      by_cases c : i = j
      · rw [if_pos c, if_pos c.symm, ih]
      · rw [if_neg c, if_neg (fun e => c e.symm)]
theorem mt_take : ∀ (l m : List Int) (n : Nat), n ≤ l.length → n ≤ m.length → (l.length ≤ n ∨ m.length ≤ n) → mt l m = decide (l.take n = m.take n) := by
  intro l
  induction l with
  | nil =>
    intro m n h1 _ _
    simp only [List.length_nil] at h1
    obtain rfl : n = 0 := by omega
    simp [mt]
  | cons i r ih =>
    intro m n h1 h2 h3
    cases m with
    | nil =>
      simp only [List.length_nil] at h2
      obtain rfl : n = 0 := by omega
      simp [mt]
    | cons j s =>
      cases n with
      | zero => simp at h3
      | succ n =>
        simp only [List.length_cons] at h1 h2 h3
        unfold mt
        rw [List.take_succ_cons, List.take_succ_cons]
        by_cases c : i = j
        · rw [if_pos c, ih s n (by omega) (by omega) (by omega), c]; simp
        · rw [if_neg c]; simp [c]
theorem rdAt (pre r : List Int) (i : Int) (n : Int) (h : n = pre.length) : rd (pre ++ i :: r) n = i := by rw [h]; exact rdm pre r i
theorem equalLoop_ev : ∀ (r s p q : List Int) (k : Nat), p.length = q.length → r.length = s.length → p.length + r.length ≤ 4611686018427387904 → r.length + 1 ≤ k →
    slices_Equal_int_int.l0 k (p ++ r) (q ++ s) ((p ++ r).length : Int) (p.length : Int) = some (decide (r = s)) := by
  intro r
  induction r with
  | nil =>
    intro s p q k hp hs h hk
    obtain ⟨k, rfl⟩ : ∃ m, k = m + 1 := ⟨k - 1, by omega⟩
    obtain rfl : s = [] := List.length_eq_zero_iff.1 hs.symm
    simp only [slices_Equal_int_int.l0]
    rw [if_neg (by simp)]; rfl
  | cons i r ih =>
    intro s p q k hp hs h hk
    cases s with
    | nil => simp at hs
    | cons j s =>
      simp only [List.length_cons] at hs h hk
      obtain ⟨k, rfl⟩ : ∃ m, k = m + 1 := ⟨k - 1, by omega⟩
      have hl : ((p ++ i :: r).length : Int) = p.length + 1 + r.length := by simp; omega
      have hl2 : ((q ++ j :: s).length : Int) = p.length + 1 + r.length := by simp; omega
      simp only [slices_Equal_int_int.l0, rdm]
      rw [rdAt q s j _ (by omega), if_pos (by omega), if_pos (by omega), if_pos (by omega), if_pos (by omega)]
      by_cases c : i = j
      · rw [if_pos c, w64 (by omega) (by omega)]
        have ea : p ++ i :: r = (p ++ [i]) ++ r := by simp
        have eb : q ++ j :: s = (q ++ [j]) ++ s := by simp
        have el : (p.length : Int) + 1 = ((p ++ [i]).length : Int) := by simp
        rw [el, ea, eb, ih s _ _ k (by simp; omega) (by omega) (by simp; omega) (by omega), c]; simp
      · rw [if_neg c]; simp [c]
theorem equal_ev (l m : List Int) (k : Nat) (h : l.length ≤ 4611686018427387904) (hk : l.length + 1 ≤ k) : slices_Equal_int_int.f k l m = some (decide (l = m)) := by
  unfold slices_Equal_int_int.f
  by_cases c : l.length = m.length
  · rw [if_pos (by omega)]
    have := equalLoop_ev l m [] [] k rfl c (by simpa using h) hk
    simpa using this
  · rw [if_neg (by omega)]
    have : l ≠ m := fun e => c (by rw [e])
    simp [this]
def pm (a : ByteArray) (l : List Int) (b : ByteArray) (m : List Int) : Bool := decide (a.toList = b.toList) && mt l m
theorem implMeet_ev (a : ByteArray) (l : List Int) (b : ByteArray) (m : List Int) (k : Nat) (h : l.length ≤ 1000) (h2 : m.length ≤ 1000) (hk : 1010 ≤ k) : impl_placesMeet.f k a l b m = some (pm a l b m) := by
  unfold impl_placesMeet.f pm
  by_cases c : a.toList = b.toList
  · by_cases c2 : m.length < l.length
    · rw [if_pos (by omega), if_pos c, if_pos (by omega), if_pos (by omega), if_pos (by omega), show (((m.length : Int)) : Int).toNat = m.length by omega]
      rw [equal_ev _ _ k (by simp; omega) (by simp; omega), ← mt_take l m m.length (by omega) (by omega) (by omega)]; simp [c]
    · rw [if_neg (by omega), if_pos c, if_pos (by omega), if_pos (by omega), if_pos (by omega), show (((l.length : Int)) : Int).toNat = l.length by omega]
      rw [equal_ev _ _ k (by simp; omega) (by simp; omega), ← mt_take l m l.length (by omega) (by omega) (by omega)]; simp [c]
  · rw [if_neg c, if_neg c]; simp [c]
theorem meetLoop_ev (a b : ByteArray) : ∀ (r s p q : List Int) (k : Nat), p.length = q.length → p.length + r.length ≤ 1000 → p.length + s.length ≤ 1000 → 2 * r.length + 3 ≤ k →
    spec_l3Meet.l0 k (p.length : Int) a (p ++ r) b (q ++ s) = some (mt r s) := by
  intro r
  induction r with
  | nil =>
    intro s p q k hp h h2 hk
    obtain ⟨k, rfl⟩ : ∃ m, k = m + 2 := ⟨k - 2, by omega⟩
    simp only [spec_l3Meet.l0]
    rw [if_neg (by simp)]; simp only [spec_l3Meet.j1]
    rw [if_neg (by simp)]; rfl
  | cons i r ih =>
    intro s p q k hp h h2 hk
    simp only [List.length_cons] at h hk
    obtain ⟨k, rfl⟩ : ∃ m, k = m + 2 := ⟨k - 2, by omega⟩
    have hl : ((p ++ i :: r).length : Int) = p.length + 1 + r.length := by simp; omega
    simp only [spec_l3Meet.l0]
    rw [if_pos (by omega)]; simp only [spec_l3Meet.j1]
    cases s with
    | nil =>
      have hl2 : ((q ++ []).length : Int) = p.length := by simp; omega
      rw [if_neg (by simp; omega)]; rfl
    | cons j s =>
      simp only [List.length_cons] at h2
      have hl2 : ((q ++ j :: s).length : Int) = p.length + 1 + s.length := by simp; omega
      rw [if_pos (by simp; omega), if_pos (by omega), if_pos (by omega), if_pos (by omega), rdm, rdAt q s j _ (by omega)]
      unfold mt
      by_cases c : i = j
      · rw [if_pos c, if_pos c, w64 (by omega) (by omega)]
        have ea : p ++ i :: r = (p ++ [i]) ++ r := by simp
        have eb : q ++ j :: s = (q ++ [j]) ++ s := by simp
        have el : (p.length : Int) + 1 = ((p ++ [i]).length : Int) := by simp
        rw [el, ea, eb, ih s _ _ k (by simp; omega) (by simp; omega) (by simp; omega) (by omega)]
      · rw [if_neg c, if_neg c]
theorem specMeet_ev (a : ByteArray) (l : List Int) (b : ByteArray) (m : List Int) (k : Nat) (h : l.length ≤ 1000) (h2 : m.length ≤ 1000) (hk : 2010 ≤ k) : spec_l3Meet.f k a l b m = some (pm a l b m) := by
  unfold spec_l3Meet.f pm
  by_cases c : a.toList = b.toList
  · rw [if_pos c]
    have := meetLoop_ev a b l m [] [] k rfl (by simpa using h) (by simpa using h2) (by omega)
    simp only [List.nil_append, List.length_nil] at this
    rw [show ((0 : Nat) : Int) = 0 from rfl] at this
    rw [this]; simp [c]
  · rw [if_neg c]; simp [c]
theorem wf_len {a : ByteArray} {l : List Int} (h : wf a l = true) : l.length ≤ 4 := by
  unfold wf pf at h
  by_cases c : l.length > 4
  · rw [if_pos c] at h; simp at h
  · omega
def lm (a : ByteArray) (l : List Int) (b : ByteArray) (m : List Int) : Bool := wf a l && (wf b m && pm a l b m)
theorem implLend_ev (a : ByteArray) (l : List Int) (b : ByteArray) (m : List Int) (k : Nat) (hk : 3000 ≤ k) : impl_LendMeet.f k a l b m = some (lm a l b m) := by
  unfold impl_LendMeet.f lm
  rw [implForm_ev a l k (by omega)]; simp only [Option.bind_some]
  cases e : wf a l with
  | false => rfl
  | true =>
    simp only [if_true]
    rw [implForm_ev b m k (by omega)]; simp only [Option.bind_some]
    cases e2 : wf b m with
    | false => rfl
    | true =>
      have := wf_len e
      have := wf_len e2
      simp only [if_true]
      rw [implMeet_ev a l b m k (by omega) (by omega) (by omega)]; simp
theorem specLend_ev (a : ByteArray) (l : List Int) (b : ByteArray) (m : List Int) (k : Nat) (hk : 3000 ≤ k) : spec_LendMeet.f k a l b m = some (lm a l b m) := by
  unfold spec_LendMeet.f lm
  rw [specForm_ev a l k (by omega)]; simp only [Option.bind_some]
  cases e : wf a l with
  | false => rfl
  | true =>
    simp only [if_true]
    rw [specForm_ev b m k (by omega)]; simp only [Option.bind_some]
    cases e2 : wf b m with
    | false => rfl
    | true =>
      have := wf_len e
      have := wf_len e2
      simp only [if_true]
      rw [specMeet_ev a l b m k (by omega) (by omega) (by omega)]; simp
theorem lm_comm (a : ByteArray) (l : List Int) (b : ByteArray) (m : List Int) : lm b m a l = lm a l b m := by
  unfold lm pm
  rw [mt_comm m l, show decide (b.toList = a.toList) = decide (a.toList = b.toList) from by rw [decide_eq_decide]; exact eq_comm]
  cases wf a l <;> cases wf b m <;> rfl
theorem lm_self (a : ByteArray) (l : List Int) : lm a l a l = wf a l := by
  unfold lm pm
  rw [mt_self]; cases wf a l <;> simp
theorem pl_app : ∀ (l : List Int) (e : Int), pl l = true → 0 ≤ e → e ≤ 1 → pl (l ++ [e]) = true := by
  intro l e
  induction l with
  | nil => intro _ h0 h1; rw [List.nil_append]; unfold pl; rw [if_neg (by omega), if_neg (by omega)]; rfl
  | cons i r ih =>
    intro h h0 h1
    rw [List.cons_append]
    unfold pl at h ⊢
    by_cases c1 : i < 0
    · rw [if_pos c1] at h; cases h
    · rw [if_neg c1] at h ⊢
      by_cases c2 : i > 1
      · rw [if_pos c2] at h; cases h
      · rw [if_neg c2] at h ⊢; exact ih h h0 h1
theorem lm_part (a : ByteArray) (l : List Int) (e : Int) (h : wf a l = true) (h0 : 0 ≤ e) (h1 : e ≤ 1) (hl : (l ++ [e]).length ≤ 4) : lm a l a (l ++ [e]) = true := by
  have h' : wf a (l ++ [e]) = true := by
    have hl' := wf_len h
    unfold wf pf at h ⊢
    rw [if_neg (by omega)] at h
    rw [if_neg (by omega)]
    rw [Bool.and_eq_true] at h ⊢
    exact ⟨h.1, pl_app l e h.2 h0 h1⟩
  unfold lm pm
  rw [h, h', mt_app]; simp
end Go.Proofs.Ythhjdngailhihaa.Places
end
section
set_option linter.unusedSimpArgs false
set_option linter.unusedVariables false
namespace Go.Proofs.Ythhjdngailhihaa.Pure
open Go.RowKit Go.Proofs.Ythhjdngailhihaa.PA Go.Proofs.YthhjdngailhihaaW.PrintWords Go.Proofs.YthhjdngailhihaaW.PrintLast Go.Proofs.Ythhjdngailhihaa.Draw Go.Proofs.Ythhjdngailhihaa.Places
theorem of_ev (s : List Int) (hs : Bytes s) (p : Int) (l : List ByteArray) (hp : 0 ≤ p) (hp1 : p ≤ 1099511627776) (hl : 1 ≤ l.length) : ∃ a, ∀ k, 2 ≤ k → spec_l6Rd_of.f k s p l = some (a, p + 1) := by
  obtain ⟨r, hr, r0, r1⟩ := pick_ev s hs p (l.length : Int) hp hp1 (by omega)
  refine ⟨rdOf ByteArray.empty l r, fun k hk => ?_⟩
  unfold spec_l6Rd_of.f
  rw [hr k hk]; simp only [Option.bind_some]
  rw [if_pos r0, if_pos r1]
theorem placeLoop_ev (s : List Int) (hs : Bytes s) : ∀ (n : Nat), n ≤ 100 → ∀ (p : Int) (a : ByteArray) (l : List Int), 0 ≤ p → p + n ≤ 1000000 → l.length + n ≤ 1000 →
    ∃ b m q, (∀ k, n + 5 ≤ k → spec_l71Place.l0 k (n : Int) s p a l = some (b, m, q)) ∧ p ≤ q ∧ q ≤ p + n + 3 ∧ m.length ≤ l.length + n + 1 := by
  intro n
  induction n with
  | zero =>
    intro hn p a l hp hp1 hl
    obtain ⟨c, hc, c0, c1⟩ := pick_ev s hs p 20 hp (by omega) (by omega)
    by_cases e0 : c = 0
    · obtain ⟨b, hb⟩ := of_ev s hs (p + 1) [(⟨#[]⟩ : ByteArray), (⟨#[80]⟩ : ByteArray)] (by omega) (by omega) (by simp)
      refine ⟨b, l, p + 1 + 1, fun k hk => ?_, by omega, by omega, by omega⟩
      obtain ⟨k, rfl⟩ : ∃ m, k = m + 1 := ⟨k - 1, by omega⟩
      simp only [spec_l71Place.l0]
      rw [if_neg (by omega), hc k (by omega)]; simp only [Option.bind_some]
      rw [if_pos e0, hb k (by omega)]; rfl
    · by_cases e1 : c = 1
      · obtain ⟨d, hd, d0, d1⟩ := pick_ev s hs (p + 1) 2 (by omega) (by omega) (by omega)
        refine ⟨a, l ++ [rd [(-1), 2] d], p + 1 + 1, fun k hk => ?_, by omega, by omega, by simp⟩
        obtain ⟨k, rfl⟩ : ∃ m, k = m + 1 := ⟨k - 1, by omega⟩
        simp only [spec_l71Place.l0]
        rw [if_neg (by omega), hc k (by omega)]; simp only [Option.bind_some]
        rw [if_neg e0, if_pos e1, hd k (by omega)]; simp only [Option.bind_some]
        rw [if_pos d0, if_pos (by simp; omega), if_pos (by omega)]
      · refine ⟨a, l, p + 1, fun k hk => ?_, by omega, by omega, by omega⟩
        obtain ⟨k, rfl⟩ : ∃ m, k = m + 1 := ⟨k - 1, by omega⟩
        simp only [spec_l71Place.l0]
        rw [if_neg (by omega), hc k (by omega)]; simp only [Option.bind_some]
        rw [if_neg e0, if_neg e1]
  | succ n ih =>
    intro hn p a l hp hp1 hl
    obtain ⟨c, hc, c0, c1⟩ := pick_ev s hs p 2 hp (by omega) (by omega)
    obtain ⟨b, m, q, hr, g1, g2, g3⟩ := ih (by omega) (p + 1) a (l ++ [c]) (by omega) (by omega) (by simp; omega)
    rw [List.length_append, List.length_singleton] at g3
    refine ⟨b, m, q, fun k hk => ?_, by omega, by omega, by omega⟩
    obtain ⟨k, rfl⟩ : ∃ m, k = m + 1 := ⟨k - 1, by omega⟩
    simp only [spec_l71Place.l0]
    rw [if_pos (by omega), hc k (by omega)]; simp only [Option.bind_some]
    rw [if_pos (by omega), w64 (by omega) (by omega), show ((n + 1 : Nat) : Int) - 1 = (n : Int) by omega]
    exact hr k (by omega)
theorem place_ev (s : List Int) (hs : Bytes s) (p : Int) (hp : 0 ≤ p) (hp1 : p ≤ 1000) : ∃ a l q, (∀ k, 20 ≤ k → spec_l71Place.f k s p = some (a, l, q)) ∧ p ≤ q ∧ q ≤ p + 20 ∧ l.length ≤ 10 := by
  obtain ⟨a, ha⟩ := of_ev s hs p [(⟨#[112]⟩ : ByteArray), (⟨#[113]⟩ : ByteArray), (⟨#[114]⟩ : ByteArray), (⟨#[97, 98]⟩ : ByteArray), (⟨#[97, 99]⟩ : ByteArray), (⟨#[97, 100]⟩ : ByteArray)] hp (by omega) (by simp)
  obtain ⟨c, hc, c0, c1⟩ := pick_ev s hs (p + 1) 4 (by omega) (by omega) (by omega)
  obtain ⟨n, rfl⟩ := Int.eq_ofNat_of_zero_le c0
  obtain ⟨b, m, q, hr, g1, g2, g3⟩ := placeLoop_ev s hs n (by omega) (p + 1 + 1) a [] (by omega) (by omega) (by simp; omega)
  rw [List.length_nil] at g3
  refine ⟨b, m, q, fun k hk => ?_, by omega, by omega, by omega⟩
  unfold spec_l71Place.f
  rw [ha k (by omega)]; simp only [Option.bind_some]
  rw [hc k (by omega)]; simp only [Option.bind_some]
  exact hr k (by omega)
theorem drawMeet_ev (l : List Int) (h : ∀ x ∈ l, (Lit.int .u8 x).wf = true) : ∃ a m b n, (∀ k, 20 ≤ k → spec_DrawLendMeet.f k l = some (a, m, b, n)) ∧ m.length ≤ 10 := by
  obtain ⟨s, ho, hs⟩ := open_ev l h
  obtain ⟨a, m, q, h1, g1, g2, g5⟩ := place_ev s hs 0 (by omega) (by omega)
  obtain ⟨b, n, q2, h2, g3, g4, _⟩ := place_ev s hs q (by omega) (by omega)
  obtain ⟨c, hc, c0, c1⟩ := pick_ev s hs q2 3 (by omega) (by omega) (by omega)
  by_cases e : c > 0
  · refine ⟨a, m, a, n, fun k hk => ?_, g5⟩
    unfold spec_DrawLendMeet.f
    rw [ho]; simp only [Option.bind_some]
    rw [h1 k (by omega)]; simp only [Option.bind_some]
    rw [h2 k (by omega)]; simp only [Option.bind_some]
    rw [hc k (by omega)]; simp only [Option.bind_some]
    rw [if_pos e]
  · refine ⟨a, m, b, n, fun k hk => ?_, g5⟩
    unfold spec_DrawLendMeet.f
    rw [ho]; simp only [Option.bind_some]
    rw [h1 k (by omega)]; simp only [Option.bind_some]
    rw [h2 k (by omega)]; simp only [Option.bind_some]
    rw [hc k (by omega)]; simp only [Option.bind_some]
    rw [if_neg e]
theorem FnLendMeet : laws_FnLendMeet.Pure := by
  intro l0 l1 _ _ h0 hm1 _ h1
  obtain ⟨a, l, b, m, ht, hl⟩ := drawMeet_ev l0 h0
  refine ⟨4000, ?_⟩
  have key : (l1.length : Int) ≤ 1048576 → laws_FnLendMeet.j0 4000 l0 l1 false = some true := by
    intro hle
    simp only [laws_FnLendMeet.j0]
    rw [if_neg (by simp), ht 3999 (by omega)]; simp only [Option.bind_some]
    rw [implLend_ev a l b m 3999 (by omega)]; simp only [Option.bind_some]
    rw [specLend_ev a l b m 3999 (by omega)]; simp only [Option.bind_some]
    rw [if_neg (by simp), implLend_ev b m a l 3999 (by omega), lm_comm a l b m]; simp only [Option.bind_some, bne_self_eq_false]
    simp only [laws_FnLendMeet.j1]
    rw [if_neg (by simp), implLend_ev a l a l 3998 (by omega), lm_self]; simp only [Option.bind_some]
    have m0 := Int.emod_nonneg (l1.length : Int) (show (2 : Int) ≠ 0 by omega)
    have m1 := Int.emod_lt_of_pos (l1.length : Int) (show 0 < (2 : Int) by omega)
    generalize (l1.length : Int) % 2 = c at *
    rw [if_pos (by simp; omega), if_pos (by simp; omega), List.nil_append]
    rw [specLend_ev a l a l 3998 (by omega), lm_self]; simp only [Option.bind_some]
    rw [if_pos (by simp)]
    cases e : wf a l with
    | false =>
      have hz : lm a l b m = false := by unfold lm; rw [e]; rfl
      rw [hz, if_neg (by simp), if_neg (by simp)]
    | true =>
      rw [if_pos rfl]
      by_cases c4 : ((l ++ [c]).length : Int) > 4
      · rw [if_pos c4]; split <;> rfl
      · rw [if_neg c4, implLend_ev a l a (l ++ [c]) 3998 (by omega), lm_part a l c e m0 (by omega) (by omega)]; simp only [Option.bind_some, if_true]
        split <;> rfl
  have big : laws_FnLendMeet.j0 4000 l0 l1 true = some true := by simp only [laws_FnLendMeet.j0, if_true]
  unfold laws_FnLendMeet.f
  by_cases c : (l0.length : Int) > 1048576
  · rw [if_pos c]; exact big
  · rw [if_neg c]
    by_cases c2 : (l1.length : Int) > 1048576
    · rw [show decide ((l1.length : Int) > 1048576) = true from decide_eq_true c2]; exact big
    · rw [show decide ((l1.length : Int) > 1048576) = false from decide_eq_false c2]; exact key (by omega)
end Go.Proofs.Ythhjdngailhihaa.Pure
end
section
namespace Go.Proofs.YthhjdngailhihaaW.PrintWords
open Go.ChangeShapes Go.WideShapes
theorem sized_ints {H : Type} {enc : TypeId × Value → H} {P : Program} {W : World} {base : Nat} {spare : Nat → Bool} {held : Bool} {t e : TypeId} {k : IntKind} {a : Option Addr} {len cap : Nat} {d : DataW H} {ps : List MemPlace} {ts : List TypeId} {ds : List (DataW H)} {j : Nat}
    (hsz : (DataW.weightsEach P ts ds).all (· ≤ reachBytes) = true) (ht : ts[j]? = some t) (hd : ds[j]? = some d) (hu : P.underlying t = some (.slice e)) (he : P.underlying e = some (.int k)) (hc : P.cellsOf e = 1) {B : Nat} (hB : P.bytesOf e = B)
    (h : DataW.Trod enc P W base spare held t (.slice a len cap) d ps) : len * B ≤ 140737488351232 := by
  obtain ⟨fuel, hf⟩ := h
  rcases open_ints hu he hc hf with ⟨hcs, _⟩ | ⟨x, l, c, zs, hcs, _, hl, _, hz, hx, _, _⟩
  · simp [Value.cells] at hcs
    obtain ⟨rfl, rfl, rfl⟩ := hcs
    simp
  · simp [Value.cells] at hcs
    obtain ⟨rfl, rfl, rfl⟩ := hcs
    obtain ⟨hx, _⟩ := Prod.mk.inj hx
    subst hx
    have z := sized_slice hsz ht hd hu
    rw [hB] at z
    have hl2 : len ≤ zs.length := by
      rw [hz]
      split
      · exact hl
      · exact Nat.le_refl _
    have h1 : (lits (H := H) k (zs.take len)).length + (lits (H := H) k (zs.drop len)).length = zs.length := by
      simp [lits]
      omega
    rw [h1] at z
    exact Nat.le_trans (Nat.mul_le_mul_right _ hl2) z
end Go.Proofs.YthhjdngailhihaaW.PrintWords
end
section
namespace Go.Proofs.Ythhjdngailhihaa.fnLendMeet
open Go.ChangeShapes Go.WideShapes Go.ChangeAt Go.RowKit
open Go.ChangeMaps (open_string shut_string)
set_option linter.unusedVariables false
theorem own : ownKnob Try.prog.godebug = none := by kernel_rfl
theorem laidOut : laidOutB Try.prog = true := by kernel_rfl
def IsRow (k : IntKind) (w : World) (a : Option Addr) (len cap : Nat) (zs : List Int) : Prop :=
  (a = none ∧ len = 0 ∧ cap = 0 ∧ zs = []) ∨
  ∃ x, a = some x ∧ len ≤ cap ∧ cap ≤ maxLen ∧ zs.length = cap ∧ (∀ i, i < zs.length → w.cell? (x.add i) = some (.int k (zs.getD i 0))) ∧ ∀ n ∈ zs, (Lit.int k n).wf = true
set_option maxRecDepth 100000 in
theorem lifted (os : Os) (started : os.Started) (H : Type) (enc : TypeId × Value → H) :
    ReturnsInHanded {} Try.checked os 3 .any (Rows.fnLendMeetSpec.pre6 enc Try.prog Try.f3 Rows.fnLendMeetRow.domain false) (Rows.fnLendMeetSpec.post enc Try.prog Try.f3 false true false false) := by
  refine returnsInHanded_of_change_sized (C := Try.checked) own started (by kernel_rfl) Try.func3
    (ChangeSpec.witness6 (enc := enc) (C := Try.checked) false ⟨#[], #[.slice none 0 0, .slice none 0 0], []⟩ 8 (by kernel_rfl) (by kernel_rfl) (by kernel_rfl) (by kernel_rfl)) ?_
  intro W base args ds gs before hval0 hW hcnd hsz0 _
  have hsz : (DataW.weightsEach Try.prog (Try.f3.params.toList ++ Rows.fnLendMeetSpec.plain.varTypes Try.prog) (ds ++ gs)).all (· ≤ reachBytes) = true := hsz0
  have hval : ∀ (j : Nat) t v, Try.f3.params[j]? = some t → args[j]? = some v → Value.okWide Try.prog W .any base t v := hval0
  have hW' := hW
  obtain ⟨p, q, hA0, hV, rfl, hfz, hnd⟩ := hW
  have hA : DataW.TrodAll enc Try.prog W 0 (fun _ => true) true Try.f3.params.toList args.toList ds p := hA0
  rw [Try.params3] at hA hval hsz
  obtain ⟨v0, vs0, d0, ds0, p0, q0, hargs, rfl, rfl, h0, r0⟩ := trodAll_cons hA
  obtain ⟨v1, vs1, d1, ds1, p1, q1, rfl, rfl, rfl, h1, r1⟩ := trodAll_cons r0
  obtain ⟨rfl, rfl, rfl⟩ := trodAll_nil r1
  obtain rfl : args = #[v0, v1] := by cases args; simp_all
  obtain ⟨rfl, rfl⟩ := trodVars_none hV
  obtain ⟨a0, len0, cap0, rfl⟩ := okWide_slice Try.underlying22 (hval 0 22 v0 rfl rfl)
  have k0 := h0
  have lt0 : ∀ x ∈ p0, x.block < W.heap.size := by obtain ⟨m, hm⟩ := k0; exact DataW.trod_lt m _ _ _ hm
  obtain ⟨z0, w0⟩ : ∃ zs, IsRow .u8 W a0 len0 cap0 zs := by
    obtain ⟨fuel, hf⟩ := h0
    rcases open_ints Try.underlying22 Try.underlying5 (by kernel_rfl) hf with ⟨hcs, _⟩ | ⟨x, l, c, zs, hcs, _, hl, hm, hz, _, hcell, hwz⟩
    · simp [Value.cells] at hcs
      obtain ⟨rfl, rfl, rfl⟩ := hcs
      exact ⟨[], .inl ⟨rfl, rfl, rfl, rfl⟩⟩
    · simp [Value.cells] at hcs
      obtain ⟨rfl, rfl, rfl⟩ := hcs
      exact ⟨zs, .inr ⟨_, rfl, hl, hm, by simpa using hz, hcell, hwz⟩⟩
  have y0 : len0 * 1 ≤ 140737488351232 := Go.Proofs.YthhjdngailhihaaW.PrintWords.sized_ints hsz (j := 0) (t := 22) rfl rfl Try.underlying22 Try.underlying5 (by kernel_rfl) (by kernel_rfl) h0
  obtain ⟨a1, len1, cap1, rfl⟩ := okWide_slice Try.underlying22 (hval 1 22 v1 rfl rfl)
  have k1 := h1
  have lt1 : ∀ x ∈ p1, x.block < W.heap.size := by obtain ⟨m, hm⟩ := k1; exact DataW.trod_lt m _ _ _ hm
  obtain ⟨z1, w1⟩ : ∃ zs, IsRow .u8 W a1 len1 cap1 zs := by
    obtain ⟨fuel, hf⟩ := h1
    rcases open_ints Try.underlying22 Try.underlying5 (by kernel_rfl) hf with ⟨hcs, _⟩ | ⟨x, l, c, zs, hcs, _, hl, hm, hz, _, hcell, hwz⟩
    · simp [Value.cells] at hcs
      obtain ⟨rfl, rfl, rfl⟩ := hcs
      exact ⟨[], .inl ⟨rfl, rfl, rfl, rfl⟩⟩
    · simp [Value.cells] at hcs
      obtain ⟨rfl, rfl, rfl⟩ := hcs
      exact ⟨zs, .inr ⟨_, rfl, hl, hm, by simpa using hz, hcell, hwz⟩⟩
  have y1 : len1 * 1 ≤ 140737488351232 := Go.Proofs.YthhjdngailhihaaW.PrintWords.sized_ints hsz (j := 1) (t := 22) rfl rfl Try.underlying22 Try.underlying5 (by kernel_rfl) (by kernel_rfl) h1
  clear hA0 hval0 hsz0 hsz
  refine (PA.laws_FnLendMeet.walk Pure.FnLendMeet a0 len0 cap0 z0 a1 len1 cap1 z1 W w0 y0 w1 y1).mono fun e W' ⟨he, bel⟩ => ?_
  subst he
  exact ⟨_, rfl, _, _, _, [], _, [], hW', trodAll_mk1 (shut_bool Try.underlying4 _), (trodAll_cons_mk (Below.trod laidOut (by kernel_rfl) (of_decide_eq_true (by kernel_rfl)) k0 bel lt0) (trodAll_cons_mk (Below.trod laidOut (by kernel_rfl) (of_decide_eq_true (by kernel_rfl)) k1 bel lt1) trodAll_mk0)), rfl, bel.frame _, fun h => by cases h⟩
theorem over : Rows.fnLendMeetRow.holds Try.pinned (OpenSpec.ofChange Rows.fnLendMeetSpec) :=
  OpenClaim.holds_of_wide 3 Try.f3 rfl rfl rfl rfl rfl rfl rfl ⟨rfl, rfl, rfl, rfl, rfl⟩ rfl rfl rfl rfl rfl (by kernel_rfl) Try.func3 (by kernel_rfl)
    (of_decide_eq_true (by kernel_rfl)) (by unfold Func.isWrapper; first | (rw [if_pos (by decide +kernel)]; kernel_rfl) | (rw [if_neg (by decide +kernel)]; exact ⟨rfl, rfl⟩))
    (fun os started H enc _ => lifted os started H enc)
theorem proved : Rows.FnLendMeetSaid := over
#print axioms proved
end Go.Proofs.Ythhjdngailhihaa.fnLendMeet
namespace Go.Proofs.Ythhjdngailhihaa
theorem fnLendMeet_holds : Rows.FnLendMeetSaid := fnLendMeet.proved
end Go.Proofs.Ythhjdngailhihaa
end
