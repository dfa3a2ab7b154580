-- YtihfbpmblppbgaaDoor's texts for the statement FnValTextPair, one behind the other (merge.py).
import Derived.Test.YtihfbpmblppbgaaDoorQFnValTextPair0
import Derived.Test.YtihfbpmblppbgaaDoorQFnValTextPair1
import Derived.OpenShut
import Derived.Laws.BitsLemmas
import Derived.Lib.ItoaNum
import Derived.SizedLaws
import Derived.ChangeSlices
import Derived.Test.YtihfbpmblppbgaaDoorRows
import Derived.WalkKit
import Derived.ProofKit
import Derived.ShutString
import Derived.ChangeOld
import Derived.Below
import Derived.Test.YtihfbpmblppbgaaDoorCards
import Derived.Test.YtihfbpmblppbgaaDoorTie
import Derived.SevenTiedAt
import Derived.LaidMore
import Derived.LaidLaws
import Derived.Handed
import Derived.Stop.Joined
import Derived.Lib.LaidTab
import Derived.Stop.LaidErr
section
namespace Go.Proofs.YtihfbpmblppbgaaDoor.PA
open Go.RowKit Go.Proofs.YtihfbpmblppbgaaDoorW.PrintWords Go.Proofs.YtihfbpmblppbgaaDoorW.PrintLast Go.Proofs.YtihfbpmblppbgaaDoorW.PrintMore
attribute [local go_sem] max2_int min2_int max_two min_two max_three min_three max_four min_four
set_option linter.unusedVariables false
set_option linter.unusedSimpArgs false
def spec_ValOk.f (k : Nat) (l0_0 : List (S41)) (a1_0 : Int) (l1_1 : List (S25)) : Option (Bool) := (spec_TypeOk.f k l0_0).bind fun t298 => (if t298 = true then ((spec_l1Val.f k l0_0 a1_0 l1_1).bind fun t299 => (some t299)) else (some false))
theorem spec_ValOk.mono : ∀ a0 a1 a2 k, LeO (spec_ValOk.f k a0 a1 a2) (spec_ValOk.f (k + 1) a0 a1 a2) := by
 intro a0 a1 a2 k
 unfold spec_ValOk.f
 repeat' first
   | (with_reducible exact spec_TypeOk.mono _ _)
   | (with_reducible exact spec_l1Val.mono _ _ _ _)
   | (with_reducible exact LeO.refl _)
   | (with_reducible exact LeO.none _)
   | (with_reducible refine LeO.ite ?_ ?_)
   | (with_reducible refine LeO.bind ?_ (fun _ => ?_))
   | exact spec_TypeOk.mono _ _
   | exact spec_l1Val.mono _ _ _ _
   | exact LeO.none _
   | refine LeO.ite ?_ ?_
   | refine LeO.bind ?_ (fun _ => ?_)
set_option maxHeartbeats 8000000 in
set_option maxRecDepth 100000 in
theorem spec_ValOk.calls (k : Nat) (A0_0 : Option Addr) (c0_0 : Nat) (l0_0 : List (S41)) (a1_0 : Int) (A1_1 : Option Addr) (c1_1 : Nat) (l1_1 : List (S25)) (r : Bool) (w : World) (hr0_0 : Kd.C k41 w A0_0 l0_0.length l0_0) (hc0_0 : l0_0.length ≤ c0_0) (hr1_1 : Kd.C k25 w A1_1 l1_1.length l1_1) (hc1_1 : l1_1.length ≤ c1_1) (h : spec_ValOk.f k l0_0 a1_0 l1_1 = some r) :
  Calls Tryd.prog 27 #[.agg #[.slice A0_0 l0_0.length c0_0], .agg #[.int .i64 a1_0, .slice A1_1 l1_1.length c1_1]] w fun e w' => e = .returned (.bool r) ∧ Below w.heap.size w w' := by
 have hu41 := Tryd.underlying41
 have hu25 := Tryd.underlying25
 have HR0_0 := Aside0.mk hr0_0
 have HC0_0 := Aside0.mk hc0_0
 clear hr0_0 hc0_0
 have HR1_1 := Aside0.mk hr1_1
 have HC1_1 := Aside0.mk hc1_1
 clear hr1_1 hc1_1
 have HB := Aside0.mk (Below.refl w.heap.size w)
 have H : ((spec_TypeOk.f k l0_0).bind fun t298 => (if t298 = true then ((spec_l1Val.f k l0_0 a1_0 l1_1).bind fun t299 => (some t299)) else (some false))) = some r := h
 clear h
 obtain ⟨t298, A30, H⟩ := ob H
 have A3 := Aside0.mk A30
 clear A30
 by_cases c4 : t298 = true
 ·subst c4
  rw [if_pos rfl] at H
  obtain ⟨t299, A50, H⟩ := ob H
  have A5 := Aside0.mk A50
  clear A50
  obtain rfl := Option.some.inj H
  go_enter Tryd.func27, Tryd.ntmps27
  go_wp2_with (first | ((with_reducible refine gate_dst (N := 2) rfl ?_); refine zbx 2 #[.slice A0_0 l0_0.length c0_0] 41 ?_; intro gb296 hg w6 hbox hb; have BK296 := Aside0.mk hbox; have GW296 := Aside0.mk ((y5 hg HB.out : w.heap.size ≤ gb296)); have GE296 := Aside0.mk ((y5 hg HB.out : w.heap.size ≤ gb296)); replace HB := Aside0.mk (below_step (y2 HB.out) hb); clear hb hbox hg) | ((with_reducible refine gate_dst (N := 3) rfl ?_); refine zbx 3 #[.int .i64 a1_0, .slice A1_1 l1_1.length c1_1] 25 ?_; intro gb297 hg w7 hbox hb; have BK297 := Aside0.mk hbox; have GW297 := Aside0.mk ((y8 hg HB.out GE296.out : w.heap.size ≤ gb297)); have GE297 := Aside0.mk ((y8 hg HB.out GE296.out : w.heap.size ≤ gb297)); replace HB := Aside0.mk (below_step (y0 HB.out GE296.out) hb); have NB296_297 := zltn hg BK296; have NB297_296 := zgtn hg BK296; replace BK296 := zbb BK296 hb; clear hb hbox hg; have hnb8 := NB296_297.out; have hnc8 := NB297_296.out; have hcz9_0 := zh BK296; have hfz9_0 := zfr BK296 0) | ((with_reducible refine gate_callee (f := 30) rfl ?_); refine goesL_ (some 6) rfl rfl Tryd.func30 (by kernel_rfl) rfl #[.agg #[.slice A0_0 l0_0.length c0_0]] rfl y4 ?_; (with_reducible refine (spec_TypeOk.calls k _ _ l0_0 true _ ?side1 ?side2 A3.out).mono ?_); (case side1 => exact y9 HR0_0.out HB.out); (case side2 => exact HC0_0.out); rintro e w10 ⟨rfl, hb⟩; refine ⟨_, rfl, ?_⟩; replace BK296 := zbb BK296 hb; replace BK297 := zbb BK297 hb; replace HB := Aside0.mk (below_step (y3 HB.out GE296.out GE297.out) hb); (try clear hb); (try clear hb2); (try clear hk); (try clear hi); have hcz11_0 := zh BK296; have hfz11_0 := zfr BK296 0; have hcz12_0 := zh BK297; have hcz12_1 := zh1 BK297; have hfz12_0 := zfr BK297 0; have hfz12_1 := zfr BK297 1) | (go_at_call 31; (with_reducible refine (spec_l1Val.calls k _ _ l0_0 a1_0 _ _ l1_1 t299 _ ?side1 ?side2 ?side3 ?side4 A5.out).mono ?_); (case side1 => exact y9 HR0_0.out HB.out); (case side2 => exact HC0_0.out); (case side3 => exact y9 HR1_1.out HB.out); (case side4 => exact HC1_1.out); rintro e w13 ⟨rfl, hb⟩; replace BK296 := zbb BK296 hb; replace BK297 := zbb BK297 hb; replace HB := Aside0.mk (below_step (y3 HB.out GE296.out GE297.out) hb); (try clear hb); (try clear hb2); (try clear hk); (try clear hi)))
  go_ret
  exact ⟨y7, (y3 HB.out GE296.out GE297.out)⟩
 ·replace c4 := Bool.eq_false_iff.mpr c4
  subst c4
  rw [if_neg (show ¬ (false = true) by decide)] at H
  obtain rfl := Option.some.inj H
  go_enter Tryd.func27, Tryd.ntmps27
  go_wp2_with (first | ((with_reducible refine gate_dst (N := 2) rfl ?_); refine zbx 2 #[.slice A0_0 l0_0.length c0_0] 41 ?_; intro gb296 hg w14 hbox hb; have BK296 := Aside0.mk hbox; have GW296 := Aside0.mk ((y5 hg HB.out : w.heap.size ≤ gb296)); have GE296 := Aside0.mk ((y5 hg HB.out : w.heap.size ≤ gb296)); replace HB := Aside0.mk (below_step (y2 HB.out) hb); clear hb hbox hg) | ((with_reducible refine gate_dst (N := 3) rfl ?_); refine zbx 3 #[.int .i64 a1_0, .slice A1_1 l1_1.length c1_1] 25 ?_; intro gb297 hg w15 hbox hb; have BK297 := Aside0.mk hbox; have GW297 := Aside0.mk ((y8 hg HB.out GE296.out : w.heap.size ≤ gb297)); have GE297 := Aside0.mk ((y8 hg HB.out GE296.out : w.heap.size ≤ gb297)); replace HB := Aside0.mk (below_step (y0 HB.out GE296.out) hb); have NB296_297 := zltn hg BK296; have NB297_296 := zgtn hg BK296; replace BK296 := zbb BK296 hb; clear hb hbox hg; have hnb16 := NB296_297.out; have hnc16 := NB297_296.out; have hcz17_0 := zh BK296; have hfz17_0 := zfr BK296 0) | ((with_reducible refine gate_callee (f := 30) rfl ?_); refine goesL_ (some 6) rfl rfl Tryd.func30 (by kernel_rfl) rfl #[.agg #[.slice A0_0 l0_0.length c0_0]] rfl y4 ?_; (with_reducible refine (spec_TypeOk.calls k _ _ l0_0 false _ ?side1 ?side2 A3.out).mono ?_); (case side1 => exact y9 HR0_0.out HB.out); (case side2 => exact HC0_0.out); rintro e w18 ⟨rfl, hb⟩; refine ⟨_, rfl, ?_⟩; replace BK296 := zbb BK296 hb; replace BK297 := zbb BK297 hb; replace HB := Aside0.mk (below_step (y3 HB.out GE296.out GE297.out) hb); (try clear hb); (try clear hb2); (try clear hk); (try clear hi)))
  go_ret
  exact ⟨y7, (y3 HB.out GE296.out GE297.out)⟩
end Go.Proofs.YtihfbpmblppbgaaDoor.PA
end
section
namespace Go.Proofs.YtihfbpmblppbgaaDoor.PA
open Go.RowKit Go.Proofs.YtihfbpmblppbgaaDoorW.PrintWords Go.Proofs.YtihfbpmblppbgaaDoorW.PrintLast Go.Proofs.YtihfbpmblppbgaaDoorW.PrintMore
attribute [local go_sem] max2_int min2_int max_two min_two max_three min_three max_four min_four
set_option linter.unusedVariables false
set_option linter.unusedSimpArgs false
def spec_l1Any.f (k : Nat) (a0_0 : Int) (l0_1 : List (S25)) : Option (Bool) := (spec_l1Of.f k a0_0 l0_1 4).bind fun bt301 => (if bt301.2 = true then ((spec_ValOk.f k bt301.1 a0_0 l0_1).bind fun t306 => (some t306)) else (some false))
theorem spec_l1Any.mono : ∀ a0 a1 k, LeO (spec_l1Any.f k a0 a1) (spec_l1Any.f (k + 1) a0 a1) := by
 intro a0 a1 k
 unfold spec_l1Any.f
 repeat' first
   | (with_reducible exact spec_ValOk.mono _ _ _ _)
   | (with_reducible exact spec_l1Of.mono _ _ _ _)
   | (with_reducible exact LeO.refl _)
   | (with_reducible exact LeO.none _)
   | (with_reducible refine LeO.ite ?_ ?_)
   | (with_reducible refine LeO.bind ?_ (fun _ => ?_))
   | exact spec_ValOk.mono _ _ _ _
   | exact spec_l1Of.mono _ _ _ _
   | exact LeO.none _
   | refine LeO.ite ?_ ?_
   | refine LeO.bind ?_ (fun _ => ?_)
set_option maxHeartbeats 8000000 in
set_option maxRecDepth 100000 in
theorem spec_l1Any.calls (k : Nat) (a0_0 : Int) (A0_1 : Option Addr) (c0_1 : Nat) (l0_1 : List (S25)) (r : Bool) (w : World) (hr0_1 : Kd.C k25 w A0_1 l0_1.length l0_1) (hc0_1 : l0_1.length ≤ c0_1) (h : spec_l1Any.f k a0_0 l0_1 = some r) :
  Calls Tryd.prog 18 #[.agg #[.int .i64 a0_0, .slice A0_1 l0_1.length c0_1]] w fun e w' => e = .returned (.bool r) ∧ Below w.heap.size w w' := by
 have hu25 := Tryd.underlying25
 have hu41 := Tryd.underlying41
 have HR0_1 := Aside0.mk hr0_1
 have HC0_1 := Aside0.mk hc0_1
 clear hr0_1 hc0_1
 have HB := Aside0.mk (Below.refl w.heap.size w)
 have H : ((spec_l1Of.f k a0_0 l0_1 4).bind fun bt301 => (if bt301.2 = true then ((spec_ValOk.f k bt301.1 a0_0 l0_1).bind fun t306 => (some t306)) else (some false))) = some r := h
 clear h
 obtain ⟨⟨t301, t304⟩, A20, H⟩ := ob H
 have A2 := Aside0.mk A20
 clear A20
 by_cases c3 : t304 = true
 ·subst c3
  rw [if_pos rfl] at H
  obtain ⟨t306, A40, H⟩ := ob H
  have A4 := Aside0.mk A40
  clear A40
  obtain rfl := Option.some.inj H
  go_enter Tryd.func18, Tryd.ntmps18
  go_wp2_with (first | ((with_reducible refine gate_dst (N := 1) rfl ?_); refine zbx 1 #[.int .i64 a0_0, .slice A0_1 l0_1.length c0_1] 25 ?_; intro gb300 hg w5 hbox hb; have BK300 := Aside0.mk hbox; have GW300 := Aside0.mk ((y5 hg HB.out : w.heap.size ≤ gb300)); have GE300 := Aside0.mk ((y5 hg HB.out : w.heap.size ≤ gb300)); replace HB := Aside0.mk (below_step (y2 HB.out) hb); clear hb hbox hg; have hcz6_0 := zh BK300; have hcz6_1 := zh1 BK300; have hfz6_0 := zfr BK300 0; have hfz6_1 := zfr BK300 1) | ((with_reducible refine gate_callee (f := 26) rfl ?_); refine goesL_ (some 7) rfl rfl Tryd.func26 (by kernel_rfl) rfl #[.agg #[.int .i64 a0_0, .slice A0_1 l0_1.length c0_1], .int .i64 4] rfl y4 ?_; (with_reducible refine (spec_l1Of.calls k a0_0 _ _ l0_1 4 t301 true _ ?side1 ?side2 A2.out).mono ?_); (case side1 => exact y9 HR0_1.out HB.out); (case side2 => exact HC0_1.out); rintro e w7 ⟨v302, rfl, ho0, hb⟩; refine ⟨_, rfl, ?_⟩; have HO303 := Aside0.mk (Kd.R_lower ho0 (below_size (y0 HB.out GE300.out))); replace BK300 := zbb BK300 hb; replace HB := Aside0.mk (below_step (y0 HB.out GE300.out) hb); (try clear hb); (try clear hb2); (try clear hk); (try clear hi); (try clear ho0)) | ((with_reducible refine gate_dst (N := 3) rfl ?_); refine zbx 3 #[.slice none 0 0] 41 ?_; intro gb305 hg w8 hbox hb; replace HO303 := Aside0.mk (Kd.R_below (Kd.R_elderB (y15 HO303.out) gb305 (Nat.le_of_eq hg.symm)) hb); have BK305 := Aside0.mk hbox; have GW305 := Aside0.mk ((y8 hg HB.out GE300.out : w.heap.size ≤ gb305)); have GE305 := Aside0.mk ((y8 hg HB.out GE300.out : w.heap.size ≤ gb305)); replace HB := Aside0.mk (below_step (y0 HB.out GE300.out) hb); have NB300_305 := zltn hg BK300; have NB305_300 := zgtn hg BK300; replace BK300 := zbb BK300 hb; clear hb hbox hg; obtain ⟨Ao9, co9, eo9⟩ := Kd.R_slice HO303.out; subst eo9; have hnb10 := NB305_300.out; have hnc10 := NB300_305.out; have hcz11_0 := zh BK305; have hfz11_0 := zfr BK305 0; have hcz12_0 := zh BK300; have hcz12_1 := zh1 BK300; have hfz12_0 := zfr BK300 0; have hfz12_1 := zfr BK300 1) | (go_at_call 27; (with_reducible refine (spec_ValOk.calls k _ _ t301 a0_0 _ _ l0_1 t306 _ ?side1 ?side2 ?side3 ?side4 A4.out).mono ?_); (case side1 => refine (Kd.R_reads' (e := 41) (base := w.heap.size) (ok := fun k_ => (True ∧ k_ ≠ gb305)) (n := t301.length) (c := co9) ?_).2.2; exact (by (with_reducible repeat (first | apply Kd.R_alloc | apply Kd.R_drewN | apply Kd.R_drew)); exact (Kd.R_mono (Kd.R_far (p := ⟨gb305, 0, none⟩) (Kd.R_mono HO303.out (fun k_ hk => (⟨hk, hk.2⟩ : _ ∧ k_ ≠ gb305))) (fun _ hk => hk.2) (.slice Ao9 t301.length co9)) (fun _ h_ => h_.1)))); (case side2 => exact (Kd.R_reads' HO303.out).2.1); (case side3 => exact y38 HR0_1.out HB.out GE300.out GE305.out); (case side4 => exact HC0_1.out); rintro e w13 ⟨rfl, hb⟩; replace HO303 := Aside0.mk (Kd.R_below (by (with_reducible repeat (first | apply Kd.R_alloc | apply Kd.R_drewN | apply Kd.R_drew)); exact (Kd.R_mono (Kd.R_far (p := ⟨gb305, 0, none⟩) (Kd.R_mono HO303.out (fun k_ hk => (⟨hk, hk.2⟩ : _ ∧ k_ ≠ gb305))) (fun _ hk => hk.2) (.slice Ao9 t301.length co9)) (fun _ h_ => h_.1))) hb); replace BK300 := zbf BK300 NB300_305 hb; replace BK305 := Aside0.mk (blk_below (g := gb305) (o := .cells #[.slice Ao9 t301.length co9] 41 (0, 0)) (by (with_reducible repeat (first | refine blk_drewN ?_ _ | refine blk_drew ?_ | refine blk_alloc ?_ _)); apply blk_put (i := 0); (case h => exact y1 BK305.out); (case e => rfl)) hb); replace HB := Aside0.mk (below_step (y3 HB.out GE300.out GE305.out) hb); (try clear hb); (try clear hb2); (try clear hk); (try clear hi)))
  go_ret
  exact ⟨y7, (y3 HB.out GE300.out GE305.out)⟩
 ·replace c3 := Bool.eq_false_iff.mpr c3
  subst c3
  rw [if_neg (show ¬ (false = true) by decide)] at H
  obtain rfl := Option.some.inj H
  go_enter Tryd.func18, Tryd.ntmps18
  go_wp2_with (first | ((with_reducible refine gate_dst (N := 1) rfl ?_); refine zbx 1 #[.int .i64 a0_0, .slice A0_1 l0_1.length c0_1] 25 ?_; intro gb300 hg w14 hbox hb; have BK300 := Aside0.mk hbox; have GW300 := Aside0.mk ((y5 hg HB.out : w.heap.size ≤ gb300)); have GE300 := Aside0.mk ((y5 hg HB.out : w.heap.size ≤ gb300)); replace HB := Aside0.mk (below_step (y2 HB.out) hb); clear hb hbox hg; have hcz15_0 := zh BK300; have hcz15_1 := zh1 BK300; have hfz15_0 := zfr BK300 0; have hfz15_1 := zfr BK300 1) | ((with_reducible refine gate_callee (f := 26) rfl ?_); refine goesL_ (some 7) rfl rfl Tryd.func26 (by kernel_rfl) rfl #[.agg #[.int .i64 a0_0, .slice A0_1 l0_1.length c0_1], .int .i64 4] rfl y4 ?_; (with_reducible refine (spec_l1Of.calls k a0_0 _ _ l0_1 4 t301 false _ ?side1 ?side2 A2.out).mono ?_); (case side1 => exact y9 HR0_1.out HB.out); (case side2 => exact HC0_1.out); rintro e w16 ⟨v302, rfl, ho0, hb⟩; refine ⟨_, rfl, ?_⟩; have HO303 := Aside0.mk (Kd.R_lower ho0 (below_size (y0 HB.out GE300.out))); replace BK300 := zbb BK300 hb; replace HB := Aside0.mk (below_step (y0 HB.out GE300.out) hb); (try clear hb); (try clear hb2); (try clear hk); (try clear hi); (try clear ho0)) | ((with_reducible refine gate_dst (N := 3) rfl ?_); refine zbx 3 #[.slice none 0 0] 41 ?_; intro gb305 hg w17 hbox hb; replace HO303 := Aside0.mk (Kd.R_below (Kd.R_elderB (y15 HO303.out) gb305 (Nat.le_of_eq hg.symm)) hb); have BK305 := Aside0.mk hbox; have GW305 := Aside0.mk ((y8 hg HB.out GE300.out : w.heap.size ≤ gb305)); have GE305 := Aside0.mk ((y8 hg HB.out GE300.out : w.heap.size ≤ gb305)); replace HB := Aside0.mk (below_step (y0 HB.out GE300.out) hb); have NB300_305 := zltn hg BK300; have NB305_300 := zgtn hg BK300; replace BK300 := zbb BK300 hb; clear hb hbox hg; obtain ⟨Ao18, co18, eo18⟩ := Kd.R_slice HO303.out; subst eo18; have hnb19 := NB305_300.out; have hnc19 := NB300_305.out; have hcz20_0 := zh BK305; have hfz20_0 := zfr BK305 0))
  go_ret
  exact ⟨y7, (y3 HB.out GE300.out GE305.out)⟩
end Go.Proofs.YtihfbpmblppbgaaDoor.PA
end
section
namespace Go.Proofs.YtihfbpmblppbgaaDoor.PA
open Go.RowKit Go.Proofs.YtihfbpmblppbgaaDoorW.PrintWords Go.Proofs.YtihfbpmblppbgaaDoorW.PrintLast Go.Proofs.YtihfbpmblppbgaaDoorW.PrintMore
attribute [local go_sem] max2_int min2_int max_two min_two max_three min_three max_four min_four
set_option linter.unusedVariables false
set_option linter.unusedSimpArgs false
def spec_l6Dec.f : Nat → Int → Option (ByteArray)
 | 0, _ => none
 | k + 1, a0 => if a0 < (-9223372036854775807) then (some (⟨#[45, 57, 50, 50, 51, 51, 55, 50, 48, 51, 54, 56, 53, 52, 55, 55, 53, 56, 48, 56]⟩ : ByteArray)) else (if a0 < 0 then ((spec_l6Dec.f k (wrap64 (-a0))).bind fun t307 => (if 1 + t307.size ≤ 9223372036854775807 then (some ((⟨#[45]⟩ : ByteArray) ++ t307)) else (none))) else (if a0 < 10 then (some (strOfNums (([(wrap64 (48 + a0)) % 256] : List Int)))) else ((spec_l6Dec.f k (wrap64 (Int.tdiv a0 10))).bind fun t311 => ((some (([(wrap64 (48 + (Int.tmod a0 10))) % 256] : List Int) : List Int)).bind fun y312 => (if t311.size + (strOfNums y312).size ≤ 9223372036854775807 then (some (t311 ++ (strOfNums y312))) else (none))))))
theorem spec_l6Dec.mono_l : ∀ k, (∀ y0, LeO (spec_l6Dec.f k y0) (spec_l6Dec.f (k + 1) y0))
 | 0 => fun _ r h => by simp [spec_l6Dec.f] at h
 | k + 1 => by
  have ih0 := spec_l6Dec.mono_l k
  ·intro y0
   unfold spec_l6Dec.f
   repeat' first
   | (with_reducible exact ih0 _)
   | (with_reducible exact LeO.refl _)
   | (with_reducible exact LeO.none _)
   | (with_reducible refine LeO.ite ?_ ?_)
   | (with_reducible refine LeO.bind ?_ (fun _ => ?_))
   | exact ih0 _
   | exact LeO.none _
   | refine LeO.ite ?_ ?_
   | refine LeO.bind ?_ (fun _ => ?_)
theorem spec_l6Dec.mono : ∀ a0 k, LeO (spec_l6Dec.f k a0) (spec_l6Dec.f (k + 1) a0) := by
 intro a0 k
 have ih0 := spec_l6Dec.mono_l k
 exact ih0 a0
def spec_l6Dec.T7 : Bool × List (List Nat × List Nat) := (true, [([], []), ([0], [0]), ([1], [1]), ([], []), ([3], [3]), ([4], [4]), ([5], [5]), ([6], [6]), ([7], [7]), ([2, 8], [2, 8]), ([9, 2, 0, 1, 2, 3, 4, 5, 6, 7, 8, 9], [9])])
def spec_l6Dec.B7 : List Nat := [0, 1, 3, 0, 8, 24, 56, 120, 248, 511, 1023]
theorem spec_l6Dec.tab7 : rtab .any (opsOf Tryd.f28 7) = spec_l6Dec.T7 := by kernel_rfl
theorem spec_l6Dec.bits7 : waitsOk spec_l6Dec.T7.2 spec_l6Dec.B7 = true := by kernel_rfl
set_option maxHeartbeats 8000000 in
set_option maxRecDepth 100000 in
theorem spec_l6Dec.calls (k : Nat) : ∀ (a0 : Int) (r : ByteArray) (w : World) (h : spec_l6Dec.f k a0 = some r),
  Calls Tryd.prog 28 #[.int .i64 a0] w fun e w' => e = .returned (.string r) ∧ Below w.heap.size w w' := by
 induction k using Nat.strongRecOn with
 | _ k ih =>
 intro a0 r w h
 cases k with
 | zero => exact absurd h (by simp [spec_l6Dec.f])
 | succ k =>
 simp only [spec_l6Dec.f] at h
 have HB := Aside0.mk (Below.refl w.heap.size w)
 have H : (if a0 < (-9223372036854775807) then (some (⟨#[45, 57, 50, 50, 51, 51, 55, 50, 48, 51, 54, 56, 53, 52, 55, 55, 53, 56, 48, 56]⟩ : ByteArray)) else (if a0 < 0 then ((spec_l6Dec.f k (wrap64 (-a0))).bind fun t307 => (if 1 + t307.size ≤ 9223372036854775807 then (some ((⟨#[45]⟩ : ByteArray) ++ t307)) else (none))) else (if a0 < 10 then (some (strOfNums (([(wrap64 (48 + a0)) % 256] : List Int)))) else ((spec_l6Dec.f k (wrap64 (Int.tdiv a0 10))).bind fun t311 => ((some (([(wrap64 (48 + (Int.tmod a0 10))) % 256] : List Int) : List Int)).bind fun y312 => (if t311.size + (strOfNums y312).size ≤ 9223372036854775807 then (some (t311 ++ (strOfNums y312))) else (none))))))) = some r := h
 clear h
 by_cases c2 : a0 < (-9223372036854775807)
 ·rw [if_pos c2] at H
  have c2b0 : decide (a0 < (-9223372036854775807)) = true := decide_eq_true c2
  clear c2
  obtain rfl := Option.some.inj H
  go_enter Tryd.func28, Tryd.ntmps28
  go_wp2
  go_ret
  exact ⟨y7, (y2 HB.out)⟩
 ·rw [if_neg c2] at H
  have c2b0 : decide (a0 < (-9223372036854775807)) = false := decide_eq_false c2
  clear c2
  by_cases c3 : a0 < 0
  ·rw [if_pos c3] at H
   have c3b0 : decide (a0 < 0) = true := decide_eq_true c3
   clear c3
   obtain ⟨t307, A40, H⟩ := ob H
   have A4 := Aside0.mk A40
   clear A40
   by_cases c5 : 1 + t307.size ≤ 9223372036854775807
   ·rw [if_pos c5] at H
    have c5b0 := eq_true c5
    have c5b1 : decide (1 + t307.size ≤ 9223372036854775807) = true := decide_eq_true c5
    try have c5b2 : (9223372036854775807 < 1 + t307.size) = False := eq_false (Nat.not_lt.2 c5)
    obtain rfl := Option.some.inj H
    go_enter Tryd.func28, Tryd.ntmps28
    go_wp2_with (first | ((with_reducible refine gate_callee (f := 28) rfl ?_); refine goesL_ (some 9) rfl rfl Tryd.func28 (by kernel_rfl) rfl #[.int .i64 (wrap64 (-a0))] rfl y4 ?_; (with_reducible refine (ih k (by omega) (wrap64 (-a0)) t307 _ A4.out).mono ?_); rintro e w6 ⟨rfl, hb⟩; refine ⟨_, rfl, ?_⟩; replace HB := Aside0.mk (below_step (y2 HB.out) hb); (try clear hb); (try clear hb2); (try clear hk); (try clear hi)))
    go_ret
    exact ⟨y7, (y2 HB.out)⟩
   ·rw [if_neg c5] at H
    exact absurd H (by simp)
  ·rw [if_neg c3] at H
   have c3b0 : decide (a0 < 0) = false := decide_eq_false c3
   clear c3
   by_cases c7 : a0 < 10
   ·rw [if_pos c7] at H
    have c7b0 : decide (a0 < 10) = true := decide_eq_true c7
    clear c7
    obtain ⟨y308, hy308⟩ : ∃ y_ : List Int, y_ = (([(wrap64 (48 + a0)) % 256] : List Int)) := ⟨_, rfl⟩
    replace H : (some (strOfNums y308)) = some r := by first | (rw [hy308]; with_reducible exact H) | (have H2_ := (Option.bind_some _ _).symm.trans H; rw [hy308]; with_reducible exact H2_) | (have H2_ := (Option.bind_some _ _).symm.trans H; with_reducible exact H2_) | with_reducible exact H | (rw [hy308]; exact H) | exact H
    have Ny308 := Aside0.mk hy308
    clear hy308
    obtain rfl := Option.some.inj H
    go_enter Tryd.func28, Tryd.ntmps28
    go_wp2_with (first | ((with_reducible refine gate_dst (N := 16) rfl ?_); refine Kd.R_lit (Kd.int .u8) _ 5 ?hg (N := 16) ?hd (xs := ([(wrap64 (48 + a0)) % 256] : List Int)) (inner := [.int .u8 ((wrap64 (48 + a0)) % 256)]) (ok := fun _ => True) (okp := fun _ => True) ?hr ?hp (fun _ hk => hk) trivial (Below.refl _ _) (Nat.le_refl _) (by simp) ?_; (case hd => rfl); (case hg => rfl); (case hr => first | (go_simp; done) | (go_simp; rfl)); (case hp => exact (Reps.one (show Kd.M (Kd.int .u8) _ _ _ ((wrap64 (48 + a0)) % 256) [.int .u8 ((wrap64 (48 + a0)) % 256)] from rfl) (Reps.none _ _))); intro v309 w8 ho9 hb hg_ hnew_; clear hg_ hnew_; (first | rw [← Ny308.out] at ho9 | (simp only [Int.reduceToNat] at ho9; rw [← Ny308.out] at ho9)); have HO310 := Aside0.mk (Kd.R_lower ho9 (below_size (y2 HB.out))); replace HB := Aside0.mk (below_step (y2 HB.out) hb); clear hb ho9; have hcv10 := own_string (P := Tryd.prog) Tryd.underlying22 Tryd.underlying5 Tryd.underlying9 (Kd.own_of_R HO310.out)))
    go_ret
    exact ⟨y7, (y2 HB.out)⟩
   ·rw [if_neg c7] at H
    have c7b0 : decide (a0 < 10) = false := decide_eq_false c7
    clear c7
    obtain ⟨t311, A110, H⟩ := ob H
    have A11 := Aside0.mk A110
    clear A110
    obtain ⟨y312, hy312⟩ : ∃ y_ : List Int, y_ = (([(wrap64 (48 + (Int.tmod a0 10))) % 256] : List Int)) := ⟨_, rfl⟩
    replace H : (if t311.size + (strOfNums y312).size ≤ 9223372036854775807 then (some (t311 ++ (strOfNums y312))) else (none)) = some r := by first | (rw [hy312]; with_reducible exact H) | (have H2_ := (Option.bind_some _ _).symm.trans H; rw [hy312]; with_reducible exact H2_) | (have H2_ := (Option.bind_some _ _).symm.trans H; with_reducible exact H2_) | with_reducible exact H | (rw [hy312]; exact H) | exact H
    have Ny312 := Aside0.mk hy312
    clear hy312
    by_cases c12 : t311.size + (strOfNums y312).size ≤ 9223372036854775807
    ·rw [if_pos c12] at H
     have c12b0 := eq_true c12
     have c12b1 : decide (t311.size + (strOfNums y312).size ≤ 9223372036854775807) = true := decide_eq_true c12
     try have c12b2 : (9223372036854775807 < t311.size + (strOfNums y312).size) = False := eq_false (Nat.not_lt.2 c12)
     obtain rfl := Option.some.inj H
     go_enter Tryd.func28, Tryd.ntmps28
     try go_wp2
     replace HB := Aside0.mk (below_drew1 HB.out)
     refine start_ (n := 11) (S := fun w' => True) (ds := []) #[false, false, false, false, false, false, false, false, false, false, false] (by kernel_rfl) rfl rfl trivial (fun hHeld => ?_); refine with_tabW spec_l6Dec.tab7 spec_l6Dec.bits7 (fun HT_ HW_ => ?_)
     generalize w.drew = w13 at HB hHeld ⊢
     refine zp 0 (some 18) HT_ ?_
     refine zp 1 (some 19) HT_ ?_
     refine zp 3 (some 21) HT_ ?_
     refine zp 4 (some 22) HT_ ?_
     refine zp 5 (some 23) HT_ ?_
     refine zp 6 (some 24) HT_ ?_
     refine join_ (σ := Value) 2 #[true, true, true, true, true, true, true, true, true, false, false] (fun s_ => [(20, .string t311), (25, s_), (26, .string (strOfNums y312))]) (fun s_ w' => (Kd.R (Kd.int .u8) 5 w' w.heap.size (fun _ => True) s_ y312) ∧ (Below w.heap.size w w')) ?_ ?_
     rotate_left
     ·intro hCont
      refine two_ (i := 2) (j := 7) (Ni := some 20) (Nj := some 25) #[true, true, true, true, true, true, true, false, false, false, false] #[true, true, false, true, true, true, true, true, false, false, false] rfl rfl rfl rfl (two_of HT_.out (by kernel_rfl)) (by decide) (by decide) (fun K hK => ?_) (fun K hK => ?_)
      ·skip
       refine goes_ Tryd.func28 (by kernel_rfl) rfl #[.int .i64 (wrap64 (Int.tdiv a0 10))] (by rfl) rfl rfl y4 ?_
       with_reducible refine (ih k (by omega) (wrap64 (Int.tdiv a0 10)) t311 _ A11.out).mono ?_
       rintro e w14 ⟨rfl, hb⟩
       refine ⟨_, rfl, ?_⟩
       replace HB := Aside0.mk (below_step (y2 HB.out) hb)
       (try clear hb)
       (try clear hb2)
       (try clear hk)
       (try clear hi)
       refine hK.out _ _ trivial (fun hHeld => ?_)
       clear hK K
       refine norm_ (a' := ?_) ?_ ?_
       rotate_left
       ·show Act.put _ (some 20) _ = _
        simp only [Act.put, List.setIfInBounds_toArray, List.set_cons_zero, List.set_cons_succ, i64_w, i32_w]
        rfl
       refine one_ (i := 7) (N := some 25) #[true, true, true, true, true, true, true, true, false, false, false] rfl rfl (one_of HT_.out (by kernel_rfl)) (by decide) (fun K hK => ?_)
       refine Kd.R_lit_step (Kd.int .u8) _ 5 ?hg (N := 25) ?hd (xs := ([(wrap64 (48 + (Int.tmod a0 10))) % 256] : List Int)) (inner := [.int .u8 ((wrap64 (48 + (Int.tmod a0 10))) % 256)]) (ok := fun _ => True) (okp := fun _ => True) ?hr ?hp (fun _ hk => hk) trivial (Below.refl _ _) (Nat.le_refl _) (by simp) ?_; (case hd => rfl); (case hg => rfl); (case hr => first | (go_simp; done) | (go_simp; rfl)); (case hp => exact (Reps.one (show Kd.M (Kd.int .u8) _ _ _ ((wrap64 (48 + (Int.tmod a0 10))) % 256) [.int .u8 ((wrap64 (48 + (Int.tmod a0 10))) % 256)] from rfl) (Reps.none _ _)))
       intro v313 w15 ho16 hb hg_ hnew_
       clear hg_ hnew_
       (first | rw [← Ny312.out] at ho16 | (simp only [Int.reduceToNat] at ho16; rw [← Ny312.out] at ho16))
       have HO314 := Aside0.mk (Kd.R_lower ho16 (below_size (y2 HB.out)))
       replace HB := Aside0.mk (below_step (y2 HB.out) hb)
       clear hb ho16
       refine hK.out _ _ trivial (fun hHeld => ?_)
       clear hK K
       refine norm_ (a' := ?_) ?_ ?_
       rotate_left
       ·show Act.put _ (some 25) _ = _
        simp only [Act.put, List.setIfInBounds_toArray, List.set_cons_zero, List.set_cons_succ, i64_w, i32_w]
        rfl
       refine one_ (i := 8) (N := some 26) #[true, true, true, true, true, true, true, true, true, false, false] rfl rfl (one_of HT_.out (by kernel_rfl)) (by decide) (fun K hK => ?_)
       have hcv17 := own_string (P := Tryd.prog) Tryd.underlying22 Tryd.underlying5 Tryd.underlying9 (Kd.own_of_R HO314.out)
       refine value_ (w1 := ?_) (v := ?_) (by rfl) rfl ?_ ?_
       rotate_left 2
       ·go_simp
        constructor
        ·rfl
        ·rfl
       clear hcv17
       refine hK.out _ _ trivial (fun hHeld => ?_)
       clear hK K
       refine norm_ (a' := ?_) ?_ ?_
       rotate_left
       ·show Act.put _ (some 26) _ = _
        simp only [Act.put, List.setIfInBounds_toArray, List.set_cons_zero, List.set_cons_succ, i64_w, i32_w]
        rfl
       exact norm_ y42 (hCont (v313) _ ⟨(y15 HO314.out), (y2 HB.out)⟩)
      ·skip
       refine Kd.R_lit_step (Kd.int .u8) _ 5 ?hg (N := 25) ?hd (xs := ([(wrap64 (48 + (Int.tmod a0 10))) % 256] : List Int)) (inner := [.int .u8 ((wrap64 (48 + (Int.tmod a0 10))) % 256)]) (ok := fun _ => True) (okp := fun _ => True) ?hr ?hp (fun _ hk => hk) trivial (Below.refl _ _) (Nat.le_refl _) (by simp) ?_; (case hd => rfl); (case hg => rfl); (case hr => first | (go_simp; done) | (go_simp; rfl)); (case hp => exact (Reps.one (show Kd.M (Kd.int .u8) _ _ _ ((wrap64 (48 + (Int.tmod a0 10))) % 256) [.int .u8 ((wrap64 (48 + (Int.tmod a0 10))) % 256)] from rfl) (Reps.none _ _)))
       intro v313 w14 ho15 hb hg_ hnew_
       clear hg_ hnew_
       (first | rw [← Ny312.out] at ho15 | (simp only [Int.reduceToNat] at ho15; rw [← Ny312.out] at ho15))
       have HO314 := Aside0.mk (Kd.R_lower ho15 (below_size (y2 HB.out)))
       replace HB := Aside0.mk (below_step (y2 HB.out) hb)
       clear hb ho15
       refine hK.out _ _ trivial (fun hHeld => ?_)
       clear hK K
       refine norm_ (a' := ?_) ?_ ?_
       rotate_left
       ·show Act.put _ (some 25) _ = _
        simp only [Act.put, List.setIfInBounds_toArray, List.set_cons_zero, List.set_cons_succ, i64_w, i32_w]
        rfl
       refine two_ (i := 2) (j := 8) (Ni := some 20) (Nj := some 26) #[true, true, true, true, true, true, true, true, false, false, false] #[true, true, false, true, true, true, true, true, true, false, false] rfl rfl rfl rfl (two_of HT_.out (by kernel_rfl)) (by decide) (by decide) (fun K hK => ?_) (fun K hK => ?_)
       ·skip
        refine goes_ Tryd.func28 (by kernel_rfl) rfl #[.int .i64 (wrap64 (Int.tdiv a0 10))] (by rfl) rfl rfl y4 ?_
        with_reducible refine (ih k (by omega) (wrap64 (Int.tdiv a0 10)) t311 _ A11.out).mono ?_
        rintro e w16 ⟨rfl, hb⟩
        refine ⟨_, rfl, ?_⟩
        replace HO314 := Aside0.mk (Kd.R_below (y15 HO314.out) hb)
        replace HB := Aside0.mk (below_step (y2 HB.out) hb)
        (try clear hb)
        (try clear hb2)
        (try clear hk)
        (try clear hi)
        refine hK.out _ _ trivial (fun hHeld => ?_)
        clear hK K
        refine norm_ (a' := ?_) ?_ ?_
        rotate_left
        ·show Act.put _ (some 20) _ = _
         simp only [Act.put, List.setIfInBounds_toArray, List.set_cons_zero, List.set_cons_succ, i64_w, i32_w]
         rfl
        refine one_ (i := 8) (N := some 26) #[true, true, true, true, true, true, true, true, true, false, false] rfl rfl (one_of HT_.out (by kernel_rfl)) (by decide) (fun K hK => ?_)
        have hcv17 := own_string (P := Tryd.prog) Tryd.underlying22 Tryd.underlying5 Tryd.underlying9 (Kd.own_of_R HO314.out)
        refine value_ (w1 := ?_) (v := ?_) (by rfl) rfl ?_ ?_
        rotate_left 2
        ·go_simp
         constructor
         ·rfl
         ·rfl
        clear hcv17
        refine hK.out _ _ trivial (fun hHeld => ?_)
        clear hK K
        refine norm_ (a' := ?_) ?_ ?_
        rotate_left
        ·show Act.put _ (some 26) _ = _
         simp only [Act.put, List.setIfInBounds_toArray, List.set_cons_zero, List.set_cons_succ, i64_w, i32_w]
         rfl
        exact norm_ y42 (hCont (v313) _ ⟨(y15 HO314.out), (y2 HB.out)⟩)
       ·skip
        have hcv16 := own_string (P := Tryd.prog) Tryd.underlying22 Tryd.underlying5 Tryd.underlying9 (Kd.own_of_R HO314.out)
        refine value_ (w1 := ?_) (v := ?_) (by rfl) rfl ?_ ?_
        rotate_left 2
        ·go_simp
         constructor
         ·rfl
         ·rfl
        clear hcv16
        refine hK.out _ _ trivial (fun hHeld => ?_)
        clear hK K
        refine norm_ (a' := ?_) ?_ ?_
        rotate_left
        ·show Act.put _ (some 26) _ = _
         simp only [Act.put, List.setIfInBounds_toArray, List.set_cons_zero, List.set_cons_succ, i64_w, i32_w]
         rfl
        refine one_ (i := 2) (N := some 20) #[true, true, true, true, true, true, true, true, true, false, false] rfl rfl (one_of HT_.out (by kernel_rfl)) (by decide) (fun K hK => ?_)
        refine goes_ Tryd.func28 (by kernel_rfl) rfl #[.int .i64 (wrap64 (Int.tdiv a0 10))] (by rfl) rfl rfl y4 ?_
        with_reducible refine (ih k (by omega) (wrap64 (Int.tdiv a0 10)) t311 _ A11.out).mono ?_
        rintro e w17 ⟨rfl, hb⟩
        refine ⟨_, rfl, ?_⟩
        replace HO314 := Aside0.mk (Kd.R_below (y15 HO314.out) hb)
        replace HB := Aside0.mk (below_step (y2 HB.out) hb)
        (try clear hb)
        (try clear hb2)
        (try clear hk)
        (try clear hi)
        refine hK.out _ _ trivial (fun hHeld => ?_)
        clear hK K
        refine norm_ (a' := ?_) ?_ ?_
        rotate_left
        ·show Act.put _ (some 20) _ = _
         simp only [Act.put, List.setIfInBounds_toArray, List.set_cons_zero, List.set_cons_succ, i64_w, i32_w]
         rfl
        exact norm_ y42 (hCont (v313) _ ⟨(y15 HO314.out), (y2 HB.out)⟩)
     rintro v313 w18 ⟨h0_, h1_⟩
     have n0_ : Aside0 (Kd.R (Kd.int .u8) 5 w18 w.heap.size (fun _ => True) v313 y312) := ⟨h0_⟩
     have n1_ : Aside0 (Below w.heap.size w w18) := ⟨h1_⟩
     clear HB
     clear h0_ h1_
     have HO314 := n0_
     have HB := n1_
     clear n0_ n1_
     have hHeld := trivial
     refine norm_ (a' := ?_) ?_ ?_
     rotate_left
     ·simp only [putAll, Act.put, List.setIfInBounds_toArray, List.set_cons_zero, List.set_cons_succ]
      rfl
     refine zp 9 (some 27) HT_ ?_
     refine zp 10 (some 2) HT_ ?_
     refine done_ (done_of HT_.out (by kernel_rfl)) ?_
     try go_wp2
     go_ret
     exact ⟨y7, (y2 HB.out)⟩
    ·rw [if_neg c12] at H
     exact absurd H (by simp)
end Go.Proofs.YtihfbpmblppbgaaDoor.PA
end
section
namespace Go.Proofs.YtihfbpmblppbgaaDoor.PA
open Go.RowKit Go.Proofs.YtihfbpmblppbgaaDoorW.PrintWords Go.Proofs.YtihfbpmblppbgaaDoorW.PrintLast Go.Proofs.YtihfbpmblppbgaaDoorW.PrintMore
attribute [local go_sem] max2_int min2_int max_two min_two max_three min_three max_four min_four
set_option linter.unusedVariables false
set_option linter.unusedSimpArgs false
def spec_l1Show.f : Nat → Int → List (S25) → Option (ByteArray)
 | 0, _, _ => none
 | k + 1, a0_0, l0_1 => if (l0_1.length : Int) = 0 then ((spec_l6Dec.f k a0_0).bind fun t316 => (some t316)) else (if 0 < (l0_1.length : Int) then ((spec_l1Show.f k ((rd_T25 l0_1 0).f0) ((rd_T25 l0_1 0).f1)).bind fun t318 => (if 1 + t318.size ≤ 9223372036854775807 then (if 1 + t318.size + 1 ≤ 9223372036854775807 then (if 1 < (l0_1.length : Int) then ((spec_l1Show.f k ((rd_T25 l0_1 1).f0) ((rd_T25 l0_1 1).f1)).bind fun t320 => (if 1 + t318.size + 1 + t320.size ≤ 9223372036854775807 then (if 1 + t318.size + 1 + t320.size + 1 ≤ 9223372036854775807 then (some (((((⟨#[40]⟩ : ByteArray) ++ t318) ++ (⟨#[44]⟩ : ByteArray)) ++ t320) ++ (⟨#[41]⟩ : ByteArray))) else (none)) else (none))) else (none)) else (none)) else (none))) else (none))
theorem spec_l1Show.mono_l : ∀ k, (∀ y0 y1, LeO (spec_l1Show.f k y0 y1) (spec_l1Show.f (k + 1) y0 y1))
 | 0 => fun _ _ r h => by simp [spec_l1Show.f] at h
 | k + 1 => by
  have ih0 := spec_l1Show.mono_l k
  ·intro y0 y1
   unfold spec_l1Show.f
   repeat' first
   | (with_reducible exact ih0 _ _)
   | (with_reducible exact spec_l6Dec.mono _ _)
   | (with_reducible exact LeO.refl _)
   | (with_reducible exact LeO.none _)
   | (with_reducible refine LeO.ite ?_ ?_)
   | (with_reducible refine LeO.bind ?_ (fun _ => ?_))
   | exact ih0 _ _
   | exact spec_l6Dec.mono _ _
   | exact LeO.none _
   | refine LeO.ite ?_ ?_
   | refine LeO.bind ?_ (fun _ => ?_)
theorem spec_l1Show.mono : ∀ a0 a1 k, LeO (spec_l1Show.f k a0 a1) (spec_l1Show.f (k + 1) a0 a1) := by
 intro a0 a1 k
 have ih0 := spec_l1Show.mono_l k
 exact ih0 a0 a1
def spec_l1Show.T3 : Bool × List (List Nat × List Nat) := (true, [([], []), ([0], [0]), ([1], [1]), ([2], [2]), ([3], [3]), ([4], [4]), ([5], [5]), ([], []), ([7], [7]), ([8], [8]), ([9], [9]), ([10, 4], [10]), ([6, 11], [6, 11]), ([12], [12]), ([13, 11, 0, 1, 2, 3, 4, 5, 6, 7, 8, 9, 10, 11, 12, 13], [13])])
def spec_l1Show.B3 : List Nat := [0, 1, 3, 7, 15, 31, 63, 0, 128, 384, 896, 1951, 4095, 8191, 16383]
theorem spec_l1Show.tab3 : rtab .any (opsOf Tryd.f19 3) = spec_l1Show.T3 := by kernel_rfl
theorem spec_l1Show.bits3 : waitsOk spec_l1Show.T3.2 spec_l1Show.B3 = true := by kernel_rfl
set_option maxHeartbeats 8000000 in
set_option maxRecDepth 100000 in
theorem spec_l1Show.calls (k : Nat) : ∀ (a0_0 : Int) (A0_1 : Option Addr) (c0_1 : Nat) (l0_1 : List (S25)) (r : ByteArray) (w : World) (hr0_1 : Kd.C k25 w A0_1 l0_1.length l0_1) (hc0_1 : l0_1.length ≤ c0_1) (h : spec_l1Show.f k a0_0 l0_1 = some r),
  Calls Tryd.prog 19 #[.agg #[.int .i64 a0_0, .slice A0_1 l0_1.length c0_1]] w fun e w' => e = .returned (.string r) ∧ Below w.heap.size w w' := by
 induction k using Nat.strongRecOn with
 | _ k ih =>
 intro a0_0 A0_1 c0_1 l0_1 r w hr0_1 hc0_1 h
 cases k with
 | zero => exact absurd h (by simp [spec_l1Show.f])
 | succ k =>
 simp only [spec_l1Show.f] at h
 have hu25 := Tryd.underlying25
 have HR0_1 := Aside0.mk hr0_1
 have HC0_1 := Aside0.mk hc0_1
 clear hr0_1 hc0_1
 have HB := Aside0.mk (Below.refl w.heap.size w)
 have H : (if (l0_1.length : Int) = 0 then ((spec_l6Dec.f k a0_0).bind fun t316 => (some t316)) else (if 0 < (l0_1.length : Int) then ((spec_l1Show.f k ((rd_T25 l0_1 0).f0) ((rd_T25 l0_1 0).f1)).bind fun t318 => (if 1 + t318.size ≤ 9223372036854775807 then (if 1 + t318.size + 1 ≤ 9223372036854775807 then (if 1 < (l0_1.length : Int) then ((spec_l1Show.f k ((rd_T25 l0_1 1).f0) ((rd_T25 l0_1 1).f1)).bind fun t320 => (if 1 + t318.size + 1 + t320.size ≤ 9223372036854775807 then (if 1 + t318.size + 1 + t320.size + 1 ≤ 9223372036854775807 then (some (((((⟨#[40]⟩ : ByteArray) ++ t318) ++ (⟨#[44]⟩ : ByteArray)) ++ t320) ++ (⟨#[41]⟩ : ByteArray))) else (none)) else (none))) else (none)) else (none)) else (none))) else (none))) = some r := h
 clear h
 have HZ2 := Aside0.mk H
 clear H
 go_enter Tryd.func19, Tryd.ntmps19
 go_upto_if 6 with (first | ((with_reducible refine gate_dst (N := 1) rfl ?_); refine zbx 1 #[.int .i64 a0_0, .slice A0_1 l0_1.length c0_1] 25 ?_; intro gb315 hg w3 hbox hb; have BK315 := Aside0.mk hbox; have GW315 := Aside0.mk ((y5 hg HB.out : w.heap.size ≤ gb315)); have GE315 := Aside0.mk ((y5 hg HB.out : w.heap.size ≤ gb315)); replace HB := Aside0.mk (below_step (y2 HB.out) hb); clear hb hbox hg; have hcz4_0 := zh BK315; have hcz4_1 := zh1 BK315; have hfz4_0 := zfr BK315 0; have hfz4_1 := zfr BK315 1))
 (try simp only [Act.put, List.setIfInBounds_toArray, List.set_cons_zero, List.set_cons_succ])
 have H := HZ2.out
 clear HZ2
 by_cases c5 : (l0_1.length : Int) = 0
 ·rw [if_pos c5] at H
  have c5b0 : ((l0_1.length : Int) == 0) = true := beq_iff_eq.mpr c5
  have c5b1 : ((l0_1.length : Int) != 0) = false := bne_eq_false_iff_eq.mpr c5
  clear c5
  (first | rw [c5b0] | (simp only [i64_w, i32_w]; rw [c5b0]) | skip)
  obtain ⟨t316, A60, H⟩ := ob H
  have A6 := Aside0.mk A60
  clear A60
  obtain rfl := Option.some.inj H
  have hcz7_0 := zh BK315
  have hcz7_1 := zh1 BK315
  have hfz7_0 := zfr BK315 0
  have hfz7_1 := zfr BK315 1
  go_wp2_with (first | ((with_reducible refine gate_callee (f := 28) rfl ?_); refine goesL_ (some 9) rfl rfl Tryd.func28 (by kernel_rfl) rfl #[.int .i64 a0_0] rfl y4 ?_; (with_reducible refine (spec_l6Dec.calls k a0_0 t316 _ A6.out).mono ?_); rintro e w8 ⟨rfl, hb⟩; refine ⟨_, rfl, ?_⟩; replace BK315 := zbb BK315 hb; replace HB := Aside0.mk (below_step (y0 HB.out GE315.out) hb); (try clear hb); (try clear hb2); (try clear hk); (try clear hi)))
  go_ret
  exact ⟨y7, (y0 HB.out GE315.out)⟩
 ·rw [if_neg c5] at H
  have c5b0 : ((l0_1.length : Int) == 0) = false := beq_eq_false_iff_ne.mpr c5
  have c5b1 : ((l0_1.length : Int) != 0) = true := bne_iff_ne.mpr c5
  have c5b2 : ¬ (l0_1 = []) := fun h_ => c5 (by rw [h_]; rfl)
  (first | rw [c5b0] | (simp only [i64_w, i32_w]; rw [c5b0]) | skip)
  by_cases c9 : 0 < (l0_1.length : Int)
  ·rw [if_pos c9] at H
   have c9b0 : decide (0 < (l0_1.length : Int)) = true := decide_eq_true c9
   have c9b1 : decide (0 < l0_1.length) = true := decide_eq_true (by omega)
   clear c9
   obtain ⟨t318, A100, H⟩ := ob H
   have A10 := Aside0.mk A100
   clear A100
   by_cases c11 : 1 + t318.size ≤ 9223372036854775807
   ·rw [if_pos c11] at H
    have c11b0 := eq_true c11
    have c11b1 : decide (1 + t318.size ≤ 9223372036854775807) = true := decide_eq_true c11
    try have c11b2 : (9223372036854775807 < 1 + t318.size) = False := eq_false (Nat.not_lt.2 c11)
    by_cases c12 : 1 + t318.size + 1 ≤ 9223372036854775807
    ·rw [if_pos c12] at H
     have c12b0 := eq_true c12
     have c12b1 : decide (1 + t318.size + 1 ≤ 9223372036854775807) = true := decide_eq_true c12
     try have c12b2 : (9223372036854775807 < 1 + t318.size + 1) = False := eq_false (Nat.not_lt.2 c12)
     by_cases c13 : 1 < (l0_1.length : Int)
     ·rw [if_pos c13] at H
      have c13b0 : decide (1 < (l0_1.length : Int)) = true := decide_eq_true c13
      have c13b1 : decide (1 < l0_1.length) = true := decide_eq_true (by omega)
      clear c13
      obtain ⟨t320, A140, H⟩ := ob H
      have A14 := Aside0.mk A140
      clear A140
      by_cases c15 : 1 + t318.size + 1 + t320.size ≤ 9223372036854775807
      ·rw [if_pos c15] at H
       have c15b0 := eq_true c15
       have c15b1 : decide (1 + t318.size + 1 + t320.size ≤ 9223372036854775807) = true := decide_eq_true c15
       try have c15b2 : (9223372036854775807 < 1 + t318.size + 1 + t320.size) = False := eq_false (Nat.not_lt.2 c15)
       by_cases c16 : 1 + t318.size + 1 + t320.size + 1 ≤ 9223372036854775807
       ·rw [if_pos c16] at H
        have c16b0 := eq_true c16
        have c16b1 : decide (1 + t318.size + 1 + t320.size + 1 ≤ 9223372036854775807) = true := decide_eq_true c16
        try have c16b2 : (9223372036854775807 < 1 + t318.size + 1 + t320.size + 1) = False := eq_false (Nat.not_lt.2 c16)
        obtain rfl := Option.some.inj H
        try go_wp2
        replace BK315 := Aside0.mk (blk_drew BK315.out)
        replace HB := Aside0.mk (below_drew1 HB.out)
        have p317 : 0 ≤ (0 : Int) := (by omega)
        have q317 : 0 < (l0_1.length : Int) := of_decide_eq_true y19
        obtain ⟨ad317, A317_1, c317_1, e317, hx317_0, hx317_1, hl317_1, hi317_1⟩ := at_T25 HR0_1.out 0 p317 q317
        have hw317_1 := hx317_1
        (try rw [show ((0 : Int)).toNat = 0 from rfl] at hw317_1)
        (try rw [show 0 * 2 = 0 from rfl] at hw317_1)
        (try rw [Addr.add_zero'] at hw317_1)
        have hw317_0 := hx317_0
        (try rw [show ((0 : Int)).toNat = 0 from rfl] at hw317_0)
        (try rw [show 0 * 2 = 0 from rfl] at hw317_0)
        (try rw [Addr.add_zero'] at hw317_0)
        cases e317
        have qi317 : (0 < l0_1.length) = True := eq_true (by omega)
        (try rw [show ((0 : Int)).toNat = 0 from rfl] at hx317_0)
        (try rw [show 0 * 2 = 0 from rfl] at hx317_0)
        (try rw [Addr.add_zero'] at hx317_0)
        (try rw [show ((0 : Int)).toNat = 0 from rfl] at hx317_1)
        (try rw [show 0 * 2 = 0 from rfl] at hx317_1)
        (try rw [Addr.add_zero'] at hx317_1)
        replace hx317_0 := (HB.out.cell (World.block_lt_of_cell? w _ hx317_0)).trans hx317_0
        replace hx317_1 := (HB.out.cell (World.block_lt_of_cell? w _ hx317_1)).trans hx317_1
        have HR317_1 := Aside0.mk hi317_1
        have HC317_1 := Aside0.mk hl317_1
        clear hi317_1 hl317_1
        replace p317 := eq_true p317
        replace q317 := eq_true q317
        have p319 : 0 ≤ (1 : Int) := (by omega)
        have q319 : 1 < (l0_1.length : Int) := of_decide_eq_true y19
        obtain ⟨ad319, A319_1, c319_1, e319, hx319_0, hx319_1, hl319_1, hi319_1⟩ := at_T25 HR0_1.out 1 p319 q319
        have hw319_1 := hx319_1
        (try rw [show ((1 : Int)).toNat = 1 from rfl] at hw319_1)
        (try rw [show 1 * 2 = 2 from rfl] at hw319_1)
        (try simp only [Nat.reduceMul, Nat.reduceEqDiff, Go.Addr.add, ↓reduceIte] at hw319_1)
        have hw319_0 := hx319_0
        (try rw [show ((1 : Int)).toNat = 1 from rfl] at hw319_0)
        (try rw [show 1 * 2 = 2 from rfl] at hw319_0)
        (try simp only [Nat.reduceMul, Nat.reduceEqDiff, Go.Addr.add, ↓reduceIte] at hw319_0)
        obtain rfl : ad317 = ad319 := (by injection e319)
        (try simp only [show (1 : Int).toNat = 1 from rfl, Nat.reduceMul, Nat.reduceEqDiff, Go.Addr.add, ↓reduceIte] at hx319_0)
        (try simp only [show (1 : Int).toNat = 1 from rfl, Nat.reduceMul, Nat.reduceEqDiff, Go.Addr.add, ↓reduceIte] at hx319_1)
        have qi319 : (1 < l0_1.length) = True := eq_true (by omega)
        (try rw [show ((1 : Int)).toNat = 1 from rfl] at hx319_0)
        (try rw [show 1 * 2 = 2 from rfl] at hx319_0)
        (try rw [show ((1 : Int)).toNat = 1 from rfl] at hx319_1)
        (try rw [show 1 * 2 = 2 from rfl] at hx319_1)
        replace hx319_0 := (HB.out.cell (World.block_lt_of_cell? w _ hx319_0)).trans hx319_0
        replace hx319_1 := (HB.out.cell (World.block_lt_of_cell? w _ hx319_1)).trans hx319_1
        have HR319_1 := Aside0.mk hi319_1
        have HC319_1 := Aside0.mk hl319_1
        clear hi319_1 hl319_1
        replace p319 := eq_true p319
        replace q319 := eq_true q319
        refine start_ (n := 15) (S := fun w' => w'.cell? ⟨gb315, 0, none⟩ = some (.int .i64 a0_0) ∧ w'.cell? ⟨gb315, 1, none⟩ = some (.slice (some ad317) l0_1.length c0_1) ∧ w'.cell? ad317 = some (.int .i64 ((rd_T25 l0_1 0).f0)) ∧ w'.cell? ⟨ad317.block, ad317.off + 1, none⟩ = some (.slice A317_1 ((rd_T25 l0_1 0).f1).length c317_1) ∧ w'.cell? ⟨ad317.block, ad317.off + 2, none⟩ = some (.int .i64 ((rd_T25 l0_1 1).f0)) ∧ w'.cell? ⟨ad317.block, ad317.off + 2 + 1, none⟩ = some (.slice A319_1 ((rd_T25 l0_1 1).f1).length c319_1)) (ds := []) #[false, false, false, false, false, false, false, false, false, false, false, false, false, false, false] (by kernel_rfl) rfl rfl ⟨(blk_cell BK315.out 0).trans rfl, (blk_cell BK315.out 1).trans rfl, ((HB.out.cell (World.block_lt_of_cell? w _ hw317_0)).trans hw317_0), ((HB.out.cell (World.block_lt_of_cell? w _ hw317_1)).trans hw317_1), ((HB.out.cell (World.block_lt_of_cell? w _ hw319_0)).trans hw319_0), ((HB.out.cell (World.block_lt_of_cell? w _ hw319_1)).trans hw319_1)⟩ (fun hHeld => ?_); refine with_tabW spec_l1Show.tab3 spec_l1Show.bits3 (fun HT_ HW_ => ?_)
        generalize w3.drew = w17 at BK315 HB HR317_1 HR319_1 hx317_0 hx317_1 hx319_0 hx319_1 hHeld ⊢
        refine zp 0 (some 10) HT_ ?_
        refine zp 7 (some 17) HT_ ?_
        refine zt6 1 (some 11) HT_ HW_ hHeld ?_
        refine zp 2 (some 12) HT_ ?_
        refine zt6 3 (some 13) HT_ HW_ hHeld ?_
        refine zt6 8 (some 18) HT_ HW_ hHeld ?_
        refine zp 9 (some 19) HT_ ?_
        refine zt6 10 (some 20) HT_ HW_ hHeld ?_
        refine one_ (i := 4) (N := some 14) #[true, true, true, true, true, false, false, true, true, true, true, false, false, false, false] rfl rfl (one_of HT_.out (by kernel_rfl)) (by decide) (fun K hK => ?_)
        refine goes_ Tryd.func19 (by kernel_rfl) rfl #[.agg #[.int .i64 ((rd_T25 l0_1 0).f0), .slice A317_1 ((rd_T25 l0_1 0).f1).length c317_1]] (by rfl) rfl rfl y4 ?_
        with_reducible refine (ih k (by omega) ((rd_T25 l0_1 0).f0) _ _ ((rd_T25 l0_1 0).f1) t318 _ ?side1 ?side2 A10.out).mono ?_
        (case side1 => exact y9 HR317_1.out HB.out)
        (case side2 => exact HC317_1.out)
        rintro e w18 ⟨rfl, hb⟩
        refine ⟨_, rfl, ?_⟩
        replace BK315 := zbb BK315 hb
        replace HB := Aside0.mk (below_step (y0 HB.out GE315.out) hb)
        (try clear hb)
        (try clear hb2)
        (try clear hk)
        (try clear hi)
        refine hK.out _ _ ⟨(blk_cell BK315.out 0).trans rfl, (blk_cell BK315.out 1).trans rfl, ((HB.out.cell (World.block_lt_of_cell? w _ hw317_0)).trans hw317_0), ((HB.out.cell (World.block_lt_of_cell? w _ hw317_1)).trans hw317_1), ((HB.out.cell (World.block_lt_of_cell? w _ hw319_0)).trans hw319_0), ((HB.out.cell (World.block_lt_of_cell? w _ hw319_1)).trans hw319_1)⟩ (fun hHeld => ?_)
        clear hK K
        refine norm_ (a' := ?_) ?_ ?_
        rotate_left
        ·show Act.put _ (some 14) _ = _
         simp only [Act.put, List.setIfInBounds_toArray, List.set_cons_zero, List.set_cons_succ, i64_w, i32_w]
         rfl
        refine zp 5 (some 15) HT_ ?_
        refine zp 6 (some 16) HT_ ?_
        refine one_ (i := 11) (N := some 21) #[true, true, true, true, true, true, true, true, true, true, true, true, false, false, false] rfl rfl (one_of HT_.out (by kernel_rfl)) (by decide) (fun K hK => ?_)
        refine goes_ Tryd.func19 (by kernel_rfl) rfl #[.agg #[.int .i64 ((rd_T25 l0_1 1).f0), .slice A319_1 ((rd_T25 l0_1 1).f1).length c319_1]] (by rfl) rfl rfl y4 ?_
        with_reducible refine (ih k (by omega) ((rd_T25 l0_1 1).f0) _ _ ((rd_T25 l0_1 1).f1) t320 _ ?side1 ?side2 A14.out).mono ?_
        (case side1 => exact y9 HR319_1.out HB.out)
        (case side2 => exact HC319_1.out)
        rintro e w19 ⟨rfl, hb⟩
        refine ⟨_, rfl, ?_⟩
        replace BK315 := zbb BK315 hb
        replace HB := Aside0.mk (below_step (y0 HB.out GE315.out) hb)
        (try clear hb)
        (try clear hb2)
        (try clear hk)
        (try clear hi)
        refine hK.out _ _ ⟨(blk_cell BK315.out 0).trans rfl, (blk_cell BK315.out 1).trans rfl, ((HB.out.cell (World.block_lt_of_cell? w _ hw317_0)).trans hw317_0), ((HB.out.cell (World.block_lt_of_cell? w _ hw317_1)).trans hw317_1), ((HB.out.cell (World.block_lt_of_cell? w _ hw319_0)).trans hw319_0), ((HB.out.cell (World.block_lt_of_cell? w _ hw319_1)).trans hw319_1)⟩ (fun hHeld => ?_)
        clear hK K
        refine norm_ (a' := ?_) ?_ ?_
        rotate_left
        ·show Act.put _ (some 21) _ = _
         simp only [Act.put, List.setIfInBounds_toArray, List.set_cons_zero, List.set_cons_succ, i64_w, i32_w]
         rfl
        refine zp 12 (some 22) HT_ ?_
        refine zp 13 (some 23) HT_ ?_
        refine zp 14 (some 2) HT_ ?_
        refine done_ (done_of HT_.out (by kernel_rfl)) ?_
        try go_wp2
        go_ret
        exact ⟨y7, (y0 HB.out GE315.out)⟩
       ·rw [if_neg c16] at H
        exact absurd H (by simp)
      ·rw [if_neg c15] at H
       exact absurd H (by simp)
     ·rw [if_neg c13] at H
      exact absurd H (by simp)
    ·rw [if_neg c12] at H
     exact absurd H (by simp)
   ·rw [if_neg c11] at H
    exact absurd H (by simp)
  ·rw [if_neg c9] at H
   exact absurd H (by simp)
end Go.Proofs.YtihfbpmblppbgaaDoor.PA
end
section
namespace Go.Proofs.YtihfbpmblppbgaaDoor.PA
open Go.RowKit Go.Proofs.YtihfbpmblppbgaaDoorW.PrintWords Go.Proofs.YtihfbpmblppbgaaDoorW.PrintLast Go.Proofs.YtihfbpmblppbgaaDoorW.PrintMore
attribute [local go_sem] max2_int min2_int max_two min_two max_three min_three max_four min_four
set_option linter.unusedVariables false
set_option linter.unusedSimpArgs false
def spec_ValText.f (k : Nat) (a0_0 : Int) (l0_1 : List (S25)) : Option (ByteArray) := (spec_l1Any.f k a0_0 l0_1).bind fun t322 => (if t322 = true then ((spec_l1Show.f k a0_0 l0_1).bind fun t323 => (some t323)) else (some (⟨#[]⟩ : ByteArray)))
theorem spec_ValText.mono : ∀ a0 a1 k, LeO (spec_ValText.f k a0 a1) (spec_ValText.f (k + 1) a0 a1) := by
 intro a0 a1 k
 unfold spec_ValText.f
 repeat' first
   | (with_reducible exact spec_l1Any.mono _ _ _)
   | (with_reducible exact spec_l1Show.mono _ _ _)
   | (with_reducible exact LeO.refl _)
   | (with_reducible exact LeO.none _)
   | (with_reducible refine LeO.ite ?_ ?_)
   | (with_reducible refine LeO.bind ?_ (fun _ => ?_))
   | exact spec_l1Any.mono _ _ _
   | exact spec_l1Show.mono _ _ _
   | exact LeO.none _
   | refine LeO.ite ?_ ?_
   | refine LeO.bind ?_ (fun _ => ?_)
set_option maxHeartbeats 8000000 in
set_option maxRecDepth 100000 in
theorem spec_ValText.calls (k : Nat) (a0_0 : Int) (A0_1 : Option Addr) (c0_1 : Nat) (l0_1 : List (S25)) (r : ByteArray) (w : World) (hr0_1 : Kd.C k25 w A0_1 l0_1.length l0_1) (hc0_1 : l0_1.length ≤ c0_1) (h : spec_ValText.f k a0_0 l0_1 = some r) :
  Calls Tryd.prog 8 #[.agg #[.int .i64 a0_0, .slice A0_1 l0_1.length c0_1]] w fun e w' => e = .returned (.string r) ∧ Below w.heap.size w w' := by
 have hu25 := Tryd.underlying25
 have HR0_1 := Aside0.mk hr0_1
 have HC0_1 := Aside0.mk hc0_1
 clear hr0_1 hc0_1
 have HB := Aside0.mk (Below.refl w.heap.size w)
 have H : ((spec_l1Any.f k a0_0 l0_1).bind fun t322 => (if t322 = true then ((spec_l1Show.f k a0_0 l0_1).bind fun t323 => (some t323)) else (some (⟨#[]⟩ : ByteArray)))) = some r := h
 clear h
 obtain ⟨t322, A20, H⟩ := ob H
 have A2 := Aside0.mk A20
 clear A20
 have HZ3 := Aside0.mk H
 clear H
 go_enter Tryd.func8, Tryd.ntmps8
 go_upto_if 5 with (first | ((with_reducible refine gate_dst (N := 1) rfl ?_); refine zbx 1 #[.int .i64 a0_0, .slice A0_1 l0_1.length c0_1] 25 ?_; intro gb321 hg w4 hbox hb; have BK321 := Aside0.mk hbox; have GW321 := Aside0.mk ((y5 hg HB.out : w.heap.size ≤ gb321)); have GE321 := Aside0.mk ((y5 hg HB.out : w.heap.size ≤ gb321)); replace HB := Aside0.mk (below_step (y2 HB.out) hb); clear hb hbox hg; have hcz5_0 := zh BK321; have hcz5_1 := zh1 BK321; have hfz5_0 := zfr BK321 0; have hfz5_1 := zfr BK321 1) | ((with_reducible refine gate_callee (f := 18) rfl ?_); refine goesL_ (some 4) rfl rfl Tryd.func18 (by kernel_rfl) rfl #[.agg #[.int .i64 a0_0, .slice A0_1 l0_1.length c0_1]] rfl y4 ?_; (with_reducible refine (spec_l1Any.calls k a0_0 _ _ l0_1 t322 _ ?side1 ?side2 A2.out).mono ?_); (case side1 => exact y9 HR0_1.out HB.out); (case side2 => exact HC0_1.out); rintro e w6 ⟨rfl, hb⟩; refine ⟨_, rfl, ?_⟩; replace BK321 := zbb BK321 hb; replace HB := Aside0.mk (below_step (y0 HB.out GE321.out) hb); (try clear hb); (try clear hb2); (try clear hk); (try clear hi)))
 (try simp only [Act.put, List.setIfInBounds_toArray, List.set_cons_zero, List.set_cons_succ])
 have H := HZ3.out
 clear HZ3
 by_cases c7 : t322 = true
 ·subst c7
  rw [if_pos rfl] at H
  obtain ⟨t323, A80, H⟩ := ob H
  have A8 := Aside0.mk A80
  clear A80
  obtain rfl := Option.some.inj H
  have hcz9_0 := zh BK321
  have hcz9_1 := zh1 BK321
  have hfz9_0 := zfr BK321 0
  have hfz9_1 := zfr BK321 1
  go_wp2_with (first | ((with_reducible refine gate_callee (f := 19) rfl ?_); refine goesL_ (some 7) rfl rfl Tryd.func19 (by kernel_rfl) rfl #[.agg #[.int .i64 a0_0, .slice A0_1 l0_1.length c0_1]] rfl y4 ?_; (with_reducible refine (spec_l1Show.calls k a0_0 _ _ l0_1 t323 _ ?side1 ?side2 A8.out).mono ?_); (case side1 => exact y9 HR0_1.out HB.out); (case side2 => exact HC0_1.out); rintro e w10 ⟨rfl, hb⟩; refine ⟨_, rfl, ?_⟩; replace BK321 := zbb BK321 hb; replace HB := Aside0.mk (below_step (y0 HB.out GE321.out) hb); (try clear hb); (try clear hb2); (try clear hk); (try clear hi)))
  go_ret
  exact ⟨y7, (y0 HB.out GE321.out)⟩
 ·replace c7 := Bool.eq_false_iff.mpr c7
  subst c7
  rw [if_neg (show ¬ (false = true) by decide)] at H
  obtain rfl := Option.some.inj H
  go_wp2
  go_ret
  exact ⟨y7, (y0 HB.out GE321.out)⟩
end Go.Proofs.YtihfbpmblppbgaaDoor.PA
end
section
namespace Go.Proofs.YtihfbpmblppbgaaDoor.PA
open Go.RowKit Go.Proofs.YtihfbpmblppbgaaDoorW.PrintWords Go.Proofs.YtihfbpmblppbgaaDoorW.PrintLast Go.Proofs.YtihfbpmblppbgaaDoorW.PrintMore
attribute [local go_sem] max2_int min2_int max_two min_two max_three min_three max_four min_four
set_option linter.unusedVariables false
set_option linter.unusedSimpArgs false
def laws_FnValTextPair.j0 : Nat → ByteArray → Bool → Int → List (S25) → Option (Bool)
 | 0, _, _, _, _ => none
 | k + 1, x4, x21, x345000, x345001 => if x21 = true then ((spec_ValText.f k x345000 x345001).bind fun t347 => (some (x4.toList == t347.toList))) else ((some (([(⟨x345000, x345001⟩ : S25), (⟨6, ([] : List (S25))⟩ : S25)] : List (S25)) : List (S25))).bind fun y348 => ((impl_ValText.f k 0 y348).bind fun t352 => ((spec_ValText.f k 0 y348).bind fun t353 => (if t352.toList = t353.toList then (if t352.toList = ([] : List UInt8) then (some true) else (if 1 + x4.size ≤ 9223372036854775807 then (if 1 + x4.size + 3 ≤ 9223372036854775807 then (some (t352.toList == (((⟨#[40]⟩ : ByteArray) ++ x4) ++ (⟨#[44, 54, 41]⟩ : ByteArray)).toList)) else (none)) else (none))) else (some false)))))
def laws_FnValTextPair.f (k : Nat) (l0 : List Int) : Option (Bool) := if (l0.length : Int) > 1048576 then (some true) else ((spec_DrawValText.f k l0).bind fun bt340 => ((impl_ValText.f k bt340.1 bt340.2).bind fun t345 => ((spec_ValText.f k bt340.1 bt340.2).bind fun t346 => (if t345.toList = t346.toList then (laws_FnValTextPair.j0 k t345 (t345.toList == ([] : List UInt8)) bt340.1 bt340.2) else (laws_FnValTextPair.j0 k t345 true bt340.1 bt340.2)))))
theorem laws_FnValTextPair.mono_l : ∀ k, (∀ y0 y1 y2 y3, LeO (laws_FnValTextPair.j0 k y0 y1 y2 y3) (laws_FnValTextPair.j0 (k + 1) y0 y1 y2 y3))
 | 0 => fun _ _ _ _ r h => by simp [laws_FnValTextPair.j0] at h
 | k + 1 => by
  have ih0 := laws_FnValTextPair.mono_l k
  ·intro y0 y1 y2 y3
   unfold laws_FnValTextPair.j0
   repeat' first
   | (with_reducible exact ih0 _ _ _ _)
   | (with_reducible exact impl_ValText.mono _ _ _)
   | (with_reducible exact spec_DrawValText.mono _ _)
   | (with_reducible exact spec_ValText.mono _ _ _)
   | (with_reducible exact LeO.refl _)
   | (with_reducible exact LeO.none _)
   | (with_reducible refine LeO.ite ?_ ?_)
   | (with_reducible refine LeO.bind ?_ (fun _ => ?_))
   | exact ih0 _ _ _ _
   | exact impl_ValText.mono _ _ _
   | exact spec_DrawValText.mono _ _
   | exact spec_ValText.mono _ _ _
   | exact LeO.none _
   | refine LeO.ite ?_ ?_
   | refine LeO.bind ?_ (fun _ => ?_)
theorem laws_FnValTextPair.mono : ∀ a0 k, LeO (laws_FnValTextPair.f k a0) (laws_FnValTextPair.f (k + 1) a0) := by
 intro a0 k
 have ih0 := laws_FnValTextPair.mono_l k
 unfold laws_FnValTextPair.f
 repeat' first
   | (with_reducible exact ih0 _ _ _ _)
   | (with_reducible exact impl_ValText.mono _ _ _)
   | (with_reducible exact spec_DrawValText.mono _ _)
   | (with_reducible exact spec_ValText.mono _ _ _)
   | (with_reducible exact LeO.refl _)
   | (with_reducible exact LeO.none _)
   | (with_reducible refine LeO.ite ?_ ?_)
   | (with_reducible refine LeO.bind ?_ (fun _ => ?_))
   | exact ih0 _ _ _ _
   | exact impl_ValText.mono _ _ _
   | exact spec_DrawValText.mono _ _
   | exact spec_ValText.mono _ _ _
   | exact LeO.none _
   | refine LeO.ite ?_ ?_
   | refine LeO.bind ?_ (fun _ => ?_)
set_option maxHeartbeats 8000000 in
set_option maxRecDepth 100000 in
theorem laws_FnValTextPair.calls (k : Nat) (A0 : Option Addr) (c0 : Nat) (l0 : List Int) (r : Bool) (w : World) (hG : HfG w) (hr0 : Kd.C (Kd.int .u8) w A0 l0.length l0) (hc0 : l0.length ≤ c0) (h : laws_FnValTextPair.f k l0 = some r) (hr_ : Aside0 (r = true)) :
  Calls Tryd.prog 4 #[.slice A0 l0.length c0] w fun e w' => e = .returned (.bool r) ∧ Below w.heap.size w w' := by
 have hu25 := Tryd.underlying25
 have HR0 := Aside0.mk hr0
 have HC0 := Aside0.mk hc0
 clear hr0 hc0
 have HB := Aside0.mk (Below.refl w.heap.size w)
 have HG := Aside0.mk hG
 clear hG
 have H : (if (l0.length : Int) > 1048576 then (some true) else ((spec_DrawValText.f k l0).bind fun bt340 => ((impl_ValText.f k bt340.1 bt340.2).bind fun t345 => ((spec_ValText.f k bt340.1 bt340.2).bind fun t346 => (if t345.toList = t346.toList then (laws_FnValTextPair.j0 k t345 (t345.toList == ([] : List UInt8)) bt340.1 bt340.2) else (laws_FnValTextPair.j0 k t345 true bt340.1 bt340.2)))))) = some r := h
 clear h
 by_cases c2 : (l0.length : Int) > 1048576
 ·rw [if_pos c2] at H
  have c2b0 : decide (1048576 < (l0.length : Int)) = true := decide_eq_true c2
  have c2b1 : decide (1048576 < l0.length) = true := decide_eq_true (by omega)
  clear c2
  clear hr_
  obtain rfl := Option.some.inj H
  go_enter Tryd.func4, Tryd.ntmps4
  go_wp2
  go_ret
  exact ⟨y7, (y2 HB.out)⟩
 ·rw [if_neg c2] at H
  have c2b0 : decide (1048576 < (l0.length : Int)) = false := decide_eq_false c2
  have c2b1 : decide (1048576 < l0.length) = false := decide_eq_false (by omega)
  clear c2
  obtain ⟨⟨t340, t341⟩, A30, H⟩ := ob H
  have A3 := Aside0.mk A30
  clear A30
  obtain ⟨t345, A40, H⟩ := ob H
  have A4 := Aside0.mk A40
  clear A40
  have HC5 := Aside0.mk H
  clear H
  go_enter Tryd.func4, Tryd.ntmps4
  go_upto_region 5 with (first | ((with_reducible refine gate_callee (f := 6) rfl ?_); refine goesL_ (some 11) rfl rfl Tryd.func6 (by kernel_rfl) rfl #[.slice A0 l0.length c0] rfl y4 ?_; (with_reducible refine (spec_DrawValText.calls k _ _ l0 t340 t341 _ ?side1 ?side2 A3.out).mono ?_); (case side1 => exact y40 HR0.out); (case side2 => exact HC0.out); rintro e w6 ⟨v342, rfl, ho0, hb⟩; refine ⟨_, rfl, ?_⟩; have HO343 := Aside0.mk (Kd.N_lower (Kd.N_mono (ok' := fun k_ => True) ho0 (fun k_ hk_ => trivial)) (below_size (y2 HB.out))); replace HB := Aside0.mk (below_step (y2 HB.out) hb); (try clear hb); (try clear hb2); (try clear hk); (try clear hi); (try clear ho0)) | ((with_reducible refine gate_dst (N := 3) rfl ?_); refine zbx 3 #[.int .i64 0, .slice none 0 0] 25 ?_; intro gb344 hg w7 hbox hb; replace HO343 := Aside0.mk (Kd.N_below (Kd.N_elderB (y12 HO343.out) gb344 (Nat.le_of_eq hg.symm)) hb); have BK344 := Aside0.mk hbox; have GW344 := Aside0.mk ((y5 hg HB.out : w.heap.size ≤ gb344)); have GE344 := Aside0.mk ((y5 hg HB.out : w.heap.size ≤ gb344)); replace HB := Aside0.mk (below_step (y2 HB.out) hb); clear hb hbox hg; have hcz8_0 := zh BK344; have hcz8_1 := zh1 BK344; have hfz8_0 := zfr BK344 0; have hfz8_1 := zfr BK344 1; obtain ⟨Ao9, co9, eo9⟩ := Kd.N_slice HO343.out; subst eo9) | ((with_reducible refine gate_callee (f := 7) rfl ?_); refine goesL_ (some 13) rfl rfl Tryd.func7 (by kernel_rfl) rfl #[.agg #[.int .i64 t340, .slice Ao9 t341.length co9]] rfl y4 ?_; (with_reducible refine (impl_ValText.calls (hG := ?sideG) k t340 _ _ t341 t345 _ ?side1 ?side2 A4.out).mono ?_); (case sideG => exact hf_gd HG.out (y0 HB.out GE344.out)); (case side1 => refine (Kd.N_reads' (e := 25) (base := w.heap.size) (ok := fun k_ => (True ∧ k_ ≠ gb344)) (n := t341.length) (c := co9) ?_).2.2; exact (by (with_reducible repeat (first | apply Kd.N_alloc | apply Kd.N_drewN | apply Kd.N_drew)); exact (Kd.N_mono (Kd.N_far (p := ⟨gb344, 1, none⟩) (Kd.N_far (p := ⟨gb344, 0, none⟩) (Kd.N_mono HO343.out (fun k_ hk => (⟨hk, hk.2⟩ : _ ∧ k_ ≠ gb344))) (fun _ hk => hk.2) (.int .i64 t340)) (fun _ hk => hk.2) (.slice Ao9 t341.length co9)) (fun _ h_ => h_.1)))); (case side2 => exact (Kd.N_reads' HO343.out).2.1); rintro e w10 ⟨rfl, hb⟩; refine ⟨_, rfl, ?_⟩; replace HO343 := Aside0.mk (Kd.N_below (by (with_reducible repeat (first | apply Kd.N_alloc | apply Kd.N_drewN | apply Kd.N_drew)); exact (Kd.N_mono (Kd.N_far (p := ⟨gb344, 1, none⟩) (Kd.N_far (p := ⟨gb344, 0, none⟩) (Kd.N_mono HO343.out (fun k_ hk => (⟨hk, hk.2⟩ : _ ∧ k_ ≠ gb344))) (fun _ hk => hk.2) (.int .i64 t340)) (fun _ hk => hk.2) (.slice Ao9 t341.length co9)) (fun _ h_ => h_.1))) hb); replace BK344 := Aside0.mk (blk_below (g := gb344) (o := .cells #[.int .i64 t340, .slice Ao9 t341.length co9] 25 (0, 0)) (by (with_reducible repeat (first | refine blk_drewN ?_ _ | refine blk_drew ?_ | refine blk_alloc ?_ _)); refine blk_put (cs := #[.int .i64 t340, .slice none 0 0]) ?_ 1 _ rfl; (with_reducible repeat (first | refine blk_drewN ?_ _ | refine blk_drew ?_ | refine blk_alloc ?_ _)); apply blk_put (i := 0); (case h => exact y1 BK344.out); (case e => rfl)) hb); replace HB := Aside0.mk (below_step (y0 HB.out GE344.out) hb); (try clear hb); (try clear hb2); (try clear hk); (try clear hi)))
  (try simp only [Act.put, List.setIfInBounds_toArray, List.set_cons_zero, List.set_cons_succ])
  go_cut [21] (fun v21 wc => ∃ (kq : Nat) (x21_4 : Bool), v21 = .bool x21_4 ∧ Aside0 (laws_FnValTextPair.j0 kq t345 x21_4 t340 t341 = some r) ∧ Aside0 (kq ≤ k) ∧ Aside0 (Kd.N k25 25 wc w.heap.size (fun k_ => k_ ≠ gb344) (.slice Ao9 t341.length co9) t341) ∧ Aside0 (wc.heap[gb344]? = some (.cells #[.int .i64 t340, (.slice Ao9 t341.length co9)] 25 (0, 0))) ∧ Aside0 (Below w.heap.size w wc))
  case first =>
   have H := HC5.out
   clear HC5
   obtain ⟨t346, A110, H⟩ := ob H
   have A11 := Aside0.mk A110
   clear A110
   by_cases c12 : t345.toList = t346.toList
   ·rw [if_pos c12] at H
    have c12b0 : (t345.toList == t346.toList) = true := beq_iff_eq.mpr c12
    have c12b1 : (t345.toList != t346.toList) = false := bne_eq_false_iff_eq.mpr c12
    clear c12
    (first | rw [c12b0] | (simp only [i64_w, i32_w]; rw [c12b0]) | skip)
    have H' := Aside0.mk H
    clear H
    have hcz13_0 := zh BK344
    have hcz13_1 := zh1 BK344
    have hfz13_0 := zfr BK344 0
    have hfz13_1 := zfr BK344 1
    go_wp2_with (first | ((with_reducible refine gate_callee (f := 8) rfl ?_); refine goesL_ (some 16) rfl rfl Tryd.func8 (by kernel_rfl) rfl #[.agg #[.int .i64 t340, .slice Ao9 t341.length co9]] rfl y4 ?_; (with_reducible refine (spec_ValText.calls k t340 _ _ t341 t346 _ ?side1 ?side2 A11.out).mono ?_); (case side1 => exact y21 HO343.out); (case side2 => exact (Kd.N_reads' HO343.out).2.1); rintro e w14 ⟨rfl, hb⟩; refine ⟨_, rfl, ?_⟩; replace HO343 := Aside0.mk (Kd.N_below (y12 HO343.out) hb); replace BK344 := zbb BK344 hb; replace HB := Aside0.mk (below_step (y0 HB.out GE344.out) hb); (try clear hb); (try clear hb2); (try clear hk); (try clear hi)))
    go_meet
    case rel => exact ⟨_, ((t345.toList == ([] : List UInt8))), y26, H', ⟨y36⟩, ⟨(by (with_reducible repeat (first | apply Kd.N_alloc | apply Kd.N_drewN | apply Kd.N_drew)); exact Kd.N_mono HO343.out (fun _ hk => hk.2))⟩, ⟨(y1 BK344.out)⟩, ⟨(y0 HB.out GE344.out)⟩⟩
   ·rw [if_neg c12] at H
    have c12b0 : (t345.toList == t346.toList) = false := beq_eq_false_iff_ne.mpr c12
    have c12b1 : (t345.toList != t346.toList) = true := bne_iff_ne.mpr c12
    (first | rw [c12b0] | (simp only [i64_w, i32_w]; rw [c12b0]) | skip)
    have H' := Aside0.mk H
    clear H
    have hcz15_0 := zh BK344
    have hcz15_1 := zh1 BK344
    have hfz15_0 := zfr BK344 0
    have hfz15_1 := zfr BK344 1
    go_wp2_with (first | ((with_reducible refine gate_callee (f := 8) rfl ?_); refine goesL_ (some 16) rfl rfl Tryd.func8 (by kernel_rfl) rfl #[.agg #[.int .i64 t340, .slice Ao9 t341.length co9]] rfl y4 ?_; (with_reducible refine (spec_ValText.calls k t340 _ _ t341 t346 _ ?side1 ?side2 A11.out).mono ?_); (case side1 => exact y21 HO343.out); (case side2 => exact (Kd.N_reads' HO343.out).2.1); rintro e w16 ⟨rfl, hb⟩; refine ⟨_, rfl, ?_⟩; replace HO343 := Aside0.mk (Kd.N_below (y12 HO343.out) hb); replace BK344 := zbb BK344 hb; replace HB := Aside0.mk (below_step (y0 HB.out GE344.out) hb); (try clear hb); (try clear hb2); (try clear hk); (try clear hi)))
    go_meet
    case rel => exact ⟨_, (true), y26, H', ⟨y36⟩, ⟨(by (with_reducible repeat (first | apply Kd.N_alloc | apply Kd.N_drewN | apply Kd.N_drew)); exact Kd.N_mono HO343.out (fun _ hk => hk.2))⟩, ⟨(y1 BK344.out)⟩, ⟨(y0 HB.out GE344.out)⟩⟩
  case rest =>
   clear HC5
   try clear c1
   try clear c2
   try clear c2b0
   try clear c2b1
   try clear p2
   try clear c4
   try clear c6
   try clear c7
   try clear c8
   try clear c12
   try clear c12b0
   try clear c12b1
   try clear hcz13_0
   try clear hcz13_1
   try clear hcz15_0
   try clear hcz15_1
   try clear hcz8_0
   try clear hcz8_1
   try clear hfz13_0
   try clear hfz13_1
   try clear hfz15_0
   try clear hfz15_1
   try clear hfz8_0
   try clear hfz8_1
   obtain ⟨kq, x21_4, rfl, HA, HJ4, HO_345001, BK344, HB⟩ := hcut
   cases kq with
   | zero => exact absurd HA.out (by simp [laws_FnValTextPair.j0])
   | succ kj4 =>
    have H := HA.out
    clear HA
    simp only [laws_FnValTextPair.j0] at H
    by_cases c17 : x21_4 = true
    ·subst c17
     rw [if_pos rfl] at H
     obtain ⟨t347, A180, H⟩ := ob H
     have A18 := Aside0.mk A180
     clear A180
     clear hr_
     obtain rfl := Option.some.inj H
     have hcz19_0 := zh BK344
     have hcz19_1 := zh1 BK344
     have hfz19_0 := zfr BK344 0
     have hfz19_1 := zfr BK344 1
     go_wp2_with (first | ((with_reducible refine gate_callee (f := 8) rfl ?_); refine goesL_ (some 24) rfl rfl Tryd.func8 (by kernel_rfl) rfl #[.agg #[.int .i64 t340, .slice Ao9 t341.length co9]] rfl y4 ?_; (with_reducible refine (spec_ValText.calls kj4 t340 _ _ t341 t347 _ ?side1 ?side2 A18.out).mono ?_); (case side1 => exact y21 HO_345001.out); (case side2 => exact (Kd.N_reads' HO_345001.out).2.1); rintro e w20 ⟨rfl, hb⟩; refine ⟨_, rfl, ?_⟩; replace HO_345001 := Aside0.mk (Kd.N_below (y12 HO_345001.out) hb); replace BK344 := zbb BK344 hb; replace HB := Aside0.mk (below_step (y0 HB.out GE344.out) hb); (try clear hb); (try clear hb2); (try clear hk); (try clear hi)))
     go_ret
     exact ⟨y7, (y0 HB.out GE344.out)⟩
    ·replace c17 := Bool.eq_false_iff.mpr c17
     subst c17
     rw [if_neg (show ¬ (false = true) by decide)] at H
     obtain ⟨y348, hy348⟩ : ∃ y_ : List (S25), y_ = (([(⟨t340, t341⟩ : S25), (⟨6, ([] : List (S25))⟩ : S25)] : List (S25))) := ⟨_, rfl⟩
     replace H : ((impl_ValText.f kj4 0 y348).bind fun t352 => ((spec_ValText.f kj4 0 y348).bind fun t353 => (if t352.toList = t353.toList then (if t352.toList = ([] : List UInt8) then (some true) else (if 1 + t345.size ≤ 9223372036854775807 then (if 1 + t345.size + 3 ≤ 9223372036854775807 then (some (t352.toList == (((⟨#[40]⟩ : ByteArray) ++ t345) ++ (⟨#[44, 54, 41]⟩ : ByteArray)).toList)) else (none)) else (none))) else (some false)))) = some r := by first | (rw [hy348]; with_reducible exact H) | (have H2_ := (Option.bind_some _ _).symm.trans H; rw [hy348]; with_reducible exact H2_) | (have H2_ := (Option.bind_some _ _).symm.trans H; with_reducible exact H2_) | with_reducible exact H | (rw [hy348]; exact H) | exact H
     have Ny348 := Aside0.mk hy348
     clear hy348
     obtain ⟨t352, A210, H⟩ := ob H
     have A21 := Aside0.mk A210
     clear A210
     obtain ⟨t353, A220, H⟩ := ob H
     have A22 := Aside0.mk A220
     clear A220
     by_cases c23 : t352.toList = t353.toList
     ·rw [if_pos c23] at H
      have c23b0 : (t352.toList == t353.toList) = true := beq_iff_eq.mpr c23
      have c23b1 : (t352.toList != t353.toList) = false := bne_eq_false_iff_eq.mpr c23
      clear c23
      by_cases c24 : t352.toList = ([] : List UInt8)
      ·rw [if_pos c24] at H
       have c24b0 : (t352.toList == ([] : List UInt8)) = true := beq_iff_eq.mpr c24
       have c24b1 : (t352.toList != ([] : List UInt8)) = false := bne_eq_false_iff_eq.mpr c24
       clear c24
       clear hr_
       obtain rfl := Option.some.inj H
       have hcz25_0 := zh BK344
       have hcz25_1 := zh1 BK344
       have hfz25_0 := zfr BK344 0
       have hfz25_1 := zfr BK344 1
       go_wp2_with (first | ((with_reducible refine gate_dst (N := 28) rfl ?_); refine Kd.N_lit k25 _ 25 ?hg (N' := 28) ?hd (xs := ([(⟨t340, t341⟩ : S25), (⟨6, ([] : List (S25))⟩ : S25)] : List (S25))) (inner := [.int .i64 t340, .slice Ao9 t341.length co9, .int .i64 6, .slice none 0 0]) (ok := (fun k_ => k_ ≠ gb344)) (okp := (fun k_ => k_ ≠ gb344)) ?hr ?hp (fun _ hk => hk) ((show ∀ k_, wc.heap.size ≤ k_ → (fun k_ => k_ ≠ gb344) k_ from fun k_ hk => Kd.freshB (g := gb344) (o := .cells #[.int .i64 t340, .slice Ao9 t341.length co9] 25 (0, 0)) (y1 BK344.out) k_ hk) _ (Nat.le_refl _)) (Below.refl _ _) (Nat.le_refl _) (by simp) ?_; (case hd => rfl); (case hg => rfl); (case hr => first | (go_simp; done) | (go_simp; rfl)); (case hp => exact (Reps.c2 (show Kd.FK k25 _ _ (⟨t340, t341⟩ : S25) [.int .i64 t340, .slice Ao9 t341.length co9] from (k25_mkF _ _ (⟨t340, t341⟩ : S25) (Kd.N_reads' (Kd.N_mono (ok' := (fun k_ => k_ ≠ gb344)) (HO_345001.out) (fun k_ hk => hk))).2.1 (Kd.N_F (Kd.N_mono (ok' := (fun k_ => k_ ≠ gb344)) (HO_345001.out) (fun k_ hk => hk))))) (Reps.c2 (show Kd.FK k25 _ _ (⟨6, ([] : List (S25))⟩ : S25) [.int .i64 6, .slice none 0 0] from (k25_mkF _ _ (⟨6, ([] : List (S25))⟩ : S25) (Nat.le_refl _) (Kd.F_nil _ _ _))) (Reps.none _ _)))); intro v349 w26 ho27 hb hg_ hnew_; clear hg_ hnew_; (first | rw [← Ny348.out] at ho27 | (simp only [Int.reduceToNat] at ho27; rw [← Ny348.out] at ho27)); have HO350 := Aside0.mk (Kd.N_lower ho27 (below_size (y0 HB.out GE344.out))); replace BK344 := zbb BK344 hb; replace HB := Aside0.mk (below_step (y0 HB.out GE344.out) hb); clear HO_345001; clear hb ho27; obtain ⟨Ao28, co28, eo28⟩ := Kd.N_slice HO350.out; subst eo28) | ((with_reducible refine gate_dst (N := 5) rfl ?_); refine zbx 5 #[.int .i64 0, .slice none 0 0] 25 ?_; intro gb351 hg w29 hbox hb; replace HO350 := Aside0.mk (Kd.N_below (Kd.N_elderB (y12 HO350.out) gb351 (Nat.le_of_eq hg.symm)) hb); have BK351 := Aside0.mk hbox; have GW351 := Aside0.mk ((y8 hg HB.out GE344.out : w.heap.size ≤ gb351)); have GE351 := Aside0.mk ((y8 hg HB.out GE344.out : w.heap.size ≤ gb351)); replace HB := Aside0.mk (below_step (y0 HB.out GE344.out) hb); have NB344_351 := zltn hg BK344; have NB351_344 := zgtn hg BK344; replace BK344 := zbb BK344 hb; clear hb hbox hg; have hnb30 := NB351_344.out; have hnc30 := NB344_351.out; have hcz31_0 := zh BK351; have hcz31_1 := zh1 BK351; have hfz31_0 := zfr BK351 0; have hfz31_1 := zfr BK351 1) | ((with_reducible refine gate_callee (f := 7) rfl ?_); refine goesL_ (some 31) rfl rfl Tryd.func7 (by kernel_rfl) rfl #[.agg #[.int .i64 0, .slice Ao28 y348.length co28]] rfl y4 ?_; (with_reducible refine (impl_ValText.calls (hG := ?sideG) kj4 0 _ _ y348 t352 _ ?side1 ?side2 A21.out).mono ?_); (case sideG => exact hf_gd HG.out (y3 HB.out GE344.out GE351.out)); (case side1 => refine (Kd.N_reads' (e := 25) (base := w.heap.size) (ok := fun k_ => (k_ ≠ gb344 ∧ k_ ≠ gb351)) (n := y348.length) (c := co28) ?_).2.2; exact (by (with_reducible repeat (first | apply Kd.N_alloc | apply Kd.N_drewN | apply Kd.N_drew)); exact (Kd.N_mono (Kd.N_far (p := ⟨gb351, 1, none⟩) (Kd.N_far (p := ⟨gb351, 0, none⟩) (Kd.N_mono HO350.out (fun k_ hk => (⟨hk, hk.2⟩ : _ ∧ k_ ≠ gb351))) (fun _ hk => hk.2) (.int .i64 0)) (fun _ hk => hk.2) (.slice Ao28 y348.length co28)) (fun _ h_ => h_.1)))); (case side2 => exact (Kd.N_reads' HO350.out).2.1); rintro e w32 ⟨rfl, hb⟩; refine ⟨_, rfl, ?_⟩; replace HO350 := Aside0.mk (Kd.N_below (by (with_reducible repeat (first | apply Kd.N_alloc | apply Kd.N_drewN | apply Kd.N_drew)); exact (Kd.N_mono (Kd.N_far (p := ⟨gb351, 1, none⟩) (Kd.N_far (p := ⟨gb351, 0, none⟩) (Kd.N_mono HO350.out (fun k_ hk => (⟨hk, hk.2⟩ : _ ∧ k_ ≠ gb351))) (fun _ hk => hk.2) (.int .i64 0)) (fun _ hk => hk.2) (.slice Ao28 y348.length co28)) (fun _ h_ => h_.1))) hb); replace BK344 := Aside0.mk (blk_below (g := gb344) (o := .cells #[.int .i64 t340, .slice Ao9 t341.length co9] 25 (0, 0)) (y23 NB344_351.out BK344.out) hb); replace BK351 := Aside0.mk (blk_below (g := gb351) (o := .cells #[.int .i64 0, .slice Ao28 y348.length co28] 25 (0, 0)) (by (with_reducible repeat (first | refine blk_drewN ?_ _ | refine blk_drew ?_ | refine blk_alloc ?_ _)); refine blk_put (cs := #[.int .i64 0, .slice none 0 0]) ?_ 1 _ rfl; (with_reducible repeat (first | refine blk_drewN ?_ _ | refine blk_drew ?_ | refine blk_alloc ?_ _)); apply blk_put (i := 0); (case h => exact y1 BK351.out); (case e => rfl)) hb); replace HB := Aside0.mk (below_step (y3 HB.out GE344.out GE351.out) hb); (try clear hb); (try clear hb2); (try clear hk); (try clear hi); have hcz33_0 := zh BK351; have hcz33_1 := zh1 BK351; have hfz33_0 := zfr BK351 0; have hfz33_1 := zfr BK351 1) | ((with_reducible refine gate_callee (f := 8) rfl ?_); refine goesL_ (some 34) rfl rfl Tryd.func8 (by kernel_rfl) rfl #[.agg #[.int .i64 0, .slice Ao28 y348.length co28]] rfl y4 ?_; (with_reducible refine (spec_ValText.calls kj4 0 _ _ y348 t353 _ ?side1 ?side2 A22.out).mono ?_); (case side1 => exact y21 HO350.out); (case side2 => exact (Kd.N_reads' HO350.out).2.1); rintro e w34 ⟨rfl, hb⟩; refine ⟨_, rfl, ?_⟩; replace HO350 := Aside0.mk (Kd.N_below (y12 HO350.out) hb); replace BK344 := zbb BK344 hb; replace BK351 := zbb BK351 hb; replace HB := Aside0.mk (below_step (y3 HB.out GE344.out GE351.out) hb); (try clear hb); (try clear hb2); (try clear hk); (try clear hi)))
       go_ret
       exact ⟨y7, (y3 HB.out GE344.out GE351.out)⟩
      ·rw [if_neg c24] at H
       have c24b0 : (t352.toList == ([] : List UInt8)) = false := beq_eq_false_iff_ne.mpr c24
       have c24b1 : (t352.toList != ([] : List UInt8)) = true := bne_iff_ne.mpr c24
       by_cases c35 : 1 + t345.size ≤ 9223372036854775807
       ·rw [if_pos c35] at H
        have c35b0 := eq_true c35
        have c35b1 : decide (1 + t345.size ≤ 9223372036854775807) = true := decide_eq_true c35
        try have c35b2 : (9223372036854775807 < 1 + t345.size) = False := eq_false (Nat.not_lt.2 c35)
        by_cases c36 : 1 + t345.size + 3 ≤ 9223372036854775807
        ·rw [if_pos c36] at H
         have c36b0 := eq_true c36
         have c36b1 : decide (1 + t345.size + 3 ≤ 9223372036854775807) = true := decide_eq_true c36
         try have c36b2 : (9223372036854775807 < 1 + t345.size + 3) = False := eq_false (Nat.not_lt.2 c36)
         clear hr_
         obtain rfl := Option.some.inj H
         have hcz37_0 := zh BK344
         have hcz37_1 := zh1 BK344
         have hfz37_0 := zfr BK344 0
         have hfz37_1 := zfr BK344 1
         go_wp2_with (first | ((with_reducible refine gate_dst (N := 28) rfl ?_); refine Kd.N_lit k25 _ 25 ?hg (N' := 28) ?hd (xs := ([(⟨t340, t341⟩ : S25), (⟨6, ([] : List (S25))⟩ : S25)] : List (S25))) (inner := [.int .i64 t340, .slice Ao9 t341.length co9, .int .i64 6, .slice none 0 0]) (ok := (fun k_ => k_ ≠ gb344)) (okp := (fun k_ => k_ ≠ gb344)) ?hr ?hp (fun _ hk => hk) ((show ∀ k_, wc.heap.size ≤ k_ → (fun k_ => k_ ≠ gb344) k_ from fun k_ hk => Kd.freshB (g := gb344) (o := .cells #[.int .i64 t340, .slice Ao9 t341.length co9] 25 (0, 0)) (y1 BK344.out) k_ hk) _ (Nat.le_refl _)) (Below.refl _ _) (Nat.le_refl _) (by simp) ?_; (case hd => rfl); (case hg => rfl); (case hr => first | (go_simp; done) | (go_simp; rfl)); (case hp => exact (Reps.c2 (show Kd.FK k25 _ _ (⟨t340, t341⟩ : S25) [.int .i64 t340, .slice Ao9 t341.length co9] from (k25_mkF _ _ (⟨t340, t341⟩ : S25) (Kd.N_reads' (Kd.N_mono (ok' := (fun k_ => k_ ≠ gb344)) (HO_345001.out) (fun k_ hk => hk))).2.1 (Kd.N_F (Kd.N_mono (ok' := (fun k_ => k_ ≠ gb344)) (HO_345001.out) (fun k_ hk => hk))))) (Reps.c2 (show Kd.FK k25 _ _ (⟨6, ([] : List (S25))⟩ : S25) [.int .i64 6, .slice none 0 0] from (k25_mkF _ _ (⟨6, ([] : List (S25))⟩ : S25) (Nat.le_refl _) (Kd.F_nil _ _ _))) (Reps.none _ _)))); intro v349 w38 ho39 hb hg_ hnew_; clear hg_ hnew_; (first | rw [← Ny348.out] at ho39 | (simp only [Int.reduceToNat] at ho39; rw [← Ny348.out] at ho39)); have HO350 := Aside0.mk (Kd.N_lower ho39 (below_size (y0 HB.out GE344.out))); replace BK344 := zbb BK344 hb; replace HB := Aside0.mk (below_step (y0 HB.out GE344.out) hb); clear HO_345001; clear hb ho39; obtain ⟨Ao40, co40, eo40⟩ := Kd.N_slice HO350.out; subst eo40) | ((with_reducible refine gate_dst (N := 5) rfl ?_); refine zbx 5 #[.int .i64 0, .slice none 0 0] 25 ?_; intro gb351 hg w41 hbox hb; replace HO350 := Aside0.mk (Kd.N_below (Kd.N_elderB (y12 HO350.out) gb351 (Nat.le_of_eq hg.symm)) hb); have BK351 := Aside0.mk hbox; have GW351 := Aside0.mk ((y8 hg HB.out GE344.out : w.heap.size ≤ gb351)); have GE351 := Aside0.mk ((y8 hg HB.out GE344.out : w.heap.size ≤ gb351)); replace HB := Aside0.mk (below_step (y0 HB.out GE344.out) hb); have NB344_351 := zltn hg BK344; have NB351_344 := zgtn hg BK344; replace BK344 := zbb BK344 hb; clear hb hbox hg; have hnb42 := NB351_344.out; have hnc42 := NB344_351.out; have hcz43_0 := zh BK351; have hcz43_1 := zh1 BK351; have hfz43_0 := zfr BK351 0; have hfz43_1 := zfr BK351 1) | ((with_reducible refine gate_callee (f := 7) rfl ?_); refine goesL_ (some 31) rfl rfl Tryd.func7 (by kernel_rfl) rfl #[.agg #[.int .i64 0, .slice Ao40 y348.length co40]] rfl y4 ?_; (with_reducible refine (impl_ValText.calls (hG := ?sideG) kj4 0 _ _ y348 t352 _ ?side1 ?side2 A21.out).mono ?_); (case sideG => exact hf_gd HG.out (y3 HB.out GE344.out GE351.out)); (case side1 => refine (Kd.N_reads' (e := 25) (base := w.heap.size) (ok := fun k_ => (k_ ≠ gb344 ∧ k_ ≠ gb351)) (n := y348.length) (c := co40) ?_).2.2; exact (by (with_reducible repeat (first | apply Kd.N_alloc | apply Kd.N_drewN | apply Kd.N_drew)); exact (Kd.N_mono (Kd.N_far (p := ⟨gb351, 1, none⟩) (Kd.N_far (p := ⟨gb351, 0, none⟩) (Kd.N_mono HO350.out (fun k_ hk => (⟨hk, hk.2⟩ : _ ∧ k_ ≠ gb351))) (fun _ hk => hk.2) (.int .i64 0)) (fun _ hk => hk.2) (.slice Ao40 y348.length co40)) (fun _ h_ => h_.1)))); (case side2 => exact (Kd.N_reads' HO350.out).2.1); rintro e w44 ⟨rfl, hb⟩; refine ⟨_, rfl, ?_⟩; replace HO350 := Aside0.mk (Kd.N_below (by (with_reducible repeat (first | apply Kd.N_alloc | apply Kd.N_drewN | apply Kd.N_drew)); exact (Kd.N_mono (Kd.N_far (p := ⟨gb351, 1, none⟩) (Kd.N_far (p := ⟨gb351, 0, none⟩) (Kd.N_mono HO350.out (fun k_ hk => (⟨hk, hk.2⟩ : _ ∧ k_ ≠ gb351))) (fun _ hk => hk.2) (.int .i64 0)) (fun _ hk => hk.2) (.slice Ao40 y348.length co40)) (fun _ h_ => h_.1))) hb); replace BK344 := Aside0.mk (blk_below (g := gb344) (o := .cells #[.int .i64 t340, .slice Ao9 t341.length co9] 25 (0, 0)) (y23 NB344_351.out BK344.out) hb); replace BK351 := Aside0.mk (blk_below (g := gb351) (o := .cells #[.int .i64 0, .slice Ao40 y348.length co40] 25 (0, 0)) (by (with_reducible repeat (first | refine blk_drewN ?_ _ | refine blk_drew ?_ | refine blk_alloc ?_ _)); refine blk_put (cs := #[.int .i64 0, .slice none 0 0]) ?_ 1 _ rfl; (with_reducible repeat (first | refine blk_drewN ?_ _ | refine blk_drew ?_ | refine blk_alloc ?_ _)); apply blk_put (i := 0); (case h => exact y1 BK351.out); (case e => rfl)) hb); replace HB := Aside0.mk (below_step (y3 HB.out GE344.out GE351.out) hb); (try clear hb); (try clear hb2); (try clear hk); (try clear hi); have hcz45_0 := zh BK351; have hcz45_1 := zh1 BK351; have hfz45_0 := zfr BK351 0; have hfz45_1 := zfr BK351 1) | ((with_reducible refine gate_callee (f := 8) rfl ?_); refine goesL_ (some 34) rfl rfl Tryd.func8 (by kernel_rfl) rfl #[.agg #[.int .i64 0, .slice Ao40 y348.length co40]] rfl y4 ?_; (with_reducible refine (spec_ValText.calls kj4 0 _ _ y348 t353 _ ?side1 ?side2 A22.out).mono ?_); (case side1 => exact y21 HO350.out); (case side2 => exact (Kd.N_reads' HO350.out).2.1); rintro e w46 ⟨rfl, hb⟩; refine ⟨_, rfl, ?_⟩; replace HO350 := Aside0.mk (Kd.N_below (y12 HO350.out) hb); replace BK344 := zbb BK344 hb; replace BK351 := zbb BK351 hb; replace HB := Aside0.mk (below_step (y3 HB.out GE344.out GE351.out) hb); (try clear hb); (try clear hb2); (try clear hk); (try clear hi)))
         go_ret
         exact ⟨y7, (y3 HB.out GE344.out GE351.out)⟩
        ·rw [if_neg c36] at H
         exact absurd H (by simp)
       ·rw [if_neg c35] at H
        exact absurd H (by simp)
     ·rw [if_neg c23] at H
      have c23b0 : (t352.toList == t353.toList) = false := beq_eq_false_iff_ne.mpr c23
      have c23b1 : (t352.toList != t353.toList) = true := bne_iff_ne.mpr c23
      exact absurd ((Option.some.inj H).trans hr_.out) (by decide)
def laws_FnValTextPair.Pure : Prop := ∀ (l0 : List Int), l0.length ≤ maxLen → l0.length * 1 ≤ 140737488351232 → (∀ x ∈ l0, (Lit.int .u8 x).wf = true) → ∃ k, laws_FnValTextPair.f k l0 = some true
theorem laws_FnValTextPair.walk (P : laws_FnValTextPair.Pure) (a0 : Option Addr) (len0 cap0 : Nat) (z0 : List Int) (w : World) (hG : HfG w) (w0 : (a0 = none ∧ len0 = 0 ∧ cap0 = 0 ∧ z0 = []) ∨ ∃ x, a0 = some x ∧ len0 ≤ cap0 ∧ cap0 ≤ maxLen ∧ z0.length = cap0 ∧ (∀ i, i < z0.length → w.cell? (x.add i) = some (.int .u8 (z0.getD i 0))) ∧ ∀ n ∈ z0, (Lit.int .u8 n).wf = true) (y0 : len0 * 1 ≤ 140737488351232) :
  Calls Tryd.prog 4 #[.slice a0 len0 cap0] w fun e w' => e = .returned (.bool true) ∧ Below w.heap.size w w' := by
 obtain ⟨l0, rfl, hr0, hm0, hw0, hc0⟩ := ReadsInt.ofRowC w0
 obtain ⟨k, h⟩ := P l0 hm0 y0 hw0
 refine (laws_FnValTextPair.calls (hG := hG) k _ _ l0 true w (Kd.C_of_reads (d := (0 : Int)) (h1 := fun _ => rfl) hr0) hc0 h ⟨rfl⟩).mono ?_
 rintro e w' ⟨rfl, hd⟩
 exact ⟨rfl, hd⟩
end Go.Proofs.YtihfbpmblppbgaaDoor.PA
end
section
namespace Go.Proofs.YtihfbpmblppbgaaDoor.Draw
open Go.RowKit Go.Proofs.YtihfbpmblppbgaaDoor.PA Go.Proofs.YtihfbpmblppbgaaDoorW.PrintWords Go.Proofs.YtihfbpmblppbgaaDoorW.PrintLast
def Bytes (s : List Int) : Prop := s.length ≤ 2000 ∧ ∀ x ∈ s, 0 ≤ x ∧ x ≤ 255
theorem rd_byte {s : List Int} (h : Bytes s) (i : Int) : 0 ≤ rd s i ∧ rd s i ≤ 255 := by
  unfold rd
  rw [List.getD_eq_getElem?_getD]
  cases e : s[i.toNat]? with
  | none => simp
  | some x => exact h.2 x (List.mem_of_getElem? e)
theorem w64 {x : Int} (h0 : -9223372036854775808 ≤ x) (h1 : x ≤ 9223372036854775807) : wrap64 x = x := by unfold wrap64; omega
theorem w01 : wrap64 (0 + 1) = 1 := by rw [w64 (by omega) (by omega)]; rfl
theorem w12 : wrap64 (1 + 1) = 2 := by rw [w64 (by omega) (by omega)]; rfl
theorem xor_nonneg (a b : Nat) (ha : a < 2 ^ 62) (hb : b < 2 ^ 62) : 0 ≤ Go.bits .xor .i64 a b := by
  have hp : (2 : Nat) ^ 62 ≤ 2 ^ IntKind.i64.bits := Nat.pow_le_pow_right (by decide) (by decide)
  have ha' : a % 2 ^ IntKind.i64.bits = a := Nat.mod_eq_of_lt (Nat.lt_of_lt_of_le ha hp)
  have hb' : b % 2 ^ IntKind.i64.bits = b := Nat.mod_eq_of_lt (Nat.lt_of_lt_of_le hb hp)
  simp only [Go.bits, BitVec.ofInt_natCast, BitVec.toNat_xor, BitVec.toNat_ofNat, ha', hb']
  rw [IntKind.wrap_i64]
  have := Nat.xor_lt_two_pow ha hb
  omega
theorem xor_nonneg' (x y : Int) (hx : 0 ≤ x) (hx1 : x < 4611686018427387904) (hy : 0 ≤ y) (hy1 : y < 4611686018427387904) : 0 ≤ Go.bits .xor .i64 x y := by
  obtain ⟨a, rfl⟩ := Int.eq_ofNat_of_zero_le hx
  obtain ⟨b, rfl⟩ := Int.eq_ofNat_of_zero_le hy
  exact xor_nonneg a b (by omega) (by omega)
theorem tmod_range (x n : Int) (hx : 0 ≤ x) (hn : 1 ≤ n) : 0 ≤ Int.tmod x n ∧ Int.tmod x n < n := by
  rw [Int.tmod_eq_emod_of_nonneg hx]
  exact ⟨Int.emod_nonneg _ (by omega), Int.emod_lt_of_pos _ (by omega)⟩
theorem tdiv_range (x n : Int) (hx : 0 ≤ x) (hn : 1 ≤ n) : 0 ≤ Int.tdiv x n ∧ Int.tdiv x n ≤ x := by
  rw [Int.tdiv_eq_ediv_of_nonneg hx]
  exact ⟨Int.ediv_nonneg hx (by omega), Int.ediv_le_self _ hx⟩
theorem pick_ev (s : List Int) (hs : Bytes s) (p n : Int) (hp : 0 ≤ p) (hp1 : p ≤ 1099511627776) (hn : 1 ≤ n) :
    ∃ r, (∀ k, 2 ≤ k → spec_l6Rd_pick.f k s p n = some (r, p + 1)) ∧ 0 ≤ r ∧ r < n := by
  have e1 : wrap64 (p + 1) = p + 1 := w64 (by omega) (by omega)
  have e2 : wrap64 (p + 1 - 1) = p := by rw [w64 (by omega) (by omega)]; omega
  by_cases h0 : (s.length : Int) = 0
  · refine ⟨0, fun k hk => ?_, by omega, by omega⟩
    obtain ⟨k, rfl⟩ : ∃ m, k = m + 1 := ⟨k - 1, by omega⟩
    simp only [spec_l6Rd_pick.f]
    rw [if_neg (by omega), e1, show ((s.length : Int) == 0) = true from beq_iff_eq.2 h0]
    simp only [spec_l6Rd_pick.j0, if_true]
  have hl : 0 < s.length := by omega
  have hl2 := hs.1
  have hb : ((s.length : Int) == 0) = false := by simpa using h0
  by_cases hlt : p < (s.length : Int)
  · have hr := rd_byte hs p
    have hq := tmod_range (rd s p) n hr.1 hn
    refine ⟨_, fun k hk => ?_, hq.1, hq.2⟩
    obtain ⟨k, rfl⟩ : ∃ m, k = m + 1 := ⟨k - 1, by omega⟩
    simp only [spec_l6Rd_pick.f]
    rw [if_neg (by omega), e1, hb]
    simp only [spec_l6Rd_pick.j0, e2]
    rw [if_neg (by simp), if_pos hlt, if_pos hp, if_neg (by omega), w64 (by omega) (by omega)]
  · have m1 := tmod_range p (s.length : Int) hp (by omega)
    have e3 : wrap64 (p * 7) = p * 7 := w64 (by omega) (by omega)
    have e4 : wrap64 (p * 7 + 3) = p * 7 + 3 := w64 (by omega) (by omega)
    have m2 := tmod_range (p * 7 + 3) (s.length : Int) (by omega) (by omega)
    have d1 := tdiv_range p (s.length : Int) hp (by omega)
    have r1 := rd_byte hs (Int.tmod p (s.length : Int))
    have r2 := rd_byte hs (Int.tmod (p * 7 + 3) (s.length : Int))
    generalize ha : rd s (Int.tmod p (s.length : Int)) = a at *
    generalize hc : rd s (Int.tmod (p * 7 + 3) (s.length : Int)) = c at *
    generalize hd : Int.tdiv p (s.length : Int) = d at *
    have e5 : wrap64 (wrap64 (wrap64 (wrap64 (wrap64 a * 131) + wrap64 (wrap64 c * 1117)) + wrap64 (p * 29)) + wrap64 (wrap64 d * 53)) = a * 131 + c * 1117 + p * 29 + d * 53 := by
      rw [w64 (x := a) (by omega) (by omega), w64 (x := c) (by omega) (by omega), w64 (x := d) (by omega) (by omega), w64 (x := a * 131) (by omega) (by omega), w64 (x := c * 1117) (by omega) (by omega), w64 (x := d * 53) (by omega) (by omega), w64 (x := p * 29) (by omega) (by omega), w64 (x := a * 131 + c * 1117) (by omega) (by omega), w64 (x := a * 131 + c * 1117 + p * 29) (by omega) (by omega), w64 (by omega) (by omega)]
    generalize hx : a * 131 + c * 1117 + p * 29 + d * 53 = x at *
    have d2 := tdiv_range x 64 (by omega) (by omega)
    have e6 : wrap64 (Int.tdiv x 64) = Int.tdiv x 64 := w64 (by omega) (by omega)
    have hxor := xor_nonneg' x (Int.tdiv x 64) (by omega) (by omega) d2.1 (by omega)
    have hq := tmod_range (Go.bits .xor .i64 x (Int.tdiv x 64)) n hxor hn
    refine ⟨_, fun k hk => ?_, hq.1, hq.2⟩
    obtain ⟨k, rfl⟩ : ∃ m, k = m + 1 := ⟨k - 1, by omega⟩
    simp only [spec_l6Rd_pick.f]
    rw [if_neg (by omega), e1, hb]
    simp only [spec_l6Rd_pick.j0, e2, e3, e4, ha, hc, hd, e5, e6]
    rw [if_neg (by simp), if_neg hlt, if_neg h0, if_pos m1.1, if_pos m1.2, if_pos m2.1, if_pos m2.2, if_neg (by omega)]
theorem open_ev (l : List Int) (h : ∀ x ∈ l, (Lit.int .u8 x).wf = true) : ∃ s, spec_l6Open.f l = some (s, 0) ∧ Bytes s := by
  have hb : ∀ x ∈ l, 0 ≤ x ∧ x ≤ 255 := fun x hx => bounds_u8 (h x hx)
  unfold spec_l6Open.f
  by_cases hl : (l.length : Int) > 2000
  · rw [if_pos hl, if_pos (by omega)]
    exact ⟨_, rfl, by rw [List.length_take]; omega, fun x hx => hb x (List.mem_of_mem_take hx)⟩
  · rw [if_neg hl]
    exact ⟨_, rfl, by omega, hb⟩
def Dph : Nat → List S41 → Prop
  | 0, l => l = []
  | n + 1, l => ∀ x ∈ l, Dph n x.f0
theorem dph_nil (n : Nat) : Dph n [] := by cases n <;> simp [Dph]
theorem type_ev (s : List Int) (hs : Bytes s) : ∀ (d : Nat), d ≤ 1000 → ∀ (p : Int), 0 ≤ p → p + 2 ^ d ≤ 1099511627776 →
    ∃ r q, (∀ k, 3 * d + 4 ≤ k → spec_l71Type.f k s p d = some (r, q)) ∧ r.length ≤ 2 ∧ p ≤ q ∧ q + 1 ≤ p + 2 ^ d ∧ Dph d r := by
  intro d
  induction d with
  | zero =>
    intro hd p hp hp1
    refine ⟨[], p, fun k hk => ?_, by simp, by omega, by simp, dph_nil _⟩
    obtain ⟨k, rfl⟩ : ∃ m, k = m + 2 := ⟨k - 2, by omega⟩
    simp only [spec_l71Type.f]
    rw [if_pos (by omega)]
    simp only [spec_l71Type.j0, if_true]
  | succ d ih =>
    intro hd p hp hp1
    have hpow : (2 : Int) ^ (d + 1) = 2 ^ d + 2 ^ d := by rw [Int.pow_succ]; omega
    have hpos : (1 : Int) ≤ 2 ^ d := by have := Int.pow_pos (n := 2) (m := d) (by decide); omega
    rw [hpow] at hp1 ⊢
    generalize (2 : Int) ^ d = e at *
    by_cases h2 : (((d + 1 : Nat) : Int)) < 2
    · refine ⟨[], p, fun k hk => ?_, by simp, by omega, by omega, dph_nil _⟩
      obtain ⟨k, rfl⟩ : ∃ m, k = m + 2 := ⟨k - 2, by omega⟩
      simp only [spec_l71Type.f]
      rw [if_pos h2]
      simp only [spec_l71Type.j0, if_true]
    · obtain ⟨r, hr, hr0, hr1⟩ := pick_ev s hs p 3 hp (by omega) (by omega)
      by_cases hrp : r > 0
      · refine ⟨[], p + 1, fun k hk => ?_, by simp, by omega, by omega, dph_nil _⟩
        obtain ⟨k, rfl⟩ : ∃ m, k = m + 2 := ⟨k - 2, by omega⟩
        simp only [spec_l71Type.f]
        rw [if_neg h2, hr (k + 1) (by omega)]
        simp only [Option.bind_some, spec_l71Type.j0]
        rw [if_pos (by simpa using hrp)]
      · obtain ⟨a, q1, h1, _, hq1, hq1', da⟩ := ih (by omega) (p + 1) (by omega) (by omega)
        obtain ⟨b, q2, h3, _, hq2, hq2', db⟩ := ih (by omega) q1 (by omega) (by omega)
        have ew : wrap64 (((d + 1 : Nat) : Int) - 1) = (d : Int) := by
          rw [w64 (by omega) (by omega)]; omega
        refine ⟨[⟨a⟩, ⟨b⟩], q2, fun k hk => ?_, by simp, by omega, by omega, ?_⟩
        rotate_left
        · intro x hx
          rcases List.mem_cons.1 hx with rfl | hx
          · exact da
          · rw [List.mem_singleton.1 hx]; exact db
        · obtain ⟨k, rfl⟩ : ∃ m, k = m + 2 := ⟨k - 2, by omega⟩
          simp only [spec_l71Type.f]
          rw [if_neg h2, hr (k + 1) (by omega)]
          simp only [Option.bind_some, spec_l71Type.j0]
          rw [if_neg (by simpa using hrp), ew, h1 k (by omega)]
          simp only [Option.bind_some]
          rw [h3 k (by omega)]
          simp only [Option.bind_some]
end Go.Proofs.YtihfbpmblppbgaaDoor.Draw
end
section
namespace Go.Proofs.YtihfbpmblppbgaaDoor.Types
open Go.RowKit Go.Proofs.YtihfbpmblppbgaaDoor.PA Go.Proofs.YtihfbpmblppbgaaDoorW.PrintWords Go.Proofs.YtihfbpmblppbgaaDoorW.PrintLast Go.Proofs.YtihfbpmblppbgaaDoor.Draw
abbrev Ty := List S41
theorem rd0 (a : S41) (l : Ty) : rd_T41 (a :: l) 0 = a := rfl
theorem rd1 (a b : S41) (l : Ty) : rd_T41 (a :: b :: l) 1 = b := rfl
def dp : Nat → Ty → Bool
  | 0, _ => false
  | _ + 1, [] => true
  | n + 1, [a, b] => dp n a.f0 && dp n b.f0
  | _ + 1, _ => false
theorem dp_nil (n : Nat) : dp (n + 1) [] = true := rfl
theorem dp_two (n : Nat) (a b : S41) : dp (n + 1) [a, b] = (dp n a.f0 && dp n b.f0) := rfl
theorem dp_odd (n : Nat) (l : Ty) (h0 : l.length ≠ 0) (h2 : l.length ≠ 2) : dp n l = false := by
  cases n with
  | zero => rfl
  | succ n =>
    match l with
    | [] => simp at h0
    | [_] => rfl
    | [_, _] => simp at h2
    | _ :: _ :: _ :: _ => rfl
theorem two_of {l : Ty} (h : l.length = 2) : ∃ a b, l = [a, b] := by
  match l with
  | [a, b] => exact ⟨a, b, rfl⟩
theorem shape (l : Ty) : l = [] ∨ (∃ a b, l = [a, b]) ∨ (l.length ≠ 0 ∧ l.length ≠ 2) := by
  match l with
  | [] => exact .inl rfl
  | [_] => exact .inr (.inr ⟨by simp, by simp⟩)
  | [a, b] => exact .inr (.inl ⟨a, b, rfl⟩)
  | _ :: _ :: _ :: _ => exact .inr (.inr ⟨by simp, by simp⟩)
theorem pred_cast (n : Nat) (hn : n ≤ 1000) : wrap64 (((n + 1 : Nat) : Int) - 1) = (n : Int) := by rw [w64 (by omega) (by omega)]; omega
theorem deep_ev : ∀ (n : Nat), n ≤ 1000 → ∀ (l : Ty) (k : Nat), 5 * n + 3 ≤ k → spec_l1Deep.f k l n = some (dp n l) := by
  intro n
  induction n with
  | zero =>
    intro _ l k hk
    obtain ⟨k, rfl⟩ : ∃ m, k = m + 2 := ⟨k - 2, by omega⟩
    simp only [spec_l1Deep.f]
    rw [if_pos (by omega)]
    simp only [spec_l1Deep.j0, if_true]
    rfl
  | succ n ih =>
    intro hn l k hk
    obtain ⟨k, rfl⟩ : ∃ m, k = m + 5 := ⟨k - 5, by omega⟩
    have hp := pred_cast n (by omega)
    simp only [spec_l1Deep.f]
    rw [if_neg (by omega)]
    rcases shape l with rfl | ⟨a, b, rfl⟩ | ⟨h0, h2⟩
    · rw [if_pos (by simp)]
      simp only [spec_l1Deep.j0, spec_l1Deep.l0]
      rw [if_neg (by simp), if_neg (by simp)]
      rfl
    · rw [if_neg (by simp)]
      simp only [spec_l1Deep.j0]
      rw [if_neg (by simp)]
      simp only [spec_l1Deep.l0, hp, w01, w12]
      rw [if_pos (by simp), if_pos (by omega), rd0, ih (by omega) _ _ (by omega), dp_two]
      simp only [Option.bind_some]
      cases ha : dp n a.f0 with
      | false => simp
      | true =>
        rw [if_pos rfl, if_pos (by simp), if_pos (by omega), rd1, ih (by omega) _ _ (by omega)]
        simp only [Option.bind_some]
        cases hb : dp n b.f0 with
        | false => simp
        | true => rw [if_pos rfl, if_neg (by simp)]; rfl
    · rw [if_neg (by omega), dp_odd _ _ h0 h2]
      simp only [spec_l1Deep.j0]
      rw [if_pos (by simp; omega)]
theorem specOk_ev (l : Ty) (k : Nat) (hk : 23 ≤ k) : spec_TypeOk.f k l = some (dp 4 l) := by
  unfold spec_TypeOk.f
  rw [show (4 : Int) = ((4 : Nat) : Int) from rfl, deep_ev 4 (by omega) l k (by omega)]; rfl
def tx : Nat → Ty → ByteArray
  | n + 1, [a, b] => ((((⟨#[40]⟩ : ByteArray) ++ tx n a.f0) ++ (⟨#[44]⟩ : ByteArray)) ++ tx n b.f0) ++ (⟨#[41]⟩ : ByteArray)
  | _, _ => ⟨#[105]⟩
theorem tx_two (n : Nat) (a b : S41) : tx (n + 1) [a, b] = ((((⟨#[40]⟩ : ByteArray) ++ tx n a.f0) ++ (⟨#[44]⟩ : ByteArray)) ++ tx n b.f0) ++ (⟨#[41]⟩ : ByteArray) := rfl
theorem tx_nil (n : Nat) : tx n [] = ⟨#[105]⟩ := by cases n <;> rfl
theorem tx_size (n : Nat) : ∀ l, (tx n l).size + 3 ≤ 4 * 2 ^ n := by
  induction n with
  | zero => intro l; simp [tx]; decide
  | succ n ih =>
    intro l
    have hp : 1 ≤ 2 ^ n := Nat.one_le_two_pow
    have h1 : (⟨#[105]⟩ : ByteArray).size = 1 := rfl
    rw [Nat.pow_succ]
    match l with
    | [a, b] =>
      have ha := ih a.f0
      have hb := ih b.f0
      rw [tx_two]
      simp only [ByteArray.size_append, show (⟨#[40]⟩ : ByteArray).size = 1 from rfl, show (⟨#[44]⟩ : ByteArray).size = 1 from rfl, show (⟨#[41]⟩ : ByteArray).size = 1 from rfl]
      omega
    | [] => show (⟨#[105]⟩ : ByteArray).size + 3 ≤ _; omega
    | [_] => show (⟨#[105]⟩ : ByteArray).size + 3 ≤ _; omega
    | _ :: _ :: _ :: _ => show (⟨#[105]⟩ : ByteArray).size + 3 ≤ _; omega
def text (l : Ty) : ByteArray := if dp 4 l = true then tx 4 l else ⟨#[]⟩
def teq : Nat → Ty → Ty → Bool
  | _ + 1, [], [] => true
  | n + 1, [a, b], [c, d] => teq n a.f0 c.f0 && teq n b.f0 d.f0
  | _, _, _ => false
theorem teq_eq : ∀ (n : Nat) (a b : Ty), teq n a b = true → a = b := by
  intro n
  induction n with
  | zero => intro a b h; simp [teq] at h
  | succ n ih =>
    intro a b h
    unfold teq at h
    split at h
    · rfl
    · rename_i m x y z u he
      cases he
      rw [Bool.and_eq_true] at h
      have h1 := ih _ _ h.1
      have h2 := ih _ _ h.2
      cases x; cases y; cases z; cases u
      simp_all
    · cases h
theorem teq_refl : ∀ (n : Nat) (a : Ty), dp n a = true → teq n a a = true := by
  intro n
  induction n with
  | zero => intro a h; simp [dp] at h
  | succ n ih =>
    intro a h
    rcases shape a with rfl | ⟨a1, a2, rfl⟩ | ⟨h0, h2⟩
    · rfl
    · rw [dp_two, Bool.and_eq_true] at h
      show (teq n a1.f0 a1.f0 && teq n a2.f0 a2.f0) = true
      rw [ih _ h.1, ih _ h.2]; rfl
    · rw [dp_odd _ _ h0 h2] at h; cases h
theorem toList_app (a b : ByteArray) : (a ++ b).toList = a.toList ++ b.toList := by
  rw [ByteArray.toList_eq, ByteArray.toList_eq, ByteArray.toList_eq]; simp
theorem lit_toList (c : UInt8) : (⟨#[c]⟩ : ByteArray).toList = [c] := by rw [ByteArray.toList_eq]
theorem tx_inj : ∀ (n : Nat) (a b : Ty) (r s : List UInt8), dp n a = true → dp n b = true → (tx n a).toList ++ r = (tx n b).toList ++ s → teq n a b = true ∧ r = s := by
  intro n
  induction n with
  | zero => intro a b r s h; simp [dp] at h
  | succ n ih =>
    intro a b r s ha hb h
    rcases shape a with rfl | ⟨a1, a2, rfl⟩ | ⟨h0, h2⟩
    · rcases shape b with rfl | ⟨b1, b2, rfl⟩ | ⟨h0, h2⟩
      · rw [tx_nil] at h
        exact ⟨rfl, List.append_cancel_left h⟩
      · rw [tx_nil, tx_two] at h
        simp only [toList_app, lit_toList, List.cons_append, List.nil_append, List.append_assoc] at h
        injection h with h1 _
        exact absurd h1 (by decide)
      · rw [dp_odd _ _ h0 h2] at hb; cases hb
    · rcases shape b with rfl | ⟨b1, b2, rfl⟩ | ⟨h0, h2⟩
      · rw [tx_nil, tx_two] at h
        simp only [toList_app, lit_toList, List.cons_append, List.nil_append, List.append_assoc] at h
        injection h with h1 _
        exact absurd h1 (by decide)
      · rw [dp_two, Bool.and_eq_true] at ha hb
        rw [tx_two, tx_two] at h
        simp only [toList_app, lit_toList, List.cons_append, List.nil_append, List.append_assoc] at h
        injection h with _ h
        obtain ⟨e1, h⟩ := ih _ _ _ _ ha.1 hb.1 h
        injection h with _ h
        obtain ⟨e2, h⟩ := ih _ _ _ _ ha.2 hb.2 h
        injection h with _ h
        refine ⟨?_, h⟩
        show (teq n a1.f0 b1.f0 && teq n a2.f0 b2.f0) = true
        rw [e1, e2]; rfl
      · rw [dp_odd _ _ h0 h2] at hb; cases hb
    · rw [dp_odd _ _ h0 h2] at ha; cases ha
theorem text_teq (a b : Ty) (ha : dp 4 a = true) (hb : dp 4 b = true) : ((text a).toList == (text b).toList) = teq 4 a b := by
  unfold text
  rw [if_pos ha, if_pos hb]
  by_cases h : (tx 4 a).toList = (tx 4 b).toList
  · rw [beq_iff_eq.2 h, (tx_inj 4 a b [] [] ha hb (by simpa using h)).1]
  · cases e : teq 4 a b with
    | false => exact beq_eq_false_iff_ne.2 h
    | true => exact absurd (by rw [teq_eq _ _ _ e]) h
theorem tx_pos (n : Nat) (l : Ty) : 0 < (tx n l).size := by
  unfold tx
  split
  · simp only [ByteArray.size_append, show (⟨#[40]⟩ : ByteArray).size = 1 from rfl]; omega
  · decide
theorem dph_mono : ∀ (n : Nat) (l : Ty), Dph n l → Dph (n + 1) l := by
  intro n
  induction n with
  | zero => intro l h; rw [show l = [] from h]; exact dph_nil _
  | succ n ih => intro l h x hx; exact ih _ (h x hx)
theorem dph_le (n m : Nat) (h : n ≤ m) (l : Ty) (hd : Dph n l) : Dph m l := by
  induction m with
  | zero => obtain rfl : n = 0 := by omega
            exact hd
  | succ m ih =>
    by_cases e : n = m + 1
    · subst e; exact hd
    · exact dph_mono _ _ (ih (by omega))
end Go.Proofs.YtihfbpmblppbgaaDoor.Types
end
section
namespace Go.Proofs.YtihfbpmblppbgaaDoor.Paths
open Go.RowKit Go.Proofs.YtihfbpmblppbgaaDoor.PA Go.Proofs.YtihfbpmblppbgaaDoorW.PrintWords Go.Proofs.YtihfbpmblppbgaaDoorW.PrintLast Go.Proofs.YtihfbpmblppbgaaDoor.Draw Go.Proofs.YtihfbpmblppbgaaDoor.Types
def pf : List Int → Ty → Option Ty
  | [], t => some t
  | i :: r, [a, b] => if i = 0 then pf r a.f0 else if i = 1 then pf r b.f0 else none
  | _ :: _, _ => none
theorem pf_nil (t : Ty) : pf [] t = some t := by cases t <;> rfl
theorem pf_two (i : Int) (r : List Int) (a b : S41) : pf (i :: r) [a, b] = if i = 0 then pf r a.f0 else if i = 1 then pf r b.f0 else none := rfl
theorem pf_odd (i : Int) (r : List Int) (t : Ty) (h : t.length ≠ 2) : pf (i :: r) t = none := by
  match t with
  | [] => rfl
  | [_] => rfl
  | [_, _] => simp at h
  | _ :: _ :: _ :: _ => rfl
theorem pf_app (p q : List Int) : ∀ t, pf (p ++ q) t = (pf p t).bind (pf q) := by
  induction p with
  | nil => intro t; rw [List.nil_append, pf_nil]; rfl
  | cons i r ih =>
    intro t
    by_cases h : t.length = 2
    · obtain ⟨a, b, rfl⟩ := two_of h
      rw [List.cons_append, pf_two, pf_two]
      split
      · exact ih _
      · split
        · exact ih _
        · rfl
    · rw [List.cons_append, pf_odd _ _ _ h, pf_odd _ _ _ h]; rfl
theorem dp_succ : ∀ (n : Nat) (t : Ty), dp n t = true → dp (n + 1) t = true := by
  intro n
  induction n with
  | zero => intro t h; simp [dp] at h
  | succ n ih =>
    intro t h
    rcases Types.shape t with rfl | ⟨a, b, rfl⟩ | ⟨h0, h2⟩
    · rfl
    · rw [dp_two, Bool.and_eq_true] at h ⊢
      exact ⟨ih _ h.1, ih _ h.2⟩
    · rw [dp_odd _ _ h0 h2] at h; cases h
theorem dp_pf (n : Nat) : ∀ (p : List Int) (t u : Ty), dp n t = true → pf p t = some u → dp n u = true := by
  intro p
  induction p with
  | nil => intro t u h e; rw [pf_nil] at e; cases e; exact h
  | cons i r ih =>
    intro t u h e
    by_cases h2 : t.length = 2
    · obtain ⟨a, b, rfl⟩ := two_of h2
      cases n with
      | zero => simp [dp] at h
      | succ n =>
        rw [dp_two, Bool.and_eq_true] at h
        rw [pf_two] at e
        split at e
        · exact ih _ _ (dp_succ _ _ h.1) e
        · split at e
          · exact ih _ _ (dp_succ _ _ h.2) e
          · cases e
    · rw [pf_odd _ _ _ h2] at e; cases e
theorem rd_mid (pre r : List Int) (i : Int) : rd (pre ++ i :: r) (pre.length : Int) = i := by
  unfold rd
  rw [Int.toNat_natCast, List.getD_eq_getElem?_getD, List.getElem?_append_right (Nat.le_refl _)]
  simp
def at_ (o : Option Ty) : Ty × Bool := match o with | some u => (u, true) | none => ([], false)
def tat (t : Ty) (p : List Int) : Ty × Bool := if dp 4 t = true then at_ (pf p t) else ([], false)
theorem tat_ok (t : Ty) (p : List Int) : dp 4 (tat t p).1 = true := by
  unfold tat
  split
  · rename_i d
    cases e : pf p t with
    | none => rfl
    | some u => exact dp_pf 4 _ _ _ d e
  · rfl
theorem rdT_dph (d : Nat) (t : Ty) (h : Dph (d + 1) t) (i : Int) : Dph d (rd_T41 t i).f0 := by
  unfold rd_T41
  rw [List.getD_eq_getElem?_getD]
  cases e : t[i.toNat]? with
  | none => exact dph_nil d
  | some x => exact h x (List.mem_of_getElem? e)
end Go.Proofs.YtihfbpmblppbgaaDoor.Paths
end
section
set_option linter.unusedVariables false
namespace Go.Proofs.YtihfbpmblppbgaaDoor.Vals
open Go.RowKit Go.Proofs.YtihfbpmblppbgaaDoor.PA Go.Proofs.YtihfbpmblppbgaaDoorW.PrintWords Go.Proofs.YtihfbpmblppbgaaDoorW.PrintLast Go.Proofs.YtihfbpmblppbgaaDoor.Draw Go.Proofs.YtihfbpmblppbgaaDoor.Types Go.Proofs.YtihfbpmblppbgaaDoor.Paths
abbrev Vl := List S25
theorem rv0 (a : S25) (l : Vl) : rd_T25 (a :: l) 0 = a := rfl
theorem rv1 (a b : S25) (l : Vl) : rd_T25 (a :: b :: l) 1 = b := rfl
theorem shapeV (l : Vl) : l = [] ∨ (∃ a b, l = [a, b]) ∨ (l.length ≠ 0 ∧ l.length ≠ 2) := by
  match l with
  | [] => exact .inl rfl
  | [_] => exact .inr (.inr ⟨by simp, by simp⟩)
  | [a, b] => exact .inr (.inl ⟨a, b, rfl⟩)
  | _ :: _ :: _ :: _ => exact .inr (.inr ⟨by simp, by simp⟩)
def vt : Nat → Int → Vl → Option Ty
  | 0, _, _ => none
  | _ + 1, x, [] => if 0 ≤ x ∧ x ≤ 9999 then some [] else none
  | n + 1, x, [a, b] => if x = 0 then (vt n a.f0 a.f1).bind fun s => (vt n b.f0 b.f1).bind fun t => some [⟨s⟩, ⟨t⟩] else none
  | _ + 1, _, _ => none
theorem vt_nil (n : Nat) (x : Int) : vt (n + 1) x [] = if 0 ≤ x ∧ x ≤ 9999 then some [] else none := rfl
theorem vt_two (n : Nat) (x : Int) (a b : S25) : vt (n + 1) x [a, b] = if x = 0 then (vt n a.f0 a.f1).bind fun s => (vt n b.f0 b.f1).bind fun t => some [⟨s⟩, ⟨t⟩] else none := rfl
theorem vt_odd (n : Nat) (x : Int) (l : Vl) (h0 : l.length ≠ 0) (h2 : l.length ≠ 2) : vt n x l = none := by
  cases n with
  | zero => rfl
  | succ n =>
    match l with
    | [] => simp at h0
    | [_] => rfl
    | [_, _] => simp at h2
    | _ :: _ :: _ :: _ => rfl
theorem vt_cases {n : Nat} {x : Int} {l : Vl} {t : Ty} (h : vt (n + 1) x l = some t) :
    (l = [] ∧ t = [] ∧ 0 ≤ x ∧ x ≤ 9999) ∨ ∃ a b s u, l = [a, b] ∧ x = 0 ∧ t = [⟨s⟩, ⟨u⟩] ∧ vt n a.f0 a.f1 = some s ∧ vt n b.f0 b.f1 = some u := by
  rcases shapeV l with rfl | ⟨a, b, rfl⟩ | ⟨h0, h2⟩
  · rw [vt_nil] at h
    split at h
    · rename_i hx
      cases h
      exact .inl ⟨rfl, rfl, hx.1, hx.2⟩
    · cases h
  · rw [vt_two] at h
    split at h
    · rename_i hx
      cases e1 : vt n a.f0 a.f1 with
      | none => rw [e1] at h; cases h
      | some s =>
        cases e2 : vt n b.f0 b.f1 with
        | none => rw [e1, e2] at h; cases h
        | some u =>
          rw [e1, e2] at h
          cases h
          exact .inr ⟨a, b, s, u, rfl, hx, rfl, e1, e2⟩
    · cases h
  · rw [vt_odd _ _ _ h0 h2] at h; cases h
theorem vt_dp : ∀ (n : Nat) (x : Int) (l : Vl) (t : Ty), vt n x l = some t → dp n t = true := by
  intro n
  induction n with
  | zero => intro x l t h; cases h
  | succ n ih =>
    intro x l t h
    rcases vt_cases h with ⟨_, rfl, _, _⟩ | ⟨a, b, s, u, _, _, rfl, h1, h2⟩
    · rfl
    · rw [dp_two, ih _ _ _ h1, ih _ _ _ h2]; rfl
theorem vt_succ : ∀ (n : Nat) (x : Int) (l : Vl) (t : Ty), vt n x l = some t → vt (n + 1) x l = some t := by
  intro n
  induction n with
  | zero => intro x l t h; cases h
  | succ n ih =>
    intro x l t h
    rcases vt_cases h with ⟨rfl, rfl, h0, h1⟩ | ⟨a, b, s, u, rfl, rfl, rfl, h1, h2⟩
    · rw [vt_nil, if_pos ⟨h0, h1⟩]
    · rw [vt_two, if_pos rfl, ih _ _ _ h1, ih _ _ _ h2]; rfl
theorem valType_ev : ∀ (n : Nat), n ≤ 1000 → ∀ (x : Int) (l : Vl) (k : Nat), 2 * n + 2 ≤ k → impl_valType.f k x l n = some (at_ (vt n x l)) := by
  intro n
  induction n with
  | zero =>
    intro _ x l k hk
    obtain ⟨k, rfl⟩ : ∃ m, k = m + 1 := ⟨k - 1, by omega⟩
    simp only [impl_valType.f]
    rw [if_pos (by omega)]; rfl
  | succ n ih =>
    intro hn x l k hk
    obtain ⟨k, rfl⟩ : ∃ m, k = m + 2 := ⟨k - 2, by omega⟩
    have hp := pred_cast n (by omega)
    simp only [impl_valType.f]
    rw [if_neg (by omega)]
    rcases shapeV l with rfl | ⟨a, b, rfl⟩ | ⟨h0, h2⟩
    · rw [if_pos (by simp), vt_nil]
      by_cases h0 : x ≥ 0
      · rw [if_pos h0]
        by_cases h9 : x ≤ 9999
        · rw [if_pos ⟨h0, h9⟩, decide_eq_true h9]; rfl
        · rw [if_neg (fun h => h9 h.2), decide_eq_false h9]; rfl
      · rw [if_neg h0, if_neg (fun h => h0 h.1)]; rfl
    · rw [if_neg (by simp), if_pos (by simp), vt_two]
      simp only [impl_valType.j0, hp, rv0, rv1]
      by_cases hx : x = 0
      · rw [if_neg (by simp [hx]), if_pos (by simp), if_pos hx, ih (by omega) _ _ _ (by omega)]; simp only [Option.bind_some]
        rw [if_pos (by simp), ih (by omega) _ _ _ (by omega)]; simp only [Option.bind_some]
        cases vt n a.f0 a.f1 with
        | none => rfl
        | some s =>
          cases vt n b.f0 b.f1 with
          | none => rfl
          | some u => rfl
      · rw [if_pos (by simpa using hx), if_neg hx]; rfl
    · rw [if_neg (by omega), if_neg (by omega), vt_odd _ _ _ h0 h2]
      simp only [impl_valType.j0, if_true]; rfl
theorem typed_ev (x : Int) (l : Vl) (k : Nat) (hk : 10 ≤ k) : impl_valTyped.f k x l = some (at_ (vt 4 x l)) := by
  unfold impl_valTyped.f
  rw [show (4 : Int) = ((4 : Nat) : Int) from rfl, valType_ev 4 (by omega) x l k (by omega)]; rfl
def vm (n : Nat) (t : Ty) (x : Int) (l : Vl) : Bool := match vt n x l with | some s => teq n s t | none => false
def vo (t : Ty) (x : Int) (l : Vl) : Bool := dp 4 t && vm 4 t x l
theorem vm_two (n : Nat) (x : Int) (a b : S41) (c d : S25) : vm (n + 1) [a, b] x [c, d] = ((x == 0) && (vm n a.f0 c.f0 c.f1 && vm n b.f0 d.f0 d.f1)) := by
  unfold vm
  rw [vt_two]
  by_cases hx : x = 0
  · rw [if_pos hx, beq_iff_eq.2 hx]
    cases vt n c.f0 c.f1 with
    | none => rfl
    | some s =>
      cases vt n d.f0 d.f1 with
      | none => simp
      | some u => rfl
  · rw [if_neg hx, beq_eq_false_iff_ne.2 hx]; rfl
theorem l1Val_ev : ∀ (n : Nat) (t : Ty) (x : Int) (l : Vl) (k : Nat), dp n t = true → 5 * n ≤ k → spec_l1Val.f k t x l = some (vm n t x l) := by
  intro n
  induction n with
  | zero => intro t x l k h; simp [dp] at h
  | succ n ih =>
    intro t x l k h hk
    obtain ⟨k, rfl⟩ : ∃ m, k = m + 5 := ⟨k - 5, by omega⟩
    simp only [spec_l1Val.f, spec_l6In.f]
    have bad : ∀ m t x l, spec_l1Val.j0 (m + 1) true t x l = some false := fun m t x l => by simp only [spec_l1Val.j0, if_true]
    rcases Types.shape t with rfl | ⟨a, b, rfl⟩ | ⟨h0, h2⟩
    · rcases shapeV l with rfl | ⟨c, d, rfl⟩ | ⟨g0, g2⟩
      · rw [if_pos (by simp), if_neg (by simp)]
        simp only [vm, vt_nil]
        by_cases hx : x ≥ 0
        · rw [if_pos hx]; simp only [Option.bind_some]
          by_cases h9 : x ≤ 9999
          · rw [decide_eq_true h9, if_pos ⟨hx, h9⟩]
            simp only [spec_l1Val.j0, spec_l1Val.l0, Bool.not_true]
            rw [if_neg (by simp), if_neg (by simp)]; rfl
          · rw [decide_eq_false h9, if_neg (fun h => h9 h.2)]
            exact bad _ _ _ _
        · rw [if_neg hx, if_neg (fun h => hx h.1)]; simp only [Option.bind_some]
          exact bad _ _ _ _
      · rw [if_neg (by simp), bad]
        simp only [vm]
        cases e : vt (n + 1) x [c, d] with
        | none => rfl
        | some s =>
          rcases vt_cases e with ⟨h, _⟩ | ⟨_, _, s, u, _, _, rfl, _, _⟩
          · cases h
          · rfl
      · rw [if_neg (by simp; simpa using g0), bad]
        simp only [vm, vt_odd _ _ _ g0 g2]
    · rcases shapeV l with rfl | ⟨c, d, rfl⟩ | ⟨g0, g2⟩
      · rw [if_neg (by simp), bad]
        simp only [vm, vt_nil]
        split
        · rename_i h; split at h
          · cases h; rfl
          · cases h
        · rfl
      · rw [if_pos (by simp), if_pos (by simp), vm_two]
        by_cases hx : x = 0
        · rw [if_pos hx, if_pos (by omega)]; simp only [Option.bind_some]
          rw [decide_eq_true (by omega)]
          rw [dp_two, Bool.and_eq_true] at h
          simp only [spec_l1Val.j0, spec_l1Val.l0, Bool.not_true, w01, w12]
          rw [if_neg (by simp), if_pos (by simp), if_pos (by omega), if_pos (by simp), rd0, rv0, ih _ _ _ _ h.1 (by omega)]; simp only [Option.bind_some]
          rw [beq_iff_eq.2 hx, Bool.true_and]
          cases e1 : vm n a.f0 c.f0 c.f1 with
          | false => rw [if_neg (by simp)]; rfl
          | true =>
            rw [if_pos rfl, if_pos (by simp), if_pos (by omega), if_pos (by simp), rd1, rv1, ih _ _ _ _ h.2 (by omega)]; simp only [Option.bind_some]
            cases e2 : vm n b.f0 d.f0 d.f1 with
            | false => rw [if_neg (by simp)]; rfl
            | true => rw [if_pos rfl, if_neg (by simp)]; rfl
        · rw [if_neg hx, bad, beq_eq_false_iff_ne.2 hx]; rfl
      · rw [if_neg (by simp; omega), bad]
        simp only [vm, vt_odd _ _ _ g0 g2]
    · rw [dp_odd _ _ h0 h2] at h; cases h
theorem specValOk_ev (t : Ty) (x : Int) (l : Vl) (k : Nat) (hk : 23 ≤ k) : spec_ValOk.f k t x l = some (vo t x l) := by
  unfold spec_ValOk.f vo
  rw [specOk_ev t k (by omega)]; simp only [Option.bind_some]
  cases d : dp 4 t with
  | false => rfl
  | true =>
    simp only [if_true, Bool.true_and]
    rw [l1Val_ev 4 t x l k d (by omega)]; rfl
theorem teq_self (t u : Ty) (n : Nat) (ht : dp n t = true) (hu : dp n u = true) : teq n t u = teq n u t := by
  cases e : teq n t u with
  | true => rw [teq_eq _ _ _ e, teq_refl _ _ hu]
  | false =>
    cases e2 : teq n u t with
    | true => rw [teq_eq _ _ _ e2, teq_refl _ _ ht] at e; cases e
    | false => rfl
theorem vo_iff (t : Ty) (x : Int) (l : Vl) : vo t x l = true ↔ vt 4 x l = some t := by
  unfold vo vm
  constructor
  · intro h
    rw [Bool.and_eq_true] at h
    cases e : vt 4 x l with
    | none => rw [e] at h; cases h.2
    | some s => rw [e] at h; rw [teq_eq _ _ _ h.2]
  · intro h
    have d := vt_dp _ _ _ _ h
    rw [h, d]
    exact teq_refl 4 t d
def pv : List Int → Int → Vl → Option (Int × Vl)
  | [], x, l => some (x, l)
  | i :: r, _, [a, b] => if i = 0 then pv r a.f0 a.f1 else if i = 1 then pv r b.f0 b.f1 else none
  | _ :: _, _, _ => none
theorem pv_nil (x : Int) (l : Vl) : pv [] x l = some (x, l) := by cases l <;> rfl
theorem pv_two (i : Int) (r : List Int) (x : Int) (a b : S25) : pv (i :: r) x [a, b] = if i = 0 then pv r a.f0 a.f1 else if i = 1 then pv r b.f0 b.f1 else none := rfl
theorem pv_odd (i : Int) (r : List Int) (x : Int) (l : Vl) (h : l.length ≠ 2) : pv (i :: r) x l = none := by
  match l with
  | [] => rfl
  | [_] => rfl
  | [_, _] => simp at h
  | _ :: _ :: _ :: _ => rfl
theorem pv_app (p q : List Int) : ∀ x l, pv (p ++ q) x l = (pv p x l).bind fun r => pv q r.1 r.2 := by
  induction p with
  | nil => intro x l; rw [List.nil_append, pv_nil]; rfl
  | cons i r ih =>
    intro x l
    by_cases h : l.length = 2
    · rcases shapeV l with rfl | ⟨a, b, rfl⟩ | ⟨_, h2⟩
      · simp at h
      · rw [List.cons_append, pv_two, pv_two]
        split
        · exact ih _ _
        · split
          · exact ih _ _
          · rfl
      · exact absurd h h2
    · rw [List.cons_append, pv_odd _ _ _ _ h, pv_odd _ _ _ _ h]; rfl
theorem vt_pv (n : Nat) : ∀ (p : List Int) (x : Int) (l : Vl) (t : Ty), vt n x l = some t →
    (∀ y m, pv p x l = some (y, m) → ∃ u, pf p t = some u ∧ vt n y m = some u) ∧ (pv p x l = none → pf p t = none) := by
  intro p
  induction p with
  | nil =>
    intro x l t h
    rw [pv_nil]
    exact ⟨fun y m e => by cases e; exact ⟨t, pf_nil t, h⟩, fun e => by cases e⟩
  | cons i r ih =>
    intro x l t h
    cases n with
    | zero => cases h
    | succ n =>
      rcases vt_cases h with ⟨rfl, rfl, _, _⟩ | ⟨a, b, s, u, rfl, rfl, rfl, h1, h2⟩
      · exact ⟨fun y m e => (by cases e), fun _ => rfl⟩
      · rw [pv_two, pf_two]
        by_cases h0 : i = 0
        · rw [if_pos h0, if_pos h0]; exact ih _ _ _ (vt_succ _ _ _ _ h1)
        · rw [if_neg h0, if_neg h0]
          by_cases h3 : i = 1
          · rw [if_pos h3, if_pos h3]; exact ih _ _ _ (vt_succ _ _ _ _ h2)
          · rw [if_neg h3, if_neg h3]; exact ⟨fun y m e => (by cases e), fun _ => rfl⟩
def av (o : Option (Int × Vl)) : Int × Vl × Bool := match o with | some r => (r.1, r.2, true) | none => (0, [], false)
def vat (x : Int) (l : Vl) (p : List Int) : Int × Vl × Bool := if (vt 4 x l).isSome = true then av (pv p x l) else (0, [], false)
theorem type_dp (s : List Int) : ∀ (k d : Nat) (p : Int) (r : Ty) (q : Int), d ≤ 1000 → spec_l71Type.f k s p d = some (r, q) → dp (d + 1) r = true := by
  intro k
  induction k using Nat.strongRecOn with
  | _ k ih =>
    intro d p r q hd h
    match k, ih, h with
    | 0, _, h => simp [spec_l71Type.f] at h
    | 1, _, h =>
      simp only [spec_l71Type.f] at h
      split at h
      · simp [spec_l71Type.j0] at h
      · cases e : spec_l6Rd_pick.f 0 s p 3 with
        | none => rw [e] at h; cases h
        | some c => rw [e] at h; simp [spec_l71Type.j0] at h
    | k + 2, ih, h =>
      simp only [spec_l71Type.f] at h
      split at h
      · simp only [spec_l71Type.j0, if_true] at h
        cases h; rfl
      · rename_i h2
        cases e : spec_l6Rd_pick.f (k + 1) s p 3 with
        | none => rw [e] at h; cases h
        | some c =>
          rw [e] at h
          simp only [Option.bind_some, spec_l71Type.j0] at h
          split at h
          · cases h; rfl
          · obtain ⟨d, rfl⟩ : ∃ m, d = m + 1 := ⟨d - 1, by omega⟩
            have ew : wrap64 (((d + 1 : Nat) : Int) - 1) = (d : Int) := pred_cast d (by omega)
            rw [ew] at h
            cases e1 : spec_l71Type.f k s c.2 d with
            | none => rw [e1] at h; cases h
            | some a =>
              rw [e1] at h
              simp only [Option.bind_some] at h
              cases e2 : spec_l71Type.f k s a.2 d with
              | none => rw [e2] at h; cases h
              | some b =>
                rw [e2] at h
                cases h
                rw [dp_two, ih k (by omega) d _ a.1 a.2 (by omega) e1, ih k (by omega) d _ b.1 b.2 (by omega) e2]; rfl
theorem val_ev (s : List Int) (hs : Bytes s) : ∀ (n : Nat) (t : Ty) (p : Int), dp n t = true → 0 ≤ p → p + 2 ^ n ≤ 1099511000000 →
    ∃ x l q, (∀ k, n + 3 ≤ k → spec_l71Val.f k s p t = some (x, l, q)) ∧ p ≤ q ∧ q ≤ p + 2 ^ n ∧ l.length ≤ 2 := by
  intro n
  induction n with
  | zero => intro t p h; simp [dp] at h
  | succ n ih =>
    intro t p h hp hp1
    have hpow : (2 : Int) ^ (n + 1) = 2 ^ n + 2 ^ n := by rw [Int.pow_succ]; omega
    have hpos : (1 : Int) ≤ 2 ^ n := by have := Int.pow_pos (n := 2) (m := n) (by decide); omega
    rw [hpow] at hp1 ⊢
    generalize (2 : Int) ^ n = e at *
    rcases Types.shape t with rfl | ⟨a, b, rfl⟩ | ⟨h0, h2⟩
    · obtain ⟨c, hc, c0, c1⟩ := pick_ev s hs p 7 hp (by omega) (by omega)
      refine ⟨rd [0, 1, 2, 3, 7, 50, 9999] c, [], p + 1, fun k hk => ?_, by omega, by omega, by simp⟩
      obtain ⟨k, rfl⟩ : ∃ m, k = m + 1 := ⟨k - 1, by omega⟩
      simp only [spec_l71Val.f]
      rw [if_pos (by simp)]; simp only [Option.bind_some]
      rw [hc k (by omega)]; simp only [Option.bind_some]
      rw [if_pos c0, if_pos (by simp; omega)]
    · rw [dp_two, Bool.and_eq_true] at h
      obtain ⟨x1, l1, q1, h1, g1, g2, _⟩ := ih a.f0 p h.1 hp (by omega)
      obtain ⟨x2, l2, q2, h3, g3, g4, _⟩ := ih b.f0 q1 h.2 (by omega) (by omega)
      refine ⟨0, [⟨x1, l1⟩, ⟨x2, l2⟩], q2, fun k hk => ?_, by omega, by omega, by simp⟩
      obtain ⟨k, rfl⟩ : ∃ m, k = m + 1 := ⟨k - 1, by omega⟩
      simp only [spec_l71Val.f]
      rw [if_neg (by simp), if_pos (by simp), rd0, h1 k (by omega)]; simp only [Option.bind_some]
      rw [if_pos (by simp), rd1, h3 k (by omega)]; rfl
    · rw [dp_odd _ _ h0 h2] at h; cases h
theorem badLoop_ev (s : List Int) (p : Int) : ∀ (d i : Nat), i + d = 5 → ∀ (x : Int) (l : Vl), ∃ y m, ∀ k, d + 1 ≤ k → spec_l71Bad.l0 k i s p x l = some (y, m, p) := by
  intro d
  induction d with
  | zero =>
    intro i hi x l
    refine ⟨x, l, fun k hk => ?_⟩
    obtain ⟨k, rfl⟩ : ∃ m, k = m + 1 := ⟨k - 1, by omega⟩
    simp only [spec_l71Bad.l0]
    rw [if_neg (by omega)]
  | succ d ih =>
    intro i hi x l
    obtain ⟨y, m, h⟩ := ih (i + 1) (by omega) 0 [⟨x, l⟩, ⟨0, []⟩]
    refine ⟨y, m, fun k hk => ?_⟩
    obtain ⟨k, rfl⟩ : ∃ m, k = m + 1 := ⟨k - 1, by omega⟩
    simp only [spec_l71Bad.l0]
    rw [if_pos (by omega), w64 (by omega) (by omega)]
    exact h k (by omega)
theorem pow20 (n : Nat) (hn : n ≤ 20) : (2 : Int) ^ n ≤ 1048576 := by
  have h : (2 : Nat) ^ n ≤ 2 ^ 20 := Nat.pow_le_pow_right (by decide) hn
  have e : (2 : Nat) ^ 20 = 1048576 := rfl
  rw [e] at h
  have := Int.ofNat_le.2 h
  rwa [Int.natCast_pow] at this
theorem bad_ev (s : List Int) (hs : Bytes s) (n : Nat) (hn : n ≤ 20) (t : Ty) (d : dp n t = true) (p : Int) (hp : 0 ≤ p) (hp1 : p ≤ 1099500000000) :
    ∃ x l q, (∀ k, n + 12 ≤ k → spec_l71Bad.f k s p t = some (x, l, q)) ∧ p ≤ q ∧ q ≤ p + 1048578 := by
  have hmax := pow20 n hn
  obtain ⟨x, l, q, hv, g1, g2, hl⟩ := val_ev s hs n t p d hp (by omega)
  generalize (2 : Int) ^ n = e at *
  obtain ⟨c, hc, c0, c1⟩ := pick_ev s hs q 12 (by omega) (by omega) (by omega)
  by_cases e0 : c = 0
  · obtain ⟨c', hc', c0', c1'⟩ := pick_ev s hs (q + 1) 4 (by omega) (by omega) (by omega)
    refine ⟨rd [(-1), 1, 9999, 10000] c', l, q + 1 + 1, fun k hk => ?_, by omega, by omega⟩
    unfold spec_l71Bad.f
    rw [hv k (by omega)]; simp only [Option.bind_some]
    rw [hc k (by omega)]; simp only [Option.bind_some]
    rw [if_pos e0, hc' k (by omega)]; simp only [Option.bind_some]
    rw [if_pos c0', if_pos (by simp; omega)]
  · by_cases e1 : c = 1
    · refine ⟨x, l ++ [⟨0, []⟩], q + 1, fun k hk => ?_, by omega, by omega⟩
      unfold spec_l71Bad.f
      rw [hv k (by omega)]; simp only [Option.bind_some]
      rw [hc k (by omega)]; simp only [Option.bind_some]
      rw [if_neg e0, if_pos e1, if_pos (by omega)]
    · by_cases e2 : c = 2
      · obtain ⟨y, m, hm⟩ := badLoop_ev s (q + 1) 5 0 rfl x l
        refine ⟨y, m, q + 1, fun k hk => ?_, by omega, by omega⟩
        unfold spec_l71Bad.f
        rw [hv k (by omega)]; simp only [Option.bind_some]
        rw [hc k (by omega)]; simp only [Option.bind_some]
        rw [if_neg e0, if_neg e1, if_pos e2]
        exact hm k (by omega)
      · refine ⟨x, l, q + 1, fun k hk => ?_, by omega, by omega⟩
        unfold spec_l71Bad.f
        rw [hv k (by omega)]; simp only [Option.bind_some]
        rw [hc k (by omega)]; simp only [Option.bind_some]
        rw [if_neg e0, if_neg e1, if_neg e2]
theorem typeN_ev (s : List Int) (hs : Bytes s) (d : Nat) (hd : d ≤ 20) (p : Int) (hp : 0 ≤ p) (hp1 : p ≤ 1099500000000) :
    ∃ r q, (∀ k, 3 * d + 4 ≤ k → spec_l71Type.f k s p d = some (r, q)) ∧ p ≤ q ∧ q ≤ p + 1048576 ∧ dp (d + 1) r = true := by
  have hmax := pow20 d hd
  obtain ⟨r, q, hr, _, h1, h2, _⟩ := type_ev s hs d (by omega) p hp (by omega)
  exact ⟨r, q, hr, h1, by omega, type_dp s _ d p r q (by omega) (hr (3 * d + 4) (Nat.le_refl _))⟩
end Go.Proofs.YtihfbpmblppbgaaDoor.Vals
end
section
set_option linter.unusedVariables false
set_option linter.unusedSimpArgs false
namespace Go.Proofs.YtihfbpmblppbgaaDoor.Ats
open Go.RowKit Go.Proofs.YtihfbpmblppbgaaDoor.PA Go.Proofs.YtihfbpmblppbgaaDoorW.PrintWords Go.Proofs.YtihfbpmblppbgaaDoorW.PrintLast Go.Proofs.YtihfbpmblppbgaaDoor.Draw Go.Proofs.YtihfbpmblppbgaaDoor.Types Go.Proofs.YtihfbpmblppbgaaDoor.Paths Go.Proofs.YtihfbpmblppbgaaDoor.Vals
def st : Nat → Vl → Option Ty
  | 0, _ => none
  | _ + 1, [] => some []
  | n + 1, [a, b] => (st n a.f1).bind fun s => (st n b.f1).bind fun t => some [⟨s⟩, ⟨t⟩]
  | _ + 1, _ => none
theorem st_nil (n : Nat) : st (n + 1) [] = some [] := rfl
theorem st_two (n : Nat) (a b : S25) : st (n + 1) [a, b] = (st n a.f1).bind fun s => (st n b.f1).bind fun t => some [⟨s⟩, ⟨t⟩] := rfl
theorem st_odd (n : Nat) (l : Vl) (h0 : l.length ≠ 0) (h2 : l.length ≠ 2) : st n l = none := by
  cases n with
  | zero => rfl
  | succ n =>
    match l with
    | [] => simp at h0
    | [_] => rfl
    | [_, _] => simp at h2
    | _ :: _ :: _ :: _ => rfl
theorem st_vt : ∀ (n : Nat) (x : Int) (l : Vl) (t : Ty), vt n x l = some t → st n l = some t := by
  intro n
  induction n with
  | zero => intro x l t h; cases h
  | succ n ih =>
    intro x l t h
    rcases vt_cases h with ⟨rfl, rfl, _, _⟩ | ⟨a, b, s, u, rfl, rfl, rfl, h1, h2⟩
    · rfl
    · rw [st_two, ih _ _ _ h1, ih _ _ _ h2]; rfl
theorem of_ev : ∀ (n : Nat), n ≤ 1000 → ∀ (x : Int) (l : Vl) (k : Nat), 5 * n + 3 ≤ k →
    (∀ t, st n l = some t → spec_l1Of.f k x l n = some (t, true)) ∧ (st n l = none → ∃ t, spec_l1Of.f k x l n = some (t, false)) := by
  intro n
  induction n with
  | zero =>
    intro _ x l k hk
    obtain ⟨k, rfl⟩ : ∃ m, k = m + 2 := ⟨k - 2, by omega⟩
    refine ⟨fun t h => (by cases h), fun _ => ⟨[], ?_⟩⟩
    simp only [spec_l1Of.f]
    rw [if_pos (by omega)]
    simp only [spec_l1Of.j0, if_true]
  | succ n ih =>
    intro hn x l k hk
    obtain ⟨k, rfl⟩ : ∃ m, k = m + 5 := ⟨k - 5, by omega⟩
    have hp := pred_cast n (by omega)
    simp only [spec_l1Of.f]
    rw [if_neg (by omega)]
    rcases shapeV l with rfl | ⟨a, b, rfl⟩ | ⟨h0, h2⟩
    · rw [if_pos (by simp)]
      refine ⟨fun t h => ?_, fun h => (by cases h)⟩
      cases h
      simp only [spec_l1Of.j0, spec_l1Of.l0]
      rw [if_neg (by simp), if_neg (by simp)]
    · rw [if_neg (by simp), show ((([a, b] : Vl).length : Int) != 2) = false from by simp]
      simp only [spec_l1Of.j0, spec_l1Of.l0, hp, w01, w12]
      rw [if_neg (by simp), if_pos (by simp), if_pos (by omega), rv0, st_two]
      have i1 := ih (by omega) a.f0 a.f1 (k + 2) (by omega)
      cases e1 : st n a.f1 with
      | none =>
        obtain ⟨t, h1⟩ := i1.2 e1
        rw [h1]; simp only [Option.bind_some]
        exact ⟨fun t h => (by cases h), fun _ => ⟨[], by rw [if_neg (by simp)]⟩⟩
      | some s =>
        rw [i1.1 s e1]; simp only [Option.bind_some, if_true]
        rw [if_pos (by simp), if_pos (by simp), if_pos (by omega), rv1]
        have i2 := ih (by omega) b.f0 b.f1 (k + 1) (by omega)
        cases e2 : st n b.f1 with
        | none =>
          obtain ⟨t, h1⟩ := i2.2 e2
          rw [h1]; simp only [Option.bind_some]
          exact ⟨fun t h => (by cases h), fun _ => ⟨_, by rw [if_neg (by simp)]⟩⟩
        | some u =>
          rw [i2.1 u e2]; simp only [Option.bind_some, if_true]
          rw [if_pos (by simp), if_neg (by simp)]
          exact ⟨fun t h => (by cases h; rfl), fun h => (by cases h)⟩
    · rw [if_neg (by omega), show ((l.length : Int) != 2) = true from by simp; omega]
      refine ⟨fun t h => (by rw [st_odd _ _ h0 h2] at h; cases h), fun _ => ⟨[], ?_⟩⟩
      simp only [spec_l1Of.j0, if_true]
theorem any_ok (x : Int) (l : Vl) (k : Nat) (hk : 25 ≤ k) : spec_l1Any.f k x l = some (vt 4 x l).isSome := by
  unfold spec_l1Any.f
  rw [show (4 : Int) = ((4 : Nat) : Int) from rfl]
  have h := of_ev 4 (by omega) x l k (by omega)
  cases e : st 4 l with
  | none =>
    obtain ⟨t, h1⟩ := h.2 e
    rw [h1]; simp only [Option.bind_some]
    rw [if_neg (by simp)]
    cases e2 : vt 4 x l with
    | none => rfl
    | some t => rw [st_vt _ _ _ _ e2] at e; cases e
  | some t =>
    rw [h.1 t e]; simp only [Option.bind_some, if_true]
    rw [specValOk_ev t x l k (by omega)]; simp only [Option.bind_some]
    cases e2 : vt 4 x l with
    | none =>
      cases e3 : vo t x l with
      | false => rfl
      | true => rw [(vo_iff t x l).1 e3] at e2; cases e2
    | some u =>
      have := st_vt _ _ _ _ e2
      rw [e] at this
      cases this
      rw [(vo_iff t x l).2 e2]; rfl
theorem vat_vt (x : Int) (l : Vl) (p : List Int) : ∃ t, vt 4 (vat x l p).1 (vat x l p).2.1 = some t := by
  unfold vat
  cases e : vt 4 x l with
  | none => exact ⟨[], rfl⟩
  | some t =>
    simp only [Option.isSome_some, if_true]
    cases e2 : pv p x l with
    | none => exact ⟨[], rfl⟩
    | some r =>
      obtain ⟨u, _, hu⟩ := (vt_pv 4 p x l t e).1 r.1 r.2 e2
      exact ⟨u, hu⟩
end Go.Proofs.YtihfbpmblppbgaaDoor.Ats
end
section
set_option linter.unusedVariables false
set_option linter.unusedSimpArgs false
namespace Go.Proofs.YtihfbpmblppbgaaDoor.Texts
open Go.RowKit Go.Proofs.YtihfbpmblppbgaaDoor.PA Go.Proofs.YtihfbpmblppbgaaDoorW.PrintWords Go.Proofs.YtihfbpmblppbgaaDoorW.PrintLast Go.Proofs.YtihfbpmblppbgaaDoor.Draw Go.Proofs.YtihfbpmblppbgaaDoor.Types Go.Proofs.YtihfbpmblppbgaaDoor.Paths Go.Proofs.YtihfbpmblppbgaaDoor.Vals Go.Proofs.YtihfbpmblppbgaaDoor.Ats
def dg (x : Int) : ByteArray := ⟨(Lib.itoa x).toArray⟩
theorem dg_nat (n : Nat) : dg n = ⟨(Lib.decDigits n).toArray⟩ := by
  unfold dg Lib.itoa
  rw [if_neg (by omega), show ((n : Int)).toNat = n by omega]
theorem dg_one (n : Nat) (h : n < 10) : dg n = ⟨#[UInt8.ofNat (48 + n)]⟩ := by
  rw [dg_nat, Lib.decDigits, dif_pos h]
theorem dg_more (n : Nat) (h : ¬ n < 10) : dg n = dg ((n / 10 : Nat) : Int) ++ ⟨#[UInt8.ofNat (48 + n % 10)]⟩ := by
  rw [dg_nat, dg_nat, Lib.decDigits, dif_neg h]
  apply ByteArray.ext
  rw [ByteArray.data_append]
  simp
theorem dg_size : ∀ (m n : Nat), n < 10 ^ (m + 1) → (dg n).size ≤ m + 1 ∧ 1 ≤ (dg n).size := by
  intro m
  induction m with
  | zero => intro n h; rw [dg_one n (by omega)]; exact ⟨Nat.le_refl _, Nat.le_refl _⟩
  | succ m ih =>
    intro n h
    by_cases c : n < 10
    · rw [dg_one n c]; exact ⟨by show 1 ≤ m + 1 + 1; omega, Nat.le_refl _⟩
    · rw [dg_more n c, ByteArray.size_append]
      have hp : 10 ^ (m + 1 + 1) = 10 * 10 ^ (m + 1) := by rw [Nat.pow_succ]; omega
      have := ih (n / 10) (by rw [hp] at h; omega)
      have e : (⟨#[UInt8.ofNat (48 + n % 10)]⟩ : ByteArray).size = 1 := rfl
      omega
theorem nums_one (n : Nat) (h : n < 10) : strOfNums [wrap64 (48 + (n : Int)) % 256] = ⟨#[UInt8.ofNat (48 + n)]⟩ := by
  rw [w64 (by omega) (by omega), show (48 + (n : Int)) % 256 = ((48 + n : Nat) : Int) by omega]
  simp only [strOfNums, List.map_cons, List.map_nil, Int.toNat_natCast]
theorem dec_ev : ∀ (m n k : Nat), n < 10 ^ (m + 1) → m ≤ 10 → m + 1 ≤ k → spec_l6Dec.f k n = some (dg n) := by
  intro m
  induction m with
  | zero =>
    intro n k h hm hk
    obtain ⟨k, rfl⟩ : ∃ m, k = m + 1 := ⟨k - 1, by omega⟩
    simp only [spec_l6Dec.f]
    rw [if_neg (by omega), if_neg (by omega), if_pos (by omega), nums_one n (by omega), dg_one n (by omega)]
  | succ m ih =>
    intro n k h hm hk
    obtain ⟨k, rfl⟩ : ∃ m, k = m + 1 := ⟨k - 1, by omega⟩
    simp only [spec_l6Dec.f]
    rw [if_neg (by omega), if_neg (by omega)]
    by_cases c : n < 10
    · rw [if_pos (by omega), nums_one n c, dg_one n c]
    · have hp : 10 ^ (m + 1 + 1) = 10 * 10 ^ (m + 1) := by rw [Nat.pow_succ]; omega
      have hb : 10 ^ (m + 1 + 1) ≤ 10 ^ 12 := Nat.pow_le_pow_right (by omega) (by omega)
      have e1 : Int.tdiv (n : Int) 10 = ((n / 10 : Nat) : Int) := by rw [Int.tdiv_eq_ediv_of_nonneg (by omega)]; omega
      have e2 : Int.tmod (n : Int) 10 = ((n % 10 : Nat) : Int) := by rw [Int.tmod_eq_emod_of_nonneg (by omega)]; omega
      have hs := dg_size m (n / 10) (by rw [hp] at h; omega)
      rw [if_neg (by omega), e1, e2, w64 (x := ((n / 10 : Nat) : Int)) (by omega) (by omega), ih (n / 10) k (by rw [hp] at h; omega) (by omega) (by omega)]
      simp only [Option.bind_some]
      rw [nums_one (n % 10) (by omega), if_pos (by have e : (⟨#[UInt8.ofNat (48 + n % 10)]⟩ : ByteArray).size = 1 := rfl
                                                   rw [e]; omega), dg_more n c]
def vx : Nat → Int → Vl → ByteArray
  | n + 1, _, [a, b] => ((((⟨#[40]⟩ : ByteArray) ++ vx n a.f0 a.f1) ++ (⟨#[44]⟩ : ByteArray)) ++ vx n b.f0 b.f1) ++ (⟨#[41]⟩ : ByteArray)
  | _, x, _ => dg x
theorem vx_two (n : Nat) (x : Int) (a b : S25) : vx (n + 1) x [a, b] = ((((⟨#[40]⟩ : ByteArray) ++ vx n a.f0 a.f1) ++ (⟨#[44]⟩ : ByteArray)) ++ vx n b.f0 b.f1) ++ (⟨#[41]⟩ : ByteArray) := rfl
theorem vx_nil (n : Nat) (x : Int) : vx n x [] = dg x := by cases n <;> rfl
theorem num_size (x : Int) (h0 : 0 ≤ x) (h1 : x ≤ 9999) : (dg x).size ≤ 4 ∧ 1 ≤ (dg x).size := by
  obtain ⟨n, rfl⟩ := Int.eq_ofNat_of_zero_le h0
  exact dg_size 3 n (by omega)
theorem vx_size : ∀ (n : Nat) (x : Int) (l : Vl) (t : Ty), vt n x l = some t → (vx n x l).size + 3 ≤ 8 * 2 ^ n ∧ 1 ≤ (vx n x l).size := by
  intro n
  induction n with
  | zero => intro x l t h; cases h
  | succ n ih =>
    intro x l t h
    have hp : 2 ^ (n + 1) = 2 * 2 ^ n := by rw [Nat.pow_succ]; omega
    have h1p : 1 ≤ 2 ^ n := Nat.one_le_two_pow
    rcases vt_cases h with ⟨rfl, rfl, h0, h1⟩ | ⟨a, b, s, u, rfl, rfl, rfl, h1, h2⟩
    · rw [vx_nil]
      have := num_size x h0 h1
      omega
    · have g1 := ih _ _ _ h1
      have g2 := ih _ _ _ h2
      rw [vx_two]
      simp only [ByteArray.size_append]
      have e1 : (⟨#[40]⟩ : ByteArray).size = 1 := rfl
      have e2 : (⟨#[44]⟩ : ByteArray).size = 1 := rfl
      have e3 : (⟨#[41]⟩ : ByteArray).size = 1 := rfl
      rw [e1, e2, e3]
      omega
theorem vx_succ : ∀ (n : Nat) (x : Int) (l : Vl) (t : Ty), vt n x l = some t → vx (n + 1) x l = vx n x l := by
  intro n
  induction n with
  | zero => intro x l t h; cases h
  | succ n ih =>
    intro x l t h
    rcases vt_cases h with ⟨rfl, rfl, h0, h1⟩ | ⟨a, b, s, u, rfl, rfl, rfl, h1, h2⟩
    · rw [vx_nil, vx_nil]
    · rw [vx_two, vx_two, ih _ _ _ h1, ih _ _ _ h2]
theorem words_ev : ∀ (n : Nat), n ≤ 20 → ∀ (x : Int) (l : Vl) (t : Ty) (k : Nat), vt n x l = some t → n + 1 ≤ k → impl_valWords.f k x l = some (vx n x l) := by
  intro n
  induction n with
  | zero => intro _ x l t k h; cases h
  | succ n ih =>
    intro hn x l t k h hk
    obtain ⟨k, rfl⟩ : ∃ m, k = m + 1 := ⟨k - 1, by omega⟩
    simp only [impl_valWords.f]
    have h' := h
    rcases vt_cases h with ⟨rfl, rfl, h0, h1⟩ | ⟨a, b, s, u, rfl, rfl, rfl, h1, h2⟩
    · rw [if_pos (by simp)]
      unfold strconv_Itoa_25.f
      rw [if_pos ⟨by omega, by omega⟩, vx_nil]; rfl
    · have hb : (2 : Nat) ^ n ≤ 2 ^ 20 := Nat.pow_le_pow_right (by omega) (by omega)
      have g1 := vx_size _ _ _ _ h1
      have g2 := vx_size _ _ _ _ h2
      rw [if_neg (by simp), if_pos (by simp), rv0, ih (by omega) _ _ _ _ h1 (by omega)]; simp only [Option.bind_some]
      rw [if_pos (by omega), if_pos (by omega), if_pos (by simp), rv1, ih (by omega) _ _ _ _ h2 (by omega)]; simp only [Option.bind_some]
      rw [if_pos (by omega), if_pos (by omega), vx_two]
theorem show_ev : ∀ (n : Nat), n ≤ 20 → ∀ (x : Int) (l : Vl) (t : Ty) (k : Nat), vt n x l = some t → n + 6 ≤ k → spec_l1Show.f k x l = some (vx n x l) := by
  intro n
  induction n with
  | zero => intro _ x l t k h; cases h
  | succ n ih =>
    intro hn x l t k h hk
    obtain ⟨k, rfl⟩ : ∃ m, k = m + 1 := ⟨k - 1, by omega⟩
    simp only [spec_l1Show.f]
    rcases vt_cases h with ⟨rfl, rfl, h0, h1⟩ | ⟨a, b, s, u, rfl, rfl, rfl, h1, h2⟩
    · rw [if_pos (by simp)]
      obtain ⟨m, rfl⟩ := Int.eq_ofNat_of_zero_le h0
      rw [dec_ev 3 m k (by omega) (by omega) (by omega), vx_nil]; rfl
    · have hb : (2 : Nat) ^ n ≤ 2 ^ 20 := Nat.pow_le_pow_right (by omega) (by omega)
      have g1 := vx_size _ _ _ _ h1
      have g2 := vx_size _ _ _ _ h2
      rw [if_neg (by simp), if_pos (by simp), rv0, ih (by omega) _ _ _ _ h1 (by omega)]; simp only [Option.bind_some]
      rw [if_pos (by omega), if_pos (by omega), if_pos (by simp), rv1, ih (by omega) _ _ _ _ h2 (by omega)]; simp only [Option.bind_some]
      rw [if_pos (by omega), if_pos (by omega), vx_two]
def vtext (x : Int) (l : Vl) : ByteArray := if (vt 4 x l).isSome = true then vx 4 x l else ⟨#[]⟩
theorem implText_ev (x : Int) (l : Vl) (k : Nat) (hk : 20 ≤ k) : impl_ValText.f k x l = some (vtext x l) := by
  unfold impl_ValText.f vtext
  rw [typed_ev x l k (by omega)]; simp only [Option.bind_some]
  cases e : vt 4 x l with
  | none => rfl
  | some t =>
    simp only [at_, if_true, Option.isSome_some]
    rw [words_ev 4 (by omega) x l t k e (by omega)]; rfl
theorem specText_ev (x : Int) (l : Vl) (k : Nat) (hk : 40 ≤ k) : spec_ValText.f k x l = some (vtext x l) := by
  unfold spec_ValText.f vtext
  rw [any_ok x l k (by omega)]; simp only [Option.bind_some]
  cases e : vt 4 x l with
  | none => rfl
  | some t =>
    simp only [if_true, Option.isSome_some]
    rw [show_ev 4 (by omega) x l t k e (by omega)]; rfl
theorem vtext_some {x : Int} {l : Vl} {t : Ty} (h : vt 4 x l = some t) : vtext x l = vx 4 x l := by
  unfold vtext; rw [h]; rfl
theorem vtext_none {x : Int} {l : Vl} (h : vt 4 x l = none) : vtext x l = ⟨#[]⟩ := by
  unfold vtext; rw [h]; rfl
theorem nil_list : (⟨#[]⟩ : ByteArray).toList = [] := by rw [ByteArray.toList_eq]
theorem vtext_empty (x : Int) (l : Vl) : ((vtext x l).toList = [] ↔ vt 4 x l = none) := by
  constructor
  · intro h
    cases e : vt 4 x l with
    | none => rfl
    | some t =>
      rw [vtext_some e] at h
      have := (vx_size 4 x l t e).2
      rw [ByteArray.toList_eq] at h
      have h2 : (vx 4 x l).size = 0 := by
        show (vx 4 x l).data.size = 0
        rw [← Array.length_toList, h]; rfl
      omega
  · intro h; rw [vtext_none h]; exact nil_list
theorem drawText_ev (l : List Int) (h : ∀ x ∈ l, (Lit.int .u8 x).wf = true) : ∃ x v, ∀ k, 60 ≤ k → spec_DrawValText.f k l = some (x, v) := by
  obtain ⟨s, ho, hs⟩ := open_ev l h
  obtain ⟨c, hc, c0, c1⟩ := pick_ev s hs 0 4 (by omega) (by omega) (by omega)
  obtain ⟨cn, rfl⟩ := Int.eq_ofNat_of_zero_le c0
  have ew : wrap64 (1 + (cn : Int)) = ((1 + cn : Nat) : Int) := by rw [w64 (by omega) (by omega)]; omega
  obtain ⟨t, q1, ht, g1, g2, d1⟩ := typeN_ev s hs (1 + cn) (by omega) (0 + 1) (by omega) (by omega)
  obtain ⟨x, v, q2, hx, g3, g4⟩ := bad_ev s hs (1 + cn + 1) (by omega) t d1 q1 (by omega) (by omega)
  refine ⟨x, v, fun k hk => ?_⟩
  unfold spec_DrawValText.f
  rw [ho]; simp only [Option.bind_some]
  rw [hc k (by omega)]; simp only [Option.bind_some]
  rw [ew, ht k (by omega)]; simp only [Option.bind_some]
  rw [hx k (by omega)]; rfl
end Go.Proofs.YtihfbpmblppbgaaDoor.Texts
end
section
set_option linter.unusedSimpArgs false
set_option linter.unusedVariables false
namespace Go.Proofs.YtihfbpmblppbgaaDoor.Pure
open Go.RowKit Go.Proofs.YtihfbpmblppbgaaDoor.PA Go.Proofs.YtihfbpmblppbgaaDoorW.PrintWords Go.Proofs.YtihfbpmblppbgaaDoorW.PrintLast Go.Proofs.YtihfbpmblppbgaaDoor.Draw Go.Proofs.YtihfbpmblppbgaaDoor.Types Go.Proofs.YtihfbpmblppbgaaDoor.Paths Go.Proofs.YtihfbpmblppbgaaDoor.Vals Go.Proofs.YtihfbpmblppbgaaDoor.Ats Go.Proofs.YtihfbpmblppbgaaDoor.Texts
theorem pair_text (x : Int) (l : Vl) (h : (vtext 0 [⟨x, l⟩, ⟨6, []⟩]).toList ≠ []) : (vtext 0 [⟨x, l⟩, ⟨6, []⟩]) = ((⟨#[40]⟩ : ByteArray) ++ vtext x l) ++ (⟨#[44, 54, 41]⟩ : ByteArray) ∧ (vtext x l).size ≤ 1000 := by
  cases e : vt 4 0 [(⟨x, l⟩ : S25), ⟨6, []⟩] with
  | none => exact absurd ((vtext_empty _ _).2 e) h
  | some t =>
    rw [vtext_some e]
    rw [vt_two, if_pos rfl] at e
    cases e1 : vt 3 x l with
    | none => simp [e1] at e
    | some s =>
      have e2 := vt_succ _ _ _ _ e1
      have hs := vx_size _ _ _ _ e2
      rw [vtext_some e2, vx_succ _ _ _ _ e1, vx_two, vx_nil]
      refine ⟨?_, by rw [← vx_succ _ _ _ _ e1]; omega⟩
      have h6 : dg 6 = ⟨#[54]⟩ := by
        have := dg_one 6 (by omega)
        simpa using this
      rw [h6]
      apply ByteArray.ext
      apply Array.toList_inj.1
      simp [ByteArray.data_append]
theorem FnValTextPair : laws_FnValTextPair.Pure := by
  intro l0 _ _ h0
  obtain ⟨x, v, ht⟩ := drawText_ev l0 h0
  refine ⟨1000, ?_⟩
  unfold laws_FnValTextPair.f
  split
  · rfl
  · rw [ht 1000 (by omega)]; simp only [Option.bind_some]
    rw [implText_ev x v 1000 (by omega)]; simp only [Option.bind_some]
    rw [specText_ev x v 1000 (by omega)]; simp only [Option.bind_some]
    rw [if_pos trivial]
    by_cases c : (vtext x v).toList = []
    · rw [show ((vtext x v).toList == ([] : List UInt8)) = true from beq_iff_eq.2 c]
      simp only [laws_FnValTextPair.j0, if_true]
      rw [specText_ev x v 999 (by omega)]; simp
    · rw [show ((vtext x v).toList == ([] : List UInt8)) = false from beq_eq_false_iff_ne.2 c]
      simp only [laws_FnValTextPair.j0]
      rw [if_neg (by simp)]; simp only [Option.bind_some]
      rw [implText_ev _ _ 999 (by omega)]; simp only [Option.bind_some]
      rw [specText_ev _ _ 999 (by omega)]; simp only [Option.bind_some]
      rw [if_pos trivial]
      by_cases c2 : (vtext 0 [(⟨x, v⟩ : S25), ⟨6, []⟩]).toList = []
      · rw [if_pos c2]
      · rw [if_neg c2]
        obtain ⟨e, hs⟩ := pair_text x v c2
        rw [if_pos (by omega), if_pos (by omega), e]; simp
end Go.Proofs.YtihfbpmblppbgaaDoor.Pure
end
section
namespace Go.Proofs.YtihfbpmblppbgaaDoorW.PrintWords
open Go.ChangeShapes Go.WideShapes
theorem sized_ints {H : Type} {enc : TypeId × Value → H} {P : Program} {W : World} {base : Nat} {spare : Nat → Bool} {held : Bool} {t e : TypeId} {k : IntKind} {a : Option Addr} {len cap : Nat} {d : DataW H} {ps : List MemPlace} {ts : List TypeId} {ds : List (DataW H)} {j : Nat}
    (hsz : (DataW.weightsEach P ts ds).all (· ≤ reachBytes) = true) (ht : ts[j]? = some t) (hd : ds[j]? = some d) (hu : P.underlying t = some (.slice e)) (he : P.underlying e = some (.int k)) (hc : P.cellsOf e = 1) {B : Nat} (hB : P.bytesOf e = B)
    (h : DataW.Trod enc P W base spare held t (.slice a len cap) d ps) : len * B ≤ 140737488351232 := by
  obtain ⟨fuel, hf⟩ := h
  rcases open_ints hu he hc hf with ⟨hcs, _⟩ | ⟨x, l, c, zs, hcs, _, hl, _, hz, hx, _, _⟩
  · simp [Value.cells] at hcs
    obtain ⟨rfl, rfl, rfl⟩ := hcs
    simp
  · simp [Value.cells] at hcs
    obtain ⟨rfl, rfl, rfl⟩ := hcs
    obtain ⟨hx, _⟩ := Prod.mk.inj hx
    subst hx
    have z := sized_slice hsz ht hd hu
    rw [hB] at z
    have hl2 : len ≤ zs.length := by
      rw [hz]
      split
      · exact hl
      · exact Nat.le_refl _
    have h1 : (lits (H := H) k (zs.take len)).length + (lits (H := H) k (zs.drop len)).length = zs.length := by
      simp [lits]
      omega
    rw [h1] at z
    exact Nat.le_trans (Nat.mul_le_mul_right _ hl2) z
end Go.Proofs.YtihfbpmblppbgaaDoorW.PrintWords
end
section
namespace Go.Proofs.YtihfbpmblppbgaaDoor.fnValTextPair
open Go.ChangeShapes Go.WideShapes Go.ChangeAt Go.RowKit
open Go.ChangeMaps (open_string shut_string)
set_option linter.unusedVariables false
theorem own : ownKnob Tryd.prog.godebug = none := by kernel_rfl
theorem laidOut : laidOutB Tryd.prog = true := by kernel_rfl
def IsRow (k : IntKind) (w : World) (a : Option Addr) (len cap : Nat) (zs : List Int) : Prop :=
  (a = none ∧ len = 0 ∧ cap = 0 ∧ zs = []) ∨
  ∃ x, a = some x ∧ len ≤ cap ∧ cap ≤ maxLen ∧ zs.length = cap ∧ (∀ i, i < zs.length → w.cell? (x.add i) = some (.int k (zs.getD i 0))) ∧ ∀ n ∈ zs, (Lit.int k n).wf = true
theorem door_met (os : Os) (args : Array Value) : laidMetH Tryd.prog Rows.fnValTextPairRow.laid ((World.doorLaid Tryd.prog 400 os).forCall (fun _ _ => 0) ⟨#[], args, []⟩).memory :=
  laidMetH_of_parts3 (fuel := 8) (laidMet_of_run' 8 (by kernel_rfl) (by kernel_rfl)) (by kernel_rfl) (by kernel_rfl)
theorem hG_of {W : World} (h : laidMetH Tryd.prog Rows.fnValTextPairRow.laid W) : PA.HfG W := by
  rw [MakeChecks.laidMetH_plain _ _ _ (by kernel_rfl)] at h
  have h1 : laidMet Tryd.prog (("internal/strconv.uint64pow10", Lib.tabData .u64 Lib.pow10Tab) :: []) W := laidMet.tail (laidMet.tail (h))
  exact Lib.tabIs_of_head (g := 0) (t := 67) (e := 61) (n := 20) (by kernel_rfl) (by kernel_rfl) (by kernel_rfl) (by kernel_rfl) (by kernel_rfl) (by kernel_rfl) h1
set_option maxRecDepth 100000 in
theorem lifted (os : Os) (started : os.Started) (H : Type) (enc : TypeId × Value → H) :
    ReturnsInHanded {} Tryd.checked os 4 .any (fun w args => (Rows.fnValTextPairSpec.pre enc Tryd.prog Tryd.f4 [] false w args ∧ laidMetH Tryd.prog Rows.fnValTextPairRow.laid w) ∧ sizedMet enc Tryd.prog Tryd.f4 (OpenSpec.ofChange Rows.fnValTextPairSpec) false w args) (Rows.fnValTextPairSpec.post enc Tryd.prog Tryd.f4 false true false false) := by
  refine returnsInHanded_of_change_and (C := Tryd.checked) (X := fun w _ => laidMetH Tryd.prog Rows.fnValTextPairRow.laid w) (fun _ _ _ hh h => h.of_heap hh) own started (by kernel_rfl) Tryd.func4
    (ChangeSpec.witness_shaped (enc := enc) (C := Tryd.checked) (os := os) (X := fun w _ => laidMetH Tryd.prog Rows.fnValTextPairRow.laid w) false (World.doorLaid Tryd.prog 400 os) #[.slice none 0 0] 8 rfl (World.shaped_of_RefB (by kernel_rfl) (by kernel_rfl)) (by kernel_rfl) (by kernel_rfl) (by kernel_rfl) (door_met os _)) ?_
  intro W base args ds gs before hval0 hW hcnd hsz0 hL _
  have hsz : (DataW.weightsEach Tryd.prog (Tryd.f4.params.toList ++ Rows.fnValTextPairSpec.plain.varTypes Tryd.prog) (ds ++ gs)).all (· ≤ reachBytes) = true := hsz0
  have hval : ∀ (j : Nat) t v, Tryd.f4.params[j]? = some t → args[j]? = some v → Value.okWide Tryd.prog W .any base t v := hval0
  have hW' := hW
  obtain ⟨p, q, hA0, hV, rfl, hfz, hnd⟩ := hW
  have hA : DataW.TrodAll enc Tryd.prog W 0 (fun _ => true) true Tryd.f4.params.toList args.toList ds p := hA0
  rw [Tryd.params4] at hA hval hsz
  obtain ⟨v0, vs0, d0, ds0, p0, q0, hargs, rfl, rfl, h0, r0⟩ := trodAll_cons hA
  obtain ⟨rfl, rfl, rfl⟩ := trodAll_nil r0
  obtain rfl : args = #[v0] := by cases args; simp_all
  obtain ⟨rfl, rfl⟩ := trodVars_none hV
  obtain ⟨a0, len0, cap0, rfl⟩ := okWide_slice Tryd.underlying22 (hval 0 22 v0 rfl rfl)
  have k0 := h0
  have lt0 : ∀ x ∈ p0, x.block < W.heap.size := by obtain ⟨m, hm⟩ := k0; exact DataW.trod_lt m _ _ _ hm
  obtain ⟨z0, w0⟩ : ∃ zs, IsRow .u8 W a0 len0 cap0 zs := by
    obtain ⟨fuel, hf⟩ := h0
    rcases open_ints Tryd.underlying22 Tryd.underlying5 (by kernel_rfl) hf with ⟨hcs, _⟩ | ⟨x, l, c, zs, hcs, _, hl, hm, hz, _, hcell, hwz⟩
    · simp [Value.cells] at hcs
      obtain ⟨rfl, rfl, rfl⟩ := hcs
      exact ⟨[], .inl ⟨rfl, rfl, rfl, rfl⟩⟩
    · simp [Value.cells] at hcs
      obtain ⟨rfl, rfl, rfl⟩ := hcs
      exact ⟨zs, .inr ⟨_, rfl, hl, hm, by simpa using hz, hcell, hwz⟩⟩
  have y0 : len0 * 1 ≤ 140737488351232 := Go.Proofs.YtihfbpmblppbgaaDoorW.PrintWords.sized_ints hsz (j := 0) (t := 22) rfl rfl Tryd.underlying22 Tryd.underlying5 (by kernel_rfl) (by kernel_rfl) h0
  clear hA0 hval0 hsz0 hsz
  refine (PA.laws_FnValTextPair.walk Pure.FnValTextPair a0 len0 cap0 z0 W (hG_of hL) w0 y0).mono fun e W' ⟨he, bel⟩ => ?_
  subst he
  exact ⟨_, rfl, _, _, _, [], _, [], hW', trodAll_mk1 (shut_bool Tryd.underlying4 _), (trodAll_cons_mk (Below.trod laidOut (by kernel_rfl) (of_decide_eq_true (by kernel_rfl)) k0 bel lt0) trodAll_mk0), rfl, bel.frame _, fun h => by cases h⟩
theorem over : Rows.fnValTextPairRow.holds Tryd.pinned (OpenSpec.ofChange Rows.fnValTextPairSpec) :=
  OpenClaim.holds_of_wide 4 Tryd.f4 rfl rfl rfl rfl rfl rfl rfl ⟨rfl, rfl, rfl, rfl, rfl⟩ rfl rfl rfl rfl rfl (by kernel_rfl) Tryd.func4 (by kernel_rfl)
    (of_decide_eq_true (by kernel_rfl)) (by unfold Func.isWrapper; first | (rw [if_pos (by decide +kernel)]; kernel_rfl) | (rw [if_neg (by decide +kernel)]; exact ⟨rfl, rfl⟩))
    (fun os started H enc _ => lifted os started H enc)
theorem proved : Rows.FnValTextPairCardSaid :=
  Claim7.holds_tied_plain_at .later [] [.data, .data, .data] true (true, "a07b6d3d28acb34c1de5728bde9dbfe512a8988594525e74e366f2e6260a8b10") false
    over (fun _ h => by cases h) (by kernel_rfl) (fun _ h => by cases h) fnValTextPair_row_tie rfl ⟨rfl, rfl⟩ (by kernel_rfl) rfl
    (fun f fn hf hfn => by
      obtain rfl : f = 4 := Option.some.inj ((show Tryd.prog.funcNamed "loop.example/handfast/laws.FnValTextPair" = some 4 by kernel_rfl).symm.trans hf) |>.symm
      obtain rfl : fn = Tryd.f4 := (Option.some.inj (Tryd.func4.symm.trans hfn)).symm
      exact ⟨by kernel_rfl, fun j t ht => by
        rw [Tryd.params4] at ht
        have hm : t ∈ [22] := by simpa using Array.mem_of_getElem? ht
        have hall : ([22].all fun u => !Tryd.prog.wantsStandIn u) = true := by kernel_rfl
        exact (show Tryd.prog.wantsStandIn t = false by simpa using List.all_eq_true.1 hall t hm)⟩)
    (by kernel_rfl)
#print axioms proved
end Go.Proofs.YtihfbpmblppbgaaDoor.fnValTextPair
namespace Go.Proofs.YtihfbpmblppbgaaDoor
theorem fnValTextPair_holds : Rows.FnValTextPairCardSaid := fnValTextPair.proved
end Go.Proofs.YtihfbpmblppbgaaDoor
end
