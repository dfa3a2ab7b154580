-- Ythhjdngailhihaa's texts for the statement FnExactLendMeet, one behind the other (merge.py).
import Derived.Test.YthhjdngailhihaaQFnExactLendMeet0
import Derived.OpenShut
import Derived.Laws.BitsLemmas
import Derived.Deep.Slices
import Derived.WalkKit
import Derived.ProofKit
import Derived.ShutString
import Derived.ChangeOld
import Derived.Below
import Derived.SizedLaws
import Derived.ChangeSlices
import Derived.Test.YthhjdngailhihaaRows
section
namespace Go.Proofs.Ythhjdngailhihaa.PA
open Go.RowKit Go.Proofs.YthhjdngailhihaaW.PrintWords Go.Proofs.YthhjdngailhihaaW.PrintLast Go.Proofs.YthhjdngailhihaaW.PrintMore
attribute [local go_sem] max2_int min2_int max_two min_two max_three min_three max_four min_four
set_option linter.unusedVariables false
set_option linter.unusedSimpArgs false
def laws_toPlace.f (k : Nat) (a0_0 : ByteArray) (l0_1 : List Int) : Option (ByteArray × List Int) := (laws_toIntS.f k l0_1).bind fun t230 => (some (a0_0, t230))
theorem laws_toPlace.mono : ∀ a0 a1 k, LeO (laws_toPlace.f k a0 a1) (laws_toPlace.f (k + 1) a0 a1) := by
 intro a0 a1 k
 unfold laws_toPlace.f
 repeat' first
   | (with_reducible exact laws_toIntS.mono _ _)
   | (with_reducible exact LeO.refl _)
   | (with_reducible exact LeO.none _)
   | (with_reducible refine LeO.ite ?_ ?_)
   | (with_reducible refine LeO.bind ?_ (fun _ => ?_))
   | exact laws_toIntS.mono _ _
   | exact LeO.none _
   | refine LeO.ite ?_ ?_
   | refine LeO.bind ?_ (fun _ => ?_)
set_option maxHeartbeats 8000000 in
set_option maxRecDepth 100000 in
theorem laws_toPlace.calls (k : Nat) (a0_0 : ByteArray) (A0_1 : Option Addr) (c0_1 : Nat) (l0_1 : List Int) (r1 : ByteArray) (r2 : List Int) (w : World) (hr0_1 : Kd.C (Kd.int .i64) w A0_1 l0_1.length l0_1) (hc0_1 : l0_1.length ≤ c0_1) (h : laws_toPlace.f k a0_0 l0_1 = some (r1, r2)) :
  Calls Try.prog 9 #[.agg #[.string a0_0, .slice A0_1 l0_1.length c0_1]] w fun e w' => ∃ v1_ : Value, e = .returned (.agg #[.string r1, v1_]) ∧ Kd.R (Kd.int .i64) 3 w' w.heap.size (fun _ => True) v1_ r2 ∧ Below w.heap.size w w' := by
 have hu30 := Try.underlying30
 have hu25 := Try.underlying25
 have HR0_1 := Aside0.mk hr0_1
 have HC0_1 := Aside0.mk hc0_1
 clear hr0_1 hc0_1
 have HB := Aside0.mk (Below.refl w.heap.size w)
 have H : ((laws_toIntS.f k l0_1).bind fun t230 => (some (a0_0, t230))) = some (r1, r2) := h
 clear h
 obtain ⟨t230, A20, H⟩ := ob H
 have A2 := Aside0.mk A20
 clear A20
 simp only [Option.some.injEq, Prod.mk.injEq] at H
 obtain ⟨rfl, rfl⟩ := H
 go_enter Try.func9, Try.ntmps9
 go_wp2_with (first | ((with_reducible refine gate_dst (N := 1) rfl ?_); refine zbx 1 #[.string a0_0, .slice A0_1 l0_1.length c0_1] 30 ?_; intro gb227 hg w3 hbox hb; have BK227 := Aside0.mk hbox; have GW227 := Aside0.mk ((y6 hg HB.out : w.heap.size ≤ gb227)); have GE227 := Aside0.mk ((y6 hg HB.out : w.heap.size ≤ gb227)); replace HB := Aside0.mk (below_step (y4 HB.out) hb); clear hb hbox hg) | ((with_reducible refine gate_dst (N := 2) rfl ?_); refine zbx 2 #[.string (⟨#[]⟩ : ByteArray), .slice none 0 0] 25 ?_; intro gb228 hg w4 hbox hb; have BK228 := Aside0.mk hbox; have GW228 := Aside0.mk ((y7 hg HB.out GE227.out : w.heap.size ≤ gb228)); have GE228 := Aside0.mk ((y7 hg HB.out GE227.out : w.heap.size ≤ gb228)); replace HB := Aside0.mk (below_step (y3 HB.out GE227.out) hb); have NB227_228 := zltn hg BK227; have NB228_227 := zgtn hg BK227; replace BK227 := zbb BK227 hb; clear hb hbox hg) | ((with_reducible refine gate_dst (N := 3) rfl ?_); refine zbx 3 #[.string (⟨#[]⟩ : ByteArray), .slice none 0 0] 25 ?_; intro gb229 hg w5 hbox hb; have BK229 := Aside0.mk hbox; have GW229 := Aside0.mk ((y18 hg HB.out GE227.out GE228.out : w.heap.size ≤ gb229)); have GE229 := Aside0.mk ((y18 hg HB.out GE227.out GE228.out : w.heap.size ≤ gb229)); replace HB := Aside0.mk (below_step (y1 HB.out GE227.out GE228.out) hb); have NB227_229 := zltn hg BK227; have NB229_227 := zgtn hg BK227; replace BK227 := zbb BK227 hb; have NB228_229 := zltn hg BK228; have NB229_228 := zgtn hg BK228; replace BK228 := zbb BK228 hb; clear hb hbox hg; have hnb6 := NB227_228.out; have hnc6 := NB228_227.out; have hnb7 := NB227_229.out; have hnc7 := NB229_227.out; have hcz8_0 := zh BK227; have hcz8_1 := zh1 BK227; have hfz8_0 := zfr BK227 0; have hfz8_1 := zfr BK227 1; have hnb9 := NB229_228.out; have hnc9 := NB228_229.out; have hcz10_0 := zh BK229; have hcz10_1 := zh1 BK229; have hfz10_0 := zfr BK229 0; have hfz10_1 := zfr BK229 1) | ((with_reducible refine gate_callee (f := 19) rfl ?_); refine goesL_ (some 9) rfl rfl Try.func19 (by kernel_rfl) rfl #[.slice A0_1 l0_1.length c0_1] rfl y9 ?_; (with_reducible refine (laws_toIntS.calls k _ _ l0_1 t230 _ ?side1 ?side2 A2.out).mono ?_); (case side1 => exact y54 HR0_1.out HB.out GE227.out GE228.out GE229.out); (case side2 => exact HC0_1.out); rintro e w11 ⟨v231, rfl, ho0, hb⟩; refine ⟨_, rfl, ?_⟩; have HO232 := Aside0.mk (Kd.R_lower ho0 (below_size (y5 HB.out GE227.out GE228.out GE229.out))); replace BK227 := zbf BK227 NB227_229 hb; replace BK228 := zbf BK228 NB228_229 hb; replace BK229 := Aside0.mk (blk_below (g := gb229) (o := .cells #[.string a0_0, .slice none 0 0] 25 (0, 0)) (by (with_reducible repeat (first | refine blk_drewN ?_ _ | refine blk_drew ?_ | refine blk_alloc ?_ _)); apply blk_put (i := 0); (case h => exact y2 BK229.out); (case e => rfl)) hb); replace HB := Aside0.mk (below_step (y5 HB.out GE227.out GE228.out GE229.out) hb); (try clear hb); (try clear hb2); (try clear hk); (try clear hi); (try clear ho0); obtain ⟨Ao12, co12, eo12⟩ := Kd.R_slice HO232.out; subst eo12; have hcz13_0 := zh BK229; have hcz13_1 := zh1 BK229; have hfz13_0 := zfr BK229 0; have hfz13_1 := zfr BK229 1; have hcz14_0 := zh BK228; have hcz14_1 := zh1 BK228; have hfz14_0 := zfr BK228 0; have hfz14_1 := zfr BK228 1))
 refine bodyPost_ret (results_cell_row rfl _ _ gb228 25 #[.string a0_0, .slice Ao12 t230.length co12] (0, 0) _ rfl (by (with_reducible repeat (first | refine blk_drewN ?_ _ | refine blk_drew ?_ | refine blk_alloc ?_ _)); refine blk_put (cs := #[.string a0_0, .slice none 0 0]) ?_ 1 _ rfl; (with_reducible repeat (first | refine blk_drewN ?_ _ | refine blk_drew ?_ | refine blk_alloc ?_ _)); refine blk_put (cs := #[.string (⟨#[]⟩ : ByteArray), .slice none 0 0]) ?_ 0 _ rfl; (with_reducible repeat (first | refine blk_drewN ?_ _ | refine blk_drew ?_ | refine blk_alloc ?_ _)); refine blk_far ?_ NB228_229.out _; (with_reducible repeat (first | refine blk_drewN ?_ _ | refine blk_drew ?_ | refine blk_alloc ?_ _)); exact BK228.out) Try.underlying25 rfl (by kernel_rfl)) rfl ?_
 exact ⟨_, y16, (by (with_reducible repeat (first | apply Kd.R_alloc | apply Kd.R_drewN | apply Kd.R_drew)); exact Kd.R_mono (Kd.R_far (p := ⟨gb228, 1, none⟩) (Kd.R_far (p := ⟨gb228, 0, none⟩) (Kd.R_far (p := ⟨gb229, 1, none⟩) (Kd.R_types (Kd.R_types HO232.out BK229.out (by decide)) BK228.out (by decide)) (fun _ hk => hk.1.2) (.slice Ao12 t230.length co12)) (fun _ hk => hk.2) (.string a0_0)) (fun _ hk => hk.2) (.slice Ao12 t230.length co12)) (fun _ hk => trivial)), (y5 HB.out GE227.out GE228.out GE229.out)⟩
end Go.Proofs.Ythhjdngailhihaa.PA
end
section
namespace Go.Proofs.Ythhjdngailhihaa.PA
open Go.RowKit Go.Proofs.YthhjdngailhihaaW.PrintWords Go.Proofs.YthhjdngailhihaaW.PrintLast Go.Proofs.YthhjdngailhihaaW.PrintMore
attribute [local go_sem] max2_int min2_int max_two min_two max_three min_three max_four min_four
set_option linter.unusedVariables false
set_option linter.unusedSimpArgs false
def laws_eqIntS.l0 : Nat → List Int → List Int → Int → Option (Bool)
 | 0, _, _, _ => none
 | k + 1, x0, x1, x5 => if x5 < (x0.length : Int) then (if 0 ≤ x5 then (if x5 < (x1.length : Int) then (if (rd x0 x5) = (rd x1 x5) then (laws_eqIntS.l0 k x0 x1 (wrap64 (x5 + 1))) else (some false)) else (none)) else (none)) else (some true)
def laws_eqIntS.f (k : Nat) (l0 : List Int) (l1 : List Int) : Option (Bool) := if (l0.length : Int) = (l1.length : Int) then (laws_eqIntS.l0 k l0 l1 0) else (some false)
theorem laws_eqIntS.mono_l : ∀ k, (∀ y0 y1 y2, LeO (laws_eqIntS.l0 k y0 y1 y2) (laws_eqIntS.l0 (k + 1) y0 y1 y2))
 | 0 => fun _ _ _ r h => by simp [laws_eqIntS.l0] at h
 | k + 1 => by
  have ih0 := laws_eqIntS.mono_l k
  ·intro y0 y1 y2
   unfold laws_eqIntS.l0
   repeat' first
   | (with_reducible exact ih0 _ _ _)
   | (with_reducible exact LeO.refl _)
   | (with_reducible exact LeO.none _)
   | (with_reducible refine LeO.ite ?_ ?_)
   | (with_reducible refine LeO.bind ?_ (fun _ => ?_))
   | exact ih0 _ _ _
   | exact LeO.none _
   | refine LeO.ite ?_ ?_
   | refine LeO.bind ?_ (fun _ => ?_)
theorem laws_eqIntS.mono : ∀ a0 a1 k, LeO (laws_eqIntS.f k a0 a1) (laws_eqIntS.f (k + 1) a0 a1) := by
 intro a0 a1 k
 have ih0 := laws_eqIntS.mono_l k
 unfold laws_eqIntS.f
 repeat' first
   | (with_reducible exact ih0 _ _ _)
   | (with_reducible exact LeO.refl _)
   | (with_reducible exact LeO.none _)
   | (with_reducible refine LeO.ite ?_ ?_)
   | (with_reducible refine LeO.bind ?_ (fun _ => ?_))
   | exact ih0 _ _ _
   | exact LeO.none _
   | refine LeO.ite ?_ ?_
   | refine LeO.bind ?_ (fun _ => ?_)
set_option maxHeartbeats 8000000 in
set_option maxRecDepth 100000 in
theorem laws_eqIntS.calls (k : Nat) (A0 : Option Addr) (c0 : Nat) (l0 : List Int) (A1 : Option Addr) (c1 : Nat) (l1 : List Int) (r : Bool) (w : World) (hr0 : Kd.C (Kd.int .i64) w A0 l0.length l0) (hc0 : l0.length ≤ c0) (hr1 : Kd.C (Kd.int .i64) w A1 l1.length l1) (hc1 : l1.length ≤ c1) (h : laws_eqIntS.f k l0 l1 = some r) :
  Calls Try.prog 20 #[.slice A0 l0.length c0, .slice A1 l1.length c1] w fun e w' => e = .returned (.bool r) ∧ Drawn0 w w' := by
 have HR0 := Aside0.mk hr0
 have HC0 := Aside0.mk hc0
 clear hr0 hc0
 have HR1 := Aside0.mk hr1
 have HC1 := Aside0.mk hc1
 clear hr1 hc1
 have H : (if (l0.length : Int) = (l1.length : Int) then (laws_eqIntS.l0 k l0 l1 0) else (some false)) = some r := h
 clear h
 by_cases c3 : (l0.length : Int) = (l1.length : Int)
 ·rw [if_pos c3] at H
  have c3b0 : ((l0.length : Int) == (l1.length : Int)) = true := beq_iff_eq.mpr c3
  have c3b1 : ((l0.length : Int) != (l1.length : Int)) = false := bne_eq_false_iff_eq.mpr c3
  have c3b2 : (l0.length == l1.length) = true := by first | simpa using c3 | (simp at c3 ⊢; omega)
  clear c3
  have H' := Aside0.mk H
  clear H
  go_enter Try.func20, Try.ntmps20
  go_wp2
  repeat (go_quiet (fail); try go_wp2)
  go_loopg [5] k (fun kq v5 w' => ∃ (x5_1 : Int), v5 = .int .i64 x5_1 ∧ Aside0 (laws_eqIntS.l0 kq l0 l1 x5_1 = some r) ∧ Aside0 (kq ≤ k) ∧ Drawn0 w w')
  case atStart => exact ⟨(0), y19, H', ⟨Nat.le_refl _⟩, y22⟩
  case round =>
   clear H'
   try clear c1
   try clear c2
   try clear p2
   try clear c3
   try clear c3b0
   try clear c3b1
   try clear c3b2
   obtain ⟨x5_1, rfl, HA, HK1, ⟨m1, rfl⟩⟩ := hrel
   cases gk with
   | zero => exact absurd HA.out (by simp [laws_eqIntS.l0])
   | succ k1 =>
    have H := HA.out
    clear HA
    simp only [laws_eqIntS.l0] at H
    by_cases c4 : x5_1 < (l0.length : Int)
    ·rw [if_pos c4] at H
     have c4b0 : decide (x5_1 < (l0.length : Int)) = true := decide_eq_true c4
     clear c4
     by_cases c5 : 0 ≤ x5_1
     ·rw [if_pos c5] at H
      have c5b0 : decide (0 ≤ x5_1) = true := decide_eq_true c5
      clear c5
      by_cases c6 : x5_1 < (l1.length : Int)
      ·rw [if_pos c6] at H
       have c6b0 : decide (x5_1 < (l1.length : Int)) = true := decide_eq_true c6
       clear c6
       by_cases c7 : (rd l0 x5_1) = (rd l1 x5_1)
       ·rw [if_pos c7] at H
        have c7b0 : ((rd l0 x5_1) == (rd l1 x5_1)) = true := beq_iff_eq.mpr c7
        have c7b1 : ((rd l0 x5_1) != (rd l1 x5_1)) = false := bne_eq_false_iff_eq.mpr c7
        clear c7
        have H' := Aside0.mk H
        clear H
        have p233 : 0 ≤ (x5_1 : Int) := of_decide_eq_true y13
        have q233 : x5_1 < (l0.length : Int) := of_decide_eq_true y13
        obtain ⟨ad233, e233, hx233_0⟩ := Kd.at_int HR0.out x5_1 p233 q233
        cases e233
        replace p233 := eq_true p233
        replace q233 := eq_true q233
        have p234 : 0 ≤ (x5_1 : Int) := of_decide_eq_true y13
        have q234 : x5_1 < (l1.length : Int) := of_decide_eq_true y13
        obtain ⟨ad234, e234, hx234_0⟩ := Kd.at_int HR1.out x5_1 p234 q234
        cases e234
        replace p234 := eq_true p234
        replace q234 := eq_true q234
        go_wp2
        repeat (go_quiet (fail); try go_wp2)
        go_roundg k1
        case measure => have := HK1.out; omega
        case rel => exact ⟨(wrap64 (x5_1 + 1)), y19, H', ⟨(y59 HK1.out)⟩, y22⟩
       ·rw [if_neg c7] at H
        have c7b0 : ((rd l0 x5_1) == (rd l1 x5_1)) = false := beq_eq_false_iff_ne.mpr c7
        have c7b1 : ((rd l0 x5_1) != (rd l1 x5_1)) = true := bne_iff_ne.mpr c7
        obtain rfl := Option.some.inj H
        have p233 : 0 ≤ (x5_1 : Int) := of_decide_eq_true y13
        have q233 : x5_1 < (l0.length : Int) := of_decide_eq_true y13
        obtain ⟨ad233, e233, hx233_0⟩ := Kd.at_int HR0.out x5_1 p233 q233
        cases e233
        replace p233 := eq_true p233
        replace q233 := eq_true q233
        have p234 : 0 ≤ (x5_1 : Int) := of_decide_eq_true y13
        have q234 : x5_1 < (l1.length : Int) := of_decide_eq_true y13
        obtain ⟨ad234, e234, hx234_0⟩ := Kd.at_int HR1.out x5_1 p234 q234
        cases e234
        replace p234 := eq_true p234
        replace q234 := eq_true q234
        go_wp2
        repeat (go_quiet (fail); try go_wp2)
        go_ret
        exact ⟨y19, y22⟩
      ·rw [if_neg c6] at H
       exact absurd H (by simp)
     ·rw [if_neg c5] at H
      exact absurd H (by simp)
    ·rw [if_neg c4] at H
     have c4b0 : decide (x5_1 < (l0.length : Int)) = false := decide_eq_false c4
     clear c4
     obtain rfl := Option.some.inj H
     go_wp2
     repeat (go_quiet (fail); try go_wp2)
     go_ret
     exact ⟨y19, y22⟩
 ·rw [if_neg c3] at H
  have c3b0 : ((l0.length : Int) == (l1.length : Int)) = false := beq_eq_false_iff_ne.mpr c3
  have c3b1 : ((l0.length : Int) != (l1.length : Int)) = true := bne_iff_ne.mpr c3
  have c3b2 : (l0.length == l1.length) = false := by first | simpa using c3 | (simp at c3 ⊢; omega)
  obtain rfl := Option.some.inj H
  go_enter Try.func20, Try.ntmps20
  go_wp2
  repeat (go_quiet (fail); try go_wp2)
  go_ret
  exact ⟨y19, y22⟩
end Go.Proofs.Ythhjdngailhihaa.PA
end
section
namespace Go.Proofs.Ythhjdngailhihaa.PA
open Go.RowKit Go.Proofs.YthhjdngailhihaaW.PrintWords Go.Proofs.YthhjdngailhihaaW.PrintLast Go.Proofs.YthhjdngailhihaaW.PrintMore
attribute [local go_sem] max2_int min2_int max_two min_two max_three min_three max_four min_four
set_option linter.unusedVariables false
set_option linter.unusedSimpArgs false
def laws_eqPlace.f (k : Nat) (a0_0 : ByteArray) (l0_1 : List Int) (a1_0 : ByteArray) (l1_1 : List Int) : Option (Bool) := if a0_0.toList = a1_0.toList then ((laws_eqIntS.f k l0_1 l1_1).bind fun t237 => (if t237 = true then (some true) else (some false))) else (some false)
theorem laws_eqPlace.mono : ∀ a0 a1 a2 a3 k, LeO (laws_eqPlace.f k a0 a1 a2 a3) (laws_eqPlace.f (k + 1) a0 a1 a2 a3) := by
 intro a0 a1 a2 a3 k
 unfold laws_eqPlace.f
 repeat' first
   | (with_reducible exact laws_eqIntS.mono _ _ _)
   | (with_reducible exact LeO.refl _)
   | (with_reducible exact LeO.none _)
   | (with_reducible refine LeO.ite ?_ ?_)
   | (with_reducible refine LeO.bind ?_ (fun _ => ?_))
   | exact laws_eqIntS.mono _ _ _
   | exact LeO.none _
   | refine LeO.ite ?_ ?_
   | refine LeO.bind ?_ (fun _ => ?_)
set_option maxHeartbeats 8000000 in
set_option maxRecDepth 100000 in
theorem laws_eqPlace.calls (k : Nat) (a0_0 : ByteArray) (A0_1 : Option Addr) (c0_1 : Nat) (l0_1 : List Int) (a1_0 : ByteArray) (A1_1 : Option Addr) (c1_1 : Nat) (l1_1 : List Int) (r : Bool) (w : World) (hr0_1 : Kd.C (Kd.int .i64) w A0_1 l0_1.length l0_1) (hc0_1 : l0_1.length ≤ c0_1) (hr1_1 : Kd.C (Kd.int .i64) w A1_1 l1_1.length l1_1) (hc1_1 : l1_1.length ≤ c1_1) (h : laws_eqPlace.f k a0_0 l0_1 a1_0 l1_1 = some r) :
  Calls Try.prog 10 #[.agg #[.string a0_0, .slice A0_1 l0_1.length c0_1], .agg #[.string a1_0, .slice A1_1 l1_1.length c1_1]] w fun e w' => e = .returned (.bool r) ∧ Below w.heap.size w w' := by
 have hu25 := Try.underlying25
 have HR0_1 := Aside0.mk hr0_1
 have HC0_1 := Aside0.mk hc0_1
 clear hr0_1 hc0_1
 have HR1_1 := Aside0.mk hr1_1
 have HC1_1 := Aside0.mk hc1_1
 clear hr1_1 hc1_1
 have HB := Aside0.mk (Below.refl w.heap.size w)
 have H : (if a0_0.toList = a1_0.toList then ((laws_eqIntS.f k l0_1 l1_1).bind fun t237 => (if t237 = true then (some true) else (some false))) else (some false)) = some r := h
 clear h
 have HZ3 := Aside0.mk H
 clear H
 go_enter Try.func10, Try.ntmps10
 go_upto_if 9 with (first | ((with_reducible refine gate_dst (N := 2) rfl ?_); refine zbx 2 #[.string a0_0, .slice A0_1 l0_1.length c0_1] 25 ?_; intro gb235 hg w4 hbox hb; have BK235 := Aside0.mk hbox; have GW235 := Aside0.mk ((y6 hg HB.out : w.heap.size ≤ gb235)); have GE235 := Aside0.mk ((y6 hg HB.out : w.heap.size ≤ gb235)); replace HB := Aside0.mk (below_step (y4 HB.out) hb); clear hb hbox hg) | ((with_reducible refine gate_dst (N := 3) rfl ?_); refine zbx 3 #[.string a1_0, .slice A1_1 l1_1.length c1_1] 25 ?_; intro gb236 hg w5 hbox hb; have BK236 := Aside0.mk hbox; have GW236 := Aside0.mk ((y7 hg HB.out GE235.out : w.heap.size ≤ gb236)); have GE236 := Aside0.mk ((y7 hg HB.out GE235.out : w.heap.size ≤ gb236)); replace HB := Aside0.mk (below_step (y3 HB.out GE235.out) hb); have NB235_236 := zltn hg BK235; have NB236_235 := zgtn hg BK235; replace BK235 := zbb BK235 hb; clear hb hbox hg; have hnb6 := NB235_236.out; have hnc6 := NB236_235.out; have hcz7_0 := zh BK235; have hcz7_1 := zh1 BK235; have hfz7_0 := zfr BK235 0; have hfz7_1 := zfr BK235 1; have hcz8_0 := zh BK236; have hcz8_1 := zh1 BK236; have hfz8_0 := zfr BK236 0; have hfz8_1 := zfr BK236 1))
 (try simp only [Act.put, List.setIfInBounds_toArray, List.set_cons_zero, List.set_cons_succ])
 have H := HZ3.out
 clear HZ3
 by_cases c9 : a0_0.toList = a1_0.toList
 ·rw [if_pos c9] at H
  have c9b0 : (a0_0.toList == a1_0.toList) = true := beq_iff_eq.mpr c9
  have c9b1 : (a0_0.toList != a1_0.toList) = false := bne_eq_false_iff_eq.mpr c9
  clear c9
  (first | rw [c9b0] | (simp only [i64_w, i32_w]; rw [c9b0]) | skip)
  obtain ⟨t237, A100, H⟩ := ob H
  have A10 := Aside0.mk A100
  clear A100
  have HZ11 := Aside0.mk H
  clear H
  have hnb12 := NB235_236.out
  have hnc12 := NB236_235.out
  have hcz13_0 := zh BK235
  have hcz13_1 := zh1 BK235
  have hfz13_0 := zfr BK235 0
  have hfz13_1 := zfr BK235 1
  have hcz14_0 := zh BK236
  have hcz14_1 := zh1 BK236
  have hfz14_0 := zfr BK236 0
  have hfz14_1 := zfr BK236 1
  go_upto_if 15 with (first | ((with_reducible refine gate_callee (f := 20) rfl ?_); refine goesL_ (some 14) rfl rfl Try.func20 (by kernel_rfl) rfl #[.slice A0_1 l0_1.length c0_1, .slice A1_1 l1_1.length c1_1] rfl y9 ?_; (with_reducible refine (laws_eqIntS.calls k _ _ l0_1 _ _ l1_1 t237 _ ?side1 ?side2 ?side3 ?side4 A10.out).mono ?_); (case side1 => exact y10 HR0_1.out HB.out); (case side2 => exact HC0_1.out); (case side3 => exact y10 HR1_1.out HB.out); (case side4 => exact HC1_1.out); rintro e w' ⟨rfl, ⟨nd, rfl⟩⟩; refine ⟨_, rfl, ?_⟩))
  (try simp only [Act.put, List.setIfInBounds_toArray, List.set_cons_zero, List.set_cons_succ])
  have H := HZ11.out
  clear HZ11
  by_cases c15 : t237 = true
  ·subst c15
   rw [if_pos rfl] at H
   obtain rfl := Option.some.inj H
   go_wp2
   go_ret
   exact ⟨y16, (y1 HB.out GE235.out GE236.out)⟩
  ·replace c15 := Bool.eq_false_iff.mpr c15
   subst c15
   rw [if_neg (show ¬ (false = true) by decide)] at H
   obtain rfl := Option.some.inj H
   go_wp2
   go_ret
   exact ⟨y16, (y1 HB.out GE235.out GE236.out)⟩
 ·rw [if_neg c9] at H
  have c9b0 : (a0_0.toList == a1_0.toList) = false := beq_eq_false_iff_ne.mpr c9
  have c9b1 : (a0_0.toList != a1_0.toList) = true := bne_iff_ne.mpr c9
  (first | rw [c9b0] | (simp only [i64_w, i32_w]; rw [c9b0]) | skip)
  obtain rfl := Option.some.inj H
  go_wp2
  go_ret
  exact ⟨y16, (y1 HB.out GE235.out GE236.out)⟩
end Go.Proofs.Ythhjdngailhihaa.PA
end
section
namespace Go.Proofs.Ythhjdngailhihaa.PA
open Go.RowKit Go.Proofs.YthhjdngailhihaaW.PrintWords Go.Proofs.YthhjdngailhihaaW.PrintLast Go.Proofs.YthhjdngailhihaaW.PrintMore
attribute [local go_sem] max2_int min2_int max_two min_two max_three min_three max_four min_four
set_option linter.unusedVariables false
set_option linter.unusedSimpArgs false
def laws_FnExactLendMeet.f (k : Nat) (a0_0 : ByteArray) (l0_1 : List Int) (a1_0 : ByteArray) (l1_1 : List Int) : Option (Bool) := (laws_szPlace.f a0_0 l0_1 1048576).bind fun t240 => (if t240 < 0 then (some true) else ((laws_szPlace.f a1_0 l1_1 t240).bind fun t241 => (if t241 < 0 then (some true) else ((laws_toPlace.f k a0_0 l0_1).bind fun bt242 => ((laws_toPlace.f k a1_0 l1_1).bind fun bt246 => ((spec_LendMeet.f k bt242.1 bt242.2 bt246.1 bt246.2).bind fun t250 => ((laws_toPlace.f k a0_0 l0_1).bind fun bt251 => ((laws_toPlace.f k a1_0 l1_1).bind fun bt256 => ((impl_LendMeet.f k bt251.1 bt251.2 bt256.1 bt256.2).bind fun t261 => (if (t261 != t250) = true then (some false) else ((laws_toPlace.f k a0_0 l0_1).bind fun bt262 => ((laws_eqPlace.f k bt251.1 bt251.2 bt262.1 bt262.2).bind fun t266 => (if t266 = true then ((laws_toPlace.f k a1_0 l1_1).bind fun bt267 => ((laws_eqPlace.f k bt256.1 bt256.2 bt267.1 bt267.2).bind fun t271 => (if t271 = true then (some true) else (some false)))) else (some false))))))))))))))
theorem laws_FnExactLendMeet.mono : ∀ a0 a1 a2 a3 k, LeO (laws_FnExactLendMeet.f k a0 a1 a2 a3) (laws_FnExactLendMeet.f (k + 1) a0 a1 a2 a3) := by
 intro a0 a1 a2 a3 k
 unfold laws_FnExactLendMeet.f
 repeat' first
   | (with_reducible exact impl_LendMeet.mono _ _ _ _ _)
   | (with_reducible exact laws_eqPlace.mono _ _ _ _ _)
   | (with_reducible exact laws_toPlace.mono _ _ _)
   | (with_reducible exact spec_LendMeet.mono _ _ _ _ _)
   | (with_reducible exact LeO.refl _)
   | (with_reducible exact LeO.none _)
   | (with_reducible refine LeO.ite ?_ ?_)
   | (with_reducible refine LeO.bind ?_ (fun _ => ?_))
   | exact impl_LendMeet.mono _ _ _ _ _
   | exact laws_eqPlace.mono _ _ _ _ _
   | exact laws_toPlace.mono _ _ _
   | exact spec_LendMeet.mono _ _ _ _ _
   | exact LeO.none _
   | refine LeO.ite ?_ ?_
   | refine LeO.bind ?_ (fun _ => ?_)
set_option maxHeartbeats 8000000 in
set_option maxRecDepth 100000 in
theorem laws_FnExactLendMeet.calls (k : Nat) (a0_0 : ByteArray) (A0_1 : Option Addr) (c0_1 : Nat) (l0_1 : List Int) (a1_0 : ByteArray) (A1_1 : Option Addr) (c1_1 : Nat) (l1_1 : List Int) (r : Bool) (w : World) (hr0_1 : Kd.C (Kd.int .i64) w A0_1 l0_1.length l0_1) (hc0_1 : l0_1.length ≤ c0_1) (hr1_1 : Kd.C (Kd.int .i64) w A1_1 l1_1.length l1_1) (hc1_1 : l1_1.length ≤ c1_1) (h : laws_FnExactLendMeet.f k a0_0 l0_1 a1_0 l1_1 = some r) (hr_ : Aside0 (r = true)) :
  Calls Try.prog 4 #[.agg #[.string a0_0, .slice A0_1 l0_1.length c0_1], .agg #[.string a1_0, .slice A1_1 l1_1.length c1_1]] w fun e w' => e = .returned (.bool r) ∧ Below w.heap.size w w' := by
 have hu30 := Try.underlying30
 have hu25 := Try.underlying25
 have HR0_1 := Aside0.mk hr0_1
 have HC0_1 := Aside0.mk hc0_1
 clear hr0_1 hc0_1
 have HR1_1 := Aside0.mk hr1_1
 have HC1_1 := Aside0.mk hc1_1
 clear hr1_1 hc1_1
 have HB := Aside0.mk (Below.refl w.heap.size w)
 have H : ((laws_szPlace.f a0_0 l0_1 1048576).bind fun t240 => (if t240 < 0 then (some true) else ((laws_szPlace.f a1_0 l1_1 t240).bind fun t241 => (if t241 < 0 then (some true) else ((laws_toPlace.f k a0_0 l0_1).bind fun bt242 => ((laws_toPlace.f k a1_0 l1_1).bind fun bt246 => ((spec_LendMeet.f k bt242.1 bt242.2 bt246.1 bt246.2).bind fun t250 => ((laws_toPlace.f k a0_0 l0_1).bind fun bt251 => ((laws_toPlace.f k a1_0 l1_1).bind fun bt256 => ((impl_LendMeet.f k bt251.1 bt251.2 bt256.1 bt256.2).bind fun t261 => (if (t261 != t250) = true then (some false) else ((laws_toPlace.f k a0_0 l0_1).bind fun bt262 => ((laws_eqPlace.f k bt251.1 bt251.2 bt262.1 bt262.2).bind fun t266 => (if t266 = true then ((laws_toPlace.f k a1_0 l1_1).bind fun bt267 => ((laws_eqPlace.f k bt256.1 bt256.2 bt267.1 bt267.2).bind fun t271 => (if t271 = true then (some true) else (some false)))) else (some false))))))))))))))) = some r := h
 clear h
 obtain ⟨t240, A30, H⟩ := ob H
 have A3 := Aside0.mk A30
 clear A30
 have HZ4 := Aside0.mk H
 clear H
 go_enter Try.func4, Try.ntmps4
 go_upto_if 14 with (first | ((with_reducible refine gate_dst (N := 2) rfl ?_); refine zbx 2 #[.string a0_0, .slice A0_1 l0_1.length c0_1] 30 ?_; intro gb238 hg w5 hbox hb; have BK238 := Aside0.mk hbox; have GW238 := Aside0.mk ((y6 hg HB.out : w.heap.size ≤ gb238)); have GE238 := Aside0.mk ((y6 hg HB.out : w.heap.size ≤ gb238)); replace HB := Aside0.mk (below_step (y4 HB.out) hb); clear hb hbox hg) | ((with_reducible refine gate_dst (N := 3) rfl ?_); refine zbx 3 #[.string a1_0, .slice A1_1 l1_1.length c1_1] 30 ?_; intro gb239 hg w6 hbox hb; have BK239 := Aside0.mk hbox; have GW239 := Aside0.mk ((y7 hg HB.out GE238.out : w.heap.size ≤ gb239)); have GE239 := Aside0.mk ((y7 hg HB.out GE238.out : w.heap.size ≤ gb239)); replace HB := Aside0.mk (below_step (y3 HB.out GE238.out) hb); have NB238_239 := zltn hg BK238; have NB239_238 := zgtn hg BK238; replace BK238 := zbb BK238 hb; clear hb hbox hg; have hnb7 := NB238_239.out; have hnc7 := NB239_238.out; have hcz8_0 := zh BK238; have hcz8_1 := zh1 BK238; have hfz8_0 := zfr BK238 0; have hfz8_1 := zfr BK238 1) | ((with_reducible refine gate_callee (f := 8) rfl ?_); refine goesL_ (some 12) rfl rfl Try.func8 (by kernel_rfl) rfl #[.agg #[.string a0_0, .slice A0_1 l0_1.length c0_1], .int .i64 1048576] rfl y9 ?_; (with_reducible refine (laws_szPlace.calls a0_0 _ _ l0_1 1048576 t240 _ ?side1 ?side2 A3.out).mono ?_); (case side1 => exact y10 HR0_1.out HB.out); (case side2 => exact HC0_1.out); rintro e w9 ⟨rfl, hb⟩; refine ⟨_, rfl, ?_⟩; replace BK238 := zbb BK238 hb; replace BK239 := zbb BK239 hb; replace HB := Aside0.mk (below_step (y1 HB.out GE238.out GE239.out) hb); (try clear hb); (try clear hb2); (try clear hk); (try clear hi)))
 (try simp only [Act.put, List.setIfInBounds_toArray, List.set_cons_zero, List.set_cons_succ])
 have H := HZ4.out
 clear HZ4
 by_cases c10 : t240 < 0
 ·rw [if_pos c10] at H
  have c10b0 : decide (t240 < 0) = true := decide_eq_true c10
  clear c10
  (first | rw [c10b0] | (simp only [i64_w, i32_w]; rw [c10b0]) | skip)
  clear hr_
  obtain rfl := Option.some.inj H
  go_wp2
  go_ret
  exact ⟨y16, (y1 HB.out GE238.out GE239.out)⟩
 ·rw [if_neg c10] at H
  have c10b0 : decide (t240 < 0) = false := decide_eq_false c10
  clear c10
  (first | rw [c10b0] | (simp only [i64_w, i32_w]; rw [c10b0]) | skip)
  obtain ⟨t241, A110, H⟩ := ob H
  have A11 := Aside0.mk A110
  clear A110
  have HZ12 := Aside0.mk H
  clear H
  have hnb13 := NB239_238.out
  have hnc13 := NB238_239.out
  have hcz14_0 := zh BK239
  have hcz14_1 := zh1 BK239
  have hfz14_0 := zfr BK239 0
  have hfz14_1 := zfr BK239 1
  go_upto_if 19 with (first | ((with_reducible refine gate_callee (f := 8) rfl ?_); refine goesL_ (some 17) rfl rfl Try.func8 (by kernel_rfl) rfl #[.agg #[.string a1_0, .slice A1_1 l1_1.length c1_1], .int .i64 t240] rfl y9 ?_; (with_reducible refine (laws_szPlace.calls a1_0 _ _ l1_1 t240 t241 _ ?side1 ?side2 A11.out).mono ?_); (case side1 => exact y10 HR1_1.out HB.out); (case side2 => exact HC1_1.out); rintro e w15 ⟨rfl, hb⟩; refine ⟨_, rfl, ?_⟩; replace BK238 := zbb BK238 hb; replace BK239 := zbb BK239 hb; replace HB := Aside0.mk (below_step (y1 HB.out GE238.out GE239.out) hb); (try clear hb); (try clear hb2); (try clear hk); (try clear hi)))
  (try simp only [Act.put, List.setIfInBounds_toArray, List.set_cons_zero, List.set_cons_succ])
  have H := HZ12.out
  clear HZ12
  by_cases c16 : t241 < 0
  ·rw [if_pos c16] at H
   have c16b0 : decide (t241 < 0) = true := decide_eq_true c16
   clear c16
   (first | rw [c16b0] | (simp only [i64_w, i32_w]; rw [c16b0]) | skip)
   clear hr_
   obtain rfl := Option.some.inj H
   go_wp2
   go_ret
   exact ⟨y16, (y1 HB.out GE238.out GE239.out)⟩
  ·rw [if_neg c16] at H
   have c16b0 : decide (t241 < 0) = false := decide_eq_false c16
   clear c16
   (first | rw [c16b0] | (simp only [i64_w, i32_w]; rw [c16b0]) | skip)
   obtain ⟨⟨t242, t243⟩, A170, H⟩ := ob H
   have A17 := Aside0.mk A170
   clear A170
   obtain ⟨⟨t246, t247⟩, A180, H⟩ := ob H
   have A18 := Aside0.mk A180
   clear A180
   obtain ⟨t250, A190, H⟩ := ob H
   have A19 := Aside0.mk A190
   clear A190
   have HZ20 := Aside0.mk H
   clear H
   try go_wp2
   replace BK238 := Aside0.mk (blk_drew BK238.out)
   replace BK239 := Aside0.mk (blk_drew BK239.out)
   replace HB := Aside0.mk (below_drew1 HB.out)
   refine start_ (n := 6) (S := fun w' => w'.cell? ⟨gb238, 0, none⟩ = some (.string a0_0) ∧ w'.cell? ⟨gb238, 1, none⟩ = some (.slice A0_1 l0_1.length c0_1) ∧ w'.cell? ⟨gb239, 0, none⟩ = some (.string a1_0) ∧ w'.cell? ⟨gb239, 1, none⟩ = some (.slice A1_1 l1_1.length c1_1)) (ds := []) #[false, false, false, false, false, false] (by kernel_rfl) rfl rfl ⟨(blk_cell BK238.out 0).trans rfl, (blk_cell BK238.out 1).trans rfl, (blk_cell BK239.out 0).trans rfl, (blk_cell BK239.out 1).trans rfl⟩ (fun hHeld => ?_)
   generalize w15.drew = w21 at BK238 BK239 HB hHeld ⊢
   refine take_ (i := 0) (N := some 20) (v := ?_) (a' := ?_) #[true, false, false, false, false, false] rfl rfl (by kernel_rfl) (fun _ _ _ h => h) (Or.inl ⟨(by rfl), ?_⟩) hHeld ?_ ?_
   rotate_left
   ·rintro w' ⟨s0, s1, s2, s3⟩
    go_simp
    with_reducible rfl
   rotate_left
   ·simp only [Act.put, List.setIfInBounds_toArray, List.set_cons_zero, List.set_cons_succ, i64_w, i32_w]
    rfl
   refine take_ (i := 2) (N := some 22) (v := ?_) (a' := ?_) #[true, false, true, false, false, false] rfl rfl (by kernel_rfl) (fun _ _ _ h => h) (Or.inl ⟨(by rfl), ?_⟩) hHeld ?_ ?_
   rotate_left
   ·rintro w' ⟨s0, s1, s2, s3⟩
    go_simp
    with_reducible rfl
   rotate_left
   ·simp only [Act.put, List.setIfInBounds_toArray, List.set_cons_zero, List.set_cons_succ, i64_w, i32_w]
    rfl
   refine one_ (i := 1) (N := some 21) #[true, true, true, false, false, false] rfl rfl (by kernel_rfl) (by decide) (fun K hK => ?_)
   refine goes_ Try.func9 (by kernel_rfl) rfl #[.agg #[.string a0_0, .slice A0_1 l0_1.length c0_1]] (by rfl) rfl rfl y9 ?_
   with_reducible refine (laws_toPlace.calls k a0_0 _ _ l0_1 t242 t243 _ ?side1 ?side2 A17.out).mono ?_
   (case side1 => exact y10 HR0_1.out HB.out)
   (case side2 => exact HC0_1.out)
   rintro e w22 ⟨v244, rfl, ho0, hb⟩
   refine ⟨_, rfl, ?_⟩
   have HO245 := Aside0.mk (Kd.R_lower ho0 (below_size (y1 HB.out GE238.out GE239.out)))
   replace BK238 := zbb BK238 hb
   replace BK239 := zbb BK239 hb
   replace HB := Aside0.mk (below_step (y1 HB.out GE238.out GE239.out) hb)
   (try clear hb)
   (try clear hb2)
   (try clear hk)
   (try clear hi)
   (try clear ho0)
   refine hK.out _ _ ⟨(blk_cell BK238.out 0).trans rfl, (blk_cell BK238.out 1).trans rfl, (blk_cell BK239.out 0).trans rfl, (blk_cell BK239.out 1).trans rfl⟩ (fun hHeld => ?_)
   clear hK K
   refine norm_ (a' := ?_) ?_ ?_
   rotate_left
   ·show Act.put _ (some 21) _ = _
    simp only [Act.put, List.setIfInBounds_toArray, List.set_cons_zero, List.set_cons_succ, i64_w, i32_w]
    rfl
   refine one_ (i := 3) (N := some 23) #[true, true, true, true, false, false] rfl rfl (by kernel_rfl) (by decide) (fun K hK => ?_)
   refine goes_ Try.func9 (by kernel_rfl) rfl #[.agg #[.string a1_0, .slice A1_1 l1_1.length c1_1]] (by rfl) rfl rfl y9 ?_
   with_reducible refine (laws_toPlace.calls k a1_0 _ _ l1_1 t246 t247 _ ?side1 ?side2 A18.out).mono ?_
   (case side1 => exact y10 HR1_1.out HB.out)
   (case side2 => exact HC1_1.out)
   rintro e w23 ⟨v248, rfl, ho0, hb⟩
   refine ⟨_, rfl, ?_⟩
   have HO249 := Aside0.mk (Kd.R_lower (Kd.R_new' ho0 (Kd.R_lt (y0 HO245.out))) (below_size (y1 HB.out GE238.out GE239.out)))
   replace HO245 := Aside0.mk (Kd.R_elder' (y0 HO245.out) (Kd.R_base ho0) hb)
   replace BK238 := zbb BK238 hb
   replace BK239 := zbb BK239 hb
   replace HB := Aside0.mk (below_step (y1 HB.out GE238.out GE239.out) hb)
   (try clear hb)
   (try clear hb2)
   (try clear hk)
   (try clear hi)
   (try clear ho0)
   obtain ⟨Ao24, co24, eo24⟩ := Kd.R_slice HO245.out
   (first | subst eo24 | (injection eo24 with f1_ f2_ f3_; have f4_ := f1_.symm; have f5_ := f3_.symm; clear f1_ f2_ f3_; subst f4_; subst f5_))
   obtain ⟨Ao25, co25, eo25⟩ := Kd.R_slice HO249.out
   (first | subst eo25 | (injection eo25 with f1_ f2_ f3_; have f4_ := f1_.symm; have f5_ := f3_.symm; clear f1_ f2_ f3_; subst f4_; subst f5_))
   refine hK.out _ _ ⟨(blk_cell BK238.out 0).trans rfl, (blk_cell BK238.out 1).trans rfl, (blk_cell BK239.out 0).trans rfl, (blk_cell BK239.out 1).trans rfl⟩ (fun hHeld => ?_)
   clear hK K
   refine norm_ (a' := ?_) ?_ ?_
   rotate_left
   ·show Act.put _ (some 23) _ = _
    simp only [Act.put, List.setIfInBounds_toArray, List.set_cons_zero, List.set_cons_succ, i64_w, i32_w]
    rfl
   refine one_ (i := 4) (N := some 24) #[true, true, true, true, true, false] rfl rfl (by kernel_rfl) (by decide) (fun K hK => ?_)
   refine goes_ Try.func7 (by kernel_rfl) rfl #[.agg #[.string t242, .slice Ao24 t243.length co24], .agg #[.string t246, .slice Ao25 t247.length co25]] (by rfl) rfl rfl y9 ?_
   with_reducible refine (spec_LendMeet.calls k t242 _ _ t243 t246 _ _ t247 t250 _ ?side1 ?side2 ?side3 ?side4 A19.out).mono ?_
   (case side1 => exact y15 HO245.out)
   (case side2 => exact (Kd.R_reads' HO245.out).2.1)
   (case side3 => exact y15 HO249.out)
   (case side4 => exact (Kd.R_reads' HO249.out).2.1)
   rintro e w26 ⟨rfl, hb⟩
   refine ⟨_, rfl, ?_⟩
   replace HO245 := Aside0.mk (Kd.R_below (y0 HO245.out) hb)
   replace HO249 := Aside0.mk (Kd.R_below (y0 HO249.out) hb)
   replace BK238 := zbb BK238 hb
   replace BK239 := zbb BK239 hb
   replace HB := Aside0.mk (below_step (y1 HB.out GE238.out GE239.out) hb)
   (try clear hb)
   (try clear hb2)
   (try clear hk)
   (try clear hi)
   refine hK.out _ _ ⟨(blk_cell BK238.out 0).trans rfl, (blk_cell BK238.out 1).trans rfl, (blk_cell BK239.out 0).trans rfl, (blk_cell BK239.out 1).trans rfl⟩ (fun hHeld => ?_)
   clear hK K
   refine norm_ (a' := ?_) ?_ ?_
   rotate_left
   ·show Act.put _ (some 24) _ = _
    simp only [Act.put, List.setIfInBounds_toArray, List.set_cons_zero, List.set_cons_succ, i64_w, i32_w]
    rfl
   refine pure_ (i := 5) (N := some 6) (v := ?_) (a' := ?_) #[true, true, true, true, true, true] rfl rfl (by kernel_rfl) (fun _ _ _ h => h) (Or.inl ⟨(by rfl), ?_⟩) ?_ ?_
   rotate_left
   ·intro w'
    go_simp
    with_reducible rfl
   rotate_left
   ·simp only [Act.put, List.setIfInBounds_toArray, List.set_cons_zero, List.set_cons_succ, i64_w, i32_w]
    rfl
   refine done_ (by kernel_rfl) ?_
   have H := HZ20.out
   clear HZ20
   obtain ⟨⟨t251, t252⟩, A270, H⟩ := ob H
   have A27 := Aside0.mk A270
   clear A270
   obtain ⟨⟨t256, t257⟩, A280, H⟩ := ob H
   have A28 := Aside0.mk A280
   clear A280
   obtain ⟨t261, A290, H⟩ := ob H
   have A29 := Aside0.mk A290
   clear A290
   have HZ30 := Aside0.mk H
   clear H
   have hnb31 := NB238_239.out
   have hnc31 := NB239_238.out
   have hcz32_0 := zh BK238
   have hcz32_1 := zh1 BK238
   have hfz32_0 := zfr BK238 0
   have hfz32_1 := zfr BK238 1
   go_upto_if 34 with (first | ((with_reducible refine gate_callee (f := 9) rfl ?_); refine goesL_ (some 26) rfl rfl Try.func9 (by kernel_rfl) rfl #[.agg #[.string a0_0, .slice A0_1 l0_1.length c0_1]] rfl y9 ?_; (with_reducible refine (laws_toPlace.calls k a0_0 _ _ l0_1 t251 t252 _ ?side1 ?side2 A27.out).mono ?_); (case side1 => exact y10 HR0_1.out HB.out); (case side2 => exact HC0_1.out); rintro e w33 ⟨v253, rfl, ho0, hb⟩; refine ⟨_, rfl, ?_⟩; have HO254 := Aside0.mk (Kd.R_lower (Kd.R_new' (Kd.R_new' ho0 (Kd.R_lt (y0 HO245.out))) (Kd.R_lt (y0 HO249.out))) (below_size (y1 HB.out GE238.out GE239.out))); replace HO245 := Aside0.mk (Kd.R_elder' (y0 HO245.out) (Kd.R_base ho0) hb); replace HO249 := Aside0.mk (Kd.R_elder' (y0 HO249.out) (Kd.R_base ho0) hb); replace BK238 := zbb BK238 hb; replace BK239 := zbb BK239 hb; replace HB := Aside0.mk (below_step (y1 HB.out GE238.out GE239.out) hb); (try clear hb); (try clear hb2); (try clear hk); (try clear hi); (try clear ho0)) | ((with_reducible refine gate_dst (N := 7) rfl ?_); refine zbx 7 #[.string (⟨#[]⟩ : ByteArray), .slice none 0 0] 25 ?_; intro gb255 hg w34 hbox hb; replace HO245 := Aside0.mk (Kd.R_below (y0 HO245.out) hb); replace HO249 := Aside0.mk (Kd.R_below (y0 HO249.out) hb); replace HO254 := Aside0.mk (Kd.R_below (y0 HO254.out) hb); have BK255 := Aside0.mk hbox; have GW255 := Aside0.mk ((y18 hg HB.out GE238.out GE239.out : w.heap.size ≤ gb255)); have GE255 := Aside0.mk ((y18 hg HB.out GE238.out GE239.out : w.heap.size ≤ gb255)); replace HB := Aside0.mk (below_step (y1 HB.out GE238.out GE239.out) hb); have NB238_255 := zltn hg BK238; have NB255_238 := zgtn hg BK238; replace BK238 := zbb BK238 hb; have NB239_255 := zltn hg BK239; have NB255_239 := zgtn hg BK239; replace BK239 := zbb BK239 hb; clear hb hbox hg; have hnb35 := NB255_238.out; have hnc35 := NB238_255.out; have hnb36 := NB255_239.out; have hnc36 := NB239_255.out; have hcz37_0 := zh BK255; have hcz37_1 := zh1 BK255; have hfz37_0 := zfr BK255 0; have hfz37_1 := zfr BK255 1; obtain ⟨Ao38, co38, eo38⟩ := Kd.R_slice HO254.out; subst eo38; have hcz39_0 := zh BK239; have hcz39_1 := zh1 BK239; have hfz39_0 := zfr BK239 0; have hfz39_1 := zfr BK239 1) | ((with_reducible refine gate_callee (f := 9) rfl ?_); refine goesL_ (some 28) rfl rfl Try.func9 (by kernel_rfl) rfl #[.agg #[.string a1_0, .slice A1_1 l1_1.length c1_1]] rfl y9 ?_; (with_reducible refine (laws_toPlace.calls k a1_0 _ _ l1_1 t256 t257 _ ?side1 ?side2 A28.out).mono ?_); (case side1 => exact y54 HR1_1.out HB.out GE238.out GE239.out GE255.out); (case side2 => exact HC1_1.out); rintro e w40 ⟨v258, rfl, ho0, hb⟩; refine ⟨_, rfl, ?_⟩; have HO259 := Aside0.mk (Kd.R_lower (Kd.R_new' (Kd.R_new' (Kd.R_new' ho0 (Kd.R_lt (by (with_reducible repeat (first | apply Kd.R_alloc | apply Kd.R_drewN | apply Kd.R_drew)); exact (Kd.R_mono (Kd.R_far (p := ⟨gb255, 1, none⟩) (Kd.R_far (p := ⟨gb255, 0, none⟩) (Kd.R_types HO245.out BK255.out (by decide)) (fun _ hk => hk.2) (.string t251)) (fun _ hk => hk.2) (.slice Ao38 t252.length co38)) (fun _ h_ => h_.1))))) (Kd.R_lt (by (with_reducible repeat (first | apply Kd.R_alloc | apply Kd.R_drewN | apply Kd.R_drew)); exact (Kd.R_mono (Kd.R_far (p := ⟨gb255, 1, none⟩) (Kd.R_far (p := ⟨gb255, 0, none⟩) (Kd.R_types HO249.out BK255.out (by decide)) (fun _ hk => hk.2) (.string t251)) (fun _ hk => hk.2) (.slice Ao38 t252.length co38)) (fun _ h_ => h_.1))))) (Kd.R_lt (by (with_reducible repeat (first | apply Kd.R_alloc | apply Kd.R_drewN | apply Kd.R_drew)); exact (Kd.R_mono (Kd.R_far (p := ⟨gb255, 1, none⟩) (Kd.R_far (p := ⟨gb255, 0, none⟩) (Kd.R_types HO254.out BK255.out (by decide)) (fun _ hk => hk.2) (.string t251)) (fun _ hk => hk.2) (.slice Ao38 t252.length co38)) (fun _ h_ => h_.1))))) (below_size (y5 HB.out GE238.out GE239.out GE255.out))); replace HO245 := Aside0.mk (Kd.R_elder' (by (with_reducible repeat (first | apply Kd.R_alloc | apply Kd.R_drewN | apply Kd.R_drew)); exact (Kd.R_mono (Kd.R_far (p := ⟨gb255, 1, none⟩) (Kd.R_far (p := ⟨gb255, 0, none⟩) (Kd.R_types HO245.out BK255.out (by decide)) (fun _ hk => hk.2) (.string t251)) (fun _ hk => hk.2) (.slice Ao38 t252.length co38)) (fun _ h_ => h_.1))) (Kd.R_base ho0) hb); replace HO249 := Aside0.mk (Kd.R_elder' (by (with_reducible repeat (first | apply Kd.R_alloc | apply Kd.R_drewN | apply Kd.R_drew)); exact (Kd.R_mono (Kd.R_far (p := ⟨gb255, 1, none⟩) (Kd.R_far (p := ⟨gb255, 0, none⟩) (Kd.R_types HO249.out BK255.out (by decide)) (fun _ hk => hk.2) (.string t251)) (fun _ hk => hk.2) (.slice Ao38 t252.length co38)) (fun _ h_ => h_.1))) (Kd.R_base ho0) hb); replace HO254 := Aside0.mk (Kd.R_elder' (by (with_reducible repeat (first | apply Kd.R_alloc | apply Kd.R_drewN | apply Kd.R_drew)); exact (Kd.R_mono (Kd.R_far (p := ⟨gb255, 1, none⟩) (Kd.R_far (p := ⟨gb255, 0, none⟩) (Kd.R_types HO254.out BK255.out (by decide)) (fun _ hk => hk.2) (.string t251)) (fun _ hk => hk.2) (.slice Ao38 t252.length co38)) (fun _ h_ => h_.1))) (Kd.R_base ho0) hb); replace BK238 := Aside0.mk (blk_below (g := gb238) (o := .cells #[.string a0_0, .slice A0_1 l0_1.length c0_1] 30 (0, 0)) (y8 NB238_255.out BK238.out) hb); replace BK239 := Aside0.mk (blk_below (g := gb239) (o := .cells #[.string a1_0, .slice A1_1 l1_1.length c1_1] 30 (0, 0)) (y8 NB239_255.out BK239.out) hb); replace BK255 := Aside0.mk (blk_below (g := gb255) (o := .cells #[.string t251, .slice Ao38 t252.length co38] 25 (0, 0)) (by (with_reducible repeat (first | refine blk_drewN ?_ _ | refine blk_drew ?_ | refine blk_alloc ?_ _)); refine blk_put (cs := #[.string t251, .slice none 0 0]) ?_ 1 _ rfl; (with_reducible repeat (first | refine blk_drewN ?_ _ | refine blk_drew ?_ | refine blk_alloc ?_ _)); apply blk_put (i := 0); (case h => exact y2 BK255.out); (case e => rfl)) hb); replace HB := Aside0.mk (below_step (y5 HB.out GE238.out GE239.out GE255.out) hb); (try clear hb); (try clear hb2); (try clear hk); (try clear hi); (try clear ho0)) | ((with_reducible refine gate_dst (N := 8) rfl ?_); refine zbx 8 #[.string (⟨#[]⟩ : ByteArray), .slice none 0 0] 25 ?_; intro gb260 hg w41 hbox hb; replace HO245 := Aside0.mk (Kd.R_below (y0 HO245.out) hb); replace HO249 := Aside0.mk (Kd.R_below (y0 HO249.out) hb); replace HO254 := Aside0.mk (Kd.R_below (y0 HO254.out) hb); replace HO259 := Aside0.mk (Kd.R_below (y0 HO259.out) hb); have BK260 := Aside0.mk hbox; have GW260 := Aside0.mk ((y53 hg HB.out GE238.out GE239.out GE255.out : w.heap.size ≤ gb260)); have GE260 := Aside0.mk ((y53 hg HB.out GE238.out GE239.out GE255.out : w.heap.size ≤ gb260)); replace HB := Aside0.mk (below_step (y5 HB.out GE238.out GE239.out GE255.out) hb); have NB238_260 := zltn hg BK238; have NB260_238 := zgtn hg BK238; replace BK238 := zbb BK238 hb; have NB239_260 := zltn hg BK239; have NB260_239 := zgtn hg BK239; replace BK239 := zbb BK239 hb; have NB255_260 := zltn hg BK255; have NB260_255 := zgtn hg BK255; replace BK255 := zbb BK255 hb; clear hb hbox hg; have hnb42 := NB260_238.out; have hnc42 := NB238_260.out; have hnb43 := NB260_239.out; have hnc43 := NB239_260.out; have hnb44 := NB260_255.out; have hnc44 := NB255_260.out; have hcz45_0 := zh BK260; have hcz45_1 := zh1 BK260; have hfz45_0 := zfr BK260 0; have hfz45_1 := zfr BK260 1; obtain ⟨Ao46, co46, eo46⟩ := Kd.R_slice HO259.out; subst eo46; have hcz47_0 := zh BK255; have hcz47_1 := zh1 BK255; have hfz47_0 := zfr BK255 0; have hfz47_1 := zfr BK255 1) | ((with_reducible refine gate_callee (f := 6) rfl ?_); refine goesL_ (some 31) rfl rfl Try.func6 (by kernel_rfl) rfl #[.agg #[.string t251, .slice Ao38 t252.length co38], .agg #[.string t256, .slice Ao46 t257.length co46]] rfl y9 ?_; (with_reducible refine (impl_LendMeet.calls k t251 _ _ t252 t256 _ _ t257 t261 _ ?side1 ?side2 ?side3 ?side4 A29.out).mono ?_); (case side1 => refine (Kd.R_reads' (e := 3) (base := w.heap.size) (ok := fun k_ => (((True ∧ some k_ ≠ (.slice Ao24 t243.length co24 : Value).ownBlock) ∧ some k_ ≠ (.slice Ao25 t247.length co25 : Value).ownBlock) ∧ some k_ ≠ (.slice Ao46 t257.length co46 : Value).ownBlock)) (n := t252.length) (c := co38) ?_).2.2; exact (by (with_reducible repeat (first | apply Kd.R_alloc | apply Kd.R_drewN | apply Kd.R_drew)); exact (Kd.R_mono (Kd.R_far (p := ⟨gb260, 1, none⟩) (Kd.R_far (p := ⟨gb260, 0, none⟩) (Kd.R_types HO254.out BK260.out (by decide)) (fun _ hk => hk.2) (.string t256)) (fun _ hk => hk.2) (.slice Ao46 t257.length co46)) (fun _ h_ => h_.1)))); (case side2 => exact (Kd.R_reads' HO254.out).2.1); (case side3 => refine (Kd.R_reads' (e := 3) (base := w.heap.size) (ok := fun k_ => (((True ∧ some k_ ≠ (.slice Ao24 t243.length co24 : Value).ownBlock) ∧ some k_ ≠ (.slice Ao25 t247.length co25 : Value).ownBlock) ∧ some k_ ≠ (.slice Ao38 t252.length co38 : Value).ownBlock)) (n := t257.length) (c := co46) ?_).2.2; exact (by (with_reducible repeat (first | apply Kd.R_alloc | apply Kd.R_drewN | apply Kd.R_drew)); exact (Kd.R_mono (Kd.R_far (p := ⟨gb260, 1, none⟩) (Kd.R_far (p := ⟨gb260, 0, none⟩) (Kd.R_types HO259.out BK260.out (by decide)) (fun _ hk => hk.2) (.string t256)) (fun _ hk => hk.2) (.slice Ao46 t257.length co46)) (fun _ h_ => h_.1)))); (case side4 => exact (Kd.R_reads' HO259.out).2.1); rintro e w48 ⟨rfl, hb⟩; refine ⟨_, rfl, ?_⟩; replace HO245 := Aside0.mk (Kd.R_below (by (with_reducible repeat (first | apply Kd.R_alloc | apply Kd.R_drewN | apply Kd.R_drew)); exact (Kd.R_mono (Kd.R_far (p := ⟨gb260, 1, none⟩) (Kd.R_far (p := ⟨gb260, 0, none⟩) (Kd.R_types HO245.out BK260.out (by decide)) (fun _ hk => hk.2) (.string t256)) (fun _ hk => hk.2) (.slice Ao46 t257.length co46)) (fun _ h_ => h_.1))) hb); replace HO249 := Aside0.mk (Kd.R_below (by (with_reducible repeat (first | apply Kd.R_alloc | apply Kd.R_drewN | apply Kd.R_drew)); exact (Kd.R_mono (Kd.R_far (p := ⟨gb260, 1, none⟩) (Kd.R_far (p := ⟨gb260, 0, none⟩) (Kd.R_types HO249.out BK260.out (by decide)) (fun _ hk => hk.2) (.string t256)) (fun _ hk => hk.2) (.slice Ao46 t257.length co46)) (fun _ h_ => h_.1))) hb); replace HO254 := Aside0.mk (Kd.R_below (by (with_reducible repeat (first | apply Kd.R_alloc | apply Kd.R_drewN | apply Kd.R_drew)); exact (Kd.R_mono (Kd.R_far (p := ⟨gb260, 1, none⟩) (Kd.R_far (p := ⟨gb260, 0, none⟩) (Kd.R_types HO254.out BK260.out (by decide)) (fun _ hk => hk.2) (.string t256)) (fun _ hk => hk.2) (.slice Ao46 t257.length co46)) (fun _ h_ => h_.1))) hb); replace HO259 := Aside0.mk (Kd.R_below (by (with_reducible repeat (first | apply Kd.R_alloc | apply Kd.R_drewN | apply Kd.R_drew)); exact (Kd.R_mono (Kd.R_far (p := ⟨gb260, 1, none⟩) (Kd.R_far (p := ⟨gb260, 0, none⟩) (Kd.R_types HO259.out BK260.out (by decide)) (fun _ hk => hk.2) (.string t256)) (fun _ hk => hk.2) (.slice Ao46 t257.length co46)) (fun _ h_ => h_.1))) hb); replace BK238 := Aside0.mk (blk_below (g := gb238) (o := .cells #[.string a0_0, .slice A0_1 l0_1.length c0_1] 30 (0, 0)) (y8 NB238_260.out BK238.out) hb); replace BK239 := Aside0.mk (blk_below (g := gb239) (o := .cells #[.string a1_0, .slice A1_1 l1_1.length c1_1] 30 (0, 0)) (y8 NB239_260.out BK239.out) hb); replace BK255 := Aside0.mk (blk_below (g := gb255) (o := .cells #[.string t251, .slice Ao38 t252.length co38] 25 (0, 0)) (y8 NB255_260.out BK255.out) hb); replace BK260 := Aside0.mk (blk_below (g := gb260) (o := .cells #[.string t256, .slice Ao46 t257.length co46] 25 (0, 0)) (by (with_reducible repeat (first | refine blk_drewN ?_ _ | refine blk_drew ?_ | refine blk_alloc ?_ _)); refine blk_put (cs := #[.string t256, .slice none 0 0]) ?_ 1 _ rfl; (with_reducible repeat (first | refine blk_drewN ?_ _ | refine blk_drew ?_ | refine blk_alloc ?_ _)); apply blk_put (i := 0); (case h => exact y2 BK260.out); (case e => rfl)) hb); replace HB := Aside0.mk (below_step (y23 HB.out GE238.out GE239.out GE255.out GE260.out) hb); (try clear hb); (try clear hb2); (try clear hk); (try clear hi)))
   (try simp only [Act.put, List.setIfInBounds_toArray, List.set_cons_zero, List.set_cons_succ])
   have H := HZ30.out
   clear HZ30
   by_cases c49 : (t261 != t250) = true
   ·rw [if_pos c49] at H
    have c49b0 : (t261 != t250) = true := c49
    (try (have c49b1 : decide (t261 = t250) = false := by simpa using c49))
    (try (have c49b2 : (t261 == t250) = false := by simpa using c49))
    (try (have c49b3 : ¬ (t261 = t250) := by simpa using c49))
    clear c49
    (first | rw [c49b0] | (simp only [i64_w, i32_w]; rw [c49b0]) | rw [show (!t261 == t250) = (t261 != t250) from by cases t261 <;> cases t250 <;> rfl, c49b0] | skip)
    exact absurd ((Option.some.inj H).trans hr_.out) (by decide)
   ·rw [if_neg c49] at H
    have c49b0 : (t261 != t250) = false := by simpa using c49
    (try (have c49b1 : decide (t261 = t250) = true := by simpa using c49))
    (try (have c49b2 : (t261 == t250) = true := by simpa using c49))
    clear c49
    (first | rw [c49b0] | (simp only [i64_w, i32_w]; rw [c49b0]) | rw [show (!t261 == t250) = (t261 != t250) from by cases t261 <;> cases t250 <;> rfl, c49b0] | skip)
    obtain ⟨⟨t262, t263⟩, A500, H⟩ := ob H
    have A50 := Aside0.mk A500
    clear A500
    obtain ⟨t266, A510, H⟩ := ob H
    have A51 := Aside0.mk A510
    clear A510
    have HZ52 := Aside0.mk H
    clear H
    try go_wp2
    replace HO245 := Aside0.mk (Kd.R_drew HO245.out)
    replace HO249 := Aside0.mk (Kd.R_drew HO249.out)
    replace HO254 := Aside0.mk (Kd.R_drew HO254.out)
    replace HO259 := Aside0.mk (Kd.R_drew HO259.out)
    replace BK238 := Aside0.mk (blk_drew BK238.out)
    replace BK239 := Aside0.mk (blk_drew BK239.out)
    replace BK255 := Aside0.mk (blk_drew BK255.out)
    replace BK260 := Aside0.mk (blk_drew BK260.out)
    replace HB := Aside0.mk (below_drew1 HB.out)
    refine start_ (n := 5) (S := fun w' => w'.cell? ⟨gb255, 0, none⟩ = some (.string t251) ∧ w'.cell? ⟨gb255, 1, none⟩ = some (.slice Ao38 t252.length co38) ∧ w'.cell? ⟨gb238, 0, none⟩ = some (.string a0_0) ∧ w'.cell? ⟨gb238, 1, none⟩ = some (.slice A0_1 l0_1.length c0_1)) (ds := []) #[false, false, false, false, false] (by kernel_rfl) rfl rfl ⟨(blk_cell BK255.out 0).trans rfl, (blk_cell BK255.out 1).trans rfl, (blk_cell BK238.out 0).trans rfl, (blk_cell BK238.out 1).trans rfl⟩ (fun hHeld => ?_)
    generalize w48.drew = w53 at HO245 HO249 HO254 HO259 BK238 BK239 BK255 BK260 HB hHeld ⊢
    refine take_ (i := 0) (N := some 35) (v := ?_) (a' := ?_) #[true, false, false, false, false] rfl rfl (by kernel_rfl) (fun _ _ _ h => h) (Or.inl ⟨(by rfl), ?_⟩) hHeld ?_ ?_
    rotate_left
    ·rintro w' ⟨s0, s1, s2, s3⟩
     go_simp
     with_reducible rfl
    rotate_left
    ·simp only [Act.put, List.setIfInBounds_toArray, List.set_cons_zero, List.set_cons_succ, i64_w, i32_w]
     rfl
    refine take_ (i := 1) (N := some 36) (v := ?_) (a' := ?_) #[true, true, false, false, false] rfl rfl (by kernel_rfl) (fun _ _ _ h => h) (Or.inl ⟨(by rfl), ?_⟩) hHeld ?_ ?_
    rotate_left
    ·rintro w' ⟨s0, s1, s2, s3⟩
     go_simp
     with_reducible rfl
    rotate_left
    ·simp only [Act.put, List.setIfInBounds_toArray, List.set_cons_zero, List.set_cons_succ, i64_w, i32_w]
     rfl
    refine one_ (i := 2) (N := some 37) #[true, true, true, false, false] rfl rfl (by kernel_rfl) (by decide) (fun K hK => ?_)
    refine goes_ Try.func9 (by kernel_rfl) rfl #[.agg #[.string a0_0, .slice A0_1 l0_1.length c0_1]] (by rfl) rfl rfl y9 ?_
    with_reducible refine (laws_toPlace.calls k a0_0 _ _ l0_1 t262 t263 _ ?side1 ?side2 A50.out).mono ?_
    (case side1 => exact y10 HR0_1.out HB.out)
    (case side2 => exact HC0_1.out)
    rintro e w54 ⟨v264, rfl, ho0, hb⟩
    refine ⟨_, rfl, ?_⟩
    have HO265 := Aside0.mk (Kd.R_lower (Kd.R_new' (Kd.R_new' (Kd.R_new' (Kd.R_new' ho0 (Kd.R_lt (y0 HO245.out))) (Kd.R_lt (y0 HO249.out))) (Kd.R_lt (y0 HO254.out))) (Kd.R_lt (y0 HO259.out))) (below_size (y23 HB.out GE238.out GE239.out GE255.out GE260.out)))
    replace HO245 := Aside0.mk (Kd.R_elder' (y0 HO245.out) (Kd.R_base ho0) hb)
    replace HO249 := Aside0.mk (Kd.R_elder' (y0 HO249.out) (Kd.R_base ho0) hb)
    replace HO254 := Aside0.mk (Kd.R_elder' (y0 HO254.out) (Kd.R_base ho0) hb)
    replace HO259 := Aside0.mk (Kd.R_elder' (y0 HO259.out) (Kd.R_base ho0) hb)
    replace BK238 := zbb BK238 hb
    replace BK239 := zbb BK239 hb
    replace BK255 := zbb BK255 hb
    replace BK260 := zbb BK260 hb
    replace HB := Aside0.mk (below_step (y23 HB.out GE238.out GE239.out GE255.out GE260.out) hb)
    (try clear hb)
    (try clear hb2)
    (try clear hk)
    (try clear hi)
    (try clear ho0)
    obtain ⟨Ao55, co55, eo55⟩ := Kd.R_slice HO265.out
    (first | subst eo55 | (injection eo55 with f1_ f2_ f3_; have f4_ := f1_.symm; have f5_ := f3_.symm; clear f1_ f2_ f3_; subst f4_; subst f5_))
    refine hK.out _ _ ⟨(blk_cell BK255.out 0).trans rfl, (blk_cell BK255.out 1).trans rfl, (blk_cell BK238.out 0).trans rfl, (blk_cell BK238.out 1).trans rfl⟩ (fun hHeld => ?_)
    clear hK K
    refine norm_ (a' := ?_) ?_ ?_
    rotate_left
    ·show Act.put _ (some 37) _ = _
     simp only [Act.put, List.setIfInBounds_toArray, List.set_cons_zero, List.set_cons_succ, i64_w, i32_w]
     rfl
    refine one_ (i := 3) (N := some 38) #[true, true, true, true, false] rfl rfl (by kernel_rfl) (by decide) (fun K hK => ?_)
    refine goes_ Try.func10 (by kernel_rfl) rfl #[.agg #[.string t251, .slice Ao38 t252.length co38], .agg #[.string t262, .slice Ao55 t263.length co55]] (by rfl) rfl rfl y9 ?_
    with_reducible refine (laws_eqPlace.calls k t251 _ _ t252 t262 _ _ t263 t266 _ ?side1 ?side2 ?side3 ?side4 A51.out).mono ?_
    (case side1 => exact y15 HO254.out)
    (case side2 => exact (Kd.R_reads' HO254.out).2.1)
    (case side3 => exact y15 HO265.out)
    (case side4 => exact (Kd.R_reads' HO265.out).2.1)
    rintro e w56 ⟨rfl, hb⟩
    refine ⟨_, rfl, ?_⟩
    replace HO245 := Aside0.mk (Kd.R_below (y0 HO245.out) hb)
    replace HO249 := Aside0.mk (Kd.R_below (y0 HO249.out) hb)
    replace HO254 := Aside0.mk (Kd.R_below (y0 HO254.out) hb)
    replace HO259 := Aside0.mk (Kd.R_below (y0 HO259.out) hb)
    replace HO265 := Aside0.mk (Kd.R_below (y0 HO265.out) hb)
    replace BK238 := zbb BK238 hb
    replace BK239 := zbb BK239 hb
    replace BK255 := zbb BK255 hb
    replace BK260 := zbb BK260 hb
    replace HB := Aside0.mk (below_step (y23 HB.out GE238.out GE239.out GE255.out GE260.out) hb)
    (try clear hb)
    (try clear hb2)
    (try clear hk)
    (try clear hi)
    refine hK.out _ _ ⟨(blk_cell BK255.out 0).trans rfl, (blk_cell BK255.out 1).trans rfl, (blk_cell BK238.out 0).trans rfl, (blk_cell BK238.out 1).trans rfl⟩ (fun hHeld => ?_)
    clear hK K
    refine norm_ (a' := ?_) ?_ ?_
    rotate_left
    ·show Act.put _ (some 38) _ = _
     simp only [Act.put, List.setIfInBounds_toArray, List.set_cons_zero, List.set_cons_succ, i64_w, i32_w]
     rfl
    refine pure_ (i := 4) (N := some 39) (v := ?_) (a' := ?_) #[true, true, true, true, true] rfl rfl (by kernel_rfl) (fun _ _ _ h => h) (Or.inl ⟨(by rfl), ?_⟩) ?_ ?_
    rotate_left
    ·intro w'
     go_simp
     with_reducible rfl
    rotate_left
    ·simp only [Act.put, List.setIfInBounds_toArray, List.set_cons_zero, List.set_cons_succ, i64_w, i32_w]
     rfl
    refine done_ (by kernel_rfl) ?_
    have H := HZ52.out
    clear HZ52
    by_cases c57 : t266 = true
    ·subst c57
     rw [if_pos rfl] at H
     obtain ⟨⟨t267, t268⟩, A580, H⟩ := ob H
     have A58 := Aside0.mk A580
     clear A580
     obtain ⟨t271, A590, H⟩ := ob H
     have A59 := Aside0.mk A590
     clear A590
     have HZ60 := Aside0.mk H
     clear H
     try go_wp2
     replace HO245 := Aside0.mk (Kd.R_drew HO245.out)
     replace HO249 := Aside0.mk (Kd.R_drew HO249.out)
     replace HO254 := Aside0.mk (Kd.R_drew HO254.out)
     replace HO259 := Aside0.mk (Kd.R_drew HO259.out)
     replace HO265 := Aside0.mk (Kd.R_drew HO265.out)
     replace BK238 := Aside0.mk (blk_drew BK238.out)
     replace BK239 := Aside0.mk (blk_drew BK239.out)
     replace BK255 := Aside0.mk (blk_drew BK255.out)
     replace BK260 := Aside0.mk (blk_drew BK260.out)
     replace HB := Aside0.mk (below_drew1 HB.out)
     refine start_ (n := 5) (S := fun w' => w'.cell? ⟨gb260, 0, none⟩ = some (.string t256) ∧ w'.cell? ⟨gb260, 1, none⟩ = some (.slice Ao46 t257.length co46) ∧ w'.cell? ⟨gb239, 0, none⟩ = some (.string a1_0) ∧ w'.cell? ⟨gb239, 1, none⟩ = some (.slice A1_1 l1_1.length c1_1)) (ds := []) #[false, false, false, false, false] (by kernel_rfl) rfl rfl ⟨(blk_cell BK260.out 0).trans rfl, (blk_cell BK260.out 1).trans rfl, (blk_cell BK239.out 0).trans rfl, (blk_cell BK239.out 1).trans rfl⟩ (fun hHeld => ?_)
     generalize w56.drew = w61 at HO245 HO249 HO254 HO259 HO265 BK238 BK239 BK255 BK260 HB hHeld ⊢
     refine take_ (i := 0) (N := some 40) (v := ?_) (a' := ?_) #[true, false, false, false, false] rfl rfl (by kernel_rfl) (fun _ _ _ h => h) (Or.inl ⟨(by rfl), ?_⟩) hHeld ?_ ?_
     rotate_left
     ·rintro w' ⟨s0, s1, s2, s3⟩
      go_simp
      with_reducible rfl
     rotate_left
     ·simp only [Act.put, List.setIfInBounds_toArray, List.set_cons_zero, List.set_cons_succ, i64_w, i32_w]
      rfl
     refine take_ (i := 1) (N := some 41) (v := ?_) (a' := ?_) #[true, true, false, false, false] rfl rfl (by kernel_rfl) (fun _ _ _ h => h) (Or.inl ⟨(by rfl), ?_⟩) hHeld ?_ ?_
     rotate_left
     ·rintro w' ⟨s0, s1, s2, s3⟩
      go_simp
      with_reducible rfl
     rotate_left
     ·simp only [Act.put, List.setIfInBounds_toArray, List.set_cons_zero, List.set_cons_succ, i64_w, i32_w]
      rfl
     refine one_ (i := 2) (N := some 42) #[true, true, true, false, false] rfl rfl (by kernel_rfl) (by decide) (fun K hK => ?_)
     refine goes_ Try.func9 (by kernel_rfl) rfl #[.agg #[.string a1_0, .slice A1_1 l1_1.length c1_1]] (by rfl) rfl rfl y9 ?_
     with_reducible refine (laws_toPlace.calls k a1_0 _ _ l1_1 t267 t268 _ ?side1 ?side2 A58.out).mono ?_
     (case side1 => exact y10 HR1_1.out HB.out)
     (case side2 => exact HC1_1.out)
     rintro e w62 ⟨v269, rfl, ho0, hb⟩
     refine ⟨_, rfl, ?_⟩
     have HO270 := Aside0.mk (Kd.R_lower (Kd.R_new' (Kd.R_new' (Kd.R_new' (Kd.R_new' (Kd.R_new' ho0 (Kd.R_lt (y0 HO245.out))) (Kd.R_lt (y0 HO249.out))) (Kd.R_lt (y0 HO254.out))) (Kd.R_lt (y0 HO259.out))) (Kd.R_lt (y0 HO265.out))) (below_size (y23 HB.out GE238.out GE239.out GE255.out GE260.out)))
     replace HO245 := Aside0.mk (Kd.R_elder' (y0 HO245.out) (Kd.R_base ho0) hb)
     replace HO249 := Aside0.mk (Kd.R_elder' (y0 HO249.out) (Kd.R_base ho0) hb)
     replace HO254 := Aside0.mk (Kd.R_elder' (y0 HO254.out) (Kd.R_base ho0) hb)
     replace HO259 := Aside0.mk (Kd.R_elder' (y0 HO259.out) (Kd.R_base ho0) hb)
     replace HO265 := Aside0.mk (Kd.R_elder' (y0 HO265.out) (Kd.R_base ho0) hb)
     replace BK238 := zbb BK238 hb
     replace BK239 := zbb BK239 hb
     replace BK255 := zbb BK255 hb
     replace BK260 := zbb BK260 hb
     replace HB := Aside0.mk (below_step (y23 HB.out GE238.out GE239.out GE255.out GE260.out) hb)
     (try clear hb)
     (try clear hb2)
     (try clear hk)
     (try clear hi)
     (try clear ho0)
     obtain ⟨Ao63, co63, eo63⟩ := Kd.R_slice HO270.out
     (first | subst eo63 | (injection eo63 with f1_ f2_ f3_; have f4_ := f1_.symm; have f5_ := f3_.symm; clear f1_ f2_ f3_; subst f4_; subst f5_))
     refine hK.out _ _ ⟨(blk_cell BK260.out 0).trans rfl, (blk_cell BK260.out 1).trans rfl, (blk_cell BK239.out 0).trans rfl, (blk_cell BK239.out 1).trans rfl⟩ (fun hHeld => ?_)
     clear hK K
     refine norm_ (a' := ?_) ?_ ?_
     rotate_left
     ·show Act.put _ (some 42) _ = _
      simp only [Act.put, List.setIfInBounds_toArray, List.set_cons_zero, List.set_cons_succ, i64_w, i32_w]
      rfl
     refine one_ (i := 3) (N := some 43) #[true, true, true, true, false] rfl rfl (by kernel_rfl) (by decide) (fun K hK => ?_)
     refine goes_ Try.func10 (by kernel_rfl) rfl #[.agg #[.string t256, .slice Ao46 t257.length co46], .agg #[.string t267, .slice Ao63 t268.length co63]] (by rfl) rfl rfl y9 ?_
     with_reducible refine (laws_eqPlace.calls k t256 _ _ t257 t267 _ _ t268 t271 _ ?side1 ?side2 ?side3 ?side4 A59.out).mono ?_
     (case side1 => exact y15 HO259.out)
     (case side2 => exact (Kd.R_reads' HO259.out).2.1)
     (case side3 => exact y15 HO270.out)
     (case side4 => exact (Kd.R_reads' HO270.out).2.1)
     rintro e w64 ⟨rfl, hb⟩
     refine ⟨_, rfl, ?_⟩
     replace HO245 := Aside0.mk (Kd.R_below (y0 HO245.out) hb)
     replace HO249 := Aside0.mk (Kd.R_below (y0 HO249.out) hb)
     replace HO254 := Aside0.mk (Kd.R_below (y0 HO254.out) hb)
     replace HO259 := Aside0.mk (Kd.R_below (y0 HO259.out) hb)
     replace HO265 := Aside0.mk (Kd.R_below (y0 HO265.out) hb)
     replace HO270 := Aside0.mk (Kd.R_below (y0 HO270.out) hb)
     replace BK238 := zbb BK238 hb
     replace BK239 := zbb BK239 hb
     replace BK255 := zbb BK255 hb
     replace BK260 := zbb BK260 hb
     replace HB := Aside0.mk (below_step (y23 HB.out GE238.out GE239.out GE255.out GE260.out) hb)
     (try clear hb)
     (try clear hb2)
     (try clear hk)
     (try clear hi)
     refine hK.out _ _ ⟨(blk_cell BK260.out 0).trans rfl, (blk_cell BK260.out 1).trans rfl, (blk_cell BK239.out 0).trans rfl, (blk_cell BK239.out 1).trans rfl⟩ (fun hHeld => ?_)
     clear hK K
     refine norm_ (a' := ?_) ?_ ?_
     rotate_left
     ·show Act.put _ (some 43) _ = _
      simp only [Act.put, List.setIfInBounds_toArray, List.set_cons_zero, List.set_cons_succ, i64_w, i32_w]
      rfl
     refine pure_ (i := 4) (N := some 44) (v := ?_) (a' := ?_) #[true, true, true, true, true] rfl rfl (by kernel_rfl) (fun _ _ _ h => h) (Or.inl ⟨(by rfl), ?_⟩) ?_ ?_
     rotate_left
     ·intro w'
      go_simp
      with_reducible rfl
     rotate_left
     ·simp only [Act.put, List.setIfInBounds_toArray, List.set_cons_zero, List.set_cons_succ, i64_w, i32_w]
      rfl
     refine done_ (by kernel_rfl) ?_
     have H := HZ60.out
     clear HZ60
     by_cases c65 : t271 = true
     ·subst c65
      rw [if_pos rfl] at H
      clear hr_
      obtain rfl := Option.some.inj H
      go_wp2
      go_ret
      exact ⟨y16, (y23 HB.out GE238.out GE239.out GE255.out GE260.out)⟩
     ·replace c65 := Bool.eq_false_iff.mpr c65
      subst c65
      rw [if_neg (show ¬ (false = true) by decide)] at H
      exact absurd ((Option.some.inj H).trans hr_.out) (by decide)
    ·replace c57 := Bool.eq_false_iff.mpr c57
     subst c57
     rw [if_neg (show ¬ (false = true) by decide)] at H
     exact absurd ((Option.some.inj H).trans hr_.out) (by decide)
end Go.Proofs.Ythhjdngailhihaa.PA
end
section
namespace Go.Proofs.Ythhjdngailhihaa.PA
open Go.RowKit Go.Proofs.YthhjdngailhihaaW.PrintWords Go.Proofs.YthhjdngailhihaaW.PrintLast Go.Proofs.YthhjdngailhihaaW.PrintMore
attribute [local go_sem] max2_int min2_int max_two min_two max_three min_three max_four min_four
set_option linter.unusedVariables false
set_option linter.unusedSimpArgs false
def IsS43 (w0 W : World) (g : Nat) (f0 : List Int) (f1 : Int) : Prop := ∃ A0 c0, W.heap[g]? = some (.cells #[.slice A0 f0.length c0, .int .i64 f1] 43 (0, 0)) ∧ w0.heap.size ≤ g ∧ Kd.C (Kd.int .u8) w0 A0 f0.length f0
theorem IsS43.grown {w0 W : World} {g : Nat} {f0 : List Int} {f1 : Int} {W1 : World} {row : Option Nat} (h : IsS43 w0 W g f0 f1) (hw : W.grownBy W1 row) (hne : some g ≠ row) : IsS43 w0 W1 g f0 f1 := by
 obtain ⟨A0, c0, hb, hg, hr0⟩ := h
 exact ⟨A0, c0, blk_grown hb hw hne, hg, hr0⟩
theorem IsS43.own_neN {w0 W : World} {g : Nat} {f0 : List Int} {f1 : Int} {α : Type} {d : Kd α} {e : Nat} {base : Nat} {ok : Nat → Prop} {v : Value} {xs : List α} (h : IsS43 w0 W g f0 f1) (ho : Kd.N d e W base ok v xs) (ht : e ≠ 43) : some g ≠ v.ownBlock := by
 obtain ⟨A0, c0, hb, hg, hr0⟩ := h
 exact Kd.N_ne ho hb ht
theorem IsS43.fresh {w0 W : World} {g : Nat} {f0 : List Int} {f1 : Int} (h : IsS43 w0 W g f0 f1) : ∀ k, W.heap.size ≤ k → k ≠ g := by
 obtain ⟨A0, c0, hb, hg, hr0⟩ := h
 exact Kd.freshB hb
theorem IsS43.kept {w0 W : World} {g : Nat} {f0 : List Int} {f1 : Int} {W1 : World} {S : Nat → Prop} (h : IsS43 w0 W g f0 f1) (hk : Kept W W1 S) (hne : ¬ S g) : IsS43 w0 W1 g f0 f1 := by
 obtain ⟨A0, c0, hb, hg, hr0⟩ := h
 exact ⟨A0, c0, blk_kept hb hk hne, hg, hr0⟩
theorem IsS43.below {w0 W : World} {g : Nat} {f0 : List Int} {f1 : Int} {W1 : World} (h : IsS43 w0 W g f0 f1) (hw : Below W.heap.size W W1) : IsS43 w0 W1 g f0 f1 := h.grown (grown_of_below hw none) (by simp)
theorem IsS43.alloc {w0 W : World} {g : Nat} {f0 : List Int} {f1 : Int} (h : IsS43 w0 W g f0 f1) (o : Obj) : IsS43 w0 (W.alloc o) g f0 f1 := h.below (below_alloc (Below.refl _ _) o)
theorem IsS43.drewN {w0 W : World} {g : Nat} {f0 : List Int} {f1 : Int} (h : IsS43 w0 W g f0 f1) (m : Nat) : IsS43 w0 (W.drewN m) g f0 f1 := h
theorem IsS43.drew {w0 W : World} {g : Nat} {f0 : List Int} {f1 : Int} (h : IsS43 w0 W g f0 f1) : IsS43 w0 W.drew g f0 f1 := h
theorem IsS43.at_ {w0 W : World} {g : Nat} {f0 : List Int} {f1 : Int} {w' : World} {m : Nat} (hq : W.drewN m = w') (h : IsS43 w0 W g f0 f1) : IsS43 w0 w' g f0 f1 := by subst hq; exact IsS43.drewN h m
theorem IsS43.apart {w0 W : World} {g : Nat} {f0 : List Int} {f1 : Int} {α : Type} {d : Kd α} {e : Nat} {base : Nat} {ok : Nat → Prop} {v : Value} {xs : List α} (h : IsS43 w0 W g f0 f1) (ho : d.R e W base ok v xs) (ht : ∀ q, q ∈ e :: d.E → q ≠ 43) : d.R e W base (fun k => ok k ∧ k ≠ g) v xs := by
 obtain ⟨A0, c0, hb, hg, hr0⟩ := h
 exact Kd.R_types ho hb ht
theorem IsS43.own_ne {w0 W : World} {g : Nat} {f0 : List Int} {f1 : Int} {α : Type} {d : Kd α} {e : Nat} {base : Nat} {ok : Nat → Prop} {v : Value} {xs : List α} (h : IsS43 w0 W g f0 f1) (ho : d.R e W base ok v xs) (ht : e ≠ 43) : some g ≠ v.ownBlock := by
 obtain ⟨A0, c0, hb, hg, hr0⟩ := h
 exact Kd.R_ne ho hb ht
theorem IsS43.apartQ {w0 W : World} {g : Nat} {f0 : List Int} {f1 : Int} {α : Type} {d : Kd α} {e : Nat} {base : Nat} {ok : Nat → Prop} {v : Value} {xs : List α} (h : IsS43 w0 W g f0 f1) (ho : d.Q e W base ok v xs) (ht : ∀ q, q ∈ e :: d.E → q ≠ 43) : d.Q e W base (fun k => ok k ∧ k ≠ g) v xs := by
 obtain ⟨A0, c0, hb, hg, hr0⟩ := h
 exact Kd.Q_types ho hb ht
theorem IsS43.own_neQ {w0 W : World} {g : Nat} {f0 : List Int} {f1 : Int} {α : Type} {d : Kd α} {e : Nat} {base : Nat} {ok : Nat → Prop} {v : Value} {xs : List α} (h : IsS43 w0 W g f0 f1) (ho : d.Q e W base ok v xs) (ht : e ≠ 43) : some g ≠ v.ownBlock := by
 obtain ⟨A0, c0, hb, hg, hr0⟩ := h
 exact Kd.Q_ne ho hb ht
theorem IsS43.apartS {w0 W : World} {g : Nat} {f0 : List Int} {f1 : Int} {α : Type} {d : Kd α} {e : Nat} {base : Nat} {ok : Nat → Prop} {v : Value} {xs : List α} (h : IsS43 w0 W g f0 f1) (ho : d.S e W base ok v xs) (ht : ∀ q, q ∈ e :: d.E → q ≠ 43) : d.S e W base (fun k => ok k ∧ k ≠ g) v xs := by
 obtain ⟨A0, c0, hb, hg, hr0⟩ := h
 exact Kd.S_types ho hb ht
theorem IsS43.own_neS {w0 W : World} {g : Nat} {f0 : List Int} {f1 : Int} {α : Type} {d : Kd α} {e : Nat} {base : Nat} {ok : Nat → Prop} {v : Value} {xs : List α} (h : IsS43 w0 W g f0 f1) (ho : d.S e W base ok v xs) (ht : e ≠ 43) : some g ≠ v.ownBlock := by
 obtain ⟨A0, c0, hb, hg, hr0⟩ := h
 exact Kd.S_ne ho hb ht
theorem IsS43.lt {w0 W : World} {g : Nat} {f0 : List Int} {f1 : Int} (h : IsS43 w0 W g f0 f1) : g < W.heap.size := by
 obtain ⟨A0, c0, hb, hg, hr0⟩ := h
 exact blk_lt hb
theorem IsS43.ge {w0 W : World} {g : Nat} {f0 : List Int} {f1 : Int} (h : IsS43 w0 W g f0 f1) : w0.heap.size ≤ g := by
 obtain ⟨A0, c0, hb, hg, hr0⟩ := h
 exact hg
theorem IsS43.ne_blk {w0 W : World} {g : Nat} {f0 : List Int} {f1 : Int} {a : Nat} {cs : Array Value} {t : TypeId} {fr : Nat × Nat} (h : IsS43 w0 W g f0 f1) (hb2 : W.heap[a]? = some (.cells cs t fr)) (ht : t ≠ 43) : g ≠ a := by
 obtain ⟨A0, c0, hb, hg, hr0⟩ := h
 rintro rfl
 rw [hb] at hb2
 injection hb2 with hb2
 injection hb2 with _ ht2
 exact ht ht2.symm
theorem IsS43.far {w0 W : World} {g : Nat} {f0 : List Int} {f1 : Int} {p : Addr} (h : IsS43 w0 W g f0 f1) (hne : g ≠ p.block) (u : Value) : IsS43 w0 (W.setCell p u) g f0 f1 := by
 obtain ⟨A0, c0, hb, hg, hr0⟩ := h
 exact ⟨A0, c0, blk_far hb hne u, hg, hr0⟩
theorem cellS43_0 {W : World} {g : Nat} {A0 : Option Addr} {c0 : Nat} {f0 : List Int} {f1 : Int} (h : W.heap[g]? = some (.cells #[.slice A0 f0.length c0, .int .i64 f1] 43 (0, 0))) : W.cell? ⟨g, 0, none⟩ = some (.slice A0 f0.length c0) := (blk_cell h 0).trans rfl
theorem cellS43_1 {W : World} {g : Nat} {A0 : Option Addr} {c0 : Nat} {f0 : List Int} {f1 : Int} (h : W.heap[g]? = some (.cells #[.slice A0 f0.length c0, .int .i64 f1] 43 (0, 0))) : W.cell? ⟨g, 1, none⟩ = some (.int .i64 f1) := (blk_cell h 1).trans rfl
theorem IsS43.set_1 {w0 W : World} {g : Nat} {f0 : List Int} {f1 : Int} (h : IsS43 w0 W g f0 f1) (x : Int) : IsS43 w0 (W.setCell ⟨g, 1, none⟩ (.int .i64 x)) g f0 x := by
 obtain ⟨A0, c0, hb, hg, hr0⟩ := h
 exact ⟨A0, c0, (by simpa using blk_set hb 1 (.int .i64 x)), hg, hr0⟩
theorem IsS43.new (w0 W : World) (A0 : Option Addr) (c0 : Nat) (f0 : List Int) (f1 : Int) (hB : Below w0.heap.size w0 W) (hr0 : Kd.C (Kd.int .u8) w0 A0 f0.length f0) : IsS43 w0 (W.alloc (.cells #[.slice A0 f0.length c0, .int .i64 f1] 43)) W.heap.size f0 f1 := ⟨A0, c0, by simpa using heap_alloc_new W _, hB.size, hr0⟩
def spec_l6Open.f (l0 : List Int) : Option (List Int × Int) := if (l0.length : Int) > 2000 then (if 2000 ≤ (l0.length : Int) then (some (l0.take 2000, 0)) else (none)) else (some (l0, 0))
set_option maxHeartbeats 8000000 in
set_option maxRecDepth 100000 in
theorem spec_l6Open.calls (A0 : Option Addr) (c0 : Nat) (l0 : List Int) (r1 : List Int) (r2 : Int) (w0 w : World) (hB : Below w0.heap.size w0 w) (hr0 : Kd.C (Kd.int .u8) w0 A0 l0.length l0) (hc0 : l0.length ≤ c0) (h : spec_l6Open.f l0 = some (r1, r2)) :
  Calls Try.prog 11 #[.slice A0 l0.length c0] w fun e w' => ∃ g_ : Nat, e = .returned (.pointer (some ⟨g_, 0, none⟩)) ∧ IsS43 w0 w' g_ r1 r2 ∧ Below w0.heap.size w0 w' ∧ Below w.heap.size w w' := by
 have hu43 := Try.underlying43
 have HR0 := Aside0.mk hr0
 have HC0 := Aside0.mk hc0
 clear hr0 hc0
 have HBW := Aside0.mk (Below.refl w.heap.size w)
 have HW0 := Aside0.mk hB.size
 have HB := Aside0.mk hB
 clear hB
 have H : (if (l0.length : Int) > 2000 then (if 2000 ≤ (l0.length : Int) then (some (l0.take 2000, 0)) else (none)) else (some (l0, 0))) = some (r1, r2) := h
 clear h
 by_cases c2 : (l0.length : Int) > 2000
 ·rw [if_pos c2] at H
  have c2b0 : decide (2000 < (l0.length : Int)) = true := decide_eq_true c2
  have c2b1 : decide (2000 < l0.length) = true := decide_eq_true (by omega)
  clear c2
  by_cases c3 : 2000 ≤ (l0.length : Int)
  ·rw [if_pos c3] at H
   have c3b0 := eq_true c3
   have c3b1 : decide (2000 ≤ (l0.length : Int)) = true := decide_eq_true c3
   clear c3
   simp only [Option.some.injEq, Prod.mk.injEq] at H
   obtain ⟨rfl, rfl⟩ := H
   obtain ⟨i04, hi04, _, hsz4, _⟩ := info_parts info5
   obtain ⟨hcut4, hA4, hC4⟩ := print_take_of (P := Try.prog) (Value.int .u8) 0 22 5 .i64 Try.underlying22 hi04 hsz4 A0 c0 l0 2000 (by omega) (of_decide_eq_true y13) HC0.out
   have HR101 := Aside0.mk (Kd.C_of_reads (h1 := fun _ => rfl) (hA4 _ (Kd.reads_of_C HR0.out)))
   have HC101 := Aside0.mk hC4
   clear hA4 hC4 hi04 hsz4
   go_enter Try.func11, Try.ntmps11
   go_wp2_with (first | ((with_reducible refine gate_dst (N := 10) rfl ?_); refine zbx 10 #[.slice A0 (l0.take 2000).length c0, .int .i64 0] 43 ?_; intro gb102 hg w5 hbox hb; replace HB := Aside0.mk (below_step (y4 HB.out) hb); have BK102 := Aside0.mk hbox; have GW102 := Aside0.mk ((y6 hg HBW.out : w.heap.size ≤ gb102)); have GE102 := Aside0.mk ((Nat.le_trans HW0.out (y6 hg HBW.out : w.heap.size ≤ gb102) : w0.heap.size ≤ gb102)); replace HBW := Aside0.mk (below_step HBW.out hb); clear hb hbox hg))
   go_ret
   exact ⟨_, rfl, (show IsS43 w0 _ gb102 (l0.take 2000) 0 from ⟨_, _, (y2 BK102.out), GE102.out, HR101.out⟩), (y3 HB.out GE102.out), (y3 HBW.out GW102.out)⟩
  ·rw [if_neg c3] at H
   exact absurd H (by simp)
 ·rw [if_neg c2] at H
  have c2b0 : decide (2000 < (l0.length : Int)) = false := decide_eq_false c2
  have c2b1 : decide (2000 < l0.length) = false := decide_eq_false (by omega)
  clear c2
  simp only [Option.some.injEq, Prod.mk.injEq] at H
  obtain ⟨rfl, rfl⟩ := H
  go_enter Try.func11, Try.ntmps11
  go_wp2_with (first | ((with_reducible refine gate_dst (N := 10) rfl ?_); refine zbx 10 #[.slice A0 l0.length c0, .int .i64 0] 43 ?_; intro gb103 hg w6 hbox hb; replace HB := Aside0.mk (below_step (y4 HB.out) hb); have BK103 := Aside0.mk hbox; have GW103 := Aside0.mk ((y6 hg HBW.out : w.heap.size ≤ gb103)); have GE103 := Aside0.mk ((Nat.le_trans HW0.out (y6 hg HBW.out : w.heap.size ≤ gb103) : w0.heap.size ≤ gb103)); replace HBW := Aside0.mk (below_step HBW.out hb); clear hb hbox hg))
  go_ret
  exact ⟨_, rfl, (show IsS43 w0 _ gb103 l0 0 from ⟨_, _, (y2 BK103.out), GE103.out, HR0.out⟩), (y3 HB.out GE103.out), (y3 HBW.out GW103.out)⟩
end Go.Proofs.Ythhjdngailhihaa.PA
end
section
namespace Go.Proofs.Ythhjdngailhihaa.PA
open Go.RowKit Go.Proofs.YthhjdngailhihaaW.PrintWords Go.Proofs.YthhjdngailhihaaW.PrintLast Go.Proofs.YthhjdngailhihaaW.PrintMore
attribute [local go_sem] max2_int min2_int max_two min_two max_three min_three max_four min_four
set_option linter.unusedVariables false
set_option linter.unusedSimpArgs false
def spec_l6Rd_pick.j0 : Nat → Int → Bool → List Int → Int → Option (Int × Int)
 | 0, _, _, _, _ => none
 | k + 1, x1, x24, x1000, x1001 => if x24 = true then (some (0, x1001)) else (if (wrap64 (x1001 - 1)) < (x1000.length : Int) then (if 0 ≤ (wrap64 (x1001 - 1)) then (if x1 = 0 then (none) else (some (Int.tmod (wrap64 (rd x1000 (wrap64 (x1001 - 1)))) x1, x1001))) else (none)) else (if (x1000.length : Int) = 0 then (none) else (if 0 ≤ (Int.tmod (wrap64 (x1001 - 1)) (x1000.length : Int)) then (if (Int.tmod (wrap64 (x1001 - 1)) (x1000.length : Int)) < (x1000.length : Int) then (if 0 ≤ (Int.tmod (wrap64 ((wrap64 ((wrap64 (x1001 - 1)) * 7)) + 3)) (x1000.length : Int)) then (if (Int.tmod (wrap64 ((wrap64 ((wrap64 (x1001 - 1)) * 7)) + 3)) (x1000.length : Int)) < (x1000.length : Int) then (if x1 = 0 then (none) else (some (Int.tmod (Go.bits .xor .i64 (wrap64 ((wrap64 ((wrap64 ((wrap64 ((wrap64 (rd x1000 (Int.tmod (wrap64 (x1001 - 1)) (x1000.length : Int)))) * 131)) + (wrap64 ((wrap64 (rd x1000 (Int.tmod (wrap64 ((wrap64 ((wrap64 (x1001 - 1)) * 7)) + 3)) (x1000.length : Int)))) * 1117)))) + (wrap64 ((wrap64 (x1001 - 1)) * 29)))) + (wrap64 ((wrap64 (Int.tdiv (wrap64 (x1001 - 1)) (x1000.length : Int))) * 53)))) (wrap64 (Int.tdiv (wrap64 ((wrap64 ((wrap64 ((wrap64 ((wrap64 (rd x1000 (Int.tmod (wrap64 (x1001 - 1)) (x1000.length : Int)))) * 131)) + (wrap64 ((wrap64 (rd x1000 (Int.tmod (wrap64 ((wrap64 ((wrap64 (x1001 - 1)) * 7)) + 3)) (x1000.length : Int)))) * 1117)))) + (wrap64 ((wrap64 (x1001 - 1)) * 29)))) + (wrap64 ((wrap64 (Int.tdiv (wrap64 (x1001 - 1)) (x1000.length : Int))) * 53)))) 64))) x1, x1001))) else (none)) else (none)) else (none)) else (none))))
def spec_l6Rd_pick.f (k : Nat) (s0_0 : List Int) (s0_1 : Int) (a1 : Int) : Option (Int × Int) := if a1 < 1 then (spec_l6Rd_pick.j0 k a1 true s0_0 (wrap64 (s0_1 + 1))) else (spec_l6Rd_pick.j0 k a1 ((s0_0.length : Int) == 0) s0_0 (wrap64 (s0_1 + 1)))
theorem spec_l6Rd_pick.mono_l : ∀ k, (∀ y0 y1 y2 y3, LeO (spec_l6Rd_pick.j0 k y0 y1 y2 y3) (spec_l6Rd_pick.j0 (k + 1) y0 y1 y2 y3))
 | 0 => fun _ _ _ _ r h => by simp [spec_l6Rd_pick.j0] at h
 | k + 1 => by
  have ih0 := spec_l6Rd_pick.mono_l k
  ·intro y0 y1 y2 y3
   unfold spec_l6Rd_pick.j0
   repeat' first
   | (with_reducible exact ih0 _ _ _ _)
   | (with_reducible exact LeO.refl _)
   | (with_reducible exact LeO.none _)
   | (with_reducible refine LeO.ite ?_ ?_)
   | (with_reducible refine LeO.bind ?_ (fun _ => ?_))
   | exact ih0 _ _ _ _
   | exact LeO.none _
   | refine LeO.ite ?_ ?_
   | refine LeO.bind ?_ (fun _ => ?_)
theorem spec_l6Rd_pick.mono : ∀ a0 a1 a2 k, LeO (spec_l6Rd_pick.f k a0 a1 a2) (spec_l6Rd_pick.f (k + 1) a0 a1 a2) := by
 intro a0 a1 a2 k
 have ih0 := spec_l6Rd_pick.mono_l k
 unfold spec_l6Rd_pick.f
 repeat' first
   | (with_reducible exact ih0 _ _ _ _)
   | (with_reducible exact LeO.refl _)
   | (with_reducible exact LeO.none _)
   | (with_reducible refine LeO.ite ?_ ?_)
   | (with_reducible refine LeO.bind ?_ (fun _ => ?_))
   | exact ih0 _ _ _ _
   | exact LeO.none _
   | refine LeO.ite ?_ ?_
   | refine LeO.bind ?_ (fun _ => ?_)
set_option maxHeartbeats 8000000 in
set_option maxRecDepth 100000 in
theorem spec_l6Rd_pick.calls (k : Nat) (g : Nat) (s0_0 : List Int) (s0_1 : Int) (a1 : Int) (r1 : Int) (r2 : Int) (w0 w : World) (hI : IsS43 w0 w g s0_0 s0_1) (hB : Below w0.heap.size w0 w) (h : spec_l6Rd_pick.f k s0_0 s0_1 a1 = some (r1, r2)) :
  Calls Try.prog 13 #[.pointer (some ⟨g, 0, none⟩), .int .i64 a1] w fun e w' => e = .returned (.int .i64 r1) ∧ IsS43 w0 w' g s0_0 r2 ∧ Below w0.heap.size w0 w' ∧ KeepBut w w' g none := by
 have HI0 := Aside0.mk hI
 have HK := Aside0.mk (KeepBut.refl w g none)
 have HL := Aside0.mk hB.size
 clear hI
 have HW0 := Aside0.mk hB.size
 have HB := Aside0.mk hB
 clear hB
 have H : (if a1 < 1 then (spec_l6Rd_pick.j0 k a1 true s0_0 (wrap64 (s0_1 + 1))) else (spec_l6Rd_pick.j0 k a1 ((s0_0.length : Int) == 0) s0_0 (wrap64 (s0_1 + 1)))) = some (r1, r2) := h
 clear h
 have HC3 := Aside0.mk H
 clear H
 obtain ⟨ASz4_0, cSz4_0, HGz4, hgz4, HSz4_0⟩ := HI0.out
 have hcz4_0 := cellS43_0 HGz4
 have hcz4_1 := cellS43_1 HGz4
 have hfz4_1 := blk_frozen HGz4 1
 clear HGz4 hgz4
 go_enter Try.func13, Try.ntmps13
 go_upto_region 2 with (fail)
 repeat (go_quiet (fail); go_upto_region 2 with (fail))
 go_cut [24] (fun v24 wc => ∃ (kq : Nat) (x24_2 : Bool), v24 = .bool x24_2 ∧ Aside0 (spec_l6Rd_pick.j0 kq a1 x24_2 s0_0 (wrap64 (s0_1 + 1)) = some (r1, r2)) ∧ Aside0 (kq ≤ k) ∧ Aside0 (IsS43 w0 wc g s0_0 (wrap64 (s0_1 + 1))) ∧ Aside0 (KeepBut w wc g none) ∧ Aside0 (Below w0.heap.size w0 wc))
 case first =>
  have H := HC3.out
  clear HC3
  by_cases c5 : a1 < 1
  ·rw [if_pos c5] at H
   have c5b0 : decide (a1 < 1) = true := decide_eq_true c5
   clear c5
   (first | rw [c5b0] | (simp only [i64_w, i32_w]; rw [c5b0]) | skip)
   have H' := Aside0.mk H
   clear H
   go_wp2
   repeat (go_quiet (fail); try go_wp2)
   go_meet
   case rel => exact ⟨_, (true), y19, H', ⟨y57⟩, ⟨(y30 HI0.out)⟩, ⟨(y25 HK.out)⟩, ⟨(y26 HB.out HI0.out)⟩⟩
  ·rw [if_neg c5] at H
   have c5b0 : decide (a1 < 1) = false := decide_eq_false c5
   clear c5
   (first | rw [c5b0] | (simp only [i64_w, i32_w]; rw [c5b0]) | skip)
   have H' := Aside0.mk H
   clear H
   obtain ⟨ASz6_0, cSz6_0, HGz6, hgz6, HSz6_0⟩ := HI0.out
   have hcz6_0 := cellS43_0 HGz6
   have hcz6_1 := cellS43_1 HGz6
   have hfz6_1 := blk_frozen HGz6 1
   clear HGz6 hgz6
   go_wp2
   repeat (go_quiet (fail); try go_wp2)
   go_meet
   case rel => exact ⟨_, (((s0_0.length : Int) == 0)), y19, H', ⟨y57⟩, ⟨(y30 HI0.out)⟩, ⟨(y25 HK.out)⟩, ⟨(y26 HB.out HI0.out)⟩⟩
 case rest =>
  clear HC3
  try clear c1
  try clear p2
  try clear c5
  try clear c5b0
  try clear p6
  try clear hcz4_0
  try clear hcz4_1
  try clear hcz6_0
  try clear hcz6_1
  try clear hfz4_1
  try clear hfz6_1
  obtain ⟨kq, x24_2, rfl, HA, HJ2, HI0, HK, HB⟩ := hcut
  cases kq with
  | zero => exact absurd HA.out (by simp [spec_l6Rd_pick.j0])
  | succ kj2 =>
   have H := HA.out
   clear HA
   simp only [spec_l6Rd_pick.j0] at H
   by_cases c7 : x24_2 = true
   ·subst c7
    rw [if_pos rfl] at H
    simp only [Option.some.injEq, Prod.mk.injEq] at H
    obtain ⟨rfl, rfl⟩ := H
    go_wp2
    repeat (go_quiet (fail); try go_wp2)
    go_ret
    exact ⟨y16, (y30 HI0.out), (y26 HB.out HI0.out), (y25 HK.out)⟩
   ·replace c7 := Bool.eq_false_iff.mpr c7
    subst c7
    rw [if_neg (show ¬ (false = true) by decide)] at H
    by_cases c8 : (wrap64 ((wrap64 (s0_1 + 1)) - 1)) < (s0_0.length : Int)
    ·rw [if_pos c8] at H
     have c8b0 : decide ((wrap64 ((wrap64 (s0_1 + 1)) - 1)) < (s0_0.length : Int)) = true := decide_eq_true c8
     clear c8
     obtain ⟨ji9, hji9⟩ : ∃ j_ : Int, (wrap64 ((wrap64 (s0_1 + 1)) - 1)) = j_ := ⟨_, rfl⟩
     replace H : (if 0 ≤ (ji9) then (if a1 = 0 then (none) else (some (Int.tmod (wrap64 (rd s0_0 (ji9))) a1, (wrap64 (s0_1 + 1))))) else (none)) = some (r1, r2) := by first | (rw [hji9] at H; exact H) | (simp only [hji9] at H ⊢; exact H)
     (try rw [hji9] at c8b0)
     have hji9w : (IntKind.i64.wrap ((wrap64 (s0_1 + 1)) - 1)) = ji9 := (i64_w _).trans hji9
     by_cases c10 : 0 ≤ (ji9)
     ·rw [if_pos c10] at H
      have c10b0 : decide (0 ≤ (ji9)) = true := decide_eq_true c10
      clear c10
      by_cases c11 : a1 = 0
      ·rw [if_pos c11] at H
       exact absurd H (by simp)
      ·rw [if_neg c11] at H
       have c11b0 : (a1 == 0) = false := beq_eq_false_iff_ne.mpr c11
       have c11b1 : (a1 != 0) = true := bne_iff_ne.mpr c11
       simp only [Option.some.injEq, Prod.mk.injEq] at H
       obtain ⟨rfl, rfl⟩ := H
       obtain ⟨ASz12_0, cSz12_0, HGz12, hgz12, HSz12_0⟩ := HI0.out
       have hcz12_0 := cellS43_0 HGz12
       have hcz12_1 := cellS43_1 HGz12
       have hfz12_1 := blk_frozen HGz12 1
       clear HGz12 hgz12
       have p104 : 0 ≤ ((ji9) : Int) := of_decide_eq_true y13
       have q104 : (ji9) < (s0_0.length : Int) := of_decide_eq_true y13
       obtain ⟨ad104, e104, hx104_0⟩ := Kd.at_int HSz12_0 (ji9) p104 q104
       cases e104
       replace hx104_0 := pw_cell_below HB.out hx104_0
       replace p104 := eq_true p104
       replace q104 := eq_true q104
       go_wp2
       repeat (go_quiet (fail); try go_wp2)
       go_ret
       exact ⟨(by first | rfl | (simp [errW_none, errW_some] <;> rfl) | (simp only [← hji9]; first | rfl | (simp [errW_none, errW_some] <;> rfl)) | (simp [*, errW_none, errW_some] <;> rfl)), (y30 HI0.out), (y26 HB.out HI0.out), (y25 HK.out)⟩
     ·rw [if_neg c10] at H
      exact absurd H (by simp)
    ·rw [if_neg c8] at H
     have c8b0 : decide ((wrap64 ((wrap64 (s0_1 + 1)) - 1)) < (s0_0.length : Int)) = false := decide_eq_false c8
     clear c8
     by_cases c13 : (s0_0.length : Int) = 0
     ·rw [if_pos c13] at H
      exact absurd H (by simp)
     ·rw [if_neg c13] at H
      have c13b0 : ((s0_0.length : Int) == 0) = false := beq_eq_false_iff_ne.mpr c13
      have c13b1 : ((s0_0.length : Int) != 0) = true := bne_iff_ne.mpr c13
      have c13b2 : ¬ (s0_0 = []) := fun h_ => c13 (by rw [h_]; rfl)
      obtain ⟨ji14, hji14⟩ : ∃ j_ : Int, (Int.tmod (wrap64 ((wrap64 (s0_1 + 1)) - 1)) (s0_0.length : Int)) = j_ := ⟨_, rfl⟩
      replace H : (if 0 ≤ (ji14) then (if (ji14) < (s0_0.length : Int) then (if 0 ≤ (Int.tmod (wrap64 ((wrap64 ((wrap64 ((wrap64 (s0_1 + 1)) - 1)) * 7)) + 3)) (s0_0.length : Int)) then (if (Int.tmod (wrap64 ((wrap64 ((wrap64 ((wrap64 (s0_1 + 1)) - 1)) * 7)) + 3)) (s0_0.length : Int)) < (s0_0.length : Int) then (if a1 = 0 then (none) else (some (Int.tmod (Go.bits .xor .i64 (wrap64 ((wrap64 ((wrap64 ((wrap64 ((wrap64 (rd s0_0 (ji14))) * 131)) + (wrap64 ((wrap64 (rd s0_0 (Int.tmod (wrap64 ((wrap64 ((wrap64 ((wrap64 (s0_1 + 1)) - 1)) * 7)) + 3)) (s0_0.length : Int)))) * 1117)))) + (wrap64 ((wrap64 ((wrap64 (s0_1 + 1)) - 1)) * 29)))) + (wrap64 ((wrap64 (Int.tdiv (wrap64 ((wrap64 (s0_1 + 1)) - 1)) (s0_0.length : Int))) * 53)))) (wrap64 (Int.tdiv (wrap64 ((wrap64 ((wrap64 ((wrap64 ((wrap64 (rd s0_0 (ji14))) * 131)) + (wrap64 ((wrap64 (rd s0_0 (Int.tmod (wrap64 ((wrap64 ((wrap64 ((wrap64 (s0_1 + 1)) - 1)) * 7)) + 3)) (s0_0.length : Int)))) * 1117)))) + (wrap64 ((wrap64 ((wrap64 (s0_1 + 1)) - 1)) * 29)))) + (wrap64 ((wrap64 (Int.tdiv (wrap64 ((wrap64 (s0_1 + 1)) - 1)) (s0_0.length : Int))) * 53)))) 64))) a1, (wrap64 (s0_1 + 1))))) else (none)) else (none)) else (none)) else (none)) = some (r1, r2) := by first | (rw [hji14] at H; exact H) | (simp only [hji14] at H ⊢; exact H)
      by_cases c15 : 0 ≤ (ji14)
      ·rw [if_pos c15] at H
       have c15b0 : decide (0 ≤ (ji14)) = true := decide_eq_true c15
       clear c15
       by_cases c16 : (ji14) < (s0_0.length : Int)
       ·rw [if_pos c16] at H
        have c16b0 : decide ((ji14) < (s0_0.length : Int)) = true := decide_eq_true c16
        clear c16
        obtain ⟨ji17, hji17⟩ : ∃ j_ : Int, (Int.tmod (wrap64 ((wrap64 ((wrap64 ((wrap64 (s0_1 + 1)) - 1)) * 7)) + 3)) (s0_0.length : Int)) = j_ := ⟨_, rfl⟩
        replace H : (if 0 ≤ (ji17) then (if (ji17) < (s0_0.length : Int) then (if a1 = 0 then (none) else (some (Int.tmod (Go.bits .xor .i64 (wrap64 ((wrap64 ((wrap64 ((wrap64 ((wrap64 (rd s0_0 (ji14))) * 131)) + (wrap64 ((wrap64 (rd s0_0 (ji17))) * 1117)))) + (wrap64 ((wrap64 ((wrap64 (s0_1 + 1)) - 1)) * 29)))) + (wrap64 ((wrap64 (Int.tdiv (wrap64 ((wrap64 (s0_1 + 1)) - 1)) (s0_0.length : Int))) * 53)))) (wrap64 (Int.tdiv (wrap64 ((wrap64 ((wrap64 ((wrap64 ((wrap64 (rd s0_0 (ji14))) * 131)) + (wrap64 ((wrap64 (rd s0_0 (ji17))) * 1117)))) + (wrap64 ((wrap64 ((wrap64 (s0_1 + 1)) - 1)) * 29)))) + (wrap64 ((wrap64 (Int.tdiv (wrap64 ((wrap64 (s0_1 + 1)) - 1)) (s0_0.length : Int))) * 53)))) 64))) a1, (wrap64 (s0_1 + 1))))) else (none)) else (none)) = some (r1, r2) := by first | (rw [hji17] at H; exact H) | (simp only [hji17] at H ⊢; exact H)
        by_cases c18 : 0 ≤ (ji17)
        ·rw [if_pos c18] at H
         have c18b0 : decide (0 ≤ (ji17)) = true := decide_eq_true c18
         clear c18
         by_cases c19 : (ji17) < (s0_0.length : Int)
         ·rw [if_pos c19] at H
          have c19b0 : decide ((ji17) < (s0_0.length : Int)) = true := decide_eq_true c19
          clear c19
          by_cases c20 : a1 = 0
          ·rw [if_pos c20] at H
           exact absurd H (by simp)
          ·rw [if_neg c20] at H
           have c20b0 : (a1 == 0) = false := beq_eq_false_iff_ne.mpr c20
           have c20b1 : (a1 != 0) = true := bne_iff_ne.mpr c20
           simp only [Option.some.injEq, Prod.mk.injEq] at H
           obtain ⟨rfl, rfl⟩ := H
           obtain ⟨ASz21_0, cSz21_0, HGz21, hgz21, HSz21_0⟩ := HI0.out
           have hcz21_0 := cellS43_0 HGz21
           have hcz21_1 := cellS43_1 HGz21
           have hfz21_1 := blk_frozen HGz21 1
           clear HGz21 hgz21
           have p105 : 0 ≤ ((ji14) : Int) := of_decide_eq_true y13
           have q105 : (ji14) < (s0_0.length : Int) := of_decide_eq_true y13
           obtain ⟨ad105, e105, hx105_0⟩ := Kd.at_int HSz21_0 (ji14) p105 q105
           cases e105
           replace hx105_0 := pw_cell_below HB.out hx105_0
           replace p105 := eq_true p105
           replace q105 := eq_true q105
           have p106 : 0 ≤ ((ji17) : Int) := of_decide_eq_true y13
           have q106 : (ji17) < (s0_0.length : Int) := of_decide_eq_true y13
           obtain ⟨ad106, e106, hx106_0⟩ := Kd.at_int HSz21_0 (ji17) p106 q106
           obtain rfl : ad105 = ad106 := (by injection e106)
           replace hx106_0 := pw_cell_below HB.out hx106_0
           replace p106 := eq_true p106
           replace q106 := eq_true q106
           go_wp2
           repeat (go_quiet (fail); try go_wp2)
           go_ret
           exact ⟨(by first | rfl | (simp [errW_none, errW_some] <;> rfl) | (simp only [← hji14, ← hji17]; first | rfl | (simp [errW_none, errW_some] <;> rfl)) | (simp [*, errW_none, errW_some] <;> rfl)), (y30 HI0.out), (y26 HB.out HI0.out), (y25 HK.out)⟩
         ·rw [if_neg c19] at H
          exact absurd H (by simp)
        ·rw [if_neg c18] at H
         exact absurd H (by simp)
       ·rw [if_neg c16] at H
        exact absurd H (by simp)
      ·rw [if_neg c15] at H
       exact absurd H (by simp)
end Go.Proofs.Ythhjdngailhihaa.PA
end
section
namespace Go.Proofs.Ythhjdngailhihaa.Draw
open Go.RowKit Go.Proofs.Ythhjdngailhihaa.PA Go.Proofs.YthhjdngailhihaaW.PrintWords Go.Proofs.YthhjdngailhihaaW.PrintLast
def Bytes (s : List Int) : Prop := s.length ≤ 2000 ∧ ∀ x ∈ s, 0 ≤ x ∧ x ≤ 255
theorem rd_byte {s : List Int} (h : Bytes s) (i : Int) : 0 ≤ rd s i ∧ rd s i ≤ 255 := by
  unfold rd
  rw [List.getD_eq_getElem?_getD]
  cases e : s[i.toNat]? with
  | none => simp
  | some x => exact h.2 x (List.mem_of_getElem? e)
theorem w64 {x : Int} (h0 : -9223372036854775808 ≤ x) (h1 : x ≤ 9223372036854775807) : wrap64 x = x := by unfold wrap64; omega
theorem w01 : wrap64 (0 + 1) = 1 := by rw [w64 (by omega) (by omega)]; rfl
theorem w12 : wrap64 (1 + 1) = 2 := by rw [w64 (by omega) (by omega)]; rfl
theorem xor_nonneg (a b : Nat) (ha : a < 2 ^ 62) (hb : b < 2 ^ 62) : 0 ≤ Go.bits .xor .i64 a b := by
  have hp : (2 : Nat) ^ 62 ≤ 2 ^ IntKind.i64.bits := Nat.pow_le_pow_right (by decide) (by decide)
  have ha' : a % 2 ^ IntKind.i64.bits = a := Nat.mod_eq_of_lt (Nat.lt_of_lt_of_le ha hp)
  have hb' : b % 2 ^ IntKind.i64.bits = b := Nat.mod_eq_of_lt (Nat.lt_of_lt_of_le hb hp)
  simp only [Go.bits, BitVec.ofInt_natCast, BitVec.toNat_xor, BitVec.toNat_ofNat, ha', hb']
  rw [IntKind.wrap_i64]
  have := Nat.xor_lt_two_pow ha hb
  omega
theorem xor_nonneg' (x y : Int) (hx : 0 ≤ x) (hx1 : x < 4611686018427387904) (hy : 0 ≤ y) (hy1 : y < 4611686018427387904) : 0 ≤ Go.bits .xor .i64 x y := by
  obtain ⟨a, rfl⟩ := Int.eq_ofNat_of_zero_le hx
  obtain ⟨b, rfl⟩ := Int.eq_ofNat_of_zero_le hy
  exact xor_nonneg a b (by omega) (by omega)
theorem tmod_range (x n : Int) (hx : 0 ≤ x) (hn : 1 ≤ n) : 0 ≤ Int.tmod x n ∧ Int.tmod x n < n := by
  rw [Int.tmod_eq_emod_of_nonneg hx]
  exact ⟨Int.emod_nonneg _ (by omega), Int.emod_lt_of_pos _ (by omega)⟩
theorem tdiv_range (x n : Int) (hx : 0 ≤ x) (hn : 1 ≤ n) : 0 ≤ Int.tdiv x n ∧ Int.tdiv x n ≤ x := by
  rw [Int.tdiv_eq_ediv_of_nonneg hx]
  exact ⟨Int.ediv_nonneg hx (by omega), Int.ediv_le_self _ hx⟩
theorem pick_ev (s : List Int) (hs : Bytes s) (p n : Int) (hp : 0 ≤ p) (hp1 : p ≤ 1099511627776) (hn : 1 ≤ n) :
    ∃ r, (∀ k, 2 ≤ k → spec_l6Rd_pick.f k s p n = some (r, p + 1)) ∧ 0 ≤ r ∧ r < n := by
  have e1 : wrap64 (p + 1) = p + 1 := w64 (by omega) (by omega)
  have e2 : wrap64 (p + 1 - 1) = p := by rw [w64 (by omega) (by omega)]; omega
  by_cases h0 : (s.length : Int) = 0
  · refine ⟨0, fun k hk => ?_, by omega, by omega⟩
    obtain ⟨k, rfl⟩ : ∃ m, k = m + 1 := ⟨k - 1, by omega⟩
    simp only [spec_l6Rd_pick.f]
    rw [if_neg (by omega), e1, show ((s.length : Int) == 0) = true from beq_iff_eq.2 h0]
    simp only [spec_l6Rd_pick.j0, if_true]
  have hl : 0 < s.length := by omega
  have hl2 := hs.1
  have hb : ((s.length : Int) == 0) = false := by simpa using h0
  by_cases hlt : p < (s.length : Int)
  · have hr := rd_byte hs p
    have hq := tmod_range (rd s p) n hr.1 hn
    refine ⟨_, fun k hk => ?_, hq.1, hq.2⟩
    obtain ⟨k, rfl⟩ : ∃ m, k = m + 1 := ⟨k - 1, by omega⟩
    simp only [spec_l6Rd_pick.f]
    rw [if_neg (by omega), e1, hb]
    simp only [spec_l6Rd_pick.j0, e2]
    rw [if_neg (by simp), if_pos hlt, if_pos hp, if_neg (by omega), w64 (by omega) (by omega)]
  · have m1 := tmod_range p (s.length : Int) hp (by omega)
    have e3 : wrap64 (p * 7) = p * 7 := w64 (by omega) (by omega)
    have e4 : wrap64 (p * 7 + 3) = p * 7 + 3 := w64 (by omega) (by omega)
    have m2 := tmod_range (p * 7 + 3) (s.length : Int) (by omega) (by omega)
    have d1 := tdiv_range p (s.length : Int) hp (by omega)
    have r1 := rd_byte hs (Int.tmod p (s.length : Int))
    have r2 := rd_byte hs (Int.tmod (p * 7 + 3) (s.length : Int))
    generalize ha : rd s (Int.tmod p (s.length : Int)) = a at *
    generalize hc : rd s (Int.tmod (p * 7 + 3) (s.length : Int)) = c at *
    generalize hd : Int.tdiv p (s.length : Int) = d at *
    have e5 : wrap64 (wrap64 (wrap64 (wrap64 (wrap64 a * 131) + wrap64 (wrap64 c * 1117)) + wrap64 (p * 29)) + wrap64 (wrap64 d * 53)) = a * 131 + c * 1117 + p * 29 + d * 53 := by
      rw [w64 (x := a) (by omega) (by omega), w64 (x := c) (by omega) (by omega), w64 (x := d) (by omega) (by omega), w64 (x := a * 131) (by omega) (by omega), w64 (x := c * 1117) (by omega) (by omega), w64 (x := d * 53) (by omega) (by omega), w64 (x := p * 29) (by omega) (by omega), w64 (x := a * 131 + c * 1117) (by omega) (by omega), w64 (x := a * 131 + c * 1117 + p * 29) (by omega) (by omega), w64 (by omega) (by omega)]
    generalize hx : a * 131 + c * 1117 + p * 29 + d * 53 = x at *
    have d2 := tdiv_range x 64 (by omega) (by omega)
    have e6 : wrap64 (Int.tdiv x 64) = Int.tdiv x 64 := w64 (by omega) (by omega)
    have hxor := xor_nonneg' x (Int.tdiv x 64) (by omega) (by omega) d2.1 (by omega)
    have hq := tmod_range (Go.bits .xor .i64 x (Int.tdiv x 64)) n hxor hn
    refine ⟨_, fun k hk => ?_, hq.1, hq.2⟩
    obtain ⟨k, rfl⟩ : ∃ m, k = m + 1 := ⟨k - 1, by omega⟩
    simp only [spec_l6Rd_pick.f]
    rw [if_neg (by omega), e1, hb]
    simp only [spec_l6Rd_pick.j0, e2, e3, e4, ha, hc, hd, e5, e6]
    rw [if_neg (by simp), if_neg hlt, if_neg h0, if_pos m1.1, if_pos m1.2, if_pos m2.1, if_pos m2.2, if_neg (by omega)]
theorem open_ev (l : List Int) (h : ∀ x ∈ l, (Lit.int .u8 x).wf = true) : ∃ s, spec_l6Open.f l = some (s, 0) ∧ Bytes s := by
  have hb : ∀ x ∈ l, 0 ≤ x ∧ x ≤ 255 := fun x hx => bounds_u8 (h x hx)
  unfold spec_l6Open.f
  by_cases hl : (l.length : Int) > 2000
  · rw [if_pos hl, if_pos (by omega)]
    exact ⟨_, rfl, by rw [List.length_take]; omega, fun x hx => hb x (List.mem_of_mem_take hx)⟩
  · rw [if_neg hl]
    exact ⟨_, rfl, by omega, hb⟩
end Go.Proofs.Ythhjdngailhihaa.Draw
end
section
set_option linter.unusedVariables false
set_option linter.unusedSimpArgs false
namespace Go.Proofs.Ythhjdngailhihaa.Places
open Go.RowKit Go.Proofs.Ythhjdngailhihaa.PA Go.Proofs.YthhjdngailhihaaW.PrintWords Go.Proofs.YthhjdngailhihaaW.PrintLast Go.Proofs.Ythhjdngailhihaa.Draw
theorem rdm (pre r : List Int) (i : Int) : rd (pre ++ i :: r) (pre.length : Int) = i := by
  unfold rd
  rw [List.getD_eq_getElem?_getD, show ((pre.length : Int)).toNat = pre.length by omega]
  simp
def nl (a : ByteArray) : Nat → Nat → Bool
  | 0, _ => true
  | n + 1, i => if bt a i < 97 then false else if bt a i > 122 then false else nl a n (i + 1)
theorem nameLoop_ev (a : ByteArray) (hs : a.size ≤ 1000) : ∀ (n i k : Nat), i + n = a.size → n + 1 ≤ k → impl_nameForm.l0 k a (a.size : Int) (i : Int) = some (nl a n i) := by
  intro n
  induction n with
  | zero =>
    intro i k h hk
    obtain ⟨k, rfl⟩ : ∃ m, k = m + 1 := ⟨k - 1, by omega⟩
    simp only [impl_nameForm.l0]
    rw [if_neg (by omega)]; rfl
  | succ n ih =>
    intro i k h hk
    obtain ⟨k, rfl⟩ : ∃ m, k = m + 1 := ⟨k - 1, by omega⟩
    simp only [impl_nameForm.l0, nl]
    rw [if_pos (by omega), if_pos (by omega), if_pos (by omega)]
    by_cases c1 : bt a i < 97
    · rw [if_pos c1, if_pos c1]
    · rw [if_neg c1, if_neg c1]
      by_cases c2 : bt a i > 122
      · rw [if_pos c2, if_pos c2]
      · rw [if_neg c2, if_neg c2, w64 (by omega) (by omega)]
        exact ih (i + 1) k (by omega) (by omega)
theorem name2Loop_ev (a : ByteArray) (hs : a.size ≤ 1000) : ∀ (n i k : Nat), i + n = a.size → n + 1 ≤ k → spec_l2Name.l0 k a (i : Int) = some (nl a n i) := by
  intro n
  induction n with
  | zero =>
    intro i k h hk
    obtain ⟨k, rfl⟩ : ∃ m, k = m + 1 := ⟨k - 1, by omega⟩
    simp only [spec_l2Name.l0]
    rw [if_neg (by omega)]; rfl
  | succ n ih =>
    intro i k h hk
    obtain ⟨k, rfl⟩ : ∃ m, k = m + 1 := ⟨k - 1, by omega⟩
    simp only [spec_l2Name.l0, nl]
    rw [if_pos (by omega), if_pos (by omega)]
    by_cases c1 : bt a i < 97
    · rw [if_pos c1, if_pos c1]
    · rw [if_neg c1, if_neg c1]
      by_cases c2 : bt a i > 122
      · rw [if_pos c2, if_pos c2]
      · rw [if_neg c2, if_neg c2, w64 (by omega) (by omega)]
        exact ih (i + 1) k (by omega) (by omega)
def nf (a : ByteArray) : Bool := if a.size < 1 then false else if a.size > 6 then false else nl a a.size 0
theorem implName_ev (a : ByteArray) (k : Nat) (hk : 10 ≤ k) : impl_nameForm.f k a = some (nf a) := by
  obtain ⟨k, rfl⟩ : ∃ m, k = m + 1 := ⟨k - 1, by omega⟩
  unfold impl_nameForm.f nf
  by_cases c : a.size < 1
  · rw [if_pos (by omega), if_pos c]; simp only [impl_nameForm.j0, if_true]
  · rw [if_neg (by omega), if_neg c]
    by_cases c2 : a.size > 6
    · rw [show decide ((a.size : Int) > 6) = true from decide_eq_true (by omega), if_pos c2]; simp only [impl_nameForm.j0, if_true]
    · rw [show decide ((a.size : Int) > 6) = false from decide_eq_false (by omega), if_neg c2]
      simp only [impl_nameForm.j0]
      rw [if_neg (by simp)]
      exact nameLoop_ev a (by omega) a.size 0 k (by omega) (by omega)
theorem specName_ev (a : ByteArray) (k : Nat) (hk : 10 ≤ k) : spec_l2Name.f k a = some (nf a) := by
  obtain ⟨k, rfl⟩ : ∃ m, k = m + 1 := ⟨k - 1, by omega⟩
  unfold spec_l2Name.f nf
  by_cases c : a.size < 1
  · rw [if_pos (by omega), if_pos c]; simp only [spec_l2Name.j0, if_true]
  · rw [if_neg (by omega), if_neg c]
    by_cases c2 : a.size > 6
    · rw [show decide ((a.size : Int) > 6) = true from decide_eq_true (by omega), if_pos c2]; simp only [spec_l2Name.j0, if_true]
    · rw [show decide ((a.size : Int) > 6) = false from decide_eq_false (by omega), if_neg c2]
      simp only [spec_l2Name.j0]
      rw [if_neg (by simp)]
      exact name2Loop_ev a (by omega) a.size 0 k (by omega) (by omega)
def pl : List Int → Bool
  | [] => true
  | i :: r => if i < 0 then false else if i > 1 then false else pl r
def pf (l : List Int) : Bool := if l.length > 4 then false else pl l
theorem pathLoop_ev : ∀ (r pre : List Int) (k : Nat), pre.length + r.length ≤ 1000 → r.length + 1 ≤ k → impl_pathForm.l0 k (pre ++ r) ((pre ++ r).length : Int) (pre.length : Int) = some (pl r) := by
  intro r
  induction r with
  | nil =>
    intro pre k h hk
    obtain ⟨k, rfl⟩ : ∃ m, k = m + 1 := ⟨k - 1, by omega⟩
    simp only [impl_pathForm.l0]
    rw [if_neg (by simp)]; rfl
  | cons i r ih =>
    intro pre k h hk
    simp only [List.length_cons] at h hk
    obtain ⟨k, rfl⟩ : ∃ m, k = m + 1 := ⟨k - 1, by omega⟩
    have hl : ((pre ++ i :: r).length : Int) = pre.length + 1 + r.length := by simp; omega
    simp only [impl_pathForm.l0, rdm, pl]
    rw [if_pos (by omega), if_pos (by omega), if_pos (by omega)]
    by_cases c1 : i < 0
    · rw [if_pos c1, if_pos c1]
    · rw [if_neg c1, if_neg c1]
      by_cases c2 : i > 1
      · rw [if_pos c2, if_pos c2]
      · rw [if_neg c2, if_neg c2, w64 (by omega) (by omega)]
        have ea : pre ++ i :: r = (pre ++ [i]) ++ r := by simp
        have el : (pre.length : Int) + 1 = ((pre ++ [i]).length : Int) := by simp
        rw [el, ea]
        exact ih _ k (by simp; omega) (by omega)
theorem path2Loop_ev (a : ByteArray) : ∀ (r pre : List Int) (k : Nat), pre.length + r.length ≤ 1000 → r.length + 1 ≤ k → spec_l2Place.l0 k (pre.length : Int) a (pre ++ r) = some (pl r) := by
  intro r
  induction r with
  | nil =>
    intro pre k h hk
    obtain ⟨k, rfl⟩ : ∃ m, k = m + 1 := ⟨k - 1, by omega⟩
    simp only [spec_l2Place.l0]
    rw [if_neg (by simp)]; rfl
  | cons i r ih =>
    intro pre k h hk
    simp only [List.length_cons] at h hk
    obtain ⟨k, rfl⟩ : ∃ m, k = m + 1 := ⟨k - 1, by omega⟩
    have hl : ((pre ++ i :: r).length : Int) = pre.length + 1 + r.length := by simp; omega
    simp only [spec_l2Place.l0, rdm, pl, spec_l6In.f]
    rw [if_pos (by omega), if_pos (by omega)]
    by_cases c1 : i < 0
    · rw [if_neg (by omega), if_pos c1]; rfl
    · rw [if_pos (by omega), if_neg c1]; simp only [Option.bind_some]
      by_cases c2 : i > 1
      · rw [if_neg (by simp; omega), if_pos c2]
      · rw [if_pos (by simp; omega), if_neg c2, w64 (by omega) (by omega)]
        have ea : pre ++ i :: r = (pre ++ [i]) ++ r := by simp
        have el : (pre.length : Int) + 1 = ((pre ++ [i]).length : Int) := by simp
        rw [el, ea]
        exact ih _ k (by simp; omega) (by omega)
def wf (a : ByteArray) (l : List Int) : Bool := nf a && pf l
theorem implForm_ev (a : ByteArray) (l : List Int) (k : Nat) (hk : 20 ≤ k) : impl_placeForm.f k a l = some (wf a l) := by
  unfold impl_placeForm.f wf
  rw [implName_ev a k (by omega)]; simp only [Option.bind_some]
  cases nf a with
  | false => rfl
  | true =>
    simp only [if_true]
    unfold impl_pathForm.f pf
    by_cases c : l.length > 4
    · rw [if_pos (by omega), if_pos c]; rfl
    · rw [if_neg (by omega), if_neg c]
      have := pathLoop_ev l [] k (by simp; omega) (by omega)
      simp only [List.nil_append, List.length_nil] at this
      rw [show ((0 : Nat) : Int) = 0 from rfl] at this
      rw [this]; simp
theorem specForm_ev (a : ByteArray) (l : List Int) (k : Nat) (hk : 20 ≤ k) : spec_l2Place.f k a l = some (wf a l) := by
  obtain ⟨k, rfl⟩ : ∃ m, k = m + 1 := ⟨k - 1, by omega⟩
  unfold spec_l2Place.f wf
  rw [specName_ev a (k + 1) (by omega)]; simp only [Option.bind_some]
  cases nf a with
  | false => simp only [spec_l2Place.j0, if_true]; rfl
  | true =>
    simp only [if_true, spec_l2Place.j0]
    unfold pf
    by_cases c : l.length > 4
    · rw [if_pos (by simp; omega), if_pos c]; rfl
    · rw [if_neg (by simp; omega), if_neg c]
      have := path2Loop_ev a l [] k (by simp; omega) (by omega)
      simp only [List.nil_append, List.length_nil] at this
      rw [show ((0 : Nat) : Int) = 0 from rfl] at this
      rw [this]; simp
def mt : List Int → List Int → Bool
  | [], _ => true
  | _ :: _, [] => true
  | i :: r, j :: s => if i = j then mt r s else false
theorem mt_nil (l : List Int) : mt l [] = true := by cases l <;> rfl
theorem mt_self : ∀ l, mt l l = true := by
  intro l
  induction l with
  | nil => rfl
  | cons i r ih => unfold mt; rw [if_pos rfl, ih]
theorem mt_app : ∀ l r, mt l (l ++ r) = true := by
  intro l r
  induction l with
  | nil => rfl
  | cons i s ih => rw [List.cons_append]; unfold mt; rw [if_pos rfl, ih]
theorem mt_comm : ∀ l m, mt l m = mt m l := by
  intro l
  induction l with
  | nil => intro m; rw [mt_nil]; rfl
  | cons i r ih =>
    intro m
    cases m with
    | nil => rfl
    | cons j s =>
      unfold mt
      by_cases c : i = j
      · rw [if_pos c, if_pos c.symm, ih]
      · rw [if_neg c, if_neg (fun e => c e.symm)]
theorem mt_take : ∀ (l m : List Int) (n : Nat), n ≤ l.length → n ≤ m.length → (l.length ≤ n ∨ m.length ≤ n) → mt l m = decide (l.take n = m.take n) := by
  intro l
  induction l with
  | nil =>
    intro m n h1 _ _
    simp only [List.length_nil] at h1
    obtain rfl : n = 0 := by omega
    simp [mt]
  | cons i r ih =>
    intro m n h1 h2 h3
    cases m with
    | nil =>
      simp only [List.length_nil] at h2
      obtain rfl : n = 0 := by omega
      simp [mt]
    | cons j s =>
      cases n with
      | zero => simp at h3
      | succ n =>
        simp only [List.length_cons] at h1 h2 h3
        unfold mt
        rw [List.take_succ_cons, List.take_succ_cons]
        by_cases c : i = j
        · rw [if_pos c, ih s n (by omega) (by omega) (by omega), c]; simp
        · rw [if_neg c]; simp [c]
theorem rdAt (pre r : List Int) (i : Int) (n : Int) (h : n = pre.length) : rd (pre ++ i :: r) n = i := by rw [h]; exact rdm pre r i
theorem equalLoop_ev : ∀ (r s p q : List Int) (k : Nat), p.length = q.length → r.length = s.length → p.length + r.length ≤ 4611686018427387904 → r.length + 1 ≤ k →
    slices_Equal_int_int.l0 k (p ++ r) (q ++ s) ((p ++ r).length : Int) (p.length : Int) = some (decide (r = s)) := by
  intro r
  induction r with
  | nil =>
    intro s p q k hp hs h hk
    obtain ⟨k, rfl⟩ : ∃ m, k = m + 1 := ⟨k - 1, by omega⟩
    obtain rfl : s = [] := List.length_eq_zero_iff.1 hs.symm
    simp only [slices_Equal_int_int.l0]
    rw [if_neg (by simp)]; rfl
  | cons i r ih =>
    intro s p q k hp hs h hk
    cases s with
    | nil => simp at hs
    | cons j s =>
      simp only [List.length_cons] at hs h hk
      obtain ⟨k, rfl⟩ : ∃ m, k = m + 1 := ⟨k - 1, by omega⟩
      have hl : ((p ++ i :: r).length : Int) = p.length + 1 + r.length := by simp; omega
      have hl2 : ((q ++ j :: s).length : Int) = p.length + 1 + r.length := by simp; omega
      simp only [slices_Equal_int_int.l0, rdm]
      rw [rdAt q s j _ (by omega), if_pos (by omega), if_pos (by omega), if_pos (by omega), if_pos (by omega)]
      by_cases c : i = j
      · rw [if_pos c, w64 (by omega) (by omega)]
        have ea : p ++ i :: r = (p ++ [i]) ++ r := by simp
        have eb : q ++ j :: s = (q ++ [j]) ++ s := by simp
        have el : (p.length : Int) + 1 = ((p ++ [i]).length : Int) := by simp
        rw [el, ea, eb, ih s _ _ k (by simp; omega) (by omega) (by simp; omega) (by omega), c]; simp
      · rw [if_neg c]; simp [c]
theorem equal_ev (l m : List Int) (k : Nat) (h : l.length ≤ 4611686018427387904) (hk : l.length + 1 ≤ k) : slices_Equal_int_int.f k l m = some (decide (l = m)) := by
  unfold slices_Equal_int_int.f
  by_cases c : l.length = m.length
  · rw [if_pos (by omega)]
    have := equalLoop_ev l m [] [] k rfl c (by simpa using h) hk
    simpa using this
  · rw [if_neg (by omega)]
    have : l ≠ m := fun e => c (by rw [e])
    simp [this]
def pm (a : ByteArray) (l : List Int) (b : ByteArray) (m : List Int) : Bool := decide (a.toList = b.toList) && mt l m
theorem implMeet_ev (a : ByteArray) (l : List Int) (b : ByteArray) (m : List Int) (k : Nat) (h : l.length ≤ 1000) (h2 : m.length ≤ 1000) (hk : 1010 ≤ k) : impl_placesMeet.f k a l b m = some (pm a l b m) := by
  unfold impl_placesMeet.f pm
  by_cases c : a.toList = b.toList
  · by_cases c2 : m.length < l.length
    · rw [if_pos (by omega), if_pos c, if_pos (by omega), if_pos (by omega), if_pos (by omega), show (((m.length : Int)) : Int).toNat = m.length by omega]
      rw [equal_ev _ _ k (by simp; omega) (by simp; omega), ← mt_take l m m.length (by omega) (by omega) (by omega)]; simp [c]
    · rw [if_neg (by omega), if_pos c, if_pos (by omega), if_pos (by omega), if_pos (by omega), show (((l.length : Int)) : Int).toNat = l.length by omega]
      rw [equal_ev _ _ k (by simp; omega) (by simp; omega), ← mt_take l m l.length (by omega) (by omega) (by omega)]; simp [c]
  · rw [if_neg c, if_neg c]; simp [c]
theorem meetLoop_ev (a b : ByteArray) : ∀ (r s p q : List Int) (k : Nat), p.length = q.length → p.length + r.length ≤ 1000 → p.length + s.length ≤ 1000 → 2 * r.length + 3 ≤ k →
    spec_l3Meet.l0 k (p.length : Int) a (p ++ r) b (q ++ s) = some (mt r s) := by
  intro r
  induction r with
  | nil =>
    intro s p q k hp h h2 hk
    obtain ⟨k, rfl⟩ : ∃ m, k = m + 2 := ⟨k - 2, by omega⟩
    simp only [spec_l3Meet.l0]
    rw [if_neg (by simp)]; simp only [spec_l3Meet.j1]
    rw [if_neg (by simp)]; rfl
  | cons i r ih =>
    intro s p q k hp h h2 hk
    simp only [List.length_cons] at h hk
    obtain ⟨k, rfl⟩ : ∃ m, k = m + 2 := ⟨k - 2, by omega⟩
    have hl : ((p ++ i :: r).length : Int) = p.length + 1 + r.length := by simp; omega
    simp only [spec_l3Meet.l0]
    rw [if_pos (by omega)]; simp only [spec_l3Meet.j1]
    cases s with
    | nil =>
      have hl2 : ((q ++ []).length : Int) = p.length := by simp; omega
      rw [if_neg (by simp; omega)]; rfl
    | cons j s =>
      simp only [List.length_cons] at h2
      have hl2 : ((q ++ j :: s).length : Int) = p.length + 1 + s.length := by simp; omega
      rw [if_pos (by simp; omega), if_pos (by omega), if_pos (by omega), if_pos (by omega), rdm, rdAt q s j _ (by omega)]
      unfold mt
      by_cases c : i = j
      · rw [if_pos c, if_pos c, w64 (by omega) (by omega)]
        have ea : p ++ i :: r = (p ++ [i]) ++ r := by simp
        have eb : q ++ j :: s = (q ++ [j]) ++ s := by simp
        have el : (p.length : Int) + 1 = ((p ++ [i]).length : Int) := by simp
        rw [el, ea, eb, ih s _ _ k (by simp; omega) (by simp; omega) (by simp; omega) (by omega)]
      · rw [if_neg c, if_neg c]
theorem specMeet_ev (a : ByteArray) (l : List Int) (b : ByteArray) (m : List Int) (k : Nat) (h : l.length ≤ 1000) (h2 : m.length ≤ 1000) (hk : 2010 ≤ k) : spec_l3Meet.f k a l b m = some (pm a l b m) := by
  unfold spec_l3Meet.f pm
  by_cases c : a.toList = b.toList
  · rw [if_pos c]
    have := meetLoop_ev a b l m [] [] k rfl (by simpa using h) (by simpa using h2) (by omega)
    simp only [List.nil_append, List.length_nil] at this
    rw [show ((0 : Nat) : Int) = 0 from rfl] at this
    rw [this]; simp [c]
  · rw [if_neg c]; simp [c]
theorem wf_len {a : ByteArray} {l : List Int} (h : wf a l = true) : l.length ≤ 4 := by
  unfold wf pf at h
  by_cases c : l.length > 4
  · rw [if_pos c] at h; simp at h
  · omega
def lm (a : ByteArray) (l : List Int) (b : ByteArray) (m : List Int) : Bool := wf a l && (wf b m && pm a l b m)
theorem implLend_ev (a : ByteArray) (l : List Int) (b : ByteArray) (m : List Int) (k : Nat) (hk : 3000 ≤ k) : impl_LendMeet.f k a l b m = some (lm a l b m) := by
  unfold impl_LendMeet.f lm
  rw [implForm_ev a l k (by omega)]; simp only [Option.bind_some]
  cases e : wf a l with
  | false => rfl
  | true =>
    simp only [if_true]
    rw [implForm_ev b m k (by omega)]; simp only [Option.bind_some]
    cases e2 : wf b m with
    | false => rfl
    | true =>
      have := wf_len e
      have := wf_len e2
      simp only [if_true]
      rw [implMeet_ev a l b m k (by omega) (by omega) (by omega)]; simp
theorem specLend_ev (a : ByteArray) (l : List Int) (b : ByteArray) (m : List Int) (k : Nat) (hk : 3000 ≤ k) : spec_LendMeet.f k a l b m = some (lm a l b m) := by
  unfold spec_LendMeet.f lm
  rw [specForm_ev a l k (by omega)]; simp only [Option.bind_some]
  cases e : wf a l with
  | false => rfl
  | true =>
    simp only [if_true]
    rw [specForm_ev b m k (by omega)]; simp only [Option.bind_some]
    cases e2 : wf b m with
    | false => rfl
    | true =>
      have := wf_len e
      have := wf_len e2
      simp only [if_true]
      rw [specMeet_ev a l b m k (by omega) (by omega) (by omega)]; simp
theorem lm_comm (a : ByteArray) (l : List Int) (b : ByteArray) (m : List Int) : lm b m a l = lm a l b m := by
  unfold lm pm
  rw [mt_comm m l, show decide (b.toList = a.toList) = decide (a.toList = b.toList) from by rw [decide_eq_decide]; exact eq_comm]
  cases wf a l <;> cases wf b m <;> rfl
theorem lm_self (a : ByteArray) (l : List Int) : lm a l a l = wf a l := by
  unfold lm pm
  rw [mt_self]; cases wf a l <;> simp
theorem pl_app : ∀ (l : List Int) (e : Int), pl l = true → 0 ≤ e → e ≤ 1 → pl (l ++ [e]) = true := by
  intro l e
  induction l with
  | nil => intro _ h0 h1; rw [List.nil_append]; unfold pl; rw [if_neg (by omega), if_neg (by omega)]; rfl
  | cons i r ih =>
    intro h h0 h1
    rw [List.cons_append]
    unfold pl at h ⊢
    by_cases c1 : i < 0
    · rw [if_pos c1] at h; cases h
    · rw [if_neg c1] at h ⊢
      by_cases c2 : i > 1
      · rw [if_pos c2] at h; cases h
      · rw [if_neg c2] at h ⊢; exact ih h h0 h1
theorem lm_part (a : ByteArray) (l : List Int) (e : Int) (h : wf a l = true) (h0 : 0 ≤ e) (h1 : e ≤ 1) (hl : (l ++ [e]).length ≤ 4) : lm a l a (l ++ [e]) = true := by
  have h' : wf a (l ++ [e]) = true := by
    have hl' := wf_len h
    unfold wf pf at h ⊢
    rw [if_neg (by omega)] at h
    rw [if_neg (by omega)]
    rw [Bool.and_eq_true] at h ⊢
    exact ⟨h.1, pl_app l e h.2 h0 h1⟩
  unfold lm pm
  rw [h, h', mt_app]; simp
end Go.Proofs.Ythhjdngailhihaa.Places
end
section
namespace Go.Proofs.Ythhjdngailhihaa.OpenP
open Go.ChangeShapes Go.WideShapes Go.ChangeAt Go.RowKit Go.Deep Go.Proofs.Ythhjdngailhihaa.PA Go.Proofs.YthhjdngailhihaaW.PrintWords Go.Proofs.YthhjdngailhihaaW.PrintLast
section
variable {H : Type} {enc : TypeId × Value → H} {P : Program} {w : World} {base : Nat} {spare : Nat → Bool} {held : Bool}
theorem struct2p {t : TypeId} {f0 f1 : Field} {fuel : Nat} {cs : List Value} {x : DataW H × List MemPlace} (ht : P.underlying t = some (.struct #[f0, f1])) (h : DataW.trod enc P w base spare held fuel t cs = some x) :
    ∃ y0 y1 n, fuel = n + 1 ∧ cs.length = P.cellsOf t ∧ DataW.trod enc P w base spare held n f0.type ((cs.drop f0.offset).take (P.cellsOf f0.type)) = some y0 ∧ DataW.trod enc P w base spare held n f1.type ((cs.drop f1.offset).take (P.cellsOf f1.type)) = some y1 := by
  obtain ⟨xs, n, hfu, _, hl, hlen, hf⟩ := DataW.trod_struct ht h
  match xs, hlen with
  | [y0, y1], _ => exact ⟨y0, y1, n, hfu, hl, by simpa using hf 0 f0 rfl, by simpa using hf 1 f1 rfl⟩
end
theorem two_ofp {α : Type} {l : List α} (h : l.length = 2) : ∃ a b, l = [a, b] := by
  match l, h with
  | [a, b], _ => exact ⟨a, b, rfl⟩
theorem openP {H : Type} {enc : TypeId × Value → H} {W : World} (m : Nat) (cs : List Value) (x : DataW H × List MemPlace)
    (h : DataW.trod enc Try.prog W 0 (fun _ => true) true m 30 cs = some x) : ∃ (n : ByteArray) (a : Option Addr) (c : Nat) (l : List Int), cs = [.string n, .slice a l.length c] ∧ Kd.C (Kd.int .i64) W a l.length l ∧ l.length ≤ c ∧ (n.size ≤ maxLen ∧ l.length ≤ maxLen) := by
  obtain ⟨y0, y1, n, rfl, hl, hf0, hf⟩ := struct2p Try.underlying30 h
  have hc : Try.prog.cellsOf 30 = 2 := by kernel_rfl
  have hci : Try.prog.cellsOf 9 = 1 := by kernel_rfl
  have hcs : Try.prog.cellsOf 23 = 1 := by kernel_rfl
  rw [hc] at hl
  obtain ⟨u, v, rfl⟩ := two_ofp hl
  have h0 : DataW.trod enc Try.prog W 0 (fun _ => true) true n 9 (([u, v].drop 0).take (Try.prog.cellsOf 9)) = some y0 := hf0
  have h1 : DataW.trod enc Try.prog W 0 (fun _ => true) true n 23 (([u, v].drop 1).take (Try.prog.cellsOf 23)) = some y1 := hf
  rw [hci] at h0
  rw [hcs] at h1
  simp only [List.drop_zero, List.drop_succ_cons, List.take_succ_cons, List.take_zero] at h0 h1
  obtain ⟨s, hs, _, hsz⟩ := DataW.trod_string Try.underlying9 h0
  simp only [List.cons.injEq, and_true] at hs
  subst hs
  have hw : ∃ (a : Option Addr) (len cap : Nat) (zs : List Int), v = .slice a len cap ∧ ((a = none ∧ len = 0 ∧ cap = 0 ∧ zs = []) ∨ ∃ x, a = some x ∧ len ≤ cap ∧ cap ≤ maxLen ∧ zs.length = cap ∧ (∀ i, i < zs.length → W.cell? (x.add i) = some (.int .i64 (zs.getD i 0))) ∧ (∀ n ∈ zs, (Lit.int .i64 n).wf = true)) := by
    rcases open_ints Try.underlying23 Try.underlying3 (by kernel_rfl) h1 with ⟨hcs, _⟩ | ⟨x, l, c, zs, hcs, _, hl, hm, hz, _, hcell, hwz⟩
    · simp only [List.cons.injEq, and_true] at hcs
      exact ⟨none, 0, 0, [], hcs, .inl ⟨rfl, rfl, rfl, rfl⟩⟩
    · simp only [List.cons.injEq, and_true] at hcs
      exact ⟨some x, l, c, zs, hcs, .inr ⟨x, rfl, hl, hm, by simpa using hz, hcell, hwz⟩⟩
  obtain ⟨a, len, cap, zs, rfl, hrow⟩ := hw
  obtain ⟨l, rfl, hr, hm, _, hcap⟩ := ReadsInt.ofRowC hrow
  exact ⟨s, a, cap, l, rfl, Kd.C_of_reads (d := (0 : Int)) (h1 := fun _ => rfl) hr, hcap, hsz, hm⟩
theorem argP {H : Type} {enc : TypeId × Value → H} {W : World} {cs : Array Value} {d : DataW H} {ps : List MemPlace} (h : DataW.Trod enc Try.prog W 0 (fun _ => true) true 30 (.agg cs) d ps) :
    ∃ (n : ByteArray) (a : Option Addr) (c : Nat) (l : List Int), cs = #[.string n, .slice a l.length c] ∧ Kd.C (Kd.int .i64) W a l.length l ∧ l.length ≤ c ∧ (n.size ≤ maxLen ∧ l.length ≤ maxLen) := by
  obtain ⟨m, hm⟩ := h
  obtain ⟨n, a, c, l, e, hC, hl, hb⟩ := openP m _ _ hm
  refine ⟨n, a, c, l, ?_, hC, hl, hb⟩
  have e' : cs.toList = [.string n, .slice a l.length c] := e
  exact Array.toList_inj.1 e'
end Go.Proofs.Ythhjdngailhihaa.OpenP
end
section
set_option linter.unusedSimpArgs false
set_option linter.unusedVariables false
namespace Go.Proofs.Ythhjdngailhihaa.Pure
open Go.RowKit Go.Proofs.Ythhjdngailhihaa.PA Go.Proofs.YthhjdngailhihaaW.PrintWords Go.Proofs.YthhjdngailhihaaW.PrintLast Go.Proofs.Ythhjdngailhihaa.Draw Go.Proofs.Ythhjdngailhihaa.Places
theorem toLoop_ev : ∀ (r p : List Int) (k : Nat), p.length + r.length ≤ 4611686018427387904 → r.length + 1 ≤ k →
    laws_toIntS.l0 k (p ++ r) (p ++ List.replicate r.length 0) (p.length : Int) = some (p ++ r) := by
  intro r
  induction r with
  | nil =>
    intro p k h hk
    obtain ⟨k, rfl⟩ : ∃ m, k = m + 1 := ⟨k - 1, by omega⟩
    simp only [laws_toIntS.l0]
    rw [if_neg (by simp)]; rfl
  | cons i r ih =>
    intro p k h hk
    simp only [List.length_cons] at h hk
    obtain ⟨k, rfl⟩ : ∃ m, k = m + 1 := ⟨k - 1, by omega⟩
    have hl : ((p ++ i :: r).length : Int) = p.length + 1 + r.length := by simp; omega
    simp only [laws_toIntS.l0, rdm]
    rw [if_pos (by omega), if_pos (by omega), if_pos (by simp; omega), w64 (by omega) (by omega), show (((p.length : Int)) : Int).toNat = p.length by omega]
    have ea : p ++ i :: r = (p ++ [i]) ++ r := by simp
    have es : (p ++ List.replicate (i :: r).length 0).set p.length i = (p ++ [i]) ++ List.replicate r.length 0 := by
      rw [List.length_cons, List.replicate_succ, List.set_append_right _ _ (Nat.le_refl _), Nat.sub_self, List.set_cons_zero]; simp
    have el : (p.length : Int) + 1 = ((p ++ [i]).length : Int) := by simp
    rw [el, es, ea]
    exact ih _ k (by simp; omega) (by omega)
theorem to_ev (l : List Int) (k : Nat) (h : l.length ≤ 1048576) (hk : l.length + 1 ≤ k) : laws_toIntS.f k l = some l := by
  unfold laws_toIntS.f
  rw [if_pos (by omega), if_pos (by omega), show (((l.length : Int)) : Int).toNat = l.length by omega]
  have := toLoop_ev l [] k (by simp; omega) hk
  simpa using this
theorem eqLoop_ev : ∀ (r p : List Int) (k : Nat), p.length + r.length ≤ 4611686018427387904 → r.length + 1 ≤ k → laws_eqIntS.l0 k (p ++ r) (p ++ r) (p.length : Int) = some true := by
  intro r
  induction r with
  | nil =>
    intro p k h hk
    obtain ⟨k, rfl⟩ : ∃ m, k = m + 1 := ⟨k - 1, by omega⟩
    simp only [laws_eqIntS.l0]
    rw [if_neg (by simp)]
  | cons i r ih =>
    intro p k h hk
    simp only [List.length_cons] at h hk
    obtain ⟨k, rfl⟩ : ∃ m, k = m + 1 := ⟨k - 1, by omega⟩
    have hl : ((p ++ i :: r).length : Int) = p.length + 1 + r.length := by simp; omega
    simp only [laws_eqIntS.l0]
    rw [if_pos (by omega), if_pos (by omega), if_pos (by omega), if_pos trivial, w64 (by omega) (by omega)]
    have ea : p ++ i :: r = (p ++ [i]) ++ r := by simp
    have el : (p.length : Int) + 1 = ((p ++ [i]).length : Int) := by simp
    rw [el, ea]
    exact ih _ k (by simp; omega) (by omega)
theorem eqRow_ev (l : List Int) (k : Nat) (h : l.length ≤ 1048576) (hk : l.length + 1 ≤ k) : laws_eqIntS.f k l l = some true := by
  unfold laws_eqIntS.f
  rw [if_pos rfl]
  have := eqLoop_ev l [] k (by simp; omega) hk
  simpa using this
theorem eqPlace_ev (a : ByteArray) (l : List Int) (k : Nat) (h : l.length ≤ 1048576) (hk : l.length + 1 ≤ k) : laws_eqPlace.f k a l a l = some true := by
  unfold laws_eqPlace.f
  rw [if_pos rfl, eqRow_ev l k h hk]; rfl
theorem toPlace_ev (a : ByteArray) (l : List Int) (k : Nat) (h : l.length ≤ 1048576) (hk : l.length + 1 ≤ k) : laws_toPlace.f k a l = some (a, l) := by
  unfold laws_toPlace.f
  rw [to_ev l k h hk]; rfl
theorem size_ev (a : ByteArray) (l : List Int) (n : Int) (ha : a.size ≤ maxLen) (hl : l.length ≤ maxLen) (h0 : 0 ≤ n) (h1 : n ≤ 1048576) : ∃ m, laws_szPlace.f a l n = some m ∧ m ≤ 1048576 ∧ (0 ≤ m → l.length ≤ 1048576) := by
  have hm : maxLen = 9223372036854775807 := by decide
  unfold laws_szPlace.f
  rw [w64 (by omega) (by omega)]
  by_cases c : n - (a.size : Int) < 0
  · rw [if_pos c]; exact ⟨-1, rfl, by omega, fun h => by omega⟩
  · rw [if_neg c]
    unfold laws_szIntS.f
    rw [w64 (by omega) (by omega)]
    by_cases c2 : n - (a.size : Int) - (l.length : Int) < 0
    · rw [if_pos c2]; simp only [Option.bind_some]
      rw [if_pos (by omega)]; exact ⟨-1, rfl, by omega, fun h => by omega⟩
    · rw [if_neg c2]; simp only [Option.bind_some]
      rw [if_neg c2]; exact ⟨_, rfl, by omega, fun h => by omega⟩
theorem FnExactLendMeet (a : ByteArray) (l : List Int) (ba : a.size ≤ maxLen ∧ l.length ≤ maxLen) (b : ByteArray) (m : List Int) (bb : b.size ≤ maxLen ∧ m.length ≤ maxLen) : ∃ k, laws_FnExactLendMeet.f k a l b m = some true := by
  refine ⟨1100000, ?_⟩
  obtain ⟨k, hk⟩ : ∃ k, k = 1100000 := ⟨_, rfl⟩
  rw [← hk]
  unfold laws_FnExactLendMeet.f
  obtain ⟨n1, e1, u1, v1⟩ := size_ev a l 1048576 ba.1 ba.2 (by omega) (by omega)
  rw [e1]; simp only [Option.bind_some]
  by_cases c1 : n1 < 0
  · rw [if_pos c1]
  · rw [if_neg c1]
    obtain ⟨n2, e2, u2, v2⟩ := size_ev b m n1 bb.1 bb.2 (by omega) (by omega)
    rw [e2]; simp only [Option.bind_some]
    by_cases c2 : n2 < 0
    · rw [if_pos c2]
    · rw [if_neg c2]
      have hl := v1 (by omega)
      have hm := v2 (by omega)
      rw [toPlace_ev a l k hl (by omega)]; simp only [Option.bind_some]
      rw [toPlace_ev b m k hm (by omega)]; simp only [Option.bind_some]
      rw [specLend_ev a l b m k (by omega)]; simp only [Option.bind_some]
      rw [implLend_ev a l b m k (by omega)]; simp only [Option.bind_some]
      rw [if_neg (by simp), eqPlace_ev a l k hl (by omega)]; simp only [Option.bind_some, if_true]
      rw [eqPlace_ev b m k hm (by omega)]; rfl
end Go.Proofs.Ythhjdngailhihaa.Pure
end
section
namespace Go.Proofs.YthhjdngailhihaaW.PrintWords
open Go.ChangeShapes Go.WideShapes
end Go.Proofs.YthhjdngailhihaaW.PrintWords
end
section
namespace Go.Proofs.Ythhjdngailhihaa.fnExactLendMeet
open Go.ChangeShapes Go.WideShapes Go.ChangeAt Go.RowKit Go.Proofs.Ythhjdngailhihaa.PA Go.Proofs.Ythhjdngailhihaa.OpenP Go.Proofs.YthhjdngailhihaaW.PrintWords
open Go.ChangeMaps (open_string shut_string)
set_option linter.unusedVariables false
theorem own : ownKnob Try.prog.godebug = none := by kernel_rfl
theorem laidOut : laidOutB Try.prog = true := by kernel_rfl
def IsRow (k : IntKind) (w : World) (a : Option Addr) (len cap : Nat) (zs : List Int) : Prop :=
  (a = none ∧ len = 0 ∧ cap = 0 ∧ zs = []) ∨
  ∃ x, a = some x ∧ len ≤ cap ∧ cap ≤ maxLen ∧ zs.length = cap ∧ (∀ i, i < zs.length → w.cell? (x.add i) = some (.int k (zs.getD i 0))) ∧ ∀ n ∈ zs, (Lit.int k n).wf = true
set_option maxRecDepth 100000 in
theorem lifted (os : Os) (started : os.Started) (H : Type) (enc : TypeId × Value → H) :
    ReturnsInHanded {} Try.checked os 4 .any (Rows.fnExactLendMeetSpec.pre6 enc Try.prog Try.f4 Rows.fnExactLendMeetRow.domain false) (Rows.fnExactLendMeetSpec.post enc Try.prog Try.f4 false true false false) := by
  refine returnsInHanded_of_change_sized (C := Try.checked) own started (by kernel_rfl) Try.func4
    (ChangeSpec.witness6 (enc := enc) (C := Try.checked) false ⟨#[], #[.agg #[.string ByteArray.empty, .slice none 0 0], .agg #[.string ByteArray.empty, .slice none 0 0]], []⟩ 8 (by kernel_rfl) (by kernel_rfl) (by kernel_rfl) (by kernel_rfl)) ?_
  intro W base args ds gs before hval0 hW hcnd hsz0 _
  have hsz : (DataW.weightsEach Try.prog (Try.f4.params.toList ++ Rows.fnExactLendMeetSpec.plain.varTypes Try.prog) (ds ++ gs)).all (· ≤ reachBytes) = true := hsz0
  have hval : ∀ (j : Nat) t v, Try.f4.params[j]? = some t → args[j]? = some v → Value.okWide Try.prog W .any base t v := hval0
  have hW' := hW
  obtain ⟨p, q, hA0, hV, rfl, hfz, hnd⟩ := hW
  have hA : DataW.TrodAll enc Try.prog W 0 (fun _ => true) true Try.f4.params.toList args.toList ds p := hA0
  rw [Try.params4] at hA hval hsz
  obtain ⟨v0, vs0, d0, ds0, p0, q0, hargs, rfl, rfl, h0, r0⟩ := trodAll_cons hA
  obtain ⟨v1, vs1, d1, ds1, p1, q1, rfl, rfl, rfl, h1, r1⟩ := trodAll_cons r0
  obtain ⟨rfl, rfl, rfl⟩ := trodAll_nil r1
  obtain rfl : args = #[v0, v1] := by cases args; simp_all
  obtain ⟨rfl, rfl⟩ := trodVars_none hV
  have k0 := h0
  have lt0 : ∀ x ∈ p0, x.block < W.heap.size := by obtain ⟨m, hm⟩ := k0; exact DataW.trod_lt m _ _ _ hm
  obtain ⟨cs0, rfl, _⟩ := okWide_struct Try.underlying30 (hval 0 30 v0 rfl rfl)
  obtain ⟨n0, a0, cap0, l0, rfl, c0, b0, bd0⟩ := argP h0
  have k1 := h1
  have lt1 : ∀ x ∈ p1, x.block < W.heap.size := by obtain ⟨m, hm⟩ := k1; exact DataW.trod_lt m _ _ _ hm
  obtain ⟨cs1, rfl, _⟩ := okWide_struct Try.underlying30 (hval 1 30 v1 rfl rfl)
  obtain ⟨n1, a1, cap1, l1, rfl, c1, b1, bd1⟩ := argP h1
  clear hA0 hval0 hsz0 hsz
  obtain ⟨k, hk⟩ := Pure.FnExactLendMeet n0 l0 bd0 n1 l1 bd1
  refine (laws_FnExactLendMeet.calls k n0 _ _ l0 n1 _ _ l1 true W c0 b0 c1 b1 hk ⟨rfl⟩).mono fun e W' ⟨he, bel⟩ => ?_
  subst he
  exact ⟨_, rfl, _, _, _, [], _, [], hW', trodAll_mk1 (shut_bool Try.underlying4 _), (trodAll_cons_mk (Below.trod laidOut (by kernel_rfl) (of_decide_eq_true (by kernel_rfl)) k0 bel lt0) (trodAll_cons_mk (Below.trod laidOut (by kernel_rfl) (of_decide_eq_true (by kernel_rfl)) k1 bel lt1) trodAll_mk0)), rfl, bel.frame _, fun h => by cases h⟩
theorem over : Rows.fnExactLendMeetRow.holds Try.pinned (OpenSpec.ofChange Rows.fnExactLendMeetSpec) :=
  OpenClaim.holds_of_wide 4 Try.f4 rfl rfl rfl rfl rfl rfl rfl ⟨rfl, rfl, rfl, rfl, rfl⟩ rfl rfl rfl rfl rfl (by kernel_rfl) Try.func4 (by kernel_rfl)
    (of_decide_eq_true (by kernel_rfl)) (by unfold Func.isWrapper; first | (rw [if_pos (by decide +kernel)]; kernel_rfl) | (rw [if_neg (by decide +kernel)]; exact ⟨rfl, rfl⟩))
    (fun os started H enc _ => lifted os started H enc)
theorem proved : Rows.FnExactLendMeetSaid := over
end Go.Proofs.Ythhjdngailhihaa.fnExactLendMeet
namespace Go.Proofs.Ythhjdngailhihaa
theorem fnExactLendMeet_holds : Rows.FnExactLendMeetSaid := fnExactLendMeet.proved
end Go.Proofs.Ythhjdngailhihaa
end
