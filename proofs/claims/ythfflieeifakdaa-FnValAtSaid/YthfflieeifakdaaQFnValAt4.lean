-- Ythfflieeifakdaa's texts for the statement FnValAt, one behind the other (merge.py).
import Derived.Test.YthfflieeifakdaaQFnValAt0
import Derived.Test.YthfflieeifakdaaQFnValAt2
import Derived.Test.YthfflieeifakdaaQFnValAt3
import Derived.Test.YthfflieeifakdaaQFnValAt1
import Derived.SizedLaws
import Derived.ChangeSlices
import Derived.Test.YthfflieeifakdaaRows
import Derived.WalkKit
import Derived.ProofKit
import Derived.OpenShut
import Derived.ShutString
import Derived.ChangeOld
import Derived.Below
section
namespace Go.Proofs.Ythfflieeifakdaa.PA
open Go.RowKit Go.Proofs.YthfflieeifakdaaW.PrintWords Go.Proofs.YthfflieeifakdaaW.PrintLast Go.Proofs.YthfflieeifakdaaW.PrintMore
attribute [local go_sem] max2_int min2_int max_two min_two max_three min_three max_four min_four
set_option linter.unusedVariables false
set_option linter.unusedSimpArgs false
def impl_ValOk.f (k : Nat) (l0_0 : List (S50)) (a1_0 : Int) (l1_1 : List (S25)) : Option (Bool) := (impl_TypeOk.f k l0_0).bind fun t975 => (if t975 = true then ((impl_valTyped.f k a1_0 l1_1).bind fun bt976 => (if bt976.2 = true then ((impl_typeSame.f k bt976.1 l0_0).bind fun t981 => (some t981)) else (some false))) else (some false))
theorem impl_ValOk.mono : ∀ a0 a1 a2 k, LeO (impl_ValOk.f k a0 a1 a2) (impl_ValOk.f (k + 1) a0 a1 a2) := by
 intro a0 a1 a2 k
 unfold impl_ValOk.f
 repeat' first
   | (with_reducible exact impl_TypeOk.mono _ _)
   | (with_reducible exact impl_typeSame.mono _ _ _)
   | (with_reducible exact impl_valTyped.mono _ _ _)
   | (with_reducible exact LeO.refl _)
   | (with_reducible exact LeO.none _)
   | (with_reducible refine LeO.ite ?_ ?_)
   | (with_reducible refine LeO.bind ?_ (fun _ => ?_))
   | exact impl_TypeOk.mono _ _
   | exact impl_typeSame.mono _ _ _
   | exact impl_valTyped.mono _ _ _
   | exact LeO.none _
   | refine LeO.ite ?_ ?_
   | refine LeO.bind ?_ (fun _ => ?_)
set_option maxHeartbeats 8000000 in
set_option maxRecDepth 100000 in
theorem impl_ValOk.calls (k : Nat) (A0_0 : Option Addr) (c0_0 : Nat) (l0_0 : List (S50)) (a1_0 : Int) (A1_1 : Option Addr) (c1_1 : Nat) (l1_1 : List (S25)) (r : Bool) (w : World) (hr0_0 : Kd.C k50 w A0_0 l0_0.length l0_0) (hc0_0 : l0_0.length ≤ c0_0) (hr1_1 : Kd.C k25 w A1_1 l1_1.length l1_1) (hc1_1 : l1_1.length ≤ c1_1) (h : impl_ValOk.f k l0_0 a1_0 l1_1 = some r) :
  Calls Try.prog 28 #[.agg #[.slice A0_0 l0_0.length c0_0], .agg #[.int .i64 a1_0, .slice A1_1 l1_1.length c1_1]] w fun e w' => e = .returned (.bool r) ∧ Below w.heap.size w w' := by
 have hu50 := Try.underlying50
 have hu25 := Try.underlying25
 have HR0_0 := Aside0.mk hr0_0
 have HC0_0 := Aside0.mk hc0_0
 clear hr0_0 hc0_0
 have HR1_1 := Aside0.mk hr1_1
 have HC1_1 := Aside0.mk hc1_1
 clear hr1_1 hc1_1
 have HB := Aside0.mk (Below.refl w.heap.size w)
 have H : ((impl_TypeOk.f k l0_0).bind fun t975 => (if t975 = true then ((impl_valTyped.f k a1_0 l1_1).bind fun bt976 => (if bt976.2 = true then ((impl_typeSame.f k bt976.1 l0_0).bind fun t981 => (some t981)) else (some false))) else (some false))) = some r := h
 clear h
 obtain ⟨t975, A30, H⟩ := ob H
 have A3 := Aside0.mk A30
 clear A30
 by_cases c4 : t975 = true
 ·subst c4
  rw [if_pos rfl] at H
  obtain ⟨⟨t976, t979⟩, A50, H⟩ := ob H
  have A5 := Aside0.mk A50
  clear A50
  by_cases c6 : t979 = true
  ·subst c6
   rw [if_pos rfl] at H
   obtain ⟨t981, A70, H⟩ := ob H
   have A7 := Aside0.mk A70
   clear A70
   obtain rfl := Option.some.inj H
   go_enter Try.func28, Try.ntmps28
   go_wp2_with (first | ((with_reducible refine gate_dst (N := 2) rfl ?_); refine zbx 2 #[.slice A0_0 l0_0.length c0_0] 50 ?_; intro gb973 hg w8 hbox hb; have BK973 := Aside0.mk hbox; have GW973 := Aside0.mk ((y9 hg HB.out : w.heap.size ≤ gb973)); have GE973 := Aside0.mk ((y9 hg HB.out : w.heap.size ≤ gb973)); replace HB := Aside0.mk (below_step (y5 HB.out) hb); clear hb hbox hg) | ((with_reducible refine gate_dst (N := 3) rfl ?_); refine zbx 3 #[.int .i64 a1_0, .slice A1_1 l1_1.length c1_1] 25 ?_; intro gb974 hg w9 hbox hb; have BK974 := Aside0.mk hbox; have GW974 := Aside0.mk ((y11 hg HB.out GE973.out : w.heap.size ≤ gb974)); have GE974 := Aside0.mk ((y11 hg HB.out GE973.out : w.heap.size ≤ gb974)); replace HB := Aside0.mk (below_step (y6 HB.out GE973.out) hb); have NB973_974 := zltn hg BK973; have NB974_973 := zgtn hg BK973; replace BK973 := zbb BK973 hb; clear hb hbox hg; have hnb10 := NB973_974.out; have hnc10 := NB974_973.out; have hcz11_0 := zh BK973; have hfz11_0 := zfr BK973 0) | ((with_reducible refine gate_callee (f := 52) rfl ?_); refine goesL_ (some 8) rfl rfl Try.func52 (by kernel_rfl) rfl #[.agg #[.slice A0_0 l0_0.length c0_0]] rfl y8 ?_; (with_reducible refine (impl_TypeOk.calls k _ _ l0_0 true _ ?side1 ?side2 A3.out).mono ?_); (case side1 => exact y15 HR0_0.out HB.out); (case side2 => exact HC0_0.out); rintro e w12 ⟨rfl, hb⟩; refine ⟨_, rfl, ?_⟩; replace BK973 := zbb BK973 hb; replace BK974 := zbb BK974 hb; replace HB := Aside0.mk (below_step (y2 HB.out GE973.out GE974.out) hb); (try clear hb); (try clear hb2); (try clear hk); (try clear hi); have hcz13_0 := zh BK974; have hcz13_1 := zh1 BK974; have hfz13_0 := zfr BK974 0; have hfz13_1 := zfr BK974 1) | ((with_reducible refine gate_callee (f := 38) rfl ?_); refine goesL_ (some 12) rfl rfl Try.func38 (by kernel_rfl) rfl #[.agg #[.int .i64 a1_0, .slice A1_1 l1_1.length c1_1]] rfl y8 ?_; (with_reducible refine (impl_valTyped.calls k a1_0 _ _ l1_1 t976 true _ ?side1 ?side2 A5.out).mono ?_); (case side1 => exact y15 HR1_1.out HB.out); (case side2 => exact HC1_1.out); rintro e w14 ⟨v977, rfl, ho0, hb⟩; refine ⟨_, rfl, ?_⟩; have HO978 := Aside0.mk (Kd.N_lower (Kd.N_mono (ok' := fun k_ => k_ ≠ gb973 ∧ k_ ≠ gb974) ho0 (fun k_ hk_ => ⟨(Kd.freshB (g := gb973) (o := .cells #[.slice A0_0 l0_0.length c0_0] 50 (0, 0)) (y0 BK973.out) k_ hk_), (Kd.freshB (g := gb974) (o := .cells #[.int .i64 a1_0, .slice A1_1 l1_1.length c1_1] 25 (0, 0)) (y0 BK974.out) k_ hk_)⟩)) (below_size (y2 HB.out GE973.out GE974.out))); replace BK973 := zbb BK973 hb; replace BK974 := zbb BK974 hb; replace HB := Aside0.mk (below_step (y2 HB.out GE973.out GE974.out) hb); (try clear hb); (try clear hb2); (try clear hk); (try clear hi); (try clear ho0)) | ((with_reducible refine gate_dst (N := 5) rfl ?_); refine zbx 5 #[.slice none 0 0] 50 ?_; intro gb980 hg w15 hbox hb; replace HO978 := Aside0.mk (Kd.N_below (Kd.N_elderB (y3 HO978.out) gb980 (Nat.le_of_eq hg.symm)) hb); have BK980 := Aside0.mk hbox; have GW980 := Aside0.mk ((y16 hg HB.out GE973.out GE974.out : w.heap.size ≤ gb980)); have GE980 := Aside0.mk ((y16 hg HB.out GE973.out GE974.out : w.heap.size ≤ gb980)); replace HB := Aside0.mk (below_step (y2 HB.out GE973.out GE974.out) hb); have NB973_980 := zltn hg BK973; have NB980_973 := zgtn hg BK973; replace BK973 := zbb BK973 hb; have NB974_980 := zltn hg BK974; have NB980_974 := zgtn hg BK974; replace BK974 := zbb BK974 hb; clear hb hbox hg; obtain ⟨Ao16, co16, eo16⟩ := Kd.N_slice HO978.out; subst eo16; have hnb17 := NB980_973.out; have hnc17 := NB973_980.out; have hnb18 := NB980_974.out; have hnc18 := NB974_980.out; have hcz19_0 := zh BK980; have hfz19_0 := zfr BK980 0; have hcz20_0 := zh BK973; have hfz20_0 := zfr BK973 0) | (go_at_call 46; (with_reducible refine (impl_typeSame.calls k _ _ t976 _ _ l0_0 t981 _ ?side1 ?side2 ?side3 ?side4 A7.out).mono ?_); (case side1 => refine (Kd.N_reads' (e := 50) (base := w.heap.size) (ok := fun k_ => ((k_ ≠ gb973 ∧ k_ ≠ gb974) ∧ k_ ≠ gb980)) (n := t976.length) (c := co16) ?_).2.2; exact (by (with_reducible repeat (first | apply Kd.N_alloc | apply Kd.N_drewN | apply Kd.N_drew)); exact (Kd.N_mono (Kd.N_far (p := ⟨gb980, 0, none⟩) (Kd.N_mono HO978.out (fun k_ hk => (⟨hk, hk.2⟩ : _ ∧ k_ ≠ gb980))) (fun _ hk => hk.2) (.slice Ao16 t976.length co16)) (fun _ h_ => h_.1)))); (case side2 => exact (Kd.N_reads' HO978.out).2.1); (case side3 => exact y47 HR0_0.out HB.out GE973.out GE974.out GE980.out); (case side4 => exact HC0_0.out); rintro e w21 ⟨rfl, hb⟩; replace HO978 := Aside0.mk (Kd.N_below (by (with_reducible repeat (first | apply Kd.N_alloc | apply Kd.N_drewN | apply Kd.N_drew)); exact (Kd.N_mono (Kd.N_far (p := ⟨gb980, 0, none⟩) (Kd.N_mono HO978.out (fun k_ hk => (⟨hk, hk.2⟩ : _ ∧ k_ ≠ gb980))) (fun _ hk => hk.2) (.slice Ao16 t976.length co16)) (fun _ h_ => h_.1))) hb); replace BK973 := zbf BK973 NB973_980 hb; replace BK974 := zbf BK974 NB974_980 hb; replace BK980 := Aside0.mk (blk_below (g := gb980) (o := .cells #[.slice Ao16 t976.length co16] 50 (0, 0)) (by (with_reducible repeat (first | refine blk_drewN ?_ _ | refine blk_drew ?_ | refine blk_alloc ?_ _)); apply blk_put (i := 0); (case h => exact y0 BK980.out); (case e => rfl)) hb); replace HB := Aside0.mk (below_step (y4 HB.out GE973.out GE974.out GE980.out) hb); (try clear hb); (try clear hb2); (try clear hk); (try clear hi)))
   go_ret
   exact ⟨y19, (y4 HB.out GE973.out GE974.out GE980.out)⟩
  ·replace c6 := Bool.eq_false_iff.mpr c6
   subst c6
   rw [if_neg (show ¬ (false = true) by decide)] at H
   obtain rfl := Option.some.inj H
   go_enter Try.func28, Try.ntmps28
   go_wp2_with (first | ((with_reducible refine gate_dst (N := 2) rfl ?_); refine zbx 2 #[.slice A0_0 l0_0.length c0_0] 50 ?_; intro gb973 hg w22 hbox hb; have BK973 := Aside0.mk hbox; have GW973 := Aside0.mk ((y9 hg HB.out : w.heap.size ≤ gb973)); have GE973 := Aside0.mk ((y9 hg HB.out : w.heap.size ≤ gb973)); replace HB := Aside0.mk (below_step (y5 HB.out) hb); clear hb hbox hg) | ((with_reducible refine gate_dst (N := 3) rfl ?_); refine zbx 3 #[.int .i64 a1_0, .slice A1_1 l1_1.length c1_1] 25 ?_; intro gb974 hg w23 hbox hb; have BK974 := Aside0.mk hbox; have GW974 := Aside0.mk ((y11 hg HB.out GE973.out : w.heap.size ≤ gb974)); have GE974 := Aside0.mk ((y11 hg HB.out GE973.out : w.heap.size ≤ gb974)); replace HB := Aside0.mk (below_step (y6 HB.out GE973.out) hb); have NB973_974 := zltn hg BK973; have NB974_973 := zgtn hg BK973; replace BK973 := zbb BK973 hb; clear hb hbox hg; have hnb24 := NB973_974.out; have hnc24 := NB974_973.out; have hcz25_0 := zh BK973; have hfz25_0 := zfr BK973 0) | ((with_reducible refine gate_callee (f := 52) rfl ?_); refine goesL_ (some 8) rfl rfl Try.func52 (by kernel_rfl) rfl #[.agg #[.slice A0_0 l0_0.length c0_0]] rfl y8 ?_; (with_reducible refine (impl_TypeOk.calls k _ _ l0_0 true _ ?side1 ?side2 A3.out).mono ?_); (case side1 => exact y15 HR0_0.out HB.out); (case side2 => exact HC0_0.out); rintro e w26 ⟨rfl, hb⟩; refine ⟨_, rfl, ?_⟩; replace BK973 := zbb BK973 hb; replace BK974 := zbb BK974 hb; replace HB := Aside0.mk (below_step (y2 HB.out GE973.out GE974.out) hb); (try clear hb); (try clear hb2); (try clear hk); (try clear hi); have hcz27_0 := zh BK974; have hcz27_1 := zh1 BK974; have hfz27_0 := zfr BK974 0; have hfz27_1 := zfr BK974 1) | ((with_reducible refine gate_callee (f := 38) rfl ?_); refine goesL_ (some 12) rfl rfl Try.func38 (by kernel_rfl) rfl #[.agg #[.int .i64 a1_0, .slice A1_1 l1_1.length c1_1]] rfl y8 ?_; (with_reducible refine (impl_valTyped.calls k a1_0 _ _ l1_1 t976 false _ ?side1 ?side2 A5.out).mono ?_); (case side1 => exact y15 HR1_1.out HB.out); (case side2 => exact HC1_1.out); rintro e w28 ⟨v977, rfl, ho0, hb⟩; refine ⟨_, rfl, ?_⟩; have HO978 := Aside0.mk (Kd.N_lower (Kd.N_mono (ok' := fun k_ => k_ ≠ gb973 ∧ k_ ≠ gb974) ho0 (fun k_ hk_ => ⟨(Kd.freshB (g := gb973) (o := .cells #[.slice A0_0 l0_0.length c0_0] 50 (0, 0)) (y0 BK973.out) k_ hk_), (Kd.freshB (g := gb974) (o := .cells #[.int .i64 a1_0, .slice A1_1 l1_1.length c1_1] 25 (0, 0)) (y0 BK974.out) k_ hk_)⟩)) (below_size (y2 HB.out GE973.out GE974.out))); replace BK973 := zbb BK973 hb; replace BK974 := zbb BK974 hb; replace HB := Aside0.mk (below_step (y2 HB.out GE973.out GE974.out) hb); (try clear hb); (try clear hb2); (try clear hk); (try clear hi); (try clear ho0)) | ((with_reducible refine gate_dst (N := 5) rfl ?_); refine zbx 5 #[.slice none 0 0] 50 ?_; intro gb980 hg w29 hbox hb; replace HO978 := Aside0.mk (Kd.N_below (Kd.N_elderB (y3 HO978.out) gb980 (Nat.le_of_eq hg.symm)) hb); have BK980 := Aside0.mk hbox; have GW980 := Aside0.mk ((y16 hg HB.out GE973.out GE974.out : w.heap.size ≤ gb980)); have GE980 := Aside0.mk ((y16 hg HB.out GE973.out GE974.out : w.heap.size ≤ gb980)); replace HB := Aside0.mk (below_step (y2 HB.out GE973.out GE974.out) hb); have NB973_980 := zltn hg BK973; have NB980_973 := zgtn hg BK973; replace BK973 := zbb BK973 hb; have NB974_980 := zltn hg BK974; have NB980_974 := zgtn hg BK974; replace BK974 := zbb BK974 hb; clear hb hbox hg; obtain ⟨Ao30, co30, eo30⟩ := Kd.N_slice HO978.out; subst eo30; have hnb31 := NB980_973.out; have hnc31 := NB973_980.out; have hnb32 := NB980_974.out; have hnc32 := NB974_980.out; have hcz33_0 := zh BK980; have hfz33_0 := zfr BK980 0))
   go_ret
   exact ⟨y19, (y4 HB.out GE973.out GE974.out GE980.out)⟩
 ·replace c4 := Bool.eq_false_iff.mpr c4
  subst c4
  rw [if_neg (show ¬ (false = true) by decide)] at H
  obtain rfl := Option.some.inj H
  go_enter Try.func28, Try.ntmps28
  go_wp2_with (first | ((with_reducible refine gate_dst (N := 2) rfl ?_); refine zbx 2 #[.slice A0_0 l0_0.length c0_0] 50 ?_; intro gb973 hg w34 hbox hb; have BK973 := Aside0.mk hbox; have GW973 := Aside0.mk ((y9 hg HB.out : w.heap.size ≤ gb973)); have GE973 := Aside0.mk ((y9 hg HB.out : w.heap.size ≤ gb973)); replace HB := Aside0.mk (below_step (y5 HB.out) hb); clear hb hbox hg) | ((with_reducible refine gate_dst (N := 3) rfl ?_); refine zbx 3 #[.int .i64 a1_0, .slice A1_1 l1_1.length c1_1] 25 ?_; intro gb974 hg w35 hbox hb; have BK974 := Aside0.mk hbox; have GW974 := Aside0.mk ((y11 hg HB.out GE973.out : w.heap.size ≤ gb974)); have GE974 := Aside0.mk ((y11 hg HB.out GE973.out : w.heap.size ≤ gb974)); replace HB := Aside0.mk (below_step (y6 HB.out GE973.out) hb); have NB973_974 := zltn hg BK973; have NB974_973 := zgtn hg BK973; replace BK973 := zbb BK973 hb; clear hb hbox hg; have hnb36 := NB973_974.out; have hnc36 := NB974_973.out; have hcz37_0 := zh BK973; have hfz37_0 := zfr BK973 0) | ((with_reducible refine gate_callee (f := 52) rfl ?_); refine goesL_ (some 8) rfl rfl Try.func52 (by kernel_rfl) rfl #[.agg #[.slice A0_0 l0_0.length c0_0]] rfl y8 ?_; (with_reducible refine (impl_TypeOk.calls k _ _ l0_0 false _ ?side1 ?side2 A3.out).mono ?_); (case side1 => exact y15 HR0_0.out HB.out); (case side2 => exact HC0_0.out); rintro e w38 ⟨rfl, hb⟩; refine ⟨_, rfl, ?_⟩; replace BK973 := zbb BK973 hb; replace BK974 := zbb BK974 hb; replace HB := Aside0.mk (below_step (y2 HB.out GE973.out GE974.out) hb); (try clear hb); (try clear hb2); (try clear hk); (try clear hi)))
  go_ret
  exact ⟨y19, (y2 HB.out GE973.out GE974.out)⟩
end Go.Proofs.Ythfflieeifakdaa.PA
end
section
set_option linter.unusedVariables false
namespace Go.Proofs.Ythfflieeifakdaa.Vals
open Go.RowKit Go.Proofs.Ythfflieeifakdaa.PA Go.Proofs.YthfflieeifakdaaW.PrintWords Go.Proofs.YthfflieeifakdaaW.PrintLast Go.Proofs.Ythfflieeifakdaa.Draw Go.Proofs.Ythfflieeifakdaa.Types Go.Proofs.Ythfflieeifakdaa.Paths
abbrev Vl := List S25
theorem rv0 (a : S25) (l : Vl) : rd_T25 (a :: l) 0 = a := rfl
theorem rv1 (a b : S25) (l : Vl) : rd_T25 (a :: b :: l) 1 = b := rfl
theorem shapeV (l : Vl) : l = [] ∨ (∃ a b, l = [a, b]) ∨ (l.length ≠ 0 ∧ l.length ≠ 2) := by
  match l with
  | [] => exact .inl rfl
  | [_] => exact .inr (.inr ⟨by simp, by simp⟩)
  | [a, b] => exact .inr (.inl ⟨a, b, rfl⟩)
  | _ :: _ :: _ :: _ => exact .inr (.inr ⟨by simp, by simp⟩)
def vt : Nat → Int → Vl → Option Ty
  | 0, _, _ => none
  | _ + 1, x, [] => if 0 ≤ x ∧ x ≤ 9999 then some [] else none
  | n + 1, x, [a, b] => if x = 0 then (vt n a.f0 a.f1).bind fun s => (vt n b.f0 b.f1).bind fun t => some [⟨s⟩, ⟨t⟩] else none
  | _ + 1, _, _ => none
theorem vt_nil (n : Nat) (x : Int) : vt (n + 1) x [] = if 0 ≤ x ∧ x ≤ 9999 then some [] else none := rfl
theorem vt_two (n : Nat) (x : Int) (a b : S25) : vt (n + 1) x [a, b] = if x = 0 then (vt n a.f0 a.f1).bind fun s => (vt n b.f0 b.f1).bind fun t => some [⟨s⟩, ⟨t⟩] else none := rfl
theorem vt_odd (n : Nat) (x : Int) (l : Vl) (h0 : l.length ≠ 0) (h2 : l.length ≠ 2) : vt n x l = none := by
  cases n with
  | zero => rfl
  | succ n =>
    match l with
    | [] => simp at h0
    | [_] => rfl
    | [_, _] => simp at h2
    | _ :: _ :: _ :: _ => rfl
theorem vt_cases {n : Nat} {x : Int} {l : Vl} {t : Ty} (h : vt (n + 1) x l = some t) :
    (l = [] ∧ t = [] ∧ 0 ≤ x ∧ x ≤ 9999) ∨ ∃ a b s u, l = [a, b] ∧ x = 0 ∧ t = [⟨s⟩, ⟨u⟩] ∧ vt n a.f0 a.f1 = some s ∧ vt n b.f0 b.f1 = some u := by
  rcases shapeV l with rfl | ⟨a, b, rfl⟩ | ⟨h0, h2⟩
  · rw [vt_nil] at h
    split at h
    · rename_i hx
      cases h
      exact .inl ⟨rfl, rfl, hx.1, hx.2⟩
    · cases h
  · rw [vt_two] at h
    split at h
    · rename_i hx
      cases e1 : vt n a.f0 a.f1 with
      | none => rw [e1] at h; cases h
      | some s =>
        cases e2 : vt n b.f0 b.f1 with
        | none => rw [e1, e2] at h; cases h
        | some u =>
          rw [e1, e2] at h
          cases h
          exact .inr ⟨a, b, s, u, rfl, hx, rfl, e1, e2⟩
    · cases h
  · rw [vt_odd _ _ _ h0 h2] at h; cases h
theorem vt_dp : ∀ (n : Nat) (x : Int) (l : Vl) (t : Ty), vt n x l = some t → dp n t = true := by
  intro n
  induction n with
  | zero => intro x l t h; cases h
  | succ n ih =>
    intro x l t h
    rcases vt_cases h with ⟨_, rfl, _, _⟩ | ⟨a, b, s, u, _, _, rfl, h1, h2⟩
    · rfl
    · rw [dp_two, ih _ _ _ h1, ih _ _ _ h2]; rfl
theorem vt_succ : ∀ (n : Nat) (x : Int) (l : Vl) (t : Ty), vt n x l = some t → vt (n + 1) x l = some t := by
  intro n
  induction n with
  | zero => intro x l t h; cases h
  | succ n ih =>
    intro x l t h
    rcases vt_cases h with ⟨rfl, rfl, h0, h1⟩ | ⟨a, b, s, u, rfl, rfl, rfl, h1, h2⟩
    · rw [vt_nil, if_pos ⟨h0, h1⟩]
    · rw [vt_two, if_pos rfl, ih _ _ _ h1, ih _ _ _ h2]; rfl
theorem valType_ev : ∀ (n : Nat), n ≤ 1000 → ∀ (x : Int) (l : Vl) (k : Nat), 2 * n + 2 ≤ k → impl_valType.f k x l n = some (at_ (vt n x l)) := by
  intro n
  induction n with
  | zero =>
    intro _ x l k hk
    obtain ⟨k, rfl⟩ : ∃ m, k = m + 1 := ⟨k - 1, by omega⟩
    simp only [impl_valType.f]
    rw [if_pos (by omega)]; rfl
  | succ n ih =>
    intro hn x l k hk
    obtain ⟨k, rfl⟩ : ∃ m, k = m + 2 := ⟨k - 2, by omega⟩
    have hp := pred_cast n (by omega)
    simp only [impl_valType.f]
    rw [if_neg (by omega)]
    rcases shapeV l with rfl | ⟨a, b, rfl⟩ | ⟨h0, h2⟩
    · rw [if_pos (by simp), vt_nil]
      by_cases h0 : x ≥ 0
      · rw [if_pos h0]
        by_cases h9 : x ≤ 9999
        · rw [if_pos ⟨h0, h9⟩, decide_eq_true h9]; rfl
        · rw [if_neg (fun h => h9 h.2), decide_eq_false h9]; rfl
      · rw [if_neg h0, if_neg (fun h => h0 h.1)]; rfl
    · rw [if_neg (by simp), if_pos (by simp), vt_two]
      simp only [impl_valType.j0, hp, rv0, rv1]
      by_cases hx : x = 0
      · rw [if_neg (by simp [hx]), if_pos (by simp), if_pos hx, ih (by omega) _ _ _ (by omega)]; simp only [Option.bind_some]
        rw [if_pos (by simp), ih (by omega) _ _ _ (by omega)]; simp only [Option.bind_some]
        cases vt n a.f0 a.f1 with
        | none => rfl
        | some s =>
          cases vt n b.f0 b.f1 with
          | none => rfl
          | some u => rfl
      · rw [if_pos (by simpa using hx), if_neg hx]; rfl
    · rw [if_neg (by omega), if_neg (by omega), vt_odd _ _ _ h0 h2]
      simp only [impl_valType.j0, if_true]; rfl
theorem typed_ev (x : Int) (l : Vl) (k : Nat) (hk : 10 ≤ k) : impl_valTyped.f k x l = some (at_ (vt 4 x l)) := by
  unfold impl_valTyped.f
  rw [show (4 : Int) = ((4 : Nat) : Int) from rfl, valType_ev 4 (by omega) x l k (by omega)]; rfl
theorem same_ev : ∀ (n : Nat) (a b : Ty) (k : Nat), dp n a = true → dp n b = true → 4 * n ≤ k → impl_typeSame.f k a b = some (teq n a b) := by
  intro n
  induction n with
  | zero => intro a b k h; simp [dp] at h
  | succ n ih =>
    intro a b k ha hb hk
    obtain ⟨k, rfl⟩ : ∃ m, k = m + 4 := ⟨k - 4, by omega⟩
    simp only [impl_typeSame.f]
    rcases Types.shape a with rfl | ⟨a1, a2, rfl⟩ | ⟨h0, h2⟩
    · rcases Types.shape b with rfl | ⟨b1, b2, rfl⟩ | ⟨h0, h2⟩
      · rw [if_pos rfl]; simp only [impl_typeSame.l0]; rw [if_neg (by simp)]; rfl
      · rw [if_neg (by simp)]; rfl
      · rw [dp_odd _ _ h0 h2] at hb; cases hb
    · rcases Types.shape b with rfl | ⟨b1, b2, rfl⟩ | ⟨h0, h2⟩
      · rw [if_neg (by simp)]; rfl
      · rw [dp_two, Bool.and_eq_true] at ha hb
        rw [if_pos (by simp)]
        simp only [impl_typeSame.l0, w01, w12]
        rw [if_pos (by simp), if_pos (by omega), if_pos (by simp), if_pos (by simp), rd0, rd0, ih _ _ _ ha.1 hb.1 (by omega)]
        simp only [Option.bind_some]
        have e : teq (n + 1) [a1, a2] [b1, b2] = (teq n a1.f0 b1.f0 && teq n a2.f0 b2.f0) := rfl
        rw [e]
        cases h1 : teq n a1.f0 b1.f0 with
        | false => simp
        | true =>
          rw [if_pos rfl, if_pos (by simp), if_pos (by omega), if_pos (by simp), if_pos (by simp), rd1, rd1, ih _ _ _ ha.2 hb.2 (by omega)]
          simp only [Option.bind_some]
          cases h2 : teq n a2.f0 b2.f0 with
          | false => simp
          | true => rw [if_pos rfl, if_neg (by simp)]; rfl
      · rw [dp_odd _ _ h0 h2] at hb; cases hb
    · rw [dp_odd _ _ h0 h2] at ha; cases ha
def vm (n : Nat) (t : Ty) (x : Int) (l : Vl) : Bool := match vt n x l with | some s => teq n s t | none => false
def vo (t : Ty) (x : Int) (l : Vl) : Bool := dp 4 t && vm 4 t x l
theorem implValOk_ev (t : Ty) (x : Int) (l : Vl) (k : Nat) (hk : 20 ≤ k) : impl_ValOk.f k t x l = some (vo t x l) := by
  unfold impl_ValOk.f vo vm
  rw [implOk_ev t k (by omega)]; simp only [Option.bind_some]
  cases d : dp 4 t with
  | false => rfl
  | true =>
    simp only [if_true, Bool.true_and]
    rw [typed_ev x l k (by omega)]; simp only [Option.bind_some]
    cases e : vt 4 x l with
    | none => rfl
    | some s =>
      simp only [at_, if_true]
      rw [same_ev 4 s t k (vt_dp _ _ _ _ e) d (by omega)]; rfl
theorem vm_two (n : Nat) (x : Int) (a b : S50) (c d : S25) : vm (n + 1) [a, b] x [c, d] = ((x == 0) && (vm n a.f0 c.f0 c.f1 && vm n b.f0 d.f0 d.f1)) := by
  unfold vm
  rw [vt_two]
  by_cases hx : x = 0
  · rw [if_pos hx, beq_iff_eq.2 hx]
    cases vt n c.f0 c.f1 with
    | none => rfl
    | some s =>
      cases vt n d.f0 d.f1 with
      | none => simp
      | some u => rfl
  · rw [if_neg hx, beq_eq_false_iff_ne.2 hx]; rfl
theorem l1Val_ev : ∀ (n : Nat) (t : Ty) (x : Int) (l : Vl) (k : Nat), dp n t = true → 5 * n ≤ k → spec_l1Val.f k t x l = some (vm n t x l) := by
  intro n
  induction n with
  | zero => intro t x l k h; simp [dp] at h
  | succ n ih =>
    intro t x l k h hk
    obtain ⟨k, rfl⟩ : ∃ m, k = m + 5 := ⟨k - 5, by omega⟩
    simp only [spec_l1Val.f, spec_l6In.f]
    have bad : ∀ m t x l, spec_l1Val.j0 (m + 1) true t x l = some false := fun m t x l => by simp only [spec_l1Val.j0, if_true]
    rcases Types.shape t with rfl | ⟨a, b, rfl⟩ | ⟨h0, h2⟩
    · rcases shapeV l with rfl | ⟨c, d, rfl⟩ | ⟨g0, g2⟩
      · rw [if_pos (by simp), if_neg (by simp)]
        simp only [vm, vt_nil]
        by_cases hx : x ≥ 0
        · rw [if_pos hx]; simp only [Option.bind_some]
          by_cases h9 : x ≤ 9999
          · rw [decide_eq_true h9, if_pos ⟨hx, h9⟩]
            simp only [spec_l1Val.j0, spec_l1Val.l0, Bool.not_true]
            rw [if_neg (by simp), if_neg (by simp)]; rfl
          · rw [decide_eq_false h9, if_neg (fun h => h9 h.2)]
            exact bad _ _ _ _
        · rw [if_neg hx, if_neg (fun h => hx h.1)]; simp only [Option.bind_some]
          exact bad _ _ _ _
      · rw [if_neg (by simp), bad]
        simp only [vm]
        cases e : vt (n + 1) x [c, d] with
        | none => rfl
        | some s =>
          rcases vt_cases e with ⟨h, _⟩ | ⟨_, _, s, u, _, _, rfl, _, _⟩
          · cases h
          · rfl
      · rw [if_neg (by simp; simpa using g0), bad]
        simp only [vm, vt_odd _ _ _ g0 g2]
    · rcases shapeV l with rfl | ⟨c, d, rfl⟩ | ⟨g0, g2⟩
      · rw [if_neg (by simp), bad]
        simp only [vm, vt_nil]
        split
        · rename_i h; split at h
          · cases h; rfl
          · cases h
        · rfl
      · rw [if_pos (by simp), if_pos (by simp), vm_two]
        by_cases hx : x = 0
        · rw [if_pos hx, if_pos (by omega)]; simp only [Option.bind_some]
          rw [decide_eq_true (by omega)]
          rw [dp_two, Bool.and_eq_true] at h
          simp only [spec_l1Val.j0, spec_l1Val.l0, Bool.not_true, w01, w12]
          rw [if_neg (by simp), if_pos (by simp), if_pos (by omega), if_pos (by simp), rd0, rv0, ih _ _ _ _ h.1 (by omega)]; simp only [Option.bind_some]
          rw [beq_iff_eq.2 hx, Bool.true_and]
          cases e1 : vm n a.f0 c.f0 c.f1 with
          | false => rw [if_neg (by simp)]; rfl
          | true =>
            rw [if_pos rfl, if_pos (by simp), if_pos (by omega), if_pos (by simp), rd1, rv1, ih _ _ _ _ h.2 (by omega)]; simp only [Option.bind_some]
            cases e2 : vm n b.f0 d.f0 d.f1 with
            | false => rw [if_neg (by simp)]; rfl
            | true => rw [if_pos rfl, if_neg (by simp)]; rfl
        · rw [if_neg hx, bad, beq_eq_false_iff_ne.2 hx]; rfl
      · rw [if_neg (by simp; omega), bad]
        simp only [vm, vt_odd _ _ _ g0 g2]
    · rw [dp_odd _ _ h0 h2] at h; cases h
theorem specValOk_ev (t : Ty) (x : Int) (l : Vl) (k : Nat) (hk : 23 ≤ k) : spec_ValOk.f k t x l = some (vo t x l) := by
  unfold spec_ValOk.f vo
  rw [specOk_ev t k (by omega)]; simp only [Option.bind_some]
  cases d : dp 4 t with
  | false => rfl
  | true =>
    simp only [if_true, Bool.true_and]
    rw [l1Val_ev 4 t x l k d (by omega)]; rfl
theorem teq_self (t u : Ty) (n : Nat) (ht : dp n t = true) (hu : dp n u = true) : teq n t u = teq n u t := by
  cases e : teq n t u with
  | true => rw [teq_eq _ _ _ e, teq_refl _ _ hu]
  | false =>
    cases e2 : teq n u t with
    | true => rw [teq_eq _ _ _ e2, teq_refl _ _ ht] at e; cases e
    | false => rfl
theorem vo_iff (t : Ty) (x : Int) (l : Vl) : vo t x l = true ↔ vt 4 x l = some t := by
  unfold vo vm
  constructor
  · intro h
    rw [Bool.and_eq_true] at h
    cases e : vt 4 x l with
    | none => rw [e] at h; cases h.2
    | some s => rw [e] at h; rw [teq_eq _ _ _ h.2]
  · intro h
    have d := vt_dp _ _ _ _ h
    rw [h, d]
    exact teq_refl 4 t d
def pv : List Int → Int → Vl → Option (Int × Vl)
  | [], x, l => some (x, l)
  | i :: r, _, [a, b] => if i = 0 then pv r a.f0 a.f1 else if i = 1 then pv r b.f0 b.f1 else none
  | _ :: _, _, _ => none
theorem pv_nil (x : Int) (l : Vl) : pv [] x l = some (x, l) := by cases l <;> rfl
theorem pv_two (i : Int) (r : List Int) (x : Int) (a b : S25) : pv (i :: r) x [a, b] = if i = 0 then pv r a.f0 a.f1 else if i = 1 then pv r b.f0 b.f1 else none := rfl
theorem pv_odd (i : Int) (r : List Int) (x : Int) (l : Vl) (h : l.length ≠ 2) : pv (i :: r) x l = none := by
  match l with
  | [] => rfl
  | [_] => rfl
  | [_, _] => simp at h
  | _ :: _ :: _ :: _ => rfl
theorem pv_app (p q : List Int) : ∀ x l, pv (p ++ q) x l = (pv p x l).bind fun r => pv q r.1 r.2 := by
  induction p with
  | nil => intro x l; rw [List.nil_append, pv_nil]; rfl
  | cons i r ih =>
    intro x l
    by_cases h : l.length = 2
    · rcases shapeV l with rfl | ⟨a, b, rfl⟩ | ⟨_, h2⟩
      · simp at h
      · rw [List.cons_append, pv_two, pv_two]
        split
        · exact ih _ _
        · split
          · exact ih _ _
          · rfl
      · exact absurd h h2
    · rw [List.cons_append, pv_odd _ _ _ _ h, pv_odd _ _ _ _ h]; rfl
theorem vt_pv (n : Nat) : ∀ (p : List Int) (x : Int) (l : Vl) (t : Ty), vt n x l = some t →
    (∀ y m, pv p x l = some (y, m) → ∃ u, pf p t = some u ∧ vt n y m = some u) ∧ (pv p x l = none → pf p t = none) := by
  intro p
  induction p with
  | nil =>
    intro x l t h
    rw [pv_nil]
    exact ⟨fun y m e => by cases e; exact ⟨t, pf_nil t, h⟩, fun e => by cases e⟩
  | cons i r ih =>
    intro x l t h
    cases n with
    | zero => cases h
    | succ n =>
      rcases vt_cases h with ⟨rfl, rfl, _, _⟩ | ⟨a, b, s, u, rfl, rfl, rfl, h1, h2⟩
      · exact ⟨fun y m e => (by cases e), fun _ => rfl⟩
      · rw [pv_two, pf_two]
        by_cases h0 : i = 0
        · rw [if_pos h0, if_pos h0]; exact ih _ _ _ (vt_succ _ _ _ _ h1)
        · rw [if_neg h0, if_neg h0]
          by_cases h3 : i = 1
          · rw [if_pos h3, if_pos h3]; exact ih _ _ _ (vt_succ _ _ _ _ h2)
          · rw [if_neg h3, if_neg h3]; exact ⟨fun y m e => (by cases e), fun _ => rfl⟩
def av (o : Option (Int × Vl)) : Int × Vl × Bool := match o with | some r => (r.1, r.2, true) | none => (0, [], false)
theorem valLoop_ev : ∀ (r pre : List Int) (x : Int) (l : Vl) (k : Nat), pre.length + r.length ≤ 4611686018427387904 → r.length + 1 ≤ k →
    impl_Val.l0 k (pre ++ r) ((pre ++ r).length : Int) (pre.length : Int) x l = some (av (pv r x l)) := by
  intro r
  induction r with
  | nil =>
    intro pre x l k h1 hk
    obtain ⟨k, rfl⟩ : ∃ m, k = m + 1 := ⟨k - 1, by simp at hk; omega⟩
    simp only [impl_Val.l0]
    rw [if_neg (by simp), pv_nil]; rfl
  | cons i r ih =>
    intro pre x l k h1 hk
    simp only [List.length_cons] at h1 hk
    obtain ⟨k, rfl⟩ : ∃ m, k = m + 1 := ⟨k - 1, by omega⟩
    simp only [impl_Val.l0, impl_Val_parts.f, Option.bind_some]
    have hl : ((pre ++ i :: r).length : Int) = pre.length + 1 + r.length := by simp; omega
    rw [if_pos (by omega), if_pos (by omega), if_pos (by omega), rd_mid]
    rcases shapeV l with rfl | ⟨a, b, rfl⟩ | ⟨_, h2⟩
    · rw [if_neg (by simp), pv_odd _ _ _ _ (by simp)]; rfl
    · rw [if_pos (by simp), pv_two]
      by_cases hn : i < 0
      · rw [if_pos hn, if_neg (by omega), if_neg (by omega)]; rfl
      · rw [if_neg hn]
        by_cases hb : i > 1
        · rw [if_pos hb, if_neg (by omega), if_neg (by omega)]; rfl
        · rw [if_neg hb, if_pos (by omega), if_pos (by simp; omega), w64 (by omega) (by omega)]
          have ea : pre ++ i :: r = (pre ++ [i]) ++ r := by simp
          have el : (pre.length : Int) + 1 = ((pre ++ [i]).length : Int) := by simp
          rw [el, ea]
          by_cases h0 : i = 0
          · rw [if_pos h0, ih _ _ _ _ (by simp; omega) (by omega), h0, rv0]
          · rw [if_neg h0, if_pos (by omega), ih _ _ _ _ (by simp; omega) (by omega), show i = 1 by omega, rv1]
    · rw [if_neg (by omega), pv_odd _ _ _ _ h2]; rfl
theorem implVal_ev (x : Int) (l : Vl) (p : List Int) (k : Nat) (h : p.length ≤ 4611686018427387904) (hk : p.length + 1 ≤ k) : impl_Val.f k x l p = some (av (pv p x l)) := by
  unfold impl_Val.f
  have := valLoop_ev p [] x l k (by simpa using h) hk
  simpa using this
theorem valCopy_ev : ∀ (n : Nat) (x : Int) (l : Vl) (t : Ty) (k : Nat), vt n x l = some t → n ≤ k → impl_valCopy.f k x l = some (x, l) := by
  intro n
  induction n with
  | zero => intro x l t k h; cases h
  | succ n ih =>
    intro x l t k h hk
    obtain ⟨k, rfl⟩ : ∃ m, k = m + 1 := ⟨k - 1, by omega⟩
    simp only [impl_valCopy.f]
    rcases vt_cases h with ⟨rfl, rfl, _, _⟩ | ⟨a, b, s, u, rfl, rfl, rfl, h1, h2⟩
    · rw [if_pos (by simp)]
    · rw [if_neg (by simp), if_pos (by simp), rv0, ih _ _ _ _ h1 (by omega)]; simp only [Option.bind_some]
      rw [if_pos (by simp), rv1, ih _ _ _ _ h2 (by omega)]; simp only [Option.bind_some]
      cases a; cases b; rfl
def vat (x : Int) (l : Vl) (p : List Int) : Int × Vl × Bool := if (vt 4 x l).isSome = true then av (pv p x l) else (0, [], false)
theorem implValAt_ev (x : Int) (l : Vl) (p : List Int) (k : Nat) (h : p.length ≤ 4611686018427387904) (hk : p.length + 20 ≤ k) : impl_ValAt.f k x l p = some (vat x l p) := by
  unfold impl_ValAt.f vat
  rw [typed_ev x l k (by omega)]; simp only [Option.bind_some]
  cases e : vt 4 x l with
  | none => rfl
  | some t =>
    simp only [at_, if_true, Option.isSome_some]
    rw [implVal_ev x l p k h (by omega)]; simp only [Option.bind_some]
    cases e2 : pv p x l with
    | none => rfl
    | some r =>
      obtain ⟨u, _, hu⟩ := (vt_pv 4 p x l t e).1 r.1 r.2 e2
      simp only [av, if_true]
      rw [valCopy_ev 4 r.1 r.2 u k hu (by omega)]; rfl
theorem type_dp (s : List Int) : ∀ (k d : Nat) (p : Int) (r : Ty) (q : Int), d ≤ 1000 → spec_l71Type.f k s p d = some (r, q) → dp (d + 1) r = true := by
  intro k
  induction k using Nat.strongRecOn with
  | _ k ih =>
    intro d p r q hd h
    match k, ih, h with
    | 0, _, h => simp [spec_l71Type.f] at h
    | 1, _, h =>
      simp only [spec_l71Type.f] at h
      split at h
      · simp [spec_l71Type.j0] at h
      · cases e : spec_l6Rd_pick.f 0 s p 3 with
        | none => rw [e] at h; cases h
        | some c => rw [e] at h; simp [spec_l71Type.j0] at h
    | k + 2, ih, h =>
      simp only [spec_l71Type.f] at h
      split at h
      · simp only [spec_l71Type.j0, if_true] at h
        cases h; rfl
      · rename_i h2
        cases e : spec_l6Rd_pick.f (k + 1) s p 3 with
        | none => rw [e] at h; cases h
        | some c =>
          rw [e] at h
          simp only [Option.bind_some, spec_l71Type.j0] at h
          split at h
          · cases h; rfl
          · obtain ⟨d, rfl⟩ : ∃ m, d = m + 1 := ⟨d - 1, by omega⟩
            have ew : wrap64 (((d + 1 : Nat) : Int) - 1) = (d : Int) := pred_cast d (by omega)
            rw [ew] at h
            cases e1 : spec_l71Type.f k s c.2 d with
            | none => rw [e1] at h; cases h
            | some a =>
              rw [e1] at h
              simp only [Option.bind_some] at h
              cases e2 : spec_l71Type.f k s a.2 d with
              | none => rw [e2] at h; cases h
              | some b =>
                rw [e2] at h
                cases h
                rw [dp_two, ih k (by omega) d _ a.1 a.2 (by omega) e1, ih k (by omega) d _ b.1 b.2 (by omega) e2]; rfl
theorem val_ev (s : List Int) (hs : Bytes s) : ∀ (n : Nat) (t : Ty) (p : Int), dp n t = true → 0 ≤ p → p + 2 ^ n ≤ 1099511000000 →
    ∃ x l q, (∀ k, n + 3 ≤ k → spec_l71Val.f k s p t = some (x, l, q)) ∧ p ≤ q ∧ q ≤ p + 2 ^ n ∧ l.length ≤ 2 := by
  intro n
  induction n with
  | zero => intro t p h; simp [dp] at h
  | succ n ih =>
    intro t p h hp hp1
    have hpow : (2 : Int) ^ (n + 1) = 2 ^ n + 2 ^ n := by rw [Int.pow_succ]; omega
    have hpos : (1 : Int) ≤ 2 ^ n := by have := Int.pow_pos (n := 2) (m := n) (by decide); omega
    rw [hpow] at hp1 ⊢
    generalize (2 : Int) ^ n = e at *
    rcases Types.shape t with rfl | ⟨a, b, rfl⟩ | ⟨h0, h2⟩
    · obtain ⟨c, hc, c0, c1⟩ := pick_ev s hs p 7 hp (by omega) (by omega)
      refine ⟨rd [0, 1, 2, 3, 7, 50, 9999] c, [], p + 1, fun k hk => ?_, by omega, by omega, by simp⟩
      obtain ⟨k, rfl⟩ : ∃ m, k = m + 1 := ⟨k - 1, by omega⟩
      simp only [spec_l71Val.f]
      rw [if_pos (by simp)]; simp only [Option.bind_some]
      rw [hc k (by omega)]; simp only [Option.bind_some]
      rw [if_pos c0, if_pos (by simp; omega)]
    · rw [dp_two, Bool.and_eq_true] at h
      obtain ⟨x1, l1, q1, h1, g1, g2, _⟩ := ih a.f0 p h.1 hp (by omega)
      obtain ⟨x2, l2, q2, h3, g3, g4, _⟩ := ih b.f0 q1 h.2 (by omega) (by omega)
      refine ⟨0, [⟨x1, l1⟩, ⟨x2, l2⟩], q2, fun k hk => ?_, by omega, by omega, by simp⟩
      obtain ⟨k, rfl⟩ : ∃ m, k = m + 1 := ⟨k - 1, by omega⟩
      simp only [spec_l71Val.f]
      rw [if_neg (by simp), if_pos (by simp), rd0, h1 k (by omega)]; simp only [Option.bind_some]
      rw [if_pos (by simp), rd1, h3 k (by omega)]; rfl
    · rw [dp_odd _ _ h0 h2] at h; cases h
theorem badLoop_ev (s : List Int) (p : Int) : ∀ (d i : Nat), i + d = 5 → ∀ (x : Int) (l : Vl), ∃ y m, ∀ k, d + 1 ≤ k → spec_l71Bad.l0 k i s p x l = some (y, m, p) := by
  intro d
  induction d with
  | zero =>
    intro i hi x l
    refine ⟨x, l, fun k hk => ?_⟩
    obtain ⟨k, rfl⟩ : ∃ m, k = m + 1 := ⟨k - 1, by omega⟩
    simp only [spec_l71Bad.l0]
    rw [if_neg (by omega)]
  | succ d ih =>
    intro i hi x l
    obtain ⟨y, m, h⟩ := ih (i + 1) (by omega) 0 [⟨x, l⟩, ⟨0, []⟩]
    refine ⟨y, m, fun k hk => ?_⟩
    obtain ⟨k, rfl⟩ : ∃ m, k = m + 1 := ⟨k - 1, by omega⟩
    simp only [spec_l71Bad.l0]
    rw [if_pos (by omega), w64 (by omega) (by omega)]
    exact h k (by omega)
theorem pow20 (n : Nat) (hn : n ≤ 20) : (2 : Int) ^ n ≤ 1048576 := by
  have h : (2 : Nat) ^ n ≤ 2 ^ 20 := Nat.pow_le_pow_right (by decide) hn
  have e : (2 : Nat) ^ 20 = 1048576 := rfl
  rw [e] at h
  have := Int.ofNat_le.2 h
  rwa [Int.natCast_pow] at this
theorem bad_ev (s : List Int) (hs : Bytes s) (n : Nat) (hn : n ≤ 20) (t : Ty) (d : dp n t = true) (p : Int) (hp : 0 ≤ p) (hp1 : p ≤ 1099500000000) :
    ∃ x l q, (∀ k, n + 12 ≤ k → spec_l71Bad.f k s p t = some (x, l, q)) ∧ p ≤ q ∧ q ≤ p + 1048578 := by
  have hmax := pow20 n hn
  obtain ⟨x, l, q, hv, g1, g2, hl⟩ := val_ev s hs n t p d hp (by omega)
  generalize (2 : Int) ^ n = e at *
  obtain ⟨c, hc, c0, c1⟩ := pick_ev s hs q 12 (by omega) (by omega) (by omega)
  by_cases e0 : c = 0
  · obtain ⟨c', hc', c0', c1'⟩ := pick_ev s hs (q + 1) 4 (by omega) (by omega) (by omega)
    refine ⟨rd [(-1), 1, 9999, 10000] c', l, q + 1 + 1, fun k hk => ?_, by omega, by omega⟩
    unfold spec_l71Bad.f
    rw [hv k (by omega)]; simp only [Option.bind_some]
    rw [hc k (by omega)]; simp only [Option.bind_some]
    rw [if_pos e0, hc' k (by omega)]; simp only [Option.bind_some]
    rw [if_pos c0', if_pos (by simp; omega)]
  · by_cases e1 : c = 1
    · refine ⟨x, l ++ [⟨0, []⟩], q + 1, fun k hk => ?_, by omega, by omega⟩
      unfold spec_l71Bad.f
      rw [hv k (by omega)]; simp only [Option.bind_some]
      rw [hc k (by omega)]; simp only [Option.bind_some]
      rw [if_neg e0, if_pos e1, if_pos (by omega)]
    · by_cases e2 : c = 2
      · obtain ⟨y, m, hm⟩ := badLoop_ev s (q + 1) 5 0 rfl x l
        refine ⟨y, m, q + 1, fun k hk => ?_, by omega, by omega⟩
        unfold spec_l71Bad.f
        rw [hv k (by omega)]; simp only [Option.bind_some]
        rw [hc k (by omega)]; simp only [Option.bind_some]
        rw [if_neg e0, if_neg e1, if_pos e2]
        exact hm k (by omega)
      · refine ⟨x, l, q + 1, fun k hk => ?_, by omega, by omega⟩
        unfold spec_l71Bad.f
        rw [hv k (by omega)]; simp only [Option.bind_some]
        rw [hc k (by omega)]; simp only [Option.bind_some]
        rw [if_neg e0, if_neg e1, if_neg e2]
theorem typeN_ev (s : List Int) (hs : Bytes s) (d : Nat) (hd : d ≤ 20) (p : Int) (hp : 0 ≤ p) (hp1 : p ≤ 1099500000000) :
    ∃ r q, (∀ k, 3 * d + 4 ≤ k → spec_l71Type.f k s p d = some (r, q)) ∧ p ≤ q ∧ q ≤ p + 1048576 ∧ dp (d + 1) r = true := by
  have hmax := pow20 d hd
  obtain ⟨r, q, hr, _, h1, h2, _⟩ := type_ev s hs d (by omega) p hp (by omega)
  exact ⟨r, q, hr, h1, by omega, type_dp s _ d p r q (by omega) (hr (3 * d + 4) (Nat.le_refl _))⟩
theorem drawVal_ev (l : List Int) (h : ∀ x ∈ l, (Lit.int .u8 x).wf = true) : ∃ t x v, ∀ k, 60 ≤ k → spec_DrawValOk.f k l = some (t, x, v) := by
  obtain ⟨s, ho, hs⟩ := open_ev l h
  obtain ⟨c, hc, c0, c1⟩ := pick_ev s hs 0 4 (by omega) (by omega) (by omega)
  obtain ⟨cn, rfl⟩ := Int.eq_ofNat_of_zero_le c0
  have ew : wrap64 (1 + (cn : Int)) = ((1 + cn : Nat) : Int) := by rw [w64 (by omega) (by omega)]; omega
  obtain ⟨t, q1, ht, g1, g2, d1⟩ := typeN_ev s hs (1 + cn) (by omega) (0 + 1) (by omega) (by omega)
  obtain ⟨c', hc', c0', c1'⟩ := pick_ev s hs q1 5 (by omega) (by omega) (by omega)
  by_cases e : c' = 0
  · obtain ⟨t2, q2, ht2, g3, g4, d2⟩ := typeN_ev s hs 3 (by omega) (q1 + 1) (by omega) (by omega)
    obtain ⟨x, v, q3, hx, _, _⟩ := bad_ev s hs 4 (by omega) t2 d2 q2 (by omega) (by omega)
    refine ⟨t, x, v, fun k hk => ?_⟩
    unfold spec_DrawValOk.f
    rw [ho]; simp only [Option.bind_some]
    rw [hc k (by omega)]; simp only [Option.bind_some]
    rw [ew, ht k (by omega)]; simp only [Option.bind_some]
    rw [hc' k (by omega)]; simp only [Option.bind_some]
    rw [if_pos e, show (3 : Int) = ((3 : Nat) : Int) from rfl, ht2 k (by omega)]; simp only [Option.bind_some]
    rw [hx k (by omega)]; rfl
  · obtain ⟨x, v, q3, hx, _, _⟩ := bad_ev s hs (1 + cn + 1) (by omega) t d1 (q1 + 1) (by omega) (by omega)
    refine ⟨t, x, v, fun k hk => ?_⟩
    unfold spec_DrawValOk.f
    rw [ho]; simp only [Option.bind_some]
    rw [hc k (by omega)]; simp only [Option.bind_some]
    rw [ew, ht k (by omega)]; simp only [Option.bind_some]
    rw [hc' k (by omega)]; simp only [Option.bind_some]
    rw [if_neg e, hx k (by omega)]; rfl
end Go.Proofs.Ythfflieeifakdaa.Vals
end
section
set_option linter.unusedVariables false
set_option linter.unusedSimpArgs false
namespace Go.Proofs.Ythfflieeifakdaa.Ats
open Go.RowKit Go.Proofs.Ythfflieeifakdaa.PA Go.Proofs.YthfflieeifakdaaW.PrintWords Go.Proofs.YthfflieeifakdaaW.PrintLast Go.Proofs.Ythfflieeifakdaa.Draw Go.Proofs.Ythfflieeifakdaa.Types Go.Proofs.Ythfflieeifakdaa.Paths Go.Proofs.Ythfflieeifakdaa.Vals
def st : Nat → Vl → Option Ty
  | 0, _ => none
  | _ + 1, [] => some []
  | n + 1, [a, b] => (st n a.f1).bind fun s => (st n b.f1).bind fun t => some [⟨s⟩, ⟨t⟩]
  | _ + 1, _ => none
theorem st_nil (n : Nat) : st (n + 1) [] = some [] := rfl
theorem st_two (n : Nat) (a b : S25) : st (n + 1) [a, b] = (st n a.f1).bind fun s => (st n b.f1).bind fun t => some [⟨s⟩, ⟨t⟩] := rfl
theorem st_odd (n : Nat) (l : Vl) (h0 : l.length ≠ 0) (h2 : l.length ≠ 2) : st n l = none := by
  cases n with
  | zero => rfl
  | succ n =>
    match l with
    | [] => simp at h0
    | [_] => rfl
    | [_, _] => simp at h2
    | _ :: _ :: _ :: _ => rfl
theorem st_vt : ∀ (n : Nat) (x : Int) (l : Vl) (t : Ty), vt n x l = some t → st n l = some t := by
  intro n
  induction n with
  | zero => intro x l t h; cases h
  | succ n ih =>
    intro x l t h
    rcases vt_cases h with ⟨rfl, rfl, _, _⟩ | ⟨a, b, s, u, rfl, rfl, rfl, h1, h2⟩
    · rfl
    · rw [st_two, ih _ _ _ h1, ih _ _ _ h2]; rfl
theorem of_ev : ∀ (n : Nat), n ≤ 1000 → ∀ (x : Int) (l : Vl) (k : Nat), 5 * n + 3 ≤ k →
    (∀ t, st n l = some t → spec_l1Of.f k x l n = some (t, true)) ∧ (st n l = none → ∃ t, spec_l1Of.f k x l n = some (t, false)) := by
  intro n
  induction n with
  | zero =>
    intro _ x l k hk
    obtain ⟨k, rfl⟩ : ∃ m, k = m + 2 := ⟨k - 2, by omega⟩
    refine ⟨fun t h => (by cases h), fun _ => ⟨[], ?_⟩⟩
    simp only [spec_l1Of.f]
    rw [if_pos (by omega)]
    simp only [spec_l1Of.j0, if_true]
  | succ n ih =>
    intro hn x l k hk
    obtain ⟨k, rfl⟩ : ∃ m, k = m + 5 := ⟨k - 5, by omega⟩
    have hp := pred_cast n (by omega)
    simp only [spec_l1Of.f]
    rw [if_neg (by omega)]
    rcases shapeV l with rfl | ⟨a, b, rfl⟩ | ⟨h0, h2⟩
    · rw [if_pos (by simp)]
      refine ⟨fun t h => ?_, fun h => (by cases h)⟩
      cases h
      simp only [spec_l1Of.j0, spec_l1Of.l0]
      rw [if_neg (by simp), if_neg (by simp)]
    · rw [if_neg (by simp), show ((([a, b] : Vl).length : Int) != 2) = false from by simp]
      simp only [spec_l1Of.j0, spec_l1Of.l0, hp, w01, w12]
      rw [if_neg (by simp), if_pos (by simp), if_pos (by omega), rv0, st_two]
      have i1 := ih (by omega) a.f0 a.f1 (k + 2) (by omega)
      cases e1 : st n a.f1 with
      | none =>
        obtain ⟨t, h1⟩ := i1.2 e1
        rw [h1]; simp only [Option.bind_some]
        exact ⟨fun t h => (by cases h), fun _ => ⟨[], by rw [if_neg (by simp)]⟩⟩
      | some s =>
        rw [i1.1 s e1]; simp only [Option.bind_some, if_true]
        rw [if_pos (by simp), if_pos (by simp), if_pos (by omega), rv1]
        have i2 := ih (by omega) b.f0 b.f1 (k + 1) (by omega)
        cases e2 : st n b.f1 with
        | none =>
          obtain ⟨t, h1⟩ := i2.2 e2
          rw [h1]; simp only [Option.bind_some]
          exact ⟨fun t h => (by cases h), fun _ => ⟨_, by rw [if_neg (by simp)]⟩⟩
        | some u =>
          rw [i2.1 u e2]; simp only [Option.bind_some, if_true]
          rw [if_pos (by simp), if_neg (by simp)]
          exact ⟨fun t h => (by cases h; rfl), fun h => (by cases h)⟩
    · rw [if_neg (by omega), show ((l.length : Int) != 2) = true from by simp; omega]
      refine ⟨fun t h => (by rw [st_odd _ _ h0 h2] at h; cases h), fun _ => ⟨[], ?_⟩⟩
      simp only [spec_l1Of.j0, if_true]
theorem any_ok (x : Int) (l : Vl) (k : Nat) (hk : 25 ≤ k) : spec_l1Any.f k x l = some (vt 4 x l).isSome := by
  unfold spec_l1Any.f
  rw [show (4 : Int) = ((4 : Nat) : Int) from rfl]
  have h := of_ev 4 (by omega) x l k (by omega)
  cases e : st 4 l with
  | none =>
    obtain ⟨t, h1⟩ := h.2 e
    rw [h1]; simp only [Option.bind_some]
    rw [if_neg (by simp)]
    cases e2 : vt 4 x l with
    | none => rfl
    | some t => rw [st_vt _ _ _ _ e2] at e; cases e
  | some t =>
    rw [h.1 t e]; simp only [Option.bind_some, if_true]
    rw [specValOk_ev t x l k (by omega)]; simp only [Option.bind_some]
    cases e2 : vt 4 x l with
    | none =>
      cases e3 : vo t x l with
      | false => rfl
      | true => rw [(vo_iff t x l).1 e3] at e2; cases e2
    | some u =>
      have := st_vt _ _ _ _ e2
      rw [e] at this
      cases this
      rw [(vo_iff t x l).2 e2]; rfl
theorem anew_ev : ∀ (n : Nat) (x : Int) (l : Vl) (t : Ty) (k : Nat), vt n x l = some t → 4 * n ≤ k → spec_l1Anew.f k x l = some (x, l) := by
  intro n
  induction n with
  | zero => intro x l t k h; cases h
  | succ n ih =>
    intro x l t k h hk
    obtain ⟨k, rfl⟩ : ∃ m, k = m + 4 := ⟨k - 4, by omega⟩
    simp only [spec_l1Anew.f]
    rcases vt_cases h with ⟨rfl, rfl, _, _⟩ | ⟨a, b, s, u, rfl, rfl, rfl, h1, h2⟩
    · simp only [spec_l1Anew.l0]; rw [if_neg (by simp)]
    · simp only [spec_l1Anew.l0, w01, w12]
      rw [if_pos (by simp), if_pos (by omega), rv0, ih _ _ _ _ h1 (by omega)]; simp only [Option.bind_some]
      rw [if_pos (by simp), if_pos (by simp), if_pos (by omega), rv1, ih _ _ _ _ h2 (by omega)]; simp only [Option.bind_some]
      rw [if_pos (by simp), if_neg (by simp)]
      cases a; cases b; rfl
theorem specVLoop_ev (n : Nat) : ∀ (r pre : List Int) (x : Int) (l : Vl) (t : Ty) (k : Nat), vt n x l = some t → pre.length + r.length ≤ 4611686018427387904 → r.length + 4 * n + 1 ≤ k →
    spec_ValAt.l0 k (pre ++ r) (pre.length : Int) x l = some (av (pv r x l)) := by
  intro r
  induction r with
  | nil =>
    intro pre x l t k h h1 hk
    obtain ⟨k, rfl⟩ : ∃ m, k = m + 1 := ⟨k - 1, by omega⟩
    simp only [List.length_nil] at hk
    simp only [spec_ValAt.l0]
    rw [if_neg (by simp), anew_ev n x l t k h (by omega), pv_nil]; rfl
  | cons i r ih =>
    intro pre x l t k h h1 hk
    simp only [List.length_cons] at h1 hk
    obtain ⟨k, rfl⟩ : ∃ m, k = m + 1 := ⟨k - 1, by omega⟩
    simp only [spec_ValAt.l0, spec_l6In.f]
    have hl : ((pre ++ i :: r).length : Int) = pre.length + 1 + r.length := by simp; omega
    rw [if_pos (by omega), if_pos (by omega), rd_mid]
    cases n with
    | zero => cases h
    | succ n =>
      rcases vt_cases h with ⟨rfl, rfl, _, _⟩ | ⟨a, b, s, u, rfl, rfl, rfl, g1, g2⟩
      · rw [pv_odd _ _ _ _ (by simp), show wrap64 ((([] : Vl).length : Int) - 1) = -1 from w64 (by simp) (by simp)]
        by_cases hn : i ≥ 0
        · rw [if_pos hn]; simp only [Option.bind_some]; rw [if_neg (by simp; omega)]; rfl
        · rw [if_neg hn]; rfl
      · rw [pv_two, show wrap64 ((([a, b] : Vl).length : Int) - 1) = 1 from w64 (by simp) (by simp)]
        by_cases hn : i ≥ 0
        · rw [if_pos hn]; simp only [Option.bind_some]
          by_cases hb : i ≤ 1
          · rw [if_pos (by simpa using hb), if_pos (by omega), if_pos (by simp; omega), w64 (by omega) (by omega)]
            have ea : pre ++ i :: r = (pre ++ [i]) ++ r := by simp
            have el : (pre.length : Int) + 1 = ((pre ++ [i]).length : Int) := by simp
            rw [el, ea]
            by_cases h0 : i = 0
            · rw [if_pos h0, h0, rv0, ih _ _ _ _ _ (vt_succ _ _ _ _ g1) (by simp; omega) (by omega)]
            · rw [if_neg h0, if_pos (by omega), show i = 1 by omega, rv1, ih _ _ _ _ _ (vt_succ _ _ _ _ g2) (by simp; omega) (by omega)]
          · rw [if_neg (by simpa using hb), if_neg (by omega), if_neg (by omega)]; rfl
        · rw [if_neg hn, if_neg (show ¬ i = 0 by omega), if_neg (show ¬ i = 1 by omega)]; rfl
theorem specValAt_ev (x : Int) (l : Vl) (p : List Int) (k : Nat) (h : p.length ≤ 4611686018427387904) (hk : p.length + 30 ≤ k) : spec_ValAt.f k x l p = some (vat x l p) := by
  unfold spec_ValAt.f vat
  rw [any_ok x l k (by omega)]; simp only [Option.bind_some]
  cases e : vt 4 x l with
  | none => rfl
  | some t =>
    simp only [Option.isSome_some, if_true]
    have := specVLoop_ev 4 p [] x l t k e (by simpa using h) (by omega)
    simpa using this
theorem vat_vt (x : Int) (l : Vl) (p : List Int) : ∃ t, vt 4 (vat x l p).1 (vat x l p).2.1 = some t := by
  unfold vat
  cases e : vt 4 x l with
  | none => exact ⟨[], rfl⟩
  | some t =>
    simp only [Option.isSome_some, if_true]
    cases e2 : pv p x l with
    | none => exact ⟨[], rfl⟩
    | some r =>
      obtain ⟨u, _, hu⟩ := (vt_pv 4 p x l t e).1 r.1 r.2 e2
      exact ⟨u, hu⟩
theorem lhv_self : ∀ (n : Nat) (x : Int) (l : Vl) (t : Ty) (k : Nat), vt n x l = some t → 5 * n ≤ k → laws_lhVal.f k x l x l = some true := by
  intro n
  induction n with
  | zero => intro x l t k h; cases h
  | succ n ih =>
    intro x l t k h hk
    obtain ⟨k, rfl⟩ : ∃ m, k = m + 5 := ⟨k - 5, by omega⟩
    simp only [laws_lhVal.f, if_true]
    rw [show ((l.length : Int) != (l.length : Int)) = false from by simp]
    rcases vt_cases h with ⟨rfl, rfl, _, _⟩ | ⟨a, b, s, u, rfl, rfl, rfl, h1, h2⟩
    · simp only [laws_lhVal.j0, laws_lhVal.l0]; rw [if_neg (by simp), if_neg (by simp)]
    · simp only [laws_lhVal.j0, laws_lhVal.l0, w01, w12]
      rw [if_neg (by simp), if_pos (by simp), if_pos (by omega), if_pos (by simp), rv0, ih _ _ _ _ h1 (by omega)]; simp only [Option.bind_some, if_true]
      rw [if_pos (by simp), if_pos (by omega), if_pos (by simp), rv1, ih _ _ _ _ h2 (by omega)]; simp only [Option.bind_some, if_true]
      rw [if_neg (by simp)]
end Go.Proofs.Ythfflieeifakdaa.Ats
end
section
set_option linter.unusedVariables false
namespace Go.Proofs.Ythfflieeifakdaa.DrawV
open Go.RowKit Go.Proofs.Ythfflieeifakdaa.PA Go.Proofs.YthfflieeifakdaaW.PrintWords Go.Proofs.YthfflieeifakdaaW.PrintLast Go.Proofs.Ythfflieeifakdaa.Draw Go.Proofs.Ythfflieeifakdaa.Types Go.Proofs.Ythfflieeifakdaa.Paths Go.Proofs.Ythfflieeifakdaa.Vals
theorem dph_dp : ∀ (n : Nat) (t : Ty), dp (n + 1) t = true → Dph n t := by
  intro n
  induction n with
  | zero =>
    intro t h
    rcases Types.shape t with rfl | ⟨a, b, rfl⟩ | ⟨h0, h2⟩
    · rfl
    · rw [dp_two, Bool.and_eq_true] at h; simp [dp] at h
    · rw [dp_odd _ _ h0 h2] at h; cases h
  | succ n ih =>
    intro t h
    rcases Types.shape t with rfl | ⟨a, b, rfl⟩ | ⟨h0, h2⟩
    · exact dph_nil _
    · rw [dp_two, Bool.and_eq_true] at h
      intro x hx
      rcases List.mem_cons.1 hx with rfl | hx
      · exact ih _ h.1
      · rw [List.mem_singleton.1 hx]; exact ih _ h.2
    · rw [dp_odd _ _ h0 h2] at h; cases h
theorem drawValAt_ev (l : List Int) (h : ∀ x ∈ l, (Lit.int .u8 x).wf = true) : ∃ x v p, (∀ k, 60 ≤ k → spec_DrawValAt.f k l = some (x, v, p)) ∧ p.length ≤ 11 := by
  obtain ⟨s, ho, hs⟩ := open_ev l h
  obtain ⟨c, hc, c0, c1⟩ := pick_ev s hs 0 3 (by omega) (by omega) (by omega)
  obtain ⟨cn, rfl⟩ := Int.eq_ofNat_of_zero_le c0
  have ew : wrap64 (2 + (cn : Int)) = ((2 + cn : Nat) : Int) := by rw [w64 (by omega) (by omega)]; omega
  obtain ⟨t, q1, ht, g1, g2, d1⟩ := typeN_ev s hs (2 + cn) (by omega) (0 + 1) (by omega) (by omega)
  obtain ⟨x, v, q2, hx, g3, g4⟩ := bad_ev s hs (2 + cn + 1) (by omega) t d1 q1 (by omega) (by omega)
  obtain ⟨p, q3, hp, _, _, hl⟩ := any_ev s hs (2 + cn) t (by omega) (dph_dp _ _ d1) q2 (by omega) (by omega)
  refine ⟨x, v, p, fun k hk => ?_, by omega⟩
  unfold spec_DrawValAt.f
  rw [ho]; simp only [Option.bind_some]
  rw [hc k (by omega)]; simp only [Option.bind_some]
  rw [ew, ht k (by omega)]; simp only [Option.bind_some]
  rw [hx k (by omega)]; simp only [Option.bind_some]
  rw [hp k (by omega)]; rfl
end Go.Proofs.Ythfflieeifakdaa.DrawV
end
section
set_option linter.unusedSimpArgs false
set_option linter.unusedVariables false
namespace Go.Proofs.Ythfflieeifakdaa.Pure
open Go.RowKit Go.Proofs.Ythfflieeifakdaa.PA Go.Proofs.YthfflieeifakdaaW.PrintWords Go.Proofs.YthfflieeifakdaaW.PrintLast Go.Proofs.Ythfflieeifakdaa.Draw Go.Proofs.Ythfflieeifakdaa.Types Go.Proofs.Ythfflieeifakdaa.Paths Go.Proofs.Ythfflieeifakdaa.Vals Go.Proofs.Ythfflieeifakdaa.Ats Go.Proofs.Ythfflieeifakdaa.DrawV
theorem vat_two (x : Int) (l : Vl) (p q : List Int) (h : (vat x l (p ++ q)).2.2 = true) : (vat x l p).2.2 = true ∧ vat (vat x l p).1 (vat x l p).2.1 q = vat x l (p ++ q) := by
  unfold vat at h ⊢
  cases e : vt 4 x l with
  | none => rw [e] at h; cases h
  | some t =>
    rw [e] at h
    simp only [Option.isSome_some, if_true] at h ⊢
    rw [pv_app] at h ⊢
    cases e2 : pv p x l with
    | none => rw [e2] at h; cases h
    | some r =>
      obtain ⟨u, _, hu⟩ := (vt_pv 4 p x l t e).1 r.1 r.2 e2
      refine ⟨rfl, ?_⟩
      show (if (vt 4 r.1 r.2).isSome = true then av (pv q r.1 r.2) else (0, [], false)) = av (pv q r.1 r.2)
      rw [hu]; rfl
theorem vat_self (x : Int) (l : Vl) (p : List Int) (k : Nat) (hk : 20 ≤ k) : laws_lhVal.f k (vat x l p).1 (vat x l p).2.1 (vat x l p).1 (vat x l p).2.1 = some true := by
  obtain ⟨t, ht⟩ := vat_vt x l p
  exact lhv_self 4 _ _ t k ht (by omega)
theorem FnValAt : laws_FnValAt.Pure := by
  intro l0 l1 _ _ h0 _ _ h1
  obtain ⟨x, v, p, ht, hl⟩ := drawValAt_ev l0 h0
  refine ⟨80, ?_⟩
  have key : laws_FnValAt.j0 80 l0 l1 false = some true := by
    simp only [laws_FnValAt.j0]
    rw [if_neg (by simp), ht 79 (by omega)]; simp only [Option.bind_some]
    rw [specValAt_ev x v p 79 (by omega) (by omega)]; simp only [Option.bind_some]
    rw [implValAt_ev x v p 79 (by omega) (by omega)]; simp only [Option.bind_some]
    rw [if_neg (by simp), vat_self x v p 79 (by omega)]; simp only [Option.bind_some, if_true]
    cases e : (vat x v p).2.2 with
    | false =>
      simp only [laws_FnValAt.j1, Bool.not_false, if_true]
      rw [if_pos (by simp), vat_self x v p 78 (by omega)]; rfl
    | true =>
      simp only [laws_FnValAt.j1, Bool.not_true]
      have ew : wrap64 ((p.length : Int) + 1) = (p.length : Int) + 1 := w64 (by omega) (by omega)
      rw [ew]
      have m0 := Int.emod_nonneg (l1.length : Int) (show (p.length : Int) + 1 ≠ 0 by omega)
      have m1 := Int.emod_lt_of_pos (l1.length : Int) (show 0 < (p.length : Int) + 1 by omega)
      generalize (l1.length : Int) % ((p.length : Int) + 1) = m at *
      rw [if_neg (by simp), if_neg (by omega), if_pos (by omega), if_pos (by omega)]
      have sp := vat_two x v (p.take m.toNat) (p.drop m.toNat) (by rw [List.take_append_drop]; exact e)
      rw [List.take_append_drop] at sp
      rw [implValAt_ev x v (p.take m.toNat) 78 (by simp; omega) (by simp; omega)]; simp only [Option.bind_some]
      rw [implValAt_ev _ _ (p.drop m.toNat) 78 (by simp; omega) (by simp; omega)]; simp only [Option.bind_some]
      rw [if_pos sp.1, sp.2, if_pos e, vat_self x v p 78 (by omega)]; rfl
  have big : laws_FnValAt.j0 80 l0 l1 true = some true := by simp only [laws_FnValAt.j0, if_true]
  unfold laws_FnValAt.f
  by_cases c : (l0.length : Int) > 1048576
  · rw [if_pos c]; exact big
  · rw [if_neg c]
    by_cases c2 : (l1.length : Int) > 1048576
    · rw [show decide ((l1.length : Int) > 1048576) = true from decide_eq_true c2]; exact big
    · rw [show decide ((l1.length : Int) > 1048576) = false from decide_eq_false c2]; exact key
end Go.Proofs.Ythfflieeifakdaa.Pure
end
section
namespace Go.Proofs.YthfflieeifakdaaW.PrintWords
open Go.ChangeShapes Go.WideShapes
theorem sized_ints {H : Type} {enc : TypeId × Value → H} {P : Program} {W : World} {base : Nat} {spare : Nat → Bool} {held : Bool} {t e : TypeId} {k : IntKind} {a : Option Addr} {len cap : Nat} {d : DataW H} {ps : List MemPlace} {ts : List TypeId} {ds : List (DataW H)} {j : Nat}
    (hsz : (DataW.weightsEach P ts ds).all (· ≤ reachBytes) = true) (ht : ts[j]? = some t) (hd : ds[j]? = some d) (hu : P.underlying t = some (.slice e)) (he : P.underlying e = some (.int k)) (hc : P.cellsOf e = 1) {B : Nat} (hB : P.bytesOf e = B)
    (h : DataW.Trod enc P W base spare held t (.slice a len cap) d ps) : len * B ≤ 140737488351232 := by
  obtain ⟨fuel, hf⟩ := h
  rcases open_ints hu he hc hf with ⟨hcs, _⟩ | ⟨x, l, c, zs, hcs, _, hl, _, hz, hx, _, _⟩
  · simp [Value.cells] at hcs
    obtain ⟨rfl, rfl, rfl⟩ := hcs
    simp
  · simp [Value.cells] at hcs
    obtain ⟨rfl, rfl, rfl⟩ := hcs
    obtain ⟨hx, _⟩ := Prod.mk.inj hx
    subst hx
    have z := sized_slice hsz ht hd hu
    rw [hB] at z
    have hl2 : len ≤ zs.length := by
      rw [hz]
      split
      · exact hl
      · exact Nat.le_refl _
    have h1 : (lits (H := H) k (zs.take len)).length + (lits (H := H) k (zs.drop len)).length = zs.length := by
      simp [lits]
      omega
    rw [h1] at z
    exact Nat.le_trans (Nat.mul_le_mul_right _ hl2) z
end Go.Proofs.YthfflieeifakdaaW.PrintWords
end
section
namespace Go.Proofs.Ythfflieeifakdaa.fnValAt
open Go.ChangeShapes Go.WideShapes Go.ChangeAt Go.RowKit
open Go.ChangeMaps (open_string shut_string)
set_option linter.unusedVariables false
theorem own : ownKnob Try.prog.godebug = none := by kernel_rfl
theorem laidOut : laidOutB Try.prog = true := by kernel_rfl
def IsRow (k : IntKind) (w : World) (a : Option Addr) (len cap : Nat) (zs : List Int) : Prop :=
  (a = none ∧ len = 0 ∧ cap = 0 ∧ zs = []) ∨
  ∃ x, a = some x ∧ len ≤ cap ∧ cap ≤ maxLen ∧ zs.length = cap ∧ (∀ i, i < zs.length → w.cell? (x.add i) = some (.int k (zs.getD i 0))) ∧ ∀ n ∈ zs, (Lit.int k n).wf = true
set_option maxRecDepth 100000 in
theorem lifted (os : Os) (started : os.Started) (H : Type) (enc : TypeId × Value → H) :
    ReturnsInHanded {} Try.checked os 3 .any (Rows.fnValAtSpec.pre6 enc Try.prog Try.f3 Rows.fnValAtRow.domain false) (Rows.fnValAtSpec.post enc Try.prog Try.f3 false true false false) := by
  refine returnsInHanded_of_change_sized (C := Try.checked) own started (by kernel_rfl) Try.func3
    (ChangeSpec.witness6 (enc := enc) (C := Try.checked) false ⟨#[], #[.slice none 0 0, .slice none 0 0], []⟩ 8 (by kernel_rfl) (by kernel_rfl) (by kernel_rfl) (by kernel_rfl)) ?_
  intro W base args ds gs before hval0 hW hcnd hsz0 _
  have hsz : (DataW.weightsEach Try.prog (Try.f3.params.toList ++ Rows.fnValAtSpec.plain.varTypes Try.prog) (ds ++ gs)).all (· ≤ reachBytes) = true := hsz0
  have hval : ∀ (j : Nat) t v, Try.f3.params[j]? = some t → args[j]? = some v → Value.okWide Try.prog W .any base t v := hval0
  have hW' := hW
  obtain ⟨p, q, hA0, hV, rfl, hfz, hnd⟩ := hW
  have hA : DataW.TrodAll enc Try.prog W 0 (fun _ => true) true Try.f3.params.toList args.toList ds p := hA0
  rw [Try.params3] at hA hval hsz
  obtain ⟨v0, vs0, d0, ds0, p0, q0, hargs, rfl, rfl, h0, r0⟩ := trodAll_cons hA
  obtain ⟨v1, vs1, d1, ds1, p1, q1, rfl, rfl, rfl, h1, r1⟩ := trodAll_cons r0
  obtain ⟨rfl, rfl, rfl⟩ := trodAll_nil r1
  obtain rfl : args = #[v0, v1] := by cases args; simp_all
  obtain ⟨rfl, rfl⟩ := trodVars_none hV
  obtain ⟨a0, len0, cap0, rfl⟩ := okWide_slice Try.underlying22 (hval 0 22 v0 rfl rfl)
  have k0 := h0
  have lt0 : ∀ x ∈ p0, x.block < W.heap.size := by obtain ⟨m, hm⟩ := k0; exact DataW.trod_lt m _ _ _ hm
  obtain ⟨z0, w0⟩ : ∃ zs, IsRow .u8 W a0 len0 cap0 zs := by
    obtain ⟨fuel, hf⟩ := h0
    rcases open_ints Try.underlying22 Try.underlying5 (by kernel_rfl) hf with ⟨hcs, _⟩ | ⟨x, l, c, zs, hcs, _, hl, hm, hz, _, hcell, hwz⟩
    · simp [Value.cells] at hcs
      obtain ⟨rfl, rfl, rfl⟩ := hcs
      exact ⟨[], .inl ⟨rfl, rfl, rfl, rfl⟩⟩
    · simp [Value.cells] at hcs
      obtain ⟨rfl, rfl, rfl⟩ := hcs
      exact ⟨zs, .inr ⟨_, rfl, hl, hm, by simpa using hz, hcell, hwz⟩⟩
  have y0 : len0 * 1 ≤ 140737488351232 := Go.Proofs.YthfflieeifakdaaW.PrintWords.sized_ints hsz (j := 0) (t := 22) rfl rfl Try.underlying22 Try.underlying5 (by kernel_rfl) (by kernel_rfl) h0
  obtain ⟨a1, len1, cap1, rfl⟩ := okWide_slice Try.underlying22 (hval 1 22 v1 rfl rfl)
  have k1 := h1
  have lt1 : ∀ x ∈ p1, x.block < W.heap.size := by obtain ⟨m, hm⟩ := k1; exact DataW.trod_lt m _ _ _ hm
  obtain ⟨z1, w1⟩ : ∃ zs, IsRow .u8 W a1 len1 cap1 zs := by
    obtain ⟨fuel, hf⟩ := h1
    rcases open_ints Try.underlying22 Try.underlying5 (by kernel_rfl) hf with ⟨hcs, _⟩ | ⟨x, l, c, zs, hcs, _, hl, hm, hz, _, hcell, hwz⟩
    · simp [Value.cells] at hcs
      obtain ⟨rfl, rfl, rfl⟩ := hcs
      exact ⟨[], .inl ⟨rfl, rfl, rfl, rfl⟩⟩
    · simp [Value.cells] at hcs
      obtain ⟨rfl, rfl, rfl⟩ := hcs
      exact ⟨zs, .inr ⟨_, rfl, hl, hm, by simpa using hz, hcell, hwz⟩⟩
  have y1 : len1 * 1 ≤ 140737488351232 := Go.Proofs.YthfflieeifakdaaW.PrintWords.sized_ints hsz (j := 1) (t := 22) rfl rfl Try.underlying22 Try.underlying5 (by kernel_rfl) (by kernel_rfl) h1
  clear hA0 hval0 hsz0 hsz
  refine (PA.laws_FnValAt.walk Pure.FnValAt a0 len0 cap0 z0 a1 len1 cap1 z1 W w0 y0 w1 y1).mono fun e W' ⟨he, bel⟩ => ?_
  subst he
  exact ⟨_, rfl, _, _, _, [], _, [], hW', trodAll_mk1 (shut_bool Try.underlying4 _), (trodAll_cons_mk (Below.trod laidOut (by kernel_rfl) (of_decide_eq_true (by kernel_rfl)) k0 bel lt0) (trodAll_cons_mk (Below.trod laidOut (by kernel_rfl) (of_decide_eq_true (by kernel_rfl)) k1 bel lt1) trodAll_mk0)), rfl, bel.frame _, fun h => by cases h⟩
theorem over : Rows.fnValAtRow.holds Try.pinned (OpenSpec.ofChange Rows.fnValAtSpec) :=
  OpenClaim.holds_of_wide 3 Try.f3 rfl rfl rfl rfl rfl rfl rfl ⟨rfl, rfl, rfl, rfl, rfl⟩ rfl rfl rfl rfl rfl (by kernel_rfl) Try.func3 (by kernel_rfl)
    (of_decide_eq_true (by kernel_rfl)) (by unfold Func.isWrapper; first | (rw [if_pos (by decide +kernel)]; kernel_rfl) | (rw [if_neg (by decide +kernel)]; exact ⟨rfl, rfl⟩))
    (fun os started H enc _ => lifted os started H enc)
theorem proved : Rows.FnValAtSaid := over
#print axioms proved
end Go.Proofs.Ythfflieeifakdaa.fnValAt
namespace Go.Proofs.Ythfflieeifakdaa
theorem fnValAt_holds : Rows.FnValAtSaid := fnValAt.proved
end Go.Proofs.Ythfflieeifakdaa
end
