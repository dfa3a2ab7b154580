-- Ytjhbhihfifhljaa's texts for the statement FnExactTypeAt, one behind the other (merge.py).
import Derived.Test.YtjhbhihfifhljaaQFnExactTypeAt0
import Derived.Test.YtjhbhihfifhljaaQFnExactTypeAt1
import Derived.OpenShut
import Derived.Laws.BitsLemmas
import Derived.Deep.Slices
import Derived.WalkKit
import Derived.ProofKit
import Derived.ShutString
import Derived.ChangeOld
import Derived.Below
import Derived.SizedLaws
section
namespace Go.Proofs.Ytjhbhihfifhljaa.PA
open Go.RowKit Go.Proofs.YtjhbhihfifhljaaW.PrintWords Go.Proofs.YtjhbhihfifhljaaW.PrintLast Go.Proofs.YtjhbhihfifhljaaW.PrintMore
attribute [local go_sem] max2_int min2_int max_two min_two max_three min_three max_four min_four
set_option linter.unusedVariables false
set_option linter.unusedSimpArgs false
mutual
def laws_FnExactTypeAt.j0 : Nat → List Int → Bool → List Int → Bool → Bool → List (S25) → List (S30) → List (S30) → List (S30) → Option (Bool)
 | 0, _, _, _, _, _, _, _, _, _ => none
 | k + 1, x1, x7, x9, x11, x51, x786000, x798000, x802000, x810000 => if x51 = true then (some false) else ((laws_toType.f k x786000).bind fun t811 => ((laws_eqType.f k x802000 t811).bind fun t814 => (if t814 = true then ((laws_toIntS.f k x1).bind fun t815 => ((laws_eqIntS.f k x9 t815).bind fun t818 => (if t818 = true then ((laws_markType.f k x802000 1).bind fun t819 => ((laws_markIntS.f k x9 t819).bind fun bt820 => (if bt820.1 < 0 then (laws_FnExactTypeAt.j1 k x1 x7 true x786000 x798000 x810000) else ((laws_eqType.f k x810000 x798000).bind fun t822 => (if t822 = true then (laws_FnExactTypeAt.j1 k x1 x7 (x11 != x7) x786000 x798000 x810000) else (laws_FnExactTypeAt.j1 k x1 x7 true x786000 x798000 x810000)))))) else (some false)))) else (some false))))
def laws_FnExactTypeAt.j1 : Nat → List Int → Bool → Bool → List (S25) → List (S30) → List (S30) → Option (Bool)
 | 0, _, _, _, _, _, _ => none
 | k + 1, x1, x7, x80, x786000, x798000, x810000 => if x80 = true then (some false) else ((laws_markType.f k x810000 1).bind fun t823 => ((laws_heldType.f k x810000 1).bind fun t824 => (if t824 < 0 then (some false) else (if t824 = t823 then ((laws_toType.f k x786000).bind fun t825 => ((laws_toIntS.f k x1).bind fun t828 => ((impl_TypeAt.f k t825 t828).bind fun bt831 => ((laws_eqType.f k bt831.1 x798000).bind fun t836 => (if t836 = true then (laws_FnExactTypeAt.j2 k t823 (bt831.2 != x7) x810000) else (laws_FnExactTypeAt.j2 k t823 true x810000)))))) else (some false)))))
def laws_FnExactTypeAt.j2 : Nat → Int → Bool → List (S30) → Option (Bool)
 | 0, _, _, _ => none
 | k + 1, x13, x108, x810000 => if x108 = true then (some false) else ((laws_heldType.f k x810000 1).bind fun t837 => (if t837 < 0 then (some false) else (if t837 = x13 then (some true) else (some false))))
end
def laws_FnExactTypeAt.f (k : Nat) (l0_0 : List (S25)) (l1 : List Int) : Option (Bool) := if (l1.length : Int) > 1048576 then (some true) else ((laws_szType.f k l0_0 1048576).bind fun t786 => (if t786 < 0 then (some true) else ((laws_toType.f k l0_0).bind fun t787 => ((laws_toIntS.f k l1).bind fun t790 => ((spec_TypeAt.f k t787 t790).bind fun bt793 => ((laws_toType.f k l0_0).bind fun t798 => ((laws_toIntS.f k l1).bind fun t802 => ((impl_TypeAt.f k t798 t802).bind fun bt805 => ((laws_eqType.f k bt805.1 bt793.1).bind fun t810 => (if t810 = true then (laws_FnExactTypeAt.j0 k l1 bt793.2 t802 bt805.2 (bt805.2 != bt793.2) l0_0 bt793.1 t798 bt805.1) else (laws_FnExactTypeAt.j0 k l1 bt793.2 t802 bt805.2 true l0_0 bt793.1 t798 bt805.1)))))))))))
theorem laws_FnExactTypeAt.mono_l : ∀ k, (∀ y0 y1 y2 y3 y4 y5 y6 y7 y8, LeO (laws_FnExactTypeAt.j0 k y0 y1 y2 y3 y4 y5 y6 y7 y8) (laws_FnExactTypeAt.j0 (k + 1) y0 y1 y2 y3 y4 y5 y6 y7 y8)) ∧ (∀ y0 y1 y2 y3 y4 y5, LeO (laws_FnExactTypeAt.j1 k y0 y1 y2 y3 y4 y5) (laws_FnExactTypeAt.j1 (k + 1) y0 y1 y2 y3 y4 y5)) ∧ (∀ y0 y1 y2, LeO (laws_FnExactTypeAt.j2 k y0 y1 y2) (laws_FnExactTypeAt.j2 (k + 1) y0 y1 y2))
 | 0 => ⟨fun _ _ _ _ _ _ _ _ _ r h => by simp [laws_FnExactTypeAt.j0] at h, fun _ _ _ _ _ _ r h => by simp [laws_FnExactTypeAt.j1] at h, fun _ _ _ r h => by simp [laws_FnExactTypeAt.j2] at h⟩
 | k + 1 => by
  obtain ⟨ih0, ih1, ih2⟩ := laws_FnExactTypeAt.mono_l k
  refine ⟨?_, ?_, ?_⟩
  ·intro y0 y1 y2 y3 y4 y5 y6 y7 y8
   unfold laws_FnExactTypeAt.j0
   repeat' first
   | (with_reducible exact ih0 _ _ _ _ _ _ _ _ _)
   | (with_reducible exact ih1 _ _ _ _ _ _)
   | (with_reducible exact ih2 _ _ _)
   | (with_reducible exact impl_TypeAt.mono _ _ _)
   | (with_reducible exact laws_eqIntS.mono _ _ _)
   | (with_reducible exact laws_eqType.mono _ _ _)
   | (with_reducible exact laws_heldType.mono _ _ _)
   | (with_reducible exact laws_markIntS.mono _ _ _)
   | (with_reducible exact laws_markType.mono _ _ _)
   | (with_reducible exact laws_szType.mono _ _ _)
   | (with_reducible exact laws_toIntS.mono _ _)
   | (with_reducible exact laws_toType.mono _ _)
   | (with_reducible exact spec_TypeAt.mono _ _ _)
   | (with_reducible exact LeO.refl _)
   | (with_reducible exact LeO.none _)
   | (with_reducible refine LeO.ite ?_ ?_)
   | (with_reducible refine LeO.bind ?_ (fun _ => ?_))
   | exact ih0 _ _ _ _ _ _ _ _ _
   | exact ih1 _ _ _ _ _ _
   | exact ih2 _ _ _
   | exact impl_TypeAt.mono _ _ _
   | exact laws_eqIntS.mono _ _ _
   | exact laws_eqType.mono _ _ _
   | exact laws_heldType.mono _ _ _
   | exact laws_markIntS.mono _ _ _
   | exact laws_markType.mono _ _ _
   | exact laws_szType.mono _ _ _
   | exact laws_toIntS.mono _ _
   | exact laws_toType.mono _ _
   | exact spec_TypeAt.mono _ _ _
   | exact LeO.none _
   | refine LeO.ite ?_ ?_
   | refine LeO.bind ?_ (fun _ => ?_)
  ·intro y0 y1 y2 y3 y4 y5
   unfold laws_FnExactTypeAt.j1
   repeat' first
   | (with_reducible exact ih0 _ _ _ _ _ _ _ _ _)
   | (with_reducible exact ih1 _ _ _ _ _ _)
   | (with_reducible exact ih2 _ _ _)
   | (with_reducible exact impl_TypeAt.mono _ _ _)
   | (with_reducible exact laws_eqIntS.mono _ _ _)
   | (with_reducible exact laws_eqType.mono _ _ _)
   | (with_reducible exact laws_heldType.mono _ _ _)
   | (with_reducible exact laws_markIntS.mono _ _ _)
   | (with_reducible exact laws_markType.mono _ _ _)
   | (with_reducible exact laws_szType.mono _ _ _)
   | (with_reducible exact laws_toIntS.mono _ _)
   | (with_reducible exact laws_toType.mono _ _)
   | (with_reducible exact spec_TypeAt.mono _ _ _)
   | (with_reducible exact LeO.refl _)
   | (with_reducible exact LeO.none _)
   | (with_reducible refine LeO.ite ?_ ?_)
   | (with_reducible refine LeO.bind ?_ (fun _ => ?_))
   | exact ih0 _ _ _ _ _ _ _ _ _
   | exact ih1 _ _ _ _ _ _
   | exact ih2 _ _ _
   | exact impl_TypeAt.mono _ _ _
   | exact laws_eqIntS.mono _ _ _
   | exact laws_eqType.mono _ _ _
   | exact laws_heldType.mono _ _ _
   | exact laws_markIntS.mono _ _ _
   | exact laws_markType.mono _ _ _
   | exact laws_szType.mono _ _ _
   | exact laws_toIntS.mono _ _
   | exact laws_toType.mono _ _
   | exact spec_TypeAt.mono _ _ _
   | exact LeO.none _
   | refine LeO.ite ?_ ?_
   | refine LeO.bind ?_ (fun _ => ?_)
  ·intro y0 y1 y2
   unfold laws_FnExactTypeAt.j2
   repeat' first
   | (with_reducible exact ih0 _ _ _ _ _ _ _ _ _)
   | (with_reducible exact ih1 _ _ _ _ _ _)
   | (with_reducible exact ih2 _ _ _)
   | (with_reducible exact impl_TypeAt.mono _ _ _)
   | (with_reducible exact laws_eqIntS.mono _ _ _)
   | (with_reducible exact laws_eqType.mono _ _ _)
   | (with_reducible exact laws_heldType.mono _ _ _)
   | (with_reducible exact laws_markIntS.mono _ _ _)
   | (with_reducible exact laws_markType.mono _ _ _)
   | (with_reducible exact laws_szType.mono _ _ _)
   | (with_reducible exact laws_toIntS.mono _ _)
   | (with_reducible exact laws_toType.mono _ _)
   | (with_reducible exact spec_TypeAt.mono _ _ _)
   | (with_reducible exact LeO.refl _)
   | (with_reducible exact LeO.none _)
   | (with_reducible refine LeO.ite ?_ ?_)
   | (with_reducible refine LeO.bind ?_ (fun _ => ?_))
   | exact ih0 _ _ _ _ _ _ _ _ _
   | exact ih1 _ _ _ _ _ _
   | exact ih2 _ _ _
   | exact impl_TypeAt.mono _ _ _
   | exact laws_eqIntS.mono _ _ _
   | exact laws_eqType.mono _ _ _
   | exact laws_heldType.mono _ _ _
   | exact laws_markIntS.mono _ _ _
   | exact laws_markType.mono _ _ _
   | exact laws_szType.mono _ _ _
   | exact laws_toIntS.mono _ _
   | exact laws_toType.mono _ _
   | exact spec_TypeAt.mono _ _ _
   | exact LeO.none _
   | refine LeO.ite ?_ ?_
   | refine LeO.bind ?_ (fun _ => ?_)
theorem laws_FnExactTypeAt.mono : ∀ a0 a1 k, LeO (laws_FnExactTypeAt.f k a0 a1) (laws_FnExactTypeAt.f (k + 1) a0 a1) := by
 intro a0 a1 k
 obtain ⟨ih0, ih1, ih2⟩ := laws_FnExactTypeAt.mono_l k
 unfold laws_FnExactTypeAt.f
 repeat' first
   | (with_reducible exact ih0 _ _ _ _ _ _ _ _ _)
   | (with_reducible exact ih1 _ _ _ _ _ _)
   | (with_reducible exact ih2 _ _ _)
   | (with_reducible exact impl_TypeAt.mono _ _ _)
   | (with_reducible exact laws_eqIntS.mono _ _ _)
   | (with_reducible exact laws_eqType.mono _ _ _)
   | (with_reducible exact laws_heldType.mono _ _ _)
   | (with_reducible exact laws_markIntS.mono _ _ _)
   | (with_reducible exact laws_markType.mono _ _ _)
   | (with_reducible exact laws_szType.mono _ _ _)
   | (with_reducible exact laws_toIntS.mono _ _)
   | (with_reducible exact laws_toType.mono _ _)
   | (with_reducible exact spec_TypeAt.mono _ _ _)
   | (with_reducible exact LeO.refl _)
   | (with_reducible exact LeO.none _)
   | (with_reducible refine LeO.ite ?_ ?_)
   | (with_reducible refine LeO.bind ?_ (fun _ => ?_))
   | exact ih0 _ _ _ _ _ _ _ _ _
   | exact ih1 _ _ _ _ _ _
   | exact ih2 _ _ _
   | exact impl_TypeAt.mono _ _ _
   | exact laws_eqIntS.mono _ _ _
   | exact laws_eqType.mono _ _ _
   | exact laws_heldType.mono _ _ _
   | exact laws_markIntS.mono _ _ _
   | exact laws_markType.mono _ _ _
   | exact laws_szType.mono _ _ _
   | exact laws_toIntS.mono _ _
   | exact laws_toType.mono _ _
   | exact spec_TypeAt.mono _ _ _
   | exact LeO.none _
   | refine LeO.ite ?_ ?_
   | refine LeO.bind ?_ (fun _ => ?_)
set_option maxHeartbeats 8000000 in
set_option maxRecDepth 100000 in
theorem laws_FnExactTypeAt.calls (k : Nat) (A0_0 : Option Addr) (c0_0 : Nat) (l0_0 : List (S25)) (A1 : Option Addr) (c1 : Nat) (l1 : List Int) (r : Bool) (w : World) (hr0_0 : Kd.C k25 w A0_0 l0_0.length l0_0) (hc0_0 : l0_0.length ≤ c0_0) (hr1 : Kd.C (Kd.int .i64) w A1 l1.length l1) (hc1 : l1.length ≤ c1) (h : laws_FnExactTypeAt.f k l0_0 l1 = some r) (hr_ : Aside0 (r = true)) :
  Calls Try.prog 12 #[.agg #[.slice A0_0 l0_0.length c0_0], .slice A1 l1.length c1] w fun e w' => e = .returned (.bool r) ∧ Below w.heap.size w w' := by
 have hu25 := Try.underlying25
 have hu30 := Try.underlying30
 have HR0_0 := Aside0.mk hr0_0
 have HC0_0 := Aside0.mk hc0_0
 clear hr0_0 hc0_0
 have HR1 := Aside0.mk hr1
 have HC1 := Aside0.mk hc1
 clear hr1 hc1
 have HB := Aside0.mk (Below.refl w.heap.size w)
 have H : (if (l1.length : Int) > 1048576 then (some true) else ((laws_szType.f k l0_0 1048576).bind fun t786 => (if t786 < 0 then (some true) else ((laws_toType.f k l0_0).bind fun t787 => ((laws_toIntS.f k l1).bind fun t790 => ((spec_TypeAt.f k t787 t790).bind fun bt793 => ((laws_toType.f k l0_0).bind fun t798 => ((laws_toIntS.f k l1).bind fun t802 => ((impl_TypeAt.f k t798 t802).bind fun bt805 => ((laws_eqType.f k bt805.1 bt793.1).bind fun t810 => (if t810 = true then (laws_FnExactTypeAt.j0 k l1 bt793.2 t802 bt805.2 (bt805.2 != bt793.2) l0_0 bt793.1 t798 bt805.1) else (laws_FnExactTypeAt.j0 k l1 bt793.2 t802 bt805.2 true l0_0 bt793.1 t798 bt805.1)))))))))))) = some r := h
 clear h
 by_cases c3 : (l1.length : Int) > 1048576
 ·rw [if_pos c3] at H
  have c3b0 : decide (1048576 < (l1.length : Int)) = true := decide_eq_true c3
  have c3b1 : decide (1048576 < l1.length) = true := decide_eq_true (by omega)
  clear c3
  clear hr_
  obtain rfl := Option.some.inj H
  go_enter Try.func12, Try.ntmps12
  go_wp2_with (first | ((with_reducible refine gate_dst (N := 2) rfl ?_); refine zbx 2 #[.slice A0_0 l0_0.length c0_0] 25 ?_; intro gb785 hg w4 hbox hb; have BK785 := Aside0.mk hbox; have GW785 := Aside0.mk ((y5 hg HB.out : w.heap.size ≤ gb785)); have GE785 := Aside0.mk ((y5 hg HB.out : w.heap.size ≤ gb785)); replace HB := Aside0.mk (below_step (y2 HB.out) hb); clear hb hbox hg))
  go_ret
  exact ⟨y14, (y3 HB.out GE785.out)⟩
 ·rw [if_neg c3] at H
  have c3b0 : decide (1048576 < (l1.length : Int)) = false := decide_eq_false c3
  have c3b1 : decide (1048576 < l1.length) = false := decide_eq_false (by omega)
  clear c3
  obtain ⟨t786, A50, H⟩ := ob H
  have A5 := Aside0.mk A50
  clear A50
  by_cases c6 : t786 < 0
  ·rw [if_pos c6] at H
   have c6b0 : decide (t786 < 0) = true := decide_eq_true c6
   clear c6
   clear hr_
   obtain rfl := Option.some.inj H
   go_enter Try.func12, Try.ntmps12
   go_wp2_with (first | ((with_reducible refine gate_dst (N := 2) rfl ?_); refine zbx 2 #[.slice A0_0 l0_0.length c0_0] 25 ?_; intro gb785 hg w7 hbox hb; have BK785 := Aside0.mk hbox; have GW785 := Aside0.mk ((y5 hg HB.out : w.heap.size ≤ gb785)); have GE785 := Aside0.mk ((y5 hg HB.out : w.heap.size ≤ gb785)); replace HB := Aside0.mk (below_step (y2 HB.out) hb); clear hb hbox hg; have hcz8_0 := zh BK785; have hfz8_0 := zfr BK785 0) | ((with_reducible refine gate_callee (f := 15) rfl ?_); refine goesL_ (some 22) rfl rfl Try.func15 (by kernel_rfl) rfl #[.agg #[.slice A0_0 l0_0.length c0_0], .int .i64 1048576] rfl y4 ?_; (with_reducible refine (laws_szType.calls k _ _ l0_0 1048576 t786 _ ?side1 ?side2 A5.out).mono ?_); (case side1 => exact y8 HR0_0.out HB.out); (case side2 => exact HC0_0.out); rintro e w9 ⟨rfl, hb⟩; refine ⟨_, rfl, ?_⟩; replace BK785 := zbb BK785 hb; replace HB := Aside0.mk (below_step (y3 HB.out GE785.out) hb); (try clear hb); (try clear hb2); (try clear hk); (try clear hi)))
   go_ret
   exact ⟨y14, (y3 HB.out GE785.out)⟩
  ·rw [if_neg c6] at H
   have c6b0 : decide (t786 < 0) = false := decide_eq_false c6
   clear c6
   obtain ⟨t787, A100, H⟩ := ob H
   have A10 := Aside0.mk A100
   clear A100
   obtain ⟨t790, A110, H⟩ := ob H
   have A11 := Aside0.mk A110
   clear A110
   obtain ⟨⟨t793, t796⟩, A120, H⟩ := ob H
   have A12 := Aside0.mk A120
   clear A120
   obtain ⟨t798, A130, H⟩ := ob H
   have A13 := Aside0.mk A130
   clear A130
   obtain ⟨t802, A140, H⟩ := ob H
   have A14 := Aside0.mk A140
   clear A140
   obtain ⟨⟨t805, t808⟩, A150, H⟩ := ob H
   have A15 := Aside0.mk A150
   clear A150
   have HC16 := Aside0.mk H
   clear H
   go_enter Try.func12, Try.ntmps12
   go_upto_region 11 with (first | ((with_reducible refine gate_dst (N := 2) rfl ?_); refine zbx 2 #[.slice A0_0 l0_0.length c0_0] 25 ?_; intro gb785 hg w17 hbox hb; have BK785 := Aside0.mk hbox; have GW785 := Aside0.mk ((y5 hg HB.out : w.heap.size ≤ gb785)); have GE785 := Aside0.mk ((y5 hg HB.out : w.heap.size ≤ gb785)); replace HB := Aside0.mk (below_step (y2 HB.out) hb); clear hb hbox hg; have hcz18_0 := zh BK785; have hfz18_0 := zfr BK785 0) | ((with_reducible refine gate_callee (f := 15) rfl ?_); refine goesL_ (some 22) rfl rfl Try.func15 (by kernel_rfl) rfl #[.agg #[.slice A0_0 l0_0.length c0_0], .int .i64 1048576] rfl y4 ?_; (with_reducible refine (laws_szType.calls k _ _ l0_0 1048576 t786 _ ?side1 ?side2 A5.out).mono ?_); (case side1 => exact y8 HR0_0.out HB.out); (case side2 => exact HC0_0.out); rintro e w19 ⟨rfl, hb⟩; refine ⟨_, rfl, ?_⟩; replace BK785 := zbb BK785 hb; replace HB := Aside0.mk (below_step (y3 HB.out GE785.out) hb); (try clear hb); (try clear hb2); (try clear hk); (try clear hi); have hcz20_0 := zh BK785; have hfz20_0 := zfr BK785 0) | ((with_reducible refine gate_callee (f := 17) rfl ?_); refine goesL_ (some 27) rfl rfl Try.func17 (by kernel_rfl) rfl #[.agg #[.slice A0_0 l0_0.length c0_0]] rfl y4 ?_; (with_reducible refine (laws_toType.calls k _ _ l0_0 t787 _ ?side1 ?side2 A10.out).mono ?_); (case side1 => exact y8 HR0_0.out HB.out); (case side2 => exact HC0_0.out); rintro e w21 ⟨v788, rfl, ho0, hb⟩; refine ⟨_, rfl, ?_⟩; have HO789 := Aside0.mk (Kd.N_lower (Kd.N_mono (ok' := fun k_ => k_ ≠ gb785) (Kd.R_N (Kd.R_bound ho0)) (fun k_ hk_ => (Kd.freshB (g := gb785) (o := .cells #[.slice A0_0 l0_0.length c0_0] 25 (0, 0)) (y0 BK785.out) k_ hk_.2.1))) (below_size (y3 HB.out GE785.out))); replace BK785 := zbb BK785 hb; replace HB := Aside0.mk (below_step (y3 HB.out GE785.out) hb); (try clear hb); (try clear hb2); (try clear hk); (try clear hi); (try clear ho0)) | ((with_reducible refine gate_callee (f := 37) rfl ?_); refine goesL_ (some 29) rfl rfl Try.func37 (by kernel_rfl) rfl #[.slice A1 l1.length c1] rfl y4 ?_; (with_reducible refine (laws_toIntS.calls k _ _ l1 t790 _ ?side1 ?side2 A11.out).mono ?_); (case side1 => exact y8 HR1.out HB.out); (case side2 => exact HC1.out); rintro e w22 ⟨v791, rfl, ho0, hb⟩; refine ⟨_, rfl, ?_⟩; replace HO789 := Aside0.mk (Kd.N_elder' (y9 HO789.out) (Kd.R_base ho0) hb); have HO792 := Aside0.mk (Kd.R_lower ho0 (below_size (y3 HB.out GE785.out))); replace BK785 := zbb BK785 hb; replace HB := Aside0.mk (below_step (y3 HB.out GE785.out) hb); (try clear hb); (try clear hb2); (try clear hk); (try clear hi); (try clear ho0); obtain ⟨Ao23, co23, eo23⟩ := Kd.N_slice HO789.out; subst eo23; obtain ⟨Ao24, co24, eo24⟩ := Kd.R_slice HO792.out; subst eo24) | ((with_reducible refine gate_callee (f := 33) rfl ?_); refine goesL_ (some 30) rfl rfl Try.func33 (by kernel_rfl) rfl #[.agg #[.slice Ao23 t787.length co23], .slice Ao24 t790.length co24] rfl y4 ?_; (with_reducible refine (spec_TypeAt.calls k (fun k_ => (k_ ≠ gb785 ∧ some k_ ≠ (.slice Ao24 t790.length co24 : Value).ownBlock)) _ _ t787 _ _ t790 t793 t796 _ ?side1 ?side2 ?side3 A12.out).mono ?_); (case side1 => exact Kd.N_V (HO789.out)); (case side2 => exact y30 HO792.out); (case side3 => exact (Kd.R_reads' HO792.out).2.1); rintro e w25 ⟨v794, rfl, ho0, hb⟩; refine ⟨_, rfl, ?_⟩; replace HO789 := Aside0.mk (Kd.N_elder' (y9 HO789.out) (Kd.R_base ho0) hb); have HO795 := Aside0.mk (Kd.N_lower (Kd.N_mono (ok' := fun k_ => some k_ ≠ (.slice Ao24 t790.length co24 : Value).ownBlock ∧ k_ ≠ gb785) (Kd.R_N (Kd.R_bound ho0)) (fun k_ hk_ => ⟨(Kd.fresh' (Kd.R_lt (y10 HO792.out)) k_ hk_.2.1), (Kd.freshB (g := gb785) (o := .cells #[.slice A0_0 l0_0.length c0_0] 25 (0, 0)) (y0 BK785.out) k_ hk_.2.1)⟩)) (below_size (y3 HB.out GE785.out))); replace HO792 := Aside0.mk (Kd.R_below (y10 HO792.out) hb); replace BK785 := zbb BK785 hb; replace HB := Aside0.mk (below_step (y3 HB.out GE785.out) hb); (try clear hb); (try clear hb2); (try clear hk); (try clear hi); (try clear ho0)) | ((with_reducible refine gate_dst (N := 6) rfl ?_); refine zbx 6 #[.slice none 0 0] 30 ?_; intro gb797 hg w26 hbox hb; replace HO789 := Aside0.mk (Kd.N_below (Kd.N_elderB (y9 HO789.out) gb797 (Nat.le_of_eq hg.symm)) hb); replace HO792 := Aside0.mk (Kd.R_below (y10 HO792.out) hb); replace HO795 := Aside0.mk (Kd.N_below (Kd.N_elderB (y9 HO795.out) gb797 (Nat.le_of_eq hg.symm)) hb); have BK797 := Aside0.mk hbox; have GW797 := Aside0.mk ((y6 hg HB.out GE785.out : w.heap.size ≤ gb797)); have GE797 := Aside0.mk ((y6 hg HB.out GE785.out : w.heap.size ≤ gb797)); replace HB := Aside0.mk (below_step (y3 HB.out GE785.out) hb); have NB785_797 := zltn hg BK785; have NB797_785 := zgtn hg BK785; replace BK785 := zbb BK785 hb; clear hb hbox hg; obtain ⟨Ao27, co27, eo27⟩ := Kd.N_slice HO795.out; subst eo27; have hnb28 := NB797_785.out; have hnc28 := NB785_797.out; have hcz29_0 := zh BK797; have hfz29_0 := zfr BK797 0; have hcz30_0 := zh BK785; have hfz30_0 := zfr BK785 0) | ((with_reducible refine gate_callee (f := 17) rfl ?_); refine goesL_ (some 34) rfl rfl Try.func17 (by kernel_rfl) rfl #[.agg #[.slice A0_0 l0_0.length c0_0]] rfl y4 ?_; (with_reducible refine (laws_toType.calls k _ _ l0_0 t798 _ ?side1 ?side2 A13.out).mono ?_); (case side1 => exact y69 HR0_0.out HB.out GE785.out GE797.out); (case side2 => exact HC0_0.out); rintro e w31 ⟨v799, rfl, ho0, hb⟩; refine ⟨_, rfl, ?_⟩; have HO800 := Aside0.mk (Kd.N_lower (Kd.N_mono (ok' := fun k_ => some k_ ≠ (.slice Ao23 t787.length co23 : Value).ownBlock ∧ some k_ ≠ (.slice Ao24 t790.length co24 : Value).ownBlock ∧ some k_ ≠ (.slice Ao27 t793.length co27 : Value).ownBlock ∧ k_ ≠ gb785 ∧ k_ ≠ gb797) (Kd.R_N (Kd.R_bound ho0)) (fun k_ hk_ => ⟨(Kd.fresh' (Kd.N_lt (by (with_reducible repeat (first | apply Kd.N_alloc | apply Kd.N_drewN | apply Kd.N_drew)); exact (Kd.N_mono (Kd.N_far (p := ⟨gb797, 0, none⟩) (Kd.N_mono HO789.out (fun k_ hk => (⟨hk, hk.2⟩ : _ ∧ k_ ≠ gb797))) (fun _ hk => hk.2) (.slice Ao27 t793.length co27)) (fun _ h_ => h_.1)))) k_ hk_.2.1), (Kd.fresh' (Kd.R_lt (by (with_reducible repeat (first | apply Kd.R_alloc | apply Kd.R_drewN | apply Kd.R_drew)); exact (Kd.R_mono (Kd.R_far (p := ⟨gb797, 0, none⟩) (Kd.R_types HO792.out BK797.out (by decide)) (fun _ hk => hk.2) (.slice Ao27 t793.length co27)) (fun _ h_ => h_.1)))) k_ hk_.2.1), (Kd.fresh' (Kd.N_lt (by (with_reducible repeat (first | apply Kd.N_alloc | apply Kd.N_drewN | apply Kd.N_drew)); exact (Kd.N_mono (Kd.N_far (p := ⟨gb797, 0, none⟩) (Kd.N_mono HO795.out (fun k_ hk => (⟨hk, hk.2⟩ : _ ∧ k_ ≠ gb797))) (fun _ hk => hk.2) (.slice Ao27 t793.length co27)) (fun _ h_ => h_.1)))) k_ hk_.2.1), (Kd.freshB (g := gb785) (o := .cells #[.slice A0_0 l0_0.length c0_0] 25 (0, 0)) (y21 NB785_797.out BK785.out) k_ hk_.2.1), (Kd.freshB (g := gb797) (o := .cells #[.slice Ao27 t793.length co27] 30 (0, 0)) (by (with_reducible repeat (first | refine blk_drewN ?_ _ | refine blk_drew ?_ | refine blk_alloc ?_ _)); apply blk_put (i := 0); (case h => exact y0 BK797.out); (case e => rfl)) k_ hk_.2.1)⟩)) (below_size (y1 HB.out GE785.out GE797.out))); replace HO789 := Aside0.mk (Kd.N_elder' (by (with_reducible repeat (first | apply Kd.N_alloc | apply Kd.N_drewN | apply Kd.N_drew)); exact (Kd.N_mono (Kd.N_far (p := ⟨gb797, 0, none⟩) (Kd.N_mono HO789.out (fun k_ hk => (⟨hk, hk.2⟩ : _ ∧ k_ ≠ gb797))) (fun _ hk => hk.2) (.slice Ao27 t793.length co27)) (fun _ h_ => h_.1))) (Kd.R_base ho0) hb); replace HO792 := Aside0.mk (Kd.R_below (by (with_reducible repeat (first | apply Kd.R_alloc | apply Kd.R_drewN | apply Kd.R_drew)); exact (Kd.R_mono (Kd.R_far (p := ⟨gb797, 0, none⟩) (Kd.R_types HO792.out BK797.out (by decide)) (fun _ hk => hk.2) (.slice Ao27 t793.length co27)) (fun _ h_ => h_.1))) hb); replace HO795 := Aside0.mk (Kd.N_elder' (by (with_reducible repeat (first | apply Kd.N_alloc | apply Kd.N_drewN | apply Kd.N_drew)); exact (Kd.N_mono (Kd.N_far (p := ⟨gb797, 0, none⟩) (Kd.N_mono HO795.out (fun k_ hk => (⟨hk, hk.2⟩ : _ ∧ k_ ≠ gb797))) (fun _ hk => hk.2) (.slice Ao27 t793.length co27)) (fun _ h_ => h_.1))) (Kd.R_base ho0) hb); replace BK785 := zbf BK785 NB785_797 hb; replace BK797 := Aside0.mk (blk_below (g := gb797) (o := .cells #[.slice Ao27 t793.length co27] 30 (0, 0)) (by (with_reducible repeat (first | refine blk_drewN ?_ _ | refine blk_drew ?_ | refine blk_alloc ?_ _)); apply blk_put (i := 0); (case h => exact y0 BK797.out); (case e => rfl)) hb); replace HB := Aside0.mk (below_step (y1 HB.out GE785.out GE797.out) hb); (try clear hb); (try clear hb2); (try clear hk); (try clear hi); (try clear ho0)) | ((with_reducible refine gate_dst (N := 8) rfl ?_); refine zbx 8 #[.slice none 0 0] 30 ?_; intro gb801 hg w32 hbox hb; replace HO789 := Aside0.mk (Kd.N_below (Kd.N_elderB (y9 HO789.out) gb801 (Nat.le_of_eq hg.symm)) hb); replace HO792 := Aside0.mk (Kd.R_below (y10 HO792.out) hb); replace HO795 := Aside0.mk (Kd.N_below (Kd.N_elderB (y9 HO795.out) gb801 (Nat.le_of_eq hg.symm)) hb); replace HO800 := Aside0.mk (Kd.N_below (Kd.N_elderB (y9 HO800.out) gb801 (Nat.le_of_eq hg.symm)) hb); have BK801 := Aside0.mk hbox; have GW801 := Aside0.mk ((y20 hg HB.out GE785.out GE797.out : w.heap.size ≤ gb801)); have GE801 := Aside0.mk ((y20 hg HB.out GE785.out GE797.out : w.heap.size ≤ gb801)); replace HB := Aside0.mk (below_step (y1 HB.out GE785.out GE797.out) hb); have NB785_801 := zltn hg BK785; have NB801_785 := zgtn hg BK785; replace BK785 := zbb BK785 hb; have NB797_801 := zltn hg BK797; have NB801_797 := zgtn hg BK797; replace BK797 := zbb BK797 hb; clear hb hbox hg; obtain ⟨Ao33, co33, eo33⟩ := Kd.N_slice HO800.out; subst eo33; have hnb34 := NB801_785.out; have hnc34 := NB785_801.out; have hnb35 := NB801_797.out; have hnc35 := NB797_801.out; have hcz36_0 := zh BK801; have hfz36_0 := zfr BK801 0) | ((with_reducible refine gate_callee (f := 37) rfl ?_); refine goesL_ (some 36) rfl rfl Try.func37 (by kernel_rfl) rfl #[.slice A1 l1.length c1] rfl y4 ?_; (with_reducible refine (laws_toIntS.calls k _ _ l1 t802 _ ?side1 ?side2 A14.out).mono ?_); (case side1 => exact y38 HR1.out HB.out GE785.out GE797.out GE801.out); (case side2 => exact HC1.out); rintro e w37 ⟨v803, rfl, ho0, hb⟩; refine ⟨_, rfl, ?_⟩; replace HO789 := Aside0.mk (Kd.N_elder' (by (with_reducible repeat (first | apply Kd.N_alloc | apply Kd.N_drewN | apply Kd.N_drew)); exact (Kd.N_mono (Kd.N_far (p := ⟨gb801, 0, none⟩) (Kd.N_mono HO789.out (fun k_ hk => (⟨hk, hk.2⟩ : _ ∧ k_ ≠ gb801))) (fun _ hk => hk.2) (.slice Ao33 t798.length co33)) (fun _ h_ => h_.1))) (Kd.R_base ho0) hb); replace HO795 := Aside0.mk (Kd.N_elder' (by (with_reducible repeat (first | apply Kd.N_alloc | apply Kd.N_drewN | apply Kd.N_drew)); exact (Kd.N_mono (Kd.N_far (p := ⟨gb801, 0, none⟩) (Kd.N_mono HO795.out (fun k_ hk => (⟨hk, hk.2⟩ : _ ∧ k_ ≠ gb801))) (fun _ hk => hk.2) (.slice Ao33 t798.length co33)) (fun _ h_ => h_.1))) (Kd.R_base ho0) hb); replace HO800 := Aside0.mk (Kd.N_elder' (by (with_reducible repeat (first | apply Kd.N_alloc | apply Kd.N_drewN | apply Kd.N_drew)); exact (Kd.N_mono (Kd.N_far (p := ⟨gb801, 0, none⟩) (Kd.N_mono HO800.out (fun k_ hk => (⟨hk, hk.2⟩ : _ ∧ k_ ≠ gb801))) (fun _ hk => hk.2) (.slice Ao33 t798.length co33)) (fun _ h_ => h_.1))) (Kd.R_base ho0) hb); have HO804 := Aside0.mk (Kd.R_lower (Kd.R_new' ho0 (Kd.R_lt (by (with_reducible repeat (first | apply Kd.R_alloc | apply Kd.R_drewN | apply Kd.R_drew)); exact (Kd.R_mono (Kd.R_far (p := ⟨gb801, 0, none⟩) (Kd.R_types HO792.out BK801.out (by decide)) (fun _ hk => hk.2) (.slice Ao33 t798.length co33)) (fun _ h_ => h_.1))))) (below_size (y7 HB.out GE785.out GE797.out GE801.out))); replace HO792 := Aside0.mk (Kd.R_elder' (by (with_reducible repeat (first | apply Kd.R_alloc | apply Kd.R_drewN | apply Kd.R_drew)); exact (Kd.R_mono (Kd.R_far (p := ⟨gb801, 0, none⟩) (Kd.R_types HO792.out BK801.out (by decide)) (fun _ hk => hk.2) (.slice Ao33 t798.length co33)) (fun _ h_ => h_.1))) (Kd.R_base ho0) hb); replace BK785 := zbf BK785 NB785_801 hb; replace BK797 := zbf BK797 NB797_801 hb; replace BK801 := Aside0.mk (blk_below (g := gb801) (o := .cells #[.slice Ao33 t798.length co33] 30 (0, 0)) (by (with_reducible repeat (first | refine blk_drewN ?_ _ | refine blk_drew ?_ | refine blk_alloc ?_ _)); apply blk_put (i := 0); (case h => exact y0 BK801.out); (case e => rfl)) hb); replace HB := Aside0.mk (below_step (y7 HB.out GE785.out GE797.out GE801.out) hb); (try clear hb); (try clear hb2); (try clear hk); (try clear hi); (try clear ho0); have hcz38_0 := zh BK801; have hfz38_0 := zfr BK801 0; obtain ⟨Ao39, co39, eo39⟩ := Kd.R_slice HO804.out; subst eo39) | ((with_reducible refine gate_callee (f := 21) rfl ?_); refine goesL_ (some 40) rfl rfl Try.func21 (by kernel_rfl) rfl #[.agg #[.slice Ao33 t798.length co33], .slice Ao39 t802.length co39] rfl y4 ?_; (with_reducible refine (impl_TypeAt.calls k (fun k_ => (((some k_ ≠ (.slice Ao23 t787.length co23 : Value).ownBlock ∧ (some k_ ≠ (.slice Ao24 t790.length co24 : Value).ownBlock ∧ (some k_ ≠ (.slice Ao27 t793.length co27 : Value).ownBlock ∧ (k_ ≠ gb785 ∧ k_ ≠ gb797)))) ∧ k_ ≠ gb801) ∧ some k_ ≠ (.slice Ao39 t802.length co39 : Value).ownBlock)) _ _ t798 _ _ t802 t805 t808 _ ?side1 ?side2 ?side3 A15.out).mono ?_); (case side1 => exact Kd.N_V (HO800.out)); (case side2 => exact y30 HO804.out); (case side3 => exact (Kd.R_reads' HO804.out).2.1); rintro e w40 ⟨v806, rfl, ho0, hb⟩; refine ⟨_, rfl, ?_⟩; replace HO800 := Aside0.mk (Kd.N_elder' (y9 HO800.out) (Kd.N_base ho0) hb); have HO807 := Aside0.mk (Kd.N_lower (Kd.N_mono (ok' := fun k_ => some k_ ≠ (.slice Ao23 t787.length co23 : Value).ownBlock ∧ some k_ ≠ (.slice Ao24 t790.length co24 : Value).ownBlock ∧ some k_ ≠ (.slice Ao27 t793.length co27 : Value).ownBlock ∧ some k_ ≠ (.slice Ao39 t802.length co39 : Value).ownBlock ∧ k_ ≠ gb785 ∧ k_ ≠ gb797 ∧ k_ ≠ gb801) ho0 (fun k_ hk_ => ⟨Or.elim hk_ (fun hs_ => hs_.1.1.1) (fun hn_ => (Kd.fresh' (Kd.N_lt (y9 HO789.out)) k_ hn_)), Or.elim hk_ (fun hs_ => hs_.1.1.2.1) (fun hn_ => (Kd.fresh' (Kd.R_lt (y10 HO792.out)) k_ hn_)), Or.elim hk_ (fun hs_ => hs_.1.1.2.2.1) (fun hn_ => (Kd.fresh' (Kd.N_lt (y9 HO795.out)) k_ hn_)), Or.elim hk_ (fun hs_ => hs_.2) (fun hn_ => (Kd.fresh' (Kd.R_lt (y10 HO804.out)) k_ hn_)), Or.elim hk_ (fun hs_ => hs_.1.1.2.2.2.1) (fun hn_ => (Kd.freshB (g := gb785) (o := .cells #[.slice A0_0 l0_0.length c0_0] 25 (0, 0)) (y0 BK785.out) k_ hn_)), Or.elim hk_ (fun hs_ => hs_.1.1.2.2.2.2) (fun hn_ => (Kd.freshB (g := gb797) (o := .cells #[.slice Ao27 t793.length co27] 30 (0, 0)) (y0 BK797.out) k_ hn_)), Or.elim hk_ (fun hs_ => hs_.1.2) (fun hn_ => (Kd.freshB (g := gb801) (o := .cells #[.slice Ao33 t798.length co33] 30 (0, 0)) (y0 BK801.out) k_ hn_))⟩)) (below_size (y7 HB.out GE785.out GE797.out GE801.out))); replace HO789 := Aside0.mk (Kd.N_elder' (y9 HO789.out) (Kd.N_base ho0) hb); replace HO792 := Aside0.mk (Kd.R_below (y10 HO792.out) hb); replace HO795 := Aside0.mk (Kd.N_elder' (y9 HO795.out) (Kd.N_base ho0) hb); replace HO804 := Aside0.mk (Kd.R_below (y10 HO804.out) hb); replace BK785 := zbb BK785 hb; replace BK797 := zbb BK797 hb; replace BK801 := zbb BK801 hb; replace HB := Aside0.mk (below_step (y7 HB.out GE785.out GE797.out GE801.out) hb); (try clear hb); (try clear hb2); (try clear hk); (try clear hi); (try clear ho0)) | ((with_reducible refine gate_dst (N := 10) rfl ?_); refine zbx 10 #[.slice none 0 0] 30 ?_; intro gb809 hg w41 hbox hb; replace HO789 := Aside0.mk (Kd.N_below (Kd.N_elderB (y9 HO789.out) gb809 (Nat.le_of_eq hg.symm)) hb); replace HO792 := Aside0.mk (Kd.R_below (y10 HO792.out) hb); replace HO795 := Aside0.mk (Kd.N_below (Kd.N_elderB (y9 HO795.out) gb809 (Nat.le_of_eq hg.symm)) hb); replace HO800 := Aside0.mk (Kd.N_below (Kd.N_elderB (y9 HO800.out) gb809 (Nat.le_of_eq hg.symm)) hb); replace HO804 := Aside0.mk (Kd.R_below (y10 HO804.out) hb); replace HO807 := Aside0.mk (Kd.N_below (Kd.N_elderB (y9 HO807.out) gb809 (Nat.le_of_eq hg.symm)) hb); have BK809 := Aside0.mk hbox; have GW809 := Aside0.mk ((y29 hg HB.out GE785.out GE797.out GE801.out : w.heap.size ≤ gb809)); have GE809 := Aside0.mk ((y29 hg HB.out GE785.out GE797.out GE801.out : w.heap.size ≤ gb809)); replace HB := Aside0.mk (below_step (y7 HB.out GE785.out GE797.out GE801.out) hb); have NB785_809 := zltn hg BK785; have NB809_785 := zgtn hg BK785; replace BK785 := zbb BK785 hb; have NB797_809 := zltn hg BK797; have NB809_797 := zgtn hg BK797; replace BK797 := zbb BK797 hb; have NB801_809 := zltn hg BK801; have NB809_801 := zgtn hg BK801; replace BK801 := zbb BK801 hb; clear hb hbox hg; obtain ⟨Ao42, co42, eo42⟩ := Kd.N_slice HO807.out; subst eo42; have hnb43 := NB809_785.out; have hnc43 := NB785_809.out; have hnb44 := NB809_797.out; have hnc44 := NB797_809.out; have hnb45 := NB809_801.out; have hnc45 := NB801_809.out; have hcz46_0 := zh BK809; have hfz46_0 := zfr BK809 0))
   (try simp only [Act.put, List.setIfInBounds_toArray, List.set_cons_zero, List.set_cons_succ])
   go_cut [51] (fun v51 wc => ∃ (kq : Nat) (x51_15 : Bool), v51 = .bool x51_15 ∧ Aside0 (laws_FnExactTypeAt.j0 kq l1 t796 t802 t808 x51_15 l0_0 t793 t798 t805 = some r) ∧ Aside0 (kq ≤ k) ∧ Aside0 (Kd.R (Kd.int .i64) 3 wc w.heap.size (fun _ => True) (.slice Ao39 t802.length co39) t802) ∧ Aside0 (Kd.N k30 30 wc w.heap.size (fun k_ => some k_ ≠ ((.slice Ao39 t802.length co39) : Value).ownBlock ∧ some k_ ≠ ((.slice Ao33 t798.length co33) : Value).ownBlock ∧ some k_ ≠ ((.slice Ao42 t805.length co42) : Value).ownBlock ∧ k_ ≠ gb785 ∧ k_ ≠ gb797 ∧ k_ ≠ gb801 ∧ k_ ≠ gb809) (.slice Ao27 t793.length co27) t793) ∧ Aside0 (Kd.N k30 30 wc w.heap.size (fun k_ => some k_ ≠ ((.slice Ao39 t802.length co39) : Value).ownBlock ∧ some k_ ≠ ((.slice Ao27 t793.length co27) : Value).ownBlock ∧ some k_ ≠ ((.slice Ao42 t805.length co42) : Value).ownBlock ∧ k_ ≠ gb785 ∧ k_ ≠ gb797 ∧ k_ ≠ gb801 ∧ k_ ≠ gb809) (.slice Ao33 t798.length co33) t798) ∧ Aside0 (Kd.N k30 30 wc w.heap.size (fun k_ => some k_ ≠ ((.slice Ao39 t802.length co39) : Value).ownBlock ∧ some k_ ≠ ((.slice Ao27 t793.length co27) : Value).ownBlock ∧ k_ ≠ gb785 ∧ k_ ≠ gb797 ∧ k_ ≠ gb801 ∧ k_ ≠ gb809) (.slice Ao42 t805.length co42) t805) ∧ Aside0 (wc.heap[gb785]? = some (.cells #[(.slice A0_0 l0_0.length c0_0)] 25 (0, 0))) ∧ Aside0 (wc.heap[gb797]? = some (.cells #[(.slice Ao27 t793.length co27)] 30 (0, 0))) ∧ Aside0 (wc.heap[gb801]? = some (.cells #[(.slice Ao33 t798.length co33)] 30 (0, 0))) ∧ Aside0 (wc.heap[gb809]? = some (.cells #[(.slice Ao42 t805.length co42)] 30 (0, 0))) ∧ Aside0 (Below w.heap.size w wc))
   case first =>
    have H := HC16.out
    clear HC16
    obtain ⟨t810, A470, H⟩ := ob H
    have A47 := Aside0.mk A470
    clear A470
    by_cases c48 : t810 = true
    ·subst c48
     rw [if_pos rfl] at H
     have H' := Aside0.mk H
     clear H
     have hnb49 := NB809_785.out
     have hnc49 := NB785_809.out
     have hnb50 := NB809_797.out
     have hnc50 := NB797_809.out
     have hnb51 := NB809_801.out
     have hnc51 := NB801_809.out
     have hcz52_0 := zh BK809
     have hfz52_0 := zfr BK809 0
     have hnb53 := NB797_785.out
     have hnc53 := NB785_797.out
     have hnb54 := NB797_801.out
     have hnc54 := NB801_797.out
     have hcz55_0 := zh BK797
     have hfz55_0 := zfr BK797 0
     go_wp2_with (first | ((with_reducible refine gate_callee (f := 19) rfl ?_); refine goesL_ (some 45) rfl rfl Try.func19 (by kernel_rfl) rfl #[.agg #[.slice Ao42 t805.length co42], .agg #[.slice Ao27 t793.length co27]] rfl y4 ?_; (with_reducible refine (laws_eqType.calls k _ _ t805 _ _ t793 true _ ?side1 ?side2 ?side3 ?side4 A47.out).mono ?_); (case side1 => refine (Kd.N_reads' (e := 30) (base := w.heap.size) (ok := fun k_ => ((some k_ ≠ (.slice Ao23 t787.length co23 : Value).ownBlock ∧ (some k_ ≠ (.slice Ao24 t790.length co24 : Value).ownBlock ∧ (some k_ ≠ (.slice Ao27 t793.length co27 : Value).ownBlock ∧ (some k_ ≠ (.slice Ao39 t802.length co39 : Value).ownBlock ∧ (k_ ≠ gb785 ∧ (k_ ≠ gb797 ∧ k_ ≠ gb801)))))) ∧ k_ ≠ gb809)) (n := t805.length) (c := co42) ?_).2.2; exact (by (with_reducible repeat (first | apply Kd.N_alloc | apply Kd.N_drewN | apply Kd.N_drew)); exact (Kd.N_mono (Kd.N_far (p := ⟨gb809, 0, none⟩) (Kd.N_mono HO807.out (fun k_ hk => (⟨hk, hk.2⟩ : _ ∧ k_ ≠ gb809))) (fun _ hk => hk.2) (.slice Ao42 t805.length co42)) (fun _ h_ => h_.1)))); (case side2 => exact (Kd.N_reads' HO807.out).2.1); (case side3 => refine (Kd.N_reads' (e := 30) (base := w.heap.size) (ok := fun k_ => (((((((some k_ ≠ (.slice Ao24 t790.length co24 : Value).ownBlock ∧ k_ ≠ gb785) ∧ k_ ≠ gb797) ∧ some k_ ≠ (.slice Ao33 t798.length co33 : Value).ownBlock) ∧ k_ ≠ gb801) ∧ some k_ ≠ (.slice Ao39 t802.length co39 : Value).ownBlock) ∧ some k_ ≠ (.slice Ao42 t805.length co42 : Value).ownBlock) ∧ k_ ≠ gb809)) (n := t793.length) (c := co27) ?_).2.2; exact (by (with_reducible repeat (first | apply Kd.N_alloc | apply Kd.N_drewN | apply Kd.N_drew)); exact (Kd.N_mono (Kd.N_far (p := ⟨gb809, 0, none⟩) (Kd.N_mono HO795.out (fun k_ hk => (⟨hk, hk.2⟩ : _ ∧ k_ ≠ gb809))) (fun _ hk => hk.2) (.slice Ao42 t805.length co42)) (fun _ h_ => h_.1)))); (case side4 => exact (Kd.N_reads' HO795.out).2.1); rintro e w56 ⟨rfl, hb⟩; refine ⟨_, rfl, ?_⟩; replace HO789 := Aside0.mk (Kd.N_below (by (with_reducible repeat (first | apply Kd.N_alloc | apply Kd.N_drewN | apply Kd.N_drew)); exact (Kd.N_mono (Kd.N_far (p := ⟨gb809, 0, none⟩) (Kd.N_mono HO789.out (fun k_ hk => (⟨hk, hk.2⟩ : _ ∧ k_ ≠ gb809))) (fun _ hk => hk.2) (.slice Ao42 t805.length co42)) (fun _ h_ => h_.1))) hb); replace HO792 := Aside0.mk (Kd.R_below (by (with_reducible repeat (first | apply Kd.R_alloc | apply Kd.R_drewN | apply Kd.R_drew)); exact (Kd.R_mono (Kd.R_far (p := ⟨gb809, 0, none⟩) (Kd.R_types HO792.out BK809.out (by decide)) (fun _ hk => hk.2) (.slice Ao42 t805.length co42)) (fun _ h_ => h_.1))) hb); replace HO795 := Aside0.mk (Kd.N_below (by (with_reducible repeat (first | apply Kd.N_alloc | apply Kd.N_drewN | apply Kd.N_drew)); exact (Kd.N_mono (Kd.N_far (p := ⟨gb809, 0, none⟩) (Kd.N_mono HO795.out (fun k_ hk => (⟨hk, hk.2⟩ : _ ∧ k_ ≠ gb809))) (fun _ hk => hk.2) (.slice Ao42 t805.length co42)) (fun _ h_ => h_.1))) hb); replace HO800 := Aside0.mk (Kd.N_below (by (with_reducible repeat (first | apply Kd.N_alloc | apply Kd.N_drewN | apply Kd.N_drew)); exact (Kd.N_mono (Kd.N_far (p := ⟨gb809, 0, none⟩) (Kd.N_mono HO800.out (fun k_ hk => (⟨hk, hk.2⟩ : _ ∧ k_ ≠ gb809))) (fun _ hk => hk.2) (.slice Ao42 t805.length co42)) (fun _ h_ => h_.1))) hb); replace HO804 := Aside0.mk (Kd.R_below (by (with_reducible repeat (first | apply Kd.R_alloc | apply Kd.R_drewN | apply Kd.R_drew)); exact (Kd.R_mono (Kd.R_far (p := ⟨gb809, 0, none⟩) (Kd.R_types HO804.out BK809.out (by decide)) (fun _ hk => hk.2) (.slice Ao42 t805.length co42)) (fun _ h_ => h_.1))) hb); replace HO807 := Aside0.mk (Kd.N_below (by (with_reducible repeat (first | apply Kd.N_alloc | apply Kd.N_drewN | apply Kd.N_drew)); exact (Kd.N_mono (Kd.N_far (p := ⟨gb809, 0, none⟩) (Kd.N_mono HO807.out (fun k_ hk => (⟨hk, hk.2⟩ : _ ∧ k_ ≠ gb809))) (fun _ hk => hk.2) (.slice Ao42 t805.length co42)) (fun _ h_ => h_.1))) hb); replace BK785 := zbf BK785 NB785_809 hb; replace BK797 := zbf BK797 NB797_809 hb; replace BK801 := zbf BK801 NB801_809 hb; replace BK809 := Aside0.mk (blk_below (g := gb809) (o := .cells #[.slice Ao42 t805.length co42] 30 (0, 0)) (by (with_reducible repeat (first | refine blk_drewN ?_ _ | refine blk_drew ?_ | refine blk_alloc ?_ _)); apply blk_put (i := 0); (case h => exact y0 BK809.out); (case e => rfl)) hb); replace HB := Aside0.mk (below_step (y16 HB.out GE785.out GE797.out GE801.out GE809.out) hb); (try clear hb); (try clear hb2); (try clear hk); (try clear hi)))
     go_meet
     case rel => exact ⟨_, ((t808 != t796)), y26, H', ⟨y43⟩, ⟨(by (with_reducible repeat (first | apply Kd.R_alloc | apply Kd.R_drewN | apply Kd.R_drew)); exact Kd.R_mono HO804.out (fun _ hk => trivial))⟩, ⟨(y65 HO795.out)⟩, ⟨(y62 HO800.out)⟩, ⟨(y68 HO807.out)⟩, ⟨(y0 BK785.out)⟩, ⟨(y0 BK797.out)⟩, ⟨(y0 BK801.out)⟩, ⟨(y0 BK809.out)⟩, ⟨(y16 HB.out GE785.out GE797.out GE801.out GE809.out)⟩⟩
    ·replace c48 := Bool.eq_false_iff.mpr c48
     subst c48
     rw [if_neg (show ¬ (false = true) by decide)] at H
     have H' := Aside0.mk H
     clear H
     have hnb57 := NB809_785.out
     have hnc57 := NB785_809.out
     have hnb58 := NB809_797.out
     have hnc58 := NB797_809.out
     have hnb59 := NB809_801.out
     have hnc59 := NB801_809.out
     have hcz60_0 := zh BK809
     have hfz60_0 := zfr BK809 0
     have hnb61 := NB797_785.out
     have hnc61 := NB785_797.out
     have hnb62 := NB797_801.out
     have hnc62 := NB801_797.out
     have hcz63_0 := zh BK797
     have hfz63_0 := zfr BK797 0
     go_wp2_with (first | ((with_reducible refine gate_callee (f := 19) rfl ?_); refine goesL_ (some 45) rfl rfl Try.func19 (by kernel_rfl) rfl #[.agg #[.slice Ao42 t805.length co42], .agg #[.slice Ao27 t793.length co27]] rfl y4 ?_; (with_reducible refine (laws_eqType.calls k _ _ t805 _ _ t793 false _ ?side1 ?side2 ?side3 ?side4 A47.out).mono ?_); (case side1 => refine (Kd.N_reads' (e := 30) (base := w.heap.size) (ok := fun k_ => ((some k_ ≠ (.slice Ao23 t787.length co23 : Value).ownBlock ∧ (some k_ ≠ (.slice Ao24 t790.length co24 : Value).ownBlock ∧ (some k_ ≠ (.slice Ao27 t793.length co27 : Value).ownBlock ∧ (some k_ ≠ (.slice Ao39 t802.length co39 : Value).ownBlock ∧ (k_ ≠ gb785 ∧ (k_ ≠ gb797 ∧ k_ ≠ gb801)))))) ∧ k_ ≠ gb809)) (n := t805.length) (c := co42) ?_).2.2; exact (by (with_reducible repeat (first | apply Kd.N_alloc | apply Kd.N_drewN | apply Kd.N_drew)); exact (Kd.N_mono (Kd.N_far (p := ⟨gb809, 0, none⟩) (Kd.N_mono HO807.out (fun k_ hk => (⟨hk, hk.2⟩ : _ ∧ k_ ≠ gb809))) (fun _ hk => hk.2) (.slice Ao42 t805.length co42)) (fun _ h_ => h_.1)))); (case side2 => exact (Kd.N_reads' HO807.out).2.1); (case side3 => refine (Kd.N_reads' (e := 30) (base := w.heap.size) (ok := fun k_ => (((((((some k_ ≠ (.slice Ao24 t790.length co24 : Value).ownBlock ∧ k_ ≠ gb785) ∧ k_ ≠ gb797) ∧ some k_ ≠ (.slice Ao33 t798.length co33 : Value).ownBlock) ∧ k_ ≠ gb801) ∧ some k_ ≠ (.slice Ao39 t802.length co39 : Value).ownBlock) ∧ some k_ ≠ (.slice Ao42 t805.length co42 : Value).ownBlock) ∧ k_ ≠ gb809)) (n := t793.length) (c := co27) ?_).2.2; exact (by (with_reducible repeat (first | apply Kd.N_alloc | apply Kd.N_drewN | apply Kd.N_drew)); exact (Kd.N_mono (Kd.N_far (p := ⟨gb809, 0, none⟩) (Kd.N_mono HO795.out (fun k_ hk => (⟨hk, hk.2⟩ : _ ∧ k_ ≠ gb809))) (fun _ hk => hk.2) (.slice Ao42 t805.length co42)) (fun _ h_ => h_.1)))); (case side4 => exact (Kd.N_reads' HO795.out).2.1); rintro e w64 ⟨rfl, hb⟩; refine ⟨_, rfl, ?_⟩; replace HO789 := Aside0.mk (Kd.N_below (by (with_reducible repeat (first | apply Kd.N_alloc | apply Kd.N_drewN | apply Kd.N_drew)); exact (Kd.N_mono (Kd.N_far (p := ⟨gb809, 0, none⟩) (Kd.N_mono HO789.out (fun k_ hk => (⟨hk, hk.2⟩ : _ ∧ k_ ≠ gb809))) (fun _ hk => hk.2) (.slice Ao42 t805.length co42)) (fun _ h_ => h_.1))) hb); replace HO792 := Aside0.mk (Kd.R_below (by (with_reducible repeat (first | apply Kd.R_alloc | apply Kd.R_drewN | apply Kd.R_drew)); exact (Kd.R_mono (Kd.R_far (p := ⟨gb809, 0, none⟩) (Kd.R_types HO792.out BK809.out (by decide)) (fun _ hk => hk.2) (.slice Ao42 t805.length co42)) (fun _ h_ => h_.1))) hb); replace HO795 := Aside0.mk (Kd.N_below (by (with_reducible repeat (first | apply Kd.N_alloc | apply Kd.N_drewN | apply Kd.N_drew)); exact (Kd.N_mono (Kd.N_far (p := ⟨gb809, 0, none⟩) (Kd.N_mono HO795.out (fun k_ hk => (⟨hk, hk.2⟩ : _ ∧ k_ ≠ gb809))) (fun _ hk => hk.2) (.slice Ao42 t805.length co42)) (fun _ h_ => h_.1))) hb); replace HO800 := Aside0.mk (Kd.N_below (by (with_reducible repeat (first | apply Kd.N_alloc | apply Kd.N_drewN | apply Kd.N_drew)); exact (Kd.N_mono (Kd.N_far (p := ⟨gb809, 0, none⟩) (Kd.N_mono HO800.out (fun k_ hk => (⟨hk, hk.2⟩ : _ ∧ k_ ≠ gb809))) (fun _ hk => hk.2) (.slice Ao42 t805.length co42)) (fun _ h_ => h_.1))) hb); replace HO804 := Aside0.mk (Kd.R_below (by (with_reducible repeat (first | apply Kd.R_alloc | apply Kd.R_drewN | apply Kd.R_drew)); exact (Kd.R_mono (Kd.R_far (p := ⟨gb809, 0, none⟩) (Kd.R_types HO804.out BK809.out (by decide)) (fun _ hk => hk.2) (.slice Ao42 t805.length co42)) (fun _ h_ => h_.1))) hb); replace HO807 := Aside0.mk (Kd.N_below (by (with_reducible repeat (first | apply Kd.N_alloc | apply Kd.N_drewN | apply Kd.N_drew)); exact (Kd.N_mono (Kd.N_far (p := ⟨gb809, 0, none⟩) (Kd.N_mono HO807.out (fun k_ hk => (⟨hk, hk.2⟩ : _ ∧ k_ ≠ gb809))) (fun _ hk => hk.2) (.slice Ao42 t805.length co42)) (fun _ h_ => h_.1))) hb); replace BK785 := zbf BK785 NB785_809 hb; replace BK797 := zbf BK797 NB797_809 hb; replace BK801 := zbf BK801 NB801_809 hb; replace BK809 := Aside0.mk (blk_below (g := gb809) (o := .cells #[.slice Ao42 t805.length co42] 30 (0, 0)) (by (with_reducible repeat (first | refine blk_drewN ?_ _ | refine blk_drew ?_ | refine blk_alloc ?_ _)); apply blk_put (i := 0); (case h => exact y0 BK809.out); (case e => rfl)) hb); replace HB := Aside0.mk (below_step (y16 HB.out GE785.out GE797.out GE801.out GE809.out) hb); (try clear hb); (try clear hb2); (try clear hk); (try clear hi)))
     go_meet
     case rel => exact ⟨_, (true), y26, H', ⟨y43⟩, ⟨(by (with_reducible repeat (first | apply Kd.R_alloc | apply Kd.R_drewN | apply Kd.R_drew)); exact Kd.R_mono HO804.out (fun _ hk => trivial))⟩, ⟨(y65 HO795.out)⟩, ⟨(y62 HO800.out)⟩, ⟨(y68 HO807.out)⟩, ⟨(y0 BK785.out)⟩, ⟨(y0 BK797.out)⟩, ⟨(y0 BK801.out)⟩, ⟨(y0 BK809.out)⟩, ⟨(y16 HB.out GE785.out GE797.out GE801.out GE809.out)⟩⟩
   case rest =>
    clear HC16
    try clear c1
    try clear c2
    try clear p2
    try clear c3
    try clear c3b0
    try clear c3b1
    try clear c4
    try clear c5
    try clear c6
    try clear c6b0
    try clear c12
    try clear c15
    try clear c17
    try clear c19
    try clear c21
    try clear c28
    try clear c33
    try clear c34
    try clear c35
    try clear c37
    try clear c43
    try clear c44
    try clear c45
    try clear c48
    try clear c49
    try clear c50
    try clear c51
    try clear c53
    try clear c54
    try clear c57
    try clear c58
    try clear c59
    try clear c61
    try clear c62
    try clear hcz18_0
    try clear hcz20_0
    try clear hcz29_0
    try clear hcz30_0
    try clear hcz36_0
    try clear hcz38_0
    try clear hcz46_0
    try clear hcz52_0
    try clear hcz55_0
    try clear hcz60_0
    try clear hcz63_0
    try clear hcz8_0
    try clear hfz18_0
    try clear hfz20_0
    try clear hfz29_0
    try clear hfz30_0
    try clear hfz36_0
    try clear hfz38_0
    try clear hfz46_0
    try clear hfz52_0
    try clear hfz55_0
    try clear hfz60_0
    try clear hfz63_0
    try clear hfz8_0
    obtain ⟨kq, x51_15, rfl, HA, HJ15, HO_9, HO_798000, HO_802000, HO_810000, BK785, BK797, BK801, BK809, HB⟩ := hcut
    cases kq with
    | zero => exact absurd HA.out (by simp [laws_FnExactTypeAt.j0])
    | succ kj15 =>
     have H := HA.out
     clear HA
     simp only [laws_FnExactTypeAt.j0] at H
     by_cases c65 : x51_15 = true
     ·subst c65
      rw [if_pos rfl] at H
      exact absurd ((Option.some.inj H).trans hr_.out) (by decide)
     ·replace c65 := Bool.eq_false_iff.mpr c65
      subst c65
      rw [if_neg (show ¬ (false = true) by decide)] at H
      obtain ⟨t811, A660, H⟩ := ob H
      have A66 := Aside0.mk A660
      clear A660
      obtain ⟨t814, A670, H⟩ := ob H
      have A67 := Aside0.mk A670
      clear A670
      by_cases c68 : t814 = true
      ·subst c68
       rw [if_pos rfl] at H
       obtain ⟨t815, A690, H⟩ := ob H
       have A69 := Aside0.mk A690
       clear A690
       obtain ⟨t818, A700, H⟩ := ob H
       have A70 := Aside0.mk A700
       clear A700
       by_cases c71 : t818 = true
       ·subst c71
        rw [if_pos rfl] at H
        obtain ⟨t819, A720, H⟩ := ob H
        have A72 := Aside0.mk A720
        clear A720
        obtain ⟨⟨t820, t821⟩, A730, H⟩ := ob H
        have A73 := Aside0.mk A730
        clear A730
        have HC74 := Aside0.mk H
        clear H
        try go_wp2
        replace HO_9 := Aside0.mk (Kd.R_drew HO_9.out)
        replace HO_798000 := Aside0.mk (Kd.N_drew HO_798000.out)
        replace HO_802000 := Aside0.mk (Kd.N_drew HO_802000.out)
        replace HO_810000 := Aside0.mk (Kd.N_drew HO_810000.out)
        replace BK785 := Aside0.mk (blk_drew BK785.out)
        replace BK797 := Aside0.mk (blk_drew BK797.out)
        replace BK801 := Aside0.mk (blk_drew BK801.out)
        replace BK809 := Aside0.mk (blk_drew BK809.out)
        replace HB := Aside0.mk (below_drew1 HB.out)
        refine start_ (n := 5) (S := fun w' => w'.cell? ⟨gb801, 0, none⟩ = some (.slice Ao33 t798.length co33) ∧ w'.cell? ⟨gb785, 0, none⟩ = some (.slice A0_0 l0_0.length c0_0)) (ds := []) #[false, false, false, false, false] (by kernel_rfl) rfl rfl ⟨(blk_cell BK801.out 0).trans rfl, (blk_cell BK785.out 0).trans rfl⟩ (fun hHeld => ?_)
        generalize wc.drew = w75 at HO_9 HO_798000 HO_802000 HO_810000 BK785 BK797 BK801 BK809 HB hHeld ⊢
        refine take_ (i := 0) (N := some 52) (v := ?_) (a' := ?_) #[true, false, false, false, false] rfl rfl (by kernel_rfl) (fun _ _ _ h => h) (Or.inl ⟨(by rfl), ?_⟩) hHeld ?_ ?_
        rotate_left
        ·rintro w' ⟨s0, s1⟩
         go_simp
         with_reducible rfl
        rotate_left
        ·simp only [Act.put, List.setIfInBounds_toArray, List.set_cons_zero, List.set_cons_succ, i64_w, i32_w]
         rfl
        refine take_ (i := 1) (N := some 53) (v := ?_) (a' := ?_) #[true, true, false, false, false] rfl rfl (by kernel_rfl) (fun _ _ _ h => h) (Or.inl ⟨(by rfl), ?_⟩) hHeld ?_ ?_
        rotate_left
        ·rintro w' ⟨s0, s1⟩
         go_simp
         with_reducible rfl
        rotate_left
        ·simp only [Act.put, List.setIfInBounds_toArray, List.set_cons_zero, List.set_cons_succ, i64_w, i32_w]
         rfl
        refine one_ (i := 2) (N := some 54) #[true, true, true, false, false] rfl rfl (by kernel_rfl) (by decide) (fun K hK => ?_)
        refine goes_ Try.func17 (by kernel_rfl) rfl #[.agg #[.slice A0_0 l0_0.length c0_0]] (by rfl) rfl rfl y4 ?_
        with_reducible refine (laws_toType.calls kj15 _ _ l0_0 t811 _ ?side1 ?side2 A66.out).mono ?_
        (case side1 => exact y8 HR0_0.out HB.out)
        (case side2 => exact HC0_0.out)
        rintro e w76 ⟨v812, rfl, ho0, hb⟩
        refine ⟨_, rfl, ?_⟩
        have HO813 := Aside0.mk (Kd.N_lower (Kd.N_mono (ok' := fun k_ => some k_ ≠ (.slice Ao39 t802.length co39 : Value).ownBlock ∧ some k_ ≠ (.slice Ao27 t793.length co27 : Value).ownBlock ∧ some k_ ≠ (.slice Ao33 t798.length co33 : Value).ownBlock ∧ some k_ ≠ (.slice Ao42 t805.length co42 : Value).ownBlock ∧ k_ ≠ gb785 ∧ k_ ≠ gb797 ∧ k_ ≠ gb801 ∧ k_ ≠ gb809) (Kd.R_N (Kd.R_bound ho0)) (fun k_ hk_ => ⟨(Kd.fresh' (Kd.R_lt (y10 HO_9.out)) k_ hk_.2.1), (Kd.fresh' (Kd.N_lt (y9 HO_798000.out)) k_ hk_.2.1), (Kd.fresh' (Kd.N_lt (y9 HO_802000.out)) k_ hk_.2.1), (Kd.fresh' (Kd.N_lt (y9 HO_810000.out)) k_ hk_.2.1), (Kd.freshB (g := gb785) (o := .cells #[.slice A0_0 l0_0.length c0_0] 25 (0, 0)) (y0 BK785.out) k_ hk_.2.1), (Kd.freshB (g := gb797) (o := .cells #[.slice Ao27 t793.length co27] 30 (0, 0)) (y0 BK797.out) k_ hk_.2.1), (Kd.freshB (g := gb801) (o := .cells #[.slice Ao33 t798.length co33] 30 (0, 0)) (y0 BK801.out) k_ hk_.2.1), (Kd.freshB (g := gb809) (o := .cells #[.slice Ao42 t805.length co42] 30 (0, 0)) (y0 BK809.out) k_ hk_.2.1)⟩)) (below_size (y16 HB.out GE785.out GE797.out GE801.out GE809.out)))
        replace HO_9 := Aside0.mk (Kd.R_below (y10 HO_9.out) hb)
        replace HO_798000 := Aside0.mk (Kd.N_elder' (y9 HO_798000.out) (Kd.R_base ho0) hb)
        replace HO_802000 := Aside0.mk (Kd.N_elder' (y9 HO_802000.out) (Kd.R_base ho0) hb)
        replace HO_810000 := Aside0.mk (Kd.N_elder' (y9 HO_810000.out) (Kd.R_base ho0) hb)
        replace BK785 := zbb BK785 hb
        replace BK797 := zbb BK797 hb
        replace BK801 := zbb BK801 hb
        replace BK809 := zbb BK809 hb
        replace HB := Aside0.mk (below_step (y16 HB.out GE785.out GE797.out GE801.out GE809.out) hb)
        (try clear hb)
        (try clear hb2)
        (try clear hk)
        (try clear hi)
        (try clear ho0)
        obtain ⟨Ao77, co77, eo77⟩ := Kd.N_slice HO813.out
        (first | subst eo77 | (injection eo77 with f1_ f2_ f3_; have f4_ := f1_.symm; have f5_ := f3_.symm; clear f1_ f2_ f3_; subst f4_; subst f5_))
        refine hK.out _ _ ⟨(blk_cell BK801.out 0).trans rfl, (blk_cell BK785.out 0).trans rfl⟩ (fun hHeld => ?_)
        clear hK K
        refine norm_ (a' := ?_) ?_ ?_
        rotate_left
        ·show Act.put _ (some 54) _ = _
         simp only [Act.put, List.setIfInBounds_toArray, List.set_cons_zero, List.set_cons_succ, i64_w, i32_w]
         rfl
        refine one_ (i := 3) (N := some 55) #[true, true, true, true, false] rfl rfl (by kernel_rfl) (by decide) (fun K hK => ?_)
        refine goes_ Try.func19 (by kernel_rfl) rfl #[.agg #[.slice Ao33 t798.length co33], .agg #[.slice Ao77 t811.length co77]] (by rfl) rfl rfl y4 ?_
        with_reducible refine (laws_eqType.calls kj15 _ _ t798 _ _ t811 true _ ?side1 ?side2 ?side3 ?side4 A67.out).mono ?_
        (case side1 => exact y27 HO_802000.out)
        (case side2 => exact (Kd.N_reads' HO_802000.out).2.1)
        (case side3 => exact y27 HO813.out)
        (case side4 => exact (Kd.N_reads' HO813.out).2.1)
        rintro e w78 ⟨rfl, hb⟩
        refine ⟨_, rfl, ?_⟩
        replace HO_9 := Aside0.mk (Kd.R_below (y10 HO_9.out) hb)
        replace HO_798000 := Aside0.mk (Kd.N_below (y9 HO_798000.out) hb)
        replace HO_802000 := Aside0.mk (Kd.N_below (y9 HO_802000.out) hb)
        replace HO_810000 := Aside0.mk (Kd.N_below (y9 HO_810000.out) hb)
        replace HO813 := Aside0.mk (Kd.N_below (y9 HO813.out) hb)
        replace BK785 := zbb BK785 hb
        replace BK797 := zbb BK797 hb
        replace BK801 := zbb BK801 hb
        replace BK809 := zbb BK809 hb
        replace HB := Aside0.mk (below_step (y16 HB.out GE785.out GE797.out GE801.out GE809.out) hb)
        (try clear hb)
        (try clear hb2)
        (try clear hk)
        (try clear hi)
        refine hK.out _ _ ⟨(blk_cell BK801.out 0).trans rfl, (blk_cell BK785.out 0).trans rfl⟩ (fun hHeld => ?_)
        clear hK K
        refine norm_ (a' := ?_) ?_ ?_
        rotate_left
        ·show Act.put _ (some 55) _ = _
         simp only [Act.put, List.setIfInBounds_toArray, List.set_cons_zero, List.set_cons_succ, i64_w, i32_w]
         rfl
        refine pure_ (i := 4) (N := some 56) (v := ?_) (a' := ?_) #[true, true, true, true, true] rfl rfl (by kernel_rfl) (fun _ _ _ h => h) (Or.inl ⟨(by rfl), ?_⟩) ?_ ?_
        rotate_left
        ·intro w'
         go_simp
         with_reducible rfl
        rotate_left
        ·simp only [Act.put, List.setIfInBounds_toArray, List.set_cons_zero, List.set_cons_succ, i64_w, i32_w]
         rfl
        refine done_ (by kernel_rfl) ?_
        go_upto_region 20 with (first | ((with_reducible refine gate_callee (f := 37) rfl ?_); refine goesL_ (some 59) rfl rfl Try.func37 (by kernel_rfl) rfl #[.slice A1 l1.length c1] rfl y4 ?_; (with_reducible refine (laws_toIntS.calls kj15 _ _ l1 t815 _ ?side1 ?side2 A69.out).mono ?_); (case side1 => exact y8 HR1.out HB.out); (case side2 => exact HC1.out); rintro e w79 ⟨v816, rfl, ho0, hb⟩; refine ⟨_, rfl, ?_⟩; replace HO_798000 := Aside0.mk (Kd.N_elder' (y9 HO_798000.out) (Kd.R_base ho0) hb); replace HO_802000 := Aside0.mk (Kd.N_elder' (y9 HO_802000.out) (Kd.R_base ho0) hb); replace HO_810000 := Aside0.mk (Kd.N_elder' (y9 HO_810000.out) (Kd.R_base ho0) hb); replace HO813 := Aside0.mk (Kd.N_elder' (y9 HO813.out) (Kd.R_base ho0) hb); have HO817 := Aside0.mk (Kd.R_lower (Kd.R_new' ho0 (Kd.R_lt (y10 HO_9.out))) (below_size (y16 HB.out GE785.out GE797.out GE801.out GE809.out))); replace HO_9 := Aside0.mk (Kd.R_elder' (y10 HO_9.out) (Kd.R_base ho0) hb); replace BK785 := zbb BK785 hb; replace BK797 := zbb BK797 hb; replace BK801 := zbb BK801 hb; replace BK809 := zbb BK809 hb; replace HB := Aside0.mk (below_step (y16 HB.out GE785.out GE797.out GE801.out GE809.out) hb); (try clear hb); (try clear hb2); (try clear hk); (try clear hi); (try clear ho0); obtain ⟨Ao80, co80, eo80⟩ := Kd.R_slice HO817.out; subst eo80) | ((with_reducible refine gate_callee (f := 38) rfl ?_); refine goesL_ (some 60) rfl rfl Try.func38 (by kernel_rfl) rfl #[.slice Ao39 t802.length co39, .slice Ao80 t815.length co80] rfl y4 ?_; (with_reducible refine (laws_eqIntS.calls kj15 _ _ t802 _ _ t815 true _ ?side1 ?side2 ?side3 ?side4 A70.out).mono ?_); (case side1 => exact y30 HO_9.out); (case side2 => exact (Kd.R_reads' HO_9.out).2.1); (case side3 => exact y30 HO817.out); (case side4 => exact (Kd.R_reads' HO817.out).2.1); rintro e w' ⟨rfl, ⟨nd, rfl⟩⟩; refine ⟨_, rfl, ?_⟩; have hnb81 := NB801_785.out; have hnc81 := NB785_801.out; have hnb82 := NB801_797.out; have hnc82 := NB797_801.out; have hnb83 := NB801_809.out; have hnc83 := NB809_801.out; have hcz84_0 := zh BK801; have hfz84_0 := zfr BK801 0) | ((with_reducible refine gate_callee (f := 39) rfl ?_); refine goesL_ (some 64) rfl rfl Try.func39 (by kernel_rfl) rfl #[.agg #[.slice Ao33 t798.length co33], .int .i64 1] rfl y4 ?_; (with_reducible refine (laws_markType.calls kj15 _ _ t798 1 t819 _ ?side1 ?side2 A72.out).mono ?_); (case side1 => exact y27 HO_802000.out); (case side2 => exact (Kd.N_reads' HO_802000.out).2.1); rintro e w85 ⟨rfl, hb⟩; refine ⟨_, rfl, ?_⟩; replace HO_9 := Aside0.mk (Kd.R_below (y10 HO_9.out) hb); replace HO_798000 := Aside0.mk (Kd.N_below (y9 HO_798000.out) hb); replace HO_802000 := Aside0.mk (Kd.N_below (y9 HO_802000.out) hb); replace HO_810000 := Aside0.mk (Kd.N_below (y9 HO_810000.out) hb); replace HO813 := Aside0.mk (Kd.N_below (y9 HO813.out) hb); replace HO817 := Aside0.mk (Kd.R_below (y10 HO817.out) hb); replace BK785 := zbb BK785 hb; replace BK797 := zbb BK797 hb; replace BK801 := zbb BK801 hb; replace BK809 := zbb BK809 hb; replace HB := Aside0.mk (below_step (y16 HB.out GE785.out GE797.out GE801.out GE809.out) hb); (try clear hb); (try clear hb2); (try clear hk); (try clear hi)) | ((with_reducible refine gate_callee (f := 40) rfl ?_); refine goesL_ (some 67) rfl rfl Try.func40 (by kernel_rfl) rfl #[.slice Ao39 t802.length co39, .int .i64 t819] rfl y4 ?_; (with_reducible refine (laws_markIntS.calls kj15 (fun k_ => some k_ = (.slice Ao39 t802.length co39 : Value).ownBlock) (.slice Ao39 t802.length co39) t802 t819 t820 t821 w _ ?side1 ?side2 A73.out).mono ?_); (case side1 => exact y16 HB.out GE785.out GE797.out GE801.out GE809.out); (case side2 => exact Kd.R_tight rfl HO_9.out); rintro e w86 ⟨rfl, hy0, hb, hkp⟩; refine ⟨_, rfl, ?_⟩; replace HO_798000 := Aside0.mk (Kd.N_mono (ok' := fun k_ => some k_ ≠ (.slice Ao39 t802.length co39 : Value).ownBlock ∧ some k_ ≠ (.slice Ao33 t798.length co33 : Value).ownBlock ∧ some k_ ≠ (.slice Ao42 t805.length co42 : Value).ownBlock ∧ some k_ ≠ (.slice Ao77 t811.length co77 : Value).ownBlock ∧ some k_ ≠ (.slice Ao80 t815.length co80 : Value).ownBlock ∧ k_ ≠ gb785 ∧ k_ ≠ gb797 ∧ k_ ≠ gb801 ∧ k_ ≠ gb809) (Kd.N_keptB (HO_798000.out) hkp (fun k_ hk_ hs_ => (hk_.1.1.1) hs_)) (fun k_ hk_ => ⟨hk_.1.1.1.1, hk_.1.1.1.2.1, hk_.1.1.1.2.2.1, hk_.1.1.2, hk_.1.2, hk_.1.1.1.2.2.2.1, hk_.1.1.1.2.2.2.2.1, hk_.1.1.1.2.2.2.2.2.1, hk_.1.1.1.2.2.2.2.2.2⟩)); replace HO_802000 := Aside0.mk (Kd.N_mono (ok' := fun k_ => some k_ ≠ (.slice Ao39 t802.length co39 : Value).ownBlock ∧ some k_ ≠ (.slice Ao27 t793.length co27 : Value).ownBlock ∧ some k_ ≠ (.slice Ao42 t805.length co42 : Value).ownBlock ∧ some k_ ≠ (.slice Ao77 t811.length co77 : Value).ownBlock ∧ some k_ ≠ (.slice Ao80 t815.length co80 : Value).ownBlock ∧ k_ ≠ gb785 ∧ k_ ≠ gb797 ∧ k_ ≠ gb801 ∧ k_ ≠ gb809) (Kd.N_keptB (HO_802000.out) hkp (fun k_ hk_ hs_ => (hk_.1.1.1) hs_)) (fun k_ hk_ => ⟨hk_.1.1.1.1, hk_.1.1.1.2.1, hk_.1.1.1.2.2.1, hk_.1.1.2, hk_.1.2, hk_.1.1.1.2.2.2.1, hk_.1.1.1.2.2.2.2.1, hk_.1.1.1.2.2.2.2.2.1, hk_.1.1.1.2.2.2.2.2.2⟩)); replace HO_810000 := Aside0.mk (Kd.N_mono (ok' := fun k_ => some k_ ≠ (.slice Ao39 t802.length co39 : Value).ownBlock ∧ some k_ ≠ (.slice Ao27 t793.length co27 : Value).ownBlock ∧ some k_ ≠ (.slice Ao77 t811.length co77 : Value).ownBlock ∧ some k_ ≠ (.slice Ao80 t815.length co80 : Value).ownBlock ∧ k_ ≠ gb785 ∧ k_ ≠ gb797 ∧ k_ ≠ gb801 ∧ k_ ≠ gb809) (Kd.N_keptB (HO_810000.out) hkp (fun k_ hk_ hs_ => (hk_.1.1.1) hs_)) (fun k_ hk_ => ⟨hk_.1.1.1.1, hk_.1.1.1.2.1, hk_.1.1.2, hk_.1.2, hk_.1.1.1.2.2.1, hk_.1.1.1.2.2.2.1, hk_.1.1.1.2.2.2.2.1, hk_.1.1.1.2.2.2.2.2⟩)); replace BK785 := Aside0.mk (blk_kept (y0 BK785.out) hkp (fun hs_ => (fun e_ => (Kd.R_ne HO_9.out BK785.out (by decide)) e_) hs_)); replace BK797 := Aside0.mk (blk_kept (y0 BK797.out) hkp (fun hs_ => (fun e_ => (Kd.R_ne HO_9.out BK797.out (by decide)) e_) hs_)); replace BK801 := Aside0.mk (blk_kept (y0 BK801.out) hkp (fun hs_ => (fun e_ => (Kd.R_ne HO_9.out BK801.out (by decide)) e_) hs_)); replace BK809 := Aside0.mk (blk_kept (y0 BK809.out) hkp (fun hs_ => (fun e_ => (Kd.R_ne HO_9.out BK809.out (by decide)) e_) hs_)); replace HO_9 := Aside0.mk (Kd.R_reok rfl hy0 (fun k_ e_ => HO_9.out.1 k_ e_)); replace HO813 := Aside0.mk (Kd.N_mono (ok' := fun k_ => some k_ ≠ (.slice Ao39 t802.length co39 : Value).ownBlock ∧ some k_ ≠ (.slice Ao27 t793.length co27 : Value).ownBlock ∧ some k_ ≠ (.slice Ao33 t798.length co33 : Value).ownBlock ∧ some k_ ≠ (.slice Ao42 t805.length co42 : Value).ownBlock ∧ some k_ ≠ (.slice Ao80 t815.length co80 : Value).ownBlock ∧ k_ ≠ gb785 ∧ k_ ≠ gb797 ∧ k_ ≠ gb801 ∧ k_ ≠ gb809) (Kd.N_keptB (HO813.out) hkp (fun k_ hk_ hs_ => (hk_.1.1) hs_)) (fun k_ hk_ => ⟨hk_.1.1.1, hk_.1.1.2.1, hk_.1.1.2.2.1, hk_.1.1.2.2.2.1, hk_.1.2, hk_.1.1.2.2.2.2.1, hk_.1.1.2.2.2.2.2.1, hk_.1.1.2.2.2.2.2.2.1, hk_.1.1.2.2.2.2.2.2.2⟩)); replace HO817 := Aside0.mk (Kd.R_mono (ok' := fun k_ => some k_ ≠ (.slice Ao39 t802.length co39 : Value).ownBlock) (Kd.R_keptB (HO817.out) hkp (fun k_ hk_ hs_ => (hk_.2) hs_)) (fun k_ hk_ => hk_.1.2)); replace HB := Aside0.mk (hb); (try clear hb); (try clear hkp); (try clear hy0)))
        (try simp only [Act.put, List.setIfInBounds_toArray, List.set_cons_zero, List.set_cons_succ])
        go_cut [80] (fun v80 wc => ∃ (kq : Nat) (x80_73 : Bool), v80 = .bool x80_73 ∧ Aside0 (laws_FnExactTypeAt.j1 kq l1 t796 x80_73 l0_0 t793 t805 = some r) ∧ Aside0 (kq ≤ kj15) ∧ Aside0 (Kd.N k30 30 wc w.heap.size (fun k_ => some k_ ≠ ((.slice Ao33 t798.length co33) : Value).ownBlock ∧ some k_ ≠ ((.slice Ao42 t805.length co42) : Value).ownBlock ∧ k_ ≠ gb785 ∧ k_ ≠ gb797 ∧ k_ ≠ gb801 ∧ k_ ≠ gb809) (.slice Ao27 t793.length co27) t793) ∧ Aside0 (Kd.N k30 30 wc w.heap.size (fun k_ => some k_ ≠ ((.slice Ao27 t793.length co27) : Value).ownBlock ∧ some k_ ≠ ((.slice Ao42 t805.length co42) : Value).ownBlock ∧ k_ ≠ gb785 ∧ k_ ≠ gb797 ∧ k_ ≠ gb801 ∧ k_ ≠ gb809) (.slice Ao33 t798.length co33) t798) ∧ Aside0 (Kd.N k30 30 wc w.heap.size (fun k_ => some k_ ≠ ((.slice Ao27 t793.length co27) : Value).ownBlock ∧ k_ ≠ gb785 ∧ k_ ≠ gb797 ∧ k_ ≠ gb801 ∧ k_ ≠ gb809) (.slice Ao42 t805.length co42) t805) ∧ Aside0 (wc.heap[gb785]? = some (.cells #[(.slice A0_0 l0_0.length c0_0)] 25 (0, 0))) ∧ Aside0 (wc.heap[gb797]? = some (.cells #[(.slice Ao27 t793.length co27)] 30 (0, 0))) ∧ Aside0 (wc.heap[gb801]? = some (.cells #[(.slice Ao33 t798.length co33)] 30 (0, 0))) ∧ Aside0 (wc.heap[gb809]? = some (.cells #[(.slice Ao42 t805.length co42)] 30 (0, 0))) ∧ Aside0 (Below w.heap.size w wc))
        case first =>
         have H := HC74.out
         clear HC74
         by_cases c87 : t820 < 0
         ·rw [if_pos c87] at H
          have c87b0 : decide (t820 < 0) = true := decide_eq_true c87
          clear c87
          (first | rw [c87b0] | (simp only [i64_w, i32_w]; rw [c87b0]) | skip)
          have H' := Aside0.mk H
          clear H
          go_wp2
          go_meet
          case rel => exact ⟨_, (true), y26, H', ⟨(y49 HJ15.out)⟩, ⟨(y41 HO_798000.out)⟩, ⟨(y41 HO_802000.out)⟩, ⟨(y52 HO_810000.out)⟩, ⟨(y0 BK785.out)⟩, ⟨(y0 BK797.out)⟩, ⟨(y0 BK801.out)⟩, ⟨(y0 BK809.out)⟩, ⟨(y16 HB.out GE785.out GE797.out GE801.out GE809.out)⟩⟩
         ·rw [if_neg c87] at H
          have c87b0 : decide (t820 < 0) = false := decide_eq_false c87
          clear c87
          (first | rw [c87b0] | (simp only [i64_w, i32_w]; rw [c87b0]) | skip)
          obtain ⟨t822, A880, H⟩ := ob H
          have A88 := Aside0.mk A880
          clear A880
          by_cases c89 : t822 = true
          ·subst c89
           rw [if_pos rfl] at H
           have H' := Aside0.mk H
           clear H
           have hnb90 := NB809_785.out
           have hnc90 := NB785_809.out
           have hnb91 := NB809_797.out
           have hnc91 := NB797_809.out
           have hnb92 := NB809_801.out
           have hnc92 := NB801_809.out
           have hcz93_0 := zh BK809
           have hfz93_0 := zfr BK809 0
           have hnb94 := NB797_785.out
           have hnc94 := NB785_797.out
           have hnb95 := NB797_801.out
           have hnc95 := NB801_797.out
           have hcz96_0 := zh BK797
           have hfz96_0 := zfr BK797 0
           go_wp2_with (first | (go_at_call 19; (with_reducible refine (laws_eqType.calls kj15 _ _ t805 _ _ t793 true _ ?side1 ?side2 ?side3 ?side4 A88.out).mono ?_); (case side1 => exact y27 HO_810000.out); (case side2 => exact (Kd.N_reads' HO_810000.out).2.1); (case side3 => exact y27 HO_798000.out); (case side4 => exact (Kd.N_reads' HO_798000.out).2.1); rintro e w97 ⟨rfl, hb⟩; replace HO_9 := Aside0.mk (Kd.R_below (y10 HO_9.out) hb); replace HO_798000 := Aside0.mk (Kd.N_below (y9 HO_798000.out) hb); replace HO_802000 := Aside0.mk (Kd.N_below (y9 HO_802000.out) hb); replace HO_810000 := Aside0.mk (Kd.N_below (y9 HO_810000.out) hb); replace HO813 := Aside0.mk (Kd.N_below (y9 HO813.out) hb); replace HO817 := Aside0.mk (Kd.R_below (y10 HO817.out) hb); replace BK785 := zbb BK785 hb; replace BK797 := zbb BK797 hb; replace BK801 := zbb BK801 hb; replace BK809 := zbb BK809 hb; replace HB := Aside0.mk (below_step (y16 HB.out GE785.out GE797.out GE801.out GE809.out) hb); (try clear hb); (try clear hb2); (try clear hk); (try clear hi)))
           go_meet
           case rel => exact ⟨_, ((t808 != t796)), y26, H', ⟨(y49 HJ15.out)⟩, ⟨(y41 HO_798000.out)⟩, ⟨(y41 HO_802000.out)⟩, ⟨(y52 HO_810000.out)⟩, ⟨(y0 BK785.out)⟩, ⟨(y0 BK797.out)⟩, ⟨(y0 BK801.out)⟩, ⟨(y0 BK809.out)⟩, ⟨(y16 HB.out GE785.out GE797.out GE801.out GE809.out)⟩⟩
          ·replace c89 := Bool.eq_false_iff.mpr c89
           subst c89
           rw [if_neg (show ¬ (false = true) by decide)] at H
           have H' := Aside0.mk H
           clear H
           have hnb98 := NB809_785.out
           have hnc98 := NB785_809.out
           have hnb99 := NB809_797.out
           have hnc99 := NB797_809.out
           have hnb100 := NB809_801.out
           have hnc100 := NB801_809.out
           have hcz101_0 := zh BK809
           have hfz101_0 := zfr BK809 0
           have hnb102 := NB797_785.out
           have hnc102 := NB785_797.out
           have hnb103 := NB797_801.out
           have hnc103 := NB801_797.out
           have hcz104_0 := zh BK797
           have hfz104_0 := zfr BK797 0
           go_wp2_with (first | (go_at_call 19; (with_reducible refine (laws_eqType.calls kj15 _ _ t805 _ _ t793 false _ ?side1 ?side2 ?side3 ?side4 A88.out).mono ?_); (case side1 => exact y27 HO_810000.out); (case side2 => exact (Kd.N_reads' HO_810000.out).2.1); (case side3 => exact y27 HO_798000.out); (case side4 => exact (Kd.N_reads' HO_798000.out).2.1); rintro e w105 ⟨rfl, hb⟩; replace HO_9 := Aside0.mk (Kd.R_below (y10 HO_9.out) hb); replace HO_798000 := Aside0.mk (Kd.N_below (y9 HO_798000.out) hb); replace HO_802000 := Aside0.mk (Kd.N_below (y9 HO_802000.out) hb); replace HO_810000 := Aside0.mk (Kd.N_below (y9 HO_810000.out) hb); replace HO813 := Aside0.mk (Kd.N_below (y9 HO813.out) hb); replace HO817 := Aside0.mk (Kd.R_below (y10 HO817.out) hb); replace BK785 := zbb BK785 hb; replace BK797 := zbb BK797 hb; replace BK801 := zbb BK801 hb; replace BK809 := zbb BK809 hb; replace HB := Aside0.mk (below_step (y16 HB.out GE785.out GE797.out GE801.out GE809.out) hb); (try clear hb); (try clear hb2); (try clear hk); (try clear hi)))
           go_meet
           case rel => exact ⟨_, (true), y26, H', ⟨(y49 HJ15.out)⟩, ⟨(y41 HO_798000.out)⟩, ⟨(y41 HO_802000.out)⟩, ⟨(y52 HO_810000.out)⟩, ⟨(y0 BK785.out)⟩, ⟨(y0 BK797.out)⟩, ⟨(y0 BK801.out)⟩, ⟨(y0 BK809.out)⟩, ⟨(y16 HB.out GE785.out GE797.out GE801.out GE809.out)⟩⟩
        case rest =>
         clear HC74
         try clear c1
         try clear c2
         try clear p2
         try clear c3
         try clear c3b0
         try clear c3b1
         try clear c4
         try clear c5
         try clear c6
         try clear c6b0
         try clear c7
         try clear c8
         try clear c9
         try clear c10
         try clear c12
         try clear c15
         try clear c17
         try clear c19
         try clear c21
         try clear c28
         try clear c33
         try clear c34
         try clear c35
         try clear c37
         try clear c38
         try clear c39
         try clear c40
         try clear c43
         try clear c44
         try clear c45
         try clear c48
         try clear c49
         try clear c50
         try clear c51
         try clear c53
         try clear c54
         try clear c57
         try clear c58
         try clear c59
         try clear c61
         try clear c62
         try clear c65
         try clear c68
         try clear c71
         try clear c81
         try clear c82
         try clear c83
         try clear c87
         try clear c87b0
         try clear c89
         try clear c90
         try clear c91
         try clear c92
         try clear c94
         try clear c95
         try clear c98
         try clear c99
         try clear c100
         try clear c102
         try clear c103
         try clear hcz101_0
         try clear hcz104_0
         try clear hcz18_0
         try clear hcz20_0
         try clear hcz29_0
         try clear hcz30_0
         try clear hcz36_0
         try clear hcz38_0
         try clear hcz46_0
         try clear hcz52_0
         try clear hcz55_0
         try clear hcz60_0
         try clear hcz63_0
         try clear hcz84_0
         try clear hcz8_0
         try clear hcz93_0
         try clear hcz96_0
         try clear hfz101_0
         try clear hfz104_0
         try clear hfz18_0
         try clear hfz20_0
         try clear hfz29_0
         try clear hfz30_0
         try clear hfz36_0
         try clear hfz38_0
         try clear hfz46_0
         try clear hfz52_0
         try clear hfz55_0
         try clear hfz60_0
         try clear hfz63_0
         try clear hfz84_0
         try clear hfz8_0
         try clear hfz93_0
         try clear hfz96_0
         try clear p2
         obtain ⟨kq, x80_73, rfl, HA, HJ73, HO_798000, HO_802000, HO_810000, BK785, BK797, BK801, BK809, HB⟩ := hcut
         cases kq with
         | zero => exact absurd HA.out (by simp [laws_FnExactTypeAt.j1])
         | succ kj73 =>
          have H := HA.out
          clear HA
          simp only [laws_FnExactTypeAt.j1] at H
          by_cases c106 : x80_73 = true
          ·subst c106
           rw [if_pos rfl] at H
           exact absurd ((Option.some.inj H).trans hr_.out) (by decide)
          ·replace c106 := Bool.eq_false_iff.mpr c106
           subst c106
           rw [if_neg (show ¬ (false = true) by decide)] at H
           obtain ⟨t823, A1070, H⟩ := ob H
           have A107 := Aside0.mk A1070
           clear A1070
           obtain ⟨t824, A1080, H⟩ := ob H
           have A108 := Aside0.mk A1080
           clear A1080
           by_cases c109 : t824 < 0
           ·rw [if_pos c109] at H
            have c109b0 : decide (t824 < 0) = true := decide_eq_true c109
            clear c109
            exact absurd ((Option.some.inj H).trans hr_.out) (by decide)
           ·rw [if_neg c109] at H
            have c109b0 : decide (t824 < 0) = false := decide_eq_false c109
            clear c109
            by_cases c110 : t824 = t823
            ·rw [if_pos c110] at H
             have c110b0 : (t824 == t823) = true := beq_iff_eq.mpr c110
             have c110b1 : (t824 != t823) = false := bne_eq_false_iff_eq.mpr c110
             clear c110
             obtain ⟨t825, A1110, H⟩ := ob H
             have A111 := Aside0.mk A1110
             clear A1110
             obtain ⟨t828, A1120, H⟩ := ob H
             have A112 := Aside0.mk A1120
             clear A1120
             obtain ⟨⟨t831, t834⟩, A1130, H⟩ := ob H
             have A113 := Aside0.mk A1130
             clear A1130
             have HC114 := Aside0.mk H
             clear H
             have hnb115 := NB809_785.out
             have hnc115 := NB785_809.out
             have hnb116 := NB809_797.out
             have hnc116 := NB797_809.out
             have hnb117 := NB809_801.out
             have hnc117 := NB801_809.out
             have hcz118_0 := zh BK809
             have hfz118_0 := zfr BK809 0
             go_upto_region 31 with (first | ((with_reducible refine gate_callee (f := 39) rfl ?_); refine goesL_ (some 83) rfl rfl Try.func39 (by kernel_rfl) rfl #[.agg #[.slice Ao42 t805.length co42], .int .i64 1] rfl y4 ?_; (with_reducible refine (laws_markType.calls kj73 _ _ t805 1 t823 _ ?side1 ?side2 A107.out).mono ?_); (case side1 => exact y27 HO_810000.out); (case side2 => exact (Kd.N_reads' HO_810000.out).2.1); rintro e w119 ⟨rfl, hb⟩; refine ⟨_, rfl, ?_⟩; replace HO_798000 := Aside0.mk (Kd.N_below (y9 HO_798000.out) hb); replace HO_802000 := Aside0.mk (Kd.N_below (y9 HO_802000.out) hb); replace HO_810000 := Aside0.mk (Kd.N_below (y9 HO_810000.out) hb); replace BK785 := zbb BK785 hb; replace BK797 := zbb BK797 hb; replace BK801 := zbb BK801 hb; replace BK809 := zbb BK809 hb; replace HB := Aside0.mk (below_step (y16 HB.out GE785.out GE797.out GE801.out GE809.out) hb); (try clear hb); (try clear hb2); (try clear hk); (try clear hi); have hcz120_0 := zh BK809; have hfz120_0 := zfr BK809 0) | ((with_reducible refine gate_callee (f := 41) rfl ?_); refine goesL_ (some 86) rfl rfl Try.func41 (by kernel_rfl) rfl #[.agg #[.slice Ao42 t805.length co42], .int .i64 1] rfl y4 ?_; (with_reducible refine (laws_heldType.calls kj73 _ _ t805 1 t824 _ ?side1 ?side2 A108.out).mono ?_); (case side1 => exact y27 HO_810000.out); (case side2 => exact (Kd.N_reads' HO_810000.out).2.1); rintro e w121 ⟨rfl, hb⟩; refine ⟨_, rfl, ?_⟩; replace HO_798000 := Aside0.mk (Kd.N_below (y9 HO_798000.out) hb); replace HO_802000 := Aside0.mk (Kd.N_below (y9 HO_802000.out) hb); replace HO_810000 := Aside0.mk (Kd.N_below (y9 HO_810000.out) hb); replace BK785 := zbb BK785 hb; replace BK797 := zbb BK797 hb; replace BK801 := zbb BK801 hb; replace BK809 := zbb BK809 hb; replace HB := Aside0.mk (below_step (y16 HB.out GE785.out GE797.out GE801.out GE809.out) hb); (try clear hb); (try clear hb2); (try clear hk); (try clear hi); have hnb122 := NB785_797.out; have hnc122 := NB797_785.out; have hnb123 := NB785_801.out; have hnc123 := NB801_785.out; have hcz124_0 := zh BK785; have hfz124_0 := zfr BK785 0) | ((with_reducible refine gate_callee (f := 17) rfl ?_); refine goesL_ (some 94) rfl rfl Try.func17 (by kernel_rfl) rfl #[.agg #[.slice A0_0 l0_0.length c0_0]] rfl y4 ?_; (with_reducible refine (laws_toType.calls kj73 _ _ l0_0 t825 _ ?side1 ?side2 A111.out).mono ?_); (case side1 => exact y8 HR0_0.out HB.out); (case side2 => exact HC0_0.out); rintro e w125 ⟨v826, rfl, ho0, hb⟩; refine ⟨_, rfl, ?_⟩; have HO827 := Aside0.mk (Kd.N_lower (Kd.N_mono (ok' := fun k_ => some k_ ≠ (.slice Ao27 t793.length co27 : Value).ownBlock ∧ some k_ ≠ (.slice Ao33 t798.length co33 : Value).ownBlock ∧ some k_ ≠ (.slice Ao42 t805.length co42 : Value).ownBlock ∧ k_ ≠ gb785 ∧ k_ ≠ gb797 ∧ k_ ≠ gb801 ∧ k_ ≠ gb809) (Kd.R_N (Kd.R_bound ho0)) (fun k_ hk_ => ⟨(Kd.fresh' (Kd.N_lt (y9 HO_798000.out)) k_ hk_.2.1), (Kd.fresh' (Kd.N_lt (y9 HO_802000.out)) k_ hk_.2.1), (Kd.fresh' (Kd.N_lt (y9 HO_810000.out)) k_ hk_.2.1), (Kd.freshB (g := gb785) (o := .cells #[.slice A0_0 l0_0.length c0_0] 25 (0, 0)) (y0 BK785.out) k_ hk_.2.1), (Kd.freshB (g := gb797) (o := .cells #[.slice Ao27 t793.length co27] 30 (0, 0)) (y0 BK797.out) k_ hk_.2.1), (Kd.freshB (g := gb801) (o := .cells #[.slice Ao33 t798.length co33] 30 (0, 0)) (y0 BK801.out) k_ hk_.2.1), (Kd.freshB (g := gb809) (o := .cells #[.slice Ao42 t805.length co42] 30 (0, 0)) (y0 BK809.out) k_ hk_.2.1)⟩)) (below_size (y16 HB.out GE785.out GE797.out GE801.out GE809.out))); replace HO_798000 := Aside0.mk (Kd.N_elder' (y9 HO_798000.out) (Kd.R_base ho0) hb); replace HO_802000 := Aside0.mk (Kd.N_elder' (y9 HO_802000.out) (Kd.R_base ho0) hb); replace HO_810000 := Aside0.mk (Kd.N_elder' (y9 HO_810000.out) (Kd.R_base ho0) hb); replace BK785 := zbb BK785 hb; replace BK797 := zbb BK797 hb; replace BK801 := zbb BK801 hb; replace BK809 := zbb BK809 hb; replace HB := Aside0.mk (below_step (y16 HB.out GE785.out GE797.out GE801.out GE809.out) hb); (try clear hb); (try clear hb2); (try clear hk); (try clear hi); (try clear ho0)) | ((with_reducible refine gate_callee (f := 37) rfl ?_); refine goesL_ (some 96) rfl rfl Try.func37 (by kernel_rfl) rfl #[.slice A1 l1.length c1] rfl y4 ?_; (with_reducible refine (laws_toIntS.calls kj73 _ _ l1 t828 _ ?side1 ?side2 A112.out).mono ?_); (case side1 => exact y8 HR1.out HB.out); (case side2 => exact HC1.out); rintro e w126 ⟨v829, rfl, ho0, hb⟩; refine ⟨_, rfl, ?_⟩; replace HO_798000 := Aside0.mk (Kd.N_elder' (y9 HO_798000.out) (Kd.R_base ho0) hb); replace HO_802000 := Aside0.mk (Kd.N_elder' (y9 HO_802000.out) (Kd.R_base ho0) hb); replace HO_810000 := Aside0.mk (Kd.N_elder' (y9 HO_810000.out) (Kd.R_base ho0) hb); replace HO827 := Aside0.mk (Kd.N_elder' (y9 HO827.out) (Kd.R_base ho0) hb); have HO830 := Aside0.mk (Kd.R_lower ho0 (below_size (y16 HB.out GE785.out GE797.out GE801.out GE809.out))); replace BK785 := zbb BK785 hb; replace BK797 := zbb BK797 hb; replace BK801 := zbb BK801 hb; replace BK809 := zbb BK809 hb; replace HB := Aside0.mk (below_step (y16 HB.out GE785.out GE797.out GE801.out GE809.out) hb); (try clear hb); (try clear hb2); (try clear hk); (try clear hi); (try clear ho0); obtain ⟨Ao127, co127, eo127⟩ := Kd.N_slice HO827.out; subst eo127; obtain ⟨Ao128, co128, eo128⟩ := Kd.R_slice HO830.out; subst eo128) | ((with_reducible refine gate_callee (f := 21) rfl ?_); refine goesL_ (some 97) rfl rfl Try.func21 (by kernel_rfl) rfl #[.agg #[.slice Ao127 t825.length co127], .slice Ao128 t828.length co128] rfl y4 ?_; (with_reducible refine (impl_TypeAt.calls kj73 (fun k_ => ((some k_ ≠ (.slice Ao27 t793.length co27 : Value).ownBlock ∧ (some k_ ≠ (.slice Ao33 t798.length co33 : Value).ownBlock ∧ (some k_ ≠ (.slice Ao42 t805.length co42 : Value).ownBlock ∧ (k_ ≠ gb785 ∧ (k_ ≠ gb797 ∧ (k_ ≠ gb801 ∧ k_ ≠ gb809)))))) ∧ some k_ ≠ (.slice Ao128 t828.length co128 : Value).ownBlock)) _ _ t825 _ _ t828 t831 t834 _ ?side1 ?side2 ?side3 A113.out).mono ?_); (case side1 => exact Kd.N_V (HO827.out)); (case side2 => exact y30 HO830.out); (case side3 => exact (Kd.R_reads' HO830.out).2.1); rintro e w129 ⟨v832, rfl, ho0, hb⟩; refine ⟨_, rfl, ?_⟩; replace HO827 := Aside0.mk (Kd.N_elder' (y9 HO827.out) (Kd.N_base ho0) hb); have HO833 := Aside0.mk (Kd.N_lower (Kd.N_mono (ok' := fun k_ => some k_ ≠ (.slice Ao27 t793.length co27 : Value).ownBlock ∧ some k_ ≠ (.slice Ao33 t798.length co33 : Value).ownBlock ∧ some k_ ≠ (.slice Ao42 t805.length co42 : Value).ownBlock ∧ some k_ ≠ (.slice Ao128 t828.length co128 : Value).ownBlock ∧ k_ ≠ gb785 ∧ k_ ≠ gb797 ∧ k_ ≠ gb801 ∧ k_ ≠ gb809) ho0 (fun k_ hk_ => ⟨Or.elim hk_ (fun hs_ => hs_.1.1) (fun hn_ => (Kd.fresh' (Kd.N_lt (y9 HO_798000.out)) k_ hn_)), Or.elim hk_ (fun hs_ => hs_.1.2.1) (fun hn_ => (Kd.fresh' (Kd.N_lt (y9 HO_802000.out)) k_ hn_)), Or.elim hk_ (fun hs_ => hs_.1.2.2.1) (fun hn_ => (Kd.fresh' (Kd.N_lt (y9 HO_810000.out)) k_ hn_)), Or.elim hk_ (fun hs_ => hs_.2) (fun hn_ => (Kd.fresh' (Kd.R_lt (y10 HO830.out)) k_ hn_)), Or.elim hk_ (fun hs_ => hs_.1.2.2.2.1) (fun hn_ => (Kd.freshB (g := gb785) (o := .cells #[.slice A0_0 l0_0.length c0_0] 25 (0, 0)) (y0 BK785.out) k_ hn_)), Or.elim hk_ (fun hs_ => hs_.1.2.2.2.2.1) (fun hn_ => (Kd.freshB (g := gb797) (o := .cells #[.slice Ao27 t793.length co27] 30 (0, 0)) (y0 BK797.out) k_ hn_)), Or.elim hk_ (fun hs_ => hs_.1.2.2.2.2.2.1) (fun hn_ => (Kd.freshB (g := gb801) (o := .cells #[.slice Ao33 t798.length co33] 30 (0, 0)) (y0 BK801.out) k_ hn_)), Or.elim hk_ (fun hs_ => hs_.1.2.2.2.2.2.2) (fun hn_ => (Kd.freshB (g := gb809) (o := .cells #[.slice Ao42 t805.length co42] 30 (0, 0)) (y0 BK809.out) k_ hn_))⟩)) (below_size (y16 HB.out GE785.out GE797.out GE801.out GE809.out))); replace HO_798000 := Aside0.mk (Kd.N_elder' (y9 HO_798000.out) (Kd.N_base ho0) hb); replace HO_802000 := Aside0.mk (Kd.N_elder' (y9 HO_802000.out) (Kd.N_base ho0) hb); replace HO_810000 := Aside0.mk (Kd.N_elder' (y9 HO_810000.out) (Kd.N_base ho0) hb); replace HO830 := Aside0.mk (Kd.R_below (y10 HO830.out) hb); replace BK785 := zbb BK785 hb; replace BK797 := zbb BK797 hb; replace BK801 := zbb BK801 hb; replace BK809 := zbb BK809 hb; replace HB := Aside0.mk (below_step (y16 HB.out GE785.out GE797.out GE801.out GE809.out) hb); (try clear hb); (try clear hb2); (try clear hk); (try clear hi); (try clear ho0)) | ((with_reducible refine gate_dst (N := 15) rfl ?_); refine zbx 15 #[.slice none 0 0] 30 ?_; intro gb835 hg w130 hbox hb; replace HO_798000 := Aside0.mk (Kd.N_below (Kd.N_elderB (y9 HO_798000.out) gb835 (Nat.le_of_eq hg.symm)) hb); replace HO_802000 := Aside0.mk (Kd.N_below (Kd.N_elderB (y9 HO_802000.out) gb835 (Nat.le_of_eq hg.symm)) hb); replace HO_810000 := Aside0.mk (Kd.N_below (Kd.N_elderB (y9 HO_810000.out) gb835 (Nat.le_of_eq hg.symm)) hb); replace HO827 := Aside0.mk (Kd.N_below (Kd.N_elderB (y9 HO827.out) gb835 (Nat.le_of_eq hg.symm)) hb); replace HO830 := Aside0.mk (Kd.R_below (y10 HO830.out) hb); replace HO833 := Aside0.mk (Kd.N_below (Kd.N_elderB (y9 HO833.out) gb835 (Nat.le_of_eq hg.symm)) hb); have BK835 := Aside0.mk hbox; have GW835 := Aside0.mk ((y40 hg HB.out GE785.out GE797.out GE801.out GE809.out : w.heap.size ≤ gb835)); have GE835 := Aside0.mk ((y40 hg HB.out GE785.out GE797.out GE801.out GE809.out : w.heap.size ≤ gb835)); replace HB := Aside0.mk (below_step (y16 HB.out GE785.out GE797.out GE801.out GE809.out) hb); have NB785_835 := zltn hg BK785; have NB835_785 := zgtn hg BK785; replace BK785 := zbb BK785 hb; have NB797_835 := zltn hg BK797; have NB835_797 := zgtn hg BK797; replace BK797 := zbb BK797 hb; have NB801_835 := zltn hg BK801; have NB835_801 := zgtn hg BK801; replace BK801 := zbb BK801 hb; have NB809_835 := zltn hg BK809; have NB835_809 := zgtn hg BK809; replace BK809 := zbb BK809 hb; clear hb hbox hg; obtain ⟨Ao131, co131, eo131⟩ := Kd.N_slice HO833.out; subst eo131; have hnb132 := NB835_785.out; have hnc132 := NB785_835.out; have hnb133 := NB835_797.out; have hnc133 := NB797_835.out; have hnb134 := NB835_801.out; have hnc134 := NB801_835.out; have hnb135 := NB835_809.out; have hnc135 := NB809_835.out; have hcz136_0 := zh BK835; have hfz136_0 := zfr BK835 0))
             (try simp only [Act.put, List.setIfInBounds_toArray, List.set_cons_zero, List.set_cons_succ])
             go_cut [108] (fun v108 wc => ∃ (kq : Nat) (x108_113 : Bool), v108 = .bool x108_113 ∧ Aside0 (laws_FnExactTypeAt.j2 kq t823 x108_113 t805 = some r) ∧ Aside0 (kq ≤ kj73) ∧ Aside0 (Kd.N k30 30 wc w.heap.size (fun k_ => some k_ ≠ ((.slice Ao33 t798.length co33) : Value).ownBlock ∧ some k_ ≠ ((.slice Ao42 t805.length co42) : Value).ownBlock ∧ some k_ ≠ ((.slice Ao131 t831.length co131) : Value).ownBlock ∧ k_ ≠ gb785 ∧ k_ ≠ gb797 ∧ k_ ≠ gb801 ∧ k_ ≠ gb809 ∧ k_ ≠ gb835) (.slice Ao27 t793.length co27) t793) ∧ Aside0 (Kd.N k30 30 wc w.heap.size (fun k_ => some k_ ≠ ((.slice Ao27 t793.length co27) : Value).ownBlock ∧ some k_ ≠ ((.slice Ao42 t805.length co42) : Value).ownBlock ∧ some k_ ≠ ((.slice Ao131 t831.length co131) : Value).ownBlock ∧ k_ ≠ gb785 ∧ k_ ≠ gb797 ∧ k_ ≠ gb801 ∧ k_ ≠ gb809 ∧ k_ ≠ gb835) (.slice Ao33 t798.length co33) t798) ∧ Aside0 (Kd.N k30 30 wc w.heap.size (fun k_ => some k_ ≠ ((.slice Ao27 t793.length co27) : Value).ownBlock ∧ some k_ ≠ ((.slice Ao131 t831.length co131) : Value).ownBlock ∧ k_ ≠ gb785 ∧ k_ ≠ gb797 ∧ k_ ≠ gb801 ∧ k_ ≠ gb809 ∧ k_ ≠ gb835) (.slice Ao42 t805.length co42) t805) ∧ Aside0 (Kd.N k30 30 wc w.heap.size (fun k_ => some k_ ≠ ((.slice Ao27 t793.length co27) : Value).ownBlock ∧ some k_ ≠ ((.slice Ao33 t798.length co33) : Value).ownBlock ∧ some k_ ≠ ((.slice Ao42 t805.length co42) : Value).ownBlock ∧ k_ ≠ gb785 ∧ k_ ≠ gb797 ∧ k_ ≠ gb801 ∧ k_ ≠ gb809 ∧ k_ ≠ gb835) (.slice Ao131 t831.length co131) t831) ∧ Aside0 (wc.heap[gb785]? = some (.cells #[(.slice A0_0 l0_0.length c0_0)] 25 (0, 0))) ∧ Aside0 (wc.heap[gb797]? = some (.cells #[(.slice Ao27 t793.length co27)] 30 (0, 0))) ∧ Aside0 (wc.heap[gb801]? = some (.cells #[(.slice Ao33 t798.length co33)] 30 (0, 0))) ∧ Aside0 (wc.heap[gb809]? = some (.cells #[(.slice Ao42 t805.length co42)] 30 (0, 0))) ∧ Aside0 (wc.heap[gb835]? = some (.cells #[(.slice Ao131 t831.length co131)] 30 (0, 0))) ∧ Aside0 (Below w.heap.size w wc))
             case first =>
              have H := HC114.out
              clear HC114
              obtain ⟨t836, A1370, H⟩ := ob H
              have A137 := Aside0.mk A1370
              clear A1370
              by_cases c138 : t836 = true
              ·subst c138
               rw [if_pos rfl] at H
               have H' := Aside0.mk H
               clear H
               have hnb139 := NB835_785.out
               have hnc139 := NB785_835.out
               have hnb140 := NB835_797.out
               have hnc140 := NB797_835.out
               have hnb141 := NB835_801.out
               have hnc141 := NB801_835.out
               have hnb142 := NB835_809.out
               have hnc142 := NB809_835.out
               have hcz143_0 := zh BK835
               have hfz143_0 := zfr BK835 0
               have hnb144 := NB797_785.out
               have hnc144 := NB785_797.out
               have hnb145 := NB797_801.out
               have hnc145 := NB801_797.out
               have hnb146 := NB797_809.out
               have hnc146 := NB809_797.out
               have hcz147_0 := zh BK797
               have hfz147_0 := zfr BK797 0
               go_wp2_with (first | ((with_reducible refine gate_callee (f := 19) rfl ?_); refine goesL_ (some 102) rfl rfl Try.func19 (by kernel_rfl) rfl #[.agg #[.slice Ao131 t831.length co131], .agg #[.slice Ao27 t793.length co27]] rfl y4 ?_; (with_reducible refine (laws_eqType.calls kj73 _ _ t831 _ _ t793 true _ ?side1 ?side2 ?side3 ?side4 A137.out).mono ?_); (case side1 => refine (Kd.N_reads' (e := 30) (base := w.heap.size) (ok := fun k_ => ((some k_ ≠ (.slice Ao27 t793.length co27 : Value).ownBlock ∧ (some k_ ≠ (.slice Ao33 t798.length co33 : Value).ownBlock ∧ (some k_ ≠ (.slice Ao42 t805.length co42 : Value).ownBlock ∧ (some k_ ≠ (.slice Ao128 t828.length co128 : Value).ownBlock ∧ (k_ ≠ gb785 ∧ (k_ ≠ gb797 ∧ (k_ ≠ gb801 ∧ k_ ≠ gb809))))))) ∧ k_ ≠ gb835)) (n := t831.length) (c := co131) ?_).2.2; exact (by (with_reducible repeat (first | apply Kd.N_alloc | apply Kd.N_drewN | apply Kd.N_drew)); exact (Kd.N_mono (Kd.N_far (p := ⟨gb835, 0, none⟩) (Kd.N_mono HO833.out (fun k_ hk => (⟨hk, hk.2⟩ : _ ∧ k_ ≠ gb835))) (fun _ hk => hk.2) (.slice Ao131 t831.length co131)) (fun _ h_ => h_.1)))); (case side2 => exact (Kd.N_reads' HO833.out).2.1); (case side3 => refine (Kd.N_reads' (e := 30) (base := w.heap.size) (ok := fun k_ => (((((some k_ ≠ (.slice Ao33 t798.length co33 : Value).ownBlock ∧ (some k_ ≠ (.slice Ao42 t805.length co42 : Value).ownBlock ∧ (k_ ≠ gb785 ∧ (k_ ≠ gb797 ∧ (k_ ≠ gb801 ∧ k_ ≠ gb809))))) ∧ some k_ ≠ (.slice Ao127 t825.length co127 : Value).ownBlock) ∧ some k_ ≠ (.slice Ao128 t828.length co128 : Value).ownBlock) ∧ some k_ ≠ (.slice Ao131 t831.length co131 : Value).ownBlock) ∧ k_ ≠ gb835)) (n := t793.length) (c := co27) ?_).2.2; exact (by (with_reducible repeat (first | apply Kd.N_alloc | apply Kd.N_drewN | apply Kd.N_drew)); exact (Kd.N_mono (Kd.N_far (p := ⟨gb835, 0, none⟩) (Kd.N_mono HO_798000.out (fun k_ hk => (⟨hk, hk.2⟩ : _ ∧ k_ ≠ gb835))) (fun _ hk => hk.2) (.slice Ao131 t831.length co131)) (fun _ h_ => h_.1)))); (case side4 => exact (Kd.N_reads' HO_798000.out).2.1); rintro e w148 ⟨rfl, hb⟩; refine ⟨_, rfl, ?_⟩; replace HO_798000 := Aside0.mk (Kd.N_below (by (with_reducible repeat (first | apply Kd.N_alloc | apply Kd.N_drewN | apply Kd.N_drew)); exact (Kd.N_mono (Kd.N_far (p := ⟨gb835, 0, none⟩) (Kd.N_mono HO_798000.out (fun k_ hk => (⟨hk, hk.2⟩ : _ ∧ k_ ≠ gb835))) (fun _ hk => hk.2) (.slice Ao131 t831.length co131)) (fun _ h_ => h_.1))) hb); replace HO_802000 := Aside0.mk (Kd.N_below (by (with_reducible repeat (first | apply Kd.N_alloc | apply Kd.N_drewN | apply Kd.N_drew)); exact (Kd.N_mono (Kd.N_far (p := ⟨gb835, 0, none⟩) (Kd.N_mono HO_802000.out (fun k_ hk => (⟨hk, hk.2⟩ : _ ∧ k_ ≠ gb835))) (fun _ hk => hk.2) (.slice Ao131 t831.length co131)) (fun _ h_ => h_.1))) hb); replace HO_810000 := Aside0.mk (Kd.N_below (by (with_reducible repeat (first | apply Kd.N_alloc | apply Kd.N_drewN | apply Kd.N_drew)); exact (Kd.N_mono (Kd.N_far (p := ⟨gb835, 0, none⟩) (Kd.N_mono HO_810000.out (fun k_ hk => (⟨hk, hk.2⟩ : _ ∧ k_ ≠ gb835))) (fun _ hk => hk.2) (.slice Ao131 t831.length co131)) (fun _ h_ => h_.1))) hb); replace HO827 := Aside0.mk (Kd.N_below (by (with_reducible repeat (first | apply Kd.N_alloc | apply Kd.N_drewN | apply Kd.N_drew)); exact (Kd.N_mono (Kd.N_far (p := ⟨gb835, 0, none⟩) (Kd.N_mono HO827.out (fun k_ hk => (⟨hk, hk.2⟩ : _ ∧ k_ ≠ gb835))) (fun _ hk => hk.2) (.slice Ao131 t831.length co131)) (fun _ h_ => h_.1))) hb); replace HO830 := Aside0.mk (Kd.R_below (by (with_reducible repeat (first | apply Kd.R_alloc | apply Kd.R_drewN | apply Kd.R_drew)); exact (Kd.R_mono (Kd.R_far (p := ⟨gb835, 0, none⟩) (Kd.R_types HO830.out BK835.out (by decide)) (fun _ hk => hk.2) (.slice Ao131 t831.length co131)) (fun _ h_ => h_.1))) hb); replace HO833 := Aside0.mk (Kd.N_below (by (with_reducible repeat (first | apply Kd.N_alloc | apply Kd.N_drewN | apply Kd.N_drew)); exact (Kd.N_mono (Kd.N_far (p := ⟨gb835, 0, none⟩) (Kd.N_mono HO833.out (fun k_ hk => (⟨hk, hk.2⟩ : _ ∧ k_ ≠ gb835))) (fun _ hk => hk.2) (.slice Ao131 t831.length co131)) (fun _ h_ => h_.1))) hb); replace BK785 := zbf BK785 NB785_835 hb; replace BK797 := zbf BK797 NB797_835 hb; replace BK801 := zbf BK801 NB801_835 hb; replace BK809 := zbf BK809 NB809_835 hb; replace BK835 := Aside0.mk (blk_below (g := gb835) (o := .cells #[.slice Ao131 t831.length co131] 30 (0, 0)) (by (with_reducible repeat (first | refine blk_drewN ?_ _ | refine blk_drew ?_ | refine blk_alloc ?_ _)); apply blk_put (i := 0); (case h => exact y0 BK835.out); (case e => rfl)) hb); replace HB := Aside0.mk (below_step (y34 HB.out GE785.out GE797.out GE801.out GE809.out GE835.out) hb); (try clear hb); (try clear hb2); (try clear hk); (try clear hi)))
               go_meet
               case rel => exact ⟨_, ((t834 != t796)), y26, H', ⟨(by have := HJ15.out; have := HJ73.out; first | omega | exact Nat.le_refl _)⟩, ⟨(y45 HO_798000.out)⟩, ⟨(y45 HO_802000.out)⟩, ⟨(y61 HO_810000.out)⟩, ⟨(y59 HO833.out)⟩, ⟨(y0 BK785.out)⟩, ⟨(y0 BK797.out)⟩, ⟨(y0 BK801.out)⟩, ⟨(y0 BK809.out)⟩, ⟨(y0 BK835.out)⟩, ⟨(y34 HB.out GE785.out GE797.out GE801.out GE809.out GE835.out)⟩⟩
              ·replace c138 := Bool.eq_false_iff.mpr c138
               subst c138
               rw [if_neg (show ¬ (false = true) by decide)] at H
               have H' := Aside0.mk H
               clear H
               have hnb149 := NB835_785.out
               have hnc149 := NB785_835.out
               have hnb150 := NB835_797.out
               have hnc150 := NB797_835.out
               have hnb151 := NB835_801.out
               have hnc151 := NB801_835.out
               have hnb152 := NB835_809.out
               have hnc152 := NB809_835.out
               have hcz153_0 := zh BK835
               have hfz153_0 := zfr BK835 0
               have hnb154 := NB797_785.out
               have hnc154 := NB785_797.out
               have hnb155 := NB797_801.out
               have hnc155 := NB801_797.out
               have hnb156 := NB797_809.out
               have hnc156 := NB809_797.out
               have hcz157_0 := zh BK797
               have hfz157_0 := zfr BK797 0
               go_wp2_with (first | ((with_reducible refine gate_callee (f := 19) rfl ?_); refine goesL_ (some 102) rfl rfl Try.func19 (by kernel_rfl) rfl #[.agg #[.slice Ao131 t831.length co131], .agg #[.slice Ao27 t793.length co27]] rfl y4 ?_; (with_reducible refine (laws_eqType.calls kj73 _ _ t831 _ _ t793 false _ ?side1 ?side2 ?side3 ?side4 A137.out).mono ?_); (case side1 => refine (Kd.N_reads' (e := 30) (base := w.heap.size) (ok := fun k_ => ((some k_ ≠ (.slice Ao27 t793.length co27 : Value).ownBlock ∧ (some k_ ≠ (.slice Ao33 t798.length co33 : Value).ownBlock ∧ (some k_ ≠ (.slice Ao42 t805.length co42 : Value).ownBlock ∧ (some k_ ≠ (.slice Ao128 t828.length co128 : Value).ownBlock ∧ (k_ ≠ gb785 ∧ (k_ ≠ gb797 ∧ (k_ ≠ gb801 ∧ k_ ≠ gb809))))))) ∧ k_ ≠ gb835)) (n := t831.length) (c := co131) ?_).2.2; exact (by (with_reducible repeat (first | apply Kd.N_alloc | apply Kd.N_drewN | apply Kd.N_drew)); exact (Kd.N_mono (Kd.N_far (p := ⟨gb835, 0, none⟩) (Kd.N_mono HO833.out (fun k_ hk => (⟨hk, hk.2⟩ : _ ∧ k_ ≠ gb835))) (fun _ hk => hk.2) (.slice Ao131 t831.length co131)) (fun _ h_ => h_.1)))); (case side2 => exact (Kd.N_reads' HO833.out).2.1); (case side3 => refine (Kd.N_reads' (e := 30) (base := w.heap.size) (ok := fun k_ => (((((some k_ ≠ (.slice Ao33 t798.length co33 : Value).ownBlock ∧ (some k_ ≠ (.slice Ao42 t805.length co42 : Value).ownBlock ∧ (k_ ≠ gb785 ∧ (k_ ≠ gb797 ∧ (k_ ≠ gb801 ∧ k_ ≠ gb809))))) ∧ some k_ ≠ (.slice Ao127 t825.length co127 : Value).ownBlock) ∧ some k_ ≠ (.slice Ao128 t828.length co128 : Value).ownBlock) ∧ some k_ ≠ (.slice Ao131 t831.length co131 : Value).ownBlock) ∧ k_ ≠ gb835)) (n := t793.length) (c := co27) ?_).2.2; exact (by (with_reducible repeat (first | apply Kd.N_alloc | apply Kd.N_drewN | apply Kd.N_drew)); exact (Kd.N_mono (Kd.N_far (p := ⟨gb835, 0, none⟩) (Kd.N_mono HO_798000.out (fun k_ hk => (⟨hk, hk.2⟩ : _ ∧ k_ ≠ gb835))) (fun _ hk => hk.2) (.slice Ao131 t831.length co131)) (fun _ h_ => h_.1)))); (case side4 => exact (Kd.N_reads' HO_798000.out).2.1); rintro e w158 ⟨rfl, hb⟩; refine ⟨_, rfl, ?_⟩; replace HO_798000 := Aside0.mk (Kd.N_below (by (with_reducible repeat (first | apply Kd.N_alloc | apply Kd.N_drewN | apply Kd.N_drew)); exact (Kd.N_mono (Kd.N_far (p := ⟨gb835, 0, none⟩) (Kd.N_mono HO_798000.out (fun k_ hk => (⟨hk, hk.2⟩ : _ ∧ k_ ≠ gb835))) (fun _ hk => hk.2) (.slice Ao131 t831.length co131)) (fun _ h_ => h_.1))) hb); replace HO_802000 := Aside0.mk (Kd.N_below (by (with_reducible repeat (first | apply Kd.N_alloc | apply Kd.N_drewN | apply Kd.N_drew)); exact (Kd.N_mono (Kd.N_far (p := ⟨gb835, 0, none⟩) (Kd.N_mono HO_802000.out (fun k_ hk => (⟨hk, hk.2⟩ : _ ∧ k_ ≠ gb835))) (fun _ hk => hk.2) (.slice Ao131 t831.length co131)) (fun _ h_ => h_.1))) hb); replace HO_810000 := Aside0.mk (Kd.N_below (by (with_reducible repeat (first | apply Kd.N_alloc | apply Kd.N_drewN | apply Kd.N_drew)); exact (Kd.N_mono (Kd.N_far (p := ⟨gb835, 0, none⟩) (Kd.N_mono HO_810000.out (fun k_ hk => (⟨hk, hk.2⟩ : _ ∧ k_ ≠ gb835))) (fun _ hk => hk.2) (.slice Ao131 t831.length co131)) (fun _ h_ => h_.1))) hb); replace HO827 := Aside0.mk (Kd.N_below (by (with_reducible repeat (first | apply Kd.N_alloc | apply Kd.N_drewN | apply Kd.N_drew)); exact (Kd.N_mono (Kd.N_far (p := ⟨gb835, 0, none⟩) (Kd.N_mono HO827.out (fun k_ hk => (⟨hk, hk.2⟩ : _ ∧ k_ ≠ gb835))) (fun _ hk => hk.2) (.slice Ao131 t831.length co131)) (fun _ h_ => h_.1))) hb); replace HO830 := Aside0.mk (Kd.R_below (by (with_reducible repeat (first | apply Kd.R_alloc | apply Kd.R_drewN | apply Kd.R_drew)); exact (Kd.R_mono (Kd.R_far (p := ⟨gb835, 0, none⟩) (Kd.R_types HO830.out BK835.out (by decide)) (fun _ hk => hk.2) (.slice Ao131 t831.length co131)) (fun _ h_ => h_.1))) hb); replace HO833 := Aside0.mk (Kd.N_below (by (with_reducible repeat (first | apply Kd.N_alloc | apply Kd.N_drewN | apply Kd.N_drew)); exact (Kd.N_mono (Kd.N_far (p := ⟨gb835, 0, none⟩) (Kd.N_mono HO833.out (fun k_ hk => (⟨hk, hk.2⟩ : _ ∧ k_ ≠ gb835))) (fun _ hk => hk.2) (.slice Ao131 t831.length co131)) (fun _ h_ => h_.1))) hb); replace BK785 := zbf BK785 NB785_835 hb; replace BK797 := zbf BK797 NB797_835 hb; replace BK801 := zbf BK801 NB801_835 hb; replace BK809 := zbf BK809 NB809_835 hb; replace BK835 := Aside0.mk (blk_below (g := gb835) (o := .cells #[.slice Ao131 t831.length co131] 30 (0, 0)) (by (with_reducible repeat (first | refine blk_drewN ?_ _ | refine blk_drew ?_ | refine blk_alloc ?_ _)); apply blk_put (i := 0); (case h => exact y0 BK835.out); (case e => rfl)) hb); replace HB := Aside0.mk (below_step (y34 HB.out GE785.out GE797.out GE801.out GE809.out GE835.out) hb); (try clear hb); (try clear hb2); (try clear hk); (try clear hi)))
               go_meet
               case rel => exact ⟨_, (true), y26, H', ⟨(by have := HJ15.out; have := HJ73.out; first | omega | exact Nat.le_refl _)⟩, ⟨(y45 HO_798000.out)⟩, ⟨(y45 HO_802000.out)⟩, ⟨(y61 HO_810000.out)⟩, ⟨(y59 HO833.out)⟩, ⟨(y0 BK785.out)⟩, ⟨(y0 BK797.out)⟩, ⟨(y0 BK801.out)⟩, ⟨(y0 BK809.out)⟩, ⟨(y0 BK835.out)⟩, ⟨(y34 HB.out GE785.out GE797.out GE801.out GE809.out GE835.out)⟩⟩
             case rest =>
              clear HC114
              try clear c1
              try clear c2
              try clear p2
              try clear c3
              try clear c3b0
              try clear c3b1
              try clear c4
              try clear c5
              try clear c6
              try clear c6b0
              try clear c7
              try clear c8
              try clear c9
              try clear c10
              try clear c11
              try clear c12
              try clear c13
              try clear c14
              try clear c15
              try clear c17
              try clear c19
              try clear c21
              try clear c28
              try clear c33
              try clear c34
              try clear c35
              try clear c37
              try clear c38
              try clear c39
              try clear c40
              try clear c41
              try clear c43
              try clear c44
              try clear c45
              try clear c48
              try clear c49
              try clear c50
              try clear c51
              try clear c53
              try clear c54
              try clear c57
              try clear c58
              try clear c59
              try clear c61
              try clear c62
              try clear c65
              try clear c68
              try clear c71
              try clear c81
              try clear c82
              try clear c83
              try clear c87
              try clear c87b0
              try clear c89
              try clear c90
              try clear c91
              try clear c92
              try clear c94
              try clear c95
              try clear c98
              try clear c99
              try clear c100
              try clear c102
              try clear c103
              try clear c106
              try clear c109
              try clear c109b0
              try clear c110
              try clear c110b0
              try clear c110b1
              try clear c115
              try clear c116
              try clear c117
              try clear c122
              try clear c123
              try clear c132
              try clear c133
              try clear c134
              try clear c135
              try clear c138
              try clear c139
              try clear c140
              try clear c141
              try clear c142
              try clear c144
              try clear c145
              try clear c146
              try clear c149
              try clear c150
              try clear c151
              try clear c152
              try clear c154
              try clear c155
              try clear c156
              try clear hcz101_0
              try clear hcz104_0
              try clear hcz118_0
              try clear hcz120_0
              try clear hcz124_0
              try clear hcz136_0
              try clear hcz143_0
              try clear hcz147_0
              try clear hcz153_0
              try clear hcz157_0
              try clear hcz18_0
              try clear hcz20_0
              try clear hcz29_0
              try clear hcz30_0
              try clear hcz36_0
              try clear hcz38_0
              try clear hcz46_0
              try clear hcz52_0
              try clear hcz55_0
              try clear hcz60_0
              try clear hcz63_0
              try clear hcz84_0
              try clear hcz8_0
              try clear hcz93_0
              try clear hcz96_0
              try clear hfz101_0
              try clear hfz104_0
              try clear hfz118_0
              try clear hfz120_0
              try clear hfz124_0
              try clear hfz136_0
              try clear hfz143_0
              try clear hfz147_0
              try clear hfz153_0
              try clear hfz157_0
              try clear hfz18_0
              try clear hfz20_0
              try clear hfz29_0
              try clear hfz30_0
              try clear hfz36_0
              try clear hfz38_0
              try clear hfz46_0
              try clear hfz52_0
              try clear hfz55_0
              try clear hfz60_0
              try clear hfz63_0
              try clear hfz84_0
              try clear hfz8_0
              try clear hfz93_0
              try clear hfz96_0
              try clear p2
              obtain ⟨kq, x108_113, rfl, HA, HJ113, HO_798000, HO_802000, HO_810000, HO_836000, BK785, BK797, BK801, BK809, BK835, HB⟩ := hcut
              cases kq with
              | zero => exact absurd HA.out (by simp [laws_FnExactTypeAt.j2])
              | succ kj113 =>
               have H := HA.out
               clear HA
               simp only [laws_FnExactTypeAt.j2] at H
               by_cases c159 : x108_113 = true
               ·subst c159
                rw [if_pos rfl] at H
                exact absurd ((Option.some.inj H).trans hr_.out) (by decide)
               ·replace c159 := Bool.eq_false_iff.mpr c159
                subst c159
                rw [if_neg (show ¬ (false = true) by decide)] at H
                obtain ⟨t837, A1600, H⟩ := ob H
                have A160 := Aside0.mk A1600
                clear A1600
                by_cases c161 : t837 < 0
                ·rw [if_pos c161] at H
                 have c161b0 : decide (t837 < 0) = true := decide_eq_true c161
                 clear c161
                 exact absurd ((Option.some.inj H).trans hr_.out) (by decide)
                ·rw [if_neg c161] at H
                 have c161b0 : decide (t837 < 0) = false := decide_eq_false c161
                 clear c161
                 by_cases c162 : t837 = t823
                 ·rw [if_pos c162] at H
                  have c162b0 : (t837 == t823) = true := beq_iff_eq.mpr c162
                  have c162b1 : (t837 != t823) = false := bne_eq_false_iff_eq.mpr c162
                  clear c162
                  clear hr_
                  obtain rfl := Option.some.inj H
                  have hnb163 := NB809_785.out
                  have hnc163 := NB785_809.out
                  have hnb164 := NB809_797.out
                  have hnc164 := NB797_809.out
                  have hnb165 := NB809_801.out
                  have hnc165 := NB801_809.out
                  have hnb166 := NB809_835.out
                  have hnc166 := NB835_809.out
                  have hcz167_0 := zh BK809
                  have hfz167_0 := zfr BK809 0
                  go_wp2_with (first | ((with_reducible refine gate_callee (f := 41) rfl ?_); refine goesL_ (some 111) rfl rfl Try.func41 (by kernel_rfl) rfl #[.agg #[.slice Ao42 t805.length co42], .int .i64 1] rfl y4 ?_; (with_reducible refine (laws_heldType.calls kj113 _ _ t805 1 t837 _ ?side1 ?side2 A160.out).mono ?_); (case side1 => exact y27 HO_810000.out); (case side2 => exact (Kd.N_reads' HO_810000.out).2.1); rintro e w168 ⟨rfl, hb⟩; refine ⟨_, rfl, ?_⟩; replace HO_798000 := Aside0.mk (Kd.N_below (y9 HO_798000.out) hb); replace HO_802000 := Aside0.mk (Kd.N_below (y9 HO_802000.out) hb); replace HO_810000 := Aside0.mk (Kd.N_below (y9 HO_810000.out) hb); replace HO_836000 := Aside0.mk (Kd.N_below (y9 HO_836000.out) hb); replace BK785 := zbb BK785 hb; replace BK797 := zbb BK797 hb; replace BK801 := zbb BK801 hb; replace BK809 := zbb BK809 hb; replace BK835 := zbb BK835 hb; replace HB := Aside0.mk (below_step (y34 HB.out GE785.out GE797.out GE801.out GE809.out GE835.out) hb); (try clear hb); (try clear hb2); (try clear hk); (try clear hi)))
                  go_ret
                  exact ⟨y14, (y34 HB.out GE785.out GE797.out GE801.out GE809.out GE835.out)⟩
                 ·rw [if_neg c162] at H
                  have c162b0 : (t837 == t823) = false := beq_eq_false_iff_ne.mpr c162
                  have c162b1 : (t837 != t823) = true := bne_iff_ne.mpr c162
                  exact absurd ((Option.some.inj H).trans hr_.out) (by decide)
            ·rw [if_neg c110] at H
             have c110b0 : (t824 == t823) = false := beq_eq_false_iff_ne.mpr c110
             have c110b1 : (t824 != t823) = true := bne_iff_ne.mpr c110
             exact absurd ((Option.some.inj H).trans hr_.out) (by decide)
       ·replace c71 := Bool.eq_false_iff.mpr c71
        subst c71
        rw [if_neg (show ¬ (false = true) by decide)] at H
        exact absurd ((Option.some.inj H).trans hr_.out) (by decide)
      ·replace c68 := Bool.eq_false_iff.mpr c68
       subst c68
       rw [if_neg (show ¬ (false = true) by decide)] at H
       exact absurd ((Option.some.inj H).trans hr_.out) (by decide)
end Go.Proofs.Ytjhbhihfifhljaa.PA
end
section
namespace Go.Proofs.Ytjhbhihfifhljaa.PA
open Go.RowKit Go.Proofs.YtjhbhihfifhljaaW.PrintWords Go.Proofs.YtjhbhihfifhljaaW.PrintLast Go.Proofs.YtjhbhihfifhljaaW.PrintMore
attribute [local go_sem] max2_int min2_int max_two min_two max_three min_three max_four min_four
set_option linter.unusedVariables false
set_option linter.unusedSimpArgs false
def IsS95 (w0 W : World) (g : Nat) (f0 : List Int) (f1 : Int) : Prop := ∃ A0 c0, W.heap[g]? = some (.cells #[.slice A0 f0.length c0, .int .i64 f1] 95 (0, 0)) ∧ w0.heap.size ≤ g ∧ Kd.C (Kd.int .u8) w0 A0 f0.length f0
theorem IsS95.grown {w0 W : World} {g : Nat} {f0 : List Int} {f1 : Int} {W1 : World} {row : Option Nat} (h : IsS95 w0 W g f0 f1) (hw : W.grownBy W1 row) (hne : some g ≠ row) : IsS95 w0 W1 g f0 f1 := by
 obtain ⟨A0, c0, hb, hg, hr0⟩ := h
 exact ⟨A0, c0, blk_grown hb hw hne, hg, hr0⟩
theorem IsS95.own_neN {w0 W : World} {g : Nat} {f0 : List Int} {f1 : Int} {α : Type} {d : Kd α} {e : Nat} {base : Nat} {ok : Nat → Prop} {v : Value} {xs : List α} (h : IsS95 w0 W g f0 f1) (ho : Kd.N d e W base ok v xs) (ht : e ≠ 95) : some g ≠ v.ownBlock := by
 obtain ⟨A0, c0, hb, hg, hr0⟩ := h
 exact Kd.N_ne ho hb ht
theorem IsS95.fresh {w0 W : World} {g : Nat} {f0 : List Int} {f1 : Int} (h : IsS95 w0 W g f0 f1) : ∀ k, W.heap.size ≤ k → k ≠ g := by
 obtain ⟨A0, c0, hb, hg, hr0⟩ := h
 exact Kd.freshB hb
theorem IsS95.kept {w0 W : World} {g : Nat} {f0 : List Int} {f1 : Int} {W1 : World} {S : Nat → Prop} (h : IsS95 w0 W g f0 f1) (hk : Kept W W1 S) (hne : ¬ S g) : IsS95 w0 W1 g f0 f1 := by
 obtain ⟨A0, c0, hb, hg, hr0⟩ := h
 exact ⟨A0, c0, blk_kept hb hk hne, hg, hr0⟩
theorem IsS95.below {w0 W : World} {g : Nat} {f0 : List Int} {f1 : Int} {W1 : World} (h : IsS95 w0 W g f0 f1) (hw : Below W.heap.size W W1) : IsS95 w0 W1 g f0 f1 := h.grown (grown_of_below hw none) (by simp)
theorem IsS95.alloc {w0 W : World} {g : Nat} {f0 : List Int} {f1 : Int} (h : IsS95 w0 W g f0 f1) (o : Obj) : IsS95 w0 (W.alloc o) g f0 f1 := h.below (below_alloc (Below.refl _ _) o)
theorem IsS95.drewN {w0 W : World} {g : Nat} {f0 : List Int} {f1 : Int} (h : IsS95 w0 W g f0 f1) (m : Nat) : IsS95 w0 (W.drewN m) g f0 f1 := h
theorem IsS95.drew {w0 W : World} {g : Nat} {f0 : List Int} {f1 : Int} (h : IsS95 w0 W g f0 f1) : IsS95 w0 W.drew g f0 f1 := h
theorem IsS95.at_ {w0 W : World} {g : Nat} {f0 : List Int} {f1 : Int} {w' : World} {m : Nat} (hq : W.drewN m = w') (h : IsS95 w0 W g f0 f1) : IsS95 w0 w' g f0 f1 := by subst hq; exact IsS95.drewN h m
theorem IsS95.apart {w0 W : World} {g : Nat} {f0 : List Int} {f1 : Int} {α : Type} {d : Kd α} {e : Nat} {base : Nat} {ok : Nat → Prop} {v : Value} {xs : List α} (h : IsS95 w0 W g f0 f1) (ho : d.R e W base ok v xs) (ht : ∀ q, q ∈ e :: d.E → q ≠ 95) : d.R e W base (fun k => ok k ∧ k ≠ g) v xs := by
 obtain ⟨A0, c0, hb, hg, hr0⟩ := h
 exact Kd.R_types ho hb ht
theorem IsS95.own_ne {w0 W : World} {g : Nat} {f0 : List Int} {f1 : Int} {α : Type} {d : Kd α} {e : Nat} {base : Nat} {ok : Nat → Prop} {v : Value} {xs : List α} (h : IsS95 w0 W g f0 f1) (ho : d.R e W base ok v xs) (ht : e ≠ 95) : some g ≠ v.ownBlock := by
 obtain ⟨A0, c0, hb, hg, hr0⟩ := h
 exact Kd.R_ne ho hb ht
theorem IsS95.apartQ {w0 W : World} {g : Nat} {f0 : List Int} {f1 : Int} {α : Type} {d : Kd α} {e : Nat} {base : Nat} {ok : Nat → Prop} {v : Value} {xs : List α} (h : IsS95 w0 W g f0 f1) (ho : d.Q e W base ok v xs) (ht : ∀ q, q ∈ e :: d.E → q ≠ 95) : d.Q e W base (fun k => ok k ∧ k ≠ g) v xs := by
 obtain ⟨A0, c0, hb, hg, hr0⟩ := h
 exact Kd.Q_types ho hb ht
theorem IsS95.own_neQ {w0 W : World} {g : Nat} {f0 : List Int} {f1 : Int} {α : Type} {d : Kd α} {e : Nat} {base : Nat} {ok : Nat → Prop} {v : Value} {xs : List α} (h : IsS95 w0 W g f0 f1) (ho : d.Q e W base ok v xs) (ht : e ≠ 95) : some g ≠ v.ownBlock := by
 obtain ⟨A0, c0, hb, hg, hr0⟩ := h
 exact Kd.Q_ne ho hb ht
theorem IsS95.apartS {w0 W : World} {g : Nat} {f0 : List Int} {f1 : Int} {α : Type} {d : Kd α} {e : Nat} {base : Nat} {ok : Nat → Prop} {v : Value} {xs : List α} (h : IsS95 w0 W g f0 f1) (ho : d.S e W base ok v xs) (ht : ∀ q, q ∈ e :: d.E → q ≠ 95) : d.S e W base (fun k => ok k ∧ k ≠ g) v xs := by
 obtain ⟨A0, c0, hb, hg, hr0⟩ := h
 exact Kd.S_types ho hb ht
theorem IsS95.own_neS {w0 W : World} {g : Nat} {f0 : List Int} {f1 : Int} {α : Type} {d : Kd α} {e : Nat} {base : Nat} {ok : Nat → Prop} {v : Value} {xs : List α} (h : IsS95 w0 W g f0 f1) (ho : d.S e W base ok v xs) (ht : e ≠ 95) : some g ≠ v.ownBlock := by
 obtain ⟨A0, c0, hb, hg, hr0⟩ := h
 exact Kd.S_ne ho hb ht
theorem IsS95.lt {w0 W : World} {g : Nat} {f0 : List Int} {f1 : Int} (h : IsS95 w0 W g f0 f1) : g < W.heap.size := by
 obtain ⟨A0, c0, hb, hg, hr0⟩ := h
 exact blk_lt hb
theorem IsS95.ge {w0 W : World} {g : Nat} {f0 : List Int} {f1 : Int} (h : IsS95 w0 W g f0 f1) : w0.heap.size ≤ g := by
 obtain ⟨A0, c0, hb, hg, hr0⟩ := h
 exact hg
theorem IsS95.ne_blk {w0 W : World} {g : Nat} {f0 : List Int} {f1 : Int} {a : Nat} {cs : Array Value} {t : TypeId} {fr : Nat × Nat} (h : IsS95 w0 W g f0 f1) (hb2 : W.heap[a]? = some (.cells cs t fr)) (ht : t ≠ 95) : g ≠ a := by
 obtain ⟨A0, c0, hb, hg, hr0⟩ := h
 rintro rfl
 rw [hb] at hb2
 injection hb2 with hb2
 injection hb2 with _ ht2
 exact ht ht2.symm
theorem IsS95.far {w0 W : World} {g : Nat} {f0 : List Int} {f1 : Int} {p : Addr} (h : IsS95 w0 W g f0 f1) (hne : g ≠ p.block) (u : Value) : IsS95 w0 (W.setCell p u) g f0 f1 := by
 obtain ⟨A0, c0, hb, hg, hr0⟩ := h
 exact ⟨A0, c0, blk_far hb hne u, hg, hr0⟩
theorem cellS95_0 {W : World} {g : Nat} {A0 : Option Addr} {c0 : Nat} {f0 : List Int} {f1 : Int} (h : W.heap[g]? = some (.cells #[.slice A0 f0.length c0, .int .i64 f1] 95 (0, 0))) : W.cell? ⟨g, 0, none⟩ = some (.slice A0 f0.length c0) := (blk_cell h 0).trans rfl
theorem cellS95_1 {W : World} {g : Nat} {A0 : Option Addr} {c0 : Nat} {f0 : List Int} {f1 : Int} (h : W.heap[g]? = some (.cells #[.slice A0 f0.length c0, .int .i64 f1] 95 (0, 0))) : W.cell? ⟨g, 1, none⟩ = some (.int .i64 f1) := (blk_cell h 1).trans rfl
theorem IsS95.set_1 {w0 W : World} {g : Nat} {f0 : List Int} {f1 : Int} (h : IsS95 w0 W g f0 f1) (x : Int) : IsS95 w0 (W.setCell ⟨g, 1, none⟩ (.int .i64 x)) g f0 x := by
 obtain ⟨A0, c0, hb, hg, hr0⟩ := h
 exact ⟨A0, c0, (by simpa using blk_set hb 1 (.int .i64 x)), hg, hr0⟩
theorem IsS95.new (w0 W : World) (A0 : Option Addr) (c0 : Nat) (f0 : List Int) (f1 : Int) (hB : Below w0.heap.size w0 W) (hr0 : Kd.C (Kd.int .u8) w0 A0 f0.length f0) : IsS95 w0 (W.alloc (.cells #[.slice A0 f0.length c0, .int .i64 f1] 95)) W.heap.size f0 f1 := ⟨A0, c0, by simpa using heap_alloc_new W _, hB.size, hr0⟩
def spec_l6Rd_pick.j0 : Nat → Int → Bool → List Int → Int → Option (Int × Int)
 | 0, _, _, _, _ => none
 | k + 1, x1, x24, x1000, x1001 => if x24 = true then (some (0, x1001)) else (if (wrap64 (x1001 - 1)) < (x1000.length : Int) then (if 0 ≤ (wrap64 (x1001 - 1)) then (if x1 = 0 then (none) else (some (Int.tmod (wrap64 (rd x1000 (wrap64 (x1001 - 1)))) x1, x1001))) else (none)) else (if (x1000.length : Int) = 0 then (none) else (if 0 ≤ (Int.tmod (wrap64 (x1001 - 1)) (x1000.length : Int)) then (if (Int.tmod (wrap64 (x1001 - 1)) (x1000.length : Int)) < (x1000.length : Int) then (if 0 ≤ (Int.tmod (wrap64 ((wrap64 ((wrap64 (x1001 - 1)) * 7)) + 3)) (x1000.length : Int)) then (if (Int.tmod (wrap64 ((wrap64 ((wrap64 (x1001 - 1)) * 7)) + 3)) (x1000.length : Int)) < (x1000.length : Int) then (if x1 = 0 then (none) else (some (Int.tmod (Go.bits .xor .i64 (wrap64 ((wrap64 ((wrap64 ((wrap64 ((wrap64 (rd x1000 (Int.tmod (wrap64 (x1001 - 1)) (x1000.length : Int)))) * 131)) + (wrap64 ((wrap64 (rd x1000 (Int.tmod (wrap64 ((wrap64 ((wrap64 (x1001 - 1)) * 7)) + 3)) (x1000.length : Int)))) * 1117)))) + (wrap64 ((wrap64 (x1001 - 1)) * 29)))) + (wrap64 ((wrap64 (Int.tdiv (wrap64 (x1001 - 1)) (x1000.length : Int))) * 53)))) (wrap64 (Int.tdiv (wrap64 ((wrap64 ((wrap64 ((wrap64 ((wrap64 (rd x1000 (Int.tmod (wrap64 (x1001 - 1)) (x1000.length : Int)))) * 131)) + (wrap64 ((wrap64 (rd x1000 (Int.tmod (wrap64 ((wrap64 ((wrap64 (x1001 - 1)) * 7)) + 3)) (x1000.length : Int)))) * 1117)))) + (wrap64 ((wrap64 (x1001 - 1)) * 29)))) + (wrap64 ((wrap64 (Int.tdiv (wrap64 (x1001 - 1)) (x1000.length : Int))) * 53)))) 64))) x1, x1001))) else (none)) else (none)) else (none)) else (none))))
def spec_l6Rd_pick.f (k : Nat) (s0_0 : List Int) (s0_1 : Int) (a1 : Int) : Option (Int × Int) := if a1 < 1 then (spec_l6Rd_pick.j0 k a1 true s0_0 (wrap64 (s0_1 + 1))) else (spec_l6Rd_pick.j0 k a1 ((s0_0.length : Int) == 0) s0_0 (wrap64 (s0_1 + 1)))
theorem spec_l6Rd_pick.mono_l : ∀ k, (∀ y0 y1 y2 y3, LeO (spec_l6Rd_pick.j0 k y0 y1 y2 y3) (spec_l6Rd_pick.j0 (k + 1) y0 y1 y2 y3))
 | 0 => fun _ _ _ _ r h => by simp [spec_l6Rd_pick.j0] at h
 | k + 1 => by
  have ih0 := spec_l6Rd_pick.mono_l k
  ·intro y0 y1 y2 y3
   unfold spec_l6Rd_pick.j0
   repeat' first
   | (with_reducible exact ih0 _ _ _ _)
   | (with_reducible exact LeO.refl _)
   | (with_reducible exact LeO.none _)
   | (with_reducible refine LeO.ite ?_ ?_)
   | (with_reducible refine LeO.bind ?_ (fun _ => ?_))
   | exact ih0 _ _ _ _
   | exact LeO.none _
   | refine LeO.ite ?_ ?_
   | refine LeO.bind ?_ (fun _ => ?_)
theorem spec_l6Rd_pick.mono : ∀ a0 a1 a2 k, LeO (spec_l6Rd_pick.f k a0 a1 a2) (spec_l6Rd_pick.f (k + 1) a0 a1 a2) := by
 intro a0 a1 a2 k
 have ih0 := spec_l6Rd_pick.mono_l k
 unfold spec_l6Rd_pick.f
 repeat' first
   | (with_reducible exact ih0 _ _ _ _)
   | (with_reducible exact LeO.refl _)
   | (with_reducible exact LeO.none _)
   | (with_reducible refine LeO.ite ?_ ?_)
   | (with_reducible refine LeO.bind ?_ (fun _ => ?_))
   | exact ih0 _ _ _ _
   | exact LeO.none _
   | refine LeO.ite ?_ ?_
   | refine LeO.bind ?_ (fun _ => ?_)
set_option maxHeartbeats 8000000 in
set_option maxRecDepth 100000 in
theorem spec_l6Rd_pick.calls (k : Nat) (g : Nat) (s0_0 : List Int) (s0_1 : Int) (a1 : Int) (r1 : Int) (r2 : Int) (w0 w : World) (hI : IsS95 w0 w g s0_0 s0_1) (hB : Below w0.heap.size w0 w) (h : spec_l6Rd_pick.f k s0_0 s0_1 a1 = some (r1, r2)) :
  Calls Try.prog 58 #[.pointer (some ⟨g, 0, none⟩), .int .i64 a1] w fun e w' => e = .returned (.int .i64 r1) ∧ IsS95 w0 w' g s0_0 r2 ∧ Below w0.heap.size w0 w' ∧ KeepBut w w' g none := by
 have HI0 := Aside0.mk hI
 have HK := Aside0.mk (KeepBut.refl w g none)
 have HL := Aside0.mk hB.size
 clear hI
 have HW0 := Aside0.mk hB.size
 have HB := Aside0.mk hB
 clear hB
 have H : (if a1 < 1 then (spec_l6Rd_pick.j0 k a1 true s0_0 (wrap64 (s0_1 + 1))) else (spec_l6Rd_pick.j0 k a1 ((s0_0.length : Int) == 0) s0_0 (wrap64 (s0_1 + 1)))) = some (r1, r2) := h
 clear h
 have HC3 := Aside0.mk H
 clear H
 obtain ⟨ASz4_0, cSz4_0, HGz4, hgz4, HSz4_0⟩ := HI0.out
 have hcz4_0 := cellS95_0 HGz4
 have hcz4_1 := cellS95_1 HGz4
 have hfz4_1 := blk_frozen HGz4 1
 clear HGz4 hgz4
 go_enter Try.func58, Try.ntmps58
 go_upto_region 2 with (fail)
 repeat (go_quiet (fail); go_upto_region 2 with (fail))
 go_cut [24] (fun v24 wc => ∃ (kq : Nat) (x24_2 : Bool), v24 = .bool x24_2 ∧ Aside0 (spec_l6Rd_pick.j0 kq a1 x24_2 s0_0 (wrap64 (s0_1 + 1)) = some (r1, r2)) ∧ Aside0 (kq ≤ k) ∧ Aside0 (IsS95 w0 wc g s0_0 (wrap64 (s0_1 + 1))) ∧ Aside0 (KeepBut w wc g none) ∧ Aside0 (Below w0.heap.size w0 wc))
 case first =>
  have H := HC3.out
  clear HC3
  by_cases c5 : a1 < 1
  ·rw [if_pos c5] at H
   have c5b0 : decide (a1 < 1) = true := decide_eq_true c5
   clear c5
   (first | rw [c5b0] | (simp only [i64_w, i32_w]; rw [c5b0]) | skip)
   have H' := Aside0.mk H
   clear H
   go_wp2
   repeat (go_quiet (fail); try go_wp2)
   go_meet
   case rel => exact ⟨_, (true), y26, H', ⟨y43⟩, ⟨(y35 HI0.out)⟩, ⟨(y25 HK.out)⟩, ⟨(y33 HB.out HI0.out)⟩⟩
  ·rw [if_neg c5] at H
   have c5b0 : decide (a1 < 1) = false := decide_eq_false c5
   clear c5
   (first | rw [c5b0] | (simp only [i64_w, i32_w]; rw [c5b0]) | skip)
   have H' := Aside0.mk H
   clear H
   obtain ⟨ASz6_0, cSz6_0, HGz6, hgz6, HSz6_0⟩ := HI0.out
   have hcz6_0 := cellS95_0 HGz6
   have hcz6_1 := cellS95_1 HGz6
   have hfz6_1 := blk_frozen HGz6 1
   clear HGz6 hgz6
   go_wp2
   repeat (go_quiet (fail); try go_wp2)
   go_meet
   case rel => exact ⟨_, (((s0_0.length : Int) == 0)), y26, H', ⟨y43⟩, ⟨(y35 HI0.out)⟩, ⟨(y25 HK.out)⟩, ⟨(y33 HB.out HI0.out)⟩⟩
 case rest =>
  clear HC3
  try clear p2
  try clear c5
  try clear c5b0
  try clear p6
  try clear hcz4_0
  try clear hcz4_1
  try clear hcz6_0
  try clear hcz6_1
  try clear hfz4_1
  try clear hfz6_1
  obtain ⟨kq, x24_2, rfl, HA, HJ2, HI0, HK, HB⟩ := hcut
  cases kq with
  | zero => exact absurd HA.out (by simp [spec_l6Rd_pick.j0])
  | succ kj2 =>
   have H := HA.out
   clear HA
   simp only [spec_l6Rd_pick.j0] at H
   by_cases c7 : x24_2 = true
   ·subst c7
    rw [if_pos rfl] at H
    simp only [Option.some.injEq, Prod.mk.injEq] at H
    obtain ⟨rfl, rfl⟩ := H
    go_wp2
    repeat (go_quiet (fail); try go_wp2)
    go_ret
    exact ⟨y14, (y35 HI0.out), (y33 HB.out HI0.out), (y25 HK.out)⟩
   ·replace c7 := Bool.eq_false_iff.mpr c7
    subst c7
    rw [if_neg (show ¬ (false = true) by decide)] at H
    by_cases c8 : (wrap64 ((wrap64 (s0_1 + 1)) - 1)) < (s0_0.length : Int)
    ·rw [if_pos c8] at H
     have c8b0 : decide ((wrap64 ((wrap64 (s0_1 + 1)) - 1)) < (s0_0.length : Int)) = true := decide_eq_true c8
     clear c8
     obtain ⟨ji9, hji9⟩ : ∃ j_ : Int, (wrap64 ((wrap64 (s0_1 + 1)) - 1)) = j_ := ⟨_, rfl⟩
     replace H : (if 0 ≤ (ji9) then (if a1 = 0 then (none) else (some (Int.tmod (wrap64 (rd s0_0 (ji9))) a1, (wrap64 (s0_1 + 1))))) else (none)) = some (r1, r2) := by first | (rw [hji9] at H; exact H) | (simp only [hji9] at H ⊢; exact H)
     (try rw [hji9] at c8b0)
     have hji9w : (IntKind.i64.wrap ((wrap64 (s0_1 + 1)) - 1)) = ji9 := (i64_w _).trans hji9
     by_cases c10 : 0 ≤ (ji9)
     ·rw [if_pos c10] at H
      have c10b0 : decide (0 ≤ (ji9)) = true := decide_eq_true c10
      clear c10
      by_cases c11 : a1 = 0
      ·rw [if_pos c11] at H
       exact absurd H (by simp)
      ·rw [if_neg c11] at H
       have c11b0 : (a1 == 0) = false := beq_eq_false_iff_ne.mpr c11
       have c11b1 : (a1 != 0) = true := bne_iff_ne.mpr c11
       simp only [Option.some.injEq, Prod.mk.injEq] at H
       obtain ⟨rfl, rfl⟩ := H
       obtain ⟨ASz12_0, cSz12_0, HGz12, hgz12, HSz12_0⟩ := HI0.out
       have hcz12_0 := cellS95_0 HGz12
       have hcz12_1 := cellS95_1 HGz12
       have hfz12_1 := blk_frozen HGz12 1
       clear HGz12 hgz12
       have p178 : 0 ≤ ((ji9) : Int) := of_decide_eq_true y19
       have q178 : (ji9) < (s0_0.length : Int) := of_decide_eq_true y19
       obtain ⟨ad178, e178, hx178_0⟩ := Kd.at_int HSz12_0 (ji9) p178 q178
       cases e178
       replace hx178_0 := pw_cell_below HB.out hx178_0
       replace p178 := eq_true p178
       replace q178 := eq_true q178
       go_wp2
       repeat (go_quiet (fail); try go_wp2)
       go_ret
       exact ⟨(by first | rfl | (simp [errW_none, errW_some] <;> rfl) | (simp only [← hji9]; first | rfl | (simp [errW_none, errW_some] <;> rfl)) | (simp [*, errW_none, errW_some] <;> rfl)), (y35 HI0.out), (y33 HB.out HI0.out), (y25 HK.out)⟩
     ·rw [if_neg c10] at H
      exact absurd H (by simp)
    ·rw [if_neg c8] at H
     have c8b0 : decide ((wrap64 ((wrap64 (s0_1 + 1)) - 1)) < (s0_0.length : Int)) = false := decide_eq_false c8
     clear c8
     by_cases c13 : (s0_0.length : Int) = 0
     ·rw [if_pos c13] at H
      exact absurd H (by simp)
     ·rw [if_neg c13] at H
      have c13b0 : ((s0_0.length : Int) == 0) = false := beq_eq_false_iff_ne.mpr c13
      have c13b1 : ((s0_0.length : Int) != 0) = true := bne_iff_ne.mpr c13
      have c13b2 : ¬ (s0_0 = []) := fun h_ => c13 (by rw [h_]; rfl)
      obtain ⟨ji14, hji14⟩ : ∃ j_ : Int, (Int.tmod (wrap64 ((wrap64 (s0_1 + 1)) - 1)) (s0_0.length : Int)) = j_ := ⟨_, rfl⟩
      replace H : (if 0 ≤ (ji14) then (if (ji14) < (s0_0.length : Int) then (if 0 ≤ (Int.tmod (wrap64 ((wrap64 ((wrap64 ((wrap64 (s0_1 + 1)) - 1)) * 7)) + 3)) (s0_0.length : Int)) then (if (Int.tmod (wrap64 ((wrap64 ((wrap64 ((wrap64 (s0_1 + 1)) - 1)) * 7)) + 3)) (s0_0.length : Int)) < (s0_0.length : Int) then (if a1 = 0 then (none) else (some (Int.tmod (Go.bits .xor .i64 (wrap64 ((wrap64 ((wrap64 ((wrap64 ((wrap64 (rd s0_0 (ji14))) * 131)) + (wrap64 ((wrap64 (rd s0_0 (Int.tmod (wrap64 ((wrap64 ((wrap64 ((wrap64 (s0_1 + 1)) - 1)) * 7)) + 3)) (s0_0.length : Int)))) * 1117)))) + (wrap64 ((wrap64 ((wrap64 (s0_1 + 1)) - 1)) * 29)))) + (wrap64 ((wrap64 (Int.tdiv (wrap64 ((wrap64 (s0_1 + 1)) - 1)) (s0_0.length : Int))) * 53)))) (wrap64 (Int.tdiv (wrap64 ((wrap64 ((wrap64 ((wrap64 ((wrap64 (rd s0_0 (ji14))) * 131)) + (wrap64 ((wrap64 (rd s0_0 (Int.tmod (wrap64 ((wrap64 ((wrap64 ((wrap64 (s0_1 + 1)) - 1)) * 7)) + 3)) (s0_0.length : Int)))) * 1117)))) + (wrap64 ((wrap64 ((wrap64 (s0_1 + 1)) - 1)) * 29)))) + (wrap64 ((wrap64 (Int.tdiv (wrap64 ((wrap64 (s0_1 + 1)) - 1)) (s0_0.length : Int))) * 53)))) 64))) a1, (wrap64 (s0_1 + 1))))) else (none)) else (none)) else (none)) else (none)) = some (r1, r2) := by first | (rw [hji14] at H; exact H) | (simp only [hji14] at H ⊢; exact H)
      by_cases c15 : 0 ≤ (ji14)
      ·rw [if_pos c15] at H
       have c15b0 : decide (0 ≤ (ji14)) = true := decide_eq_true c15
       clear c15
       by_cases c16 : (ji14) < (s0_0.length : Int)
       ·rw [if_pos c16] at H
        have c16b0 : decide ((ji14) < (s0_0.length : Int)) = true := decide_eq_true c16
        clear c16
        obtain ⟨ji17, hji17⟩ : ∃ j_ : Int, (Int.tmod (wrap64 ((wrap64 ((wrap64 ((wrap64 (s0_1 + 1)) - 1)) * 7)) + 3)) (s0_0.length : Int)) = j_ := ⟨_, rfl⟩
        replace H : (if 0 ≤ (ji17) then (if (ji17) < (s0_0.length : Int) then (if a1 = 0 then (none) else (some (Int.tmod (Go.bits .xor .i64 (wrap64 ((wrap64 ((wrap64 ((wrap64 ((wrap64 (rd s0_0 (ji14))) * 131)) + (wrap64 ((wrap64 (rd s0_0 (ji17))) * 1117)))) + (wrap64 ((wrap64 ((wrap64 (s0_1 + 1)) - 1)) * 29)))) + (wrap64 ((wrap64 (Int.tdiv (wrap64 ((wrap64 (s0_1 + 1)) - 1)) (s0_0.length : Int))) * 53)))) (wrap64 (Int.tdiv (wrap64 ((wrap64 ((wrap64 ((wrap64 ((wrap64 (rd s0_0 (ji14))) * 131)) + (wrap64 ((wrap64 (rd s0_0 (ji17))) * 1117)))) + (wrap64 ((wrap64 ((wrap64 (s0_1 + 1)) - 1)) * 29)))) + (wrap64 ((wrap64 (Int.tdiv (wrap64 ((wrap64 (s0_1 + 1)) - 1)) (s0_0.length : Int))) * 53)))) 64))) a1, (wrap64 (s0_1 + 1))))) else (none)) else (none)) = some (r1, r2) := by first | (rw [hji17] at H; exact H) | (simp only [hji17] at H ⊢; exact H)
        by_cases c18 : 0 ≤ (ji17)
        ·rw [if_pos c18] at H
         have c18b0 : decide (0 ≤ (ji17)) = true := decide_eq_true c18
         clear c18
         by_cases c19 : (ji17) < (s0_0.length : Int)
         ·rw [if_pos c19] at H
          have c19b0 : decide ((ji17) < (s0_0.length : Int)) = true := decide_eq_true c19
          clear c19
          by_cases c20 : a1 = 0
          ·rw [if_pos c20] at H
           exact absurd H (by simp)
          ·rw [if_neg c20] at H
           have c20b0 : (a1 == 0) = false := beq_eq_false_iff_ne.mpr c20
           have c20b1 : (a1 != 0) = true := bne_iff_ne.mpr c20
           simp only [Option.some.injEq, Prod.mk.injEq] at H
           obtain ⟨rfl, rfl⟩ := H
           obtain ⟨ASz21_0, cSz21_0, HGz21, hgz21, HSz21_0⟩ := HI0.out
           have hcz21_0 := cellS95_0 HGz21
           have hcz21_1 := cellS95_1 HGz21
           have hfz21_1 := blk_frozen HGz21 1
           clear HGz21 hgz21
           have p179 : 0 ≤ ((ji14) : Int) := of_decide_eq_true y19
           have q179 : (ji14) < (s0_0.length : Int) := of_decide_eq_true y19
           obtain ⟨ad179, e179, hx179_0⟩ := Kd.at_int HSz21_0 (ji14) p179 q179
           cases e179
           replace hx179_0 := pw_cell_below HB.out hx179_0
           replace p179 := eq_true p179
           replace q179 := eq_true q179
           have p180 : 0 ≤ ((ji17) : Int) := of_decide_eq_true y19
           have q180 : (ji17) < (s0_0.length : Int) := of_decide_eq_true y19
           obtain ⟨ad180, e180, hx180_0⟩ := Kd.at_int HSz21_0 (ji17) p180 q180
           obtain rfl : ad179 = ad180 := (by injection e180)
           replace hx180_0 := pw_cell_below HB.out hx180_0
           replace p180 := eq_true p180
           replace q180 := eq_true q180
           go_wp2
           repeat (go_quiet (fail); try go_wp2)
           go_ret
           exact ⟨(by first | rfl | (simp [errW_none, errW_some] <;> rfl) | (simp only [← hji14, ← hji17]; first | rfl | (simp [errW_none, errW_some] <;> rfl)) | (simp [*, errW_none, errW_some] <;> rfl)), (y35 HI0.out), (y33 HB.out HI0.out), (y25 HK.out)⟩
         ·rw [if_neg c19] at H
          exact absurd H (by simp)
        ·rw [if_neg c18] at H
         exact absurd H (by simp)
       ·rw [if_neg c16] at H
        exact absurd H (by simp)
      ·rw [if_neg c15] at H
       exact absurd H (by simp)
end Go.Proofs.Ytjhbhihfifhljaa.PA
end
section
namespace Go.Proofs.Ytjhbhihfifhljaa.PA
open Go.RowKit Go.Proofs.YtjhbhihfifhljaaW.PrintWords Go.Proofs.YtjhbhihfifhljaaW.PrintLast Go.Proofs.YtjhbhihfifhljaaW.PrintMore
attribute [local go_sem] max2_int min2_int max_two min_two max_three min_three max_four min_four
set_option linter.unusedVariables false
set_option linter.unusedSimpArgs false
mutual
def spec_l71Type.j0 : Nat → Int → Bool → List Int → Int → Option ((List (S30)) × Int)
 | 0, _, _, _, _ => none
 | k + 1, x1, x11, x1000, x1001 => if x11 = true then (some (([] : List (S30)), x1001)) else ((spec_l71Type.f k x1000 x1001 (wrap64 (x1 - 1))).bind fun bt184 => ((spec_l71Type.f k x1000 bt184.2 (wrap64 (x1 - 1))).bind fun bt188 => (some ((([(⟨bt184.1⟩ : S30), (⟨bt188.1⟩ : S30)] : List (S30))), bt188.2))))
def spec_l71Type.f : Nat → List Int → Int → Int → Option ((List (S30)) × Int)
 | 0, _, _, _ => none
 | k + 1, s0_0, s0_1, a1 => if a1 < 2 then (spec_l71Type.j0 k a1 true s0_0 s0_1) else ((spec_l6Rd_pick.f k s0_0 s0_1 3).bind fun bt182 => (spec_l71Type.j0 k a1 (decide (bt182.1 > 0)) s0_0 bt182.2))
end
theorem spec_l71Type.mono_l : ∀ k, (∀ y0 y1 y2, LeO (spec_l71Type.f k y0 y1 y2) (spec_l71Type.f (k + 1) y0 y1 y2)) ∧ (∀ y0 y1 y2 y3, LeO (spec_l71Type.j0 k y0 y1 y2 y3) (spec_l71Type.j0 (k + 1) y0 y1 y2 y3))
 | 0 => ⟨fun _ _ _ r h => by simp [spec_l71Type.f] at h, fun _ _ _ _ r h => by simp [spec_l71Type.j0] at h⟩
 | k + 1 => by
  obtain ⟨ih0, ih1⟩ := spec_l71Type.mono_l k
  refine ⟨?_, ?_⟩
  ·intro y0 y1 y2
   unfold spec_l71Type.f
   repeat' first
   | (with_reducible exact ih0 _ _ _)
   | (with_reducible exact ih1 _ _ _ _)
   | (with_reducible exact spec_l6Rd_pick.mono _ _ _ _)
   | (with_reducible exact LeO.refl _)
   | (with_reducible exact LeO.none _)
   | (with_reducible refine LeO.ite ?_ ?_)
   | (with_reducible refine LeO.bind ?_ (fun _ => ?_))
   | exact ih0 _ _ _
   | exact ih1 _ _ _ _
   | exact spec_l6Rd_pick.mono _ _ _ _
   | exact LeO.none _
   | refine LeO.ite ?_ ?_
   | refine LeO.bind ?_ (fun _ => ?_)
  ·intro y0 y1 y2 y3
   unfold spec_l71Type.j0
   repeat' first
   | (with_reducible exact ih0 _ _ _)
   | (with_reducible exact ih1 _ _ _ _)
   | (with_reducible exact spec_l6Rd_pick.mono _ _ _ _)
   | (with_reducible exact LeO.refl _)
   | (with_reducible exact LeO.none _)
   | (with_reducible refine LeO.ite ?_ ?_)
   | (with_reducible refine LeO.bind ?_ (fun _ => ?_))
   | exact ih0 _ _ _
   | exact ih1 _ _ _ _
   | exact spec_l6Rd_pick.mono _ _ _ _
   | exact LeO.none _
   | refine LeO.ite ?_ ?_
   | refine LeO.bind ?_ (fun _ => ?_)
theorem spec_l71Type.mono : ∀ a0 a1 a2 k, LeO (spec_l71Type.f k a0 a1 a2) (spec_l71Type.f (k + 1) a0 a1 a2) := by
 intro a0 a1 a2 k
 obtain ⟨ih0, ih1⟩ := spec_l71Type.mono_l k
 exact ih0 a0 a1 a2
set_option maxHeartbeats 8000000 in
set_option maxRecDepth 100000 in
theorem spec_l71Type.calls (k : Nat) : ∀ (g : Nat) (s0_0 : List Int) (s0_1 : Int) (a1 : Int) (r1 : List (S30)) (r2 : Int) (w0 w : World) (hI : IsS95 w0 w g s0_0 s0_1) (hB : Below w0.heap.size w0 w) (h : spec_l71Type.f k s0_0 s0_1 a1 = some (r1, r2)),
  Calls Try.prog 67 #[.pointer (some ⟨g, 0, none⟩), .int .i64 a1] w fun e w' => ∃ v0_ : Value, e = .returned (.agg #[v0_]) ∧ Kd.N k30 30 w' w.heap.size (fun k_ => (w.heap.size ≤ k_)) v0_ r1 ∧ IsS95 w0 w' g s0_0 r2 ∧ Below w0.heap.size w0 w' ∧ KeepBut w w' g none := by
 induction k using Nat.strongRecOn with
 | _ k ih =>
 intro g s0_0 s0_1 a1 r1 r2 w0 w hI hB h
 cases k with
 | zero => exact absurd h (by simp [spec_l71Type.f])
 | succ k =>
 simp only [spec_l71Type.f] at h
 have hu30 := Try.underlying30
 have HI0 := Aside0.mk hI
 have HK := Aside0.mk (KeepBut.refl w g none)
 have HL := Aside0.mk hB.size
 clear hI
 have HW0 := Aside0.mk hB.size
 have HB := Aside0.mk hB
 clear hB
 have H : (if a1 < 2 then (spec_l71Type.j0 k a1 true s0_0 s0_1) else ((spec_l6Rd_pick.f k s0_0 s0_1 3).bind fun bt182 => (spec_l71Type.j0 k a1 (decide (bt182.1 > 0)) s0_0 bt182.2))) = some (r1, r2) := h
 clear h
 have HC3 := Aside0.mk H
 clear H
 go_enter Try.func67, Try.ntmps67
 go_upto_region 1 with (first | ((with_reducible refine gate_dst (N := 4) rfl ?_); refine zbx 4 #[.slice none 0 0] 30 ?_; intro gb181 hg w4 hbox hb; replace HB := Aside0.mk (below_step (y33 HB.out HI0.out) hb); have BK181 := Aside0.mk hbox; have GW181 := Aside0.mk ((by rw [hg]; exact (keep_size (w := w) (g := g) (row := none) (y25 HK.out)) : w.heap.size ≤ gb181)); have GE181 := Aside0.mk ((Nat.le_trans HW0.out (by rw [hg]; exact (keep_size (w := w) (g := g) (row := none) (y25 HK.out)) : w.heap.size ≤ gb181) : w0.heap.size ≤ gb181)); replace HK := Aside0.mk (KeepBut.trans (y25 HK.out) (KeepBut.of_below hb g none) (.inl rfl)); have NB0_181 := Aside0.mk ((by rw [hg]; exact Nat.ne_of_lt (IsS95.lt (show IsS95 w0 _ g s0_0 s0_1 from by repeat (first | (with_reducible first | exact HI0.out | apply IsS95.alloc | apply IsS95.drewN | apply IsS95.drew | apply IsS95.set_1) | exact HI0.out))) : g ≠ gb181)); have NB181_0 := Aside0.mk ((by rw [hg]; exact Nat.ne_of_gt (IsS95.lt (show IsS95 w0 _ g s0_0 s0_1 from by repeat (first | (with_reducible first | exact HI0.out | apply IsS95.alloc | apply IsS95.drewN | apply IsS95.drew | apply IsS95.set_1) | exact HI0.out))) : gb181 ≠ g)); replace HI0 := Aside0.mk (IsS95.below (y35 HI0.out) hb); clear hb hbox hg))
 (try simp only [Act.put, List.setIfInBounds_toArray, List.set_cons_zero, List.set_cons_succ])
 go_cut [11] (fun v11 wc => ∃ (kq : Nat) (x11_2 : Bool) (x1001_2 : Int), v11 = .bool x11_2 ∧ Aside0 (spec_l71Type.j0 kq a1 x11_2 s0_0 x1001_2 = some (r1, r2)) ∧ Aside0 (kq ≤ k) ∧ Aside0 (wc.heap[gb181]? = some (.cells #[(.slice none 0 0)] 30 (0, 0))) ∧ Aside0 (IsS95 w0 wc g s0_0 x1001_2) ∧ Aside0 (KeepBut w wc g none) ∧ Aside0 (Below w0.heap.size w0 wc))
 case first =>
  have H := HC3.out
  clear HC3
  by_cases c5 : a1 < 2
  ·rw [if_pos c5] at H
   have c5b0 : decide (a1 < 2) = true := decide_eq_true c5
   clear c5
   (first | rw [c5b0] | (simp only [i64_w, i32_w]; rw [c5b0]) | skip)
   have H' := Aside0.mk H
   clear H
   go_wp2
   go_meet
   case rel => exact ⟨_, (true), (s0_1), y26, H', ⟨y43⟩, ⟨(y0 BK181.out)⟩, ⟨(y24 HI0.out NB0_181.out)⟩, ⟨(y18 HK.out GW181.out)⟩, ⟨(y23 HB.out HI0.out GE181.out)⟩⟩
  ·rw [if_neg c5] at H
   have c5b0 : decide (a1 < 2) = false := decide_eq_false c5
   clear c5
   (first | rw [c5b0] | (simp only [i64_w, i32_w]; rw [c5b0]) | skip)
   obtain ⟨⟨t182, t183⟩, A60, H⟩ := ob H
   have A6 := Aside0.mk A60
   clear A60
   have H' := Aside0.mk H
   clear H
   go_wp2_with (first | (go_at_call 58; (with_reducible refine (spec_l6Rd_pick.calls k g s0_0 s0_1 3 t182 t183 w0 _ ?side1 ?side2 A6.out).mono ?_); (case side1 => exact y24 HI0.out NB0_181.out); (case side2 => exact y23 HB.out HI0.out GE181.out); rintro e w7 ⟨rfl, hi, hb, hk⟩; replace BK181 := Aside0.mk (KeepBut.blk hk (g' := gb181) (o := .cells #[.slice none 0 0] 30 (0, 0)) (y0 BK181.out) NB181_0.out (by simp)); replace HK := Aside0.mk (KeepBut.trans (y18 HK.out GW181.out) hk (.inl rfl)); replace HB := Aside0.mk (hb); replace HI0 := Aside0.mk (hi); (try clear hb); (try clear hb2); (try clear hk); (try clear hi)))
   go_meet
   case rel => exact ⟨_, (decide (t182 > 0)), (t183), y26, H', ⟨y43⟩, ⟨(y0 BK181.out)⟩, ⟨(y24 HI0.out NB0_181.out)⟩, ⟨(y18 HK.out GW181.out)⟩, ⟨(y23 HB.out HI0.out GE181.out)⟩⟩
 case rest =>
  clear HC3
  try clear p2
  try clear c5
  try clear c5b0
  try clear c6
  obtain ⟨kq, x11_2, x1001_2, rfl, HA, HJ2, BK181, HI0, HK, HB⟩ := hcut
  cases kq with
  | zero => exact absurd HA.out (by simp [spec_l71Type.j0])
  | succ kj2 =>
   have H := HA.out
   clear HA
   simp only [spec_l71Type.j0] at H
   by_cases c8 : x11_2 = true
   ·subst c8
    rw [if_pos rfl] at H
    simp only [Option.some.injEq, Prod.mk.injEq] at H
    obtain ⟨rfl, rfl⟩ := H
    have hnb9 := NB181_0.out
    have hnc9 := NB0_181.out
    have hcz10_0 := zh BK181
    have hfz10_0 := zfr BK181 0
    go_wp2
    refine bodyPost_ret (results_cell_row rfl _ _ gb181 30 #[.slice none 0 0] (0, 0) _ rfl (by (with_reducible repeat (first | refine blk_drewN ?_ _ | refine blk_drew ?_ | refine blk_alloc ?_ _)); apply blk_put (i := 0); (case h => exact y0 BK181.out); (case e => rfl)) Try.underlying30 rfl (by kernel_rfl)) rfl ?_
    exact ⟨_, y14, y36, (y24 HI0.out NB0_181.out), (y23 HB.out HI0.out GE181.out), (y18 HK.out GW181.out)⟩
   ·replace c8 := Bool.eq_false_iff.mpr c8
    subst c8
    rw [if_neg (show ¬ (false = true) by decide)] at H
    obtain ⟨⟨t184, t187⟩, A110, H⟩ := ob H
    have A11 := Aside0.mk A110
    clear A110
    obtain ⟨⟨t188, t191⟩, A120, H⟩ := ob H
    have A12 := Aside0.mk A120
    clear A120
    obtain ⟨y192, hy192⟩ : ∃ y_ : List (S30), y_ = (([(⟨t184⟩ : S30), (⟨t188⟩ : S30)] : List (S30))) := ⟨_, rfl⟩
    replace H : (some (y192, t191)) = some (r1, r2) := by first | (rw [hy192]; with_reducible exact H) | (have H2_ := (Option.bind_some _ _).symm.trans H; rw [hy192]; with_reducible exact H2_) | (have H2_ := (Option.bind_some _ _).symm.trans H; with_reducible exact H2_) | with_reducible exact H | (rw [hy192]; exact H) | exact H
    have Ny192 := Aside0.mk hy192
    clear hy192
    simp only [Option.some.injEq, Prod.mk.injEq] at H
    obtain ⟨rfl, rfl⟩ := H
    go_wp2_with (first | ((with_reducible refine gate_callee (f := 67) rfl ?_); refine goesL_ (some 16) rfl rfl Try.func67 (by kernel_rfl) rfl #[.pointer (some ⟨g, 0, none⟩), .int .i64 (wrap64 (a1 - 1))] rfl y4 ?_; (with_reducible refine (ih kj2 (y46 HJ2.out) g s0_0 x1001_2 (wrap64 (a1 - 1)) t184 t187 w0 _ ?side1 ?side2 A11.out).mono ?_); (case side1 => exact y24 HI0.out NB0_181.out); (case side2 => exact y23 HB.out HI0.out GE181.out); rintro e w13 ⟨v185, rfl, ho0, hi, hb, hk⟩; refine ⟨_, rfl, ?_⟩; have HO186 := Aside0.mk (Kd.N_lower (Kd.N_mono (ok' := fun k_ => (w.heap.size ≤ k_) ∧ k_ ≠ gb181 ∧ k_ ≠ g) ho0 (fun k_ hk_ => ⟨(Nat.le_trans (keep_size (w := w) (g := g) (row := none) (y18 HK.out GW181.out)) hk_), (Kd.freshB (g := gb181) (o := .cells #[.slice none 0 0] 30 (0, 0)) (y0 BK181.out) k_ hk_), (IsS95.fresh (y24 HI0.out NB0_181.out) k_ hk_)⟩)) (keep_size (w := w) (g := g) (row := none) (y18 HK.out GW181.out))); replace BK181 := Aside0.mk (KeepBut.blk hk (g' := gb181) (o := .cells #[.slice none 0 0] 30 (0, 0)) (y0 BK181.out) NB181_0.out (by simp)); replace HK := Aside0.mk (KeepBut.trans (y18 HK.out GW181.out) hk (.inl rfl)); replace HB := Aside0.mk (hb); replace HI0 := Aside0.mk (hi); (try clear hb); (try clear hb2); (try clear hk); (try clear hi); (try clear ho0)) | ((with_reducible refine gate_callee (f := 67) rfl ?_); refine goesL_ (some 20) rfl rfl Try.func67 (by kernel_rfl) rfl #[.pointer (some ⟨g, 0, none⟩), .int .i64 (wrap64 (a1 - 1))] rfl y4 ?_; (with_reducible refine (ih kj2 (y46 HJ2.out) g s0_0 t187 (wrap64 (a1 - 1)) t188 t191 w0 _ ?side1 ?side2 A12.out).mono ?_); (case side1 => exact y24 HI0.out NB0_181.out); (case side2 => exact y23 HB.out HI0.out GE181.out); rintro e w14 ⟨v189, rfl, ho0, hi, hb, hk⟩; refine ⟨_, rfl, ?_⟩; have HO190 := Aside0.mk (Kd.N_lower (Kd.N_mono (ok' := fun k_ => (w.heap.size ≤ k_) ∧ some k_ ≠ (v185 : Value).ownBlock ∧ k_ ≠ gb181 ∧ k_ ≠ g) ho0 (fun k_ hk_ => ⟨(Nat.le_trans (keep_size (w := w) (g := g) (row := none) (y18 HK.out GW181.out)) hk_), (Kd.fresh' (Kd.N_lt (y9 HO186.out)) k_ hk_), (Kd.freshB (g := gb181) (o := .cells #[.slice none 0 0] 30 (0, 0)) (y0 BK181.out) k_ hk_), (IsS95.fresh (y24 HI0.out NB0_181.out) k_ hk_)⟩)) (keep_size (w := w) (g := g) (row := none) (y18 HK.out GW181.out))); replace BK181 := Aside0.mk (KeepBut.blk hk (g' := gb181) (o := .cells #[.slice none 0 0] 30 (0, 0)) (y0 BK181.out) NB181_0.out (by simp)); replace HO186 := Aside0.mk (Kd.N_mono (Kd.N_told (Kd.N_oldK (Kd.N_mono (ok := fun k_ => (((w.heap.size ≤ k_)) ∧ (k_ ≠ gb181 ∧ k_ ≠ g))) (y9 HO186.out) (fun k_ hk_ => (⟨hk_, hk_.2.2⟩ : _ ∧ k_ ≠ g))) hk) (Kd.N_base ho0)) (fun _ h_ => h_.1)); replace HK := Aside0.mk (KeepBut.trans (y18 HK.out GW181.out) hk (.inl rfl)); replace HB := Aside0.mk (hb); replace HI0 := Aside0.mk (hi); (try clear hb); (try clear hb2); (try clear hk); (try clear hi); (try clear ho0); obtain ⟨Ao15, co15, eo15⟩ := Kd.N_slice HO186.out; subst eo15; obtain ⟨Ao16, co16, eo16⟩ := Kd.N_slice HO190.out; subst eo16) | ((with_reducible refine gate_dst (N := 21) rfl ?_); refine Kd.N_lit k30 _ 30 ?hg (N' := 21) ?hd (xs := ([(⟨t184⟩ : S30), (⟨t188⟩ : S30)] : List (S30))) (inner := [.slice Ao15 t184.length co15, .slice Ao16 t188.length co16]) (ok := (fun k_ => (w.heap.size ≤ k_) ∧ k_ ≠ gb181 ∧ k_ ≠ g)) (okp := (fun k_ => (w.heap.size ≤ k_) ∧ k_ ≠ gb181 ∧ k_ ≠ g)) ?hr ?hp (fun _ hk => hk) ((show ∀ k_, w14.heap.size ≤ k_ → (fun k_ => (w.heap.size ≤ k_) ∧ k_ ≠ gb181 ∧ k_ ≠ g) k_ from fun k_ hk => ⟨(Nat.le_trans (keep_size (w := w) (g := g) (row := none) (y18 HK.out GW181.out)) hk), Kd.freshB (g := gb181) (o := .cells #[.slice none 0 0] 30 (0, 0)) (y0 BK181.out) k_ hk, IsS95.fresh (y24 HI0.out NB0_181.out) k_ hk⟩) _ (Nat.le_refl _)) (Below.refl _ _) (Nat.le_refl _) (by simp) ?_; (case hd => rfl); (case hg => rfl); (case hr => first | (go_simp; done) | (go_simp; rfl)); (case hp => exact (Reps.one (show Kd.FK k30 _ _ (⟨t184⟩ : S30) [.slice Ao15 t184.length co15] from (k30_mkF _ _ (⟨t184⟩ : S30) (Kd.N_reads' (Kd.N_mono (ok' := (fun k_ => (w.heap.size ≤ k_) ∧ k_ ≠ gb181 ∧ k_ ≠ g)) (HO186.out) (fun k_ hk => ⟨hk.1.1, ⟨hk.1.2.1, hk.1.2.2⟩⟩))).2.1 (Kd.N_F (Kd.N_mono (ok' := (fun k_ => (w.heap.size ≤ k_) ∧ k_ ≠ gb181 ∧ k_ ≠ g)) (HO186.out) (fun k_ hk => ⟨hk.1.1, ⟨hk.1.2.1, hk.1.2.2⟩⟩))))) (Reps.one (show Kd.FK k30 _ _ (⟨t188⟩ : S30) [.slice Ao16 t188.length co16] from (k30_mkF _ _ (⟨t188⟩ : S30) (Kd.N_reads' (Kd.N_mono (ok' := (fun k_ => (w.heap.size ≤ k_) ∧ k_ ≠ gb181 ∧ k_ ≠ g)) (HO190.out) (fun k_ hk => ⟨hk.1, ⟨hk.2.2.1, hk.2.2.2⟩⟩))).2.1 (Kd.N_F (Kd.N_mono (ok' := (fun k_ => (w.heap.size ≤ k_) ∧ k_ ≠ gb181 ∧ k_ ≠ g)) (HO190.out) (fun k_ hk => ⟨hk.1, ⟨hk.2.2.1, hk.2.2.2⟩⟩))))) (Reps.none _ _)))); intro v193 w17 ho18 hb hg_ hnew_; clear hg_ hnew_; (first | rw [← Ny192.out] at ho18 | (simp only [Int.reduceToNat] at ho18; rw [← Ny192.out] at ho18)); have HO194 := Aside0.mk (Kd.N_lower ho18 (keep_size (w := w) (g := g) (row := none) (y18 HK.out GW181.out))); replace BK181 := zbb BK181 hb; replace HK := Aside0.mk (KeepBut.trans (y18 HK.out GW181.out) (KeepBut.of_below hb g none) (.inl rfl)); replace HB := Aside0.mk (below_step (y23 HB.out HI0.out GE181.out) hb); replace HI0 := Aside0.mk (IsS95.below (y24 HI0.out NB0_181.out) hb); clear HO186 HO190; clear hb ho18; obtain ⟨Ao19, co19, eo19⟩ := Kd.N_slice HO194.out; subst eo19; have hnb20 := NB181_0.out; have hnc20 := NB0_181.out; have hcz21_0 := zh BK181; have hfz21_0 := zfr BK181 0))
    refine bodyPost_ret (results_cell_row rfl _ _ gb181 30 #[.slice Ao19 y192.length co19] (0, 0) _ rfl (by (with_reducible repeat (first | refine blk_drewN ?_ _ | refine blk_drew ?_ | refine blk_alloc ?_ _)); apply blk_put (i := 0); (case h => exact y0 BK181.out); (case e => rfl)) Try.underlying30 rfl (by kernel_rfl)) rfl ?_
    exact ⟨_, y14, (by (with_reducible repeat (first | apply Kd.N_alloc | apply Kd.N_drewN | apply Kd.N_drew)); exact Kd.N_mono (Kd.N_far (p := ⟨gb181, 0, none⟩) (Kd.N_mono HO194.out (fun k_ hk => (⟨hk, hk.2.1⟩ : _ ∧ k_ ≠ gb181))) (fun _ hk => hk.2) (.slice Ao19 y192.length co19)) (fun _ hk => hk.1.1)), (y24 HI0.out NB0_181.out), (y23 HB.out HI0.out GE181.out), (y18 HK.out GW181.out)⟩
end Go.Proofs.Ytjhbhihfifhljaa.PA
end
section
namespace Go.Proofs.Ytjhbhihfifhljaa.PA
open Go.RowKit Go.Proofs.YtjhbhihfifhljaaW.PrintWords Go.Proofs.YtjhbhihfifhljaaW.PrintLast Go.Proofs.YtjhbhihfifhljaaW.PrintMore
attribute [local go_sem] max2_int min2_int max_two min_two max_three min_three max_four min_four
set_option linter.unusedVariables false
set_option linter.unusedSimpArgs false
def spec_l6Open.f (l0 : List Int) : Option (List Int × Int) := if (l0.length : Int) > 2000 then (if 2000 ≤ (l0.length : Int) then (some (l0.take 2000, 0)) else (none)) else (some (l0, 0))
set_option maxHeartbeats 8000000 in
set_option maxRecDepth 100000 in
theorem spec_l6Open.calls (A0 : Option Addr) (c0 : Nat) (l0 : List Int) (r1 : List Int) (r2 : Int) (w0 w : World) (hB : Below w0.heap.size w0 w) (hr0 : Kd.C (Kd.int .u8) w0 A0 l0.length l0) (hc0 : l0.length ≤ c0) (h : spec_l6Open.f l0 = some (r1, r2)) :
  Calls Try.prog 52 #[.slice A0 l0.length c0] w fun e w' => ∃ g_ : Nat, e = .returned (.pointer (some ⟨g_, 0, none⟩)) ∧ IsS95 w0 w' g_ r1 r2 ∧ Below w0.heap.size w0 w' ∧ Below w.heap.size w w' := by
 have hu95 := Try.underlying95
 have HR0 := Aside0.mk hr0
 have HC0 := Aside0.mk hc0
 clear hr0 hc0
 have HBW := Aside0.mk (Below.refl w.heap.size w)
 have HW0 := Aside0.mk hB.size
 have HB := Aside0.mk hB
 clear hB
 have H : (if (l0.length : Int) > 2000 then (if 2000 ≤ (l0.length : Int) then (some (l0.take 2000, 0)) else (none)) else (some (l0, 0))) = some (r1, r2) := h
 clear h
 by_cases c2 : (l0.length : Int) > 2000
 ·rw [if_pos c2] at H
  have c2b0 : decide (2000 < (l0.length : Int)) = true := decide_eq_true c2
  have c2b1 : decide (2000 < l0.length) = true := decide_eq_true (by omega)
  clear c2
  by_cases c3 : 2000 ≤ (l0.length : Int)
  ·rw [if_pos c3] at H
   have c3b0 := eq_true c3
   have c3b1 : decide (2000 ≤ (l0.length : Int)) = true := decide_eq_true c3
   clear c3
   simp only [Option.some.injEq, Prod.mk.injEq] at H
   obtain ⟨rfl, rfl⟩ := H
   obtain ⟨i04, hi04, _, hsz4, _⟩ := info_parts info5
   obtain ⟨hcut4, hA4, hC4⟩ := print_take_of (P := Try.prog) (Value.int .u8) 0 34 5 .i64 Try.underlying34 hi04 hsz4 A0 c0 l0 2000 (by omega) (of_decide_eq_true y19) HC0.out
   have HR211 := Aside0.mk (Kd.C_of_reads (h1 := fun _ => rfl) (hA4 _ (Kd.reads_of_C HR0.out)))
   have HC211 := Aside0.mk hC4
   clear hA4 hC4 hi04 hsz4
   go_enter Try.func52, Try.ntmps52
   go_wp2_with (first | ((with_reducible refine gate_dst (N := 10) rfl ?_); refine zbx 10 #[.slice A0 (l0.take 2000).length c0, .int .i64 0] 95 ?_; intro gb212 hg w5 hbox hb; replace HB := Aside0.mk (below_step (y2 HB.out) hb); have BK212 := Aside0.mk hbox; have GW212 := Aside0.mk ((y5 hg HBW.out : w.heap.size ≤ gb212)); have GE212 := Aside0.mk ((Nat.le_trans HW0.out (y5 hg HBW.out : w.heap.size ≤ gb212) : w0.heap.size ≤ gb212)); replace HBW := Aside0.mk (below_step HBW.out hb); clear hb hbox hg))
   go_ret
   exact ⟨_, rfl, (show IsS95 w0 _ gb212 (l0.take 2000) 0 from ⟨_, _, (y0 BK212.out), GE212.out, HR211.out⟩), (y3 HB.out GE212.out), (y3 HBW.out GW212.out)⟩
  ·rw [if_neg c3] at H
   exact absurd H (by simp)
 ·rw [if_neg c2] at H
  have c2b0 : decide (2000 < (l0.length : Int)) = false := decide_eq_false c2
  have c2b1 : decide (2000 < l0.length) = false := decide_eq_false (by omega)
  clear c2
  simp only [Option.some.injEq, Prod.mk.injEq] at H
  obtain ⟨rfl, rfl⟩ := H
  go_enter Try.func52, Try.ntmps52
  go_wp2_with (first | ((with_reducible refine gate_dst (N := 10) rfl ?_); refine zbx 10 #[.slice A0 l0.length c0, .int .i64 0] 95 ?_; intro gb213 hg w6 hbox hb; replace HB := Aside0.mk (below_step (y2 HB.out) hb); have BK213 := Aside0.mk hbox; have GW213 := Aside0.mk ((y5 hg HBW.out : w.heap.size ≤ gb213)); have GE213 := Aside0.mk ((Nat.le_trans HW0.out (y5 hg HBW.out : w.heap.size ≤ gb213) : w0.heap.size ≤ gb213)); replace HBW := Aside0.mk (below_step HBW.out hb); clear hb hbox hg))
  go_ret
  exact ⟨_, rfl, (show IsS95 w0 _ gb213 l0 0 from ⟨_, _, (y0 BK213.out), GE213.out, HR0.out⟩), (y3 HB.out GE213.out), (y3 HBW.out GW213.out)⟩
end Go.Proofs.Ytjhbhihfifhljaa.PA
end
section
namespace Go.Proofs.Ytjhbhihfifhljaa.Draw
open Go.RowKit Go.Proofs.Ytjhbhihfifhljaa.PA Go.Proofs.YtjhbhihfifhljaaW.PrintWords Go.Proofs.YtjhbhihfifhljaaW.PrintLast
def Bytes (s : List Int) : Prop := s.length ≤ 2000 ∧ ∀ x ∈ s, 0 ≤ x ∧ x ≤ 255
theorem rd_byte {s : List Int} (h : Bytes s) (i : Int) : 0 ≤ rd s i ∧ rd s i ≤ 255 := by
  unfold rd
  rw [List.getD_eq_getElem?_getD]
  cases e : s[i.toNat]? with
  | none => simp
  | some x => exact h.2 x (List.mem_of_getElem? e)
theorem w64 {x : Int} (h0 : -9223372036854775808 ≤ x) (h1 : x ≤ 9223372036854775807) : wrap64 x = x := by unfold wrap64; omega
theorem w01 : wrap64 (0 + 1) = 1 := by rw [w64 (by omega) (by omega)]; rfl
theorem w12 : wrap64 (1 + 1) = 2 := by rw [w64 (by omega) (by omega)]; rfl
theorem xor_nonneg (a b : Nat) (ha : a < 2 ^ 62) (hb : b < 2 ^ 62) : 0 ≤ Go.bits .xor .i64 a b := by
  have hp : (2 : Nat) ^ 62 ≤ 2 ^ IntKind.i64.bits := Nat.pow_le_pow_right (by decide) (by decide)
  have ha' : a % 2 ^ IntKind.i64.bits = a := Nat.mod_eq_of_lt (Nat.lt_of_lt_of_le ha hp)
  have hb' : b % 2 ^ IntKind.i64.bits = b := Nat.mod_eq_of_lt (Nat.lt_of_lt_of_le hb hp)
  simp only [Go.bits, BitVec.ofInt_natCast, BitVec.toNat_xor, BitVec.toNat_ofNat, ha', hb']
  rw [IntKind.wrap_i64]
  have := Nat.xor_lt_two_pow ha hb
  omega
theorem xor_nonneg' (x y : Int) (hx : 0 ≤ x) (hx1 : x < 4611686018427387904) (hy : 0 ≤ y) (hy1 : y < 4611686018427387904) : 0 ≤ Go.bits .xor .i64 x y := by
  obtain ⟨a, rfl⟩ := Int.eq_ofNat_of_zero_le hx
  obtain ⟨b, rfl⟩ := Int.eq_ofNat_of_zero_le hy
  exact xor_nonneg a b (by omega) (by omega)
theorem tmod_range (x n : Int) (hx : 0 ≤ x) (hn : 1 ≤ n) : 0 ≤ Int.tmod x n ∧ Int.tmod x n < n := by
  rw [Int.tmod_eq_emod_of_nonneg hx]
  exact ⟨Int.emod_nonneg _ (by omega), Int.emod_lt_of_pos _ (by omega)⟩
theorem tdiv_range (x n : Int) (hx : 0 ≤ x) (hn : 1 ≤ n) : 0 ≤ Int.tdiv x n ∧ Int.tdiv x n ≤ x := by
  rw [Int.tdiv_eq_ediv_of_nonneg hx]
  exact ⟨Int.ediv_nonneg hx (by omega), Int.ediv_le_self _ hx⟩
theorem pick_ev (s : List Int) (hs : Bytes s) (p n : Int) (hp : 0 ≤ p) (hp1 : p ≤ 1099511627776) (hn : 1 ≤ n) :
    ∃ r, (∀ k, 2 ≤ k → spec_l6Rd_pick.f k s p n = some (r, p + 1)) ∧ 0 ≤ r ∧ r < n := by
  have e1 : wrap64 (p + 1) = p + 1 := w64 (by omega) (by omega)
  have e2 : wrap64 (p + 1 - 1) = p := by rw [w64 (by omega) (by omega)]; omega
  by_cases h0 : (s.length : Int) = 0
  · refine ⟨0, fun k hk => ?_, by omega, by omega⟩
    obtain ⟨k, rfl⟩ : ∃ m, k = m + 1 := ⟨k - 1, by omega⟩
    simp only [spec_l6Rd_pick.f]
    rw [if_neg (by omega), e1, show ((s.length : Int) == 0) = true from beq_iff_eq.2 h0]
    simp only [spec_l6Rd_pick.j0, if_true]
  have hl : 0 < s.length := by omega
  have hl2 := hs.1
  have hb : ((s.length : Int) == 0) = false := by simpa using h0
  by_cases hlt : p < (s.length : Int)
  · have hr := rd_byte hs p
    have hq := tmod_range (rd s p) n hr.1 hn
    refine ⟨_, fun k hk => ?_, hq.1, hq.2⟩
    obtain ⟨k, rfl⟩ : ∃ m, k = m + 1 := ⟨k - 1, by omega⟩
    simp only [spec_l6Rd_pick.f]
    rw [if_neg (by omega), e1, hb]
    simp only [spec_l6Rd_pick.j0, e2]
    rw [if_neg (by simp), if_pos hlt, if_pos hp, if_neg (by omega), w64 (by omega) (by omega)]
  · have m1 := tmod_range p (s.length : Int) hp (by omega)
    have e3 : wrap64 (p * 7) = p * 7 := w64 (by omega) (by omega)
    have e4 : wrap64 (p * 7 + 3) = p * 7 + 3 := w64 (by omega) (by omega)
    have m2 := tmod_range (p * 7 + 3) (s.length : Int) (by omega) (by omega)
    have d1 := tdiv_range p (s.length : Int) hp (by omega)
    have r1 := rd_byte hs (Int.tmod p (s.length : Int))
    have r2 := rd_byte hs (Int.tmod (p * 7 + 3) (s.length : Int))
    generalize ha : rd s (Int.tmod p (s.length : Int)) = a at *
    generalize hc : rd s (Int.tmod (p * 7 + 3) (s.length : Int)) = c at *
    generalize hd : Int.tdiv p (s.length : Int) = d at *
    have e5 : wrap64 (wrap64 (wrap64 (wrap64 (wrap64 a * 131) + wrap64 (wrap64 c * 1117)) + wrap64 (p * 29)) + wrap64 (wrap64 d * 53)) = a * 131 + c * 1117 + p * 29 + d * 53 := by
      rw [w64 (x := a) (by omega) (by omega), w64 (x := c) (by omega) (by omega), w64 (x := d) (by omega) (by omega), w64 (x := a * 131) (by omega) (by omega), w64 (x := c * 1117) (by omega) (by omega), w64 (x := d * 53) (by omega) (by omega), w64 (x := p * 29) (by omega) (by omega), w64 (x := a * 131 + c * 1117) (by omega) (by omega), w64 (x := a * 131 + c * 1117 + p * 29) (by omega) (by omega), w64 (by omega) (by omega)]
    generalize hx : a * 131 + c * 1117 + p * 29 + d * 53 = x at *
    have d2 := tdiv_range x 64 (by omega) (by omega)
    have e6 : wrap64 (Int.tdiv x 64) = Int.tdiv x 64 := w64 (by omega) (by omega)
    have hxor := xor_nonneg' x (Int.tdiv x 64) (by omega) (by omega) d2.1 (by omega)
    have hq := tmod_range (Go.bits .xor .i64 x (Int.tdiv x 64)) n hxor hn
    refine ⟨_, fun k hk => ?_, hq.1, hq.2⟩
    obtain ⟨k, rfl⟩ : ∃ m, k = m + 1 := ⟨k - 1, by omega⟩
    simp only [spec_l6Rd_pick.f]
    rw [if_neg (by omega), e1, hb]
    simp only [spec_l6Rd_pick.j0, e2, e3, e4, ha, hc, hd, e5, e6]
    rw [if_neg (by simp), if_neg hlt, if_neg h0, if_pos m1.1, if_pos m1.2, if_pos m2.1, if_pos m2.2, if_neg (by omega)]
theorem open_ev (l : List Int) (h : ∀ x ∈ l, (Lit.int .u8 x).wf = true) : ∃ s, spec_l6Open.f l = some (s, 0) ∧ Bytes s := by
  have hb : ∀ x ∈ l, 0 ≤ x ∧ x ≤ 255 := fun x hx => bounds_u8 (h x hx)
  unfold spec_l6Open.f
  by_cases hl : (l.length : Int) > 2000
  · rw [if_pos hl, if_pos (by omega)]
    exact ⟨_, rfl, by rw [List.length_take]; omega, fun x hx => hb x (List.mem_of_mem_take hx)⟩
  · rw [if_neg hl]
    exact ⟨_, rfl, by omega, hb⟩
def Dph : Nat → List S30 → Prop
  | 0, l => l = []
  | n + 1, l => ∀ x ∈ l, Dph n x.f0
theorem dph_nil (n : Nat) : Dph n [] := by cases n <;> simp [Dph]
theorem type_ev (s : List Int) (hs : Bytes s) : ∀ (d : Nat), d ≤ 1000 → ∀ (p : Int), 0 ≤ p → p + 2 ^ d ≤ 1099511627776 →
    ∃ r q, (∀ k, 3 * d + 4 ≤ k → spec_l71Type.f k s p d = some (r, q)) ∧ r.length ≤ 2 ∧ p ≤ q ∧ q + 1 ≤ p + 2 ^ d ∧ Dph d r := by
  intro d
  induction d with
  | zero =>
    intro hd p hp hp1
    refine ⟨[], p, fun k hk => ?_, by simp, by omega, by simp, dph_nil _⟩
    obtain ⟨k, rfl⟩ : ∃ m, k = m + 2 := ⟨k - 2, by omega⟩
    simp only [spec_l71Type.f]
    rw [if_pos (by omega)]
    simp only [spec_l71Type.j0, if_true]
  | succ d ih =>
    intro hd p hp hp1
    have hpow : (2 : Int) ^ (d + 1) = 2 ^ d + 2 ^ d := by rw [Int.pow_succ]; omega
    have hpos : (1 : Int) ≤ 2 ^ d := by have := Int.pow_pos (n := 2) (m := d) (by decide); omega
    rw [hpow] at hp1 ⊢
    generalize (2 : Int) ^ d = e at *
    by_cases h2 : (((d + 1 : Nat) : Int)) < 2
    · refine ⟨[], p, fun k hk => ?_, by simp, by omega, by omega, dph_nil _⟩
      obtain ⟨k, rfl⟩ : ∃ m, k = m + 2 := ⟨k - 2, by omega⟩
      simp only [spec_l71Type.f]
      rw [if_pos h2]
      simp only [spec_l71Type.j0, if_true]
    · obtain ⟨r, hr, hr0, hr1⟩ := pick_ev s hs p 3 hp (by omega) (by omega)
      by_cases hrp : r > 0
      · refine ⟨[], p + 1, fun k hk => ?_, by simp, by omega, by omega, dph_nil _⟩
        obtain ⟨k, rfl⟩ : ∃ m, k = m + 2 := ⟨k - 2, by omega⟩
        simp only [spec_l71Type.f]
        rw [if_neg h2, hr (k + 1) (by omega)]
        simp only [Option.bind_some, spec_l71Type.j0]
        rw [if_pos (by simpa using hrp)]
      · obtain ⟨a, q1, h1, _, hq1, hq1', da⟩ := ih (by omega) (p + 1) (by omega) (by omega)
        obtain ⟨b, q2, h3, _, hq2, hq2', db⟩ := ih (by omega) q1 (by omega) (by omega)
        have ew : wrap64 (((d + 1 : Nat) : Int) - 1) = (d : Int) := by
          rw [w64 (by omega) (by omega)]; omega
        refine ⟨[⟨a⟩, ⟨b⟩], q2, fun k hk => ?_, by simp, by omega, by omega, ?_⟩
        rotate_left
        · intro x hx
          rcases List.mem_cons.1 hx with rfl | hx
          · exact da
          · rw [List.mem_singleton.1 hx]; exact db
        · obtain ⟨k, rfl⟩ : ∃ m, k = m + 2 := ⟨k - 2, by omega⟩
          simp only [spec_l71Type.f]
          rw [if_neg h2, hr (k + 1) (by omega)]
          simp only [Option.bind_some, spec_l71Type.j0]
          rw [if_neg (by simpa using hrp), ew, h1 k (by omega)]
          simp only [Option.bind_some]
          rw [h3 k (by omega)]
          simp only [Option.bind_some]
end Go.Proofs.Ytjhbhihfifhljaa.Draw
end
section
namespace Go.Proofs.Ytjhbhihfifhljaa.PA
open Go.RowKit Go.Proofs.YtjhbhihfifhljaaW.PrintWords Go.Proofs.YtjhbhihfifhljaaW.PrintLast Go.Proofs.YtjhbhihfifhljaaW.PrintMore
attribute [local go_sem] max2_int min2_int max_two min_two max_three min_three max_four min_four
set_option linter.unusedVariables false
set_option linter.unusedSimpArgs false
def spec_l71Deep.l0 : Nat → Int → List Int → Int → List (S30) → Option ((List (S30)) × Int)
 | 0, _, _, _, _ => none
 | k + 1, x4, x1000, x1001, x203000 => if x4 < 5 then (spec_l71Deep.l0 k (wrap64 (x4 + 1)) x1000 x1001 (([(⟨x203000⟩ : S30), (⟨([] : List (S30))⟩ : S30)] : List (S30)))) else (some (x203000, x1001))
def spec_l71Deep.f (k : Nat) (s0_0 : List Int) (s0_1 : Int) : Option ((List (S30)) × Int) := (spec_l6Rd_pick.f k s0_0 s0_1 4).bind fun bt196 => ((spec_l71Type.f k s0_0 bt196.2 (wrap64 (1 + bt196.1))).bind fun bt198 => ((spec_l6Rd_pick.f k s0_0 bt198.2 12).bind fun bt203 => (if bt203.1 = 0 then (spec_l71Deep.l0 k 0 s0_0 bt203.2 bt198.1) else (if bt203.1 = 1 then (if bt198.1.length < 5864062014805 then (some ((bt198.1 ++ [(⟨([] : List (S30))⟩ : S30)]), bt203.2)) else (none)) else (some (bt198.1, bt203.2))))))
theorem spec_l71Deep.mono_l : ∀ k, (∀ y0 y1 y2 y3, LeO (spec_l71Deep.l0 k y0 y1 y2 y3) (spec_l71Deep.l0 (k + 1) y0 y1 y2 y3))
 | 0 => fun _ _ _ _ r h => by simp [spec_l71Deep.l0] at h
 | k + 1 => by
  have ih0 := spec_l71Deep.mono_l k
  ·intro y0 y1 y2 y3
   unfold spec_l71Deep.l0
   repeat' first
   | (with_reducible exact ih0 _ _ _ _)
   | (with_reducible exact spec_l6Rd_pick.mono _ _ _ _)
   | (with_reducible exact spec_l71Type.mono _ _ _ _)
   | (with_reducible exact LeO.refl _)
   | (with_reducible exact LeO.none _)
   | (with_reducible refine LeO.ite ?_ ?_)
   | (with_reducible refine LeO.bind ?_ (fun _ => ?_))
   | exact ih0 _ _ _ _
   | exact spec_l6Rd_pick.mono _ _ _ _
   | exact spec_l71Type.mono _ _ _ _
   | exact LeO.none _
   | refine LeO.ite ?_ ?_
   | refine LeO.bind ?_ (fun _ => ?_)
theorem spec_l71Deep.mono : ∀ a0 a1 k, LeO (spec_l71Deep.f k a0 a1) (spec_l71Deep.f (k + 1) a0 a1) := by
 intro a0 a1 k
 have ih0 := spec_l71Deep.mono_l k
 unfold spec_l71Deep.f
 repeat' first
   | (with_reducible exact ih0 _ _ _ _)
   | (with_reducible exact spec_l6Rd_pick.mono _ _ _ _)
   | (with_reducible exact spec_l71Type.mono _ _ _ _)
   | (with_reducible exact LeO.refl _)
   | (with_reducible exact LeO.none _)
   | (with_reducible refine LeO.ite ?_ ?_)
   | (with_reducible refine LeO.bind ?_ (fun _ => ?_))
   | exact ih0 _ _ _ _
   | exact spec_l6Rd_pick.mono _ _ _ _
   | exact spec_l71Type.mono _ _ _ _
   | exact LeO.none _
   | refine LeO.ite ?_ ?_
   | refine LeO.bind ?_ (fun _ => ?_)
set_option maxHeartbeats 8000000 in
set_option maxRecDepth 100000 in
theorem spec_l71Deep.calls (k : Nat) (g : Nat) (s0_0 : List Int) (s0_1 : Int) (r1 : List (S30)) (r2 : Int) (w0 w : World) (hI : IsS95 w0 w g s0_0 s0_1) (hB : Below w0.heap.size w0 w) (h : spec_l71Deep.f k s0_0 s0_1 = some (r1, r2)) :
  Calls Try.prog 51 #[.pointer (some ⟨g, 0, none⟩)] w fun e w' => ∃ v0_ : Value, e = .returned (.agg #[v0_]) ∧ Kd.N k30 30 w' w.heap.size (fun k_ => (w.heap.size ≤ k_)) v0_ r1 ∧ IsS95 w0 w' g s0_0 r2 ∧ Below w0.heap.size w0 w' ∧ KeepBut w w' g none := by
 have hu30 := Try.underlying30
 have HI0 := Aside0.mk hI
 have HK := Aside0.mk (KeepBut.refl w g none)
 have HL := Aside0.mk hB.size
 clear hI
 have HW0 := Aside0.mk hB.size
 have HB := Aside0.mk hB
 clear hB
 have H : ((spec_l6Rd_pick.f k s0_0 s0_1 4).bind fun bt196 => ((spec_l71Type.f k s0_0 bt196.2 (wrap64 (1 + bt196.1))).bind fun bt198 => ((spec_l6Rd_pick.f k s0_0 bt198.2 12).bind fun bt203 => (if bt203.1 = 0 then (spec_l71Deep.l0 k 0 s0_0 bt203.2 bt198.1) else (if bt203.1 = 1 then (if bt198.1.length < 5864062014805 then (some ((bt198.1 ++ [(⟨([] : List (S30))⟩ : S30)]), bt203.2)) else (none)) else (some (bt198.1, bt203.2))))))) = some (r1, r2) := h
 clear h
 obtain ⟨⟨t196, t197⟩, A20, H⟩ := ob H
 have A2 := Aside0.mk A20
 clear A20
 obtain ⟨⟨t198, t201⟩, A30, H⟩ := ob H
 have A3 := Aside0.mk A30
 clear A30
 obtain ⟨⟨t203, t204⟩, A40, H⟩ := ob H
 have A4 := Aside0.mk A40
 clear A40
 by_cases c5 : t203 = 0
 ·rw [if_pos c5] at H
  have c5b0 : (t203 == 0) = true := beq_iff_eq.mpr c5
  have c5b1 : (t203 != 0) = false := bne_eq_false_iff_eq.mpr c5
  clear c5
  have H' := Aside0.mk H
  clear H
  go_enter Try.func51, Try.ntmps51
  go_wp2_with (first | ((with_reducible refine gate_dst (N := 2) rfl ?_); refine zbx 2 #[.slice none 0 0] 30 ?_; intro gb195 hg w6 hbox hb; replace HB := Aside0.mk (below_step (y33 HB.out HI0.out) hb); have BK195 := Aside0.mk hbox; have GW195 := Aside0.mk ((by rw [hg]; exact (keep_size (w := w) (g := g) (row := none) (y25 HK.out)) : w.heap.size ≤ gb195)); have GE195 := Aside0.mk ((Nat.le_trans HW0.out (by rw [hg]; exact (keep_size (w := w) (g := g) (row := none) (y25 HK.out)) : w.heap.size ≤ gb195) : w0.heap.size ≤ gb195)); replace HK := Aside0.mk (KeepBut.trans (y25 HK.out) (KeepBut.of_below hb g none) (.inl rfl)); have NB0_195 := Aside0.mk ((by rw [hg]; exact Nat.ne_of_lt (IsS95.lt (show IsS95 w0 _ g s0_0 s0_1 from by repeat (first | (with_reducible first | exact HI0.out | apply IsS95.alloc | apply IsS95.drewN | apply IsS95.drew | apply IsS95.set_1) | exact HI0.out))) : g ≠ gb195)); have NB195_0 := Aside0.mk ((by rw [hg]; exact Nat.ne_of_gt (IsS95.lt (show IsS95 w0 _ g s0_0 s0_1 from by repeat (first | (with_reducible first | exact HI0.out | apply IsS95.alloc | apply IsS95.drewN | apply IsS95.drew | apply IsS95.set_1) | exact HI0.out))) : gb195 ≠ g)); replace HI0 := Aside0.mk (IsS95.below (y35 HI0.out) hb); clear hb hbox hg) | ((with_reducible refine gate_callee (f := 58) rfl ?_); refine goesL_ (some 7) rfl rfl Try.func58 (by kernel_rfl) rfl #[.pointer (some ⟨g, 0, none⟩), .int .i64 4] rfl y4 ?_; (with_reducible refine (spec_l6Rd_pick.calls k g s0_0 s0_1 4 t196 t197 w0 _ ?side1 ?side2 A2.out).mono ?_); (case side1 => exact y24 HI0.out NB0_195.out); (case side2 => exact y23 HB.out HI0.out GE195.out); rintro e w7 ⟨rfl, hi, hb, hk⟩; refine ⟨_, rfl, ?_⟩; replace BK195 := Aside0.mk (KeepBut.blk hk (g' := gb195) (o := .cells #[.slice none 0 0] 30 (0, 0)) (y0 BK195.out) NB195_0.out (by simp)); replace HK := Aside0.mk (KeepBut.trans (y18 HK.out GW195.out) hk (.inl rfl)); replace HB := Aside0.mk (hb); replace HI0 := Aside0.mk (hi); (try clear hb); (try clear hb2); (try clear hk); (try clear hi)) | ((with_reducible refine gate_callee (f := 67) rfl ?_); refine goesL_ (some 9) rfl rfl Try.func67 (by kernel_rfl) rfl #[.pointer (some ⟨g, 0, none⟩), .int .i64 (wrap64 (1 + t196))] rfl y4 ?_; (with_reducible refine (spec_l71Type.calls k g s0_0 t197 (wrap64 (1 + t196)) t198 t201 w0 _ ?side1 ?side2 A3.out).mono ?_); (case side1 => exact y24 HI0.out NB0_195.out); (case side2 => exact y23 HB.out HI0.out GE195.out); rintro e w8 ⟨v199, rfl, ho0, hi, hb, hk⟩; refine ⟨_, rfl, ?_⟩; have HO200 := Aside0.mk (Kd.N_lower (Kd.N_mono (ok' := fun k_ => (w.heap.size ≤ k_) ∧ k_ ≠ gb195 ∧ k_ ≠ g) ho0 (fun k_ hk_ => ⟨(Nat.le_trans (keep_size (w := w) (g := g) (row := none) (y18 HK.out GW195.out)) hk_), (Kd.freshB (g := gb195) (o := .cells #[.slice none 0 0] 30 (0, 0)) (y0 BK195.out) k_ hk_), (IsS95.fresh (y24 HI0.out NB0_195.out) k_ hk_)⟩)) (keep_size (w := w) (g := g) (row := none) (y18 HK.out GW195.out))); replace BK195 := Aside0.mk (KeepBut.blk hk (g' := gb195) (o := .cells #[.slice none 0 0] 30 (0, 0)) (y0 BK195.out) NB195_0.out (by simp)); replace HK := Aside0.mk (KeepBut.trans (y18 HK.out GW195.out) hk (.inl rfl)); replace HB := Aside0.mk (hb); replace HI0 := Aside0.mk (hi); (try clear hb); (try clear hb2); (try clear hk); (try clear hi); (try clear ho0)) | ((with_reducible refine gate_dst (N := 3) rfl ?_); refine zbx 3 #[.slice none 0 0] 30 ?_; intro gb202 hg w9 hbox hb; replace HO200 := Aside0.mk (Kd.N_below (Kd.N_elderB (y9 HO200.out) gb202 (Nat.le_of_eq hg.symm)) hb); replace HB := Aside0.mk (below_step (y23 HB.out HI0.out GE195.out) hb); have BK202 := Aside0.mk hbox; have GW202 := Aside0.mk ((by rw [hg]; exact (keep_size (w := w) (g := g) (row := none) (y18 HK.out GW195.out)) : w.heap.size ≤ gb202)); have GE202 := Aside0.mk ((Nat.le_trans HW0.out (by rw [hg]; exact (keep_size (w := w) (g := g) (row := none) (y18 HK.out GW195.out)) : w.heap.size ≤ gb202) : w0.heap.size ≤ gb202)); replace HK := Aside0.mk (KeepBut.trans (y18 HK.out GW195.out) (KeepBut.of_below hb g none) (.inl rfl)); have NB195_202 := zltn hg BK195; have NB202_195 := zgtn hg BK195; replace BK195 := zbb BK195 hb; have NB0_202 := Aside0.mk ((by rw [hg]; exact Nat.ne_of_lt (IsS95.lt (show IsS95 w0 _ g s0_0 t201 from by repeat (first | (with_reducible first | exact HI0.out | apply IsS95.alloc | apply IsS95.drewN | apply IsS95.drew | apply IsS95.set_1 | refine IsS95.far ?_ NB0_195.out _) | exact HI0.out))) : g ≠ gb202)); have NB202_0 := Aside0.mk ((by rw [hg]; exact Nat.ne_of_gt (IsS95.lt (show IsS95 w0 _ g s0_0 t201 from by repeat (first | (with_reducible first | exact HI0.out | apply IsS95.alloc | apply IsS95.drewN | apply IsS95.drew | apply IsS95.set_1 | refine IsS95.far ?_ NB0_195.out _) | exact HI0.out))) : gb202 ≠ g)); replace HI0 := Aside0.mk (IsS95.below (y24 HI0.out NB0_195.out) hb); clear hb hbox hg; obtain ⟨Ao10, co10, eo10⟩ := Kd.N_slice HO200.out; subst eo10; have hnb11 := NB202_195.out; have hnc11 := NB195_202.out; have hnb12 := NB202_0.out; have hnc12 := NB0_202.out; have hcz13_0 := zh BK202; have hfz13_0 := zfr BK202 0) | ((with_reducible refine gate_callee (f := 58) rfl ?_); refine goesL_ (some 11) rfl rfl Try.func58 (by kernel_rfl) rfl #[.pointer (some ⟨g, 0, none⟩), .int .i64 12] rfl y4 ?_; (with_reducible refine (spec_l6Rd_pick.calls k g s0_0 t201 12 t203 t204 w0 _ ?side1 ?side2 A4.out).mono ?_); (case side1 => exact y15 HI0.out NB0_195.out NB0_202.out); (case side2 => exact y12 HB.out HI0.out GE195.out GE202.out); rintro e w14 ⟨rfl, hi, hb, hk⟩; refine ⟨_, rfl, ?_⟩; replace BK195 := Aside0.mk (KeepBut.blk hk (g' := gb195) (o := .cells #[.slice none 0 0] 30 (0, 0)) (y21 NB195_202.out BK195.out) NB195_0.out (by simp)); replace HO200 := Aside0.mk (Kd.N_mono (Kd.N_keep (Kd.N_mono (ok := fun k_ => ((((w.heap.size ≤ k_)) ∧ (k_ ≠ gb195 ∧ k_ ≠ g)) ∧ k_ ≠ gb202)) (by (with_reducible repeat (first | apply Kd.N_alloc | apply Kd.N_drewN | apply Kd.N_drew)); exact (Kd.N_mono (Kd.N_far (p := ⟨gb202, 0, none⟩) (Kd.N_mono HO200.out (fun k_ hk => (⟨hk, hk.2⟩ : _ ∧ k_ ≠ gb202))) (fun _ hk => hk.2) (.slice Ao10 t198.length co10)) (fun _ h_ => h_.1))) (fun k_ hk_ => (⟨hk_, hk_.1.2.2⟩ : _ ∧ k_ ≠ g))) hk (fun _ h => h.2)) (fun _ h => h.1)); replace BK202 := Aside0.mk (KeepBut.blk hk (g' := gb202) (o := .cells #[.slice Ao10 t198.length co10] 30 (0, 0)) (by (with_reducible repeat (first | refine blk_drewN ?_ _ | refine blk_drew ?_ | refine blk_alloc ?_ _)); apply blk_put (i := 0); (case h => exact y0 BK202.out); (case e => rfl)) NB202_0.out (by simp)); replace HK := Aside0.mk (KeepBut.trans (y11 HK.out GW195.out GW202.out) hk (.inl rfl)); replace HB := Aside0.mk (hb); replace HI0 := Aside0.mk (hi); (try clear hb); (try clear hb2); (try clear hk); (try clear hi)))
  go_loopg [4] k (fun kq v4 w' => ∃ (x4_1 : Int) (x203000_1 : List (S30)) (u203000 : Value), v4 = .int .i64 x4_1 ∧ Aside0 (spec_l71Deep.l0 kq x4_1 s0_0 t204 x203000_1 = some (r1, r2)) ∧ Aside0 (kq ≤ k) ∧ Aside0 (Kd.N k30 30 w' w.heap.size (fun k_ => (w.heap.size ≤ k_) ∧ k_ ≠ gb195 ∧ k_ ≠ gb202 ∧ k_ ≠ g) u203000 x203000_1) ∧ Aside0 (w'.heap[gb195]? = some (.cells #[(.slice none 0 0)] 30 (0, 0))) ∧ Aside0 (w'.heap[gb202]? = some (.cells #[u203000] 30 (0, 0))) ∧ Aside0 (IsS95 w0 w' g s0_0 t204) ∧ Aside0 (KeepBut w w' g none) ∧ Aside0 (Below w0.heap.size w0 w'))
  case atStart => exact ⟨(0), (t198), (.slice Ao10 t198.length co10), y26, H', ⟨Nat.le_refl _⟩, ⟨(y78 HO200.out)⟩, ⟨(y0 BK195.out)⟩, ⟨(y0 BK202.out)⟩, ⟨(y15 HI0.out NB0_195.out NB0_202.out)⟩, ⟨(y11 HK.out GW195.out GW202.out)⟩, ⟨(y12 HB.out HI0.out GE195.out GE202.out)⟩⟩
  case round =>
   clear H'
   try clear c1
   try clear p2
   try clear c5
   try clear c5b0
   try clear c5b1
   try clear c6
   try clear p6
   try clear c11
   try clear c12
   try clear hcz13_0
   try clear hfz13_0
   obtain ⟨x4_1, x203000_1, u203000, rfl, HA, HK1, HO_203000, BK195, BK202, HI0, HK, HB⟩ := hrel
   cases gk with
   | zero => exact absurd HA.out (by simp [spec_l71Deep.l0])
   | succ k1 =>
    have H := HA.out
    clear HA
    simp only [spec_l71Deep.l0] at H
    by_cases c15 : x4_1 < 5
    ·rw [if_pos c15] at H
     have c15b0 : decide (x4_1 < 5) = true := decide_eq_true c15
     clear c15
     obtain ⟨y205, hy205⟩ : ∃ y_ : List (S30), y_ = (([(⟨x203000_1⟩ : S30), (⟨([] : List (S30))⟩ : S30)] : List (S30))) := ⟨_, rfl⟩
     replace H : (spec_l71Deep.l0 k1 (wrap64 (x4_1 + 1)) s0_0 t204 y205) = some (r1, r2) := by first | (rw [hy205]; with_reducible exact H) | (have H2_ := (Option.bind_some _ _).symm.trans H; rw [hy205]; with_reducible exact H2_) | (have H2_ := (Option.bind_some _ _).symm.trans H; with_reducible exact H2_) | with_reducible exact H | (rw [hy205]; exact H) | exact H
     have Ny205 := Aside0.mk hy205
     clear hy205
     have H' := Aside0.mk H
     clear H
     have hnb16 := NB202_195.out
     have hnc16 := NB195_202.out
     have hnb17 := NB202_0.out
     have hnc17 := NB0_202.out
     have hcz18_0 := zh BK202
     have hfz18_0 := zfr BK202 0
     obtain ⟨Ao19, co19, eo19⟩ := Kd.N_slice HO_203000.out
     subst eo19
     go_wp2_with (first | ((with_reducible refine gate_dst (N := 20) rfl ?_); refine Kd.N_lit k30 _ 30 ?hg (N' := 20) ?hd (xs := ([(⟨x203000_1⟩ : S30), (⟨([] : List (S30))⟩ : S30)] : List (S30))) (inner := [.slice Ao19 x203000_1.length co19, .slice none 0 0]) (ok := (fun k_ => (w.heap.size ≤ k_) ∧ k_ ≠ gb195 ∧ k_ ≠ gb202 ∧ k_ ≠ g)) (okp := (fun k_ => (w.heap.size ≤ k_) ∧ k_ ≠ gb195 ∧ k_ ≠ gb202 ∧ k_ ≠ g)) ?hr ?hp (fun _ hk => hk) ((show ∀ k_, wr.heap.size ≤ k_ → (fun k_ => (w.heap.size ≤ k_) ∧ k_ ≠ gb195 ∧ k_ ≠ gb202 ∧ k_ ≠ g) k_ from fun k_ hk => ⟨(Nat.le_trans (keep_size (w := w) (g := g) (row := none) (y11 HK.out GW195.out GW202.out)) hk), Kd.freshB (g := gb195) (o := .cells #[.slice none 0 0] 30 (0, 0)) (y0 BK195.out) k_ hk, Kd.freshB (g := gb202) (o := .cells #[.slice Ao19 x203000_1.length co19] 30 (0, 0)) (y0 BK202.out) k_ hk, IsS95.fresh (y15 HI0.out NB0_195.out NB0_202.out) k_ hk⟩) _ (Nat.le_refl _)) (Below.refl _ _) (Nat.le_refl _) (by simp) ?_; (case hd => rfl); (case hg => rfl); (case hr => first | (go_simp; done) | (go_simp; rfl)); (case hp => exact (Reps.one (show Kd.FK k30 _ _ (⟨x203000_1⟩ : S30) [.slice Ao19 x203000_1.length co19] from (k30_mkF _ _ (⟨x203000_1⟩ : S30) (Kd.N_reads' (Kd.N_mono (ok' := (fun k_ => (w.heap.size ≤ k_) ∧ k_ ≠ gb195 ∧ k_ ≠ gb202 ∧ k_ ≠ g)) (HO_203000.out) (fun k_ hk => ⟨hk.1, ⟨hk.2.1, ⟨hk.2.2.1, hk.2.2.2⟩⟩⟩))).2.1 (Kd.N_F (Kd.N_mono (ok' := (fun k_ => (w.heap.size ≤ k_) ∧ k_ ≠ gb195 ∧ k_ ≠ gb202 ∧ k_ ≠ g)) (HO_203000.out) (fun k_ hk => ⟨hk.1, ⟨hk.2.1, ⟨hk.2.2.1, hk.2.2.2⟩⟩⟩))))) (Reps.one (show Kd.FK k30 _ _ (⟨([] : List (S30))⟩ : S30) [.slice none 0 0] from (k30_mkF _ _ (⟨([] : List (S30))⟩ : S30) (Nat.le_refl _) (Kd.F_nil _ _ _))) (Reps.none _ _)))); intro v206 w20 ho21 hb hg_ hnew_; clear hg_ hnew_; (first | rw [← Ny205.out] at ho21 | (simp only [Int.reduceToNat] at ho21; rw [← Ny205.out] at ho21)); have HO207 := Aside0.mk (Kd.N_lower ho21 (keep_size (w := w) (g := g) (row := none) (y11 HK.out GW195.out GW202.out))); replace BK195 := zbb BK195 hb; replace BK202 := zbb BK202 hb; replace HK := Aside0.mk (KeepBut.trans (y11 HK.out GW195.out GW202.out) (KeepBut.of_below hb g none) (.inl rfl)); replace HB := Aside0.mk (below_step (y12 HB.out HI0.out GE195.out GE202.out) hb); replace HI0 := Aside0.mk (IsS95.below (y15 HI0.out NB0_195.out NB0_202.out) hb); clear HO_203000; clear hb ho21; obtain ⟨Ao22, co22, eo22⟩ := Kd.N_slice HO207.out; subst eo22; have hcz23_0 := zh BK202; have hfz23_0 := zfr BK202 0))
     go_roundg k1
     case measure => have := HK1.out; omega
     case rel => exact ⟨(wrap64 (x4_1 + 1)), (y205), (.slice Ao22 y205.length co22), y26, H', ⟨(y46 HK1.out)⟩, ⟨(by (with_reducible repeat (first | apply Kd.N_alloc | apply Kd.N_drewN | apply Kd.N_drew)); exact Kd.N_mono (Kd.N_far (p := ⟨gb202, 0, none⟩) (Kd.N_mono HO207.out (fun k_ hk => (⟨hk, hk.2.2.1⟩ : _ ∧ k_ ≠ gb202))) (fun _ hk => hk.2) (.slice Ao22 y205.length co22)) (fun _ hk => ⟨hk.1.1, ⟨hk.1.2.1, ⟨hk.1.2.2.1, hk.1.2.2.2⟩⟩⟩))⟩, ⟨(y21 NB195_202.out BK195.out)⟩, ⟨(by (with_reducible repeat (first | refine blk_drewN ?_ _ | refine blk_drew ?_ | refine blk_alloc ?_ _)); refine blk_put (cs := #[.slice Ao19 x203000_1.length co19]) ?_ 0 _ rfl; (with_reducible repeat (first | refine blk_drewN ?_ _ | refine blk_drew ?_ | refine blk_alloc ?_ _)); exact BK202.out)⟩, ⟨(y15 HI0.out NB0_195.out NB0_202.out)⟩, ⟨(y11 HK.out GW195.out GW202.out)⟩, ⟨(y12 HB.out HI0.out GE195.out GE202.out)⟩⟩
    ·rw [if_neg c15] at H
     have c15b0 : decide (x4_1 < 5) = false := decide_eq_false c15
     clear c15
     simp only [Option.some.injEq, Prod.mk.injEq] at H
     obtain ⟨rfl, rfl⟩ := H
     have hnb24 := NB202_195.out
     have hnc24 := NB195_202.out
     have hnb25 := NB202_0.out
     have hnc25 := NB0_202.out
     have hcz26_0 := zh BK202
     have hfz26_0 := zfr BK202 0
     obtain ⟨Ao27, co27, eo27⟩ := Kd.N_slice HO_203000.out
     subst eo27
     have hnb28 := NB195_0.out
     have hnc28 := NB0_195.out
     have hcz29_0 := zh BK195
     have hfz29_0 := zfr BK195 0
     go_wp2
     refine bodyPost_ret (results_cell_row rfl _ _ gb195 30 #[.slice Ao27 x203000_1.length co27] (0, 0) _ rfl (by (with_reducible repeat (first | refine blk_drewN ?_ _ | refine blk_drew ?_ | refine blk_alloc ?_ _)); apply blk_put (i := 0); (case h => exact y0 BK195.out); (case e => rfl)) Try.underlying30 rfl (by kernel_rfl)) rfl ?_
     exact ⟨_, y14, (by (with_reducible repeat (first | apply Kd.N_alloc | apply Kd.N_drewN | apply Kd.N_drew)); exact Kd.N_mono (Kd.N_far (p := ⟨gb195, 0, none⟩) (Kd.N_mono HO_203000.out (fun k_ hk => (⟨hk, hk.2.1⟩ : _ ∧ k_ ≠ gb195))) (fun _ hk => hk.2) (.slice Ao27 x203000_1.length co27)) (fun _ hk => hk.1.1)), (y15 HI0.out NB0_195.out NB0_202.out), (y12 HB.out HI0.out GE195.out GE202.out), (y11 HK.out GW195.out GW202.out)⟩
 ·rw [if_neg c5] at H
  have c5b0 : (t203 == 0) = false := beq_eq_false_iff_ne.mpr c5
  have c5b1 : (t203 != 0) = true := bne_iff_ne.mpr c5
  by_cases c30 : t203 = 1
  ·rw [if_pos c30] at H
   have c30b0 : (t203 == 1) = true := beq_iff_eq.mpr c30
   have c30b1 : (t203 != 1) = false := bne_eq_false_iff_eq.mpr c30
   clear c30
   by_cases c31 : t198.length < 5864062014805
   ·rw [if_pos c31] at H
    have LMc31 := Aside0.mk c31
    clear c31
    obtain ⟨y208, hy208⟩ : ∃ y_ : List (S30), y_ = (t198 ++ [(⟨([] : List (S30))⟩ : S30)]) := ⟨_, rfl⟩
    replace H : (some (y208, t204)) = some (r1, r2) := by first | (rw [hy208]; with_reducible exact H) | (have H2_ := (Option.bind_some _ _).symm.trans H; rw [hy208]; with_reducible exact H2_) | (have H2_ := (Option.bind_some _ _).symm.trans H; with_reducible exact H2_) | with_reducible exact H | (rw [hy208]; exact H) | exact H
    have Ny208 := Aside0.mk hy208
    clear hy208
    simp only [Option.some.injEq, Prod.mk.injEq] at H
    obtain ⟨rfl, rfl⟩ := H
    go_enter Try.func51, Try.ntmps51
    go_wp2_with (first | ((with_reducible refine gate_dst (N := 2) rfl ?_); refine zbx 2 #[.slice none 0 0] 30 ?_; intro gb195 hg w32 hbox hb; replace HB := Aside0.mk (below_step (y33 HB.out HI0.out) hb); have BK195 := Aside0.mk hbox; have GW195 := Aside0.mk ((by rw [hg]; exact (keep_size (w := w) (g := g) (row := none) (y25 HK.out)) : w.heap.size ≤ gb195)); have GE195 := Aside0.mk ((Nat.le_trans HW0.out (by rw [hg]; exact (keep_size (w := w) (g := g) (row := none) (y25 HK.out)) : w.heap.size ≤ gb195) : w0.heap.size ≤ gb195)); replace HK := Aside0.mk (KeepBut.trans (y25 HK.out) (KeepBut.of_below hb g none) (.inl rfl)); have NB0_195 := Aside0.mk ((by rw [hg]; exact Nat.ne_of_lt (IsS95.lt (show IsS95 w0 _ g s0_0 s0_1 from by repeat (first | (with_reducible first | exact HI0.out | apply IsS95.alloc | apply IsS95.drewN | apply IsS95.drew | apply IsS95.set_1) | exact HI0.out))) : g ≠ gb195)); have NB195_0 := Aside0.mk ((by rw [hg]; exact Nat.ne_of_gt (IsS95.lt (show IsS95 w0 _ g s0_0 s0_1 from by repeat (first | (with_reducible first | exact HI0.out | apply IsS95.alloc | apply IsS95.drewN | apply IsS95.drew | apply IsS95.set_1) | exact HI0.out))) : gb195 ≠ g)); replace HI0 := Aside0.mk (IsS95.below (y35 HI0.out) hb); clear hb hbox hg) | ((with_reducible refine gate_callee (f := 58) rfl ?_); refine goesL_ (some 7) rfl rfl Try.func58 (by kernel_rfl) rfl #[.pointer (some ⟨g, 0, none⟩), .int .i64 4] rfl y4 ?_; (with_reducible refine (spec_l6Rd_pick.calls k g s0_0 s0_1 4 t196 t197 w0 _ ?side1 ?side2 A2.out).mono ?_); (case side1 => exact y24 HI0.out NB0_195.out); (case side2 => exact y23 HB.out HI0.out GE195.out); rintro e w33 ⟨rfl, hi, hb, hk⟩; refine ⟨_, rfl, ?_⟩; replace BK195 := Aside0.mk (KeepBut.blk hk (g' := gb195) (o := .cells #[.slice none 0 0] 30 (0, 0)) (y0 BK195.out) NB195_0.out (by simp)); replace HK := Aside0.mk (KeepBut.trans (y18 HK.out GW195.out) hk (.inl rfl)); replace HB := Aside0.mk (hb); replace HI0 := Aside0.mk (hi); (try clear hb); (try clear hb2); (try clear hk); (try clear hi)) | ((with_reducible refine gate_callee (f := 67) rfl ?_); refine goesL_ (some 9) rfl rfl Try.func67 (by kernel_rfl) rfl #[.pointer (some ⟨g, 0, none⟩), .int .i64 (wrap64 (1 + t196))] rfl y4 ?_; (with_reducible refine (spec_l71Type.calls k g s0_0 t197 (wrap64 (1 + t196)) t198 t201 w0 _ ?side1 ?side2 A3.out).mono ?_); (case side1 => exact y24 HI0.out NB0_195.out); (case side2 => exact y23 HB.out HI0.out GE195.out); rintro e w34 ⟨v199, rfl, ho0, hi, hb, hk⟩; refine ⟨_, rfl, ?_⟩; have HO200 := Aside0.mk (Kd.N_lower (Kd.N_mono (ok' := fun k_ => (w.heap.size ≤ k_) ∧ k_ ≠ gb195 ∧ k_ ≠ g) ho0 (fun k_ hk_ => ⟨(Nat.le_trans (keep_size (w := w) (g := g) (row := none) (y18 HK.out GW195.out)) hk_), (Kd.freshB (g := gb195) (o := .cells #[.slice none 0 0] 30 (0, 0)) (y0 BK195.out) k_ hk_), (IsS95.fresh (y24 HI0.out NB0_195.out) k_ hk_)⟩)) (keep_size (w := w) (g := g) (row := none) (y18 HK.out GW195.out))); replace BK195 := Aside0.mk (KeepBut.blk hk (g' := gb195) (o := .cells #[.slice none 0 0] 30 (0, 0)) (y0 BK195.out) NB195_0.out (by simp)); replace HK := Aside0.mk (KeepBut.trans (y18 HK.out GW195.out) hk (.inl rfl)); replace HB := Aside0.mk (hb); replace HI0 := Aside0.mk (hi); (try clear hb); (try clear hb2); (try clear hk); (try clear hi); (try clear ho0)) | ((with_reducible refine gate_dst (N := 3) rfl ?_); refine zbx 3 #[.slice none 0 0] 30 ?_; intro gb202 hg w35 hbox hb; replace HO200 := Aside0.mk (Kd.N_below (Kd.N_elderB (y9 HO200.out) gb202 (Nat.le_of_eq hg.symm)) hb); replace HB := Aside0.mk (below_step (y23 HB.out HI0.out GE195.out) hb); have BK202 := Aside0.mk hbox; have GW202 := Aside0.mk ((by rw [hg]; exact (keep_size (w := w) (g := g) (row := none) (y18 HK.out GW195.out)) : w.heap.size ≤ gb202)); have GE202 := Aside0.mk ((Nat.le_trans HW0.out (by rw [hg]; exact (keep_size (w := w) (g := g) (row := none) (y18 HK.out GW195.out)) : w.heap.size ≤ gb202) : w0.heap.size ≤ gb202)); replace HK := Aside0.mk (KeepBut.trans (y18 HK.out GW195.out) (KeepBut.of_below hb g none) (.inl rfl)); have NB195_202 := zltn hg BK195; have NB202_195 := zgtn hg BK195; replace BK195 := zbb BK195 hb; have NB0_202 := Aside0.mk ((by rw [hg]; exact Nat.ne_of_lt (IsS95.lt (show IsS95 w0 _ g s0_0 t201 from by repeat (first | (with_reducible first | exact HI0.out | apply IsS95.alloc | apply IsS95.drewN | apply IsS95.drew | apply IsS95.set_1 | refine IsS95.far ?_ NB0_195.out _) | exact HI0.out))) : g ≠ gb202)); have NB202_0 := Aside0.mk ((by rw [hg]; exact Nat.ne_of_gt (IsS95.lt (show IsS95 w0 _ g s0_0 t201 from by repeat (first | (with_reducible first | exact HI0.out | apply IsS95.alloc | apply IsS95.drewN | apply IsS95.drew | apply IsS95.set_1 | refine IsS95.far ?_ NB0_195.out _) | exact HI0.out))) : gb202 ≠ g)); replace HI0 := Aside0.mk (IsS95.below (y24 HI0.out NB0_195.out) hb); clear hb hbox hg; obtain ⟨Ao36, co36, eo36⟩ := Kd.N_slice HO200.out; subst eo36; have hnb37 := NB202_195.out; have hnc37 := NB195_202.out; have hnb38 := NB202_0.out; have hnc38 := NB0_202.out; have hcz39_0 := zh BK202; have hfz39_0 := zfr BK202 0) | ((with_reducible refine gate_callee (f := 58) rfl ?_); refine goesL_ (some 11) rfl rfl Try.func58 (by kernel_rfl) rfl #[.pointer (some ⟨g, 0, none⟩), .int .i64 12] rfl y4 ?_; (with_reducible refine (spec_l6Rd_pick.calls k g s0_0 t201 12 t203 t204 w0 _ ?side1 ?side2 A4.out).mono ?_); (case side1 => exact y15 HI0.out NB0_195.out NB0_202.out); (case side2 => exact y12 HB.out HI0.out GE195.out GE202.out); rintro e w40 ⟨rfl, hi, hb, hk⟩; refine ⟨_, rfl, ?_⟩; replace BK195 := Aside0.mk (KeepBut.blk hk (g' := gb195) (o := .cells #[.slice none 0 0] 30 (0, 0)) (y21 NB195_202.out BK195.out) NB195_0.out (by simp)); replace HO200 := Aside0.mk (Kd.N_mono (Kd.N_keep (Kd.N_mono (ok := fun k_ => ((((w.heap.size ≤ k_)) ∧ (k_ ≠ gb195 ∧ k_ ≠ g)) ∧ k_ ≠ gb202)) (by (with_reducible repeat (first | apply Kd.N_alloc | apply Kd.N_drewN | apply Kd.N_drew)); exact (Kd.N_mono (Kd.N_far (p := ⟨gb202, 0, none⟩) (Kd.N_mono HO200.out (fun k_ hk => (⟨hk, hk.2⟩ : _ ∧ k_ ≠ gb202))) (fun _ hk => hk.2) (.slice Ao36 t198.length co36)) (fun _ h_ => h_.1))) (fun k_ hk_ => (⟨hk_, hk_.1.2.2⟩ : _ ∧ k_ ≠ g))) hk (fun _ h => h.2)) (fun _ h => h.1)); replace BK202 := Aside0.mk (KeepBut.blk hk (g' := gb202) (o := .cells #[.slice Ao36 t198.length co36] 30 (0, 0)) (by (with_reducible repeat (first | refine blk_drewN ?_ _ | refine blk_drew ?_ | refine blk_alloc ?_ _)); apply blk_put (i := 0); (case h => exact y0 BK202.out); (case e => rfl)) NB202_0.out (by simp)); replace HK := Aside0.mk (KeepBut.trans (y11 HK.out GW195.out GW202.out) hk (.inl rfl)); replace HB := Aside0.mk (hb); replace HI0 := Aside0.mk (hi); (try clear hb); (try clear hb2); (try clear hk); (try clear hi); have hcz41_0 := zh BK202; have hfz41_0 := zfr BK202 0) | ((with_reducible refine gate_builtin (b := .append) (xs := #[.tmp 25, .tmp 27]) rfl ?_); at_builtin; refine Kd.N_append k30 w.heap.size rfl (.tmp 25) (.tmp 27) 28 30 (.agg #[(.slice none 0 0)]) 24 rfl Try.underlying28 info30 rfl (by decide) (by omega) (.slice Ao36 t198.length co36) t198 (⟨([] : List (S30))⟩ : S30) [.slice none 0 0] (fun k_ => (w.heap.size ≤ k_) ∧ k_ ≠ gb195 ∧ k_ ≠ gb202 ∧ k_ ≠ g) (fun k_ => ((fun k_ => (w.heap.size ≤ k_) ∧ k_ ≠ gb195 ∧ k_ ≠ gb202 ∧ k_ ≠ g)) k_ ∧ some k_ ≠ (.slice Ao36 t198.length co36 : Value).ownBlock) rfl rfl ?aP (fun _ hk => hk) ?aF ?aO (Below.refl _ _) ?aS ?aL ?_; (case aP => exact (k30_mkF _ _ (⟨([] : List (S30))⟩ : S30) (Nat.le_refl _) (Kd.F_nil _ _ _))); (case aF => exact (fun k_ hk => ⟨(Nat.le_trans (keep_size (w := w) (g := g) (row := none) (y11 HK.out GW195.out GW202.out)) hk), Kd.freshB (g := gb195) (o := .cells #[.slice none 0 0] 30 (0, 0)) (y0 BK195.out) k_ hk, Kd.freshB (g := gb202) (o := .cells #[.slice Ao36 t198.length co36] 30 (0, 0)) (y0 BK202.out) k_ hk, IsS95.fresh (y15 HI0.out NB0_195.out NB0_202.out) k_ hk⟩)); (case aO => exact (y78 HO200.out)); (case aS => exact (keep_size (w := w) (g := g) (row := none) (y11 HK.out GW195.out GW202.out))); (case aL => exact y46 LMc31.out); intro v209 w42 ho hb hg hat; rw [← Ny208.out] at ho; replace BK195 := Aside0.mk (blk_grown (g := gb195) (o := .cells #[.slice none 0 0] 30 (0, 0)) (y0 BK195.out) hg (Kd.N_away HO200.out (fun _ hk => hk.1.2.1))); replace BK202 := Aside0.mk (blk_grown (g := gb202) (o := .cells #[.slice Ao36 t198.length co36] 30 (0, 0)) (y0 BK202.out) hg (Kd.N_away HO200.out (fun _ hk => hk.2))); replace HB := Aside0.mk (below_weaken (y12 HB.out HI0.out GE195.out GE202.out) HL.out hb); replace HI0 := Aside0.mk (IsS95.grown (y15 HI0.out NB0_195.out NB0_202.out) hg (IsS95.own_neN HI0.out HO200.out (by decide))); replace HK := Aside0.mk (KeepBut.trans (y11 HK.out GW195.out GW202.out) (KeepBut.of_grown hg g) (Kd.N_base2 HO200.out)); have HO210 := Aside0.mk (ho); clear HO200; clear ho hb hg hat; obtain ⟨Ao43, co43, eo43⟩ := Kd.N_slice HO210.out; subst eo43; have hcz44_0 := zh BK202; have hfz44_0 := zfr BK202 0; have hnb45 := NB195_0.out; have hnc45 := NB0_195.out; have hcz46_0 := zh BK195; have hfz46_0 := zfr BK195 0))
    refine bodyPost_ret (results_cell_row rfl _ _ gb195 30 #[.slice Ao43 y208.length co43] (0, 0) _ rfl (by (with_reducible repeat (first | refine blk_drewN ?_ _ | refine blk_drew ?_ | refine blk_alloc ?_ _)); refine blk_put (cs := #[.slice none 0 0]) ?_ 0 _ rfl; (with_reducible repeat (first | refine blk_drewN ?_ _ | refine blk_drew ?_ | refine blk_alloc ?_ _)); refine blk_far ?_ NB195_202.out _; (with_reducible repeat (first | refine blk_drewN ?_ _ | refine blk_drew ?_ | refine blk_alloc ?_ _)); exact BK195.out) Try.underlying30 rfl (by kernel_rfl)) rfl ?_
    exact ⟨_, y14, (by (with_reducible repeat (first | apply Kd.N_alloc | apply Kd.N_drewN | apply Kd.N_drew)); exact Kd.N_mono (Kd.N_far (p := ⟨gb195, 0, none⟩) (Kd.N_far (p := ⟨gb202, 0, none⟩) (Kd.N_mono (Kd.N_mono HO210.out (fun k_ hk => (⟨hk, hk.2.2.1⟩ : _ ∧ k_ ≠ gb202))) (fun k_ hk => (⟨hk, hk.1.2.1⟩ : _ ∧ k_ ≠ gb195))) (fun _ hk => hk.1.2) (.slice Ao43 y208.length co43)) (fun _ hk => hk.2) (.slice Ao43 y208.length co43)) (fun _ hk => hk.1.1.1)), (y15 HI0.out NB0_195.out NB0_202.out), (y12 HB.out HI0.out GE195.out GE202.out), (y11 HK.out GW195.out GW202.out)⟩
   ·rw [if_neg c31] at H
    exact absurd H (by simp)
  ·rw [if_neg c30] at H
   have c30b0 : (t203 == 1) = false := beq_eq_false_iff_ne.mpr c30
   have c30b1 : (t203 != 1) = true := bne_iff_ne.mpr c30
   simp only [Option.some.injEq, Prod.mk.injEq] at H
   obtain ⟨rfl, rfl⟩ := H
   go_enter Try.func51, Try.ntmps51
   go_wp2_with (first | ((with_reducible refine gate_dst (N := 2) rfl ?_); refine zbx 2 #[.slice none 0 0] 30 ?_; intro gb195 hg w47 hbox hb; replace HB := Aside0.mk (below_step (y33 HB.out HI0.out) hb); have BK195 := Aside0.mk hbox; have GW195 := Aside0.mk ((by rw [hg]; exact (keep_size (w := w) (g := g) (row := none) (y25 HK.out)) : w.heap.size ≤ gb195)); have GE195 := Aside0.mk ((Nat.le_trans HW0.out (by rw [hg]; exact (keep_size (w := w) (g := g) (row := none) (y25 HK.out)) : w.heap.size ≤ gb195) : w0.heap.size ≤ gb195)); replace HK := Aside0.mk (KeepBut.trans (y25 HK.out) (KeepBut.of_below hb g none) (.inl rfl)); have NB0_195 := Aside0.mk ((by rw [hg]; exact Nat.ne_of_lt (IsS95.lt (show IsS95 w0 _ g s0_0 s0_1 from by repeat (first | (with_reducible first | exact HI0.out | apply IsS95.alloc | apply IsS95.drewN | apply IsS95.drew | apply IsS95.set_1) | exact HI0.out))) : g ≠ gb195)); have NB195_0 := Aside0.mk ((by rw [hg]; exact Nat.ne_of_gt (IsS95.lt (show IsS95 w0 _ g s0_0 s0_1 from by repeat (first | (with_reducible first | exact HI0.out | apply IsS95.alloc | apply IsS95.drewN | apply IsS95.drew | apply IsS95.set_1) | exact HI0.out))) : gb195 ≠ g)); replace HI0 := Aside0.mk (IsS95.below (y35 HI0.out) hb); clear hb hbox hg) | ((with_reducible refine gate_callee (f := 58) rfl ?_); refine goesL_ (some 7) rfl rfl Try.func58 (by kernel_rfl) rfl #[.pointer (some ⟨g, 0, none⟩), .int .i64 4] rfl y4 ?_; (with_reducible refine (spec_l6Rd_pick.calls k g s0_0 s0_1 4 t196 t197 w0 _ ?side1 ?side2 A2.out).mono ?_); (case side1 => exact y24 HI0.out NB0_195.out); (case side2 => exact y23 HB.out HI0.out GE195.out); rintro e w48 ⟨rfl, hi, hb, hk⟩; refine ⟨_, rfl, ?_⟩; replace BK195 := Aside0.mk (KeepBut.blk hk (g' := gb195) (o := .cells #[.slice none 0 0] 30 (0, 0)) (y0 BK195.out) NB195_0.out (by simp)); replace HK := Aside0.mk (KeepBut.trans (y18 HK.out GW195.out) hk (.inl rfl)); replace HB := Aside0.mk (hb); replace HI0 := Aside0.mk (hi); (try clear hb); (try clear hb2); (try clear hk); (try clear hi)) | ((with_reducible refine gate_callee (f := 67) rfl ?_); refine goesL_ (some 9) rfl rfl Try.func67 (by kernel_rfl) rfl #[.pointer (some ⟨g, 0, none⟩), .int .i64 (wrap64 (1 + t196))] rfl y4 ?_; (with_reducible refine (spec_l71Type.calls k g s0_0 t197 (wrap64 (1 + t196)) t198 t201 w0 _ ?side1 ?side2 A3.out).mono ?_); (case side1 => exact y24 HI0.out NB0_195.out); (case side2 => exact y23 HB.out HI0.out GE195.out); rintro e w49 ⟨v199, rfl, ho0, hi, hb, hk⟩; refine ⟨_, rfl, ?_⟩; have HO200 := Aside0.mk (Kd.N_lower (Kd.N_mono (ok' := fun k_ => (w.heap.size ≤ k_) ∧ k_ ≠ gb195 ∧ k_ ≠ g) ho0 (fun k_ hk_ => ⟨(Nat.le_trans (keep_size (w := w) (g := g) (row := none) (y18 HK.out GW195.out)) hk_), (Kd.freshB (g := gb195) (o := .cells #[.slice none 0 0] 30 (0, 0)) (y0 BK195.out) k_ hk_), (IsS95.fresh (y24 HI0.out NB0_195.out) k_ hk_)⟩)) (keep_size (w := w) (g := g) (row := none) (y18 HK.out GW195.out))); replace BK195 := Aside0.mk (KeepBut.blk hk (g' := gb195) (o := .cells #[.slice none 0 0] 30 (0, 0)) (y0 BK195.out) NB195_0.out (by simp)); replace HK := Aside0.mk (KeepBut.trans (y18 HK.out GW195.out) hk (.inl rfl)); replace HB := Aside0.mk (hb); replace HI0 := Aside0.mk (hi); (try clear hb); (try clear hb2); (try clear hk); (try clear hi); (try clear ho0)) | ((with_reducible refine gate_dst (N := 3) rfl ?_); refine zbx 3 #[.slice none 0 0] 30 ?_; intro gb202 hg w50 hbox hb; replace HO200 := Aside0.mk (Kd.N_below (Kd.N_elderB (y9 HO200.out) gb202 (Nat.le_of_eq hg.symm)) hb); replace HB := Aside0.mk (below_step (y23 HB.out HI0.out GE195.out) hb); have BK202 := Aside0.mk hbox; have GW202 := Aside0.mk ((by rw [hg]; exact (keep_size (w := w) (g := g) (row := none) (y18 HK.out GW195.out)) : w.heap.size ≤ gb202)); have GE202 := Aside0.mk ((Nat.le_trans HW0.out (by rw [hg]; exact (keep_size (w := w) (g := g) (row := none) (y18 HK.out GW195.out)) : w.heap.size ≤ gb202) : w0.heap.size ≤ gb202)); replace HK := Aside0.mk (KeepBut.trans (y18 HK.out GW195.out) (KeepBut.of_below hb g none) (.inl rfl)); have NB195_202 := zltn hg BK195; have NB202_195 := zgtn hg BK195; replace BK195 := zbb BK195 hb; have NB0_202 := Aside0.mk ((by rw [hg]; exact Nat.ne_of_lt (IsS95.lt (show IsS95 w0 _ g s0_0 t201 from by repeat (first | (with_reducible first | exact HI0.out | apply IsS95.alloc | apply IsS95.drewN | apply IsS95.drew | apply IsS95.set_1 | refine IsS95.far ?_ NB0_195.out _) | exact HI0.out))) : g ≠ gb202)); have NB202_0 := Aside0.mk ((by rw [hg]; exact Nat.ne_of_gt (IsS95.lt (show IsS95 w0 _ g s0_0 t201 from by repeat (first | (with_reducible first | exact HI0.out | apply IsS95.alloc | apply IsS95.drewN | apply IsS95.drew | apply IsS95.set_1 | refine IsS95.far ?_ NB0_195.out _) | exact HI0.out))) : gb202 ≠ g)); replace HI0 := Aside0.mk (IsS95.below (y24 HI0.out NB0_195.out) hb); clear hb hbox hg; obtain ⟨Ao51, co51, eo51⟩ := Kd.N_slice HO200.out; subst eo51; have hnb52 := NB202_195.out; have hnc52 := NB195_202.out; have hnb53 := NB202_0.out; have hnc53 := NB0_202.out; have hcz54_0 := zh BK202; have hfz54_0 := zfr BK202 0) | ((with_reducible refine gate_callee (f := 58) rfl ?_); refine goesL_ (some 11) rfl rfl Try.func58 (by kernel_rfl) rfl #[.pointer (some ⟨g, 0, none⟩), .int .i64 12] rfl y4 ?_; (with_reducible refine (spec_l6Rd_pick.calls k g s0_0 t201 12 t203 t204 w0 _ ?side1 ?side2 A4.out).mono ?_); (case side1 => exact y15 HI0.out NB0_195.out NB0_202.out); (case side2 => exact y12 HB.out HI0.out GE195.out GE202.out); rintro e w55 ⟨rfl, hi, hb, hk⟩; refine ⟨_, rfl, ?_⟩; replace BK195 := Aside0.mk (KeepBut.blk hk (g' := gb195) (o := .cells #[.slice none 0 0] 30 (0, 0)) (y21 NB195_202.out BK195.out) NB195_0.out (by simp)); replace HO200 := Aside0.mk (Kd.N_mono (Kd.N_keep (Kd.N_mono (ok := fun k_ => ((((w.heap.size ≤ k_)) ∧ (k_ ≠ gb195 ∧ k_ ≠ g)) ∧ k_ ≠ gb202)) (by (with_reducible repeat (first | apply Kd.N_alloc | apply Kd.N_drewN | apply Kd.N_drew)); exact (Kd.N_mono (Kd.N_far (p := ⟨gb202, 0, none⟩) (Kd.N_mono HO200.out (fun k_ hk => (⟨hk, hk.2⟩ : _ ∧ k_ ≠ gb202))) (fun _ hk => hk.2) (.slice Ao51 t198.length co51)) (fun _ h_ => h_.1))) (fun k_ hk_ => (⟨hk_, hk_.1.2.2⟩ : _ ∧ k_ ≠ g))) hk (fun _ h => h.2)) (fun _ h => h.1)); replace BK202 := Aside0.mk (KeepBut.blk hk (g' := gb202) (o := .cells #[.slice Ao51 t198.length co51] 30 (0, 0)) (by (with_reducible repeat (first | refine blk_drewN ?_ _ | refine blk_drew ?_ | refine blk_alloc ?_ _)); apply blk_put (i := 0); (case h => exact y0 BK202.out); (case e => rfl)) NB202_0.out (by simp)); replace HK := Aside0.mk (KeepBut.trans (y11 HK.out GW195.out GW202.out) hk (.inl rfl)); replace HB := Aside0.mk (hb); replace HI0 := Aside0.mk (hi); (try clear hb); (try clear hb2); (try clear hk); (try clear hi); have hcz56_0 := zh BK202; have hfz56_0 := zfr BK202 0; have hnb57 := NB195_0.out; have hnc57 := NB0_195.out; have hcz58_0 := zh BK195; have hfz58_0 := zfr BK195 0))
   refine bodyPost_ret (results_cell_row rfl _ _ gb195 30 #[.slice Ao51 t198.length co51] (0, 0) _ rfl (by (with_reducible repeat (first | refine blk_drewN ?_ _ | refine blk_drew ?_ | refine blk_alloc ?_ _)); apply blk_put (i := 0); (case h => exact y0 BK195.out); (case e => rfl)) Try.underlying30 rfl (by kernel_rfl)) rfl ?_
   exact ⟨_, y14, (by (with_reducible repeat (first | apply Kd.N_alloc | apply Kd.N_drewN | apply Kd.N_drew)); exact Kd.N_mono (Kd.N_far (p := ⟨gb195, 0, none⟩) (Kd.N_mono HO200.out (fun k_ hk => (⟨hk, hk.1.2.1⟩ : _ ∧ k_ ≠ gb195))) (fun _ hk => hk.2) (.slice Ao51 t198.length co51)) (fun _ hk => hk.1.1.1)), (y15 HI0.out NB0_195.out NB0_202.out), (y12 HB.out HI0.out GE195.out GE202.out), (y11 HK.out GW195.out GW202.out)⟩
end Go.Proofs.Ytjhbhihfifhljaa.PA
end
section
namespace Go.Proofs.Ytjhbhihfifhljaa.PA
open Go.RowKit Go.Proofs.YtjhbhihfifhljaaW.PrintWords Go.Proofs.YtjhbhihfifhljaaW.PrintLast Go.Proofs.YtjhbhihfifhljaaW.PrintMore
attribute [local go_sem] max2_int min2_int max_two min_two max_three min_three max_four min_four
set_option linter.unusedVariables false
set_option linter.unusedSimpArgs false
def spec_l1Say.f : Nat → List (S30) → Option (ByteArray)
 | 0, _ => none
 | k + 1, l0_0 => if (l0_0.length : Int) = 0 then (some (⟨#[105]⟩ : ByteArray)) else (if 0 < (l0_0.length : Int) then ((spec_l1Say.f k ((rd_T30 l0_0 0).f0)).bind fun t307 => (if 1 + t307.size ≤ 9223372036854775807 then (if 1 + t307.size + 1 ≤ 9223372036854775807 then (if 1 < (l0_0.length : Int) then ((spec_l1Say.f k ((rd_T30 l0_0 1).f0)).bind fun t309 => (if 1 + t307.size + 1 + t309.size ≤ 9223372036854775807 then (if 1 + t307.size + 1 + t309.size + 1 ≤ 9223372036854775807 then (some (((((⟨#[40]⟩ : ByteArray) ++ t307) ++ (⟨#[44]⟩ : ByteArray)) ++ t309) ++ (⟨#[41]⟩ : ByteArray))) else (none)) else (none))) else (none)) else (none)) else (none))) else (none))
theorem spec_l1Say.mono_l : ∀ k, (∀ y0, LeO (spec_l1Say.f k y0) (spec_l1Say.f (k + 1) y0))
 | 0 => fun _ r h => by simp [spec_l1Say.f] at h
 | k + 1 => by
  have ih0 := spec_l1Say.mono_l k
  ·intro y0
   unfold spec_l1Say.f
   repeat' first
   | (with_reducible exact ih0 _)
   | (with_reducible exact LeO.refl _)
   | (with_reducible exact LeO.none _)
   | (with_reducible refine LeO.ite ?_ ?_)
   | (with_reducible refine LeO.bind ?_ (fun _ => ?_))
   | exact ih0 _
   | exact LeO.none _
   | refine LeO.ite ?_ ?_
   | refine LeO.bind ?_ (fun _ => ?_)
theorem spec_l1Say.mono : ∀ a0 k, LeO (spec_l1Say.f k a0) (spec_l1Say.f (k + 1) a0) := by
 intro a0 k
 have ih0 := spec_l1Say.mono_l k
 exact ih0 a0
def spec_l1Say.T3 : Bool × List (List Nat × List Nat) := (true, [([], []), ([0], [0]), ([1], [1]), ([2], [2]), ([3], [3]), ([4], [4]), ([5], [5]), ([], []), ([7], [7]), ([8], [8]), ([9], [9]), ([10, 4], [10]), ([6, 11], [6, 11]), ([12], [12]), ([13, 11, 0, 1, 2, 3, 4, 5, 6, 7, 8, 9, 10, 11, 12, 13], [13])])
def spec_l1Say.B3 : List Nat := [0, 1, 3, 7, 15, 31, 63, 0, 128, 384, 896, 1951, 4095, 8191, 16383]
theorem spec_l1Say.tab3 : rtab .any (opsOf Try.f55 3) = spec_l1Say.T3 := by kernel_rfl
theorem spec_l1Say.bits3 : waitsOk spec_l1Say.T3.2 spec_l1Say.B3 = true := by kernel_rfl
set_option maxHeartbeats 8000000 in
set_option maxRecDepth 100000 in
theorem spec_l1Say.calls (k : Nat) : ∀ (A0_0 : Option Addr) (c0_0 : Nat) (l0_0 : List (S30)) (r : ByteArray) (w : World) (hr0_0 : Kd.C k30 w A0_0 l0_0.length l0_0) (hc0_0 : l0_0.length ≤ c0_0) (h : spec_l1Say.f k l0_0 = some r),
  Calls Try.prog 55 #[.agg #[.slice A0_0 l0_0.length c0_0]] w fun e w' => e = .returned (.string r) ∧ Below w.heap.size w w' := by
 induction k using Nat.strongRecOn with
 | _ k ih =>
 intro A0_0 c0_0 l0_0 r w hr0_0 hc0_0 h
 cases k with
 | zero => exact absurd h (by simp [spec_l1Say.f])
 | succ k =>
 simp only [spec_l1Say.f] at h
 have hu30 := Try.underlying30
 have HR0_0 := Aside0.mk hr0_0
 have HC0_0 := Aside0.mk hc0_0
 clear hr0_0 hc0_0
 have HB := Aside0.mk (Below.refl w.heap.size w)
 have H : (if (l0_0.length : Int) = 0 then (some (⟨#[105]⟩ : ByteArray)) else (if 0 < (l0_0.length : Int) then ((spec_l1Say.f k ((rd_T30 l0_0 0).f0)).bind fun t307 => (if 1 + t307.size ≤ 9223372036854775807 then (if 1 + t307.size + 1 ≤ 9223372036854775807 then (if 1 < (l0_0.length : Int) then ((spec_l1Say.f k ((rd_T30 l0_0 1).f0)).bind fun t309 => (if 1 + t307.size + 1 + t309.size ≤ 9223372036854775807 then (if 1 + t307.size + 1 + t309.size + 1 ≤ 9223372036854775807 then (some (((((⟨#[40]⟩ : ByteArray) ++ t307) ++ (⟨#[44]⟩ : ByteArray)) ++ t309) ++ (⟨#[41]⟩ : ByteArray))) else (none)) else (none))) else (none)) else (none)) else (none))) else (none))) = some r := h
 clear h
 by_cases c2 : (l0_0.length : Int) = 0
 ·rw [if_pos c2] at H
  have c2b0 : ((l0_0.length : Int) == 0) = true := beq_iff_eq.mpr c2
  have c2b1 : ((l0_0.length : Int) != 0) = false := bne_eq_false_iff_eq.mpr c2
  clear c2
  obtain rfl := Option.some.inj H
  go_enter Try.func55, Try.ntmps55
  go_wp2_with (first | ((with_reducible refine gate_dst (N := 1) rfl ?_); refine zbx 1 #[.slice A0_0 l0_0.length c0_0] 30 ?_; intro gb305 hg w3 hbox hb; have BK305 := Aside0.mk hbox; have GW305 := Aside0.mk ((y5 hg HB.out : w.heap.size ≤ gb305)); have GE305 := Aside0.mk ((y5 hg HB.out : w.heap.size ≤ gb305)); replace HB := Aside0.mk (below_step (y2 HB.out) hb); clear hb hbox hg; have hcz4_0 := zh BK305; have hfz4_0 := zfr BK305 0))
  go_ret
  exact ⟨y14, (y3 HB.out GE305.out)⟩
 ·rw [if_neg c2] at H
  have c2b0 : ((l0_0.length : Int) == 0) = false := beq_eq_false_iff_ne.mpr c2
  have c2b1 : ((l0_0.length : Int) != 0) = true := bne_iff_ne.mpr c2
  have c2b2 : ¬ (l0_0 = []) := fun h_ => c2 (by rw [h_]; rfl)
  by_cases c5 : 0 < (l0_0.length : Int)
  ·rw [if_pos c5] at H
   have c5b0 : decide (0 < (l0_0.length : Int)) = true := decide_eq_true c5
   have c5b1 : decide (0 < l0_0.length) = true := decide_eq_true (by omega)
   clear c5
   obtain ⟨t307, A60, H⟩ := ob H
   have A6 := Aside0.mk A60
   clear A60
   by_cases c7 : 1 + t307.size ≤ 9223372036854775807
   ·rw [if_pos c7] at H
    have c7b0 := eq_true c7
    have c7b1 : decide (1 + t307.size ≤ 9223372036854775807) = true := decide_eq_true c7
    try have c7b2 : (9223372036854775807 < 1 + t307.size) = False := eq_false (Nat.not_lt.2 c7)
    by_cases c8 : 1 + t307.size + 1 ≤ 9223372036854775807
    ·rw [if_pos c8] at H
     have c8b0 := eq_true c8
     have c8b1 : decide (1 + t307.size + 1 ≤ 9223372036854775807) = true := decide_eq_true c8
     try have c8b2 : (9223372036854775807 < 1 + t307.size + 1) = False := eq_false (Nat.not_lt.2 c8)
     by_cases c9 : 1 < (l0_0.length : Int)
     ·rw [if_pos c9] at H
      have c9b0 : decide (1 < (l0_0.length : Int)) = true := decide_eq_true c9
      have c9b1 : decide (1 < l0_0.length) = true := decide_eq_true (by omega)
      clear c9
      obtain ⟨t309, A100, H⟩ := ob H
      have A10 := Aside0.mk A100
      clear A100
      by_cases c11 : 1 + t307.size + 1 + t309.size ≤ 9223372036854775807
      ·rw [if_pos c11] at H
       have c11b0 := eq_true c11
       have c11b1 : decide (1 + t307.size + 1 + t309.size ≤ 9223372036854775807) = true := decide_eq_true c11
       try have c11b2 : (9223372036854775807 < 1 + t307.size + 1 + t309.size) = False := eq_false (Nat.not_lt.2 c11)
       by_cases c12 : 1 + t307.size + 1 + t309.size + 1 ≤ 9223372036854775807
       ·rw [if_pos c12] at H
        have c12b0 := eq_true c12
        have c12b1 : decide (1 + t307.size + 1 + t309.size + 1 ≤ 9223372036854775807) = true := decide_eq_true c12
        try have c12b2 : (9223372036854775807 < 1 + t307.size + 1 + t309.size + 1) = False := eq_false (Nat.not_lt.2 c12)
        obtain rfl := Option.some.inj H
        go_enter Try.func55, Try.ntmps55
        try go_wp2_with (first | ((with_reducible refine gate_dst (N := 1) rfl ?_); refine zbx 1 #[.slice A0_0 l0_0.length c0_0] 30 ?_; intro gb305 hg w13 hbox hb; have BK305 := Aside0.mk hbox; have GW305 := Aside0.mk ((y5 hg HB.out : w.heap.size ≤ gb305)); have GE305 := Aside0.mk ((y5 hg HB.out : w.heap.size ≤ gb305)); replace HB := Aside0.mk (below_step (y2 HB.out) hb); clear hb hbox hg; have hcz14_0 := zh BK305; have hfz14_0 := zfr BK305 0))
        replace BK305 := Aside0.mk (blk_drew BK305.out)
        replace HB := Aside0.mk (below_drew1 HB.out)
        have p306 : 0 ≤ (0 : Int) := (by omega)
        have q306 : 0 < (l0_0.length : Int) := of_decide_eq_true y19
        obtain ⟨ad306, A306_0, c306_0, e306, hx306_0, hl306_0, hi306_0⟩ := at_T30 HR0_0.out 0 p306 q306
        have hw306_0 := hx306_0
        (try rw [show ((0 : Int)).toNat = 0 from rfl] at hw306_0)
        (try rw [show 0 * 1 = 0 from rfl] at hw306_0)
        (try rw [Addr.add_zero'] at hw306_0)
        cases e306
        have qi306 : (0 < l0_0.length) = True := eq_true (by omega)
        (try rw [show ((0 : Int)).toNat = 0 from rfl] at hx306_0)
        (try rw [Addr.add_zero'] at hx306_0)
        replace hx306_0 := (HB.out.cell (World.block_lt_of_cell? w _ hx306_0)).trans hx306_0
        have HR306_0 := Aside0.mk hi306_0
        have HC306_0 := Aside0.mk hl306_0
        clear hi306_0 hl306_0
        replace p306 := eq_true p306
        replace q306 := eq_true q306
        have p308 : 0 ≤ (1 : Int) := (by omega)
        have q308 : 1 < (l0_0.length : Int) := of_decide_eq_true y19
        obtain ⟨ad308, A308_0, c308_0, e308, hx308_0, hl308_0, hi308_0⟩ := at_T30 HR0_0.out 1 p308 q308
        have hw308_0 := hx308_0
        (try rw [show ((1 : Int)).toNat = 1 from rfl] at hw308_0)
        (try rw [show 1 * 1 = 1 from rfl] at hw308_0)
        (try simp only [Nat.reduceMul, Nat.reduceEqDiff, Go.Addr.add, ↓reduceIte] at hw308_0)
        obtain rfl : ad306 = ad308 := (by injection e308)
        (try simp only [show (1 : Int).toNat = 1 from rfl, Nat.reduceMul, Nat.reduceEqDiff, Go.Addr.add, ↓reduceIte] at hx308_0)
        have qi308 : (1 < l0_0.length) = True := eq_true (by omega)
        (try rw [show ((1 : Int)).toNat = 1 from rfl] at hx308_0)
        replace hx308_0 := (HB.out.cell (World.block_lt_of_cell? w _ hx308_0)).trans hx308_0
        have HR308_0 := Aside0.mk hi308_0
        have HC308_0 := Aside0.mk hl308_0
        clear hi308_0 hl308_0
        replace p308 := eq_true p308
        replace q308 := eq_true q308
        refine start_ (n := 15) (S := fun w' => w'.cell? ⟨gb305, 0, none⟩ = some (.slice (some ad306) l0_0.length c0_0) ∧ w'.cell? ad306 = some (.slice A306_0 ((rd_T30 l0_0 0).f0).length c306_0) ∧ w'.cell? ⟨ad306.block, ad306.off + 1, none⟩ = some (.slice A308_0 ((rd_T30 l0_0 1).f0).length c308_0)) (ds := []) #[false, false, false, false, false, false, false, false, false, false, false, false, false, false, false] (by kernel_rfl) rfl rfl ⟨(blk_cell BK305.out 0).trans rfl, ((HB.out.cell (World.block_lt_of_cell? w _ hw306_0)).trans hw306_0), ((HB.out.cell (World.block_lt_of_cell? w _ hw308_0)).trans hw308_0)⟩ (fun hHeld => ?_); refine with_tabW spec_l1Say.tab3 spec_l1Say.bits3 (fun HT_ HW_ => ?_)
        generalize w13.drew = w15 at BK305 HB HR306_0 HR308_0 hx306_0 hx308_0 hHeld ⊢
        refine zp 0 (some 7) HT_ ?_
        refine zp 7 (some 14) HT_ ?_
        refine zt3 1 (some 8) HT_ HW_ hHeld ?_
        refine zp 2 (some 9) HT_ ?_
        refine zt3 3 (some 10) HT_ HW_ hHeld ?_
        refine zt3 8 (some 15) HT_ HW_ hHeld ?_
        refine zp 9 (some 16) HT_ ?_
        refine zt3 10 (some 17) HT_ HW_ hHeld ?_
        refine one_ (i := 4) (N := some 11) #[true, true, true, true, true, false, false, true, true, true, true, false, false, false, false] rfl rfl (one_of HT_.out (by kernel_rfl)) (by decide) (fun K hK => ?_)
        refine goes_ Try.func55 (by kernel_rfl) rfl #[.agg #[.slice A306_0 ((rd_T30 l0_0 0).f0).length c306_0]] (by rfl) rfl rfl y4 ?_
        with_reducible refine (ih k (by omega) _ _ ((rd_T30 l0_0 0).f0) t307 _ ?side1 ?side2 A6.out).mono ?_
        (case side1 => exact y8 HR306_0.out HB.out)
        (case side2 => exact HC306_0.out)
        rintro e w16 ⟨rfl, hb⟩
        refine ⟨_, rfl, ?_⟩
        replace BK305 := zbb BK305 hb
        replace HB := Aside0.mk (below_step (y3 HB.out GE305.out) hb)
        (try clear hb)
        (try clear hb2)
        (try clear hk)
        (try clear hi)
        refine hK.out _ _ ⟨(blk_cell BK305.out 0).trans rfl, ((HB.out.cell (World.block_lt_of_cell? w _ hw306_0)).trans hw306_0), ((HB.out.cell (World.block_lt_of_cell? w _ hw308_0)).trans hw308_0)⟩ (fun hHeld => ?_)
        clear hK K
        refine norm_ (a' := ?_) ?_ ?_
        rotate_left
        ·show Act.put _ (some 11) _ = _
         simp only [Act.put, List.setIfInBounds_toArray, List.set_cons_zero, List.set_cons_succ, i64_w, i32_w]
         rfl
        refine zp 5 (some 12) HT_ ?_
        refine zp 6 (some 13) HT_ ?_
        refine one_ (i := 11) (N := some 18) #[true, true, true, true, true, true, true, true, true, true, true, true, false, false, false] rfl rfl (one_of HT_.out (by kernel_rfl)) (by decide) (fun K hK => ?_)
        refine goes_ Try.func55 (by kernel_rfl) rfl #[.agg #[.slice A308_0 ((rd_T30 l0_0 1).f0).length c308_0]] (by rfl) rfl rfl y4 ?_
        with_reducible refine (ih k (by omega) _ _ ((rd_T30 l0_0 1).f0) t309 _ ?side1 ?side2 A10.out).mono ?_
        (case side1 => exact y8 HR308_0.out HB.out)
        (case side2 => exact HC308_0.out)
        rintro e w17 ⟨rfl, hb⟩
        refine ⟨_, rfl, ?_⟩
        replace BK305 := zbb BK305 hb
        replace HB := Aside0.mk (below_step (y3 HB.out GE305.out) hb)
        (try clear hb)
        (try clear hb2)
        (try clear hk)
        (try clear hi)
        refine hK.out _ _ ⟨(blk_cell BK305.out 0).trans rfl, ((HB.out.cell (World.block_lt_of_cell? w _ hw306_0)).trans hw306_0), ((HB.out.cell (World.block_lt_of_cell? w _ hw308_0)).trans hw308_0)⟩ (fun hHeld => ?_)
        clear hK K
        refine norm_ (a' := ?_) ?_ ?_
        rotate_left
        ·show Act.put _ (some 18) _ = _
         simp only [Act.put, List.setIfInBounds_toArray, List.set_cons_zero, List.set_cons_succ, i64_w, i32_w]
         rfl
        refine zp 12 (some 19) HT_ ?_
        refine zp 13 (some 20) HT_ ?_
        refine zp 14 (some 2) HT_ ?_
        refine done_ (done_of HT_.out (by kernel_rfl)) ?_
        try go_wp2
        go_ret
        exact ⟨y14, (y3 HB.out GE305.out)⟩
       ·rw [if_neg c12] at H
        exact absurd H (by simp)
      ·rw [if_neg c11] at H
       exact absurd H (by simp)
     ·rw [if_neg c9] at H
      exact absurd H (by simp)
    ·rw [if_neg c8] at H
     exact absurd H (by simp)
   ·rw [if_neg c7] at H
    exact absurd H (by simp)
  ·rw [if_neg c5] at H
   exact absurd H (by simp)
end Go.Proofs.Ytjhbhihfifhljaa.PA
end
section
namespace Go.Proofs.Ytjhbhihfifhljaa.PA
open Go.RowKit Go.Proofs.YtjhbhihfifhljaaW.PrintWords Go.Proofs.YtjhbhihfifhljaaW.PrintLast Go.Proofs.YtjhbhihfifhljaaW.PrintMore
attribute [local go_sem] max2_int min2_int max_two min_two max_three min_three max_four min_four
set_option linter.unusedVariables false
set_option linter.unusedSimpArgs false
def spec_TypeText.f (k : Nat) (l0_0 : List (S30)) : Option (ByteArray) := (spec_TypeOk.f k l0_0).bind fun t311 => (if t311 = true then ((spec_l1Say.f k l0_0).bind fun t312 => (some t312)) else (some (⟨#[]⟩ : ByteArray)))
theorem spec_TypeText.mono : ∀ a0 k, LeO (spec_TypeText.f k a0) (spec_TypeText.f (k + 1) a0) := by
 intro a0 k
 unfold spec_TypeText.f
 repeat' first
   | (with_reducible exact spec_TypeOk.mono _ _)
   | (with_reducible exact spec_l1Say.mono _ _)
   | (with_reducible exact LeO.refl _)
   | (with_reducible exact LeO.none _)
   | (with_reducible refine LeO.ite ?_ ?_)
   | (with_reducible refine LeO.bind ?_ (fun _ => ?_))
   | exact spec_TypeOk.mono _ _
   | exact spec_l1Say.mono _ _
   | exact LeO.none _
   | refine LeO.ite ?_ ?_
   | refine LeO.bind ?_ (fun _ => ?_)
set_option maxHeartbeats 8000000 in
set_option maxRecDepth 100000 in
theorem spec_TypeText.calls (k : Nat) (A0_0 : Option Addr) (c0_0 : Nat) (l0_0 : List (S30)) (r : ByteArray) (w : World) (hr0_0 : Kd.C k30 w A0_0 l0_0.length l0_0) (hc0_0 : l0_0.length ≤ c0_0) (h : spec_TypeText.f k l0_0 = some r) :
  Calls Try.prog 22 #[.agg #[.slice A0_0 l0_0.length c0_0]] w fun e w' => e = .returned (.string r) ∧ Below w.heap.size w w' := by
 have hu30 := Try.underlying30
 have HR0_0 := Aside0.mk hr0_0
 have HC0_0 := Aside0.mk hc0_0
 clear hr0_0 hc0_0
 have HB := Aside0.mk (Below.refl w.heap.size w)
 have H : ((spec_TypeOk.f k l0_0).bind fun t311 => (if t311 = true then ((spec_l1Say.f k l0_0).bind fun t312 => (some t312)) else (some (⟨#[]⟩ : ByteArray)))) = some r := h
 clear h
 obtain ⟨t311, A20, H⟩ := ob H
 have A2 := Aside0.mk A20
 clear A20
 by_cases c3 : t311 = true
 ·subst c3
  rw [if_pos rfl] at H
  obtain ⟨t312, A40, H⟩ := ob H
  have A4 := Aside0.mk A40
  clear A40
  obtain rfl := Option.some.inj H
  go_enter Try.func22, Try.ntmps22
  go_wp2_with (first | ((with_reducible refine gate_dst (N := 1) rfl ?_); refine zbx 1 #[.slice A0_0 l0_0.length c0_0] 30 ?_; intro gb310 hg w5 hbox hb; have BK310 := Aside0.mk hbox; have GW310 := Aside0.mk ((y5 hg HB.out : w.heap.size ≤ gb310)); have GE310 := Aside0.mk ((y5 hg HB.out : w.heap.size ≤ gb310)); replace HB := Aside0.mk (below_step (y2 HB.out) hb); clear hb hbox hg; have hcz6_0 := zh BK310; have hfz6_0 := zfr BK310 0) | ((with_reducible refine gate_callee (f := 16) rfl ?_); refine goesL_ (some 4) rfl rfl Try.func16 (by kernel_rfl) rfl #[.agg #[.slice A0_0 l0_0.length c0_0]] rfl y4 ?_; (with_reducible refine (spec_TypeOk.calls k _ _ l0_0 true _ ?side1 ?side2 A2.out).mono ?_); (case side1 => exact y8 HR0_0.out HB.out); (case side2 => exact HC0_0.out); rintro e w7 ⟨rfl, hb⟩; refine ⟨_, rfl, ?_⟩; replace BK310 := zbb BK310 hb; replace HB := Aside0.mk (below_step (y3 HB.out GE310.out) hb); (try clear hb); (try clear hb2); (try clear hk); (try clear hi); have hcz8_0 := zh BK310; have hfz8_0 := zfr BK310 0) | ((with_reducible refine gate_callee (f := 55) rfl ?_); refine goesL_ (some 7) rfl rfl Try.func55 (by kernel_rfl) rfl #[.agg #[.slice A0_0 l0_0.length c0_0]] rfl y4 ?_; (with_reducible refine (spec_l1Say.calls k _ _ l0_0 t312 _ ?side1 ?side2 A4.out).mono ?_); (case side1 => exact y8 HR0_0.out HB.out); (case side2 => exact HC0_0.out); rintro e w9 ⟨rfl, hb⟩; refine ⟨_, rfl, ?_⟩; replace BK310 := zbb BK310 hb; replace HB := Aside0.mk (below_step (y3 HB.out GE310.out) hb); (try clear hb); (try clear hb2); (try clear hk); (try clear hi)))
  go_ret
  exact ⟨y14, (y3 HB.out GE310.out)⟩
 ·replace c3 := Bool.eq_false_iff.mpr c3
  subst c3
  rw [if_neg (show ¬ (false = true) by decide)] at H
  obtain rfl := Option.some.inj H
  go_enter Try.func22, Try.ntmps22
  go_wp2_with (first | ((with_reducible refine gate_dst (N := 1) rfl ?_); refine zbx 1 #[.slice A0_0 l0_0.length c0_0] 30 ?_; intro gb310 hg w10 hbox hb; have BK310 := Aside0.mk hbox; have GW310 := Aside0.mk ((y5 hg HB.out : w.heap.size ≤ gb310)); have GE310 := Aside0.mk ((y5 hg HB.out : w.heap.size ≤ gb310)); replace HB := Aside0.mk (below_step (y2 HB.out) hb); clear hb hbox hg; have hcz11_0 := zh BK310; have hfz11_0 := zfr BK310 0) | ((with_reducible refine gate_callee (f := 16) rfl ?_); refine goesL_ (some 4) rfl rfl Try.func16 (by kernel_rfl) rfl #[.agg #[.slice A0_0 l0_0.length c0_0]] rfl y4 ?_; (with_reducible refine (spec_TypeOk.calls k _ _ l0_0 false _ ?side1 ?side2 A2.out).mono ?_); (case side1 => exact y8 HR0_0.out HB.out); (case side2 => exact HC0_0.out); rintro e w12 ⟨rfl, hb⟩; refine ⟨_, rfl, ?_⟩; replace BK310 := zbb BK310 hb; replace HB := Aside0.mk (below_step (y3 HB.out GE310.out) hb); (try clear hb); (try clear hb2); (try clear hk); (try clear hi)))
  go_ret
  exact ⟨y14, (y3 HB.out GE310.out)⟩
end Go.Proofs.Ytjhbhihfifhljaa.PA
end
section
namespace Go.Proofs.Ytjhbhihfifhljaa.PA
open Go.RowKit Go.Proofs.YtjhbhihfifhljaaW.PrintWords Go.Proofs.YtjhbhihfifhljaaW.PrintLast Go.Proofs.YtjhbhihfifhljaaW.PrintMore
attribute [local go_sem] max2_int min2_int max_two min_two max_three min_three max_four min_four
set_option linter.unusedVariables false
set_option linter.unusedSimpArgs false
def impl_typeIsNum.f (l0_0 : List (S30)) : Option (Bool) := some ((l0_0.length : Int) == 0)
set_option maxHeartbeats 8000000 in
set_option maxRecDepth 100000 in
theorem impl_typeIsNum.calls (A0_0 : Option Addr) (c0_0 : Nat) (l0_0 : List (S30)) (r : Bool) (w : World) (hr0_0 : Kd.C k30 w A0_0 l0_0.length l0_0) (hc0_0 : l0_0.length ≤ c0_0) (h : impl_typeIsNum.f l0_0 = some r) :
  Calls Try.prog 80 #[.agg #[.slice A0_0 l0_0.length c0_0]] w fun e w' => e = .returned (.bool r) ∧ Below w.heap.size w w' := by
 have hu30 := Try.underlying30
 have HR0_0 := Aside0.mk hr0_0
 have HC0_0 := Aside0.mk hc0_0
 clear hr0_0 hc0_0
 have HB := Aside0.mk (Below.refl w.heap.size w)
 have H : (some ((l0_0.length : Int) == 0)) = some r := h
 clear h
 obtain rfl := Option.some.inj H
 go_enter Try.func80, Try.ntmps80
 go_wp2_with (first | ((with_reducible refine gate_dst (N := 1) rfl ?_); refine zbx 1 #[.slice A0_0 l0_0.length c0_0] 30 ?_; intro gb313 hg w2 hbox hb; have BK313 := Aside0.mk hbox; have GW313 := Aside0.mk ((y5 hg HB.out : w.heap.size ≤ gb313)); have GE313 := Aside0.mk ((y5 hg HB.out : w.heap.size ≤ gb313)); replace HB := Aside0.mk (below_step (y2 HB.out) hb); clear hb hbox hg; have hcz3_0 := zh BK313; have hfz3_0 := zfr BK313 0))
 go_ret
 exact ⟨y14, (y3 HB.out GE313.out)⟩
end Go.Proofs.Ytjhbhihfifhljaa.PA
end
section
namespace Go.Proofs.Ytjhbhihfifhljaa.PA
open Go.RowKit Go.Proofs.YtjhbhihfifhljaaW.PrintWords Go.Proofs.YtjhbhihfifhljaaW.PrintLast Go.Proofs.YtjhbhihfifhljaaW.PrintMore
attribute [local go_sem] max2_int min2_int max_two min_two max_three min_three max_four min_four
set_option linter.unusedVariables false
set_option linter.unusedSimpArgs false
def impl_typeWords.f : Nat → List (S30) → Option (ByteArray)
 | 0, _ => none
 | k + 1, l0_0 => (impl_typeIsNum.f l0_0).bind fun t315 => (if t315 = true then (some (⟨#[105]⟩ : ByteArray)) else (if 0 < (l0_0.length : Int) then ((impl_typeWords.f k ((rd_T30 l0_0 0).f0)).bind fun t317 => (if 1 + t317.size ≤ 9223372036854775807 then (if 1 + t317.size + 1 ≤ 9223372036854775807 then (if 1 < (l0_0.length : Int) then ((impl_typeWords.f k ((rd_T30 l0_0 1).f0)).bind fun t319 => (if 1 + t317.size + 1 + t319.size ≤ 9223372036854775807 then (if 1 + t317.size + 1 + t319.size + 1 ≤ 9223372036854775807 then (some (((((⟨#[40]⟩ : ByteArray) ++ t317) ++ (⟨#[44]⟩ : ByteArray)) ++ t319) ++ (⟨#[41]⟩ : ByteArray))) else (none)) else (none))) else (none)) else (none)) else (none))) else (none)))
theorem impl_typeWords.mono_l : ∀ k, (∀ y0, LeO (impl_typeWords.f k y0) (impl_typeWords.f (k + 1) y0))
 | 0 => fun _ r h => by simp [impl_typeWords.f] at h
 | k + 1 => by
  have ih0 := impl_typeWords.mono_l k
  ·intro y0
   unfold impl_typeWords.f
   repeat' first
   | (with_reducible exact ih0 _)
   | (with_reducible exact LeO.refl _)
   | (with_reducible exact LeO.none _)
   | (with_reducible refine LeO.ite ?_ ?_)
   | (with_reducible refine LeO.bind ?_ (fun _ => ?_))
   | exact ih0 _
   | exact LeO.none _
   | refine LeO.ite ?_ ?_
   | refine LeO.bind ?_ (fun _ => ?_)
theorem impl_typeWords.mono : ∀ a0 k, LeO (impl_typeWords.f k a0) (impl_typeWords.f (k + 1) a0) := by
 intro a0 k
 have ih0 := impl_typeWords.mono_l k
 exact ih0 a0
def impl_typeWords.T3 : Bool × List (List Nat × List Nat) := (true, [([], []), ([0], [0]), ([1], [1]), ([2], [2]), ([3], [3]), ([4], [4]), ([5], [5]), ([], []), ([7], [7]), ([8], [8]), ([9], [9]), ([10, 4], [10]), ([6, 11], [6, 11]), ([12], [12]), ([13, 11, 0, 1, 2, 3, 4, 5, 6, 7, 8, 9, 10, 11, 12, 13], [13])])
def impl_typeWords.B3 : List Nat := [0, 1, 3, 7, 15, 31, 63, 0, 128, 384, 896, 1951, 4095, 8191, 16383]
theorem impl_typeWords.tab3 : rtab .any (opsOf Try.f56 3) = impl_typeWords.T3 := by kernel_rfl
theorem impl_typeWords.bits3 : waitsOk impl_typeWords.T3.2 impl_typeWords.B3 = true := by kernel_rfl
set_option maxHeartbeats 8000000 in
set_option maxRecDepth 100000 in
theorem impl_typeWords.calls (k : Nat) : ∀ (A0_0 : Option Addr) (c0_0 : Nat) (l0_0 : List (S30)) (r : ByteArray) (w : World) (hr0_0 : Kd.C k30 w A0_0 l0_0.length l0_0) (hc0_0 : l0_0.length ≤ c0_0) (h : impl_typeWords.f k l0_0 = some r),
  Calls Try.prog 56 #[.agg #[.slice A0_0 l0_0.length c0_0]] w fun e w' => e = .returned (.string r) ∧ Below w.heap.size w w' := by
 induction k using Nat.strongRecOn with
 | _ k ih =>
 intro A0_0 c0_0 l0_0 r w hr0_0 hc0_0 h
 cases k with
 | zero => exact absurd h (by simp [impl_typeWords.f])
 | succ k =>
 simp only [impl_typeWords.f] at h
 have hu30 := Try.underlying30
 have HR0_0 := Aside0.mk hr0_0
 have HC0_0 := Aside0.mk hc0_0
 clear hr0_0 hc0_0
 have HB := Aside0.mk (Below.refl w.heap.size w)
 have H : ((impl_typeIsNum.f l0_0).bind fun t315 => (if t315 = true then (some (⟨#[105]⟩ : ByteArray)) else (if 0 < (l0_0.length : Int) then ((impl_typeWords.f k ((rd_T30 l0_0 0).f0)).bind fun t317 => (if 1 + t317.size ≤ 9223372036854775807 then (if 1 + t317.size + 1 ≤ 9223372036854775807 then (if 1 < (l0_0.length : Int) then ((impl_typeWords.f k ((rd_T30 l0_0 1).f0)).bind fun t319 => (if 1 + t317.size + 1 + t319.size ≤ 9223372036854775807 then (if 1 + t317.size + 1 + t319.size + 1 ≤ 9223372036854775807 then (some (((((⟨#[40]⟩ : ByteArray) ++ t317) ++ (⟨#[44]⟩ : ByteArray)) ++ t319) ++ (⟨#[41]⟩ : ByteArray))) else (none)) else (none))) else (none)) else (none)) else (none))) else (none)))) = some r := h
 clear h
 obtain ⟨t315, A20, H⟩ := ob H
 have A2 := Aside0.mk A20
 clear A20
 by_cases c3 : t315 = true
 ·subst c3
  rw [if_pos rfl] at H
  obtain rfl := Option.some.inj H
  go_enter Try.func56, Try.ntmps56
  go_wp2_with (first | ((with_reducible refine gate_dst (N := 1) rfl ?_); refine zbx 1 #[.slice A0_0 l0_0.length c0_0] 30 ?_; intro gb314 hg w4 hbox hb; have BK314 := Aside0.mk hbox; have GW314 := Aside0.mk ((y5 hg HB.out : w.heap.size ≤ gb314)); have GE314 := Aside0.mk ((y5 hg HB.out : w.heap.size ≤ gb314)); replace HB := Aside0.mk (below_step (y2 HB.out) hb); clear hb hbox hg; have hcz5_0 := zh BK314; have hfz5_0 := zfr BK314 0) | ((with_reducible refine gate_callee (f := 80) rfl ?_); refine goesL_ (some 4) rfl rfl Try.func80 (by kernel_rfl) rfl #[.agg #[.slice A0_0 l0_0.length c0_0]] rfl y4 ?_; (with_reducible refine (impl_typeIsNum.calls _ _ l0_0 true _ ?side1 ?side2 A2.out).mono ?_); (case side1 => exact y8 HR0_0.out HB.out); (case side2 => exact HC0_0.out); rintro e w6 ⟨rfl, hb⟩; refine ⟨_, rfl, ?_⟩; replace BK314 := zbb BK314 hb; replace HB := Aside0.mk (below_step (y3 HB.out GE314.out) hb); (try clear hb); (try clear hb2); (try clear hk); (try clear hi)))
  go_ret
  exact ⟨y14, (y3 HB.out GE314.out)⟩
 ·replace c3 := Bool.eq_false_iff.mpr c3
  subst c3
  rw [if_neg (show ¬ (false = true) by decide)] at H
  by_cases c7 : 0 < (l0_0.length : Int)
  ·rw [if_pos c7] at H
   have c7b0 : decide (0 < (l0_0.length : Int)) = true := decide_eq_true c7
   have c7b1 : decide (0 < l0_0.length) = true := decide_eq_true (by omega)
   clear c7
   obtain ⟨t317, A80, H⟩ := ob H
   have A8 := Aside0.mk A80
   clear A80
   by_cases c9 : 1 + t317.size ≤ 9223372036854775807
   ·rw [if_pos c9] at H
    have c9b0 := eq_true c9
    have c9b1 : decide (1 + t317.size ≤ 9223372036854775807) = true := decide_eq_true c9
    try have c9b2 : (9223372036854775807 < 1 + t317.size) = False := eq_false (Nat.not_lt.2 c9)
    by_cases c10 : 1 + t317.size + 1 ≤ 9223372036854775807
    ·rw [if_pos c10] at H
     have c10b0 := eq_true c10
     have c10b1 : decide (1 + t317.size + 1 ≤ 9223372036854775807) = true := decide_eq_true c10
     try have c10b2 : (9223372036854775807 < 1 + t317.size + 1) = False := eq_false (Nat.not_lt.2 c10)
     by_cases c11 : 1 < (l0_0.length : Int)
     ·rw [if_pos c11] at H
      have c11b0 : decide (1 < (l0_0.length : Int)) = true := decide_eq_true c11
      have c11b1 : decide (1 < l0_0.length) = true := decide_eq_true (by omega)
      clear c11
      obtain ⟨t319, A120, H⟩ := ob H
      have A12 := Aside0.mk A120
      clear A120
      by_cases c13 : 1 + t317.size + 1 + t319.size ≤ 9223372036854775807
      ·rw [if_pos c13] at H
       have c13b0 := eq_true c13
       have c13b1 : decide (1 + t317.size + 1 + t319.size ≤ 9223372036854775807) = true := decide_eq_true c13
       try have c13b2 : (9223372036854775807 < 1 + t317.size + 1 + t319.size) = False := eq_false (Nat.not_lt.2 c13)
       by_cases c14 : 1 + t317.size + 1 + t319.size + 1 ≤ 9223372036854775807
       ·rw [if_pos c14] at H
        have c14b0 := eq_true c14
        have c14b1 : decide (1 + t317.size + 1 + t319.size + 1 ≤ 9223372036854775807) = true := decide_eq_true c14
        try have c14b2 : (9223372036854775807 < 1 + t317.size + 1 + t319.size + 1) = False := eq_false (Nat.not_lt.2 c14)
        obtain rfl := Option.some.inj H
        go_enter Try.func56, Try.ntmps56
        try go_wp2_with (first | ((with_reducible refine gate_dst (N := 1) rfl ?_); refine zbx 1 #[.slice A0_0 l0_0.length c0_0] 30 ?_; intro gb314 hg w15 hbox hb; have BK314 := Aside0.mk hbox; have GW314 := Aside0.mk ((y5 hg HB.out : w.heap.size ≤ gb314)); have GE314 := Aside0.mk ((y5 hg HB.out : w.heap.size ≤ gb314)); replace HB := Aside0.mk (below_step (y2 HB.out) hb); clear hb hbox hg; have hcz16_0 := zh BK314; have hfz16_0 := zfr BK314 0) | ((with_reducible refine gate_callee (f := 80) rfl ?_); refine goesL_ (some 4) rfl rfl Try.func80 (by kernel_rfl) rfl #[.agg #[.slice A0_0 l0_0.length c0_0]] rfl y4 ?_; (with_reducible refine (impl_typeIsNum.calls _ _ l0_0 false _ ?side1 ?side2 A2.out).mono ?_); (case side1 => exact y8 HR0_0.out HB.out); (case side2 => exact HC0_0.out); rintro e w17 ⟨rfl, hb⟩; refine ⟨_, rfl, ?_⟩; replace BK314 := zbb BK314 hb; replace HB := Aside0.mk (below_step (y3 HB.out GE314.out) hb); (try clear hb); (try clear hb2); (try clear hk); (try clear hi)))
        replace BK314 := Aside0.mk (blk_drew BK314.out)
        replace HB := Aside0.mk (below_drew1 HB.out)
        have p316 : 0 ≤ (0 : Int) := (by omega)
        have q316 : 0 < (l0_0.length : Int) := of_decide_eq_true y19
        obtain ⟨ad316, A316_0, c316_0, e316, hx316_0, hl316_0, hi316_0⟩ := at_T30 HR0_0.out 0 p316 q316
        have hw316_0 := hx316_0
        (try rw [show ((0 : Int)).toNat = 0 from rfl] at hw316_0)
        (try rw [show 0 * 1 = 0 from rfl] at hw316_0)
        (try rw [Addr.add_zero'] at hw316_0)
        cases e316
        have qi316 : (0 < l0_0.length) = True := eq_true (by omega)
        (try rw [show ((0 : Int)).toNat = 0 from rfl] at hx316_0)
        (try rw [Addr.add_zero'] at hx316_0)
        replace hx316_0 := (HB.out.cell (World.block_lt_of_cell? w _ hx316_0)).trans hx316_0
        have HR316_0 := Aside0.mk hi316_0
        have HC316_0 := Aside0.mk hl316_0
        clear hi316_0 hl316_0
        replace p316 := eq_true p316
        replace q316 := eq_true q316
        have p318 : 0 ≤ (1 : Int) := (by omega)
        have q318 : 1 < (l0_0.length : Int) := of_decide_eq_true y19
        obtain ⟨ad318, A318_0, c318_0, e318, hx318_0, hl318_0, hi318_0⟩ := at_T30 HR0_0.out 1 p318 q318
        have hw318_0 := hx318_0
        (try rw [show ((1 : Int)).toNat = 1 from rfl] at hw318_0)
        (try rw [show 1 * 1 = 1 from rfl] at hw318_0)
        (try simp only [Nat.reduceMul, Nat.reduceEqDiff, Go.Addr.add, ↓reduceIte] at hw318_0)
        obtain rfl : ad316 = ad318 := (by injection e318)
        (try simp only [show (1 : Int).toNat = 1 from rfl, Nat.reduceMul, Nat.reduceEqDiff, Go.Addr.add, ↓reduceIte] at hx318_0)
        have qi318 : (1 < l0_0.length) = True := eq_true (by omega)
        (try rw [show ((1 : Int)).toNat = 1 from rfl] at hx318_0)
        replace hx318_0 := (HB.out.cell (World.block_lt_of_cell? w _ hx318_0)).trans hx318_0
        have HR318_0 := Aside0.mk hi318_0
        have HC318_0 := Aside0.mk hl318_0
        clear hi318_0 hl318_0
        replace p318 := eq_true p318
        replace q318 := eq_true q318
        refine start_ (n := 15) (S := fun w' => w'.cell? ⟨gb314, 0, none⟩ = some (.slice (some ad316) l0_0.length c0_0) ∧ w'.cell? ad316 = some (.slice A316_0 ((rd_T30 l0_0 0).f0).length c316_0) ∧ w'.cell? ⟨ad316.block, ad316.off + 1, none⟩ = some (.slice A318_0 ((rd_T30 l0_0 1).f0).length c318_0)) (ds := []) #[false, false, false, false, false, false, false, false, false, false, false, false, false, false, false] (by kernel_rfl) rfl rfl ⟨(blk_cell BK314.out 0).trans rfl, ((HB.out.cell (World.block_lt_of_cell? w _ hw316_0)).trans hw316_0), ((HB.out.cell (World.block_lt_of_cell? w _ hw318_0)).trans hw318_0)⟩ (fun hHeld => ?_); refine with_tabW impl_typeWords.tab3 impl_typeWords.bits3 (fun HT_ HW_ => ?_)
        generalize w17.drew = w18 at BK314 HB HR316_0 HR318_0 hx316_0 hx318_0 hHeld ⊢
        refine zp 0 (some 5) HT_ ?_
        refine zp 7 (some 12) HT_ ?_
        refine zt3 1 (some 6) HT_ HW_ hHeld ?_
        refine zp 2 (some 7) HT_ ?_
        refine zt3 3 (some 8) HT_ HW_ hHeld ?_
        refine zt3 8 (some 13) HT_ HW_ hHeld ?_
        refine zp 9 (some 14) HT_ ?_
        refine zt3 10 (some 15) HT_ HW_ hHeld ?_
        refine one_ (i := 4) (N := some 9) #[true, true, true, true, true, false, false, true, true, true, true, false, false, false, false] rfl rfl (one_of HT_.out (by kernel_rfl)) (by decide) (fun K hK => ?_)
        refine goes_ Try.func56 (by kernel_rfl) rfl #[.agg #[.slice A316_0 ((rd_T30 l0_0 0).f0).length c316_0]] (by rfl) rfl rfl y4 ?_
        with_reducible refine (ih k (by omega) _ _ ((rd_T30 l0_0 0).f0) t317 _ ?side1 ?side2 A8.out).mono ?_
        (case side1 => exact y8 HR316_0.out HB.out)
        (case side2 => exact HC316_0.out)
        rintro e w19 ⟨rfl, hb⟩
        refine ⟨_, rfl, ?_⟩
        replace BK314 := zbb BK314 hb
        replace HB := Aside0.mk (below_step (y3 HB.out GE314.out) hb)
        (try clear hb)
        (try clear hb2)
        (try clear hk)
        (try clear hi)
        refine hK.out _ _ ⟨(blk_cell BK314.out 0).trans rfl, ((HB.out.cell (World.block_lt_of_cell? w _ hw316_0)).trans hw316_0), ((HB.out.cell (World.block_lt_of_cell? w _ hw318_0)).trans hw318_0)⟩ (fun hHeld => ?_)
        clear hK K
        refine norm_ (a' := ?_) ?_ ?_
        rotate_left
        ·show Act.put _ (some 9) _ = _
         simp only [Act.put, List.setIfInBounds_toArray, List.set_cons_zero, List.set_cons_succ, i64_w, i32_w]
         rfl
        refine zp 5 (some 10) HT_ ?_
        refine zp 6 (some 11) HT_ ?_
        refine one_ (i := 11) (N := some 16) #[true, true, true, true, true, true, true, true, true, true, true, true, false, false, false] rfl rfl (one_of HT_.out (by kernel_rfl)) (by decide) (fun K hK => ?_)
        refine goes_ Try.func56 (by kernel_rfl) rfl #[.agg #[.slice A318_0 ((rd_T30 l0_0 1).f0).length c318_0]] (by rfl) rfl rfl y4 ?_
        with_reducible refine (ih k (by omega) _ _ ((rd_T30 l0_0 1).f0) t319 _ ?side1 ?side2 A12.out).mono ?_
        (case side1 => exact y8 HR318_0.out HB.out)
        (case side2 => exact HC318_0.out)
        rintro e w20 ⟨rfl, hb⟩
        refine ⟨_, rfl, ?_⟩
        replace BK314 := zbb BK314 hb
        replace HB := Aside0.mk (below_step (y3 HB.out GE314.out) hb)
        (try clear hb)
        (try clear hb2)
        (try clear hk)
        (try clear hi)
        refine hK.out _ _ ⟨(blk_cell BK314.out 0).trans rfl, ((HB.out.cell (World.block_lt_of_cell? w _ hw316_0)).trans hw316_0), ((HB.out.cell (World.block_lt_of_cell? w _ hw318_0)).trans hw318_0)⟩ (fun hHeld => ?_)
        clear hK K
        refine norm_ (a' := ?_) ?_ ?_
        rotate_left
        ·show Act.put _ (some 16) _ = _
         simp only [Act.put, List.setIfInBounds_toArray, List.set_cons_zero, List.set_cons_succ, i64_w, i32_w]
         rfl
        refine zp 12 (some 17) HT_ ?_
        refine zp 13 (some 18) HT_ ?_
        refine zp 14 (some 2) HT_ ?_
        refine done_ (done_of HT_.out (by kernel_rfl)) ?_
        try go_wp2
        go_ret
        exact ⟨y14, (y3 HB.out GE314.out)⟩
       ·rw [if_neg c14] at H
        exact absurd H (by simp)
      ·rw [if_neg c13] at H
       exact absurd H (by simp)
     ·rw [if_neg c11] at H
      exact absurd H (by simp)
    ·rw [if_neg c10] at H
     exact absurd H (by simp)
   ·rw [if_neg c9] at H
    exact absurd H (by simp)
  ·rw [if_neg c7] at H
   exact absurd H (by simp)
end Go.Proofs.Ytjhbhihfifhljaa.PA
end
section
namespace Go.Proofs.Ytjhbhihfifhljaa.PA
open Go.RowKit Go.Proofs.YtjhbhihfifhljaaW.PrintWords Go.Proofs.YtjhbhihfifhljaaW.PrintLast Go.Proofs.YtjhbhihfifhljaaW.PrintMore
attribute [local go_sem] max2_int min2_int max_two min_two max_three min_three max_four min_four
set_option linter.unusedVariables false
set_option linter.unusedSimpArgs false
def impl_TypeText.f (k : Nat) (l0_0 : List (S30)) : Option (ByteArray) := (impl_TypeOk.f k l0_0).bind fun t321 => (if t321 = true then ((impl_typeWords.f k l0_0).bind fun t322 => (some t322)) else (some (⟨#[]⟩ : ByteArray)))
theorem impl_TypeText.mono : ∀ a0 k, LeO (impl_TypeText.f k a0) (impl_TypeText.f (k + 1) a0) := by
 intro a0 k
 unfold impl_TypeText.f
 repeat' first
   | (with_reducible exact impl_TypeOk.mono _ _)
   | (with_reducible exact impl_typeWords.mono _ _)
   | (with_reducible exact LeO.refl _)
   | (with_reducible exact LeO.none _)
   | (with_reducible refine LeO.ite ?_ ?_)
   | (with_reducible refine LeO.bind ?_ (fun _ => ?_))
   | exact impl_TypeOk.mono _ _
   | exact impl_typeWords.mono _ _
   | exact LeO.none _
   | refine LeO.ite ?_ ?_
   | refine LeO.bind ?_ (fun _ => ?_)
set_option maxHeartbeats 8000000 in
set_option maxRecDepth 100000 in
theorem impl_TypeText.calls (k : Nat) (A0_0 : Option Addr) (c0_0 : Nat) (l0_0 : List (S30)) (r : ByteArray) (w : World) (hr0_0 : Kd.C k30 w A0_0 l0_0.length l0_0) (hc0_0 : l0_0.length ≤ c0_0) (h : impl_TypeText.f k l0_0 = some r) :
  Calls Try.prog 23 #[.agg #[.slice A0_0 l0_0.length c0_0]] w fun e w' => e = .returned (.string r) ∧ Below w.heap.size w w' := by
 have hu30 := Try.underlying30
 have HR0_0 := Aside0.mk hr0_0
 have HC0_0 := Aside0.mk hc0_0
 clear hr0_0 hc0_0
 have HB := Aside0.mk (Below.refl w.heap.size w)
 have H : ((impl_TypeOk.f k l0_0).bind fun t321 => (if t321 = true then ((impl_typeWords.f k l0_0).bind fun t322 => (some t322)) else (some (⟨#[]⟩ : ByteArray)))) = some r := h
 clear h
 obtain ⟨t321, A20, H⟩ := ob H
 have A2 := Aside0.mk A20
 clear A20
 by_cases c3 : t321 = true
 ·subst c3
  rw [if_pos rfl] at H
  obtain ⟨t322, A40, H⟩ := ob H
  have A4 := Aside0.mk A40
  clear A40
  obtain rfl := Option.some.inj H
  go_enter Try.func23, Try.ntmps23
  go_wp2_with (first | ((with_reducible refine gate_dst (N := 1) rfl ?_); refine zbx 1 #[.slice A0_0 l0_0.length c0_0] 30 ?_; intro gb320 hg w5 hbox hb; have BK320 := Aside0.mk hbox; have GW320 := Aside0.mk ((y5 hg HB.out : w.heap.size ≤ gb320)); have GE320 := Aside0.mk ((y5 hg HB.out : w.heap.size ≤ gb320)); replace HB := Aside0.mk (below_step (y2 HB.out) hb); clear hb hbox hg; have hcz6_0 := zh BK320; have hfz6_0 := zfr BK320 0) | ((with_reducible refine gate_callee (f := 18) rfl ?_); refine goesL_ (some 4) rfl rfl Try.func18 (by kernel_rfl) rfl #[.agg #[.slice A0_0 l0_0.length c0_0]] rfl y4 ?_; (with_reducible refine (impl_TypeOk.calls k _ _ l0_0 true _ ?side1 ?side2 A2.out).mono ?_); (case side1 => exact y8 HR0_0.out HB.out); (case side2 => exact HC0_0.out); rintro e w7 ⟨rfl, hb⟩; refine ⟨_, rfl, ?_⟩; replace BK320 := zbb BK320 hb; replace HB := Aside0.mk (below_step (y3 HB.out GE320.out) hb); (try clear hb); (try clear hb2); (try clear hk); (try clear hi); have hcz8_0 := zh BK320; have hfz8_0 := zfr BK320 0) | ((with_reducible refine gate_callee (f := 56) rfl ?_); refine goesL_ (some 7) rfl rfl Try.func56 (by kernel_rfl) rfl #[.agg #[.slice A0_0 l0_0.length c0_0]] rfl y4 ?_; (with_reducible refine (impl_typeWords.calls k _ _ l0_0 t322 _ ?side1 ?side2 A4.out).mono ?_); (case side1 => exact y8 HR0_0.out HB.out); (case side2 => exact HC0_0.out); rintro e w9 ⟨rfl, hb⟩; refine ⟨_, rfl, ?_⟩; replace BK320 := zbb BK320 hb; replace HB := Aside0.mk (below_step (y3 HB.out GE320.out) hb); (try clear hb); (try clear hb2); (try clear hk); (try clear hi)))
  go_ret
  exact ⟨y14, (y3 HB.out GE320.out)⟩
 ·replace c3 := Bool.eq_false_iff.mpr c3
  subst c3
  rw [if_neg (show ¬ (false = true) by decide)] at H
  obtain rfl := Option.some.inj H
  go_enter Try.func23, Try.ntmps23
  go_wp2_with (first | ((with_reducible refine gate_dst (N := 1) rfl ?_); refine zbx 1 #[.slice A0_0 l0_0.length c0_0] 30 ?_; intro gb320 hg w10 hbox hb; have BK320 := Aside0.mk hbox; have GW320 := Aside0.mk ((y5 hg HB.out : w.heap.size ≤ gb320)); have GE320 := Aside0.mk ((y5 hg HB.out : w.heap.size ≤ gb320)); replace HB := Aside0.mk (below_step (y2 HB.out) hb); clear hb hbox hg; have hcz11_0 := zh BK320; have hfz11_0 := zfr BK320 0) | ((with_reducible refine gate_callee (f := 18) rfl ?_); refine goesL_ (some 4) rfl rfl Try.func18 (by kernel_rfl) rfl #[.agg #[.slice A0_0 l0_0.length c0_0]] rfl y4 ?_; (with_reducible refine (impl_TypeOk.calls k _ _ l0_0 false _ ?side1 ?side2 A2.out).mono ?_); (case side1 => exact y8 HR0_0.out HB.out); (case side2 => exact HC0_0.out); rintro e w12 ⟨rfl, hb⟩; refine ⟨_, rfl, ?_⟩; replace BK320 := zbb BK320 hb; replace HB := Aside0.mk (below_step (y3 HB.out GE320.out) hb); (try clear hb); (try clear hb2); (try clear hk); (try clear hi)))
  go_ret
  exact ⟨y14, (y3 HB.out GE320.out)⟩
end Go.Proofs.Ytjhbhihfifhljaa.PA
end
section
namespace Go.Proofs.Ytjhbhihfifhljaa.PA
open Go.RowKit Go.Proofs.YtjhbhihfifhljaaW.PrintWords Go.Proofs.YtjhbhihfifhljaaW.PrintLast Go.Proofs.YtjhbhihfifhljaaW.PrintMore
attribute [local go_sem] max2_int min2_int max_two min_two max_three min_three max_four min_four
set_option linter.unusedVariables false
set_option linter.unusedSimpArgs false
def spec_DrawTypeText.f (k : Nat) (l0 : List Int) : Option ((List (S30))) := (spec_l6Open.f l0).bind fun bt339 => ((spec_l71Deep.f k bt339.1 bt339.2).bind fun bt342 => (some bt342.1))
theorem spec_DrawTypeText.mono : ∀ a0 k, LeO (spec_DrawTypeText.f k a0) (spec_DrawTypeText.f (k + 1) a0) := by
 intro a0 k
 unfold spec_DrawTypeText.f
 repeat' first
   | (with_reducible exact spec_l71Deep.mono _ _ _)
   | (with_reducible exact LeO.refl _)
   | (with_reducible exact LeO.none _)
   | (with_reducible refine LeO.ite ?_ ?_)
   | (with_reducible refine LeO.bind ?_ (fun _ => ?_))
   | exact spec_l71Deep.mono _ _ _
   | exact LeO.none _
   | refine LeO.ite ?_ ?_
   | refine LeO.bind ?_ (fun _ => ?_)
set_option maxHeartbeats 8000000 in
set_option maxRecDepth 100000 in
theorem spec_DrawTypeText.calls (k : Nat) (A0 : Option Addr) (c0 : Nat) (l0 : List Int) (r : List (S30)) (w : World) (hr0 : Kd.C (Kd.int .u8) w A0 l0.length l0) (hc0 : l0.length ≤ c0) (h : spec_DrawTypeText.f k l0 = some r) :
  Calls Try.prog 24 #[.slice A0 l0.length c0] w fun e w' => ∃ v0_ : Value, e = .returned (.agg #[v0_]) ∧ Kd.N k30 30 w' w.heap.size (fun k_ => (w.heap.size ≤ k_)) v0_ r ∧ Below w.heap.size w w' := by
 have hu30 := Try.underlying30
 have HR0 := Aside0.mk hr0
 have HC0 := Aside0.mk hc0
 clear hr0 hc0
 have HB := Aside0.mk (Below.refl w.heap.size w)
 have H : ((spec_l6Open.f l0).bind fun bt339 => ((spec_l71Deep.f k bt339.1 bt339.2).bind fun bt342 => (some bt342.1))) = some r := h
 clear h
 obtain ⟨⟨t339, t340⟩, A20, H⟩ := ob H
 have A2 := Aside0.mk A20
 clear A20
 obtain ⟨⟨t342, t345⟩, A30, H⟩ := ob H
 have A3 := Aside0.mk A30
 clear A30
 obtain rfl := Option.some.inj H
 go_enter Try.func24, Try.ntmps24
 go_wp2_with (first | ((with_reducible refine gate_dst (N := 2) rfl ?_); refine zbx 2 #[.slice none 0 0] 30 ?_; intro gb338 hg w4 hbox hb; have BK338 := Aside0.mk hbox; have GW338 := Aside0.mk ((y5 hg HB.out : w.heap.size ≤ gb338)); have GE338 := Aside0.mk ((y5 hg HB.out : w.heap.size ≤ gb338)); replace HB := Aside0.mk (below_step (y2 HB.out) hb); clear hb hbox hg) | ((with_reducible refine gate_callee (f := 52) rfl ?_); refine goesL_ (some 4) rfl rfl Try.func52 (by kernel_rfl) rfl #[.slice A0 l0.length c0] rfl y4 ?_; (with_reducible refine (spec_l6Open.calls _ _ l0 t339 t340 w _ ?side1 ?side2 ?side3 A2.out).mono ?_); (case side1 => exact y3 HB.out GE338.out); (case side2 => exact HR0.out); (case side3 => exact HC0.out); rintro e w5 ⟨g341, rfl, hi, hb, hb2⟩; refine ⟨_, rfl, ?_⟩; replace HB := Aside0.mk (hb); have HI341 := Aside0.mk (hi); have NB341_338 := Aside0.mk (IsS95.ne_blk hi (blk_below (g := gb338) (o := .cells #[.slice none 0 0] 30 (0, 0)) (y0 BK338.out) hb2) (by decide)); have NB338_341 := Aside0.mk (Ne.symm (IsS95.ne_blk hi (blk_below (g := gb338) (o := .cells #[.slice none 0 0] 30 (0, 0)) (y0 BK338.out) hb2) (by decide))); replace BK338 := Aside0.mk (blk_below (g := gb338) (o := .cells #[.slice none 0 0] 30 (0, 0)) (y0 BK338.out) hb2); (try clear hb); (try clear hb2); (try clear hk); (try clear hi)) | ((with_reducible refine gate_callee (f := 51) rfl ?_); refine goesL_ (some 5) rfl rfl Try.func51 (by kernel_rfl) rfl #[.pointer (some ⟨g341, 0, none⟩)] rfl y4 ?_; (with_reducible refine (spec_l71Deep.calls k g341 t339 t340 t342 t345 w _ ?side1 ?side2 A3.out).mono ?_); (case side1 => exact y24 HI341.out NB341_338.out); (case side2 => exact y23 HB.out HI341.out GE338.out); rintro e w6 ⟨v343, rfl, ho0, hi, hb, hk⟩; refine ⟨_, rfl, ?_⟩; have HO344 := Aside0.mk (Kd.N_lower (Kd.N_mono (ok' := fun k_ => (w.heap.size ≤ k_) ∧ k_ ≠ gb338 ∧ k_ ≠ g341) ho0 (fun k_ hk_ => ⟨(Nat.le_trans (below_size (y23 HB.out HI341.out GE338.out)) hk_), (Kd.freshB (g := gb338) (o := .cells #[.slice none 0 0] 30 (0, 0)) (y0 BK338.out) k_ hk_), (IsS95.fresh (y24 HI341.out NB341_338.out) k_ hk_)⟩)) (below_size (y23 HB.out HI341.out GE338.out))); replace BK338 := Aside0.mk (KeepBut.blk hk (g' := gb338) (o := .cells #[.slice none 0 0] 30 (0, 0)) (y0 BK338.out) NB338_341.out (by simp)); replace HB := Aside0.mk (hb); replace HI341 := Aside0.mk (hi); (try clear hb); (try clear hb2); (try clear hk); (try clear hi); (try clear ho0); obtain ⟨Ao7, co7, eo7⟩ := Kd.N_slice HO344.out; subst eo7; have hnb8 := NB338_341.out; have hnc8 := NB341_338.out; have hcz9_0 := zh BK338; have hfz9_0 := zfr BK338 0))
 refine bodyPost_ret (results_cell_row rfl _ _ gb338 30 #[.slice Ao7 t342.length co7] (0, 0) _ rfl (by (with_reducible repeat (first | refine blk_drewN ?_ _ | refine blk_drew ?_ | refine blk_alloc ?_ _)); apply blk_put (i := 0); (case h => exact y0 BK338.out); (case e => rfl)) Try.underlying30 rfl (by kernel_rfl)) rfl ?_
 exact ⟨_, y14, (by (with_reducible repeat (first | apply Kd.N_alloc | apply Kd.N_drewN | apply Kd.N_drew)); exact Kd.N_mono (Kd.N_far (p := ⟨gb338, 0, none⟩) (Kd.N_mono HO344.out (fun k_ hk => (⟨hk, hk.2.1⟩ : _ ∧ k_ ≠ gb338))) (fun _ hk => hk.2) (.slice Ao7 t342.length co7)) (fun _ hk => hk.1.1)), (y23 HB.out HI341.out GE338.out)⟩
end Go.Proofs.Ytjhbhihfifhljaa.PA
end
section
namespace Go.Proofs.Ytjhbhihfifhljaa.PA
open Go.RowKit Go.Proofs.YtjhbhihfifhljaaW.PrintWords Go.Proofs.YtjhbhihfifhljaaW.PrintLast Go.Proofs.YtjhbhihfifhljaaW.PrintMore
attribute [local go_sem] max2_int min2_int max_two min_two max_three min_three max_four min_four
set_option linter.unusedVariables false
set_option linter.unusedSimpArgs false
mutual
def laws_lhType.l0 : Nat → Int → List (S30) → List (S30) → Option (Bool)
 | 0, _, _, _ => none
 | k + 1, x5, x347000, x348000 => if x5 < (x347000.length : Int) then (if 0 ≤ x5 then (if x5 < (x348000.length : Int) then ((laws_lhType.f k ((rd_T30 x347000 x5).f0) ((rd_T30 x348000 x5).f0)).bind fun t350 => (if t350 = true then (laws_lhType.l0 k (wrap64 (x5 + 1)) x347000 x348000) else (some false))) else (none)) else (none)) else (some true)
def laws_lhType.f : Nat → List (S30) → List (S30) → Option (Bool)
 | 0, _, _ => none
 | k + 1, l0_0, l1_0 => if (l0_0.length : Int) = (l1_0.length : Int) then (laws_lhType.l0 k 0 l0_0 l1_0) else (some false)
end
theorem laws_lhType.mono_l : ∀ k, (∀ y0 y1, LeO (laws_lhType.f k y0 y1) (laws_lhType.f (k + 1) y0 y1)) ∧ (∀ y0 y1 y2, LeO (laws_lhType.l0 k y0 y1 y2) (laws_lhType.l0 (k + 1) y0 y1 y2))
 | 0 => ⟨fun _ _ r h => by simp [laws_lhType.f] at h, fun _ _ _ r h => by simp [laws_lhType.l0] at h⟩
 | k + 1 => by
  obtain ⟨ih0, ih1⟩ := laws_lhType.mono_l k
  refine ⟨?_, ?_⟩
  ·intro y0 y1
   unfold laws_lhType.f
   repeat' first
   | (with_reducible exact ih0 _ _)
   | (with_reducible exact ih1 _ _ _)
   | (with_reducible exact LeO.refl _)
   | (with_reducible exact LeO.none _)
   | (with_reducible refine LeO.ite ?_ ?_)
   | (with_reducible refine LeO.bind ?_ (fun _ => ?_))
   | exact ih0 _ _
   | exact ih1 _ _ _
   | exact LeO.none _
   | refine LeO.ite ?_ ?_
   | refine LeO.bind ?_ (fun _ => ?_)
  ·intro y0 y1 y2
   unfold laws_lhType.l0
   repeat' first
   | (with_reducible exact ih0 _ _)
   | (with_reducible exact ih1 _ _ _)
   | (with_reducible exact LeO.refl _)
   | (with_reducible exact LeO.none _)
   | (with_reducible refine LeO.ite ?_ ?_)
   | (with_reducible refine LeO.bind ?_ (fun _ => ?_))
   | exact ih0 _ _
   | exact ih1 _ _ _
   | exact LeO.none _
   | refine LeO.ite ?_ ?_
   | refine LeO.bind ?_ (fun _ => ?_)
theorem laws_lhType.mono : ∀ a0 a1 k, LeO (laws_lhType.f k a0 a1) (laws_lhType.f (k + 1) a0 a1) := by
 intro a0 a1 k
 obtain ⟨ih0, ih1⟩ := laws_lhType.mono_l k
 exact ih0 a0 a1
def laws_lhType.T6 : Bool × List (List Nat × List Nat) := (true, [([], []), ([0], [0]), ([], []), ([1, 2], [1, 2]), ([3], [3]), ([], []), ([5], [5]), ([], []), ([6, 7], [6, 7]), ([8], [8]), ([4, 9], [4, 9]), ([10], [10])])
def laws_lhType.B6 : List Nat := [0, 1, 0, 7, 15, 0, 32, 0, 224, 480, 1023, 2047]
theorem laws_lhType.tab6 : rtab .any (opsOf Try.f25 6) = laws_lhType.T6 := by kernel_rfl
theorem laws_lhType.bits6 : waitsOk laws_lhType.T6.2 laws_lhType.B6 = true := by kernel_rfl
set_option maxHeartbeats 8000000 in
set_option maxRecDepth 100000 in
theorem laws_lhType.calls (k : Nat) : ∀ (A0_0 : Option Addr) (c0_0 : Nat) (l0_0 : List (S30)) (A1_0 : Option Addr) (c1_0 : Nat) (l1_0 : List (S30)) (r : Bool) (w : World) (hr0_0 : Kd.C k30 w A0_0 l0_0.length l0_0) (hc0_0 : l0_0.length ≤ c0_0) (hr1_0 : Kd.C k30 w A1_0 l1_0.length l1_0) (hc1_0 : l1_0.length ≤ c1_0) (h : laws_lhType.f k l0_0 l1_0 = some r),
  Calls Try.prog 25 #[.agg #[.slice A0_0 l0_0.length c0_0], .agg #[.slice A1_0 l1_0.length c1_0]] w fun e w' => e = .returned (.bool r) ∧ Below w.heap.size w w' := by
 induction k using Nat.strongRecOn with
 | _ k ih =>
 intro A0_0 c0_0 l0_0 A1_0 c1_0 l1_0 r w hr0_0 hc0_0 hr1_0 hc1_0 h
 cases k with
 | zero => exact absurd h (by simp [laws_lhType.f])
 | succ k =>
 simp only [laws_lhType.f] at h
 have hu30 := Try.underlying30
 have HR0_0 := Aside0.mk hr0_0
 have HC0_0 := Aside0.mk hc0_0
 clear hr0_0 hc0_0
 have HR1_0 := Aside0.mk hr1_0
 have HC1_0 := Aside0.mk hc1_0
 clear hr1_0 hc1_0
 have HB := Aside0.mk (Below.refl w.heap.size w)
 have H : (if (l0_0.length : Int) = (l1_0.length : Int) then (laws_lhType.l0 k 0 l0_0 l1_0) else (some false)) = some r := h
 clear h
 by_cases c3 : (l0_0.length : Int) = (l1_0.length : Int)
 ·rw [if_pos c3] at H
  have c3b0 : ((l0_0.length : Int) == (l1_0.length : Int)) = true := beq_iff_eq.mpr c3
  have c3b1 : ((l0_0.length : Int) != (l1_0.length : Int)) = false := bne_eq_false_iff_eq.mpr c3
  have c3b2 : (l0_0.length == l1_0.length) = true := by first | simpa using c3 | (simp at c3 ⊢; omega)
  clear c3
  have H' := Aside0.mk H
  clear H
  go_enter Try.func25, Try.ntmps25
  go_wp2_with (first | ((with_reducible refine gate_dst (N := 2) rfl ?_); refine zbx 2 #[.slice A0_0 l0_0.length c0_0] 30 ?_; intro gb346 hg w4 hbox hb; have BK346 := Aside0.mk hbox; have GW346 := Aside0.mk ((y5 hg HB.out : w.heap.size ≤ gb346)); have GE346 := Aside0.mk ((y5 hg HB.out : w.heap.size ≤ gb346)); replace HB := Aside0.mk (below_step (y2 HB.out) hb); clear hb hbox hg) | ((with_reducible refine gate_dst (N := 3) rfl ?_); refine zbx 3 #[.slice A1_0 l1_0.length c1_0] 30 ?_; intro gb347 hg w5 hbox hb; have BK347 := Aside0.mk hbox; have GW347 := Aside0.mk ((y6 hg HB.out GE346.out : w.heap.size ≤ gb347)); have GE347 := Aside0.mk ((y6 hg HB.out GE346.out : w.heap.size ≤ gb347)); replace HB := Aside0.mk (below_step (y3 HB.out GE346.out) hb); have NB346_347 := zltn hg BK346; have NB347_346 := zgtn hg BK346; replace BK346 := zbb BK346 hb; clear hb hbox hg; have hnb6 := NB346_347.out; have hnc6 := NB347_346.out; have hcz7_0 := zh BK346; have hfz7_0 := zfr BK346 0; have hcz8_0 := zh BK347; have hfz8_0 := zfr BK347 0))
  go_loopg [5] k (fun kq v5 w' => ∃ (x5_1 : Int), v5 = .int .i64 x5_1 ∧ Aside0 (laws_lhType.l0 kq x5_1 l0_0 l1_0 = some r) ∧ Aside0 (kq ≤ k) ∧ Aside0 (w'.heap[gb346]? = some (.cells #[(.slice A0_0 l0_0.length c0_0)] 30 (0, 0))) ∧ Aside0 (w'.heap[gb347]? = some (.cells #[(.slice A1_0 l1_0.length c1_0)] 30 (0, 0))) ∧ Aside0 (Below w.heap.size w w'))
  case atStart => exact ⟨(0), y26, H', ⟨Nat.le_refl _⟩, ⟨(y0 BK346.out)⟩, ⟨(y0 BK347.out)⟩, ⟨(y1 HB.out GE346.out GE347.out)⟩⟩
  case round =>
   clear H'
   try clear c1
   try clear c2
   try clear p2
   try clear c3
   try clear c3b0
   try clear c3b1
   try clear c3b2
   try clear c6
   try clear hcz7_0
   try clear hcz8_0
   try clear hfz7_0
   try clear hfz8_0
   obtain ⟨x5_1, rfl, HA, HK1, BK346, BK347, HB⟩ := hrel
   cases gk with
   | zero => exact absurd HA.out (by simp [laws_lhType.l0])
   | succ k1 =>
    have H := HA.out
    clear HA
    simp only [laws_lhType.l0] at H
    by_cases c9 : x5_1 < (l0_0.length : Int)
    ·rw [if_pos c9] at H
     have c9b0 : decide (x5_1 < (l0_0.length : Int)) = true := decide_eq_true c9
     clear c9
     by_cases c10 : 0 ≤ x5_1
     ·rw [if_pos c10] at H
      have c10b0 : decide (0 ≤ x5_1) = true := decide_eq_true c10
      clear c10
      by_cases c11 : x5_1 < (l1_0.length : Int)
      ·rw [if_pos c11] at H
       have c11b0 : decide (x5_1 < (l1_0.length : Int)) = true := decide_eq_true c11
       clear c11
       obtain ⟨t350, A120, H⟩ := ob H
       have A12 := Aside0.mk A120
       clear A120
       by_cases c13 : t350 = true
       ·subst c13
        rw [if_pos rfl] at H
        have H' := Aside0.mk H
        clear H
        have hnb14 := NB346_347.out
        have hnc14 := NB347_346.out
        have hcz15_0 := zh BK346
        have hfz15_0 := zfr BK346 0
        try go_wp2
        replace BK346 := Aside0.mk (blk_drew BK346.out)
        replace BK347 := Aside0.mk (blk_drew BK347.out)
        replace HB := Aside0.mk (below_drew1 HB.out)
        have p348 : 0 ≤ (x5_1 : Int) := of_decide_eq_true y19
        have q348 : x5_1 < (l0_0.length : Int) := of_decide_eq_true y19
        obtain ⟨ad348, A348_0, c348_0, e348, hx348_0, hl348_0, hi348_0⟩ := at_T30 HR0_0.out x5_1 p348 q348
        have hw348_0 := hx348_0
        cases e348
        replace hx348_0 := (HB.out.cell (World.block_lt_of_cell? w _ hx348_0)).trans hx348_0
        have HR348_0 := Aside0.mk hi348_0
        have HC348_0 := Aside0.mk hl348_0
        clear hi348_0 hl348_0
        replace p348 := eq_true p348
        replace q348 := eq_true q348
        have p349 : 0 ≤ (x5_1 : Int) := of_decide_eq_true y19
        have q349 : x5_1 < (l1_0.length : Int) := of_decide_eq_true y19
        obtain ⟨ad349, A349_0, c349_0, e349, hx349_0, hl349_0, hi349_0⟩ := at_T30 HR1_0.out x5_1 p349 q349
        have hw349_0 := hx349_0
        cases e349
        replace hx349_0 := (HB.out.cell (World.block_lt_of_cell? w _ hx349_0)).trans hx349_0
        have HR349_0 := Aside0.mk hi349_0
        have HC349_0 := Aside0.mk hl349_0
        clear hi349_0 hl349_0
        replace p349 := eq_true p349
        replace q349 := eq_true q349
        refine start_ (n := 12) (S := fun w' => w'.cell? ⟨gb346, 0, none⟩ = some (.slice (some ad348) l0_0.length c0_0) ∧ w'.cell? ⟨gb347, 0, none⟩ = some (.slice (some ad349) l1_0.length c1_0) ∧ w'.cell? (ad348.add (x5_1).toNat) = some (.slice A348_0 ((rd_T30 l0_0 x5_1).f0).length c348_0) ∧ w'.cell? (ad349.add (x5_1).toNat) = some (.slice A349_0 ((rd_T30 l1_0 x5_1).f0).length c349_0)) (ds := []) #[false, false, false, false, false, false, false, false, false, false, false, false] (by kernel_rfl) rfl rfl ⟨(blk_cell BK346.out 0).trans rfl, (blk_cell BK347.out 0).trans rfl, ((HB.out.cell (World.block_lt_of_cell? w _ hw348_0)).trans hw348_0), ((HB.out.cell (World.block_lt_of_cell? w _ hw349_0)).trans hw349_0)⟩ (fun hHeld => ?_); refine with_tabW laws_lhType.tab6 laws_lhType.bits6 (fun HT_ HW_ => ?_)
        generalize wr.drew = w16 at BK346 BK347 HB HR348_0 HR349_0 hx348_0 hx349_0 hHeld ⊢
        refine zp 0 (some 20) HT_ ?_
        refine zp 2 (some 22) HT_ ?_
        refine zp 5 (some 25) HT_ ?_
        refine zp 7 (some 27) HT_ ?_
        refine zt4 1 (some 21) HT_ HW_ hHeld ?_
        refine zp 3 (some 23) HT_ ?_
        refine zt4 4 (some 24) HT_ HW_ hHeld ?_
        refine zt4 6 (some 26) HT_ HW_ hHeld ?_
        refine zp 8 (some 28) HT_ ?_
        refine zt4 9 (some 29) HT_ HW_ hHeld ?_
        refine one_ (i := 10) (N := some 30) #[true, true, true, true, true, true, true, true, true, true, true, false] rfl rfl (one_of HT_.out (by kernel_rfl)) (by decide) (fun K hK => ?_)
        refine goes_ Try.func25 (by kernel_rfl) rfl #[.agg #[.slice A348_0 ((rd_T30 l0_0 x5_1).f0).length c348_0], .agg #[.slice A349_0 ((rd_T30 l1_0 x5_1).f0).length c349_0]] (by rfl) rfl rfl y4 ?_
        with_reducible refine (ih k1 (y46 HK1.out) _ _ ((rd_T30 l0_0 x5_1).f0) _ _ ((rd_T30 l1_0 x5_1).f0) true _ ?side1 ?side2 ?side3 ?side4 A12.out).mono ?_
        (case side1 => exact y8 HR348_0.out HB.out)
        (case side2 => exact HC348_0.out)
        (case side3 => exact y8 HR349_0.out HB.out)
        (case side4 => exact HC349_0.out)
        rintro e w17 ⟨rfl, hb⟩
        refine ⟨_, rfl, ?_⟩
        replace BK346 := zbb BK346 hb
        replace BK347 := zbb BK347 hb
        replace HB := Aside0.mk (below_step (y1 HB.out GE346.out GE347.out) hb)
        (try clear hb)
        (try clear hb2)
        (try clear hk)
        (try clear hi)
        refine hK.out _ _ ⟨(blk_cell BK346.out 0).trans rfl, (blk_cell BK347.out 0).trans rfl, ((HB.out.cell (World.block_lt_of_cell? w _ hw348_0)).trans hw348_0), ((HB.out.cell (World.block_lt_of_cell? w _ hw349_0)).trans hw349_0)⟩ (fun hHeld => ?_)
        clear hK K
        refine norm_ (a' := ?_) ?_ ?_
        rotate_left
        ·show Act.put _ (some 30) _ = _
         simp only [Act.put, List.setIfInBounds_toArray, List.set_cons_zero, List.set_cons_succ, i64_w, i32_w]
         rfl
        refine zp 11 (some 31) HT_ ?_
        refine done_ (done_of HT_.out (by kernel_rfl)) ?_
        try go_wp2
        go_roundg k1
        case measure => have := HK1.out; omega
        case rel => exact ⟨(wrap64 (x5_1 + 1)), y26, H', ⟨(y46 HK1.out)⟩, ⟨(y0 BK346.out)⟩, ⟨(y0 BK347.out)⟩, ⟨(y1 HB.out GE346.out GE347.out)⟩⟩
       ·replace c13 := Bool.eq_false_iff.mpr c13
        subst c13
        rw [if_neg (show ¬ (false = true) by decide)] at H
        obtain rfl := Option.some.inj H
        have hnb18 := NB346_347.out
        have hnc18 := NB347_346.out
        have hcz19_0 := zh BK346
        have hfz19_0 := zfr BK346 0
        try go_wp2
        replace BK346 := Aside0.mk (blk_drew BK346.out)
        replace BK347 := Aside0.mk (blk_drew BK347.out)
        replace HB := Aside0.mk (below_drew1 HB.out)
        have p348 : 0 ≤ (x5_1 : Int) := of_decide_eq_true y19
        have q348 : x5_1 < (l0_0.length : Int) := of_decide_eq_true y19
        obtain ⟨ad348, A348_0, c348_0, e348, hx348_0, hl348_0, hi348_0⟩ := at_T30 HR0_0.out x5_1 p348 q348
        have hw348_0 := hx348_0
        cases e348
        replace hx348_0 := (HB.out.cell (World.block_lt_of_cell? w _ hx348_0)).trans hx348_0
        have HR348_0 := Aside0.mk hi348_0
        have HC348_0 := Aside0.mk hl348_0
        clear hi348_0 hl348_0
        replace p348 := eq_true p348
        replace q348 := eq_true q348
        have p349 : 0 ≤ (x5_1 : Int) := of_decide_eq_true y19
        have q349 : x5_1 < (l1_0.length : Int) := of_decide_eq_true y19
        obtain ⟨ad349, A349_0, c349_0, e349, hx349_0, hl349_0, hi349_0⟩ := at_T30 HR1_0.out x5_1 p349 q349
        have hw349_0 := hx349_0
        cases e349
        replace hx349_0 := (HB.out.cell (World.block_lt_of_cell? w _ hx349_0)).trans hx349_0
        have HR349_0 := Aside0.mk hi349_0
        have HC349_0 := Aside0.mk hl349_0
        clear hi349_0 hl349_0
        replace p349 := eq_true p349
        replace q349 := eq_true q349
        refine start_ (n := 12) (S := fun w' => w'.cell? ⟨gb346, 0, none⟩ = some (.slice (some ad348) l0_0.length c0_0) ∧ w'.cell? ⟨gb347, 0, none⟩ = some (.slice (some ad349) l1_0.length c1_0) ∧ w'.cell? (ad348.add (x5_1).toNat) = some (.slice A348_0 ((rd_T30 l0_0 x5_1).f0).length c348_0) ∧ w'.cell? (ad349.add (x5_1).toNat) = some (.slice A349_0 ((rd_T30 l1_0 x5_1).f0).length c349_0)) (ds := []) #[false, false, false, false, false, false, false, false, false, false, false, false] (by kernel_rfl) rfl rfl ⟨(blk_cell BK346.out 0).trans rfl, (blk_cell BK347.out 0).trans rfl, ((HB.out.cell (World.block_lt_of_cell? w _ hw348_0)).trans hw348_0), ((HB.out.cell (World.block_lt_of_cell? w _ hw349_0)).trans hw349_0)⟩ (fun hHeld => ?_); refine with_tabW laws_lhType.tab6 laws_lhType.bits6 (fun HT_ HW_ => ?_)
        generalize wr.drew = w20 at BK346 BK347 HB HR348_0 HR349_0 hx348_0 hx349_0 hHeld ⊢
        refine zp 0 (some 20) HT_ ?_
        refine zp 2 (some 22) HT_ ?_
        refine zp 5 (some 25) HT_ ?_
        refine zp 7 (some 27) HT_ ?_
        refine zt4 1 (some 21) HT_ HW_ hHeld ?_
        refine zp 3 (some 23) HT_ ?_
        refine zt4 4 (some 24) HT_ HW_ hHeld ?_
        refine zt4 6 (some 26) HT_ HW_ hHeld ?_
        refine zp 8 (some 28) HT_ ?_
        refine zt4 9 (some 29) HT_ HW_ hHeld ?_
        refine one_ (i := 10) (N := some 30) #[true, true, true, true, true, true, true, true, true, true, true, false] rfl rfl (one_of HT_.out (by kernel_rfl)) (by decide) (fun K hK => ?_)
        refine goes_ Try.func25 (by kernel_rfl) rfl #[.agg #[.slice A348_0 ((rd_T30 l0_0 x5_1).f0).length c348_0], .agg #[.slice A349_0 ((rd_T30 l1_0 x5_1).f0).length c349_0]] (by rfl) rfl rfl y4 ?_
        with_reducible refine (ih k1 (y46 HK1.out) _ _ ((rd_T30 l0_0 x5_1).f0) _ _ ((rd_T30 l1_0 x5_1).f0) false _ ?side1 ?side2 ?side3 ?side4 A12.out).mono ?_
        (case side1 => exact y8 HR348_0.out HB.out)
        (case side2 => exact HC348_0.out)
        (case side3 => exact y8 HR349_0.out HB.out)
        (case side4 => exact HC349_0.out)
        rintro e w21 ⟨rfl, hb⟩
        refine ⟨_, rfl, ?_⟩
        replace BK346 := zbb BK346 hb
        replace BK347 := zbb BK347 hb
        replace HB := Aside0.mk (below_step (y1 HB.out GE346.out GE347.out) hb)
        (try clear hb)
        (try clear hb2)
        (try clear hk)
        (try clear hi)
        refine hK.out _ _ ⟨(blk_cell BK346.out 0).trans rfl, (blk_cell BK347.out 0).trans rfl, ((HB.out.cell (World.block_lt_of_cell? w _ hw348_0)).trans hw348_0), ((HB.out.cell (World.block_lt_of_cell? w _ hw349_0)).trans hw349_0)⟩ (fun hHeld => ?_)
        clear hK K
        refine norm_ (a' := ?_) ?_ ?_
        rotate_left
        ·show Act.put _ (some 30) _ = _
         simp only [Act.put, List.setIfInBounds_toArray, List.set_cons_zero, List.set_cons_succ, i64_w, i32_w]
         rfl
        refine zp 11 (some 31) HT_ ?_
        refine done_ (done_of HT_.out (by kernel_rfl)) ?_
        try go_wp2
        go_ret
        exact ⟨y14, (y1 HB.out GE346.out GE347.out)⟩
      ·rw [if_neg c11] at H
       exact absurd H (by simp)
     ·rw [if_neg c10] at H
      exact absurd H (by simp)
    ·rw [if_neg c9] at H
     have c9b0 : decide (x5_1 < (l0_0.length : Int)) = false := decide_eq_false c9
     clear c9
     obtain rfl := Option.some.inj H
     have hnb22 := NB346_347.out
     have hnc22 := NB347_346.out
     have hcz23_0 := zh BK346
     have hfz23_0 := zfr BK346 0
     go_wp2
     go_ret
     exact ⟨y14, (y1 HB.out GE346.out GE347.out)⟩
 ·rw [if_neg c3] at H
  have c3b0 : ((l0_0.length : Int) == (l1_0.length : Int)) = false := beq_eq_false_iff_ne.mpr c3
  have c3b1 : ((l0_0.length : Int) != (l1_0.length : Int)) = true := bne_iff_ne.mpr c3
  have c3b2 : (l0_0.length == l1_0.length) = false := by first | simpa using c3 | (simp at c3 ⊢; omega)
  obtain rfl := Option.some.inj H
  go_enter Try.func25, Try.ntmps25
  go_wp2_with (first | ((with_reducible refine gate_dst (N := 2) rfl ?_); refine zbx 2 #[.slice A0_0 l0_0.length c0_0] 30 ?_; intro gb346 hg w24 hbox hb; have BK346 := Aside0.mk hbox; have GW346 := Aside0.mk ((y5 hg HB.out : w.heap.size ≤ gb346)); have GE346 := Aside0.mk ((y5 hg HB.out : w.heap.size ≤ gb346)); replace HB := Aside0.mk (below_step (y2 HB.out) hb); clear hb hbox hg) | ((with_reducible refine gate_dst (N := 3) rfl ?_); refine zbx 3 #[.slice A1_0 l1_0.length c1_0] 30 ?_; intro gb347 hg w25 hbox hb; have BK347 := Aside0.mk hbox; have GW347 := Aside0.mk ((y6 hg HB.out GE346.out : w.heap.size ≤ gb347)); have GE347 := Aside0.mk ((y6 hg HB.out GE346.out : w.heap.size ≤ gb347)); replace HB := Aside0.mk (below_step (y3 HB.out GE346.out) hb); have NB346_347 := zltn hg BK346; have NB347_346 := zgtn hg BK346; replace BK346 := zbb BK346 hb; clear hb hbox hg; have hnb26 := NB346_347.out; have hnc26 := NB347_346.out; have hcz27_0 := zh BK346; have hfz27_0 := zfr BK346 0; have hcz28_0 := zh BK347; have hfz28_0 := zfr BK347 0))
  go_ret
  exact ⟨y14, (y1 HB.out GE346.out GE347.out)⟩
end Go.Proofs.Ytjhbhihfifhljaa.PA
end
section
namespace Go.Proofs.Ytjhbhihfifhljaa.Types
open Go.RowKit Go.Proofs.Ytjhbhihfifhljaa.PA Go.Proofs.YtjhbhihfifhljaaW.PrintWords Go.Proofs.YtjhbhihfifhljaaW.PrintLast Go.Proofs.Ytjhbhihfifhljaa.Draw
abbrev Ty := List S30
theorem rd0 (a : S30) (l : Ty) : rd_T30 (a :: l) 0 = a := rfl
theorem rd1 (a b : S30) (l : Ty) : rd_T30 (a :: b :: l) 1 = b := rfl
def dp : Nat → Ty → Bool
  | 0, _ => false
  | _ + 1, [] => true
  | n + 1, [a, b] => dp n a.f0 && dp n b.f0
  | _ + 1, _ => false
theorem dp_nil (n : Nat) : dp (n + 1) [] = true := rfl
theorem dp_two (n : Nat) (a b : S30) : dp (n + 1) [a, b] = (dp n a.f0 && dp n b.f0) := rfl
theorem dp_odd (n : Nat) (l : Ty) (h0 : l.length ≠ 0) (h2 : l.length ≠ 2) : dp n l = false := by
  cases n with
  | zero => rfl
  | succ n =>
    match l with
    | [] => simp at h0
    | [_] => rfl
    | [_, _] => simp at h2
    | _ :: _ :: _ :: _ => rfl
theorem two_of {l : Ty} (h : l.length = 2) : ∃ a b, l = [a, b] := by
  match l with
  | [a, b] => exact ⟨a, b, rfl⟩
theorem shape (l : Ty) : l = [] ∨ (∃ a b, l = [a, b]) ∨ (l.length ≠ 0 ∧ l.length ≠ 2) := by
  match l with
  | [] => exact .inl rfl
  | [_] => exact .inr (.inr ⟨by simp, by simp⟩)
  | [a, b] => exact .inr (.inl ⟨a, b, rfl⟩)
  | _ :: _ :: _ :: _ => exact .inr (.inr ⟨by simp, by simp⟩)
theorem pred_cast (n : Nat) (hn : n ≤ 1000) : wrap64 (((n + 1 : Nat) : Int) - 1) = (n : Int) := by rw [w64 (by omega) (by omega)]; omega
theorem deep_ev : ∀ (n : Nat), n ≤ 1000 → ∀ (l : Ty) (k : Nat), 5 * n + 3 ≤ k → spec_l1Deep.f k l n = some (dp n l) := by
  intro n
  induction n with
  | zero =>
    intro _ l k hk
    obtain ⟨k, rfl⟩ : ∃ m, k = m + 2 := ⟨k - 2, by omega⟩
    simp only [spec_l1Deep.f]
    rw [if_pos (by omega)]
    simp only [spec_l1Deep.j0, if_true]
    rfl
  | succ n ih =>
    intro hn l k hk
    obtain ⟨k, rfl⟩ : ∃ m, k = m + 5 := ⟨k - 5, by omega⟩
    have hp := pred_cast n (by omega)
    simp only [spec_l1Deep.f]
    rw [if_neg (by omega)]
    rcases shape l with rfl | ⟨a, b, rfl⟩ | ⟨h0, h2⟩
    · rw [if_pos (by simp)]
      simp only [spec_l1Deep.j0, spec_l1Deep.l0]
      rw [if_neg (by simp), if_neg (by simp)]
      rfl
    · rw [if_neg (by simp)]
      simp only [spec_l1Deep.j0]
      rw [if_neg (by simp)]
      simp only [spec_l1Deep.l0, hp, w01, w12]
      rw [if_pos (by simp), if_pos (by omega), rd0, ih (by omega) _ _ (by omega), dp_two]
      simp only [Option.bind_some]
      cases ha : dp n a.f0 with
      | false => simp
      | true =>
        rw [if_pos rfl, if_pos (by simp), if_pos (by omega), rd1, ih (by omega) _ _ (by omega)]
        simp only [Option.bind_some]
        cases hb : dp n b.f0 with
        | false => simp
        | true => rw [if_pos rfl, if_neg (by simp)]; rfl
    · rw [if_neg (by omega), dp_odd _ _ h0 h2]
      simp only [spec_l1Deep.j0]
      rw [if_pos (by simp; omega)]
theorem specOk_ev (l : Ty) (k : Nat) (hk : 23 ≤ k) : spec_TypeOk.f k l = some (dp 4 l) := by
  unfold spec_TypeOk.f
  rw [show (4 : Int) = ((4 : Nat) : Int) from rfl, deep_ev 4 (by omega) l k (by omega)]; rfl
theorem fits_ev : ∀ (n : Nat), n ≤ 1000 → ∀ (l : Ty) (k : Nat), n + 1 ≤ k → impl_typeFits.f k l n = some (dp n l) := by
  intro n
  induction n with
  | zero =>
    intro _ l k hk
    obtain ⟨k, rfl⟩ : ∃ m, k = m + 1 := ⟨k - 1, by omega⟩
    simp only [impl_typeFits.f]
    rw [if_pos (by omega)]; rfl
  | succ n ih =>
    intro hn l k hk
    obtain ⟨k, rfl⟩ : ∃ m, k = m + 1 := ⟨k - 1, by omega⟩
    have hp := pred_cast n (by omega)
    simp only [impl_typeFits.f]
    rw [if_neg (by omega)]
    rcases shape l with rfl | ⟨a, b, rfl⟩ | ⟨h0, h2⟩
    · rw [if_pos (by simp)]; rfl
    · rw [if_neg (by simp), if_pos (by simp), if_pos (by simp), hp, rd0, ih (by omega) _ _ (by omega), dp_two]
      simp only [Option.bind_some]
      cases ha : dp n a.f0 with
      | false => simp
      | true => rw [if_pos rfl, if_pos (by simp), rd1, ih (by omega) _ _ (by omega)]; simp
    · rw [if_neg (by omega), if_neg (by omega), dp_odd _ _ h0 h2]
theorem implOk_ev (l : Ty) (k : Nat) (hk : 5 ≤ k) : impl_TypeOk.f k l = some (dp 4 l) := by
  unfold impl_TypeOk.f
  rw [show (4 : Int) = ((4 : Nat) : Int) from rfl, fits_ev 4 (by omega) l k (by omega)]; rfl
def tx : Nat → Ty → ByteArray
  | n + 1, [a, b] => ((((⟨#[40]⟩ : ByteArray) ++ tx n a.f0) ++ (⟨#[44]⟩ : ByteArray)) ++ tx n b.f0) ++ (⟨#[41]⟩ : ByteArray)
  | _, _ => ⟨#[105]⟩
theorem tx_two (n : Nat) (a b : S30) : tx (n + 1) [a, b] = ((((⟨#[40]⟩ : ByteArray) ++ tx n a.f0) ++ (⟨#[44]⟩ : ByteArray)) ++ tx n b.f0) ++ (⟨#[41]⟩ : ByteArray) := rfl
theorem tx_nil (n : Nat) : tx n [] = ⟨#[105]⟩ := by cases n <;> rfl
theorem tx_size (n : Nat) : ∀ l, (tx n l).size + 3 ≤ 4 * 2 ^ n := by
  induction n with
  | zero => intro l; simp [tx]; decide
  | succ n ih =>
    intro l
    have hp : 1 ≤ 2 ^ n := Nat.one_le_two_pow
    have h1 : (⟨#[105]⟩ : ByteArray).size = 1 := rfl
    rw [Nat.pow_succ]
    match l with
    | [a, b] =>
      have ha := ih a.f0
      have hb := ih b.f0
      rw [tx_two]
      simp only [ByteArray.size_append, show (⟨#[40]⟩ : ByteArray).size = 1 from rfl, show (⟨#[44]⟩ : ByteArray).size = 1 from rfl, show (⟨#[41]⟩ : ByteArray).size = 1 from rfl]
      omega
    | [] => show (⟨#[105]⟩ : ByteArray).size + 3 ≤ _; omega
    | [_] => show (⟨#[105]⟩ : ByteArray).size + 3 ≤ _; omega
    | _ :: _ :: _ :: _ => show (⟨#[105]⟩ : ByteArray).size + 3 ≤ _; omega
theorem say_ev : ∀ (n : Nat), n ≤ 20 → ∀ (l : Ty) (k : Nat), dp n l = true → n + 1 ≤ k → spec_l1Say.f k l = some (tx n l) := by
  intro n
  induction n with
  | zero => intro _ l k h; simp [dp] at h
  | succ n ih =>
    intro hn l k h hk
    obtain ⟨k, rfl⟩ : ∃ m, k = m + 1 := ⟨k - 1, by omega⟩
    simp only [spec_l1Say.f]
    rcases shape l with rfl | ⟨a, b, rfl⟩ | ⟨h0, h2⟩
    · rw [if_pos (by simp)]; rfl
    · rw [dp_two, Bool.and_eq_true] at h
      have s1 := tx_size n a.f0
      have s2 := tx_size n b.f0
      have hup : 2 ^ n ≤ 2 ^ 20 := Nat.pow_le_pow_right (by decide) (by omega)
      have e20 : (2 : Nat) ^ 20 = 1048576 := rfl
      rw [if_neg (by simp), if_pos (by simp), rd0, ih (by omega) _ _ h.1 (by omega)]
      simp only [Option.bind_some]
      rw [if_pos (by omega), if_pos (by omega), if_pos (by simp), rd1, ih (by omega) _ _ h.2 (by omega)]
      simp only [Option.bind_some]
      rw [if_pos (by omega), if_pos (by omega), tx_two]
    · rw [dp_odd _ _ h0 h2] at h; cases h
theorem words_ev : ∀ (n : Nat), n ≤ 20 → ∀ (l : Ty) (k : Nat), dp n l = true → n + 1 ≤ k → impl_typeWords.f k l = some (tx n l) := by
  intro n
  induction n with
  | zero => intro _ l k h; simp [dp] at h
  | succ n ih =>
    intro hn l k h hk
    obtain ⟨k, rfl⟩ : ∃ m, k = m + 1 := ⟨k - 1, by omega⟩
    simp only [impl_typeWords.f, impl_typeIsNum.f, Option.bind_some]
    rcases shape l with rfl | ⟨a, b, rfl⟩ | ⟨h0, h2⟩
    · rw [if_pos (by simp)]; rfl
    · rw [dp_two, Bool.and_eq_true] at h
      have s1 := tx_size n a.f0
      have s2 := tx_size n b.f0
      have hup : 2 ^ n ≤ 2 ^ 20 := Nat.pow_le_pow_right (by decide) (by omega)
      have e20 : (2 : Nat) ^ 20 = 1048576 := rfl
      rw [if_neg (by simp), if_pos (by simp), rd0, ih (by omega) _ _ h.1 (by omega)]
      simp only [Option.bind_some]
      rw [if_pos (by omega), if_pos (by omega), if_pos (by simp), rd1, ih (by omega) _ _ h.2 (by omega)]
      simp only [Option.bind_some]
      rw [if_pos (by omega), if_pos (by omega), tx_two]
    · rw [dp_odd _ _ h0 h2] at h; cases h
def text (l : Ty) : ByteArray := if dp 4 l = true then tx 4 l else ⟨#[]⟩
theorem specText_ev (l : Ty) (k : Nat) (hk : 23 ≤ k) : spec_TypeText.f k l = some (text l) := by
  unfold spec_TypeText.f text
  rw [specOk_ev l k hk]
  simp only [Option.bind_some]
  by_cases h : dp 4 l = true
  · rw [if_pos h, if_pos h, say_ev 4 (by omega) l k h (by omega)]; rfl
  · rw [if_neg h, if_neg h]
theorem implText_ev (l : Ty) (k : Nat) (hk : 5 ≤ k) : impl_TypeText.f k l = some (text l) := by
  unfold impl_TypeText.f text
  rw [implOk_ev l k hk]
  simp only [Option.bind_some]
  by_cases h : dp 4 l = true
  · rw [if_pos h, if_pos h, words_ev 4 (by omega) l k h (by omega)]; rfl
  · rw [if_neg h, if_neg h]
def teq : Nat → Ty → Ty → Bool
  | _ + 1, [], [] => true
  | n + 1, [a, b], [c, d] => teq n a.f0 c.f0 && teq n b.f0 d.f0
  | _, _, _ => false
theorem lh_ev : ∀ (n : Nat) (a b : Ty) (k : Nat), dp n a = true → dp n b = true → 4 * n ≤ k → laws_lhType.f k a b = some (teq n a b) := by
  intro n
  induction n with
  | zero => intro a b k h; simp [dp] at h
  | succ n ih =>
    intro a b k ha hb hk
    obtain ⟨k, rfl⟩ : ∃ m, k = m + 4 := ⟨k - 4, by omega⟩
    simp only [laws_lhType.f]
    rcases shape a with rfl | ⟨a1, a2, rfl⟩ | ⟨h0, h2⟩
    · rcases shape b with rfl | ⟨b1, b2, rfl⟩ | ⟨h0, h2⟩
      · rw [if_pos rfl]; simp only [laws_lhType.l0]; rw [if_neg (by simp)]; rfl
      · rw [if_neg (by simp)]; rfl
      · rw [dp_odd _ _ h0 h2] at hb; cases hb
    · rcases shape b with rfl | ⟨b1, b2, rfl⟩ | ⟨h0, h2⟩
      · rw [if_neg (by simp)]; rfl
      · rw [dp_two, Bool.and_eq_true] at ha hb
        rw [if_pos (by simp)]
        simp only [laws_lhType.l0, w01, w12]
        rw [if_pos (by simp), if_pos (by omega), if_pos (by simp), rd0, rd0, ih _ _ _ ha.1 hb.1 (by omega)]
        simp only [Option.bind_some]
        have e : teq (n + 1) [a1, a2] [b1, b2] = (teq n a1.f0 b1.f0 && teq n a2.f0 b2.f0) := rfl
        rw [e]
        cases h1 : teq n a1.f0 b1.f0 with
        | false => simp
        | true =>
          rw [if_pos rfl, if_pos (by simp), if_pos (by omega), if_pos (by simp), rd1, rd1, ih _ _ _ ha.2 hb.2 (by omega)]
          simp only [Option.bind_some]
          cases h2 : teq n a2.f0 b2.f0 with
          | false => simp
          | true => rw [if_pos rfl, if_neg (by simp)]; rfl
      · rw [dp_odd _ _ h0 h2] at hb; cases hb
    · rw [dp_odd _ _ h0 h2] at ha; cases ha
theorem teq_eq : ∀ (n : Nat) (a b : Ty), teq n a b = true → a = b := by
  intro n
  induction n with
  | zero => intro a b h; simp [teq] at h
  | succ n ih =>
    intro a b h
    unfold teq at h
    split at h
    · rfl
    · rename_i m x y z u he
      cases he
      rw [Bool.and_eq_true] at h
      have h1 := ih _ _ h.1
      have h2 := ih _ _ h.2
      cases x; cases y; cases z; cases u
      simp_all
    · cases h
theorem teq_refl : ∀ (n : Nat) (a : Ty), dp n a = true → teq n a a = true := by
  intro n
  induction n with
  | zero => intro a h; simp [dp] at h
  | succ n ih =>
    intro a h
    rcases shape a with rfl | ⟨a1, a2, rfl⟩ | ⟨h0, h2⟩
    · rfl
    · rw [dp_two, Bool.and_eq_true] at h
      show (teq n a1.f0 a1.f0 && teq n a2.f0 a2.f0) = true
      rw [ih _ h.1, ih _ h.2]; rfl
    · rw [dp_odd _ _ h0 h2] at h; cases h
theorem toList_app (a b : ByteArray) : (a ++ b).toList = a.toList ++ b.toList := by
  rw [ByteArray.toList_eq, ByteArray.toList_eq, ByteArray.toList_eq]; simp
theorem lit_toList (c : UInt8) : (⟨#[c]⟩ : ByteArray).toList = [c] := by rw [ByteArray.toList_eq]
theorem tx_inj : ∀ (n : Nat) (a b : Ty) (r s : List UInt8), dp n a = true → dp n b = true → (tx n a).toList ++ r = (tx n b).toList ++ s → teq n a b = true ∧ r = s := by
  intro n
  induction n with
  | zero => intro a b r s h; simp [dp] at h
  | succ n ih =>
    intro a b r s ha hb h
    rcases shape a with rfl | ⟨a1, a2, rfl⟩ | ⟨h0, h2⟩
    · rcases shape b with rfl | ⟨b1, b2, rfl⟩ | ⟨h0, h2⟩
      · rw [tx_nil] at h
        exact ⟨rfl, List.append_cancel_left h⟩
      · rw [tx_nil, tx_two] at h
        simp only [toList_app, lit_toList, List.cons_append, List.nil_append, List.append_assoc] at h
        injection h with h1 _
        exact absurd h1 (by decide)
      · rw [dp_odd _ _ h0 h2] at hb; cases hb
    · rcases shape b with rfl | ⟨b1, b2, rfl⟩ | ⟨h0, h2⟩
      · rw [tx_nil, tx_two] at h
        simp only [toList_app, lit_toList, List.cons_append, List.nil_append, List.append_assoc] at h
        injection h with h1 _
        exact absurd h1 (by decide)
      · rw [dp_two, Bool.and_eq_true] at ha hb
        rw [tx_two, tx_two] at h
        simp only [toList_app, lit_toList, List.cons_append, List.nil_append, List.append_assoc] at h
        injection h with _ h
        obtain ⟨e1, h⟩ := ih _ _ _ _ ha.1 hb.1 h
        injection h with _ h
        obtain ⟨e2, h⟩ := ih _ _ _ _ ha.2 hb.2 h
        injection h with _ h
        refine ⟨?_, h⟩
        show (teq n a1.f0 b1.f0 && teq n a2.f0 b2.f0) = true
        rw [e1, e2]; rfl
      · rw [dp_odd _ _ h0 h2] at hb; cases hb
    · rw [dp_odd _ _ h0 h2] at ha; cases ha
theorem text_teq (a b : Ty) (ha : dp 4 a = true) (hb : dp 4 b = true) : ((text a).toList == (text b).toList) = teq 4 a b := by
  unfold text
  rw [if_pos ha, if_pos hb]
  by_cases h : (tx 4 a).toList = (tx 4 b).toList
  · rw [beq_iff_eq.2 h, (tx_inj 4 a b [] [] ha hb (by simpa using h)).1]
  · cases e : teq 4 a b with
    | false => exact beq_eq_false_iff_ne.2 h
    | true => exact absurd (by rw [teq_eq _ _ _ e]) h
theorem tx_pos (n : Nat) (l : Ty) : 0 < (tx n l).size := by
  unfold tx
  split
  · simp only [ByteArray.size_append, show (⟨#[40]⟩ : ByteArray).size = 1 from rfl]; omega
  · decide
theorem deepLoop_ev (s : List Int) (p : Int) : ∀ (d i : Nat), i + d = 5 → ∀ (l : Ty), ∃ r, (∀ k' , d + 1 ≤ k' → spec_l71Deep.l0 k' i s p l = some (r, p)) ∧ ∀ n, Dph n l → Dph (n + d) r := by
  intro d
  induction d with
  | zero =>
    intro i hi l
    have hh : ∀ k', 0 + 1 ≤ k' → spec_l71Deep.l0 k' i s p l = some (l, p) := by
      intro k' hk'
      obtain ⟨k', rfl⟩ : ∃ m, k' = m + 1 := ⟨k' - 1, by omega⟩
      simp only [spec_l71Deep.l0]
      rw [if_neg (by omega)]
    exact ⟨l, hh, fun n h => h⟩
  | succ d ih =>
    intro i hi l
    obtain ⟨r, hr, hd⟩ := ih (i + 1) (by omega) [⟨l⟩, ⟨[]⟩]
    have hh : ∀ k', d + 1 + 1 ≤ k' → spec_l71Deep.l0 k' i s p l = some (r, p) := by
      intro k' hk'
      obtain ⟨k', rfl⟩ : ∃ m, k' = m + 1 := ⟨k' - 1, by omega⟩
      simp only [spec_l71Deep.l0]
      rw [if_pos (by omega), w64 (by omega) (by omega)]
      exact hr k' (by omega)
    refine ⟨r, hh, fun n h => ?_⟩
    have := hd (n + 1) (by
      intro x hx
      rcases List.mem_cons.1 hx with rfl | hx
      · exact h
      · rw [List.mem_singleton.1 hx]; exact dph_nil _)
    rwa [show n + (d + 1) = n + 1 + d from by omega]
theorem dph_mono : ∀ (n : Nat) (l : Ty), Dph n l → Dph (n + 1) l := by
  intro n
  induction n with
  | zero => intro l h; rw [show l = [] from h]; exact dph_nil _
  | succ n ih => intro l h x hx; exact ih _ (h x hx)
theorem dph_le (n m : Nat) (h : n ≤ m) (l : Ty) (hd : Dph n l) : Dph m l := by
  induction m with
  | zero => obtain rfl : n = 0 := by omega
            exact hd
  | succ m ih =>
    by_cases e : n = m + 1
    · subst e; exact hd
    · exact dph_mono _ _ (ih (by omega))
theorem l71Deep_ev (s : List Int) (hs : Bytes s) (p : Int) (hp : 0 ≤ p) (hp1 : p ≤ 1099511627000) : ∃ r q, (∀ k, 20 ≤ k → spec_l71Deep.f k s p = some (r, q)) ∧ p ≤ q ∧ q ≤ p + 100 ∧ Dph 10 r := by
  obtain ⟨c, hc, c0, c1⟩ := pick_ev s hs p 4 hp (by omega) (by omega)
  obtain ⟨cn, rfl⟩ := Int.eq_ofNat_of_zero_le c0
  have hpow : (2 : Int) ^ (1 + cn) ≤ 16 := by
    have : (2 : Nat) ^ (1 + cn) ≤ 2 ^ 4 := Nat.pow_le_pow_right (by decide) (by omega)
    exact_mod_cast this
  obtain ⟨t, q1, ht, hl, hq1, hq2, dt⟩ := type_ev s hs (1 + cn) (by omega) (p + 1) (by omega) (by omega)
  obtain ⟨c', hc', c0', c1'⟩ := pick_ev s hs q1 12 (by omega) (by omega) (by omega)
  have ew : wrap64 (1 + (cn : Int)) = ((1 + cn : Nat) : Int) := by rw [w64 (by omega) (by omega)]; omega
  obtain ⟨rl, hrl, hrd⟩ := deepLoop_ev s (q1 + 1) 5 0 rfl t
  have hh : ∃ r, (∀ k, 20 ≤ k → spec_l71Deep.f k s p = some (r, q1 + 1)) ∧ Dph 10 r := by
    by_cases e0 : c' = 0
    · refine ⟨rl, fun k hk => ?_, dph_le _ _ (by omega) _ (hrd _ dt)⟩
      unfold spec_l71Deep.f
      rw [hc k (by omega)]; simp only [Option.bind_some]
      rw [ew, ht k (by omega)]; simp only [Option.bind_some]
      rw [hc' k (by omega)]; simp only [Option.bind_some]
      rw [if_pos e0]
      exact hrl k (by omega)
    · by_cases e1 : c' = 1
      · refine ⟨t ++ [⟨[]⟩], fun k hk => ?_, dph_le (1 + cn) _ (by omega) _ (by
          rw [Nat.add_comm] at dt ⊢
          intro x hx
          rcases List.mem_append.1 hx with hx | hx
          · exact dt x hx
          · rw [List.mem_singleton.1 hx]; exact dph_nil _)⟩
        unfold spec_l71Deep.f
        rw [hc k (by omega)]; simp only [Option.bind_some]
        rw [ew, ht k (by omega)]; simp only [Option.bind_some]
        rw [hc' k (by omega)]; simp only [Option.bind_some]
        rw [if_neg e0, if_pos e1, if_pos (by omega)]
      · refine ⟨t, fun k hk => ?_, dph_le _ _ (by omega) _ dt⟩
        unfold spec_l71Deep.f
        rw [hc k (by omega)]; simp only [Option.bind_some]
        rw [ew, ht k (by omega)]; simp only [Option.bind_some]
        rw [hc' k (by omega)]; simp only [Option.bind_some]
        rw [if_neg e0, if_neg e1]
  obtain ⟨r, hr, hd⟩ := hh
  exact ⟨r, q1 + 1, hr, by omega, by omega, hd⟩
theorem drawText_ev (l : List Int) (h : ∀ x ∈ l, (Lit.int .u8 x).wf = true) : ∃ r, ∀ k, 20 ≤ k → spec_DrawTypeText.f k l = some r := by
  obtain ⟨s, ho, hs⟩ := open_ev l h
  obtain ⟨r, q, hr, _⟩ := l71Deep_ev s hs 0 (by omega) (by omega)
  refine ⟨r, fun k hk => ?_⟩
  unfold spec_DrawTypeText.f
  rw [ho]; simp only [Option.bind_some]
  rw [hr k hk]; rfl
end Go.Proofs.Ytjhbhihfifhljaa.Types
end
section
namespace Go.Proofs.Ytjhbhihfifhljaa.Open
open Go.ChangeShapes Go.WideShapes Go.ChangeAt Go.RowKit Go.Deep Go.Proofs.Ytjhbhihfifhljaa.PA Go.Proofs.YtjhbhihfifhljaaW.PrintWords Go.Proofs.YtjhbhihfifhljaaW.PrintLast
section
variable {H : Type} {enc : TypeId × Value → H} {P : Program} {w : World} {base : Nat} {spare : Nat → Bool} {held : Bool}
theorem struct1n {t : TypeId} {f0 : Field} {fuel : Nat} {cs : List Value} {x : DataW H × List MemPlace} (ht : P.underlying t = some (.struct #[f0])) (h : DataW.trod enc P w base spare held fuel t cs = some x) :
    ∃ y0 n, fuel = n + 1 ∧ cs.length = P.cellsOf t ∧ DataW.trod enc P w base spare held n f0.type ((cs.drop f0.offset).take (P.cellsOf f0.type)) = some y0 := by
  obtain ⟨xs, n, hfu, _, hl, hlen, hf⟩ := DataW.trod_struct ht h
  match xs, hlen with
  | [y0], _ => exact ⟨y0, n, hfu, hl, by simpa using hf 0 f0 rfl⟩
end
inductive BdT : List S25 → Prop
  | mk {l : List S25} : l.length ≤ 9223372036854775807 → (∀ x ∈ l, BdT x.f0) → BdT l
theorem openT {H : Type} {enc : TypeId × Value → H} {W : World} : ∀ (m : Nat) (cs : List Value) (x : DataW H × List MemPlace),
    DataW.trod enc Try.prog W 0 (fun _ => true) true m 25 cs = some x → ∃ y : S25, (Kd.upto F25 1 [25] m).K W y cs ∧ BdT y.f0 := by
  intro m
  induction m using Nat.strongRecOn with
  | _ m ih =>
    intro cs x h
    obtain ⟨y0, n, rfl, hl, hf⟩ := struct1n Try.underlying25 h
    have hc : Try.prog.cellsOf 25 = 1 := by kernel_rfl
    have hcs : Try.prog.cellsOf 23 = 1 := by kernel_rfl
    rw [hc] at hl
    obtain ⟨v, rfl⟩ := List.length_eq_one_iff.1 hl
    have h0 : DataW.trod enc Try.prog W 0 (fun _ => true) true n 23 (([v].drop 0).take (Try.prog.cellsOf 23)) = some y0 := hf
    rw [hcs] at h0
    simp only [List.drop_zero, List.take_succ_cons, List.take_zero] at h0
    rcases DataW.trod_slice Try.underlying23 h0 with ⟨hv, _⟩ | ⟨a, len, cap, elems, rest, n', rfl, hv, _, _, hlc, hcm, hel, hE, _, _⟩
    · refine ⟨⟨[]⟩, ⟨none, 0, by simpa using hv, Nat.le_refl 0, ⟨rfl, by simp, fun h => absurd h (by simp)⟩⟩, .mk (by simp) (fun x hx => by cases hx)⟩
    · rw [hc] at hE
      have key : ∀ i, i < len → ∃ y : S25, ∃ c, W.cells? 0 (a.add (i * 1)) 1 = some c ∧ (Kd.upto F25 1 [25] n').K W y c ∧ BdT y.f0 := by
        intro i hi
        have e := hE i hi
        rw [List.getElem?_eq_getElem (by rw [hel]; exact hi)] at e
        obtain ⟨c, h1, h2⟩ := Option.bind_eq_some_iff.1 e
        obtain ⟨y, hy, hb⟩ := ih n' (by omega) c _ h2
        exact ⟨y, c, h1, hy, hb⟩
      have : Inhabited S25 := ⟨⟨[]⟩⟩
      obtain ⟨f, hff⟩ := choose_lt key
      have hm : maxLen = 9223372036854775807 := by decide
      refine ⟨⟨(List.range len).map f⟩, ⟨some a, cap, ?_, ?_, ⟨?_, ?_, fun _ => ⟨a, rfl, fun j p hj => ?_⟩⟩⟩, .mk ?_ ?_⟩
      · simpa using hv
      · simpa using hlc
      · simp
      · simp; omega
      · simp only [List.getElem?_map] at hj
        rcases Nat.lt_or_ge j len with hj' | hj'
        · rw [List.getElem?_range hj'] at hj
          simp at hj
          subst hj
          obtain ⟨c, h1, h2, _⟩ := hff j hj'
          obtain ⟨_, hcl, hcc⟩ := World.cells?_some h1
          refine ⟨c, ?_, Kd.upto_K_le mono25 sz25 (Nat.le_succ n') h2, fun i u hu => ?_⟩
          · rw [hcl, sz25]
          · have hi : i < 1 := by
              rw [← hcl]
              exact (List.getElem?_eq_some_iff.1 hu).1
            have := hcc i hi
            rw [hu, Go.Deep.add_add] at this
            rwa [sz25]
        · rw [List.getElem?_eq_none (by simpa using hj')] at hj
          cases hj
      · simp; omega
      · intro x hx
        obtain ⟨j, hj, rfl⟩ := List.mem_map.1 hx
        obtain ⟨c, _, _, h3⟩ := hff j (List.mem_range.1 hj)
        exact h3
theorem argT {H : Type} {enc : TypeId × Value → H} {W : World} {cs : Array Value} {d : DataW H} {ps : List MemPlace} (h : DataW.Trod enc Try.prog W 0 (fun _ => true) true 25 (.agg cs) d ps) :
    ∃ (a : Option Addr) (c : Nat) (l : List S25), cs = #[.slice a l.length c] ∧ Kd.C k25 W a l.length l ∧ l.length ≤ c ∧ BdT l := by
  obtain ⟨m, hm⟩ := h
  obtain ⟨y, hK, hB⟩ := openT m _ _ hm
  cases m with
  | zero => exact hK.elim
  | succ n =>
    obtain ⟨A, c, e, l0, g0⟩ := hK
    refine ⟨A, c, y.f0, ?_, Kd.fix_C g0, l0, hB⟩
    have e' : cs.toList = [.slice A y.f0.length c] := e
    exact Array.toList_inj.1 e'
end Go.Proofs.Ytjhbhihfifhljaa.Open
end
