-- Written by this session's own program (hfprint) out of the translation. Not trusted: Lean checks it.
import Derived.Test.YtjhbhihfifhljaaPAx0
import Derived.Test.YtjhbhihfifhljaaPAx6
import Derived.Test.YtjhbhihfifhljaaPAx25
import Derived.Test.YtjhbhihfifhljaaPAx28
import Derived.Test.YtjhbhihfifhljaaPAx30
import Derived.Test.YtjhbhihfifhljaaPAx31
namespace Go.Proofs.Ytjhbhihfifhljaa.PA
open Go.RowKit Go.Proofs.YtjhbhihfifhljaaW.PrintWords Go.Proofs.YtjhbhihfifhljaaW.PrintLast Go.Proofs.YtjhbhihfifhljaaW.PrintMore
attribute [local go_sem] max2_int min2_int max_two min_two max_three min_three max_four min_four   -- for this text's walks alone
set_option linter.unusedVariables false
set_option linter.unusedSimpArgs false

/-! ### laws_FnTypeText: function 7 -/
mutual
def laws_FnTypeText.j0 : Nat → List Int → List Int → Bool → Option (Bool)
  | 0, _, _, _ => none
  | k + 1, x0, x1, x16 => if x16 = true then (some true) else ((spec_DrawTypeText.f k x0).bind fun t351 => ((spec_DrawTypeText.f k x1).bind fun t355 => ((impl_TypeText.f k t351).bind fun t359 => ((impl_TypeText.f k t355).bind fun t360 => ((spec_TypeText.f k t351).bind fun t361 => (if t359.toList = t361.toList then ((spec_TypeText.f k t355).bind fun t362 => (if t360.toList = t362.toList then ((spec_TypeOk.f k t351).bind fun t363 => (if t363 = true then ((spec_TypeOk.f k t355).bind fun t364 => (laws_FnTypeText.j1 k t359 t360 (!t364) t351 t355)) else (laws_FnTypeText.j1 k t359 t360 true t351 t355))) else (laws_FnTypeText.j1 k t359 t360 true t351 t355))) else (laws_FnTypeText.j1 k t359 t360 true t351 t355)))))))
def laws_FnTypeText.j1 : Nat → ByteArray → ByteArray → Bool → List (S30) → List (S30) → Option (Bool)
  | 0, _, _, _, _, _ => none
  | k + 1, x7, x8, x44, x355000, x359000 => if x44 = true then ((spec_TypeText.f k x355000).bind fun t365 => (if x7.toList = t365.toList then ((spec_TypeText.f k x359000).bind fun t366 => (some (x8.toList == t366.toList))) else (some false))) else ((laws_lhType.f k x355000 x359000).bind fun t367 => (if ((x7.toList == x8.toList) == t367) = true then (some (decide ((x7.size : Int) > 0))) else (some false)))
end
def laws_FnTypeText.f (k : Nat) (l0 : List Int) (l1 : List Int) : Option (Bool) := if (l0.length : Int) > 1048576 then (laws_FnTypeText.j0 k l0 l1 true) else (laws_FnTypeText.j0 k l0 l1 (decide ((l1.length : Int) > 1048576)))
theorem laws_FnTypeText.mono_l : ∀ k, (∀ y0 y1 y2, LeO (laws_FnTypeText.j0 k y0 y1 y2) (laws_FnTypeText.j0 (k + 1) y0 y1 y2)) ∧ (∀ y0 y1 y2 y3 y4, LeO (laws_FnTypeText.j1 k y0 y1 y2 y3 y4) (laws_FnTypeText.j1 (k + 1) y0 y1 y2 y3 y4))
  | 0 => ⟨fun _ _ _ r h => by simp [laws_FnTypeText.j0] at h, fun _ _ _ _ _ r h => by simp [laws_FnTypeText.j1] at h⟩
  | k + 1 => by
    obtain ⟨ih0, ih1⟩ := laws_FnTypeText.mono_l k
    refine ⟨?_, ?_⟩
    · intro y0 y1 y2
      unfold laws_FnTypeText.j0
      repeat' first
      | (with_reducible exact ih0 _ _ _)
      | (with_reducible exact ih1 _ _ _ _ _)
      | (with_reducible exact impl_TypeText.mono _ _)
      | (with_reducible exact laws_lhType.mono _ _ _)
      | (with_reducible exact spec_DrawTypeText.mono _ _)
      | (with_reducible exact spec_TypeOk.mono _ _)
      | (with_reducible exact spec_TypeText.mono _ _)
      | (with_reducible exact LeO.refl _)
      | (with_reducible exact LeO.none _)
      | (with_reducible refine LeO.ite ?_ ?_)
      | (with_reducible refine LeO.bind ?_ (fun _ => ?_))
      | exact ih0 _ _ _
      | exact ih1 _ _ _ _ _
      | exact impl_TypeText.mono _ _
      | exact laws_lhType.mono _ _ _
      | exact spec_DrawTypeText.mono _ _
      | exact spec_TypeOk.mono _ _
      | exact spec_TypeText.mono _ _
      | exact LeO.none _
      | refine LeO.ite ?_ ?_
      | refine LeO.bind ?_ (fun _ => ?_)
    · intro y0 y1 y2 y3 y4
      unfold laws_FnTypeText.j1
      repeat' first
      | (with_reducible exact ih0 _ _ _)
      | (with_reducible exact ih1 _ _ _ _ _)
      | (with_reducible exact impl_TypeText.mono _ _)
      | (with_reducible exact laws_lhType.mono _ _ _)
      | (with_reducible exact spec_DrawTypeText.mono _ _)
      | (with_reducible exact spec_TypeOk.mono _ _)
      | (with_reducible exact spec_TypeText.mono _ _)
      | (with_reducible exact LeO.refl _)
      | (with_reducible exact LeO.none _)
      | (with_reducible refine LeO.ite ?_ ?_)
      | (with_reducible refine LeO.bind ?_ (fun _ => ?_))
      | exact ih0 _ _ _
      | exact ih1 _ _ _ _ _
      | exact impl_TypeText.mono _ _
      | exact laws_lhType.mono _ _ _
      | exact spec_DrawTypeText.mono _ _
      | exact spec_TypeOk.mono _ _
      | exact spec_TypeText.mono _ _
      | exact LeO.none _
      | refine LeO.ite ?_ ?_
      | refine LeO.bind ?_ (fun _ => ?_)
theorem laws_FnTypeText.mono : ∀ a0 a1 k, LeO (laws_FnTypeText.f k a0 a1) (laws_FnTypeText.f (k + 1) a0 a1) := by
  intro a0 a1 k
  obtain ⟨ih0, ih1⟩ := laws_FnTypeText.mono_l k
  unfold laws_FnTypeText.f
  repeat' first
      | (with_reducible exact ih0 _ _ _)
      | (with_reducible exact ih1 _ _ _ _ _)
      | (with_reducible exact impl_TypeText.mono _ _)
      | (with_reducible exact laws_lhType.mono _ _ _)
      | (with_reducible exact spec_DrawTypeText.mono _ _)
      | (with_reducible exact spec_TypeOk.mono _ _)
      | (with_reducible exact spec_TypeText.mono _ _)
      | (with_reducible exact LeO.refl _)
      | (with_reducible exact LeO.none _)
      | (with_reducible refine LeO.ite ?_ ?_)
      | (with_reducible refine LeO.bind ?_ (fun _ => ?_))
      | exact ih0 _ _ _
      | exact ih1 _ _ _ _ _
      | exact impl_TypeText.mono _ _
      | exact laws_lhType.mono _ _ _
      | exact spec_DrawTypeText.mono _ _
      | exact spec_TypeOk.mono _ _
      | exact spec_TypeText.mono _ _
      | exact LeO.none _
      | refine LeO.ite ?_ ?_
      | refine LeO.bind ?_ (fun _ => ?_)
set_option maxHeartbeats 8000000 in
set_option maxRecDepth 100000 in
theorem laws_FnTypeText.calls (k : Nat) (A0 : Option Addr) (c0 : Nat) (l0 : List Int) (A1 : Option Addr) (c1 : Nat) (l1 : List Int) (r : Bool) (w : World) (hr0 : Kd.C (Kd.int .u8) w A0 l0.length l0) (hc0 : l0.length ≤ c0) (hr1 : Kd.C (Kd.int .u8) w A1 l1.length l1) (hc1 : l1.length ≤ c1) (h : laws_FnTypeText.f k l0 l1 = some r) (hr_ : Aside0 (r = true)) :
    Calls Try.prog 7 #[.slice A0 l0.length c0, .slice A1 l1.length c1] w fun e w' => e = .returned (.bool r) ∧ Below w.heap.size w w' := by
  have hu30 := Try.underlying30
  have HR0 := Aside0.mk hr0
  have HC0 := Aside0.mk hc0
  clear hr0 hc0
  have HR1 := Aside0.mk hr1
  have HC1 := Aside0.mk hc1
  clear hr1 hc1
  have HB := Aside0.mk (Below.refl w.heap.size w)
  have H : (if (l0.length : Int) > 1048576 then (laws_FnTypeText.j0 k l0 l1 true) else (laws_FnTypeText.j0 k l0 l1 (decide ((l1.length : Int) > 1048576)))) = some r := h
  clear h
  have HC3 := Aside0.mk H
  clear H
  go_enter Try.func7, Try.ntmps7
  go_upto_region 1 with (fail)
  go_cut [16] (fun v16 wc => ∃ (kq : Nat) (x16_2 : Bool), v16 = .bool x16_2 ∧ Aside0 (laws_FnTypeText.j0 kq l0 l1 x16_2 = some r) ∧ Aside0 (kq ≤ k) ∧ Aside0 (Below w.heap.size w wc))
  case first =>
    have H := HC3.out
    clear HC3
    by_cases c4 : (l0.length : Int) > 1048576
    · rw [if_pos c4] at H
      have c4b0 : decide (1048576 < (l0.length : Int)) = true := decide_eq_true c4
      have c4b1 : decide (1048576 < l0.length) = true := decide_eq_true (by omega)
      clear c4
      (first | rw [c4b0] | (simp only [i64_w, i32_w]; rw [c4b0]) | skip)
      have H' := Aside0.mk H
      clear H
      go_wp2
      go_meet
      case rel => exact ⟨_, (true), (by first | rfl | (simp; done) | (simp [*]; done)), H', ⟨by first | omega | exact Nat.le_refl _⟩, ⟨by repeat (first | (with_reducible first | exact HB.out | apply below_alloc | apply pw_below_drewN | apply below_drew1) | exact HB.out)⟩⟩
    · rw [if_neg c4] at H
      have c4b0 : decide (1048576 < (l0.length : Int)) = false := decide_eq_false c4
      have c4b1 : decide (1048576 < l0.length) = false := decide_eq_false (by omega)
      clear c4
      (first | rw [c4b0] | (simp only [i64_w, i32_w]; rw [c4b0]) | skip)
      have H' := Aside0.mk H
      clear H
      go_wp2
      go_meet
      case rel => exact ⟨_, (decide ((l1.length : Int) > 1048576)), (by first | rfl | (simp; done) | (simp [*]; done)), H', ⟨by first | omega | exact Nat.le_refl _⟩, ⟨by repeat (first | (with_reducible first | exact HB.out | apply below_alloc | apply pw_below_drewN | apply below_drew1) | exact HB.out)⟩⟩
  case rest =>
    clear HC3
    try clear c1
    try clear p2
    try clear c4
    try clear c4b0
    try clear c4b1
    obtain ⟨kq, x16_2, rfl, HA, HJ2, HB⟩ := hcut
    cases kq with
    | zero => exact absurd HA.out (by simp [laws_FnTypeText.j0])
    | succ kj2 =>
      have H := HA.out
      clear HA
      simp only [laws_FnTypeText.j0] at H
      by_cases c5 : x16_2 = true
      · subst c5
        have H1 : (some true) = some r := by rw [if_pos rfl] at H; exact H
        clear H
        have H := H1
        clear H1
        clear hr_
        obtain rfl := Option.some.inj H
        go_wp2
        go_ret
        exact ⟨by first | rfl | (simp [errW_none, errW_some] <;> rfl) | (simp [*, errW_none, errW_some] <;> rfl), by repeat (first | (with_reducible first | exact HB.out | apply below_alloc | apply pw_below_drewN | apply below_drew1) | exact HB.out)⟩
      · replace c5 := Bool.eq_false_iff.mpr c5
        subst c5
        have H1 : ((spec_DrawTypeText.f kj2 l0).bind fun t351 => ((spec_DrawTypeText.f kj2 l1).bind fun t355 => ((impl_TypeText.f kj2 t351).bind fun t359 => ((impl_TypeText.f kj2 t355).bind fun t360 => ((spec_TypeText.f kj2 t351).bind fun t361 => (if t359.toList = t361.toList then ((spec_TypeText.f kj2 t355).bind fun t362 => (if t360.toList = t362.toList then ((spec_TypeOk.f kj2 t351).bind fun t363 => (if t363 = true then ((spec_TypeOk.f kj2 t355).bind fun t364 => (laws_FnTypeText.j1 kj2 t359 t360 (!t364) t351 t355)) else (laws_FnTypeText.j1 kj2 t359 t360 true t351 t355))) else (laws_FnTypeText.j1 kj2 t359 t360 true t351 t355))) else (laws_FnTypeText.j1 kj2 t359 t360 true t351 t355))))))) = some r := by rw [if_neg (show ¬ (false = true) by decide)] at H; exact H
        clear H
        have H := H1
        clear H1
        replace H := Option.bind_eq_some_iff.mp H
        obtain ⟨t351, A60, H⟩ := H
        replace H : ((spec_DrawTypeText.f kj2 l1).bind fun t355 => ((impl_TypeText.f kj2 t351).bind fun t359 => ((impl_TypeText.f kj2 t355).bind fun t360 => ((spec_TypeText.f kj2 t351).bind fun t361 => (if t359.toList = t361.toList then ((spec_TypeText.f kj2 t355).bind fun t362 => (if t360.toList = t362.toList then ((spec_TypeOk.f kj2 t351).bind fun t363 => (if t363 = true then ((spec_TypeOk.f kj2 t355).bind fun t364 => (laws_FnTypeText.j1 kj2 t359 t360 (!t364) t351 t355)) else (laws_FnTypeText.j1 kj2 t359 t360 true t351 t355))) else (laws_FnTypeText.j1 kj2 t359 t360 true t351 t355))) else (laws_FnTypeText.j1 kj2 t359 t360 true t351 t355)))))) = some r := H
        have A6 := Aside0.mk A60
        clear A60
        replace H := Option.bind_eq_some_iff.mp H
        obtain ⟨t355, A70, H⟩ := H
        replace H : ((impl_TypeText.f kj2 t351).bind fun t359 => ((impl_TypeText.f kj2 t355).bind fun t360 => ((spec_TypeText.f kj2 t351).bind fun t361 => (if t359.toList = t361.toList then ((spec_TypeText.f kj2 t355).bind fun t362 => (if t360.toList = t362.toList then ((spec_TypeOk.f kj2 t351).bind fun t363 => (if t363 = true then ((spec_TypeOk.f kj2 t355).bind fun t364 => (laws_FnTypeText.j1 kj2 t359 t360 (!t364) t351 t355)) else (laws_FnTypeText.j1 kj2 t359 t360 true t351 t355))) else (laws_FnTypeText.j1 kj2 t359 t360 true t351 t355))) else (laws_FnTypeText.j1 kj2 t359 t360 true t351 t355))))) = some r := H
        have A7 := Aside0.mk A70
        clear A70
        replace H := Option.bind_eq_some_iff.mp H
        obtain ⟨t359, A80, H⟩ := H
        replace H : ((impl_TypeText.f kj2 t355).bind fun t360 => ((spec_TypeText.f kj2 t351).bind fun t361 => (if t359.toList = t361.toList then ((spec_TypeText.f kj2 t355).bind fun t362 => (if t360.toList = t362.toList then ((spec_TypeOk.f kj2 t351).bind fun t363 => (if t363 = true then ((spec_TypeOk.f kj2 t355).bind fun t364 => (laws_FnTypeText.j1 kj2 t359 t360 (!t364) t351 t355)) else (laws_FnTypeText.j1 kj2 t359 t360 true t351 t355))) else (laws_FnTypeText.j1 kj2 t359 t360 true t351 t355))) else (laws_FnTypeText.j1 kj2 t359 t360 true t351 t355)))) = some r := H
        have A8 := Aside0.mk A80
        clear A80
        replace H := Option.bind_eq_some_iff.mp H
        obtain ⟨t360, A90, H⟩ := H
        replace H : ((spec_TypeText.f kj2 t351).bind fun t361 => (if t359.toList = t361.toList then ((spec_TypeText.f kj2 t355).bind fun t362 => (if t360.toList = t362.toList then ((spec_TypeOk.f kj2 t351).bind fun t363 => (if t363 = true then ((spec_TypeOk.f kj2 t355).bind fun t364 => (laws_FnTypeText.j1 kj2 t359 t360 (!t364) t351 t355)) else (laws_FnTypeText.j1 kj2 t359 t360 true t351 t355))) else (laws_FnTypeText.j1 kj2 t359 t360 true t351 t355))) else (laws_FnTypeText.j1 kj2 t359 t360 true t351 t355))) = some r := H
        have A9 := Aside0.mk A90
        clear A90
        have HC10 := Aside0.mk H
        clear H
        go_upto_region 7 with (first | ((with_reducible refine gate_callee (f := 24) rfl ?_); refine goesL_ (some 18) rfl rfl Try.func24 (by kernel_rfl) rfl #[.slice A0 l0.length c0] rfl (by (try simp only [List.map_toArray, List.map_cons, List.map_nil]); first | done | rfl | (simp only [List.length_drop, List.length_take]; rfl)) ?_; (with_reducible refine (spec_DrawTypeText.calls kj2 _ _ l0 t351 _ ?side1 ?side2 A6.out).mono ?_); (case side1 => repeat (first | exact (Kd.C_below HR0.out HB.out) | (with_reducible refine Kd.C_alloc ?_ _) | (with_reducible refine Kd.C_drewN ?_ _) | (with_reducible refine Kd.C_drew ?_))); (case side2 => exact HC0.out); rintro e w11 ⟨v352, rfl, ho0, hb⟩; refine ⟨_, rfl, ?_⟩; have n0_ := Aside0.mk (Kd.N_lower (Kd.N_mono (ok' := fun k_ => True) ho0 (fun k_ hk_ => trivial)) (below_size (by repeat (first | (with_reducible first | exact HB.out | apply below_alloc | apply pw_below_drewN | apply below_drew1) | exact HB.out)))); have n1_ := Aside0.mk (below_step (by repeat (first | (with_reducible first | exact HB.out | apply below_alloc | apply pw_below_drewN | apply below_drew1) | exact HB.out)) hb); clear HB; have HO353 := n0_; have HB := n1_; clear n0_ n1_; (try clear hb); (try clear hb2); (try clear hk); (try clear hi); (try clear ho0)) | ((with_reducible refine gate_dst (N := 5) rfl ?_); (try (refine gate_guard (by rfl) ?_; dsimp only)); refine box_event ?hg (N := 5) ?hd (cs := #[.slice none 0 0]) (t := 30) ?hr ?_; (case hd => rfl); (case hg => rfl); (case hr => first | (go_simp; done) | (go_simp; rfl)); intro gb354 hg w12 hbox hb; have n0_ := Aside0.mk (Kd.N_below (Kd.N_elderB (by (with_reducible repeat (first | apply Kd.N_alloc | apply Kd.N_drewN | apply Kd.N_drew)); exact HO353.out) gb354 (Nat.le_of_eq hg.symm)) hb); have n1_ := Aside0.mk (below_step (by repeat (first | (with_reducible first | exact HB.out | apply below_alloc | apply pw_below_drewN | apply below_drew1) | exact HB.out)) hb); have n2_ := Aside0.mk (hbox); have n3_ := Aside0.mk ((by rw [hg]; exact (below_size (by repeat (first | (with_reducible first | exact HB.out | apply below_alloc | apply pw_below_drewN | apply below_drew1) | exact HB.out))) : w.heap.size ≤ gb354)); have n4_ := Aside0.mk ((by rw [hg]; exact (below_size (by repeat (first | (with_reducible first | exact HB.out | apply below_alloc | apply pw_below_drewN | apply below_drew1) | exact HB.out))) : w.heap.size ≤ gb354)); clear HO353; clear HB; have HO353 := n0_; have HB := n1_; have BK354 := n2_; have GW354 := n3_; have GE354 := n4_; clear n0_ n1_ n2_ n3_ n4_; clear hb hbox hg; obtain ⟨Ao13, co13, eo13⟩ := Kd.N_slice HO353.out; subst eo13; have hcz14_0 : w12.cell? ⟨gb354, 0, none⟩ = some (.slice none 0 0) := (blk_cell BK354.out 0).trans rfl; have hfz14_0 := blk_frozen BK354.out 0) | ((with_reducible refine gate_callee (f := 24) rfl ?_); refine goesL_ (some 20) rfl rfl Try.func24 (by kernel_rfl) rfl #[.slice A1 l1.length c1] rfl (by (try simp only [List.map_toArray, List.map_cons, List.map_nil]); first | done | rfl | (simp only [List.length_drop, List.length_take]; rfl)) ?_; (with_reducible refine (spec_DrawTypeText.calls kj2 _ _ l1 t355 _ ?side1 ?side2 A7.out).mono ?_); (case side1 => exact Kd.C_below HR1.out (by repeat (first | (with_reducible first | exact HB.out | apply below_alloc | apply pw_below_drewN | apply below_drew1 | refine below_set ?_ GE354.out) | exact HB.out))); (case side2 => exact HC1.out); rintro e w15 ⟨v356, rfl, ho0, hb⟩; refine ⟨_, rfl, ?_⟩; have n0_ := Aside0.mk (Kd.N_elder' (by (with_reducible repeat (first | apply Kd.N_alloc | apply Kd.N_drewN | apply Kd.N_drew)); exact (Kd.N_mono (Kd.N_far (p := ⟨gb354, 0, none⟩) (Kd.N_mono HO353.out (fun k_ hk => (⟨hk, hk.2⟩ : _ ∧ k_ ≠ gb354))) (fun _ hk => hk.2) (.slice Ao13 t351.length co13)) (fun _ h_ => h_.1))) (Kd.N_base ho0) hb); have n1_ := Aside0.mk (Kd.N_lower (Kd.N_mono (ok' := fun k_ => some k_ ≠ (.slice Ao13 t351.length co13 : Value).ownBlock ∧ k_ ≠ gb354) ho0 (fun k_ hk_ => ⟨(Kd.fresh' (Kd.N_lt (by (with_reducible repeat (first | apply Kd.N_alloc | apply Kd.N_drewN | apply Kd.N_drew)); exact (Kd.N_mono (Kd.N_far (p := ⟨gb354, 0, none⟩) (Kd.N_mono HO353.out (fun k_ hk => (⟨hk, hk.2⟩ : _ ∧ k_ ≠ gb354))) (fun _ hk => hk.2) (.slice Ao13 t351.length co13)) (fun _ h_ => h_.1)))) k_ hk_), (Kd.freshB (g := gb354) (o := .cells #[.slice Ao13 t351.length co13] 30 (0, 0)) (by (with_reducible repeat (first | refine blk_drewN ?_ _ | refine blk_drew ?_ | refine blk_alloc ?_ _)); refine blk_put (cs := #[.slice none 0 0]) ?_ 0 _ rfl; (with_reducible repeat (first | refine blk_drewN ?_ _ | refine blk_drew ?_ | refine blk_alloc ?_ _)); exact BK354.out) k_ hk_)⟩)) (below_size (by repeat (first | (with_reducible first | exact HB.out | apply below_alloc | apply pw_below_drewN | apply below_drew1 | refine below_set ?_ GE354.out) | exact HB.out)))); have n2_ := Aside0.mk (blk_below (g := gb354) (o := .cells #[.slice Ao13 t351.length co13] 30 (0, 0)) (by (with_reducible repeat (first | refine blk_drewN ?_ _ | refine blk_drew ?_ | refine blk_alloc ?_ _)); refine blk_put (cs := #[.slice none 0 0]) ?_ 0 _ rfl; (with_reducible repeat (first | refine blk_drewN ?_ _ | refine blk_drew ?_ | refine blk_alloc ?_ _)); exact BK354.out) hb); have n3_ := Aside0.mk (below_step (by repeat (first | (with_reducible first | exact HB.out | apply below_alloc | apply pw_below_drewN | apply below_drew1 | refine below_set ?_ GE354.out) | exact HB.out)) hb); clear HO353; clear BK354; clear HB; have HO353 := n0_; have HO357 := n1_; have BK354 := n2_; have HB := n3_; clear n0_ n1_ n2_ n3_; (try clear hb); (try clear hb2); (try clear hk); (try clear hi); (try clear ho0)) | ((with_reducible refine gate_dst (N := 6) rfl ?_); (try (refine gate_guard (by rfl) ?_; dsimp only)); refine box_event ?hg (N := 6) ?hd (cs := #[.slice none 0 0]) (t := 30) ?hr ?_; (case hd => rfl); (case hg => rfl); (case hr => first | (go_simp; done) | (go_simp; rfl)); intro gb358 hg w16 hbox hb; have n0_ := Aside0.mk (Kd.N_below (Kd.N_elderB (by (with_reducible repeat (first | apply Kd.N_alloc | apply Kd.N_drewN | apply Kd.N_drew)); exact HO353.out) gb358 (Nat.le_of_eq hg.symm)) hb); have n1_ := Aside0.mk (Kd.N_below (Kd.N_elderB (by (with_reducible repeat (first | apply Kd.N_alloc | apply Kd.N_drewN | apply Kd.N_drew)); exact HO357.out) gb358 (Nat.le_of_eq hg.symm)) hb); have n2_ := Aside0.mk (blk_below (g := gb354) (o := .cells #[.slice Ao13 t351.length co13] 30 (0, 0)) (by (with_reducible repeat (first | refine blk_drewN ?_ _ | refine blk_drew ?_ | refine blk_alloc ?_ _)); exact BK354.out) hb); have n3_ := Aside0.mk (below_step (by repeat (first | (with_reducible first | exact HB.out | apply below_alloc | apply pw_below_drewN | apply below_drew1 | refine below_set ?_ GE354.out) | exact HB.out)) hb); have n4_ := Aside0.mk (hbox); have n5_ := Aside0.mk ((by rw [hg]; exact (below_size (by repeat (first | (with_reducible first | exact HB.out | apply below_alloc | apply pw_below_drewN | apply below_drew1 | refine below_set ?_ GE354.out) | exact HB.out))) : w.heap.size ≤ gb358)); have n6_ := Aside0.mk ((by rw [hg]; exact (below_size (by repeat (first | (with_reducible first | exact HB.out | apply below_alloc | apply pw_below_drewN | apply below_drew1 | refine below_set ?_ GE354.out) | exact HB.out))) : w.heap.size ≤ gb358)); have n7_ := Aside0.mk ((by rw [hg]; exact Nat.ne_of_lt (blk_lt (g := gb354) (o := .cells #[.slice Ao13 t351.length co13] 30 (0, 0)) (by (with_reducible repeat (first | refine blk_drewN ?_ _ | refine blk_drew ?_ | refine blk_alloc ?_ _)); exact BK354.out)) : gb354 ≠ gb358)); have n8_ := Aside0.mk ((by rw [hg]; exact Nat.ne_of_gt (blk_lt (g := gb354) (o := .cells #[.slice Ao13 t351.length co13] 30 (0, 0)) (by (with_reducible repeat (first | refine blk_drewN ?_ _ | refine blk_drew ?_ | refine blk_alloc ?_ _)); exact BK354.out)) : gb358 ≠ gb354)); clear HO353; clear HO357; clear BK354; clear HB; have HO353 := n0_; have HO357 := n1_; have BK354 := n2_; have HB := n3_; have BK358 := n4_; have GW358 := n5_; have GE358 := n6_; have NB354_358 := n7_; have NB358_354 := n8_; clear n0_ n1_ n2_ n3_ n4_ n5_ n6_ n7_ n8_; clear hb hbox hg; obtain ⟨Ao17, co17, eo17⟩ := Kd.N_slice HO357.out; subst eo17; have hnb18 := NB358_354.out; have hnc18 := NB354_358.out; have hcz19_0 : w16.cell? ⟨gb358, 0, none⟩ = some (.slice none 0 0) := (blk_cell BK358.out 0).trans rfl; have hfz19_0 := blk_frozen BK358.out 0; have hcz20_0 : w16.cell? ⟨gb354, 0, none⟩ = some (.slice Ao13 t351.length co13) := (blk_cell BK354.out 0).trans rfl; have hfz20_0 := blk_frozen BK354.out 0) | ((with_reducible refine gate_callee (f := 23) rfl ?_); refine goesL_ (some 22) rfl rfl Try.func23 (by kernel_rfl) rfl #[.agg #[.slice Ao13 t351.length co13]] rfl (by (try simp only [List.map_toArray, List.map_cons, List.map_nil]); first | done | rfl | (simp only [List.length_drop, List.length_take]; rfl)) ?_; (with_reducible refine (impl_TypeText.calls kj2 _ _ t351 t359 _ ?side1 ?side2 A8.out).mono ?_); (case side1 => refine (Kd.N_reads' (e := 30) (base := w.heap.size) (ok := fun k_ => (((True ∧ k_ ≠ gb354) ∧ some k_ ≠ (.slice Ao17 t355.length co17 : Value).ownBlock) ∧ k_ ≠ gb358)) (n := t351.length) (c := co13) ?_).2.2; exact (by (with_reducible repeat (first | apply Kd.N_alloc | apply Kd.N_drewN | apply Kd.N_drew)); exact (Kd.N_mono (Kd.N_far (p := ⟨gb358, 0, none⟩) (Kd.N_mono HO353.out (fun k_ hk => (⟨hk, hk.2⟩ : _ ∧ k_ ≠ gb358))) (fun _ hk => hk.2) (.slice Ao17 t355.length co17)) (fun _ h_ => h_.1)))); (case side2 => exact (Kd.N_reads' HO353.out).2.1); rintro e w21 ⟨rfl, hb⟩; refine ⟨_, rfl, ?_⟩; have n0_ := Aside0.mk (Kd.N_below (by (with_reducible repeat (first | apply Kd.N_alloc | apply Kd.N_drewN | apply Kd.N_drew)); exact (Kd.N_mono (Kd.N_far (p := ⟨gb358, 0, none⟩) (Kd.N_mono HO353.out (fun k_ hk => (⟨hk, hk.2⟩ : _ ∧ k_ ≠ gb358))) (fun _ hk => hk.2) (.slice Ao17 t355.length co17)) (fun _ h_ => h_.1))) hb); have n1_ := Aside0.mk (Kd.N_below (by (with_reducible repeat (first | apply Kd.N_alloc | apply Kd.N_drewN | apply Kd.N_drew)); exact (Kd.N_mono (Kd.N_far (p := ⟨gb358, 0, none⟩) (Kd.N_mono HO357.out (fun k_ hk => (⟨hk, hk.2⟩ : _ ∧ k_ ≠ gb358))) (fun _ hk => hk.2) (.slice Ao17 t355.length co17)) (fun _ h_ => h_.1))) hb); have n2_ := Aside0.mk (blk_below (g := gb354) (o := .cells #[.slice Ao13 t351.length co13] 30 (0, 0)) (by (with_reducible repeat (first | refine blk_drewN ?_ _ | refine blk_drew ?_ | refine blk_alloc ?_ _)); refine blk_far ?_ NB354_358.out _; (with_reducible repeat (first | refine blk_drewN ?_ _ | refine blk_drew ?_ | refine blk_alloc ?_ _)); exact BK354.out) hb); have n3_ := Aside0.mk (blk_below (g := gb358) (o := .cells #[.slice Ao17 t355.length co17] 30 (0, 0)) (by (with_reducible repeat (first | refine blk_drewN ?_ _ | refine blk_drew ?_ | refine blk_alloc ?_ _)); refine blk_put (cs := #[.slice none 0 0]) ?_ 0 _ rfl; (with_reducible repeat (first | refine blk_drewN ?_ _ | refine blk_drew ?_ | refine blk_alloc ?_ _)); exact BK358.out) hb); have n4_ := Aside0.mk (below_step (by repeat (first | (with_reducible first | exact HB.out | apply below_alloc | apply pw_below_drewN | apply below_drew1 | refine below_set ?_ GE354.out | refine below_set ?_ GE358.out) | exact HB.out)) hb); clear HO353; clear HO357; clear BK354; clear BK358; clear HB; have HO353 := n0_; have HO357 := n1_; have BK354 := n2_; have BK358 := n3_; have HB := n4_; clear n0_ n1_ n2_ n3_ n4_; (try clear hb); (try clear hb2); (try clear hk); (try clear hi); have hcz22_0 : w21.cell? ⟨gb358, 0, none⟩ = some (.slice Ao17 t355.length co17) := (blk_cell BK358.out 0).trans rfl; have hfz22_0 := blk_frozen BK358.out 0) | ((with_reducible refine gate_callee (f := 23) rfl ?_); refine goesL_ (some 24) rfl rfl Try.func23 (by kernel_rfl) rfl #[.agg #[.slice Ao17 t355.length co17]] rfl (by (try simp only [List.map_toArray, List.map_cons, List.map_nil]); first | done | rfl | (simp only [List.length_drop, List.length_take]; rfl)) ?_; (with_reducible refine (impl_TypeText.calls kj2 _ _ t355 t360 _ ?side1 ?side2 A9.out).mono ?_); (case side1 => repeat (first | exact (Kd.N_reads' HO357.out).2.2 | (with_reducible refine Kd.C_alloc ?_ _) | (with_reducible refine Kd.C_drewN ?_ _) | (with_reducible refine Kd.C_drew ?_))); (case side2 => exact (Kd.N_reads' HO357.out).2.1); rintro e w23 ⟨rfl, hb⟩; refine ⟨_, rfl, ?_⟩; have n0_ := Aside0.mk (Kd.N_below (by (with_reducible repeat (first | apply Kd.N_alloc | apply Kd.N_drewN | apply Kd.N_drew)); exact HO353.out) hb); have n1_ := Aside0.mk (Kd.N_below (by (with_reducible repeat (first | apply Kd.N_alloc | apply Kd.N_drewN | apply Kd.N_drew)); exact HO357.out) hb); have n2_ := Aside0.mk (blk_below (g := gb354) (o := .cells #[.slice Ao13 t351.length co13] 30 (0, 0)) (by (with_reducible repeat (first | refine blk_drewN ?_ _ | refine blk_drew ?_ | refine blk_alloc ?_ _)); exact BK354.out) hb); have n3_ := Aside0.mk (blk_below (g := gb358) (o := .cells #[.slice Ao17 t355.length co17] 30 (0, 0)) (by (with_reducible repeat (first | refine blk_drewN ?_ _ | refine blk_drew ?_ | refine blk_alloc ?_ _)); exact BK358.out) hb); have n4_ := Aside0.mk (below_step (by repeat (first | (with_reducible first | exact HB.out | apply below_alloc | apply pw_below_drewN | apply below_drew1 | refine below_set ?_ GE354.out | refine below_set ?_ GE358.out) | exact HB.out)) hb); clear HO353; clear HO357; clear BK354; clear BK358; clear HB; have HO353 := n0_; have HO357 := n1_; have BK354 := n2_; have BK358 := n3_; have HB := n4_; clear n0_ n1_ n2_ n3_ n4_; (try clear hb); (try clear hb2); (try clear hk); (try clear hi)))
        (try simp only [Act.put, List.setIfInBounds_toArray, List.set_cons_zero, List.set_cons_succ])
        go_cut [44] (fun v44 wc => ∃ (kq : Nat) (x44_9 : Bool), v44 = .bool x44_9 ∧ Aside0 (laws_FnTypeText.j1 kq t359 t360 x44_9 t351 t355 = some r) ∧ Aside0 (kq ≤ kj2) ∧ Aside0 (Kd.N k30 30 wc w.heap.size (fun k_ => some k_ ≠ ((.slice Ao17 t355.length co17) : Value).ownBlock ∧ k_ ≠ gb354 ∧ k_ ≠ gb358) (.slice Ao13 t351.length co13) t351) ∧ Aside0 (Kd.N k30 30 wc w.heap.size (fun k_ => some k_ ≠ ((.slice Ao13 t351.length co13) : Value).ownBlock ∧ k_ ≠ gb354 ∧ k_ ≠ gb358) (.slice Ao17 t355.length co17) t355) ∧ Aside0 (wc.heap[gb354]? = some (.cells #[(.slice Ao13 t351.length co13)] 30 (0, 0))) ∧ Aside0 (wc.heap[gb358]? = some (.cells #[(.slice Ao17 t355.length co17)] 30 (0, 0))) ∧ Aside0 (Below w.heap.size w wc))
        case first =>
          have H := HC10.out
          clear HC10
          replace H := Option.bind_eq_some_iff.mp H
          obtain ⟨t361, A240, H⟩ := H
          replace H : (if t359.toList = t361.toList then ((spec_TypeText.f kj2 t355).bind fun t362 => (if t360.toList = t362.toList then ((spec_TypeOk.f kj2 t351).bind fun t363 => (if t363 = true then ((spec_TypeOk.f kj2 t355).bind fun t364 => (laws_FnTypeText.j1 kj2 t359 t360 (!t364) t351 t355)) else (laws_FnTypeText.j1 kj2 t359 t360 true t351 t355))) else (laws_FnTypeText.j1 kj2 t359 t360 true t351 t355))) else (laws_FnTypeText.j1 kj2 t359 t360 true t351 t355)) = some r := H
          have A24 := Aside0.mk A240
          clear A240
          by_cases c25 : t359.toList = t361.toList
          · rw [if_pos c25] at H
            have c25b0 : (t359.toList == t361.toList) = true := beq_iff_eq.mpr c25
            have c25b1 : (t359.toList != t361.toList) = false := bne_eq_false_iff_eq.mpr c25
            clear c25
            (first | rw [c25b0] | (simp only [i64_w, i32_w]; rw [c25b0]) | skip)
            replace H := Option.bind_eq_some_iff.mp H
            obtain ⟨t362, A260, H⟩ := H
            replace H : (if t360.toList = t362.toList then ((spec_TypeOk.f kj2 t351).bind fun t363 => (if t363 = true then ((spec_TypeOk.f kj2 t355).bind fun t364 => (laws_FnTypeText.j1 kj2 t359 t360 (!t364) t351 t355)) else (laws_FnTypeText.j1 kj2 t359 t360 true t351 t355))) else (laws_FnTypeText.j1 kj2 t359 t360 true t351 t355)) = some r := H
            have A26 := Aside0.mk A260
            clear A260
            by_cases c27 : t360.toList = t362.toList
            · rw [if_pos c27] at H
              have c27b0 : (t360.toList == t362.toList) = true := beq_iff_eq.mpr c27
              have c27b1 : (t360.toList != t362.toList) = false := bne_eq_false_iff_eq.mpr c27
              clear c27
              replace H := Option.bind_eq_some_iff.mp H
              obtain ⟨t363, A280, H⟩ := H
              replace H : (if t363 = true then ((spec_TypeOk.f kj2 t355).bind fun t364 => (laws_FnTypeText.j1 kj2 t359 t360 (!t364) t351 t355)) else (laws_FnTypeText.j1 kj2 t359 t360 true t351 t355)) = some r := H
              have A28 := Aside0.mk A280
              clear A280
              by_cases c29 : t363 = true
              · subst c29
                have H1 : ((spec_TypeOk.f kj2 t355).bind fun t364 => (laws_FnTypeText.j1 kj2 t359 t360 (!t364) t351 t355)) = some r := by rw [if_pos rfl] at H; exact H
                clear H
                have H := H1
                clear H1
                replace H := Option.bind_eq_some_iff.mp H
                obtain ⟨t364, A300, H⟩ := H
                replace H : (laws_FnTypeText.j1 kj2 t359 t360 (!t364) t351 t355) = some r := H
                have A30 := Aside0.mk A300
                clear A300
                have H' := Aside0.mk H
                clear H
                have hnb31 := NB354_358.out
                have hnc31 := NB358_354.out
                have hcz32_0 : w23.cell? ⟨gb354, 0, none⟩ = some (.slice Ao13 t351.length co13) := (blk_cell BK354.out 0).trans rfl
                have hfz32_0 := blk_frozen BK354.out 0
                go_wp2_with (first | ((with_reducible refine gate_callee (f := 22) rfl ?_); refine goesL_ (some 27) rfl rfl Try.func22 (by kernel_rfl) rfl #[.agg #[.slice Ao13 t351.length co13]] rfl (by (try simp only [List.map_toArray, List.map_cons, List.map_nil]); first | done | rfl | (simp only [List.length_drop, List.length_take]; rfl)) ?_; (with_reducible refine (spec_TypeText.calls kj2 _ _ t351 t361 _ ?side1 ?side2 A24.out).mono ?_); (case side1 => repeat (first | exact (Kd.N_reads' HO353.out).2.2 | (with_reducible refine Kd.C_alloc ?_ _) | (with_reducible refine Kd.C_drewN ?_ _) | (with_reducible refine Kd.C_drew ?_))); (case side2 => exact (Kd.N_reads' HO353.out).2.1); rintro e w33 ⟨rfl, hb⟩; refine ⟨_, rfl, ?_⟩; have n0_ := Aside0.mk (Kd.N_below (by (with_reducible repeat (first | apply Kd.N_alloc | apply Kd.N_drewN | apply Kd.N_drew)); exact HO353.out) hb); have n1_ := Aside0.mk (Kd.N_below (by (with_reducible repeat (first | apply Kd.N_alloc | apply Kd.N_drewN | apply Kd.N_drew)); exact HO357.out) hb); have n2_ := Aside0.mk (blk_below (g := gb354) (o := .cells #[.slice Ao13 t351.length co13] 30 (0, 0)) (by (with_reducible repeat (first | refine blk_drewN ?_ _ | refine blk_drew ?_ | refine blk_alloc ?_ _)); exact BK354.out) hb); have n3_ := Aside0.mk (blk_below (g := gb358) (o := .cells #[.slice Ao17 t355.length co17] 30 (0, 0)) (by (with_reducible repeat (first | refine blk_drewN ?_ _ | refine blk_drew ?_ | refine blk_alloc ?_ _)); exact BK358.out) hb); have n4_ := Aside0.mk (below_step (by repeat (first | (with_reducible first | exact HB.out | apply below_alloc | apply pw_below_drewN | apply below_drew1 | refine below_set ?_ GE354.out | refine below_set ?_ GE358.out) | exact HB.out)) hb); clear HO353; clear HO357; clear BK354; clear BK358; clear HB; have HO353 := n0_; have HO357 := n1_; have BK354 := n2_; have BK358 := n3_; have HB := n4_; clear n0_ n1_ n2_ n3_ n4_; (try clear hb); (try clear hb2); (try clear hk); (try clear hi); have hcz34_0 : w33.cell? ⟨gb358, 0, none⟩ = some (.slice Ao17 t355.length co17) := (blk_cell BK358.out 0).trans rfl; have hfz34_0 := blk_frozen BK358.out 0) | (go_at_call 22; (with_reducible refine (spec_TypeText.calls kj2 _ _ t355 t362 _ ?side1 ?side2 A26.out).mono ?_); (case side1 => repeat (first | exact (Kd.N_reads' HO357.out).2.2 | (with_reducible refine Kd.C_alloc ?_ _) | (with_reducible refine Kd.C_drewN ?_ _) | (with_reducible refine Kd.C_drew ?_))); (case side2 => exact (Kd.N_reads' HO357.out).2.1); rintro e w35 ⟨rfl, hb⟩; have n0_ := Aside0.mk (Kd.N_below (by (with_reducible repeat (first | apply Kd.N_alloc | apply Kd.N_drewN | apply Kd.N_drew)); exact HO353.out) hb); have n1_ := Aside0.mk (Kd.N_below (by (with_reducible repeat (first | apply Kd.N_alloc | apply Kd.N_drewN | apply Kd.N_drew)); exact HO357.out) hb); have n2_ := Aside0.mk (blk_below (g := gb354) (o := .cells #[.slice Ao13 t351.length co13] 30 (0, 0)) (by (with_reducible repeat (first | refine blk_drewN ?_ _ | refine blk_drew ?_ | refine blk_alloc ?_ _)); exact BK354.out) hb); have n3_ := Aside0.mk (blk_below (g := gb358) (o := .cells #[.slice Ao17 t355.length co17] 30 (0, 0)) (by (with_reducible repeat (first | refine blk_drewN ?_ _ | refine blk_drew ?_ | refine blk_alloc ?_ _)); exact BK358.out) hb); have n4_ := Aside0.mk (below_step (by repeat (first | (with_reducible first | exact HB.out | apply below_alloc | apply pw_below_drewN | apply below_drew1 | refine below_set ?_ GE354.out | refine below_set ?_ GE358.out) | exact HB.out)) hb); clear HO353; clear HO357; clear BK354; clear BK358; clear HB; have HO353 := n0_; have HO357 := n1_; have BK354 := n2_; have BK358 := n3_; have HB := n4_; clear n0_ n1_ n2_ n3_ n4_; (try clear hb); (try clear hb2); (try clear hk); (try clear hi); have hcz36_0 : w35.cell? ⟨gb354, 0, none⟩ = some (.slice Ao13 t351.length co13) := (blk_cell BK354.out 0).trans rfl; have hfz36_0 := blk_frozen BK354.out 0) | (go_at_call 16; (with_reducible refine (spec_TypeOk.calls kj2 _ _ t351 true _ ?side1 ?side2 A28.out).mono ?_); (case side1 => repeat (first | exact (Kd.N_reads' HO353.out).2.2 | (with_reducible refine Kd.C_alloc ?_ _) | (with_reducible refine Kd.C_drewN ?_ _) | (with_reducible refine Kd.C_drew ?_))); (case side2 => exact (Kd.N_reads' HO353.out).2.1); rintro e w37 ⟨rfl, hb⟩; have n0_ := Aside0.mk (Kd.N_below (by (with_reducible repeat (first | apply Kd.N_alloc | apply Kd.N_drewN | apply Kd.N_drew)); exact HO353.out) hb); have n1_ := Aside0.mk (Kd.N_below (by (with_reducible repeat (first | apply Kd.N_alloc | apply Kd.N_drewN | apply Kd.N_drew)); exact HO357.out) hb); have n2_ := Aside0.mk (blk_below (g := gb354) (o := .cells #[.slice Ao13 t351.length co13] 30 (0, 0)) (by (with_reducible repeat (first | refine blk_drewN ?_ _ | refine blk_drew ?_ | refine blk_alloc ?_ _)); exact BK354.out) hb); have n3_ := Aside0.mk (blk_below (g := gb358) (o := .cells #[.slice Ao17 t355.length co17] 30 (0, 0)) (by (with_reducible repeat (first | refine blk_drewN ?_ _ | refine blk_drew ?_ | refine blk_alloc ?_ _)); exact BK358.out) hb); have n4_ := Aside0.mk (below_step (by repeat (first | (with_reducible first | exact HB.out | apply below_alloc | apply pw_below_drewN | apply below_drew1 | refine below_set ?_ GE354.out | refine below_set ?_ GE358.out) | exact HB.out)) hb); clear HO353; clear HO357; clear BK354; clear BK358; clear HB; have HO353 := n0_; have HO357 := n1_; have BK354 := n2_; have BK358 := n3_; have HB := n4_; clear n0_ n1_ n2_ n3_ n4_; (try clear hb); (try clear hb2); (try clear hk); (try clear hi); have hcz38_0 : w37.cell? ⟨gb358, 0, none⟩ = some (.slice Ao17 t355.length co17) := (blk_cell BK358.out 0).trans rfl; have hfz38_0 := blk_frozen BK358.out 0) | (go_at_call 16; (with_reducible refine (spec_TypeOk.calls kj2 _ _ t355 t364 _ ?side1 ?side2 A30.out).mono ?_); (case side1 => repeat (first | exact (Kd.N_reads' HO357.out).2.2 | (with_reducible refine Kd.C_alloc ?_ _) | (with_reducible refine Kd.C_drewN ?_ _) | (with_reducible refine Kd.C_drew ?_))); (case side2 => exact (Kd.N_reads' HO357.out).2.1); rintro e w39 ⟨rfl, hb⟩; have n0_ := Aside0.mk (Kd.N_below (by (with_reducible repeat (first | apply Kd.N_alloc | apply Kd.N_drewN | apply Kd.N_drew)); exact HO353.out) hb); have n1_ := Aside0.mk (Kd.N_below (by (with_reducible repeat (first | apply Kd.N_alloc | apply Kd.N_drewN | apply Kd.N_drew)); exact HO357.out) hb); have n2_ := Aside0.mk (blk_below (g := gb354) (o := .cells #[.slice Ao13 t351.length co13] 30 (0, 0)) (by (with_reducible repeat (first | refine blk_drewN ?_ _ | refine blk_drew ?_ | refine blk_alloc ?_ _)); exact BK354.out) hb); have n3_ := Aside0.mk (blk_below (g := gb358) (o := .cells #[.slice Ao17 t355.length co17] 30 (0, 0)) (by (with_reducible repeat (first | refine blk_drewN ?_ _ | refine blk_drew ?_ | refine blk_alloc ?_ _)); exact BK358.out) hb); have n4_ := Aside0.mk (below_step (by repeat (first | (with_reducible first | exact HB.out | apply below_alloc | apply pw_below_drewN | apply below_drew1 | refine below_set ?_ GE354.out | refine below_set ?_ GE358.out) | exact HB.out)) hb); clear HO353; clear HO357; clear BK354; clear BK358; clear HB; have HO353 := n0_; have HO357 := n1_; have BK354 := n2_; have BK358 := n3_; have HB := n4_; clear n0_ n1_ n2_ n3_ n4_; (try clear hb); (try clear hb2); (try clear hk); (try clear hi)))
                go_meet
                case rel => exact ⟨_, (!t364), (by first | rfl | (simp; done) | (simp [*]; done)), H', ⟨by have := HJ2.out; first | omega | exact Nat.le_refl _⟩, ⟨by (with_reducible repeat (first | apply Kd.N_alloc | apply Kd.N_drewN | apply Kd.N_drew)); exact Kd.N_mono HO353.out (fun _ hk => ⟨hk.1.2, ⟨hk.1.1.2, hk.2⟩⟩)⟩, ⟨by (with_reducible repeat (first | apply Kd.N_alloc | apply Kd.N_drewN | apply Kd.N_drew)); exact Kd.N_mono HO357.out (fun _ hk => ⟨hk.1.1, ⟨hk.1.2, hk.2⟩⟩)⟩, ⟨by (with_reducible repeat (first | refine blk_drewN ?_ _ | refine blk_drew ?_ | refine blk_alloc ?_ _)); exact BK354.out⟩, ⟨by (with_reducible repeat (first | refine blk_drewN ?_ _ | refine blk_drew ?_ | refine blk_alloc ?_ _)); exact BK358.out⟩, ⟨by repeat (first | (with_reducible first | exact HB.out | apply below_alloc | apply pw_below_drewN | apply below_drew1 | refine below_set ?_ GE354.out | refine below_set ?_ GE358.out) | exact HB.out)⟩⟩
              · replace c29 := Bool.eq_false_iff.mpr c29
                subst c29
                have H1 : (laws_FnTypeText.j1 kj2 t359 t360 true t351 t355) = some r := by rw [if_neg (show ¬ (false = true) by decide)] at H; exact H
                clear H
                have H := H1
                clear H1
                have H' := Aside0.mk H
                clear H
                have hnb40 := NB354_358.out
                have hnc40 := NB358_354.out
                have hcz41_0 : w23.cell? ⟨gb354, 0, none⟩ = some (.slice Ao13 t351.length co13) := (blk_cell BK354.out 0).trans rfl
                have hfz41_0 := blk_frozen BK354.out 0
                go_wp2_with (first | ((with_reducible refine gate_callee (f := 22) rfl ?_); refine goesL_ (some 27) rfl rfl Try.func22 (by kernel_rfl) rfl #[.agg #[.slice Ao13 t351.length co13]] rfl (by (try simp only [List.map_toArray, List.map_cons, List.map_nil]); first | done | rfl | (simp only [List.length_drop, List.length_take]; rfl)) ?_; (with_reducible refine (spec_TypeText.calls kj2 _ _ t351 t361 _ ?side1 ?side2 A24.out).mono ?_); (case side1 => repeat (first | exact (Kd.N_reads' HO353.out).2.2 | (with_reducible refine Kd.C_alloc ?_ _) | (with_reducible refine Kd.C_drewN ?_ _) | (with_reducible refine Kd.C_drew ?_))); (case side2 => exact (Kd.N_reads' HO353.out).2.1); rintro e w42 ⟨rfl, hb⟩; refine ⟨_, rfl, ?_⟩; have n0_ := Aside0.mk (Kd.N_below (by (with_reducible repeat (first | apply Kd.N_alloc | apply Kd.N_drewN | apply Kd.N_drew)); exact HO353.out) hb); have n1_ := Aside0.mk (Kd.N_below (by (with_reducible repeat (first | apply Kd.N_alloc | apply Kd.N_drewN | apply Kd.N_drew)); exact HO357.out) hb); have n2_ := Aside0.mk (blk_below (g := gb354) (o := .cells #[.slice Ao13 t351.length co13] 30 (0, 0)) (by (with_reducible repeat (first | refine blk_drewN ?_ _ | refine blk_drew ?_ | refine blk_alloc ?_ _)); exact BK354.out) hb); have n3_ := Aside0.mk (blk_below (g := gb358) (o := .cells #[.slice Ao17 t355.length co17] 30 (0, 0)) (by (with_reducible repeat (first | refine blk_drewN ?_ _ | refine blk_drew ?_ | refine blk_alloc ?_ _)); exact BK358.out) hb); have n4_ := Aside0.mk (below_step (by repeat (first | (with_reducible first | exact HB.out | apply below_alloc | apply pw_below_drewN | apply below_drew1 | refine below_set ?_ GE354.out | refine below_set ?_ GE358.out) | exact HB.out)) hb); clear HO353; clear HO357; clear BK354; clear BK358; clear HB; have HO353 := n0_; have HO357 := n1_; have BK354 := n2_; have BK358 := n3_; have HB := n4_; clear n0_ n1_ n2_ n3_ n4_; (try clear hb); (try clear hb2); (try clear hk); (try clear hi); have hcz43_0 : w42.cell? ⟨gb358, 0, none⟩ = some (.slice Ao17 t355.length co17) := (blk_cell BK358.out 0).trans rfl; have hfz43_0 := blk_frozen BK358.out 0) | (go_at_call 22; (with_reducible refine (spec_TypeText.calls kj2 _ _ t355 t362 _ ?side1 ?side2 A26.out).mono ?_); (case side1 => repeat (first | exact (Kd.N_reads' HO357.out).2.2 | (with_reducible refine Kd.C_alloc ?_ _) | (with_reducible refine Kd.C_drewN ?_ _) | (with_reducible refine Kd.C_drew ?_))); (case side2 => exact (Kd.N_reads' HO357.out).2.1); rintro e w44 ⟨rfl, hb⟩; have n0_ := Aside0.mk (Kd.N_below (by (with_reducible repeat (first | apply Kd.N_alloc | apply Kd.N_drewN | apply Kd.N_drew)); exact HO353.out) hb); have n1_ := Aside0.mk (Kd.N_below (by (with_reducible repeat (first | apply Kd.N_alloc | apply Kd.N_drewN | apply Kd.N_drew)); exact HO357.out) hb); have n2_ := Aside0.mk (blk_below (g := gb354) (o := .cells #[.slice Ao13 t351.length co13] 30 (0, 0)) (by (with_reducible repeat (first | refine blk_drewN ?_ _ | refine blk_drew ?_ | refine blk_alloc ?_ _)); exact BK354.out) hb); have n3_ := Aside0.mk (blk_below (g := gb358) (o := .cells #[.slice Ao17 t355.length co17] 30 (0, 0)) (by (with_reducible repeat (first | refine blk_drewN ?_ _ | refine blk_drew ?_ | refine blk_alloc ?_ _)); exact BK358.out) hb); have n4_ := Aside0.mk (below_step (by repeat (first | (with_reducible first | exact HB.out | apply below_alloc | apply pw_below_drewN | apply below_drew1 | refine below_set ?_ GE354.out | refine below_set ?_ GE358.out) | exact HB.out)) hb); clear HO353; clear HO357; clear BK354; clear BK358; clear HB; have HO353 := n0_; have HO357 := n1_; have BK354 := n2_; have BK358 := n3_; have HB := n4_; clear n0_ n1_ n2_ n3_ n4_; (try clear hb); (try clear hb2); (try clear hk); (try clear hi); have hcz45_0 : w44.cell? ⟨gb354, 0, none⟩ = some (.slice Ao13 t351.length co13) := (blk_cell BK354.out 0).trans rfl; have hfz45_0 := blk_frozen BK354.out 0) | (go_at_call 16; (with_reducible refine (spec_TypeOk.calls kj2 _ _ t351 false _ ?side1 ?side2 A28.out).mono ?_); (case side1 => repeat (first | exact (Kd.N_reads' HO353.out).2.2 | (with_reducible refine Kd.C_alloc ?_ _) | (with_reducible refine Kd.C_drewN ?_ _) | (with_reducible refine Kd.C_drew ?_))); (case side2 => exact (Kd.N_reads' HO353.out).2.1); rintro e w46 ⟨rfl, hb⟩; have n0_ := Aside0.mk (Kd.N_below (by (with_reducible repeat (first | apply Kd.N_alloc | apply Kd.N_drewN | apply Kd.N_drew)); exact HO353.out) hb); have n1_ := Aside0.mk (Kd.N_below (by (with_reducible repeat (first | apply Kd.N_alloc | apply Kd.N_drewN | apply Kd.N_drew)); exact HO357.out) hb); have n2_ := Aside0.mk (blk_below (g := gb354) (o := .cells #[.slice Ao13 t351.length co13] 30 (0, 0)) (by (with_reducible repeat (first | refine blk_drewN ?_ _ | refine blk_drew ?_ | refine blk_alloc ?_ _)); exact BK354.out) hb); have n3_ := Aside0.mk (blk_below (g := gb358) (o := .cells #[.slice Ao17 t355.length co17] 30 (0, 0)) (by (with_reducible repeat (first | refine blk_drewN ?_ _ | refine blk_drew ?_ | refine blk_alloc ?_ _)); exact BK358.out) hb); have n4_ := Aside0.mk (below_step (by repeat (first | (with_reducible first | exact HB.out | apply below_alloc | apply pw_below_drewN | apply below_drew1 | refine below_set ?_ GE354.out | refine below_set ?_ GE358.out) | exact HB.out)) hb); clear HO353; clear HO357; clear BK354; clear BK358; clear HB; have HO353 := n0_; have HO357 := n1_; have BK354 := n2_; have BK358 := n3_; have HB := n4_; clear n0_ n1_ n2_ n3_ n4_; (try clear hb); (try clear hb2); (try clear hk); (try clear hi)))
                go_meet
                case rel => exact ⟨_, (true), (by first | rfl | (simp; done) | (simp [*]; done)), H', ⟨by have := HJ2.out; first | omega | exact Nat.le_refl _⟩, ⟨by (with_reducible repeat (first | apply Kd.N_alloc | apply Kd.N_drewN | apply Kd.N_drew)); exact Kd.N_mono HO353.out (fun _ hk => ⟨hk.1.2, ⟨hk.1.1.2, hk.2⟩⟩)⟩, ⟨by (with_reducible repeat (first | apply Kd.N_alloc | apply Kd.N_drewN | apply Kd.N_drew)); exact Kd.N_mono HO357.out (fun _ hk => ⟨hk.1.1, ⟨hk.1.2, hk.2⟩⟩)⟩, ⟨by (with_reducible repeat (first | refine blk_drewN ?_ _ | refine blk_drew ?_ | refine blk_alloc ?_ _)); exact BK354.out⟩, ⟨by (with_reducible repeat (first | refine blk_drewN ?_ _ | refine blk_drew ?_ | refine blk_alloc ?_ _)); exact BK358.out⟩, ⟨by repeat (first | (with_reducible first | exact HB.out | apply below_alloc | apply pw_below_drewN | apply below_drew1 | refine below_set ?_ GE354.out | refine below_set ?_ GE358.out) | exact HB.out)⟩⟩
            · rw [if_neg c27] at H
              have c27b0 : (t360.toList == t362.toList) = false := beq_eq_false_iff_ne.mpr c27
              have c27b1 : (t360.toList != t362.toList) = true := bne_iff_ne.mpr c27
              have H' := Aside0.mk H
              clear H
              have hnb47 := NB354_358.out
              have hnc47 := NB358_354.out
              have hcz48_0 : w23.cell? ⟨gb354, 0, none⟩ = some (.slice Ao13 t351.length co13) := (blk_cell BK354.out 0).trans rfl
              have hfz48_0 := blk_frozen BK354.out 0
              go_wp2_with (first | ((with_reducible refine gate_callee (f := 22) rfl ?_); refine goesL_ (some 27) rfl rfl Try.func22 (by kernel_rfl) rfl #[.agg #[.slice Ao13 t351.length co13]] rfl (by (try simp only [List.map_toArray, List.map_cons, List.map_nil]); first | done | rfl | (simp only [List.length_drop, List.length_take]; rfl)) ?_; (with_reducible refine (spec_TypeText.calls kj2 _ _ t351 t361 _ ?side1 ?side2 A24.out).mono ?_); (case side1 => repeat (first | exact (Kd.N_reads' HO353.out).2.2 | (with_reducible refine Kd.C_alloc ?_ _) | (with_reducible refine Kd.C_drewN ?_ _) | (with_reducible refine Kd.C_drew ?_))); (case side2 => exact (Kd.N_reads' HO353.out).2.1); rintro e w49 ⟨rfl, hb⟩; refine ⟨_, rfl, ?_⟩; have n0_ := Aside0.mk (Kd.N_below (by (with_reducible repeat (first | apply Kd.N_alloc | apply Kd.N_drewN | apply Kd.N_drew)); exact HO353.out) hb); have n1_ := Aside0.mk (Kd.N_below (by (with_reducible repeat (first | apply Kd.N_alloc | apply Kd.N_drewN | apply Kd.N_drew)); exact HO357.out) hb); have n2_ := Aside0.mk (blk_below (g := gb354) (o := .cells #[.slice Ao13 t351.length co13] 30 (0, 0)) (by (with_reducible repeat (first | refine blk_drewN ?_ _ | refine blk_drew ?_ | refine blk_alloc ?_ _)); exact BK354.out) hb); have n3_ := Aside0.mk (blk_below (g := gb358) (o := .cells #[.slice Ao17 t355.length co17] 30 (0, 0)) (by (with_reducible repeat (first | refine blk_drewN ?_ _ | refine blk_drew ?_ | refine blk_alloc ?_ _)); exact BK358.out) hb); have n4_ := Aside0.mk (below_step (by repeat (first | (with_reducible first | exact HB.out | apply below_alloc | apply pw_below_drewN | apply below_drew1 | refine below_set ?_ GE354.out | refine below_set ?_ GE358.out) | exact HB.out)) hb); clear HO353; clear HO357; clear BK354; clear BK358; clear HB; have HO353 := n0_; have HO357 := n1_; have BK354 := n2_; have BK358 := n3_; have HB := n4_; clear n0_ n1_ n2_ n3_ n4_; (try clear hb); (try clear hb2); (try clear hk); (try clear hi); have hcz50_0 : w49.cell? ⟨gb358, 0, none⟩ = some (.slice Ao17 t355.length co17) := (blk_cell BK358.out 0).trans rfl; have hfz50_0 := blk_frozen BK358.out 0) | (go_at_call 22; (with_reducible refine (spec_TypeText.calls kj2 _ _ t355 t362 _ ?side1 ?side2 A26.out).mono ?_); (case side1 => repeat (first | exact (Kd.N_reads' HO357.out).2.2 | (with_reducible refine Kd.C_alloc ?_ _) | (with_reducible refine Kd.C_drewN ?_ _) | (with_reducible refine Kd.C_drew ?_))); (case side2 => exact (Kd.N_reads' HO357.out).2.1); rintro e w51 ⟨rfl, hb⟩; have n0_ := Aside0.mk (Kd.N_below (by (with_reducible repeat (first | apply Kd.N_alloc | apply Kd.N_drewN | apply Kd.N_drew)); exact HO353.out) hb); have n1_ := Aside0.mk (Kd.N_below (by (with_reducible repeat (first | apply Kd.N_alloc | apply Kd.N_drewN | apply Kd.N_drew)); exact HO357.out) hb); have n2_ := Aside0.mk (blk_below (g := gb354) (o := .cells #[.slice Ao13 t351.length co13] 30 (0, 0)) (by (with_reducible repeat (first | refine blk_drewN ?_ _ | refine blk_drew ?_ | refine blk_alloc ?_ _)); exact BK354.out) hb); have n3_ := Aside0.mk (blk_below (g := gb358) (o := .cells #[.slice Ao17 t355.length co17] 30 (0, 0)) (by (with_reducible repeat (first | refine blk_drewN ?_ _ | refine blk_drew ?_ | refine blk_alloc ?_ _)); exact BK358.out) hb); have n4_ := Aside0.mk (below_step (by repeat (first | (with_reducible first | exact HB.out | apply below_alloc | apply pw_below_drewN | apply below_drew1 | refine below_set ?_ GE354.out | refine below_set ?_ GE358.out) | exact HB.out)) hb); clear HO353; clear HO357; clear BK354; clear BK358; clear HB; have HO353 := n0_; have HO357 := n1_; have BK354 := n2_; have BK358 := n3_; have HB := n4_; clear n0_ n1_ n2_ n3_ n4_; (try clear hb); (try clear hb2); (try clear hk); (try clear hi)))
              go_meet
              case rel => exact ⟨_, (true), (by first | rfl | (simp; done) | (simp [*]; done)), H', ⟨by have := HJ2.out; first | omega | exact Nat.le_refl _⟩, ⟨by (with_reducible repeat (first | apply Kd.N_alloc | apply Kd.N_drewN | apply Kd.N_drew)); exact Kd.N_mono HO353.out (fun _ hk => ⟨hk.1.2, ⟨hk.1.1.2, hk.2⟩⟩)⟩, ⟨by (with_reducible repeat (first | apply Kd.N_alloc | apply Kd.N_drewN | apply Kd.N_drew)); exact Kd.N_mono HO357.out (fun _ hk => ⟨hk.1.1, ⟨hk.1.2, hk.2⟩⟩)⟩, ⟨by (with_reducible repeat (first | refine blk_drewN ?_ _ | refine blk_drew ?_ | refine blk_alloc ?_ _)); exact BK354.out⟩, ⟨by (with_reducible repeat (first | refine blk_drewN ?_ _ | refine blk_drew ?_ | refine blk_alloc ?_ _)); exact BK358.out⟩, ⟨by repeat (first | (with_reducible first | exact HB.out | apply below_alloc | apply pw_below_drewN | apply below_drew1 | refine below_set ?_ GE354.out | refine below_set ?_ GE358.out) | exact HB.out)⟩⟩
          · rw [if_neg c25] at H
            have c25b0 : (t359.toList == t361.toList) = false := beq_eq_false_iff_ne.mpr c25
            have c25b1 : (t359.toList != t361.toList) = true := bne_iff_ne.mpr c25
            (first | rw [c25b0] | (simp only [i64_w, i32_w]; rw [c25b0]) | skip)
            have H' := Aside0.mk H
            clear H
            have hnb52 := NB354_358.out
            have hnc52 := NB358_354.out
            have hcz53_0 : w23.cell? ⟨gb354, 0, none⟩ = some (.slice Ao13 t351.length co13) := (blk_cell BK354.out 0).trans rfl
            have hfz53_0 := blk_frozen BK354.out 0
            go_wp2_with (first | ((with_reducible refine gate_callee (f := 22) rfl ?_); refine goesL_ (some 27) rfl rfl Try.func22 (by kernel_rfl) rfl #[.agg #[.slice Ao13 t351.length co13]] rfl (by (try simp only [List.map_toArray, List.map_cons, List.map_nil]); first | done | rfl | (simp only [List.length_drop, List.length_take]; rfl)) ?_; (with_reducible refine (spec_TypeText.calls kj2 _ _ t351 t361 _ ?side1 ?side2 A24.out).mono ?_); (case side1 => repeat (first | exact (Kd.N_reads' HO353.out).2.2 | (with_reducible refine Kd.C_alloc ?_ _) | (with_reducible refine Kd.C_drewN ?_ _) | (with_reducible refine Kd.C_drew ?_))); (case side2 => exact (Kd.N_reads' HO353.out).2.1); rintro e w54 ⟨rfl, hb⟩; refine ⟨_, rfl, ?_⟩; have n0_ := Aside0.mk (Kd.N_below (by (with_reducible repeat (first | apply Kd.N_alloc | apply Kd.N_drewN | apply Kd.N_drew)); exact HO353.out) hb); have n1_ := Aside0.mk (Kd.N_below (by (with_reducible repeat (first | apply Kd.N_alloc | apply Kd.N_drewN | apply Kd.N_drew)); exact HO357.out) hb); have n2_ := Aside0.mk (blk_below (g := gb354) (o := .cells #[.slice Ao13 t351.length co13] 30 (0, 0)) (by (with_reducible repeat (first | refine blk_drewN ?_ _ | refine blk_drew ?_ | refine blk_alloc ?_ _)); exact BK354.out) hb); have n3_ := Aside0.mk (blk_below (g := gb358) (o := .cells #[.slice Ao17 t355.length co17] 30 (0, 0)) (by (with_reducible repeat (first | refine blk_drewN ?_ _ | refine blk_drew ?_ | refine blk_alloc ?_ _)); exact BK358.out) hb); have n4_ := Aside0.mk (below_step (by repeat (first | (with_reducible first | exact HB.out | apply below_alloc | apply pw_below_drewN | apply below_drew1 | refine below_set ?_ GE354.out | refine below_set ?_ GE358.out) | exact HB.out)) hb); clear HO353; clear HO357; clear BK354; clear BK358; clear HB; have HO353 := n0_; have HO357 := n1_; have BK354 := n2_; have BK358 := n3_; have HB := n4_; clear n0_ n1_ n2_ n3_ n4_; (try clear hb); (try clear hb2); (try clear hk); (try clear hi)))
            go_meet
            case rel => exact ⟨_, (true), (by first | rfl | (simp; done) | (simp [*]; done)), H', ⟨by have := HJ2.out; first | omega | exact Nat.le_refl _⟩, ⟨by (with_reducible repeat (first | apply Kd.N_alloc | apply Kd.N_drewN | apply Kd.N_drew)); exact Kd.N_mono HO353.out (fun _ hk => ⟨hk.1.2, ⟨hk.1.1.2, hk.2⟩⟩)⟩, ⟨by (with_reducible repeat (first | apply Kd.N_alloc | apply Kd.N_drewN | apply Kd.N_drew)); exact Kd.N_mono HO357.out (fun _ hk => ⟨hk.1.1, ⟨hk.1.2, hk.2⟩⟩)⟩, ⟨by (with_reducible repeat (first | refine blk_drewN ?_ _ | refine blk_drew ?_ | refine blk_alloc ?_ _)); exact BK354.out⟩, ⟨by (with_reducible repeat (first | refine blk_drewN ?_ _ | refine blk_drew ?_ | refine blk_alloc ?_ _)); exact BK358.out⟩, ⟨by repeat (first | (with_reducible first | exact HB.out | apply below_alloc | apply pw_below_drewN | apply below_drew1 | refine below_set ?_ GE354.out | refine below_set ?_ GE358.out) | exact HB.out)⟩⟩
        case rest =>
          clear HC10
          try clear c1
          try clear c2
          try clear p2
          try clear c3
          try clear c4
          try clear c4b0
          try clear c4b1
          try clear c5
          try clear c7
          try clear c18
          try clear c22
          try clear c23
          try clear c24
          try clear c25
          try clear c25b0
          try clear c25b1
          try clear c27
          try clear c27b0
          try clear c27b1
          try clear c29
          try clear c31
          try clear c40
          try clear c47
          try clear c52
          try clear hcz14_0
          try clear hcz19_0
          try clear hcz20_0
          try clear hcz22_0
          try clear hcz32_0
          try clear hcz34_0
          try clear hcz36_0
          try clear hcz38_0
          try clear hcz41_0
          try clear hcz43_0
          try clear hcz45_0
          try clear hcz48_0
          try clear hcz50_0
          try clear hcz53_0
          try clear hfz14_0
          try clear hfz19_0
          try clear hfz20_0
          try clear hfz22_0
          try clear hfz32_0
          try clear hfz34_0
          try clear hfz36_0
          try clear hfz38_0
          try clear hfz41_0
          try clear hfz43_0
          try clear hfz45_0
          try clear hfz48_0
          try clear hfz50_0
          try clear hfz53_0
          try clear p2
          obtain ⟨kq, x44_9, rfl, HA, HJ9, HO_355000, HO_359000, BK354, BK358, HB⟩ := hcut
          cases kq with
          | zero => exact absurd HA.out (by simp [laws_FnTypeText.j1])
          | succ kj9 =>
            have H := HA.out
            clear HA
            simp only [laws_FnTypeText.j1] at H
            by_cases c55 : x44_9 = true
            · subst c55
              have H1 : ((spec_TypeText.f kj9 t351).bind fun t365 => (if t359.toList = t365.toList then ((spec_TypeText.f kj9 t355).bind fun t366 => (some (t360.toList == t366.toList))) else (some false))) = some r := by rw [if_pos rfl] at H; exact H
              clear H
              have H := H1
              clear H1
              replace H := Option.bind_eq_some_iff.mp H
              obtain ⟨t365, A560, H⟩ := H
              replace H : (if t359.toList = t365.toList then ((spec_TypeText.f kj9 t355).bind fun t366 => (some (t360.toList == t366.toList))) else (some false)) = some r := H
              have A56 := Aside0.mk A560
              clear A560
              by_cases c57 : t359.toList = t365.toList
              · rw [if_pos c57] at H
                have c57b0 : (t359.toList == t365.toList) = true := beq_iff_eq.mpr c57
                have c57b1 : (t359.toList != t365.toList) = false := bne_eq_false_iff_eq.mpr c57
                clear c57
                replace H := Option.bind_eq_some_iff.mp H
                obtain ⟨t366, A580, H⟩ := H
                replace H : (some (t360.toList == t366.toList)) = some r := H
                have A58 := Aside0.mk A580
                clear A580
                clear hr_
                obtain rfl := Option.some.inj H
                have hnb59 := NB354_358.out
                have hnc59 := NB358_354.out
                have hcz60_0 : wc.cell? ⟨gb354, 0, none⟩ = some (.slice Ao13 t351.length co13) := (blk_cell BK354.out 0).trans rfl
                have hfz60_0 := blk_frozen BK354.out 0
                go_wp2_with (first | ((with_reducible refine gate_callee (f := 22) rfl ?_); refine goesL_ (some 47) rfl rfl Try.func22 (by kernel_rfl) rfl #[.agg #[.slice Ao13 t351.length co13]] rfl (by (try simp only [List.map_toArray, List.map_cons, List.map_nil]); first | done | rfl | (simp only [List.length_drop, List.length_take]; rfl)) ?_; (with_reducible refine (spec_TypeText.calls kj9 _ _ t351 t365 _ ?side1 ?side2 A56.out).mono ?_); (case side1 => repeat (first | exact (Kd.N_reads' HO_355000.out).2.2 | (with_reducible refine Kd.C_alloc ?_ _) | (with_reducible refine Kd.C_drewN ?_ _) | (with_reducible refine Kd.C_drew ?_))); (case side2 => exact (Kd.N_reads' HO_355000.out).2.1); rintro e w61 ⟨rfl, hb⟩; refine ⟨_, rfl, ?_⟩; have n0_ := Aside0.mk (Kd.N_below (by (with_reducible repeat (first | apply Kd.N_alloc | apply Kd.N_drewN | apply Kd.N_drew)); exact HO_355000.out) hb); have n1_ := Aside0.mk (Kd.N_below (by (with_reducible repeat (first | apply Kd.N_alloc | apply Kd.N_drewN | apply Kd.N_drew)); exact HO_359000.out) hb); have n2_ := Aside0.mk (blk_below (g := gb354) (o := .cells #[.slice Ao13 t351.length co13] 30 (0, 0)) (by (with_reducible repeat (first | refine blk_drewN ?_ _ | refine blk_drew ?_ | refine blk_alloc ?_ _)); exact BK354.out) hb); have n3_ := Aside0.mk (blk_below (g := gb358) (o := .cells #[.slice Ao17 t355.length co17] 30 (0, 0)) (by (with_reducible repeat (first | refine blk_drewN ?_ _ | refine blk_drew ?_ | refine blk_alloc ?_ _)); exact BK358.out) hb); have n4_ := Aside0.mk (below_step (by repeat (first | (with_reducible first | exact HB.out | apply below_alloc | apply pw_below_drewN | apply below_drew1 | refine below_set ?_ GE354.out | refine below_set ?_ GE358.out) | exact HB.out)) hb); clear HO_355000; clear HO_359000; clear BK354; clear BK358; clear HB; have HO_355000 := n0_; have HO_359000 := n1_; have BK354 := n2_; have BK358 := n3_; have HB := n4_; clear n0_ n1_ n2_ n3_ n4_; (try clear hb); (try clear hb2); (try clear hk); (try clear hi); have hcz62_0 : w61.cell? ⟨gb358, 0, none⟩ = some (.slice Ao17 t355.length co17) := (blk_cell BK358.out 0).trans rfl; have hfz62_0 := blk_frozen BK358.out 0) | (go_at_call 22; (with_reducible refine (spec_TypeText.calls kj9 _ _ t355 t366 _ ?side1 ?side2 A58.out).mono ?_); (case side1 => repeat (first | exact (Kd.N_reads' HO_359000.out).2.2 | (with_reducible refine Kd.C_alloc ?_ _) | (with_reducible refine Kd.C_drewN ?_ _) | (with_reducible refine Kd.C_drew ?_))); (case side2 => exact (Kd.N_reads' HO_359000.out).2.1); rintro e w63 ⟨rfl, hb⟩; have n0_ := Aside0.mk (Kd.N_below (by (with_reducible repeat (first | apply Kd.N_alloc | apply Kd.N_drewN | apply Kd.N_drew)); exact HO_355000.out) hb); have n1_ := Aside0.mk (Kd.N_below (by (with_reducible repeat (first | apply Kd.N_alloc | apply Kd.N_drewN | apply Kd.N_drew)); exact HO_359000.out) hb); have n2_ := Aside0.mk (blk_below (g := gb354) (o := .cells #[.slice Ao13 t351.length co13] 30 (0, 0)) (by (with_reducible repeat (first | refine blk_drewN ?_ _ | refine blk_drew ?_ | refine blk_alloc ?_ _)); exact BK354.out) hb); have n3_ := Aside0.mk (blk_below (g := gb358) (o := .cells #[.slice Ao17 t355.length co17] 30 (0, 0)) (by (with_reducible repeat (first | refine blk_drewN ?_ _ | refine blk_drew ?_ | refine blk_alloc ?_ _)); exact BK358.out) hb); have n4_ := Aside0.mk (below_step (by repeat (first | (with_reducible first | exact HB.out | apply below_alloc | apply pw_below_drewN | apply below_drew1 | refine below_set ?_ GE354.out | refine below_set ?_ GE358.out) | exact HB.out)) hb); clear HO_355000; clear HO_359000; clear BK354; clear BK358; clear HB; have HO_355000 := n0_; have HO_359000 := n1_; have BK354 := n2_; have BK358 := n3_; have HB := n4_; clear n0_ n1_ n2_ n3_ n4_; (try clear hb); (try clear hb2); (try clear hk); (try clear hi)))
                go_ret
                exact ⟨by first | rfl | (simp [errW_none, errW_some] <;> rfl) | (simp [*, errW_none, errW_some] <;> rfl), by repeat (first | (with_reducible first | exact HB.out | apply below_alloc | apply pw_below_drewN | apply below_drew1 | refine below_set ?_ GE354.out | refine below_set ?_ GE358.out) | exact HB.out)⟩
              · rw [if_neg c57] at H
                have c57b0 : (t359.toList == t365.toList) = false := beq_eq_false_iff_ne.mpr c57
                have c57b1 : (t359.toList != t365.toList) = true := bne_iff_ne.mpr c57
                exact absurd ((Option.some.inj H).trans hr_.out) (by decide)
            · replace c55 := Bool.eq_false_iff.mpr c55
              subst c55
              have H1 : ((laws_lhType.f kj9 t351 t355).bind fun t367 => (if ((t359.toList == t360.toList) == t367) = true then (some (decide ((t359.size : Int) > 0))) else (some false))) = some r := by rw [if_neg (show ¬ (false = true) by decide)] at H; exact H
              clear H
              have H := H1
              clear H1
              replace H := Option.bind_eq_some_iff.mp H
              obtain ⟨t367, A640, H⟩ := H
              replace H : (if ((t359.toList == t360.toList) == t367) = true then (some (decide ((t359.size : Int) > 0))) else (some false)) = some r := H
              have A64 := Aside0.mk A640
              clear A640
              by_cases c65 : ((t359.toList == t360.toList) == t367) = true
              · rw [if_pos c65] at H
                have c65b0 : ((t359.toList == t360.toList) == t367) = true := c65
                (try (have c65b1 : decide ((t359.toList == t360.toList) = t367) = true := by simpa using c65))
                (try (have c65b2 : ((t359.toList == t360.toList) == t367) = true := by simpa using c65))
                clear c65
                clear hr_
                obtain rfl := Option.some.inj H
                have hnb66 := NB354_358.out
                have hnc66 := NB358_354.out
                have hcz67_0 : wc.cell? ⟨gb354, 0, none⟩ = some (.slice Ao13 t351.length co13) := (blk_cell BK354.out 0).trans rfl
                have hfz67_0 := blk_frozen BK354.out 0
                have hcz68_0 : wc.cell? ⟨gb358, 0, none⟩ = some (.slice Ao17 t355.length co17) := (blk_cell BK358.out 0).trans rfl
                have hfz68_0 := blk_frozen BK358.out 0
                go_wp2_with (first | ((with_reducible refine gate_callee (f := 25) rfl ?_); refine goesL_ (some 60) rfl rfl Try.func25 (by kernel_rfl) rfl #[.agg #[.slice Ao13 t351.length co13], .agg #[.slice Ao17 t355.length co17]] rfl (by (try simp only [List.map_toArray, List.map_cons, List.map_nil]); first | done | rfl | (simp only [List.length_drop, List.length_take]; rfl)) ?_; (with_reducible refine (laws_lhType.calls kj9 _ _ t351 _ _ t355 t367 _ ?side1 ?side2 ?side3 ?side4 A64.out).mono ?_); (case side1 => repeat (first | exact (Kd.N_reads' HO_355000.out).2.2 | (with_reducible refine Kd.C_alloc ?_ _) | (with_reducible refine Kd.C_drewN ?_ _) | (with_reducible refine Kd.C_drew ?_))); (case side2 => exact (Kd.N_reads' HO_355000.out).2.1); (case side3 => repeat (first | exact (Kd.N_reads' HO_359000.out).2.2 | (with_reducible refine Kd.C_alloc ?_ _) | (with_reducible refine Kd.C_drewN ?_ _) | (with_reducible refine Kd.C_drew ?_))); (case side4 => exact (Kd.N_reads' HO_359000.out).2.1); rintro e w69 ⟨rfl, hb⟩; refine ⟨_, rfl, ?_⟩; have n0_ := Aside0.mk (Kd.N_below (by (with_reducible repeat (first | apply Kd.N_alloc | apply Kd.N_drewN | apply Kd.N_drew)); exact HO_355000.out) hb); have n1_ := Aside0.mk (Kd.N_below (by (with_reducible repeat (first | apply Kd.N_alloc | apply Kd.N_drewN | apply Kd.N_drew)); exact HO_359000.out) hb); have n2_ := Aside0.mk (blk_below (g := gb354) (o := .cells #[.slice Ao13 t351.length co13] 30 (0, 0)) (by (with_reducible repeat (first | refine blk_drewN ?_ _ | refine blk_drew ?_ | refine blk_alloc ?_ _)); exact BK354.out) hb); have n3_ := Aside0.mk (blk_below (g := gb358) (o := .cells #[.slice Ao17 t355.length co17] 30 (0, 0)) (by (with_reducible repeat (first | refine blk_drewN ?_ _ | refine blk_drew ?_ | refine blk_alloc ?_ _)); exact BK358.out) hb); have n4_ := Aside0.mk (below_step (by repeat (first | (with_reducible first | exact HB.out | apply below_alloc | apply pw_below_drewN | apply below_drew1 | refine below_set ?_ GE354.out | refine below_set ?_ GE358.out) | exact HB.out)) hb); clear HO_355000; clear HO_359000; clear BK354; clear BK358; clear HB; have HO_355000 := n0_; have HO_359000 := n1_; have BK354 := n2_; have BK358 := n3_; have HB := n4_; clear n0_ n1_ n2_ n3_ n4_; (try clear hb); (try clear hb2); (try clear hk); (try clear hi)))
                go_ret
                exact ⟨by first | rfl | (simp [errW_none, errW_some] <;> rfl) | (simp [*, errW_none, errW_some] <;> rfl), by repeat (first | (with_reducible first | exact HB.out | apply below_alloc | apply pw_below_drewN | apply below_drew1 | refine below_set ?_ GE354.out | refine below_set ?_ GE358.out) | exact HB.out)⟩
              · rw [if_neg c65] at H
                have c65b0 : ((t359.toList == t360.toList) == t367) = false := by simpa using c65
                (try (have c65b1 : decide ((t359.toList == t360.toList) = t367) = false := by simpa using c65))
                (try (have c65b2 : ((t359.toList == t360.toList) == t367) = false := by simpa using c65))
                (try (have c65b3 : ¬ ((t359.toList == t360.toList) = t367) := by simpa using c65))
                clear c65
                exact absurd ((Option.some.inj H).trans hr_.out) (by decide)

/-- THE ONE PURE STATEMENT of laws_FnTypeText: yours. -/
def laws_FnTypeText.Pure : Prop := ∀ (l0 : List Int) (l1 : List Int), l0.length ≤ maxLen → l0.length * 1 ≤ 140737488351232 → (∀ x ∈ l0, (Lit.int .u8 x).wf = true) → l1.length ≤ maxLen → l1.length * 1 ≤ 140737488351232 → (∀ x ∈ l1, (Lit.int .u8 x).wf = true) → ∃ k, laws_FnTypeText.f k l0 l1 = some true
theorem laws_FnTypeText.walk (P : laws_FnTypeText.Pure) (a0 : Option Addr) (len0 cap0 : Nat) (z0 : List Int) (a1 : Option Addr) (len1 cap1 : Nat) (z1 : List Int) (w : World) (w0 : (a0 = none ∧ len0 = 0 ∧ cap0 = 0 ∧ z0 = []) ∨ ∃ x, a0 = some x ∧ len0 ≤ cap0 ∧ cap0 ≤ maxLen ∧ z0.length = cap0 ∧ (∀ i, i < z0.length → w.cell? (x.add i) = some (.int .u8 (z0.getD i 0))) ∧ ∀ n ∈ z0, (Lit.int .u8 n).wf = true) (y0 : len0 * 1 ≤ 140737488351232) (w1 : (a1 = none ∧ len1 = 0 ∧ cap1 = 0 ∧ z1 = []) ∨ ∃ x, a1 = some x ∧ len1 ≤ cap1 ∧ cap1 ≤ maxLen ∧ z1.length = cap1 ∧ (∀ i, i < z1.length → w.cell? (x.add i) = some (.int .u8 (z1.getD i 0))) ∧ ∀ n ∈ z1, (Lit.int .u8 n).wf = true) (y1 : len1 * 1 ≤ 140737488351232) :
    Calls Try.prog 7 #[.slice a0 len0 cap0, .slice a1 len1 cap1] w fun e w' => e = .returned (.bool true) ∧ Below w.heap.size w w' := by
  obtain ⟨l0, rfl, hr0, hm0, hw0, hc0⟩ := ReadsInt.ofRowC w0
  obtain ⟨l1, rfl, hr1, hm1, hw1, hc1⟩ := ReadsInt.ofRowC w1
  obtain ⟨k, h⟩ := P l0 l1 hm0 y0 hw0 hm1 y1 hw1
  refine (laws_FnTypeText.calls k _ _ l0 _ _ l1 true w (Kd.C_of_reads (d := (0 : Int)) (h1 := fun _ => rfl) hr0) hc0 (Kd.C_of_reads (d := (0 : Int)) (h1 := fun _ => rfl) hr1) hc1 h ⟨rfl⟩).mono ?_
  rintro e w' ⟨rfl, hd⟩
  exact ⟨rfl, hd⟩

end Go.Proofs.Ytjhbhihfifhljaa.PA
