-- Written by this session's own program (hfprint) out of the translation. Not trusted: Lean checks it.
import Derived.Test.YtjhbhihfifhljaaPAz
import Derived.Test.YtjhbhihfifhljaaPAx22
import Derived.Test.YtjhbhihfifhljaaPAx31
import Derived.Test.YtjhbhihfifhljaaPAx57
import Derived.Test.YtjhbhihfifhljaaPAx59
namespace Go.Proofs.Ytjhbhihfifhljaa.PA
open Go.RowKit Go.Proofs.YtjhbhihfifhljaaW.PrintWords Go.Proofs.YtjhbhihfifhljaaW.PrintLast Go.Proofs.YtjhbhihfifhljaaW.PrintMore
attribute [local go_sem] max2_int min2_int max_two min_two max_three min_three max_four min_four   -- for this text's walks alone
set_option linter.unusedVariables false
set_option linter.unusedSimpArgs false

/-! ### laws_FnTypeAt: function 10 -/
mutual
def laws_FnTypeAt.j0 : Nat → List Int → List Int → Bool → Option (Bool)
 | 0, _, _, _ => none
 | k + 1, x0, x1, x23 => if x23 = true then (some true) else ((spec_DrawTypeAt.f k x0).bind fun bt595 => ((spec_TypeAt.f k bt595.1 bt595.2).bind fun bt602 => ((impl_TypeAt.f k bt595.1 bt595.2).bind fun bt607 => (if (bt607.2 != bt602.2) = true then (laws_FnTypeAt.j1 k x1 bt595.2 bt602.2 bt607.2 true bt595.1 bt602.1 bt607.1) else ((laws_lhType.f k bt607.1 bt602.1).bind fun t612 => (if t612 = true then (laws_FnTypeAt.j1 k x1 bt595.2 bt602.2 bt607.2 (!bt607.2) bt595.1 bt602.1 bt607.1) else (laws_FnTypeAt.j1 k x1 bt595.2 bt602.2 bt607.2 true bt595.1 bt602.1 bt607.1)))))))
def laws_FnTypeAt.j1 : Nat → List Int → List Int → Bool → Bool → Bool → List (S30) → List (S30) → List (S30) → Option (Bool)
 | 0, _, _, _, _, _, _, _, _ => none
 | k + 1, x1, x6, x8, x10, x53, x602000, x607000, x612000 => if x53 = true then (if (x10 == x8) = true then ((laws_lhType.f k x612000 x607000).bind fun t613 => (some t613)) else (some false)) else (if (wrap64 ((x6.length : Int) + 1)) = 0 then (none) else (if 0 ≤ ((x1.length : Int) % (wrap64 ((x6.length : Int) + 1))) then (if ((x1.length : Int) % (wrap64 ((x6.length : Int) + 1))) ≤ (x6.length : Int) then ((impl_TypeAt.f k x602000 (x6.take (((x1.length : Int) % (wrap64 ((x6.length : Int) + 1))) : Int).toNat)).bind fun bt619 => ((impl_TypeAt.f k bt619.1 (x6.drop (((x1.length : Int) % (wrap64 ((x6.length : Int) + 1))) : Int).toNat)).bind fun bt629 => (if bt619.2 = true then (if bt629.2 = true then ((laws_lhType.f k bt629.1 x612000).bind fun t634 => (some t634)) else (some false)) else (some false)))) else (none)) else (none)))
end
def laws_FnTypeAt.f (k : Nat) (l0 : List Int) (l1 : List Int) : Option (Bool) := if (l0.length : Int) > 1048576 then (laws_FnTypeAt.j0 k l0 l1 true) else (laws_FnTypeAt.j0 k l0 l1 (decide ((l1.length : Int) > 1048576)))
theorem laws_FnTypeAt.mono_l : ∀ k, (∀ y0 y1 y2, LeO (laws_FnTypeAt.j0 k y0 y1 y2) (laws_FnTypeAt.j0 (k + 1) y0 y1 y2)) ∧ (∀ y0 y1 y2 y3 y4 y5 y6 y7, LeO (laws_FnTypeAt.j1 k y0 y1 y2 y3 y4 y5 y6 y7) (laws_FnTypeAt.j1 (k + 1) y0 y1 y2 y3 y4 y5 y6 y7))
 | 0 => ⟨fun _ _ _ r h => by simp [laws_FnTypeAt.j0] at h, fun _ _ _ _ _ _ _ _ r h => by simp [laws_FnTypeAt.j1] at h⟩
 | k + 1 => by
  obtain ⟨ih0, ih1⟩ := laws_FnTypeAt.mono_l k
  refine ⟨?_, ?_⟩
  ·intro y0 y1 y2
   unfold laws_FnTypeAt.j0
   repeat' first
   | (with_reducible exact ih0 _ _ _)
   | (with_reducible exact ih1 _ _ _ _ _ _ _ _)
   | (with_reducible exact impl_TypeAt.mono _ _ _)
   | (with_reducible exact laws_lhType.mono _ _ _)
   | (with_reducible exact spec_DrawTypeAt.mono _ _)
   | (with_reducible exact spec_TypeAt.mono _ _ _)
   | (with_reducible exact LeO.refl _)
   | (with_reducible exact LeO.none _)
   | (with_reducible refine LeO.ite ?_ ?_)
   | (with_reducible refine LeO.bind ?_ (fun _ => ?_))
   | exact ih0 _ _ _
   | exact ih1 _ _ _ _ _ _ _ _
   | exact impl_TypeAt.mono _ _ _
   | exact laws_lhType.mono _ _ _
   | exact spec_DrawTypeAt.mono _ _
   | exact spec_TypeAt.mono _ _ _
   | exact LeO.none _
   | refine LeO.ite ?_ ?_
   | refine LeO.bind ?_ (fun _ => ?_)
  ·intro y0 y1 y2 y3 y4 y5 y6 y7
   unfold laws_FnTypeAt.j1
   repeat' first
   | (with_reducible exact ih0 _ _ _)
   | (with_reducible exact ih1 _ _ _ _ _ _ _ _)
   | (with_reducible exact impl_TypeAt.mono _ _ _)
   | (with_reducible exact laws_lhType.mono _ _ _)
   | (with_reducible exact spec_DrawTypeAt.mono _ _)
   | (with_reducible exact spec_TypeAt.mono _ _ _)
   | (with_reducible exact LeO.refl _)
   | (with_reducible exact LeO.none _)
   | (with_reducible refine LeO.ite ?_ ?_)
   | (with_reducible refine LeO.bind ?_ (fun _ => ?_))
   | exact ih0 _ _ _
   | exact ih1 _ _ _ _ _ _ _ _
   | exact impl_TypeAt.mono _ _ _
   | exact laws_lhType.mono _ _ _
   | exact spec_DrawTypeAt.mono _ _
   | exact spec_TypeAt.mono _ _ _
   | exact LeO.none _
   | refine LeO.ite ?_ ?_
   | refine LeO.bind ?_ (fun _ => ?_)
theorem laws_FnTypeAt.mono : ∀ a0 a1 k, LeO (laws_FnTypeAt.f k a0 a1) (laws_FnTypeAt.f (k + 1) a0 a1) := by
 intro a0 a1 k
 obtain ⟨ih0, ih1⟩ := laws_FnTypeAt.mono_l k
 unfold laws_FnTypeAt.f
 repeat' first
   | (with_reducible exact ih0 _ _ _)
   | (with_reducible exact ih1 _ _ _ _ _ _ _ _)
   | (with_reducible exact impl_TypeAt.mono _ _ _)
   | (with_reducible exact laws_lhType.mono _ _ _)
   | (with_reducible exact spec_DrawTypeAt.mono _ _)
   | (with_reducible exact spec_TypeAt.mono _ _ _)
   | (with_reducible exact LeO.refl _)
   | (with_reducible exact LeO.none _)
   | (with_reducible refine LeO.ite ?_ ?_)
   | (with_reducible refine LeO.bind ?_ (fun _ => ?_))
   | exact ih0 _ _ _
   | exact ih1 _ _ _ _ _ _ _ _
   | exact impl_TypeAt.mono _ _ _
   | exact laws_lhType.mono _ _ _
   | exact spec_DrawTypeAt.mono _ _
   | exact spec_TypeAt.mono _ _ _
   | exact LeO.none _
   | refine LeO.ite ?_ ?_
   | refine LeO.bind ?_ (fun _ => ?_)
def laws_FnTypeAt.T9 : Bool × List (List Nat × List Nat) := (true, [([], []), ([], []), ([], []), ([1, 2], [1, 2]), ([0, 3], [0, 3]), ([4], [4]), ([5], [5]), ([5], [5]), ([], []), ([8, 6, 4, 0, 1, 2, 3, 4, 5, 6, 8], [6, 8]), ([7, 9, 0, 1, 2, 3, 4, 5, 6, 7, 8, 9], [7])])
def laws_FnTypeAt.B9 : List Nat := [0, 0, 0, 6, 15, 31, 63, 63, 0, 383, 1023]
theorem laws_FnTypeAt.tab9 : rtab .any (opsOf Try.f10 9) = laws_FnTypeAt.T9 := by kernel_rfl
theorem laws_FnTypeAt.bits9 : waitsOk laws_FnTypeAt.T9.2 laws_FnTypeAt.B9 = true := by kernel_rfl
def laws_FnTypeAt.T10 : Bool × List (List Nat × List Nat) := (true, [([], []), ([], []), ([], []), ([1, 2], [1, 2]), ([0, 3], [0, 3]), ([4], [4]), ([5], [5]), ([5], [5]), ([], []), ([8, 6, 4, 0, 1, 2, 3, 4, 5, 6, 8], [6, 8]), ([7, 9, 0, 1, 2, 3, 4, 5, 6, 7, 8, 9], [7])])
def laws_FnTypeAt.B10 : List Nat := [0, 0, 0, 6, 15, 31, 63, 63, 0, 383, 1023]
theorem laws_FnTypeAt.tab10 : rtab .any (opsOf Try.f10 10) = laws_FnTypeAt.T10 := by kernel_rfl
theorem laws_FnTypeAt.bits10 : waitsOk laws_FnTypeAt.T10.2 laws_FnTypeAt.B10 = true := by kernel_rfl
set_option maxHeartbeats 8000000 in
set_option maxRecDepth 100000 in
theorem laws_FnTypeAt.calls (k : Nat) (A0 : Option Addr) (c0 : Nat) (l0 : List Int) (A1 : Option Addr) (c1 : Nat) (l1 : List Int) (r : Bool) (w : World) (hr0 : Kd.C (Kd.int .u8) w A0 l0.length l0) (hc0 : l0.length ≤ c0) (hr1 : Kd.C (Kd.int .u8) w A1 l1.length l1) (hc1 : l1.length ≤ c1) (h : laws_FnTypeAt.f k l0 l1 = some r) (hr_ : Aside0 (r = true)) :
  Calls Try.prog 10 #[.slice A0 l0.length c0, .slice A1 l1.length c1] w fun e w' => e = .returned (.bool r) ∧ Below w.heap.size w w' := by
 have hu30 := Try.underlying30
 have HR0 := Aside0.mk hr0
 have HC0 := Aside0.mk hc0
 clear hr0 hc0
 have HR1 := Aside0.mk hr1
 have HC1 := Aside0.mk hc1
 clear hr1 hc1
 have HB := Aside0.mk (Below.refl w.heap.size w)
 have H : (if (l0.length : Int) > 1048576 then (laws_FnTypeAt.j0 k l0 l1 true) else (laws_FnTypeAt.j0 k l0 l1 (decide ((l1.length : Int) > 1048576)))) = some r := h
 clear h
 have HC3 := Aside0.mk H
 clear H
 go_enter Try.func10, Try.ntmps10
 go_upto_region 1 with (fail)
 go_cut [23] (fun v23 wc => ∃ (kq : Nat) (x23_2 : Bool), v23 = .bool x23_2 ∧ Aside0 (laws_FnTypeAt.j0 kq l0 l1 x23_2 = some r) ∧ Aside0 (kq ≤ k) ∧ Aside0 (Below w.heap.size w wc))
 case first =>
  have H := HC3.out
  clear HC3
  by_cases c4 : (l0.length : Int) > 1048576
  ·rw [if_pos c4] at H
   have c4b0 : decide (1048576 < (l0.length : Int)) = true := decide_eq_true c4
   have c4b1 : decide (1048576 < l0.length) = true := decide_eq_true (by omega)
   clear c4
   (first | rw [c4b0] | (simp only [i64_w, i32_w]; rw [c4b0]) | skip)
   have H' := Aside0.mk H
   clear H
   go_wp2
   go_meet
   case rel => exact ⟨_, (true), (by first | rfl | (simp; done) | (simp [*]; done)), H', ⟨by first | omega | exact Nat.le_refl _⟩, ⟨by repeat (first | (with_reducible first | exact HB.out | apply below_alloc | apply pw_below_drewN | apply below_drew1) | exact HB.out)⟩⟩
  ·rw [if_neg c4] at H
   have c4b0 : decide (1048576 < (l0.length : Int)) = false := decide_eq_false c4
   have c4b1 : decide (1048576 < l0.length) = false := decide_eq_false (by omega)
   clear c4
   (first | rw [c4b0] | (simp only [i64_w, i32_w]; rw [c4b0]) | skip)
   have H' := Aside0.mk H
   clear H
   go_wp2
   go_meet
   case rel => exact ⟨_, (decide ((l1.length : Int) > 1048576)), (by first | rfl | (simp; done) | (simp [*]; done)), H', ⟨by first | omega | exact Nat.le_refl _⟩, ⟨by repeat (first | (with_reducible first | exact HB.out | apply below_alloc | apply pw_below_drewN | apply below_drew1) | exact HB.out)⟩⟩
 case rest =>
  clear HC3
  try clear c1
  try clear p2
  try clear c4
  try clear c4b0
  try clear c4b1
  obtain ⟨kq, x23_2, rfl, HA, HJ2, HB⟩ := hcut
  cases kq with
  | zero => exact absurd HA.out (by simp [laws_FnTypeAt.j0])
  | succ kj2 =>
   have H := HA.out
   clear HA
   simp only [laws_FnTypeAt.j0] at H
   by_cases c5 : x23_2 = true
   ·subst c5
    have H1 : (some true) = some r := by rw [if_pos rfl] at H; exact H
    clear H
    have H := H1
    clear H1
    clear hr_
    obtain rfl := Option.some.inj H
    go_wp2
    go_ret
    exact ⟨by first | rfl | (simp [errW_none, errW_some] <;> rfl) | (simp [*, errW_none, errW_some] <;> rfl), by repeat (first | (with_reducible first | exact HB.out | apply below_alloc | apply pw_below_drewN | apply below_drew1) | exact HB.out)⟩
   ·replace c5 := Bool.eq_false_iff.mpr c5
    subst c5
    have H1 : ((spec_DrawTypeAt.f kj2 l0).bind fun bt595 => ((spec_TypeAt.f kj2 bt595.1 bt595.2).bind fun bt602 => ((impl_TypeAt.f kj2 bt595.1 bt595.2).bind fun bt607 => (if (bt607.2 != bt602.2) = true then (laws_FnTypeAt.j1 kj2 l1 bt595.2 bt602.2 bt607.2 true bt595.1 bt602.1 bt607.1) else ((laws_lhType.f kj2 bt607.1 bt602.1).bind fun t612 => (if t612 = true then (laws_FnTypeAt.j1 kj2 l1 bt595.2 bt602.2 bt607.2 (!bt607.2) bt595.1 bt602.1 bt607.1) else (laws_FnTypeAt.j1 kj2 l1 bt595.2 bt602.2 bt607.2 true bt595.1 bt602.1 bt607.1))))))) = some r := by rw [if_neg (show ¬ (false = true) by decide)] at H; exact H
    clear H
    have H := H1
    clear H1
    replace H := Option.bind_eq_some_iff.mp H
    obtain ⟨⟨t595, t598⟩, A60, H⟩ := H
    replace H : ((spec_TypeAt.f kj2 t595 t598).bind fun bt602 => ((impl_TypeAt.f kj2 t595 t598).bind fun bt607 => (if (bt607.2 != bt602.2) = true then (laws_FnTypeAt.j1 kj2 l1 t598 bt602.2 bt607.2 true t595 bt602.1 bt607.1) else ((laws_lhType.f kj2 bt607.1 bt602.1).bind fun t612 => (if t612 = true then (laws_FnTypeAt.j1 kj2 l1 t598 bt602.2 bt607.2 (!bt607.2) t595 bt602.1 bt607.1) else (laws_FnTypeAt.j1 kj2 l1 t598 bt602.2 bt607.2 true t595 bt602.1 bt607.1)))))) = some r := H
    have A6 := Aside0.mk A60
    clear A60
    replace H := Option.bind_eq_some_iff.mp H
    obtain ⟨⟨t602, t605⟩, A70, H⟩ := H
    replace H : ((impl_TypeAt.f kj2 t595 t598).bind fun bt607 => (if (bt607.2 != t605) = true then (laws_FnTypeAt.j1 kj2 l1 t598 t605 bt607.2 true t595 t602 bt607.1) else ((laws_lhType.f kj2 bt607.1 t602).bind fun t612 => (if t612 = true then (laws_FnTypeAt.j1 kj2 l1 t598 t605 bt607.2 (!bt607.2) t595 t602 bt607.1) else (laws_FnTypeAt.j1 kj2 l1 t598 t605 bt607.2 true t595 t602 bt607.1))))) = some r := H
    have A7 := Aside0.mk A70
    clear A70
    replace H := Option.bind_eq_some_iff.mp H
    obtain ⟨⟨t607, t610⟩, A80, H⟩ := H
    replace H : (if (t610 != t605) = true then (laws_FnTypeAt.j1 kj2 l1 t598 t605 t610 true t595 t602 t607) else ((laws_lhType.f kj2 t607 t602).bind fun t612 => (if t612 = true then (laws_FnTypeAt.j1 kj2 l1 t598 t605 t610 (!t610) t595 t602 t607) else (laws_FnTypeAt.j1 kj2 l1 t598 t605 t610 true t595 t602 t607)))) = some r := H
    have A8 := Aside0.mk A80
    clear A80
    have HC9 := Aside0.mk H
    clear H
    go_upto_region 6 with (first | ((with_reducible refine gate_callee (f := 32) rfl ?_); refine goesL_ (some 26) rfl rfl Try.func32 (by kernel_rfl) rfl #[.slice A0 l0.length c0] rfl (by (try simp only [List.map_toArray, List.map_cons, List.map_nil]); first | done | rfl | (simp only [List.length_drop, List.length_take]; rfl)) ?_; (with_reducible refine (spec_DrawTypeAt.calls kj2 _ _ l0 t595 t598 _ ?side1 ?side2 A6.out).mono ?_); (case side1 => exact y6 HR0.out HB.out); (case side2 => exact HC0.out); rintro e w10 ⟨v596, v599, rfl, ho0, ho1, hb⟩; refine ⟨_, rfl, ?_⟩; have HO597 := Aside0.mk (Kd.N_lower (Kd.N_mono (ok' := fun k_ => some k_ ≠ (v599 : Value).ownBlock) ho0 (fun k_ hk_ => hk_.2)) (below_size (y0 HB.out))); have HO600 := Aside0.mk (Kd.R_lower ho1 (below_size (y0 HB.out))); replace HB := Aside0.mk (below_step (y0 HB.out) hb); (try clear hb); (try clear hb2); (try clear hk); (try clear hi); (try clear ho0); (try clear ho1)) | ((with_reducible refine gate_dst (N := 5) rfl ?_); (try (refine gate_guard (by rfl) ?_; dsimp only)); refine box_event ?hg (N := 5) ?hd (cs := #[.slice none 0 0]) (t := 30) ?hr ?_; (case hd => rfl); (case hg => rfl); (case hr => first | (go_simp; done) | (go_simp; rfl)); intro gb601 hg w11 hbox hb; have n0_ := Aside0.mk (Kd.N_below (Kd.N_elderB (y7 HO597.out) gb601 (Nat.le_of_eq hg.symm)) hb); have n1_ := Aside0.mk (Kd.R_below (y9 HO600.out) hb); have n2_ := Aside0.mk (below_step (y0 HB.out) hb); have n3_ := Aside0.mk (hbox); have n4_ := Aside0.mk ((y3 hg HB.out : w.heap.size ≤ gb601)); have n5_ := Aside0.mk ((y3 hg HB.out : w.heap.size ≤ gb601)); clear HO597; clear HO600; clear HB; have HO597 := n0_; have HO600 := n1_; have HB := n2_; have BK601 := n3_; have GW601 := n4_; have GE601 := n5_; clear n0_ n1_ n2_ n3_ n4_ n5_; clear hb hbox hg; obtain ⟨Ao12, co12, eo12⟩ := Kd.N_slice HO597.out; subst eo12; have hcz13_0 : w11.cell? ⟨gb601, 0, none⟩ = some (.slice none 0 0) := (blk_cell BK601.out 0).trans rfl; have hfz13_0 := blk_frozen BK601.out 0) | ((with_reducible refine gate_store (t := 30) (p := 5) rfl ?_); refine store_event (t := 30) (p := 5) (v := ?vo_w14) (w1 := (w11.setCell ⟨gb601, 0, none⟩ (.slice Ao12 t595.length co12))) ?hg ?ho ?hn ?hr ?_; (case ho => rfl); (case hg => rfl); (case hn => rfl); (case hr => first | (go_simp; done) | (go_simp; rfl)); intro w14 hw; have n0_ : Aside0 (Kd.N k30 30 w14 w.heap.size (fun k_ => some k_ ≠ (v599 : Value).ownBlock ∧ k_ ≠ gb601) (.slice Ao12 t595.length co12) t595) := ⟨(by rw [hw]; exact (by (with_reducible repeat (first | apply Kd.N_alloc | apply Kd.N_drewN | apply Kd.N_drew)); exact Kd.N_mono (Kd.N_far (p := ⟨gb601, 0, none⟩) (Kd.N_mono HO597.out (fun k_ hk => (⟨hk, hk.2⟩ : _ ∧ k_ ≠ gb601))) (fun _ hk => hk.2) (.slice Ao12 t595.length co12)) (fun _ hk => ⟨hk.1.1, hk.1.2⟩)))⟩; have n1_ : Aside0 (Kd.R (Kd.int .i64) 3 w14 w.heap.size (fun _ => True) v599 t598) := ⟨(by rw [hw]; exact (by (with_reducible repeat (first | apply Kd.R_alloc | apply Kd.R_drewN | apply Kd.R_drew)); exact Kd.R_mono (Kd.R_far (p := ⟨gb601, 0, none⟩) (Kd.R_types HO600.out BK601.out (by decide)) (fun _ hk => hk.2) (.slice Ao12 t595.length co12)) (fun _ hk => trivial)))⟩; have n2_ : Aside0 (w14.heap[gb601]? = some (.cells #[.slice Ao12 t595.length co12] 30 (0, 0))) := ⟨(by rw [hw]; exact (by (with_reducible repeat (first | refine blk_drewN ?_ _ | refine blk_drew ?_ | refine blk_alloc ?_ _)); refine blk_put (cs := #[.slice none 0 0]) ?_ 0 _ rfl; (with_reducible repeat (first | refine blk_drewN ?_ _ | refine blk_drew ?_ | refine blk_alloc ?_ _)); exact BK601.out))⟩; have n3_ : Aside0 (Below w.heap.size w w14) := ⟨(by rw [hw]; exact (y1 HB.out GE601.out))⟩; clear hw; clear HO597; clear HO600; clear BK601; clear HB; have HO597 := n0_; have HO600 := n1_; have BK601 := n2_; have HB := n3_; clear n0_ n1_ n2_ n3_; have hcz15_0 : w14.cell? ⟨gb601, 0, none⟩ = some (.slice Ao12 t595.length co12) := (blk_cell BK601.out 0).trans rfl; have hfz15_0 := blk_frozen BK601.out 0; obtain ⟨Ao16, co16, eo16⟩ := Kd.R_slice HO600.out; subst eo16) | ((with_reducible refine gate_callee (f := 33) rfl ?_); refine goesL_ (some 32) rfl rfl Try.func33 (by kernel_rfl) rfl #[.agg #[.slice Ao12 t595.length co12], .slice Ao16 t598.length co16] rfl (by (try simp only [List.map_toArray, List.map_cons, List.map_nil]); first | done | rfl | (simp only [List.length_drop, List.length_take]; rfl)) ?_; (with_reducible refine (spec_TypeAt.calls kj2 (fun k_ => (some k_ ≠ (.slice Ao16 t598.length co16 : Value).ownBlock ∧ k_ ≠ gb601)) _ _ t595 _ _ t598 t602 t605 _ ?side1 ?side2 ?side3 A7.out).mono ?_); (case side1 => exact Kd.N_V (HO597.out)); (case side2 => exact y25 HO600.out); (case side3 => exact (Kd.R_reads' HO600.out).2.1); rintro e w17 ⟨v603, rfl, ho0, hb⟩; refine ⟨_, rfl, ?_⟩; have n0_ := Aside0.mk (Kd.N_elder' (y7 HO597.out) (Kd.R_base ho0) hb); have n1_ := Aside0.mk (Kd.R_below (y9 HO600.out) hb); have n2_ := Aside0.mk (Kd.N_lower (Kd.N_mono (ok' := fun k_ => some k_ ≠ (.slice Ao16 t598.length co16 : Value).ownBlock ∧ k_ ≠ gb601) (Kd.R_N (Kd.R_bound ho0)) (fun k_ hk_ => ⟨(Kd.fresh' (Kd.R_lt (y9 HO600.out)) k_ hk_.2.1), (Kd.freshB (g := gb601) (o := .cells #[.slice Ao12 t595.length co12] 30 (0, 0)) (y4 BK601.out) k_ hk_.2.1)⟩)) (below_size (y1 HB.out GE601.out))); have n3_ := Aside0.mk (zbb BK601.out hb); have n4_ := Aside0.mk (below_step (y1 HB.out GE601.out) hb); clear HO597; clear HO600; clear BK601; clear HB; have HO597 := n0_; have HO600 := n1_; have HO604 := n2_; have BK601 := n3_; have HB := n4_; clear n0_ n1_ n2_ n3_ n4_; (try clear hb); (try clear hb2); (try clear hk); (try clear hi); (try clear ho0)) | ((with_reducible refine gate_dst (N := 7) rfl ?_); (try (refine gate_guard (by rfl) ?_; dsimp only)); refine box_event ?hg (N := 7) ?hd (cs := #[.slice none 0 0]) (t := 30) ?hr ?_; (case hd => rfl); (case hg => rfl); (case hr => first | (go_simp; done) | (go_simp; rfl)); intro gb606 hg w18 hbox hb; have n0_ := Aside0.mk (Kd.N_below (Kd.N_elderB (y7 HO597.out) gb606 (Nat.le_of_eq hg.symm)) hb); have n1_ := Aside0.mk (Kd.R_below (y9 HO600.out) hb); have n2_ := Aside0.mk (Kd.N_below (Kd.N_elderB (y7 HO604.out) gb606 (Nat.le_of_eq hg.symm)) hb); have n3_ := Aside0.mk (zbb BK601.out hb); have n4_ := Aside0.mk (below_step (y1 HB.out GE601.out) hb); have n5_ := Aside0.mk (hbox); have n6_ := Aside0.mk ((y5 hg HB.out GE601.out : w.heap.size ≤ gb606)); have n7_ := Aside0.mk ((y5 hg HB.out GE601.out : w.heap.size ≤ gb606)); have n8_ := Aside0.mk (zltn hg BK601.out); have n9_ := Aside0.mk (zgtn hg BK601.out); clear HO597; clear HO600; clear HO604; clear BK601; clear HB; have HO597 := n0_; have HO600 := n1_; have HO604 := n2_; have BK601 := n3_; have HB := n4_; have BK606 := n5_; have GW606 := n6_; have GE606 := n7_; have NB601_606 := n8_; have NB606_601 := n9_; clear n0_ n1_ n2_ n3_ n4_ n5_ n6_ n7_ n8_ n9_; clear hb hbox hg; obtain ⟨Ao19, co19, eo19⟩ := Kd.N_slice HO604.out; subst eo19; have hnb20 := NB606_601.out; have hnc20 := NB601_606.out; have hcz21_0 : w18.cell? ⟨gb606, 0, none⟩ = some (.slice none 0 0) := (blk_cell BK606.out 0).trans rfl; have hfz21_0 := blk_frozen BK606.out 0) | ((with_reducible refine gate_store (t := 30) (p := 7) rfl ?_); refine store_event (t := 30) (p := 7) (v := ?vo_w22) (w1 := (w18.setCell ⟨gb606, 0, none⟩ (.slice Ao19 t602.length co19))) ?hg ?ho ?hn ?hr ?_; (case ho => rfl); (case hg => rfl); (case hn => rfl); (case hr => first | (go_simp; done) | (go_simp; rfl)); intro w22 hw; have n0_ : Aside0 (Kd.N k30 30 w22 w.heap.size (fun k_ => some k_ ≠ (.slice Ao16 t598.length co16 : Value).ownBlock ∧ some k_ ≠ (.slice Ao19 t602.length co19 : Value).ownBlock ∧ k_ ≠ gb601 ∧ k_ ≠ gb606) (.slice Ao12 t595.length co12) t595) := ⟨(by rw [hw]; exact (by (with_reducible repeat (first | apply Kd.N_alloc | apply Kd.N_drewN | apply Kd.N_drew)); exact Kd.N_mono (Kd.N_far (p := ⟨gb606, 0, none⟩) (Kd.N_mono HO597.out (fun k_ hk => (⟨hk, hk.2⟩ : _ ∧ k_ ≠ gb606))) (fun _ hk => hk.2) (.slice Ao19 t602.length co19)) (fun _ hk => ⟨hk.1.1.1.1, ⟨hk.1.1.2, ⟨hk.1.1.1.2, hk.1.2⟩⟩⟩)))⟩; have n1_ : Aside0 (Kd.R (Kd.int .i64) 3 w22 w.heap.size (fun _ => True) (.slice Ao16 t598.length co16) t598) := ⟨(by rw [hw]; exact (by (with_reducible repeat (first | apply Kd.R_alloc | apply Kd.R_drewN | apply Kd.R_drew)); exact Kd.R_mono (Kd.R_far (p := ⟨gb606, 0, none⟩) (Kd.R_types HO600.out BK606.out (by decide)) (fun _ hk => hk.2) (.slice Ao19 t602.length co19)) (fun _ hk => trivial)))⟩; have n2_ : Aside0 (Kd.N k30 30 w22 w.heap.size (fun k_ => some k_ ≠ (.slice Ao16 t598.length co16 : Value).ownBlock ∧ k_ ≠ gb601 ∧ k_ ≠ gb606) (.slice Ao19 t602.length co19) t602) := ⟨(by rw [hw]; exact (by (with_reducible repeat (first | apply Kd.N_alloc | apply Kd.N_drewN | apply Kd.N_drew)); exact Kd.N_mono (Kd.N_far (p := ⟨gb606, 0, none⟩) (Kd.N_mono HO604.out (fun k_ hk => (⟨hk, hk.2⟩ : _ ∧ k_ ≠ gb606))) (fun _ hk => hk.2) (.slice Ao19 t602.length co19)) (fun _ hk => ⟨hk.1.1.1, ⟨hk.1.1.2, hk.1.2⟩⟩)))⟩; have n3_ : Aside0 (w22.heap[gb601]? = some (.cells #[.slice Ao12 t595.length co12] 30 (0, 0))) := ⟨(by rw [hw]; exact (y20 NB601_606.out BK601.out))⟩; have n4_ : Aside0 (w22.heap[gb606]? = some (.cells #[.slice Ao19 t602.length co19] 30 (0, 0))) := ⟨(by rw [hw]; exact (by (with_reducible repeat (first | refine blk_drewN ?_ _ | refine blk_drew ?_ | refine blk_alloc ?_ _)); refine blk_put (cs := #[.slice none 0 0]) ?_ 0 _ rfl; (with_reducible repeat (first | refine blk_drewN ?_ _ | refine blk_drew ?_ | refine blk_alloc ?_ _)); exact BK606.out))⟩; have n5_ : Aside0 (Below w.heap.size w w22) := ⟨(by rw [hw]; exact (y2 HB.out GE601.out GE606.out))⟩; clear hw; clear HO597; clear HO600; clear HO604; clear BK601; clear BK606; clear HB; have HO597 := n0_; have HO600 := n1_; have HO604 := n2_; have BK601 := n3_; have BK606 := n4_; have HB := n5_; clear n0_ n1_ n2_ n3_ n4_ n5_; have hcz23_0 : w22.cell? ⟨gb601, 0, none⟩ = some (.slice Ao12 t595.length co12) := (blk_cell BK601.out 0).trans rfl; have hfz23_0 := blk_frozen BK601.out 0) | ((with_reducible refine gate_callee (f := 21) rfl ?_); refine goesL_ (some 38) rfl rfl Try.func21 (by kernel_rfl) rfl #[.agg #[.slice Ao12 t595.length co12], .slice Ao16 t598.length co16] rfl (by (try simp only [List.map_toArray, List.map_cons, List.map_nil]); first | done | rfl | (simp only [List.length_drop, List.length_take]; rfl)) ?_; (with_reducible refine (impl_TypeAt.calls kj2 (fun k_ => (some k_ ≠ (.slice Ao16 t598.length co16 : Value).ownBlock ∧ (some k_ ≠ (.slice Ao19 t602.length co19 : Value).ownBlock ∧ (k_ ≠ gb601 ∧ k_ ≠ gb606)))) _ _ t595 _ _ t598 t607 t610 _ ?side1 ?side2 ?side3 A8.out).mono ?_); (case side1 => exact Kd.N_V (HO597.out)); (case side2 => exact y25 HO600.out); (case side3 => exact (Kd.R_reads' HO600.out).2.1); rintro e w24 ⟨v608, rfl, ho0, hb⟩; refine ⟨_, rfl, ?_⟩; have n0_ := Aside0.mk (Kd.N_elder' (y7 HO597.out) (Kd.N_base ho0) hb); have n1_ := Aside0.mk (Kd.R_below (y9 HO600.out) hb); have n2_ := Aside0.mk (Kd.N_elder' (y7 HO604.out) (Kd.N_base ho0) hb); have n3_ := Aside0.mk (Kd.N_lower (Kd.N_mono (ok' := fun k_ => some k_ ≠ (.slice Ao16 t598.length co16 : Value).ownBlock ∧ some k_ ≠ (.slice Ao19 t602.length co19 : Value).ownBlock ∧ k_ ≠ gb601 ∧ k_ ≠ gb606) ho0 (fun k_ hk_ => ⟨Or.elim hk_ (fun hs_ => hs_.1) (fun hn_ => (Kd.fresh' (Kd.R_lt (y9 HO600.out)) k_ hn_)), Or.elim hk_ (fun hs_ => hs_.2.1) (fun hn_ => (Kd.fresh' (Kd.N_lt (y7 HO604.out)) k_ hn_)), Or.elim hk_ (fun hs_ => hs_.2.2.1) (fun hn_ => (Kd.freshB (g := gb601) (o := .cells #[.slice Ao12 t595.length co12] 30 (0, 0)) (y4 BK601.out) k_ hn_)), Or.elim hk_ (fun hs_ => hs_.2.2.2) (fun hn_ => (Kd.freshB (g := gb606) (o := .cells #[.slice Ao19 t602.length co19] 30 (0, 0)) (y4 BK606.out) k_ hn_))⟩)) (below_size (y2 HB.out GE601.out GE606.out))); have n4_ := Aside0.mk (zbb BK601.out hb); have n5_ := Aside0.mk (zbb BK606.out hb); have n6_ := Aside0.mk (below_step (y2 HB.out GE601.out GE606.out) hb); clear HO597; clear HO600; clear HO604; clear BK601; clear BK606; clear HB; have HO597 := n0_; have HO600 := n1_; have HO604 := n2_; have HO609 := n3_; have BK601 := n4_; have BK606 := n5_; have HB := n6_; clear n0_ n1_ n2_ n3_ n4_ n5_ n6_; (try clear hb); (try clear hb2); (try clear hk); (try clear hi); (try clear ho0)) | ((with_reducible refine gate_dst (N := 9) rfl ?_); (try (refine gate_guard (by rfl) ?_; dsimp only)); refine box_event ?hg (N := 9) ?hd (cs := #[.slice none 0 0]) (t := 30) ?hr ?_; (case hd => rfl); (case hg => rfl); (case hr => first | (go_simp; done) | (go_simp; rfl)); intro gb611 hg w25 hbox hb; have n0_ := Aside0.mk (Kd.N_below (Kd.N_elderB (y7 HO597.out) gb611 (Nat.le_of_eq hg.symm)) hb); have n1_ := Aside0.mk (Kd.R_below (y9 HO600.out) hb); have n2_ := Aside0.mk (Kd.N_below (Kd.N_elderB (y7 HO604.out) gb611 (Nat.le_of_eq hg.symm)) hb); have n3_ := Aside0.mk (Kd.N_below (Kd.N_elderB (y7 HO609.out) gb611 (Nat.le_of_eq hg.symm)) hb); have n4_ := Aside0.mk (zbb BK601.out hb); have n5_ := Aside0.mk (zbb BK606.out hb); have n6_ := Aside0.mk (below_step (y2 HB.out GE601.out GE606.out) hb); have n7_ := Aside0.mk (hbox); have n8_ := Aside0.mk ((y17 hg HB.out GE601.out GE606.out : w.heap.size ≤ gb611)); have n9_ := Aside0.mk ((y17 hg HB.out GE601.out GE606.out : w.heap.size ≤ gb611)); have n10_ := Aside0.mk (zltn hg BK601.out); have n11_ := Aside0.mk (zgtn hg BK601.out); have n12_ := Aside0.mk (zltn hg BK606.out); have n13_ := Aside0.mk (zgtn hg BK606.out); clear HO597; clear HO600; clear HO604; clear HO609; clear BK601; clear BK606; clear HB; have HO597 := n0_; have HO600 := n1_; have HO604 := n2_; have HO609 := n3_; have BK601 := n4_; have BK606 := n5_; have HB := n6_; have BK611 := n7_; have GW611 := n8_; have GE611 := n9_; have NB601_611 := n10_; have NB611_601 := n11_; have NB606_611 := n12_; have NB611_606 := n13_; clear n0_ n1_ n2_ n3_ n4_ n5_ n6_ n7_ n8_ n9_ n10_ n11_ n12_ n13_; clear hb hbox hg; obtain ⟨Ao26, co26, eo26⟩ := Kd.N_slice HO609.out; subst eo26; have hnb27 := NB611_601.out; have hnc27 := NB601_611.out; have hnb28 := NB611_606.out; have hnc28 := NB606_611.out; have hcz29_0 : w25.cell? ⟨gb611, 0, none⟩ = some (.slice none 0 0) := (blk_cell BK611.out 0).trans rfl; have hfz29_0 := blk_frozen BK611.out 0))
    (try simp only [Act.put, List.setIfInBounds_toArray, List.set_cons_zero, List.set_cons_succ])
    go_cut [53] (fun v53 wc => ∃ (kq : Nat) (x53_8 : Bool), v53 = .bool x53_8 ∧ Aside0 (laws_FnTypeAt.j1 kq l1 t598 t605 t610 x53_8 t595 t602 t607 = some r) ∧ Aside0 (kq ≤ kj2) ∧ Aside0 (Kd.R (Kd.int .i64) 3 wc w.heap.size (fun _ => True) (.slice Ao16 t598.length co16) t598) ∧ Aside0 (Kd.N k30 30 wc w.heap.size (fun k_ => some k_ ≠ ((.slice Ao16 t598.length co16) : Value).ownBlock ∧ some k_ ≠ ((.slice Ao19 t602.length co19) : Value).ownBlock ∧ some k_ ≠ ((.slice Ao26 t607.length co26) : Value).ownBlock ∧ k_ ≠ gb601 ∧ k_ ≠ gb606 ∧ k_ ≠ gb611) (.slice Ao12 t595.length co12) t595) ∧ Aside0 (Kd.N k30 30 wc w.heap.size (fun k_ => some k_ ≠ ((.slice Ao16 t598.length co16) : Value).ownBlock ∧ some k_ ≠ ((.slice Ao26 t607.length co26) : Value).ownBlock ∧ k_ ≠ gb601 ∧ k_ ≠ gb606 ∧ k_ ≠ gb611) (.slice Ao19 t602.length co19) t602) ∧ Aside0 (Kd.N k30 30 wc w.heap.size (fun k_ => some k_ ≠ ((.slice Ao16 t598.length co16) : Value).ownBlock ∧ some k_ ≠ ((.slice Ao19 t602.length co19) : Value).ownBlock ∧ k_ ≠ gb601 ∧ k_ ≠ gb606 ∧ k_ ≠ gb611) (.slice Ao26 t607.length co26) t607) ∧ Aside0 (wc.heap[gb601]? = some (.cells #[(.slice Ao12 t595.length co12)] 30 (0, 0))) ∧ Aside0 (wc.heap[gb606]? = some (.cells #[(.slice Ao19 t602.length co19)] 30 (0, 0))) ∧ Aside0 (wc.heap[gb611]? = some (.cells #[(.slice Ao26 t607.length co26)] 30 (0, 0))) ∧ Aside0 (Below w.heap.size w wc))
    case first =>
     have H := HC9.out
     clear HC9
     by_cases c30 : (t610 != t605) = true
     ·rw [if_pos c30] at H
      have c30b0 : (t610 != t605) = true := c30
      (try (have c30b1 : decide (t610 = t605) = false := by simpa using c30))
      (try (have c30b2 : (t610 == t605) = false := by simpa using c30))
      (try (have c30b3 : ¬ (t610 = t605) := by simpa using c30))
      clear c30
      (first | rw [c30b0] | (simp only [i64_w, i32_w]; rw [c30b0]) | skip)
      have H' := Aside0.mk H
      clear H
      go_wp2
      go_meet
      case rel => exact ⟨_, (true), (by first | rfl | (simp; done) | (simp [*]; done)), H', ⟨by have := HJ2.out; first | omega | exact Nat.le_refl _⟩, ⟨by (with_reducible repeat (first | apply Kd.R_alloc | apply Kd.R_drewN | apply Kd.R_drew)); exact Kd.R_mono (Kd.R_far (p := ⟨gb611, 0, none⟩) (Kd.R_types HO600.out BK611.out (by decide)) (fun _ hk => hk.2) (.slice Ao26 t607.length co26)) (fun _ hk => trivial)⟩, ⟨by (with_reducible repeat (first | apply Kd.N_alloc | apply Kd.N_drewN | apply Kd.N_drew)); exact Kd.N_mono (Kd.N_far (p := ⟨gb611, 0, none⟩) (Kd.N_mono HO597.out (fun k_ hk => (⟨hk, hk.2⟩ : _ ∧ k_ ≠ gb611))) (fun _ hk => hk.2) (.slice Ao26 t607.length co26)) (fun _ hk => ⟨hk.1.1.1.1, ⟨hk.1.1.1.2.1, ⟨hk.1.1.2, ⟨hk.1.1.1.2.2.1, ⟨hk.1.1.1.2.2.2, hk.1.2⟩⟩⟩⟩⟩)⟩, ⟨by (with_reducible repeat (first | apply Kd.N_alloc | apply Kd.N_drewN | apply Kd.N_drew)); exact Kd.N_mono (Kd.N_far (p := ⟨gb611, 0, none⟩) (Kd.N_mono HO604.out (fun k_ hk => (⟨hk, hk.2⟩ : _ ∧ k_ ≠ gb611))) (fun _ hk => hk.2) (.slice Ao26 t607.length co26)) (fun _ hk => ⟨hk.1.1.1.1, ⟨hk.1.1.2, ⟨hk.1.1.1.2.1, ⟨hk.1.1.1.2.2, hk.1.2⟩⟩⟩⟩)⟩, ⟨by (with_reducible repeat (first | apply Kd.N_alloc | apply Kd.N_drewN | apply Kd.N_drew)); exact Kd.N_mono (Kd.N_far (p := ⟨gb611, 0, none⟩) (Kd.N_mono HO609.out (fun k_ hk => (⟨hk, hk.2⟩ : _ ∧ k_ ≠ gb611))) (fun _ hk => hk.2) (.slice Ao26 t607.length co26)) (fun _ hk => ⟨hk.1.1.1, ⟨hk.1.1.2.1, ⟨hk.1.1.2.2.1, ⟨hk.1.1.2.2.2, hk.1.2⟩⟩⟩⟩)⟩, ⟨by (with_reducible repeat (first | refine blk_drewN ?_ _ | refine blk_drew ?_ | refine blk_alloc ?_ _)); refine blk_far ?_ NB601_611.out _; (with_reducible repeat (first | refine blk_drewN ?_ _ | refine blk_drew ?_ | refine blk_alloc ?_ _)); exact BK601.out⟩, ⟨by (with_reducible repeat (first | refine blk_drewN ?_ _ | refine blk_drew ?_ | refine blk_alloc ?_ _)); refine blk_far ?_ NB606_611.out _; (with_reducible repeat (first | refine blk_drewN ?_ _ | refine blk_drew ?_ | refine blk_alloc ?_ _)); exact BK606.out⟩, ⟨by (with_reducible repeat (first | refine blk_drewN ?_ _ | refine blk_drew ?_ | refine blk_alloc ?_ _)); refine blk_put (cs := #[.slice none 0 0]) ?_ 0 _ rfl; (with_reducible repeat (first | refine blk_drewN ?_ _ | refine blk_drew ?_ | refine blk_alloc ?_ _)); exact BK611.out⟩, ⟨by repeat (first | (with_reducible first | exact HB.out | apply below_alloc | apply pw_below_drewN | apply below_drew1 | refine below_set ?_ GE601.out | refine below_set ?_ GE606.out | refine below_set ?_ GE611.out) | exact HB.out)⟩⟩
     ·rw [if_neg c30] at H
      have c30b0 : (t610 != t605) = false := by simpa using c30
      (try (have c30b1 : decide (t610 = t605) = true := by simpa using c30))
      (try (have c30b2 : (t610 == t605) = true := by simpa using c30))
      clear c30
      (first | rw [c30b0] | (simp only [i64_w, i32_w]; rw [c30b0]) | skip)
      replace H := Option.bind_eq_some_iff.mp H
      obtain ⟨t612, A310, H⟩ := H
      replace H : (if t612 = true then (laws_FnTypeAt.j1 kj2 l1 t598 t605 t610 (!t610) t595 t602 t607) else (laws_FnTypeAt.j1 kj2 l1 t598 t605 t610 true t595 t602 t607)) = some r := H
      have A31 := Aside0.mk A310
      clear A310
      by_cases c32 : t612 = true
      ·subst c32
       have H1 : (laws_FnTypeAt.j1 kj2 l1 t598 t605 t610 (!t610) t595 t602 t607) = some r := by rw [if_pos rfl] at H; exact H
       clear H
       have H := H1
       clear H1
       have H' := Aside0.mk H
       clear H
       have hnb33 := NB611_601.out
       have hnc33 := NB601_611.out
       have hnb34 := NB611_606.out
       have hnc34 := NB606_611.out
       have hcz35_0 : w25.cell? ⟨gb611, 0, none⟩ = some (.slice none 0 0) := (blk_cell BK611.out 0).trans rfl
       have hfz35_0 := blk_frozen BK611.out 0
       have hnb36 := NB606_601.out
       have hnc36 := NB601_606.out
       have hcz37_0 : w25.cell? ⟨gb606, 0, none⟩ = some (.slice Ao19 t602.length co19) := (blk_cell BK606.out 0).trans rfl
       have hfz37_0 := blk_frozen BK606.out 0
       go_wp2_with (first | (go_at_call 25; (with_reducible refine (laws_lhType.calls kj2 _ _ t607 _ _ t602 true _ ?side1 ?side2 ?side3 ?side4 A31.out).mono ?_); (case side1 => refine (Kd.N_reads' (e := 30) (base := w.heap.size) (ok := fun k_ => ((some k_ ≠ (.slice Ao16 t598.length co16 : Value).ownBlock ∧ (some k_ ≠ (.slice Ao19 t602.length co19 : Value).ownBlock ∧ (k_ ≠ gb601 ∧ k_ ≠ gb606))) ∧ k_ ≠ gb611)) (n := t607.length) (c := co26) ?_).2.2; exact (by (with_reducible repeat (first | apply Kd.N_alloc | apply Kd.N_drewN | apply Kd.N_drew)); exact (Kd.N_mono (Kd.N_far (p := ⟨gb611, 0, none⟩) (Kd.N_mono HO609.out (fun k_ hk => (⟨hk, hk.2⟩ : _ ∧ k_ ≠ gb611))) (fun _ hk => hk.2) (.slice Ao26 t607.length co26)) (fun _ h_ => h_.1)))); (case side2 => exact (Kd.N_reads' HO609.out).2.1); (case side3 => refine (Kd.N_reads' (e := 30) (base := w.heap.size) (ok := fun k_ => (((some k_ ≠ (.slice Ao16 t598.length co16 : Value).ownBlock ∧ (k_ ≠ gb601 ∧ k_ ≠ gb606)) ∧ some k_ ≠ (.slice Ao26 t607.length co26 : Value).ownBlock) ∧ k_ ≠ gb611)) (n := t602.length) (c := co19) ?_).2.2; exact (by (with_reducible repeat (first | apply Kd.N_alloc | apply Kd.N_drewN | apply Kd.N_drew)); exact (Kd.N_mono (Kd.N_far (p := ⟨gb611, 0, none⟩) (Kd.N_mono HO604.out (fun k_ hk => (⟨hk, hk.2⟩ : _ ∧ k_ ≠ gb611))) (fun _ hk => hk.2) (.slice Ao26 t607.length co26)) (fun _ h_ => h_.1)))); (case side4 => exact (Kd.N_reads' HO604.out).2.1); rintro e w38 ⟨rfl, hb⟩; replace HO597 := Aside0.mk (Kd.N_below (by (with_reducible repeat (first | apply Kd.N_alloc | apply Kd.N_drewN | apply Kd.N_drew)); exact (Kd.N_mono (Kd.N_far (p := ⟨gb611, 0, none⟩) (Kd.N_mono HO597.out (fun k_ hk => (⟨hk, hk.2⟩ : _ ∧ k_ ≠ gb611))) (fun _ hk => hk.2) (.slice Ao26 t607.length co26)) (fun _ h_ => h_.1))) hb); replace HO600 := Aside0.mk (Kd.R_below (by (with_reducible repeat (first | apply Kd.R_alloc | apply Kd.R_drewN | apply Kd.R_drew)); exact (Kd.R_mono (Kd.R_far (p := ⟨gb611, 0, none⟩) (Kd.R_types HO600.out BK611.out (by decide)) (fun _ hk => hk.2) (.slice Ao26 t607.length co26)) (fun _ h_ => h_.1))) hb); replace HO604 := Aside0.mk (Kd.N_below (by (with_reducible repeat (first | apply Kd.N_alloc | apply Kd.N_drewN | apply Kd.N_drew)); exact (Kd.N_mono (Kd.N_far (p := ⟨gb611, 0, none⟩) (Kd.N_mono HO604.out (fun k_ hk => (⟨hk, hk.2⟩ : _ ∧ k_ ≠ gb611))) (fun _ hk => hk.2) (.slice Ao26 t607.length co26)) (fun _ h_ => h_.1))) hb); replace HO609 := Aside0.mk (Kd.N_below (by (with_reducible repeat (first | apply Kd.N_alloc | apply Kd.N_drewN | apply Kd.N_drew)); exact (Kd.N_mono (Kd.N_far (p := ⟨gb611, 0, none⟩) (Kd.N_mono HO609.out (fun k_ hk => (⟨hk, hk.2⟩ : _ ∧ k_ ≠ gb611))) (fun _ hk => hk.2) (.slice Ao26 t607.length co26)) (fun _ h_ => h_.1))) hb); replace BK601 := Aside0.mk (zbf BK601.out NB601_611.out hb); replace BK606 := Aside0.mk (zbf BK606.out NB606_611.out hb); replace BK611 := Aside0.mk (blk_below (g := gb611) (o := .cells #[.slice Ao26 t607.length co26] 30 (0, 0)) (by (with_reducible repeat (first | refine blk_drewN ?_ _ | refine blk_drew ?_ | refine blk_alloc ?_ _)); refine blk_put (cs := #[.slice none 0 0]) ?_ 0 _ rfl; (with_reducible repeat (first | refine blk_drewN ?_ _ | refine blk_drew ?_ | refine blk_alloc ?_ _)); exact BK611.out) hb); replace HB := Aside0.mk (below_step (y8 HB.out GE601.out GE606.out GE611.out) hb); (try clear hb); (try clear hb2); (try clear hk); (try clear hi)))
       go_meet
       case rel => exact ⟨_, (!t610), (by first | rfl | (simp; done) | (simp [*]; done)), H', ⟨by have := HJ2.out; first | omega | exact Nat.le_refl _⟩, ⟨by (with_reducible repeat (first | apply Kd.R_alloc | apply Kd.R_drewN | apply Kd.R_drew)); exact HO600.out⟩, ⟨by (with_reducible repeat (first | apply Kd.N_alloc | apply Kd.N_drewN | apply Kd.N_drew)); exact Kd.N_mono HO597.out (fun _ hk => ⟨hk.1.1.1, ⟨hk.1.1.2.1, ⟨hk.1.2, ⟨hk.1.1.2.2.1, ⟨hk.1.1.2.2.2, hk.2⟩⟩⟩⟩⟩)⟩, ⟨by (with_reducible repeat (first | apply Kd.N_alloc | apply Kd.N_drewN | apply Kd.N_drew)); exact Kd.N_mono HO604.out (fun _ hk => ⟨hk.1.1.1, ⟨hk.1.2, ⟨hk.1.1.2.1, ⟨hk.1.1.2.2, hk.2⟩⟩⟩⟩)⟩, ⟨by (with_reducible repeat (first | apply Kd.N_alloc | apply Kd.N_drewN | apply Kd.N_drew)); exact Kd.N_mono HO609.out (fun _ hk => ⟨hk.1.1, ⟨hk.1.2.1, ⟨hk.1.2.2.1, ⟨hk.1.2.2.2, hk.2⟩⟩⟩⟩)⟩, ⟨by (with_reducible repeat (first | refine blk_drewN ?_ _ | refine blk_drew ?_ | refine blk_alloc ?_ _)); exact BK601.out⟩, ⟨by (with_reducible repeat (first | refine blk_drewN ?_ _ | refine blk_drew ?_ | refine blk_alloc ?_ _)); exact BK606.out⟩, ⟨by (with_reducible repeat (first | refine blk_drewN ?_ _ | refine blk_drew ?_ | refine blk_alloc ?_ _)); exact BK611.out⟩, ⟨by repeat (first | (with_reducible first | exact HB.out | apply below_alloc | apply pw_below_drewN | apply below_drew1 | refine below_set ?_ GE601.out | refine below_set ?_ GE606.out | refine below_set ?_ GE611.out) | exact HB.out)⟩⟩
      ·replace c32 := Bool.eq_false_iff.mpr c32
       subst c32
       have H1 : (laws_FnTypeAt.j1 kj2 l1 t598 t605 t610 true t595 t602 t607) = some r := by rw [if_neg (show ¬ (false = true) by decide)] at H; exact H
       clear H
       have H := H1
       clear H1
       have H' := Aside0.mk H
       clear H
       have hnb39 := NB611_601.out
       have hnc39 := NB601_611.out
       have hnb40 := NB611_606.out
       have hnc40 := NB606_611.out
       have hcz41_0 : w25.cell? ⟨gb611, 0, none⟩ = some (.slice none 0 0) := (blk_cell BK611.out 0).trans rfl
       have hfz41_0 := blk_frozen BK611.out 0
       have hnb42 := NB606_601.out
       have hnc42 := NB601_606.out
       have hcz43_0 : w25.cell? ⟨gb606, 0, none⟩ = some (.slice Ao19 t602.length co19) := (blk_cell BK606.out 0).trans rfl
       have hfz43_0 := blk_frozen BK606.out 0
       go_wp2_with (first | (go_at_call 25; (with_reducible refine (laws_lhType.calls kj2 _ _ t607 _ _ t602 false _ ?side1 ?side2 ?side3 ?side4 A31.out).mono ?_); (case side1 => refine (Kd.N_reads' (e := 30) (base := w.heap.size) (ok := fun k_ => ((some k_ ≠ (.slice Ao16 t598.length co16 : Value).ownBlock ∧ (some k_ ≠ (.slice Ao19 t602.length co19 : Value).ownBlock ∧ (k_ ≠ gb601 ∧ k_ ≠ gb606))) ∧ k_ ≠ gb611)) (n := t607.length) (c := co26) ?_).2.2; exact (by (with_reducible repeat (first | apply Kd.N_alloc | apply Kd.N_drewN | apply Kd.N_drew)); exact (Kd.N_mono (Kd.N_far (p := ⟨gb611, 0, none⟩) (Kd.N_mono HO609.out (fun k_ hk => (⟨hk, hk.2⟩ : _ ∧ k_ ≠ gb611))) (fun _ hk => hk.2) (.slice Ao26 t607.length co26)) (fun _ h_ => h_.1)))); (case side2 => exact (Kd.N_reads' HO609.out).2.1); (case side3 => refine (Kd.N_reads' (e := 30) (base := w.heap.size) (ok := fun k_ => (((some k_ ≠ (.slice Ao16 t598.length co16 : Value).ownBlock ∧ (k_ ≠ gb601 ∧ k_ ≠ gb606)) ∧ some k_ ≠ (.slice Ao26 t607.length co26 : Value).ownBlock) ∧ k_ ≠ gb611)) (n := t602.length) (c := co19) ?_).2.2; exact (by (with_reducible repeat (first | apply Kd.N_alloc | apply Kd.N_drewN | apply Kd.N_drew)); exact (Kd.N_mono (Kd.N_far (p := ⟨gb611, 0, none⟩) (Kd.N_mono HO604.out (fun k_ hk => (⟨hk, hk.2⟩ : _ ∧ k_ ≠ gb611))) (fun _ hk => hk.2) (.slice Ao26 t607.length co26)) (fun _ h_ => h_.1)))); (case side4 => exact (Kd.N_reads' HO604.out).2.1); rintro e w44 ⟨rfl, hb⟩; replace HO597 := Aside0.mk (Kd.N_below (by (with_reducible repeat (first | apply Kd.N_alloc | apply Kd.N_drewN | apply Kd.N_drew)); exact (Kd.N_mono (Kd.N_far (p := ⟨gb611, 0, none⟩) (Kd.N_mono HO597.out (fun k_ hk => (⟨hk, hk.2⟩ : _ ∧ k_ ≠ gb611))) (fun _ hk => hk.2) (.slice Ao26 t607.length co26)) (fun _ h_ => h_.1))) hb); replace HO600 := Aside0.mk (Kd.R_below (by (with_reducible repeat (first | apply Kd.R_alloc | apply Kd.R_drewN | apply Kd.R_drew)); exact (Kd.R_mono (Kd.R_far (p := ⟨gb611, 0, none⟩) (Kd.R_types HO600.out BK611.out (by decide)) (fun _ hk => hk.2) (.slice Ao26 t607.length co26)) (fun _ h_ => h_.1))) hb); replace HO604 := Aside0.mk (Kd.N_below (by (with_reducible repeat (first | apply Kd.N_alloc | apply Kd.N_drewN | apply Kd.N_drew)); exact (Kd.N_mono (Kd.N_far (p := ⟨gb611, 0, none⟩) (Kd.N_mono HO604.out (fun k_ hk => (⟨hk, hk.2⟩ : _ ∧ k_ ≠ gb611))) (fun _ hk => hk.2) (.slice Ao26 t607.length co26)) (fun _ h_ => h_.1))) hb); replace HO609 := Aside0.mk (Kd.N_below (by (with_reducible repeat (first | apply Kd.N_alloc | apply Kd.N_drewN | apply Kd.N_drew)); exact (Kd.N_mono (Kd.N_far (p := ⟨gb611, 0, none⟩) (Kd.N_mono HO609.out (fun k_ hk => (⟨hk, hk.2⟩ : _ ∧ k_ ≠ gb611))) (fun _ hk => hk.2) (.slice Ao26 t607.length co26)) (fun _ h_ => h_.1))) hb); replace BK601 := Aside0.mk (zbf BK601.out NB601_611.out hb); replace BK606 := Aside0.mk (zbf BK606.out NB606_611.out hb); replace BK611 := Aside0.mk (blk_below (g := gb611) (o := .cells #[.slice Ao26 t607.length co26] 30 (0, 0)) (by (with_reducible repeat (first | refine blk_drewN ?_ _ | refine blk_drew ?_ | refine blk_alloc ?_ _)); refine blk_put (cs := #[.slice none 0 0]) ?_ 0 _ rfl; (with_reducible repeat (first | refine blk_drewN ?_ _ | refine blk_drew ?_ | refine blk_alloc ?_ _)); exact BK611.out) hb); replace HB := Aside0.mk (below_step (y8 HB.out GE601.out GE606.out GE611.out) hb); (try clear hb); (try clear hb2); (try clear hk); (try clear hi)))
       go_meet
       case rel => exact ⟨_, (true), (by first | rfl | (simp; done) | (simp [*]; done)), H', ⟨by have := HJ2.out; first | omega | exact Nat.le_refl _⟩, ⟨by (with_reducible repeat (first | apply Kd.R_alloc | apply Kd.R_drewN | apply Kd.R_drew)); exact HO600.out⟩, ⟨by (with_reducible repeat (first | apply Kd.N_alloc | apply Kd.N_drewN | apply Kd.N_drew)); exact Kd.N_mono HO597.out (fun _ hk => ⟨hk.1.1.1, ⟨hk.1.1.2.1, ⟨hk.1.2, ⟨hk.1.1.2.2.1, ⟨hk.1.1.2.2.2, hk.2⟩⟩⟩⟩⟩)⟩, ⟨by (with_reducible repeat (first | apply Kd.N_alloc | apply Kd.N_drewN | apply Kd.N_drew)); exact Kd.N_mono HO604.out (fun _ hk => ⟨hk.1.1.1, ⟨hk.1.2, ⟨hk.1.1.2.1, ⟨hk.1.1.2.2, hk.2⟩⟩⟩⟩)⟩, ⟨by (with_reducible repeat (first | apply Kd.N_alloc | apply Kd.N_drewN | apply Kd.N_drew)); exact Kd.N_mono HO609.out (fun _ hk => ⟨hk.1.1, ⟨hk.1.2.1, ⟨hk.1.2.2.1, ⟨hk.1.2.2.2, hk.2⟩⟩⟩⟩)⟩, ⟨by (with_reducible repeat (first | refine blk_drewN ?_ _ | refine blk_drew ?_ | refine blk_alloc ?_ _)); exact BK601.out⟩, ⟨by (with_reducible repeat (first | refine blk_drewN ?_ _ | refine blk_drew ?_ | refine blk_alloc ?_ _)); exact BK606.out⟩, ⟨by (with_reducible repeat (first | refine blk_drewN ?_ _ | refine blk_drew ?_ | refine blk_alloc ?_ _)); exact BK611.out⟩, ⟨by repeat (first | (with_reducible first | exact HB.out | apply below_alloc | apply pw_below_drewN | apply below_drew1 | refine below_set ?_ GE601.out | refine below_set ?_ GE606.out | refine below_set ?_ GE611.out) | exact HB.out)⟩⟩
    case rest =>
     clear HC9
     try clear c1
     try clear c2
     try clear p2
     try clear c3
     try clear c4
     try clear c4b0
     try clear c4b1
     try clear c5
     try clear c10
     try clear c20
     try clear c21
     try clear c27
     try clear c28
     try clear c30
     try clear c30b0
     try clear c30b1
     try clear c30b2
     try clear c32
     try clear c33
     try clear c34
     try clear c36
     try clear c39
     try clear c40
     try clear c42
     try clear hcz13_0
     try clear hcz15_0
     try clear hcz21_0
     try clear hcz23_0
     try clear hcz29_0
     try clear hcz35_0
     try clear hcz37_0
     try clear hcz41_0
     try clear hcz43_0
     try clear hfz13_0
     try clear hfz15_0
     try clear hfz21_0
     try clear hfz23_0
     try clear hfz29_0
     try clear hfz35_0
     try clear hfz37_0
     try clear hfz41_0
     try clear hfz43_0
     try clear p2
     obtain ⟨kq, x53_8, rfl, HA, HJ8, HO_6, HO_602000, HO_607000, HO_612000, BK601, BK606, BK611, HB⟩ := hcut
     cases kq with
     | zero => exact absurd HA.out (by simp [laws_FnTypeAt.j1])
     | succ kj8 =>
      have H := HA.out
      clear HA
      simp only [laws_FnTypeAt.j1] at H
      by_cases c45 : x53_8 = true
      ·subst c45
       have H1 : (if (t610 == t605) = true then ((laws_lhType.f kj8 t607 t602).bind fun t613 => (some t613)) else (some false)) = some r := by rw [if_pos rfl] at H; exact H
       clear H
       have H := H1
       clear H1
       by_cases c46 : (t610 == t605) = true
       ·rw [if_pos c46] at H
        have c46b0 : (t610 == t605) = true := c46
        (try (have c46b1 : decide (t610 = t605) = true := by simpa using c46))
        (try (have c46b2 : (t610 == t605) = true := by simpa using c46))
        clear c46
        replace H := Option.bind_eq_some_iff.mp H
        obtain ⟨t613, A470, H⟩ := H
        replace H : (some t613) = some r := H
        have A47 := Aside0.mk A470
        clear A470
        clear hr_
        obtain rfl := Option.some.inj H
        have hnb48 := NB611_601.out
        have hnc48 := NB601_611.out
        have hnb49 := NB611_606.out
        have hnc49 := NB606_611.out
        have hcz50_0 : wc.cell? ⟨gb611, 0, none⟩ = some (.slice Ao26 t607.length co26) := (blk_cell BK611.out 0).trans rfl
        have hfz50_0 := blk_frozen BK611.out 0
        have hnb51 := NB606_601.out
        have hnc51 := NB601_606.out
        have hcz52_0 : wc.cell? ⟨gb606, 0, none⟩ = some (.slice Ao19 t602.length co19) := (blk_cell BK606.out 0).trans rfl
        have hfz52_0 := blk_frozen BK606.out 0
        go_wp2_with (first | (go_at_call 25; (with_reducible refine (laws_lhType.calls kj8 _ _ t607 _ _ t602 t613 _ ?side1 ?side2 ?side3 ?side4 A47.out).mono ?_); (case side1 => exact y22 HO_612000.out); (case side2 => exact (Kd.N_reads' HO_612000.out).2.1); (case side3 => exact y22 HO_607000.out); (case side4 => exact (Kd.N_reads' HO_607000.out).2.1); rintro e w53 ⟨rfl, hb⟩; replace HO_6 := Aside0.mk (Kd.R_below (y9 HO_6.out) hb); replace HO_602000 := Aside0.mk (Kd.N_below (y7 HO_602000.out) hb); replace HO_607000 := Aside0.mk (Kd.N_below (y7 HO_607000.out) hb); replace HO_612000 := Aside0.mk (Kd.N_below (y7 HO_612000.out) hb); replace BK601 := Aside0.mk (zbb BK601.out hb); replace BK606 := Aside0.mk (zbb BK606.out hb); replace BK611 := Aside0.mk (zbb BK611.out hb); replace HB := Aside0.mk (below_step (y8 HB.out GE601.out GE606.out GE611.out) hb); (try clear hb); (try clear hb2); (try clear hk); (try clear hi)))
        go_ret
        exact ⟨by first | rfl | (simp [errW_none, errW_some] <;> rfl) | (simp [*, errW_none, errW_some] <;> rfl), by repeat (first | (with_reducible first | exact HB.out | apply below_alloc | apply pw_below_drewN | apply below_drew1 | refine below_set ?_ GE601.out | refine below_set ?_ GE606.out | refine below_set ?_ GE611.out) | exact HB.out)⟩
       ·rw [if_neg c46] at H
        have c46b0 : (t610 == t605) = false := by simpa using c46
        (try (have c46b1 : decide (t610 = t605) = false := by simpa using c46))
        (try (have c46b2 : (t610 == t605) = false := by simpa using c46))
        (try (have c46b3 : ¬ (t610 = t605) := by simpa using c46))
        clear c46
        exact absurd ((Option.some.inj H).trans hr_.out) (by decide)
      ·replace c45 := Bool.eq_false_iff.mpr c45
       subst c45
       have H1 : (if (wrap64 ((t598.length : Int) + 1)) = 0 then (none) else (if 0 ≤ ((l1.length : Int) % (wrap64 ((t598.length : Int) + 1))) then (if ((l1.length : Int) % (wrap64 ((t598.length : Int) + 1))) ≤ (t598.length : Int) then ((impl_TypeAt.f kj8 t595 (t598.take (((l1.length : Int) % (wrap64 ((t598.length : Int) + 1))) : Int).toNat)).bind fun bt619 => ((impl_TypeAt.f kj8 bt619.1 (t598.drop (((l1.length : Int) % (wrap64 ((t598.length : Int) + 1))) : Int).toNat)).bind fun bt629 => (if bt619.2 = true then (if bt629.2 = true then ((laws_lhType.f kj8 bt629.1 t607).bind fun t634 => (some t634)) else (some false)) else (some false)))) else (none)) else (none))) = some r := by rw [if_neg (show ¬ (false = true) by decide)] at H; exact H
       clear H
       have H := H1
       clear H1
       by_cases c54 : (wrap64 ((t598.length : Int) + 1)) = 0
       ·rw [if_pos c54] at H
        exact absurd H (by simp)
       ·rw [if_neg c54] at H
        have c54b0 : ((wrap64 ((t598.length : Int) + 1)) == 0) = false := beq_eq_false_iff_ne.mpr c54
        have c54b1 : ((wrap64 ((t598.length : Int) + 1)) != 0) = true := bne_iff_ne.mpr c54
        obtain ⟨ji55, hji55⟩ : ∃ j_ : Int, ((l1.length : Int) % (wrap64 ((t598.length : Int) + 1))) = j_ := ⟨_, rfl⟩
        replace H : (if 0 ≤ (ji55) then (if (ji55) ≤ (t598.length : Int) then ((impl_TypeAt.f kj8 t595 (t598.take ((ji55) : Int).toNat)).bind fun bt619 => ((impl_TypeAt.f kj8 bt619.1 (t598.drop ((ji55) : Int).toNat)).bind fun bt629 => (if bt619.2 = true then (if bt629.2 = true then ((laws_lhType.f kj8 bt629.1 t607).bind fun t634 => (some t634)) else (some false)) else (some false)))) else (none)) else (none)) = some r := by first | (rw [hji55] at H; exact H) | (simp only [hji55] at H ⊢; exact H)
        by_cases c56 : 0 ≤ (ji55)
        ·rw [if_pos c56] at H
         have c56b0 := eq_true c56
         have c56b1 : decide (0 ≤ (ji55)) = true := decide_eq_true c56
         clear c56
         by_cases c57 : (ji55) ≤ (t598.length : Int)
         ·rw [if_pos c57] at H
          have c57b0 := eq_true c57
          have c57b1 : decide ((ji55) ≤ (t598.length : Int)) = true := decide_eq_true c57
          clear c57
          obtain ⟨y614, hy614⟩ : ∃ y_ : List Int, y_ = (t598.take ((ji55) : Int).toNat) := ⟨_, rfl⟩
          replace H : ((impl_TypeAt.f kj8 t595 y614).bind fun bt619 => ((impl_TypeAt.f kj8 bt619.1 (t598.drop ((ji55) : Int).toNat)).bind fun bt629 => (if bt619.2 = true then (if bt629.2 = true then ((laws_lhType.f kj8 bt629.1 t607).bind fun t634 => (some t634)) else (some false)) else (some false)))) = some r := by first | (rw [hy614]; with_reducible exact H) | (have H2_ := (Option.bind_some _ _).symm.trans H; rw [hy614]; with_reducible exact H2_) | (have H2_ := (Option.bind_some _ _).symm.trans H; with_reducible exact H2_) | with_reducible exact H | (rw [hy614]; exact H) | exact H
          have Ny614 := Aside0.mk hy614
          clear hy614
          replace H := Option.bind_eq_some_iff.mp H
          obtain ⟨⟨t619, t622⟩, A580, H⟩ := H
          replace H : ((impl_TypeAt.f kj8 t619 (t598.drop ((ji55) : Int).toNat)).bind fun bt629 => (if t622 = true then (if bt629.2 = true then ((laws_lhType.f kj8 bt629.1 t607).bind fun t634 => (some t634)) else (some false)) else (some false))) = some r := H
          have A58 := Aside0.mk A580
          clear A580
          have c59b0 := eq_true (of_decide_eq_true (by first | (with_reducible assumption) | assumption) : 0 ≤ (ji55))
          have c60b0 := eq_true (of_decide_eq_true (by first | (with_reducible assumption) | assumption) : (ji55) ≤ (t598.length : Int))
          obtain ⟨y624, hy624⟩ : ∃ y_ : List Int, y_ = (t598.drop ((ji55) : Int).toNat) := ⟨_, rfl⟩
          replace H : ((impl_TypeAt.f kj8 t619 y624).bind fun bt629 => (if t622 = true then (if bt629.2 = true then ((laws_lhType.f kj8 bt629.1 t607).bind fun t634 => (some t634)) else (some false)) else (some false))) = some r := by first | (rw [hy624]; with_reducible exact H) | (have H2_ := (Option.bind_some _ _).symm.trans H; rw [hy624]; with_reducible exact H2_) | (have H2_ := (Option.bind_some _ _).symm.trans H; with_reducible exact H2_) | with_reducible exact H | (rw [hy624]; exact H) | exact H
          have Ny624 := Aside0.mk hy624
          clear hy624
          replace H := Option.bind_eq_some_iff.mp H
          obtain ⟨⟨t629, t632⟩, A610, H⟩ := H
          replace H : (if t622 = true then (if t632 = true then ((laws_lhType.f kj8 t629 t607).bind fun t634 => (some t634)) else (some false)) else (some false)) = some r := H
          have A61 := Aside0.mk A610
          clear A610
          by_cases c62 : t622 = true
          ·subst c62
           have H1 : (if t632 = true then ((laws_lhType.f kj8 t629 t607).bind fun t634 => (some t634)) else (some false)) = some r := by rw [if_pos rfl] at H; exact H
           clear H
           have H := H1
           clear H1
           by_cases c63 : t632 = true
           ·subst c63
            have H1 : ((laws_lhType.f kj8 t629 t607).bind fun t634 => (some t634)) = some r := by rw [if_pos rfl] at H; exact H
            clear H
            have H := H1
            clear H1
            replace H := Option.bind_eq_some_iff.mp H
            obtain ⟨t634, A640, H⟩ := H
            replace H : (some t634) = some r := H
            have A64 := Aside0.mk A640
            clear A640
            clear hr_
            obtain rfl := Option.some.inj H
            try go_wp2
            replace HO_6 := Aside0.mk (Kd.R_drew HO_6.out)
            replace HO_602000 := Aside0.mk (Kd.N_drew HO_602000.out)
            replace HO_607000 := Aside0.mk (Kd.N_drew HO_607000.out)
            replace HO_612000 := Aside0.mk (Kd.N_drew HO_612000.out)
            replace BK601 := Aside0.mk (blk_drew BK601.out)
            replace BK606 := Aside0.mk (blk_drew BK606.out)
            replace BK611 := Aside0.mk (blk_drew BK611.out)
            replace HB := Aside0.mk (below_drew1 HB.out)
            have q66 : ((ji55) : Int) ≤ ((t598.length : Int) : Int) := of_decide_eq_true (by first | (with_reducible assumption) | assumption)
            obtain ⟨i066, hi066, _, hsz66, _⟩ := info_parts info3
            have hroom66 : t598.length ≤ co16 := (Kd.R_reads' HO_6.out).2.1
            have hC66 : Kd.F (Kd.int .i64) _ _ Ao16 t598.length t598 := (Kd.V_at (base := w.heap.size) (Kd.R_V (Kd.R_types (Kd.R_types (Kd.R_types (Kd.R_apart' (Kd.R_apart' (Kd.R_apart' (HO_6.out) (Kd.N_typed HO_602000.out) (by decide)) (Kd.N_typed HO_607000.out) (by decide)) (Kd.N_typed HO_612000.out) (by decide)) BK601.out (by decide)) BK606.out (by decide)) BK611.out (by decide)))).2.2
            have hcut66 := cut_to (P := Try.prog) 38 3 .i64 Try.underlying38 hi066 Ao16 t598.length co16 (ji55) (of_decide_eq_true (by first | (with_reducible assumption) | assumption)) q66 hroom66
            have hr66 := Kd.F_take (m := ((ji55) : Int).toNat) hC66 (by omega)
            have hy66 : y614.length = ((ji55) : Int).toNat := (by rw [Ny614.out, List.length_take]; omega)
            rw [← Ny614.out] at hr66
            rw [← hy66] at hcut66
            have HO618 := Aside0.mk (show Kd.V (Kd.int .i64) 3 _ w.heap.size _ (.slice Ao16 y614.length co16) y614 from Kd.V_mk (by omega) hr66)
            have HC618 := Aside0.mk (show y614.length ≤ co16 from by omega)
            clear hr66 hC66 hroom66 hi066 hsz66
            have KY66 := Aside0.mk hy66
            clear hy66
            replace q66 := eq_true q66
            refine start_ (n := 11) (S := fun w' => w'.cell? ⟨gb601, 0, none⟩ = some (.slice Ao12 t595.length co12)) (ds := []) #[false, false, false, false, false, false, false, false, false, false, false] (by kernel_rfl) rfl rfl ((blk_cell BK601.out 0).trans rfl) (fun hHeld => ?_); refine with_tabW laws_FnTypeAt.tab9 laws_FnTypeAt.bits9 (fun HT_ HW_ => ?_)
            generalize wc.drew = w65 at HO_6 HO_602000 HO_607000 HO_612000 BK601 BK606 BK611 HB HO618 hHeld ⊢
            refine pure_ (i := 1) (N := some 70) (v := ?_) (a' := ?_) #[false, true, false, false, false, false, false, false, false, false, false] rfl rfl (any_of HT_.out (by kernel_rfl)) (fun _ _ _ h => h) (Or.inl ⟨by rfl, ?_⟩) ?_ ?_
            rotate_left
            ·intro w'
             go_simp
             with_reducible rfl
            rotate_left
            ·simp only [Act.put, List.setIfInBounds_toArray, List.set_cons_zero, List.set_cons_succ, i64_w, i32_w]
             rfl
            refine pure_ (i := 2) (N := some 71) (v := ?_) (a' := ?_) #[false, true, true, false, false, false, false, false, false, false, false] rfl rfl (any_of HT_.out (by kernel_rfl)) (fun _ _ _ h => h) (Or.inl ⟨by rfl, ?_⟩) ?_ ?_
            rotate_left
            ·intro w'
             go_simp
             with_reducible rfl
            rotate_left
            ·simp only [Act.put, List.setIfInBounds_toArray, List.set_cons_zero, List.set_cons_succ, i64_w, i32_w]
             rfl
            refine pure_ (i := 3) (N := some 72) (v := ?_) (a' := ?_) #[false, true, true, true, false, false, false, false, false, false, false] rfl rfl (any_of HT_.out (by kernel_rfl)) (fun _ _ _ h => h) (Or.inl ⟨by rfl, ?_⟩) ?_ ?_
            rotate_left
            ·intro w'
             go_simp
             with_reducible rfl
            rotate_left
            ·simp only [Act.put, List.setIfInBounds_toArray, List.set_cons_zero, List.set_cons_succ, i64_w, i32_w]
             rfl
            refine take_ (i := 0) (N := some 69) (v := ?_) (a' := ?_) #[true, true, true, true, false, false, false, false, false, false, false] rfl rfl (take_ofW HT_.out HW_.out (by kernel_rfl)) (fun _ _ _ h => h) (Or.inl ⟨by rfl, ?_⟩) hHeld ?_ ?_
            rotate_left
            ·intro w' s0
             go_simp
             with_reducible rfl
            rotate_left
            ·simp only [Act.put, List.setIfInBounds_toArray, List.set_cons_zero, List.set_cons_succ, i64_w, i32_w]
             rfl
            refine join_ (σ := Value × Nat) 2 #[true, true, true, true, true, true, true, true, true, false, false] (fun s_ => [(73, .tuple #[.agg #[s_.1], .bool true]), (12, .pointer (some ⟨s_.2, 0, none⟩)), (68, .tuple #[.agg #[s_.1], .bool true]), (74, .agg #[s_.1]), (75, .bool true)]) (fun s_ w' => (w'.cell? ⟨gb601, 0, none⟩ = some (.slice Ao12 t595.length co12)) ∧ (Kd.V (Kd.int .i64) 3 w' w.heap.size (fun k_ => some k_ ≠ (s_.1 : Value).ownBlock ∧ some k_ ≠ (.slice Ao12 t595.length co12 : Value).ownBlock ∧ some k_ ≠ (.slice Ao19 t602.length co19 : Value).ownBlock ∧ some k_ ≠ (.slice Ao26 t607.length co26 : Value).ownBlock ∧ k_ ≠ gb601 ∧ k_ ≠ gb606 ∧ k_ ≠ gb611 ∧ k_ ≠ s_.2) (.slice Ao16 y614.length co16) y614) ∧ (Kd.N k30 30 w' w.heap.size (fun k_ => some k_ ≠ (.slice Ao16 t598.length co16 : Value).ownBlock ∧ some k_ ≠ (.slice Ao19 t602.length co19 : Value).ownBlock ∧ some k_ ≠ (.slice Ao26 t607.length co26 : Value).ownBlock ∧ k_ ≠ gb601 ∧ k_ ≠ gb606 ∧ k_ ≠ gb611 ∧ k_ ≠ s_.2) s_.1 t619) ∧ (Kd.R (Kd.int .i64) 3 w' w.heap.size (fun _ => True) (.slice Ao16 t598.length co16) t598) ∧ (Kd.N k30 30 w' w.heap.size (fun k_ => some k_ ≠ (s_.1 : Value).ownBlock ∧ some k_ ≠ (.slice Ao16 t598.length co16 : Value).ownBlock ∧ some k_ ≠ (.slice Ao19 t602.length co19 : Value).ownBlock ∧ some k_ ≠ (.slice Ao26 t607.length co26 : Value).ownBlock ∧ k_ ≠ gb601 ∧ k_ ≠ gb606 ∧ k_ ≠ gb611 ∧ k_ ≠ s_.2) (.slice Ao12 t595.length co12) t595) ∧ (Kd.N k30 30 w' w.heap.size (fun k_ => some k_ ≠ (s_.1 : Value).ownBlock ∧ some k_ ≠ (.slice Ao16 t598.length co16 : Value).ownBlock ∧ some k_ ≠ (.slice Ao26 t607.length co26 : Value).ownBlock ∧ k_ ≠ gb601 ∧ k_ ≠ gb606 ∧ k_ ≠ gb611 ∧ k_ ≠ s_.2) (.slice Ao19 t602.length co19) t602) ∧ (Kd.N k30 30 w' w.heap.size (fun k_ => some k_ ≠ (s_.1 : Value).ownBlock ∧ some k_ ≠ (.slice Ao16 t598.length co16 : Value).ownBlock ∧ some k_ ≠ (.slice Ao19 t602.length co19 : Value).ownBlock ∧ k_ ≠ gb601 ∧ k_ ≠ gb606 ∧ k_ ≠ gb611 ∧ k_ ≠ s_.2) (.slice Ao26 t607.length co26) t607) ∧ (w'.heap[gb601]? = some (.cells #[.slice Ao12 t595.length co12] 30 (0, 0))) ∧ (w'.heap[gb606]? = some (.cells #[.slice Ao19 t602.length co19] 30 (0, 0))) ∧ (w'.heap[gb611]? = some (.cells #[.slice Ao26 t607.length co26] 30 (0, 0))) ∧ (w'.heap[s_.2]? = some (.cells #[.slice none 0 0] 30 (0, 0))) ∧ (w.heap.size ≤ s_.2) ∧ (w.heap.size ≤ s_.2) ∧ (gb601 ≠ s_.2) ∧ (s_.2 ≠ gb601) ∧ (gb606 ≠ s_.2) ∧ (s_.2 ≠ gb606) ∧ (gb611 ≠ s_.2) ∧ (s_.2 ≠ gb611) ∧ (Below w.heap.size w w')) ?_ ?_
            rotate_left
            ·intro hCont
             refine two_ (i := 4) (j := 8) (Ni := some 73) (Nj := some 12) #[true, true, true, true, true, false, false, false, false, false, false] #[true, true, true, true, false, false, false, false, true, false, false] rfl rfl rfl rfl (two_of HT_.out (by kernel_rfl)) (by decide) (by decide) (fun K hK => ?_) (fun K hK => ?_)
             ·skip
              refine goes_ Try.func21 (by kernel_rfl) rfl #[.agg #[.slice Ao12 t595.length co12], .slice Ao16 y614.length co16] (by rfl) rfl rfl (by (try simp only [List.map_toArray, List.map_cons, List.map_nil]); first | done | rfl | (simp only [List.length_drop, List.length_take]; rfl)) ?_
              with_reducible refine (impl_TypeAt.calls kj8 (fun k_ => (some k_ ≠ (.slice Ao16 t598.length co16 : Value).ownBlock ∧ (some k_ ≠ (.slice Ao19 t602.length co19 : Value).ownBlock ∧ (some k_ ≠ (.slice Ao26 t607.length co26 : Value).ownBlock ∧ (k_ ≠ gb601 ∧ (k_ ≠ gb606 ∧ k_ ≠ gb611)))))) _ _ t595 _ _ y614 t619 true _ ?side1 ?side2 ?side3 A58.out).mono ?_
              (case side1 => exact Kd.N_V (HO_602000.out))
              (case side2 => exact y26 HO618.out)
              (case side3 => exact (Kd.V_reads' HO618.out).2.1)
              rintro e w67 ⟨v620, rfl, ho0, hb⟩
              refine ⟨_, rfl, ?_⟩
              have n0_ := Aside0.mk (Kd.R_below (y9 HO_6.out) hb)
              have n1_ := Aside0.mk (Kd.N_elder' (y7 HO_602000.out) (Kd.N_base ho0) hb)
              have n2_ := Aside0.mk (Kd.N_elder' (y7 HO_607000.out) (Kd.N_base ho0) hb)
              have n3_ := Aside0.mk (Kd.N_elder' (y7 HO_612000.out) (Kd.N_base ho0) hb)
              have n4_ := Aside0.mk (Kd.V_elder' (y10 HO618.out) (Kd.N_base ho0) hb)
              have n5_ := Aside0.mk (Kd.N_lower (Kd.N_mono (ok' := fun k_ => some k_ ≠ (.slice Ao16 t598.length co16 : Value).ownBlock ∧ some k_ ≠ (.slice Ao19 t602.length co19 : Value).ownBlock ∧ some k_ ≠ (.slice Ao26 t607.length co26 : Value).ownBlock ∧ k_ ≠ gb601 ∧ k_ ≠ gb606 ∧ k_ ≠ gb611) ho0 (fun k_ hk_ => ⟨Or.elim hk_ (fun hs_ => hs_.1) (fun hn_ => (Kd.fresh' (Kd.R_lt (y9 HO_6.out)) k_ hn_)), Or.elim hk_ (fun hs_ => hs_.2.1) (fun hn_ => (Kd.fresh' (Kd.N_lt (y7 HO_607000.out)) k_ hn_)), Or.elim hk_ (fun hs_ => hs_.2.2.1) (fun hn_ => (Kd.fresh' (Kd.N_lt (y7 HO_612000.out)) k_ hn_)), Or.elim hk_ (fun hs_ => hs_.2.2.2.1) (fun hn_ => (Kd.freshB (g := gb601) (o := .cells #[.slice Ao12 t595.length co12] 30 (0, 0)) (y4 BK601.out) k_ hn_)), Or.elim hk_ (fun hs_ => hs_.2.2.2.2.1) (fun hn_ => (Kd.freshB (g := gb606) (o := .cells #[.slice Ao19 t602.length co19] 30 (0, 0)) (y4 BK606.out) k_ hn_)), Or.elim hk_ (fun hs_ => hs_.2.2.2.2.2) (fun hn_ => (Kd.freshB (g := gb611) (o := .cells #[.slice Ao26 t607.length co26] 30 (0, 0)) (y4 BK611.out) k_ hn_))⟩)) (below_size (y8 HB.out GE601.out GE606.out GE611.out)))
              have n6_ := Aside0.mk (zbb BK601.out hb)
              have n7_ := Aside0.mk (zbb BK606.out hb)
              have n8_ := Aside0.mk (zbb BK611.out hb)
              have n9_ := Aside0.mk (below_step (y8 HB.out GE601.out GE606.out GE611.out) hb)
              clear HO_6
              clear HO_602000
              clear HO_607000
              clear HO_612000
              clear HO618
              clear BK601
              clear BK606
              clear BK611
              clear HB
              have HO_6 := n0_
              have HO_602000 := n1_
              have HO_607000 := n2_
              have HO_612000 := n3_
              have HO618 := n4_
              have HO621 := n5_
              have BK601 := n6_
              have BK606 := n7_
              have BK611 := n8_
              have HB := n9_
              clear n0_ n1_ n2_ n3_ n4_ n5_ n6_ n7_ n8_ n9_
              (try clear hb)
              (try clear hb2)
              (try clear hk)
              (try clear hi)
              (try clear ho0)
              refine hK.out _ _ ((blk_cell BK601.out 0).trans rfl) (fun hHeld => ?_)
              clear hK K
              refine norm_ (a' := ?_) ?_ ?_
              rotate_left
              ·show Act.put _ (some 73) _ = _
               simp only [Act.put, List.setIfInBounds_toArray, List.set_cons_zero, List.set_cons_succ, i64_w, i32_w]
               rfl
              refine pure_ (i := 5) (N := some 68) (v := ?_) (a' := ?_) #[true, true, true, true, true, true, false, false, false, false, false] rfl rfl (any_of HT_.out (by kernel_rfl)) (fun _ _ _ h => h) (Or.inl ⟨by rfl, ?_⟩) ?_ ?_
              rotate_left
              ·intro w'
               go_simp
               with_reducible rfl
              rotate_left
              ·simp only [Act.put, List.setIfInBounds_toArray, List.set_cons_zero, List.set_cons_succ, i64_w, i32_w]
               rfl
              refine pure_ (i := 6) (N := some 74) (v := ?_) (a' := ?_) #[true, true, true, true, true, true, true, false, false, false, false] rfl rfl (any_of HT_.out (by kernel_rfl)) (fun _ _ _ h => h) (Or.inl ⟨by rfl, ?_⟩) ?_ ?_
              rotate_left
              ·intro w'
               go_simp
               with_reducible rfl
              rotate_left
              ·simp only [Act.put, List.setIfInBounds_toArray, List.set_cons_zero, List.set_cons_succ, i64_w, i32_w]
               rfl
              refine pure_ (i := 7) (N := some 75) (v := ?_) (a' := ?_) #[true, true, true, true, true, true, true, true, false, false, false] rfl rfl (any_of HT_.out (by kernel_rfl)) (fun _ _ _ h => h) (Or.inl ⟨by rfl, ?_⟩) ?_ ?_
              rotate_left
              ·intro w'
               go_simp
               with_reducible rfl
              rotate_left
              ·simp only [Act.put, List.setIfInBounds_toArray, List.set_cons_zero, List.set_cons_succ, i64_w, i32_w]
               rfl
              refine one_ (i := 8) (N := some 12) #[true, true, true, true, true, true, true, true, true, false, false] rfl rfl (one_of HT_.out (by kernel_rfl)) (by decide) (fun K hK => ?_)
              refine box_step ?hg (N := 12) ?hd (cs := #[.slice none 0 0]) (t := 30) ?hr ?_; (case hd => rfl); (case hg => rfl); (case hr => first | (go_simp; done) | (go_simp; rfl))
              intro gb623 hg w68 hbox hb
              have n0_ := Aside0.mk (Kd.R_below (y9 HO_6.out) hb)
              have n1_ := Aside0.mk (Kd.N_below (Kd.N_elderB (y7 HO_602000.out) gb623 (Nat.le_of_eq hg.symm)) hb)
              have n2_ := Aside0.mk (Kd.N_below (Kd.N_elderB (y7 HO_607000.out) gb623 (Nat.le_of_eq hg.symm)) hb)
              have n3_ := Aside0.mk (Kd.N_below (Kd.N_elderB (y7 HO_612000.out) gb623 (Nat.le_of_eq hg.symm)) hb)
              have n4_ := Aside0.mk (Kd.V_below (Kd.V_elderB (y10 HO618.out) gb623 (Nat.le_of_eq hg.symm)) hb)
              have n5_ := Aside0.mk (Kd.N_below (Kd.N_elderB (y7 HO621.out) gb623 (Nat.le_of_eq hg.symm)) hb)
              have n6_ := Aside0.mk (zbb BK601.out hb)
              have n7_ := Aside0.mk (zbb BK606.out hb)
              have n8_ := Aside0.mk (zbb BK611.out hb)
              have n9_ := Aside0.mk (below_step (y8 HB.out GE601.out GE606.out GE611.out) hb)
              have n10_ := Aside0.mk (hbox)
              have n11_ := Aside0.mk ((y24 hg HB.out GE601.out GE606.out GE611.out : w.heap.size ≤ gb623))
              have n12_ := Aside0.mk ((y24 hg HB.out GE601.out GE606.out GE611.out : w.heap.size ≤ gb623))
              have n13_ := Aside0.mk (zltn hg BK601.out)
              have n14_ := Aside0.mk (zgtn hg BK601.out)
              have n15_ := Aside0.mk (zltn hg BK606.out)
              have n16_ := Aside0.mk (zgtn hg BK606.out)
              have n17_ := Aside0.mk (zltn hg BK611.out)
              have n18_ := Aside0.mk (zgtn hg BK611.out)
              clear HO_6
              clear HO_602000
              clear HO_607000
              clear HO_612000
              clear HO618
              clear HO621
              clear BK601
              clear BK606
              clear BK611
              clear HB
              have HO_6 := n0_
              have HO_602000 := n1_
              have HO_607000 := n2_
              have HO_612000 := n3_
              have HO618 := n4_
              have HO621 := n5_
              have BK601 := n6_
              have BK606 := n7_
              have BK611 := n8_
              have HB := n9_
              have BK623 := n10_
              have GW623 := n11_
              have GE623 := n12_
              have NB601_623 := n13_
              have NB623_601 := n14_
              have NB606_623 := n15_
              have NB623_606 := n16_
              have NB611_623 := n17_
              have NB623_611 := n18_
              clear n0_ n1_ n2_ n3_ n4_ n5_ n6_ n7_ n8_ n9_ n10_ n11_ n12_ n13_ n14_ n15_ n16_ n17_ n18_
              clear hb hbox hg
              refine hK.out _ _ ((blk_cell BK601.out 0).trans rfl) (fun hHeld => ?_)
              clear hK K
              refine norm_ (a' := ?_) ?_ ?_
              rotate_left
              ·show Act.put _ (some 12) _ = _
               simp only [Act.put, List.setIfInBounds_toArray, List.set_cons_zero, List.set_cons_succ, i64_w, i32_w]
               rfl
              exact norm_ (by simp only [putAll, Act.put, List.setIfInBounds_toArray, List.set_cons_zero, List.set_cons_succ]) (hCont (v620, gb623) _ ⟨hHeld, (by (with_reducible repeat (first | apply Kd.V_alloc | apply Kd.V_drewN | apply Kd.V_drew)); exact Kd.V_mono HO618.out (fun _ hk => ⟨hk.1.2, ⟨hk.1.1.1.1.1.1.1.2, ⟨hk.1.1.1.1.1.1.2, ⟨hk.1.1.1.1.1.2, ⟨hk.1.1.1.1.2, ⟨hk.1.1.1.2, ⟨hk.1.1.2, hk.2⟩⟩⟩⟩⟩⟩⟩)), (by (with_reducible repeat (first | apply Kd.N_alloc | apply Kd.N_drewN | apply Kd.N_drew)); exact Kd.N_mono HO621.out (fun _ hk => ⟨hk.1.1, ⟨hk.1.2.1, ⟨hk.1.2.2.1, ⟨hk.1.2.2.2.1, ⟨hk.1.2.2.2.2.1, ⟨hk.1.2.2.2.2.2, hk.2⟩⟩⟩⟩⟩⟩)), (y9 HO_6.out), (by (with_reducible repeat (first | apply Kd.N_alloc | apply Kd.N_drewN | apply Kd.N_drew)); exact Kd.N_mono HO_602000.out (fun _ hk => ⟨hk.1.2, ⟨hk.1.1.1, ⟨hk.1.1.2.1, ⟨hk.1.1.2.2.1, ⟨hk.1.1.2.2.2.1, ⟨hk.1.1.2.2.2.2.1, ⟨hk.1.1.2.2.2.2.2, hk.2⟩⟩⟩⟩⟩⟩⟩)), (y44 HO_607000.out), (y44 HO_612000.out), (y4 BK601.out), (y4 BK606.out), (y4 BK611.out), (y4 BK623.out), GW623.out, GE623.out, NB601_623.out, NB623_601.out, NB606_623.out, NB623_606.out, NB611_623.out, NB623_611.out, (y14 HB.out GE601.out GE606.out GE611.out GE623.out)⟩)
             ·skip
              refine box_step ?hg (N := 12) ?hd (cs := #[.slice none 0 0]) (t := 30) ?hr ?_; (case hd => rfl); (case hg => rfl); (case hr => first | (go_simp; done) | (go_simp; rfl))
              intro gb623 hg w67 hbox hb
              have n0_ := Aside0.mk (Kd.R_below (y9 HO_6.out) hb)
              have n1_ := Aside0.mk (Kd.N_below (Kd.N_elderB (y7 HO_602000.out) gb623 (Nat.le_of_eq hg.symm)) hb)
              have n2_ := Aside0.mk (Kd.N_below (Kd.N_elderB (y7 HO_607000.out) gb623 (Nat.le_of_eq hg.symm)) hb)
              have n3_ := Aside0.mk (Kd.N_below (Kd.N_elderB (y7 HO_612000.out) gb623 (Nat.le_of_eq hg.symm)) hb)
              have n4_ := Aside0.mk (Kd.V_below (Kd.V_elderB (y10 HO618.out) gb623 (Nat.le_of_eq hg.symm)) hb)
              have n5_ := Aside0.mk (zbb BK601.out hb)
              have n6_ := Aside0.mk (zbb BK606.out hb)
              have n7_ := Aside0.mk (zbb BK611.out hb)
              have n8_ := Aside0.mk (below_step (y8 HB.out GE601.out GE606.out GE611.out) hb)
              have n9_ := Aside0.mk (hbox)
              have n10_ := Aside0.mk ((y24 hg HB.out GE601.out GE606.out GE611.out : w.heap.size ≤ gb623))
              have n11_ := Aside0.mk ((y24 hg HB.out GE601.out GE606.out GE611.out : w.heap.size ≤ gb623))
              have n12_ := Aside0.mk (zltn hg BK601.out)
              have n13_ := Aside0.mk (zgtn hg BK601.out)
              have n14_ := Aside0.mk (zltn hg BK606.out)
              have n15_ := Aside0.mk (zgtn hg BK606.out)
              have n16_ := Aside0.mk (zltn hg BK611.out)
              have n17_ := Aside0.mk (zgtn hg BK611.out)
              clear HO_6
              clear HO_602000
              clear HO_607000
              clear HO_612000
              clear HO618
              clear BK601
              clear BK606
              clear BK611
              clear HB
              have HO_6 := n0_
              have HO_602000 := n1_
              have HO_607000 := n2_
              have HO_612000 := n3_
              have HO618 := n4_
              have BK601 := n5_
              have BK606 := n6_
              have BK611 := n7_
              have HB := n8_
              have BK623 := n9_
              have GW623 := n10_
              have GE623 := n11_
              have NB601_623 := n12_
              have NB623_601 := n13_
              have NB606_623 := n14_
              have NB623_606 := n15_
              have NB611_623 := n16_
              have NB623_611 := n17_
              clear n0_ n1_ n2_ n3_ n4_ n5_ n6_ n7_ n8_ n9_ n10_ n11_ n12_ n13_ n14_ n15_ n16_ n17_
              clear hb hbox hg
              refine hK.out _ _ ((blk_cell BK601.out 0).trans rfl) (fun hHeld => ?_)
              clear hK K
              refine norm_ (a' := ?_) ?_ ?_
              rotate_left
              ·show Act.put _ (some 12) _ = _
               simp only [Act.put, List.setIfInBounds_toArray, List.set_cons_zero, List.set_cons_succ, i64_w, i32_w]
               rfl
              refine one_ (i := 4) (N := some 73) #[true, true, true, true, true, false, false, false, true, false, false] rfl rfl (one_of HT_.out (by kernel_rfl)) (by decide) (fun K hK => ?_)
              refine goes_ Try.func21 (by kernel_rfl) rfl #[.agg #[.slice Ao12 t595.length co12], .slice Ao16 y614.length co16] (by rfl) rfl rfl (by (try simp only [List.map_toArray, List.map_cons, List.map_nil]); first | done | rfl | (simp only [List.length_drop, List.length_take]; rfl)) ?_
              with_reducible refine (impl_TypeAt.calls kj8 (fun k_ => ((some k_ ≠ (.slice Ao16 t598.length co16 : Value).ownBlock ∧ (some k_ ≠ (.slice Ao19 t602.length co19 : Value).ownBlock ∧ (some k_ ≠ (.slice Ao26 t607.length co26 : Value).ownBlock ∧ (k_ ≠ gb601 ∧ (k_ ≠ gb606 ∧ k_ ≠ gb611))))) ∧ k_ ≠ gb623)) _ _ t595 _ _ y614 t619 true _ ?side1 ?side2 ?side3 A58.out).mono ?_
              (case side1 => exact Kd.N_V (HO_602000.out))
              (case side2 => exact y26 HO618.out)
              (case side3 => exact (Kd.V_reads' HO618.out).2.1)
              rintro e w68 ⟨v620, rfl, ho0, hb⟩
              refine ⟨_, rfl, ?_⟩
              have n0_ := Aside0.mk (Kd.R_below (y9 HO_6.out) hb)
              have n1_ := Aside0.mk (Kd.N_elder' (y7 HO_602000.out) (Kd.N_base ho0) hb)
              have n2_ := Aside0.mk (Kd.N_elder' (y7 HO_607000.out) (Kd.N_base ho0) hb)
              have n3_ := Aside0.mk (Kd.N_elder' (y7 HO_612000.out) (Kd.N_base ho0) hb)
              have n4_ := Aside0.mk (Kd.V_elder' (y10 HO618.out) (Kd.N_base ho0) hb)
              have n5_ := Aside0.mk (Kd.N_lower (Kd.N_mono (ok' := fun k_ => some k_ ≠ (.slice Ao16 t598.length co16 : Value).ownBlock ∧ some k_ ≠ (.slice Ao19 t602.length co19 : Value).ownBlock ∧ some k_ ≠ (.slice Ao26 t607.length co26 : Value).ownBlock ∧ k_ ≠ gb601 ∧ k_ ≠ gb606 ∧ k_ ≠ gb611 ∧ k_ ≠ gb623) ho0 (fun k_ hk_ => ⟨Or.elim hk_ (fun hs_ => hs_.1.1) (fun hn_ => (Kd.fresh' (Kd.R_lt (y9 HO_6.out)) k_ hn_)), Or.elim hk_ (fun hs_ => hs_.1.2.1) (fun hn_ => (Kd.fresh' (Kd.N_lt (y7 HO_607000.out)) k_ hn_)), Or.elim hk_ (fun hs_ => hs_.1.2.2.1) (fun hn_ => (Kd.fresh' (Kd.N_lt (y7 HO_612000.out)) k_ hn_)), Or.elim hk_ (fun hs_ => hs_.1.2.2.2.1) (fun hn_ => (Kd.freshB (g := gb601) (o := .cells #[.slice Ao12 t595.length co12] 30 (0, 0)) (y4 BK601.out) k_ hn_)), Or.elim hk_ (fun hs_ => hs_.1.2.2.2.2.1) (fun hn_ => (Kd.freshB (g := gb606) (o := .cells #[.slice Ao19 t602.length co19] 30 (0, 0)) (y4 BK606.out) k_ hn_)), Or.elim hk_ (fun hs_ => hs_.1.2.2.2.2.2) (fun hn_ => (Kd.freshB (g := gb611) (o := .cells #[.slice Ao26 t607.length co26] 30 (0, 0)) (y4 BK611.out) k_ hn_)), Or.elim hk_ (fun hs_ => hs_.2) (fun hn_ => (Kd.freshB (g := gb623) (o := .cells #[.slice none 0 0] 30 (0, 0)) (y4 BK623.out) k_ hn_))⟩)) (below_size (y14 HB.out GE601.out GE606.out GE611.out GE623.out)))
              have n6_ := Aside0.mk (zbb BK601.out hb)
              have n7_ := Aside0.mk (zbb BK606.out hb)
              have n8_ := Aside0.mk (zbb BK611.out hb)
              have n9_ := Aside0.mk (zbb BK623.out hb)
              have n10_ := Aside0.mk (below_step (y14 HB.out GE601.out GE606.out GE611.out GE623.out) hb)
              clear HO_6
              clear HO_602000
              clear HO_607000
              clear HO_612000
              clear HO618
              clear BK601
              clear BK606
              clear BK611
              clear BK623
              clear HB
              have HO_6 := n0_
              have HO_602000 := n1_
              have HO_607000 := n2_
              have HO_612000 := n3_
              have HO618 := n4_
              have HO621 := n5_
              have BK601 := n6_
              have BK606 := n7_
              have BK611 := n8_
              have BK623 := n9_
              have HB := n10_
              clear n0_ n1_ n2_ n3_ n4_ n5_ n6_ n7_ n8_ n9_ n10_
              (try clear hb)
              (try clear hb2)
              (try clear hk)
              (try clear hi)
              (try clear ho0)
              refine hK.out _ _ ((blk_cell BK601.out 0).trans rfl) (fun hHeld => ?_)
              clear hK K
              refine norm_ (a' := ?_) ?_ ?_
              rotate_left
              ·show Act.put _ (some 73) _ = _
               simp only [Act.put, List.setIfInBounds_toArray, List.set_cons_zero, List.set_cons_succ, i64_w, i32_w]
               rfl
              refine pure_ (i := 5) (N := some 68) (v := ?_) (a' := ?_) #[true, true, true, true, true, true, false, false, true, false, false] rfl rfl (any_of HT_.out (by kernel_rfl)) (fun _ _ _ h => h) (Or.inl ⟨by rfl, ?_⟩) ?_ ?_
              rotate_left
              ·intro w'
               go_simp
               with_reducible rfl
              rotate_left
              ·simp only [Act.put, List.setIfInBounds_toArray, List.set_cons_zero, List.set_cons_succ, i64_w, i32_w]
               rfl
              refine pure_ (i := 6) (N := some 74) (v := ?_) (a' := ?_) #[true, true, true, true, true, true, true, false, true, false, false] rfl rfl (any_of HT_.out (by kernel_rfl)) (fun _ _ _ h => h) (Or.inl ⟨by rfl, ?_⟩) ?_ ?_
              rotate_left
              ·intro w'
               go_simp
               with_reducible rfl
              rotate_left
              ·simp only [Act.put, List.setIfInBounds_toArray, List.set_cons_zero, List.set_cons_succ, i64_w, i32_w]
               rfl
              refine pure_ (i := 7) (N := some 75) (v := ?_) (a' := ?_) #[true, true, true, true, true, true, true, true, true, false, false] rfl rfl (any_of HT_.out (by kernel_rfl)) (fun _ _ _ h => h) (Or.inl ⟨by rfl, ?_⟩) ?_ ?_
              rotate_left
              ·intro w'
               go_simp
               with_reducible rfl
              rotate_left
              ·simp only [Act.put, List.setIfInBounds_toArray, List.set_cons_zero, List.set_cons_succ, i64_w, i32_w]
               rfl
              exact norm_ (by simp only [putAll, Act.put, List.setIfInBounds_toArray, List.set_cons_zero, List.set_cons_succ]) (hCont (v620, gb623) _ ⟨hHeld, (by (with_reducible repeat (first | apply Kd.V_alloc | apply Kd.V_drewN | apply Kd.V_drew)); exact Kd.V_mono HO618.out (fun _ hk => ⟨hk.2, ⟨hk.1.1.1.1.1.1.1.2, ⟨hk.1.1.1.1.1.1.2, ⟨hk.1.1.1.1.1.2, ⟨hk.1.1.1.1.2, ⟨hk.1.1.1.2, ⟨hk.1.1.2, hk.1.2⟩⟩⟩⟩⟩⟩⟩)), (y7 HO621.out), (y9 HO_6.out), (by (with_reducible repeat (first | apply Kd.N_alloc | apply Kd.N_drewN | apply Kd.N_drew)); exact Kd.N_mono HO_602000.out (fun _ hk => ⟨hk.2, ⟨hk.1.1.1, ⟨hk.1.1.2.1, ⟨hk.1.1.2.2.1, ⟨hk.1.1.2.2.2.1, ⟨hk.1.1.2.2.2.2.1, ⟨hk.1.1.2.2.2.2.2, hk.1.2⟩⟩⟩⟩⟩⟩⟩)), (y45 HO_607000.out), (y45 HO_612000.out), (y4 BK601.out), (y4 BK606.out), (y4 BK611.out), (y4 BK623.out), GW623.out, GE623.out, NB601_623.out, NB623_601.out, NB606_623.out, NB623_606.out, NB611_623.out, NB623_611.out, (y14 HB.out GE601.out GE606.out GE611.out GE623.out)⟩)
            rintro ⟨v620, gb623⟩ w69 ⟨hS_, h0_, h1_, h2_, h3_, h4_, h5_, h6_, h7_, h8_, h9_, h10_, h11_, h12_, h13_, h14_, h15_, h16_, h17_, h18_⟩
            have n0_ : Aside0 (Kd.V (Kd.int .i64) 3 w69 w.heap.size (fun k_ => some k_ ≠ (v620 : Value).ownBlock ∧ some k_ ≠ (.slice Ao12 t595.length co12 : Value).ownBlock ∧ some k_ ≠ (.slice Ao19 t602.length co19 : Value).ownBlock ∧ some k_ ≠ (.slice Ao26 t607.length co26 : Value).ownBlock ∧ k_ ≠ gb601 ∧ k_ ≠ gb606 ∧ k_ ≠ gb611 ∧ k_ ≠ gb623) (.slice Ao16 y614.length co16) y614) := ⟨h0_⟩
            have n1_ : Aside0 (Kd.N k30 30 w69 w.heap.size (fun k_ => some k_ ≠ (.slice Ao16 t598.length co16 : Value).ownBlock ∧ some k_ ≠ (.slice Ao19 t602.length co19 : Value).ownBlock ∧ some k_ ≠ (.slice Ao26 t607.length co26 : Value).ownBlock ∧ k_ ≠ gb601 ∧ k_ ≠ gb606 ∧ k_ ≠ gb611 ∧ k_ ≠ gb623) v620 t619) := ⟨h1_⟩
            have n2_ : Aside0 (Kd.R (Kd.int .i64) 3 w69 w.heap.size (fun _ => True) (.slice Ao16 t598.length co16) t598) := ⟨h2_⟩
            have n3_ : Aside0 (Kd.N k30 30 w69 w.heap.size (fun k_ => some k_ ≠ (v620 : Value).ownBlock ∧ some k_ ≠ (.slice Ao16 t598.length co16 : Value).ownBlock ∧ some k_ ≠ (.slice Ao19 t602.length co19 : Value).ownBlock ∧ some k_ ≠ (.slice Ao26 t607.length co26 : Value).ownBlock ∧ k_ ≠ gb601 ∧ k_ ≠ gb606 ∧ k_ ≠ gb611 ∧ k_ ≠ gb623) (.slice Ao12 t595.length co12) t595) := ⟨h3_⟩
            have n4_ : Aside0 (Kd.N k30 30 w69 w.heap.size (fun k_ => some k_ ≠ (v620 : Value).ownBlock ∧ some k_ ≠ (.slice Ao16 t598.length co16 : Value).ownBlock ∧ some k_ ≠ (.slice Ao26 t607.length co26 : Value).ownBlock ∧ k_ ≠ gb601 ∧ k_ ≠ gb606 ∧ k_ ≠ gb611 ∧ k_ ≠ gb623) (.slice Ao19 t602.length co19) t602) := ⟨h4_⟩
            have n5_ : Aside0 (Kd.N k30 30 w69 w.heap.size (fun k_ => some k_ ≠ (v620 : Value).ownBlock ∧ some k_ ≠ (.slice Ao16 t598.length co16 : Value).ownBlock ∧ some k_ ≠ (.slice Ao19 t602.length co19 : Value).ownBlock ∧ k_ ≠ gb601 ∧ k_ ≠ gb606 ∧ k_ ≠ gb611 ∧ k_ ≠ gb623) (.slice Ao26 t607.length co26) t607) := ⟨h5_⟩
            have n6_ : Aside0 (w69.heap[gb601]? = some (.cells #[.slice Ao12 t595.length co12] 30 (0, 0))) := ⟨h6_⟩
            have n7_ : Aside0 (w69.heap[gb606]? = some (.cells #[.slice Ao19 t602.length co19] 30 (0, 0))) := ⟨h7_⟩
            have n8_ : Aside0 (w69.heap[gb611]? = some (.cells #[.slice Ao26 t607.length co26] 30 (0, 0))) := ⟨h8_⟩
            have n9_ : Aside0 (w69.heap[gb623]? = some (.cells #[.slice none 0 0] 30 (0, 0))) := ⟨h9_⟩
            have n10_ : Aside0 (w.heap.size ≤ gb623) := ⟨h10_⟩
            have n11_ : Aside0 (w.heap.size ≤ gb623) := ⟨h11_⟩
            have n12_ : Aside0 (gb601 ≠ gb623) := ⟨h12_⟩
            have n13_ : Aside0 (gb623 ≠ gb601) := ⟨h13_⟩
            have n14_ : Aside0 (gb606 ≠ gb623) := ⟨h14_⟩
            have n15_ : Aside0 (gb623 ≠ gb606) := ⟨h15_⟩
            have n16_ : Aside0 (gb611 ≠ gb623) := ⟨h16_⟩
            have n17_ : Aside0 (gb623 ≠ gb611) := ⟨h17_⟩
            have n18_ : Aside0 (Below w.heap.size w w69) := ⟨h18_⟩
            clear HO_6
            clear HO_602000
            clear HO_607000
            clear HO_612000
            clear BK601
            clear BK606
            clear BK611
            clear HB
            clear h0_ h1_ h2_ h3_ h4_ h5_ h6_ h7_ h8_ h9_ h10_ h11_ h12_ h13_ h14_ h15_ h16_ h17_ h18_
            have HO618 := n0_
            have HO621 := n1_
            have HO_6 := n2_
            have HO_602000 := n3_
            have HO_607000 := n4_
            have HO_612000 := n5_
            have BK601 := n6_
            have BK606 := n7_
            have BK611 := n8_
            have BK623 := n9_
            have GW623 := n10_
            have GE623 := n11_
            have NB601_623 := n12_
            have NB623_601 := n13_
            have NB606_623 := n14_
            have NB623_606 := n15_
            have NB611_623 := n16_
            have NB623_611 := n17_
            have HB := n18_
            clear n0_ n1_ n2_ n3_ n4_ n5_ n6_ n7_ n8_ n9_ n10_ n11_ n12_ n13_ n14_ n15_ n16_ n17_ n18_
            have hHeld : w69.cell? ⟨gb601, 0, none⟩ = some (.slice Ao12 t595.length co12) := hS_
            obtain ⟨Ao70, co70, eo70⟩ := Kd.N_slice HO621.out
            (first | subst eo70 | (injection eo70 with f1_ f2_ f3_; have f4_ := f1_.symm; have f5_ := f3_.symm; clear f1_ f2_ f3_; subst f4_; subst f5_))
            refine norm_ (a' := ?_) ?_ ?_
            rotate_left
            ·simp only [putAll, Act.put, List.setIfInBounds_toArray, List.set_cons_zero, List.set_cons_succ]
             rfl
            refine one_ (i := 9) (N := none) #[true, true, true, true, true, true, true, true, true, true, false] rfl rfl (one_of HT_.out (by kernel_rfl)) (by decide) (fun K hK => ?_)
            have hs71 : w69.cell? ⟨gb623, 0, none⟩ = some (.slice none 0 0) := (blk_cell BK623.out 0).trans rfl
            have hfs71 := blk_frozen BK623.out 0
            have hns71_0 := NB601_623.out
            have hns71_1 := NB606_623.out
            have hns71_2 := NB611_623.out
            have hms71_0 := NB623_601.out
            have hms71_1 := NB623_606.out
            have hms71_2 := NB623_611.out
            refine skip_ (w1 := ?_) (by rfl) rfl ?_ ?_
            rotate_left
            ·go_simp
             rfl
            refine hK.out _ _ (((cell_far (p := ⟨gb623, _, none⟩) NB601_623.out _).trans (hHeld))) (fun hHeld => ?_)
            clear hK K
            refine pure_ (i := 10) (N := some 13) (v := ?_) (a' := ?_) #[true, true, true, true, true, true, true, true, true, true, true] rfl rfl (any_of HT_.out (by kernel_rfl)) (fun _ _ _ h => h) (Or.inl ⟨by rfl, ?_⟩) ?_ ?_
            rotate_left
            ·intro w'
             go_simp
             with_reducible rfl
            rotate_left
            ·simp only [Act.put, List.setIfInBounds_toArray, List.set_cons_zero, List.set_cons_succ, i64_w, i32_w]
             rfl
            refine done_ (done_of HT_.out (by kernel_rfl)) ?_
            try go_wp2
            have n0_ : Aside0 (Kd.R (Kd.int .i64) 3 (w69.setCell ⟨gb623, 0, none⟩ (.slice Ao70 t619.length co70)) w.heap.size (fun _ => True) (.slice Ao16 t598.length co16) t598) := ⟨by (with_reducible repeat (first | apply Kd.R_alloc | apply Kd.R_drewN | apply Kd.R_drew)); exact Kd.R_mono (Kd.R_far (p := ⟨gb623, 0, none⟩) (Kd.R_types HO_6.out BK623.out (by decide)) (fun _ hk => hk.2) (.slice Ao70 t619.length co70)) (fun _ hk => trivial)⟩
            have n1_ : Aside0 (Kd.N k30 30 (w69.setCell ⟨gb623, 0, none⟩ (.slice Ao70 t619.length co70)) w.heap.size (fun k_ => some k_ ≠ (.slice Ao16 t598.length co16 : Value).ownBlock ∧ some k_ ≠ (.slice Ao19 t602.length co19 : Value).ownBlock ∧ some k_ ≠ (.slice Ao26 t607.length co26 : Value).ownBlock ∧ some k_ ≠ (.slice Ao70 t619.length co70 : Value).ownBlock ∧ k_ ≠ gb601 ∧ k_ ≠ gb606 ∧ k_ ≠ gb611 ∧ k_ ≠ gb623) (.slice Ao12 t595.length co12) t595) := ⟨by (with_reducible repeat (first | apply Kd.N_alloc | apply Kd.N_drewN | apply Kd.N_drew)); exact Kd.N_mono (Kd.N_far (p := ⟨gb623, 0, none⟩) (Kd.N_mono HO_602000.out (fun k_ hk => (⟨hk, hk.2.2.2.2.2.2.2⟩ : _ ∧ k_ ≠ gb623))) (fun _ hk => hk.2) (.slice Ao70 t619.length co70)) (fun _ hk => ⟨hk.1.2.1, ⟨hk.1.2.2.1, ⟨hk.1.2.2.2.1, ⟨hk.1.1, ⟨hk.1.2.2.2.2.1, ⟨hk.1.2.2.2.2.2.1, ⟨hk.1.2.2.2.2.2.2.1, hk.1.2.2.2.2.2.2.2⟩⟩⟩⟩⟩⟩⟩)⟩
            have n2_ : Aside0 (Kd.N k30 30 (w69.setCell ⟨gb623, 0, none⟩ (.slice Ao70 t619.length co70)) w.heap.size (fun k_ => some k_ ≠ (.slice Ao16 t598.length co16 : Value).ownBlock ∧ some k_ ≠ (.slice Ao26 t607.length co26 : Value).ownBlock ∧ some k_ ≠ (.slice Ao70 t619.length co70 : Value).ownBlock ∧ k_ ≠ gb601 ∧ k_ ≠ gb606 ∧ k_ ≠ gb611 ∧ k_ ≠ gb623) (.slice Ao19 t602.length co19) t602) := ⟨by (with_reducible repeat (first | apply Kd.N_alloc | apply Kd.N_drewN | apply Kd.N_drew)); exact Kd.N_mono (Kd.N_far (p := ⟨gb623, 0, none⟩) (Kd.N_mono HO_607000.out (fun k_ hk => (⟨hk, hk.2.2.2.2.2.2⟩ : _ ∧ k_ ≠ gb623))) (fun _ hk => hk.2) (.slice Ao70 t619.length co70)) (fun _ hk => ⟨hk.1.2.1, ⟨hk.1.2.2.1, ⟨hk.1.1, ⟨hk.1.2.2.2.1, ⟨hk.1.2.2.2.2.1, ⟨hk.1.2.2.2.2.2.1, hk.1.2.2.2.2.2.2⟩⟩⟩⟩⟩⟩)⟩
            have n3_ : Aside0 (Kd.N k30 30 (w69.setCell ⟨gb623, 0, none⟩ (.slice Ao70 t619.length co70)) w.heap.size (fun k_ => some k_ ≠ (.slice Ao16 t598.length co16 : Value).ownBlock ∧ some k_ ≠ (.slice Ao19 t602.length co19 : Value).ownBlock ∧ some k_ ≠ (.slice Ao70 t619.length co70 : Value).ownBlock ∧ k_ ≠ gb601 ∧ k_ ≠ gb606 ∧ k_ ≠ gb611 ∧ k_ ≠ gb623) (.slice Ao26 t607.length co26) t607) := ⟨by (with_reducible repeat (first | apply Kd.N_alloc | apply Kd.N_drewN | apply Kd.N_drew)); exact Kd.N_mono (Kd.N_far (p := ⟨gb623, 0, none⟩) (Kd.N_mono HO_612000.out (fun k_ hk => (⟨hk, hk.2.2.2.2.2.2⟩ : _ ∧ k_ ≠ gb623))) (fun _ hk => hk.2) (.slice Ao70 t619.length co70)) (fun _ hk => ⟨hk.1.2.1, ⟨hk.1.2.2.1, ⟨hk.1.1, ⟨hk.1.2.2.2.1, ⟨hk.1.2.2.2.2.1, ⟨hk.1.2.2.2.2.2.1, hk.1.2.2.2.2.2.2⟩⟩⟩⟩⟩⟩)⟩
            have n4_ : Aside0 (Kd.V (Kd.int .i64) 3 (w69.setCell ⟨gb623, 0, none⟩ (.slice Ao70 t619.length co70)) w.heap.size (fun k_ => some k_ ≠ (.slice Ao12 t595.length co12 : Value).ownBlock ∧ some k_ ≠ (.slice Ao19 t602.length co19 : Value).ownBlock ∧ some k_ ≠ (.slice Ao26 t607.length co26 : Value).ownBlock ∧ some k_ ≠ (.slice Ao70 t619.length co70 : Value).ownBlock ∧ k_ ≠ gb601 ∧ k_ ≠ gb606 ∧ k_ ≠ gb611 ∧ k_ ≠ gb623) (.slice Ao16 y614.length co16) y614) := ⟨by (with_reducible repeat (first | apply Kd.V_alloc | apply Kd.V_drewN | apply Kd.V_drew)); exact Kd.V_mono (Kd.V_far (p := ⟨gb623, 0, none⟩) (Kd.V_mono HO618.out (fun k_ hk => (⟨hk, hk.2.2.2.2.2.2.2⟩ : _ ∧ k_ ≠ gb623))) (fun _ hk => hk.2) (.slice Ao70 t619.length co70)) (fun _ hk => ⟨hk.1.2.1, ⟨hk.1.2.2.1, ⟨hk.1.2.2.2.1, ⟨hk.1.1, ⟨hk.1.2.2.2.2.1, ⟨hk.1.2.2.2.2.2.1, ⟨hk.1.2.2.2.2.2.2.1, hk.1.2.2.2.2.2.2.2⟩⟩⟩⟩⟩⟩⟩)⟩
            have n5_ : Aside0 (Kd.N k30 30 (w69.setCell ⟨gb623, 0, none⟩ (.slice Ao70 t619.length co70)) w.heap.size (fun k_ => some k_ ≠ (.slice Ao16 t598.length co16 : Value).ownBlock ∧ some k_ ≠ (.slice Ao19 t602.length co19 : Value).ownBlock ∧ some k_ ≠ (.slice Ao26 t607.length co26 : Value).ownBlock ∧ k_ ≠ gb601 ∧ k_ ≠ gb606 ∧ k_ ≠ gb611 ∧ k_ ≠ gb623) (.slice Ao70 t619.length co70) t619) := ⟨by (with_reducible repeat (first | apply Kd.N_alloc | apply Kd.N_drewN | apply Kd.N_drew)); exact Kd.N_mono (Kd.N_far (p := ⟨gb623, 0, none⟩) (Kd.N_mono HO621.out (fun k_ hk => (⟨hk, hk.2.2.2.2.2.2⟩ : _ ∧ k_ ≠ gb623))) (fun _ hk => hk.2) (.slice Ao70 t619.length co70)) (fun _ hk => ⟨hk.1.1, ⟨hk.1.2.1, ⟨hk.1.2.2.1, ⟨hk.1.2.2.2.1, ⟨hk.1.2.2.2.2.1, ⟨hk.1.2.2.2.2.2.1, hk.1.2.2.2.2.2.2⟩⟩⟩⟩⟩⟩)⟩
            have n6_ : Aside0 ((w69.setCell ⟨gb623, 0, none⟩ (.slice Ao70 t619.length co70)).heap[gb601]? = some (.cells #[.slice Ao12 t595.length co12] 30 (0, 0))) := ⟨by (with_reducible repeat (first | refine blk_drewN ?_ _ | refine blk_drew ?_ | refine blk_alloc ?_ _)); refine blk_far ?_ NB601_623.out _; (with_reducible repeat (first | refine blk_drewN ?_ _ | refine blk_drew ?_ | refine blk_alloc ?_ _)); exact BK601.out⟩
            have n7_ : Aside0 ((w69.setCell ⟨gb623, 0, none⟩ (.slice Ao70 t619.length co70)).heap[gb606]? = some (.cells #[.slice Ao19 t602.length co19] 30 (0, 0))) := ⟨by (with_reducible repeat (first | refine blk_drewN ?_ _ | refine blk_drew ?_ | refine blk_alloc ?_ _)); refine blk_far ?_ NB606_623.out _; (with_reducible repeat (first | refine blk_drewN ?_ _ | refine blk_drew ?_ | refine blk_alloc ?_ _)); exact BK606.out⟩
            have n8_ : Aside0 ((w69.setCell ⟨gb623, 0, none⟩ (.slice Ao70 t619.length co70)).heap[gb611]? = some (.cells #[.slice Ao26 t607.length co26] 30 (0, 0))) := ⟨by (with_reducible repeat (first | refine blk_drewN ?_ _ | refine blk_drew ?_ | refine blk_alloc ?_ _)); refine blk_far ?_ NB611_623.out _; (with_reducible repeat (first | refine blk_drewN ?_ _ | refine blk_drew ?_ | refine blk_alloc ?_ _)); exact BK611.out⟩
            have n9_ : Aside0 ((w69.setCell ⟨gb623, 0, none⟩ (.slice Ao70 t619.length co70)).heap[gb623]? = some (.cells #[.slice Ao70 t619.length co70] 30 (0, 0))) := ⟨by (with_reducible repeat (first | refine blk_drewN ?_ _ | refine blk_drew ?_ | refine blk_alloc ?_ _)); refine blk_put (cs := #[.slice none 0 0]) ?_ 0 _ rfl; (with_reducible repeat (first | refine blk_drewN ?_ _ | refine blk_drew ?_ | refine blk_alloc ?_ _)); exact BK623.out⟩
            have n10_ : Aside0 (Below w.heap.size w (w69.setCell ⟨gb623, 0, none⟩ (.slice Ao70 t619.length co70))) := ⟨by repeat (first | (with_reducible first | exact HB.out | apply below_alloc | apply pw_below_drewN | apply below_drew1 | refine below_set ?_ GE601.out | refine below_set ?_ GE606.out | refine below_set ?_ GE611.out | refine below_set ?_ GE623.out) | exact HB.out)⟩
            (try clear HO_6)
            (try clear HO_602000)
            (try clear HO_607000)
            (try clear HO_612000)
            (try clear HO618)
            (try clear HO621)
            (try clear BK601)
            (try clear BK606)
            (try clear BK611)
            (try clear BK623)
            (try clear HB)
            generalize (w69.setCell ⟨gb623, 0, none⟩ (.slice Ao70 t619.length co70)) = w72 at n0_ n1_ n2_ n3_ n4_ n5_ n6_ n7_ n8_ n9_ n10_ ⊢
            have HO_6 := n0_
            have HO_602000 := n1_
            have HO_607000 := n2_
            have HO_612000 := n3_
            have HO618 := n4_
            have HO621 := n5_
            have BK601 := n6_
            have BK606 := n7_
            have BK611 := n8_
            have BK623 := n9_
            have HB := n10_
            clear n0_ n1_ n2_ n3_ n4_ n5_ n6_ n7_ n8_ n9_ n10_
            replace HO_6 := Aside0.mk (Kd.R_drew HO_6.out)
            replace HO_602000 := Aside0.mk (Kd.N_drew HO_602000.out)
            replace HO_607000 := Aside0.mk (Kd.N_drew HO_607000.out)
            replace HO_612000 := Aside0.mk (Kd.N_drew HO_612000.out)
            replace HO618 := Aside0.mk (Kd.V_drew HO618.out)
            replace HO621 := Aside0.mk (Kd.N_drew HO621.out)
            replace BK601 := Aside0.mk (blk_drew BK601.out)
            replace BK606 := Aside0.mk (blk_drew BK606.out)
            replace BK611 := Aside0.mk (blk_drew BK611.out)
            replace BK623 := Aside0.mk (blk_drew BK623.out)
            replace HB := Aside0.mk (below_drew1 HB.out)
            have q74 : ((ji55) : Int) ≤ ((t598.length : Int) : Int) := of_decide_eq_true (by first | (with_reducible assumption) | assumption)
            obtain ⟨i074, hi074, _, hsz74, _⟩ := info_parts info3
            have hroom74 : t598.length ≤ co16 := (Kd.R_reads' HO_6.out).2.1
            have hC74 : Kd.F (Kd.int .i64) _ _ Ao16 t598.length t598 := (Kd.V_at (base := w.heap.size) (Kd.R_V (Kd.R_types (Kd.R_types (Kd.R_types (Kd.R_types (Kd.R_apart' (Kd.R_apart' (Kd.R_apart' (Kd.R_apart' (HO_6.out) (Kd.N_typed HO_602000.out) (by decide)) (Kd.N_typed HO_607000.out) (by decide)) (Kd.N_typed HO_612000.out) (by decide)) (Kd.N_typed HO621.out) (by decide)) BK601.out (by decide)) BK606.out (by decide)) BK611.out (by decide)) BK623.out (by decide)))).2.2
            have q074 : (0 : Int) ≤ ((ji55) : Int) := of_decide_eq_true (by first | (with_reducible assumption) | assumption)
            have hcut74 := cut_from (P := Try.prog) 38 3 .i64 Try.underlying38 hi074 1 hsz74 Ao16 t598.length co16 (ji55) q074 q74
            have hr74 := Kd.F_cut (m := ((ji55) : Int).toNat) (c := co16) hC74 (by omega) hroom74
            obtain ⟨A74, hA74⟩ : ∃ A1, A1 = (if co16 = ((ji55) : Int).toNat then Ao16 else (Ao16 : Option Addr).map (·.add (((ji55) : Int).toNat * 1))) := ⟨_, rfl⟩
            obtain ⟨c74, hc74⟩ : ∃ c1, c1 = co16 - ((ji55) : Int).toNat := ⟨_, rfl⟩
            have hy74 : y624.length = t598.length - ((ji55) : Int).toNat := (by rw [Ny624.out, List.length_drop] <;> omega)
            rw [show (t598).drop ((ji55) : Int).toNat = y624 from Ny624.out.symm] at hr74
            replace hr74 : Kd.F (Kd.int .i64) _ _ A74 y624.length y624 := (by rw [hA74]; exact hr74)
            rw [← hy74, ← hA74, ← hc74] at hcut74
            have HO628 := Aside0.mk (show Kd.V (Kd.int .i64) 3 _ w.heap.size _ (.slice A74 y624.length c74) y624 from Kd.V_mk (by rw [hy74, hc74]; exact Nat.sub_le_sub_right hroom74 _) hr74)
            have HC628 := Aside0.mk (show y624.length ≤ c74 from by rw [hy74, hc74]; exact Nat.sub_le_sub_right hroom74 _)
            clear hr74 hC74 hroom74 hi074 hsz74 hc74
            have KY74 := Aside0.mk hy74
            have KA74 := Aside0.mk hA74
            clear hy74 hA74
            replace q74 := eq_true q74
            refine start_ (n := 11) (S := fun w' => w'.cell? ⟨gb623, 0, none⟩ = some (.slice Ao70 t619.length co70)) (ds := []) #[false, false, false, false, false, false, false, false, false, false, false] (by kernel_rfl) rfl rfl ((blk_cell BK623.out 0).trans rfl) (fun hHeld => ?_); refine with_tabW laws_FnTypeAt.tab10 laws_FnTypeAt.bits10 (fun HT_ HW_ => ?_)
            generalize w72.drew = w73 at HO_6 HO_602000 HO_607000 HO_612000 HO618 HO621 BK601 BK606 BK611 BK623 HB HO628 hHeld ⊢
            refine pure_ (i := 1) (N := some 78) (v := ?_) (a' := ?_) #[false, true, false, false, false, false, false, false, false, false, false] rfl rfl (any_of HT_.out (by kernel_rfl)) (fun _ _ _ h => h) (Or.inl ⟨by rfl, ?_⟩) ?_ ?_
            rotate_left
            ·intro w'
             go_simp
             with_reducible rfl
            rotate_left
            ·simp only [Act.put, List.setIfInBounds_toArray, List.set_cons_zero, List.set_cons_succ, i64_w, i32_w]
             rfl
            refine pure_ (i := 2) (N := some 79) (v := ?_) (a' := ?_) #[false, true, true, false, false, false, false, false, false, false, false] rfl rfl (any_of HT_.out (by kernel_rfl)) (fun _ _ _ h => h) (Or.inl ⟨by rfl, ?_⟩) ?_ ?_
            rotate_left
            ·intro w'
             go_simp
             with_reducible rfl
            rotate_left
            ·simp only [Act.put, List.setIfInBounds_toArray, List.set_cons_zero, List.set_cons_succ, i64_w, i32_w]
             rfl
            refine pure_ (i := 3) (N := some 80) (v := ?_) (a' := ?_) #[false, true, true, true, false, false, false, false, false, false, false] rfl rfl (any_of HT_.out (by kernel_rfl)) (fun _ _ _ h => h) (Or.inl ⟨by rfl, ?_⟩) ?_ ?_
            rotate_left
            ·intro w'
             go_simp
             with_reducible rfl
            rotate_left
            ·simp only [Act.put, List.setIfInBounds_toArray, List.set_cons_zero, List.set_cons_succ, i64_w, i32_w]
             rfl
            refine take_ (i := 0) (N := some 77) (v := ?_) (a' := ?_) #[true, true, true, true, false, false, false, false, false, false, false] rfl rfl (take_ofW HT_.out HW_.out (by kernel_rfl)) (fun _ _ _ h => h) (Or.inl ⟨by rfl, ?_⟩) hHeld ?_ ?_
            rotate_left
            ·intro w' s0
             go_simp
             with_reducible rfl
            rotate_left
            ·simp only [Act.put, List.setIfInBounds_toArray, List.set_cons_zero, List.set_cons_succ, i64_w, i32_w]
             rfl
            refine join_ (σ := Value × Nat) 2 #[true, true, true, true, true, true, true, true, true, false, false] (fun s_ => [(81, .tuple #[.agg #[s_.1], .bool true]), (14, .pointer (some ⟨s_.2, 0, none⟩)), (76, .tuple #[.agg #[s_.1], .bool true]), (82, .agg #[s_.1]), (83, .bool true)]) (fun s_ w' => (w'.cell? ⟨gb623, 0, none⟩ = some (.slice Ao70 t619.length co70)) ∧ (Kd.V (Kd.int .i64) 3 w' w.heap.size (fun k_ => some k_ ≠ (.slice Ao70 t619.length co70 : Value).ownBlock ∧ some k_ ≠ (s_.1 : Value).ownBlock ∧ some k_ ≠ (.slice Ao12 t595.length co12 : Value).ownBlock ∧ some k_ ≠ (.slice Ao19 t602.length co19 : Value).ownBlock ∧ some k_ ≠ (.slice Ao26 t607.length co26 : Value).ownBlock ∧ k_ ≠ gb601 ∧ k_ ≠ gb606 ∧ k_ ≠ gb611 ∧ k_ ≠ gb623 ∧ k_ ≠ s_.2) (.slice Ao16 y614.length co16) y614) ∧ (Kd.N k30 30 w' w.heap.size (fun k_ => some k_ ≠ (s_.1 : Value).ownBlock ∧ some k_ ≠ (.slice Ao16 t598.length co16 : Value).ownBlock ∧ some k_ ≠ (.slice Ao19 t602.length co19 : Value).ownBlock ∧ some k_ ≠ (.slice Ao26 t607.length co26 : Value).ownBlock ∧ k_ ≠ gb601 ∧ k_ ≠ gb606 ∧ k_ ≠ gb611 ∧ k_ ≠ gb623 ∧ k_ ≠ s_.2) (.slice Ao70 t619.length co70) t619) ∧ (Kd.V (Kd.int .i64) 3 w' w.heap.size (fun k_ => some k_ ≠ (.slice Ao70 t619.length co70 : Value).ownBlock ∧ some k_ ≠ (s_.1 : Value).ownBlock ∧ some k_ ≠ (.slice Ao12 t595.length co12 : Value).ownBlock ∧ some k_ ≠ (.slice Ao19 t602.length co19 : Value).ownBlock ∧ some k_ ≠ (.slice Ao26 t607.length co26 : Value).ownBlock ∧ k_ ≠ gb601 ∧ k_ ≠ gb606 ∧ k_ ≠ gb611 ∧ k_ ≠ gb623 ∧ k_ ≠ s_.2) (.slice A74 y624.length c74) y624) ∧ (Kd.N k30 30 w' w.heap.size (fun k_ => some k_ ≠ (.slice Ao16 t598.length co16 : Value).ownBlock ∧ some k_ ≠ (.slice Ao19 t602.length co19 : Value).ownBlock ∧ some k_ ≠ (.slice Ao26 t607.length co26 : Value).ownBlock ∧ k_ ≠ gb601 ∧ k_ ≠ gb606 ∧ k_ ≠ gb611 ∧ k_ ≠ gb623 ∧ k_ ≠ s_.2) s_.1 t629) ∧ (Kd.R (Kd.int .i64) 3 w' w.heap.size (fun _ => True) (.slice Ao16 t598.length co16) t598) ∧ (Kd.N k30 30 w' w.heap.size (fun k_ => some k_ ≠ (.slice Ao70 t619.length co70 : Value).ownBlock ∧ some k_ ≠ (s_.1 : Value).ownBlock ∧ some k_ ≠ (.slice Ao16 t598.length co16 : Value).ownBlock ∧ some k_ ≠ (.slice Ao19 t602.length co19 : Value).ownBlock ∧ some k_ ≠ (.slice Ao26 t607.length co26 : Value).ownBlock ∧ k_ ≠ gb601 ∧ k_ ≠ gb606 ∧ k_ ≠ gb611 ∧ k_ ≠ gb623 ∧ k_ ≠ s_.2) (.slice Ao12 t595.length co12) t595) ∧ (Kd.N k30 30 w' w.heap.size (fun k_ => some k_ ≠ (.slice Ao70 t619.length co70 : Value).ownBlock ∧ some k_ ≠ (s_.1 : Value).ownBlock ∧ some k_ ≠ (.slice Ao16 t598.length co16 : Value).ownBlock ∧ some k_ ≠ (.slice Ao26 t607.length co26 : Value).ownBlock ∧ k_ ≠ gb601 ∧ k_ ≠ gb606 ∧ k_ ≠ gb611 ∧ k_ ≠ gb623 ∧ k_ ≠ s_.2) (.slice Ao19 t602.length co19) t602) ∧ (Kd.N k30 30 w' w.heap.size (fun k_ => some k_ ≠ (.slice Ao70 t619.length co70 : Value).ownBlock ∧ some k_ ≠ (s_.1 : Value).ownBlock ∧ some k_ ≠ (.slice Ao16 t598.length co16 : Value).ownBlock ∧ some k_ ≠ (.slice Ao19 t602.length co19 : Value).ownBlock ∧ k_ ≠ gb601 ∧ k_ ≠ gb606 ∧ k_ ≠ gb611 ∧ k_ ≠ gb623 ∧ k_ ≠ s_.2) (.slice Ao26 t607.length co26) t607) ∧ (w'.heap[gb601]? = some (.cells #[.slice Ao12 t595.length co12] 30 (0, 0))) ∧ (w'.heap[gb606]? = some (.cells #[.slice Ao19 t602.length co19] 30 (0, 0))) ∧ (w'.heap[gb611]? = some (.cells #[.slice Ao26 t607.length co26] 30 (0, 0))) ∧ (w'.heap[gb623]? = some (.cells #[.slice Ao70 t619.length co70] 30 (0, 0))) ∧ (w'.heap[s_.2]? = some (.cells #[.slice none 0 0] 30 (0, 0))) ∧ (w.heap.size ≤ s_.2) ∧ (w.heap.size ≤ s_.2) ∧ (gb601 ≠ s_.2) ∧ (s_.2 ≠ gb601) ∧ (gb606 ≠ s_.2) ∧ (s_.2 ≠ gb606) ∧ (gb611 ≠ s_.2) ∧ (s_.2 ≠ gb611) ∧ (gb623 ≠ s_.2) ∧ (s_.2 ≠ gb623) ∧ (Below w.heap.size w w')) ?_ ?_
            rotate_left
            ·intro hCont
             refine two_ (i := 4) (j := 8) (Ni := some 81) (Nj := some 14) #[true, true, true, true, true, false, false, false, false, false, false] #[true, true, true, true, false, false, false, false, true, false, false] rfl rfl rfl rfl (two_of HT_.out (by kernel_rfl)) (by decide) (by decide) (fun K hK => ?_) (fun K hK => ?_)
             ·skip
              refine goes_ Try.func21 (by kernel_rfl) rfl #[.agg #[.slice Ao70 t619.length co70], .slice A74 y624.length c74] (by rfl) rfl rfl (by (try simp only [List.map_toArray, List.map_cons, List.map_nil]); first | done | rfl | (simp only [List.length_drop, List.length_take]; rfl)) ?_
              with_reducible refine (impl_TypeAt.calls kj8 (fun k_ => (some k_ ≠ (.slice Ao16 t598.length co16 : Value).ownBlock ∧ (some k_ ≠ (.slice Ao19 t602.length co19 : Value).ownBlock ∧ (some k_ ≠ (.slice Ao26 t607.length co26 : Value).ownBlock ∧ (k_ ≠ gb601 ∧ (k_ ≠ gb606 ∧ (k_ ≠ gb611 ∧ k_ ≠ gb623))))))) _ _ t619 _ _ y624 t629 true _ ?side1 ?side2 ?side3 A61.out).mono ?_
              (case side1 => exact Kd.N_V (HO621.out))
              (case side2 => exact y26 HO628.out)
              (case side3 => exact (Kd.V_reads' HO628.out).2.1)
              rintro e w75 ⟨v630, rfl, ho0, hb⟩
              refine ⟨_, rfl, ?_⟩
              have n0_ := Aside0.mk (Kd.R_below (y9 HO_6.out) hb)
              have n1_ := Aside0.mk (Kd.N_elder' (y7 HO_602000.out) (Kd.N_base ho0) hb)
              have n2_ := Aside0.mk (Kd.N_elder' (y7 HO_607000.out) (Kd.N_base ho0) hb)
              have n3_ := Aside0.mk (Kd.N_elder' (y7 HO_612000.out) (Kd.N_base ho0) hb)
              have n4_ := Aside0.mk (Kd.V_elder' (y10 HO618.out) (Kd.N_base ho0) hb)
              have n5_ := Aside0.mk (Kd.N_elder' (y7 HO621.out) (Kd.N_base ho0) hb)
              have n6_ := Aside0.mk (Kd.V_elder' (y10 HO628.out) (Kd.N_base ho0) hb)
              have n7_ := Aside0.mk (Kd.N_lower (Kd.N_mono (ok' := fun k_ => some k_ ≠ (.slice Ao16 t598.length co16 : Value).ownBlock ∧ some k_ ≠ (.slice Ao19 t602.length co19 : Value).ownBlock ∧ some k_ ≠ (.slice Ao26 t607.length co26 : Value).ownBlock ∧ k_ ≠ gb601 ∧ k_ ≠ gb606 ∧ k_ ≠ gb611 ∧ k_ ≠ gb623) ho0 (fun k_ hk_ => ⟨Or.elim hk_ (fun hs_ => hs_.1) (fun hn_ => (Kd.fresh' (Kd.R_lt (y9 HO_6.out)) k_ hn_)), Or.elim hk_ (fun hs_ => hs_.2.1) (fun hn_ => (Kd.fresh' (Kd.N_lt (y7 HO_607000.out)) k_ hn_)), Or.elim hk_ (fun hs_ => hs_.2.2.1) (fun hn_ => (Kd.fresh' (Kd.N_lt (y7 HO_612000.out)) k_ hn_)), Or.elim hk_ (fun hs_ => hs_.2.2.2.1) (fun hn_ => (Kd.freshB (g := gb601) (o := .cells #[.slice Ao12 t595.length co12] 30 (0, 0)) (y4 BK601.out) k_ hn_)), Or.elim hk_ (fun hs_ => hs_.2.2.2.2.1) (fun hn_ => (Kd.freshB (g := gb606) (o := .cells #[.slice Ao19 t602.length co19] 30 (0, 0)) (y4 BK606.out) k_ hn_)), Or.elim hk_ (fun hs_ => hs_.2.2.2.2.2.1) (fun hn_ => (Kd.freshB (g := gb611) (o := .cells #[.slice Ao26 t607.length co26] 30 (0, 0)) (y4 BK611.out) k_ hn_)), Or.elim hk_ (fun hs_ => hs_.2.2.2.2.2.2) (fun hn_ => (Kd.freshB (g := gb623) (o := .cells #[.slice Ao70 t619.length co70] 30 (0, 0)) (y4 BK623.out) k_ hn_))⟩)) (below_size (y14 HB.out GE601.out GE606.out GE611.out GE623.out)))
              have n8_ := Aside0.mk (zbb BK601.out hb)
              have n9_ := Aside0.mk (zbb BK606.out hb)
              have n10_ := Aside0.mk (zbb BK611.out hb)
              have n11_ := Aside0.mk (zbb BK623.out hb)
              have n12_ := Aside0.mk (below_step (y14 HB.out GE601.out GE606.out GE611.out GE623.out) hb)
              clear HO_6
              clear HO_602000
              clear HO_607000
              clear HO_612000
              clear HO618
              clear HO621
              clear HO628
              clear BK601
              clear BK606
              clear BK611
              clear BK623
              clear HB
              have HO_6 := n0_
              have HO_602000 := n1_
              have HO_607000 := n2_
              have HO_612000 := n3_
              have HO618 := n4_
              have HO621 := n5_
              have HO628 := n6_
              have HO631 := n7_
              have BK601 := n8_
              have BK606 := n9_
              have BK611 := n10_
              have BK623 := n11_
              have HB := n12_
              clear n0_ n1_ n2_ n3_ n4_ n5_ n6_ n7_ n8_ n9_ n10_ n11_ n12_
              (try clear hb)
              (try clear hb2)
              (try clear hk)
              (try clear hi)
              (try clear ho0)
              refine hK.out _ _ ((blk_cell BK623.out 0).trans rfl) (fun hHeld => ?_)
              clear hK K
              refine norm_ (a' := ?_) ?_ ?_
              rotate_left
              ·show Act.put _ (some 81) _ = _
               simp only [Act.put, List.setIfInBounds_toArray, List.set_cons_zero, List.set_cons_succ, i64_w, i32_w]
               rfl
              refine pure_ (i := 5) (N := some 76) (v := ?_) (a' := ?_) #[true, true, true, true, true, true, false, false, false, false, false] rfl rfl (any_of HT_.out (by kernel_rfl)) (fun _ _ _ h => h) (Or.inl ⟨by rfl, ?_⟩) ?_ ?_
              rotate_left
              ·intro w'
               go_simp
               with_reducible rfl
              rotate_left
              ·simp only [Act.put, List.setIfInBounds_toArray, List.set_cons_zero, List.set_cons_succ, i64_w, i32_w]
               rfl
              refine pure_ (i := 6) (N := some 82) (v := ?_) (a' := ?_) #[true, true, true, true, true, true, true, false, false, false, false] rfl rfl (any_of HT_.out (by kernel_rfl)) (fun _ _ _ h => h) (Or.inl ⟨by rfl, ?_⟩) ?_ ?_
              rotate_left
              ·intro w'
               go_simp
               with_reducible rfl
              rotate_left
              ·simp only [Act.put, List.setIfInBounds_toArray, List.set_cons_zero, List.set_cons_succ, i64_w, i32_w]
               rfl
              refine pure_ (i := 7) (N := some 83) (v := ?_) (a' := ?_) #[true, true, true, true, true, true, true, true, false, false, false] rfl rfl (any_of HT_.out (by kernel_rfl)) (fun _ _ _ h => h) (Or.inl ⟨by rfl, ?_⟩) ?_ ?_
              rotate_left
              ·intro w'
               go_simp
               with_reducible rfl
              rotate_left
              ·simp only [Act.put, List.setIfInBounds_toArray, List.set_cons_zero, List.set_cons_succ, i64_w, i32_w]
               rfl
              refine one_ (i := 8) (N := some 14) #[true, true, true, true, true, true, true, true, true, false, false] rfl rfl (one_of HT_.out (by kernel_rfl)) (by decide) (fun K hK => ?_)
              refine box_step ?hg (N := 14) ?hd (cs := #[.slice none 0 0]) (t := 30) ?hr ?_; (case hd => rfl); (case hg => rfl); (case hr => first | (go_simp; done) | (go_simp; rfl))
              intro gb633 hg w76 hbox hb
              have n0_ := Aside0.mk (Kd.R_below (y9 HO_6.out) hb)
              have n1_ := Aside0.mk (Kd.N_below (Kd.N_elderB (y7 HO_602000.out) gb633 (Nat.le_of_eq hg.symm)) hb)
              have n2_ := Aside0.mk (Kd.N_below (Kd.N_elderB (y7 HO_607000.out) gb633 (Nat.le_of_eq hg.symm)) hb)
              have n3_ := Aside0.mk (Kd.N_below (Kd.N_elderB (y7 HO_612000.out) gb633 (Nat.le_of_eq hg.symm)) hb)
              have n4_ := Aside0.mk (Kd.V_below (Kd.V_elderB (y10 HO618.out) gb633 (Nat.le_of_eq hg.symm)) hb)
              have n5_ := Aside0.mk (Kd.N_below (Kd.N_elderB (y7 HO621.out) gb633 (Nat.le_of_eq hg.symm)) hb)
              have n6_ := Aside0.mk (Kd.V_below (Kd.V_elderB (y10 HO628.out) gb633 (Nat.le_of_eq hg.symm)) hb)
              have n7_ := Aside0.mk (Kd.N_below (Kd.N_elderB (y7 HO631.out) gb633 (Nat.le_of_eq hg.symm)) hb)
              have n8_ := Aside0.mk (zbb BK601.out hb)
              have n9_ := Aside0.mk (zbb BK606.out hb)
              have n10_ := Aside0.mk (zbb BK611.out hb)
              have n11_ := Aside0.mk (zbb BK623.out hb)
              have n12_ := Aside0.mk (below_step (y14 HB.out GE601.out GE606.out GE611.out GE623.out) hb)
              have n13_ := Aside0.mk (hbox)
              have n14_ := Aside0.mk ((y34 hg HB.out GE601.out GE606.out GE611.out GE623.out : w.heap.size ≤ gb633))
              have n15_ := Aside0.mk ((y34 hg HB.out GE601.out GE606.out GE611.out GE623.out : w.heap.size ≤ gb633))
              have n16_ := Aside0.mk (zltn hg BK601.out)
              have n17_ := Aside0.mk (zgtn hg BK601.out)
              have n18_ := Aside0.mk (zltn hg BK606.out)
              have n19_ := Aside0.mk (zgtn hg BK606.out)
              have n20_ := Aside0.mk (zltn hg BK611.out)
              have n21_ := Aside0.mk (zgtn hg BK611.out)
              have n22_ := Aside0.mk (zltn hg BK623.out)
              have n23_ := Aside0.mk (zgtn hg BK623.out)
              clear HO_6
              clear HO_602000
              clear HO_607000
              clear HO_612000
              clear HO618
              clear HO621
              clear HO628
              clear HO631
              clear BK601
              clear BK606
              clear BK611
              clear BK623
              clear HB
              have HO_6 := n0_
              have HO_602000 := n1_
              have HO_607000 := n2_
              have HO_612000 := n3_
              have HO618 := n4_
              have HO621 := n5_
              have HO628 := n6_
              have HO631 := n7_
              have BK601 := n8_
              have BK606 := n9_
              have BK611 := n10_
              have BK623 := n11_
              have HB := n12_
              have BK633 := n13_
              have GW633 := n14_
              have GE633 := n15_
              have NB601_633 := n16_
              have NB633_601 := n17_
              have NB606_633 := n18_
              have NB633_606 := n19_
              have NB611_633 := n20_
              have NB633_611 := n21_
              have NB623_633 := n22_
              have NB633_623 := n23_
              clear n0_ n1_ n2_ n3_ n4_ n5_ n6_ n7_ n8_ n9_ n10_ n11_ n12_ n13_ n14_ n15_ n16_ n17_ n18_ n19_ n20_ n21_ n22_ n23_
              clear hb hbox hg
              refine hK.out _ _ ((blk_cell BK623.out 0).trans rfl) (fun hHeld => ?_)
              clear hK K
              refine norm_ (a' := ?_) ?_ ?_
              rotate_left
              ·show Act.put _ (some 14) _ = _
               simp only [Act.put, List.setIfInBounds_toArray, List.set_cons_zero, List.set_cons_succ, i64_w, i32_w]
               rfl
              exact norm_ (by simp only [putAll, Act.put, List.setIfInBounds_toArray, List.set_cons_zero, List.set_cons_succ]) (hCont (v630, gb633) _ ⟨hHeld, (by (with_reducible repeat (first | apply Kd.V_alloc | apply Kd.V_drewN | apply Kd.V_drew)); exact Kd.V_mono HO618.out (fun _ hk => ⟨hk.1.1.2.2.2.1, ⟨hk.1.2, ⟨hk.1.1.1, ⟨hk.1.1.2.1, ⟨hk.1.1.2.2.1, ⟨hk.1.1.2.2.2.2.1, ⟨hk.1.1.2.2.2.2.2.1, ⟨hk.1.1.2.2.2.2.2.2.1, ⟨hk.1.1.2.2.2.2.2.2.2, hk.2⟩⟩⟩⟩⟩⟩⟩⟩⟩)), (by (with_reducible repeat (first | apply Kd.N_alloc | apply Kd.N_drewN | apply Kd.N_drew)); exact Kd.N_mono HO621.out (fun _ hk => ⟨hk.1.2, ⟨hk.1.1.1, ⟨hk.1.1.2.1, ⟨hk.1.1.2.2.1, ⟨hk.1.1.2.2.2.1, ⟨hk.1.1.2.2.2.2.1, ⟨hk.1.1.2.2.2.2.2.1, ⟨hk.1.1.2.2.2.2.2.2, hk.2⟩⟩⟩⟩⟩⟩⟩⟩)), (by (with_reducible repeat (first | apply Kd.V_alloc | apply Kd.V_drewN | apply Kd.V_drew)); exact Kd.V_mono HO628.out (fun _ hk => ⟨hk.1.1.1.1.1.1.2, ⟨hk.1.2, ⟨hk.1.1.1.1.1.1.1.1.1.2, ⟨hk.1.1.1.1.1.1.1.1.2, ⟨hk.1.1.1.1.1.1.1.2, ⟨hk.1.1.1.1.1.2, ⟨hk.1.1.1.1.2, ⟨hk.1.1.1.2, ⟨hk.1.1.2, hk.2⟩⟩⟩⟩⟩⟩⟩⟩⟩)), (by (with_reducible repeat (first | apply Kd.N_alloc | apply Kd.N_drewN | apply Kd.N_drew)); exact Kd.N_mono HO631.out (fun _ hk => ⟨hk.1.1, ⟨hk.1.2.1, ⟨hk.1.2.2.1, ⟨hk.1.2.2.2.1, ⟨hk.1.2.2.2.2.1, ⟨hk.1.2.2.2.2.2.1, ⟨hk.1.2.2.2.2.2.2, hk.2⟩⟩⟩⟩⟩⟩⟩)), (y9 HO_6.out), (by (with_reducible repeat (first | apply Kd.N_alloc | apply Kd.N_drewN | apply Kd.N_drew)); exact Kd.N_mono HO_602000.out (fun _ hk => ⟨hk.1.1.2.2.2.1, ⟨hk.1.2, ⟨hk.1.1.1, ⟨hk.1.1.2.1, ⟨hk.1.1.2.2.1, ⟨hk.1.1.2.2.2.2.1, ⟨hk.1.1.2.2.2.2.2.1, ⟨hk.1.1.2.2.2.2.2.2.1, ⟨hk.1.1.2.2.2.2.2.2.2, hk.2⟩⟩⟩⟩⟩⟩⟩⟩⟩)), (y39 HO_607000.out), (y39 HO_612000.out), (y4 BK601.out), (y4 BK606.out), (y4 BK611.out), (y4 BK623.out), (y4 BK633.out), GW633.out, GE633.out, NB601_633.out, NB633_601.out, NB606_633.out, NB633_606.out, NB611_633.out, NB633_611.out, NB623_633.out, NB633_623.out, (y32 HB.out GE601.out GE606.out GE611.out GE623.out GE633.out)⟩)
             ·skip
              refine box_step ?hg (N := 14) ?hd (cs := #[.slice none 0 0]) (t := 30) ?hr ?_; (case hd => rfl); (case hg => rfl); (case hr => first | (go_simp; done) | (go_simp; rfl))
              intro gb633 hg w75 hbox hb
              have n0_ := Aside0.mk (Kd.R_below (y9 HO_6.out) hb)
              have n1_ := Aside0.mk (Kd.N_below (Kd.N_elderB (y7 HO_602000.out) gb633 (Nat.le_of_eq hg.symm)) hb)
              have n2_ := Aside0.mk (Kd.N_below (Kd.N_elderB (y7 HO_607000.out) gb633 (Nat.le_of_eq hg.symm)) hb)
              have n3_ := Aside0.mk (Kd.N_below (Kd.N_elderB (y7 HO_612000.out) gb633 (Nat.le_of_eq hg.symm)) hb)
              have n4_ := Aside0.mk (Kd.V_below (Kd.V_elderB (y10 HO618.out) gb633 (Nat.le_of_eq hg.symm)) hb)
              have n5_ := Aside0.mk (Kd.N_below (Kd.N_elderB (y7 HO621.out) gb633 (Nat.le_of_eq hg.symm)) hb)
              have n6_ := Aside0.mk (Kd.V_below (Kd.V_elderB (y10 HO628.out) gb633 (Nat.le_of_eq hg.symm)) hb)
              have n7_ := Aside0.mk (zbb BK601.out hb)
              have n8_ := Aside0.mk (zbb BK606.out hb)
              have n9_ := Aside0.mk (zbb BK611.out hb)
              have n10_ := Aside0.mk (zbb BK623.out hb)
              have n11_ := Aside0.mk (below_step (y14 HB.out GE601.out GE606.out GE611.out GE623.out) hb)
              have n12_ := Aside0.mk (hbox)
              have n13_ := Aside0.mk ((y34 hg HB.out GE601.out GE606.out GE611.out GE623.out : w.heap.size ≤ gb633))
              have n14_ := Aside0.mk ((y34 hg HB.out GE601.out GE606.out GE611.out GE623.out : w.heap.size ≤ gb633))
              have n15_ := Aside0.mk (zltn hg BK601.out)
              have n16_ := Aside0.mk (zgtn hg BK601.out)
              have n17_ := Aside0.mk (zltn hg BK606.out)
              have n18_ := Aside0.mk (zgtn hg BK606.out)
              have n19_ := Aside0.mk (zltn hg BK611.out)
              have n20_ := Aside0.mk (zgtn hg BK611.out)
              have n21_ := Aside0.mk (zltn hg BK623.out)
              have n22_ := Aside0.mk (zgtn hg BK623.out)
              clear HO_6
              clear HO_602000
              clear HO_607000
              clear HO_612000
              clear HO618
              clear HO621
              clear HO628
              clear BK601
              clear BK606
              clear BK611
              clear BK623
              clear HB
              have HO_6 := n0_
              have HO_602000 := n1_
              have HO_607000 := n2_
              have HO_612000 := n3_
              have HO618 := n4_
              have HO621 := n5_
              have HO628 := n6_
              have BK601 := n7_
              have BK606 := n8_
              have BK611 := n9_
              have BK623 := n10_
              have HB := n11_
              have BK633 := n12_
              have GW633 := n13_
              have GE633 := n14_
              have NB601_633 := n15_
              have NB633_601 := n16_
              have NB606_633 := n17_
              have NB633_606 := n18_
              have NB611_633 := n19_
              have NB633_611 := n20_
              have NB623_633 := n21_
              have NB633_623 := n22_
              clear n0_ n1_ n2_ n3_ n4_ n5_ n6_ n7_ n8_ n9_ n10_ n11_ n12_ n13_ n14_ n15_ n16_ n17_ n18_ n19_ n20_ n21_ n22_
              clear hb hbox hg
              refine hK.out _ _ ((blk_cell BK623.out 0).trans rfl) (fun hHeld => ?_)
              clear hK K
              refine norm_ (a' := ?_) ?_ ?_
              rotate_left
              ·show Act.put _ (some 14) _ = _
               simp only [Act.put, List.setIfInBounds_toArray, List.set_cons_zero, List.set_cons_succ, i64_w, i32_w]
               rfl
              refine one_ (i := 4) (N := some 81) #[true, true, true, true, true, false, false, false, true, false, false] rfl rfl (one_of HT_.out (by kernel_rfl)) (by decide) (fun K hK => ?_)
              refine goes_ Try.func21 (by kernel_rfl) rfl #[.agg #[.slice Ao70 t619.length co70], .slice A74 y624.length c74] (by rfl) rfl rfl (by (try simp only [List.map_toArray, List.map_cons, List.map_nil]); first | done | rfl | (simp only [List.length_drop, List.length_take]; rfl)) ?_
              with_reducible refine (impl_TypeAt.calls kj8 (fun k_ => ((some k_ ≠ (.slice Ao16 t598.length co16 : Value).ownBlock ∧ (some k_ ≠ (.slice Ao19 t602.length co19 : Value).ownBlock ∧ (some k_ ≠ (.slice Ao26 t607.length co26 : Value).ownBlock ∧ (k_ ≠ gb601 ∧ (k_ ≠ gb606 ∧ (k_ ≠ gb611 ∧ k_ ≠ gb623)))))) ∧ k_ ≠ gb633)) _ _ t619 _ _ y624 t629 true _ ?side1 ?side2 ?side3 A61.out).mono ?_
              (case side1 => exact Kd.N_V (HO621.out))
              (case side2 => exact y26 HO628.out)
              (case side3 => exact (Kd.V_reads' HO628.out).2.1)
              rintro e w76 ⟨v630, rfl, ho0, hb⟩
              refine ⟨_, rfl, ?_⟩
              have n0_ := Aside0.mk (Kd.R_below (y9 HO_6.out) hb)
              have n1_ := Aside0.mk (Kd.N_elder' (y7 HO_602000.out) (Kd.N_base ho0) hb)
              have n2_ := Aside0.mk (Kd.N_elder' (y7 HO_607000.out) (Kd.N_base ho0) hb)
              have n3_ := Aside0.mk (Kd.N_elder' (y7 HO_612000.out) (Kd.N_base ho0) hb)
              have n4_ := Aside0.mk (Kd.V_elder' (y10 HO618.out) (Kd.N_base ho0) hb)
              have n5_ := Aside0.mk (Kd.N_elder' (y7 HO621.out) (Kd.N_base ho0) hb)
              have n6_ := Aside0.mk (Kd.V_elder' (y10 HO628.out) (Kd.N_base ho0) hb)
              have n7_ := Aside0.mk (Kd.N_lower (Kd.N_mono (ok' := fun k_ => some k_ ≠ (.slice Ao16 t598.length co16 : Value).ownBlock ∧ some k_ ≠ (.slice Ao19 t602.length co19 : Value).ownBlock ∧ some k_ ≠ (.slice Ao26 t607.length co26 : Value).ownBlock ∧ k_ ≠ gb601 ∧ k_ ≠ gb606 ∧ k_ ≠ gb611 ∧ k_ ≠ gb623 ∧ k_ ≠ gb633) ho0 (fun k_ hk_ => ⟨Or.elim hk_ (fun hs_ => hs_.1.1) (fun hn_ => (Kd.fresh' (Kd.R_lt (y9 HO_6.out)) k_ hn_)), Or.elim hk_ (fun hs_ => hs_.1.2.1) (fun hn_ => (Kd.fresh' (Kd.N_lt (y7 HO_607000.out)) k_ hn_)), Or.elim hk_ (fun hs_ => hs_.1.2.2.1) (fun hn_ => (Kd.fresh' (Kd.N_lt (y7 HO_612000.out)) k_ hn_)), Or.elim hk_ (fun hs_ => hs_.1.2.2.2.1) (fun hn_ => (Kd.freshB (g := gb601) (o := .cells #[.slice Ao12 t595.length co12] 30 (0, 0)) (y4 BK601.out) k_ hn_)), Or.elim hk_ (fun hs_ => hs_.1.2.2.2.2.1) (fun hn_ => (Kd.freshB (g := gb606) (o := .cells #[.slice Ao19 t602.length co19] 30 (0, 0)) (y4 BK606.out) k_ hn_)), Or.elim hk_ (fun hs_ => hs_.1.2.2.2.2.2.1) (fun hn_ => (Kd.freshB (g := gb611) (o := .cells #[.slice Ao26 t607.length co26] 30 (0, 0)) (y4 BK611.out) k_ hn_)), Or.elim hk_ (fun hs_ => hs_.1.2.2.2.2.2.2) (fun hn_ => (Kd.freshB (g := gb623) (o := .cells #[.slice Ao70 t619.length co70] 30 (0, 0)) (y4 BK623.out) k_ hn_)), Or.elim hk_ (fun hs_ => hs_.2) (fun hn_ => (Kd.freshB (g := gb633) (o := .cells #[.slice none 0 0] 30 (0, 0)) (y4 BK633.out) k_ hn_))⟩)) (below_size (y32 HB.out GE601.out GE606.out GE611.out GE623.out GE633.out)))
              have n8_ := Aside0.mk (zbb BK601.out hb)
              have n9_ := Aside0.mk (zbb BK606.out hb)
              have n10_ := Aside0.mk (zbb BK611.out hb)
              have n11_ := Aside0.mk (zbb BK623.out hb)
              have n12_ := Aside0.mk (zbb BK633.out hb)
              have n13_ := Aside0.mk (below_step (y32 HB.out GE601.out GE606.out GE611.out GE623.out GE633.out) hb)
              clear HO_6
              clear HO_602000
              clear HO_607000
              clear HO_612000
              clear HO618
              clear HO621
              clear HO628
              clear BK601
              clear BK606
              clear BK611
              clear BK623
              clear BK633
              clear HB
              have HO_6 := n0_
              have HO_602000 := n1_
              have HO_607000 := n2_
              have HO_612000 := n3_
              have HO618 := n4_
              have HO621 := n5_
              have HO628 := n6_
              have HO631 := n7_
              have BK601 := n8_
              have BK606 := n9_
              have BK611 := n10_
              have BK623 := n11_
              have BK633 := n12_
              have HB := n13_
              clear n0_ n1_ n2_ n3_ n4_ n5_ n6_ n7_ n8_ n9_ n10_ n11_ n12_ n13_
              (try clear hb)
              (try clear hb2)
              (try clear hk)
              (try clear hi)
              (try clear ho0)
              refine hK.out _ _ ((blk_cell BK623.out 0).trans rfl) (fun hHeld => ?_)
              clear hK K
              refine norm_ (a' := ?_) ?_ ?_
              rotate_left
              ·show Act.put _ (some 81) _ = _
               simp only [Act.put, List.setIfInBounds_toArray, List.set_cons_zero, List.set_cons_succ, i64_w, i32_w]
               rfl
              refine pure_ (i := 5) (N := some 76) (v := ?_) (a' := ?_) #[true, true, true, true, true, true, false, false, true, false, false] rfl rfl (any_of HT_.out (by kernel_rfl)) (fun _ _ _ h => h) (Or.inl ⟨by rfl, ?_⟩) ?_ ?_
              rotate_left
              ·intro w'
               go_simp
               with_reducible rfl
              rotate_left
              ·simp only [Act.put, List.setIfInBounds_toArray, List.set_cons_zero, List.set_cons_succ, i64_w, i32_w]
               rfl
              refine pure_ (i := 6) (N := some 82) (v := ?_) (a' := ?_) #[true, true, true, true, true, true, true, false, true, false, false] rfl rfl (any_of HT_.out (by kernel_rfl)) (fun _ _ _ h => h) (Or.inl ⟨by rfl, ?_⟩) ?_ ?_
              rotate_left
              ·intro w'
               go_simp
               with_reducible rfl
              rotate_left
              ·simp only [Act.put, List.setIfInBounds_toArray, List.set_cons_zero, List.set_cons_succ, i64_w, i32_w]
               rfl
              refine pure_ (i := 7) (N := some 83) (v := ?_) (a' := ?_) #[true, true, true, true, true, true, true, true, true, false, false] rfl rfl (any_of HT_.out (by kernel_rfl)) (fun _ _ _ h => h) (Or.inl ⟨by rfl, ?_⟩) ?_ ?_
              rotate_left
              ·intro w'
               go_simp
               with_reducible rfl
              rotate_left
              ·simp only [Act.put, List.setIfInBounds_toArray, List.set_cons_zero, List.set_cons_succ, i64_w, i32_w]
               rfl
              exact norm_ (by simp only [putAll, Act.put, List.setIfInBounds_toArray, List.set_cons_zero, List.set_cons_succ]) (hCont (v630, gb633) _ ⟨hHeld, (by (with_reducible repeat (first | apply Kd.V_alloc | apply Kd.V_drewN | apply Kd.V_drew)); exact Kd.V_mono HO618.out (fun _ hk => ⟨hk.1.1.2.2.2.1, ⟨hk.2, ⟨hk.1.1.1, ⟨hk.1.1.2.1, ⟨hk.1.1.2.2.1, ⟨hk.1.1.2.2.2.2.1, ⟨hk.1.1.2.2.2.2.2.1, ⟨hk.1.1.2.2.2.2.2.2.1, ⟨hk.1.1.2.2.2.2.2.2.2, hk.1.2⟩⟩⟩⟩⟩⟩⟩⟩⟩)), (by (with_reducible repeat (first | apply Kd.N_alloc | apply Kd.N_drewN | apply Kd.N_drew)); exact Kd.N_mono HO621.out (fun _ hk => ⟨hk.2, ⟨hk.1.1.1, ⟨hk.1.1.2.1, ⟨hk.1.1.2.2.1, ⟨hk.1.1.2.2.2.1, ⟨hk.1.1.2.2.2.2.1, ⟨hk.1.1.2.2.2.2.2.1, ⟨hk.1.1.2.2.2.2.2.2, hk.1.2⟩⟩⟩⟩⟩⟩⟩⟩)), (by (with_reducible repeat (first | apply Kd.V_alloc | apply Kd.V_drewN | apply Kd.V_drew)); exact Kd.V_mono HO628.out (fun _ hk => ⟨hk.1.1.1.1.1.1.2, ⟨hk.2, ⟨hk.1.1.1.1.1.1.1.1.1.2, ⟨hk.1.1.1.1.1.1.1.1.2, ⟨hk.1.1.1.1.1.1.1.2, ⟨hk.1.1.1.1.1.2, ⟨hk.1.1.1.1.2, ⟨hk.1.1.1.2, ⟨hk.1.1.2, hk.1.2⟩⟩⟩⟩⟩⟩⟩⟩⟩)), (y7 HO631.out), (y9 HO_6.out), (by (with_reducible repeat (first | apply Kd.N_alloc | apply Kd.N_drewN | apply Kd.N_drew)); exact Kd.N_mono HO_602000.out (fun _ hk => ⟨hk.1.1.2.2.2.1, ⟨hk.2, ⟨hk.1.1.1, ⟨hk.1.1.2.1, ⟨hk.1.1.2.2.1, ⟨hk.1.1.2.2.2.2.1, ⟨hk.1.1.2.2.2.2.2.1, ⟨hk.1.1.2.2.2.2.2.2.1, ⟨hk.1.1.2.2.2.2.2.2.2, hk.1.2⟩⟩⟩⟩⟩⟩⟩⟩⟩)), (y40 HO_607000.out), (y40 HO_612000.out), (y4 BK601.out), (y4 BK606.out), (y4 BK611.out), (y4 BK623.out), (y4 BK633.out), GW633.out, GE633.out, NB601_633.out, NB633_601.out, NB606_633.out, NB633_606.out, NB611_633.out, NB633_611.out, NB623_633.out, NB633_623.out, (y32 HB.out GE601.out GE606.out GE611.out GE623.out GE633.out)⟩)
            rintro ⟨v630, gb633⟩ w77 ⟨hS_, h0_, h1_, h2_, h3_, h4_, h5_, h6_, h7_, h8_, h9_, h10_, h11_, h12_, h13_, h14_, h15_, h16_, h17_, h18_, h19_, h20_, h21_, h22_, h23_⟩
            have n0_ : Aside0 (Kd.V (Kd.int .i64) 3 w77 w.heap.size (fun k_ => some k_ ≠ (.slice Ao70 t619.length co70 : Value).ownBlock ∧ some k_ ≠ (v630 : Value).ownBlock ∧ some k_ ≠ (.slice Ao12 t595.length co12 : Value).ownBlock ∧ some k_ ≠ (.slice Ao19 t602.length co19 : Value).ownBlock ∧ some k_ ≠ (.slice Ao26 t607.length co26 : Value).ownBlock ∧ k_ ≠ gb601 ∧ k_ ≠ gb606 ∧ k_ ≠ gb611 ∧ k_ ≠ gb623 ∧ k_ ≠ gb633) (.slice Ao16 y614.length co16) y614) := ⟨h0_⟩
            have n1_ : Aside0 (Kd.N k30 30 w77 w.heap.size (fun k_ => some k_ ≠ (v630 : Value).ownBlock ∧ some k_ ≠ (.slice Ao16 t598.length co16 : Value).ownBlock ∧ some k_ ≠ (.slice Ao19 t602.length co19 : Value).ownBlock ∧ some k_ ≠ (.slice Ao26 t607.length co26 : Value).ownBlock ∧ k_ ≠ gb601 ∧ k_ ≠ gb606 ∧ k_ ≠ gb611 ∧ k_ ≠ gb623 ∧ k_ ≠ gb633) (.slice Ao70 t619.length co70) t619) := ⟨h1_⟩
            have n2_ : Aside0 (Kd.V (Kd.int .i64) 3 w77 w.heap.size (fun k_ => some k_ ≠ (.slice Ao70 t619.length co70 : Value).ownBlock ∧ some k_ ≠ (v630 : Value).ownBlock ∧ some k_ ≠ (.slice Ao12 t595.length co12 : Value).ownBlock ∧ some k_ ≠ (.slice Ao19 t602.length co19 : Value).ownBlock ∧ some k_ ≠ (.slice Ao26 t607.length co26 : Value).ownBlock ∧ k_ ≠ gb601 ∧ k_ ≠ gb606 ∧ k_ ≠ gb611 ∧ k_ ≠ gb623 ∧ k_ ≠ gb633) (.slice A74 y624.length c74) y624) := ⟨h2_⟩
            have n3_ : Aside0 (Kd.N k30 30 w77 w.heap.size (fun k_ => some k_ ≠ (.slice Ao16 t598.length co16 : Value).ownBlock ∧ some k_ ≠ (.slice Ao19 t602.length co19 : Value).ownBlock ∧ some k_ ≠ (.slice Ao26 t607.length co26 : Value).ownBlock ∧ k_ ≠ gb601 ∧ k_ ≠ gb606 ∧ k_ ≠ gb611 ∧ k_ ≠ gb623 ∧ k_ ≠ gb633) v630 t629) := ⟨h3_⟩
            have n4_ : Aside0 (Kd.R (Kd.int .i64) 3 w77 w.heap.size (fun _ => True) (.slice Ao16 t598.length co16) t598) := ⟨h4_⟩
            have n5_ : Aside0 (Kd.N k30 30 w77 w.heap.size (fun k_ => some k_ ≠ (.slice Ao70 t619.length co70 : Value).ownBlock ∧ some k_ ≠ (v630 : Value).ownBlock ∧ some k_ ≠ (.slice Ao16 t598.length co16 : Value).ownBlock ∧ some k_ ≠ (.slice Ao19 t602.length co19 : Value).ownBlock ∧ some k_ ≠ (.slice Ao26 t607.length co26 : Value).ownBlock ∧ k_ ≠ gb601 ∧ k_ ≠ gb606 ∧ k_ ≠ gb611 ∧ k_ ≠ gb623 ∧ k_ ≠ gb633) (.slice Ao12 t595.length co12) t595) := ⟨h5_⟩
            have n6_ : Aside0 (Kd.N k30 30 w77 w.heap.size (fun k_ => some k_ ≠ (.slice Ao70 t619.length co70 : Value).ownBlock ∧ some k_ ≠ (v630 : Value).ownBlock ∧ some k_ ≠ (.slice Ao16 t598.length co16 : Value).ownBlock ∧ some k_ ≠ (.slice Ao26 t607.length co26 : Value).ownBlock ∧ k_ ≠ gb601 ∧ k_ ≠ gb606 ∧ k_ ≠ gb611 ∧ k_ ≠ gb623 ∧ k_ ≠ gb633) (.slice Ao19 t602.length co19) t602) := ⟨h6_⟩
            have n7_ : Aside0 (Kd.N k30 30 w77 w.heap.size (fun k_ => some k_ ≠ (.slice Ao70 t619.length co70 : Value).ownBlock ∧ some k_ ≠ (v630 : Value).ownBlock ∧ some k_ ≠ (.slice Ao16 t598.length co16 : Value).ownBlock ∧ some k_ ≠ (.slice Ao19 t602.length co19 : Value).ownBlock ∧ k_ ≠ gb601 ∧ k_ ≠ gb606 ∧ k_ ≠ gb611 ∧ k_ ≠ gb623 ∧ k_ ≠ gb633) (.slice Ao26 t607.length co26) t607) := ⟨h7_⟩
            have n8_ : Aside0 (w77.heap[gb601]? = some (.cells #[.slice Ao12 t595.length co12] 30 (0, 0))) := ⟨h8_⟩
            have n9_ : Aside0 (w77.heap[gb606]? = some (.cells #[.slice Ao19 t602.length co19] 30 (0, 0))) := ⟨h9_⟩
            have n10_ : Aside0 (w77.heap[gb611]? = some (.cells #[.slice Ao26 t607.length co26] 30 (0, 0))) := ⟨h10_⟩
            have n11_ : Aside0 (w77.heap[gb623]? = some (.cells #[.slice Ao70 t619.length co70] 30 (0, 0))) := ⟨h11_⟩
            have n12_ : Aside0 (w77.heap[gb633]? = some (.cells #[.slice none 0 0] 30 (0, 0))) := ⟨h12_⟩
            have n13_ : Aside0 (w.heap.size ≤ gb633) := ⟨h13_⟩
            have n14_ : Aside0 (w.heap.size ≤ gb633) := ⟨h14_⟩
            have n15_ : Aside0 (gb601 ≠ gb633) := ⟨h15_⟩
            have n16_ : Aside0 (gb633 ≠ gb601) := ⟨h16_⟩
            have n17_ : Aside0 (gb606 ≠ gb633) := ⟨h17_⟩
            have n18_ : Aside0 (gb633 ≠ gb606) := ⟨h18_⟩
            have n19_ : Aside0 (gb611 ≠ gb633) := ⟨h19_⟩
            have n20_ : Aside0 (gb633 ≠ gb611) := ⟨h20_⟩
            have n21_ : Aside0 (gb623 ≠ gb633) := ⟨h21_⟩
            have n22_ : Aside0 (gb633 ≠ gb623) := ⟨h22_⟩
            have n23_ : Aside0 (Below w.heap.size w w77) := ⟨h23_⟩
            clear HO_6
            clear HO_602000
            clear HO_607000
            clear HO_612000
            clear HO618
            clear HO621
            clear BK601
            clear BK606
            clear BK611
            clear BK623
            clear HB
            clear h0_ h1_ h2_ h3_ h4_ h5_ h6_ h7_ h8_ h9_ h10_ h11_ h12_ h13_ h14_ h15_ h16_ h17_ h18_ h19_ h20_ h21_ h22_ h23_
            have HO618 := n0_
            have HO621 := n1_
            have HO628 := n2_
            have HO631 := n3_
            have HO_6 := n4_
            have HO_602000 := n5_
            have HO_607000 := n6_
            have HO_612000 := n7_
            have BK601 := n8_
            have BK606 := n9_
            have BK611 := n10_
            have BK623 := n11_
            have BK633 := n12_
            have GW633 := n13_
            have GE633 := n14_
            have NB601_633 := n15_
            have NB633_601 := n16_
            have NB606_633 := n17_
            have NB633_606 := n18_
            have NB611_633 := n19_
            have NB633_611 := n20_
            have NB623_633 := n21_
            have NB633_623 := n22_
            have HB := n23_
            clear n0_ n1_ n2_ n3_ n4_ n5_ n6_ n7_ n8_ n9_ n10_ n11_ n12_ n13_ n14_ n15_ n16_ n17_ n18_ n19_ n20_ n21_ n22_ n23_
            have hHeld : w77.cell? ⟨gb623, 0, none⟩ = some (.slice Ao70 t619.length co70) := hS_
            obtain ⟨Ao78, co78, eo78⟩ := Kd.N_slice HO631.out
            (first | subst eo78 | (injection eo78 with f1_ f2_ f3_; have f4_ := f1_.symm; have f5_ := f3_.symm; clear f1_ f2_ f3_; subst f4_; subst f5_))
            refine norm_ (a' := ?_) ?_ ?_
            rotate_left
            ·simp only [putAll, Act.put, List.setIfInBounds_toArray, List.set_cons_zero, List.set_cons_succ]
             rfl
            refine one_ (i := 9) (N := none) #[true, true, true, true, true, true, true, true, true, true, false] rfl rfl (one_of HT_.out (by kernel_rfl)) (by decide) (fun K hK => ?_)
            have hs79 : w77.cell? ⟨gb633, 0, none⟩ = some (.slice none 0 0) := (blk_cell BK633.out 0).trans rfl
            have hfs79 := blk_frozen BK633.out 0
            have hns79_0 := NB601_633.out
            have hns79_1 := NB606_633.out
            have hns79_2 := NB611_633.out
            have hns79_3 := NB623_633.out
            have hms79_0 := NB633_601.out
            have hms79_1 := NB633_606.out
            have hms79_2 := NB633_611.out
            have hms79_3 := NB633_623.out
            refine skip_ (w1 := ?_) (by rfl) rfl ?_ ?_
            rotate_left
            ·go_simp
             rfl
            refine hK.out _ _ (((cell_far (p := ⟨gb633, _, none⟩) NB623_633.out _).trans (hHeld))) (fun hHeld => ?_)
            clear hK K
            refine pure_ (i := 10) (N := some 15) (v := ?_) (a' := ?_) #[true, true, true, true, true, true, true, true, true, true, true] rfl rfl (any_of HT_.out (by kernel_rfl)) (fun _ _ _ h => h) (Or.inl ⟨by rfl, ?_⟩) ?_ ?_
            rotate_left
            ·intro w'
             go_simp
             with_reducible rfl
            rotate_left
            ·simp only [Act.put, List.setIfInBounds_toArray, List.set_cons_zero, List.set_cons_succ, i64_w, i32_w]
             rfl
            refine done_ (done_of HT_.out (by kernel_rfl)) ?_
            have hnb80 := NB633_601.out
            have hnc80 := NB601_633.out
            have hnb81 := NB633_606.out
            have hnc81 := NB606_633.out
            have hnb82 := NB633_611.out
            have hnc82 := NB611_633.out
            have hnb83 := NB633_623.out
            have hnc83 := NB623_633.out
            have hcz84_0 : w77.cell? ⟨gb633, 0, none⟩ = some (.slice none 0 0) := (blk_cell BK633.out 0).trans rfl
            have hfz84_0 := blk_frozen BK633.out 0
            have hnb85 := NB611_601.out
            have hnc85 := NB601_611.out
            have hnb86 := NB611_606.out
            have hnc86 := NB606_611.out
            have hnb87 := NB611_623.out
            have hnc87 := NB623_611.out
            have hcz88_0 : w77.cell? ⟨gb611, 0, none⟩ = some (.slice Ao26 t607.length co26) := (blk_cell BK611.out 0).trans rfl
            have hfz88_0 := blk_frozen BK611.out 0
            try go_wp2_with (first | (go_at_call 25; (with_reducible refine (laws_lhType.calls kj8 _ _ t629 _ _ t607 t634 _ ?side1 ?side2 ?side3 ?side4 A64.out).mono ?_); (case side1 => refine (Kd.N_reads' (e := 30) (base := w.heap.size) (ok := fun k_ => (some k_ ≠ (.slice Ao16 t598.length co16 : Value).ownBlock ∧ (some k_ ≠ (.slice Ao19 t602.length co19 : Value).ownBlock ∧ (some k_ ≠ (.slice Ao26 t607.length co26 : Value).ownBlock ∧ (k_ ≠ gb601 ∧ (k_ ≠ gb606 ∧ (k_ ≠ gb611 ∧ (k_ ≠ gb623 ∧ k_ ≠ gb633)))))))) (n := t629.length) (c := co78) ?_).2.2; exact (by (with_reducible repeat (first | apply Kd.N_alloc | apply Kd.N_drewN | apply Kd.N_drew)); exact (Kd.N_mono (Kd.N_far (p := ⟨gb633, 0, none⟩) (Kd.N_mono HO631.out (fun k_ hk => (⟨hk, hk.2.2.2.2.2.2.2⟩ : _ ∧ k_ ≠ gb633))) (fun _ hk => hk.2) (.slice Ao78 t629.length co78)) (fun _ h_ => h_.1)))); (case side2 => exact (Kd.N_reads' HO631.out).2.1); (case side3 => refine (Kd.N_reads' (e := 30) (base := w.heap.size) (ok := fun k_ => (some k_ ≠ (.slice Ao70 t619.length co70 : Value).ownBlock ∧ (some k_ ≠ (.slice Ao78 t629.length co78 : Value).ownBlock ∧ (some k_ ≠ (.slice Ao16 t598.length co16 : Value).ownBlock ∧ (some k_ ≠ (.slice Ao19 t602.length co19 : Value).ownBlock ∧ (k_ ≠ gb601 ∧ (k_ ≠ gb606 ∧ (k_ ≠ gb611 ∧ (k_ ≠ gb623 ∧ k_ ≠ gb633))))))))) (n := t607.length) (c := co26) ?_).2.2; exact (by (with_reducible repeat (first | apply Kd.N_alloc | apply Kd.N_drewN | apply Kd.N_drew)); exact (Kd.N_mono (Kd.N_far (p := ⟨gb633, 0, none⟩) (Kd.N_mono HO_612000.out (fun k_ hk => (⟨hk, hk.2.2.2.2.2.2.2.2⟩ : _ ∧ k_ ≠ gb633))) (fun _ hk => hk.2) (.slice Ao78 t629.length co78)) (fun _ h_ => h_.1)))); (case side4 => exact (Kd.N_reads' HO_612000.out).2.1); rintro e w89 ⟨rfl, hb⟩; replace HO_6 := Aside0.mk (Kd.R_below (by (with_reducible repeat (first | apply Kd.R_alloc | apply Kd.R_drewN | apply Kd.R_drew)); exact (Kd.R_mono (Kd.R_far (p := ⟨gb633, 0, none⟩) (Kd.R_types HO_6.out BK633.out (by decide)) (fun _ hk => hk.2) (.slice Ao78 t629.length co78)) (fun _ h_ => h_.1))) hb); replace HO_602000 := Aside0.mk (Kd.N_below (by (with_reducible repeat (first | apply Kd.N_alloc | apply Kd.N_drewN | apply Kd.N_drew)); exact (Kd.N_mono (Kd.N_far (p := ⟨gb633, 0, none⟩) (Kd.N_mono HO_602000.out (fun k_ hk => (⟨hk, hk.2.2.2.2.2.2.2.2.2⟩ : _ ∧ k_ ≠ gb633))) (fun _ hk => hk.2) (.slice Ao78 t629.length co78)) (fun _ h_ => h_.1))) hb); replace HO_607000 := Aside0.mk (Kd.N_below (by (with_reducible repeat (first | apply Kd.N_alloc | apply Kd.N_drewN | apply Kd.N_drew)); exact (Kd.N_mono (Kd.N_far (p := ⟨gb633, 0, none⟩) (Kd.N_mono HO_607000.out (fun k_ hk => (⟨hk, hk.2.2.2.2.2.2.2.2⟩ : _ ∧ k_ ≠ gb633))) (fun _ hk => hk.2) (.slice Ao78 t629.length co78)) (fun _ h_ => h_.1))) hb); replace HO_612000 := Aside0.mk (Kd.N_below (by (with_reducible repeat (first | apply Kd.N_alloc | apply Kd.N_drewN | apply Kd.N_drew)); exact (Kd.N_mono (Kd.N_far (p := ⟨gb633, 0, none⟩) (Kd.N_mono HO_612000.out (fun k_ hk => (⟨hk, hk.2.2.2.2.2.2.2.2⟩ : _ ∧ k_ ≠ gb633))) (fun _ hk => hk.2) (.slice Ao78 t629.length co78)) (fun _ h_ => h_.1))) hb); replace HO618 := Aside0.mk (Kd.V_below (by (with_reducible repeat (first | apply Kd.V_alloc | apply Kd.V_drewN | apply Kd.V_drew)); exact (Kd.V_mono (Kd.V_far (p := ⟨gb633, 0, none⟩) (Kd.V_mono HO618.out (fun k_ hk => (⟨hk, hk.2.2.2.2.2.2.2.2.2⟩ : _ ∧ k_ ≠ gb633))) (fun _ hk => hk.2) (.slice Ao78 t629.length co78)) (fun _ h_ => h_.1))) hb); replace HO621 := Aside0.mk (Kd.N_below (by (with_reducible repeat (first | apply Kd.N_alloc | apply Kd.N_drewN | apply Kd.N_drew)); exact (Kd.N_mono (Kd.N_far (p := ⟨gb633, 0, none⟩) (Kd.N_mono HO621.out (fun k_ hk => (⟨hk, hk.2.2.2.2.2.2.2.2⟩ : _ ∧ k_ ≠ gb633))) (fun _ hk => hk.2) (.slice Ao78 t629.length co78)) (fun _ h_ => h_.1))) hb); replace HO628 := Aside0.mk (Kd.V_below (by (with_reducible repeat (first | apply Kd.V_alloc | apply Kd.V_drewN | apply Kd.V_drew)); exact (Kd.V_mono (Kd.V_far (p := ⟨gb633, 0, none⟩) (Kd.V_mono HO628.out (fun k_ hk => (⟨hk, hk.2.2.2.2.2.2.2.2.2⟩ : _ ∧ k_ ≠ gb633))) (fun _ hk => hk.2) (.slice Ao78 t629.length co78)) (fun _ h_ => h_.1))) hb); replace HO631 := Aside0.mk (Kd.N_below (by (with_reducible repeat (first | apply Kd.N_alloc | apply Kd.N_drewN | apply Kd.N_drew)); exact (Kd.N_mono (Kd.N_far (p := ⟨gb633, 0, none⟩) (Kd.N_mono HO631.out (fun k_ hk => (⟨hk, hk.2.2.2.2.2.2.2⟩ : _ ∧ k_ ≠ gb633))) (fun _ hk => hk.2) (.slice Ao78 t629.length co78)) (fun _ h_ => h_.1))) hb); replace BK601 := Aside0.mk (zbf BK601.out NB601_633.out hb); replace BK606 := Aside0.mk (zbf BK606.out NB606_633.out hb); replace BK611 := Aside0.mk (zbf BK611.out NB611_633.out hb); replace BK623 := Aside0.mk (zbf BK623.out NB623_633.out hb); replace BK633 := Aside0.mk (blk_below (g := gb633) (o := .cells #[.slice Ao78 t629.length co78] 30 (0, 0)) (by (with_reducible repeat (first | refine blk_drewN ?_ _ | refine blk_drew ?_ | refine blk_alloc ?_ _)); refine blk_put (cs := #[.slice none 0 0]) ?_ 0 _ rfl; (with_reducible repeat (first | refine blk_drewN ?_ _ | refine blk_drew ?_ | refine blk_alloc ?_ _)); exact BK633.out) hb); replace HB := Aside0.mk (below_step (y32 HB.out GE601.out GE606.out GE611.out GE623.out GE633.out) hb); (try clear hb); (try clear hb2); (try clear hk); (try clear hi)))
            go_ret
            exact ⟨by first | rfl | (simp [errW_none, errW_some] <;> rfl) | (simp only [← hji55]; first | rfl | (simp [errW_none, errW_some] <;> rfl)) | (simp [*, errW_none, errW_some] <;> rfl), by repeat (first | (with_reducible first | exact HB.out | apply below_alloc | apply pw_below_drewN | apply below_drew1 | refine below_set ?_ GE601.out | refine below_set ?_ GE606.out | refine below_set ?_ GE611.out | refine below_set ?_ GE623.out | refine below_set ?_ GE633.out) | exact HB.out)⟩
           ·replace c63 := Bool.eq_false_iff.mpr c63
            subst c63
            have H1 : (some false) = some r := by rw [if_neg (show ¬ (false = true) by decide)] at H; exact H
            clear H
            have H := H1
            clear H1
            exact absurd ((Option.some.inj H).trans hr_.out) (by decide)
          ·replace c62 := Bool.eq_false_iff.mpr c62
           subst c62
           have H1 : (some false) = some r := by rw [if_neg (show ¬ (false = true) by decide)] at H; exact H
           clear H
           have H := H1
           clear H1
           exact absurd ((Option.some.inj H).trans hr_.out) (by decide)
         ·rw [if_neg c57] at H
          exact absurd H (by simp)
        ·rw [if_neg c56] at H
         exact absurd H (by simp)

/-- THE ONE PURE STATEMENT of laws_FnTypeAt: yours. -/
def laws_FnTypeAt.Pure : Prop := ∀ (l0 : List Int) (l1 : List Int), l0.length ≤ maxLen → l0.length * 1 ≤ 140737488351232 → (∀ x ∈ l0, (Lit.int .u8 x).wf = true) → l1.length ≤ maxLen → l1.length * 1 ≤ 140737488351232 → (∀ x ∈ l1, (Lit.int .u8 x).wf = true) → ∃ k, laws_FnTypeAt.f k l0 l1 = some true
theorem laws_FnTypeAt.walk (P : laws_FnTypeAt.Pure) (a0 : Option Addr) (len0 cap0 : Nat) (z0 : List Int) (a1 : Option Addr) (len1 cap1 : Nat) (z1 : List Int) (w : World) (w0 : (a0 = none ∧ len0 = 0 ∧ cap0 = 0 ∧ z0 = []) ∨ ∃ x, a0 = some x ∧ len0 ≤ cap0 ∧ cap0 ≤ maxLen ∧ z0.length = cap0 ∧ (∀ i, i < z0.length → w.cell? (x.add i) = some (.int .u8 (z0.getD i 0))) ∧ ∀ n ∈ z0, (Lit.int .u8 n).wf = true) (y0 : len0 * 1 ≤ 140737488351232) (w1 : (a1 = none ∧ len1 = 0 ∧ cap1 = 0 ∧ z1 = []) ∨ ∃ x, a1 = some x ∧ len1 ≤ cap1 ∧ cap1 ≤ maxLen ∧ z1.length = cap1 ∧ (∀ i, i < z1.length → w.cell? (x.add i) = some (.int .u8 (z1.getD i 0))) ∧ ∀ n ∈ z1, (Lit.int .u8 n).wf = true) (y1 : len1 * 1 ≤ 140737488351232) :
  Calls Try.prog 10 #[.slice a0 len0 cap0, .slice a1 len1 cap1] w fun e w' => e = .returned (.bool true) ∧ Below w.heap.size w w' := by
 obtain ⟨l0, rfl, hr0, hm0, hw0, hc0⟩ := ReadsInt.ofRowC w0
 obtain ⟨l1, rfl, hr1, hm1, hw1, hc1⟩ := ReadsInt.ofRowC w1
 obtain ⟨k, h⟩ := P l0 l1 hm0 y0 hw0 hm1 y1 hw1
 refine (laws_FnTypeAt.calls k _ _ l0 _ _ l1 true w (Kd.C_of_reads (d := (0 : Int)) (h1 := fun _ => rfl) hr0) hc0 (Kd.C_of_reads (d := (0 : Int)) (h1 := fun _ => rfl) hr1) hc1 h ⟨rfl⟩).mono ?_
 rintro e w' ⟨rfl, hd⟩
 exact ⟨rfl, hd⟩

end Go.Proofs.Ytjhbhihfifhljaa.PA
