-- Ythfflieeifakdaa's texts for the statement FnValAt, one behind the other (merge.py).
import Derived.Test.YthfflieeifakdaaQFnValAt0
import Derived.Test.YthfflieeifakdaaQFnValAt1
import Derived.Test.YthfflieeifakdaaQFnValAt2
import Derived.OpenShut
import Derived.Laws.BitsLemmas
section
namespace Go.Proofs.Ythfflieeifakdaa.PA
open Go.RowKit Go.Proofs.YthfflieeifakdaaW.PrintWords Go.Proofs.YthfflieeifakdaaW.PrintLast Go.Proofs.YthfflieeifakdaaW.PrintMore
attribute [local go_sem] max2_int min2_int max_two min_two max_three min_three max_four min_four
set_option linter.unusedVariables false
set_option linter.unusedSimpArgs false
mutual
def laws_FnValAt.j0 : Nat → List Int → List Int → Bool → Option (Bool)
 | 0, _, _, _ => none
 | k + 1, x0, x1, x23 => if x23 = true then (some true) else ((spec_DrawValAt.f k x0).bind fun bt344 => ((spec_ValAt.f k bt344.1 bt344.2.1 bt344.2.2).bind fun bt352 => ((impl_ValAt.f k bt344.1 bt344.2.1 bt344.2.2).bind fun bt358 => (if (bt358.2.2 != bt352.2.2) = true then (laws_FnValAt.j1 k x1 bt344.2.2 bt352.2.2 bt358.2.2 true bt344.1 bt344.2.1 bt352.1 bt352.2.1 bt358.1 bt358.2.1) else ((laws_lhVal.f k bt358.1 bt358.2.1 bt352.1 bt352.2.1).bind fun t364 => (if t364 = true then (laws_FnValAt.j1 k x1 bt344.2.2 bt352.2.2 bt358.2.2 (!bt358.2.2) bt344.1 bt344.2.1 bt352.1 bt352.2.1 bt358.1 bt358.2.1) else (laws_FnValAt.j1 k x1 bt344.2.2 bt352.2.2 bt358.2.2 true bt344.1 bt344.2.1 bt352.1 bt352.2.1 bt358.1 bt358.2.1)))))))
def laws_FnValAt.j1 : Nat → List Int → List Int → Bool → Bool → Bool → Int → List (S25) → Int → List (S25) → Int → List (S25) → Option (Bool)
 | 0, _, _, _, _, _, _, _, _, _, _, _ => none
 | k + 1, x1, x6, x8, x10, x53, x352000, x352001, x358000, x358001, x364000, x364001 => if x53 = true then (if (x10 == x8) = true then ((laws_lhVal.f k x364000 x364001 x358000 x358001).bind fun t365 => (some t365)) else (some false)) else (if (wrap64 ((x6.length : Int) + 1)) = 0 then (none) else (if 0 ≤ ((x1.length : Int) % (wrap64 ((x6.length : Int) + 1))) then (if ((x1.length : Int) % (wrap64 ((x6.length : Int) + 1))) ≤ (x6.length : Int) then ((impl_ValAt.f k x352000 x352001 (x6.take (((x1.length : Int) % (wrap64 ((x6.length : Int) + 1))) : Int).toNat)).bind fun bt371 => ((impl_ValAt.f k bt371.1 bt371.2.1 (x6.drop (((x1.length : Int) % (wrap64 ((x6.length : Int) + 1))) : Int).toNat)).bind fun bt382 => (if bt371.2.2 = true then (if bt382.2.2 = true then ((laws_lhVal.f k bt382.1 bt382.2.1 x364000 x364001).bind fun t388 => (some t388)) else (some false)) else (some false)))) else (none)) else (none)))
end
def laws_FnValAt.f (k : Nat) (l0 : List Int) (l1 : List Int) : Option (Bool) := if (l0.length : Int) > 1048576 then (laws_FnValAt.j0 k l0 l1 true) else (laws_FnValAt.j0 k l0 l1 (decide ((l1.length : Int) > 1048576)))
theorem laws_FnValAt.mono_l : ∀ k, (∀ y0 y1 y2, LeO (laws_FnValAt.j0 k y0 y1 y2) (laws_FnValAt.j0 (k + 1) y0 y1 y2)) ∧ (∀ y0 y1 y2 y3 y4 y5 y6 y7 y8 y9 y10, LeO (laws_FnValAt.j1 k y0 y1 y2 y3 y4 y5 y6 y7 y8 y9 y10) (laws_FnValAt.j1 (k + 1) y0 y1 y2 y3 y4 y5 y6 y7 y8 y9 y10))
 | 0 => ⟨fun _ _ _ r h => by simp [laws_FnValAt.j0] at h, fun _ _ _ _ _ _ _ _ _ _ _ r h => by simp [laws_FnValAt.j1] at h⟩
 | k + 1 => by
  obtain ⟨ih0, ih1⟩ := laws_FnValAt.mono_l k
  refine ⟨?_, ?_⟩
  ·intro y0 y1 y2
   unfold laws_FnValAt.j0
   repeat' first
   | (with_reducible exact ih0 _ _ _)
   | (with_reducible exact ih1 _ _ _ _ _ _ _ _ _ _ _)
   | (with_reducible exact impl_ValAt.mono _ _ _ _)
   | (with_reducible exact laws_lhVal.mono _ _ _ _ _)
   | (with_reducible exact spec_DrawValAt.mono _ _)
   | (with_reducible exact spec_ValAt.mono _ _ _ _)
   | (with_reducible exact LeO.refl _)
   | (with_reducible exact LeO.none _)
   | (with_reducible refine LeO.ite ?_ ?_)
   | (with_reducible refine LeO.bind ?_ (fun _ => ?_))
   | exact ih0 _ _ _
   | exact ih1 _ _ _ _ _ _ _ _ _ _ _
   | exact impl_ValAt.mono _ _ _ _
   | exact laws_lhVal.mono _ _ _ _ _
   | exact spec_DrawValAt.mono _ _
   | exact spec_ValAt.mono _ _ _ _
   | exact LeO.none _
   | refine LeO.ite ?_ ?_
   | refine LeO.bind ?_ (fun _ => ?_)
  ·intro y0 y1 y2 y3 y4 y5 y6 y7 y8 y9 y10
   unfold laws_FnValAt.j1
   repeat' first
   | (with_reducible exact ih0 _ _ _)
   | (with_reducible exact ih1 _ _ _ _ _ _ _ _ _ _ _)
   | (with_reducible exact impl_ValAt.mono _ _ _ _)
   | (with_reducible exact laws_lhVal.mono _ _ _ _ _)
   | (with_reducible exact spec_DrawValAt.mono _ _)
   | (with_reducible exact spec_ValAt.mono _ _ _ _)
   | (with_reducible exact LeO.refl _)
   | (with_reducible exact LeO.none _)
   | (with_reducible refine LeO.ite ?_ ?_)
   | (with_reducible refine LeO.bind ?_ (fun _ => ?_))
   | exact ih0 _ _ _
   | exact ih1 _ _ _ _ _ _ _ _ _ _ _
   | exact impl_ValAt.mono _ _ _ _
   | exact laws_lhVal.mono _ _ _ _ _
   | exact spec_DrawValAt.mono _ _
   | exact spec_ValAt.mono _ _ _ _
   | exact LeO.none _
   | refine LeO.ite ?_ ?_
   | refine LeO.bind ?_ (fun _ => ?_)
theorem laws_FnValAt.mono : ∀ a0 a1 k, LeO (laws_FnValAt.f k a0 a1) (laws_FnValAt.f (k + 1) a0 a1) := by
 intro a0 a1 k
 obtain ⟨ih0, ih1⟩ := laws_FnValAt.mono_l k
 unfold laws_FnValAt.f
 repeat' first
   | (with_reducible exact ih0 _ _ _)
   | (with_reducible exact ih1 _ _ _ _ _ _ _ _ _ _ _)
   | (with_reducible exact impl_ValAt.mono _ _ _ _)
   | (with_reducible exact laws_lhVal.mono _ _ _ _ _)
   | (with_reducible exact spec_DrawValAt.mono _ _)
   | (with_reducible exact spec_ValAt.mono _ _ _ _)
   | (with_reducible exact LeO.refl _)
   | (with_reducible exact LeO.none _)
   | (with_reducible refine LeO.ite ?_ ?_)
   | (with_reducible refine LeO.bind ?_ (fun _ => ?_))
   | exact ih0 _ _ _
   | exact ih1 _ _ _ _ _ _ _ _ _ _ _
   | exact impl_ValAt.mono _ _ _ _
   | exact laws_lhVal.mono _ _ _ _ _
   | exact spec_DrawValAt.mono _ _
   | exact spec_ValAt.mono _ _ _ _
   | exact LeO.none _
   | refine LeO.ite ?_ ?_
   | refine LeO.bind ?_ (fun _ => ?_)
def laws_FnValAt.T9 : Bool × List (List Nat × List Nat) := (true, [([], []), ([], []), ([], []), ([1, 2], [1, 2]), ([0, 3], [0, 3]), ([4], [4]), ([5], [5]), ([5], [5]), ([], []), ([8, 6, 4, 0, 1, 2, 3, 4, 5, 6, 8], [6, 8]), ([7, 9, 0, 1, 2, 3, 4, 5, 6, 7, 8, 9], [7])])
def laws_FnValAt.B9 : List Nat := [0, 0, 0, 6, 15, 31, 63, 63, 0, 383, 1023]
theorem laws_FnValAt.tab9 : rtab .any (opsOf Try.f3 9) = laws_FnValAt.T9 := by kernel_rfl
theorem laws_FnValAt.bits9 : waitsOk laws_FnValAt.T9.2 laws_FnValAt.B9 = true := by kernel_rfl
def laws_FnValAt.T10 : Bool × List (List Nat × List Nat) := (true, [([], []), ([], []), ([], []), ([1, 2], [1, 2]), ([0, 3], [0, 3]), ([4], [4]), ([5], [5]), ([5], [5]), ([], []), ([8, 6, 4, 0, 1, 2, 3, 4, 5, 6, 8], [6, 8]), ([7, 9, 0, 1, 2, 3, 4, 5, 6, 7, 8, 9], [7])])
def laws_FnValAt.B10 : List Nat := [0, 0, 0, 6, 15, 31, 63, 63, 0, 383, 1023]
theorem laws_FnValAt.tab10 : rtab .any (opsOf Try.f3 10) = laws_FnValAt.T10 := by kernel_rfl
theorem laws_FnValAt.bits10 : waitsOk laws_FnValAt.T10.2 laws_FnValAt.B10 = true := by kernel_rfl
set_option maxHeartbeats 8000000 in
set_option maxRecDepth 100000 in
theorem laws_FnValAt.calls (k : Nat) (A0 : Option Addr) (c0 : Nat) (l0 : List Int) (A1 : Option Addr) (c1 : Nat) (l1 : List Int) (r : Bool) (w : World) (hr0 : Kd.C (Kd.int .u8) w A0 l0.length l0) (hc0 : l0.length ≤ c0) (hr1 : Kd.C (Kd.int .u8) w A1 l1.length l1) (hc1 : l1.length ≤ c1) (h : laws_FnValAt.f k l0 l1 = some r) (hr_ : Aside0 (r = true)) :
  Calls Try.prog 3 #[.slice A0 l0.length c0, .slice A1 l1.length c1] w fun e w' => e = .returned (.bool r) ∧ Below w.heap.size w w' := by
 have hu25 := Try.underlying25
 have HR0 := Aside0.mk hr0
 have HC0 := Aside0.mk hc0
 clear hr0 hc0
 have HR1 := Aside0.mk hr1
 have HC1 := Aside0.mk hc1
 clear hr1 hc1
 have HB := Aside0.mk (Below.refl w.heap.size w)
 have H : (if (l0.length : Int) > 1048576 then (laws_FnValAt.j0 k l0 l1 true) else (laws_FnValAt.j0 k l0 l1 (decide ((l1.length : Int) > 1048576)))) = some r := h
 clear h
 have HC3 := Aside0.mk H
 clear H
 go_enter Try.func3, Try.ntmps3
 go_upto_region 1 with (fail)
 go_cut [23] (fun v23 wc => ∃ (kq : Nat) (x23_2 : Bool), v23 = .bool x23_2 ∧ Aside0 (laws_FnValAt.j0 kq l0 l1 x23_2 = some r) ∧ Aside0 (kq ≤ k) ∧ Aside0 (Below w.heap.size w wc))
 case first =>
  have H := HC3.out
  clear HC3
  by_cases c4 : (l0.length : Int) > 1048576
  ·rw [if_pos c4] at H
   have c4b0 : decide (1048576 < (l0.length : Int)) = true := decide_eq_true c4
   have c4b1 : decide (1048576 < l0.length) = true := decide_eq_true (by omega)
   clear c4
   (first | rw [c4b0] | (simp only [i64_w, i32_w]; rw [c4b0]) | skip)
   have H' := Aside0.mk H
   clear H
   go_wp2
   go_meet
   case rel => exact ⟨_, (true), y34, H', ⟨y46⟩, ⟨(y5 HB.out)⟩⟩
  ·rw [if_neg c4] at H
   have c4b0 : decide (1048576 < (l0.length : Int)) = false := decide_eq_false c4
   have c4b1 : decide (1048576 < l0.length) = false := decide_eq_false (by omega)
   clear c4
   (first | rw [c4b0] | (simp only [i64_w, i32_w]; rw [c4b0]) | skip)
   have H' := Aside0.mk H
   clear H
   go_wp2
   go_meet
   case rel => exact ⟨_, (decide ((l1.length : Int) > 1048576)), y34, H', ⟨y46⟩, ⟨(y5 HB.out)⟩⟩
 case rest =>
  clear HC3
  try clear c1
  try clear p2
  try clear c3
  try clear c4
  try clear c4b0
  try clear c4b1
  obtain ⟨kq, x23_2, rfl, HA, HJ2, HB⟩ := hcut
  cases kq with
  | zero => exact absurd HA.out (by simp [laws_FnValAt.j0])
  | succ kj2 =>
   have H := HA.out
   clear HA
   simp only [laws_FnValAt.j0] at H
   by_cases c5 : x23_2 = true
   ·subst c5
    rw [if_pos rfl] at H
    clear hr_
    obtain rfl := Option.some.inj H
    go_wp2
    go_ret
    exact ⟨y19, (y5 HB.out)⟩
   ·replace c5 := Bool.eq_false_iff.mpr c5
    subst c5
    rw [if_neg (show ¬ (false = true) by decide)] at H
    obtain ⟨⟨t344, t345, t348⟩, A60, H⟩ := ob H
    have A6 := Aside0.mk A60
    clear A60
    obtain ⟨⟨t352, t353, t356⟩, A70, H⟩ := ob H
    have A7 := Aside0.mk A70
    clear A70
    obtain ⟨⟨t358, t359, t362⟩, A80, H⟩ := ob H
    have A8 := Aside0.mk A80
    clear A80
    have HC9 := Aside0.mk H
    clear H
    go_upto_region 6 with (first | ((with_reducible refine gate_callee (f := 12) rfl ?_); refine goesL_ (some 26) rfl rfl Try.func12 (by kernel_rfl) rfl #[.slice A0 l0.length c0] rfl y8 ?_; (with_reducible refine (spec_DrawValAt.calls kj2 _ _ l0 t344 t345 t348 _ ?side1 ?side2 A6.out).mono ?_); (case side1 => exact y15 HR0.out HB.out); (case side2 => exact HC0.out); rintro e w10 ⟨v346, v349, rfl, ho0, ho1, hb⟩; refine ⟨_, rfl, ?_⟩; have HO347 := Aside0.mk (Kd.N_lower (Kd.N_mono (ok' := fun k_ => some k_ ≠ (v349 : Value).ownBlock) ho0 (fun k_ hk_ => hk_.2)) (below_size (y5 HB.out))); have HO350 := Aside0.mk (Kd.R_lower ho1 (below_size (y5 HB.out))); replace HB := Aside0.mk (below_step (y5 HB.out) hb); (try clear hb); (try clear hb2); (try clear hk); (try clear hi); (try clear ho0); (try clear ho1)) | ((with_reducible refine gate_dst (N := 5) rfl ?_); (try (refine gate_guard (by rfl) ?_; dsimp only)); refine zbx 5 #[.int .i64 0, .slice none 0 0] 25 ?_; intro gb351 hg w11 hbox hb; replace HO347 := Aside0.mk (Kd.N_below (Kd.N_elderB (y3 HO347.out) gb351 (Nat.le_of_eq hg.symm)) hb); replace HO350 := Aside0.mk (Kd.R_below (y12 HO350.out) hb); have BK351 := Aside0.mk hbox; have GW351 := Aside0.mk ((y9 hg HB.out : w.heap.size ≤ gb351)); have GE351 := Aside0.mk ((y9 hg HB.out : w.heap.size ≤ gb351)); replace HB := Aside0.mk (below_step (y5 HB.out) hb); clear hb hbox hg; have hcz12_0 := zh BK351; have hcz12_1 := zh1 BK351; have hfz12_0 := zfr BK351 0; have hfz12_1 := zfr BK351 1; obtain ⟨Ao13, co13, eo13⟩ := Kd.N_slice HO347.out; subst eo13) | ((with_reducible refine gate_store (t := 25) (p := 5) rfl ?_); refine store_event (t := 25) (p := 5) (v := ?vo_w14) (w1 := ((w11.setCell ⟨gb351, 0, none⟩ (.int .i64 t344)).setCell ⟨gb351, 1, none⟩ (.slice Ao13 t345.length co13))) ?hg ?ho ?hn ?hr ?_; (case ho => rfl); (case hg => rfl); (case hn => rfl); (case hr => first | (go_simp; done) | (go_simp; rfl)); intro w14 hw; have n0_ : Aside0 (Kd.N k25 25 w14 w.heap.size (fun k_ => some k_ ≠ (v349 : Value).ownBlock ∧ k_ ≠ gb351) (.slice Ao13 t345.length co13) t345) := ⟨(by rw [hw]; exact (by (with_reducible repeat (first | apply Kd.N_alloc | apply Kd.N_drewN | apply Kd.N_drew)); exact Kd.N_mono (Kd.N_far (p := ⟨gb351, 1, none⟩) (Kd.N_far (p := ⟨gb351, 0, none⟩) (Kd.N_mono HO347.out (fun k_ hk => (⟨hk, hk.2⟩ : _ ∧ k_ ≠ gb351))) (fun _ hk => hk.2) (.int .i64 t344)) (fun _ hk => hk.2) (.slice Ao13 t345.length co13)) (fun _ hk => ⟨hk.1.1, hk.1.2⟩)))⟩; have n1_ : Aside0 (Kd.R (Kd.int .i64) 3 w14 w.heap.size (fun _ => True) v349 t348) := ⟨(by rw [hw]; exact (by (with_reducible repeat (first | apply Kd.R_alloc | apply Kd.R_drewN | apply Kd.R_drew)); exact Kd.R_mono (Kd.R_far (p := ⟨gb351, 1, none⟩) (Kd.R_far (p := ⟨gb351, 0, none⟩) (Kd.R_types HO350.out BK351.out (by decide)) (fun _ hk => hk.2) (.int .i64 t344)) (fun _ hk => hk.2) (.slice Ao13 t345.length co13)) (fun _ hk => trivial)))⟩; have n2_ : Aside0 (w14.heap[gb351]? = some (.cells #[.int .i64 t344, .slice Ao13 t345.length co13] 25 (0, 0))) := ⟨(by rw [hw]; exact (by (with_reducible repeat (first | refine blk_drewN ?_ _ | refine blk_drew ?_ | refine blk_alloc ?_ _)); refine blk_put (cs := #[.int .i64 t344, .slice none 0 0]) ?_ 1 _ rfl; (with_reducible repeat (first | refine blk_drewN ?_ _ | refine blk_drew ?_ | refine blk_alloc ?_ _)); apply blk_put (i := 0); (case h => exact y0 BK351.out); (case e => rfl)))⟩; have n3_ : Aside0 (Below w.heap.size w w14) := ⟨(by rw [hw]; exact (y6 HB.out GE351.out))⟩; clear hw; clear HO347; clear HO350; clear BK351; clear HB; have HO347 := n0_; have HO350 := n1_; have BK351 := n2_; have HB := n3_; clear n0_ n1_ n2_ n3_; have hcz15_0 := zh BK351; have hcz15_1 := zh1 BK351; have hfz15_0 := zfr BK351 0; have hfz15_1 := zfr BK351 1; obtain ⟨Ao16, co16, eo16⟩ := Kd.R_slice HO350.out; subst eo16) | ((with_reducible refine gate_callee (f := 13) rfl ?_); refine goesL_ (some 32) rfl rfl Try.func13 (by kernel_rfl) rfl #[.agg #[.int .i64 t344, .slice Ao13 t345.length co13], .slice Ao16 t348.length co16] rfl y8 ?_; (with_reducible refine (spec_ValAt.calls kj2 t344 (fun k_ => (some k_ ≠ (.slice Ao16 t348.length co16 : Value).ownBlock ∧ k_ ≠ gb351)) _ _ t345 _ _ t348 t352 t353 t356 _ ?side1 ?side2 ?side3 A7.out).mono ?_); (case side1 => exact Kd.N_V (HO347.out)); (case side2 => exact y39 HO350.out); (case side3 => exact (Kd.R_reads' HO350.out).2.1); rintro e w17 ⟨v354, rfl, ho0, hb⟩; refine ⟨_, rfl, ?_⟩; replace HO347 := Aside0.mk (Kd.N_elder' (y3 HO347.out) (Kd.R_base ho0) hb); have HO355 := Aside0.mk (Kd.N_lower (Kd.N_mono (ok' := fun k_ => some k_ ≠ (.slice Ao16 t348.length co16 : Value).ownBlock ∧ k_ ≠ gb351) (Kd.R_N (Kd.R_bound ho0)) (fun k_ hk_ => ⟨(Kd.fresh' (Kd.R_lt (y12 HO350.out)) k_ hk_.2.1), (Kd.freshB (g := gb351) (o := .cells #[.int .i64 t344, .slice Ao13 t345.length co13] 25 (0, 0)) (y0 BK351.out) k_ hk_.2.1)⟩)) (below_size (y6 HB.out GE351.out))); replace HO350 := Aside0.mk (Kd.R_below (y12 HO350.out) hb); replace BK351 := zbb BK351 hb; replace HB := Aside0.mk (below_step (y6 HB.out GE351.out) hb); (try clear hb); (try clear hb2); (try clear hk); (try clear hi); (try clear ho0)) | ((with_reducible refine gate_dst (N := 7) rfl ?_); (try (refine gate_guard (by rfl) ?_; dsimp only)); refine zbx 7 #[.int .i64 0, .slice none 0 0] 25 ?_; intro gb357 hg w18 hbox hb; replace HO347 := Aside0.mk (Kd.N_below (Kd.N_elderB (y3 HO347.out) gb357 (Nat.le_of_eq hg.symm)) hb); replace HO350 := Aside0.mk (Kd.R_below (y12 HO350.out) hb); replace HO355 := Aside0.mk (Kd.N_below (Kd.N_elderB (y3 HO355.out) gb357 (Nat.le_of_eq hg.symm)) hb); have BK357 := Aside0.mk hbox; have GW357 := Aside0.mk ((y11 hg HB.out GE351.out : w.heap.size ≤ gb357)); have GE357 := Aside0.mk ((y11 hg HB.out GE351.out : w.heap.size ≤ gb357)); replace HB := Aside0.mk (below_step (y6 HB.out GE351.out) hb); have NB351_357 := zltn hg BK351; have NB357_351 := zgtn hg BK351; replace BK351 := zbb BK351 hb; clear hb hbox hg; have hnb19 := NB357_351.out; have hnc19 := NB351_357.out; have hcz20_0 := zh BK357; have hcz20_1 := zh1 BK357; have hfz20_0 := zfr BK357 0; have hfz20_1 := zfr BK357 1; obtain ⟨Ao21, co21, eo21⟩ := Kd.N_slice HO355.out; subst eo21) | ((with_reducible refine gate_store (t := 25) (p := 7) rfl ?_); refine store_event (t := 25) (p := 7) (v := ?vo_w22) (w1 := ((w18.setCell ⟨gb357, 0, none⟩ (.int .i64 t352)).setCell ⟨gb357, 1, none⟩ (.slice Ao21 t353.length co21))) ?hg ?ho ?hn ?hr ?_; (case ho => rfl); (case hg => rfl); (case hn => rfl); (case hr => first | (go_simp; done) | (go_simp; rfl)); intro w22 hw; have n0_ : Aside0 (Kd.N k25 25 w22 w.heap.size (fun k_ => some k_ ≠ (.slice Ao16 t348.length co16 : Value).ownBlock ∧ some k_ ≠ (.slice Ao21 t353.length co21 : Value).ownBlock ∧ k_ ≠ gb351 ∧ k_ ≠ gb357) (.slice Ao13 t345.length co13) t345) := ⟨(by rw [hw]; exact (by (with_reducible repeat (first | apply Kd.N_alloc | apply Kd.N_drewN | apply Kd.N_drew)); exact Kd.N_mono (Kd.N_far (p := ⟨gb357, 1, none⟩) (Kd.N_far (p := ⟨gb357, 0, none⟩) (Kd.N_mono HO347.out (fun k_ hk => (⟨hk, hk.2⟩ : _ ∧ k_ ≠ gb357))) (fun _ hk => hk.2) (.int .i64 t352)) (fun _ hk => hk.2) (.slice Ao21 t353.length co21)) (fun _ hk => ⟨hk.1.1.1.1, ⟨hk.1.1.2, ⟨hk.1.1.1.2, hk.1.2⟩⟩⟩)))⟩; have n1_ : Aside0 (Kd.R (Kd.int .i64) 3 w22 w.heap.size (fun _ => True) (.slice Ao16 t348.length co16) t348) := ⟨(by rw [hw]; exact (by (with_reducible repeat (first | apply Kd.R_alloc | apply Kd.R_drewN | apply Kd.R_drew)); exact Kd.R_mono (Kd.R_far (p := ⟨gb357, 1, none⟩) (Kd.R_far (p := ⟨gb357, 0, none⟩) (Kd.R_types HO350.out BK357.out (by decide)) (fun _ hk => hk.2) (.int .i64 t352)) (fun _ hk => hk.2) (.slice Ao21 t353.length co21)) (fun _ hk => trivial)))⟩; have n2_ : Aside0 (Kd.N k25 25 w22 w.heap.size (fun k_ => some k_ ≠ (.slice Ao16 t348.length co16 : Value).ownBlock ∧ k_ ≠ gb351 ∧ k_ ≠ gb357) (.slice Ao21 t353.length co21) t353) := ⟨(by rw [hw]; exact (by (with_reducible repeat (first | apply Kd.N_alloc | apply Kd.N_drewN | apply Kd.N_drew)); exact Kd.N_mono (Kd.N_far (p := ⟨gb357, 1, none⟩) (Kd.N_far (p := ⟨gb357, 0, none⟩) (Kd.N_mono HO355.out (fun k_ hk => (⟨hk, hk.2⟩ : _ ∧ k_ ≠ gb357))) (fun _ hk => hk.2) (.int .i64 t352)) (fun _ hk => hk.2) (.slice Ao21 t353.length co21)) (fun _ hk => ⟨hk.1.1.1, ⟨hk.1.1.2, hk.1.2⟩⟩)))⟩; have n3_ : Aside0 (w22.heap[gb351]? = some (.cells #[.int .i64 t344, .slice Ao13 t345.length co13] 25 (0, 0))) := ⟨(by rw [hw]; exact (y1 NB351_357.out BK351.out))⟩; have n4_ : Aside0 (w22.heap[gb357]? = some (.cells #[.int .i64 t352, .slice Ao21 t353.length co21] 25 (0, 0))) := ⟨(by rw [hw]; exact (by (with_reducible repeat (first | refine blk_drewN ?_ _ | refine blk_drew ?_ | refine blk_alloc ?_ _)); refine blk_put (cs := #[.int .i64 t352, .slice none 0 0]) ?_ 1 _ rfl; (with_reducible repeat (first | refine blk_drewN ?_ _ | refine blk_drew ?_ | refine blk_alloc ?_ _)); apply blk_put (i := 0); (case h => exact y0 BK357.out); (case e => rfl)))⟩; have n5_ : Aside0 (Below w.heap.size w w22) := ⟨(by rw [hw]; exact (y2 HB.out GE351.out GE357.out))⟩; clear hw; clear HO347; clear HO350; clear HO355; clear BK351; clear BK357; clear HB; have HO347 := n0_; have HO350 := n1_; have HO355 := n2_; have BK351 := n3_; have BK357 := n4_; have HB := n5_; clear n0_ n1_ n2_ n3_ n4_ n5_; have hcz23_0 := zh BK351; have hcz23_1 := zh1 BK351; have hfz23_0 := zfr BK351 0; have hfz23_1 := zfr BK351 1) | ((with_reducible refine gate_callee (f := 14) rfl ?_); refine goesL_ (some 38) rfl rfl Try.func14 (by kernel_rfl) rfl #[.agg #[.int .i64 t344, .slice Ao13 t345.length co13], .slice Ao16 t348.length co16] rfl y8 ?_; (with_reducible refine (impl_ValAt.calls kj2 t344 (fun k_ => (some k_ ≠ (.slice Ao16 t348.length co16 : Value).ownBlock ∧ (some k_ ≠ (.slice Ao21 t353.length co21 : Value).ownBlock ∧ (k_ ≠ gb351 ∧ k_ ≠ gb357)))) _ _ t345 _ _ t348 t358 t359 t362 _ ?side1 ?side2 ?side3 A8.out).mono ?_); (case side1 => exact Kd.N_V (HO347.out)); (case side2 => exact y39 HO350.out); (case side3 => exact (Kd.R_reads' HO350.out).2.1); rintro e w24 ⟨v360, rfl, ho0, hb⟩; refine ⟨_, rfl, ?_⟩; replace HO347 := Aside0.mk (Kd.N_elder' (y3 HO347.out) (Kd.N_base ho0) hb); have HO361 := Aside0.mk (Kd.N_lower (Kd.N_mono (ok' := fun k_ => some k_ ≠ (.slice Ao16 t348.length co16 : Value).ownBlock ∧ some k_ ≠ (.slice Ao21 t353.length co21 : Value).ownBlock ∧ k_ ≠ gb351 ∧ k_ ≠ gb357) ho0 (fun k_ hk_ => ⟨Or.elim hk_ (fun hs_ => hs_.1) (fun hn_ => (Kd.fresh' (Kd.R_lt (y12 HO350.out)) k_ hn_)), Or.elim hk_ (fun hs_ => hs_.2.1) (fun hn_ => (Kd.fresh' (Kd.N_lt (y3 HO355.out)) k_ hn_)), Or.elim hk_ (fun hs_ => hs_.2.2.1) (fun hn_ => (Kd.freshB (g := gb351) (o := .cells #[.int .i64 t344, .slice Ao13 t345.length co13] 25 (0, 0)) (y0 BK351.out) k_ hn_)), Or.elim hk_ (fun hs_ => hs_.2.2.2) (fun hn_ => (Kd.freshB (g := gb357) (o := .cells #[.int .i64 t352, .slice Ao21 t353.length co21] 25 (0, 0)) (y0 BK357.out) k_ hn_))⟩)) (below_size (y2 HB.out GE351.out GE357.out))); replace HO350 := Aside0.mk (Kd.R_below (y12 HO350.out) hb); replace HO355 := Aside0.mk (Kd.N_elder' (y3 HO355.out) (Kd.N_base ho0) hb); replace BK351 := zbb BK351 hb; replace BK357 := zbb BK357 hb; replace HB := Aside0.mk (below_step (y2 HB.out GE351.out GE357.out) hb); (try clear hb); (try clear hb2); (try clear hk); (try clear hi); (try clear ho0)) | ((with_reducible refine gate_dst (N := 9) rfl ?_); (try (refine gate_guard (by rfl) ?_; dsimp only)); refine zbx 9 #[.int .i64 0, .slice none 0 0] 25 ?_; intro gb363 hg w25 hbox hb; replace HO347 := Aside0.mk (Kd.N_below (Kd.N_elderB (y3 HO347.out) gb363 (Nat.le_of_eq hg.symm)) hb); replace HO350 := Aside0.mk (Kd.R_below (y12 HO350.out) hb); replace HO355 := Aside0.mk (Kd.N_below (Kd.N_elderB (y3 HO355.out) gb363 (Nat.le_of_eq hg.symm)) hb); replace HO361 := Aside0.mk (Kd.N_below (Kd.N_elderB (y3 HO361.out) gb363 (Nat.le_of_eq hg.symm)) hb); have BK363 := Aside0.mk hbox; have GW363 := Aside0.mk ((y16 hg HB.out GE351.out GE357.out : w.heap.size ≤ gb363)); have GE363 := Aside0.mk ((y16 hg HB.out GE351.out GE357.out : w.heap.size ≤ gb363)); replace HB := Aside0.mk (below_step (y2 HB.out GE351.out GE357.out) hb); have NB351_363 := zltn hg BK351; have NB363_351 := zgtn hg BK351; replace BK351 := zbb BK351 hb; have NB357_363 := zltn hg BK357; have NB363_357 := zgtn hg BK357; replace BK357 := zbb BK357 hb; clear hb hbox hg; have hnb26 := NB363_351.out; have hnc26 := NB351_363.out; have hnb27 := NB363_357.out; have hnc27 := NB357_363.out; have hcz28_0 := zh BK363; have hcz28_1 := zh1 BK363; have hfz28_0 := zfr BK363 0; have hfz28_1 := zfr BK363 1; obtain ⟨Ao29, co29, eo29⟩ := Kd.N_slice HO361.out; subst eo29))
    (try simp only [Act.put, List.setIfInBounds_toArray, List.set_cons_zero, List.set_cons_succ])
    go_cut [53] (fun v53 wc => ∃ (kq : Nat) (x53_8 : Bool), v53 = .bool x53_8 ∧ Aside0 (laws_FnValAt.j1 kq l1 t348 t356 t362 x53_8 t344 t345 t352 t353 t358 t359 = some r) ∧ Aside0 (kq ≤ kj2) ∧ Aside0 (Kd.R (Kd.int .i64) 3 wc w.heap.size (fun _ => True) (.slice Ao16 t348.length co16) t348) ∧ Aside0 (Kd.N k25 25 wc w.heap.size (fun k_ => some k_ ≠ ((.slice Ao16 t348.length co16) : Value).ownBlock ∧ some k_ ≠ ((.slice Ao21 t353.length co21) : Value).ownBlock ∧ some k_ ≠ ((.slice Ao29 t359.length co29) : Value).ownBlock ∧ k_ ≠ gb351 ∧ k_ ≠ gb357 ∧ k_ ≠ gb363) (.slice Ao13 t345.length co13) t345) ∧ Aside0 (Kd.N k25 25 wc w.heap.size (fun k_ => some k_ ≠ ((.slice Ao16 t348.length co16) : Value).ownBlock ∧ some k_ ≠ ((.slice Ao29 t359.length co29) : Value).ownBlock ∧ k_ ≠ gb351 ∧ k_ ≠ gb357 ∧ k_ ≠ gb363) (.slice Ao21 t353.length co21) t353) ∧ Aside0 (Kd.N k25 25 wc w.heap.size (fun k_ => some k_ ≠ ((.slice Ao16 t348.length co16) : Value).ownBlock ∧ some k_ ≠ ((.slice Ao21 t353.length co21) : Value).ownBlock ∧ k_ ≠ gb351 ∧ k_ ≠ gb357 ∧ k_ ≠ gb363) (.slice Ao29 t359.length co29) t359) ∧ Aside0 (wc.heap[gb351]? = some (.cells #[.int .i64 t344, (.slice Ao13 t345.length co13)] 25 (0, 0))) ∧ Aside0 (wc.heap[gb357]? = some (.cells #[.int .i64 t352, (.slice Ao21 t353.length co21)] 25 (0, 0))) ∧ Aside0 (wc.heap[gb363]? = some (.cells #[.int .i64 t358, (.slice Ao29 t359.length co29)] 25 (0, 0))) ∧ Aside0 (Below w.heap.size w wc))
    case first =>
     have H := HC9.out
     clear HC9
     by_cases c30 : (t362 != t356) = true
     ·rw [if_pos c30] at H
      have c30b0 : (t362 != t356) = true := c30
      (try (have c30b1 : decide (t362 = t356) = false := by simpa using c30))
      (try (have c30b2 : (t362 == t356) = false := by simpa using c30))
      (try (have c30b3 : ¬ (t362 = t356) := by simpa using c30))
      clear c30
      (first | rw [c30b0] | (simp only [i64_w, i32_w]; rw [c30b0]) | skip)
      have H' := Aside0.mk H
      clear H
      go_wp2
      go_meet
      case rel => exact ⟨_, (true), y34, H', ⟨(by have := HJ2.out; first | omega | exact Nat.le_refl _)⟩, ⟨(by (with_reducible repeat (first | apply Kd.R_alloc | apply Kd.R_drewN | apply Kd.R_drew)); exact Kd.R_mono (Kd.R_far (p := ⟨gb363, 1, none⟩) (Kd.R_far (p := ⟨gb363, 0, none⟩) (Kd.R_types HO350.out BK363.out (by decide)) (fun _ hk => hk.2) (.int .i64 t358)) (fun _ hk => hk.2) (.slice Ao29 t359.length co29)) (fun _ hk => trivial))⟩, ⟨(by (with_reducible repeat (first | apply Kd.N_alloc | apply Kd.N_drewN | apply Kd.N_drew)); exact Kd.N_mono (Kd.N_far (p := ⟨gb363, 1, none⟩) (Kd.N_far (p := ⟨gb363, 0, none⟩) (Kd.N_mono HO347.out (fun k_ hk => (⟨hk, hk.2⟩ : _ ∧ k_ ≠ gb363))) (fun _ hk => hk.2) (.int .i64 t358)) (fun _ hk => hk.2) (.slice Ao29 t359.length co29)) (fun _ hk => ⟨hk.1.1.1.1, ⟨hk.1.1.1.2.1, ⟨hk.1.1.2, ⟨hk.1.1.1.2.2.1, ⟨hk.1.1.1.2.2.2, hk.1.2⟩⟩⟩⟩⟩))⟩, ⟨(by (with_reducible repeat (first | apply Kd.N_alloc | apply Kd.N_drewN | apply Kd.N_drew)); exact Kd.N_mono (Kd.N_far (p := ⟨gb363, 1, none⟩) (Kd.N_far (p := ⟨gb363, 0, none⟩) (Kd.N_mono HO355.out (fun k_ hk => (⟨hk, hk.2⟩ : _ ∧ k_ ≠ gb363))) (fun _ hk => hk.2) (.int .i64 t358)) (fun _ hk => hk.2) (.slice Ao29 t359.length co29)) (fun _ hk => ⟨hk.1.1.1.1, ⟨hk.1.1.2, ⟨hk.1.1.1.2.1, ⟨hk.1.1.1.2.2, hk.1.2⟩⟩⟩⟩))⟩, ⟨(by (with_reducible repeat (first | apply Kd.N_alloc | apply Kd.N_drewN | apply Kd.N_drew)); exact Kd.N_mono (Kd.N_far (p := ⟨gb363, 1, none⟩) (Kd.N_far (p := ⟨gb363, 0, none⟩) (Kd.N_mono HO361.out (fun k_ hk => (⟨hk, hk.2⟩ : _ ∧ k_ ≠ gb363))) (fun _ hk => hk.2) (.int .i64 t358)) (fun _ hk => hk.2) (.slice Ao29 t359.length co29)) (fun _ hk => ⟨hk.1.1.1, ⟨hk.1.1.2.1, ⟨hk.1.1.2.2.1, ⟨hk.1.1.2.2.2, hk.1.2⟩⟩⟩⟩))⟩, ⟨(y1 NB351_363.out BK351.out)⟩, ⟨(y1 NB357_363.out BK357.out)⟩, ⟨(by (with_reducible repeat (first | refine blk_drewN ?_ _ | refine blk_drew ?_ | refine blk_alloc ?_ _)); refine blk_put (cs := #[.int .i64 t358, .slice none 0 0]) ?_ 1 _ rfl; (with_reducible repeat (first | refine blk_drewN ?_ _ | refine blk_drew ?_ | refine blk_alloc ?_ _)); refine blk_put (cs := #[.int .i64 0, .slice none 0 0]) ?_ 0 _ rfl; (with_reducible repeat (first | refine blk_drewN ?_ _ | refine blk_drew ?_ | refine blk_alloc ?_ _)); exact BK363.out)⟩, ⟨(y4 HB.out GE351.out GE357.out GE363.out)⟩⟩
     ·rw [if_neg c30] at H
      have c30b0 : (t362 != t356) = false := by simpa using c30
      (try (have c30b1 : decide (t362 = t356) = true := by simpa using c30))
      (try (have c30b2 : (t362 == t356) = true := by simpa using c30))
      clear c30
      (first | rw [c30b0] | (simp only [i64_w, i32_w]; rw [c30b0]) | skip)
      obtain ⟨t364, A310, H⟩ := ob H
      have A31 := Aside0.mk A310
      clear A310
      by_cases c32 : t364 = true
      ·subst c32
       rw [if_pos rfl] at H
       have H' := Aside0.mk H
       clear H
       have hnb33 := NB363_351.out
       have hnc33 := NB351_363.out
       have hnb34 := NB363_357.out
       have hnc34 := NB357_363.out
       have hcz35_0 := zh BK363
       have hcz35_1 := zh1 BK363
       have hfz35_0 := zfr BK363 0
       have hfz35_1 := zfr BK363 1
       have hnb36 := NB357_351.out
       have hnc36 := NB351_357.out
       have hcz37_0 := zh BK357
       have hcz37_1 := zh1 BK357
       have hfz37_0 := zfr BK357 0
       have hfz37_1 := zfr BK357 1
       go_wp2_with (first | (go_at_call 15; (with_reducible refine (laws_lhVal.calls kj2 t358 _ _ t359 t352 _ _ t353 true _ ?side1 ?side2 ?side3 ?side4 A31.out).mono ?_); (case side1 => refine (Kd.N_reads' (e := 25) (base := w.heap.size) (ok := fun k_ => ((some k_ ≠ (.slice Ao16 t348.length co16 : Value).ownBlock ∧ (some k_ ≠ (.slice Ao21 t353.length co21 : Value).ownBlock ∧ (k_ ≠ gb351 ∧ k_ ≠ gb357))) ∧ k_ ≠ gb363)) (n := t359.length) (c := co29) ?_).2.2; exact (by (with_reducible repeat (first | apply Kd.N_alloc | apply Kd.N_drewN | apply Kd.N_drew)); exact (Kd.N_mono (Kd.N_far (p := ⟨gb363, 1, none⟩) (Kd.N_far (p := ⟨gb363, 0, none⟩) (Kd.N_mono HO361.out (fun k_ hk => (⟨hk, hk.2⟩ : _ ∧ k_ ≠ gb363))) (fun _ hk => hk.2) (.int .i64 t358)) (fun _ hk => hk.2) (.slice Ao29 t359.length co29)) (fun _ h_ => h_.1)))); (case side2 => exact (Kd.N_reads' HO361.out).2.1); (case side3 => refine (Kd.N_reads' (e := 25) (base := w.heap.size) (ok := fun k_ => (((some k_ ≠ (.slice Ao16 t348.length co16 : Value).ownBlock ∧ (k_ ≠ gb351 ∧ k_ ≠ gb357)) ∧ some k_ ≠ (.slice Ao29 t359.length co29 : Value).ownBlock) ∧ k_ ≠ gb363)) (n := t353.length) (c := co21) ?_).2.2; exact (by (with_reducible repeat (first | apply Kd.N_alloc | apply Kd.N_drewN | apply Kd.N_drew)); exact (Kd.N_mono (Kd.N_far (p := ⟨gb363, 1, none⟩) (Kd.N_far (p := ⟨gb363, 0, none⟩) (Kd.N_mono HO355.out (fun k_ hk => (⟨hk, hk.2⟩ : _ ∧ k_ ≠ gb363))) (fun _ hk => hk.2) (.int .i64 t358)) (fun _ hk => hk.2) (.slice Ao29 t359.length co29)) (fun _ h_ => h_.1)))); (case side4 => exact (Kd.N_reads' HO355.out).2.1); rintro e w38 ⟨rfl, hb⟩; replace HO347 := Aside0.mk (Kd.N_below (by (with_reducible repeat (first | apply Kd.N_alloc | apply Kd.N_drewN | apply Kd.N_drew)); exact (Kd.N_mono (Kd.N_far (p := ⟨gb363, 1, none⟩) (Kd.N_far (p := ⟨gb363, 0, none⟩) (Kd.N_mono HO347.out (fun k_ hk => (⟨hk, hk.2⟩ : _ ∧ k_ ≠ gb363))) (fun _ hk => hk.2) (.int .i64 t358)) (fun _ hk => hk.2) (.slice Ao29 t359.length co29)) (fun _ h_ => h_.1))) hb); replace HO350 := Aside0.mk (Kd.R_below (by (with_reducible repeat (first | apply Kd.R_alloc | apply Kd.R_drewN | apply Kd.R_drew)); exact (Kd.R_mono (Kd.R_far (p := ⟨gb363, 1, none⟩) (Kd.R_far (p := ⟨gb363, 0, none⟩) (Kd.R_types HO350.out BK363.out (by decide)) (fun _ hk => hk.2) (.int .i64 t358)) (fun _ hk => hk.2) (.slice Ao29 t359.length co29)) (fun _ h_ => h_.1))) hb); replace HO355 := Aside0.mk (Kd.N_below (by (with_reducible repeat (first | apply Kd.N_alloc | apply Kd.N_drewN | apply Kd.N_drew)); exact (Kd.N_mono (Kd.N_far (p := ⟨gb363, 1, none⟩) (Kd.N_far (p := ⟨gb363, 0, none⟩) (Kd.N_mono HO355.out (fun k_ hk => (⟨hk, hk.2⟩ : _ ∧ k_ ≠ gb363))) (fun _ hk => hk.2) (.int .i64 t358)) (fun _ hk => hk.2) (.slice Ao29 t359.length co29)) (fun _ h_ => h_.1))) hb); replace HO361 := Aside0.mk (Kd.N_below (by (with_reducible repeat (first | apply Kd.N_alloc | apply Kd.N_drewN | apply Kd.N_drew)); exact (Kd.N_mono (Kd.N_far (p := ⟨gb363, 1, none⟩) (Kd.N_far (p := ⟨gb363, 0, none⟩) (Kd.N_mono HO361.out (fun k_ hk => (⟨hk, hk.2⟩ : _ ∧ k_ ≠ gb363))) (fun _ hk => hk.2) (.int .i64 t358)) (fun _ hk => hk.2) (.slice Ao29 t359.length co29)) (fun _ h_ => h_.1))) hb); replace BK351 := Aside0.mk (blk_below (g := gb351) (o := .cells #[.int .i64 t344, .slice Ao13 t345.length co13] 25 (0, 0)) (y1 NB351_363.out BK351.out) hb); replace BK357 := Aside0.mk (blk_below (g := gb357) (o := .cells #[.int .i64 t352, .slice Ao21 t353.length co21] 25 (0, 0)) (y1 NB357_363.out BK357.out) hb); replace BK363 := Aside0.mk (blk_below (g := gb363) (o := .cells #[.int .i64 t358, .slice Ao29 t359.length co29] 25 (0, 0)) (by (with_reducible repeat (first | refine blk_drewN ?_ _ | refine blk_drew ?_ | refine blk_alloc ?_ _)); refine blk_put (cs := #[.int .i64 t358, .slice none 0 0]) ?_ 1 _ rfl; (with_reducible repeat (first | refine blk_drewN ?_ _ | refine blk_drew ?_ | refine blk_alloc ?_ _)); apply blk_put (i := 0); (case h => exact y0 BK363.out); (case e => rfl)) hb); replace HB := Aside0.mk (below_step (y4 HB.out GE351.out GE357.out GE363.out) hb); (try clear hb); (try clear hb2); (try clear hk); (try clear hi)))
       go_meet
       case rel => exact ⟨_, (!t362), y34, H', ⟨(by have := HJ2.out; first | omega | exact Nat.le_refl _)⟩, ⟨(y12 HO350.out)⟩, ⟨(y58 HO347.out)⟩, ⟨(y61 HO355.out)⟩, ⟨(y54 HO361.out)⟩, ⟨(y0 BK351.out)⟩, ⟨(y0 BK357.out)⟩, ⟨(y0 BK363.out)⟩, ⟨(y4 HB.out GE351.out GE357.out GE363.out)⟩⟩
      ·replace c32 := Bool.eq_false_iff.mpr c32
       subst c32
       rw [if_neg (show ¬ (false = true) by decide)] at H
       have H' := Aside0.mk H
       clear H
       have hnb39 := NB363_351.out
       have hnc39 := NB351_363.out
       have hnb40 := NB363_357.out
       have hnc40 := NB357_363.out
       have hcz41_0 := zh BK363
       have hcz41_1 := zh1 BK363
       have hfz41_0 := zfr BK363 0
       have hfz41_1 := zfr BK363 1
       have hnb42 := NB357_351.out
       have hnc42 := NB351_357.out
       have hcz43_0 := zh BK357
       have hcz43_1 := zh1 BK357
       have hfz43_0 := zfr BK357 0
       have hfz43_1 := zfr BK357 1
       go_wp2_with (first | (go_at_call 15; (with_reducible refine (laws_lhVal.calls kj2 t358 _ _ t359 t352 _ _ t353 false _ ?side1 ?side2 ?side3 ?side4 A31.out).mono ?_); (case side1 => refine (Kd.N_reads' (e := 25) (base := w.heap.size) (ok := fun k_ => ((some k_ ≠ (.slice Ao16 t348.length co16 : Value).ownBlock ∧ (some k_ ≠ (.slice Ao21 t353.length co21 : Value).ownBlock ∧ (k_ ≠ gb351 ∧ k_ ≠ gb357))) ∧ k_ ≠ gb363)) (n := t359.length) (c := co29) ?_).2.2; exact (by (with_reducible repeat (first | apply Kd.N_alloc | apply Kd.N_drewN | apply Kd.N_drew)); exact (Kd.N_mono (Kd.N_far (p := ⟨gb363, 1, none⟩) (Kd.N_far (p := ⟨gb363, 0, none⟩) (Kd.N_mono HO361.out (fun k_ hk => (⟨hk, hk.2⟩ : _ ∧ k_ ≠ gb363))) (fun _ hk => hk.2) (.int .i64 t358)) (fun _ hk => hk.2) (.slice Ao29 t359.length co29)) (fun _ h_ => h_.1)))); (case side2 => exact (Kd.N_reads' HO361.out).2.1); (case side3 => refine (Kd.N_reads' (e := 25) (base := w.heap.size) (ok := fun k_ => (((some k_ ≠ (.slice Ao16 t348.length co16 : Value).ownBlock ∧ (k_ ≠ gb351 ∧ k_ ≠ gb357)) ∧ some k_ ≠ (.slice Ao29 t359.length co29 : Value).ownBlock) ∧ k_ ≠ gb363)) (n := t353.length) (c := co21) ?_).2.2; exact (by (with_reducible repeat (first | apply Kd.N_alloc | apply Kd.N_drewN | apply Kd.N_drew)); exact (Kd.N_mono (Kd.N_far (p := ⟨gb363, 1, none⟩) (Kd.N_far (p := ⟨gb363, 0, none⟩) (Kd.N_mono HO355.out (fun k_ hk => (⟨hk, hk.2⟩ : _ ∧ k_ ≠ gb363))) (fun _ hk => hk.2) (.int .i64 t358)) (fun _ hk => hk.2) (.slice Ao29 t359.length co29)) (fun _ h_ => h_.1)))); (case side4 => exact (Kd.N_reads' HO355.out).2.1); rintro e w44 ⟨rfl, hb⟩; replace HO347 := Aside0.mk (Kd.N_below (by (with_reducible repeat (first | apply Kd.N_alloc | apply Kd.N_drewN | apply Kd.N_drew)); exact (Kd.N_mono (Kd.N_far (p := ⟨gb363, 1, none⟩) (Kd.N_far (p := ⟨gb363, 0, none⟩) (Kd.N_mono HO347.out (fun k_ hk => (⟨hk, hk.2⟩ : _ ∧ k_ ≠ gb363))) (fun _ hk => hk.2) (.int .i64 t358)) (fun _ hk => hk.2) (.slice Ao29 t359.length co29)) (fun _ h_ => h_.1))) hb); replace HO350 := Aside0.mk (Kd.R_below (by (with_reducible repeat (first | apply Kd.R_alloc | apply Kd.R_drewN | apply Kd.R_drew)); exact (Kd.R_mono (Kd.R_far (p := ⟨gb363, 1, none⟩) (Kd.R_far (p := ⟨gb363, 0, none⟩) (Kd.R_types HO350.out BK363.out (by decide)) (fun _ hk => hk.2) (.int .i64 t358)) (fun _ hk => hk.2) (.slice Ao29 t359.length co29)) (fun _ h_ => h_.1))) hb); replace HO355 := Aside0.mk (Kd.N_below (by (with_reducible repeat (first | apply Kd.N_alloc | apply Kd.N_drewN | apply Kd.N_drew)); exact (Kd.N_mono (Kd.N_far (p := ⟨gb363, 1, none⟩) (Kd.N_far (p := ⟨gb363, 0, none⟩) (Kd.N_mono HO355.out (fun k_ hk => (⟨hk, hk.2⟩ : _ ∧ k_ ≠ gb363))) (fun _ hk => hk.2) (.int .i64 t358)) (fun _ hk => hk.2) (.slice Ao29 t359.length co29)) (fun _ h_ => h_.1))) hb); replace HO361 := Aside0.mk (Kd.N_below (by (with_reducible repeat (first | apply Kd.N_alloc | apply Kd.N_drewN | apply Kd.N_drew)); exact (Kd.N_mono (Kd.N_far (p := ⟨gb363, 1, none⟩) (Kd.N_far (p := ⟨gb363, 0, none⟩) (Kd.N_mono HO361.out (fun k_ hk => (⟨hk, hk.2⟩ : _ ∧ k_ ≠ gb363))) (fun _ hk => hk.2) (.int .i64 t358)) (fun _ hk => hk.2) (.slice Ao29 t359.length co29)) (fun _ h_ => h_.1))) hb); replace BK351 := Aside0.mk (blk_below (g := gb351) (o := .cells #[.int .i64 t344, .slice Ao13 t345.length co13] 25 (0, 0)) (y1 NB351_363.out BK351.out) hb); replace BK357 := Aside0.mk (blk_below (g := gb357) (o := .cells #[.int .i64 t352, .slice Ao21 t353.length co21] 25 (0, 0)) (y1 NB357_363.out BK357.out) hb); replace BK363 := Aside0.mk (blk_below (g := gb363) (o := .cells #[.int .i64 t358, .slice Ao29 t359.length co29] 25 (0, 0)) (by (with_reducible repeat (first | refine blk_drewN ?_ _ | refine blk_drew ?_ | refine blk_alloc ?_ _)); refine blk_put (cs := #[.int .i64 t358, .slice none 0 0]) ?_ 1 _ rfl; (with_reducible repeat (first | refine blk_drewN ?_ _ | refine blk_drew ?_ | refine blk_alloc ?_ _)); apply blk_put (i := 0); (case h => exact y0 BK363.out); (case e => rfl)) hb); replace HB := Aside0.mk (below_step (y4 HB.out GE351.out GE357.out GE363.out) hb); (try clear hb); (try clear hb2); (try clear hk); (try clear hi)))
       go_meet
       case rel => exact ⟨_, (true), y34, H', ⟨(by have := HJ2.out; first | omega | exact Nat.le_refl _)⟩, ⟨(y12 HO350.out)⟩, ⟨(y58 HO347.out)⟩, ⟨(y61 HO355.out)⟩, ⟨(y54 HO361.out)⟩, ⟨(y0 BK351.out)⟩, ⟨(y0 BK357.out)⟩, ⟨(y0 BK363.out)⟩, ⟨(y4 HB.out GE351.out GE357.out GE363.out)⟩⟩
    case rest =>
     clear HC9
     try clear c1
     try clear c2
     try clear p2
     try clear c3
     try clear c4
     try clear c4b0
     try clear c4b1
     try clear c5
     try clear c12
     try clear c13
     try clear c14
     try clear c19
     try clear c26
     try clear c27
     try clear c30
     try clear c30b0
     try clear c30b1
     try clear c30b2
     try clear c32
     try clear c33
     try clear c34
     try clear c36
     try clear c39
     try clear c40
     try clear c42
     try clear hcz12_0
     try clear hcz12_1
     try clear hcz15_0
     try clear hcz15_1
     try clear hcz20_0
     try clear hcz20_1
     try clear hcz23_0
     try clear hcz23_1
     try clear hcz28_0
     try clear hcz28_1
     try clear hcz35_0
     try clear hcz35_1
     try clear hcz37_0
     try clear hcz37_1
     try clear hcz41_0
     try clear hcz41_1
     try clear hcz43_0
     try clear hcz43_1
     try clear hfz12_0
     try clear hfz12_1
     try clear hfz15_0
     try clear hfz15_1
     try clear hfz20_0
     try clear hfz20_1
     try clear hfz23_0
     try clear hfz23_1
     try clear hfz28_0
     try clear hfz28_1
     try clear hfz35_0
     try clear hfz35_1
     try clear hfz37_0
     try clear hfz37_1
     try clear hfz41_0
     try clear hfz41_1
     try clear hfz43_0
     try clear hfz43_1
     try clear p2
     obtain ⟨kq, x53_8, rfl, HA, HJ8, HO_6, HO_352001, HO_358001, HO_364001, BK351, BK357, BK363, HB⟩ := hcut
     cases kq with
     | zero => exact absurd HA.out (by simp [laws_FnValAt.j1])
     | succ kj8 =>
      have H := HA.out
      clear HA
      simp only [laws_FnValAt.j1] at H
      by_cases c45 : x53_8 = true
      ·subst c45
       rw [if_pos rfl] at H
       by_cases c46 : (t362 == t356) = true
       ·rw [if_pos c46] at H
        have c46b0 : (t362 == t356) = true := c46
        (try (have c46b1 : decide (t362 = t356) = true := by simpa using c46))
        (try (have c46b2 : (t362 == t356) = true := by simpa using c46))
        clear c46
        obtain ⟨t365, A470, H⟩ := ob H
        have A47 := Aside0.mk A470
        clear A470
        clear hr_
        obtain rfl := Option.some.inj H
        have hnb48 := NB363_351.out
        have hnc48 := NB351_363.out
        have hnb49 := NB363_357.out
        have hnc49 := NB357_363.out
        have hcz50_0 := zh BK363
        have hcz50_1 := zh1 BK363
        have hfz50_0 := zfr BK363 0
        have hfz50_1 := zfr BK363 1
        have hnb51 := NB357_351.out
        have hnc51 := NB351_357.out
        have hcz52_0 := zh BK357
        have hcz52_1 := zh1 BK357
        have hfz52_0 := zfr BK357 0
        have hfz52_1 := zfr BK357 1
        go_wp2_with (first | (go_at_call 15; (with_reducible refine (laws_lhVal.calls kj8 t358 _ _ t359 t352 _ _ t353 t365 _ ?side1 ?side2 ?side3 ?side4 A47.out).mono ?_); (case side1 => exact y38 HO_364001.out); (case side2 => exact (Kd.N_reads' HO_364001.out).2.1); (case side3 => exact y38 HO_358001.out); (case side4 => exact (Kd.N_reads' HO_358001.out).2.1); rintro e w53 ⟨rfl, hb⟩; replace HO_6 := Aside0.mk (Kd.R_below (y12 HO_6.out) hb); replace HO_352001 := Aside0.mk (Kd.N_below (y3 HO_352001.out) hb); replace HO_358001 := Aside0.mk (Kd.N_below (y3 HO_358001.out) hb); replace HO_364001 := Aside0.mk (Kd.N_below (y3 HO_364001.out) hb); replace BK351 := zbb BK351 hb; replace BK357 := zbb BK357 hb; replace BK363 := zbb BK363 hb; replace HB := Aside0.mk (below_step (y4 HB.out GE351.out GE357.out GE363.out) hb); (try clear hb); (try clear hb2); (try clear hk); (try clear hi)))
        go_ret
        exact ⟨y19, (y4 HB.out GE351.out GE357.out GE363.out)⟩
       ·rw [if_neg c46] at H
        have c46b0 : (t362 == t356) = false := by simpa using c46
        (try (have c46b1 : decide (t362 = t356) = false := by simpa using c46))
        (try (have c46b2 : (t362 == t356) = false := by simpa using c46))
        (try (have c46b3 : ¬ (t362 = t356) := by simpa using c46))
        clear c46
        exact absurd ((Option.some.inj H).trans hr_.out) (by decide)
      ·replace c45 := Bool.eq_false_iff.mpr c45
       subst c45
       rw [if_neg (show ¬ (false = true) by decide)] at H
       by_cases c54 : (wrap64 ((t348.length : Int) + 1)) = 0
       ·rw [if_pos c54] at H
        exact absurd H (by simp)
       ·rw [if_neg c54] at H
        have c54b0 : ((wrap64 ((t348.length : Int) + 1)) == 0) = false := beq_eq_false_iff_ne.mpr c54
        have c54b1 : ((wrap64 ((t348.length : Int) + 1)) != 0) = true := bne_iff_ne.mpr c54
        obtain ⟨ji55, hji55⟩ : ∃ j_ : Int, ((l1.length : Int) % (wrap64 ((t348.length : Int) + 1))) = j_ := ⟨_, rfl⟩
        replace H : (if 0 ≤ (ji55) then (if (ji55) ≤ (t348.length : Int) then ((impl_ValAt.f kj8 t344 t345 (t348.take ((ji55) : Int).toNat)).bind fun bt371 => ((impl_ValAt.f kj8 bt371.1 bt371.2.1 (t348.drop ((ji55) : Int).toNat)).bind fun bt382 => (if bt371.2.2 = true then (if bt382.2.2 = true then ((laws_lhVal.f kj8 bt382.1 bt382.2.1 t358 t359).bind fun t388 => (some t388)) else (some false)) else (some false)))) else (none)) else (none)) = some r := by first | (rw [hji55] at H; exact H) | (simp only [hji55] at H ⊢; exact H)
        by_cases c56 : 0 ≤ (ji55)
        ·rw [if_pos c56] at H
         have c56b0 := eq_true c56
         have c56b1 : decide (0 ≤ (ji55)) = true := decide_eq_true c56
         clear c56
         by_cases c57 : (ji55) ≤ (t348.length : Int)
         ·rw [if_pos c57] at H
          have c57b0 := eq_true c57
          have c57b1 : decide ((ji55) ≤ (t348.length : Int)) = true := decide_eq_true c57
          clear c57
          obtain ⟨y366, hy366⟩ : ∃ y_ : List Int, y_ = (t348.take ((ji55) : Int).toNat) := ⟨_, rfl⟩
          replace H : ((impl_ValAt.f kj8 t344 t345 y366).bind fun bt371 => ((impl_ValAt.f kj8 bt371.1 bt371.2.1 (t348.drop ((ji55) : Int).toNat)).bind fun bt382 => (if bt371.2.2 = true then (if bt382.2.2 = true then ((laws_lhVal.f kj8 bt382.1 bt382.2.1 t358 t359).bind fun t388 => (some t388)) else (some false)) else (some false)))) = some r := by first | (rw [hy366]; with_reducible exact H) | (have H2_ := (Option.bind_some _ _).symm.trans H; rw [hy366]; with_reducible exact H2_) | (have H2_ := (Option.bind_some _ _).symm.trans H; with_reducible exact H2_) | with_reducible exact H | (rw [hy366]; exact H) | exact H
          have Ny366 := Aside0.mk hy366
          clear hy366
          obtain ⟨⟨t371, t372, t375⟩, A580, H⟩ := ob H
          have A58 := Aside0.mk A580
          clear A580
          have c59b0 := eq_true (of_decide_eq_true y23 : 0 ≤ (ji55))
          have c60b0 := eq_true (of_decide_eq_true y23 : (ji55) ≤ (t348.length : Int))
          obtain ⟨y377, hy377⟩ : ∃ y_ : List Int, y_ = (t348.drop ((ji55) : Int).toNat) := ⟨_, rfl⟩
          replace H : ((impl_ValAt.f kj8 t371 t372 y377).bind fun bt382 => (if t375 = true then (if bt382.2.2 = true then ((laws_lhVal.f kj8 bt382.1 bt382.2.1 t358 t359).bind fun t388 => (some t388)) else (some false)) else (some false))) = some r := by first | (rw [hy377]; with_reducible exact H) | (have H2_ := (Option.bind_some _ _).symm.trans H; rw [hy377]; with_reducible exact H2_) | (have H2_ := (Option.bind_some _ _).symm.trans H; with_reducible exact H2_) | with_reducible exact H | (rw [hy377]; exact H) | exact H
          have Ny377 := Aside0.mk hy377
          clear hy377
          obtain ⟨⟨t382, t383, t386⟩, A610, H⟩ := ob H
          have A61 := Aside0.mk A610
          clear A610
          by_cases c62 : t375 = true
          ·subst c62
           rw [if_pos rfl] at H
           by_cases c63 : t386 = true
           ·subst c63
            rw [if_pos rfl] at H
            obtain ⟨t388, A640, H⟩ := ob H
            have A64 := Aside0.mk A640
            clear A640
            clear hr_
            obtain rfl := Option.some.inj H
            try go_wp2
            replace HO_6 := Aside0.mk (Kd.R_drew HO_6.out)
            replace HO_352001 := Aside0.mk (Kd.N_drew HO_352001.out)
            replace HO_358001 := Aside0.mk (Kd.N_drew HO_358001.out)
            replace HO_364001 := Aside0.mk (Kd.N_drew HO_364001.out)
            replace BK351 := Aside0.mk (blk_drew BK351.out)
            replace BK357 := Aside0.mk (blk_drew BK357.out)
            replace BK363 := Aside0.mk (blk_drew BK363.out)
            replace HB := Aside0.mk (below_drew1 HB.out)
            have q66 : ((ji55) : Int) ≤ ((t348.length : Int) : Int) := of_decide_eq_true y23
            obtain ⟨i066, hi066, _, hsz66, _⟩ := info_parts info3
            have hroom66 : t348.length ≤ co16 := (Kd.R_reads' HO_6.out).2.1
            have hC66 : Kd.F (Kd.int .i64) _ _ Ao16 t348.length t348 := (Kd.V_at (base := w.heap.size) (Kd.R_V (Kd.R_types (Kd.R_types (Kd.R_types (Kd.R_apart' (Kd.R_apart' (Kd.R_apart' (HO_6.out) (Kd.N_typed HO_352001.out) (by decide)) (Kd.N_typed HO_358001.out) (by decide)) (Kd.N_typed HO_364001.out) (by decide)) BK351.out (by decide)) BK357.out (by decide)) BK363.out (by decide)))).2.2
            have hcut66 := cut_to (P := Try.prog) 26 3 .i64 Try.underlying26 hi066 Ao16 t348.length co16 (ji55) (of_decide_eq_true y23) q66 hroom66
            have hr66 := Kd.F_take (m := ((ji55) : Int).toNat) hC66 (by omega)
            have hy66 : y366.length = ((ji55) : Int).toNat := (by rw [Ny366.out, List.length_take]; omega)
            rw [← Ny366.out] at hr66
            rw [← hy66] at hcut66
            have HO370 := Aside0.mk (show Kd.V (Kd.int .i64) 3 _ w.heap.size _ (.slice Ao16 y366.length co16) y366 from Kd.V_mk (by omega) hr66)
            have HC370 := Aside0.mk (show y366.length ≤ co16 from by omega)
            clear hr66 hC66 hroom66 hi066 hsz66
            have KY66 := Aside0.mk hy66
            clear hy66
            replace q66 := eq_true q66
            refine start_ (n := 11) (S := fun w' => w'.cell? ⟨gb351, 0, none⟩ = some (.int .i64 t344) ∧ w'.cell? ⟨gb351, 1, none⟩ = some (.slice Ao13 t345.length co13)) (ds := []) #[false, false, false, false, false, false, false, false, false, false, false] (by kernel_rfl) rfl rfl ⟨(blk_cell BK351.out 0).trans rfl, (blk_cell BK351.out 1).trans rfl⟩ (fun hHeld => ?_); refine with_tabW laws_FnValAt.tab9 laws_FnValAt.bits9 (fun HT_ HW_ => ?_)
            generalize wc.drew = w65 at HO_6 HO_352001 HO_358001 HO_364001 BK351 BK357 BK363 HB HO370 hHeld ⊢
            refine zp 1 (some 70) HT_ ?_
            refine zp 2 (some 71) HT_ ?_
            refine zp 3 (some 72) HT_ ?_
            refine zt2 0 (some 69) HT_ HW_ hHeld ?_
            refine join_ (σ := Value × Nat) 2 #[true, true, true, true, true, true, true, true, true, false, false] (fun s_ => [(73, .tuple #[.agg #[.int .i64 t371, s_.1], .bool true]), (12, .pointer (some ⟨s_.2, 0, none⟩)), (68, .tuple #[.agg #[.int .i64 t371, s_.1], .bool true]), (74, .agg #[.int .i64 t371, s_.1]), (75, .bool true)]) (fun s_ w' => (w'.cell? ⟨gb351, 0, none⟩ = some (.int .i64 t344) ∧ w'.cell? ⟨gb351, 1, none⟩ = some (.slice Ao13 t345.length co13)) ∧ (Kd.V (Kd.int .i64) 3 w' w.heap.size (fun k_ => some k_ ≠ (s_.1 : Value).ownBlock ∧ some k_ ≠ (.slice Ao13 t345.length co13 : Value).ownBlock ∧ some k_ ≠ (.slice Ao21 t353.length co21 : Value).ownBlock ∧ some k_ ≠ (.slice Ao29 t359.length co29 : Value).ownBlock ∧ k_ ≠ gb351 ∧ k_ ≠ gb357 ∧ k_ ≠ gb363 ∧ k_ ≠ s_.2) (.slice Ao16 y366.length co16) y366) ∧ (Kd.N k25 25 w' w.heap.size (fun k_ => some k_ ≠ (.slice Ao21 t353.length co21 : Value).ownBlock ∧ some k_ ≠ (.slice Ao29 t359.length co29 : Value).ownBlock ∧ some k_ ≠ (.slice Ao16 t348.length co16 : Value).ownBlock ∧ k_ ≠ gb351 ∧ k_ ≠ gb357 ∧ k_ ≠ gb363 ∧ k_ ≠ s_.2) s_.1 t372) ∧ (Kd.N k25 25 w' w.heap.size (fun k_ => some k_ ≠ (s_.1 : Value).ownBlock ∧ some k_ ≠ (.slice Ao21 t353.length co21 : Value).ownBlock ∧ some k_ ≠ (.slice Ao29 t359.length co29 : Value).ownBlock ∧ some k_ ≠ (.slice Ao16 t348.length co16 : Value).ownBlock ∧ k_ ≠ gb351 ∧ k_ ≠ gb357 ∧ k_ ≠ gb363 ∧ k_ ≠ s_.2) (.slice Ao13 t345.length co13) t345) ∧ (Kd.N k25 25 w' w.heap.size (fun k_ => some k_ ≠ (s_.1 : Value).ownBlock ∧ some k_ ≠ (.slice Ao29 t359.length co29 : Value).ownBlock ∧ some k_ ≠ (.slice Ao16 t348.length co16 : Value).ownBlock ∧ k_ ≠ gb351 ∧ k_ ≠ gb357 ∧ k_ ≠ gb363 ∧ k_ ≠ s_.2) (.slice Ao21 t353.length co21) t353) ∧ (Kd.N k25 25 w' w.heap.size (fun k_ => some k_ ≠ (s_.1 : Value).ownBlock ∧ some k_ ≠ (.slice Ao21 t353.length co21 : Value).ownBlock ∧ some k_ ≠ (.slice Ao16 t348.length co16 : Value).ownBlock ∧ k_ ≠ gb351 ∧ k_ ≠ gb357 ∧ k_ ≠ gb363 ∧ k_ ≠ s_.2) (.slice Ao29 t359.length co29) t359) ∧ (Kd.R (Kd.int .i64) 3 w' w.heap.size (fun _ => True) (.slice Ao16 t348.length co16) t348) ∧ (w'.heap[gb351]? = some (.cells #[.int .i64 t344, .slice Ao13 t345.length co13] 25 (0, 0))) ∧ (w'.heap[gb357]? = some (.cells #[.int .i64 t352, .slice Ao21 t353.length co21] 25 (0, 0))) ∧ (w'.heap[gb363]? = some (.cells #[.int .i64 t358, .slice Ao29 t359.length co29] 25 (0, 0))) ∧ (w'.heap[s_.2]? = some (.cells #[.int .i64 0, .slice none 0 0] 25 (0, 0))) ∧ (w.heap.size ≤ s_.2) ∧ (w.heap.size ≤ s_.2) ∧ (gb351 ≠ s_.2) ∧ (s_.2 ≠ gb351) ∧ (gb357 ≠ s_.2) ∧ (s_.2 ≠ gb357) ∧ (gb363 ≠ s_.2) ∧ (s_.2 ≠ gb363) ∧ (Below w.heap.size w w')) ?_ ?_
            rotate_left
            ·intro hCont
             refine two_ (i := 4) (j := 8) (Ni := some 73) (Nj := some 12) #[true, true, true, true, true, false, false, false, false, false, false] #[true, true, true, true, false, false, false, false, true, false, false] rfl rfl rfl rfl (two_of HT_.out (by kernel_rfl)) (by decide) (by decide) (fun K hK => ?_) (fun K hK => ?_)
             ·skip
              refine goes_ Try.func14 (by kernel_rfl) rfl #[.agg #[.int .i64 t344, .slice Ao13 t345.length co13], .slice Ao16 y366.length co16] (by rfl) rfl rfl y8 ?_
              with_reducible refine (impl_ValAt.calls kj8 t344 (fun k_ => (some k_ ≠ (.slice Ao16 t348.length co16 : Value).ownBlock ∧ (some k_ ≠ (.slice Ao21 t353.length co21 : Value).ownBlock ∧ (some k_ ≠ (.slice Ao29 t359.length co29 : Value).ownBlock ∧ (k_ ≠ gb351 ∧ (k_ ≠ gb357 ∧ k_ ≠ gb363)))))) _ _ t345 _ _ y366 t371 t372 true _ ?side1 ?side2 ?side3 A58.out).mono ?_
              (case side1 => exact Kd.N_V (HO_352001.out))
              (case side2 => exact y35 HO370.out)
              (case side3 => exact (Kd.V_reads' HO370.out).2.1)
              rintro e w67 ⟨v373, rfl, ho0, hb⟩
              refine ⟨_, rfl, ?_⟩
              replace HO_352001 := Aside0.mk (Kd.N_elder' (y3 HO_352001.out) (Kd.N_base ho0) hb)
              replace HO370 := Aside0.mk (Kd.V_elder' (y10 HO370.out) (Kd.N_base ho0) hb)
              have HO374 := Aside0.mk (Kd.N_lower (Kd.N_mono (ok' := fun k_ => some k_ ≠ (.slice Ao16 t348.length co16 : Value).ownBlock ∧ some k_ ≠ (.slice Ao21 t353.length co21 : Value).ownBlock ∧ some k_ ≠ (.slice Ao29 t359.length co29 : Value).ownBlock ∧ k_ ≠ gb351 ∧ k_ ≠ gb357 ∧ k_ ≠ gb363) ho0 (fun k_ hk_ => ⟨Or.elim hk_ (fun hs_ => hs_.1) (fun hn_ => (Kd.fresh' (Kd.R_lt (y12 HO_6.out)) k_ hn_)), Or.elim hk_ (fun hs_ => hs_.2.1) (fun hn_ => (Kd.fresh' (Kd.N_lt (y3 HO_358001.out)) k_ hn_)), Or.elim hk_ (fun hs_ => hs_.2.2.1) (fun hn_ => (Kd.fresh' (Kd.N_lt (y3 HO_364001.out)) k_ hn_)), Or.elim hk_ (fun hs_ => hs_.2.2.2.1) (fun hn_ => (Kd.freshB (g := gb351) (o := .cells #[.int .i64 t344, .slice Ao13 t345.length co13] 25 (0, 0)) (y0 BK351.out) k_ hn_)), Or.elim hk_ (fun hs_ => hs_.2.2.2.2.1) (fun hn_ => (Kd.freshB (g := gb357) (o := .cells #[.int .i64 t352, .slice Ao21 t353.length co21] 25 (0, 0)) (y0 BK357.out) k_ hn_)), Or.elim hk_ (fun hs_ => hs_.2.2.2.2.2) (fun hn_ => (Kd.freshB (g := gb363) (o := .cells #[.int .i64 t358, .slice Ao29 t359.length co29] 25 (0, 0)) (y0 BK363.out) k_ hn_))⟩)) (below_size (y4 HB.out GE351.out GE357.out GE363.out)))
              replace HO_6 := Aside0.mk (Kd.R_below (y12 HO_6.out) hb)
              replace HO_358001 := Aside0.mk (Kd.N_elder' (y3 HO_358001.out) (Kd.N_base ho0) hb)
              replace HO_364001 := Aside0.mk (Kd.N_elder' (y3 HO_364001.out) (Kd.N_base ho0) hb)
              replace BK351 := zbb BK351 hb
              replace BK357 := zbb BK357 hb
              replace BK363 := zbb BK363 hb
              replace HB := Aside0.mk (below_step (y4 HB.out GE351.out GE357.out GE363.out) hb)
              (try clear hb)
              (try clear hb2)
              (try clear hk)
              (try clear hi)
              (try clear ho0)
              refine hK.out _ _ ⟨(blk_cell BK351.out 0).trans rfl, (blk_cell BK351.out 1).trans rfl⟩ (fun hHeld => ?_)
              clear hK K
              refine norm_ (a' := ?_) ?_ ?_
              rotate_left
              ·show Act.put _ (some 73) _ = _
               simp only [Act.put, List.setIfInBounds_toArray, List.set_cons_zero, List.set_cons_succ, i64_w, i32_w]
               rfl
              refine zp 5 (some 68) HT_ ?_
              refine zp 6 (some 74) HT_ ?_
              refine zp 7 (some 75) HT_ ?_
              refine one_ (i := 8) (N := some 12) #[true, true, true, true, true, true, true, true, true, false, false] rfl rfl (one_of HT_.out (by kernel_rfl)) (by decide) (fun K hK => ?_)
              refine box_step ?hg (N := 12) ?hd (cs := #[.int .i64 0, .slice none 0 0]) (t := 25) ?hr ?_; (case hd => rfl); (case hg => rfl); (case hr => first | (go_simp; done) | (go_simp; rfl))
              intro gb376 hg w68 hbox hb
              replace HO_6 := Aside0.mk (Kd.R_below (y12 HO_6.out) hb)
              replace HO_352001 := Aside0.mk (Kd.N_below (Kd.N_elderB (y3 HO_352001.out) gb376 (Nat.le_of_eq hg.symm)) hb)
              replace HO_358001 := Aside0.mk (Kd.N_below (Kd.N_elderB (y3 HO_358001.out) gb376 (Nat.le_of_eq hg.symm)) hb)
              replace HO_364001 := Aside0.mk (Kd.N_below (Kd.N_elderB (y3 HO_364001.out) gb376 (Nat.le_of_eq hg.symm)) hb)
              replace HO370 := Aside0.mk (Kd.V_below (Kd.V_elderB (y10 HO370.out) gb376 (Nat.le_of_eq hg.symm)) hb)
              replace HO374 := Aside0.mk (Kd.N_below (Kd.N_elderB (y3 HO374.out) gb376 (Nat.le_of_eq hg.symm)) hb)
              have BK376 := Aside0.mk hbox
              have GW376 := Aside0.mk ((y22 hg HB.out GE351.out GE357.out GE363.out : w.heap.size ≤ gb376))
              have GE376 := Aside0.mk ((y22 hg HB.out GE351.out GE357.out GE363.out : w.heap.size ≤ gb376))
              replace HB := Aside0.mk (below_step (y4 HB.out GE351.out GE357.out GE363.out) hb)
              have NB351_376 := zltn hg BK351
              have NB376_351 := zgtn hg BK351
              replace BK351 := zbb BK351 hb
              have NB357_376 := zltn hg BK357
              have NB376_357 := zgtn hg BK357
              replace BK357 := zbb BK357 hb
              have NB363_376 := zltn hg BK363
              have NB376_363 := zgtn hg BK363
              replace BK363 := zbb BK363 hb
              clear hb hbox hg
              refine hK.out _ _ ⟨(blk_cell BK351.out 0).trans rfl, (blk_cell BK351.out 1).trans rfl⟩ (fun hHeld => ?_)
              clear hK K
              refine norm_ (a' := ?_) ?_ ?_
              rotate_left
              ·show Act.put _ (some 12) _ = _
               simp only [Act.put, List.setIfInBounds_toArray, List.set_cons_zero, List.set_cons_succ, i64_w, i32_w]
               rfl
              exact norm_ y82 (hCont (v373, gb376) _ ⟨hHeld, (by (with_reducible repeat (first | apply Kd.V_alloc | apply Kd.V_drewN | apply Kd.V_drew)); exact Kd.V_mono HO370.out (fun _ hk => ⟨hk.1.2, ⟨hk.1.1.1.1.1.1.1.2, ⟨hk.1.1.1.1.1.1.2, ⟨hk.1.1.1.1.1.2, ⟨hk.1.1.1.1.2, ⟨hk.1.1.1.2, ⟨hk.1.1.2, hk.2⟩⟩⟩⟩⟩⟩⟩)), (by (with_reducible repeat (first | apply Kd.N_alloc | apply Kd.N_drewN | apply Kd.N_drew)); exact Kd.N_mono HO374.out (fun _ hk => ⟨hk.1.2.1, ⟨hk.1.2.2.1, ⟨hk.1.1, ⟨hk.1.2.2.2.1, ⟨hk.1.2.2.2.2.1, ⟨hk.1.2.2.2.2.2, hk.2⟩⟩⟩⟩⟩⟩)), (by (with_reducible repeat (first | apply Kd.N_alloc | apply Kd.N_drewN | apply Kd.N_drew)); exact Kd.N_mono HO_352001.out (fun _ hk => ⟨hk.1.2, ⟨hk.1.1.2.1, ⟨hk.1.1.2.2.1, ⟨hk.1.1.1, ⟨hk.1.1.2.2.2.1, ⟨hk.1.1.2.2.2.2.1, ⟨hk.1.1.2.2.2.2.2, hk.2⟩⟩⟩⟩⟩⟩⟩)), (y76 HO_358001.out), (y76 HO_364001.out), (y12 HO_6.out), (y0 BK351.out), (y0 BK357.out), (y0 BK363.out), (y0 BK376.out), GW376.out, GE376.out, NB351_376.out, NB376_351.out, NB357_376.out, NB376_357.out, NB363_376.out, NB376_363.out, (y7 HB.out GE351.out GE357.out GE363.out GE376.out)⟩)
             ·skip
              refine box_step ?hg (N := 12) ?hd (cs := #[.int .i64 0, .slice none 0 0]) (t := 25) ?hr ?_; (case hd => rfl); (case hg => rfl); (case hr => first | (go_simp; done) | (go_simp; rfl))
              intro gb376 hg w67 hbox hb
              replace HO_6 := Aside0.mk (Kd.R_below (y12 HO_6.out) hb)
              replace HO_352001 := Aside0.mk (Kd.N_below (Kd.N_elderB (y3 HO_352001.out) gb376 (Nat.le_of_eq hg.symm)) hb)
              replace HO_358001 := Aside0.mk (Kd.N_below (Kd.N_elderB (y3 HO_358001.out) gb376 (Nat.le_of_eq hg.symm)) hb)
              replace HO_364001 := Aside0.mk (Kd.N_below (Kd.N_elderB (y3 HO_364001.out) gb376 (Nat.le_of_eq hg.symm)) hb)
              replace HO370 := Aside0.mk (Kd.V_below (Kd.V_elderB (y10 HO370.out) gb376 (Nat.le_of_eq hg.symm)) hb)
              have BK376 := Aside0.mk hbox
              have GW376 := Aside0.mk ((y22 hg HB.out GE351.out GE357.out GE363.out : w.heap.size ≤ gb376))
              have GE376 := Aside0.mk ((y22 hg HB.out GE351.out GE357.out GE363.out : w.heap.size ≤ gb376))
              replace HB := Aside0.mk (below_step (y4 HB.out GE351.out GE357.out GE363.out) hb)
              have NB351_376 := zltn hg BK351
              have NB376_351 := zgtn hg BK351
              replace BK351 := zbb BK351 hb
              have NB357_376 := zltn hg BK357
              have NB376_357 := zgtn hg BK357
              replace BK357 := zbb BK357 hb
              have NB363_376 := zltn hg BK363
              have NB376_363 := zgtn hg BK363
              replace BK363 := zbb BK363 hb
              clear hb hbox hg
              refine hK.out _ _ ⟨(blk_cell BK351.out 0).trans rfl, (blk_cell BK351.out 1).trans rfl⟩ (fun hHeld => ?_)
              clear hK K
              refine norm_ (a' := ?_) ?_ ?_
              rotate_left
              ·show Act.put _ (some 12) _ = _
               simp only [Act.put, List.setIfInBounds_toArray, List.set_cons_zero, List.set_cons_succ, i64_w, i32_w]
               rfl
              refine one_ (i := 4) (N := some 73) #[true, true, true, true, true, false, false, false, true, false, false] rfl rfl (one_of HT_.out (by kernel_rfl)) (by decide) (fun K hK => ?_)
              refine goes_ Try.func14 (by kernel_rfl) rfl #[.agg #[.int .i64 t344, .slice Ao13 t345.length co13], .slice Ao16 y366.length co16] (by rfl) rfl rfl y8 ?_
              with_reducible refine (impl_ValAt.calls kj8 t344 (fun k_ => ((some k_ ≠ (.slice Ao16 t348.length co16 : Value).ownBlock ∧ (some k_ ≠ (.slice Ao21 t353.length co21 : Value).ownBlock ∧ (some k_ ≠ (.slice Ao29 t359.length co29 : Value).ownBlock ∧ (k_ ≠ gb351 ∧ (k_ ≠ gb357 ∧ k_ ≠ gb363))))) ∧ k_ ≠ gb376)) _ _ t345 _ _ y366 t371 t372 true _ ?side1 ?side2 ?side3 A58.out).mono ?_
              (case side1 => exact Kd.N_V (HO_352001.out))
              (case side2 => exact y35 HO370.out)
              (case side3 => exact (Kd.V_reads' HO370.out).2.1)
              rintro e w68 ⟨v373, rfl, ho0, hb⟩
              refine ⟨_, rfl, ?_⟩
              replace HO_352001 := Aside0.mk (Kd.N_elder' (y3 HO_352001.out) (Kd.N_base ho0) hb)
              replace HO370 := Aside0.mk (Kd.V_elder' (y10 HO370.out) (Kd.N_base ho0) hb)
              have HO374 := Aside0.mk (Kd.N_lower (Kd.N_mono (ok' := fun k_ => some k_ ≠ (.slice Ao16 t348.length co16 : Value).ownBlock ∧ some k_ ≠ (.slice Ao21 t353.length co21 : Value).ownBlock ∧ some k_ ≠ (.slice Ao29 t359.length co29 : Value).ownBlock ∧ k_ ≠ gb351 ∧ k_ ≠ gb357 ∧ k_ ≠ gb363 ∧ k_ ≠ gb376) ho0 (fun k_ hk_ => ⟨Or.elim hk_ (fun hs_ => hs_.1.1) (fun hn_ => (Kd.fresh' (Kd.R_lt (y12 HO_6.out)) k_ hn_)), Or.elim hk_ (fun hs_ => hs_.1.2.1) (fun hn_ => (Kd.fresh' (Kd.N_lt (y3 HO_358001.out)) k_ hn_)), Or.elim hk_ (fun hs_ => hs_.1.2.2.1) (fun hn_ => (Kd.fresh' (Kd.N_lt (y3 HO_364001.out)) k_ hn_)), Or.elim hk_ (fun hs_ => hs_.1.2.2.2.1) (fun hn_ => (Kd.freshB (g := gb351) (o := .cells #[.int .i64 t344, .slice Ao13 t345.length co13] 25 (0, 0)) (y0 BK351.out) k_ hn_)), Or.elim hk_ (fun hs_ => hs_.1.2.2.2.2.1) (fun hn_ => (Kd.freshB (g := gb357) (o := .cells #[.int .i64 t352, .slice Ao21 t353.length co21] 25 (0, 0)) (y0 BK357.out) k_ hn_)), Or.elim hk_ (fun hs_ => hs_.1.2.2.2.2.2) (fun hn_ => (Kd.freshB (g := gb363) (o := .cells #[.int .i64 t358, .slice Ao29 t359.length co29] 25 (0, 0)) (y0 BK363.out) k_ hn_)), Or.elim hk_ (fun hs_ => hs_.2) (fun hn_ => (Kd.freshB (g := gb376) (o := .cells #[.int .i64 0, .slice none 0 0] 25 (0, 0)) (y0 BK376.out) k_ hn_))⟩)) (below_size (y7 HB.out GE351.out GE357.out GE363.out GE376.out)))
              replace HO_6 := Aside0.mk (Kd.R_below (y12 HO_6.out) hb)
              replace HO_358001 := Aside0.mk (Kd.N_elder' (y3 HO_358001.out) (Kd.N_base ho0) hb)
              replace HO_364001 := Aside0.mk (Kd.N_elder' (y3 HO_364001.out) (Kd.N_base ho0) hb)
              replace BK351 := zbb BK351 hb
              replace BK357 := zbb BK357 hb
              replace BK363 := zbb BK363 hb
              replace BK376 := zbb BK376 hb
              replace HB := Aside0.mk (below_step (y7 HB.out GE351.out GE357.out GE363.out GE376.out) hb)
              (try clear hb)
              (try clear hb2)
              (try clear hk)
              (try clear hi)
              (try clear ho0)
              refine hK.out _ _ ⟨(blk_cell BK351.out 0).trans rfl, (blk_cell BK351.out 1).trans rfl⟩ (fun hHeld => ?_)
              clear hK K
              refine norm_ (a' := ?_) ?_ ?_
              rotate_left
              ·show Act.put _ (some 73) _ = _
               simp only [Act.put, List.setIfInBounds_toArray, List.set_cons_zero, List.set_cons_succ, i64_w, i32_w]
               rfl
              refine zp 5 (some 68) HT_ ?_
              refine zp 6 (some 74) HT_ ?_
              refine zp 7 (some 75) HT_ ?_
              exact norm_ y82 (hCont (v373, gb376) _ ⟨hHeld, (by (with_reducible repeat (first | apply Kd.V_alloc | apply Kd.V_drewN | apply Kd.V_drew)); exact Kd.V_mono HO370.out (fun _ hk => ⟨hk.2, ⟨hk.1.1.1.1.1.1.1.2, ⟨hk.1.1.1.1.1.1.2, ⟨hk.1.1.1.1.1.2, ⟨hk.1.1.1.1.2, ⟨hk.1.1.1.2, ⟨hk.1.1.2, hk.1.2⟩⟩⟩⟩⟩⟩⟩)), (by (with_reducible repeat (first | apply Kd.N_alloc | apply Kd.N_drewN | apply Kd.N_drew)); exact Kd.N_mono HO374.out (fun _ hk => ⟨hk.2.1, ⟨hk.2.2.1, ⟨hk.1, ⟨hk.2.2.2.1, ⟨hk.2.2.2.2.1, ⟨hk.2.2.2.2.2.1, hk.2.2.2.2.2.2⟩⟩⟩⟩⟩⟩)), (by (with_reducible repeat (first | apply Kd.N_alloc | apply Kd.N_drewN | apply Kd.N_drew)); exact Kd.N_mono HO_352001.out (fun _ hk => ⟨hk.2, ⟨hk.1.1.2.1, ⟨hk.1.1.2.2.1, ⟨hk.1.1.1, ⟨hk.1.1.2.2.2.1, ⟨hk.1.1.2.2.2.2.1, ⟨hk.1.1.2.2.2.2.2, hk.1.2⟩⟩⟩⟩⟩⟩⟩)), (y77 HO_358001.out), (y77 HO_364001.out), (y12 HO_6.out), (y0 BK351.out), (y0 BK357.out), (y0 BK363.out), (y0 BK376.out), GW376.out, GE376.out, NB351_376.out, NB376_351.out, NB357_376.out, NB376_357.out, NB363_376.out, NB376_363.out, (y7 HB.out GE351.out GE357.out GE363.out GE376.out)⟩)
            rintro ⟨v373, gb376⟩ w69 ⟨hS_, h0_, h1_, h2_, h3_, h4_, h5_, h6_, h7_, h8_, h9_, h10_, h11_, h12_, h13_, h14_, h15_, h16_, h17_, h18_⟩
            have n0_ : Aside0 (Kd.V (Kd.int .i64) 3 w69 w.heap.size (fun k_ => some k_ ≠ (v373 : Value).ownBlock ∧ some k_ ≠ (.slice Ao13 t345.length co13 : Value).ownBlock ∧ some k_ ≠ (.slice Ao21 t353.length co21 : Value).ownBlock ∧ some k_ ≠ (.slice Ao29 t359.length co29 : Value).ownBlock ∧ k_ ≠ gb351 ∧ k_ ≠ gb357 ∧ k_ ≠ gb363 ∧ k_ ≠ gb376) (.slice Ao16 y366.length co16) y366) := ⟨h0_⟩
            have n1_ : Aside0 (Kd.N k25 25 w69 w.heap.size (fun k_ => some k_ ≠ (.slice Ao21 t353.length co21 : Value).ownBlock ∧ some k_ ≠ (.slice Ao29 t359.length co29 : Value).ownBlock ∧ some k_ ≠ (.slice Ao16 t348.length co16 : Value).ownBlock ∧ k_ ≠ gb351 ∧ k_ ≠ gb357 ∧ k_ ≠ gb363 ∧ k_ ≠ gb376) v373 t372) := ⟨h1_⟩
            have n2_ : Aside0 (Kd.N k25 25 w69 w.heap.size (fun k_ => some k_ ≠ (v373 : Value).ownBlock ∧ some k_ ≠ (.slice Ao21 t353.length co21 : Value).ownBlock ∧ some k_ ≠ (.slice Ao29 t359.length co29 : Value).ownBlock ∧ some k_ ≠ (.slice Ao16 t348.length co16 : Value).ownBlock ∧ k_ ≠ gb351 ∧ k_ ≠ gb357 ∧ k_ ≠ gb363 ∧ k_ ≠ gb376) (.slice Ao13 t345.length co13) t345) := ⟨h2_⟩
            have n3_ : Aside0 (Kd.N k25 25 w69 w.heap.size (fun k_ => some k_ ≠ (v373 : Value).ownBlock ∧ some k_ ≠ (.slice Ao29 t359.length co29 : Value).ownBlock ∧ some k_ ≠ (.slice Ao16 t348.length co16 : Value).ownBlock ∧ k_ ≠ gb351 ∧ k_ ≠ gb357 ∧ k_ ≠ gb363 ∧ k_ ≠ gb376) (.slice Ao21 t353.length co21) t353) := ⟨h3_⟩
            have n4_ : Aside0 (Kd.N k25 25 w69 w.heap.size (fun k_ => some k_ ≠ (v373 : Value).ownBlock ∧ some k_ ≠ (.slice Ao21 t353.length co21 : Value).ownBlock ∧ some k_ ≠ (.slice Ao16 t348.length co16 : Value).ownBlock ∧ k_ ≠ gb351 ∧ k_ ≠ gb357 ∧ k_ ≠ gb363 ∧ k_ ≠ gb376) (.slice Ao29 t359.length co29) t359) := ⟨h4_⟩
            have n5_ : Aside0 (Kd.R (Kd.int .i64) 3 w69 w.heap.size (fun _ => True) (.slice Ao16 t348.length co16) t348) := ⟨h5_⟩
            have n6_ : Aside0 (w69.heap[gb351]? = some (.cells #[.int .i64 t344, .slice Ao13 t345.length co13] 25 (0, 0))) := ⟨h6_⟩
            have n7_ : Aside0 (w69.heap[gb357]? = some (.cells #[.int .i64 t352, .slice Ao21 t353.length co21] 25 (0, 0))) := ⟨h7_⟩
            have n8_ : Aside0 (w69.heap[gb363]? = some (.cells #[.int .i64 t358, .slice Ao29 t359.length co29] 25 (0, 0))) := ⟨h8_⟩
            have n9_ : Aside0 (w69.heap[gb376]? = some (.cells #[.int .i64 0, .slice none 0 0] 25 (0, 0))) := ⟨h9_⟩
            have n10_ : Aside0 (w.heap.size ≤ gb376) := ⟨h10_⟩
            have n11_ : Aside0 (w.heap.size ≤ gb376) := ⟨h11_⟩
            have n12_ : Aside0 (gb351 ≠ gb376) := ⟨h12_⟩
            have n13_ : Aside0 (gb376 ≠ gb351) := ⟨h13_⟩
            have n14_ : Aside0 (gb357 ≠ gb376) := ⟨h14_⟩
            have n15_ : Aside0 (gb376 ≠ gb357) := ⟨h15_⟩
            have n16_ : Aside0 (gb363 ≠ gb376) := ⟨h16_⟩
            have n17_ : Aside0 (gb376 ≠ gb363) := ⟨h17_⟩
            have n18_ : Aside0 (Below w.heap.size w w69) := ⟨h18_⟩
            clear HO_6
            clear HO_352001
            clear HO_358001
            clear HO_364001
            clear BK351
            clear BK357
            clear BK363
            clear HB
            clear h0_ h1_ h2_ h3_ h4_ h5_ h6_ h7_ h8_ h9_ h10_ h11_ h12_ h13_ h14_ h15_ h16_ h17_ h18_
            have HO370 := n0_
            have HO374 := n1_
            have HO_352001 := n2_
            have HO_358001 := n3_
            have HO_364001 := n4_
            have HO_6 := n5_
            have BK351 := n6_
            have BK357 := n7_
            have BK363 := n8_
            have BK376 := n9_
            have GW376 := n10_
            have GE376 := n11_
            have NB351_376 := n12_
            have NB376_351 := n13_
            have NB357_376 := n14_
            have NB376_357 := n15_
            have NB363_376 := n16_
            have NB376_363 := n17_
            have HB := n18_
            clear n0_ n1_ n2_ n3_ n4_ n5_ n6_ n7_ n8_ n9_ n10_ n11_ n12_ n13_ n14_ n15_ n16_ n17_ n18_
            have hHeld : w69.cell? ⟨gb351, 0, none⟩ = some (.int .i64 t344) ∧ w69.cell? ⟨gb351, 1, none⟩ = some (.slice Ao13 t345.length co13) := hS_
            obtain ⟨Ao71, co71, eo71⟩ := Kd.N_slice HO374.out
            (first | subst eo71 | (injection eo71 with f1_ f2_ f3_; have f4_ := f1_.symm; have f5_ := f3_.symm; clear f1_ f2_ f3_; subst f4_; subst f5_))
            refine norm_ (a' := ?_) ?_ ?_
            rotate_left
            ·simp only [putAll, Act.put, List.setIfInBounds_toArray, List.set_cons_zero, List.set_cons_succ]
             rfl
            refine one_ (i := 9) (N := none) #[true, true, true, true, true, true, true, true, true, true, false] rfl rfl (one_of HT_.out (by kernel_rfl)) (by decide) (fun K hK => ?_)
            have hs70 : w69.cell? ⟨gb376, 0, none⟩ = some (.int .i64 0) := (blk_cell BK376.out 0).trans rfl
            have hfs70 := zfr BK376 0
            have hns70_0 := NB351_376.out
            have hns70_1 := NB357_376.out
            have hns70_2 := NB363_376.out
            have hms70_0 := NB376_351.out
            have hms70_1 := NB376_357.out
            have hms70_2 := NB376_363.out
            have hs72 : w69.cell? ⟨gb376, 1, none⟩ = some (.slice none 0 0) := (blk_cell BK376.out 1).trans rfl
            have hfs72 := zfr BK376 1
            have hns72_0 := NB351_376.out
            have hns72_1 := NB357_376.out
            have hns72_2 := NB363_376.out
            have hms72_0 := NB376_351.out
            have hms72_1 := NB376_357.out
            have hms72_2 := NB376_363.out
            refine skip_ (w1 := ?_) (by rfl) rfl ?_ ?_
            rotate_left
            ·go_simp
             rfl
            refine hK.out _ _ ⟨((cell_far (p := ⟨gb376, _, none⟩) NB351_376.out _).trans (((cell_far (p := ⟨gb376, _, none⟩) NB351_376.out _).trans (hHeld.1)))), ((cell_far (p := ⟨gb376, _, none⟩) NB351_376.out _).trans (((cell_far (p := ⟨gb376, _, none⟩) NB351_376.out _).trans (hHeld.2))))⟩ (fun hHeld => ?_)
            clear hK K
            refine zp 10 (some 13) HT_ ?_
            refine done_ (done_of HT_.out (by kernel_rfl)) ?_
            try go_wp2
            have n0_ : Aside0 (Kd.R (Kd.int .i64) 3 ((w69.setCell ⟨gb376, 0, none⟩ (.int .i64 t371)).setCell ⟨gb376, 1, none⟩ (.slice Ao71 t372.length co71)) w.heap.size (fun _ => True) (.slice Ao16 t348.length co16) t348) := ⟨(by (with_reducible repeat (first | apply Kd.R_alloc | apply Kd.R_drewN | apply Kd.R_drew)); exact Kd.R_mono (Kd.R_far (p := ⟨gb376, 1, none⟩) (Kd.R_far (p := ⟨gb376, 0, none⟩) (Kd.R_types HO_6.out BK376.out (by decide)) (fun _ hk => hk.2) (.int .i64 t371)) (fun _ hk => hk.2) (.slice Ao71 t372.length co71)) (fun _ hk => trivial))⟩
            have n1_ : Aside0 (Kd.N k25 25 ((w69.setCell ⟨gb376, 0, none⟩ (.int .i64 t371)).setCell ⟨gb376, 1, none⟩ (.slice Ao71 t372.length co71)) w.heap.size (fun k_ => some k_ ≠ (.slice Ao16 t348.length co16 : Value).ownBlock ∧ some k_ ≠ (.slice Ao21 t353.length co21 : Value).ownBlock ∧ some k_ ≠ (.slice Ao29 t359.length co29 : Value).ownBlock ∧ some k_ ≠ (.slice Ao71 t372.length co71 : Value).ownBlock ∧ k_ ≠ gb351 ∧ k_ ≠ gb357 ∧ k_ ≠ gb363 ∧ k_ ≠ gb376) (.slice Ao13 t345.length co13) t345) := ⟨(by (with_reducible repeat (first | apply Kd.N_alloc | apply Kd.N_drewN | apply Kd.N_drew)); exact Kd.N_mono (Kd.N_far (p := ⟨gb376, 1, none⟩) (Kd.N_far (p := ⟨gb376, 0, none⟩) (Kd.N_mono HO_352001.out (fun k_ hk => (⟨hk, hk.2.2.2.2.2.2.2⟩ : _ ∧ k_ ≠ gb376))) (fun _ hk => hk.2) (.int .i64 t371)) (fun _ hk => hk.2) (.slice Ao71 t372.length co71)) (fun _ hk => ⟨hk.1.2.2.2.1, ⟨hk.1.2.1, ⟨hk.1.2.2.1, ⟨hk.1.1, ⟨hk.1.2.2.2.2.1, ⟨hk.1.2.2.2.2.2.1, ⟨hk.1.2.2.2.2.2.2.1, hk.1.2.2.2.2.2.2.2⟩⟩⟩⟩⟩⟩⟩))⟩
            have n2_ : Aside0 (Kd.N k25 25 ((w69.setCell ⟨gb376, 0, none⟩ (.int .i64 t371)).setCell ⟨gb376, 1, none⟩ (.slice Ao71 t372.length co71)) w.heap.size (fun k_ => some k_ ≠ (.slice Ao16 t348.length co16 : Value).ownBlock ∧ some k_ ≠ (.slice Ao29 t359.length co29 : Value).ownBlock ∧ some k_ ≠ (.slice Ao71 t372.length co71 : Value).ownBlock ∧ k_ ≠ gb351 ∧ k_ ≠ gb357 ∧ k_ ≠ gb363 ∧ k_ ≠ gb376) (.slice Ao21 t353.length co21) t353) := ⟨(by (with_reducible repeat (first | apply Kd.N_alloc | apply Kd.N_drewN | apply Kd.N_drew)); exact Kd.N_mono (Kd.N_far (p := ⟨gb376, 1, none⟩) (Kd.N_far (p := ⟨gb376, 0, none⟩) (Kd.N_mono HO_358001.out (fun k_ hk => (⟨hk, hk.2.2.2.2.2.2⟩ : _ ∧ k_ ≠ gb376))) (fun _ hk => hk.2) (.int .i64 t371)) (fun _ hk => hk.2) (.slice Ao71 t372.length co71)) (fun _ hk => ⟨hk.1.2.2.1, ⟨hk.1.2.1, ⟨hk.1.1, ⟨hk.1.2.2.2.1, ⟨hk.1.2.2.2.2.1, ⟨hk.1.2.2.2.2.2.1, hk.1.2.2.2.2.2.2⟩⟩⟩⟩⟩⟩))⟩
            have n3_ : Aside0 (Kd.N k25 25 ((w69.setCell ⟨gb376, 0, none⟩ (.int .i64 t371)).setCell ⟨gb376, 1, none⟩ (.slice Ao71 t372.length co71)) w.heap.size (fun k_ => some k_ ≠ (.slice Ao16 t348.length co16 : Value).ownBlock ∧ some k_ ≠ (.slice Ao21 t353.length co21 : Value).ownBlock ∧ some k_ ≠ (.slice Ao71 t372.length co71 : Value).ownBlock ∧ k_ ≠ gb351 ∧ k_ ≠ gb357 ∧ k_ ≠ gb363 ∧ k_ ≠ gb376) (.slice Ao29 t359.length co29) t359) := ⟨(by (with_reducible repeat (first | apply Kd.N_alloc | apply Kd.N_drewN | apply Kd.N_drew)); exact Kd.N_mono (Kd.N_far (p := ⟨gb376, 1, none⟩) (Kd.N_far (p := ⟨gb376, 0, none⟩) (Kd.N_mono HO_364001.out (fun k_ hk => (⟨hk, hk.2.2.2.2.2.2⟩ : _ ∧ k_ ≠ gb376))) (fun _ hk => hk.2) (.int .i64 t371)) (fun _ hk => hk.2) (.slice Ao71 t372.length co71)) (fun _ hk => ⟨hk.1.2.2.1, ⟨hk.1.2.1, ⟨hk.1.1, ⟨hk.1.2.2.2.1, ⟨hk.1.2.2.2.2.1, ⟨hk.1.2.2.2.2.2.1, hk.1.2.2.2.2.2.2⟩⟩⟩⟩⟩⟩))⟩
            have n4_ : Aside0 (Kd.V (Kd.int .i64) 3 ((w69.setCell ⟨gb376, 0, none⟩ (.int .i64 t371)).setCell ⟨gb376, 1, none⟩ (.slice Ao71 t372.length co71)) w.heap.size (fun k_ => some k_ ≠ (.slice Ao13 t345.length co13 : Value).ownBlock ∧ some k_ ≠ (.slice Ao21 t353.length co21 : Value).ownBlock ∧ some k_ ≠ (.slice Ao29 t359.length co29 : Value).ownBlock ∧ some k_ ≠ (.slice Ao71 t372.length co71 : Value).ownBlock ∧ k_ ≠ gb351 ∧ k_ ≠ gb357 ∧ k_ ≠ gb363 ∧ k_ ≠ gb376) (.slice Ao16 y366.length co16) y366) := ⟨(by (with_reducible repeat (first | apply Kd.V_alloc | apply Kd.V_drewN | apply Kd.V_drew)); exact Kd.V_mono (Kd.V_far (p := ⟨gb376, 1, none⟩) (Kd.V_far (p := ⟨gb376, 0, none⟩) (Kd.V_mono HO370.out (fun k_ hk => (⟨hk, hk.2.2.2.2.2.2.2⟩ : _ ∧ k_ ≠ gb376))) (fun _ hk => hk.2) (.int .i64 t371)) (fun _ hk => hk.2) (.slice Ao71 t372.length co71)) (fun _ hk => ⟨hk.1.2.1, ⟨hk.1.2.2.1, ⟨hk.1.2.2.2.1, ⟨hk.1.1, ⟨hk.1.2.2.2.2.1, ⟨hk.1.2.2.2.2.2.1, ⟨hk.1.2.2.2.2.2.2.1, hk.1.2.2.2.2.2.2.2⟩⟩⟩⟩⟩⟩⟩))⟩
            have n5_ : Aside0 (Kd.N k25 25 ((w69.setCell ⟨gb376, 0, none⟩ (.int .i64 t371)).setCell ⟨gb376, 1, none⟩ (.slice Ao71 t372.length co71)) w.heap.size (fun k_ => some k_ ≠ (.slice Ao16 t348.length co16 : Value).ownBlock ∧ some k_ ≠ (.slice Ao21 t353.length co21 : Value).ownBlock ∧ some k_ ≠ (.slice Ao29 t359.length co29 : Value).ownBlock ∧ k_ ≠ gb351 ∧ k_ ≠ gb357 ∧ k_ ≠ gb363 ∧ k_ ≠ gb376) (.slice Ao71 t372.length co71) t372) := ⟨(by (with_reducible repeat (first | apply Kd.N_alloc | apply Kd.N_drewN | apply Kd.N_drew)); exact Kd.N_mono (Kd.N_far (p := ⟨gb376, 1, none⟩) (Kd.N_far (p := ⟨gb376, 0, none⟩) (Kd.N_mono HO374.out (fun k_ hk => (⟨hk, hk.2.2.2.2.2.2⟩ : _ ∧ k_ ≠ gb376))) (fun _ hk => hk.2) (.int .i64 t371)) (fun _ hk => hk.2) (.slice Ao71 t372.length co71)) (fun _ hk => ⟨hk.1.2.2.1, ⟨hk.1.1, ⟨hk.1.2.1, ⟨hk.1.2.2.2.1, ⟨hk.1.2.2.2.2.1, ⟨hk.1.2.2.2.2.2.1, hk.1.2.2.2.2.2.2⟩⟩⟩⟩⟩⟩))⟩
            have n6_ : Aside0 (((w69.setCell ⟨gb376, 0, none⟩ (.int .i64 t371)).setCell ⟨gb376, 1, none⟩ (.slice Ao71 t372.length co71)).heap[gb351]? = some (.cells #[.int .i64 t344, .slice Ao13 t345.length co13] 25 (0, 0))) := ⟨(y1 NB351_376.out BK351.out)⟩
            have n7_ : Aside0 (((w69.setCell ⟨gb376, 0, none⟩ (.int .i64 t371)).setCell ⟨gb376, 1, none⟩ (.slice Ao71 t372.length co71)).heap[gb357]? = some (.cells #[.int .i64 t352, .slice Ao21 t353.length co21] 25 (0, 0))) := ⟨(y1 NB357_376.out BK357.out)⟩
            have n8_ : Aside0 (((w69.setCell ⟨gb376, 0, none⟩ (.int .i64 t371)).setCell ⟨gb376, 1, none⟩ (.slice Ao71 t372.length co71)).heap[gb363]? = some (.cells #[.int .i64 t358, .slice Ao29 t359.length co29] 25 (0, 0))) := ⟨(y1 NB363_376.out BK363.out)⟩
            have n9_ : Aside0 (((w69.setCell ⟨gb376, 0, none⟩ (.int .i64 t371)).setCell ⟨gb376, 1, none⟩ (.slice Ao71 t372.length co71)).heap[gb376]? = some (.cells #[.int .i64 t371, .slice Ao71 t372.length co71] 25 (0, 0))) := ⟨(by (with_reducible repeat (first | refine blk_drewN ?_ _ | refine blk_drew ?_ | refine blk_alloc ?_ _)); refine blk_put (cs := #[.int .i64 t371, .slice none 0 0]) ?_ 1 _ rfl; (with_reducible repeat (first | refine blk_drewN ?_ _ | refine blk_drew ?_ | refine blk_alloc ?_ _)); refine blk_put (cs := #[.int .i64 0, .slice none 0 0]) ?_ 0 _ rfl; (with_reducible repeat (first | refine blk_drewN ?_ _ | refine blk_drew ?_ | refine blk_alloc ?_ _)); exact BK376.out)⟩
            have n10_ : Aside0 (Below w.heap.size w ((w69.setCell ⟨gb376, 0, none⟩ (.int .i64 t371)).setCell ⟨gb376, 1, none⟩ (.slice Ao71 t372.length co71))) := ⟨(y7 HB.out GE351.out GE357.out GE363.out GE376.out)⟩
            (try clear HO_6)
            (try clear HO_352001)
            (try clear HO_358001)
            (try clear HO_364001)
            (try clear HO370)
            (try clear HO374)
            (try clear BK351)
            (try clear BK357)
            (try clear BK363)
            (try clear BK376)
            (try clear HB)
            generalize ((w69.setCell ⟨gb376, 0, none⟩ (.int .i64 t371)).setCell ⟨gb376, 1, none⟩ (.slice Ao71 t372.length co71)) = w73 at n0_ n1_ n2_ n3_ n4_ n5_ n6_ n7_ n8_ n9_ n10_ ⊢
            have HO_6 := n0_
            have HO_352001 := n1_
            have HO_358001 := n2_
            have HO_364001 := n3_
            have HO370 := n4_
            have HO374 := n5_
            have BK351 := n6_
            have BK357 := n7_
            have BK363 := n8_
            have BK376 := n9_
            have HB := n10_
            clear n0_ n1_ n2_ n3_ n4_ n5_ n6_ n7_ n8_ n9_ n10_
            replace HO_6 := Aside0.mk (Kd.R_drew HO_6.out)
            replace HO_352001 := Aside0.mk (Kd.N_drew HO_352001.out)
            replace HO_358001 := Aside0.mk (Kd.N_drew HO_358001.out)
            replace HO_364001 := Aside0.mk (Kd.N_drew HO_364001.out)
            replace HO370 := Aside0.mk (Kd.V_drew HO370.out)
            replace HO374 := Aside0.mk (Kd.N_drew HO374.out)
            replace BK351 := Aside0.mk (blk_drew BK351.out)
            replace BK357 := Aside0.mk (blk_drew BK357.out)
            replace BK363 := Aside0.mk (blk_drew BK363.out)
            replace BK376 := Aside0.mk (blk_drew BK376.out)
            replace HB := Aside0.mk (below_drew1 HB.out)
            have q75 : ((ji55) : Int) ≤ ((t348.length : Int) : Int) := of_decide_eq_true y23
            obtain ⟨i075, hi075, _, hsz75, _⟩ := info_parts info3
            have hroom75 : t348.length ≤ co16 := (Kd.R_reads' HO_6.out).2.1
            have hC75 : Kd.F (Kd.int .i64) _ _ Ao16 t348.length t348 := (Kd.V_at (base := w.heap.size) (Kd.R_V (Kd.R_types (Kd.R_types (Kd.R_types (Kd.R_types (Kd.R_apart' (Kd.R_apart' (Kd.R_apart' (Kd.R_apart' (HO_6.out) (Kd.N_typed HO_352001.out) (by decide)) (Kd.N_typed HO_358001.out) (by decide)) (Kd.N_typed HO_364001.out) (by decide)) (Kd.N_typed HO374.out) (by decide)) BK351.out (by decide)) BK357.out (by decide)) BK363.out (by decide)) BK376.out (by decide)))).2.2
            have q075 : (0 : Int) ≤ ((ji55) : Int) := of_decide_eq_true y23
            have hcut75 := cut_from (P := Try.prog) 26 3 .i64 Try.underlying26 hi075 1 hsz75 Ao16 t348.length co16 (ji55) q075 q75
            have hr75 := Kd.F_cut (m := ((ji55) : Int).toNat) (c := co16) hC75 (by omega) hroom75
            obtain ⟨A75, hA75⟩ : ∃ A1, A1 = (if co16 = ((ji55) : Int).toNat then Ao16 else (Ao16 : Option Addr).map (·.add (((ji55) : Int).toNat * 1))) := ⟨_, rfl⟩
            obtain ⟨c75, hc75⟩ : ∃ c1, c1 = co16 - ((ji55) : Int).toNat := ⟨_, rfl⟩
            have hy75 : y377.length = t348.length - ((ji55) : Int).toNat := (by rw [Ny377.out, List.length_drop] <;> omega)
            rw [show (t348).drop ((ji55) : Int).toNat = y377 from Ny377.out.symm] at hr75
            replace hr75 : Kd.F (Kd.int .i64) _ _ A75 y377.length y377 := (by rw [hA75]; exact hr75)
            rw [← hy75, ← hA75, ← hc75] at hcut75
            have HO381 := Aside0.mk (show Kd.V (Kd.int .i64) 3 _ w.heap.size _ (.slice A75 y377.length c75) y377 from Kd.V_mk (by rw [hy75, hc75]; exact Nat.sub_le_sub_right hroom75 _) hr75)
            have HC381 := Aside0.mk (show y377.length ≤ c75 from by rw [hy75, hc75]; exact Nat.sub_le_sub_right hroom75 _)
            clear hr75 hC75 hroom75 hi075 hsz75 hc75
            have KY75 := Aside0.mk hy75
            have KA75 := Aside0.mk hA75
            clear hy75 hA75
            replace q75 := eq_true q75
            refine start_ (n := 11) (S := fun w' => w'.cell? ⟨gb376, 0, none⟩ = some (.int .i64 t371) ∧ w'.cell? ⟨gb376, 1, none⟩ = some (.slice Ao71 t372.length co71)) (ds := []) #[false, false, false, false, false, false, false, false, false, false, false] (by kernel_rfl) rfl rfl ⟨(blk_cell BK376.out 0).trans rfl, (blk_cell BK376.out 1).trans rfl⟩ (fun hHeld => ?_); refine with_tabW laws_FnValAt.tab10 laws_FnValAt.bits10 (fun HT_ HW_ => ?_)
            generalize w73.drew = w74 at HO_6 HO_352001 HO_358001 HO_364001 HO370 HO374 BK351 BK357 BK363 BK376 HB HO381 hHeld ⊢
            refine zp 1 (some 78) HT_ ?_
            refine zp 2 (some 79) HT_ ?_
            refine zp 3 (some 80) HT_ ?_
            refine zt2 0 (some 77) HT_ HW_ hHeld ?_
            refine join_ (σ := Value × Nat) 2 #[true, true, true, true, true, true, true, true, true, false, false] (fun s_ => [(81, .tuple #[.agg #[.int .i64 t382, s_.1], .bool true]), (14, .pointer (some ⟨s_.2, 0, none⟩)), (76, .tuple #[.agg #[.int .i64 t382, s_.1], .bool true]), (82, .agg #[.int .i64 t382, s_.1]), (83, .bool true)]) (fun s_ w' => (w'.cell? ⟨gb376, 0, none⟩ = some (.int .i64 t371) ∧ w'.cell? ⟨gb376, 1, none⟩ = some (.slice Ao71 t372.length co71)) ∧ (Kd.V (Kd.int .i64) 3 w' w.heap.size (fun k_ => some k_ ≠ (.slice Ao71 t372.length co71 : Value).ownBlock ∧ some k_ ≠ (s_.1 : Value).ownBlock ∧ some k_ ≠ (.slice Ao13 t345.length co13 : Value).ownBlock ∧ some k_ ≠ (.slice Ao21 t353.length co21 : Value).ownBlock ∧ some k_ ≠ (.slice Ao29 t359.length co29 : Value).ownBlock ∧ k_ ≠ gb351 ∧ k_ ≠ gb357 ∧ k_ ≠ gb363 ∧ k_ ≠ gb376 ∧ k_ ≠ s_.2) (.slice Ao16 y366.length co16) y366) ∧ (Kd.N k25 25 w' w.heap.size (fun k_ => some k_ ≠ (s_.1 : Value).ownBlock ∧ some k_ ≠ (.slice Ao21 t353.length co21 : Value).ownBlock ∧ some k_ ≠ (.slice Ao29 t359.length co29 : Value).ownBlock ∧ some k_ ≠ (.slice Ao16 t348.length co16 : Value).ownBlock ∧ k_ ≠ gb351 ∧ k_ ≠ gb357 ∧ k_ ≠ gb363 ∧ k_ ≠ gb376 ∧ k_ ≠ s_.2) (.slice Ao71 t372.length co71) t372) ∧ (Kd.V (Kd.int .i64) 3 w' w.heap.size (fun k_ => some k_ ≠ (.slice Ao71 t372.length co71 : Value).ownBlock ∧ some k_ ≠ (s_.1 : Value).ownBlock ∧ some k_ ≠ (.slice Ao13 t345.length co13 : Value).ownBlock ∧ some k_ ≠ (.slice Ao21 t353.length co21 : Value).ownBlock ∧ some k_ ≠ (.slice Ao29 t359.length co29 : Value).ownBlock ∧ k_ ≠ gb351 ∧ k_ ≠ gb357 ∧ k_ ≠ gb363 ∧ k_ ≠ gb376 ∧ k_ ≠ s_.2) (.slice A75 y377.length c75) y377) ∧ (Kd.N k25 25 w' w.heap.size (fun k_ => some k_ ≠ (.slice Ao21 t353.length co21 : Value).ownBlock ∧ some k_ ≠ (.slice Ao29 t359.length co29 : Value).ownBlock ∧ some k_ ≠ (.slice Ao16 t348.length co16 : Value).ownBlock ∧ k_ ≠ gb351 ∧ k_ ≠ gb357 ∧ k_ ≠ gb363 ∧ k_ ≠ gb376 ∧ k_ ≠ s_.2) s_.1 t383) ∧ (Kd.N k25 25 w' w.heap.size (fun k_ => some k_ ≠ (.slice Ao71 t372.length co71 : Value).ownBlock ∧ some k_ ≠ (s_.1 : Value).ownBlock ∧ some k_ ≠ (.slice Ao21 t353.length co21 : Value).ownBlock ∧ some k_ ≠ (.slice Ao29 t359.length co29 : Value).ownBlock ∧ some k_ ≠ (.slice Ao16 t348.length co16 : Value).ownBlock ∧ k_ ≠ gb351 ∧ k_ ≠ gb357 ∧ k_ ≠ gb363 ∧ k_ ≠ gb376 ∧ k_ ≠ s_.2) (.slice Ao13 t345.length co13) t345) ∧ (Kd.N k25 25 w' w.heap.size (fun k_ => some k_ ≠ (.slice Ao71 t372.length co71 : Value).ownBlock ∧ some k_ ≠ (s_.1 : Value).ownBlock ∧ some k_ ≠ (.slice Ao29 t359.length co29 : Value).ownBlock ∧ some k_ ≠ (.slice Ao16 t348.length co16 : Value).ownBlock ∧ k_ ≠ gb351 ∧ k_ ≠ gb357 ∧ k_ ≠ gb363 ∧ k_ ≠ gb376 ∧ k_ ≠ s_.2) (.slice Ao21 t353.length co21) t353) ∧ (Kd.N k25 25 w' w.heap.size (fun k_ => some k_ ≠ (.slice Ao71 t372.length co71 : Value).ownBlock ∧ some k_ ≠ (s_.1 : Value).ownBlock ∧ some k_ ≠ (.slice Ao21 t353.length co21 : Value).ownBlock ∧ some k_ ≠ (.slice Ao16 t348.length co16 : Value).ownBlock ∧ k_ ≠ gb351 ∧ k_ ≠ gb357 ∧ k_ ≠ gb363 ∧ k_ ≠ gb376 ∧ k_ ≠ s_.2) (.slice Ao29 t359.length co29) t359) ∧ (Kd.R (Kd.int .i64) 3 w' w.heap.size (fun _ => True) (.slice Ao16 t348.length co16) t348) ∧ (w'.heap[gb351]? = some (.cells #[.int .i64 t344, .slice Ao13 t345.length co13] 25 (0, 0))) ∧ (w'.heap[gb357]? = some (.cells #[.int .i64 t352, .slice Ao21 t353.length co21] 25 (0, 0))) ∧ (w'.heap[gb363]? = some (.cells #[.int .i64 t358, .slice Ao29 t359.length co29] 25 (0, 0))) ∧ (w'.heap[gb376]? = some (.cells #[.int .i64 t371, .slice Ao71 t372.length co71] 25 (0, 0))) ∧ (w'.heap[s_.2]? = some (.cells #[.int .i64 0, .slice none 0 0] 25 (0, 0))) ∧ (w.heap.size ≤ s_.2) ∧ (w.heap.size ≤ s_.2) ∧ (gb351 ≠ s_.2) ∧ (s_.2 ≠ gb351) ∧ (gb357 ≠ s_.2) ∧ (s_.2 ≠ gb357) ∧ (gb363 ≠ s_.2) ∧ (s_.2 ≠ gb363) ∧ (gb376 ≠ s_.2) ∧ (s_.2 ≠ gb376) ∧ (Below w.heap.size w w')) ?_ ?_
            rotate_left
            ·intro hCont
             refine two_ (i := 4) (j := 8) (Ni := some 81) (Nj := some 14) #[true, true, true, true, true, false, false, false, false, false, false] #[true, true, true, true, false, false, false, false, true, false, false] rfl rfl rfl rfl (two_of HT_.out (by kernel_rfl)) (by decide) (by decide) (fun K hK => ?_) (fun K hK => ?_)
             ·skip
              refine goes_ Try.func14 (by kernel_rfl) rfl #[.agg #[.int .i64 t371, .slice Ao71 t372.length co71], .slice A75 y377.length c75] (by rfl) rfl rfl y8 ?_
              with_reducible refine (impl_ValAt.calls kj8 t371 (fun k_ => (some k_ ≠ (.slice Ao16 t348.length co16 : Value).ownBlock ∧ (some k_ ≠ (.slice Ao21 t353.length co21 : Value).ownBlock ∧ (some k_ ≠ (.slice Ao29 t359.length co29 : Value).ownBlock ∧ (k_ ≠ gb351 ∧ (k_ ≠ gb357 ∧ (k_ ≠ gb363 ∧ k_ ≠ gb376))))))) _ _ t372 _ _ y377 t382 t383 true _ ?side1 ?side2 ?side3 A61.out).mono ?_
              (case side1 => exact Kd.N_V (HO374.out))
              (case side2 => exact y35 HO381.out)
              (case side3 => exact (Kd.V_reads' HO381.out).2.1)
              rintro e w76 ⟨v384, rfl, ho0, hb⟩
              refine ⟨_, rfl, ?_⟩
              replace HO_352001 := Aside0.mk (Kd.N_elder' (y3 HO_352001.out) (Kd.N_base ho0) hb)
              replace HO370 := Aside0.mk (Kd.V_elder' (y10 HO370.out) (Kd.N_base ho0) hb)
              replace HO374 := Aside0.mk (Kd.N_elder' (y3 HO374.out) (Kd.N_base ho0) hb)
              replace HO381 := Aside0.mk (Kd.V_elder' (y10 HO381.out) (Kd.N_base ho0) hb)
              have HO385 := Aside0.mk (Kd.N_lower (Kd.N_mono (ok' := fun k_ => some k_ ≠ (.slice Ao16 t348.length co16 : Value).ownBlock ∧ some k_ ≠ (.slice Ao21 t353.length co21 : Value).ownBlock ∧ some k_ ≠ (.slice Ao29 t359.length co29 : Value).ownBlock ∧ k_ ≠ gb351 ∧ k_ ≠ gb357 ∧ k_ ≠ gb363 ∧ k_ ≠ gb376) ho0 (fun k_ hk_ => ⟨Or.elim hk_ (fun hs_ => hs_.1) (fun hn_ => (Kd.fresh' (Kd.R_lt (y12 HO_6.out)) k_ hn_)), Or.elim hk_ (fun hs_ => hs_.2.1) (fun hn_ => (Kd.fresh' (Kd.N_lt (y3 HO_358001.out)) k_ hn_)), Or.elim hk_ (fun hs_ => hs_.2.2.1) (fun hn_ => (Kd.fresh' (Kd.N_lt (y3 HO_364001.out)) k_ hn_)), Or.elim hk_ (fun hs_ => hs_.2.2.2.1) (fun hn_ => (Kd.freshB (g := gb351) (o := .cells #[.int .i64 t344, .slice Ao13 t345.length co13] 25 (0, 0)) (y0 BK351.out) k_ hn_)), Or.elim hk_ (fun hs_ => hs_.2.2.2.2.1) (fun hn_ => (Kd.freshB (g := gb357) (o := .cells #[.int .i64 t352, .slice Ao21 t353.length co21] 25 (0, 0)) (y0 BK357.out) k_ hn_)), Or.elim hk_ (fun hs_ => hs_.2.2.2.2.2.1) (fun hn_ => (Kd.freshB (g := gb363) (o := .cells #[.int .i64 t358, .slice Ao29 t359.length co29] 25 (0, 0)) (y0 BK363.out) k_ hn_)), Or.elim hk_ (fun hs_ => hs_.2.2.2.2.2.2) (fun hn_ => (Kd.freshB (g := gb376) (o := .cells #[.int .i64 t371, .slice Ao71 t372.length co71] 25 (0, 0)) (y0 BK376.out) k_ hn_))⟩)) (below_size (y7 HB.out GE351.out GE357.out GE363.out GE376.out)))
              replace HO_6 := Aside0.mk (Kd.R_below (y12 HO_6.out) hb)
              replace HO_358001 := Aside0.mk (Kd.N_elder' (y3 HO_358001.out) (Kd.N_base ho0) hb)
              replace HO_364001 := Aside0.mk (Kd.N_elder' (y3 HO_364001.out) (Kd.N_base ho0) hb)
              replace BK351 := zbb BK351 hb
              replace BK357 := zbb BK357 hb
              replace BK363 := zbb BK363 hb
              replace BK376 := zbb BK376 hb
              replace HB := Aside0.mk (below_step (y7 HB.out GE351.out GE357.out GE363.out GE376.out) hb)
              (try clear hb)
              (try clear hb2)
              (try clear hk)
              (try clear hi)
              (try clear ho0)
              refine hK.out _ _ ⟨(blk_cell BK376.out 0).trans rfl, (blk_cell BK376.out 1).trans rfl⟩ (fun hHeld => ?_)
              clear hK K
              refine norm_ (a' := ?_) ?_ ?_
              rotate_left
              ·show Act.put _ (some 81) _ = _
               simp only [Act.put, List.setIfInBounds_toArray, List.set_cons_zero, List.set_cons_succ, i64_w, i32_w]
               rfl
              refine zp 5 (some 76) HT_ ?_
              refine zp 6 (some 82) HT_ ?_
              refine zp 7 (some 83) HT_ ?_
              refine one_ (i := 8) (N := some 14) #[true, true, true, true, true, true, true, true, true, false, false] rfl rfl (one_of HT_.out (by kernel_rfl)) (by decide) (fun K hK => ?_)
              refine box_step ?hg (N := 14) ?hd (cs := #[.int .i64 0, .slice none 0 0]) (t := 25) ?hr ?_; (case hd => rfl); (case hg => rfl); (case hr => first | (go_simp; done) | (go_simp; rfl))
              intro gb387 hg w77 hbox hb
              replace HO_6 := Aside0.mk (Kd.R_below (y12 HO_6.out) hb)
              replace HO_352001 := Aside0.mk (Kd.N_below (Kd.N_elderB (y3 HO_352001.out) gb387 (Nat.le_of_eq hg.symm)) hb)
              replace HO_358001 := Aside0.mk (Kd.N_below (Kd.N_elderB (y3 HO_358001.out) gb387 (Nat.le_of_eq hg.symm)) hb)
              replace HO_364001 := Aside0.mk (Kd.N_below (Kd.N_elderB (y3 HO_364001.out) gb387 (Nat.le_of_eq hg.symm)) hb)
              replace HO370 := Aside0.mk (Kd.V_below (Kd.V_elderB (y10 HO370.out) gb387 (Nat.le_of_eq hg.symm)) hb)
              replace HO374 := Aside0.mk (Kd.N_below (Kd.N_elderB (y3 HO374.out) gb387 (Nat.le_of_eq hg.symm)) hb)
              replace HO381 := Aside0.mk (Kd.V_below (Kd.V_elderB (y10 HO381.out) gb387 (Nat.le_of_eq hg.symm)) hb)
              replace HO385 := Aside0.mk (Kd.N_below (Kd.N_elderB (y3 HO385.out) gb387 (Nat.le_of_eq hg.symm)) hb)
              have BK387 := Aside0.mk hbox
              have GW387 := Aside0.mk ((y27 hg HB.out GE351.out GE357.out GE363.out GE376.out : w.heap.size ≤ gb387))
              have GE387 := Aside0.mk ((y27 hg HB.out GE351.out GE357.out GE363.out GE376.out : w.heap.size ≤ gb387))
              replace HB := Aside0.mk (below_step (y7 HB.out GE351.out GE357.out GE363.out GE376.out) hb)
              have NB351_387 := zltn hg BK351
              have NB387_351 := zgtn hg BK351
              replace BK351 := zbb BK351 hb
              have NB357_387 := zltn hg BK357
              have NB387_357 := zgtn hg BK357
              replace BK357 := zbb BK357 hb
              have NB363_387 := zltn hg BK363
              have NB387_363 := zgtn hg BK363
              replace BK363 := zbb BK363 hb
              have NB376_387 := zltn hg BK376
              have NB387_376 := zgtn hg BK376
              replace BK376 := zbb BK376 hb
              clear hb hbox hg
              refine hK.out _ _ ⟨(blk_cell BK376.out 0).trans rfl, (blk_cell BK376.out 1).trans rfl⟩ (fun hHeld => ?_)
              clear hK K
              refine norm_ (a' := ?_) ?_ ?_
              rotate_left
              ·show Act.put _ (some 14) _ = _
               simp only [Act.put, List.setIfInBounds_toArray, List.set_cons_zero, List.set_cons_succ, i64_w, i32_w]
               rfl
              exact norm_ y82 (hCont (v384, gb387) _ ⟨hHeld, (by (with_reducible repeat (first | apply Kd.V_alloc | apply Kd.V_drewN | apply Kd.V_drew)); exact Kd.V_mono HO370.out (fun _ hk => ⟨hk.1.1.2.2.2.1, ⟨hk.1.2, ⟨hk.1.1.1, ⟨hk.1.1.2.1, ⟨hk.1.1.2.2.1, ⟨hk.1.1.2.2.2.2.1, ⟨hk.1.1.2.2.2.2.2.1, ⟨hk.1.1.2.2.2.2.2.2.1, ⟨hk.1.1.2.2.2.2.2.2.2, hk.2⟩⟩⟩⟩⟩⟩⟩⟩⟩)), (by (with_reducible repeat (first | apply Kd.N_alloc | apply Kd.N_drewN | apply Kd.N_drew)); exact Kd.N_mono HO374.out (fun _ hk => ⟨hk.1.2, ⟨hk.1.1.2.1, ⟨hk.1.1.2.2.1, ⟨hk.1.1.1, ⟨hk.1.1.2.2.2.1, ⟨hk.1.1.2.2.2.2.1, ⟨hk.1.1.2.2.2.2.2.1, ⟨hk.1.1.2.2.2.2.2.2, hk.2⟩⟩⟩⟩⟩⟩⟩⟩)), (by (with_reducible repeat (first | apply Kd.V_alloc | apply Kd.V_drewN | apply Kd.V_drew)); exact Kd.V_mono HO381.out (fun _ hk => ⟨hk.1.1.1.1.1.1.2, ⟨hk.1.2, ⟨hk.1.1.1.1.1.1.1.1.1.2, ⟨hk.1.1.1.1.1.1.1.1.2, ⟨hk.1.1.1.1.1.1.1.2, ⟨hk.1.1.1.1.1.2, ⟨hk.1.1.1.1.2, ⟨hk.1.1.1.2, ⟨hk.1.1.2, hk.2⟩⟩⟩⟩⟩⟩⟩⟩⟩)), (by (with_reducible repeat (first | apply Kd.N_alloc | apply Kd.N_drewN | apply Kd.N_drew)); exact Kd.N_mono HO385.out (fun _ hk => ⟨hk.1.2.1, ⟨hk.1.2.2.1, ⟨hk.1.1, ⟨hk.1.2.2.2.1, ⟨hk.1.2.2.2.2.1, ⟨hk.1.2.2.2.2.2.1, ⟨hk.1.2.2.2.2.2.2, hk.2⟩⟩⟩⟩⟩⟩⟩)), (by (with_reducible repeat (first | apply Kd.N_alloc | apply Kd.N_drewN | apply Kd.N_drew)); exact Kd.N_mono HO_352001.out (fun _ hk => ⟨hk.1.1.2.2.2.1, ⟨hk.1.2, ⟨hk.1.1.2.1, ⟨hk.1.1.2.2.1, ⟨hk.1.1.1, ⟨hk.1.1.2.2.2.2.1, ⟨hk.1.1.2.2.2.2.2.1, ⟨hk.1.1.2.2.2.2.2.2.1, ⟨hk.1.1.2.2.2.2.2.2.2, hk.2⟩⟩⟩⟩⟩⟩⟩⟩⟩)), (y69 HO_358001.out), (y69 HO_364001.out), (y12 HO_6.out), (y0 BK351.out), (y0 BK357.out), (y0 BK363.out), (y0 BK376.out), (y0 BK387.out), GW387.out, GE387.out, NB351_387.out, NB387_351.out, NB357_387.out, NB387_357.out, NB363_387.out, NB387_363.out, NB376_387.out, NB387_376.out, (y14 HB.out GE351.out GE357.out GE363.out GE376.out GE387.out)⟩)
             ·skip
              refine box_step ?hg (N := 14) ?hd (cs := #[.int .i64 0, .slice none 0 0]) (t := 25) ?hr ?_; (case hd => rfl); (case hg => rfl); (case hr => first | (go_simp; done) | (go_simp; rfl))
              intro gb387 hg w76 hbox hb
              replace HO_6 := Aside0.mk (Kd.R_below (y12 HO_6.out) hb)
              replace HO_352001 := Aside0.mk (Kd.N_below (Kd.N_elderB (y3 HO_352001.out) gb387 (Nat.le_of_eq hg.symm)) hb)
              replace HO_358001 := Aside0.mk (Kd.N_below (Kd.N_elderB (y3 HO_358001.out) gb387 (Nat.le_of_eq hg.symm)) hb)
              replace HO_364001 := Aside0.mk (Kd.N_below (Kd.N_elderB (y3 HO_364001.out) gb387 (Nat.le_of_eq hg.symm)) hb)
              replace HO370 := Aside0.mk (Kd.V_below (Kd.V_elderB (y10 HO370.out) gb387 (Nat.le_of_eq hg.symm)) hb)
              replace HO374 := Aside0.mk (Kd.N_below (Kd.N_elderB (y3 HO374.out) gb387 (Nat.le_of_eq hg.symm)) hb)
              replace HO381 := Aside0.mk (Kd.V_below (Kd.V_elderB (y10 HO381.out) gb387 (Nat.le_of_eq hg.symm)) hb)
              have BK387 := Aside0.mk hbox
              have GW387 := Aside0.mk ((y27 hg HB.out GE351.out GE357.out GE363.out GE376.out : w.heap.size ≤ gb387))
              have GE387 := Aside0.mk ((y27 hg HB.out GE351.out GE357.out GE363.out GE376.out : w.heap.size ≤ gb387))
              replace HB := Aside0.mk (below_step (y7 HB.out GE351.out GE357.out GE363.out GE376.out) hb)
              have NB351_387 := zltn hg BK351
              have NB387_351 := zgtn hg BK351
              replace BK351 := zbb BK351 hb
              have NB357_387 := zltn hg BK357
              have NB387_357 := zgtn hg BK357
              replace BK357 := zbb BK357 hb
              have NB363_387 := zltn hg BK363
              have NB387_363 := zgtn hg BK363
              replace BK363 := zbb BK363 hb
              have NB376_387 := zltn hg BK376
              have NB387_376 := zgtn hg BK376
              replace BK376 := zbb BK376 hb
              clear hb hbox hg
              refine hK.out _ _ ⟨(blk_cell BK376.out 0).trans rfl, (blk_cell BK376.out 1).trans rfl⟩ (fun hHeld => ?_)
              clear hK K
              refine norm_ (a' := ?_) ?_ ?_
              rotate_left
              ·show Act.put _ (some 14) _ = _
               simp only [Act.put, List.setIfInBounds_toArray, List.set_cons_zero, List.set_cons_succ, i64_w, i32_w]
               rfl
              refine one_ (i := 4) (N := some 81) #[true, true, true, true, true, false, false, false, true, false, false] rfl rfl (one_of HT_.out (by kernel_rfl)) (by decide) (fun K hK => ?_)
              refine goes_ Try.func14 (by kernel_rfl) rfl #[.agg #[.int .i64 t371, .slice Ao71 t372.length co71], .slice A75 y377.length c75] (by rfl) rfl rfl y8 ?_
              with_reducible refine (impl_ValAt.calls kj8 t371 (fun k_ => ((some k_ ≠ (.slice Ao16 t348.length co16 : Value).ownBlock ∧ (some k_ ≠ (.slice Ao21 t353.length co21 : Value).ownBlock ∧ (some k_ ≠ (.slice Ao29 t359.length co29 : Value).ownBlock ∧ (k_ ≠ gb351 ∧ (k_ ≠ gb357 ∧ (k_ ≠ gb363 ∧ k_ ≠ gb376)))))) ∧ k_ ≠ gb387)) _ _ t372 _ _ y377 t382 t383 true _ ?side1 ?side2 ?side3 A61.out).mono ?_
              (case side1 => exact Kd.N_V (HO374.out))
              (case side2 => exact y35 HO381.out)
              (case side3 => exact (Kd.V_reads' HO381.out).2.1)
              rintro e w77 ⟨v384, rfl, ho0, hb⟩
              refine ⟨_, rfl, ?_⟩
              replace HO_352001 := Aside0.mk (Kd.N_elder' (y3 HO_352001.out) (Kd.N_base ho0) hb)
              replace HO370 := Aside0.mk (Kd.V_elder' (y10 HO370.out) (Kd.N_base ho0) hb)
              replace HO374 := Aside0.mk (Kd.N_elder' (y3 HO374.out) (Kd.N_base ho0) hb)
              replace HO381 := Aside0.mk (Kd.V_elder' (y10 HO381.out) (Kd.N_base ho0) hb)
              have HO385 := Aside0.mk (Kd.N_lower (Kd.N_mono (ok' := fun k_ => some k_ ≠ (.slice Ao16 t348.length co16 : Value).ownBlock ∧ some k_ ≠ (.slice Ao21 t353.length co21 : Value).ownBlock ∧ some k_ ≠ (.slice Ao29 t359.length co29 : Value).ownBlock ∧ k_ ≠ gb351 ∧ k_ ≠ gb357 ∧ k_ ≠ gb363 ∧ k_ ≠ gb376 ∧ k_ ≠ gb387) ho0 (fun k_ hk_ => ⟨Or.elim hk_ (fun hs_ => hs_.1.1) (fun hn_ => (Kd.fresh' (Kd.R_lt (y12 HO_6.out)) k_ hn_)), Or.elim hk_ (fun hs_ => hs_.1.2.1) (fun hn_ => (Kd.fresh' (Kd.N_lt (y3 HO_358001.out)) k_ hn_)), Or.elim hk_ (fun hs_ => hs_.1.2.2.1) (fun hn_ => (Kd.fresh' (Kd.N_lt (y3 HO_364001.out)) k_ hn_)), Or.elim hk_ (fun hs_ => hs_.1.2.2.2.1) (fun hn_ => (Kd.freshB (g := gb351) (o := .cells #[.int .i64 t344, .slice Ao13 t345.length co13] 25 (0, 0)) (y0 BK351.out) k_ hn_)), Or.elim hk_ (fun hs_ => hs_.1.2.2.2.2.1) (fun hn_ => (Kd.freshB (g := gb357) (o := .cells #[.int .i64 t352, .slice Ao21 t353.length co21] 25 (0, 0)) (y0 BK357.out) k_ hn_)), Or.elim hk_ (fun hs_ => hs_.1.2.2.2.2.2.1) (fun hn_ => (Kd.freshB (g := gb363) (o := .cells #[.int .i64 t358, .slice Ao29 t359.length co29] 25 (0, 0)) (y0 BK363.out) k_ hn_)), Or.elim hk_ (fun hs_ => hs_.1.2.2.2.2.2.2) (fun hn_ => (Kd.freshB (g := gb376) (o := .cells #[.int .i64 t371, .slice Ao71 t372.length co71] 25 (0, 0)) (y0 BK376.out) k_ hn_)), Or.elim hk_ (fun hs_ => hs_.2) (fun hn_ => (Kd.freshB (g := gb387) (o := .cells #[.int .i64 0, .slice none 0 0] 25 (0, 0)) (y0 BK387.out) k_ hn_))⟩)) (below_size (y14 HB.out GE351.out GE357.out GE363.out GE376.out GE387.out)))
              replace HO_6 := Aside0.mk (Kd.R_below (y12 HO_6.out) hb)
              replace HO_358001 := Aside0.mk (Kd.N_elder' (y3 HO_358001.out) (Kd.N_base ho0) hb)
              replace HO_364001 := Aside0.mk (Kd.N_elder' (y3 HO_364001.out) (Kd.N_base ho0) hb)
              replace BK351 := zbb BK351 hb
              replace BK357 := zbb BK357 hb
              replace BK363 := zbb BK363 hb
              replace BK376 := zbb BK376 hb
              replace BK387 := zbb BK387 hb
              replace HB := Aside0.mk (below_step (y14 HB.out GE351.out GE357.out GE363.out GE376.out GE387.out) hb)
              (try clear hb)
              (try clear hb2)
              (try clear hk)
              (try clear hi)
              (try clear ho0)
              refine hK.out _ _ ⟨(blk_cell BK376.out 0).trans rfl, (blk_cell BK376.out 1).trans rfl⟩ (fun hHeld => ?_)
              clear hK K
              refine norm_ (a' := ?_) ?_ ?_
              rotate_left
              ·show Act.put _ (some 81) _ = _
               simp only [Act.put, List.setIfInBounds_toArray, List.set_cons_zero, List.set_cons_succ, i64_w, i32_w]
               rfl
              refine zp 5 (some 76) HT_ ?_
              refine zp 6 (some 82) HT_ ?_
              refine zp 7 (some 83) HT_ ?_
              exact norm_ y82 (hCont (v384, gb387) _ ⟨hHeld, (by (with_reducible repeat (first | apply Kd.V_alloc | apply Kd.V_drewN | apply Kd.V_drew)); exact Kd.V_mono HO370.out (fun _ hk => ⟨hk.1.1.2.2.2.1, ⟨hk.2, ⟨hk.1.1.1, ⟨hk.1.1.2.1, ⟨hk.1.1.2.2.1, ⟨hk.1.1.2.2.2.2.1, ⟨hk.1.1.2.2.2.2.2.1, ⟨hk.1.1.2.2.2.2.2.2.1, ⟨hk.1.1.2.2.2.2.2.2.2, hk.1.2⟩⟩⟩⟩⟩⟩⟩⟩⟩)), (by (with_reducible repeat (first | apply Kd.N_alloc | apply Kd.N_drewN | apply Kd.N_drew)); exact Kd.N_mono HO374.out (fun _ hk => ⟨hk.2, ⟨hk.1.1.2.1, ⟨hk.1.1.2.2.1, ⟨hk.1.1.1, ⟨hk.1.1.2.2.2.1, ⟨hk.1.1.2.2.2.2.1, ⟨hk.1.1.2.2.2.2.2.1, ⟨hk.1.1.2.2.2.2.2.2, hk.1.2⟩⟩⟩⟩⟩⟩⟩⟩)), (by (with_reducible repeat (first | apply Kd.V_alloc | apply Kd.V_drewN | apply Kd.V_drew)); exact Kd.V_mono HO381.out (fun _ hk => ⟨hk.1.1.1.1.1.1.2, ⟨hk.2, ⟨hk.1.1.1.1.1.1.1.1.1.2, ⟨hk.1.1.1.1.1.1.1.1.2, ⟨hk.1.1.1.1.1.1.1.2, ⟨hk.1.1.1.1.1.2, ⟨hk.1.1.1.1.2, ⟨hk.1.1.1.2, ⟨hk.1.1.2, hk.1.2⟩⟩⟩⟩⟩⟩⟩⟩⟩)), (by (with_reducible repeat (first | apply Kd.N_alloc | apply Kd.N_drewN | apply Kd.N_drew)); exact Kd.N_mono HO385.out (fun _ hk => ⟨hk.2.1, ⟨hk.2.2.1, ⟨hk.1, ⟨hk.2.2.2.1, ⟨hk.2.2.2.2.1, ⟨hk.2.2.2.2.2.1, ⟨hk.2.2.2.2.2.2.1, hk.2.2.2.2.2.2.2⟩⟩⟩⟩⟩⟩⟩)), (by (with_reducible repeat (first | apply Kd.N_alloc | apply Kd.N_drewN | apply Kd.N_drew)); exact Kd.N_mono HO_352001.out (fun _ hk => ⟨hk.1.1.2.2.2.1, ⟨hk.2, ⟨hk.1.1.2.1, ⟨hk.1.1.2.2.1, ⟨hk.1.1.1, ⟨hk.1.1.2.2.2.2.1, ⟨hk.1.1.2.2.2.2.2.1, ⟨hk.1.1.2.2.2.2.2.2.1, ⟨hk.1.1.2.2.2.2.2.2.2, hk.1.2⟩⟩⟩⟩⟩⟩⟩⟩⟩)), (y70 HO_358001.out), (y70 HO_364001.out), (y12 HO_6.out), (y0 BK351.out), (y0 BK357.out), (y0 BK363.out), (y0 BK376.out), (y0 BK387.out), GW387.out, GE387.out, NB351_387.out, NB387_351.out, NB357_387.out, NB387_357.out, NB363_387.out, NB387_363.out, NB376_387.out, NB387_376.out, (y14 HB.out GE351.out GE357.out GE363.out GE376.out GE387.out)⟩)
            rintro ⟨v384, gb387⟩ w78 ⟨hS_, h0_, h1_, h2_, h3_, h4_, h5_, h6_, h7_, h8_, h9_, h10_, h11_, h12_, h13_, h14_, h15_, h16_, h17_, h18_, h19_, h20_, h21_, h22_, h23_⟩
            have n0_ : Aside0 (Kd.V (Kd.int .i64) 3 w78 w.heap.size (fun k_ => some k_ ≠ (.slice Ao71 t372.length co71 : Value).ownBlock ∧ some k_ ≠ (v384 : Value).ownBlock ∧ some k_ ≠ (.slice Ao13 t345.length co13 : Value).ownBlock ∧ some k_ ≠ (.slice Ao21 t353.length co21 : Value).ownBlock ∧ some k_ ≠ (.slice Ao29 t359.length co29 : Value).ownBlock ∧ k_ ≠ gb351 ∧ k_ ≠ gb357 ∧ k_ ≠ gb363 ∧ k_ ≠ gb376 ∧ k_ ≠ gb387) (.slice Ao16 y366.length co16) y366) := ⟨h0_⟩
            have n1_ : Aside0 (Kd.N k25 25 w78 w.heap.size (fun k_ => some k_ ≠ (v384 : Value).ownBlock ∧ some k_ ≠ (.slice Ao21 t353.length co21 : Value).ownBlock ∧ some k_ ≠ (.slice Ao29 t359.length co29 : Value).ownBlock ∧ some k_ ≠ (.slice Ao16 t348.length co16 : Value).ownBlock ∧ k_ ≠ gb351 ∧ k_ ≠ gb357 ∧ k_ ≠ gb363 ∧ k_ ≠ gb376 ∧ k_ ≠ gb387) (.slice Ao71 t372.length co71) t372) := ⟨h1_⟩
            have n2_ : Aside0 (Kd.V (Kd.int .i64) 3 w78 w.heap.size (fun k_ => some k_ ≠ (.slice Ao71 t372.length co71 : Value).ownBlock ∧ some k_ ≠ (v384 : Value).ownBlock ∧ some k_ ≠ (.slice Ao13 t345.length co13 : Value).ownBlock ∧ some k_ ≠ (.slice Ao21 t353.length co21 : Value).ownBlock ∧ some k_ ≠ (.slice Ao29 t359.length co29 : Value).ownBlock ∧ k_ ≠ gb351 ∧ k_ ≠ gb357 ∧ k_ ≠ gb363 ∧ k_ ≠ gb376 ∧ k_ ≠ gb387) (.slice A75 y377.length c75) y377) := ⟨h2_⟩
            have n3_ : Aside0 (Kd.N k25 25 w78 w.heap.size (fun k_ => some k_ ≠ (.slice Ao21 t353.length co21 : Value).ownBlock ∧ some k_ ≠ (.slice Ao29 t359.length co29 : Value).ownBlock ∧ some k_ ≠ (.slice Ao16 t348.length co16 : Value).ownBlock ∧ k_ ≠ gb351 ∧ k_ ≠ gb357 ∧ k_ ≠ gb363 ∧ k_ ≠ gb376 ∧ k_ ≠ gb387) v384 t383) := ⟨h3_⟩
            have n4_ : Aside0 (Kd.N k25 25 w78 w.heap.size (fun k_ => some k_ ≠ (.slice Ao71 t372.length co71 : Value).ownBlock ∧ some k_ ≠ (v384 : Value).ownBlock ∧ some k_ ≠ (.slice Ao21 t353.length co21 : Value).ownBlock ∧ some k_ ≠ (.slice Ao29 t359.length co29 : Value).ownBlock ∧ some k_ ≠ (.slice Ao16 t348.length co16 : Value).ownBlock ∧ k_ ≠ gb351 ∧ k_ ≠ gb357 ∧ k_ ≠ gb363 ∧ k_ ≠ gb376 ∧ k_ ≠ gb387) (.slice Ao13 t345.length co13) t345) := ⟨h4_⟩
            have n5_ : Aside0 (Kd.N k25 25 w78 w.heap.size (fun k_ => some k_ ≠ (.slice Ao71 t372.length co71 : Value).ownBlock ∧ some k_ ≠ (v384 : Value).ownBlock ∧ some k_ ≠ (.slice Ao29 t359.length co29 : Value).ownBlock ∧ some k_ ≠ (.slice Ao16 t348.length co16 : Value).ownBlock ∧ k_ ≠ gb351 ∧ k_ ≠ gb357 ∧ k_ ≠ gb363 ∧ k_ ≠ gb376 ∧ k_ ≠ gb387) (.slice Ao21 t353.length co21) t353) := ⟨h5_⟩
            have n6_ : Aside0 (Kd.N k25 25 w78 w.heap.size (fun k_ => some k_ ≠ (.slice Ao71 t372.length co71 : Value).ownBlock ∧ some k_ ≠ (v384 : Value).ownBlock ∧ some k_ ≠ (.slice Ao21 t353.length co21 : Value).ownBlock ∧ some k_ ≠ (.slice Ao16 t348.length co16 : Value).ownBlock ∧ k_ ≠ gb351 ∧ k_ ≠ gb357 ∧ k_ ≠ gb363 ∧ k_ ≠ gb376 ∧ k_ ≠ gb387) (.slice Ao29 t359.length co29) t359) := ⟨h6_⟩
            have n7_ : Aside0 (Kd.R (Kd.int .i64) 3 w78 w.heap.size (fun _ => True) (.slice Ao16 t348.length co16) t348) := ⟨h7_⟩
            have n8_ : Aside0 (w78.heap[gb351]? = some (.cells #[.int .i64 t344, .slice Ao13 t345.length co13] 25 (0, 0))) := ⟨h8_⟩
            have n9_ : Aside0 (w78.heap[gb357]? = some (.cells #[.int .i64 t352, .slice Ao21 t353.length co21] 25 (0, 0))) := ⟨h9_⟩
            have n10_ : Aside0 (w78.heap[gb363]? = some (.cells #[.int .i64 t358, .slice Ao29 t359.length co29] 25 (0, 0))) := ⟨h10_⟩
            have n11_ : Aside0 (w78.heap[gb376]? = some (.cells #[.int .i64 t371, .slice Ao71 t372.length co71] 25 (0, 0))) := ⟨h11_⟩
            have n12_ : Aside0 (w78.heap[gb387]? = some (.cells #[.int .i64 0, .slice none 0 0] 25 (0, 0))) := ⟨h12_⟩
            have n13_ : Aside0 (w.heap.size ≤ gb387) := ⟨h13_⟩
            have n14_ : Aside0 (w.heap.size ≤ gb387) := ⟨h14_⟩
            have n15_ : Aside0 (gb351 ≠ gb387) := ⟨h15_⟩
            have n16_ : Aside0 (gb387 ≠ gb351) := ⟨h16_⟩
            have n17_ : Aside0 (gb357 ≠ gb387) := ⟨h17_⟩
            have n18_ : Aside0 (gb387 ≠ gb357) := ⟨h18_⟩
            have n19_ : Aside0 (gb363 ≠ gb387) := ⟨h19_⟩
            have n20_ : Aside0 (gb387 ≠ gb363) := ⟨h20_⟩
            have n21_ : Aside0 (gb376 ≠ gb387) := ⟨h21_⟩
            have n22_ : Aside0 (gb387 ≠ gb376) := ⟨h22_⟩
            have n23_ : Aside0 (Below w.heap.size w w78) := ⟨h23_⟩
            clear HO_6
            clear HO_352001
            clear HO_358001
            clear HO_364001
            clear HO370
            clear HO374
            clear BK351
            clear BK357
            clear BK363
            clear BK376
            clear HB
            clear h0_ h1_ h2_ h3_ h4_ h5_ h6_ h7_ h8_ h9_ h10_ h11_ h12_ h13_ h14_ h15_ h16_ h17_ h18_ h19_ h20_ h21_ h22_ h23_
            have HO370 := n0_
            have HO374 := n1_
            have HO381 := n2_
            have HO385 := n3_
            have HO_352001 := n4_
            have HO_358001 := n5_
            have HO_364001 := n6_
            have HO_6 := n7_
            have BK351 := n8_
            have BK357 := n9_
            have BK363 := n10_
            have BK376 := n11_
            have BK387 := n12_
            have GW387 := n13_
            have GE387 := n14_
            have NB351_387 := n15_
            have NB387_351 := n16_
            have NB357_387 := n17_
            have NB387_357 := n18_
            have NB363_387 := n19_
            have NB387_363 := n20_
            have NB376_387 := n21_
            have NB387_376 := n22_
            have HB := n23_
            clear n0_ n1_ n2_ n3_ n4_ n5_ n6_ n7_ n8_ n9_ n10_ n11_ n12_ n13_ n14_ n15_ n16_ n17_ n18_ n19_ n20_ n21_ n22_ n23_
            have hHeld : w78.cell? ⟨gb376, 0, none⟩ = some (.int .i64 t371) ∧ w78.cell? ⟨gb376, 1, none⟩ = some (.slice Ao71 t372.length co71) := hS_
            obtain ⟨Ao80, co80, eo80⟩ := Kd.N_slice HO385.out
            (first | subst eo80 | (injection eo80 with f1_ f2_ f3_; have f4_ := f1_.symm; have f5_ := f3_.symm; clear f1_ f2_ f3_; subst f4_; subst f5_))
            refine norm_ (a' := ?_) ?_ ?_
            rotate_left
            ·simp only [putAll, Act.put, List.setIfInBounds_toArray, List.set_cons_zero, List.set_cons_succ]
             rfl
            refine one_ (i := 9) (N := none) #[true, true, true, true, true, true, true, true, true, true, false] rfl rfl (one_of HT_.out (by kernel_rfl)) (by decide) (fun K hK => ?_)
            have hs79 : w78.cell? ⟨gb387, 0, none⟩ = some (.int .i64 0) := (blk_cell BK387.out 0).trans rfl
            have hfs79 := zfr BK387 0
            have hns79_0 := NB351_387.out
            have hns79_1 := NB357_387.out
            have hns79_2 := NB363_387.out
            have hns79_3 := NB376_387.out
            have hms79_0 := NB387_351.out
            have hms79_1 := NB387_357.out
            have hms79_2 := NB387_363.out
            have hms79_3 := NB387_376.out
            have hs81 : w78.cell? ⟨gb387, 1, none⟩ = some (.slice none 0 0) := (blk_cell BK387.out 1).trans rfl
            have hfs81 := zfr BK387 1
            have hns81_0 := NB351_387.out
            have hns81_1 := NB357_387.out
            have hns81_2 := NB363_387.out
            have hns81_3 := NB376_387.out
            have hms81_0 := NB387_351.out
            have hms81_1 := NB387_357.out
            have hms81_2 := NB387_363.out
            have hms81_3 := NB387_376.out
            refine skip_ (w1 := ?_) (by rfl) rfl ?_ ?_
            rotate_left
            ·go_simp
             rfl
            refine hK.out _ _ ⟨((cell_far (p := ⟨gb387, _, none⟩) NB376_387.out _).trans (((cell_far (p := ⟨gb387, _, none⟩) NB376_387.out _).trans (hHeld.1)))), ((cell_far (p := ⟨gb387, _, none⟩) NB376_387.out _).trans (((cell_far (p := ⟨gb387, _, none⟩) NB376_387.out _).trans (hHeld.2))))⟩ (fun hHeld => ?_)
            clear hK K
            refine zp 10 (some 15) HT_ ?_
            refine done_ (done_of HT_.out (by kernel_rfl)) ?_
            have hnb82 := NB387_351.out
            have hnc82 := NB351_387.out
            have hnb83 := NB387_357.out
            have hnc83 := NB357_387.out
            have hnb84 := NB387_363.out
            have hnc84 := NB363_387.out
            have hnb85 := NB387_376.out
            have hnc85 := NB376_387.out
            have hcz86_0 := zh BK387
            have hcz86_1 := zh1 BK387
            have hfz86_0 := zfr BK387 0
            have hfz86_1 := zfr BK387 1
            have hnb87 := NB363_351.out
            have hnc87 := NB351_363.out
            have hnb88 := NB363_357.out
            have hnc88 := NB357_363.out
            have hnb89 := NB363_376.out
            have hnc89 := NB376_363.out
            have hcz90_0 := zh BK363
            have hcz90_1 := zh1 BK363
            have hfz90_0 := zfr BK363 0
            have hfz90_1 := zfr BK363 1
            try go_wp2_with (first | (go_at_call 15; (with_reducible refine (laws_lhVal.calls kj8 t382 _ _ t383 t358 _ _ t359 t388 _ ?side1 ?side2 ?side3 ?side4 A64.out).mono ?_); (case side1 => refine (Kd.N_reads' (e := 25) (base := w.heap.size) (ok := fun k_ => (some k_ ≠ (.slice Ao21 t353.length co21 : Value).ownBlock ∧ (some k_ ≠ (.slice Ao29 t359.length co29 : Value).ownBlock ∧ (some k_ ≠ (.slice Ao16 t348.length co16 : Value).ownBlock ∧ (k_ ≠ gb351 ∧ (k_ ≠ gb357 ∧ (k_ ≠ gb363 ∧ (k_ ≠ gb376 ∧ k_ ≠ gb387)))))))) (n := t383.length) (c := co80) ?_).2.2; exact (by (with_reducible repeat (first | apply Kd.N_alloc | apply Kd.N_drewN | apply Kd.N_drew)); exact (Kd.N_mono (Kd.N_far (p := ⟨gb387, 1, none⟩) (Kd.N_far (p := ⟨gb387, 0, none⟩) (Kd.N_mono HO385.out (fun k_ hk => (⟨hk, hk.2.2.2.2.2.2.2⟩ : _ ∧ k_ ≠ gb387))) (fun _ hk => hk.2) (.int .i64 t382)) (fun _ hk => hk.2) (.slice Ao80 t383.length co80)) (fun _ h_ => h_.1)))); (case side2 => exact (Kd.N_reads' HO385.out).2.1); (case side3 => refine (Kd.N_reads' (e := 25) (base := w.heap.size) (ok := fun k_ => (some k_ ≠ (.slice Ao71 t372.length co71 : Value).ownBlock ∧ (some k_ ≠ (.slice Ao80 t383.length co80 : Value).ownBlock ∧ (some k_ ≠ (.slice Ao21 t353.length co21 : Value).ownBlock ∧ (some k_ ≠ (.slice Ao16 t348.length co16 : Value).ownBlock ∧ (k_ ≠ gb351 ∧ (k_ ≠ gb357 ∧ (k_ ≠ gb363 ∧ (k_ ≠ gb376 ∧ k_ ≠ gb387))))))))) (n := t359.length) (c := co29) ?_).2.2; exact (by (with_reducible repeat (first | apply Kd.N_alloc | apply Kd.N_drewN | apply Kd.N_drew)); exact (Kd.N_mono (Kd.N_far (p := ⟨gb387, 1, none⟩) (Kd.N_far (p := ⟨gb387, 0, none⟩) (Kd.N_mono HO_364001.out (fun k_ hk => (⟨hk, hk.2.2.2.2.2.2.2.2⟩ : _ ∧ k_ ≠ gb387))) (fun _ hk => hk.2) (.int .i64 t382)) (fun _ hk => hk.2) (.slice Ao80 t383.length co80)) (fun _ h_ => h_.1)))); (case side4 => exact (Kd.N_reads' HO_364001.out).2.1); rintro e w91 ⟨rfl, hb⟩; replace HO_6 := Aside0.mk (Kd.R_below (by (with_reducible repeat (first | apply Kd.R_alloc | apply Kd.R_drewN | apply Kd.R_drew)); exact (Kd.R_mono (Kd.R_far (p := ⟨gb387, 1, none⟩) (Kd.R_far (p := ⟨gb387, 0, none⟩) (Kd.R_types HO_6.out BK387.out (by decide)) (fun _ hk => hk.2) (.int .i64 t382)) (fun _ hk => hk.2) (.slice Ao80 t383.length co80)) (fun _ h_ => h_.1))) hb); replace HO_352001 := Aside0.mk (Kd.N_below (by (with_reducible repeat (first | apply Kd.N_alloc | apply Kd.N_drewN | apply Kd.N_drew)); exact (Kd.N_mono (Kd.N_far (p := ⟨gb387, 1, none⟩) (Kd.N_far (p := ⟨gb387, 0, none⟩) (Kd.N_mono HO_352001.out (fun k_ hk => (⟨hk, hk.2.2.2.2.2.2.2.2.2⟩ : _ ∧ k_ ≠ gb387))) (fun _ hk => hk.2) (.int .i64 t382)) (fun _ hk => hk.2) (.slice Ao80 t383.length co80)) (fun _ h_ => h_.1))) hb); replace HO_358001 := Aside0.mk (Kd.N_below (by (with_reducible repeat (first | apply Kd.N_alloc | apply Kd.N_drewN | apply Kd.N_drew)); exact (Kd.N_mono (Kd.N_far (p := ⟨gb387, 1, none⟩) (Kd.N_far (p := ⟨gb387, 0, none⟩) (Kd.N_mono HO_358001.out (fun k_ hk => (⟨hk, hk.2.2.2.2.2.2.2.2⟩ : _ ∧ k_ ≠ gb387))) (fun _ hk => hk.2) (.int .i64 t382)) (fun _ hk => hk.2) (.slice Ao80 t383.length co80)) (fun _ h_ => h_.1))) hb); replace HO_364001 := Aside0.mk (Kd.N_below (by (with_reducible repeat (first | apply Kd.N_alloc | apply Kd.N_drewN | apply Kd.N_drew)); exact (Kd.N_mono (Kd.N_far (p := ⟨gb387, 1, none⟩) (Kd.N_far (p := ⟨gb387, 0, none⟩) (Kd.N_mono HO_364001.out (fun k_ hk => (⟨hk, hk.2.2.2.2.2.2.2.2⟩ : _ ∧ k_ ≠ gb387))) (fun _ hk => hk.2) (.int .i64 t382)) (fun _ hk => hk.2) (.slice Ao80 t383.length co80)) (fun _ h_ => h_.1))) hb); replace HO370 := Aside0.mk (Kd.V_below (by (with_reducible repeat (first | apply Kd.V_alloc | apply Kd.V_drewN | apply Kd.V_drew)); exact (Kd.V_mono (Kd.V_far (p := ⟨gb387, 1, none⟩) (Kd.V_far (p := ⟨gb387, 0, none⟩) (Kd.V_mono HO370.out (fun k_ hk => (⟨hk, hk.2.2.2.2.2.2.2.2.2⟩ : _ ∧ k_ ≠ gb387))) (fun _ hk => hk.2) (.int .i64 t382)) (fun _ hk => hk.2) (.slice Ao80 t383.length co80)) (fun _ h_ => h_.1))) hb); replace HO374 := Aside0.mk (Kd.N_below (by (with_reducible repeat (first | apply Kd.N_alloc | apply Kd.N_drewN | apply Kd.N_drew)); exact (Kd.N_mono (Kd.N_far (p := ⟨gb387, 1, none⟩) (Kd.N_far (p := ⟨gb387, 0, none⟩) (Kd.N_mono HO374.out (fun k_ hk => (⟨hk, hk.2.2.2.2.2.2.2.2⟩ : _ ∧ k_ ≠ gb387))) (fun _ hk => hk.2) (.int .i64 t382)) (fun _ hk => hk.2) (.slice Ao80 t383.length co80)) (fun _ h_ => h_.1))) hb); replace HO381 := Aside0.mk (Kd.V_below (by (with_reducible repeat (first | apply Kd.V_alloc | apply Kd.V_drewN | apply Kd.V_drew)); exact (Kd.V_mono (Kd.V_far (p := ⟨gb387, 1, none⟩) (Kd.V_far (p := ⟨gb387, 0, none⟩) (Kd.V_mono HO381.out (fun k_ hk => (⟨hk, hk.2.2.2.2.2.2.2.2.2⟩ : _ ∧ k_ ≠ gb387))) (fun _ hk => hk.2) (.int .i64 t382)) (fun _ hk => hk.2) (.slice Ao80 t383.length co80)) (fun _ h_ => h_.1))) hb); replace HO385 := Aside0.mk (Kd.N_below (by (with_reducible repeat (first | apply Kd.N_alloc | apply Kd.N_drewN | apply Kd.N_drew)); exact (Kd.N_mono (Kd.N_far (p := ⟨gb387, 1, none⟩) (Kd.N_far (p := ⟨gb387, 0, none⟩) (Kd.N_mono HO385.out (fun k_ hk => (⟨hk, hk.2.2.2.2.2.2.2⟩ : _ ∧ k_ ≠ gb387))) (fun _ hk => hk.2) (.int .i64 t382)) (fun _ hk => hk.2) (.slice Ao80 t383.length co80)) (fun _ h_ => h_.1))) hb); replace BK351 := Aside0.mk (blk_below (g := gb351) (o := .cells #[.int .i64 t344, .slice Ao13 t345.length co13] 25 (0, 0)) (y1 NB351_387.out BK351.out) hb); replace BK357 := Aside0.mk (blk_below (g := gb357) (o := .cells #[.int .i64 t352, .slice Ao21 t353.length co21] 25 (0, 0)) (y1 NB357_387.out BK357.out) hb); replace BK363 := Aside0.mk (blk_below (g := gb363) (o := .cells #[.int .i64 t358, .slice Ao29 t359.length co29] 25 (0, 0)) (y1 NB363_387.out BK363.out) hb); replace BK376 := Aside0.mk (blk_below (g := gb376) (o := .cells #[.int .i64 t371, .slice Ao71 t372.length co71] 25 (0, 0)) (y1 NB376_387.out BK376.out) hb); replace BK387 := Aside0.mk (blk_below (g := gb387) (o := .cells #[.int .i64 t382, .slice Ao80 t383.length co80] 25 (0, 0)) (by (with_reducible repeat (first | refine blk_drewN ?_ _ | refine blk_drew ?_ | refine blk_alloc ?_ _)); refine blk_put (cs := #[.int .i64 t382, .slice none 0 0]) ?_ 1 _ rfl; (with_reducible repeat (first | refine blk_drewN ?_ _ | refine blk_drew ?_ | refine blk_alloc ?_ _)); apply blk_put (i := 0); (case h => exact y0 BK387.out); (case e => rfl)) hb); replace HB := Aside0.mk (below_step (y14 HB.out GE351.out GE357.out GE363.out GE376.out GE387.out) hb); (try clear hb); (try clear hb2); (try clear hk); (try clear hi)))
            go_ret
            exact ⟨(by first | rfl | (simp [errW_none, errW_some] <;> rfl) | (simp only [← hji55]; first | rfl | (simp [errW_none, errW_some] <;> rfl)) | (simp [*, errW_none, errW_some] <;> rfl)), (y14 HB.out GE351.out GE357.out GE363.out GE376.out GE387.out)⟩
           ·replace c63 := Bool.eq_false_iff.mpr c63
            subst c63
            rw [if_neg (show ¬ (false = true) by decide)] at H
            exact absurd ((Option.some.inj H).trans hr_.out) (by decide)
          ·replace c62 := Bool.eq_false_iff.mpr c62
           subst c62
           rw [if_neg (show ¬ (false = true) by decide)] at H
           exact absurd ((Option.some.inj H).trans hr_.out) (by decide)
         ·rw [if_neg c57] at H
          exact absurd H (by simp)
        ·rw [if_neg c56] at H
         exact absurd H (by simp)
def laws_FnValAt.Pure : Prop := ∀ (l0 : List Int) (l1 : List Int), l0.length ≤ maxLen → l0.length * 1 ≤ 140737488351232 → (∀ x ∈ l0, (Lit.int .u8 x).wf = true) → l1.length ≤ maxLen → l1.length * 1 ≤ 140737488351232 → (∀ x ∈ l1, (Lit.int .u8 x).wf = true) → ∃ k, laws_FnValAt.f k l0 l1 = some true
theorem laws_FnValAt.walk (P : laws_FnValAt.Pure) (a0 : Option Addr) (len0 cap0 : Nat) (z0 : List Int) (a1 : Option Addr) (len1 cap1 : Nat) (z1 : List Int) (w : World) (w0 : (a0 = none ∧ len0 = 0 ∧ cap0 = 0 ∧ z0 = []) ∨ ∃ x, a0 = some x ∧ len0 ≤ cap0 ∧ cap0 ≤ maxLen ∧ z0.length = cap0 ∧ (∀ i, i < z0.length → w.cell? (x.add i) = some (.int .u8 (z0.getD i 0))) ∧ ∀ n ∈ z0, (Lit.int .u8 n).wf = true) (y0 : len0 * 1 ≤ 140737488351232) (w1 : (a1 = none ∧ len1 = 0 ∧ cap1 = 0 ∧ z1 = []) ∨ ∃ x, a1 = some x ∧ len1 ≤ cap1 ∧ cap1 ≤ maxLen ∧ z1.length = cap1 ∧ (∀ i, i < z1.length → w.cell? (x.add i) = some (.int .u8 (z1.getD i 0))) ∧ ∀ n ∈ z1, (Lit.int .u8 n).wf = true) (y1 : len1 * 1 ≤ 140737488351232) :
  Calls Try.prog 3 #[.slice a0 len0 cap0, .slice a1 len1 cap1] w fun e w' => e = .returned (.bool true) ∧ Below w.heap.size w w' := by
 obtain ⟨l0, rfl, hr0, hm0, hw0, hc0⟩ := ReadsInt.ofRowC w0
 obtain ⟨l1, rfl, hr1, hm1, hw1, hc1⟩ := ReadsInt.ofRowC w1
 obtain ⟨k, h⟩ := P l0 l1 hm0 y0 hw0 hm1 y1 hw1
 refine (laws_FnValAt.calls k _ _ l0 _ _ l1 true w (Kd.C_of_reads (d := (0 : Int)) (h1 := fun _ => rfl) hr0) hc0 (Kd.C_of_reads (d := (0 : Int)) (h1 := fun _ => rfl) hr1) hc1 h ⟨rfl⟩).mono ?_
 rintro e w' ⟨rfl, hd⟩
 exact ⟨rfl, hd⟩
end Go.Proofs.Ythfflieeifakdaa.PA
end
section
namespace Go.Proofs.Ythfflieeifakdaa.Draw
open Go.RowKit Go.Proofs.Ythfflieeifakdaa.PA Go.Proofs.YthfflieeifakdaaW.PrintWords Go.Proofs.YthfflieeifakdaaW.PrintLast
def Bytes (s : List Int) : Prop := s.length ≤ 2000 ∧ ∀ x ∈ s, 0 ≤ x ∧ x ≤ 255
theorem rd_byte {s : List Int} (h : Bytes s) (i : Int) : 0 ≤ rd s i ∧ rd s i ≤ 255 := by
  unfold rd
  rw [List.getD_eq_getElem?_getD]
  cases e : s[i.toNat]? with
  | none => simp
  | some x => exact h.2 x (List.mem_of_getElem? e)
theorem w64 {x : Int} (h0 : -9223372036854775808 ≤ x) (h1 : x ≤ 9223372036854775807) : wrap64 x = x := by unfold wrap64; omega
theorem w01 : wrap64 (0 + 1) = 1 := by rw [w64 (by omega) (by omega)]; rfl
theorem w12 : wrap64 (1 + 1) = 2 := by rw [w64 (by omega) (by omega)]; rfl
theorem xor_nonneg (a b : Nat) (ha : a < 2 ^ 62) (hb : b < 2 ^ 62) : 0 ≤ Go.bits .xor .i64 a b := by
  have hp : (2 : Nat) ^ 62 ≤ 2 ^ IntKind.i64.bits := Nat.pow_le_pow_right (by decide) (by decide)
  have ha' : a % 2 ^ IntKind.i64.bits = a := Nat.mod_eq_of_lt (Nat.lt_of_lt_of_le ha hp)
  have hb' : b % 2 ^ IntKind.i64.bits = b := Nat.mod_eq_of_lt (Nat.lt_of_lt_of_le hb hp)
  simp only [Go.bits, BitVec.ofInt_natCast, BitVec.toNat_xor, BitVec.toNat_ofNat, ha', hb']
  rw [IntKind.wrap_i64]
  have := Nat.xor_lt_two_pow ha hb
  omega
theorem xor_nonneg' (x y : Int) (hx : 0 ≤ x) (hx1 : x < 4611686018427387904) (hy : 0 ≤ y) (hy1 : y < 4611686018427387904) : 0 ≤ Go.bits .xor .i64 x y := by
  obtain ⟨a, rfl⟩ := Int.eq_ofNat_of_zero_le hx
  obtain ⟨b, rfl⟩ := Int.eq_ofNat_of_zero_le hy
  exact xor_nonneg a b (by omega) (by omega)
theorem tmod_range (x n : Int) (hx : 0 ≤ x) (hn : 1 ≤ n) : 0 ≤ Int.tmod x n ∧ Int.tmod x n < n := by
  rw [Int.tmod_eq_emod_of_nonneg hx]
  exact ⟨Int.emod_nonneg _ (by omega), Int.emod_lt_of_pos _ (by omega)⟩
theorem tdiv_range (x n : Int) (hx : 0 ≤ x) (hn : 1 ≤ n) : 0 ≤ Int.tdiv x n ∧ Int.tdiv x n ≤ x := by
  rw [Int.tdiv_eq_ediv_of_nonneg hx]
  exact ⟨Int.ediv_nonneg hx (by omega), Int.ediv_le_self _ hx⟩
theorem pick_ev (s : List Int) (hs : Bytes s) (p n : Int) (hp : 0 ≤ p) (hp1 : p ≤ 1099511627776) (hn : 1 ≤ n) :
    ∃ r, (∀ k, 2 ≤ k → spec_l6Rd_pick.f k s p n = some (r, p + 1)) ∧ 0 ≤ r ∧ r < n := by
  have e1 : wrap64 (p + 1) = p + 1 := w64 (by omega) (by omega)
  have e2 : wrap64 (p + 1 - 1) = p := by rw [w64 (by omega) (by omega)]; omega
  by_cases h0 : (s.length : Int) = 0
  · refine ⟨0, fun k hk => ?_, by omega, by omega⟩
    obtain ⟨k, rfl⟩ : ∃ m, k = m + 1 := ⟨k - 1, by omega⟩
    simp only [spec_l6Rd_pick.f]
    rw [if_neg (by omega), e1, show ((s.length : Int) == 0) = true from beq_iff_eq.2 h0]
    simp only [spec_l6Rd_pick.j0, if_true]
  have hl : 0 < s.length := by omega
  have hl2 := hs.1
  have hb : ((s.length : Int) == 0) = false := by simpa using h0
  by_cases hlt : p < (s.length : Int)
  · have hr := rd_byte hs p
    have hq := tmod_range (rd s p) n hr.1 hn
    refine ⟨_, fun k hk => ?_, hq.1, hq.2⟩
    obtain ⟨k, rfl⟩ : ∃ m, k = m + 1 := ⟨k - 1, by omega⟩
    simp only [spec_l6Rd_pick.f]
    rw [if_neg (by omega), e1, hb]
    simp only [spec_l6Rd_pick.j0, e2]
    rw [if_neg (by simp), if_pos hlt, if_pos hp, if_neg (by omega), w64 (by omega) (by omega)]
  · have m1 := tmod_range p (s.length : Int) hp (by omega)
    have e3 : wrap64 (p * 7) = p * 7 := w64 (by omega) (by omega)
    have e4 : wrap64 (p * 7 + 3) = p * 7 + 3 := w64 (by omega) (by omega)
    have m2 := tmod_range (p * 7 + 3) (s.length : Int) (by omega) (by omega)
    have d1 := tdiv_range p (s.length : Int) hp (by omega)
    have r1 := rd_byte hs (Int.tmod p (s.length : Int))
    have r2 := rd_byte hs (Int.tmod (p * 7 + 3) (s.length : Int))
    generalize ha : rd s (Int.tmod p (s.length : Int)) = a at *
    generalize hc : rd s (Int.tmod (p * 7 + 3) (s.length : Int)) = c at *
    generalize hd : Int.tdiv p (s.length : Int) = d at *
    have e5 : wrap64 (wrap64 (wrap64 (wrap64 (wrap64 a * 131) + wrap64 (wrap64 c * 1117)) + wrap64 (p * 29)) + wrap64 (wrap64 d * 53)) = a * 131 + c * 1117 + p * 29 + d * 53 := by
      rw [w64 (x := a) (by omega) (by omega), w64 (x := c) (by omega) (by omega), w64 (x := d) (by omega) (by omega), w64 (x := a * 131) (by omega) (by omega), w64 (x := c * 1117) (by omega) (by omega), w64 (x := d * 53) (by omega) (by omega), w64 (x := p * 29) (by omega) (by omega), w64 (x := a * 131 + c * 1117) (by omega) (by omega), w64 (x := a * 131 + c * 1117 + p * 29) (by omega) (by omega), w64 (by omega) (by omega)]
    generalize hx : a * 131 + c * 1117 + p * 29 + d * 53 = x at *
    have d2 := tdiv_range x 64 (by omega) (by omega)
    have e6 : wrap64 (Int.tdiv x 64) = Int.tdiv x 64 := w64 (by omega) (by omega)
    have hxor := xor_nonneg' x (Int.tdiv x 64) (by omega) (by omega) d2.1 (by omega)
    have hq := tmod_range (Go.bits .xor .i64 x (Int.tdiv x 64)) n hxor hn
    refine ⟨_, fun k hk => ?_, hq.1, hq.2⟩
    obtain ⟨k, rfl⟩ : ∃ m, k = m + 1 := ⟨k - 1, by omega⟩
    simp only [spec_l6Rd_pick.f]
    rw [if_neg (by omega), e1, hb]
    simp only [spec_l6Rd_pick.j0, e2, e3, e4, ha, hc, hd, e5, e6]
    rw [if_neg (by simp), if_neg hlt, if_neg h0, if_pos m1.1, if_pos m1.2, if_pos m2.1, if_pos m2.2, if_neg (by omega)]
theorem open_ev (l : List Int) (h : ∀ x ∈ l, (Lit.int .u8 x).wf = true) : ∃ s, spec_l6Open.f l = some (s, 0) ∧ Bytes s := by
  have hb : ∀ x ∈ l, 0 ≤ x ∧ x ≤ 255 := fun x hx => bounds_u8 (h x hx)
  unfold spec_l6Open.f
  by_cases hl : (l.length : Int) > 2000
  · rw [if_pos hl, if_pos (by omega)]
    exact ⟨_, rfl, by rw [List.length_take]; omega, fun x hx => hb x (List.mem_of_mem_take hx)⟩
  · rw [if_neg hl]
    exact ⟨_, rfl, by omega, hb⟩
def Dph : Nat → List S50 → Prop
  | 0, l => l = []
  | n + 1, l => ∀ x ∈ l, Dph n x.f0
theorem dph_nil (n : Nat) : Dph n [] := by cases n <;> simp [Dph]
theorem type_ev (s : List Int) (hs : Bytes s) : ∀ (d : Nat), d ≤ 1000 → ∀ (p : Int), 0 ≤ p → p + 2 ^ d ≤ 1099511627776 →
    ∃ r q, (∀ k, 3 * d + 4 ≤ k → spec_l71Type.f k s p d = some (r, q)) ∧ r.length ≤ 2 ∧ p ≤ q ∧ q + 1 ≤ p + 2 ^ d ∧ Dph d r := by
  intro d
  induction d with
  | zero =>
    intro hd p hp hp1
    refine ⟨[], p, fun k hk => ?_, by simp, by omega, by simp, dph_nil _⟩
    obtain ⟨k, rfl⟩ : ∃ m, k = m + 2 := ⟨k - 2, by omega⟩
    simp only [spec_l71Type.f]
    rw [if_pos (by omega)]
    simp only [spec_l71Type.j0, if_true]
  | succ d ih =>
    intro hd p hp hp1
    have hpow : (2 : Int) ^ (d + 1) = 2 ^ d + 2 ^ d := by rw [Int.pow_succ]; omega
    have hpos : (1 : Int) ≤ 2 ^ d := by have := Int.pow_pos (n := 2) (m := d) (by decide); omega
    rw [hpow] at hp1 ⊢
    generalize (2 : Int) ^ d = e at *
    by_cases h2 : (((d + 1 : Nat) : Int)) < 2
    · refine ⟨[], p, fun k hk => ?_, by simp, by omega, by omega, dph_nil _⟩
      obtain ⟨k, rfl⟩ : ∃ m, k = m + 2 := ⟨k - 2, by omega⟩
      simp only [spec_l71Type.f]
      rw [if_pos h2]
      simp only [spec_l71Type.j0, if_true]
    · obtain ⟨r, hr, hr0, hr1⟩ := pick_ev s hs p 3 hp (by omega) (by omega)
      by_cases hrp : r > 0
      · refine ⟨[], p + 1, fun k hk => ?_, by simp, by omega, by omega, dph_nil _⟩
        obtain ⟨k, rfl⟩ : ∃ m, k = m + 2 := ⟨k - 2, by omega⟩
        simp only [spec_l71Type.f]
        rw [if_neg h2, hr (k + 1) (by omega)]
        simp only [Option.bind_some, spec_l71Type.j0]
        rw [if_pos (by simpa using hrp)]
      · obtain ⟨a, q1, h1, _, hq1, hq1', da⟩ := ih (by omega) (p + 1) (by omega) (by omega)
        obtain ⟨b, q2, h3, _, hq2, hq2', db⟩ := ih (by omega) q1 (by omega) (by omega)
        have ew : wrap64 (((d + 1 : Nat) : Int) - 1) = (d : Int) := by
          rw [w64 (by omega) (by omega)]; omega
        refine ⟨[⟨a⟩, ⟨b⟩], q2, fun k hk => ?_, by simp, by omega, by omega, ?_⟩
        rotate_left
        · intro x hx
          rcases List.mem_cons.1 hx with rfl | hx
          · exact da
          · rw [List.mem_singleton.1 hx]; exact db
        · obtain ⟨k, rfl⟩ : ∃ m, k = m + 2 := ⟨k - 2, by omega⟩
          simp only [spec_l71Type.f]
          rw [if_neg h2, hr (k + 1) (by omega)]
          simp only [Option.bind_some, spec_l71Type.j0]
          rw [if_neg (by simpa using hrp), ew, h1 k (by omega)]
          simp only [Option.bind_some]
          rw [h3 k (by omega)]
          simp only [Option.bind_some]
end Go.Proofs.Ythfflieeifakdaa.Draw
end
section
namespace Go.Proofs.Ythfflieeifakdaa.PA
open Go.RowKit Go.Proofs.YthfflieeifakdaaW.PrintWords Go.Proofs.YthfflieeifakdaaW.PrintLast Go.Proofs.YthfflieeifakdaaW.PrintMore
attribute [local go_sem] max2_int min2_int max_two min_two max_three min_three max_four min_four
set_option linter.unusedVariables false
set_option linter.unusedSimpArgs false
def impl_typeFits.f : Nat → List (S50) → Int → Option (Bool)
 | 0, _, _ => none
 | k + 1, l0_0, a1 => if a1 < 1 then (some false) else (if (l0_0.length : Int) = 0 then (some true) else (if (l0_0.length : Int) = 2 then (if 0 < (l0_0.length : Int) then ((impl_typeFits.f k ((rd_T50 l0_0 0).f0) (wrap64 (a1 - 1))).bind fun t968 => (if t968 = true then (if 1 < (l0_0.length : Int) then ((impl_typeFits.f k ((rd_T50 l0_0 1).f0) (wrap64 (a1 - 1))).bind fun t970 => (some t970)) else (none)) else (some false))) else (none)) else (some false)))
theorem impl_typeFits.mono_l : ∀ k, (∀ y0 y1, LeO (impl_typeFits.f k y0 y1) (impl_typeFits.f (k + 1) y0 y1))
 | 0 => fun _ _ r h => by simp [impl_typeFits.f] at h
 | k + 1 => by
  have ih0 := impl_typeFits.mono_l k
  ·intro y0 y1
   unfold impl_typeFits.f
   repeat' first
   | (with_reducible exact ih0 _ _)
   | (with_reducible exact LeO.refl _)
   | (with_reducible exact LeO.none _)
   | (with_reducible refine LeO.ite ?_ ?_)
   | (with_reducible refine LeO.bind ?_ (fun _ => ?_))
   | exact ih0 _ _
   | exact LeO.none _
   | refine LeO.ite ?_ ?_
   | refine LeO.bind ?_ (fun _ => ?_)
theorem impl_typeFits.mono : ∀ a0 a1 k, LeO (impl_typeFits.f k a0 a1) (impl_typeFits.f (k + 1) a0 a1) := by
 intro a0 a1 k
 have ih0 := impl_typeFits.mono_l k
 exact ih0 a0 a1
set_option maxHeartbeats 8000000 in
set_option maxRecDepth 100000 in
theorem impl_typeFits.calls (k : Nat) : ∀ (A0_0 : Option Addr) (c0_0 : Nat) (l0_0 : List (S50)) (a1 : Int) (r : Bool) (w : World) (hr0_0 : Kd.C k50 w A0_0 l0_0.length l0_0) (hc0_0 : l0_0.length ≤ c0_0) (h : impl_typeFits.f k l0_0 a1 = some r),
  Calls Try.prog 59 #[.agg #[.slice A0_0 l0_0.length c0_0], .int .i64 a1] w fun e w' => e = .returned (.bool r) ∧ Below w.heap.size w w' := by
 induction k using Nat.strongRecOn with
 | _ k ih =>
 intro A0_0 c0_0 l0_0 a1 r w hr0_0 hc0_0 h
 cases k with
 | zero => exact absurd h (by simp [impl_typeFits.f])
 | succ k =>
 simp only [impl_typeFits.f] at h
 have hu50 := Try.underlying50
 have HR0_0 := Aside0.mk hr0_0
 have HC0_0 := Aside0.mk hc0_0
 clear hr0_0 hc0_0
 have HB := Aside0.mk (Below.refl w.heap.size w)
 have H : (if a1 < 1 then (some false) else (if (l0_0.length : Int) = 0 then (some true) else (if (l0_0.length : Int) = 2 then (if 0 < (l0_0.length : Int) then ((impl_typeFits.f k ((rd_T50 l0_0 0).f0) (wrap64 (a1 - 1))).bind fun t968 => (if t968 = true then (if 1 < (l0_0.length : Int) then ((impl_typeFits.f k ((rd_T50 l0_0 1).f0) (wrap64 (a1 - 1))).bind fun t970 => (some t970)) else (none)) else (some false))) else (none)) else (some false)))) = some r := h
 clear h
 by_cases c3 : a1 < 1
 ·rw [if_pos c3] at H
  have c3b0 : decide (a1 < 1) = true := decide_eq_true c3
  clear c3
  obtain rfl := Option.some.inj H
  go_enter Try.func59, Try.ntmps59
  go_wp2_with (first | ((with_reducible refine gate_dst (N := 2) rfl ?_); refine zbx 2 #[.slice A0_0 l0_0.length c0_0] 50 ?_; intro gb966 hg w4 hbox hb; have BK966 := Aside0.mk hbox; have GW966 := Aside0.mk ((y9 hg HB.out : w.heap.size ≤ gb966)); have GE966 := Aside0.mk ((y9 hg HB.out : w.heap.size ≤ gb966)); replace HB := Aside0.mk (below_step (y5 HB.out) hb); clear hb hbox hg))
  go_ret
  exact ⟨y19, (y6 HB.out GE966.out)⟩
 ·rw [if_neg c3] at H
  have c3b0 : decide (a1 < 1) = false := decide_eq_false c3
  clear c3
  by_cases c5 : (l0_0.length : Int) = 0
  ·rw [if_pos c5] at H
   have c5b0 : ((l0_0.length : Int) == 0) = true := beq_iff_eq.mpr c5
   have c5b1 : ((l0_0.length : Int) != 0) = false := bne_eq_false_iff_eq.mpr c5
   clear c5
   obtain rfl := Option.some.inj H
   go_enter Try.func59, Try.ntmps59
   go_wp2_with (first | ((with_reducible refine gate_dst (N := 2) rfl ?_); refine zbx 2 #[.slice A0_0 l0_0.length c0_0] 50 ?_; intro gb966 hg w6 hbox hb; have BK966 := Aside0.mk hbox; have GW966 := Aside0.mk ((y9 hg HB.out : w.heap.size ≤ gb966)); have GE966 := Aside0.mk ((y9 hg HB.out : w.heap.size ≤ gb966)); replace HB := Aside0.mk (below_step (y5 HB.out) hb); clear hb hbox hg; have hcz7_0 := zh BK966; have hfz7_0 := zfr BK966 0))
   go_ret
   exact ⟨y19, (y6 HB.out GE966.out)⟩
  ·rw [if_neg c5] at H
   have c5b0 : ((l0_0.length : Int) == 0) = false := beq_eq_false_iff_ne.mpr c5
   have c5b1 : ((l0_0.length : Int) != 0) = true := bne_iff_ne.mpr c5
   have c5b2 : ¬ (l0_0 = []) := fun h_ => c5 (by rw [h_]; rfl)
   by_cases c8 : (l0_0.length : Int) = 2
   ·rw [if_pos c8] at H
    have c8b0 : ((l0_0.length : Int) == 2) = true := beq_iff_eq.mpr c8
    have c8b1 : ((l0_0.length : Int) != 2) = false := bne_eq_false_iff_eq.mpr c8
    clear c8
    by_cases c9 : 0 < (l0_0.length : Int)
    ·rw [if_pos c9] at H
     have c9b0 : decide (0 < (l0_0.length : Int)) = true := decide_eq_true c9
     have c9b1 : decide (0 < l0_0.length) = true := decide_eq_true (by omega)
     clear c9
     obtain ⟨t968, A100, H⟩ := ob H
     have A10 := Aside0.mk A100
     clear A100
     by_cases c11 : t968 = true
     ·subst c11
      rw [if_pos rfl] at H
      by_cases c12 : 1 < (l0_0.length : Int)
      ·rw [if_pos c12] at H
       have c12b0 : decide (1 < (l0_0.length : Int)) = true := decide_eq_true c12
       have c12b1 : decide (1 < l0_0.length) = true := decide_eq_true (by omega)
       clear c12
       obtain ⟨t970, A130, H⟩ := ob H
       have A13 := Aside0.mk A130
       clear A130
       obtain rfl := Option.some.inj H
       go_enter Try.func59, Try.ntmps59
       go_wp2_with (first | ((with_reducible refine gate_dst (N := 2) rfl ?_); refine zbx 2 #[.slice A0_0 l0_0.length c0_0] 50 ?_; intro gb966 hg w14 hbox hb; have BK966 := Aside0.mk hbox; have GW966 := Aside0.mk ((y9 hg HB.out : w.heap.size ≤ gb966)); have GE966 := Aside0.mk ((y9 hg HB.out : w.heap.size ≤ gb966)); replace HB := Aside0.mk (below_step (y5 HB.out) hb); clear hb hbox hg; have hcz15_0 := zh BK966; have hfz15_0 := zfr BK966 0; have p967 : 0 ≤ (0 : Int) := (by omega); have q967 : 0 < (l0_0.length : Int) := of_decide_eq_true y23; obtain ⟨ad967, A967_0, c967_0, e967, hx967_0, hl967_0, hi967_0⟩ := at_T50 HR0_0.out 0 p967 q967; cases e967; have qi967 : (0 < l0_0.length) = True := eq_true (by omega); (try rw [show ((0 : Int)).toNat = 0 from rfl] at hx967_0); (try rw [Addr.add_zero'] at hx967_0); replace hx967_0 := (HB.out.cell (World.block_lt_of_cell? w _ hx967_0)).trans hx967_0; have HR967_0 := Aside0.mk hi967_0; have HC967_0 := Aside0.mk hl967_0; clear hi967_0 hl967_0; replace p967 := eq_true p967; replace q967 := eq_true q967) | (go_at_call 59; (with_reducible refine (ih k (by omega) _ _ ((rd_T50 l0_0 0).f0) (wrap64 (a1 - 1)) true _ ?side1 ?side2 A10.out).mono ?_); (case side1 => exact y15 HR967_0.out HB.out); (case side2 => exact HC967_0.out); rintro e w16 ⟨rfl, hb⟩; replace BK966 := zbb BK966 hb; replace HB := Aside0.mk (below_step (y6 HB.out GE966.out) hb); (try clear hb); (try clear hb2); (try clear hk); (try clear hi); have hcz17_0 := zh BK966; have hfz17_0 := zfr BK966 0; have p969 : 0 ≤ (1 : Int) := (by omega); have q969 : 1 < (l0_0.length : Int) := of_decide_eq_true y23; obtain ⟨ad969, A969_0, c969_0, e969, hx969_0, hl969_0, hi969_0⟩ := at_T50 HR0_0.out 1 p969 q969; obtain rfl : ad967 = ad969 := (by injection e969); (try simp only [show (1 : Int).toNat = 1 from rfl, Nat.reduceMul, Nat.reduceEqDiff, Go.Addr.add, ↓reduceIte] at hx969_0); have qi969 : (1 < l0_0.length) = True := eq_true (by omega); (try rw [show ((1 : Int)).toNat = 1 from rfl] at hx969_0); replace hx969_0 := (HB.out.cell (World.block_lt_of_cell? w _ hx969_0)).trans hx969_0; have HR969_0 := Aside0.mk hi969_0; have HC969_0 := Aside0.mk hl969_0; clear hi969_0 hl969_0; replace p969 := eq_true p969; replace q969 := eq_true q969) | (go_at_call 59; (with_reducible refine (ih k (by omega) _ _ ((rd_T50 l0_0 1).f0) (wrap64 (a1 - 1)) t970 _ ?side1 ?side2 A13.out).mono ?_); (case side1 => exact y15 HR969_0.out HB.out); (case side2 => exact HC969_0.out); rintro e w18 ⟨rfl, hb⟩; replace BK966 := zbb BK966 hb; replace HB := Aside0.mk (below_step (y6 HB.out GE966.out) hb); (try clear hb); (try clear hb2); (try clear hk); (try clear hi)))
       go_ret
       exact ⟨y19, (y6 HB.out GE966.out)⟩
      ·rw [if_neg c12] at H
       exact absurd H (by simp)
     ·replace c11 := Bool.eq_false_iff.mpr c11
      subst c11
      rw [if_neg (show ¬ (false = true) by decide)] at H
      obtain rfl := Option.some.inj H
      go_enter Try.func59, Try.ntmps59
      go_wp2_with (first | ((with_reducible refine gate_dst (N := 2) rfl ?_); refine zbx 2 #[.slice A0_0 l0_0.length c0_0] 50 ?_; intro gb966 hg w19 hbox hb; have BK966 := Aside0.mk hbox; have GW966 := Aside0.mk ((y9 hg HB.out : w.heap.size ≤ gb966)); have GE966 := Aside0.mk ((y9 hg HB.out : w.heap.size ≤ gb966)); replace HB := Aside0.mk (below_step (y5 HB.out) hb); clear hb hbox hg; have hcz20_0 := zh BK966; have hfz20_0 := zfr BK966 0; have p967 : 0 ≤ (0 : Int) := (by omega); have q967 : 0 < (l0_0.length : Int) := of_decide_eq_true y23; obtain ⟨ad967, A967_0, c967_0, e967, hx967_0, hl967_0, hi967_0⟩ := at_T50 HR0_0.out 0 p967 q967; cases e967; have qi967 : (0 < l0_0.length) = True := eq_true (by omega); (try rw [show ((0 : Int)).toNat = 0 from rfl] at hx967_0); (try rw [Addr.add_zero'] at hx967_0); replace hx967_0 := (HB.out.cell (World.block_lt_of_cell? w _ hx967_0)).trans hx967_0; have HR967_0 := Aside0.mk hi967_0; have HC967_0 := Aside0.mk hl967_0; clear hi967_0 hl967_0; replace p967 := eq_true p967; replace q967 := eq_true q967) | (go_at_call 59; (with_reducible refine (ih k (by omega) _ _ ((rd_T50 l0_0 0).f0) (wrap64 (a1 - 1)) false _ ?side1 ?side2 A10.out).mono ?_); (case side1 => exact y15 HR967_0.out HB.out); (case side2 => exact HC967_0.out); rintro e w21 ⟨rfl, hb⟩; replace BK966 := zbb BK966 hb; replace HB := Aside0.mk (below_step (y6 HB.out GE966.out) hb); (try clear hb); (try clear hb2); (try clear hk); (try clear hi)))
      go_ret
      exact ⟨y19, (y6 HB.out GE966.out)⟩
    ·rw [if_neg c9] at H
     exact absurd H (by simp)
   ·rw [if_neg c8] at H
    have c8b0 : ((l0_0.length : Int) == 2) = false := beq_eq_false_iff_ne.mpr c8
    have c8b1 : ((l0_0.length : Int) != 2) = true := bne_iff_ne.mpr c8
    obtain rfl := Option.some.inj H
    go_enter Try.func59, Try.ntmps59
    go_wp2_with (first | ((with_reducible refine gate_dst (N := 2) rfl ?_); refine zbx 2 #[.slice A0_0 l0_0.length c0_0] 50 ?_; intro gb966 hg w22 hbox hb; have BK966 := Aside0.mk hbox; have GW966 := Aside0.mk ((y9 hg HB.out : w.heap.size ≤ gb966)); have GE966 := Aside0.mk ((y9 hg HB.out : w.heap.size ≤ gb966)); replace HB := Aside0.mk (below_step (y5 HB.out) hb); clear hb hbox hg; have hcz23_0 := zh BK966; have hfz23_0 := zfr BK966 0))
    go_ret
    exact ⟨y19, (y6 HB.out GE966.out)⟩
end Go.Proofs.Ythfflieeifakdaa.PA
end
section
namespace Go.Proofs.Ythfflieeifakdaa.PA
open Go.RowKit Go.Proofs.YthfflieeifakdaaW.PrintWords Go.Proofs.YthfflieeifakdaaW.PrintLast Go.Proofs.YthfflieeifakdaaW.PrintMore
attribute [local go_sem] max2_int min2_int max_two min_two max_three min_three max_four min_four
set_option linter.unusedVariables false
set_option linter.unusedSimpArgs false
def impl_TypeOk.f (k : Nat) (l0_0 : List (S50)) : Option (Bool) := (impl_typeFits.f k l0_0 4).bind fun t972 => (some t972)
theorem impl_TypeOk.mono : ∀ a0 k, LeO (impl_TypeOk.f k a0) (impl_TypeOk.f (k + 1) a0) := by
 intro a0 k
 unfold impl_TypeOk.f
 repeat' first
   | (with_reducible exact impl_typeFits.mono _ _ _)
   | (with_reducible exact LeO.refl _)
   | (with_reducible exact LeO.none _)
   | (with_reducible refine LeO.ite ?_ ?_)
   | (with_reducible refine LeO.bind ?_ (fun _ => ?_))
   | exact impl_typeFits.mono _ _ _
   | exact LeO.none _
   | refine LeO.ite ?_ ?_
   | refine LeO.bind ?_ (fun _ => ?_)
set_option maxHeartbeats 8000000 in
set_option maxRecDepth 100000 in
theorem impl_TypeOk.calls (k : Nat) (A0_0 : Option Addr) (c0_0 : Nat) (l0_0 : List (S50)) (r : Bool) (w : World) (hr0_0 : Kd.C k50 w A0_0 l0_0.length l0_0) (hc0_0 : l0_0.length ≤ c0_0) (h : impl_TypeOk.f k l0_0 = some r) :
  Calls Try.prog 52 #[.agg #[.slice A0_0 l0_0.length c0_0]] w fun e w' => e = .returned (.bool r) ∧ Below w.heap.size w w' := by
 have hu50 := Try.underlying50
 have HR0_0 := Aside0.mk hr0_0
 have HC0_0 := Aside0.mk hc0_0
 clear hr0_0 hc0_0
 have HB := Aside0.mk (Below.refl w.heap.size w)
 have H : ((impl_typeFits.f k l0_0 4).bind fun t972 => (some t972)) = some r := h
 clear h
 obtain ⟨t972, A20, H⟩ := ob H
 have A2 := Aside0.mk A20
 clear A20
 obtain rfl := Option.some.inj H
 go_enter Try.func52, Try.ntmps52
 go_wp2_with (first | ((with_reducible refine gate_dst (N := 1) rfl ?_); refine zbx 1 #[.slice A0_0 l0_0.length c0_0] 50 ?_; intro gb971 hg w3 hbox hb; have BK971 := Aside0.mk hbox; have GW971 := Aside0.mk ((y9 hg HB.out : w.heap.size ≤ gb971)); have GE971 := Aside0.mk ((y9 hg HB.out : w.heap.size ≤ gb971)); replace HB := Aside0.mk (below_step (y5 HB.out) hb); clear hb hbox hg; have hcz4_0 := zh BK971; have hfz4_0 := zfr BK971 0) | ((with_reducible refine gate_callee (f := 59) rfl ?_); refine goesL_ (some 4) rfl rfl Try.func59 (by kernel_rfl) rfl #[.agg #[.slice A0_0 l0_0.length c0_0], .int .i64 4] rfl y8 ?_; (with_reducible refine (impl_typeFits.calls k _ _ l0_0 4 t972 _ ?side1 ?side2 A2.out).mono ?_); (case side1 => exact y15 HR0_0.out HB.out); (case side2 => exact HC0_0.out); rintro e w5 ⟨rfl, hb⟩; refine ⟨_, rfl, ?_⟩; replace BK971 := zbb BK971 hb; replace HB := Aside0.mk (below_step (y6 HB.out GE971.out) hb); (try clear hb); (try clear hb2); (try clear hk); (try clear hi)))
 go_ret
 exact ⟨y19, (y6 HB.out GE971.out)⟩
end Go.Proofs.Ythfflieeifakdaa.PA
end
section
namespace Go.Proofs.Ythfflieeifakdaa.Types
open Go.RowKit Go.Proofs.Ythfflieeifakdaa.PA Go.Proofs.YthfflieeifakdaaW.PrintWords Go.Proofs.YthfflieeifakdaaW.PrintLast Go.Proofs.Ythfflieeifakdaa.Draw
abbrev Ty := List S50
theorem rd0 (a : S50) (l : Ty) : rd_T50 (a :: l) 0 = a := rfl
theorem rd1 (a b : S50) (l : Ty) : rd_T50 (a :: b :: l) 1 = b := rfl
def dp : Nat → Ty → Bool
  | 0, _ => false
  | _ + 1, [] => true
  | n + 1, [a, b] => dp n a.f0 && dp n b.f0
  | _ + 1, _ => false
theorem dp_nil (n : Nat) : dp (n + 1) [] = true := rfl
theorem dp_two (n : Nat) (a b : S50) : dp (n + 1) [a, b] = (dp n a.f0 && dp n b.f0) := rfl
theorem dp_odd (n : Nat) (l : Ty) (h0 : l.length ≠ 0) (h2 : l.length ≠ 2) : dp n l = false := by
  cases n with
  | zero => rfl
  | succ n =>
    match l with
    | [] => simp at h0
    | [_] => rfl
    | [_, _] => simp at h2
    | _ :: _ :: _ :: _ => rfl
theorem two_of {l : Ty} (h : l.length = 2) : ∃ a b, l = [a, b] := by
  match l with
  | [a, b] => exact ⟨a, b, rfl⟩
theorem shape (l : Ty) : l = [] ∨ (∃ a b, l = [a, b]) ∨ (l.length ≠ 0 ∧ l.length ≠ 2) := by
  match l with
  | [] => exact .inl rfl
  | [_] => exact .inr (.inr ⟨by simp, by simp⟩)
  | [a, b] => exact .inr (.inl ⟨a, b, rfl⟩)
  | _ :: _ :: _ :: _ => exact .inr (.inr ⟨by simp, by simp⟩)
theorem pred_cast (n : Nat) (hn : n ≤ 1000) : wrap64 (((n + 1 : Nat) : Int) - 1) = (n : Int) := by rw [w64 (by omega) (by omega)]; omega
theorem deep_ev : ∀ (n : Nat), n ≤ 1000 → ∀ (l : Ty) (k : Nat), 5 * n + 3 ≤ k → spec_l1Deep.f k l n = some (dp n l) := by
  intro n
  induction n with
  | zero =>
    intro _ l k hk
    obtain ⟨k, rfl⟩ : ∃ m, k = m + 2 := ⟨k - 2, by omega⟩
    simp only [spec_l1Deep.f]
    rw [if_pos (by omega)]
    simp only [spec_l1Deep.j0, if_true]
    rfl
  | succ n ih =>
    intro hn l k hk
    obtain ⟨k, rfl⟩ : ∃ m, k = m + 5 := ⟨k - 5, by omega⟩
    have hp := pred_cast n (by omega)
    simp only [spec_l1Deep.f]
    rw [if_neg (by omega)]
    rcases shape l with rfl | ⟨a, b, rfl⟩ | ⟨h0, h2⟩
    · rw [if_pos (by simp)]
      simp only [spec_l1Deep.j0, spec_l1Deep.l0]
      rw [if_neg (by simp), if_neg (by simp)]
      rfl
    · rw [if_neg (by simp)]
      simp only [spec_l1Deep.j0]
      rw [if_neg (by simp)]
      simp only [spec_l1Deep.l0, hp, w01, w12]
      rw [if_pos (by simp), if_pos (by omega), rd0, ih (by omega) _ _ (by omega), dp_two]
      simp only [Option.bind_some]
      cases ha : dp n a.f0 with
      | false => simp
      | true =>
        rw [if_pos rfl, if_pos (by simp), if_pos (by omega), rd1, ih (by omega) _ _ (by omega)]
        simp only [Option.bind_some]
        cases hb : dp n b.f0 with
        | false => simp
        | true => rw [if_pos rfl, if_neg (by simp)]; rfl
    · rw [if_neg (by omega), dp_odd _ _ h0 h2]
      simp only [spec_l1Deep.j0]
      rw [if_pos (by simp; omega)]
theorem specOk_ev (l : Ty) (k : Nat) (hk : 23 ≤ k) : spec_TypeOk.f k l = some (dp 4 l) := by
  unfold spec_TypeOk.f
  rw [show (4 : Int) = ((4 : Nat) : Int) from rfl, deep_ev 4 (by omega) l k (by omega)]; rfl
theorem fits_ev : ∀ (n : Nat), n ≤ 1000 → ∀ (l : Ty) (k : Nat), n + 1 ≤ k → impl_typeFits.f k l n = some (dp n l) := by
  intro n
  induction n with
  | zero =>
    intro _ l k hk
    obtain ⟨k, rfl⟩ : ∃ m, k = m + 1 := ⟨k - 1, by omega⟩
    simp only [impl_typeFits.f]
    rw [if_pos (by omega)]; rfl
  | succ n ih =>
    intro hn l k hk
    obtain ⟨k, rfl⟩ : ∃ m, k = m + 1 := ⟨k - 1, by omega⟩
    have hp := pred_cast n (by omega)
    simp only [impl_typeFits.f]
    rw [if_neg (by omega)]
    rcases shape l with rfl | ⟨a, b, rfl⟩ | ⟨h0, h2⟩
    · rw [if_pos (by simp)]; rfl
    · rw [if_neg (by simp), if_pos (by simp), if_pos (by simp), hp, rd0, ih (by omega) _ _ (by omega), dp_two]
      simp only [Option.bind_some]
      cases ha : dp n a.f0 with
      | false => simp
      | true => rw [if_pos rfl, if_pos (by simp), rd1, ih (by omega) _ _ (by omega)]; simp
    · rw [if_neg (by omega), if_neg (by omega), dp_odd _ _ h0 h2]
theorem implOk_ev (l : Ty) (k : Nat) (hk : 5 ≤ k) : impl_TypeOk.f k l = some (dp 4 l) := by
  unfold impl_TypeOk.f
  rw [show (4 : Int) = ((4 : Nat) : Int) from rfl, fits_ev 4 (by omega) l k (by omega)]; rfl
def tx : Nat → Ty → ByteArray
  | n + 1, [a, b] => ((((⟨#[40]⟩ : ByteArray) ++ tx n a.f0) ++ (⟨#[44]⟩ : ByteArray)) ++ tx n b.f0) ++ (⟨#[41]⟩ : ByteArray)
  | _, _ => ⟨#[105]⟩
theorem tx_two (n : Nat) (a b : S50) : tx (n + 1) [a, b] = ((((⟨#[40]⟩ : ByteArray) ++ tx n a.f0) ++ (⟨#[44]⟩ : ByteArray)) ++ tx n b.f0) ++ (⟨#[41]⟩ : ByteArray) := rfl
theorem tx_nil (n : Nat) : tx n [] = ⟨#[105]⟩ := by cases n <;> rfl
theorem tx_size (n : Nat) : ∀ l, (tx n l).size + 3 ≤ 4 * 2 ^ n := by
  induction n with
  | zero => intro l; simp [tx]; decide
  | succ n ih =>
    intro l
    have hp : 1 ≤ 2 ^ n := Nat.one_le_two_pow
    have h1 : (⟨#[105]⟩ : ByteArray).size = 1 := rfl
    rw [Nat.pow_succ]
    match l with
    | [a, b] =>
      have ha := ih a.f0
      have hb := ih b.f0
      rw [tx_two]
      simp only [ByteArray.size_append, show (⟨#[40]⟩ : ByteArray).size = 1 from rfl, show (⟨#[44]⟩ : ByteArray).size = 1 from rfl, show (⟨#[41]⟩ : ByteArray).size = 1 from rfl]
      omega
    | [] => show (⟨#[105]⟩ : ByteArray).size + 3 ≤ _; omega
    | [_] => show (⟨#[105]⟩ : ByteArray).size + 3 ≤ _; omega
    | _ :: _ :: _ :: _ => show (⟨#[105]⟩ : ByteArray).size + 3 ≤ _; omega
def text (l : Ty) : ByteArray := if dp 4 l = true then tx 4 l else ⟨#[]⟩
def teq : Nat → Ty → Ty → Bool
  | _ + 1, [], [] => true
  | n + 1, [a, b], [c, d] => teq n a.f0 c.f0 && teq n b.f0 d.f0
  | _, _, _ => false
theorem teq_eq : ∀ (n : Nat) (a b : Ty), teq n a b = true → a = b := by
  intro n
  induction n with
  | zero => intro a b h; simp [teq] at h
  | succ n ih =>
    intro a b h
    unfold teq at h
    split at h
    · rfl
    · rename_i m x y z u he
      cases he
      rw [Bool.and_eq_true] at h
      have h1 := ih _ _ h.1
      have h2 := ih _ _ h.2
      cases x; cases y; cases z; cases u
      simp_all
    · cases h
theorem teq_refl : ∀ (n : Nat) (a : Ty), dp n a = true → teq n a a = true := by
  intro n
  induction n with
  | zero => intro a h; simp [dp] at h
  | succ n ih =>
    intro a h
    rcases shape a with rfl | ⟨a1, a2, rfl⟩ | ⟨h0, h2⟩
    · rfl
    · rw [dp_two, Bool.and_eq_true] at h
      show (teq n a1.f0 a1.f0 && teq n a2.f0 a2.f0) = true
      rw [ih _ h.1, ih _ h.2]; rfl
    · rw [dp_odd _ _ h0 h2] at h; cases h
theorem toList_app (a b : ByteArray) : (a ++ b).toList = a.toList ++ b.toList := by
  rw [ByteArray.toList_eq, ByteArray.toList_eq, ByteArray.toList_eq]; simp
theorem lit_toList (c : UInt8) : (⟨#[c]⟩ : ByteArray).toList = [c] := by rw [ByteArray.toList_eq]
theorem tx_inj : ∀ (n : Nat) (a b : Ty) (r s : List UInt8), dp n a = true → dp n b = true → (tx n a).toList ++ r = (tx n b).toList ++ s → teq n a b = true ∧ r = s := by
  intro n
  induction n with
  | zero => intro a b r s h; simp [dp] at h
  | succ n ih =>
    intro a b r s ha hb h
    rcases shape a with rfl | ⟨a1, a2, rfl⟩ | ⟨h0, h2⟩
    · rcases shape b with rfl | ⟨b1, b2, rfl⟩ | ⟨h0, h2⟩
      · rw [tx_nil] at h
        exact ⟨rfl, List.append_cancel_left h⟩
      · rw [tx_nil, tx_two] at h
        simp only [toList_app, lit_toList, List.cons_append, List.nil_append, List.append_assoc] at h
        injection h with h1 _
        exact absurd h1 (by decide)
      · rw [dp_odd _ _ h0 h2] at hb; cases hb
    · rcases shape b with rfl | ⟨b1, b2, rfl⟩ | ⟨h0, h2⟩
      · rw [tx_nil, tx_two] at h
        simp only [toList_app, lit_toList, List.cons_append, List.nil_append, List.append_assoc] at h
        injection h with h1 _
        exact absurd h1 (by decide)
      · rw [dp_two, Bool.and_eq_true] at ha hb
        rw [tx_two, tx_two] at h
        simp only [toList_app, lit_toList, List.cons_append, List.nil_append, List.append_assoc] at h
        injection h with _ h
        obtain ⟨e1, h⟩ := ih _ _ _ _ ha.1 hb.1 h
        injection h with _ h
        obtain ⟨e2, h⟩ := ih _ _ _ _ ha.2 hb.2 h
        injection h with _ h
        refine ⟨?_, h⟩
        show (teq n a1.f0 b1.f0 && teq n a2.f0 b2.f0) = true
        rw [e1, e2]; rfl
      · rw [dp_odd _ _ h0 h2] at hb; cases hb
    · rw [dp_odd _ _ h0 h2] at ha; cases ha
theorem text_teq (a b : Ty) (ha : dp 4 a = true) (hb : dp 4 b = true) : ((text a).toList == (text b).toList) = teq 4 a b := by
  unfold text
  rw [if_pos ha, if_pos hb]
  by_cases h : (tx 4 a).toList = (tx 4 b).toList
  · rw [beq_iff_eq.2 h, (tx_inj 4 a b [] [] ha hb (by simpa using h)).1]
  · cases e : teq 4 a b with
    | false => exact beq_eq_false_iff_ne.2 h
    | true => exact absurd (by rw [teq_eq _ _ _ e]) h
theorem tx_pos (n : Nat) (l : Ty) : 0 < (tx n l).size := by
  unfold tx
  split
  · simp only [ByteArray.size_append, show (⟨#[40]⟩ : ByteArray).size = 1 from rfl]; omega
  · decide
theorem dph_mono : ∀ (n : Nat) (l : Ty), Dph n l → Dph (n + 1) l := by
  intro n
  induction n with
  | zero => intro l h; rw [show l = [] from h]; exact dph_nil _
  | succ n ih => intro l h x hx; exact ih _ (h x hx)
theorem dph_le (n m : Nat) (h : n ≤ m) (l : Ty) (hd : Dph n l) : Dph m l := by
  induction m with
  | zero => obtain rfl : n = 0 := by omega
            exact hd
  | succ m ih =>
    by_cases e : n = m + 1
    · subst e; exact hd
    · exact dph_mono _ _ (ih (by omega))
end Go.Proofs.Ythfflieeifakdaa.Types
end
section
namespace Go.Proofs.Ythfflieeifakdaa.PA
open Go.RowKit Go.Proofs.YthfflieeifakdaaW.PrintWords Go.Proofs.YthfflieeifakdaaW.PrintLast Go.Proofs.YthfflieeifakdaaW.PrintMore
attribute [local go_sem] max2_int min2_int max_two min_two max_three min_three max_four min_four
set_option linter.unusedVariables false
set_option linter.unusedSimpArgs false
mutual
def spec_l1Copy.l0 : Nat → Int → List (S50) → List (S50) → Option ((List (S50)))
 | 0, _, _, _ => none
 | k + 1, x4, x575000, x577000 => if x4 < (x575000.length : Int) then (if 0 ≤ x4 then ((spec_l1Copy.f k ((rd_T50 x575000 x4).f0)).bind fun t578 => (if x577000.length < 5864062014805 then (spec_l1Copy.l0 k (wrap64 (x4 + 1)) x575000 (x577000 ++ [(⟨t578⟩ : S50)])) else (none))) else (none)) else (some x577000)
def spec_l1Copy.f : Nat → List (S50) → Option ((List (S50)))
 | 0, _ => none
 | k + 1, l0_0 => spec_l1Copy.l0 k 0 l0_0 ([] : List (S50))
end
theorem spec_l1Copy.mono_l : ∀ k, (∀ y0, LeO (spec_l1Copy.f k y0) (spec_l1Copy.f (k + 1) y0)) ∧ (∀ y0 y1 y2, LeO (spec_l1Copy.l0 k y0 y1 y2) (spec_l1Copy.l0 (k + 1) y0 y1 y2))
 | 0 => ⟨fun _ r h => by simp [spec_l1Copy.f] at h, fun _ _ _ r h => by simp [spec_l1Copy.l0] at h⟩
 | k + 1 => by
  obtain ⟨ih0, ih1⟩ := spec_l1Copy.mono_l k
  refine ⟨?_, ?_⟩
  ·intro y0
   unfold spec_l1Copy.f
   repeat' first
   | (with_reducible exact ih0 _)
   | (with_reducible exact ih1 _ _ _)
   | (with_reducible exact LeO.refl _)
   | (with_reducible exact LeO.none _)
   | (with_reducible refine LeO.ite ?_ ?_)
   | (with_reducible refine LeO.bind ?_ (fun _ => ?_))
   | exact ih0 _
   | exact ih1 _ _ _
   | exact LeO.none _
   | refine LeO.ite ?_ ?_
   | refine LeO.bind ?_ (fun _ => ?_)
  ·intro y0 y1 y2
   unfold spec_l1Copy.l0
   repeat' first
   | (with_reducible exact ih0 _)
   | (with_reducible exact ih1 _ _ _)
   | (with_reducible exact LeO.refl _)
   | (with_reducible exact LeO.none _)
   | (with_reducible refine LeO.ite ?_ ?_)
   | (with_reducible refine LeO.bind ?_ (fun _ => ?_))
   | exact ih0 _
   | exact ih1 _ _ _
   | exact LeO.none _
   | refine LeO.ite ?_ ?_
   | refine LeO.bind ?_ (fun _ => ?_)
theorem spec_l1Copy.mono : ∀ a0 k, LeO (spec_l1Copy.f k a0) (spec_l1Copy.f (k + 1) a0) := by
 intro a0 k
 obtain ⟨ih0, ih1⟩ := spec_l1Copy.mono_l k
 exact ih0 a0
def spec_l1Copy.T5 : Bool × List (List Nat × List Nat) := (true, [([], []), ([0], [0]), ([], []), ([2], [2]), ([], []), ([3, 4], [3, 4]), ([5], [5]), ([6], [6]), ([7], [7]), ([1, 8, 7], [1, 8]), ([0, 1, 2, 3, 4, 5, 6, 7, 8, 9], []), ([10, 9, 9, 0, 1, 2, 3, 4, 5, 6, 7, 8, 9], [9, 10])])
def spec_l1Copy.B5 : List Nat := [0, 1, 0, 4, 0, 28, 60, 124, 252, 511, 1023, 2047]
theorem spec_l1Copy.tab5 : rtab .any (opsOf Try.f58 5) = spec_l1Copy.T5 := by kernel_rfl
theorem spec_l1Copy.bits5 : waitsOk spec_l1Copy.T5.2 spec_l1Copy.B5 = true := by kernel_rfl
set_option maxHeartbeats 8000000 in
set_option maxRecDepth 100000 in
theorem spec_l1Copy.calls (k : Nat) : ∀ (A0_0 : Option Addr) (c0_0 : Nat) (l0_0 : List (S50)) (r : List (S50)) (w : World) (hr0_0 : Kd.C k50 w A0_0 l0_0.length l0_0) (hc0_0 : l0_0.length ≤ c0_0) (h : spec_l1Copy.f k l0_0 = some r),
  Calls Try.prog 58 #[.agg #[.slice A0_0 l0_0.length c0_0]] w fun e w' => ∃ v0_ : Value, e = .returned (.agg #[v0_]) ∧ Kd.R k50 50 w' w.heap.size (fun _ => True) v0_ r ∧ Below w.heap.size w w' := by
 induction k using Nat.strongRecOn with
 | _ k ih =>
 intro A0_0 c0_0 l0_0 r w hr0_0 hc0_0 h
 cases k with
 | zero => exact absurd h (by simp [spec_l1Copy.f])
 | succ k =>
 simp only [spec_l1Copy.f] at h
 have hu50 := Try.underlying50
 have HR0_0 := Aside0.mk hr0_0
 have HC0_0 := Aside0.mk hc0_0
 clear hr0_0 hc0_0
 have HB := Aside0.mk (Below.refl w.heap.size w)
 have H : (spec_l1Copy.l0 k 0 l0_0 ([] : List (S50))) = some r := h
 clear h
 have H' := Aside0.mk H
 clear H
 go_enter Try.func58, Try.ntmps58
 go_wp2_with (first | ((with_reducible refine gate_dst (N := 1) rfl ?_); refine zbx 1 #[.slice A0_0 l0_0.length c0_0] 50 ?_; intro gb574 hg w2 hbox hb; have BK574 := Aside0.mk hbox; have GW574 := Aside0.mk ((y9 hg HB.out : w.heap.size ≤ gb574)); have GE574 := Aside0.mk ((y9 hg HB.out : w.heap.size ≤ gb574)); replace HB := Aside0.mk (below_step (y5 HB.out) hb); clear hb hbox hg) | ((with_reducible refine gate_dst (N := 2) rfl ?_); refine zbx 2 #[.slice none 0 0] 50 ?_; intro gb575 hg w3 hbox hb; have BK575 := Aside0.mk hbox; have GW575 := Aside0.mk ((y11 hg HB.out GE574.out : w.heap.size ≤ gb575)); have GE575 := Aside0.mk ((y11 hg HB.out GE574.out : w.heap.size ≤ gb575)); replace HB := Aside0.mk (below_step (y6 HB.out GE574.out) hb); have NB574_575 := zltn hg BK574; have NB575_574 := zgtn hg BK574; replace BK574 := zbb BK574 hb; clear hb hbox hg) | ((with_reducible refine gate_dst (N := 3) rfl ?_); refine zbx 3 #[.slice none 0 0] 50 ?_; intro gb576 hg w4 hbox hb; have BK576 := Aside0.mk hbox; have GW576 := Aside0.mk ((y16 hg HB.out GE574.out GE575.out : w.heap.size ≤ gb576)); have GE576 := Aside0.mk ((y16 hg HB.out GE574.out GE575.out : w.heap.size ≤ gb576)); replace HB := Aside0.mk (below_step (y2 HB.out GE574.out GE575.out) hb); have NB574_576 := zltn hg BK574; have NB576_574 := zgtn hg BK574; replace BK574 := zbb BK574 hb; have NB575_576 := zltn hg BK575; have NB576_575 := zgtn hg BK575; replace BK575 := zbb BK575 hb; clear hb hbox hg; have hnb5 := NB576_574.out; have hnc5 := NB574_576.out; have hnb6 := NB576_575.out; have hnc6 := NB575_576.out; have hcz7_0 := zh BK576; have hfz7_0 := zfr BK576 0))
 go_loopg [4] k (fun kq v4 w' => ∃ (x4_1 : Int) (x577000_1 : List (S50)) (u577000 : Value), v4 = .int .i64 x4_1 ∧ Aside0 (spec_l1Copy.l0 kq x4_1 l0_0 x577000_1 = some r) ∧ Aside0 (kq ≤ k) ∧ Aside0 (Kd.R k50 50 w' w.heap.size (fun k_ => k_ ≠ gb574 ∧ k_ ≠ gb575 ∧ k_ ≠ gb576) u577000 x577000_1) ∧ Aside0 (w'.heap[gb574]? = some (.cells #[(.slice A0_0 l0_0.length c0_0)] 50 (0, 0))) ∧ Aside0 (w'.heap[gb575]? = some (.cells #[(.slice none 0 0)] 50 (0, 0))) ∧ Aside0 (w'.heap[gb576]? = some (.cells #[u577000] 50 (0, 0))) ∧ Aside0 (Below w.heap.size w w'))
 case atStart => exact ⟨(0), (([] : List (S50))), (.slice none 0 0), y34, H', ⟨Nat.le_refl _⟩, ⟨y37⟩, ⟨(y13 NB574_576.out BK574.out)⟩, ⟨(y13 NB575_576.out BK575.out)⟩, ⟨(by (with_reducible repeat (first | refine blk_drewN ?_ _ | refine blk_drew ?_ | refine blk_alloc ?_ _)); refine blk_put (cs := #[.slice none 0 0]) ?_ 0 _ rfl; (with_reducible repeat (first | refine blk_drewN ?_ _ | refine blk_drew ?_ | refine blk_alloc ?_ _)); exact BK576.out)⟩, ⟨(y4 HB.out GE574.out GE575.out GE576.out)⟩⟩
 case round =>
  clear H'
  try clear p2
  try clear c5
  try clear c6
  try clear hcz7_0
  try clear hfz7_0
  obtain ⟨x4_1, x577000_1, u577000, rfl, HA, HK1, HO_577000, BK574, BK575, BK576, HB⟩ := hrel
  cases gk with
  | zero => exact absurd HA.out (by simp [spec_l1Copy.l0])
  | succ k1 =>
   have H := HA.out
   clear HA
   simp only [spec_l1Copy.l0] at H
   by_cases c8 : x4_1 < (l0_0.length : Int)
   ·rw [if_pos c8] at H
    have c8b0 : decide (x4_1 < (l0_0.length : Int)) = true := decide_eq_true c8
    clear c8
    by_cases c9 : 0 ≤ x4_1
    ·rw [if_pos c9] at H
     have c9b0 : decide (0 ≤ x4_1) = true := decide_eq_true c9
     clear c9
     obtain ⟨t578, A100, H⟩ := ob H
     have A10 := Aside0.mk A100
     clear A100
     by_cases c11 : x577000_1.length < 5864062014805
     ·rw [if_pos c11] at H
      have LMc11 := Aside0.mk c11
      clear c11
      obtain ⟨y581, hy581⟩ : ∃ y_ : List (S50), y_ = (x577000_1 ++ [(⟨t578⟩ : S50)]) := ⟨_, rfl⟩
      replace H : (spec_l1Copy.l0 k1 (wrap64 (x4_1 + 1)) l0_0 y581) = some r := by first | (rw [hy581]; with_reducible exact H) | (have H2_ := (Option.bind_some _ _).symm.trans H; rw [hy581]; with_reducible exact H2_) | (have H2_ := (Option.bind_some _ _).symm.trans H; with_reducible exact H2_) | with_reducible exact H | (rw [hy581]; exact H) | exact H
      have Ny581 := Aside0.mk hy581
      clear hy581
      have H' := Aside0.mk H
      clear H
      have hnb12 := NB574_575.out
      have hnc12 := NB575_574.out
      have hnb13 := NB574_576.out
      have hnc13 := NB576_574.out
      have hcz14_0 := zh BK574
      have hfz14_0 := zfr BK574 0
      try go_wp2
      replace HO_577000 := Aside0.mk (Kd.R_drew HO_577000.out)
      replace BK574 := Aside0.mk (blk_drew BK574.out)
      replace BK575 := Aside0.mk (blk_drew BK575.out)
      replace BK576 := Aside0.mk (blk_drew BK576.out)
      replace HB := Aside0.mk (below_drew1 HB.out)
      have p577 : 0 ≤ (x4_1 : Int) := of_decide_eq_true y23
      have q577 : x4_1 < (l0_0.length : Int) := of_decide_eq_true y23
      obtain ⟨ad577, A577_0, c577_0, e577, hx577_0, hl577_0, hi577_0⟩ := at_T50 HR0_0.out x4_1 p577 q577
      have hw577_0 := hx577_0
      cases e577
      replace hx577_0 := (HB.out.cell (World.block_lt_of_cell? w _ hx577_0)).trans hx577_0
      have HR577_0 := Aside0.mk hi577_0
      have HC577_0 := Aside0.mk hl577_0
      clear hi577_0 hl577_0
      replace p577 := eq_true p577
      replace q577 := eq_true q577
      refine start_ (n := 12) (S := fun w' => w'.cell? ⟨gb576, 0, none⟩ = some (u577000) ∧ w'.cell? ⟨gb574, 0, none⟩ = some (.slice (some ad577) l0_0.length c0_0) ∧ w'.cell? (ad577.add (x4_1).toNat) = some (.slice A577_0 ((rd_T50 l0_0 x4_1).f0).length c577_0)) (ds := [11]) #[false, false, false, false, false, false, false, false, false, false, false, false] (by kernel_rfl) rfl rfl ⟨(blk_cell BK576.out 0).trans rfl, (blk_cell BK574.out 0).trans rfl, ((HB.out.cell (World.block_lt_of_cell? w _ hw577_0)).trans hw577_0)⟩ (fun hHeld => ?_); refine with_tabW spec_l1Copy.tab5 spec_l1Copy.bits5 (fun HT_ HW_ => ?_)
      generalize wr.drew = w15 at HO_577000 BK574 BK575 BK576 HB HR577_0 hx577_0 hHeld ⊢
      refine zp 0 (some 13) HT_ ?_
      refine zp 2 (some 15) HT_ ?_
      refine zp 4 (some 17) HT_ ?_
      refine zt3 1 (some 14) HT_ HW_ hHeld ?_
      refine zt3 3 (some 16) HT_ HW_ hHeld ?_
      refine zp 5 (some 18) HT_ ?_
      refine zt3 6 (some 19) HT_ HW_ hHeld ?_
      refine one_ (i := 7) (N := some 20) #[true, true, true, true, true, true, true, true, false, false, false, false] rfl rfl (one_of HT_.out (by kernel_rfl)) (by decide) (fun K hK => ?_)
      refine goes_ Try.func58 (by kernel_rfl) rfl #[.agg #[.slice A577_0 ((rd_T50 l0_0 x4_1).f0).length c577_0]] (by rfl) rfl rfl y8 ?_
      with_reducible refine (ih k1 (y57 HK1.out) _ _ ((rd_T50 l0_0 x4_1).f0) t578 _ ?side1 ?side2 A10.out).mono ?_
      (case side1 => exact y15 HR577_0.out HB.out)
      (case side2 => exact HC577_0.out)
      rintro e w16 ⟨v579, rfl, ho0, hb⟩
      refine ⟨_, rfl, ?_⟩
      have HO580 := Aside0.mk (Kd.R_lower (Kd.R_newB (Kd.R_newB (Kd.R_newB (Kd.R_new' ho0 (Kd.R_lt (y12 HO_577000.out))) (g := gb574) (o := .cells #[.slice (some ad577) l0_0.length c0_0] 50 (0, 0)) (y0 BK574.out)) (g := gb575) (o := .cells #[.slice none 0 0] 50 (0, 0)) (y0 BK575.out)) (g := gb576) (o := .cells #[u577000] 50 (0, 0)) (y0 BK576.out)) (below_size (y4 HB.out GE574.out GE575.out GE576.out)))
      replace HO_577000 := Aside0.mk (Kd.R_elder' (y12 HO_577000.out) (Kd.R_base ho0) hb)
      replace BK574 := zbb BK574 hb
      replace BK575 := zbb BK575 hb
      replace BK576 := zbb BK576 hb
      replace HB := Aside0.mk (below_step (y4 HB.out GE574.out GE575.out GE576.out) hb)
      (try clear hb)
      (try clear hb2)
      (try clear hk)
      (try clear hi)
      (try clear ho0)
      obtain ⟨Ao18, co18, eo18⟩ := Kd.R_slice HO580.out
      (first | subst eo18 | (injection eo18 with f1_ f2_ f3_; have f4_ := f1_.symm; have f5_ := f3_.symm; clear f1_ f2_ f3_; subst f4_; subst f5_))
      refine hK.out _ _ ⟨(blk_cell BK576.out 0).trans rfl, (blk_cell BK574.out 0).trans rfl, ((HB.out.cell (World.block_lt_of_cell? w _ hw577_0)).trans hw577_0)⟩ (fun hHeld => ?_)
      clear hK K
      refine norm_ (a' := ?_) ?_ ?_
      rotate_left
      ·show Act.put _ (some 20) _ = _
       simp only [Act.put, List.setIfInBounds_toArray, List.set_cons_zero, List.set_cons_succ, i64_w, i32_w]
       rfl
      refine one_ (i := 8) (N := some 21) #[true, true, true, true, true, true, true, true, true, false, false, false] rfl rfl (one_of HT_.out (by kernel_rfl)) (by decide) (fun K hK => ?_)
      refine value_ (w1 := ?_) (v := ?_) (by rfl) rfl ?_ ?_
      rotate_left 2
      ·go_simp
       constructor
       ·rfl
       ·rfl
      refine hK.out _ _ ⟨(blk_cell (blk_alloc BK576.out _) 0).trans rfl, (blk_cell (blk_alloc BK574.out _) 0).trans rfl, (World.cell?_alloc_lt _ _ _ (World.block_lt_of_cell? _ _ (((HB.out.cell (World.block_lt_of_cell? w _ hw577_0)).trans hw577_0)))).trans (((HB.out.cell (World.block_lt_of_cell? w _ hw577_0)).trans hw577_0))⟩ (fun hHeld => ?_)
      clear hK K
      refine norm_ (a' := ?_) ?_ ?_
      rotate_left
      ·show Act.put _ (some 21) _ = _
       simp only [Act.put, List.setIfInBounds_toArray, List.set_cons_zero, List.set_cons_succ, i64_w, i32_w]
       rfl
      refine one_ (i := 9) (N := some 22) #[true, true, true, true, true, true, true, true, true, true, false, false] rfl rfl (one_of HT_.out (by kernel_rfl)) (by decide) (fun K hK => ?_)
      refine Kd.R_append_step k50 (w0 := w) w.heap.size (by rfl) (.tmp 14) (.tmp 21) 48 50 (.agg #[(.slice none 0 0)]) 24 rfl Try.underlying48 info50 rfl (by decide) (by omega) u577000 x577000_1 (⟨t578⟩ : S50) [.slice Ao18 t578.length co18] (fun k_ => k_ ≠ gb574 ∧ k_ ≠ gb575 ∧ k_ ≠ gb576) (fun k_ => ((fun k_ => k_ ≠ gb574 ∧ k_ ≠ gb575 ∧ k_ ≠ gb576)) k_ ∧ some k_ ≠ (u577000 : Value).ownBlock) rfl rfl ?aP (fun _ hk => hk) ?aF ?aO ?aB ?aS ?aL ?_
      (case aP => exact k50_mkM _ _ _ (⟨t578⟩ : S50) (Kd.R_mono (HO580.out) (fun k_ hk => ⟨⟨hk.1.1.2, ⟨hk.1.2, hk.2⟩⟩, hk.1.1.1.2⟩)))
      (case aB => exact y78 HB.out GE574.out GE575.out GE576.out)
      (case aF => exact (fun k_ hk => ⟨Kd.freshB (g := gb574) (o := .cells #[.slice (some ad577) l0_0.length c0_0] 50 (0, 0)) (y0 BK574.out) k_ hk, Kd.freshB (g := gb575) (o := .cells #[.slice none 0 0] 50 (0, 0)) (y0 BK575.out) k_ hk, Kd.freshB (g := gb576) (o := .cells #[u577000] 50 (0, 0)) (y0 BK576.out) k_ hk⟩))
      (case aO => exact y91 HO_577000.out)
      (case aS => exact y73 HB.out GE574.out GE575.out GE576.out)
      (case aL => exact y57 LMc11.out)
      intro v582 w17 ho hb hg hat
      rw [← Ny581.out] at ho
      replace BK574 := Aside0.mk (blk_grown (g := gb574) (o := .cells #[.slice (some ad577) l0_0.length c0_0] 50 (0, 0)) (y0 BK574.out) hg (Kd.R_away HO_577000.out (fun _ hk => hk.1.1)))
      replace BK575 := Aside0.mk (blk_grown (g := gb575) (o := .cells #[.slice none 0 0] 50 (0, 0)) (y0 BK575.out) hg (Kd.R_away HO_577000.out (fun _ hk => hk.1.2.1)))
      replace BK576 := Aside0.mk (blk_grown (g := gb576) (o := .cells #[u577000] 50 (0, 0)) (y0 BK576.out) hg (Kd.R_away HO_577000.out (fun _ hk => hk.1.2.2)))
      replace HB := Aside0.mk (hb)
      have HO583 := Aside0.mk (ho)
      clear HO580 HO_577000
      clear ho hb hg hat
      obtain ⟨Ao19, co19, eo19⟩ := Kd.R_slice HO583.out
      (first | subst eo19 | (injection eo19 with f1_ f2_ f3_; have f4_ := f1_.symm; have f5_ := f3_.symm; clear f1_ f2_ f3_; subst f4_; subst f5_))
      refine hK.out _ _ ⟨(blk_cell BK576.out 0).trans rfl, (blk_cell BK574.out 0).trans rfl, ((HB.out.cell (World.block_lt_of_cell? w _ hw577_0)).trans hw577_0)⟩ (fun hHeld => ?_)
      clear hK K
      refine norm_ (a' := ?_) ?_ ?_
      rotate_left
      ·show Act.put _ (some 22) _ = _
       simp only [Act.put, List.setIfInBounds_toArray, List.set_cons_zero, List.set_cons_succ, i64_w, i32_w]
       rfl
      refine zp 10 (some 23) HT_ ?_
      refine last_ (i := 11) (N := none) #[true, true, true, true, true, true, true, true, true, true, true, true] rfl rfl (one_of HT_.out (by kernel_rfl)) (by decide) (fun K hK => ?_)
      have hs20 : w17.cell? ⟨gb576, 0, none⟩ = some (u577000) := (blk_cell BK576.out 0).trans rfl
      have hfs20 := zfr BK576 0
      have hns20_0 := NB574_576.out
      have hns20_1 := NB575_576.out
      have hms20_0 := NB576_574.out
      have hms20_1 := NB576_575.out
      refine skip_ (w1 := ?_) (by rfl) rfl ?_ ?_
      rotate_left
      ·go_simp
       rfl
      refine hK.out _ _ ?_
      clear hK K
      refine done_ (done_of HT_.out (by kernel_rfl)) ?_
      try go_wp2
      go_roundg k1
      case measure => have := HK1.out; omega
      case rel => exact ⟨(wrap64 (x4_1 + 1)), (y581), (.slice Ao19 y581.length co19), y34, H', ⟨(y57 HK1.out)⟩, ⟨(by (with_reducible repeat (first | apply Kd.R_alloc | apply Kd.R_drewN | apply Kd.R_drew)); exact Kd.R_mono (Kd.R_far (p := ⟨gb576, 0, none⟩) (Kd.R_mono HO583.out (fun k_ hk => (⟨hk, hk.2.2⟩ : _ ∧ k_ ≠ gb576))) (fun _ hk => hk.2) (.slice Ao19 y581.length co19)) (fun _ hk => ⟨hk.1.1, ⟨hk.1.2.1, hk.1.2.2⟩⟩))⟩, ⟨(y13 NB574_576.out BK574.out)⟩, ⟨(y13 NB575_576.out BK575.out)⟩, ⟨(by (with_reducible repeat (first | refine blk_drewN ?_ _ | refine blk_drew ?_ | refine blk_alloc ?_ _)); refine blk_put (cs := #[u577000]) ?_ 0 _ rfl; (with_reducible repeat (first | refine blk_drewN ?_ _ | refine blk_drew ?_ | refine blk_alloc ?_ _)); exact BK576.out)⟩, ⟨(y4 HB.out GE574.out GE575.out GE576.out)⟩⟩
     ·rw [if_neg c11] at H
      exact absurd H (by simp)
    ·rw [if_neg c9] at H
     exact absurd H (by simp)
   ·rw [if_neg c8] at H
    have c8b0 : decide (x4_1 < (l0_0.length : Int)) = false := decide_eq_false c8
    clear c8
    obtain rfl := Option.some.inj H
    have hnb21 := NB574_575.out
    have hnc21 := NB575_574.out
    have hnb22 := NB574_576.out
    have hnc22 := NB576_574.out
    have hcz23_0 := zh BK574
    have hfz23_0 := zfr BK574 0
    have hnb24 := NB576_575.out
    have hnc24 := NB575_576.out
    have hcz25_0 := zh BK576
    have hfz25_0 := zfr BK576 0
    obtain ⟨Ao26, co26, eo26⟩ := Kd.R_slice HO_577000.out
    subst eo26
    have hcz27_0 := zh BK575
    have hfz27_0 := zfr BK575 0
    go_wp2
    refine bodyPost_ret (results_cell_row rfl _ _ gb575 50 #[.slice Ao26 x577000_1.length co26] (0, 0) _ rfl (by (with_reducible repeat (first | refine blk_drewN ?_ _ | refine blk_drew ?_ | refine blk_alloc ?_ _)); apply blk_put (i := 0); (case h => exact y0 BK575.out); (case e => rfl)) Try.underlying50 rfl (by kernel_rfl)) rfl ?_
    exact ⟨_, y19, (by (with_reducible repeat (first | apply Kd.R_alloc | apply Kd.R_drewN | apply Kd.R_drew)); exact Kd.R_mono (Kd.R_far (p := ⟨gb575, 0, none⟩) (Kd.R_mono HO_577000.out (fun k_ hk => (⟨hk, hk.2.1⟩ : _ ∧ k_ ≠ gb575))) (fun _ hk => hk.2) (.slice Ao26 x577000_1.length co26)) (fun _ hk => trivial)), (y4 HB.out GE574.out GE575.out GE576.out)⟩
end Go.Proofs.Ythfflieeifakdaa.PA
end
section
namespace Go.Proofs.Ythfflieeifakdaa.PA
open Go.RowKit Go.Proofs.YthfflieeifakdaaW.PrintWords Go.Proofs.YthfflieeifakdaaW.PrintLast Go.Proofs.YthfflieeifakdaaW.PrintMore
attribute [local go_sem] max2_int min2_int max_two min_two max_three min_three max_four min_four
set_option linter.unusedVariables false
set_option linter.unusedSimpArgs false
def spec_TypeAt.l0 : Nat → List Int → Int → List (S50) → Option ((List (S50)) × Bool)
 | 0, _, _, _ => none
 | k + 1, x1, x6, x585000 => if x6 < (x1.length : Int) then (if 0 ≤ x6 then ((spec_l6In.f (rd x1 x6) 0 (wrap64 ((x585000.length : Int) - 1))).bind fun t588 => (if t588 = true then (if 0 ≤ (rd x1 x6) then (if (rd x1 x6) < (x585000.length : Int) then (spec_TypeAt.l0 k x1 (wrap64 (x6 + 1)) ((rd_T50 x585000 (rd x1 x6)).f0)) else (none)) else (none)) else (some (([] : List (S50)), false)))) else (none)) else ((spec_l1Copy.f k x585000).bind fun t591 => (some (t591, true)))
def spec_TypeAt.f (k : Nat) (l0_0 : List (S50)) (l1 : List Int) : Option ((List (S50)) × Bool) := (spec_TypeOk.f k l0_0).bind fun t586 => (if t586 = true then (spec_TypeAt.l0 k l1 0 l0_0) else (some (([] : List (S50)), false)))
theorem spec_TypeAt.mono_l : ∀ k, (∀ y0 y1 y2, LeO (spec_TypeAt.l0 k y0 y1 y2) (spec_TypeAt.l0 (k + 1) y0 y1 y2))
 | 0 => fun _ _ _ r h => by simp [spec_TypeAt.l0] at h
 | k + 1 => by
  have ih0 := spec_TypeAt.mono_l k
  ·intro y0 y1 y2
   unfold spec_TypeAt.l0
   repeat' first
   | (with_reducible exact ih0 _ _ _)
   | (with_reducible exact spec_TypeOk.mono _ _)
   | (with_reducible exact spec_l1Copy.mono _ _)
   | (with_reducible exact LeO.refl _)
   | (with_reducible exact LeO.none _)
   | (with_reducible refine LeO.ite ?_ ?_)
   | (with_reducible refine LeO.bind ?_ (fun _ => ?_))
   | exact ih0 _ _ _
   | exact spec_TypeOk.mono _ _
   | exact spec_l1Copy.mono _ _
   | exact LeO.none _
   | refine LeO.ite ?_ ?_
   | refine LeO.bind ?_ (fun _ => ?_)
theorem spec_TypeAt.mono : ∀ a0 a1 k, LeO (spec_TypeAt.f k a0 a1) (spec_TypeAt.f (k + 1) a0 a1) := by
 intro a0 a1 k
 have ih0 := spec_TypeAt.mono_l k
 unfold spec_TypeAt.f
 repeat' first
   | (with_reducible exact ih0 _ _ _)
   | (with_reducible exact spec_TypeOk.mono _ _)
   | (with_reducible exact spec_l1Copy.mono _ _)
   | (with_reducible exact LeO.refl _)
   | (with_reducible exact LeO.none _)
   | (with_reducible refine LeO.ite ?_ ?_)
   | (with_reducible refine LeO.bind ?_ (fun _ => ?_))
   | exact ih0 _ _ _
   | exact spec_TypeOk.mono _ _
   | exact spec_l1Copy.mono _ _
   | exact LeO.none _
   | refine LeO.ite ?_ ?_
   | refine LeO.bind ?_ (fun _ => ?_)
def spec_TypeAt.T6 : Bool × List (List Nat × List Nat) := (true, [([], []), ([], []), ([0, 1], [0, 1]), ([2], [2]), ([], []), ([4], [4]), ([5], [5]), ([6], [6]), ([3, 7], [3, 7]), ([8], [8])])
def spec_TypeAt.B6 : List Nat := [0, 0, 3, 7, 0, 16, 48, 112, 255, 511]
theorem spec_TypeAt.tab6 : rtab .any (opsOf Try.f48 6) = spec_TypeAt.T6 := by kernel_rfl
theorem spec_TypeAt.bits6 : waitsOk spec_TypeAt.T6.2 spec_TypeAt.B6 = true := by kernel_rfl
def spec_TypeAt.T8 : Bool × List (List Nat × List Nat) := (true, [([], []), ([0], [0]), ([], []), ([], []), ([2, 3], [2, 3]), ([4], [4]), ([1, 5], [1, 5]), ([6], [6]), ([7, 0, 1, 2, 3, 4, 5, 6, 7], [7])])
def spec_TypeAt.B8 : List Nat := [0, 1, 0, 0, 12, 28, 63, 127, 255]
theorem spec_TypeAt.tab8 : rtab .any (opsOf Try.f48 8) = spec_TypeAt.T8 := by kernel_rfl
theorem spec_TypeAt.bits8 : waitsOk spec_TypeAt.T8.2 spec_TypeAt.B8 = true := by kernel_rfl
set_option maxHeartbeats 8000000 in
set_option maxRecDepth 100000 in
theorem spec_TypeAt.calls (k : Nat) (P0_0_ : Nat → Prop) (A0_0 : Option Addr) (c0_0 : Nat) (l0_0 : List (S50)) (A1 : Option Addr) (c1 : Nat) (l1 : List Int) (r1 : List (S50)) (r2 : Bool) (w : World) (hs0_0 : Kd.V k50 50 w w.heap.size (fun k_ => P0_0_ k_) (.slice A0_0 l0_0.length c0_0) l0_0) (hr1 : Kd.C (Kd.int .i64) w A1 l1.length l1) (hc1 : l1.length ≤ c1) (h : spec_TypeAt.f k l0_0 l1 = some (r1, r2)) :
  Calls Try.prog 48 #[.agg #[.slice A0_0 l0_0.length c0_0], .slice A1 l1.length c1] w fun e w' => ∃ v0_ : Value, e = .returned (.tuple #[.agg #[v0_], .bool r2]) ∧ Kd.R k50 50 w' w.heap.size (fun k_ => (w.heap.size ≤ k_)) v0_ r1 ∧ Below w.heap.size w w' := by
 have hu50 := Try.underlying50
 have HO0_0 := Aside0.mk (show Kd.V k50 50 w w.heap.size (fun k_ => (P0_0_ k_ ∨ w.heap.size ≤ k_)) (.slice A0_0 l0_0.length c0_0) l0_0 from Kd.V_mono hs0_0 (fun k_ hk => .inl hk))
 have HR1 := Aside0.mk hr1
 have HC1 := Aside0.mk hc1
 clear hr1 hc1
 have HB := Aside0.mk (Below.refl w.heap.size w)
 have H : ((spec_TypeOk.f k l0_0).bind fun t586 => (if t586 = true then (spec_TypeAt.l0 k l1 0 l0_0) else (some (([] : List (S50)), false)))) = some (r1, r2) := h
 clear h
 obtain ⟨t586, A30, H⟩ := ob H
 have A3 := Aside0.mk A30
 clear A30
 by_cases c4 : t586 = true
 ·subst c4
  rw [if_pos rfl] at H
  have H' := Aside0.mk H
  clear H
  go_enter Try.func48, Try.ntmps48
  go_wp2_with (first | ((with_reducible refine gate_dst (N := 2) rfl ?_); refine zbx 2 #[.slice A0_0 l0_0.length c0_0] 50 ?_; intro gb584 hg w5 hbox hb; replace HO0_0 := Aside0.mk (Kd.V_below (Kd.V_elderB (y10 HO0_0.out) gb584 (Nat.le_of_eq hg.symm)) hb); have BK584 := Aside0.mk hbox; have GW584 := Aside0.mk ((y9 hg HB.out : w.heap.size ≤ gb584)); have GE584 := Aside0.mk ((y9 hg HB.out : w.heap.size ≤ gb584)); replace HB := Aside0.mk (below_step (y5 HB.out) hb); clear hb hbox hg) | ((with_reducible refine gate_dst (N := 4) rfl ?_); refine zbx 4 #[.slice none 0 0] 50 ?_; intro gb585 hg w6 hbox hb; replace HO0_0 := Aside0.mk (Kd.V_below (Kd.V_elderB (y10 HO0_0.out) gb585 (Nat.le_of_eq hg.symm)) hb); have BK585 := Aside0.mk hbox; have GW585 := Aside0.mk ((y11 hg HB.out GE584.out : w.heap.size ≤ gb585)); have GE585 := Aside0.mk ((y11 hg HB.out GE584.out : w.heap.size ≤ gb585)); replace HB := Aside0.mk (below_step (y6 HB.out GE584.out) hb); have NB584_585 := zltn hg BK584; have NB585_584 := zgtn hg BK584; replace BK584 := zbb BK584 hb; clear hb hbox hg; have hnb7 := NB584_585.out; have hnc7 := NB585_584.out; have hcz8_0 := zh BK584; have hfz8_0 := zfr BK584 0) | ((with_reducible refine gate_callee (f := 53) rfl ?_); refine goesL_ (some 8) rfl rfl Try.func53 (by kernel_rfl) rfl #[.agg #[.slice A0_0 l0_0.length c0_0]] rfl y8 ?_; (with_reducible refine (spec_TypeOk.calls k _ _ l0_0 true _ ?side1 ?side2 A3.out).mono ?_); (case side1 => exact y35 HO0_0.out); (case side2 => exact (Kd.V_reads' HO0_0.out).2.1); rintro e w9 ⟨rfl, hb⟩; refine ⟨_, rfl, ?_⟩; replace HO0_0 := Aside0.mk (Kd.V_below (y10 HO0_0.out) hb); replace BK584 := zbb BK584 hb; replace BK585 := zbb BK585 hb; replace HB := Aside0.mk (below_step (y2 HB.out GE584.out GE585.out) hb); (try clear hb); (try clear hb2); (try clear hk); (try clear hi)))
  go_loopg [6] k (fun kq v6 w' => ∃ (x6_1 : Int) (x585000_1 : List (S50)) (u585000 : Value), v6 = .int .i64 x6_1 ∧ Aside0 (spec_TypeAt.l0 kq l1 x6_1 x585000_1 = some (r1, r2)) ∧ Aside0 (kq ≤ k) ∧ Aside0 (Kd.V k50 50 w' w.heap.size (fun k_ => (P0_0_ k_ ∨ w.heap.size ≤ k_) ∧ k_ ≠ gb584 ∧ k_ ≠ gb585) u585000 x585000_1) ∧ Aside0 (w'.heap[gb584]? = some (.cells #[u585000] 50 (0, 0))) ∧ Aside0 (w'.heap[gb585]? = some (.cells #[(.slice none 0 0)] 50 (0, 0))) ∧ Aside0 (Below w.heap.size w w'))
  case atStart => exact ⟨(0), (l0_0), (.slice A0_0 l0_0.length c0_0), y34, H', ⟨Nat.le_refl _⟩, ⟨(y74 HO0_0.out)⟩, ⟨(y0 BK584.out)⟩, ⟨(y0 BK585.out)⟩, ⟨(y2 HB.out GE584.out GE585.out)⟩⟩
  case round =>
   clear H'
   try clear c1
   try clear p2
   try clear c4
   try clear c5
   try clear c7
   try clear hcz8_0
   try clear hfz8_0
   obtain ⟨x6_1, x585000_1, u585000, rfl, HA, HK1, HO_585000, BK584, BK585, HB⟩ := hrel
   cases gk with
   | zero => exact absurd HA.out (by simp [spec_TypeAt.l0])
   | succ k1 =>
    have H := HA.out
    clear HA
    simp only [spec_TypeAt.l0] at H
    by_cases c10 : x6_1 < (l1.length : Int)
    ·rw [if_pos c10] at H
     have c10b0 : decide (x6_1 < (l1.length : Int)) = true := decide_eq_true c10
     clear c10
     by_cases c11 : 0 ≤ x6_1
     ·rw [if_pos c11] at H
      have c11b0 : decide (0 ≤ x6_1) = true := decide_eq_true c11
      clear c11
      obtain ⟨t588, A120, H⟩ := ob H
      have A12 := Aside0.mk A120
      clear A120
      by_cases c13 : t588 = true
      ·subst c13
       rw [if_pos rfl] at H
       by_cases c14 : 0 ≤ (rd l1 x6_1)
       ·rw [if_pos c14] at H
        have c14b0 : decide (0 ≤ (rd l1 x6_1)) = true := decide_eq_true c14
        clear c14
        by_cases c15 : (rd l1 x6_1) < (x585000_1.length : Int)
        ·rw [if_pos c15] at H
         have c15b0 : decide ((rd l1 x6_1) < (x585000_1.length : Int)) = true := decide_eq_true c15
         clear c15
         have H' := Aside0.mk H
         clear H
         try go_wp2
         replace HO_585000 := Aside0.mk (Kd.V_drew HO_585000.out)
         replace BK584 := Aside0.mk (blk_drew BK584.out)
         replace BK585 := Aside0.mk (blk_drew BK585.out)
         replace HB := Aside0.mk (below_drew1 HB.out)
         have p587 : 0 ≤ (x6_1 : Int) := of_decide_eq_true y23
         have q587 : x6_1 < (l1.length : Int) := of_decide_eq_true y23
         obtain ⟨ad587, e587, hx587_0⟩ := Kd.at_int HR1.out x6_1 p587 q587
         have hw587_0 := hx587_0
         cases e587
         replace hx587_0 := (HB.out.cell (World.block_lt_of_cell? w _ hx587_0)).trans hx587_0
         replace p587 := eq_true p587
         replace q587 := eq_true q587
         obtain ⟨Ao17, co17, eo17⟩ := Kd.V_slice HO_585000.out
         (first | subst eo17 | (injection eo17 with f1_ f2_ f3_; have f4_ := f1_.symm; have f5_ := f3_.symm; clear f1_ f2_ f3_; subst f4_; subst f5_))
         refine start_ (n := 10) (S := fun w' => w'.cell? ⟨gb584, 0, none⟩ = some (.slice Ao17 x585000_1.length co17) ∧ w'.cell? (ad587.add (x6_1).toNat) = some (.int .i64 (rd l1 x6_1))) (ds := []) #[false, false, false, false, false, false, false, false, false, false] (by kernel_rfl) rfl rfl ⟨(blk_cell BK584.out 0).trans rfl, ((HB.out.cell (World.block_lt_of_cell? w _ hw587_0)).trans hw587_0)⟩ (fun hHeld => ?_); refine with_tabW spec_TypeAt.tab6 spec_TypeAt.bits6 (fun HT_ HW_ => ?_)
         generalize wr.drew = w16 at HO_585000 BK584 BK585 HB hx587_0 hHeld ⊢
         refine zp 0 (some 17) HT_ ?_
         refine zp 1 (some 18) HT_ ?_
         refine zp 2 (some 19) HT_ ?_
         refine zp 4 (some 21) HT_ ?_
         refine zt2 3 (some 20) HT_ HW_ hHeld ?_
         refine zt2 5 (some 22) HT_ HW_ hHeld ?_
         refine zp 6 (some 23) HT_ ?_
         refine zp 7 (some 24) HT_ ?_
         refine one_ (i := 8) (N := some 25) #[true, true, true, true, true, true, true, true, true, false] rfl rfl (one_of HT_.out (by kernel_rfl)) (by decide) (fun K hK => ?_)
         refine goes_ Try.func36 (by kernel_rfl) rfl #[.int .i64 (rd l1 x6_1), .int .i64 0, .int .i64 (wrap64 ((x585000_1.length : Int) - 1))] (by rfl) rfl rfl y8 ?_
         with_reducible refine (spec_l6In.calls (rd l1 x6_1) 0 (wrap64 ((x585000_1.length : Int) - 1)) true _ A12.out).mono ?_
         rintro e w' ⟨rfl, ⟨nd, rfl⟩⟩
         refine ⟨_, rfl, ?_⟩
         refine hK.out _ _ ⟨(blk_cell BK584.out 0).trans rfl, ((HB.out.cell (World.block_lt_of_cell? w _ hw587_0)).trans hw587_0)⟩ (fun hHeld => ?_)
         clear hK K
         refine norm_ (a' := ?_) ?_ ?_
         rotate_left
         ·show Act.put _ (some 25) _ = _
          simp only [Act.put, List.setIfInBounds_toArray, List.set_cons_zero, List.set_cons_succ, i64_w, i32_w]
          rfl
         refine zp 9 (some 26) HT_ ?_
         refine done_ (done_of HT_.out (by kernel_rfl)) ?_
         try go_wp2
         (try (rw [drewN_self w16]; generalize hq_ : World.drewN w16 _ = w16; have n0_ : Aside0 (Kd.V k50 50 w16 w.heap.size (fun k_ => (P0_0_ k_ ∨ w.heap.size ≤ k_) ∧ k_ ≠ gb584 ∧ k_ ≠ gb585) (.slice Ao17 x585000_1.length co17) x585000_1) := ⟨(by rw [← hq_]; exact (y10 HO_585000.out))⟩; have n1_ : Aside0 (w16.heap[gb584]? = some (.cells #[.slice Ao17 x585000_1.length co17] 50 (0, 0))) := ⟨(by rw [← hq_]; exact (y0 BK584.out))⟩; have n2_ : Aside0 (w16.heap[gb585]? = some (.cells #[.slice none 0 0] 50 (0, 0))) := ⟨(by rw [← hq_]; exact (y0 BK585.out))⟩; have n3_ : Aside0 (Below w.heap.size w w16) := ⟨(by rw [← hq_]; exact (y2 HB.out GE584.out GE585.out))⟩; clear HO_585000 BK584 BK585 HB hq_; have HO_585000 := n0_; have BK584 := n1_; have BK585 := n2_; have HB := n3_; clear n0_ n1_ n2_ n3_))
         replace HO_585000 := Aside0.mk (Kd.V_drew HO_585000.out)
         replace BK584 := Aside0.mk (blk_drew BK584.out)
         replace BK585 := Aside0.mk (blk_drew BK585.out)
         replace HB := Aside0.mk (below_drew1 HB.out)
         have p589 : 0 ≤ (x6_1 : Int) := of_decide_eq_true y23
         have q589 : x6_1 < (l1.length : Int) := of_decide_eq_true y23
         obtain ⟨ad589, e589, hx589_0⟩ := Kd.at_int HR1.out x6_1 p589 q589
         have hw589_0 := hx589_0
         obtain rfl : ad587 = ad589 := (by injection e589)
         replace hx589_0 := (HB.out.cell (World.block_lt_of_cell? w _ hx589_0)).trans hx589_0
         replace p589 := eq_true p589
         replace q589 := eq_true q589
         have p590 : 0 ≤ ((rd l1 x6_1) : Int) := of_decide_eq_true y23
         have q590 : (rd l1 x6_1) < (x585000_1.length : Int) := of_decide_eq_true y23
         obtain ⟨ad590, A590_0, c590_0, e590, hx590_0, hl590_0, hi590_0⟩ := at_T50 (Kd.V_reads' HO_585000.out).2.2 (rd l1 x6_1) p590 q590
         cases e590
         obtain ⟨ce590, hce590, hMe590, hcc590⟩ := Kd.V_get HO_585000.out z50 (rd l1 x6_1) p590 (by first | exact q590 | exact of_decide_eq_true y23 | (have e_ := (Kd.V_reads' HO_585000.out).1; omega))
         obtain ⟨ua590_0, uc590_0, rfl, ul590_0, ge590_0⟩ := k50_openF hMe590
         have hv590_0 := hcc590 0 _ rfl
         rw [Nat.add_zero, show (k50).sz = 1 from rfl, Nat.mul_one] at hv590_0
         replace hv590_0 := Option.some.inj (hv590_0.symm.trans hx590_0)
         injection hv590_0 with hva_ hvn_ hvc_
         rw [hva_] at ge590_0
         rw [hvc_] at ul590_0
         have HL590_0 := Aside0.mk (show Kd.V k50 50 _ w.heap.size _ _ ((rd_T50 x585000_1 (rd l1 x6_1)).f0) from Kd.V_mk ul590_0 ge590_0)
         clear hva_ hvn_ hvc_ ge590_0 ul590_0
         clear hcc590 hce590
         have HR590_0 := Aside0.mk hi590_0
         have HC590_0 := Aside0.mk hl590_0
         clear hi590_0 hl590_0
         replace p590 := eq_true p590
         replace q590 := eq_true q590
         refine start_ (n := 9) (S := fun w' => w'.cell? ⟨gb584, 0, none⟩ = some (.slice (some ad590) x585000_1.length co17) ∧ w'.cell? (ad587.add (x6_1).toNat) = some (.int .i64 (rd l1 x6_1)) ∧ w'.cell? (ad590.add ((rd l1 x6_1)).toNat) = some (.slice A590_0 ((rd_T50 x585000_1 (rd l1 x6_1)).f0).length c590_0)) (ds := [8]) #[false, false, false, false, false, false, false, false, false] (by kernel_rfl) rfl rfl ⟨(blk_cell BK584.out 0).trans rfl, ((HB.out.cell (World.block_lt_of_cell? w _ hw589_0)).trans hw589_0), hx590_0⟩ (fun hHeld => ?_); refine with_tabW spec_TypeAt.tab8 spec_TypeAt.bits8 (fun HT_ HW_ => ?_)
         generalize w16.drew = w18 at HO_585000 BK584 BK585 HB HL590_0 HR590_0 hx589_0 hx590_0 hHeld ⊢
         refine zp 0 (some 28) HT_ ?_
         refine zp 2 (some 30) HT_ ?_
         refine zp 3 (some 31) HT_ ?_
         refine zp 4 (some 32) HT_ ?_
         refine zt3 1 (some 29) HT_ HW_ hHeld ?_
         refine zt3 5 (some 33) HT_ HW_ hHeld ?_
         refine zp 6 (some 34) HT_ ?_
         refine zt3 7 (some 35) HT_ HW_ hHeld ?_
         refine last_ (i := 8) (N := none) #[true, true, true, true, true, true, true, true, true] rfl rfl (one_of HT_.out (by kernel_rfl)) (by decide) (fun K hK => ?_)
         have hs19 : w18.cell? ⟨gb584, 0, none⟩ = some (.slice (some ad590) x585000_1.length co17) := (blk_cell BK584.out 0).trans rfl
         have hfs19 := zfr BK584 0
         have hns19_1 := NB585_584.out
         have hms19_1 := NB584_585.out
         refine skip_ (w1 := ?_) (by rfl) rfl ?_ ?_
         rotate_left
         ·go_simp
          rfl
         refine hK.out _ _ ?_
         clear hK K
         refine done_ (done_of HT_.out (by kernel_rfl)) ?_
         try go_wp2
         go_roundg k1
         case measure => have := HK1.out; omega
         case rel => exact ⟨(wrap64 (x6_1 + 1)), ((rd_T50 x585000_1 (rd l1 x6_1)).f0), (.slice A590_0 ((rd_T50 x585000_1 (rd l1 x6_1)).f0).length c590_0), y34, H', ⟨(y57 HK1.out)⟩, ⟨(by (with_reducible repeat (first | apply Kd.V_alloc | apply Kd.V_drewN | apply Kd.V_drew)); exact Kd.V_mono (Kd.V_far (p := ⟨gb584, 0, none⟩) (Kd.V_mono HL590_0.out (fun k_ hk => (⟨hk, hk.2.1⟩ : _ ∧ k_ ≠ gb584))) (fun _ hk => hk.2) (.slice A590_0 ((rd_T50 x585000_1 (rd l1 x6_1)).f0).length c590_0)) (fun _ hk => ⟨hk.1.1, ⟨hk.1.2.1, hk.1.2.2⟩⟩))⟩, ⟨(by (with_reducible repeat (first | refine blk_drewN ?_ _ | refine blk_drew ?_ | refine blk_alloc ?_ _)); refine blk_put (cs := #[.slice (some ad590) x585000_1.length co17]) ?_ 0 _ rfl; (with_reducible repeat (first | refine blk_drewN ?_ _ | refine blk_drew ?_ | refine blk_alloc ?_ _)); exact BK584.out)⟩, ⟨(y13 NB585_584.out BK585.out)⟩, ⟨(y2 HB.out GE584.out GE585.out)⟩⟩
        ·rw [if_neg c15] at H
         exact absurd H (by simp)
       ·rw [if_neg c14] at H
        exact absurd H (by simp)
      ·replace c13 := Bool.eq_false_iff.mpr c13
       subst c13
       rw [if_neg (show ¬ (false = true) by decide)] at H
       simp only [Option.some.injEq, Prod.mk.injEq] at H
       obtain ⟨rfl, rfl⟩ := H
       try go_wp2
       replace HO_585000 := Aside0.mk (Kd.V_drew HO_585000.out)
       replace BK584 := Aside0.mk (blk_drew BK584.out)
       replace BK585 := Aside0.mk (blk_drew BK585.out)
       replace HB := Aside0.mk (below_drew1 HB.out)
       have p587 : 0 ≤ (x6_1 : Int) := of_decide_eq_true y23
       have q587 : x6_1 < (l1.length : Int) := of_decide_eq_true y23
       obtain ⟨ad587, e587, hx587_0⟩ := Kd.at_int HR1.out x6_1 p587 q587
       have hw587_0 := hx587_0
       cases e587
       replace hx587_0 := (HB.out.cell (World.block_lt_of_cell? w _ hx587_0)).trans hx587_0
       replace p587 := eq_true p587
       replace q587 := eq_true q587
       obtain ⟨Ao21, co21, eo21⟩ := Kd.V_slice HO_585000.out
       (first | subst eo21 | (injection eo21 with f1_ f2_ f3_; have f4_ := f1_.symm; have f5_ := f3_.symm; clear f1_ f2_ f3_; subst f4_; subst f5_))
       refine start_ (n := 10) (S := fun w' => w'.cell? ⟨gb584, 0, none⟩ = some (.slice Ao21 x585000_1.length co21) ∧ w'.cell? (ad587.add (x6_1).toNat) = some (.int .i64 (rd l1 x6_1))) (ds := []) #[false, false, false, false, false, false, false, false, false, false] (by kernel_rfl) rfl rfl ⟨(blk_cell BK584.out 0).trans rfl, ((HB.out.cell (World.block_lt_of_cell? w _ hw587_0)).trans hw587_0)⟩ (fun hHeld => ?_); refine with_tabW spec_TypeAt.tab6 spec_TypeAt.bits6 (fun HT_ HW_ => ?_)
       generalize wr.drew = w20 at HO_585000 BK584 BK585 HB hx587_0 hHeld ⊢
       refine zp 0 (some 17) HT_ ?_
       refine zp 1 (some 18) HT_ ?_
       refine zp 2 (some 19) HT_ ?_
       refine zp 4 (some 21) HT_ ?_
       refine zt2 3 (some 20) HT_ HW_ hHeld ?_
       refine zt2 5 (some 22) HT_ HW_ hHeld ?_
       refine zp 6 (some 23) HT_ ?_
       refine zp 7 (some 24) HT_ ?_
       refine one_ (i := 8) (N := some 25) #[true, true, true, true, true, true, true, true, true, false] rfl rfl (one_of HT_.out (by kernel_rfl)) (by decide) (fun K hK => ?_)
       refine goes_ Try.func36 (by kernel_rfl) rfl #[.int .i64 (rd l1 x6_1), .int .i64 0, .int .i64 (wrap64 ((x585000_1.length : Int) - 1))] (by rfl) rfl rfl y8 ?_
       with_reducible refine (spec_l6In.calls (rd l1 x6_1) 0 (wrap64 ((x585000_1.length : Int) - 1)) false _ A12.out).mono ?_
       rintro e w' ⟨rfl, ⟨nd, rfl⟩⟩
       refine ⟨_, rfl, ?_⟩
       refine hK.out _ _ ⟨(blk_cell BK584.out 0).trans rfl, ((HB.out.cell (World.block_lt_of_cell? w _ hw587_0)).trans hw587_0)⟩ (fun hHeld => ?_)
       clear hK K
       refine norm_ (a' := ?_) ?_ ?_
       rotate_left
       ·show Act.put _ (some 25) _ = _
        simp only [Act.put, List.setIfInBounds_toArray, List.set_cons_zero, List.set_cons_succ, i64_w, i32_w]
        rfl
       refine zp 9 (some 26) HT_ ?_
       refine done_ (done_of HT_.out (by kernel_rfl)) ?_
       have hnb22 := NB585_584.out
       have hnc22 := NB584_585.out
       have hcz23_0 := zh BK585
       have hfz23_0 := zfr BK585 0
       try go_wp2
       refine bodyPost_ret (results_ct rfl _ _ gb585 50 #[.slice none 0 0] (0, 0) _ rfl (by (with_reducible repeat (first | refine blk_drewN ?_ _ | refine blk_drew ?_ | refine blk_alloc ?_ _)); apply blk_put (i := 0); (case h => exact y0 BK585.out); (case e => rfl)) Try.underlying50 rfl (by kernel_rfl)) rfl ?_
       exact ⟨_, y19, y37, (y2 HB.out GE584.out GE585.out)⟩
     ·rw [if_neg c11] at H
      exact absurd H (by simp)
    ·rw [if_neg c10] at H
     have c10b0 : decide (x6_1 < (l1.length : Int)) = false := decide_eq_false c10
     clear c10
     obtain ⟨t591, A240, H⟩ := ob H
     have A24 := Aside0.mk A240
     clear A240
     simp only [Option.some.injEq, Prod.mk.injEq] at H
     obtain ⟨rfl, rfl⟩ := H
     have hnb25 := NB584_585.out
     have hnc25 := NB585_584.out
     have hcz26_0 := zh BK584
     have hfz26_0 := zfr BK584 0
     obtain ⟨Ao27, co27, eo27⟩ := Kd.V_slice HO_585000.out
     subst eo27
     go_wp2_with (first | ((with_reducible refine gate_callee (f := 58) rfl ?_); refine goesL_ (some 37) rfl rfl Try.func58 (by kernel_rfl) rfl #[.agg #[.slice Ao27 x585000_1.length co27]] rfl y8 ?_; (with_reducible refine (spec_l1Copy.calls k1 _ _ x585000_1 t591 _ ?side1 ?side2 A24.out).mono ?_); (case side1 => exact y35 HO_585000.out); (case side2 => exact (Kd.V_reads' HO_585000.out).2.1); rintro e w28 ⟨v592, rfl, ho0, hb⟩; refine ⟨_, rfl, ?_⟩; replace HO_585000 := Aside0.mk (Kd.V_elder' (y10 HO_585000.out) (Kd.R_base ho0) hb); have HO593 := Aside0.mk (Kd.R_lower (Kd.R_newB (Kd.R_newB (Kd.R_newM (M := fun k_ => (w.heap.size ≤ k_)) ho0 (below_size (y2 HB.out GE584.out GE585.out)) (fun k_ h_ => h_)) (g := gb584) (o := .cells #[.slice Ao27 x585000_1.length co27] 50 (0, 0)) (y0 BK584.out)) (g := gb585) (o := .cells #[.slice none 0 0] 50 (0, 0)) (y0 BK585.out)) (below_size (y2 HB.out GE584.out GE585.out))); replace BK584 := zbb BK584 hb; replace BK585 := zbb BK585 hb; replace HB := Aside0.mk (below_step (y2 HB.out GE584.out GE585.out) hb); (try clear hb); (try clear hb2); (try clear hk); (try clear hi); (try clear ho0); obtain ⟨Ao29, co29, eo29⟩ := Kd.R_slice HO593.out; subst eo29; have hcz30_0 := zh BK585; have hfz30_0 := zfr BK585 0))
     refine bodyPost_ret (results_ct rfl _ _ gb585 50 #[.slice Ao29 t591.length co29] (0, 0) _ rfl (by (with_reducible repeat (first | refine blk_drewN ?_ _ | refine blk_drew ?_ | refine blk_alloc ?_ _)); apply blk_put (i := 0); (case h => exact y0 BK585.out); (case e => rfl)) Try.underlying50 rfl (by kernel_rfl)) rfl ?_
     exact ⟨_, y19, (by (with_reducible repeat (first | apply Kd.R_alloc | apply Kd.R_drewN | apply Kd.R_drew)); exact Kd.R_mono (Kd.R_far (p := ⟨gb585, 0, none⟩) (Kd.R_mono HO593.out (fun k_ hk => (⟨hk, hk.2⟩ : _ ∧ k_ ≠ gb585))) (fun _ hk => hk.2) (.slice Ao29 t591.length co29)) (fun _ hk => hk.1.1.1.1)), (y2 HB.out GE584.out GE585.out)⟩
 ·replace c4 := Bool.eq_false_iff.mpr c4
  subst c4
  rw [if_neg (show ¬ (false = true) by decide)] at H
  simp only [Option.some.injEq, Prod.mk.injEq] at H
  obtain ⟨rfl, rfl⟩ := H
  go_enter Try.func48, Try.ntmps48
  go_wp2_with (first | ((with_reducible refine gate_dst (N := 2) rfl ?_); refine zbx 2 #[.slice A0_0 l0_0.length c0_0] 50 ?_; intro gb584 hg w31 hbox hb; replace HO0_0 := Aside0.mk (Kd.V_below (Kd.V_elderB (y10 HO0_0.out) gb584 (Nat.le_of_eq hg.symm)) hb); have BK584 := Aside0.mk hbox; have GW584 := Aside0.mk ((y9 hg HB.out : w.heap.size ≤ gb584)); have GE584 := Aside0.mk ((y9 hg HB.out : w.heap.size ≤ gb584)); replace HB := Aside0.mk (below_step (y5 HB.out) hb); clear hb hbox hg) | ((with_reducible refine gate_dst (N := 4) rfl ?_); refine zbx 4 #[.slice none 0 0] 50 ?_; intro gb585 hg w32 hbox hb; replace HO0_0 := Aside0.mk (Kd.V_below (Kd.V_elderB (y10 HO0_0.out) gb585 (Nat.le_of_eq hg.symm)) hb); have BK585 := Aside0.mk hbox; have GW585 := Aside0.mk ((y11 hg HB.out GE584.out : w.heap.size ≤ gb585)); have GE585 := Aside0.mk ((y11 hg HB.out GE584.out : w.heap.size ≤ gb585)); replace HB := Aside0.mk (below_step (y6 HB.out GE584.out) hb); have NB584_585 := zltn hg BK584; have NB585_584 := zgtn hg BK584; replace BK584 := zbb BK584 hb; clear hb hbox hg; have hnb33 := NB584_585.out; have hnc33 := NB585_584.out; have hcz34_0 := zh BK584; have hfz34_0 := zfr BK584 0) | ((with_reducible refine gate_callee (f := 53) rfl ?_); refine goesL_ (some 8) rfl rfl Try.func53 (by kernel_rfl) rfl #[.agg #[.slice A0_0 l0_0.length c0_0]] rfl y8 ?_; (with_reducible refine (spec_TypeOk.calls k _ _ l0_0 false _ ?side1 ?side2 A3.out).mono ?_); (case side1 => exact y35 HO0_0.out); (case side2 => exact (Kd.V_reads' HO0_0.out).2.1); rintro e w35 ⟨rfl, hb⟩; refine ⟨_, rfl, ?_⟩; replace HO0_0 := Aside0.mk (Kd.V_below (y10 HO0_0.out) hb); replace BK584 := zbb BK584 hb; replace BK585 := zbb BK585 hb; replace HB := Aside0.mk (below_step (y2 HB.out GE584.out GE585.out) hb); (try clear hb); (try clear hb2); (try clear hk); (try clear hi); have hcz36_0 := zh BK585; have hfz36_0 := zfr BK585 0))
  refine bodyPost_ret (results_ct rfl _ _ gb585 50 #[.slice none 0 0] (0, 0) _ rfl (by (with_reducible repeat (first | refine blk_drewN ?_ _ | refine blk_drew ?_ | refine blk_alloc ?_ _)); apply blk_put (i := 0); (case h => exact y0 BK585.out); (case e => rfl)) Try.underlying50 rfl (by kernel_rfl)) rfl ?_
  exact ⟨_, y19, y37, (y2 HB.out GE584.out GE585.out)⟩
end Go.Proofs.Ythfflieeifakdaa.PA
end
section
namespace Go.Proofs.Ythfflieeifakdaa.Paths
open Go.RowKit Go.Proofs.Ythfflieeifakdaa.PA Go.Proofs.YthfflieeifakdaaW.PrintWords Go.Proofs.YthfflieeifakdaaW.PrintLast Go.Proofs.Ythfflieeifakdaa.Draw Go.Proofs.Ythfflieeifakdaa.Types
def pf : List Int → Ty → Option Ty
  | [], t => some t
  | i :: r, [a, b] => if i = 0 then pf r a.f0 else if i = 1 then pf r b.f0 else none
  | _ :: _, _ => none
theorem pf_nil (t : Ty) : pf [] t = some t := by cases t <;> rfl
theorem pf_two (i : Int) (r : List Int) (a b : S50) : pf (i :: r) [a, b] = if i = 0 then pf r a.f0 else if i = 1 then pf r b.f0 else none := rfl
theorem pf_odd (i : Int) (r : List Int) (t : Ty) (h : t.length ≠ 2) : pf (i :: r) t = none := by
  match t with
  | [] => rfl
  | [_] => rfl
  | [_, _] => simp at h
  | _ :: _ :: _ :: _ => rfl
theorem pf_app (p q : List Int) : ∀ t, pf (p ++ q) t = (pf p t).bind (pf q) := by
  induction p with
  | nil => intro t; rw [List.nil_append, pf_nil]; rfl
  | cons i r ih =>
    intro t
    by_cases h : t.length = 2
    · obtain ⟨a, b, rfl⟩ := two_of h
      rw [List.cons_append, pf_two, pf_two]
      split
      · exact ih _
      · split
        · exact ih _
        · rfl
    · rw [List.cons_append, pf_odd _ _ _ h, pf_odd _ _ _ h]; rfl
theorem dp_succ : ∀ (n : Nat) (t : Ty), dp n t = true → dp (n + 1) t = true := by
  intro n
  induction n with
  | zero => intro t h; simp [dp] at h
  | succ n ih =>
    intro t h
    rcases Types.shape t with rfl | ⟨a, b, rfl⟩ | ⟨h0, h2⟩
    · rfl
    · rw [dp_two, Bool.and_eq_true] at h ⊢
      exact ⟨ih _ h.1, ih _ h.2⟩
    · rw [dp_odd _ _ h0 h2] at h; cases h
theorem dp_pf (n : Nat) : ∀ (p : List Int) (t u : Ty), dp n t = true → pf p t = some u → dp n u = true := by
  intro p
  induction p with
  | nil => intro t u h e; rw [pf_nil] at e; cases e; exact h
  | cons i r ih =>
    intro t u h e
    by_cases h2 : t.length = 2
    · obtain ⟨a, b, rfl⟩ := two_of h2
      cases n with
      | zero => simp [dp] at h
      | succ n =>
        rw [dp_two, Bool.and_eq_true] at h
        rw [pf_two] at e
        split at e
        · exact ih _ _ (dp_succ _ _ h.1) e
        · split at e
          · exact ih _ _ (dp_succ _ _ h.2) e
          · cases e
    · rw [pf_odd _ _ _ h2] at e; cases e
theorem rd_mid (pre r : List Int) (i : Int) : rd (pre ++ i :: r) (pre.length : Int) = i := by
  unfold rd
  rw [Int.toNat_natCast, List.getD_eq_getElem?_getD, List.getElem?_append_right (Nat.le_refl _)]
  simp
def at_ (o : Option Ty) : Ty × Bool := match o with | some u => (u, true) | none => ([], false)
theorem specCopy_ev : ∀ (n : Nat) (t : Ty) (k : Nat), dp n t = true → 4 * n ≤ k → spec_l1Copy.f k t = some t := by
  intro n
  induction n with
  | zero => intro t k h; simp [dp] at h
  | succ n ih =>
    intro t k h hk
    obtain ⟨k, rfl⟩ : ∃ m, k = m + 4 := ⟨k - 4, by omega⟩
    simp only [spec_l1Copy.f]
    rcases Types.shape t with rfl | ⟨a, b, rfl⟩ | ⟨h0, h2⟩
    · simp only [spec_l1Copy.l0]; rw [if_neg (by simp)]
    · rw [dp_two, Bool.and_eq_true] at h
      simp only [spec_l1Copy.l0, w01, w12]
      rw [if_pos (by simp), if_pos (by omega), rd0, ih _ _ h.1 (by omega)]; simp only [Option.bind_some]
      rw [if_pos (by simp), if_pos (by simp), if_pos (by omega), rd1, ih _ _ h.2 (by omega)]; simp only [Option.bind_some]
      rw [if_pos (by simp), if_neg (by simp)]
      cases a; cases b; rfl
    · rw [dp_odd _ _ h0 h2] at h; cases h
def tat (t : Ty) (p : List Int) : Ty × Bool := if dp 4 t = true then at_ (pf p t) else ([], false)
theorem specLoop_ev (n : Nat) : ∀ (r pre : List Int) (t : Ty) (k : Nat), dp n t = true → pre.length + r.length ≤ 4611686018427387904 → r.length + 4 * n + 1 ≤ k →
    spec_TypeAt.l0 k (pre ++ r) (pre.length : Int) t = some (at_ (pf r t)) := by
  intro r
  induction r with
  | nil =>
    intro pre t k d h1 hk
    obtain ⟨k, rfl⟩ : ∃ m, k = m + 1 := ⟨k - 1, by omega⟩
    simp only [List.length_nil] at hk
    simp only [spec_TypeAt.l0]
    rw [if_neg (by simp), specCopy_ev n t k d (by omega), pf_nil]; rfl
  | cons i r ih =>
    intro pre t k d h1 hk
    simp only [List.length_cons] at h1 hk
    obtain ⟨k, rfl⟩ : ∃ m, k = m + 1 := ⟨k - 1, by omega⟩
    simp only [spec_TypeAt.l0, spec_l6In.f]
    have hl : ((pre ++ i :: r).length : Int) = pre.length + 1 + r.length := by simp; omega
    rw [if_pos (by omega), if_pos (by omega), rd_mid]
    rcases Types.shape t with rfl | ⟨a, b, rfl⟩ | ⟨h0, h2⟩
    · rw [pf_odd _ _ _ (by simp), show wrap64 ((([] : Ty).length : Int) - 1) = -1 from w64 (by simp) (by simp)]
      by_cases hn : i ≥ 0
      · rw [if_pos hn]; simp only [Option.bind_some]; rw [if_neg (by simp; omega)]; rfl
      · rw [if_neg hn]; rfl
    · rw [pf_two, show wrap64 ((([a, b] : Ty).length : Int) - 1) = 1 from w64 (by simp) (by simp)]
      cases n with
      | zero => simp [dp] at d
      | succ n =>
        rw [dp_two, Bool.and_eq_true] at d
        by_cases hn : i ≥ 0
        · rw [if_pos hn]; simp only [Option.bind_some]
          by_cases hb : i ≤ 1
          · rw [if_pos (by simpa using hb), if_pos (by omega), if_pos (by simp; omega), w64 (by omega) (by omega)]
            have ea : pre ++ i :: r = (pre ++ [i]) ++ r := by simp
            have el : (pre.length : Int) + 1 = ((pre ++ [i]).length : Int) := by simp
            rw [el, ea]
            by_cases h0 : i = 0
            · rw [if_pos h0, h0, rd0, ih _ _ _ (dp_succ _ _ d.1) (by simp; omega) (by omega)]
            · rw [if_neg h0, if_pos (by omega), show i = 1 by omega, rd1, ih _ _ _ (dp_succ _ _ d.2) (by simp; omega) (by omega)]
          · rw [if_neg (by simpa using hb), if_neg (by omega), if_neg (by omega)]; rfl
        · rw [if_neg hn, if_neg (show ¬ i = 0 by omega), if_neg (show ¬ i = 1 by omega)]; rfl
    · rw [dp_odd _ _ h0 h2] at d; cases d
theorem specTypeAt_ev (t : Ty) (p : List Int) (k : Nat) (h : p.length ≤ 4611686018427387904) (hk : p.length + 30 ≤ k) : spec_TypeAt.f k t p = some (tat t p) := by
  unfold spec_TypeAt.f tat
  rw [specOk_ev t k (by omega)]; simp only [Option.bind_some]
  by_cases d : dp 4 t = true
  · rw [if_pos d, if_pos d]
    have := specLoop_ev 4 p [] t k d (by simpa using h) (by omega)
    simpa using this
  · rw [if_neg d, if_neg d]
theorem tat_ok (t : Ty) (p : List Int) : dp 4 (tat t p).1 = true := by
  unfold tat
  split
  · rename_i d
    cases e : pf p t with
    | none => rfl
    | some u => exact dp_pf 4 _ _ _ d e
  · rfl
theorem rdT_dph (d : Nat) (t : Ty) (h : Dph (d + 1) t) (i : Int) : Dph d (rd_T50 t i).f0 := by
  unfold rd_T50
  rw [List.getD_eq_getElem?_getD]
  cases e : t[i.toNat]? with
  | none => exact dph_nil d
  | some x => exact h x (List.mem_of_getElem? e)
theorem pathLoop_ev (s : List Int) (hs : Bytes s) : ∀ (d : Nat) (t : Ty), d ≤ 1000 → Dph d t → ∀ (p : Int) (pre : List Int), 0 ≤ p → p + 2 * d + 3 ≤ 1099511627776 → pre.length + d ≤ 1000 →
    ∃ r u q, (∀ k, d + 3 ≤ k → spec_l71Path.l0 k pre s p t = some (r, u, q)) ∧ p ≤ q ∧ q ≤ p + 2 * d + 1 ∧ r.length ≤ pre.length + d := by
  intro d
  induction d with
  | zero =>
    intro t _ h p pre hp hp1 hl
    rw [show t = [] from h]
    refine ⟨pre, [], p, fun k hk => ?_, by omega, by omega, by omega⟩
    obtain ⟨k, rfl⟩ : ∃ m, k = m + 1 := ⟨k - 1, by omega⟩
    simp only [spec_l71Path.l0]
    rw [if_neg (by simp)]
  | succ d ih =>
    intro t hd h p pre hp hp1 hl
    by_cases h0 : (t.length : Int) > 0
    · obtain ⟨c, hc, c0, c1⟩ := pick_ev s hs p 3 hp (by omega) (by omega)
      by_cases hcp : c > 0
      · obtain ⟨i, hi, i0, i1⟩ := pick_ev s hs (p + 1) (t.length : Int) (by omega) (by omega) (by omega)
        obtain ⟨r, u, q, hr, hq, hq2, hrl⟩ := ih (rd_T50 t i).f0 (by omega) (rdT_dph _ _ h i) (p + 1 + 1) (pre ++ [i]) (by omega) (by omega) (by simp; omega)
        refine ⟨r, u, q, fun k hk => ?_, by omega, by omega, by simp at hrl; omega⟩
        obtain ⟨k, rfl⟩ : ∃ m, k = m + 1 := ⟨k - 1, by omega⟩
        simp only [spec_l71Path.l0]
        rw [if_pos h0, hc k (by omega)]; simp only [Option.bind_some]
        rw [if_pos hcp, hi k (by omega)]; simp only [Option.bind_some]
        rw [if_pos (by omega), if_pos i0, if_pos i1]
        exact hr k (by omega)
      · refine ⟨pre, t, p + 1, fun k hk => ?_, by omega, by omega, by omega⟩
        obtain ⟨k, rfl⟩ : ∃ m, k = m + 1 := ⟨k - 1, by omega⟩
        simp only [spec_l71Path.l0]
        rw [if_pos h0, hc k (by omega)]; simp only [Option.bind_some]
        rw [if_neg hcp]
    · refine ⟨pre, t, p, fun k hk => ?_, by omega, by omega, by omega⟩
      obtain ⟨k, rfl⟩ : ∃ m, k = m + 1 := ⟨k - 1, by omega⟩
      simp only [spec_l71Path.l0]
      rw [if_neg h0]
theorem any_ev (s : List Int) (hs : Bytes s) (d : Nat) (t : Ty) (hd : d ≤ 900) (h : Dph d t) (p : Int) (hp : 0 ≤ p) (hp1 : p ≤ 1099511620000) :
    ∃ r q, (∀ k, d + 4 ≤ k → spec_l71Any.f k s p t = some (r, q)) ∧ p ≤ q ∧ q ≤ p + 2 * d + 3 ∧ r.length ≤ d + 1 := by
  obtain ⟨r, u, q, hr, hq, hq2, hl⟩ := pathLoop_ev s hs d t (by omega) h p [] hp (by omega) (by simp; omega)
  simp only [List.length_nil] at hl
  obtain ⟨c, hc, c0, c1⟩ := pick_ev s hs q 6 (by omega) (by omega) (by omega)
  have hf : ∀ k, d + 4 ≤ k → spec_l71Path.f k s p t = some (r, u, q) := fun k hk => hr k (by omega)
  by_cases e : c = 0
  · obtain ⟨c', hc', _, _⟩ := pick_ev s hs (q + 1) 4 (by omega) (by omega) (by omega)
    refine ⟨r ++ [wrap64 (c' - 1)], q + 1 + 1, fun k hk => ?_, by omega, by omega, by simp; omega⟩
    unfold spec_l71Any.f
    rw [hf k hk]; simp only [Option.bind_some]
    rw [hc k (by omega)]; simp only [Option.bind_some]
    rw [if_pos e, hc' k (by omega)]; simp only [Option.bind_some]
    rw [if_pos (by omega)]
  · refine ⟨r, q + 1, fun k hk => ?_, by omega, by omega, by omega⟩
    unfold spec_l71Any.f
    rw [hf k hk]; simp only [Option.bind_some]
    rw [hc k (by omega)]; simp only [Option.bind_some]
    rw [if_neg e]
end Go.Proofs.Ythfflieeifakdaa.Paths
end
section
namespace Go.Proofs.Ythfflieeifakdaa.PA
open Go.RowKit Go.Proofs.YthfflieeifakdaaW.PrintWords Go.Proofs.YthfflieeifakdaaW.PrintLast Go.Proofs.YthfflieeifakdaaW.PrintMore
attribute [local go_sem] max2_int min2_int max_two min_two max_three min_three max_four min_four
set_option linter.unusedVariables false
set_option linter.unusedSimpArgs false
mutual
def impl_typeSame.l0 : Nat → Int → Int → List (S50) → List (S50) → Option (Bool)
 | 0, _, _, _, _ => none
 | k + 1, x15, x16, x493000, x494000 => if x16 < x15 then (if 0 ≤ x16 then (if x16 < (x493000.length : Int) then (if x16 < (x494000.length : Int) then ((impl_typeSame.f k ((rd_T50 x493000 x16).f0) ((rd_T50 x494000 x16).f0)).bind fun t496 => (if t496 = true then (impl_typeSame.l0 k x15 (wrap64 (x16 + 1)) x493000 x494000) else (some false))) else (none)) else (none)) else (none)) else (some true)
def impl_typeSame.f : Nat → List (S50) → List (S50) → Option (Bool)
 | 0, _, _ => none
 | k + 1, l0_0, l1_0 => if (l0_0.length : Int) = (l1_0.length : Int) then (impl_typeSame.l0 k (l0_0.length : Int) 0 l0_0 l1_0) else (some false)
end
theorem impl_typeSame.mono_l : ∀ k, (∀ y0 y1, LeO (impl_typeSame.f k y0 y1) (impl_typeSame.f (k + 1) y0 y1)) ∧ (∀ y0 y1 y2 y3, LeO (impl_typeSame.l0 k y0 y1 y2 y3) (impl_typeSame.l0 (k + 1) y0 y1 y2 y3))
 | 0 => ⟨fun _ _ r h => by simp [impl_typeSame.f] at h, fun _ _ _ _ r h => by simp [impl_typeSame.l0] at h⟩
 | k + 1 => by
  obtain ⟨ih0, ih1⟩ := impl_typeSame.mono_l k
  refine ⟨?_, ?_⟩
  ·intro y0 y1
   unfold impl_typeSame.f
   repeat' first
   | (with_reducible exact ih0 _ _)
   | (with_reducible exact ih1 _ _ _ _)
   | (with_reducible exact LeO.refl _)
   | (with_reducible exact LeO.none _)
   | (with_reducible refine LeO.ite ?_ ?_)
   | (with_reducible refine LeO.bind ?_ (fun _ => ?_))
   | exact ih0 _ _
   | exact ih1 _ _ _ _
   | exact LeO.none _
   | refine LeO.ite ?_ ?_
   | refine LeO.bind ?_ (fun _ => ?_)
  ·intro y0 y1 y2 y3
   unfold impl_typeSame.l0
   repeat' first
   | (with_reducible exact ih0 _ _)
   | (with_reducible exact ih1 _ _ _ _)
   | (with_reducible exact LeO.refl _)
   | (with_reducible exact LeO.none _)
   | (with_reducible refine LeO.ite ?_ ?_)
   | (with_reducible refine LeO.bind ?_ (fun _ => ?_))
   | exact ih0 _ _
   | exact ih1 _ _ _ _
   | exact LeO.none _
   | refine LeO.ite ?_ ?_
   | refine LeO.bind ?_ (fun _ => ?_)
theorem impl_typeSame.mono : ∀ a0 a1 k, LeO (impl_typeSame.f k a0 a1) (impl_typeSame.f (k + 1) a0 a1) := by
 intro a0 a1 k
 obtain ⟨ih0, ih1⟩ := impl_typeSame.mono_l k
 exact ih0 a0 a1
def impl_typeSame.T6 : Bool × List (List Nat × List Nat) := (true, [([], []), ([0], [0]), ([], []), ([1, 2], [1, 2]), ([3], [3]), ([], []), ([5], [5]), ([], []), ([6, 7], [6, 7]), ([8], [8]), ([4, 9], [4, 9]), ([10], [10])])
def impl_typeSame.B6 : List Nat := [0, 1, 0, 7, 15, 0, 32, 0, 224, 480, 1023, 2047]
theorem impl_typeSame.tab6 : rtab .any (opsOf Try.f46 6) = impl_typeSame.T6 := by kernel_rfl
theorem impl_typeSame.bits6 : waitsOk impl_typeSame.T6.2 impl_typeSame.B6 = true := by kernel_rfl
set_option maxHeartbeats 8000000 in
set_option maxRecDepth 100000 in
theorem impl_typeSame.calls (k : Nat) : ∀ (A0_0 : Option Addr) (c0_0 : Nat) (l0_0 : List (S50)) (A1_0 : Option Addr) (c1_0 : Nat) (l1_0 : List (S50)) (r : Bool) (w : World) (hr0_0 : Kd.C k50 w A0_0 l0_0.length l0_0) (hc0_0 : l0_0.length ≤ c0_0) (hr1_0 : Kd.C k50 w A1_0 l1_0.length l1_0) (hc1_0 : l1_0.length ≤ c1_0) (h : impl_typeSame.f k l0_0 l1_0 = some r),
  Calls Try.prog 46 #[.agg #[.slice A0_0 l0_0.length c0_0], .agg #[.slice A1_0 l1_0.length c1_0]] w fun e w' => e = .returned (.bool r) ∧ Below w.heap.size w w' := by
 induction k using Nat.strongRecOn with
 | _ k ih =>
 intro A0_0 c0_0 l0_0 A1_0 c1_0 l1_0 r w hr0_0 hc0_0 hr1_0 hc1_0 h
 cases k with
 | zero => exact absurd h (by simp [impl_typeSame.f])
 | succ k =>
 simp only [impl_typeSame.f] at h
 have hu50 := Try.underlying50
 have HR0_0 := Aside0.mk hr0_0
 have HC0_0 := Aside0.mk hc0_0
 clear hr0_0 hc0_0
 have HR1_0 := Aside0.mk hr1_0
 have HC1_0 := Aside0.mk hc1_0
 clear hr1_0 hc1_0
 have HB := Aside0.mk (Below.refl w.heap.size w)
 have H : (if (l0_0.length : Int) = (l1_0.length : Int) then (impl_typeSame.l0 k (l0_0.length : Int) 0 l0_0 l1_0) else (some false)) = some r := h
 clear h
 by_cases c3 : (l0_0.length : Int) = (l1_0.length : Int)
 ·rw [if_pos c3] at H
  have c3b0 : ((l0_0.length : Int) == (l1_0.length : Int)) = true := beq_iff_eq.mpr c3
  have c3b1 : ((l0_0.length : Int) != (l1_0.length : Int)) = false := bne_eq_false_iff_eq.mpr c3
  have c3b2 : (l0_0.length == l1_0.length) = true := by first | simpa using c3 | (simp at c3 ⊢; omega)
  clear c3
  have H' := Aside0.mk H
  clear H
  go_enter Try.func46, Try.ntmps46
  go_wp2_with (first | ((with_reducible refine gate_dst (N := 2) rfl ?_); refine zbx 2 #[.slice A0_0 l0_0.length c0_0] 50 ?_; intro gb492 hg w4 hbox hb; have BK492 := Aside0.mk hbox; have GW492 := Aside0.mk ((y9 hg HB.out : w.heap.size ≤ gb492)); have GE492 := Aside0.mk ((y9 hg HB.out : w.heap.size ≤ gb492)); replace HB := Aside0.mk (below_step (y5 HB.out) hb); clear hb hbox hg) | ((with_reducible refine gate_dst (N := 3) rfl ?_); refine zbx 3 #[.slice A1_0 l1_0.length c1_0] 50 ?_; intro gb493 hg w5 hbox hb; have BK493 := Aside0.mk hbox; have GW493 := Aside0.mk ((y11 hg HB.out GE492.out : w.heap.size ≤ gb493)); have GE493 := Aside0.mk ((y11 hg HB.out GE492.out : w.heap.size ≤ gb493)); replace HB := Aside0.mk (below_step (y6 HB.out GE492.out) hb); have NB492_493 := zltn hg BK492; have NB493_492 := zgtn hg BK492; replace BK492 := zbb BK492 hb; clear hb hbox hg; have hnb6 := NB492_493.out; have hnc6 := NB493_492.out; have hcz7_0 := zh BK492; have hfz7_0 := zfr BK492 0; have hcz8_0 := zh BK493; have hfz8_0 := zfr BK493 0))
  go_loopg [16] k (fun kq v16 w' => ∃ (x16_1 : Int), v16 = .int .i64 x16_1 ∧ Aside0 (impl_typeSame.l0 kq (l0_0.length : Int) x16_1 l0_0 l1_0 = some r) ∧ Aside0 (kq ≤ k) ∧ Aside0 (w'.heap[gb492]? = some (.cells #[(.slice A0_0 l0_0.length c0_0)] 50 (0, 0))) ∧ Aside0 (w'.heap[gb493]? = some (.cells #[(.slice A1_0 l1_0.length c1_0)] 50 (0, 0))) ∧ Aside0 (Below w.heap.size w w'))
  case atStart => exact ⟨(0), y34, H', ⟨Nat.le_refl _⟩, ⟨(y0 BK492.out)⟩, ⟨(y0 BK493.out)⟩, ⟨(y2 HB.out GE492.out GE493.out)⟩⟩
  case round =>
   clear H'
   try clear c1
   try clear p2
   try clear c3
   try clear c3b0
   try clear c3b1
   try clear c3b2
   try clear c4
   try clear c6
   try clear hcz7_0
   try clear hcz8_0
   try clear hfz7_0
   try clear hfz8_0
   obtain ⟨x16_1, rfl, HA, HK1, BK492, BK493, HB⟩ := hrel
   cases gk with
   | zero => exact absurd HA.out (by simp [impl_typeSame.l0])
   | succ k1 =>
    have H := HA.out
    clear HA
    simp only [impl_typeSame.l0] at H
    by_cases c9 : x16_1 < (l0_0.length : Int)
    ·rw [if_pos c9] at H
     have c9b0 : decide (x16_1 < (l0_0.length : Int)) = true := decide_eq_true c9
     clear c9
     by_cases c10 : 0 ≤ x16_1
     ·rw [if_pos c10] at H
      have c10b0 : decide (0 ≤ x16_1) = true := decide_eq_true c10
      clear c10
      by_cases c11 : x16_1 < (l0_0.length : Int)
      ·rw [if_pos c11] at H
       have c11b0 : decide (x16_1 < (l0_0.length : Int)) = true := decide_eq_true c11
       clear c11
       by_cases c12 : x16_1 < (l1_0.length : Int)
       ·rw [if_pos c12] at H
        have c12b0 : decide (x16_1 < (l1_0.length : Int)) = true := decide_eq_true c12
        clear c12
        obtain ⟨t496, A130, H⟩ := ob H
        have A13 := Aside0.mk A130
        clear A130
        by_cases c14 : t496 = true
        ·subst c14
         rw [if_pos rfl] at H
         have H' := Aside0.mk H
         clear H
         try go_wp2
         replace BK492 := Aside0.mk (blk_drew BK492.out)
         replace BK493 := Aside0.mk (blk_drew BK493.out)
         replace HB := Aside0.mk (below_drew1 HB.out)
         have p494 : 0 ≤ (x16_1 : Int) := of_decide_eq_true y23
         have q494 : x16_1 < (l0_0.length : Int) := of_decide_eq_true y23
         obtain ⟨ad494, A494_0, c494_0, e494, hx494_0, hl494_0, hi494_0⟩ := at_T50 HR0_0.out x16_1 p494 q494
         have hw494_0 := hx494_0
         cases e494
         replace hx494_0 := (HB.out.cell (World.block_lt_of_cell? w _ hx494_0)).trans hx494_0
         have HR494_0 := Aside0.mk hi494_0
         have HC494_0 := Aside0.mk hl494_0
         clear hi494_0 hl494_0
         replace p494 := eq_true p494
         replace q494 := eq_true q494
         have p495 : 0 ≤ (x16_1 : Int) := of_decide_eq_true y23
         have q495 : x16_1 < (l1_0.length : Int) := of_decide_eq_true y23
         obtain ⟨ad495, A495_0, c495_0, e495, hx495_0, hl495_0, hi495_0⟩ := at_T50 HR1_0.out x16_1 p495 q495
         have hw495_0 := hx495_0
         cases e495
         replace hx495_0 := (HB.out.cell (World.block_lt_of_cell? w _ hx495_0)).trans hx495_0
         have HR495_0 := Aside0.mk hi495_0
         have HC495_0 := Aside0.mk hl495_0
         clear hi495_0 hl495_0
         replace p495 := eq_true p495
         replace q495 := eq_true q495
         refine start_ (n := 12) (S := fun w' => w'.cell? ⟨gb492, 0, none⟩ = some (.slice (some ad494) l0_0.length c0_0) ∧ w'.cell? ⟨gb493, 0, none⟩ = some (.slice (some ad495) l1_0.length c1_0) ∧ w'.cell? (ad494.add (x16_1).toNat) = some (.slice A494_0 ((rd_T50 l0_0 x16_1).f0).length c494_0) ∧ w'.cell? (ad495.add (x16_1).toNat) = some (.slice A495_0 ((rd_T50 l1_0 x16_1).f0).length c495_0)) (ds := []) #[false, false, false, false, false, false, false, false, false, false, false, false] (by kernel_rfl) rfl rfl ⟨(blk_cell BK492.out 0).trans rfl, (blk_cell BK493.out 0).trans rfl, ((HB.out.cell (World.block_lt_of_cell? w _ hw494_0)).trans hw494_0), ((HB.out.cell (World.block_lt_of_cell? w _ hw495_0)).trans hw495_0)⟩ (fun hHeld => ?_); refine with_tabW impl_typeSame.tab6 impl_typeSame.bits6 (fun HT_ HW_ => ?_)
         generalize wr.drew = w15 at BK492 BK493 HB HR494_0 HR495_0 hx494_0 hx495_0 hHeld ⊢
         refine zp 0 (some 19) HT_ ?_
         refine zp 2 (some 21) HT_ ?_
         refine zp 5 (some 24) HT_ ?_
         refine zp 7 (some 26) HT_ ?_
         refine zt4 1 (some 20) HT_ HW_ hHeld ?_
         refine zp 3 (some 22) HT_ ?_
         refine zt4 4 (some 23) HT_ HW_ hHeld ?_
         refine zt4 6 (some 25) HT_ HW_ hHeld ?_
         refine zp 8 (some 27) HT_ ?_
         refine zt4 9 (some 28) HT_ HW_ hHeld ?_
         refine one_ (i := 10) (N := some 29) #[true, true, true, true, true, true, true, true, true, true, true, false] rfl rfl (one_of HT_.out (by kernel_rfl)) (by decide) (fun K hK => ?_)
         refine goes_ Try.func46 (by kernel_rfl) rfl #[.agg #[.slice A494_0 ((rd_T50 l0_0 x16_1).f0).length c494_0], .agg #[.slice A495_0 ((rd_T50 l1_0 x16_1).f0).length c495_0]] (by rfl) rfl rfl y8 ?_
         with_reducible refine (ih k1 (y57 HK1.out) _ _ ((rd_T50 l0_0 x16_1).f0) _ _ ((rd_T50 l1_0 x16_1).f0) true _ ?side1 ?side2 ?side3 ?side4 A13.out).mono ?_
         (case side1 => exact y15 HR494_0.out HB.out)
         (case side2 => exact HC494_0.out)
         (case side3 => exact y15 HR495_0.out HB.out)
         (case side4 => exact HC495_0.out)
         rintro e w16 ⟨rfl, hb⟩
         refine ⟨_, rfl, ?_⟩
         replace BK492 := zbb BK492 hb
         replace BK493 := zbb BK493 hb
         replace HB := Aside0.mk (below_step (y2 HB.out GE492.out GE493.out) hb)
         (try clear hb)
         (try clear hb2)
         (try clear hk)
         (try clear hi)
         refine hK.out _ _ ⟨(blk_cell BK492.out 0).trans rfl, (blk_cell BK493.out 0).trans rfl, ((HB.out.cell (World.block_lt_of_cell? w _ hw494_0)).trans hw494_0), ((HB.out.cell (World.block_lt_of_cell? w _ hw495_0)).trans hw495_0)⟩ (fun hHeld => ?_)
         clear hK K
         refine norm_ (a' := ?_) ?_ ?_
         rotate_left
         ·show Act.put _ (some 29) _ = _
          simp only [Act.put, List.setIfInBounds_toArray, List.set_cons_zero, List.set_cons_succ, i64_w, i32_w]
          rfl
         refine zp 11 (some 30) HT_ ?_
         refine done_ (done_of HT_.out (by kernel_rfl)) ?_
         try go_wp2
         go_roundg k1
         case measure => have := HK1.out; omega
         case rel => exact ⟨(wrap64 (x16_1 + 1)), y34, H', ⟨(y57 HK1.out)⟩, ⟨(y0 BK492.out)⟩, ⟨(y0 BK493.out)⟩, ⟨(y2 HB.out GE492.out GE493.out)⟩⟩
        ·replace c14 := Bool.eq_false_iff.mpr c14
         subst c14
         rw [if_neg (show ¬ (false = true) by decide)] at H
         obtain rfl := Option.some.inj H
         try go_wp2
         replace BK492 := Aside0.mk (blk_drew BK492.out)
         replace BK493 := Aside0.mk (blk_drew BK493.out)
         replace HB := Aside0.mk (below_drew1 HB.out)
         have p494 : 0 ≤ (x16_1 : Int) := of_decide_eq_true y23
         have q494 : x16_1 < (l0_0.length : Int) := of_decide_eq_true y23
         obtain ⟨ad494, A494_0, c494_0, e494, hx494_0, hl494_0, hi494_0⟩ := at_T50 HR0_0.out x16_1 p494 q494
         have hw494_0 := hx494_0
         cases e494
         replace hx494_0 := (HB.out.cell (World.block_lt_of_cell? w _ hx494_0)).trans hx494_0
         have HR494_0 := Aside0.mk hi494_0
         have HC494_0 := Aside0.mk hl494_0
         clear hi494_0 hl494_0
         replace p494 := eq_true p494
         replace q494 := eq_true q494
         have p495 : 0 ≤ (x16_1 : Int) := of_decide_eq_true y23
         have q495 : x16_1 < (l1_0.length : Int) := of_decide_eq_true y23
         obtain ⟨ad495, A495_0, c495_0, e495, hx495_0, hl495_0, hi495_0⟩ := at_T50 HR1_0.out x16_1 p495 q495
         have hw495_0 := hx495_0
         cases e495
         replace hx495_0 := (HB.out.cell (World.block_lt_of_cell? w _ hx495_0)).trans hx495_0
         have HR495_0 := Aside0.mk hi495_0
         have HC495_0 := Aside0.mk hl495_0
         clear hi495_0 hl495_0
         replace p495 := eq_true p495
         replace q495 := eq_true q495
         refine start_ (n := 12) (S := fun w' => w'.cell? ⟨gb492, 0, none⟩ = some (.slice (some ad494) l0_0.length c0_0) ∧ w'.cell? ⟨gb493, 0, none⟩ = some (.slice (some ad495) l1_0.length c1_0) ∧ w'.cell? (ad494.add (x16_1).toNat) = some (.slice A494_0 ((rd_T50 l0_0 x16_1).f0).length c494_0) ∧ w'.cell? (ad495.add (x16_1).toNat) = some (.slice A495_0 ((rd_T50 l1_0 x16_1).f0).length c495_0)) (ds := []) #[false, false, false, false, false, false, false, false, false, false, false, false] (by kernel_rfl) rfl rfl ⟨(blk_cell BK492.out 0).trans rfl, (blk_cell BK493.out 0).trans rfl, ((HB.out.cell (World.block_lt_of_cell? w _ hw494_0)).trans hw494_0), ((HB.out.cell (World.block_lt_of_cell? w _ hw495_0)).trans hw495_0)⟩ (fun hHeld => ?_); refine with_tabW impl_typeSame.tab6 impl_typeSame.bits6 (fun HT_ HW_ => ?_)
         generalize wr.drew = w17 at BK492 BK493 HB HR494_0 HR495_0 hx494_0 hx495_0 hHeld ⊢
         refine zp 0 (some 19) HT_ ?_
         refine zp 2 (some 21) HT_ ?_
         refine zp 5 (some 24) HT_ ?_
         refine zp 7 (some 26) HT_ ?_
         refine zt4 1 (some 20) HT_ HW_ hHeld ?_
         refine zp 3 (some 22) HT_ ?_
         refine zt4 4 (some 23) HT_ HW_ hHeld ?_
         refine zt4 6 (some 25) HT_ HW_ hHeld ?_
         refine zp 8 (some 27) HT_ ?_
         refine zt4 9 (some 28) HT_ HW_ hHeld ?_
         refine one_ (i := 10) (N := some 29) #[true, true, true, true, true, true, true, true, true, true, true, false] rfl rfl (one_of HT_.out (by kernel_rfl)) (by decide) (fun K hK => ?_)
         refine goes_ Try.func46 (by kernel_rfl) rfl #[.agg #[.slice A494_0 ((rd_T50 l0_0 x16_1).f0).length c494_0], .agg #[.slice A495_0 ((rd_T50 l1_0 x16_1).f0).length c495_0]] (by rfl) rfl rfl y8 ?_
         with_reducible refine (ih k1 (y57 HK1.out) _ _ ((rd_T50 l0_0 x16_1).f0) _ _ ((rd_T50 l1_0 x16_1).f0) false _ ?side1 ?side2 ?side3 ?side4 A13.out).mono ?_
         (case side1 => exact y15 HR494_0.out HB.out)
         (case side2 => exact HC494_0.out)
         (case side3 => exact y15 HR495_0.out HB.out)
         (case side4 => exact HC495_0.out)
         rintro e w18 ⟨rfl, hb⟩
         refine ⟨_, rfl, ?_⟩
         replace BK492 := zbb BK492 hb
         replace BK493 := zbb BK493 hb
         replace HB := Aside0.mk (below_step (y2 HB.out GE492.out GE493.out) hb)
         (try clear hb)
         (try clear hb2)
         (try clear hk)
         (try clear hi)
         refine hK.out _ _ ⟨(blk_cell BK492.out 0).trans rfl, (blk_cell BK493.out 0).trans rfl, ((HB.out.cell (World.block_lt_of_cell? w _ hw494_0)).trans hw494_0), ((HB.out.cell (World.block_lt_of_cell? w _ hw495_0)).trans hw495_0)⟩ (fun hHeld => ?_)
         clear hK K
         refine norm_ (a' := ?_) ?_ ?_
         rotate_left
         ·show Act.put _ (some 29) _ = _
          simp only [Act.put, List.setIfInBounds_toArray, List.set_cons_zero, List.set_cons_succ, i64_w, i32_w]
          rfl
         refine zp 11 (some 30) HT_ ?_
         refine done_ (done_of HT_.out (by kernel_rfl)) ?_
         try go_wp2
         go_ret
         exact ⟨y19, (y2 HB.out GE492.out GE493.out)⟩
       ·rw [if_neg c12] at H
        exact absurd H (by simp)
      ·rw [if_neg c11] at H
       exact absurd H (by simp)
     ·rw [if_neg c10] at H
      exact absurd H (by simp)
    ·rw [if_neg c9] at H
     have c9b0 : decide (x16_1 < (l0_0.length : Int)) = false := decide_eq_false c9
     clear c9
     obtain rfl := Option.some.inj H
     go_wp2
     go_ret
     exact ⟨y19, (y2 HB.out GE492.out GE493.out)⟩
 ·rw [if_neg c3] at H
  have c3b0 : ((l0_0.length : Int) == (l1_0.length : Int)) = false := beq_eq_false_iff_ne.mpr c3
  have c3b1 : ((l0_0.length : Int) != (l1_0.length : Int)) = true := bne_iff_ne.mpr c3
  have c3b2 : (l0_0.length == l1_0.length) = false := by first | simpa using c3 | (simp at c3 ⊢; omega)
  obtain rfl := Option.some.inj H
  go_enter Try.func46, Try.ntmps46
  go_wp2_with (first | ((with_reducible refine gate_dst (N := 2) rfl ?_); refine zbx 2 #[.slice A0_0 l0_0.length c0_0] 50 ?_; intro gb492 hg w19 hbox hb; have BK492 := Aside0.mk hbox; have GW492 := Aside0.mk ((y9 hg HB.out : w.heap.size ≤ gb492)); have GE492 := Aside0.mk ((y9 hg HB.out : w.heap.size ≤ gb492)); replace HB := Aside0.mk (below_step (y5 HB.out) hb); clear hb hbox hg) | ((with_reducible refine gate_dst (N := 3) rfl ?_); refine zbx 3 #[.slice A1_0 l1_0.length c1_0] 50 ?_; intro gb493 hg w20 hbox hb; have BK493 := Aside0.mk hbox; have GW493 := Aside0.mk ((y11 hg HB.out GE492.out : w.heap.size ≤ gb493)); have GE493 := Aside0.mk ((y11 hg HB.out GE492.out : w.heap.size ≤ gb493)); replace HB := Aside0.mk (below_step (y6 HB.out GE492.out) hb); have NB492_493 := zltn hg BK492; have NB493_492 := zgtn hg BK492; replace BK492 := zbb BK492 hb; clear hb hbox hg; have hnb21 := NB492_493.out; have hnc21 := NB493_492.out; have hcz22_0 := zh BK492; have hfz22_0 := zfr BK492 0; have hcz23_0 := zh BK493; have hfz23_0 := zfr BK493 0))
  go_ret
  exact ⟨y19, (y2 HB.out GE492.out GE493.out)⟩
end Go.Proofs.Ythfflieeifakdaa.PA
end
section
namespace Go.Proofs.Ythfflieeifakdaa.PA
open Go.RowKit Go.Proofs.YthfflieeifakdaaW.PrintWords Go.Proofs.YthfflieeifakdaaW.PrintLast Go.Proofs.YthfflieeifakdaaW.PrintMore
attribute [local go_sem] max2_int min2_int max_two min_two max_three min_three max_four min_four
set_option linter.unusedVariables false
set_option linter.unusedSimpArgs false
def spec_DrawValOk.f (k : Nat) (l0 : List Int) : Option ((List (S50)) × Int × (List (S25))) := (spec_l6Open.f l0).bind fun bt940 => ((spec_l6Rd_pick.f k bt940.1 bt940.2 4).bind fun bt943 => ((spec_l71Type.f k bt940.1 bt943.2 (wrap64 (1 + bt943.1))).bind fun bt945 => ((spec_l6Rd_pick.f k bt940.1 bt945.2 5).bind fun bt950 => (if bt950.1 = 0 then ((spec_l71Type.f k bt940.1 bt950.2 3).bind fun bt952 => ((spec_l71Bad.f k bt940.1 bt952.2 bt952.1).bind fun bt956 => (some (bt945.1, bt956.1, bt956.2.1)))) else ((spec_l71Bad.f k bt940.1 bt950.2 bt945.1).bind fun bt961 => (some (bt945.1, bt961.1, bt961.2.1)))))))
theorem spec_DrawValOk.mono : ∀ a0 k, LeO (spec_DrawValOk.f k a0) (spec_DrawValOk.f (k + 1) a0) := by
 intro a0 k
 unfold spec_DrawValOk.f
 repeat' first
   | (with_reducible exact spec_l6Rd_pick.mono _ _ _ _)
   | (with_reducible exact spec_l71Bad.mono _ _ _ _)
   | (with_reducible exact spec_l71Type.mono _ _ _ _)
   | (with_reducible exact LeO.refl _)
   | (with_reducible exact LeO.none _)
   | (with_reducible refine LeO.ite ?_ ?_)
   | (with_reducible refine LeO.bind ?_ (fun _ => ?_))
   | exact spec_l6Rd_pick.mono _ _ _ _
   | exact spec_l71Bad.mono _ _ _ _
   | exact spec_l71Type.mono _ _ _ _
   | exact LeO.none _
   | refine LeO.ite ?_ ?_
   | refine LeO.bind ?_ (fun _ => ?_)
set_option maxHeartbeats 8000000 in
set_option maxRecDepth 100000 in
theorem spec_DrawValOk.calls (k : Nat) (A0 : Option Addr) (c0 : Nat) (l0 : List Int) (r1 : List (S50)) (r2 : Int) (r3 : List (S25)) (w : World) (hr0 : Kd.C (Kd.int .u8) w A0 l0.length l0) (hc0 : l0.length ≤ c0) (h : spec_DrawValOk.f k l0 = some (r1, r2, r3)) :
  Calls Try.prog 27 #[.slice A0 l0.length c0] w fun e w' => ∃ v0_ v2_ : Value, e = .returned (.tuple #[.agg #[v0_], .agg #[.int .i64 r2, v2_]]) ∧ Kd.V k50 50 w' w.heap.size (fun k_ => (w.heap.size ≤ k_)) v0_ r1 ∧ Kd.V k25 25 w' w.heap.size (fun k_ => (w.heap.size ≤ k_)) v2_ r3 ∧ Below w.heap.size w w' := by
 have hu50 := Try.underlying50
 have hu25 := Try.underlying25
 have HR0 := Aside0.mk hr0
 have HC0 := Aside0.mk hc0
 clear hr0 hc0
 have HB := Aside0.mk (Below.refl w.heap.size w)
 have H : ((spec_l6Open.f l0).bind fun bt940 => ((spec_l6Rd_pick.f k bt940.1 bt940.2 4).bind fun bt943 => ((spec_l71Type.f k bt940.1 bt943.2 (wrap64 (1 + bt943.1))).bind fun bt945 => ((spec_l6Rd_pick.f k bt940.1 bt945.2 5).bind fun bt950 => (if bt950.1 = 0 then ((spec_l71Type.f k bt940.1 bt950.2 3).bind fun bt952 => ((spec_l71Bad.f k bt940.1 bt952.2 bt952.1).bind fun bt956 => (some (bt945.1, bt956.1, bt956.2.1)))) else ((spec_l71Bad.f k bt940.1 bt950.2 bt945.1).bind fun bt961 => (some (bt945.1, bt961.1, bt961.2.1)))))))) = some (r1, r2, r3) := h
 clear h
 obtain ⟨⟨t940, t941⟩, A20, H⟩ := ob H
 have A2 := Aside0.mk A20
 clear A20
 obtain ⟨⟨t943, t944⟩, A30, H⟩ := ob H
 have A3 := Aside0.mk A30
 clear A30
 obtain ⟨⟨t945, t948⟩, A40, H⟩ := ob H
 have A4 := Aside0.mk A40
 clear A40
 obtain ⟨⟨t950, t951⟩, A50, H⟩ := ob H
 have A5 := Aside0.mk A50
 clear A50
 by_cases c6 : t950 = 0
 ·rw [if_pos c6] at H
  have c6b0 : (t950 == 0) = true := beq_iff_eq.mpr c6
  have c6b1 : (t950 != 0) = false := bne_eq_false_iff_eq.mpr c6
  clear c6
  obtain ⟨⟨t952, t955⟩, A70, H⟩ := ob H
  have A7 := Aside0.mk A70
  clear A70
  obtain ⟨⟨t956, t957, t960⟩, A80, H⟩ := ob H
  have A8 := Aside0.mk A80
  clear A80
  simp only [Option.some.injEq, Prod.mk.injEq] at H
  obtain ⟨rfl, rfl, rfl⟩ := H
  go_enter Try.func27, Try.ntmps27
  try go_wp2_with (first | ((with_reducible refine gate_dst (N := 2) rfl ?_); refine zbx 2 #[.slice none 0 0] 50 ?_; intro gb938 hg w9 hbox hb; have BK938 := Aside0.mk hbox; have GW938 := Aside0.mk ((y9 hg HB.out : w.heap.size ≤ gb938)); have GE938 := Aside0.mk ((y9 hg HB.out : w.heap.size ≤ gb938)); replace HB := Aside0.mk (below_step (y5 HB.out) hb); clear hb hbox hg) | ((with_reducible refine gate_dst (N := 3) rfl ?_); refine zbx 3 #[.int .i64 0, .slice none 0 0] 25 ?_; intro gb939 hg w10 hbox hb; have BK939 := Aside0.mk hbox; have GW939 := Aside0.mk ((y11 hg HB.out GE938.out : w.heap.size ≤ gb939)); have GE939 := Aside0.mk ((y11 hg HB.out GE938.out : w.heap.size ≤ gb939)); replace HB := Aside0.mk (below_step (y6 HB.out GE938.out) hb); have NB938_939 := zltn hg BK938; have NB939_938 := zgtn hg BK938; replace BK938 := zbb BK938 hb; clear hb hbox hg) | ((with_reducible refine gate_callee (f := 30) rfl ?_); refine goesL_ (some 7) rfl rfl Try.func30 (by kernel_rfl) rfl #[.slice A0 l0.length c0] rfl y8 ?_; (with_reducible refine (spec_l6Open.calls _ _ l0 t940 t941 w _ ?side1 ?side2 ?side3 A2.out).mono ?_); (case side1 => exact y2 HB.out GE938.out GE939.out); (case side2 => exact HR0.out); (case side3 => exact HC0.out); rintro e w11 ⟨g942, rfl, hi, hb, hb2⟩; refine ⟨_, rfl, ?_⟩; replace HB := Aside0.mk (hb); have HI942 := Aside0.mk (hi); have NB942_938 := Aside0.mk (IsS75.ne_blk hi (blk_below (g := gb938) (o := .cells #[.slice none 0 0] 50 (0, 0)) (y0 BK938.out) hb2) (by decide)); have NB938_942 := Aside0.mk (Ne.symm (IsS75.ne_blk hi (blk_below (g := gb938) (o := .cells #[.slice none 0 0] 50 (0, 0)) (y0 BK938.out) hb2) (by decide))); replace BK938 := Aside0.mk (blk_below (g := gb938) (o := .cells #[.slice none 0 0] 50 (0, 0)) (y0 BK938.out) hb2); have NB942_939 := Aside0.mk (IsS75.ne_blk hi (blk_below (g := gb939) (o := .cells #[.int .i64 0, .slice none 0 0] 25 (0, 0)) (y0 BK939.out) hb2) (by decide)); have NB939_942 := Aside0.mk (Ne.symm (IsS75.ne_blk hi (blk_below (g := gb939) (o := .cells #[.int .i64 0, .slice none 0 0] 25 (0, 0)) (y0 BK939.out) hb2) (by decide))); replace BK939 := Aside0.mk (blk_below (g := gb939) (o := .cells #[.int .i64 0, .slice none 0 0] 25 (0, 0)) (y0 BK939.out) hb2); (try clear hb); (try clear hb2); (try clear hk); (try clear hi)) | ((with_reducible refine gate_callee (f := 32) rfl ?_); refine goesL_ (some 10) rfl rfl Try.func32 (by kernel_rfl) rfl #[.pointer (some ⟨g942, 0, none⟩), .int .i64 4] rfl y8 ?_; (with_reducible refine (spec_l6Rd_pick.calls k g942 t940 t941 4 t943 t944 w _ ?side1 ?side2 A3.out).mono ?_); (case side1 => exact y21 HI942.out NB942_938.out NB942_939.out); (case side2 => exact y17 HB.out HI942.out GE938.out GE939.out); rintro e w12 ⟨rfl, hi, hb, hk⟩; refine ⟨_, rfl, ?_⟩; replace BK938 := Aside0.mk (KeepBut.blk hk (g' := gb938) (o := .cells #[.slice none 0 0] 50 (0, 0)) (y0 BK938.out) NB938_942.out (by simp)); replace BK939 := Aside0.mk (KeepBut.blk hk (g' := gb939) (o := .cells #[.int .i64 0, .slice none 0 0] 25 (0, 0)) (y0 BK939.out) NB939_942.out (by simp)); replace HB := Aside0.mk (hb); replace HI942 := Aside0.mk (hi); (try clear hb); (try clear hb2); (try clear hk); (try clear hi)) | ((with_reducible refine gate_callee (f := 31) rfl ?_); refine goesL_ (some 12) rfl rfl Try.func31 (by kernel_rfl) rfl #[.pointer (some ⟨g942, 0, none⟩), .int .i64 (wrap64 (1 + t943))] rfl y8 ?_; (with_reducible refine (spec_l71Type.calls k g942 t940 t944 (wrap64 (1 + t943)) t945 t948 w _ ?side1 ?side2 A4.out).mono ?_); (case side1 => exact y21 HI942.out NB942_938.out NB942_939.out); (case side2 => exact y17 HB.out HI942.out GE938.out GE939.out); rintro e w13 ⟨v946, rfl, ho0, hi, hb, hk⟩; refine ⟨_, rfl, ?_⟩; have HO947 := Aside0.mk (Kd.N_lower (Kd.N_mono (ok' := fun k_ => (w.heap.size ≤ k_) ∧ k_ ≠ gb938 ∧ k_ ≠ gb939 ∧ k_ ≠ g942) ho0 (fun k_ hk_ => ⟨(Nat.le_trans (below_size (y17 HB.out HI942.out GE938.out GE939.out)) hk_), (Kd.freshB (g := gb938) (o := .cells #[.slice none 0 0] 50 (0, 0)) (y0 BK938.out) k_ hk_), (Kd.freshB (g := gb939) (o := .cells #[.int .i64 0, .slice none 0 0] 25 (0, 0)) (y0 BK939.out) k_ hk_), (IsS75.fresh (y21 HI942.out NB942_938.out NB942_939.out) k_ hk_)⟩)) (below_size (y17 HB.out HI942.out GE938.out GE939.out))); replace BK938 := Aside0.mk (KeepBut.blk hk (g' := gb938) (o := .cells #[.slice none 0 0] 50 (0, 0)) (y0 BK938.out) NB938_942.out (by simp)); replace BK939 := Aside0.mk (KeepBut.blk hk (g' := gb939) (o := .cells #[.int .i64 0, .slice none 0 0] 25 (0, 0)) (y0 BK939.out) NB939_942.out (by simp)); replace HB := Aside0.mk (hb); replace HI942 := Aside0.mk (hi); (try clear hb); (try clear hb2); (try clear hk); (try clear hi); (try clear ho0)) | ((with_reducible refine gate_dst (N := 5) rfl ?_); refine zbx 5 #[.slice none 0 0] 50 ?_; intro gb949 hg w14 hbox hb; replace HO947 := Aside0.mk (Kd.N_below (Kd.N_elderB (y3 HO947.out) gb949 (Nat.le_of_eq hg.symm)) hb); have BK949 := Aside0.mk hbox; have GW949 := Aside0.mk ((y45 hg HB.out HI942.out GE938.out GE939.out : w.heap.size ≤ gb949)); have GE949 := Aside0.mk ((y45 hg HB.out HI942.out GE938.out GE939.out : w.heap.size ≤ gb949)); replace HB := Aside0.mk (below_step (y17 HB.out HI942.out GE938.out GE939.out) hb); have NB938_949 := zltn hg BK938; have NB949_938 := zgtn hg BK938; replace BK938 := zbb BK938 hb; have NB939_949 := zltn hg BK939; have NB949_939 := zgtn hg BK939; replace BK939 := zbb BK939 hb; have NB942_949 := Aside0.mk ((by rw [hg]; exact Nat.ne_of_lt (IsS75.lt (show IsS75 w _ g942 t940 t948 from by repeat (first | (with_reducible first | exact HI942.out | apply IsS75.alloc | apply IsS75.drewN | apply IsS75.drew | apply IsS75.set_1 | refine IsS75.far ?_ NB942_938.out _ | refine IsS75.far ?_ NB942_939.out _) | exact HI942.out))) : g942 ≠ gb949)); have NB949_942 := Aside0.mk ((by rw [hg]; exact Nat.ne_of_gt (IsS75.lt (show IsS75 w _ g942 t940 t948 from by repeat (first | (with_reducible first | exact HI942.out | apply IsS75.alloc | apply IsS75.drewN | apply IsS75.drew | apply IsS75.set_1 | refine IsS75.far ?_ NB942_938.out _ | refine IsS75.far ?_ NB942_939.out _) | exact HI942.out))) : gb949 ≠ g942)); replace HI942 := Aside0.mk (IsS75.below (y21 HI942.out NB942_938.out NB942_939.out) hb); clear hb hbox hg; obtain ⟨Ao15, co15, eo15⟩ := Kd.N_slice HO947.out; subst eo15; have hnb16 := NB949_938.out; have hnc16 := NB938_949.out; have hnb17 := NB949_939.out; have hnc17 := NB939_949.out; have hnb18 := NB949_942.out; have hnc18 := NB942_949.out; have hcz19_0 := zh BK949; have hfz19_0 := zfr BK949 0) | ((with_reducible refine gate_callee (f := 32) rfl ?_); refine goesL_ (some 14) rfl rfl Try.func32 (by kernel_rfl) rfl #[.pointer (some ⟨g942, 0, none⟩), .int .i64 5] rfl y8 ?_; (with_reducible refine (spec_l6Rd_pick.calls k g942 t940 t948 5 t950 t951 w _ ?side1 ?side2 A5.out).mono ?_); (case side1 => exact y26 HI942.out NB942_938.out NB942_939.out NB942_949.out); (case side2 => exact y24 HB.out HI942.out GE938.out GE939.out GE949.out); rintro e w20 ⟨rfl, hi, hb, hk⟩; refine ⟨_, rfl, ?_⟩; replace BK938 := Aside0.mk (KeepBut.blk hk (g' := gb938) (o := .cells #[.slice none 0 0] 50 (0, 0)) (y13 NB938_949.out BK938.out) NB938_942.out (by simp)); replace BK939 := Aside0.mk (KeepBut.blk hk (g' := gb939) (o := .cells #[.int .i64 0, .slice none 0 0] 25 (0, 0)) (y13 NB939_949.out BK939.out) NB939_942.out (by simp)); replace HO947 := Aside0.mk (Kd.N_mono (Kd.N_keep (Kd.N_mono (ok := fun k_ => ((((w.heap.size ≤ k_)) ∧ (k_ ≠ gb938 ∧ (k_ ≠ gb939 ∧ k_ ≠ g942))) ∧ k_ ≠ gb949)) (by (with_reducible repeat (first | apply Kd.N_alloc | apply Kd.N_drewN | apply Kd.N_drew)); exact (Kd.N_mono (Kd.N_far (p := ⟨gb949, 0, none⟩) (Kd.N_mono HO947.out (fun k_ hk => (⟨hk, hk.2⟩ : _ ∧ k_ ≠ gb949))) (fun _ hk => hk.2) (.slice Ao15 t945.length co15)) (fun _ h_ => h_.1))) (fun k_ hk_ => (⟨hk_, hk_.1.2.2.2⟩ : _ ∧ k_ ≠ g942))) hk (fun _ h => h.2)) (fun _ h => h.1)); replace BK949 := Aside0.mk (KeepBut.blk hk (g' := gb949) (o := .cells #[.slice Ao15 t945.length co15] 50 (0, 0)) (by (with_reducible repeat (first | refine blk_drewN ?_ _ | refine blk_drew ?_ | refine blk_alloc ?_ _)); apply blk_put (i := 0); (case h => exact y0 BK949.out); (case e => rfl)) NB949_942.out (by simp)); replace HB := Aside0.mk (hb); replace HI942 := Aside0.mk (hi); (try clear hb); (try clear hb2); (try clear hk); (try clear hi)))
  replace HO947 := Aside0.mk (Kd.N_drew HO947.out)
  replace BK938 := Aside0.mk (blk_drew BK938.out)
  replace BK939 := Aside0.mk (blk_drew BK939.out)
  replace BK949 := Aside0.mk (blk_drew BK949.out)
  replace HI942 := Aside0.mk (IsS75.drew HI942.out)
  replace HB := Aside0.mk (below_drew1 HB.out)
  refine start_ (n := 7) (S := fun w' => w'.cell? ⟨gb949, 0, none⟩ = some (.slice Ao15 t945.length co15)) (ds := []) #[false, false, false, false, false, false, false] (by kernel_rfl) rfl rfl ((blk_cell BK949.out 0).trans rfl) (fun hHeld => ?_)
  generalize w20.drew = w21 at HO947 BK938 BK939 BK949 HI942 HB hHeld ⊢
  refine pure_ (i := 1) (N := some 17) (v := ?_) (a' := ?_) #[false, true, false, false, false, false, false] rfl rfl (by kernel_rfl) (fun _ _ _ h => h) (Or.inl ⟨(by rfl), ?_⟩) ?_ ?_
  rotate_left
  ·intro w'
   go_simp
   with_reducible rfl
  rotate_left
  ·simp only [Act.put, List.setIfInBounds_toArray, List.set_cons_zero, List.set_cons_succ, i64_w, i32_w]
   rfl
  refine pure_ (i := 2) (N := some 18) (v := ?_) (a' := ?_) #[false, true, true, false, false, false, false] rfl rfl (by kernel_rfl) (fun _ _ _ h => h) (Or.inl ⟨(by rfl), ?_⟩) ?_ ?_
  rotate_left
  ·intro w'
   go_simp
   with_reducible rfl
  rotate_left
  ·simp only [Act.put, List.setIfInBounds_toArray, List.set_cons_zero, List.set_cons_succ, i64_w, i32_w]
   rfl
  refine take_ (i := 0) (N := some 16) (v := ?_) (a' := ?_) #[true, true, true, false, false, false, false] rfl rfl (by kernel_rfl) (fun _ _ _ h => h) (Or.inl ⟨(by rfl), ?_⟩) hHeld ?_ ?_
  rotate_left
  ·intro w' s0
   go_simp
   with_reducible rfl
  rotate_left
  ·simp only [Act.put, List.setIfInBounds_toArray, List.set_cons_zero, List.set_cons_succ, i64_w, i32_w]
   rfl
  refine one_ (i := 3) (N := some 19) #[true, true, true, true, false, false, false] rfl rfl (by kernel_rfl) (by decide) (fun K hK => ?_)
  refine goes_ Try.func31 (by kernel_rfl) rfl #[.pointer (some ⟨g942, 0, none⟩), .int .i64 3] (by rfl) rfl rfl y8 ?_
  with_reducible refine (spec_l71Type.calls k g942 t940 t951 3 t952 t955 w _ ?side1 ?side2 A7.out).mono ?_
  (case side1 => exact y26 HI942.out NB942_938.out NB942_939.out NB942_949.out)
  (case side2 => exact y24 HB.out HI942.out GE938.out GE939.out GE949.out)
  rintro e w22 ⟨v953, rfl, ho0, hi, hb, hk⟩
  refine ⟨_, rfl, ?_⟩
  have HO954 := Aside0.mk (Kd.N_lower (Kd.N_mono (ok' := fun k_ => (w.heap.size ≤ k_) ∧ some k_ ≠ (.slice Ao15 t945.length co15 : Value).ownBlock ∧ k_ ≠ gb938 ∧ k_ ≠ gb939 ∧ k_ ≠ gb949 ∧ k_ ≠ g942) ho0 (fun k_ hk_ => ⟨(Nat.le_trans (below_size (y24 HB.out HI942.out GE938.out GE939.out GE949.out)) hk_), (Kd.fresh' (Kd.N_lt (y3 HO947.out)) k_ hk_), (Kd.freshB (g := gb938) (o := .cells #[.slice none 0 0] 50 (0, 0)) (y0 BK938.out) k_ hk_), (Kd.freshB (g := gb939) (o := .cells #[.int .i64 0, .slice none 0 0] 25 (0, 0)) (y0 BK939.out) k_ hk_), (Kd.freshB (g := gb949) (o := .cells #[.slice Ao15 t945.length co15] 50 (0, 0)) (y0 BK949.out) k_ hk_), (IsS75.fresh (y26 HI942.out NB942_938.out NB942_939.out NB942_949.out) k_ hk_)⟩)) (below_size (y24 HB.out HI942.out GE938.out GE939.out GE949.out)))
  replace BK938 := Aside0.mk (KeepBut.blk hk (g' := gb938) (o := .cells #[.slice none 0 0] 50 (0, 0)) (y0 BK938.out) NB938_942.out (by simp))
  replace BK939 := Aside0.mk (KeepBut.blk hk (g' := gb939) (o := .cells #[.int .i64 0, .slice none 0 0] 25 (0, 0)) (y0 BK939.out) NB939_942.out (by simp))
  replace HO947 := Aside0.mk (Kd.N_mono (Kd.N_told (Kd.N_oldK (Kd.N_mono (ok := fun k_ => ((((w.heap.size ≤ k_)) ∧ (k_ ≠ gb938 ∧ (k_ ≠ gb939 ∧ k_ ≠ g942))) ∧ k_ ≠ gb949)) (y3 HO947.out) (fun k_ hk_ => (⟨hk_, hk_.1.2.2.2⟩ : _ ∧ k_ ≠ g942))) hk) (Kd.N_base ho0)) (fun _ h_ => h_.1))
  replace BK949 := Aside0.mk (KeepBut.blk hk (g' := gb949) (o := .cells #[.slice Ao15 t945.length co15] 50 (0, 0)) (y0 BK949.out) NB949_942.out (by simp))
  replace HB := Aside0.mk (hb)
  replace HI942 := Aside0.mk (hi)
  (try clear hb)
  (try clear hb2)
  (try clear hk)
  (try clear hi)
  (try clear ho0)
  obtain ⟨Ao23, co23, eo23⟩ := Kd.N_slice HO954.out
  (first | subst eo23 | (injection eo23 with f1_ f2_ f3_; have f4_ := f1_.symm; have f5_ := f3_.symm; clear f1_ f2_ f3_; subst f4_; subst f5_))
  refine hK.out _ _ ((blk_cell BK949.out 0).trans rfl) (fun hHeld => ?_)
  clear hK K
  refine norm_ (a' := ?_) ?_ ?_
  rotate_left
  ·show Act.put _ (some 19) _ = _
   simp only [Act.put, List.setIfInBounds_toArray, List.set_cons_zero, List.set_cons_succ, i64_w, i32_w]
   rfl
  refine one_ (i := 4) (N := some 20) #[true, true, true, true, true, false, false] rfl rfl (by kernel_rfl) (by decide) (fun K hK => ?_)
  refine goes_ Try.func33 (by kernel_rfl) rfl #[.pointer (some ⟨g942, 0, none⟩), .agg #[.slice Ao23 t952.length co23]] (by rfl) rfl rfl y8 ?_
  with_reducible refine (spec_l71Bad.calls k g942 t940 t955 (fun k_ => ((w.heap.size ≤ k_) ∧ (some k_ ≠ (.slice Ao15 t945.length co15 : Value).ownBlock ∧ (k_ ≠ gb938 ∧ (k_ ≠ gb939 ∧ (k_ ≠ gb949 ∧ k_ ≠ g942)))))) _ _ t952 t956 t957 t960 w _ ?side1 ?side2 ?side3 A8.out).mono ?_
  (case side1 => exact y26 HI942.out NB942_938.out NB942_939.out NB942_949.out)
  (case side2 => exact y24 HB.out HI942.out GE938.out GE939.out GE949.out)
  (case side3 => exact Kd.V_mono (Kd.N_V (HO954.out)) (fun k_ hk_ => ⟨hk_, hk_.2.2.2.2.2⟩))
  rintro e w24 ⟨v958, rfl, ho0, hi, hb, hk⟩
  refine ⟨_, rfl, ?_⟩
  replace HO954 := Aside0.mk (Kd.N_mono (Kd.N_told (Kd.N_oldK (Kd.N_mono (ok := fun k_ => (((w.heap.size ≤ k_)) ∧ (some k_ ≠ (.slice Ao15 t945.length co15 : Value).ownBlock ∧ (k_ ≠ gb938 ∧ (k_ ≠ gb939 ∧ (k_ ≠ gb949 ∧ k_ ≠ g942)))))) (y3 HO954.out) (fun k_ hk_ => (⟨hk_, hk_.2.2.2.2.2⟩ : _ ∧ k_ ≠ g942))) hk) (Kd.N_base ho0)) (fun _ h_ => h_.1))
  have HO959 := Aside0.mk (Kd.N_lower (Kd.N_mono (ok' := fun k_ => (w.heap.size ≤ k_) ∧ some k_ ≠ (.slice Ao15 t945.length co15 : Value).ownBlock ∧ k_ ≠ gb938 ∧ k_ ≠ gb939 ∧ k_ ≠ gb949 ∧ k_ ≠ g942) ho0 (fun k_ hk_ => ⟨Or.elim hk_ (fun hs_ => hs_.1) (fun hn_ => (Nat.le_trans (below_size (y24 HB.out HI942.out GE938.out GE939.out GE949.out)) hn_)), Or.elim hk_ (fun hs_ => hs_.2.1) (fun hn_ => (Kd.fresh' (Kd.N_lt (y3 HO947.out)) k_ hn_)), Or.elim hk_ (fun hs_ => hs_.2.2.1) (fun hn_ => (Kd.freshB (g := gb938) (o := .cells #[.slice none 0 0] 50 (0, 0)) (y0 BK938.out) k_ hn_)), Or.elim hk_ (fun hs_ => hs_.2.2.2.1) (fun hn_ => (Kd.freshB (g := gb939) (o := .cells #[.int .i64 0, .slice none 0 0] 25 (0, 0)) (y0 BK939.out) k_ hn_)), Or.elim hk_ (fun hs_ => hs_.2.2.2.2.1) (fun hn_ => (Kd.freshB (g := gb949) (o := .cells #[.slice Ao15 t945.length co15] 50 (0, 0)) (y0 BK949.out) k_ hn_)), Or.elim hk_ (fun hs_ => hs_.2.2.2.2.2) (fun hn_ => (IsS75.fresh (y26 HI942.out NB942_938.out NB942_939.out NB942_949.out) k_ hn_))⟩)) (below_size (y24 HB.out HI942.out GE938.out GE939.out GE949.out)))
  replace BK938 := Aside0.mk (KeepBut.blk hk (g' := gb938) (o := .cells #[.slice none 0 0] 50 (0, 0)) (y0 BK938.out) NB938_942.out (by simp))
  replace BK939 := Aside0.mk (KeepBut.blk hk (g' := gb939) (o := .cells #[.int .i64 0, .slice none 0 0] 25 (0, 0)) (y0 BK939.out) NB939_942.out (by simp))
  replace HO947 := Aside0.mk (Kd.N_mono (Kd.N_told (Kd.N_oldK (Kd.N_mono (ok := fun k_ => (((((w.heap.size ≤ k_)) ∧ (k_ ≠ gb938 ∧ (k_ ≠ gb939 ∧ k_ ≠ g942))) ∧ k_ ≠ gb949) ∧ some k_ ≠ (.slice Ao23 t952.length co23 : Value).ownBlock)) (y3 HO947.out) (fun k_ hk_ => (⟨hk_, hk_.1.1.2.2.2⟩ : _ ∧ k_ ≠ g942))) hk) (Kd.N_base ho0)) (fun _ h_ => h_.1))
  replace BK949 := Aside0.mk (KeepBut.blk hk (g' := gb949) (o := .cells #[.slice Ao15 t945.length co15] 50 (0, 0)) (y0 BK949.out) NB949_942.out (by simp))
  replace HB := Aside0.mk (hb)
  replace HI942 := Aside0.mk (hi)
  (try clear hb)
  (try clear hb2)
  (try clear hk)
  (try clear hi)
  (try clear ho0)
  obtain ⟨Ao27, co27, eo27⟩ := Kd.N_slice HO959.out
  (first | subst eo27 | (injection eo27 with f1_ f2_ f3_; have f4_ := f1_.symm; have f5_ := f3_.symm; clear f1_ f2_ f3_; subst f4_; subst f5_))
  refine hK.out _ _ ((blk_cell BK949.out 0).trans rfl) (fun hHeld => ?_)
  clear hK K
  refine norm_ (a' := ?_) ?_ ?_
  rotate_left
  ·show Act.put _ (some 20) _ = _
   simp only [Act.put, List.setIfInBounds_toArray, List.set_cons_zero, List.set_cons_succ, i64_w, i32_w]
   rfl
  refine one_ (i := 5) (N := none) #[true, true, true, true, true, true, false] rfl rfl (by kernel_rfl) (by decide) (fun K hK => ?_)
  have hs25 : w24.cell? ⟨gb938, 0, none⟩ = some (.slice none 0 0) := (blk_cell BK938.out 0).trans rfl
  have hfs25 := zfr BK938 0
  have hns25_1 := NB939_938.out
  have hns25_2 := NB949_938.out
  have hms25_1 := NB938_939.out
  have hms25_2 := NB938_949.out
  refine skip_ (w1 := ?_) (by rfl) rfl ?_ ?_
  rotate_left
  ·go_simp
   rfl
  refine hK.out _ _ (((cell_far (p := ⟨gb938, _, none⟩) NB949_938.out _).trans (hHeld))) (fun hHeld => ?_)
  clear hK K
  refine one_ (i := 6) (N := none) #[true, true, true, true, true, true, true] rfl rfl (by kernel_rfl) (by decide) (fun K hK => ?_)
  have hs26 : w24.cell? ⟨gb939, 0, none⟩ = some (.int .i64 0) := (blk_cell BK939.out 0).trans rfl
  have hfs26 := zfr BK939 0
  have hns26_0 := NB938_939.out
  have hns26_2 := NB949_939.out
  have hms26_0 := NB939_938.out
  have hms26_2 := NB939_949.out
  have hs28 : w24.cell? ⟨gb939, 1, none⟩ = some (.slice none 0 0) := (blk_cell BK939.out 1).trans rfl
  have hfs28 := zfr BK939 1
  have hns28_0 := NB938_939.out
  have hns28_2 := NB949_939.out
  have hms28_0 := NB939_938.out
  have hms28_2 := NB939_949.out
  refine skip_ (w1 := ?_) (by rfl) rfl ?_ ?_
  rotate_left
  ·go_simp
   rfl
  refine hK.out _ _ (((cell_far (p := ⟨gb939, _, none⟩) NB949_939.out _).trans (((cell_far (p := ⟨gb939, _, none⟩) NB949_939.out _).trans (hHeld))))) (fun hHeld => ?_)
  clear hK K
  refine done_ (by kernel_rfl) ?_
  try go_wp2
  refine bodyPost_ret (results_cc rfl _ _ gb938 gb939 50 25 #[.slice Ao15 t945.length co15] #[.int .i64 t956, .slice Ao27 t957.length co27] (0, 0) (0, 0) _ _ rfl (by (with_reducible repeat (first | refine blk_drewN ?_ _ | refine blk_drew ?_ | refine blk_alloc ?_ _)); refine blk_far ?_ NB938_939.out _; (with_reducible repeat (first | refine blk_drewN ?_ _ | refine blk_drew ?_ | refine blk_alloc ?_ _)); refine blk_far ?_ NB938_939.out _; (with_reducible repeat (first | refine blk_drewN ?_ _ | refine blk_drew ?_ | refine blk_alloc ?_ _)); apply blk_put (i := 0); (case h => exact y0 BK938.out); (case e => rfl)) Try.underlying50 rfl (by kernel_rfl) rfl (by (with_reducible repeat (first | refine blk_drewN ?_ _ | refine blk_drew ?_ | refine blk_alloc ?_ _)); refine blk_put (cs := #[.int .i64 t956, .slice none 0 0]) ?_ 1 _ rfl; (with_reducible repeat (first | refine blk_drewN ?_ _ | refine blk_drew ?_ | refine blk_alloc ?_ _)); refine blk_put (cs := #[.int .i64 0, .slice none 0 0]) ?_ 0 _ rfl; (with_reducible repeat (first | refine blk_drewN ?_ _ | refine blk_drew ?_ | refine blk_alloc ?_ _)); refine blk_far ?_ NB939_938.out _; (with_reducible repeat (first | refine blk_drewN ?_ _ | refine blk_drew ?_ | refine blk_alloc ?_ _)); exact BK939.out) Try.underlying25 rfl (by kernel_rfl)) rfl ?_
  exact ⟨_, _, y19, Kd.N_V (by (with_reducible repeat (first | apply Kd.N_alloc | apply Kd.N_drewN | apply Kd.N_drew)); exact Kd.N_mono (Kd.N_far (p := ⟨gb939, 1, none⟩) (Kd.N_far (p := ⟨gb939, 0, none⟩) (Kd.N_far (p := ⟨gb938, 0, none⟩) (Kd.N_mono (Kd.N_mono HO947.out (fun k_ hk => (⟨hk, hk.1.1.1.2.1⟩ : _ ∧ k_ ≠ gb938))) (fun k_ hk => (⟨hk, hk.1.1.1.1.2.2.1⟩ : _ ∧ k_ ≠ gb939))) (fun _ hk => hk.1.2) (.slice Ao15 t945.length co15)) (fun _ hk => hk.2) (.int .i64 t956)) (fun _ hk => hk.2) (.slice Ao27 t957.length co27)) (fun _ hk => hk.1.1.1.1.1.1)), Kd.N_V (by (with_reducible repeat (first | apply Kd.N_alloc | apply Kd.N_drewN | apply Kd.N_drew)); exact Kd.N_mono (Kd.N_far (p := ⟨gb939, 1, none⟩) (Kd.N_far (p := ⟨gb939, 0, none⟩) (Kd.N_far (p := ⟨gb938, 0, none⟩) (Kd.N_mono (Kd.N_mono HO959.out (fun k_ hk => (⟨hk, hk.2.2.1⟩ : _ ∧ k_ ≠ gb938))) (fun k_ hk => (⟨hk, hk.1.2.2.2.1⟩ : _ ∧ k_ ≠ gb939))) (fun _ hk => hk.1.2) (.slice Ao15 t945.length co15)) (fun _ hk => hk.2) (.int .i64 t956)) (fun _ hk => hk.2) (.slice Ao27 t957.length co27)) (fun _ hk => hk.1.1.1)), (y24 HB.out HI942.out GE938.out GE939.out GE949.out)⟩
 ·rw [if_neg c6] at H
  have c6b0 : (t950 == 0) = false := beq_eq_false_iff_ne.mpr c6
  have c6b1 : (t950 != 0) = true := bne_iff_ne.mpr c6
  obtain ⟨⟨t961, t962, t965⟩, A290, H⟩ := ob H
  have A29 := Aside0.mk A290
  clear A290
  simp only [Option.some.injEq, Prod.mk.injEq] at H
  obtain ⟨rfl, rfl, rfl⟩ := H
  go_enter Try.func27, Try.ntmps27
  try go_wp2_with (first | ((with_reducible refine gate_dst (N := 2) rfl ?_); refine zbx 2 #[.slice none 0 0] 50 ?_; intro gb938 hg w30 hbox hb; have BK938 := Aside0.mk hbox; have GW938 := Aside0.mk ((y9 hg HB.out : w.heap.size ≤ gb938)); have GE938 := Aside0.mk ((y9 hg HB.out : w.heap.size ≤ gb938)); replace HB := Aside0.mk (below_step (y5 HB.out) hb); clear hb hbox hg) | ((with_reducible refine gate_dst (N := 3) rfl ?_); refine zbx 3 #[.int .i64 0, .slice none 0 0] 25 ?_; intro gb939 hg w31 hbox hb; have BK939 := Aside0.mk hbox; have GW939 := Aside0.mk ((y11 hg HB.out GE938.out : w.heap.size ≤ gb939)); have GE939 := Aside0.mk ((y11 hg HB.out GE938.out : w.heap.size ≤ gb939)); replace HB := Aside0.mk (below_step (y6 HB.out GE938.out) hb); have NB938_939 := zltn hg BK938; have NB939_938 := zgtn hg BK938; replace BK938 := zbb BK938 hb; clear hb hbox hg) | ((with_reducible refine gate_callee (f := 30) rfl ?_); refine goesL_ (some 7) rfl rfl Try.func30 (by kernel_rfl) rfl #[.slice A0 l0.length c0] rfl y8 ?_; (with_reducible refine (spec_l6Open.calls _ _ l0 t940 t941 w _ ?side1 ?side2 ?side3 A2.out).mono ?_); (case side1 => exact y2 HB.out GE938.out GE939.out); (case side2 => exact HR0.out); (case side3 => exact HC0.out); rintro e w32 ⟨g942, rfl, hi, hb, hb2⟩; refine ⟨_, rfl, ?_⟩; replace HB := Aside0.mk (hb); have HI942 := Aside0.mk (hi); have NB942_938 := Aside0.mk (IsS75.ne_blk hi (blk_below (g := gb938) (o := .cells #[.slice none 0 0] 50 (0, 0)) (y0 BK938.out) hb2) (by decide)); have NB938_942 := Aside0.mk (Ne.symm (IsS75.ne_blk hi (blk_below (g := gb938) (o := .cells #[.slice none 0 0] 50 (0, 0)) (y0 BK938.out) hb2) (by decide))); replace BK938 := Aside0.mk (blk_below (g := gb938) (o := .cells #[.slice none 0 0] 50 (0, 0)) (y0 BK938.out) hb2); have NB942_939 := Aside0.mk (IsS75.ne_blk hi (blk_below (g := gb939) (o := .cells #[.int .i64 0, .slice none 0 0] 25 (0, 0)) (y0 BK939.out) hb2) (by decide)); have NB939_942 := Aside0.mk (Ne.symm (IsS75.ne_blk hi (blk_below (g := gb939) (o := .cells #[.int .i64 0, .slice none 0 0] 25 (0, 0)) (y0 BK939.out) hb2) (by decide))); replace BK939 := Aside0.mk (blk_below (g := gb939) (o := .cells #[.int .i64 0, .slice none 0 0] 25 (0, 0)) (y0 BK939.out) hb2); (try clear hb); (try clear hb2); (try clear hk); (try clear hi)) | ((with_reducible refine gate_callee (f := 32) rfl ?_); refine goesL_ (some 10) rfl rfl Try.func32 (by kernel_rfl) rfl #[.pointer (some ⟨g942, 0, none⟩), .int .i64 4] rfl y8 ?_; (with_reducible refine (spec_l6Rd_pick.calls k g942 t940 t941 4 t943 t944 w _ ?side1 ?side2 A3.out).mono ?_); (case side1 => exact y21 HI942.out NB942_938.out NB942_939.out); (case side2 => exact y17 HB.out HI942.out GE938.out GE939.out); rintro e w33 ⟨rfl, hi, hb, hk⟩; refine ⟨_, rfl, ?_⟩; replace BK938 := Aside0.mk (KeepBut.blk hk (g' := gb938) (o := .cells #[.slice none 0 0] 50 (0, 0)) (y0 BK938.out) NB938_942.out (by simp)); replace BK939 := Aside0.mk (KeepBut.blk hk (g' := gb939) (o := .cells #[.int .i64 0, .slice none 0 0] 25 (0, 0)) (y0 BK939.out) NB939_942.out (by simp)); replace HB := Aside0.mk (hb); replace HI942 := Aside0.mk (hi); (try clear hb); (try clear hb2); (try clear hk); (try clear hi)) | ((with_reducible refine gate_callee (f := 31) rfl ?_); refine goesL_ (some 12) rfl rfl Try.func31 (by kernel_rfl) rfl #[.pointer (some ⟨g942, 0, none⟩), .int .i64 (wrap64 (1 + t943))] rfl y8 ?_; (with_reducible refine (spec_l71Type.calls k g942 t940 t944 (wrap64 (1 + t943)) t945 t948 w _ ?side1 ?side2 A4.out).mono ?_); (case side1 => exact y21 HI942.out NB942_938.out NB942_939.out); (case side2 => exact y17 HB.out HI942.out GE938.out GE939.out); rintro e w34 ⟨v946, rfl, ho0, hi, hb, hk⟩; refine ⟨_, rfl, ?_⟩; have HO947 := Aside0.mk (Kd.N_lower (Kd.N_mono (ok' := fun k_ => (w.heap.size ≤ k_) ∧ k_ ≠ gb938 ∧ k_ ≠ gb939 ∧ k_ ≠ g942) ho0 (fun k_ hk_ => ⟨(Nat.le_trans (below_size (y17 HB.out HI942.out GE938.out GE939.out)) hk_), (Kd.freshB (g := gb938) (o := .cells #[.slice none 0 0] 50 (0, 0)) (y0 BK938.out) k_ hk_), (Kd.freshB (g := gb939) (o := .cells #[.int .i64 0, .slice none 0 0] 25 (0, 0)) (y0 BK939.out) k_ hk_), (IsS75.fresh (y21 HI942.out NB942_938.out NB942_939.out) k_ hk_)⟩)) (below_size (y17 HB.out HI942.out GE938.out GE939.out))); replace BK938 := Aside0.mk (KeepBut.blk hk (g' := gb938) (o := .cells #[.slice none 0 0] 50 (0, 0)) (y0 BK938.out) NB938_942.out (by simp)); replace BK939 := Aside0.mk (KeepBut.blk hk (g' := gb939) (o := .cells #[.int .i64 0, .slice none 0 0] 25 (0, 0)) (y0 BK939.out) NB939_942.out (by simp)); replace HB := Aside0.mk (hb); replace HI942 := Aside0.mk (hi); (try clear hb); (try clear hb2); (try clear hk); (try clear hi); (try clear ho0)) | ((with_reducible refine gate_dst (N := 5) rfl ?_); refine zbx 5 #[.slice none 0 0] 50 ?_; intro gb949 hg w35 hbox hb; replace HO947 := Aside0.mk (Kd.N_below (Kd.N_elderB (y3 HO947.out) gb949 (Nat.le_of_eq hg.symm)) hb); have BK949 := Aside0.mk hbox; have GW949 := Aside0.mk ((y45 hg HB.out HI942.out GE938.out GE939.out : w.heap.size ≤ gb949)); have GE949 := Aside0.mk ((y45 hg HB.out HI942.out GE938.out GE939.out : w.heap.size ≤ gb949)); replace HB := Aside0.mk (below_step (y17 HB.out HI942.out GE938.out GE939.out) hb); have NB938_949 := zltn hg BK938; have NB949_938 := zgtn hg BK938; replace BK938 := zbb BK938 hb; have NB939_949 := zltn hg BK939; have NB949_939 := zgtn hg BK939; replace BK939 := zbb BK939 hb; have NB942_949 := Aside0.mk ((by rw [hg]; exact Nat.ne_of_lt (IsS75.lt (show IsS75 w _ g942 t940 t948 from by repeat (first | (with_reducible first | exact HI942.out | apply IsS75.alloc | apply IsS75.drewN | apply IsS75.drew | apply IsS75.set_1 | refine IsS75.far ?_ NB942_938.out _ | refine IsS75.far ?_ NB942_939.out _) | exact HI942.out))) : g942 ≠ gb949)); have NB949_942 := Aside0.mk ((by rw [hg]; exact Nat.ne_of_gt (IsS75.lt (show IsS75 w _ g942 t940 t948 from by repeat (first | (with_reducible first | exact HI942.out | apply IsS75.alloc | apply IsS75.drewN | apply IsS75.drew | apply IsS75.set_1 | refine IsS75.far ?_ NB942_938.out _ | refine IsS75.far ?_ NB942_939.out _) | exact HI942.out))) : gb949 ≠ g942)); replace HI942 := Aside0.mk (IsS75.below (y21 HI942.out NB942_938.out NB942_939.out) hb); clear hb hbox hg; obtain ⟨Ao36, co36, eo36⟩ := Kd.N_slice HO947.out; subst eo36; have hnb37 := NB949_938.out; have hnc37 := NB938_949.out; have hnb38 := NB949_939.out; have hnc38 := NB939_949.out; have hnb39 := NB949_942.out; have hnc39 := NB942_949.out; have hcz40_0 := zh BK949; have hfz40_0 := zfr BK949 0) | ((with_reducible refine gate_callee (f := 32) rfl ?_); refine goesL_ (some 14) rfl rfl Try.func32 (by kernel_rfl) rfl #[.pointer (some ⟨g942, 0, none⟩), .int .i64 5] rfl y8 ?_; (with_reducible refine (spec_l6Rd_pick.calls k g942 t940 t948 5 t950 t951 w _ ?side1 ?side2 A5.out).mono ?_); (case side1 => exact y26 HI942.out NB942_938.out NB942_939.out NB942_949.out); (case side2 => exact y24 HB.out HI942.out GE938.out GE939.out GE949.out); rintro e w41 ⟨rfl, hi, hb, hk⟩; refine ⟨_, rfl, ?_⟩; replace BK938 := Aside0.mk (KeepBut.blk hk (g' := gb938) (o := .cells #[.slice none 0 0] 50 (0, 0)) (y13 NB938_949.out BK938.out) NB938_942.out (by simp)); replace BK939 := Aside0.mk (KeepBut.blk hk (g' := gb939) (o := .cells #[.int .i64 0, .slice none 0 0] 25 (0, 0)) (y13 NB939_949.out BK939.out) NB939_942.out (by simp)); replace HO947 := Aside0.mk (Kd.N_mono (Kd.N_keep (Kd.N_mono (ok := fun k_ => ((((w.heap.size ≤ k_)) ∧ (k_ ≠ gb938 ∧ (k_ ≠ gb939 ∧ k_ ≠ g942))) ∧ k_ ≠ gb949)) (by (with_reducible repeat (first | apply Kd.N_alloc | apply Kd.N_drewN | apply Kd.N_drew)); exact (Kd.N_mono (Kd.N_far (p := ⟨gb949, 0, none⟩) (Kd.N_mono HO947.out (fun k_ hk => (⟨hk, hk.2⟩ : _ ∧ k_ ≠ gb949))) (fun _ hk => hk.2) (.slice Ao36 t945.length co36)) (fun _ h_ => h_.1))) (fun k_ hk_ => (⟨hk_, hk_.1.2.2.2⟩ : _ ∧ k_ ≠ g942))) hk (fun _ h => h.2)) (fun _ h => h.1)); replace BK949 := Aside0.mk (KeepBut.blk hk (g' := gb949) (o := .cells #[.slice Ao36 t945.length co36] 50 (0, 0)) (by (with_reducible repeat (first | refine blk_drewN ?_ _ | refine blk_drew ?_ | refine blk_alloc ?_ _)); apply blk_put (i := 0); (case h => exact y0 BK949.out); (case e => rfl)) NB949_942.out (by simp)); replace HB := Aside0.mk (hb); replace HI942 := Aside0.mk (hi); (try clear hb); (try clear hb2); (try clear hk); (try clear hi)))
  replace HO947 := Aside0.mk (Kd.N_drew HO947.out)
  replace BK938 := Aside0.mk (blk_drew BK938.out)
  replace BK939 := Aside0.mk (blk_drew BK939.out)
  replace BK949 := Aside0.mk (blk_drew BK949.out)
  replace HI942 := Aside0.mk (IsS75.drew HI942.out)
  replace HB := Aside0.mk (below_drew1 HB.out)
  refine start_ (n := 6) (S := fun w' => w'.cell? ⟨gb949, 0, none⟩ = some (.slice Ao36 t945.length co36)) (ds := []) #[false, false, false, false, false, false] (by kernel_rfl) rfl rfl ((blk_cell BK949.out 0).trans rfl) (fun hHeld => ?_)
  generalize w41.drew = w42 at HO947 BK938 BK939 BK949 HI942 HB hHeld ⊢
  refine pure_ (i := 1) (N := some 22) (v := ?_) (a' := ?_) #[false, true, false, false, false, false] rfl rfl (by kernel_rfl) (fun _ _ _ h => h) (Or.inl ⟨(by rfl), ?_⟩) ?_ ?_
  rotate_left
  ·intro w'
   go_simp
   with_reducible rfl
  rotate_left
  ·simp only [Act.put, List.setIfInBounds_toArray, List.set_cons_zero, List.set_cons_succ, i64_w, i32_w]
   rfl
  refine take_ (i := 0) (N := some 21) (v := ?_) (a' := ?_) #[true, true, false, false, false, false] rfl rfl (by kernel_rfl) (fun _ _ _ h => h) (Or.inl ⟨(by rfl), ?_⟩) hHeld ?_ ?_
  rotate_left
  ·intro w' s0
   go_simp
   with_reducible rfl
  rotate_left
  ·simp only [Act.put, List.setIfInBounds_toArray, List.set_cons_zero, List.set_cons_succ, i64_w, i32_w]
   rfl
  refine take_ (i := 2) (N := some 23) (v := ?_) (a' := ?_) #[true, true, true, false, false, false] rfl rfl (by kernel_rfl) (fun _ _ _ h => h) (Or.inl ⟨(by rfl), ?_⟩) hHeld ?_ ?_
  rotate_left
  ·intro w' s0
   go_simp
   with_reducible rfl
  rotate_left
  ·simp only [Act.put, List.setIfInBounds_toArray, List.set_cons_zero, List.set_cons_succ, i64_w, i32_w]
   rfl
  refine one_ (i := 3) (N := some 24) #[true, true, true, true, false, false] rfl rfl (by kernel_rfl) (by decide) (fun K hK => ?_)
  refine goes_ Try.func33 (by kernel_rfl) rfl #[.pointer (some ⟨g942, 0, none⟩), .agg #[.slice Ao36 t945.length co36]] (by rfl) rfl rfl y8 ?_
  with_reducible refine (spec_l71Bad.calls k g942 t940 t951 (fun k_ => (((w.heap.size ≤ k_) ∧ (k_ ≠ gb938 ∧ (k_ ≠ gb939 ∧ k_ ≠ g942))) ∧ k_ ≠ gb949)) _ _ t945 t961 t962 t965 w _ ?side1 ?side2 ?side3 A29.out).mono ?_
  (case side1 => exact y26 HI942.out NB942_938.out NB942_939.out NB942_949.out)
  (case side2 => exact y24 HB.out HI942.out GE938.out GE939.out GE949.out)
  (case side3 => exact Kd.V_mono (Kd.N_V (HO947.out)) (fun k_ hk_ => ⟨hk_, hk_.1.2.2.2⟩))
  rintro e w43 ⟨v963, rfl, ho0, hi, hb, hk⟩
  refine ⟨_, rfl, ?_⟩
  replace HO947 := Aside0.mk (Kd.N_mono (Kd.N_told (Kd.N_oldK (Kd.N_mono (ok := fun k_ => ((((w.heap.size ≤ k_)) ∧ (k_ ≠ gb938 ∧ (k_ ≠ gb939 ∧ k_ ≠ g942))) ∧ k_ ≠ gb949)) (y3 HO947.out) (fun k_ hk_ => (⟨hk_, hk_.1.2.2.2⟩ : _ ∧ k_ ≠ g942))) hk) (Kd.N_base ho0)) (fun _ h_ => h_.1))
  have HO964 := Aside0.mk (Kd.N_lower (Kd.N_mono (ok' := fun k_ => (w.heap.size ≤ k_) ∧ k_ ≠ gb938 ∧ k_ ≠ gb939 ∧ k_ ≠ gb949 ∧ k_ ≠ g942) ho0 (fun k_ hk_ => ⟨Or.elim hk_ (fun hs_ => hs_.1.1) (fun hn_ => (Nat.le_trans (below_size (y24 HB.out HI942.out GE938.out GE939.out GE949.out)) hn_)), Or.elim hk_ (fun hs_ => hs_.1.2.1) (fun hn_ => (Kd.freshB (g := gb938) (o := .cells #[.slice none 0 0] 50 (0, 0)) (y0 BK938.out) k_ hn_)), Or.elim hk_ (fun hs_ => hs_.1.2.2.1) (fun hn_ => (Kd.freshB (g := gb939) (o := .cells #[.int .i64 0, .slice none 0 0] 25 (0, 0)) (y0 BK939.out) k_ hn_)), Or.elim hk_ (fun hs_ => hs_.2) (fun hn_ => (Kd.freshB (g := gb949) (o := .cells #[.slice Ao36 t945.length co36] 50 (0, 0)) (y0 BK949.out) k_ hn_)), Or.elim hk_ (fun hs_ => hs_.1.2.2.2) (fun hn_ => (IsS75.fresh (y26 HI942.out NB942_938.out NB942_939.out NB942_949.out) k_ hn_))⟩)) (below_size (y24 HB.out HI942.out GE938.out GE939.out GE949.out)))
  replace BK938 := Aside0.mk (KeepBut.blk hk (g' := gb938) (o := .cells #[.slice none 0 0] 50 (0, 0)) (y0 BK938.out) NB938_942.out (by simp))
  replace BK939 := Aside0.mk (KeepBut.blk hk (g' := gb939) (o := .cells #[.int .i64 0, .slice none 0 0] 25 (0, 0)) (y0 BK939.out) NB939_942.out (by simp))
  replace BK949 := Aside0.mk (KeepBut.blk hk (g' := gb949) (o := .cells #[.slice Ao36 t945.length co36] 50 (0, 0)) (y0 BK949.out) NB949_942.out (by simp))
  replace HB := Aside0.mk (hb)
  replace HI942 := Aside0.mk (hi)
  (try clear hb)
  (try clear hb2)
  (try clear hk)
  (try clear hi)
  (try clear ho0)
  obtain ⟨Ao46, co46, eo46⟩ := Kd.N_slice HO964.out
  (first | subst eo46 | (injection eo46 with f1_ f2_ f3_; have f4_ := f1_.symm; have f5_ := f3_.symm; clear f1_ f2_ f3_; subst f4_; subst f5_))
  refine hK.out _ _ ((blk_cell BK949.out 0).trans rfl) (fun hHeld => ?_)
  clear hK K
  refine norm_ (a' := ?_) ?_ ?_
  rotate_left
  ·show Act.put _ (some 24) _ = _
   simp only [Act.put, List.setIfInBounds_toArray, List.set_cons_zero, List.set_cons_succ, i64_w, i32_w]
   rfl
  refine one_ (i := 4) (N := none) #[true, true, true, true, true, false] rfl rfl (by kernel_rfl) (by decide) (fun K hK => ?_)
  have hs44 : w43.cell? ⟨gb938, 0, none⟩ = some (.slice none 0 0) := (blk_cell BK938.out 0).trans rfl
  have hfs44 := zfr BK938 0
  have hns44_1 := NB939_938.out
  have hns44_2 := NB949_938.out
  have hms44_1 := NB938_939.out
  have hms44_2 := NB938_949.out
  refine skip_ (w1 := ?_) (by rfl) rfl ?_ ?_
  rotate_left
  ·go_simp
   rfl
  refine hK.out _ _ (((cell_far (p := ⟨gb938, _, none⟩) NB949_938.out _).trans (hHeld))) (fun hHeld => ?_)
  clear hK K
  refine one_ (i := 5) (N := none) #[true, true, true, true, true, true] rfl rfl (by kernel_rfl) (by decide) (fun K hK => ?_)
  have hs45 : w43.cell? ⟨gb939, 0, none⟩ = some (.int .i64 0) := (blk_cell BK939.out 0).trans rfl
  have hfs45 := zfr BK939 0
  have hns45_0 := NB938_939.out
  have hns45_2 := NB949_939.out
  have hms45_0 := NB939_938.out
  have hms45_2 := NB939_949.out
  have hs47 : w43.cell? ⟨gb939, 1, none⟩ = some (.slice none 0 0) := (blk_cell BK939.out 1).trans rfl
  have hfs47 := zfr BK939 1
  have hns47_0 := NB938_939.out
  have hns47_2 := NB949_939.out
  have hms47_0 := NB939_938.out
  have hms47_2 := NB939_949.out
  refine skip_ (w1 := ?_) (by rfl) rfl ?_ ?_
  rotate_left
  ·go_simp
   rfl
  refine hK.out _ _ (((cell_far (p := ⟨gb939, _, none⟩) NB949_939.out _).trans (((cell_far (p := ⟨gb939, _, none⟩) NB949_939.out _).trans (hHeld))))) (fun hHeld => ?_)
  clear hK K
  refine done_ (by kernel_rfl) ?_
  try go_wp2
  refine bodyPost_ret (results_cc rfl _ _ gb938 gb939 50 25 #[.slice Ao36 t945.length co36] #[.int .i64 t961, .slice Ao46 t962.length co46] (0, 0) (0, 0) _ _ rfl (by (with_reducible repeat (first | refine blk_drewN ?_ _ | refine blk_drew ?_ | refine blk_alloc ?_ _)); refine blk_far ?_ NB938_939.out _; (with_reducible repeat (first | refine blk_drewN ?_ _ | refine blk_drew ?_ | refine blk_alloc ?_ _)); refine blk_far ?_ NB938_939.out _; (with_reducible repeat (first | refine blk_drewN ?_ _ | refine blk_drew ?_ | refine blk_alloc ?_ _)); apply blk_put (i := 0); (case h => exact y0 BK938.out); (case e => rfl)) Try.underlying50 rfl (by kernel_rfl) rfl (by (with_reducible repeat (first | refine blk_drewN ?_ _ | refine blk_drew ?_ | refine blk_alloc ?_ _)); refine blk_put (cs := #[.int .i64 t961, .slice none 0 0]) ?_ 1 _ rfl; (with_reducible repeat (first | refine blk_drewN ?_ _ | refine blk_drew ?_ | refine blk_alloc ?_ _)); refine blk_put (cs := #[.int .i64 0, .slice none 0 0]) ?_ 0 _ rfl; (with_reducible repeat (first | refine blk_drewN ?_ _ | refine blk_drew ?_ | refine blk_alloc ?_ _)); refine blk_far ?_ NB939_938.out _; (with_reducible repeat (first | refine blk_drewN ?_ _ | refine blk_drew ?_ | refine blk_alloc ?_ _)); exact BK939.out) Try.underlying25 rfl (by kernel_rfl)) rfl ?_
  exact ⟨_, _, y19, Kd.N_V (by (with_reducible repeat (first | apply Kd.N_alloc | apply Kd.N_drewN | apply Kd.N_drew)); exact Kd.N_mono (Kd.N_far (p := ⟨gb939, 1, none⟩) (Kd.N_far (p := ⟨gb939, 0, none⟩) (Kd.N_far (p := ⟨gb938, 0, none⟩) (Kd.N_mono (Kd.N_mono HO947.out (fun k_ hk => (⟨hk, hk.1.1.2.1⟩ : _ ∧ k_ ≠ gb938))) (fun k_ hk => (⟨hk, hk.1.1.1.2.2.1⟩ : _ ∧ k_ ≠ gb939))) (fun _ hk => hk.1.2) (.slice Ao36 t945.length co36)) (fun _ hk => hk.2) (.int .i64 t961)) (fun _ hk => hk.2) (.slice Ao46 t962.length co46)) (fun _ hk => hk.1.1.1.1.1)), Kd.N_V (by (with_reducible repeat (first | apply Kd.N_alloc | apply Kd.N_drewN | apply Kd.N_drew)); exact Kd.N_mono (Kd.N_far (p := ⟨gb939, 1, none⟩) (Kd.N_far (p := ⟨gb939, 0, none⟩) (Kd.N_far (p := ⟨gb938, 0, none⟩) (Kd.N_mono (Kd.N_mono HO964.out (fun k_ hk => (⟨hk, hk.2.1⟩ : _ ∧ k_ ≠ gb938))) (fun k_ hk => (⟨hk, hk.1.2.2.1⟩ : _ ∧ k_ ≠ gb939))) (fun _ hk => hk.1.2) (.slice Ao36 t945.length co36)) (fun _ hk => hk.2) (.int .i64 t961)) (fun _ hk => hk.2) (.slice Ao46 t962.length co46)) (fun _ hk => hk.1.1.1)), (y24 HB.out HI942.out GE938.out GE939.out GE949.out)⟩
end Go.Proofs.Ythfflieeifakdaa.PA
end
