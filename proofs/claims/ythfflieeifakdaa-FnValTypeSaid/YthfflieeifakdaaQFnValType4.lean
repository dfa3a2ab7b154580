-- Ythfflieeifakdaa's texts for the statement FnValType, one behind the other (merge.py).
import Derived.Test.YthfflieeifakdaaQFnValType0
import Derived.Test.YthfflieeifakdaaQFnValType2
import Derived.Test.YthfflieeifakdaaQFnValType1
import Derived.Test.YthfflieeifakdaaQFnValType3
import Derived.OpenShut
import Derived.Laws.BitsLemmas
section
namespace Go.Proofs.Ythfflieeifakdaa.PA
open Go.RowKit Go.Proofs.YthfflieeifakdaaW.PrintWords Go.Proofs.YthfflieeifakdaaW.PrintLast Go.Proofs.YthfflieeifakdaaW.PrintMore
attribute [local go_sem] max2_int min2_int max_two min_two max_three min_three max_four min_four
set_option linter.unusedVariables false
set_option linter.unusedSimpArgs false
def spec_DrawValOk.f (k : Nat) (l0 : List Int) : Option ((List (S50)) × Int × (List (S25))) := (spec_l6Open.f l0).bind fun bt1069 => ((spec_l6Rd_pick.f k bt1069.1 bt1069.2 4).bind fun bt1072 => ((spec_l71Type.f k bt1069.1 bt1072.2 (wrap64 (1 + bt1072.1))).bind fun bt1074 => ((spec_l6Rd_pick.f k bt1069.1 bt1074.2 5).bind fun bt1079 => (if bt1079.1 = 0 then ((spec_l71Type.f k bt1069.1 bt1079.2 3).bind fun bt1081 => ((spec_l71Bad.f k bt1069.1 bt1081.2 bt1081.1).bind fun bt1085 => (some (bt1074.1, bt1085.1, bt1085.2.1)))) else ((spec_l71Bad.f k bt1069.1 bt1079.2 bt1074.1).bind fun bt1090 => (some (bt1074.1, bt1090.1, bt1090.2.1)))))))
theorem spec_DrawValOk.mono : ∀ a0 k, LeO (spec_DrawValOk.f k a0) (spec_DrawValOk.f (k + 1) a0) := by
 intro a0 k
 unfold spec_DrawValOk.f
 repeat' first
   | (with_reducible exact spec_l6Rd_pick.mono _ _ _ _)
   | (with_reducible exact spec_l71Bad.mono _ _ _ _)
   | (with_reducible exact spec_l71Type.mono _ _ _ _)
   | (with_reducible exact LeO.refl _)
   | (with_reducible exact LeO.none _)
   | (with_reducible refine LeO.ite ?_ ?_)
   | (with_reducible refine LeO.bind ?_ (fun _ => ?_))
   | exact spec_l6Rd_pick.mono _ _ _ _
   | exact spec_l71Bad.mono _ _ _ _
   | exact spec_l71Type.mono _ _ _ _
   | exact LeO.none _
   | refine LeO.ite ?_ ?_
   | refine LeO.bind ?_ (fun _ => ?_)
set_option maxHeartbeats 8000000 in
set_option maxRecDepth 100000 in
theorem spec_DrawValOk.calls (k : Nat) (A0 : Option Addr) (c0 : Nat) (l0 : List Int) (r1 : List (S50)) (r2 : Int) (r3 : List (S25)) (w : World) (hr0 : Kd.C (Kd.int .u8) w A0 l0.length l0) (hc0 : l0.length ≤ c0) (h : spec_DrawValOk.f k l0 = some (r1, r2, r3)) :
  Calls Try.prog 27 #[.slice A0 l0.length c0] w fun e w' => ∃ v0_ v2_ : Value, e = .returned (.tuple #[.agg #[v0_], .agg #[.int .i64 r2, v2_]]) ∧ Kd.V k50 50 w' w.heap.size (fun k_ => (w.heap.size ≤ k_)) v0_ r1 ∧ Kd.V k25 25 w' w.heap.size (fun k_ => (w.heap.size ≤ k_)) v2_ r3 ∧ Below w.heap.size w w' := by
 have hu50 := Try.underlying50
 have hu25 := Try.underlying25
 have HR0 := Aside0.mk hr0
 have HC0 := Aside0.mk hc0
 clear hr0 hc0
 have HB := Aside0.mk (Below.refl w.heap.size w)
 have H : ((spec_l6Open.f l0).bind fun bt1069 => ((spec_l6Rd_pick.f k bt1069.1 bt1069.2 4).bind fun bt1072 => ((spec_l71Type.f k bt1069.1 bt1072.2 (wrap64 (1 + bt1072.1))).bind fun bt1074 => ((spec_l6Rd_pick.f k bt1069.1 bt1074.2 5).bind fun bt1079 => (if bt1079.1 = 0 then ((spec_l71Type.f k bt1069.1 bt1079.2 3).bind fun bt1081 => ((spec_l71Bad.f k bt1069.1 bt1081.2 bt1081.1).bind fun bt1085 => (some (bt1074.1, bt1085.1, bt1085.2.1)))) else ((spec_l71Bad.f k bt1069.1 bt1079.2 bt1074.1).bind fun bt1090 => (some (bt1074.1, bt1090.1, bt1090.2.1)))))))) = some (r1, r2, r3) := h
 clear h
 obtain ⟨⟨t1069, t1070⟩, A20, H⟩ := ob H
 have A2 := Aside0.mk A20
 clear A20
 obtain ⟨⟨t1072, t1073⟩, A30, H⟩ := ob H
 have A3 := Aside0.mk A30
 clear A30
 obtain ⟨⟨t1074, t1077⟩, A40, H⟩ := ob H
 have A4 := Aside0.mk A40
 clear A40
 obtain ⟨⟨t1079, t1080⟩, A50, H⟩ := ob H
 have A5 := Aside0.mk A50
 clear A50
 have HZ6 := Aside0.mk H
 clear H
 go_enter Try.func27, Try.ntmps27
 go_upto_if 15 with (first | ((with_reducible refine gate_dst (N := 2) rfl ?_); refine zbx 2 #[.slice none 0 0] 50 ?_; intro gb1067 hg w7 hbox hb; have BK1067 := Aside0.mk hbox; have GW1067 := Aside0.mk ((y10 hg HB.out : w.heap.size ≤ gb1067)); have GE1067 := Aside0.mk ((y10 hg HB.out : w.heap.size ≤ gb1067)); replace HB := Aside0.mk (below_step (y6 HB.out) hb); clear hb hbox hg) | ((with_reducible refine gate_dst (N := 3) rfl ?_); refine zbx 3 #[.int .i64 0, .slice none 0 0] 25 ?_; intro gb1068 hg w8 hbox hb; have BK1068 := Aside0.mk hbox; have GW1068 := Aside0.mk ((y12 hg HB.out GE1067.out : w.heap.size ≤ gb1068)); have GE1068 := Aside0.mk ((y12 hg HB.out GE1067.out : w.heap.size ≤ gb1068)); replace HB := Aside0.mk (below_step (y7 HB.out GE1067.out) hb); have NB1067_1068 := zltn hg BK1067; have NB1068_1067 := zgtn hg BK1067; replace BK1067 := zbb BK1067 hb; clear hb hbox hg) | ((with_reducible refine gate_callee (f := 30) rfl ?_); refine goesL_ (some 7) rfl rfl Try.func30 (by kernel_rfl) rfl #[.slice A0 l0.length c0] rfl y9 ?_; (with_reducible refine (spec_l6Open.calls _ _ l0 t1069 t1070 w _ ?side1 ?side2 ?side3 A2.out).mono ?_); (case side1 => exact y3 HB.out GE1067.out GE1068.out); (case side2 => exact HR0.out); (case side3 => exact HC0.out); rintro e w9 ⟨g1071, rfl, hi, hb, hb2⟩; refine ⟨_, rfl, ?_⟩; replace HB := Aside0.mk (hb); have HI1071 := Aside0.mk (hi); have NB1071_1067 := Aside0.mk (IsS75.ne_blk hi (blk_below (g := gb1067) (o := .cells #[.slice none 0 0] 50 (0, 0)) (y0 BK1067.out) hb2) (by decide)); have NB1067_1071 := Aside0.mk (Ne.symm (IsS75.ne_blk hi (blk_below (g := gb1067) (o := .cells #[.slice none 0 0] 50 (0, 0)) (y0 BK1067.out) hb2) (by decide))); replace BK1067 := Aside0.mk (blk_below (g := gb1067) (o := .cells #[.slice none 0 0] 50 (0, 0)) (y0 BK1067.out) hb2); have NB1071_1068 := Aside0.mk (IsS75.ne_blk hi (blk_below (g := gb1068) (o := .cells #[.int .i64 0, .slice none 0 0] 25 (0, 0)) (y0 BK1068.out) hb2) (by decide)); have NB1068_1071 := Aside0.mk (Ne.symm (IsS75.ne_blk hi (blk_below (g := gb1068) (o := .cells #[.int .i64 0, .slice none 0 0] 25 (0, 0)) (y0 BK1068.out) hb2) (by decide))); replace BK1068 := Aside0.mk (blk_below (g := gb1068) (o := .cells #[.int .i64 0, .slice none 0 0] 25 (0, 0)) (y0 BK1068.out) hb2); (try clear hb); (try clear hb2); (try clear hk); (try clear hi)) | ((with_reducible refine gate_callee (f := 32) rfl ?_); refine goesL_ (some 10) rfl rfl Try.func32 (by kernel_rfl) rfl #[.pointer (some ⟨g1071, 0, none⟩), .int .i64 4] rfl y9 ?_; (with_reducible refine (spec_l6Rd_pick.calls k g1071 t1069 t1070 4 t1072 t1073 w _ ?side1 ?side2 A3.out).mono ?_); (case side1 => exact y24 HI1071.out NB1071_1067.out NB1071_1068.out); (case side2 => exact y19 HB.out HI1071.out GE1067.out GE1068.out); rintro e w10 ⟨rfl, hi, hb, hk⟩; refine ⟨_, rfl, ?_⟩; replace BK1067 := Aside0.mk (KeepBut.blk hk (g' := gb1067) (o := .cells #[.slice none 0 0] 50 (0, 0)) (y0 BK1067.out) NB1067_1071.out (by simp)); replace BK1068 := Aside0.mk (KeepBut.blk hk (g' := gb1068) (o := .cells #[.int .i64 0, .slice none 0 0] 25 (0, 0)) (y0 BK1068.out) NB1068_1071.out (by simp)); replace HB := Aside0.mk (hb); replace HI1071 := Aside0.mk (hi); (try clear hb); (try clear hb2); (try clear hk); (try clear hi)) | ((with_reducible refine gate_callee (f := 31) rfl ?_); refine goesL_ (some 12) rfl rfl Try.func31 (by kernel_rfl) rfl #[.pointer (some ⟨g1071, 0, none⟩), .int .i64 (wrap64 (1 + t1072))] rfl y9 ?_; (with_reducible refine (spec_l71Type.calls k g1071 t1069 t1073 (wrap64 (1 + t1072)) t1074 t1077 w _ ?side1 ?side2 A4.out).mono ?_); (case side1 => exact y24 HI1071.out NB1071_1067.out NB1071_1068.out); (case side2 => exact y19 HB.out HI1071.out GE1067.out GE1068.out); rintro e w11 ⟨v1075, rfl, ho0, hi, hb, hk⟩; refine ⟨_, rfl, ?_⟩; have HO1076 := Aside0.mk (Kd.N_lower (Kd.N_mono (ok' := fun k_ => (w.heap.size ≤ k_) ∧ k_ ≠ gb1067 ∧ k_ ≠ gb1068 ∧ k_ ≠ g1071) ho0 (fun k_ hk_ => ⟨(Nat.le_trans (below_size (y19 HB.out HI1071.out GE1067.out GE1068.out)) hk_), (Kd.freshB (g := gb1067) (o := .cells #[.slice none 0 0] 50 (0, 0)) (y0 BK1067.out) k_ hk_), (Kd.freshB (g := gb1068) (o := .cells #[.int .i64 0, .slice none 0 0] 25 (0, 0)) (y0 BK1068.out) k_ hk_), (IsS75.fresh (y24 HI1071.out NB1071_1067.out NB1071_1068.out) k_ hk_)⟩)) (below_size (y19 HB.out HI1071.out GE1067.out GE1068.out))); replace BK1067 := Aside0.mk (KeepBut.blk hk (g' := gb1067) (o := .cells #[.slice none 0 0] 50 (0, 0)) (y0 BK1067.out) NB1067_1071.out (by simp)); replace BK1068 := Aside0.mk (KeepBut.blk hk (g' := gb1068) (o := .cells #[.int .i64 0, .slice none 0 0] 25 (0, 0)) (y0 BK1068.out) NB1068_1071.out (by simp)); replace HB := Aside0.mk (hb); replace HI1071 := Aside0.mk (hi); (try clear hb); (try clear hb2); (try clear hk); (try clear hi); (try clear ho0)) | ((with_reducible refine gate_dst (N := 5) rfl ?_); refine zbx 5 #[.slice none 0 0] 50 ?_; intro gb1078 hg w12 hbox hb; replace HO1076 := Aside0.mk (Kd.N_below (Kd.N_elderB (y2 HO1076.out) gb1078 (Nat.le_of_eq hg.symm)) hb); have BK1078 := Aside0.mk hbox; have GW1078 := Aside0.mk ((y58 hg HB.out HI1071.out GE1067.out GE1068.out : w.heap.size ≤ gb1078)); have GE1078 := Aside0.mk ((y58 hg HB.out HI1071.out GE1067.out GE1068.out : w.heap.size ≤ gb1078)); replace HB := Aside0.mk (below_step (y19 HB.out HI1071.out GE1067.out GE1068.out) hb); have NB1067_1078 := zltn hg BK1067; have NB1078_1067 := zgtn hg BK1067; replace BK1067 := zbb BK1067 hb; have NB1068_1078 := zltn hg BK1068; have NB1078_1068 := zgtn hg BK1068; replace BK1068 := zbb BK1068 hb; have NB1071_1078 := Aside0.mk ((by rw [hg]; exact Nat.ne_of_lt (IsS75.lt (show IsS75 w _ g1071 t1069 t1077 from by repeat (first | (with_reducible first | exact HI1071.out | apply IsS75.alloc | apply IsS75.drewN | apply IsS75.drew | apply IsS75.set_1 | refine IsS75.far ?_ NB1071_1067.out _ | refine IsS75.far ?_ NB1071_1068.out _) | exact HI1071.out))) : g1071 ≠ gb1078)); have NB1078_1071 := Aside0.mk ((by rw [hg]; exact Nat.ne_of_gt (IsS75.lt (show IsS75 w _ g1071 t1069 t1077 from by repeat (first | (with_reducible first | exact HI1071.out | apply IsS75.alloc | apply IsS75.drewN | apply IsS75.drew | apply IsS75.set_1 | refine IsS75.far ?_ NB1071_1067.out _ | refine IsS75.far ?_ NB1071_1068.out _) | exact HI1071.out))) : gb1078 ≠ g1071)); replace HI1071 := Aside0.mk (IsS75.below (y24 HI1071.out NB1071_1067.out NB1071_1068.out) hb); clear hb hbox hg; obtain ⟨Ao13, co13, eo13⟩ := Kd.N_slice HO1076.out; subst eo13; have hnb14 := NB1078_1067.out; have hnc14 := NB1067_1078.out; have hnb15 := NB1078_1068.out; have hnc15 := NB1068_1078.out; have hnb16 := NB1078_1071.out; have hnc16 := NB1071_1078.out; have hcz17_0 := zh BK1078; have hfz17_0 := zfr BK1078 0) | ((with_reducible refine gate_callee (f := 32) rfl ?_); refine goesL_ (some 14) rfl rfl Try.func32 (by kernel_rfl) rfl #[.pointer (some ⟨g1071, 0, none⟩), .int .i64 5] rfl y9 ?_; (with_reducible refine (spec_l6Rd_pick.calls k g1071 t1069 t1077 5 t1079 t1080 w _ ?side1 ?side2 A5.out).mono ?_); (case side1 => exact y25 HI1071.out NB1071_1067.out NB1071_1068.out NB1071_1078.out); (case side2 => exact y21 HB.out HI1071.out GE1067.out GE1068.out GE1078.out); rintro e w18 ⟨rfl, hi, hb, hk⟩; refine ⟨_, rfl, ?_⟩; replace BK1067 := Aside0.mk (KeepBut.blk hk (g' := gb1067) (o := .cells #[.slice none 0 0] 50 (0, 0)) (y13 NB1067_1078.out BK1067.out) NB1067_1071.out (by simp)); replace BK1068 := Aside0.mk (KeepBut.blk hk (g' := gb1068) (o := .cells #[.int .i64 0, .slice none 0 0] 25 (0, 0)) (y13 NB1068_1078.out BK1068.out) NB1068_1071.out (by simp)); replace HO1076 := Aside0.mk (Kd.N_mono (Kd.N_keep (Kd.N_mono (ok := fun k_ => ((((w.heap.size ≤ k_)) ∧ (k_ ≠ gb1067 ∧ (k_ ≠ gb1068 ∧ k_ ≠ g1071))) ∧ k_ ≠ gb1078)) (by (with_reducible repeat (first | apply Kd.N_alloc | apply Kd.N_drewN | apply Kd.N_drew)); exact (Kd.N_mono (Kd.N_far (p := ⟨gb1078, 0, none⟩) (Kd.N_mono HO1076.out (fun k_ hk => (⟨hk, hk.2⟩ : _ ∧ k_ ≠ gb1078))) (fun _ hk => hk.2) (.slice Ao13 t1074.length co13)) (fun _ h_ => h_.1))) (fun k_ hk_ => (⟨hk_, hk_.1.2.2.2⟩ : _ ∧ k_ ≠ g1071))) hk (fun _ h => h.2)) (fun _ h => h.1)); replace BK1078 := Aside0.mk (KeepBut.blk hk (g' := gb1078) (o := .cells #[.slice Ao13 t1074.length co13] 50 (0, 0)) (by (with_reducible repeat (first | refine blk_drewN ?_ _ | refine blk_drew ?_ | refine blk_alloc ?_ _)); apply blk_put (i := 0); (case h => exact y0 BK1078.out); (case e => rfl)) NB1078_1071.out (by simp)); replace HB := Aside0.mk (hb); replace HI1071 := Aside0.mk (hi); (try clear hb); (try clear hb2); (try clear hk); (try clear hi)))
 (try simp only [Act.put, List.setIfInBounds_toArray, List.set_cons_zero, List.set_cons_succ])
 have H := HZ6.out
 clear HZ6
 by_cases c19 : t1079 = 0
 ·rw [if_pos c19] at H
  have c19b0 : (t1079 == 0) = true := beq_iff_eq.mpr c19
  have c19b1 : (t1079 != 0) = false := bne_eq_false_iff_eq.mpr c19
  clear c19
  (first | rw [c19b0] | (simp only [i64_w, i32_w]; rw [c19b0]) | skip)
  obtain ⟨⟨t1081, t1084⟩, A200, H⟩ := ob H
  have A20 := Aside0.mk A200
  clear A200
  obtain ⟨⟨t1085, t1086, t1089⟩, A210, H⟩ := ob H
  have A21 := Aside0.mk A210
  clear A210
  simp only [Option.some.injEq, Prod.mk.injEq] at H
  obtain ⟨rfl, rfl, rfl⟩ := H
  try go_wp2
  replace HO1076 := Aside0.mk (Kd.N_drew HO1076.out)
  replace BK1067 := Aside0.mk (blk_drew BK1067.out)
  replace BK1068 := Aside0.mk (blk_drew BK1068.out)
  replace BK1078 := Aside0.mk (blk_drew BK1078.out)
  replace HI1071 := Aside0.mk (IsS75.drew HI1071.out)
  replace HB := Aside0.mk (below_drew1 HB.out)
  refine start_ (n := 7) (S := fun w' => w'.cell? ⟨gb1078, 0, none⟩ = some (.slice Ao13 t1074.length co13)) (ds := []) #[false, false, false, false, false, false, false] (by kernel_rfl) rfl rfl ((blk_cell BK1078.out 0).trans rfl) (fun hHeld => ?_)
  generalize w18.drew = w22 at HO1076 BK1067 BK1068 BK1078 HI1071 HB hHeld ⊢
  refine pure_ (i := 1) (N := some 17) (v := ?_) (a' := ?_) #[false, true, false, false, false, false, false] rfl rfl (by kernel_rfl) (fun _ _ _ h => h) (Or.inl ⟨(by rfl), ?_⟩) ?_ ?_
  rotate_left
  ·intro w'
   go_simp
   with_reducible rfl
  rotate_left
  ·simp only [Act.put, List.setIfInBounds_toArray, List.set_cons_zero, List.set_cons_succ, i64_w, i32_w]
   rfl
  refine pure_ (i := 2) (N := some 18) (v := ?_) (a' := ?_) #[false, true, true, false, false, false, false] rfl rfl (by kernel_rfl) (fun _ _ _ h => h) (Or.inl ⟨(by rfl), ?_⟩) ?_ ?_
  rotate_left
  ·intro w'
   go_simp
   with_reducible rfl
  rotate_left
  ·simp only [Act.put, List.setIfInBounds_toArray, List.set_cons_zero, List.set_cons_succ, i64_w, i32_w]
   rfl
  refine take_ (i := 0) (N := some 16) (v := ?_) (a' := ?_) #[true, true, true, false, false, false, false] rfl rfl (by kernel_rfl) (fun _ _ _ h => h) (Or.inl ⟨(by rfl), ?_⟩) hHeld ?_ ?_
  rotate_left
  ·intro w' s0
   go_simp
   with_reducible rfl
  rotate_left
  ·simp only [Act.put, List.setIfInBounds_toArray, List.set_cons_zero, List.set_cons_succ, i64_w, i32_w]
   rfl
  refine one_ (i := 3) (N := some 19) #[true, true, true, true, false, false, false] rfl rfl (by kernel_rfl) (by decide) (fun K hK => ?_)
  refine goes_ Try.func31 (by kernel_rfl) rfl #[.pointer (some ⟨g1071, 0, none⟩), .int .i64 3] (by rfl) rfl rfl y9 ?_
  with_reducible refine (spec_l71Type.calls k g1071 t1069 t1080 3 t1081 t1084 w _ ?side1 ?side2 A20.out).mono ?_
  (case side1 => exact y25 HI1071.out NB1071_1067.out NB1071_1068.out NB1071_1078.out)
  (case side2 => exact y21 HB.out HI1071.out GE1067.out GE1068.out GE1078.out)
  rintro e w23 ⟨v1082, rfl, ho0, hi, hb, hk⟩
  refine ⟨_, rfl, ?_⟩
  have HO1083 := Aside0.mk (Kd.N_lower (Kd.N_mono (ok' := fun k_ => (w.heap.size ≤ k_) ∧ some k_ ≠ (.slice Ao13 t1074.length co13 : Value).ownBlock ∧ k_ ≠ gb1067 ∧ k_ ≠ gb1068 ∧ k_ ≠ gb1078 ∧ k_ ≠ g1071) ho0 (fun k_ hk_ => ⟨(Nat.le_trans (below_size (y21 HB.out HI1071.out GE1067.out GE1068.out GE1078.out)) hk_), (Kd.fresh' (Kd.N_lt (y2 HO1076.out)) k_ hk_), (Kd.freshB (g := gb1067) (o := .cells #[.slice none 0 0] 50 (0, 0)) (y0 BK1067.out) k_ hk_), (Kd.freshB (g := gb1068) (o := .cells #[.int .i64 0, .slice none 0 0] 25 (0, 0)) (y0 BK1068.out) k_ hk_), (Kd.freshB (g := gb1078) (o := .cells #[.slice Ao13 t1074.length co13] 50 (0, 0)) (y0 BK1078.out) k_ hk_), (IsS75.fresh (y25 HI1071.out NB1071_1067.out NB1071_1068.out NB1071_1078.out) k_ hk_)⟩)) (below_size (y21 HB.out HI1071.out GE1067.out GE1068.out GE1078.out)))
  replace BK1067 := Aside0.mk (KeepBut.blk hk (g' := gb1067) (o := .cells #[.slice none 0 0] 50 (0, 0)) (y0 BK1067.out) NB1067_1071.out (by simp))
  replace BK1068 := Aside0.mk (KeepBut.blk hk (g' := gb1068) (o := .cells #[.int .i64 0, .slice none 0 0] 25 (0, 0)) (y0 BK1068.out) NB1068_1071.out (by simp))
  replace HO1076 := Aside0.mk (Kd.N_mono (Kd.N_told (Kd.N_oldK (Kd.N_mono (ok := fun k_ => ((((w.heap.size ≤ k_)) ∧ (k_ ≠ gb1067 ∧ (k_ ≠ gb1068 ∧ k_ ≠ g1071))) ∧ k_ ≠ gb1078)) (y2 HO1076.out) (fun k_ hk_ => (⟨hk_, hk_.1.2.2.2⟩ : _ ∧ k_ ≠ g1071))) hk) (Kd.N_base ho0)) (fun _ h_ => h_.1))
  replace BK1078 := Aside0.mk (KeepBut.blk hk (g' := gb1078) (o := .cells #[.slice Ao13 t1074.length co13] 50 (0, 0)) (y0 BK1078.out) NB1078_1071.out (by simp))
  replace HB := Aside0.mk (hb)
  replace HI1071 := Aside0.mk (hi)
  (try clear hb)
  (try clear hb2)
  (try clear hk)
  (try clear hi)
  (try clear ho0)
  obtain ⟨Ao24, co24, eo24⟩ := Kd.N_slice HO1083.out
  (first | subst eo24 | (injection eo24 with f1_ f2_ f3_; have f4_ := f1_.symm; have f5_ := f3_.symm; clear f1_ f2_ f3_; subst f4_; subst f5_))
  refine hK.out _ _ ((blk_cell BK1078.out 0).trans rfl) (fun hHeld => ?_)
  clear hK K
  refine norm_ (a' := ?_) ?_ ?_
  rotate_left
  ·show Act.put _ (some 19) _ = _
   simp only [Act.put, List.setIfInBounds_toArray, List.set_cons_zero, List.set_cons_succ, i64_w, i32_w]
   rfl
  refine one_ (i := 4) (N := some 20) #[true, true, true, true, true, false, false] rfl rfl (by kernel_rfl) (by decide) (fun K hK => ?_)
  refine goes_ Try.func33 (by kernel_rfl) rfl #[.pointer (some ⟨g1071, 0, none⟩), .agg #[.slice Ao24 t1081.length co24]] (by rfl) rfl rfl y9 ?_
  with_reducible refine (spec_l71Bad.calls k g1071 t1069 t1084 (fun k_ => ((w.heap.size ≤ k_) ∧ (some k_ ≠ (.slice Ao13 t1074.length co13 : Value).ownBlock ∧ (k_ ≠ gb1067 ∧ (k_ ≠ gb1068 ∧ (k_ ≠ gb1078 ∧ k_ ≠ g1071)))))) _ _ t1081 t1085 t1086 t1089 w _ ?side1 ?side2 ?side3 A21.out).mono ?_
  (case side1 => exact y25 HI1071.out NB1071_1067.out NB1071_1068.out NB1071_1078.out)
  (case side2 => exact y21 HB.out HI1071.out GE1067.out GE1068.out GE1078.out)
  (case side3 => exact Kd.V_mono (Kd.N_V (HO1083.out)) (fun k_ hk_ => ⟨hk_, hk_.2.2.2.2.2⟩))
  rintro e w25 ⟨v1087, rfl, ho0, hi, hb, hk⟩
  refine ⟨_, rfl, ?_⟩
  replace HO1083 := Aside0.mk (Kd.N_mono (Kd.N_told (Kd.N_oldK (Kd.N_mono (ok := fun k_ => (((w.heap.size ≤ k_)) ∧ (some k_ ≠ (.slice Ao13 t1074.length co13 : Value).ownBlock ∧ (k_ ≠ gb1067 ∧ (k_ ≠ gb1068 ∧ (k_ ≠ gb1078 ∧ k_ ≠ g1071)))))) (y2 HO1083.out) (fun k_ hk_ => (⟨hk_, hk_.2.2.2.2.2⟩ : _ ∧ k_ ≠ g1071))) hk) (Kd.N_base ho0)) (fun _ h_ => h_.1))
  have HO1088 := Aside0.mk (Kd.N_lower (Kd.N_mono (ok' := fun k_ => (w.heap.size ≤ k_) ∧ some k_ ≠ (.slice Ao13 t1074.length co13 : Value).ownBlock ∧ k_ ≠ gb1067 ∧ k_ ≠ gb1068 ∧ k_ ≠ gb1078 ∧ k_ ≠ g1071) ho0 (fun k_ hk_ => ⟨Or.elim hk_ (fun hs_ => hs_.1) (fun hn_ => (Nat.le_trans (below_size (y21 HB.out HI1071.out GE1067.out GE1068.out GE1078.out)) hn_)), Or.elim hk_ (fun hs_ => hs_.2.1) (fun hn_ => (Kd.fresh' (Kd.N_lt (y2 HO1076.out)) k_ hn_)), Or.elim hk_ (fun hs_ => hs_.2.2.1) (fun hn_ => (Kd.freshB (g := gb1067) (o := .cells #[.slice none 0 0] 50 (0, 0)) (y0 BK1067.out) k_ hn_)), Or.elim hk_ (fun hs_ => hs_.2.2.2.1) (fun hn_ => (Kd.freshB (g := gb1068) (o := .cells #[.int .i64 0, .slice none 0 0] 25 (0, 0)) (y0 BK1068.out) k_ hn_)), Or.elim hk_ (fun hs_ => hs_.2.2.2.2.1) (fun hn_ => (Kd.freshB (g := gb1078) (o := .cells #[.slice Ao13 t1074.length co13] 50 (0, 0)) (y0 BK1078.out) k_ hn_)), Or.elim hk_ (fun hs_ => hs_.2.2.2.2.2) (fun hn_ => (IsS75.fresh (y25 HI1071.out NB1071_1067.out NB1071_1068.out NB1071_1078.out) k_ hn_))⟩)) (below_size (y21 HB.out HI1071.out GE1067.out GE1068.out GE1078.out)))
  replace BK1067 := Aside0.mk (KeepBut.blk hk (g' := gb1067) (o := .cells #[.slice none 0 0] 50 (0, 0)) (y0 BK1067.out) NB1067_1071.out (by simp))
  replace BK1068 := Aside0.mk (KeepBut.blk hk (g' := gb1068) (o := .cells #[.int .i64 0, .slice none 0 0] 25 (0, 0)) (y0 BK1068.out) NB1068_1071.out (by simp))
  replace HO1076 := Aside0.mk (Kd.N_mono (Kd.N_told (Kd.N_oldK (Kd.N_mono (ok := fun k_ => (((((w.heap.size ≤ k_)) ∧ (k_ ≠ gb1067 ∧ (k_ ≠ gb1068 ∧ k_ ≠ g1071))) ∧ k_ ≠ gb1078) ∧ some k_ ≠ (.slice Ao24 t1081.length co24 : Value).ownBlock)) (y2 HO1076.out) (fun k_ hk_ => (⟨hk_, hk_.1.1.2.2.2⟩ : _ ∧ k_ ≠ g1071))) hk) (Kd.N_base ho0)) (fun _ h_ => h_.1))
  replace BK1078 := Aside0.mk (KeepBut.blk hk (g' := gb1078) (o := .cells #[.slice Ao13 t1074.length co13] 50 (0, 0)) (y0 BK1078.out) NB1078_1071.out (by simp))
  replace HB := Aside0.mk (hb)
  replace HI1071 := Aside0.mk (hi)
  (try clear hb)
  (try clear hb2)
  (try clear hk)
  (try clear hi)
  (try clear ho0)
  obtain ⟨Ao28, co28, eo28⟩ := Kd.N_slice HO1088.out
  (first | subst eo28 | (injection eo28 with f1_ f2_ f3_; have f4_ := f1_.symm; have f5_ := f3_.symm; clear f1_ f2_ f3_; subst f4_; subst f5_))
  refine hK.out _ _ ((blk_cell BK1078.out 0).trans rfl) (fun hHeld => ?_)
  clear hK K
  refine norm_ (a' := ?_) ?_ ?_
  rotate_left
  ·show Act.put _ (some 20) _ = _
   simp only [Act.put, List.setIfInBounds_toArray, List.set_cons_zero, List.set_cons_succ, i64_w, i32_w]
   rfl
  refine one_ (i := 5) (N := none) #[true, true, true, true, true, true, false] rfl rfl (by kernel_rfl) (by decide) (fun K hK => ?_)
  have hs26 : w25.cell? ⟨gb1067, 0, none⟩ = some (.slice none 0 0) := (blk_cell BK1067.out 0).trans rfl
  have hfs26 := zfr BK1067 0
  have hns26_1 := NB1068_1067.out
  have hns26_2 := NB1078_1067.out
  have hms26_1 := NB1067_1068.out
  have hms26_2 := NB1067_1078.out
  refine skip_ (w1 := ?_) (by rfl) rfl ?_ ?_
  rotate_left
  ·go_simp
   rfl
  refine hK.out _ _ (((cell_far (p := ⟨gb1067, _, none⟩) NB1078_1067.out _).trans (hHeld))) (fun hHeld => ?_)
  clear hK K
  refine one_ (i := 6) (N := none) #[true, true, true, true, true, true, true] rfl rfl (by kernel_rfl) (by decide) (fun K hK => ?_)
  have hs27 : w25.cell? ⟨gb1068, 0, none⟩ = some (.int .i64 0) := (blk_cell BK1068.out 0).trans rfl
  have hfs27 := zfr BK1068 0
  have hns27_0 := NB1067_1068.out
  have hns27_2 := NB1078_1068.out
  have hms27_0 := NB1068_1067.out
  have hms27_2 := NB1068_1078.out
  have hs29 : w25.cell? ⟨gb1068, 1, none⟩ = some (.slice none 0 0) := (blk_cell BK1068.out 1).trans rfl
  have hfs29 := zfr BK1068 1
  have hns29_0 := NB1067_1068.out
  have hns29_2 := NB1078_1068.out
  have hms29_0 := NB1068_1067.out
  have hms29_2 := NB1068_1078.out
  refine skip_ (w1 := ?_) (by rfl) rfl ?_ ?_
  rotate_left
  ·go_simp
   rfl
  refine hK.out _ _ (((cell_far (p := ⟨gb1068, _, none⟩) NB1078_1068.out _).trans (((cell_far (p := ⟨gb1068, _, none⟩) NB1078_1068.out _).trans (hHeld))))) (fun hHeld => ?_)
  clear hK K
  refine done_ (by kernel_rfl) ?_
  try go_wp2
  refine bodyPost_ret (results_cc rfl _ _ gb1067 gb1068 50 25 #[.slice Ao13 t1074.length co13] #[.int .i64 t1085, .slice Ao28 t1086.length co28] (0, 0) (0, 0) _ _ rfl (by (with_reducible repeat (first | refine blk_drewN ?_ _ | refine blk_drew ?_ | refine blk_alloc ?_ _)); refine blk_far ?_ NB1067_1068.out _; (with_reducible repeat (first | refine blk_drewN ?_ _ | refine blk_drew ?_ | refine blk_alloc ?_ _)); refine blk_far ?_ NB1067_1068.out _; (with_reducible repeat (first | refine blk_drewN ?_ _ | refine blk_drew ?_ | refine blk_alloc ?_ _)); apply blk_put (i := 0); (case h => exact y0 BK1067.out); (case e => rfl)) Try.underlying50 rfl (by kernel_rfl) rfl (by (with_reducible repeat (first | refine blk_drewN ?_ _ | refine blk_drew ?_ | refine blk_alloc ?_ _)); refine blk_put (cs := #[.int .i64 t1085, .slice none 0 0]) ?_ 1 _ rfl; (with_reducible repeat (first | refine blk_drewN ?_ _ | refine blk_drew ?_ | refine blk_alloc ?_ _)); refine blk_put (cs := #[.int .i64 0, .slice none 0 0]) ?_ 0 _ rfl; (with_reducible repeat (first | refine blk_drewN ?_ _ | refine blk_drew ?_ | refine blk_alloc ?_ _)); refine blk_far ?_ NB1068_1067.out _; (with_reducible repeat (first | refine blk_drewN ?_ _ | refine blk_drew ?_ | refine blk_alloc ?_ _)); exact BK1068.out) Try.underlying25 rfl (by kernel_rfl)) rfl ?_
  exact ⟨_, _, y15, Kd.N_V (by (with_reducible repeat (first | apply Kd.N_alloc | apply Kd.N_drewN | apply Kd.N_drew)); exact Kd.N_mono (Kd.N_far (p := ⟨gb1068, 1, none⟩) (Kd.N_far (p := ⟨gb1068, 0, none⟩) (Kd.N_far (p := ⟨gb1067, 0, none⟩) (Kd.N_mono (Kd.N_mono HO1076.out (fun k_ hk => (⟨hk, hk.1.1.1.2.1⟩ : _ ∧ k_ ≠ gb1067))) (fun k_ hk => (⟨hk, hk.1.1.1.1.2.2.1⟩ : _ ∧ k_ ≠ gb1068))) (fun _ hk => hk.1.2) (.slice Ao13 t1074.length co13)) (fun _ hk => hk.2) (.int .i64 t1085)) (fun _ hk => hk.2) (.slice Ao28 t1086.length co28)) (fun _ hk => hk.1.1.1.1.1.1)), Kd.N_V (by (with_reducible repeat (first | apply Kd.N_alloc | apply Kd.N_drewN | apply Kd.N_drew)); exact Kd.N_mono (Kd.N_far (p := ⟨gb1068, 1, none⟩) (Kd.N_far (p := ⟨gb1068, 0, none⟩) (Kd.N_far (p := ⟨gb1067, 0, none⟩) (Kd.N_mono (Kd.N_mono HO1088.out (fun k_ hk => (⟨hk, hk.2.2.1⟩ : _ ∧ k_ ≠ gb1067))) (fun k_ hk => (⟨hk, hk.1.2.2.2.1⟩ : _ ∧ k_ ≠ gb1068))) (fun _ hk => hk.1.2) (.slice Ao13 t1074.length co13)) (fun _ hk => hk.2) (.int .i64 t1085)) (fun _ hk => hk.2) (.slice Ao28 t1086.length co28)) (fun _ hk => hk.1.1.1)), (y21 HB.out HI1071.out GE1067.out GE1068.out GE1078.out)⟩
 ·rw [if_neg c19] at H
  have c19b0 : (t1079 == 0) = false := beq_eq_false_iff_ne.mpr c19
  have c19b1 : (t1079 != 0) = true := bne_iff_ne.mpr c19
  (first | rw [c19b0] | (simp only [i64_w, i32_w]; rw [c19b0]) | skip)
  obtain ⟨⟨t1090, t1091, t1094⟩, A300, H⟩ := ob H
  have A30 := Aside0.mk A300
  clear A300
  simp only [Option.some.injEq, Prod.mk.injEq] at H
  obtain ⟨rfl, rfl, rfl⟩ := H
  try go_wp2
  replace HO1076 := Aside0.mk (Kd.N_drew HO1076.out)
  replace BK1067 := Aside0.mk (blk_drew BK1067.out)
  replace BK1068 := Aside0.mk (blk_drew BK1068.out)
  replace BK1078 := Aside0.mk (blk_drew BK1078.out)
  replace HI1071 := Aside0.mk (IsS75.drew HI1071.out)
  replace HB := Aside0.mk (below_drew1 HB.out)
  refine start_ (n := 6) (S := fun w' => w'.cell? ⟨gb1078, 0, none⟩ = some (.slice Ao13 t1074.length co13)) (ds := []) #[false, false, false, false, false, false] (by kernel_rfl) rfl rfl ((blk_cell BK1078.out 0).trans rfl) (fun hHeld => ?_)
  generalize w18.drew = w31 at HO1076 BK1067 BK1068 BK1078 HI1071 HB hHeld ⊢
  refine pure_ (i := 1) (N := some 22) (v := ?_) (a' := ?_) #[false, true, false, false, false, false] rfl rfl (by kernel_rfl) (fun _ _ _ h => h) (Or.inl ⟨(by rfl), ?_⟩) ?_ ?_
  rotate_left
  ·intro w'
   go_simp
   with_reducible rfl
  rotate_left
  ·simp only [Act.put, List.setIfInBounds_toArray, List.set_cons_zero, List.set_cons_succ, i64_w, i32_w]
   rfl
  refine take_ (i := 0) (N := some 21) (v := ?_) (a' := ?_) #[true, true, false, false, false, false] rfl rfl (by kernel_rfl) (fun _ _ _ h => h) (Or.inl ⟨(by rfl), ?_⟩) hHeld ?_ ?_
  rotate_left
  ·intro w' s0
   go_simp
   with_reducible rfl
  rotate_left
  ·simp only [Act.put, List.setIfInBounds_toArray, List.set_cons_zero, List.set_cons_succ, i64_w, i32_w]
   rfl
  refine take_ (i := 2) (N := some 23) (v := ?_) (a' := ?_) #[true, true, true, false, false, false] rfl rfl (by kernel_rfl) (fun _ _ _ h => h) (Or.inl ⟨(by rfl), ?_⟩) hHeld ?_ ?_
  rotate_left
  ·intro w' s0
   go_simp
   with_reducible rfl
  rotate_left
  ·simp only [Act.put, List.setIfInBounds_toArray, List.set_cons_zero, List.set_cons_succ, i64_w, i32_w]
   rfl
  refine one_ (i := 3) (N := some 24) #[true, true, true, true, false, false] rfl rfl (by kernel_rfl) (by decide) (fun K hK => ?_)
  refine goes_ Try.func33 (by kernel_rfl) rfl #[.pointer (some ⟨g1071, 0, none⟩), .agg #[.slice Ao13 t1074.length co13]] (by rfl) rfl rfl y9 ?_
  with_reducible refine (spec_l71Bad.calls k g1071 t1069 t1080 (fun k_ => (((w.heap.size ≤ k_) ∧ (k_ ≠ gb1067 ∧ (k_ ≠ gb1068 ∧ k_ ≠ g1071))) ∧ k_ ≠ gb1078)) _ _ t1074 t1090 t1091 t1094 w _ ?side1 ?side2 ?side3 A30.out).mono ?_
  (case side1 => exact y25 HI1071.out NB1071_1067.out NB1071_1068.out NB1071_1078.out)
  (case side2 => exact y21 HB.out HI1071.out GE1067.out GE1068.out GE1078.out)
  (case side3 => exact Kd.V_mono (Kd.N_V (HO1076.out)) (fun k_ hk_ => ⟨hk_, hk_.1.2.2.2⟩))
  rintro e w32 ⟨v1092, rfl, ho0, hi, hb, hk⟩
  refine ⟨_, rfl, ?_⟩
  replace HO1076 := Aside0.mk (Kd.N_mono (Kd.N_told (Kd.N_oldK (Kd.N_mono (ok := fun k_ => ((((w.heap.size ≤ k_)) ∧ (k_ ≠ gb1067 ∧ (k_ ≠ gb1068 ∧ k_ ≠ g1071))) ∧ k_ ≠ gb1078)) (y2 HO1076.out) (fun k_ hk_ => (⟨hk_, hk_.1.2.2.2⟩ : _ ∧ k_ ≠ g1071))) hk) (Kd.N_base ho0)) (fun _ h_ => h_.1))
  have HO1093 := Aside0.mk (Kd.N_lower (Kd.N_mono (ok' := fun k_ => (w.heap.size ≤ k_) ∧ k_ ≠ gb1067 ∧ k_ ≠ gb1068 ∧ k_ ≠ gb1078 ∧ k_ ≠ g1071) ho0 (fun k_ hk_ => ⟨Or.elim hk_ (fun hs_ => hs_.1.1) (fun hn_ => (Nat.le_trans (below_size (y21 HB.out HI1071.out GE1067.out GE1068.out GE1078.out)) hn_)), Or.elim hk_ (fun hs_ => hs_.1.2.1) (fun hn_ => (Kd.freshB (g := gb1067) (o := .cells #[.slice none 0 0] 50 (0, 0)) (y0 BK1067.out) k_ hn_)), Or.elim hk_ (fun hs_ => hs_.1.2.2.1) (fun hn_ => (Kd.freshB (g := gb1068) (o := .cells #[.int .i64 0, .slice none 0 0] 25 (0, 0)) (y0 BK1068.out) k_ hn_)), Or.elim hk_ (fun hs_ => hs_.2) (fun hn_ => (Kd.freshB (g := gb1078) (o := .cells #[.slice Ao13 t1074.length co13] 50 (0, 0)) (y0 BK1078.out) k_ hn_)), Or.elim hk_ (fun hs_ => hs_.1.2.2.2) (fun hn_ => (IsS75.fresh (y25 HI1071.out NB1071_1067.out NB1071_1068.out NB1071_1078.out) k_ hn_))⟩)) (below_size (y21 HB.out HI1071.out GE1067.out GE1068.out GE1078.out)))
  replace BK1067 := Aside0.mk (KeepBut.blk hk (g' := gb1067) (o := .cells #[.slice none 0 0] 50 (0, 0)) (y0 BK1067.out) NB1067_1071.out (by simp))
  replace BK1068 := Aside0.mk (KeepBut.blk hk (g' := gb1068) (o := .cells #[.int .i64 0, .slice none 0 0] 25 (0, 0)) (y0 BK1068.out) NB1068_1071.out (by simp))
  replace BK1078 := Aside0.mk (KeepBut.blk hk (g' := gb1078) (o := .cells #[.slice Ao13 t1074.length co13] 50 (0, 0)) (y0 BK1078.out) NB1078_1071.out (by simp))
  replace HB := Aside0.mk (hb)
  replace HI1071 := Aside0.mk (hi)
  (try clear hb)
  (try clear hb2)
  (try clear hk)
  (try clear hi)
  (try clear ho0)
  obtain ⟨Ao35, co35, eo35⟩ := Kd.N_slice HO1093.out
  (first | subst eo35 | (injection eo35 with f1_ f2_ f3_; have f4_ := f1_.symm; have f5_ := f3_.symm; clear f1_ f2_ f3_; subst f4_; subst f5_))
  refine hK.out _ _ ((blk_cell BK1078.out 0).trans rfl) (fun hHeld => ?_)
  clear hK K
  refine norm_ (a' := ?_) ?_ ?_
  rotate_left
  ·show Act.put _ (some 24) _ = _
   simp only [Act.put, List.setIfInBounds_toArray, List.set_cons_zero, List.set_cons_succ, i64_w, i32_w]
   rfl
  refine one_ (i := 4) (N := none) #[true, true, true, true, true, false] rfl rfl (by kernel_rfl) (by decide) (fun K hK => ?_)
  have hs33 : w32.cell? ⟨gb1067, 0, none⟩ = some (.slice none 0 0) := (blk_cell BK1067.out 0).trans rfl
  have hfs33 := zfr BK1067 0
  have hns33_1 := NB1068_1067.out
  have hns33_2 := NB1078_1067.out
  have hms33_1 := NB1067_1068.out
  have hms33_2 := NB1067_1078.out
  refine skip_ (w1 := ?_) (by rfl) rfl ?_ ?_
  rotate_left
  ·go_simp
   rfl
  refine hK.out _ _ (((cell_far (p := ⟨gb1067, _, none⟩) NB1078_1067.out _).trans (hHeld))) (fun hHeld => ?_)
  clear hK K
  refine one_ (i := 5) (N := none) #[true, true, true, true, true, true] rfl rfl (by kernel_rfl) (by decide) (fun K hK => ?_)
  have hs34 : w32.cell? ⟨gb1068, 0, none⟩ = some (.int .i64 0) := (blk_cell BK1068.out 0).trans rfl
  have hfs34 := zfr BK1068 0
  have hns34_0 := NB1067_1068.out
  have hns34_2 := NB1078_1068.out
  have hms34_0 := NB1068_1067.out
  have hms34_2 := NB1068_1078.out
  have hs36 : w32.cell? ⟨gb1068, 1, none⟩ = some (.slice none 0 0) := (blk_cell BK1068.out 1).trans rfl
  have hfs36 := zfr BK1068 1
  have hns36_0 := NB1067_1068.out
  have hns36_2 := NB1078_1068.out
  have hms36_0 := NB1068_1067.out
  have hms36_2 := NB1068_1078.out
  refine skip_ (w1 := ?_) (by rfl) rfl ?_ ?_
  rotate_left
  ·go_simp
   rfl
  refine hK.out _ _ (((cell_far (p := ⟨gb1068, _, none⟩) NB1078_1068.out _).trans (((cell_far (p := ⟨gb1068, _, none⟩) NB1078_1068.out _).trans (hHeld))))) (fun hHeld => ?_)
  clear hK K
  refine done_ (by kernel_rfl) ?_
  try go_wp2
  refine bodyPost_ret (results_cc rfl _ _ gb1067 gb1068 50 25 #[.slice Ao13 t1074.length co13] #[.int .i64 t1090, .slice Ao35 t1091.length co35] (0, 0) (0, 0) _ _ rfl (by (with_reducible repeat (first | refine blk_drewN ?_ _ | refine blk_drew ?_ | refine blk_alloc ?_ _)); refine blk_far ?_ NB1067_1068.out _; (with_reducible repeat (first | refine blk_drewN ?_ _ | refine blk_drew ?_ | refine blk_alloc ?_ _)); refine blk_far ?_ NB1067_1068.out _; (with_reducible repeat (first | refine blk_drewN ?_ _ | refine blk_drew ?_ | refine blk_alloc ?_ _)); apply blk_put (i := 0); (case h => exact y0 BK1067.out); (case e => rfl)) Try.underlying50 rfl (by kernel_rfl) rfl (by (with_reducible repeat (first | refine blk_drewN ?_ _ | refine blk_drew ?_ | refine blk_alloc ?_ _)); refine blk_put (cs := #[.int .i64 t1090, .slice none 0 0]) ?_ 1 _ rfl; (with_reducible repeat (first | refine blk_drewN ?_ _ | refine blk_drew ?_ | refine blk_alloc ?_ _)); refine blk_put (cs := #[.int .i64 0, .slice none 0 0]) ?_ 0 _ rfl; (with_reducible repeat (first | refine blk_drewN ?_ _ | refine blk_drew ?_ | refine blk_alloc ?_ _)); refine blk_far ?_ NB1068_1067.out _; (with_reducible repeat (first | refine blk_drewN ?_ _ | refine blk_drew ?_ | refine blk_alloc ?_ _)); exact BK1068.out) Try.underlying25 rfl (by kernel_rfl)) rfl ?_
  exact ⟨_, _, y15, Kd.N_V (by (with_reducible repeat (first | apply Kd.N_alloc | apply Kd.N_drewN | apply Kd.N_drew)); exact Kd.N_mono (Kd.N_far (p := ⟨gb1068, 1, none⟩) (Kd.N_far (p := ⟨gb1068, 0, none⟩) (Kd.N_far (p := ⟨gb1067, 0, none⟩) (Kd.N_mono (Kd.N_mono HO1076.out (fun k_ hk => (⟨hk, hk.1.1.2.1⟩ : _ ∧ k_ ≠ gb1067))) (fun k_ hk => (⟨hk, hk.1.1.1.2.2.1⟩ : _ ∧ k_ ≠ gb1068))) (fun _ hk => hk.1.2) (.slice Ao13 t1074.length co13)) (fun _ hk => hk.2) (.int .i64 t1090)) (fun _ hk => hk.2) (.slice Ao35 t1091.length co35)) (fun _ hk => hk.1.1.1.1.1)), Kd.N_V (by (with_reducible repeat (first | apply Kd.N_alloc | apply Kd.N_drewN | apply Kd.N_drew)); exact Kd.N_mono (Kd.N_far (p := ⟨gb1068, 1, none⟩) (Kd.N_far (p := ⟨gb1068, 0, none⟩) (Kd.N_far (p := ⟨gb1067, 0, none⟩) (Kd.N_mono (Kd.N_mono HO1093.out (fun k_ hk => (⟨hk, hk.2.1⟩ : _ ∧ k_ ≠ gb1067))) (fun k_ hk => (⟨hk, hk.1.2.2.1⟩ : _ ∧ k_ ≠ gb1068))) (fun _ hk => hk.1.2) (.slice Ao13 t1074.length co13)) (fun _ hk => hk.2) (.int .i64 t1090)) (fun _ hk => hk.2) (.slice Ao35 t1091.length co35)) (fun _ hk => hk.1.1.1)), (y21 HB.out HI1071.out GE1067.out GE1068.out GE1078.out)⟩
end Go.Proofs.Ythfflieeifakdaa.PA
end
section
namespace Go.Proofs.Ythfflieeifakdaa.PA
open Go.RowKit Go.Proofs.YthfflieeifakdaaW.PrintWords Go.Proofs.YthfflieeifakdaaW.PrintLast Go.Proofs.YthfflieeifakdaaW.PrintMore
attribute [local go_sem] max2_int min2_int max_two min_two max_three min_three max_four min_four
set_option linter.unusedVariables false
set_option linter.unusedSimpArgs false
def impl_typeFits.f : Nat → List (S50) → Int → Option (Bool)
 | 0, _, _ => none
 | k + 1, l0_0, a1 => if a1 < 1 then (some false) else (if (l0_0.length : Int) = 0 then (some true) else (if (l0_0.length : Int) = 2 then (if 0 < (l0_0.length : Int) then ((impl_typeFits.f k ((rd_T50 l0_0 0).f0) (wrap64 (a1 - 1))).bind fun t1097 => (if t1097 = true then (if 1 < (l0_0.length : Int) then ((impl_typeFits.f k ((rd_T50 l0_0 1).f0) (wrap64 (a1 - 1))).bind fun t1099 => (some t1099)) else (none)) else (some false))) else (none)) else (some false)))
theorem impl_typeFits.mono_l : ∀ k, (∀ y0 y1, LeO (impl_typeFits.f k y0 y1) (impl_typeFits.f (k + 1) y0 y1))
 | 0 => fun _ _ r h => by simp [impl_typeFits.f] at h
 | k + 1 => by
  have ih0 := impl_typeFits.mono_l k
  ·intro y0 y1
   unfold impl_typeFits.f
   repeat' first
   | (with_reducible exact ih0 _ _)
   | (with_reducible exact LeO.refl _)
   | (with_reducible exact LeO.none _)
   | (with_reducible refine LeO.ite ?_ ?_)
   | (with_reducible refine LeO.bind ?_ (fun _ => ?_))
   | exact ih0 _ _
   | exact LeO.none _
   | refine LeO.ite ?_ ?_
   | refine LeO.bind ?_ (fun _ => ?_)
theorem impl_typeFits.mono : ∀ a0 a1 k, LeO (impl_typeFits.f k a0 a1) (impl_typeFits.f (k + 1) a0 a1) := by
 intro a0 a1 k
 have ih0 := impl_typeFits.mono_l k
 exact ih0 a0 a1
set_option maxHeartbeats 8000000 in
set_option maxRecDepth 100000 in
theorem impl_typeFits.calls (k : Nat) : ∀ (A0_0 : Option Addr) (c0_0 : Nat) (l0_0 : List (S50)) (a1 : Int) (r : Bool) (w : World) (hr0_0 : Kd.C k50 w A0_0 l0_0.length l0_0) (hc0_0 : l0_0.length ≤ c0_0) (h : impl_typeFits.f k l0_0 a1 = some r),
  Calls Try.prog 59 #[.agg #[.slice A0_0 l0_0.length c0_0], .int .i64 a1] w fun e w' => e = .returned (.bool r) ∧ Below w.heap.size w w' := by
 induction k using Nat.strongRecOn with
 | _ k ih =>
 intro A0_0 c0_0 l0_0 a1 r w hr0_0 hc0_0 h
 cases k with
 | zero => exact absurd h (by simp [impl_typeFits.f])
 | succ k =>
 simp only [impl_typeFits.f] at h
 have hu50 := Try.underlying50
 have HR0_0 := Aside0.mk hr0_0
 have HC0_0 := Aside0.mk hc0_0
 clear hr0_0 hc0_0
 have HB := Aside0.mk (Below.refl w.heap.size w)
 have H : (if a1 < 1 then (some false) else (if (l0_0.length : Int) = 0 then (some true) else (if (l0_0.length : Int) = 2 then (if 0 < (l0_0.length : Int) then ((impl_typeFits.f k ((rd_T50 l0_0 0).f0) (wrap64 (a1 - 1))).bind fun t1097 => (if t1097 = true then (if 1 < (l0_0.length : Int) then ((impl_typeFits.f k ((rd_T50 l0_0 1).f0) (wrap64 (a1 - 1))).bind fun t1099 => (some t1099)) else (none)) else (some false))) else (none)) else (some false)))) = some r := h
 clear h
 have HZ3 := Aside0.mk H
 clear H
 go_enter Try.func59, Try.ntmps59
 go_upto_if 6 with (first | ((with_reducible refine gate_dst (N := 2) rfl ?_); refine zbx 2 #[.slice A0_0 l0_0.length c0_0] 50 ?_; intro gb1095 hg w4 hbox hb; have BK1095 := Aside0.mk hbox; have GW1095 := Aside0.mk ((y10 hg HB.out : w.heap.size ≤ gb1095)); have GE1095 := Aside0.mk ((y10 hg HB.out : w.heap.size ≤ gb1095)); replace HB := Aside0.mk (below_step (y6 HB.out) hb); clear hb hbox hg))
 (try simp only [Act.put, List.setIfInBounds_toArray, List.set_cons_zero, List.set_cons_succ])
 have H := HZ3.out
 clear HZ3
 by_cases c5 : a1 < 1
 ·rw [if_pos c5] at H
  have c5b0 : decide (a1 < 1) = true := decide_eq_true c5
  clear c5
  (first | rw [c5b0] | (simp only [i64_w, i32_w]; rw [c5b0]) | skip)
  obtain rfl := Option.some.inj H
  go_wp2
  go_ret
  exact ⟨y15, (y7 HB.out GE1095.out)⟩
 ·rw [if_neg c5] at H
  have c5b0 : decide (a1 < 1) = false := decide_eq_false c5
  clear c5
  (first | rw [c5b0] | (simp only [i64_w, i32_w]; rw [c5b0]) | skip)
  by_cases c6 : (l0_0.length : Int) = 0
  ·rw [if_pos c6] at H
   have c6b0 : ((l0_0.length : Int) == 0) = true := beq_iff_eq.mpr c6
   have c6b1 : ((l0_0.length : Int) != 0) = false := bne_eq_false_iff_eq.mpr c6
   clear c6
   obtain rfl := Option.some.inj H
   have hcz7_0 := zh BK1095
   have hfz7_0 := zfr BK1095 0
   go_wp2
   go_ret
   exact ⟨y15, (y7 HB.out GE1095.out)⟩
  ·rw [if_neg c6] at H
   have c6b0 : ((l0_0.length : Int) == 0) = false := beq_eq_false_iff_ne.mpr c6
   have c6b1 : ((l0_0.length : Int) != 0) = true := bne_iff_ne.mpr c6
   have c6b2 : ¬ (l0_0 = []) := fun h_ => c6 (by rw [h_]; rfl)
   by_cases c8 : (l0_0.length : Int) = 2
   ·rw [if_pos c8] at H
    have c8b0 : ((l0_0.length : Int) == 2) = true := beq_iff_eq.mpr c8
    have c8b1 : ((l0_0.length : Int) != 2) = false := bne_eq_false_iff_eq.mpr c8
    clear c8
    by_cases c9 : 0 < (l0_0.length : Int)
    ·rw [if_pos c9] at H
     have c9b0 : decide (0 < (l0_0.length : Int)) = true := decide_eq_true c9
     have c9b1 : decide (0 < l0_0.length) = true := decide_eq_true (by omega)
     clear c9
     obtain ⟨t1097, A100, H⟩ := ob H
     have A10 := Aside0.mk A100
     clear A100
     by_cases c11 : t1097 = true
     ·subst c11
      rw [if_pos rfl] at H
      by_cases c12 : 1 < (l0_0.length : Int)
      ·rw [if_pos c12] at H
       have c12b0 : decide (1 < (l0_0.length : Int)) = true := decide_eq_true c12
       have c12b1 : decide (1 < l0_0.length) = true := decide_eq_true (by omega)
       clear c12
       obtain ⟨t1099, A130, H⟩ := ob H
       have A13 := Aside0.mk A130
       clear A130
       obtain rfl := Option.some.inj H
       have hcz14_0 := zh BK1095
       have hfz14_0 := zfr BK1095 0
       have p1096 : 0 ≤ (0 : Int) := (by omega)
       have q1096 : 0 < (l0_0.length : Int) := of_decide_eq_true y23
       obtain ⟨ad1096, A1096_0, c1096_0, e1096, hx1096_0, hl1096_0, hi1096_0⟩ := at_T50 HR0_0.out 0 p1096 q1096
       cases e1096
       have qi1096 : (0 < l0_0.length) = True := eq_true (by omega)
       (try rw [show ((0 : Int)).toNat = 0 from rfl] at hx1096_0)
       (try rw [Addr.add_zero'] at hx1096_0)
       replace hx1096_0 := (HB.out.cell (World.block_lt_of_cell? w _ hx1096_0)).trans hx1096_0
       have HR1096_0 := Aside0.mk hi1096_0
       have HC1096_0 := Aside0.mk hl1096_0
       clear hi1096_0 hl1096_0
       replace p1096 := eq_true p1096
       replace q1096 := eq_true q1096
       go_wp2_with (first | (go_at_call 59; (with_reducible refine (ih k (by omega) _ _ ((rd_T50 l0_0 0).f0) (wrap64 (a1 - 1)) true _ ?side1 ?side2 A10.out).mono ?_); (case side1 => exact y18 HR1096_0.out HB.out); (case side2 => exact HC1096_0.out); rintro e w15 ⟨rfl, hb⟩; replace BK1095 := zbb BK1095 hb; replace HB := Aside0.mk (below_step (y7 HB.out GE1095.out) hb); (try clear hb); (try clear hb2); (try clear hk); (try clear hi); have hcz16_0 := zh BK1095; have hfz16_0 := zfr BK1095 0; have p1098 : 0 ≤ (1 : Int) := (by omega); have q1098 : 1 < (l0_0.length : Int) := of_decide_eq_true y23; obtain ⟨ad1098, A1098_0, c1098_0, e1098, hx1098_0, hl1098_0, hi1098_0⟩ := at_T50 HR0_0.out 1 p1098 q1098; obtain rfl : ad1096 = ad1098 := (by injection e1098); (try simp only [show (1 : Int).toNat = 1 from rfl, Nat.reduceMul, Nat.reduceEqDiff, Go.Addr.add, ↓reduceIte] at hx1098_0); have qi1098 : (1 < l0_0.length) = True := eq_true (by omega); (try rw [show ((1 : Int)).toNat = 1 from rfl] at hx1098_0); replace hx1098_0 := (HB.out.cell (World.block_lt_of_cell? w _ hx1098_0)).trans hx1098_0; have HR1098_0 := Aside0.mk hi1098_0; have HC1098_0 := Aside0.mk hl1098_0; clear hi1098_0 hl1098_0; replace p1098 := eq_true p1098; replace q1098 := eq_true q1098) | (go_at_call 59; (with_reducible refine (ih k (by omega) _ _ ((rd_T50 l0_0 1).f0) (wrap64 (a1 - 1)) t1099 _ ?side1 ?side2 A13.out).mono ?_); (case side1 => exact y18 HR1098_0.out HB.out); (case side2 => exact HC1098_0.out); rintro e w17 ⟨rfl, hb⟩; replace BK1095 := zbb BK1095 hb; replace HB := Aside0.mk (below_step (y7 HB.out GE1095.out) hb); (try clear hb); (try clear hb2); (try clear hk); (try clear hi)))
       go_ret
       exact ⟨y15, (y7 HB.out GE1095.out)⟩
      ·rw [if_neg c12] at H
       exact absurd H (by simp)
     ·replace c11 := Bool.eq_false_iff.mpr c11
      subst c11
      rw [if_neg (show ¬ (false = true) by decide)] at H
      obtain rfl := Option.some.inj H
      have hcz18_0 := zh BK1095
      have hfz18_0 := zfr BK1095 0
      have p1096 : 0 ≤ (0 : Int) := (by omega)
      have q1096 : 0 < (l0_0.length : Int) := of_decide_eq_true y23
      obtain ⟨ad1096, A1096_0, c1096_0, e1096, hx1096_0, hl1096_0, hi1096_0⟩ := at_T50 HR0_0.out 0 p1096 q1096
      cases e1096
      have qi1096 : (0 < l0_0.length) = True := eq_true (by omega)
      (try rw [show ((0 : Int)).toNat = 0 from rfl] at hx1096_0)
      (try rw [Addr.add_zero'] at hx1096_0)
      replace hx1096_0 := (HB.out.cell (World.block_lt_of_cell? w _ hx1096_0)).trans hx1096_0
      have HR1096_0 := Aside0.mk hi1096_0
      have HC1096_0 := Aside0.mk hl1096_0
      clear hi1096_0 hl1096_0
      replace p1096 := eq_true p1096
      replace q1096 := eq_true q1096
      go_wp2_with (first | (go_at_call 59; (with_reducible refine (ih k (by omega) _ _ ((rd_T50 l0_0 0).f0) (wrap64 (a1 - 1)) false _ ?side1 ?side2 A10.out).mono ?_); (case side1 => exact y18 HR1096_0.out HB.out); (case side2 => exact HC1096_0.out); rintro e w19 ⟨rfl, hb⟩; replace BK1095 := zbb BK1095 hb; replace HB := Aside0.mk (below_step (y7 HB.out GE1095.out) hb); (try clear hb); (try clear hb2); (try clear hk); (try clear hi)))
      go_ret
      exact ⟨y15, (y7 HB.out GE1095.out)⟩
    ·rw [if_neg c9] at H
     exact absurd H (by simp)
   ·rw [if_neg c8] at H
    have c8b0 : ((l0_0.length : Int) == 2) = false := beq_eq_false_iff_ne.mpr c8
    have c8b1 : ((l0_0.length : Int) != 2) = true := bne_iff_ne.mpr c8
    obtain rfl := Option.some.inj H
    have hcz20_0 := zh BK1095
    have hfz20_0 := zfr BK1095 0
    go_wp2
    go_ret
    exact ⟨y15, (y7 HB.out GE1095.out)⟩
end Go.Proofs.Ythfflieeifakdaa.PA
end
section
namespace Go.Proofs.Ythfflieeifakdaa.PA
open Go.RowKit Go.Proofs.YthfflieeifakdaaW.PrintWords Go.Proofs.YthfflieeifakdaaW.PrintLast Go.Proofs.YthfflieeifakdaaW.PrintMore
attribute [local go_sem] max2_int min2_int max_two min_two max_three min_three max_four min_four
set_option linter.unusedVariables false
set_option linter.unusedSimpArgs false
def impl_TypeOk.f (k : Nat) (l0_0 : List (S50)) : Option (Bool) := (impl_typeFits.f k l0_0 4).bind fun t1101 => (some t1101)
theorem impl_TypeOk.mono : ∀ a0 k, LeO (impl_TypeOk.f k a0) (impl_TypeOk.f (k + 1) a0) := by
 intro a0 k
 unfold impl_TypeOk.f
 repeat' first
   | (with_reducible exact impl_typeFits.mono _ _ _)
   | (with_reducible exact LeO.refl _)
   | (with_reducible exact LeO.none _)
   | (with_reducible refine LeO.ite ?_ ?_)
   | (with_reducible refine LeO.bind ?_ (fun _ => ?_))
   | exact impl_typeFits.mono _ _ _
   | exact LeO.none _
   | refine LeO.ite ?_ ?_
   | refine LeO.bind ?_ (fun _ => ?_)
set_option maxHeartbeats 8000000 in
set_option maxRecDepth 100000 in
theorem impl_TypeOk.calls (k : Nat) (A0_0 : Option Addr) (c0_0 : Nat) (l0_0 : List (S50)) (r : Bool) (w : World) (hr0_0 : Kd.C k50 w A0_0 l0_0.length l0_0) (hc0_0 : l0_0.length ≤ c0_0) (h : impl_TypeOk.f k l0_0 = some r) :
  Calls Try.prog 52 #[.agg #[.slice A0_0 l0_0.length c0_0]] w fun e w' => e = .returned (.bool r) ∧ Below w.heap.size w w' := by
 have hu50 := Try.underlying50
 have HR0_0 := Aside0.mk hr0_0
 have HC0_0 := Aside0.mk hc0_0
 clear hr0_0 hc0_0
 have HB := Aside0.mk (Below.refl w.heap.size w)
 have H : ((impl_typeFits.f k l0_0 4).bind fun t1101 => (some t1101)) = some r := h
 clear h
 obtain ⟨t1101, A20, H⟩ := ob H
 have A2 := Aside0.mk A20
 clear A20
 obtain rfl := Option.some.inj H
 go_enter Try.func52, Try.ntmps52
 go_wp2_with (first | ((with_reducible refine gate_dst (N := 1) rfl ?_); refine zbx 1 #[.slice A0_0 l0_0.length c0_0] 50 ?_; intro gb1100 hg w3 hbox hb; have BK1100 := Aside0.mk hbox; have GW1100 := Aside0.mk ((y10 hg HB.out : w.heap.size ≤ gb1100)); have GE1100 := Aside0.mk ((y10 hg HB.out : w.heap.size ≤ gb1100)); replace HB := Aside0.mk (below_step (y6 HB.out) hb); clear hb hbox hg; have hcz4_0 := zh BK1100; have hfz4_0 := zfr BK1100 0) | ((with_reducible refine gate_callee (f := 59) rfl ?_); refine goesL_ (some 4) rfl rfl Try.func59 (by kernel_rfl) rfl #[.agg #[.slice A0_0 l0_0.length c0_0], .int .i64 4] rfl y9 ?_; (with_reducible refine (impl_typeFits.calls k _ _ l0_0 4 t1101 _ ?side1 ?side2 A2.out).mono ?_); (case side1 => exact y18 HR0_0.out HB.out); (case side2 => exact HC0_0.out); rintro e w5 ⟨rfl, hb⟩; refine ⟨_, rfl, ?_⟩; replace BK1100 := zbb BK1100 hb; replace HB := Aside0.mk (below_step (y7 HB.out GE1100.out) hb); (try clear hb); (try clear hb2); (try clear hk); (try clear hi)))
 go_ret
 exact ⟨y15, (y7 HB.out GE1100.out)⟩
end Go.Proofs.Ythfflieeifakdaa.PA
end
section
namespace Go.Proofs.Ythfflieeifakdaa.PA
open Go.RowKit Go.Proofs.YthfflieeifakdaaW.PrintWords Go.Proofs.YthfflieeifakdaaW.PrintLast Go.Proofs.YthfflieeifakdaaW.PrintMore
attribute [local go_sem] max2_int min2_int max_two min_two max_three min_three max_four min_four
set_option linter.unusedVariables false
set_option linter.unusedSimpArgs false
def impl_ValOk.f (k : Nat) (l0_0 : List (S50)) (a1_0 : Int) (l1_1 : List (S25)) : Option (Bool) := (impl_TypeOk.f k l0_0).bind fun t1104 => (if t1104 = true then ((impl_valTyped.f k a1_0 l1_1).bind fun bt1105 => (if bt1105.2 = true then ((impl_typeSame.f k bt1105.1 l0_0).bind fun t1110 => (some t1110)) else (some false))) else (some false))
theorem impl_ValOk.mono : ∀ a0 a1 a2 k, LeO (impl_ValOk.f k a0 a1 a2) (impl_ValOk.f (k + 1) a0 a1 a2) := by
 intro a0 a1 a2 k
 unfold impl_ValOk.f
 repeat' first
   | (with_reducible exact impl_TypeOk.mono _ _)
   | (with_reducible exact impl_typeSame.mono _ _ _)
   | (with_reducible exact impl_valTyped.mono _ _ _)
   | (with_reducible exact LeO.refl _)
   | (with_reducible exact LeO.none _)
   | (with_reducible refine LeO.ite ?_ ?_)
   | (with_reducible refine LeO.bind ?_ (fun _ => ?_))
   | exact impl_TypeOk.mono _ _
   | exact impl_typeSame.mono _ _ _
   | exact impl_valTyped.mono _ _ _
   | exact LeO.none _
   | refine LeO.ite ?_ ?_
   | refine LeO.bind ?_ (fun _ => ?_)
set_option maxHeartbeats 8000000 in
set_option maxRecDepth 100000 in
theorem impl_ValOk.calls (k : Nat) (A0_0 : Option Addr) (c0_0 : Nat) (l0_0 : List (S50)) (a1_0 : Int) (A1_1 : Option Addr) (c1_1 : Nat) (l1_1 : List (S25)) (r : Bool) (w : World) (hr0_0 : Kd.C k50 w A0_0 l0_0.length l0_0) (hc0_0 : l0_0.length ≤ c0_0) (hr1_1 : Kd.C k25 w A1_1 l1_1.length l1_1) (hc1_1 : l1_1.length ≤ c1_1) (h : impl_ValOk.f k l0_0 a1_0 l1_1 = some r) :
  Calls Try.prog 28 #[.agg #[.slice A0_0 l0_0.length c0_0], .agg #[.int .i64 a1_0, .slice A1_1 l1_1.length c1_1]] w fun e w' => e = .returned (.bool r) ∧ Below w.heap.size w w' := by
 have hu50 := Try.underlying50
 have hu25 := Try.underlying25
 have HR0_0 := Aside0.mk hr0_0
 have HC0_0 := Aside0.mk hc0_0
 clear hr0_0 hc0_0
 have HR1_1 := Aside0.mk hr1_1
 have HC1_1 := Aside0.mk hc1_1
 clear hr1_1 hc1_1
 have HB := Aside0.mk (Below.refl w.heap.size w)
 have H : ((impl_TypeOk.f k l0_0).bind fun t1104 => (if t1104 = true then ((impl_valTyped.f k a1_0 l1_1).bind fun bt1105 => (if bt1105.2 = true then ((impl_typeSame.f k bt1105.1 l0_0).bind fun t1110 => (some t1110)) else (some false))) else (some false))) = some r := h
 clear h
 obtain ⟨t1104, A30, H⟩ := ob H
 have A3 := Aside0.mk A30
 clear A30
 have HZ4 := Aside0.mk H
 clear H
 go_enter Try.func28, Try.ntmps28
 go_upto_if 9 with (first | ((with_reducible refine gate_dst (N := 2) rfl ?_); refine zbx 2 #[.slice A0_0 l0_0.length c0_0] 50 ?_; intro gb1102 hg w5 hbox hb; have BK1102 := Aside0.mk hbox; have GW1102 := Aside0.mk ((y10 hg HB.out : w.heap.size ≤ gb1102)); have GE1102 := Aside0.mk ((y10 hg HB.out : w.heap.size ≤ gb1102)); replace HB := Aside0.mk (below_step (y6 HB.out) hb); clear hb hbox hg) | ((with_reducible refine gate_dst (N := 3) rfl ?_); refine zbx 3 #[.int .i64 a1_0, .slice A1_1 l1_1.length c1_1] 25 ?_; intro gb1103 hg w6 hbox hb; have BK1103 := Aside0.mk hbox; have GW1103 := Aside0.mk ((y12 hg HB.out GE1102.out : w.heap.size ≤ gb1103)); have GE1103 := Aside0.mk ((y12 hg HB.out GE1102.out : w.heap.size ≤ gb1103)); replace HB := Aside0.mk (below_step (y7 HB.out GE1102.out) hb); have NB1102_1103 := zltn hg BK1102; have NB1103_1102 := zgtn hg BK1102; replace BK1102 := zbb BK1102 hb; clear hb hbox hg; have hnb7 := NB1102_1103.out; have hnc7 := NB1103_1102.out; have hcz8_0 := zh BK1102; have hfz8_0 := zfr BK1102 0) | ((with_reducible refine gate_callee (f := 52) rfl ?_); refine goesL_ (some 8) rfl rfl Try.func52 (by kernel_rfl) rfl #[.agg #[.slice A0_0 l0_0.length c0_0]] rfl y9 ?_; (with_reducible refine (impl_TypeOk.calls k _ _ l0_0 t1104 _ ?side1 ?side2 A3.out).mono ?_); (case side1 => exact y18 HR0_0.out HB.out); (case side2 => exact HC0_0.out); rintro e w9 ⟨rfl, hb⟩; refine ⟨_, rfl, ?_⟩; replace BK1102 := zbb BK1102 hb; replace BK1103 := zbb BK1103 hb; replace HB := Aside0.mk (below_step (y3 HB.out GE1102.out GE1103.out) hb); (try clear hb); (try clear hb2); (try clear hk); (try clear hi)))
 (try simp only [Act.put, List.setIfInBounds_toArray, List.set_cons_zero, List.set_cons_succ])
 have H := HZ4.out
 clear HZ4
 by_cases c10 : t1104 = true
 ·subst c10
  rw [if_pos rfl] at H
  obtain ⟨⟨t1105, t1108⟩, A110, H⟩ := ob H
  have A11 := Aside0.mk A110
  clear A110
  by_cases c12 : t1108 = true
  ·subst c12
   rw [if_pos rfl] at H
   obtain ⟨t1110, A130, H⟩ := ob H
   have A13 := Aside0.mk A130
   clear A130
   obtain rfl := Option.some.inj H
   have hnb14 := NB1103_1102.out
   have hnc14 := NB1102_1103.out
   have hcz15_0 := zh BK1103
   have hcz15_1 := zh1 BK1103
   have hfz15_0 := zfr BK1103 0
   have hfz15_1 := zfr BK1103 1
   go_wp2_with (first | ((with_reducible refine gate_callee (f := 38) rfl ?_); refine goesL_ (some 12) rfl rfl Try.func38 (by kernel_rfl) rfl #[.agg #[.int .i64 a1_0, .slice A1_1 l1_1.length c1_1]] rfl y9 ?_; (with_reducible refine (impl_valTyped.calls k a1_0 _ _ l1_1 t1105 true _ ?side1 ?side2 A11.out).mono ?_); (case side1 => exact y18 HR1_1.out HB.out); (case side2 => exact HC1_1.out); rintro e w16 ⟨v1106, rfl, ho0, hb⟩; refine ⟨_, rfl, ?_⟩; have HO1107 := Aside0.mk (Kd.N_lower (Kd.N_mono (ok' := fun k_ => k_ ≠ gb1102 ∧ k_ ≠ gb1103) ho0 (fun k_ hk_ => ⟨(Kd.freshB (g := gb1102) (o := .cells #[.slice A0_0 l0_0.length c0_0] 50 (0, 0)) (y0 BK1102.out) k_ hk_), (Kd.freshB (g := gb1103) (o := .cells #[.int .i64 a1_0, .slice A1_1 l1_1.length c1_1] 25 (0, 0)) (y0 BK1103.out) k_ hk_)⟩)) (below_size (y3 HB.out GE1102.out GE1103.out))); replace BK1102 := zbb BK1102 hb; replace BK1103 := zbb BK1103 hb; replace HB := Aside0.mk (below_step (y3 HB.out GE1102.out GE1103.out) hb); (try clear hb); (try clear hb2); (try clear hk); (try clear hi); (try clear ho0)) | ((with_reducible refine gate_dst (N := 5) rfl ?_); refine zbx 5 #[.slice none 0 0] 50 ?_; intro gb1109 hg w17 hbox hb; replace HO1107 := Aside0.mk (Kd.N_below (Kd.N_elderB (y2 HO1107.out) gb1109 (Nat.le_of_eq hg.symm)) hb); have BK1109 := Aside0.mk hbox; have GW1109 := Aside0.mk ((y16 hg HB.out GE1102.out GE1103.out : w.heap.size ≤ gb1109)); have GE1109 := Aside0.mk ((y16 hg HB.out GE1102.out GE1103.out : w.heap.size ≤ gb1109)); replace HB := Aside0.mk (below_step (y3 HB.out GE1102.out GE1103.out) hb); have NB1102_1109 := zltn hg BK1102; have NB1109_1102 := zgtn hg BK1102; replace BK1102 := zbb BK1102 hb; have NB1103_1109 := zltn hg BK1103; have NB1109_1103 := zgtn hg BK1103; replace BK1103 := zbb BK1103 hb; clear hb hbox hg; obtain ⟨Ao18, co18, eo18⟩ := Kd.N_slice HO1107.out; subst eo18; have hnb19 := NB1109_1102.out; have hnc19 := NB1102_1109.out; have hnb20 := NB1109_1103.out; have hnc20 := NB1103_1109.out; have hcz21_0 := zh BK1109; have hfz21_0 := zfr BK1109 0; have hcz22_0 := zh BK1102; have hfz22_0 := zfr BK1102 0) | (go_at_call 46; (with_reducible refine (impl_typeSame.calls k _ _ t1105 _ _ l0_0 t1110 _ ?side1 ?side2 ?side3 ?side4 A13.out).mono ?_); (case side1 => refine (Kd.N_reads' (e := 50) (base := w.heap.size) (ok := fun k_ => ((k_ ≠ gb1102 ∧ k_ ≠ gb1103) ∧ k_ ≠ gb1109)) (n := t1105.length) (c := co18) ?_).2.2; exact (by (with_reducible repeat (first | apply Kd.N_alloc | apply Kd.N_drewN | apply Kd.N_drew)); exact (Kd.N_mono (Kd.N_far (p := ⟨gb1109, 0, none⟩) (Kd.N_mono HO1107.out (fun k_ hk => (⟨hk, hk.2⟩ : _ ∧ k_ ≠ gb1109))) (fun _ hk => hk.2) (.slice Ao18 t1105.length co18)) (fun _ h_ => h_.1)))); (case side2 => exact (Kd.N_reads' HO1107.out).2.1); (case side3 => exact y54 HR0_0.out HB.out GE1102.out GE1103.out GE1109.out); (case side4 => exact HC0_0.out); rintro e w23 ⟨rfl, hb⟩; replace HO1107 := Aside0.mk (Kd.N_below (by (with_reducible repeat (first | apply Kd.N_alloc | apply Kd.N_drewN | apply Kd.N_drew)); exact (Kd.N_mono (Kd.N_far (p := ⟨gb1109, 0, none⟩) (Kd.N_mono HO1107.out (fun k_ hk => (⟨hk, hk.2⟩ : _ ∧ k_ ≠ gb1109))) (fun _ hk => hk.2) (.slice Ao18 t1105.length co18)) (fun _ h_ => h_.1))) hb); replace BK1102 := zbf BK1102 NB1102_1109 hb; replace BK1103 := zbf BK1103 NB1103_1109 hb; replace BK1109 := Aside0.mk (blk_below (g := gb1109) (o := .cells #[.slice Ao18 t1105.length co18] 50 (0, 0)) (by (with_reducible repeat (first | refine blk_drewN ?_ _ | refine blk_drew ?_ | refine blk_alloc ?_ _)); apply blk_put (i := 0); (case h => exact y0 BK1109.out); (case e => rfl)) hb); replace HB := Aside0.mk (below_step (y4 HB.out GE1102.out GE1103.out GE1109.out) hb); (try clear hb); (try clear hb2); (try clear hk); (try clear hi)))
   go_ret
   exact ⟨y15, (y4 HB.out GE1102.out GE1103.out GE1109.out)⟩
  ·replace c12 := Bool.eq_false_iff.mpr c12
   subst c12
   rw [if_neg (show ¬ (false = true) by decide)] at H
   obtain rfl := Option.some.inj H
   have hnb24 := NB1103_1102.out
   have hnc24 := NB1102_1103.out
   have hcz25_0 := zh BK1103
   have hcz25_1 := zh1 BK1103
   have hfz25_0 := zfr BK1103 0
   have hfz25_1 := zfr BK1103 1
   go_wp2_with (first | ((with_reducible refine gate_callee (f := 38) rfl ?_); refine goesL_ (some 12) rfl rfl Try.func38 (by kernel_rfl) rfl #[.agg #[.int .i64 a1_0, .slice A1_1 l1_1.length c1_1]] rfl y9 ?_; (with_reducible refine (impl_valTyped.calls k a1_0 _ _ l1_1 t1105 false _ ?side1 ?side2 A11.out).mono ?_); (case side1 => exact y18 HR1_1.out HB.out); (case side2 => exact HC1_1.out); rintro e w26 ⟨v1106, rfl, ho0, hb⟩; refine ⟨_, rfl, ?_⟩; have HO1107 := Aside0.mk (Kd.N_lower (Kd.N_mono (ok' := fun k_ => k_ ≠ gb1102 ∧ k_ ≠ gb1103) ho0 (fun k_ hk_ => ⟨(Kd.freshB (g := gb1102) (o := .cells #[.slice A0_0 l0_0.length c0_0] 50 (0, 0)) (y0 BK1102.out) k_ hk_), (Kd.freshB (g := gb1103) (o := .cells #[.int .i64 a1_0, .slice A1_1 l1_1.length c1_1] 25 (0, 0)) (y0 BK1103.out) k_ hk_)⟩)) (below_size (y3 HB.out GE1102.out GE1103.out))); replace BK1102 := zbb BK1102 hb; replace BK1103 := zbb BK1103 hb; replace HB := Aside0.mk (below_step (y3 HB.out GE1102.out GE1103.out) hb); (try clear hb); (try clear hb2); (try clear hk); (try clear hi); (try clear ho0)) | ((with_reducible refine gate_dst (N := 5) rfl ?_); refine zbx 5 #[.slice none 0 0] 50 ?_; intro gb1109 hg w27 hbox hb; replace HO1107 := Aside0.mk (Kd.N_below (Kd.N_elderB (y2 HO1107.out) gb1109 (Nat.le_of_eq hg.symm)) hb); have BK1109 := Aside0.mk hbox; have GW1109 := Aside0.mk ((y16 hg HB.out GE1102.out GE1103.out : w.heap.size ≤ gb1109)); have GE1109 := Aside0.mk ((y16 hg HB.out GE1102.out GE1103.out : w.heap.size ≤ gb1109)); replace HB := Aside0.mk (below_step (y3 HB.out GE1102.out GE1103.out) hb); have NB1102_1109 := zltn hg BK1102; have NB1109_1102 := zgtn hg BK1102; replace BK1102 := zbb BK1102 hb; have NB1103_1109 := zltn hg BK1103; have NB1109_1103 := zgtn hg BK1103; replace BK1103 := zbb BK1103 hb; clear hb hbox hg; obtain ⟨Ao28, co28, eo28⟩ := Kd.N_slice HO1107.out; subst eo28; have hnb29 := NB1109_1102.out; have hnc29 := NB1102_1109.out; have hnb30 := NB1109_1103.out; have hnc30 := NB1103_1109.out; have hcz31_0 := zh BK1109; have hfz31_0 := zfr BK1109 0))
   go_ret
   exact ⟨y15, (y4 HB.out GE1102.out GE1103.out GE1109.out)⟩
 ·replace c10 := Bool.eq_false_iff.mpr c10
  subst c10
  rw [if_neg (show ¬ (false = true) by decide)] at H
  obtain rfl := Option.some.inj H
  go_wp2
  go_ret
  exact ⟨y15, (y3 HB.out GE1102.out GE1103.out)⟩
end Go.Proofs.Ythfflieeifakdaa.PA
end
section
namespace Go.Proofs.Ythfflieeifakdaa.PA
open Go.RowKit Go.Proofs.YthfflieeifakdaaW.PrintWords Go.Proofs.YthfflieeifakdaaW.PrintLast Go.Proofs.YthfflieeifakdaaW.PrintMore
attribute [local go_sem] max2_int min2_int max_two min_two max_three min_three max_four min_four
set_option linter.unusedVariables false
set_option linter.unusedSimpArgs false
def laws_FnValType.j0 : Nat → Bool → Bool → List (S50) → Int → List (S25) → Int → List (S25) → Option (Bool)
 | 0, _, _, _, _, _, _, _ => none
 | k + 1, x9, x57, x1119000, x1120000, x1120001, x1139000, x1139001 => if x57 = true then (some false) else (if x9 = true then ((impl_ValOk.f k x1119000 x1139000 x1139001).bind fun t1148 => ((impl_ValOk.f k x1119000 x1120000 x1120001).bind fun t1149 => (some (t1148 == t1149)))) else (some true))
def laws_FnValType.f (k : Nat) (l0 : List Int) : Option (Bool) := if (l0.length : Int) > 1048576 then (some true) else ((spec_DrawValOk.f k l0).bind fun bt1111 => ((spec_DrawValPut.f k l0).bind fun bt1120 => ((impl_ValPut.f k bt1111.2.1 bt1111.2.2 bt1120.2.2.1 bt1120.2.2.2.1 bt1120.2.2.2.2).bind fun bt1133 => ((spec_ValPut.f k bt1111.2.1 bt1111.2.2 bt1120.2.2.1 bt1120.2.2.2.1 bt1120.2.2.2.2).bind fun bt1139 => (if (bt1133.2.2 != bt1139.2.2) = true then (laws_FnValType.j0 k bt1133.2.2 true bt1111.1 bt1111.2.1 bt1111.2.2 bt1133.1 bt1133.2.1) else ((laws_lhVal.f k bt1133.1 bt1133.2.1 bt1139.1 bt1139.2.1).bind fun t1145 => (if t1145 = true then ((impl_ValOk.f k bt1111.1 bt1111.2.1 bt1111.2.2).bind fun t1146 => ((spec_ValOk.f k bt1111.1 bt1111.2.1 bt1111.2.2).bind fun t1147 => (laws_FnValType.j0 k bt1133.2.2 (t1146 != t1147) bt1111.1 bt1111.2.1 bt1111.2.2 bt1133.1 bt1133.2.1))) else (laws_FnValType.j0 k bt1133.2.2 true bt1111.1 bt1111.2.1 bt1111.2.2 bt1133.1 bt1133.2.1))))))))
theorem laws_FnValType.mono_l : ∀ k, (∀ y0 y1 y2 y3 y4 y5 y6, LeO (laws_FnValType.j0 k y0 y1 y2 y3 y4 y5 y6) (laws_FnValType.j0 (k + 1) y0 y1 y2 y3 y4 y5 y6))
 | 0 => fun _ _ _ _ _ _ _ r h => by simp [laws_FnValType.j0] at h
 | k + 1 => by
  have ih0 := laws_FnValType.mono_l k
  ·intro y0 y1 y2 y3 y4 y5 y6
   unfold laws_FnValType.j0
   repeat' first
   | (with_reducible exact ih0 _ _ _ _ _ _ _)
   | (with_reducible exact impl_ValOk.mono _ _ _ _)
   | (with_reducible exact impl_ValPut.mono _ _ _ _ _ _)
   | (with_reducible exact laws_lhVal.mono _ _ _ _ _)
   | (with_reducible exact spec_DrawValOk.mono _ _)
   | (with_reducible exact spec_DrawValPut.mono _ _)
   | (with_reducible exact spec_ValOk.mono _ _ _ _)
   | (with_reducible exact spec_ValPut.mono _ _ _ _ _ _)
   | (with_reducible exact LeO.refl _)
   | (with_reducible exact LeO.none _)
   | (with_reducible refine LeO.ite ?_ ?_)
   | (with_reducible refine LeO.bind ?_ (fun _ => ?_))
   | exact ih0 _ _ _ _ _ _ _
   | exact impl_ValOk.mono _ _ _ _
   | exact impl_ValPut.mono _ _ _ _ _ _
   | exact laws_lhVal.mono _ _ _ _ _
   | exact spec_DrawValOk.mono _ _
   | exact spec_DrawValPut.mono _ _
   | exact spec_ValOk.mono _ _ _ _
   | exact spec_ValPut.mono _ _ _ _ _ _
   | exact LeO.none _
   | refine LeO.ite ?_ ?_
   | refine LeO.bind ?_ (fun _ => ?_)
theorem laws_FnValType.mono : ∀ a0 k, LeO (laws_FnValType.f k a0) (laws_FnValType.f (k + 1) a0) := by
 intro a0 k
 have ih0 := laws_FnValType.mono_l k
 unfold laws_FnValType.f
 repeat' first
   | (with_reducible exact ih0 _ _ _ _ _ _ _)
   | (with_reducible exact impl_ValOk.mono _ _ _ _)
   | (with_reducible exact impl_ValPut.mono _ _ _ _ _ _)
   | (with_reducible exact laws_lhVal.mono _ _ _ _ _)
   | (with_reducible exact spec_DrawValOk.mono _ _)
   | (with_reducible exact spec_DrawValPut.mono _ _)
   | (with_reducible exact spec_ValOk.mono _ _ _ _)
   | (with_reducible exact spec_ValPut.mono _ _ _ _ _ _)
   | (with_reducible exact LeO.refl _)
   | (with_reducible exact LeO.none _)
   | (with_reducible refine LeO.ite ?_ ?_)
   | (with_reducible refine LeO.bind ?_ (fun _ => ?_))
   | exact ih0 _ _ _ _ _ _ _
   | exact impl_ValOk.mono _ _ _ _
   | exact impl_ValPut.mono _ _ _ _ _ _
   | exact laws_lhVal.mono _ _ _ _ _
   | exact spec_DrawValOk.mono _ _
   | exact spec_DrawValPut.mono _ _
   | exact spec_ValOk.mono _ _ _ _
   | exact spec_ValPut.mono _ _ _ _ _ _
   | exact LeO.none _
   | refine LeO.ite ?_ ?_
   | refine LeO.bind ?_ (fun _ => ?_)
def laws_FnValType.T7 : Bool × List (List Nat × List Nat) := (true, [([], []), ([], []), ([0, 1], [0, 1]), ([2], [2]), ([3], [3]), ([3], [3]), ([4, 5, 3, 3], [3, 4, 5]), ([6, 3], [3, 6]), ([3, 7], [3, 7]), ([8, 6], [8]), ([9], [9]), ([9], [9]), ([10, 11, 9, 9], [9, 10, 11]), ([9], [9]), ([9], [9]), ([13, 14, 12, 9], [9, 13, 14]), ([12, 15, 9], [9, 12, 15]), ([9, 16], [9, 16])])
def laws_FnValType.B7 : List Nat := [0, 0, 3, 7, 15, 15, 63, 127, 255, 511, 1023, 1023, 4095, 1023, 1023, 32767, 65535, 131071]
theorem laws_FnValType.tab7 : rtab .any (opsOf Try.f11 7) = laws_FnValType.T7 := by kernel_rfl
theorem laws_FnValType.bits7 : waitsOk laws_FnValType.T7.2 laws_FnValType.B7 = true := by kernel_rfl
def laws_FnValType.T9 : Bool × List (List Nat × List Nat) := (true, [([], []), ([0], [0]), ([1], [1]), ([2], [2]), ([2], [2]), ([3, 4, 2, 2], [2, 3, 4]), ([2], [2]), ([2], [2]), ([6, 7, 5, 2], [2, 6, 7]), ([5, 8, 2], [2, 5, 8]), ([2, 9], [2, 9]), ([10, 8, 0, 1, 2, 3, 4, 5, 6, 7, 8, 9, 10], [10])])
def laws_FnValType.B9 : List Nat := [0, 1, 3, 7, 7, 31, 7, 7, 255, 511, 1023, 2047]
theorem laws_FnValType.tab9 : rtab .any (opsOf Try.f11 9) = laws_FnValType.T9 := by kernel_rfl
theorem laws_FnValType.bits9 : waitsOk laws_FnValType.T9.2 laws_FnValType.B9 = true := by kernel_rfl
set_option maxHeartbeats 8000000 in
set_option maxRecDepth 100000 in
theorem laws_FnValType.calls (k : Nat) (A0 : Option Addr) (c0 : Nat) (l0 : List Int) (r : Bool) (w : World) (hr0 : Kd.C (Kd.int .u8) w A0 l0.length l0) (hc0 : l0.length ≤ c0) (h : laws_FnValType.f k l0 = some r) (hr_ : Aside0 (r = true)) :
  Calls Try.prog 11 #[.slice A0 l0.length c0] w fun e w' => e = .returned (.bool r) ∧ Below w.heap.size w w' := by
 have hu50 := Try.underlying50
 have hu25 := Try.underlying25
 have HR0 := Aside0.mk hr0
 have HC0 := Aside0.mk hc0
 clear hr0 hc0
 have HB := Aside0.mk (Below.refl w.heap.size w)
 have H : (if (l0.length : Int) > 1048576 then (some true) else ((spec_DrawValOk.f k l0).bind fun bt1111 => ((spec_DrawValPut.f k l0).bind fun bt1120 => ((impl_ValPut.f k bt1111.2.1 bt1111.2.2 bt1120.2.2.1 bt1120.2.2.2.1 bt1120.2.2.2.2).bind fun bt1133 => ((spec_ValPut.f k bt1111.2.1 bt1111.2.2 bt1120.2.2.1 bt1120.2.2.2.1 bt1120.2.2.2.2).bind fun bt1139 => (if (bt1133.2.2 != bt1139.2.2) = true then (laws_FnValType.j0 k bt1133.2.2 true bt1111.1 bt1111.2.1 bt1111.2.2 bt1133.1 bt1133.2.1) else ((laws_lhVal.f k bt1133.1 bt1133.2.1 bt1139.1 bt1139.2.1).bind fun t1145 => (if t1145 = true then ((impl_ValOk.f k bt1111.1 bt1111.2.1 bt1111.2.2).bind fun t1146 => ((spec_ValOk.f k bt1111.1 bt1111.2.1 bt1111.2.2).bind fun t1147 => (laws_FnValType.j0 k bt1133.2.2 (t1146 != t1147) bt1111.1 bt1111.2.1 bt1111.2.2 bt1133.1 bt1133.2.1))) else (laws_FnValType.j0 k bt1133.2.2 true bt1111.1 bt1111.2.1 bt1111.2.2 bt1133.1 bt1133.2.1))))))))) = some r := h
 clear h
 by_cases c2 : (l0.length : Int) > 1048576
 ·rw [if_pos c2] at H
  have c2b0 : decide (1048576 < (l0.length : Int)) = true := decide_eq_true c2
  have c2b1 : decide (1048576 < l0.length) = true := decide_eq_true (by omega)
  clear c2
  clear hr_
  obtain rfl := Option.some.inj H
  go_enter Try.func11, Try.ntmps11
  go_wp2
  go_ret
  exact ⟨y15, (y6 HB.out)⟩
 ·rw [if_neg c2] at H
  have c2b0 : decide (1048576 < (l0.length : Int)) = false := decide_eq_false c2
  have c2b1 : decide (1048576 < l0.length) = false := decide_eq_false (by omega)
  clear c2
  obtain ⟨⟨t1111, t1114, t1115⟩, A30, H⟩ := ob H
  have A3 := Aside0.mk A30
  clear A30
  obtain ⟨⟨t1120, t1121, t1124, t1127, t1128⟩, A40, H⟩ := ob H
  have A4 := Aside0.mk A40
  clear A40
  obtain ⟨⟨t1133, t1134, t1137⟩, A50, H⟩ := ob H
  have A5 := Aside0.mk A50
  clear A50
  obtain ⟨⟨t1139, t1140, t1143⟩, A60, H⟩ := ob H
  have A6 := Aside0.mk A60
  clear A60
  have HC7 := Aside0.mk H
  clear H
  go_enter Try.func11, Try.ntmps11
  go_upto_region 7 with (first | ((with_reducible refine gate_callee (f := 27) rfl ?_); refine goesL_ (some 17) rfl rfl Try.func27 (by kernel_rfl) rfl #[.slice A0 l0.length c0] rfl y9 ?_; (with_reducible refine (spec_DrawValOk.calls k _ _ l0 t1111 t1114 t1115 _ ?side1 ?side2 A3.out).mono ?_); (case side1 => exact y60 HR0.out); (case side2 => exact HC0.out); rintro e w8 ⟨v1112, v1116, rfl, ho0, ho1, hb⟩; refine ⟨_, rfl, ?_⟩; have HO1113 := Aside0.mk (Kd.V_lower (Kd.V_mono (ok' := fun k_ => True) ho0 (fun k_ hk_ => trivial)) (below_size (y6 HB.out))); have HO1117 := Aside0.mk (Kd.V_lower (Kd.V_mono (ok' := fun k_ => True) ho1 (fun k_ hk_ => trivial)) (below_size (y6 HB.out))); replace HB := Aside0.mk (below_step (y6 HB.out) hb); (try clear hb); (try clear hb2); (try clear hk); (try clear hi); (try clear ho0); (try clear ho1)) | ((with_reducible refine gate_dst (N := 3) rfl ?_); refine zbx 3 #[.slice none 0 0] 50 ?_; intro gb1118 hg w9 hbox hb; replace HO1113 := Aside0.mk (Kd.V_below (Kd.V_elderB (y11 HO1113.out) gb1118 (Nat.le_of_eq hg.symm)) hb); replace HO1117 := Aside0.mk (Kd.V_below (Kd.V_elderB (y11 HO1117.out) gb1118 (Nat.le_of_eq hg.symm)) hb); have BK1118 := Aside0.mk hbox; have GW1118 := Aside0.mk ((y10 hg HB.out : w.heap.size ≤ gb1118)); have GE1118 := Aside0.mk ((y10 hg HB.out : w.heap.size ≤ gb1118)); replace HB := Aside0.mk (below_step (y6 HB.out) hb); clear hb hbox hg) | ((with_reducible refine gate_dst (N := 4) rfl ?_); refine zbx 4 #[.int .i64 0, .slice none 0 0] 25 ?_; intro gb1119 hg w10 hbox hb; replace HO1113 := Aside0.mk (Kd.V_below (Kd.V_elderB (y11 HO1113.out) gb1119 (Nat.le_of_eq hg.symm)) hb); replace HO1117 := Aside0.mk (Kd.V_below (Kd.V_elderB (y11 HO1117.out) gb1119 (Nat.le_of_eq hg.symm)) hb); have BK1119 := Aside0.mk hbox; have GW1119 := Aside0.mk ((y12 hg HB.out GE1118.out : w.heap.size ≤ gb1119)); have GE1119 := Aside0.mk ((y12 hg HB.out GE1118.out : w.heap.size ≤ gb1119)); replace HB := Aside0.mk (below_step (y7 HB.out GE1118.out) hb); have NB1118_1119 := zltn hg BK1118; have NB1119_1118 := zgtn hg BK1118; replace BK1118 := zbb BK1118 hb; clear hb hbox hg; obtain ⟨Ao11, co11, eo11⟩ := Kd.V_slice HO1113.out; subst eo11; have hnb12 := NB1118_1119.out; have hnc12 := NB1119_1118.out; have hcz13_0 := zh BK1118; have hfz13_0 := zfr BK1118 0; have hcz14_0 := zh BK1119; have hcz14_1 := zh1 BK1119; have hfz14_0 := zfr BK1119 0; have hfz14_1 := zfr BK1119 1; obtain ⟨Ao15, co15, eo15⟩ := Kd.V_slice HO1117.out; subst eo15) | ((with_reducible refine gate_callee (f := 25) rfl ?_); refine goesL_ (some 22) rfl rfl Try.func25 (by kernel_rfl) rfl #[.slice A0 l0.length c0] rfl y9 ?_; (with_reducible refine (spec_DrawValPut.calls k _ _ l0 t1120 t1121 t1124 t1127 t1128 _ ?side1 ?side2 A4.out).mono ?_); (case side1 => exact y92 HR0.out HB.out GE1118.out GE1119.out); (case side2 => exact HC0.out); rintro e w16 ⟨v1122, v1125, v1129, rfl, ho0, ho1, ho2, hb⟩; refine ⟨_, rfl, ?_⟩; replace HO1113 := Aside0.mk (Kd.V_mono (Kd.V_told (Kd.V_told (Kd.V_told (Kd.V_old (by (with_reducible repeat (first | apply Kd.V_alloc | apply Kd.V_drewN | apply Kd.V_drew)); exact (Kd.V_mono (Kd.V_mono (Kd.V_far (p := ⟨gb1119, 1, none⟩) (Kd.V_far (p := ⟨gb1119, 0, none⟩) (Kd.V_far (p := ⟨gb1118, 0, none⟩) (Kd.V_mono (Kd.V_mono HO1113.out (fun k_ hk => (⟨hk, hk.1.2⟩ : _ ∧ k_ ≠ gb1118))) (fun k_ hk => (⟨hk, hk.1.2⟩ : _ ∧ k_ ≠ gb1119))) (fun _ hk => hk.1.2) (.slice Ao11 t1111.length co11)) (fun _ hk => hk.2) (.int .i64 t1114)) (fun _ hk => hk.2) (.slice Ao15 t1115.length co15)) (fun _ h_ => h_.1)) (fun _ h_ => h_.1))) hb) (Kd.N_base ho0)) (Kd.R_base ho1)) (Kd.N_base ho2)) (fun _ h_ => h_.1)); replace HO1117 := Aside0.mk (Kd.V_mono (Kd.V_told (Kd.V_told (Kd.V_told (Kd.V_old (by (with_reducible repeat (first | apply Kd.V_alloc | apply Kd.V_drewN | apply Kd.V_drew)); exact (Kd.V_mono (Kd.V_mono (Kd.V_far (p := ⟨gb1119, 1, none⟩) (Kd.V_far (p := ⟨gb1119, 0, none⟩) (Kd.V_far (p := ⟨gb1118, 0, none⟩) (Kd.V_mono (Kd.V_mono HO1117.out (fun k_ hk => (⟨hk, hk.1.2⟩ : _ ∧ k_ ≠ gb1118))) (fun k_ hk => (⟨hk, hk.1.2⟩ : _ ∧ k_ ≠ gb1119))) (fun _ hk => hk.1.2) (.slice Ao11 t1111.length co11)) (fun _ hk => hk.2) (.int .i64 t1114)) (fun _ hk => hk.2) (.slice Ao15 t1115.length co15)) (fun _ h_ => h_.1)) (fun _ h_ => h_.1))) hb) (Kd.N_base ho0)) (Kd.R_base ho1)) (Kd.N_base ho2)) (fun _ h_ => h_.1)); have HO1123 := Aside0.mk (Kd.N_lower (Kd.N_mono (ok' := fun k_ => some k_ ≠ (v1125 : Value).ownBlock ∧ some k_ ≠ (v1129 : Value).ownBlock ∧ k_ ≠ gb1118 ∧ k_ ≠ gb1119) ho0 (fun k_ hk_ => ⟨hk_.2.1, hk_.2.2, (Kd.freshB (g := gb1118) (o := .cells #[.slice Ao11 t1111.length co11] 50 (0, 0)) (by (with_reducible repeat (first | refine blk_drewN ?_ _ | refine blk_drew ?_ | refine blk_alloc ?_ _)); refine blk_far ?_ NB1118_1119.out _; (with_reducible repeat (first | refine blk_drewN ?_ _ | refine blk_drew ?_ | refine blk_alloc ?_ _)); refine blk_far ?_ NB1118_1119.out _; (with_reducible repeat (first | refine blk_drewN ?_ _ | refine blk_drew ?_ | refine blk_alloc ?_ _)); apply blk_put (i := 0); (case h => exact y0 BK1118.out); (case e => rfl)) k_ hk_.1), (Kd.freshB (g := gb1119) (o := .cells #[.int .i64 t1114, .slice Ao15 t1115.length co15] 25 (0, 0)) (by (with_reducible repeat (first | refine blk_drewN ?_ _ | refine blk_drew ?_ | refine blk_alloc ?_ _)); refine blk_put (cs := #[.int .i64 t1114, .slice none 0 0]) ?_ 1 _ rfl; (with_reducible repeat (first | refine blk_drewN ?_ _ | refine blk_drew ?_ | refine blk_alloc ?_ _)); refine blk_put (cs := #[.int .i64 0, .slice none 0 0]) ?_ 0 _ rfl; (with_reducible repeat (first | refine blk_drewN ?_ _ | refine blk_drew ?_ | refine blk_alloc ?_ _)); refine blk_far ?_ NB1119_1118.out _; (with_reducible repeat (first | refine blk_drewN ?_ _ | refine blk_drew ?_ | refine blk_alloc ?_ _)); exact BK1119.out) k_ hk_.1)⟩)) (below_size (y3 HB.out GE1118.out GE1119.out))); have HO1126 := Aside0.mk (Kd.R_lower (Kd.R_mono (ok' := fun k_ => True) ho1 (fun _ _ => trivial)) (below_size (y3 HB.out GE1118.out GE1119.out))); have HO1130 := Aside0.mk (Kd.N_lower (Kd.N_mono (ok' := fun k_ => some k_ ≠ (v1122 : Value).ownBlock ∧ some k_ ≠ (v1125 : Value).ownBlock ∧ k_ ≠ gb1118 ∧ k_ ≠ gb1119) ho2 (fun k_ hk_ => ⟨hk_.2.1, hk_.2.2, (Kd.freshB (g := gb1118) (o := .cells #[.slice Ao11 t1111.length co11] 50 (0, 0)) (by (with_reducible repeat (first | refine blk_drewN ?_ _ | refine blk_drew ?_ | refine blk_alloc ?_ _)); refine blk_far ?_ NB1118_1119.out _; (with_reducible repeat (first | refine blk_drewN ?_ _ | refine blk_drew ?_ | refine blk_alloc ?_ _)); refine blk_far ?_ NB1118_1119.out _; (with_reducible repeat (first | refine blk_drewN ?_ _ | refine blk_drew ?_ | refine blk_alloc ?_ _)); apply blk_put (i := 0); (case h => exact y0 BK1118.out); (case e => rfl)) k_ hk_.1), (Kd.freshB (g := gb1119) (o := .cells #[.int .i64 t1114, .slice Ao15 t1115.length co15] 25 (0, 0)) (by (with_reducible repeat (first | refine blk_drewN ?_ _ | refine blk_drew ?_ | refine blk_alloc ?_ _)); refine blk_put (cs := #[.int .i64 t1114, .slice none 0 0]) ?_ 1 _ rfl; (with_reducible repeat (first | refine blk_drewN ?_ _ | refine blk_drew ?_ | refine blk_alloc ?_ _)); refine blk_put (cs := #[.int .i64 0, .slice none 0 0]) ?_ 0 _ rfl; (with_reducible repeat (first | refine blk_drewN ?_ _ | refine blk_drew ?_ | refine blk_alloc ?_ _)); refine blk_far ?_ NB1119_1118.out _; (with_reducible repeat (first | refine blk_drewN ?_ _ | refine blk_drew ?_ | refine blk_alloc ?_ _)); exact BK1119.out) k_ hk_.1)⟩)) (below_size (y3 HB.out GE1118.out GE1119.out))); replace BK1118 := Aside0.mk (blk_below (g := gb1118) (o := .cells #[.slice Ao11 t1111.length co11] 50 (0, 0)) (by (with_reducible repeat (first | refine blk_drewN ?_ _ | refine blk_drew ?_ | refine blk_alloc ?_ _)); refine blk_far ?_ NB1118_1119.out _; (with_reducible repeat (first | refine blk_drewN ?_ _ | refine blk_drew ?_ | refine blk_alloc ?_ _)); refine blk_far ?_ NB1118_1119.out _; (with_reducible repeat (first | refine blk_drewN ?_ _ | refine blk_drew ?_ | refine blk_alloc ?_ _)); apply blk_put (i := 0); (case h => exact y0 BK1118.out); (case e => rfl)) hb); replace BK1119 := Aside0.mk (blk_below (g := gb1119) (o := .cells #[.int .i64 t1114, .slice Ao15 t1115.length co15] 25 (0, 0)) (by (with_reducible repeat (first | refine blk_drewN ?_ _ | refine blk_drew ?_ | refine blk_alloc ?_ _)); refine blk_put (cs := #[.int .i64 t1114, .slice none 0 0]) ?_ 1 _ rfl; (with_reducible repeat (first | refine blk_drewN ?_ _ | refine blk_drew ?_ | refine blk_alloc ?_ _)); refine blk_put (cs := #[.int .i64 0, .slice none 0 0]) ?_ 0 _ rfl; (with_reducible repeat (first | refine blk_drewN ?_ _ | refine blk_drew ?_ | refine blk_alloc ?_ _)); refine blk_far ?_ NB1119_1118.out _; (with_reducible repeat (first | refine blk_drewN ?_ _ | refine blk_drew ?_ | refine blk_alloc ?_ _)); exact BK1119.out) hb); replace HB := Aside0.mk (below_step (y3 HB.out GE1118.out GE1119.out) hb); (try clear hb); (try clear hb2); (try clear hk); (try clear hi); (try clear ho0); (try clear ho1); (try clear ho2)) | ((with_reducible refine gate_dst (N := 5) rfl ?_); refine zbx 5 #[.int .i64 0, .slice none 0 0] 25 ?_; intro gb1131 hg w17 hbox hb; replace HO1113 := Aside0.mk (Kd.V_below (Kd.V_elderB (y11 HO1113.out) gb1131 (Nat.le_of_eq hg.symm)) hb); replace HO1117 := Aside0.mk (Kd.V_below (Kd.V_elderB (y11 HO1117.out) gb1131 (Nat.le_of_eq hg.symm)) hb); replace HO1123 := Aside0.mk (Kd.N_below (Kd.N_elderB (y2 HO1123.out) gb1131 (Nat.le_of_eq hg.symm)) hb); replace HO1126 := Aside0.mk (Kd.R_below (y8 HO1126.out) hb); replace HO1130 := Aside0.mk (Kd.N_below (Kd.N_elderB (y2 HO1130.out) gb1131 (Nat.le_of_eq hg.symm)) hb); have BK1131 := Aside0.mk hbox; have GW1131 := Aside0.mk ((y16 hg HB.out GE1118.out GE1119.out : w.heap.size ≤ gb1131)); have GE1131 := Aside0.mk ((y16 hg HB.out GE1118.out GE1119.out : w.heap.size ≤ gb1131)); replace HB := Aside0.mk (below_step (y3 HB.out GE1118.out GE1119.out) hb); have NB1118_1131 := zltn hg BK1118; have NB1131_1118 := zgtn hg BK1118; replace BK1118 := zbb BK1118 hb; have NB1119_1131 := zltn hg BK1119; have NB1131_1119 := zgtn hg BK1119; replace BK1119 := zbb BK1119 hb; clear hb hbox hg) | ((with_reducible refine gate_dst (N := 7) rfl ?_); refine zbx 7 #[.int .i64 0, .slice none 0 0] 25 ?_; intro gb1132 hg w18 hbox hb; replace HO1113 := Aside0.mk (Kd.V_below (Kd.V_elderB (y11 HO1113.out) gb1132 (Nat.le_of_eq hg.symm)) hb); replace HO1117 := Aside0.mk (Kd.V_below (Kd.V_elderB (y11 HO1117.out) gb1132 (Nat.le_of_eq hg.symm)) hb); replace HO1123 := Aside0.mk (Kd.N_below (Kd.N_elderB (y2 HO1123.out) gb1132 (Nat.le_of_eq hg.symm)) hb); replace HO1126 := Aside0.mk (Kd.R_below (y8 HO1126.out) hb); replace HO1130 := Aside0.mk (Kd.N_below (Kd.N_elderB (y2 HO1130.out) gb1132 (Nat.le_of_eq hg.symm)) hb); have BK1132 := Aside0.mk hbox; have GW1132 := Aside0.mk ((y20 hg HB.out GE1118.out GE1119.out GE1131.out : w.heap.size ≤ gb1132)); have GE1132 := Aside0.mk ((y20 hg HB.out GE1118.out GE1119.out GE1131.out : w.heap.size ≤ gb1132)); replace HB := Aside0.mk (below_step (y4 HB.out GE1118.out GE1119.out GE1131.out) hb); have NB1118_1132 := zltn hg BK1118; have NB1132_1118 := zgtn hg BK1118; replace BK1118 := zbb BK1118 hb; have NB1119_1132 := zltn hg BK1119; have NB1132_1119 := zgtn hg BK1119; replace BK1119 := zbb BK1119 hb; have NB1131_1132 := zltn hg BK1131; have NB1132_1131 := zgtn hg BK1131; replace BK1131 := zbb BK1131 hb; clear hb hbox hg; have hnb19 := NB1131_1118.out; have hnc19 := NB1118_1131.out; have hnb20 := NB1131_1119.out; have hnc20 := NB1119_1131.out; have hnb21 := NB1131_1132.out; have hnc21 := NB1132_1131.out; have hcz22_0 := zh BK1131; have hcz22_1 := zh1 BK1131; have hfz22_0 := zfr BK1131 0; have hfz22_1 := zfr BK1131 1; obtain ⟨Ao23, co23, eo23⟩ := Kd.N_slice HO1123.out; subst eo23) | ((with_reducible refine gate_store (t := 25) (p := 5) rfl ?_); refine store_event (t := 25) (p := 5) (v := ?vo_w24) (w1 := ((w18.setCell ⟨gb1131, 0, none⟩ (.int .i64 t1120)).setCell ⟨gb1131, 1, none⟩ (.slice Ao23 t1121.length co23))) ?hg ?ho ?hn ?hr ?_; (case ho => rfl); (case hg => rfl); (case hn => rfl); (case hr => first | (go_simp; done) | (go_simp; rfl)); intro w24 hw; have n0_ : Aside0 (Kd.V k50 50 w24 w.heap.size (fun k_ => some k_ ≠ (.slice Ao23 t1121.length co23 : Value).ownBlock ∧ some k_ ≠ (v1125 : Value).ownBlock ∧ some k_ ≠ (v1129 : Value).ownBlock ∧ k_ ≠ gb1118 ∧ k_ ≠ gb1119 ∧ k_ ≠ gb1131 ∧ k_ ≠ gb1132) (.slice Ao11 t1111.length co11) t1111) := ⟨(by rw [hw]; exact (by (with_reducible repeat (first | apply Kd.V_alloc | apply Kd.V_drewN | apply Kd.V_drew)); exact Kd.V_mono (Kd.V_far (p := ⟨gb1131, 1, none⟩) (Kd.V_far (p := ⟨gb1131, 0, none⟩) (Kd.V_mono HO1113.out (fun k_ hk => (⟨hk, hk.1.2⟩ : _ ∧ k_ ≠ gb1131))) (fun _ hk => hk.2) (.int .i64 t1120)) (fun _ hk => hk.2) (.slice Ao23 t1121.length co23)) (fun _ hk => ⟨hk.1.1.1.1.1.2, ⟨hk.1.1.1.1.2, ⟨hk.1.1.1.2, ⟨hk.1.1.1.1.1.1.1.2, ⟨hk.1.1.1.1.1.1.2, ⟨hk.1.1.2, hk.1.2⟩⟩⟩⟩⟩⟩)))⟩; have n1_ : Aside0 (Kd.V k25 25 w24 w.heap.size (fun k_ => some k_ ≠ (.slice Ao23 t1121.length co23 : Value).ownBlock ∧ some k_ ≠ (v1125 : Value).ownBlock ∧ some k_ ≠ (v1129 : Value).ownBlock ∧ k_ ≠ gb1118 ∧ k_ ≠ gb1119 ∧ k_ ≠ gb1131 ∧ k_ ≠ gb1132) (.slice Ao15 t1115.length co15) t1115) := ⟨(by rw [hw]; exact (by (with_reducible repeat (first | apply Kd.V_alloc | apply Kd.V_drewN | apply Kd.V_drew)); exact Kd.V_mono (Kd.V_far (p := ⟨gb1131, 1, none⟩) (Kd.V_far (p := ⟨gb1131, 0, none⟩) (Kd.V_mono HO1117.out (fun k_ hk => (⟨hk, hk.1.2⟩ : _ ∧ k_ ≠ gb1131))) (fun _ hk => hk.2) (.int .i64 t1120)) (fun _ hk => hk.2) (.slice Ao23 t1121.length co23)) (fun _ hk => ⟨hk.1.1.1.1.1.2, ⟨hk.1.1.1.1.2, ⟨hk.1.1.1.2, ⟨hk.1.1.1.1.1.1.1.2, ⟨hk.1.1.1.1.1.1.2, ⟨hk.1.1.2, hk.1.2⟩⟩⟩⟩⟩⟩)))⟩; have n2_ : Aside0 (Kd.N k25 25 w24 w.heap.size (fun k_ => some k_ ≠ (v1125 : Value).ownBlock ∧ some k_ ≠ (v1129 : Value).ownBlock ∧ k_ ≠ gb1118 ∧ k_ ≠ gb1119 ∧ k_ ≠ gb1131 ∧ k_ ≠ gb1132) (.slice Ao23 t1121.length co23) t1121) := ⟨(by rw [hw]; exact (by (with_reducible repeat (first | apply Kd.N_alloc | apply Kd.N_drewN | apply Kd.N_drew)); exact Kd.N_mono (Kd.N_far (p := ⟨gb1131, 1, none⟩) (Kd.N_far (p := ⟨gb1131, 0, none⟩) (Kd.N_mono HO1123.out (fun k_ hk => (⟨hk, hk.1.2⟩ : _ ∧ k_ ≠ gb1131))) (fun _ hk => hk.2) (.int .i64 t1120)) (fun _ hk => hk.2) (.slice Ao23 t1121.length co23)) (fun _ hk => ⟨hk.1.1.1.1, ⟨hk.1.1.1.2.1, ⟨hk.1.1.1.2.2.1, ⟨hk.1.1.1.2.2.2, ⟨hk.1.1.2, hk.1.2⟩⟩⟩⟩⟩)))⟩; have n3_ : Aside0 (Kd.R (Kd.int .i64) 3 w24 w.heap.size (fun _ => True) v1125 t1124) := ⟨(by rw [hw]; exact (by (with_reducible repeat (first | apply Kd.R_alloc | apply Kd.R_drewN | apply Kd.R_drew)); exact Kd.R_mono (Kd.R_far (p := ⟨gb1131, 1, none⟩) (Kd.R_far (p := ⟨gb1131, 0, none⟩) (Kd.R_types HO1126.out BK1131.out (by decide)) (fun _ hk => hk.2) (.int .i64 t1120)) (fun _ hk => hk.2) (.slice Ao23 t1121.length co23)) (fun _ hk => trivial)))⟩; have n4_ : Aside0 (Kd.N k25 25 w24 w.heap.size (fun k_ => some k_ ≠ (.slice Ao23 t1121.length co23 : Value).ownBlock ∧ some k_ ≠ (v1125 : Value).ownBlock ∧ k_ ≠ gb1118 ∧ k_ ≠ gb1119 ∧ k_ ≠ gb1131 ∧ k_ ≠ gb1132) v1129 t1128) := ⟨(by rw [hw]; exact (by (with_reducible repeat (first | apply Kd.N_alloc | apply Kd.N_drewN | apply Kd.N_drew)); exact Kd.N_mono (Kd.N_far (p := ⟨gb1131, 1, none⟩) (Kd.N_far (p := ⟨gb1131, 0, none⟩) (Kd.N_mono HO1130.out (fun k_ hk => (⟨hk, hk.1.2⟩ : _ ∧ k_ ≠ gb1131))) (fun _ hk => hk.2) (.int .i64 t1120)) (fun _ hk => hk.2) (.slice Ao23 t1121.length co23)) (fun _ hk => ⟨hk.1.1.1.1, ⟨hk.1.1.1.2.1, ⟨hk.1.1.1.2.2.1, ⟨hk.1.1.1.2.2.2, ⟨hk.1.1.2, hk.1.2⟩⟩⟩⟩⟩)))⟩; have n5_ : Aside0 (w24.heap[gb1118]? = some (.cells #[.slice Ao11 t1111.length co11] 50 (0, 0))) := ⟨(by rw [hw]; exact (y1 NB1118_1131.out BK1118.out))⟩; have n6_ : Aside0 (w24.heap[gb1119]? = some (.cells #[.int .i64 t1114, .slice Ao15 t1115.length co15] 25 (0, 0))) := ⟨(by rw [hw]; exact (y1 NB1119_1131.out BK1119.out))⟩; have n7_ : Aside0 (w24.heap[gb1131]? = some (.cells #[.int .i64 t1120, .slice Ao23 t1121.length co23] 25 (0, 0))) := ⟨(by rw [hw]; exact (by (with_reducible repeat (first | refine blk_drewN ?_ _ | refine blk_drew ?_ | refine blk_alloc ?_ _)); refine blk_put (cs := #[.int .i64 t1120, .slice none 0 0]) ?_ 1 _ rfl; (with_reducible repeat (first | refine blk_drewN ?_ _ | refine blk_drew ?_ | refine blk_alloc ?_ _)); apply blk_put (i := 0); (case h => exact y0 BK1131.out); (case e => rfl)))⟩; have n8_ : Aside0 (w24.heap[gb1132]? = some (.cells #[.int .i64 0, .slice none 0 0] 25 (0, 0))) := ⟨(by rw [hw]; exact (y1 NB1132_1131.out BK1132.out))⟩; have n9_ : Aside0 (Below w.heap.size w w24) := ⟨(by rw [hw]; exact (y5 HB.out GE1118.out GE1119.out GE1131.out GE1132.out))⟩; clear hw; clear HO1113; clear HO1117; clear HO1123; clear HO1126; clear HO1130; clear BK1118; clear BK1119; clear BK1131; clear BK1132; clear HB; have HO1113 := n0_; have HO1117 := n1_; have HO1123 := n2_; have HO1126 := n3_; have HO1130 := n4_; have BK1118 := n5_; have BK1119 := n6_; have BK1131 := n7_; have BK1132 := n8_; have HB := n9_; clear n0_ n1_ n2_ n3_ n4_ n5_ n6_ n7_ n8_ n9_; have hnb25 := NB1132_1118.out; have hnc25 := NB1118_1132.out; have hnb26 := NB1132_1119.out; have hnc26 := NB1119_1132.out; have hcz27_0 := zh BK1132; have hcz27_1 := zh1 BK1132; have hfz27_0 := zfr BK1132 0; have hfz27_1 := zfr BK1132 1; obtain ⟨Ao28, co28, eo28⟩ := Kd.N_slice HO1130.out; subst eo28) | ((with_reducible refine gate_store (t := 25) (p := 7) rfl ?_); refine store_event (t := 25) (p := 7) (v := ?vo_w29) (w1 := ((w24.setCell ⟨gb1132, 0, none⟩ (.int .i64 t1127)).setCell ⟨gb1132, 1, none⟩ (.slice Ao28 t1128.length co28))) ?hg ?ho ?hn ?hr ?_; (case ho => rfl); (case hg => rfl); (case hn => rfl); (case hr => first | (go_simp; done) | (go_simp; rfl)); intro w29 hw; have n0_ : Aside0 (Kd.V k50 50 w29 w.heap.size (fun k_ => some k_ ≠ (.slice Ao23 t1121.length co23 : Value).ownBlock ∧ some k_ ≠ (v1125 : Value).ownBlock ∧ some k_ ≠ (.slice Ao28 t1128.length co28 : Value).ownBlock ∧ k_ ≠ gb1118 ∧ k_ ≠ gb1119 ∧ k_ ≠ gb1131 ∧ k_ ≠ gb1132) (.slice Ao11 t1111.length co11) t1111) := ⟨(by rw [hw]; exact (by (with_reducible repeat (first | apply Kd.V_alloc | apply Kd.V_drewN | apply Kd.V_drew)); exact Kd.V_mono (Kd.V_far (p := ⟨gb1132, 1, none⟩) (Kd.V_far (p := ⟨gb1132, 0, none⟩) (Kd.V_mono HO1113.out (fun k_ hk => (⟨hk, hk.2.2.2.2.2.2⟩ : _ ∧ k_ ≠ gb1132))) (fun _ hk => hk.2) (.int .i64 t1127)) (fun _ hk => hk.2) (.slice Ao28 t1128.length co28)) (fun _ hk => ⟨hk.1.1, ⟨hk.1.2.1, ⟨hk.1.2.2.1, ⟨hk.1.2.2.2.1, ⟨hk.1.2.2.2.2.1, ⟨hk.1.2.2.2.2.2.1, hk.1.2.2.2.2.2.2⟩⟩⟩⟩⟩⟩)))⟩; have n1_ : Aside0 (Kd.V k25 25 w29 w.heap.size (fun k_ => some k_ ≠ (.slice Ao23 t1121.length co23 : Value).ownBlock ∧ some k_ ≠ (v1125 : Value).ownBlock ∧ some k_ ≠ (.slice Ao28 t1128.length co28 : Value).ownBlock ∧ k_ ≠ gb1118 ∧ k_ ≠ gb1119 ∧ k_ ≠ gb1131 ∧ k_ ≠ gb1132) (.slice Ao15 t1115.length co15) t1115) := ⟨(by rw [hw]; exact (by (with_reducible repeat (first | apply Kd.V_alloc | apply Kd.V_drewN | apply Kd.V_drew)); exact Kd.V_mono (Kd.V_far (p := ⟨gb1132, 1, none⟩) (Kd.V_far (p := ⟨gb1132, 0, none⟩) (Kd.V_mono HO1117.out (fun k_ hk => (⟨hk, hk.2.2.2.2.2.2⟩ : _ ∧ k_ ≠ gb1132))) (fun _ hk => hk.2) (.int .i64 t1127)) (fun _ hk => hk.2) (.slice Ao28 t1128.length co28)) (fun _ hk => ⟨hk.1.1, ⟨hk.1.2.1, ⟨hk.1.2.2.1, ⟨hk.1.2.2.2.1, ⟨hk.1.2.2.2.2.1, ⟨hk.1.2.2.2.2.2.1, hk.1.2.2.2.2.2.2⟩⟩⟩⟩⟩⟩)))⟩; have n2_ : Aside0 (Kd.N k25 25 w29 w.heap.size (fun k_ => some k_ ≠ (v1125 : Value).ownBlock ∧ some k_ ≠ (.slice Ao28 t1128.length co28 : Value).ownBlock ∧ k_ ≠ gb1118 ∧ k_ ≠ gb1119 ∧ k_ ≠ gb1131 ∧ k_ ≠ gb1132) (.slice Ao23 t1121.length co23) t1121) := ⟨(by rw [hw]; exact (by (with_reducible repeat (first | apply Kd.N_alloc | apply Kd.N_drewN | apply Kd.N_drew)); exact Kd.N_mono (Kd.N_far (p := ⟨gb1132, 1, none⟩) (Kd.N_far (p := ⟨gb1132, 0, none⟩) (Kd.N_mono HO1123.out (fun k_ hk => (⟨hk, hk.2.2.2.2.2⟩ : _ ∧ k_ ≠ gb1132))) (fun _ hk => hk.2) (.int .i64 t1127)) (fun _ hk => hk.2) (.slice Ao28 t1128.length co28)) (fun _ hk => ⟨hk.1.1, ⟨hk.1.2.1, ⟨hk.1.2.2.1, ⟨hk.1.2.2.2.1, ⟨hk.1.2.2.2.2.1, hk.1.2.2.2.2.2⟩⟩⟩⟩⟩)))⟩; have n3_ : Aside0 (Kd.R (Kd.int .i64) 3 w29 w.heap.size (fun _ => True) v1125 t1124) := ⟨(by rw [hw]; exact (by (with_reducible repeat (first | apply Kd.R_alloc | apply Kd.R_drewN | apply Kd.R_drew)); exact Kd.R_mono (Kd.R_far (p := ⟨gb1132, 1, none⟩) (Kd.R_far (p := ⟨gb1132, 0, none⟩) (Kd.R_types HO1126.out BK1132.out (by decide)) (fun _ hk => hk.2) (.int .i64 t1127)) (fun _ hk => hk.2) (.slice Ao28 t1128.length co28)) (fun _ hk => trivial)))⟩; have n4_ : Aside0 (Kd.N k25 25 w29 w.heap.size (fun k_ => some k_ ≠ (.slice Ao23 t1121.length co23 : Value).ownBlock ∧ some k_ ≠ (v1125 : Value).ownBlock ∧ k_ ≠ gb1118 ∧ k_ ≠ gb1119 ∧ k_ ≠ gb1131 ∧ k_ ≠ gb1132) (.slice Ao28 t1128.length co28) t1128) := ⟨(by rw [hw]; exact (by (with_reducible repeat (first | apply Kd.N_alloc | apply Kd.N_drewN | apply Kd.N_drew)); exact Kd.N_mono (Kd.N_far (p := ⟨gb1132, 1, none⟩) (Kd.N_far (p := ⟨gb1132, 0, none⟩) (Kd.N_mono HO1130.out (fun k_ hk => (⟨hk, hk.2.2.2.2.2⟩ : _ ∧ k_ ≠ gb1132))) (fun _ hk => hk.2) (.int .i64 t1127)) (fun _ hk => hk.2) (.slice Ao28 t1128.length co28)) (fun _ hk => ⟨hk.1.1, ⟨hk.1.2.1, ⟨hk.1.2.2.1, ⟨hk.1.2.2.2.1, ⟨hk.1.2.2.2.2.1, hk.1.2.2.2.2.2⟩⟩⟩⟩⟩)))⟩; have n5_ : Aside0 (w29.heap[gb1118]? = some (.cells #[.slice Ao11 t1111.length co11] 50 (0, 0))) := ⟨(by rw [hw]; exact (y1 NB1118_1132.out BK1118.out))⟩; have n6_ : Aside0 (w29.heap[gb1119]? = some (.cells #[.int .i64 t1114, .slice Ao15 t1115.length co15] 25 (0, 0))) := ⟨(by rw [hw]; exact (y1 NB1119_1132.out BK1119.out))⟩; have n7_ : Aside0 (w29.heap[gb1131]? = some (.cells #[.int .i64 t1120, .slice Ao23 t1121.length co23] 25 (0, 0))) := ⟨(by rw [hw]; exact (y1 NB1131_1132.out BK1131.out))⟩; have n8_ : Aside0 (w29.heap[gb1132]? = some (.cells #[.int .i64 t1127, .slice Ao28 t1128.length co28] 25 (0, 0))) := ⟨(by rw [hw]; exact (by (with_reducible repeat (first | refine blk_drewN ?_ _ | refine blk_drew ?_ | refine blk_alloc ?_ _)); refine blk_put (cs := #[.int .i64 t1127, .slice none 0 0]) ?_ 1 _ rfl; (with_reducible repeat (first | refine blk_drewN ?_ _ | refine blk_drew ?_ | refine blk_alloc ?_ _)); apply blk_put (i := 0); (case h => exact y0 BK1132.out); (case e => rfl)))⟩; have n9_ : Aside0 (Below w.heap.size w w29) := ⟨(by rw [hw]; exact (y5 HB.out GE1118.out GE1119.out GE1131.out GE1132.out))⟩; clear hw; clear HO1113; clear HO1117; clear HO1123; clear HO1126; clear HO1130; clear BK1118; clear BK1119; clear BK1131; clear BK1132; clear HB; have HO1113 := n0_; have HO1117 := n1_; have HO1123 := n2_; have HO1126 := n3_; have HO1130 := n4_; have BK1118 := n5_; have BK1119 := n6_; have BK1131 := n7_; have BK1132 := n8_; have HB := n9_; clear n0_ n1_ n2_ n3_ n4_ n5_ n6_ n7_ n8_ n9_; have hcz30_0 := zh BK1119; have hcz30_1 := zh1 BK1119; have hfz30_0 := zfr BK1119 0; have hfz30_1 := zfr BK1119 1; have hcz31_0 := zh BK1132; have hcz31_1 := zh1 BK1132; have hfz31_0 := zfr BK1132 0; have hfz31_1 := zfr BK1132 1; obtain ⟨Ao32, co32, eo32⟩ := Kd.R_slice HO1126.out; subst eo32) | ((with_reducible refine gate_callee (f := 24) rfl ?_); refine goesL_ (some 30) rfl rfl Try.func24 (by kernel_rfl) rfl #[.agg #[.int .i64 t1114, .slice Ao15 t1115.length co15], .slice Ao32 t1124.length co32, .agg #[.int .i64 t1127, .slice Ao28 t1128.length co28]] rfl y9 ?_; (with_reducible refine (impl_ValPut.calls k t1114 (fun k_ => (some k_ ≠ (.slice Ao23 t1121.length co23 : Value).ownBlock ∧ (some k_ ≠ (.slice Ao32 t1124.length co32 : Value).ownBlock ∧ (some k_ ≠ (.slice Ao28 t1128.length co28 : Value).ownBlock ∧ (k_ ≠ gb1118 ∧ (k_ ≠ gb1119 ∧ (k_ ≠ gb1131 ∧ k_ ≠ gb1132))))))) _ _ t1115 _ _ t1124 t1127 (fun k_ => (some k_ ≠ (.slice Ao23 t1121.length co23 : Value).ownBlock ∧ (some k_ ≠ (.slice Ao32 t1124.length co32 : Value).ownBlock ∧ (k_ ≠ gb1118 ∧ (k_ ≠ gb1119 ∧ (k_ ≠ gb1131 ∧ k_ ≠ gb1132)))))) _ _ t1128 t1133 t1134 t1137 _ ?side1 ?side2 ?side3 ?side4 A5.out).mono ?_); (case side1 => exact HO1117.out); (case side2 => exact y34 HO1126.out); (case side3 => exact (Kd.R_reads' HO1126.out).2.1); (case side4 => exact Kd.N_V (HO1130.out)); rintro e w33 ⟨v1135, rfl, ho0, hb⟩; refine ⟨_, rfl, ?_⟩; replace HO1113 := Aside0.mk (Kd.V_elder' (y11 HO1113.out) (Kd.N_base ho0) hb); replace HO1117 := Aside0.mk (Kd.V_elder' (y11 HO1117.out) (Kd.N_base ho0) hb); replace HO1130 := Aside0.mk (Kd.N_elder' (y2 HO1130.out) (Kd.N_base ho0) hb); have HO1136 := Aside0.mk (Kd.N_lower (Kd.N_mono (ok' := fun k_ => some k_ ≠ (.slice Ao23 t1121.length co23 : Value).ownBlock ∧ some k_ ≠ (.slice Ao32 t1124.length co32 : Value).ownBlock ∧ k_ ≠ gb1118 ∧ k_ ≠ gb1119 ∧ k_ ≠ gb1131 ∧ k_ ≠ gb1132) ho0 (fun k_ hk_ => ⟨Or.elim hk_ (fun hs_ => Or.elim hs_ (fun hs_ => hs_.1) (fun hs_ => hs_.1)) (fun hn_ => (Kd.fresh' (Kd.N_lt (y2 HO1123.out)) k_ hn_)), Or.elim hk_ (fun hs_ => Or.elim hs_ (fun hs_ => hs_.2.1) (fun hs_ => hs_.2.1)) (fun hn_ => (Kd.fresh' (Kd.R_lt (y8 HO1126.out)) k_ hn_)), Or.elim hk_ (fun hs_ => Or.elim hs_ (fun hs_ => hs_.2.2.2.1) (fun hs_ => hs_.2.2.1)) (fun hn_ => (Kd.freshB (g := gb1118) (o := .cells #[.slice Ao11 t1111.length co11] 50 (0, 0)) (y0 BK1118.out) k_ hn_)), Or.elim hk_ (fun hs_ => Or.elim hs_ (fun hs_ => hs_.2.2.2.2.1) (fun hs_ => hs_.2.2.2.1)) (fun hn_ => (Kd.freshB (g := gb1119) (o := .cells #[.int .i64 t1114, .slice Ao15 t1115.length co15] 25 (0, 0)) (y0 BK1119.out) k_ hn_)), Or.elim hk_ (fun hs_ => Or.elim hs_ (fun hs_ => hs_.2.2.2.2.2.1) (fun hs_ => hs_.2.2.2.2.1)) (fun hn_ => (Kd.freshB (g := gb1131) (o := .cells #[.int .i64 t1120, .slice Ao23 t1121.length co23] 25 (0, 0)) (y0 BK1131.out) k_ hn_)), Or.elim hk_ (fun hs_ => Or.elim hs_ (fun hs_ => hs_.2.2.2.2.2.2) (fun hs_ => hs_.2.2.2.2.2)) (fun hn_ => (Kd.freshB (g := gb1132) (o := .cells #[.int .i64 t1127, .slice Ao28 t1128.length co28] 25 (0, 0)) (y0 BK1132.out) k_ hn_))⟩)) (below_size (y5 HB.out GE1118.out GE1119.out GE1131.out GE1132.out))); replace HO1123 := Aside0.mk (Kd.N_elder' (y2 HO1123.out) (Kd.N_base ho0) hb); replace HO1126 := Aside0.mk (Kd.R_below (y8 HO1126.out) hb); replace BK1118 := zbb BK1118 hb; replace BK1119 := zbb BK1119 hb; replace BK1131 := zbb BK1131 hb; replace BK1132 := zbb BK1132 hb; replace HB := Aside0.mk (below_step (y5 HB.out GE1118.out GE1119.out GE1131.out GE1132.out) hb); (try clear hb); (try clear hb2); (try clear hk); (try clear hi); (try clear ho0)) | ((with_reducible refine gate_dst (N := 8) rfl ?_); refine zbx 8 #[.int .i64 0, .slice none 0 0] 25 ?_; intro gb1138 hg w34 hbox hb; replace HO1113 := Aside0.mk (Kd.V_below (Kd.V_elderB (y11 HO1113.out) gb1138 (Nat.le_of_eq hg.symm)) hb); replace HO1117 := Aside0.mk (Kd.V_below (Kd.V_elderB (y11 HO1117.out) gb1138 (Nat.le_of_eq hg.symm)) hb); replace HO1123 := Aside0.mk (Kd.N_below (Kd.N_elderB (y2 HO1123.out) gb1138 (Nat.le_of_eq hg.symm)) hb); replace HO1126 := Aside0.mk (Kd.R_below (y8 HO1126.out) hb); replace HO1130 := Aside0.mk (Kd.N_below (Kd.N_elderB (y2 HO1130.out) gb1138 (Nat.le_of_eq hg.symm)) hb); replace HO1136 := Aside0.mk (Kd.N_below (Kd.N_elderB (y2 HO1136.out) gb1138 (Nat.le_of_eq hg.symm)) hb); have BK1138 := Aside0.mk hbox; have GW1138 := Aside0.mk ((y27 hg HB.out GE1118.out GE1119.out GE1131.out GE1132.out : w.heap.size ≤ gb1138)); have GE1138 := Aside0.mk ((y27 hg HB.out GE1118.out GE1119.out GE1131.out GE1132.out : w.heap.size ≤ gb1138)); replace HB := Aside0.mk (below_step (y5 HB.out GE1118.out GE1119.out GE1131.out GE1132.out) hb); have NB1118_1138 := zltn hg BK1118; have NB1138_1118 := zgtn hg BK1118; replace BK1118 := zbb BK1118 hb; have NB1119_1138 := zltn hg BK1119; have NB1138_1119 := zgtn hg BK1119; replace BK1119 := zbb BK1119 hb; have NB1131_1138 := zltn hg BK1131; have NB1138_1131 := zgtn hg BK1131; replace BK1131 := zbb BK1131 hb; have NB1132_1138 := zltn hg BK1132; have NB1138_1132 := zgtn hg BK1132; replace BK1132 := zbb BK1132 hb; clear hb hbox hg; have hnb35 := NB1138_1118.out; have hnc35 := NB1118_1138.out; have hnb36 := NB1138_1119.out; have hnc36 := NB1119_1138.out; have hnb37 := NB1138_1131.out; have hnc37 := NB1131_1138.out; have hnb38 := NB1138_1132.out; have hnc38 := NB1132_1138.out; have hcz39_0 := zh BK1138; have hcz39_1 := zh1 BK1138; have hfz39_0 := zfr BK1138 0; have hfz39_1 := zfr BK1138 1; obtain ⟨Ao40, co40, eo40⟩ := Kd.N_slice HO1136.out; subst eo40; have hcz41_0 := zh BK1119; have hcz41_1 := zh1 BK1119; have hfz41_0 := zfr BK1119 0; have hfz41_1 := zfr BK1119 1; have hcz42_0 := zh BK1132; have hcz42_1 := zh1 BK1132; have hfz42_0 := zfr BK1132 0; have hfz42_1 := zfr BK1132 1) | ((with_reducible refine gate_callee (f := 26) rfl ?_); refine goesL_ (some 37) rfl rfl Try.func26 (by kernel_rfl) rfl #[.agg #[.int .i64 t1114, .slice Ao15 t1115.length co15], .slice Ao32 t1124.length co32, .agg #[.int .i64 t1127, .slice Ao28 t1128.length co28]] rfl y9 ?_; (with_reducible refine (spec_ValPut.calls k t1114 _ _ t1115 _ _ t1124 t1127 _ _ t1128 t1139 t1140 t1143 _ ?side1 ?side2 ?side3 ?side4 ?side5 ?side6 A6.out).mono ?_); (case side1 => refine (Kd.V_reads' (e := 25) (base := w.heap.size) (ok := fun k_ => (((some k_ ≠ (.slice Ao23 t1121.length co23 : Value).ownBlock ∧ (some k_ ≠ (.slice Ao32 t1124.length co32 : Value).ownBlock ∧ (some k_ ≠ (.slice Ao28 t1128.length co28 : Value).ownBlock ∧ (k_ ≠ gb1118 ∧ (k_ ≠ gb1119 ∧ (k_ ≠ gb1131 ∧ k_ ≠ gb1132)))))) ∧ some k_ ≠ (.slice Ao40 t1134.length co40 : Value).ownBlock) ∧ k_ ≠ gb1138)) (n := t1115.length) (c := co15) ?_).2.2; exact (by (with_reducible repeat (first | apply Kd.V_alloc | apply Kd.V_drewN | apply Kd.V_drew)); exact (Kd.V_mono (Kd.V_far (p := ⟨gb1138, 1, none⟩) (Kd.V_far (p := ⟨gb1138, 0, none⟩) (Kd.V_mono HO1117.out (fun k_ hk => (⟨hk, hk.2⟩ : _ ∧ k_ ≠ gb1138))) (fun _ hk => hk.2) (.int .i64 t1133)) (fun _ hk => hk.2) (.slice Ao40 t1134.length co40)) (fun _ h_ => h_.1)))); (case side2 => exact (Kd.V_reads' HO1117.out).2.1); (case side3 => refine (Kd.R_reads' (e := 3) (base := w.heap.size) (ok := fun k_ => True) (n := t1124.length) (c := co32) ?_).2.2; exact (by (with_reducible repeat (first | apply Kd.R_alloc | apply Kd.R_drewN | apply Kd.R_drew)); exact (Kd.R_mono (Kd.R_far (p := ⟨gb1138, 1, none⟩) (Kd.R_far (p := ⟨gb1138, 0, none⟩) (Kd.R_types HO1126.out BK1138.out (by decide)) (fun _ hk => hk.2) (.int .i64 t1133)) (fun _ hk => hk.2) (.slice Ao40 t1134.length co40)) (fun _ h_ => h_.1)))); (case side4 => exact (Kd.R_reads' HO1126.out).2.1); (case side5 => refine (Kd.N_reads' (e := 25) (base := w.heap.size) (ok := fun k_ => (((some k_ ≠ (.slice Ao23 t1121.length co23 : Value).ownBlock ∧ (some k_ ≠ (.slice Ao32 t1124.length co32 : Value).ownBlock ∧ (k_ ≠ gb1118 ∧ (k_ ≠ gb1119 ∧ (k_ ≠ gb1131 ∧ k_ ≠ gb1132))))) ∧ some k_ ≠ (.slice Ao40 t1134.length co40 : Value).ownBlock) ∧ k_ ≠ gb1138)) (n := t1128.length) (c := co28) ?_).2.2; exact (by (with_reducible repeat (first | apply Kd.N_alloc | apply Kd.N_drewN | apply Kd.N_drew)); exact (Kd.N_mono (Kd.N_far (p := ⟨gb1138, 1, none⟩) (Kd.N_far (p := ⟨gb1138, 0, none⟩) (Kd.N_mono HO1130.out (fun k_ hk => (⟨hk, hk.2⟩ : _ ∧ k_ ≠ gb1138))) (fun _ hk => hk.2) (.int .i64 t1133)) (fun _ hk => hk.2) (.slice Ao40 t1134.length co40)) (fun _ h_ => h_.1)))); (case side6 => exact (Kd.N_reads' HO1130.out).2.1); rintro e w43 ⟨v1141, rfl, ho0, hb⟩; refine ⟨_, rfl, ?_⟩; replace HO1113 := Aside0.mk (Kd.V_elder' (by (with_reducible repeat (first | apply Kd.V_alloc | apply Kd.V_drewN | apply Kd.V_drew)); exact (Kd.V_mono (Kd.V_far (p := ⟨gb1138, 1, none⟩) (Kd.V_far (p := ⟨gb1138, 0, none⟩) (Kd.V_mono HO1113.out (fun k_ hk => (⟨hk, hk.2⟩ : _ ∧ k_ ≠ gb1138))) (fun _ hk => hk.2) (.int .i64 t1133)) (fun _ hk => hk.2) (.slice Ao40 t1134.length co40)) (fun _ h_ => h_.1))) (Kd.N_base ho0) hb); replace HO1117 := Aside0.mk (Kd.V_elder' (by (with_reducible repeat (first | apply Kd.V_alloc | apply Kd.V_drewN | apply Kd.V_drew)); exact (Kd.V_mono (Kd.V_far (p := ⟨gb1138, 1, none⟩) (Kd.V_far (p := ⟨gb1138, 0, none⟩) (Kd.V_mono HO1117.out (fun k_ hk => (⟨hk, hk.2⟩ : _ ∧ k_ ≠ gb1138))) (fun _ hk => hk.2) (.int .i64 t1133)) (fun _ hk => hk.2) (.slice Ao40 t1134.length co40)) (fun _ h_ => h_.1))) (Kd.N_base ho0) hb); have HO1142 := Aside0.mk (Kd.N_lower (Kd.N_mono (ok' := fun k_ => some k_ ≠ (.slice Ao23 t1121.length co23 : Value).ownBlock ∧ some k_ ≠ (.slice Ao32 t1124.length co32 : Value).ownBlock ∧ some k_ ≠ (.slice Ao28 t1128.length co28 : Value).ownBlock ∧ some k_ ≠ (.slice Ao40 t1134.length co40 : Value).ownBlock ∧ k_ ≠ gb1118 ∧ k_ ≠ gb1119 ∧ k_ ≠ gb1131 ∧ k_ ≠ gb1132 ∧ k_ ≠ gb1138) ho0 (fun k_ hk_ => ⟨(Kd.fresh' (Kd.N_lt (by (with_reducible repeat (first | apply Kd.N_alloc | apply Kd.N_drewN | apply Kd.N_drew)); exact (Kd.N_mono (Kd.N_far (p := ⟨gb1138, 1, none⟩) (Kd.N_far (p := ⟨gb1138, 0, none⟩) (Kd.N_mono HO1123.out (fun k_ hk => (⟨hk, hk.2⟩ : _ ∧ k_ ≠ gb1138))) (fun _ hk => hk.2) (.int .i64 t1133)) (fun _ hk => hk.2) (.slice Ao40 t1134.length co40)) (fun _ h_ => h_.1)))) k_ hk_), (Kd.fresh' (Kd.R_lt (by (with_reducible repeat (first | apply Kd.R_alloc | apply Kd.R_drewN | apply Kd.R_drew)); exact (Kd.R_mono (Kd.R_far (p := ⟨gb1138, 1, none⟩) (Kd.R_far (p := ⟨gb1138, 0, none⟩) (Kd.R_types HO1126.out BK1138.out (by decide)) (fun _ hk => hk.2) (.int .i64 t1133)) (fun _ hk => hk.2) (.slice Ao40 t1134.length co40)) (fun _ h_ => h_.1)))) k_ hk_), (Kd.fresh' (Kd.N_lt (by (with_reducible repeat (first | apply Kd.N_alloc | apply Kd.N_drewN | apply Kd.N_drew)); exact (Kd.N_mono (Kd.N_far (p := ⟨gb1138, 1, none⟩) (Kd.N_far (p := ⟨gb1138, 0, none⟩) (Kd.N_mono HO1130.out (fun k_ hk => (⟨hk, hk.2⟩ : _ ∧ k_ ≠ gb1138))) (fun _ hk => hk.2) (.int .i64 t1133)) (fun _ hk => hk.2) (.slice Ao40 t1134.length co40)) (fun _ h_ => h_.1)))) k_ hk_), (Kd.fresh' (Kd.N_lt (by (with_reducible repeat (first | apply Kd.N_alloc | apply Kd.N_drewN | apply Kd.N_drew)); exact (Kd.N_mono (Kd.N_far (p := ⟨gb1138, 1, none⟩) (Kd.N_far (p := ⟨gb1138, 0, none⟩) (Kd.N_mono HO1136.out (fun k_ hk => (⟨hk, hk.2⟩ : _ ∧ k_ ≠ gb1138))) (fun _ hk => hk.2) (.int .i64 t1133)) (fun _ hk => hk.2) (.slice Ao40 t1134.length co40)) (fun _ h_ => h_.1)))) k_ hk_), (Kd.freshB (g := gb1118) (o := .cells #[.slice Ao11 t1111.length co11] 50 (0, 0)) (y1 NB1118_1138.out BK1118.out) k_ hk_), (Kd.freshB (g := gb1119) (o := .cells #[.int .i64 t1114, .slice Ao15 t1115.length co15] 25 (0, 0)) (y1 NB1119_1138.out BK1119.out) k_ hk_), (Kd.freshB (g := gb1131) (o := .cells #[.int .i64 t1120, .slice Ao23 t1121.length co23] 25 (0, 0)) (y1 NB1131_1138.out BK1131.out) k_ hk_), (Kd.freshB (g := gb1132) (o := .cells #[.int .i64 t1127, .slice Ao28 t1128.length co28] 25 (0, 0)) (y1 NB1132_1138.out BK1132.out) k_ hk_), (Kd.freshB (g := gb1138) (o := .cells #[.int .i64 t1133, .slice Ao40 t1134.length co40] 25 (0, 0)) (by (with_reducible repeat (first | refine blk_drewN ?_ _ | refine blk_drew ?_ | refine blk_alloc ?_ _)); refine blk_put (cs := #[.int .i64 t1133, .slice none 0 0]) ?_ 1 _ rfl; (with_reducible repeat (first | refine blk_drewN ?_ _ | refine blk_drew ?_ | refine blk_alloc ?_ _)); apply blk_put (i := 0); (case h => exact y0 BK1138.out); (case e => rfl)) k_ hk_)⟩)) (below_size (y14 HB.out GE1118.out GE1119.out GE1131.out GE1132.out GE1138.out))); replace HO1123 := Aside0.mk (Kd.N_elder' (by (with_reducible repeat (first | apply Kd.N_alloc | apply Kd.N_drewN | apply Kd.N_drew)); exact (Kd.N_mono (Kd.N_far (p := ⟨gb1138, 1, none⟩) (Kd.N_far (p := ⟨gb1138, 0, none⟩) (Kd.N_mono HO1123.out (fun k_ hk => (⟨hk, hk.2⟩ : _ ∧ k_ ≠ gb1138))) (fun _ hk => hk.2) (.int .i64 t1133)) (fun _ hk => hk.2) (.slice Ao40 t1134.length co40)) (fun _ h_ => h_.1))) (Kd.N_base ho0) hb); replace HO1126 := Aside0.mk (Kd.R_below (by (with_reducible repeat (first | apply Kd.R_alloc | apply Kd.R_drewN | apply Kd.R_drew)); exact (Kd.R_mono (Kd.R_far (p := ⟨gb1138, 1, none⟩) (Kd.R_far (p := ⟨gb1138, 0, none⟩) (Kd.R_types HO1126.out BK1138.out (by decide)) (fun _ hk => hk.2) (.int .i64 t1133)) (fun _ hk => hk.2) (.slice Ao40 t1134.length co40)) (fun _ h_ => h_.1))) hb); replace HO1130 := Aside0.mk (Kd.N_elder' (by (with_reducible repeat (first | apply Kd.N_alloc | apply Kd.N_drewN | apply Kd.N_drew)); exact (Kd.N_mono (Kd.N_far (p := ⟨gb1138, 1, none⟩) (Kd.N_far (p := ⟨gb1138, 0, none⟩) (Kd.N_mono HO1130.out (fun k_ hk => (⟨hk, hk.2⟩ : _ ∧ k_ ≠ gb1138))) (fun _ hk => hk.2) (.int .i64 t1133)) (fun _ hk => hk.2) (.slice Ao40 t1134.length co40)) (fun _ h_ => h_.1))) (Kd.N_base ho0) hb); replace HO1136 := Aside0.mk (Kd.N_elder' (by (with_reducible repeat (first | apply Kd.N_alloc | apply Kd.N_drewN | apply Kd.N_drew)); exact (Kd.N_mono (Kd.N_far (p := ⟨gb1138, 1, none⟩) (Kd.N_far (p := ⟨gb1138, 0, none⟩) (Kd.N_mono HO1136.out (fun k_ hk => (⟨hk, hk.2⟩ : _ ∧ k_ ≠ gb1138))) (fun _ hk => hk.2) (.int .i64 t1133)) (fun _ hk => hk.2) (.slice Ao40 t1134.length co40)) (fun _ h_ => h_.1))) (Kd.N_base ho0) hb); replace BK1118 := Aside0.mk (blk_below (g := gb1118) (o := .cells #[.slice Ao11 t1111.length co11] 50 (0, 0)) (y1 NB1118_1138.out BK1118.out) hb); replace BK1119 := Aside0.mk (blk_below (g := gb1119) (o := .cells #[.int .i64 t1114, .slice Ao15 t1115.length co15] 25 (0, 0)) (y1 NB1119_1138.out BK1119.out) hb); replace BK1131 := Aside0.mk (blk_below (g := gb1131) (o := .cells #[.int .i64 t1120, .slice Ao23 t1121.length co23] 25 (0, 0)) (y1 NB1131_1138.out BK1131.out) hb); replace BK1132 := Aside0.mk (blk_below (g := gb1132) (o := .cells #[.int .i64 t1127, .slice Ao28 t1128.length co28] 25 (0, 0)) (y1 NB1132_1138.out BK1132.out) hb); replace BK1138 := Aside0.mk (blk_below (g := gb1138) (o := .cells #[.int .i64 t1133, .slice Ao40 t1134.length co40] 25 (0, 0)) (by (with_reducible repeat (first | refine blk_drewN ?_ _ | refine blk_drew ?_ | refine blk_alloc ?_ _)); refine blk_put (cs := #[.int .i64 t1133, .slice none 0 0]) ?_ 1 _ rfl; (with_reducible repeat (first | refine blk_drewN ?_ _ | refine blk_drew ?_ | refine blk_alloc ?_ _)); apply blk_put (i := 0); (case h => exact y0 BK1138.out); (case e => rfl)) hb); replace HB := Aside0.mk (below_step (y14 HB.out GE1118.out GE1119.out GE1131.out GE1132.out GE1138.out) hb); (try clear hb); (try clear hb2); (try clear hk); (try clear hi); (try clear ho0)) | ((with_reducible refine gate_dst (N := 10) rfl ?_); refine zbx 10 #[.int .i64 0, .slice none 0 0] 25 ?_; intro gb1144 hg w44 hbox hb; replace HO1113 := Aside0.mk (Kd.V_below (Kd.V_elderB (y11 HO1113.out) gb1144 (Nat.le_of_eq hg.symm)) hb); replace HO1117 := Aside0.mk (Kd.V_below (Kd.V_elderB (y11 HO1117.out) gb1144 (Nat.le_of_eq hg.symm)) hb); replace HO1123 := Aside0.mk (Kd.N_below (Kd.N_elderB (y2 HO1123.out) gb1144 (Nat.le_of_eq hg.symm)) hb); replace HO1126 := Aside0.mk (Kd.R_below (y8 HO1126.out) hb); replace HO1130 := Aside0.mk (Kd.N_below (Kd.N_elderB (y2 HO1130.out) gb1144 (Nat.le_of_eq hg.symm)) hb); replace HO1136 := Aside0.mk (Kd.N_below (Kd.N_elderB (y2 HO1136.out) gb1144 (Nat.le_of_eq hg.symm)) hb); replace HO1142 := Aside0.mk (Kd.N_below (Kd.N_elderB (y2 HO1142.out) gb1144 (Nat.le_of_eq hg.symm)) hb); have BK1144 := Aside0.mk hbox; have GW1144 := Aside0.mk ((y30 hg HB.out GE1118.out GE1119.out GE1131.out GE1132.out GE1138.out : w.heap.size ≤ gb1144)); have GE1144 := Aside0.mk ((y30 hg HB.out GE1118.out GE1119.out GE1131.out GE1132.out GE1138.out : w.heap.size ≤ gb1144)); replace HB := Aside0.mk (below_step (y14 HB.out GE1118.out GE1119.out GE1131.out GE1132.out GE1138.out) hb); have NB1118_1144 := zltn hg BK1118; have NB1144_1118 := zgtn hg BK1118; replace BK1118 := zbb BK1118 hb; have NB1119_1144 := zltn hg BK1119; have NB1144_1119 := zgtn hg BK1119; replace BK1119 := zbb BK1119 hb; have NB1131_1144 := zltn hg BK1131; have NB1144_1131 := zgtn hg BK1131; replace BK1131 := zbb BK1131 hb; have NB1132_1144 := zltn hg BK1132; have NB1144_1132 := zgtn hg BK1132; replace BK1132 := zbb BK1132 hb; have NB1138_1144 := zltn hg BK1138; have NB1144_1138 := zgtn hg BK1138; replace BK1138 := zbb BK1138 hb; clear hb hbox hg; have hnb45 := NB1144_1118.out; have hnc45 := NB1118_1144.out; have hnb46 := NB1144_1119.out; have hnc46 := NB1119_1144.out; have hnb47 := NB1144_1131.out; have hnc47 := NB1131_1144.out; have hnb48 := NB1144_1132.out; have hnc48 := NB1132_1144.out; have hnb49 := NB1144_1138.out; have hnc49 := NB1138_1144.out; have hcz50_0 := zh BK1144; have hcz50_1 := zh1 BK1144; have hfz50_0 := zfr BK1144 0; have hfz50_1 := zfr BK1144 1; obtain ⟨Ao51, co51, eo51⟩ := Kd.N_slice HO1142.out; subst eo51))
  (try simp only [Act.put, List.setIfInBounds_toArray, List.set_cons_zero, List.set_cons_succ])
  go_cut [57] (fun v57 wc => ∃ (kq : Nat) (x57_6 : Bool), v57 = .bool x57_6 ∧ Aside0 (laws_FnValType.j0 kq t1137 x57_6 t1111 t1114 t1115 t1133 t1134 = some r) ∧ Aside0 (kq ≤ k) ∧ Aside0 (Kd.V k50 50 wc w.heap.size (fun k_ => some k_ ≠ ((.slice Ao23 t1121.length co23) : Value).ownBlock ∧ some k_ ≠ ((.slice Ao28 t1128.length co28) : Value).ownBlock ∧ some k_ ≠ ((.slice Ao40 t1134.length co40) : Value).ownBlock ∧ some k_ ≠ ((.slice Ao51 t1140.length co51) : Value).ownBlock ∧ k_ ≠ gb1118 ∧ k_ ≠ gb1119 ∧ k_ ≠ gb1131 ∧ k_ ≠ gb1132 ∧ k_ ≠ gb1138 ∧ k_ ≠ gb1144) (.slice Ao11 t1111.length co11) t1111) ∧ Aside0 (Kd.V k25 25 wc w.heap.size (fun k_ => some k_ ≠ ((.slice Ao23 t1121.length co23) : Value).ownBlock ∧ some k_ ≠ ((.slice Ao28 t1128.length co28) : Value).ownBlock ∧ some k_ ≠ ((.slice Ao40 t1134.length co40) : Value).ownBlock ∧ some k_ ≠ ((.slice Ao51 t1140.length co51) : Value).ownBlock ∧ k_ ≠ gb1118 ∧ k_ ≠ gb1119 ∧ k_ ≠ gb1131 ∧ k_ ≠ gb1132 ∧ k_ ≠ gb1138 ∧ k_ ≠ gb1144) (.slice Ao15 t1115.length co15) t1115) ∧ Aside0 (Kd.N k25 25 wc w.heap.size (fun k_ => some k_ ≠ ((.slice Ao28 t1128.length co28) : Value).ownBlock ∧ some k_ ≠ ((.slice Ao40 t1134.length co40) : Value).ownBlock ∧ some k_ ≠ ((.slice Ao51 t1140.length co51) : Value).ownBlock ∧ k_ ≠ gb1118 ∧ k_ ≠ gb1119 ∧ k_ ≠ gb1131 ∧ k_ ≠ gb1132 ∧ k_ ≠ gb1138 ∧ k_ ≠ gb1144) (.slice Ao23 t1121.length co23) t1121) ∧ Aside0 (Kd.N k25 25 wc w.heap.size (fun k_ => some k_ ≠ ((.slice Ao23 t1121.length co23) : Value).ownBlock ∧ some k_ ≠ ((.slice Ao40 t1134.length co40) : Value).ownBlock ∧ some k_ ≠ ((.slice Ao51 t1140.length co51) : Value).ownBlock ∧ k_ ≠ gb1118 ∧ k_ ≠ gb1119 ∧ k_ ≠ gb1131 ∧ k_ ≠ gb1132 ∧ k_ ≠ gb1138 ∧ k_ ≠ gb1144) (.slice Ao28 t1128.length co28) t1128) ∧ Aside0 (Kd.N k25 25 wc w.heap.size (fun k_ => some k_ ≠ ((.slice Ao23 t1121.length co23) : Value).ownBlock ∧ some k_ ≠ ((.slice Ao51 t1140.length co51) : Value).ownBlock ∧ k_ ≠ gb1118 ∧ k_ ≠ gb1119 ∧ k_ ≠ gb1131 ∧ k_ ≠ gb1132 ∧ k_ ≠ gb1138 ∧ k_ ≠ gb1144) (.slice Ao40 t1134.length co40) t1134) ∧ Aside0 (Kd.N k25 25 wc w.heap.size (fun k_ => some k_ ≠ ((.slice Ao23 t1121.length co23) : Value).ownBlock ∧ some k_ ≠ ((.slice Ao28 t1128.length co28) : Value).ownBlock ∧ some k_ ≠ ((.slice Ao40 t1134.length co40) : Value).ownBlock ∧ k_ ≠ gb1118 ∧ k_ ≠ gb1119 ∧ k_ ≠ gb1131 ∧ k_ ≠ gb1132 ∧ k_ ≠ gb1138 ∧ k_ ≠ gb1144) (.slice Ao51 t1140.length co51) t1140) ∧ Aside0 (wc.heap[gb1118]? = some (.cells #[(.slice Ao11 t1111.length co11)] 50 (0, 0))) ∧ Aside0 (wc.heap[gb1119]? = some (.cells #[.int .i64 t1114, (.slice Ao15 t1115.length co15)] 25 (0, 0))) ∧ Aside0 (wc.heap[gb1131]? = some (.cells #[.int .i64 t1120, (.slice Ao23 t1121.length co23)] 25 (0, 0))) ∧ Aside0 (wc.heap[gb1132]? = some (.cells #[.int .i64 t1127, (.slice Ao28 t1128.length co28)] 25 (0, 0))) ∧ Aside0 (wc.heap[gb1138]? = some (.cells #[.int .i64 t1133, (.slice Ao40 t1134.length co40)] 25 (0, 0))) ∧ Aside0 (wc.heap[gb1144]? = some (.cells #[.int .i64 t1139, (.slice Ao51 t1140.length co51)] 25 (0, 0))) ∧ Aside0 (Below w.heap.size w wc))
  case first =>
   have H := HC7.out
   clear HC7
   by_cases c52 : (t1137 != t1143) = true
   ·rw [if_pos c52] at H
    have c52b0 : (t1137 != t1143) = true := c52
    (try (have c52b1 : decide (t1137 = t1143) = false := by simpa using c52))
    (try (have c52b2 : (t1137 == t1143) = false := by simpa using c52))
    (try (have c52b3 : ¬ (t1137 = t1143) := by simpa using c52))
    clear c52
    (first | rw [c52b0] | (simp only [i64_w, i32_w]; rw [c52b0]) | rw [show (!t1137 == t1143) = (t1137 != t1143) from by cases t1137 <;> cases t1143 <;> rfl, c52b0] | skip)
    have H' := Aside0.mk H
    clear H
    try go_wp2
    have n0_ : Aside0 (Kd.V k50 50 ((w44.setCell ⟨gb1144, 0, none⟩ (.int .i64 t1139)).setCell ⟨gb1144, 1, none⟩ (.slice Ao51 t1140.length co51)) w.heap.size (fun k_ => some k_ ≠ (.slice Ao23 t1121.length co23 : Value).ownBlock ∧ some k_ ≠ (.slice Ao32 t1124.length co32 : Value).ownBlock ∧ some k_ ≠ (.slice Ao28 t1128.length co28 : Value).ownBlock ∧ some k_ ≠ (.slice Ao40 t1134.length co40 : Value).ownBlock ∧ some k_ ≠ (.slice Ao51 t1140.length co51 : Value).ownBlock ∧ k_ ≠ gb1118 ∧ k_ ≠ gb1119 ∧ k_ ≠ gb1131 ∧ k_ ≠ gb1132 ∧ k_ ≠ gb1138 ∧ k_ ≠ gb1144) (.slice Ao11 t1111.length co11) t1111) := ⟨(by (with_reducible repeat (first | apply Kd.V_alloc | apply Kd.V_drewN | apply Kd.V_drew)); exact Kd.V_mono (Kd.V_far (p := ⟨gb1144, 1, none⟩) (Kd.V_far (p := ⟨gb1144, 0, none⟩) (Kd.V_mono HO1113.out (fun k_ hk => (⟨hk, hk.2⟩ : _ ∧ k_ ≠ gb1144))) (fun _ hk => hk.2) (.int .i64 t1139)) (fun _ hk => hk.2) (.slice Ao51 t1140.length co51)) (fun _ hk => ⟨hk.1.1.1.1.1.1, ⟨hk.1.1.1.1.1.2.1, ⟨hk.1.1.1.1.1.2.2.1, ⟨hk.1.1.1.1.2, ⟨hk.1.1.2, ⟨hk.1.1.1.1.1.2.2.2.1, ⟨hk.1.1.1.1.1.2.2.2.2.1, ⟨hk.1.1.1.1.1.2.2.2.2.2.1, ⟨hk.1.1.1.1.1.2.2.2.2.2.2, ⟨hk.1.1.1.2, hk.1.2⟩⟩⟩⟩⟩⟩⟩⟩⟩⟩))⟩
    have n1_ : Aside0 (Kd.V k25 25 ((w44.setCell ⟨gb1144, 0, none⟩ (.int .i64 t1139)).setCell ⟨gb1144, 1, none⟩ (.slice Ao51 t1140.length co51)) w.heap.size (fun k_ => some k_ ≠ (.slice Ao23 t1121.length co23 : Value).ownBlock ∧ some k_ ≠ (.slice Ao32 t1124.length co32 : Value).ownBlock ∧ some k_ ≠ (.slice Ao28 t1128.length co28 : Value).ownBlock ∧ some k_ ≠ (.slice Ao40 t1134.length co40 : Value).ownBlock ∧ some k_ ≠ (.slice Ao51 t1140.length co51 : Value).ownBlock ∧ k_ ≠ gb1118 ∧ k_ ≠ gb1119 ∧ k_ ≠ gb1131 ∧ k_ ≠ gb1132 ∧ k_ ≠ gb1138 ∧ k_ ≠ gb1144) (.slice Ao15 t1115.length co15) t1115) := ⟨(by (with_reducible repeat (first | apply Kd.V_alloc | apply Kd.V_drewN | apply Kd.V_drew)); exact Kd.V_mono (Kd.V_far (p := ⟨gb1144, 1, none⟩) (Kd.V_far (p := ⟨gb1144, 0, none⟩) (Kd.V_mono HO1117.out (fun k_ hk => (⟨hk, hk.2⟩ : _ ∧ k_ ≠ gb1144))) (fun _ hk => hk.2) (.int .i64 t1139)) (fun _ hk => hk.2) (.slice Ao51 t1140.length co51)) (fun _ hk => ⟨hk.1.1.1.1.1.1, ⟨hk.1.1.1.1.1.2.1, ⟨hk.1.1.1.1.1.2.2.1, ⟨hk.1.1.1.1.2, ⟨hk.1.1.2, ⟨hk.1.1.1.1.1.2.2.2.1, ⟨hk.1.1.1.1.1.2.2.2.2.1, ⟨hk.1.1.1.1.1.2.2.2.2.2.1, ⟨hk.1.1.1.1.1.2.2.2.2.2.2, ⟨hk.1.1.1.2, hk.1.2⟩⟩⟩⟩⟩⟩⟩⟩⟩⟩))⟩
    have n2_ : Aside0 (Kd.N k25 25 ((w44.setCell ⟨gb1144, 0, none⟩ (.int .i64 t1139)).setCell ⟨gb1144, 1, none⟩ (.slice Ao51 t1140.length co51)) w.heap.size (fun k_ => some k_ ≠ (.slice Ao32 t1124.length co32 : Value).ownBlock ∧ some k_ ≠ (.slice Ao28 t1128.length co28 : Value).ownBlock ∧ some k_ ≠ (.slice Ao40 t1134.length co40 : Value).ownBlock ∧ some k_ ≠ (.slice Ao51 t1140.length co51 : Value).ownBlock ∧ k_ ≠ gb1118 ∧ k_ ≠ gb1119 ∧ k_ ≠ gb1131 ∧ k_ ≠ gb1132 ∧ k_ ≠ gb1138 ∧ k_ ≠ gb1144) (.slice Ao23 t1121.length co23) t1121) := ⟨(by (with_reducible repeat (first | apply Kd.N_alloc | apply Kd.N_drewN | apply Kd.N_drew)); exact Kd.N_mono (Kd.N_far (p := ⟨gb1144, 1, none⟩) (Kd.N_far (p := ⟨gb1144, 0, none⟩) (Kd.N_mono HO1123.out (fun k_ hk => (⟨hk, hk.2⟩ : _ ∧ k_ ≠ gb1144))) (fun _ hk => hk.2) (.int .i64 t1139)) (fun _ hk => hk.2) (.slice Ao51 t1140.length co51)) (fun _ hk => ⟨hk.1.1.1.1.1.1, ⟨hk.1.1.1.1.1.2.1, ⟨hk.1.1.1.1.2, ⟨hk.1.1.2, ⟨hk.1.1.1.1.1.2.2.1, ⟨hk.1.1.1.1.1.2.2.2.1, ⟨hk.1.1.1.1.1.2.2.2.2.1, ⟨hk.1.1.1.1.1.2.2.2.2.2, ⟨hk.1.1.1.2, hk.1.2⟩⟩⟩⟩⟩⟩⟩⟩⟩))⟩
    have n3_ : Aside0 (Kd.R (Kd.int .i64) 3 ((w44.setCell ⟨gb1144, 0, none⟩ (.int .i64 t1139)).setCell ⟨gb1144, 1, none⟩ (.slice Ao51 t1140.length co51)) w.heap.size (fun _ => True) (.slice Ao32 t1124.length co32) t1124) := ⟨(by (with_reducible repeat (first | apply Kd.R_alloc | apply Kd.R_drewN | apply Kd.R_drew)); exact Kd.R_mono (Kd.R_far (p := ⟨gb1144, 1, none⟩) (Kd.R_far (p := ⟨gb1144, 0, none⟩) (Kd.R_types HO1126.out BK1144.out (by decide)) (fun _ hk => hk.2) (.int .i64 t1139)) (fun _ hk => hk.2) (.slice Ao51 t1140.length co51)) (fun _ hk => trivial))⟩
    have n4_ : Aside0 (Kd.N k25 25 ((w44.setCell ⟨gb1144, 0, none⟩ (.int .i64 t1139)).setCell ⟨gb1144, 1, none⟩ (.slice Ao51 t1140.length co51)) w.heap.size (fun k_ => some k_ ≠ (.slice Ao23 t1121.length co23 : Value).ownBlock ∧ some k_ ≠ (.slice Ao32 t1124.length co32 : Value).ownBlock ∧ some k_ ≠ (.slice Ao40 t1134.length co40 : Value).ownBlock ∧ some k_ ≠ (.slice Ao51 t1140.length co51 : Value).ownBlock ∧ k_ ≠ gb1118 ∧ k_ ≠ gb1119 ∧ k_ ≠ gb1131 ∧ k_ ≠ gb1132 ∧ k_ ≠ gb1138 ∧ k_ ≠ gb1144) (.slice Ao28 t1128.length co28) t1128) := ⟨(by (with_reducible repeat (first | apply Kd.N_alloc | apply Kd.N_drewN | apply Kd.N_drew)); exact Kd.N_mono (Kd.N_far (p := ⟨gb1144, 1, none⟩) (Kd.N_far (p := ⟨gb1144, 0, none⟩) (Kd.N_mono HO1130.out (fun k_ hk => (⟨hk, hk.2⟩ : _ ∧ k_ ≠ gb1144))) (fun _ hk => hk.2) (.int .i64 t1139)) (fun _ hk => hk.2) (.slice Ao51 t1140.length co51)) (fun _ hk => ⟨hk.1.1.1.1.1.1, ⟨hk.1.1.1.1.1.2.1, ⟨hk.1.1.1.1.2, ⟨hk.1.1.2, ⟨hk.1.1.1.1.1.2.2.1, ⟨hk.1.1.1.1.1.2.2.2.1, ⟨hk.1.1.1.1.1.2.2.2.2.1, ⟨hk.1.1.1.1.1.2.2.2.2.2, ⟨hk.1.1.1.2, hk.1.2⟩⟩⟩⟩⟩⟩⟩⟩⟩))⟩
    have n5_ : Aside0 (Kd.N k25 25 ((w44.setCell ⟨gb1144, 0, none⟩ (.int .i64 t1139)).setCell ⟨gb1144, 1, none⟩ (.slice Ao51 t1140.length co51)) w.heap.size (fun k_ => some k_ ≠ (.slice Ao23 t1121.length co23 : Value).ownBlock ∧ some k_ ≠ (.slice Ao32 t1124.length co32 : Value).ownBlock ∧ some k_ ≠ (.slice Ao51 t1140.length co51 : Value).ownBlock ∧ k_ ≠ gb1118 ∧ k_ ≠ gb1119 ∧ k_ ≠ gb1131 ∧ k_ ≠ gb1132 ∧ k_ ≠ gb1138 ∧ k_ ≠ gb1144) (.slice Ao40 t1134.length co40) t1134) := ⟨(by (with_reducible repeat (first | apply Kd.N_alloc | apply Kd.N_drewN | apply Kd.N_drew)); exact Kd.N_mono (Kd.N_far (p := ⟨gb1144, 1, none⟩) (Kd.N_far (p := ⟨gb1144, 0, none⟩) (Kd.N_mono HO1136.out (fun k_ hk => (⟨hk, hk.2⟩ : _ ∧ k_ ≠ gb1144))) (fun _ hk => hk.2) (.int .i64 t1139)) (fun _ hk => hk.2) (.slice Ao51 t1140.length co51)) (fun _ hk => ⟨hk.1.1.1.1.1, ⟨hk.1.1.1.1.2.1, ⟨hk.1.1.2, ⟨hk.1.1.1.1.2.2.1, ⟨hk.1.1.1.1.2.2.2.1, ⟨hk.1.1.1.1.2.2.2.2.1, ⟨hk.1.1.1.1.2.2.2.2.2, ⟨hk.1.1.1.2, hk.1.2⟩⟩⟩⟩⟩⟩⟩⟩))⟩
    have n6_ : Aside0 (Kd.N k25 25 ((w44.setCell ⟨gb1144, 0, none⟩ (.int .i64 t1139)).setCell ⟨gb1144, 1, none⟩ (.slice Ao51 t1140.length co51)) w.heap.size (fun k_ => some k_ ≠ (.slice Ao23 t1121.length co23 : Value).ownBlock ∧ some k_ ≠ (.slice Ao32 t1124.length co32 : Value).ownBlock ∧ some k_ ≠ (.slice Ao28 t1128.length co28 : Value).ownBlock ∧ some k_ ≠ (.slice Ao40 t1134.length co40 : Value).ownBlock ∧ k_ ≠ gb1118 ∧ k_ ≠ gb1119 ∧ k_ ≠ gb1131 ∧ k_ ≠ gb1132 ∧ k_ ≠ gb1138 ∧ k_ ≠ gb1144) (.slice Ao51 t1140.length co51) t1140) := ⟨(by (with_reducible repeat (first | apply Kd.N_alloc | apply Kd.N_drewN | apply Kd.N_drew)); exact Kd.N_mono (Kd.N_far (p := ⟨gb1144, 1, none⟩) (Kd.N_far (p := ⟨gb1144, 0, none⟩) (Kd.N_mono HO1142.out (fun k_ hk => (⟨hk, hk.2⟩ : _ ∧ k_ ≠ gb1144))) (fun _ hk => hk.2) (.int .i64 t1139)) (fun _ hk => hk.2) (.slice Ao51 t1140.length co51)) (fun _ hk => ⟨hk.1.1.1, ⟨hk.1.1.2.1, ⟨hk.1.1.2.2.1, ⟨hk.1.1.2.2.2.1, ⟨hk.1.1.2.2.2.2.1, ⟨hk.1.1.2.2.2.2.2.1, ⟨hk.1.1.2.2.2.2.2.2.1, ⟨hk.1.1.2.2.2.2.2.2.2.1, ⟨hk.1.1.2.2.2.2.2.2.2.2, hk.1.2⟩⟩⟩⟩⟩⟩⟩⟩⟩))⟩
    have n7_ : Aside0 (((w44.setCell ⟨gb1144, 0, none⟩ (.int .i64 t1139)).setCell ⟨gb1144, 1, none⟩ (.slice Ao51 t1140.length co51)).heap[gb1118]? = some (.cells #[.slice Ao11 t1111.length co11] 50 (0, 0))) := ⟨(y1 NB1118_1144.out BK1118.out)⟩
    have n8_ : Aside0 (((w44.setCell ⟨gb1144, 0, none⟩ (.int .i64 t1139)).setCell ⟨gb1144, 1, none⟩ (.slice Ao51 t1140.length co51)).heap[gb1119]? = some (.cells #[.int .i64 t1114, .slice Ao15 t1115.length co15] 25 (0, 0))) := ⟨(y1 NB1119_1144.out BK1119.out)⟩
    have n9_ : Aside0 (((w44.setCell ⟨gb1144, 0, none⟩ (.int .i64 t1139)).setCell ⟨gb1144, 1, none⟩ (.slice Ao51 t1140.length co51)).heap[gb1131]? = some (.cells #[.int .i64 t1120, .slice Ao23 t1121.length co23] 25 (0, 0))) := ⟨(y1 NB1131_1144.out BK1131.out)⟩
    have n10_ : Aside0 (((w44.setCell ⟨gb1144, 0, none⟩ (.int .i64 t1139)).setCell ⟨gb1144, 1, none⟩ (.slice Ao51 t1140.length co51)).heap[gb1132]? = some (.cells #[.int .i64 t1127, .slice Ao28 t1128.length co28] 25 (0, 0))) := ⟨(y1 NB1132_1144.out BK1132.out)⟩
    have n11_ : Aside0 (((w44.setCell ⟨gb1144, 0, none⟩ (.int .i64 t1139)).setCell ⟨gb1144, 1, none⟩ (.slice Ao51 t1140.length co51)).heap[gb1138]? = some (.cells #[.int .i64 t1133, .slice Ao40 t1134.length co40] 25 (0, 0))) := ⟨(y1 NB1138_1144.out BK1138.out)⟩
    have n12_ : Aside0 (((w44.setCell ⟨gb1144, 0, none⟩ (.int .i64 t1139)).setCell ⟨gb1144, 1, none⟩ (.slice Ao51 t1140.length co51)).heap[gb1144]? = some (.cells #[.int .i64 t1139, .slice Ao51 t1140.length co51] 25 (0, 0))) := ⟨(by (with_reducible repeat (first | refine blk_drewN ?_ _ | refine blk_drew ?_ | refine blk_alloc ?_ _)); refine blk_put (cs := #[.int .i64 t1139, .slice none 0 0]) ?_ 1 _ rfl; (with_reducible repeat (first | refine blk_drewN ?_ _ | refine blk_drew ?_ | refine blk_alloc ?_ _)); refine blk_put (cs := #[.int .i64 0, .slice none 0 0]) ?_ 0 _ rfl; (with_reducible repeat (first | refine blk_drewN ?_ _ | refine blk_drew ?_ | refine blk_alloc ?_ _)); exact BK1144.out)⟩
    have n13_ : Aside0 (Below w.heap.size w ((w44.setCell ⟨gb1144, 0, none⟩ (.int .i64 t1139)).setCell ⟨gb1144, 1, none⟩ (.slice Ao51 t1140.length co51))) := ⟨(y17 HB.out GE1118.out GE1119.out GE1131.out GE1132.out GE1138.out GE1144.out)⟩
    (try clear HO1113)
    (try clear HO1117)
    (try clear HO1123)
    (try clear HO1126)
    (try clear HO1130)
    (try clear HO1136)
    (try clear HO1142)
    (try clear BK1118)
    (try clear BK1119)
    (try clear BK1131)
    (try clear BK1132)
    (try clear BK1138)
    (try clear BK1144)
    (try clear HB)
    generalize ((w44.setCell ⟨gb1144, 0, none⟩ (.int .i64 t1139)).setCell ⟨gb1144, 1, none⟩ (.slice Ao51 t1140.length co51)) = w53 at n0_ n1_ n2_ n3_ n4_ n5_ n6_ n7_ n8_ n9_ n10_ n11_ n12_ n13_ ⊢
    have HO1113 := n0_
    have HO1117 := n1_
    have HO1123 := n2_
    have HO1126 := n3_
    have HO1130 := n4_
    have HO1136 := n5_
    have HO1142 := n6_
    have BK1118 := n7_
    have BK1119 := n8_
    have BK1131 := n9_
    have BK1132 := n10_
    have BK1138 := n11_
    have BK1144 := n12_
    have HB := n13_
    clear n0_ n1_ n2_ n3_ n4_ n5_ n6_ n7_ n8_ n9_ n10_ n11_ n12_ n13_
    replace HO1113 := Aside0.mk (Kd.V_drew HO1113.out)
    replace HO1117 := Aside0.mk (Kd.V_drew HO1117.out)
    replace HO1123 := Aside0.mk (Kd.N_drew HO1123.out)
    replace HO1126 := Aside0.mk (Kd.R_drew HO1126.out)
    replace HO1130 := Aside0.mk (Kd.N_drew HO1130.out)
    replace HO1136 := Aside0.mk (Kd.N_drew HO1136.out)
    replace HO1142 := Aside0.mk (Kd.N_drew HO1142.out)
    replace BK1118 := Aside0.mk (blk_drew BK1118.out)
    replace BK1119 := Aside0.mk (blk_drew BK1119.out)
    replace BK1131 := Aside0.mk (blk_drew BK1131.out)
    replace BK1132 := Aside0.mk (blk_drew BK1132.out)
    replace BK1138 := Aside0.mk (blk_drew BK1138.out)
    replace BK1144 := Aside0.mk (blk_drew BK1144.out)
    replace HB := Aside0.mk (below_drew1 HB.out)
    refine start_ (n := 18) (S := fun w' => True) (ds := []) #[false, false, false, false, false, false, false, false, false, false, false, false, false, false, false, false, false, false] (by kernel_rfl) rfl rfl trivial (fun hHeld => ?_); refine with_tabW laws_FnValType.tab7 laws_FnValType.bits7 (fun HT_ HW_ => ?_)
    generalize w53.drew = w54 at HO1113 HO1117 HO1123 HO1126 HO1130 HO1136 HO1142 BK1118 BK1119 BK1131 BK1132 BK1138 BK1144 HB hHeld ⊢
    refine zp 0 (some 40) HT_ ?_
    refine zp 1 (some 41) HT_ ?_
    refine zp 2 (some 42) HT_ ?_
    refine zp 3 (some 43) HT_ ?_
    refine pure_ (i := 4) (N := some 44) (v := undef) (a' := ?_) #[true, true, true, true, true, false, false, false, false, false, false, false, false, false, false, false, false, false] rfl rfl (any_of HT_.out (by kernel_rfl)) (fun _ _ _ h => h) (Or.inr ⟨(by rfl), rfl⟩) ?_ ?_
    rotate_left
    ·simp only [Act.put, List.setIfInBounds_toArray, List.set_cons_zero, List.set_cons_succ, i64_w, i32_w]
     rfl
    refine pure_ (i := 5) (N := some 45) (v := undef) (a' := ?_) #[true, true, true, true, true, true, false, false, false, false, false, false, false, false, false, false, false, false] rfl rfl (any_of HT_.out (by kernel_rfl)) (fun _ _ _ h => h) (Or.inr ⟨(by rfl), rfl⟩) ?_ ?_
    rotate_left
    ·simp only [Act.put, List.setIfInBounds_toArray, List.set_cons_zero, List.set_cons_succ, i64_w, i32_w]
     rfl
    refine pure_ (i := 6) (N := some 46) (v := undef) (a' := ?_) #[true, true, true, true, true, true, true, false, false, false, false, false, false, false, false, false, false, false] rfl rfl (any_of HT_.out (by kernel_rfl)) (fun _ _ _ h => h) (Or.inr ⟨(by rfl), rfl⟩) ?_ ?_
    rotate_left
    ·simp only [Act.put, List.setIfInBounds_toArray, List.set_cons_zero, List.set_cons_succ, i64_w, i32_w]
     rfl
    refine pure_ (i := 7) (N := some 47) (v := undef) (a' := ?_) #[true, true, true, true, true, true, true, true, false, false, false, false, false, false, false, false, false, false] rfl rfl (any_of HT_.out (by kernel_rfl)) (fun _ _ _ h => h) (Or.inr ⟨(by rfl), rfl⟩) ?_ ?_
    rotate_left
    ·simp only [Act.put, List.setIfInBounds_toArray, List.set_cons_zero, List.set_cons_succ, i64_w, i32_w]
     rfl
    refine zp 8 (some 48) HT_ ?_
    refine zp 9 (some 49) HT_ ?_
    refine pure_ (i := 10) (N := some 50) (v := undef) (a' := ?_) #[true, true, true, true, true, true, true, true, true, true, true, false, false, false, false, false, false, false] rfl rfl (any_of HT_.out (by kernel_rfl)) (fun _ _ _ h => h) (Or.inr ⟨(by rfl), rfl⟩) ?_ ?_
    rotate_left
    ·simp only [Act.put, List.setIfInBounds_toArray, List.set_cons_zero, List.set_cons_succ, i64_w, i32_w]
     rfl
    refine pure_ (i := 11) (N := some 51) (v := undef) (a' := ?_) #[true, true, true, true, true, true, true, true, true, true, true, true, false, false, false, false, false, false] rfl rfl (any_of HT_.out (by kernel_rfl)) (fun _ _ _ h => h) (Or.inr ⟨(by rfl), rfl⟩) ?_ ?_
    rotate_left
    ·simp only [Act.put, List.setIfInBounds_toArray, List.set_cons_zero, List.set_cons_succ, i64_w, i32_w]
     rfl
    refine pure_ (i := 12) (N := some 52) (v := undef) (a' := ?_) #[true, true, true, true, true, true, true, true, true, true, true, true, true, false, false, false, false, false] rfl rfl (any_of HT_.out (by kernel_rfl)) (fun _ _ _ h => h) (Or.inr ⟨(by rfl), rfl⟩) ?_ ?_
    rotate_left
    ·simp only [Act.put, List.setIfInBounds_toArray, List.set_cons_zero, List.set_cons_succ, i64_w, i32_w]
     rfl
    refine pure_ (i := 13) (N := some 53) (v := undef) (a' := ?_) #[true, true, true, true, true, true, true, true, true, true, true, true, true, true, false, false, false, false] rfl rfl (any_of HT_.out (by kernel_rfl)) (fun _ _ _ h => h) (Or.inr ⟨(by rfl), rfl⟩) ?_ ?_
    rotate_left
    ·simp only [Act.put, List.setIfInBounds_toArray, List.set_cons_zero, List.set_cons_succ, i64_w, i32_w]
     rfl
    refine pure_ (i := 14) (N := some 54) (v := undef) (a' := ?_) #[true, true, true, true, true, true, true, true, true, true, true, true, true, true, true, false, false, false] rfl rfl (any_of HT_.out (by kernel_rfl)) (fun _ _ _ h => h) (Or.inr ⟨(by rfl), rfl⟩) ?_ ?_
    rotate_left
    ·simp only [Act.put, List.setIfInBounds_toArray, List.set_cons_zero, List.set_cons_succ, i64_w, i32_w]
     rfl
    refine pure_ (i := 15) (N := some 55) (v := undef) (a' := ?_) #[true, true, true, true, true, true, true, true, true, true, true, true, true, true, true, true, false, false] rfl rfl (any_of HT_.out (by kernel_rfl)) (fun _ _ _ h => h) (Or.inr ⟨(by rfl), rfl⟩) ?_ ?_
    rotate_left
    ·simp only [Act.put, List.setIfInBounds_toArray, List.set_cons_zero, List.set_cons_succ, i64_w, i32_w]
     rfl
    refine pure_ (i := 16) (N := some 56) (v := undef) (a' := ?_) #[true, true, true, true, true, true, true, true, true, true, true, true, true, true, true, true, true, false] rfl rfl (any_of HT_.out (by kernel_rfl)) (fun _ _ _ h => h) (Or.inr ⟨(by rfl), rfl⟩) ?_ ?_
    rotate_left
    ·simp only [Act.put, List.setIfInBounds_toArray, List.set_cons_zero, List.set_cons_succ, i64_w, i32_w]
     rfl
    refine zp 17 (some 57) HT_ ?_
    refine done_ (done_of HT_.out (by kernel_rfl)) ?_
    try go_wp2
    go_meet
    case rel => exact ⟨_, (true), y29, H', ⟨y50⟩, ⟨(y41 HO1113.out)⟩, ⟨(y41 HO1117.out)⟩, ⟨(y67 HO1123.out)⟩, ⟨(y44 HO1130.out)⟩, ⟨(y71 HO1136.out)⟩, ⟨(y44 HO1142.out)⟩, ⟨(y0 BK1118.out)⟩, ⟨(y0 BK1119.out)⟩, ⟨(y0 BK1131.out)⟩, ⟨(y0 BK1132.out)⟩, ⟨(y0 BK1138.out)⟩, ⟨(y0 BK1144.out)⟩, ⟨(y17 HB.out GE1118.out GE1119.out GE1131.out GE1132.out GE1138.out GE1144.out)⟩⟩
   ·rw [if_neg c52] at H
    have c52b0 : (t1137 != t1143) = false := by simpa using c52
    (try (have c52b1 : decide (t1137 = t1143) = true := by simpa using c52))
    (try (have c52b2 : (t1137 == t1143) = true := by simpa using c52))
    clear c52
    (first | rw [c52b0] | (simp only [i64_w, i32_w]; rw [c52b0]) | rw [show (!t1137 == t1143) = (t1137 != t1143) from by cases t1137 <;> cases t1143 <;> rfl, c52b0] | skip)
    obtain ⟨t1145, A550, H⟩ := ob H
    have A55 := Aside0.mk A550
    clear A550
    by_cases c56 : t1145 = true
    ·subst c56
     rw [if_pos rfl] at H
     obtain ⟨t1146, A570, H⟩ := ob H
     have A57 := Aside0.mk A570
     clear A570
     obtain ⟨t1147, A580, H⟩ := ob H
     have A58 := Aside0.mk A580
     clear A580
     have H' := Aside0.mk H
     clear H
     try go_wp2
     have n0_ : Aside0 (Kd.V k50 50 ((w44.setCell ⟨gb1144, 0, none⟩ (.int .i64 t1139)).setCell ⟨gb1144, 1, none⟩ (.slice Ao51 t1140.length co51)) w.heap.size (fun k_ => some k_ ≠ (.slice Ao23 t1121.length co23 : Value).ownBlock ∧ some k_ ≠ (.slice Ao32 t1124.length co32 : Value).ownBlock ∧ some k_ ≠ (.slice Ao28 t1128.length co28 : Value).ownBlock ∧ some k_ ≠ (.slice Ao40 t1134.length co40 : Value).ownBlock ∧ some k_ ≠ (.slice Ao51 t1140.length co51 : Value).ownBlock ∧ k_ ≠ gb1118 ∧ k_ ≠ gb1119 ∧ k_ ≠ gb1131 ∧ k_ ≠ gb1132 ∧ k_ ≠ gb1138 ∧ k_ ≠ gb1144) (.slice Ao11 t1111.length co11) t1111) := ⟨(by (with_reducible repeat (first | apply Kd.V_alloc | apply Kd.V_drewN | apply Kd.V_drew)); exact Kd.V_mono (Kd.V_far (p := ⟨gb1144, 1, none⟩) (Kd.V_far (p := ⟨gb1144, 0, none⟩) (Kd.V_mono HO1113.out (fun k_ hk => (⟨hk, hk.2⟩ : _ ∧ k_ ≠ gb1144))) (fun _ hk => hk.2) (.int .i64 t1139)) (fun _ hk => hk.2) (.slice Ao51 t1140.length co51)) (fun _ hk => ⟨hk.1.1.1.1.1.1, ⟨hk.1.1.1.1.1.2.1, ⟨hk.1.1.1.1.1.2.2.1, ⟨hk.1.1.1.1.2, ⟨hk.1.1.2, ⟨hk.1.1.1.1.1.2.2.2.1, ⟨hk.1.1.1.1.1.2.2.2.2.1, ⟨hk.1.1.1.1.1.2.2.2.2.2.1, ⟨hk.1.1.1.1.1.2.2.2.2.2.2, ⟨hk.1.1.1.2, hk.1.2⟩⟩⟩⟩⟩⟩⟩⟩⟩⟩))⟩
     have n1_ : Aside0 (Kd.V k25 25 ((w44.setCell ⟨gb1144, 0, none⟩ (.int .i64 t1139)).setCell ⟨gb1144, 1, none⟩ (.slice Ao51 t1140.length co51)) w.heap.size (fun k_ => some k_ ≠ (.slice Ao23 t1121.length co23 : Value).ownBlock ∧ some k_ ≠ (.slice Ao32 t1124.length co32 : Value).ownBlock ∧ some k_ ≠ (.slice Ao28 t1128.length co28 : Value).ownBlock ∧ some k_ ≠ (.slice Ao40 t1134.length co40 : Value).ownBlock ∧ some k_ ≠ (.slice Ao51 t1140.length co51 : Value).ownBlock ∧ k_ ≠ gb1118 ∧ k_ ≠ gb1119 ∧ k_ ≠ gb1131 ∧ k_ ≠ gb1132 ∧ k_ ≠ gb1138 ∧ k_ ≠ gb1144) (.slice Ao15 t1115.length co15) t1115) := ⟨(by (with_reducible repeat (first | apply Kd.V_alloc | apply Kd.V_drewN | apply Kd.V_drew)); exact Kd.V_mono (Kd.V_far (p := ⟨gb1144, 1, none⟩) (Kd.V_far (p := ⟨gb1144, 0, none⟩) (Kd.V_mono HO1117.out (fun k_ hk => (⟨hk, hk.2⟩ : _ ∧ k_ ≠ gb1144))) (fun _ hk => hk.2) (.int .i64 t1139)) (fun _ hk => hk.2) (.slice Ao51 t1140.length co51)) (fun _ hk => ⟨hk.1.1.1.1.1.1, ⟨hk.1.1.1.1.1.2.1, ⟨hk.1.1.1.1.1.2.2.1, ⟨hk.1.1.1.1.2, ⟨hk.1.1.2, ⟨hk.1.1.1.1.1.2.2.2.1, ⟨hk.1.1.1.1.1.2.2.2.2.1, ⟨hk.1.1.1.1.1.2.2.2.2.2.1, ⟨hk.1.1.1.1.1.2.2.2.2.2.2, ⟨hk.1.1.1.2, hk.1.2⟩⟩⟩⟩⟩⟩⟩⟩⟩⟩))⟩
     have n2_ : Aside0 (Kd.N k25 25 ((w44.setCell ⟨gb1144, 0, none⟩ (.int .i64 t1139)).setCell ⟨gb1144, 1, none⟩ (.slice Ao51 t1140.length co51)) w.heap.size (fun k_ => some k_ ≠ (.slice Ao32 t1124.length co32 : Value).ownBlock ∧ some k_ ≠ (.slice Ao28 t1128.length co28 : Value).ownBlock ∧ some k_ ≠ (.slice Ao40 t1134.length co40 : Value).ownBlock ∧ some k_ ≠ (.slice Ao51 t1140.length co51 : Value).ownBlock ∧ k_ ≠ gb1118 ∧ k_ ≠ gb1119 ∧ k_ ≠ gb1131 ∧ k_ ≠ gb1132 ∧ k_ ≠ gb1138 ∧ k_ ≠ gb1144) (.slice Ao23 t1121.length co23) t1121) := ⟨(by (with_reducible repeat (first | apply Kd.N_alloc | apply Kd.N_drewN | apply Kd.N_drew)); exact Kd.N_mono (Kd.N_far (p := ⟨gb1144, 1, none⟩) (Kd.N_far (p := ⟨gb1144, 0, none⟩) (Kd.N_mono HO1123.out (fun k_ hk => (⟨hk, hk.2⟩ : _ ∧ k_ ≠ gb1144))) (fun _ hk => hk.2) (.int .i64 t1139)) (fun _ hk => hk.2) (.slice Ao51 t1140.length co51)) (fun _ hk => ⟨hk.1.1.1.1.1.1, ⟨hk.1.1.1.1.1.2.1, ⟨hk.1.1.1.1.2, ⟨hk.1.1.2, ⟨hk.1.1.1.1.1.2.2.1, ⟨hk.1.1.1.1.1.2.2.2.1, ⟨hk.1.1.1.1.1.2.2.2.2.1, ⟨hk.1.1.1.1.1.2.2.2.2.2, ⟨hk.1.1.1.2, hk.1.2⟩⟩⟩⟩⟩⟩⟩⟩⟩))⟩
     have n3_ : Aside0 (Kd.R (Kd.int .i64) 3 ((w44.setCell ⟨gb1144, 0, none⟩ (.int .i64 t1139)).setCell ⟨gb1144, 1, none⟩ (.slice Ao51 t1140.length co51)) w.heap.size (fun _ => True) (.slice Ao32 t1124.length co32) t1124) := ⟨(by (with_reducible repeat (first | apply Kd.R_alloc | apply Kd.R_drewN | apply Kd.R_drew)); exact Kd.R_mono (Kd.R_far (p := ⟨gb1144, 1, none⟩) (Kd.R_far (p := ⟨gb1144, 0, none⟩) (Kd.R_types HO1126.out BK1144.out (by decide)) (fun _ hk => hk.2) (.int .i64 t1139)) (fun _ hk => hk.2) (.slice Ao51 t1140.length co51)) (fun _ hk => trivial))⟩
     have n4_ : Aside0 (Kd.N k25 25 ((w44.setCell ⟨gb1144, 0, none⟩ (.int .i64 t1139)).setCell ⟨gb1144, 1, none⟩ (.slice Ao51 t1140.length co51)) w.heap.size (fun k_ => some k_ ≠ (.slice Ao23 t1121.length co23 : Value).ownBlock ∧ some k_ ≠ (.slice Ao32 t1124.length co32 : Value).ownBlock ∧ some k_ ≠ (.slice Ao40 t1134.length co40 : Value).ownBlock ∧ some k_ ≠ (.slice Ao51 t1140.length co51 : Value).ownBlock ∧ k_ ≠ gb1118 ∧ k_ ≠ gb1119 ∧ k_ ≠ gb1131 ∧ k_ ≠ gb1132 ∧ k_ ≠ gb1138 ∧ k_ ≠ gb1144) (.slice Ao28 t1128.length co28) t1128) := ⟨(by (with_reducible repeat (first | apply Kd.N_alloc | apply Kd.N_drewN | apply Kd.N_drew)); exact Kd.N_mono (Kd.N_far (p := ⟨gb1144, 1, none⟩) (Kd.N_far (p := ⟨gb1144, 0, none⟩) (Kd.N_mono HO1130.out (fun k_ hk => (⟨hk, hk.2⟩ : _ ∧ k_ ≠ gb1144))) (fun _ hk => hk.2) (.int .i64 t1139)) (fun _ hk => hk.2) (.slice Ao51 t1140.length co51)) (fun _ hk => ⟨hk.1.1.1.1.1.1, ⟨hk.1.1.1.1.1.2.1, ⟨hk.1.1.1.1.2, ⟨hk.1.1.2, ⟨hk.1.1.1.1.1.2.2.1, ⟨hk.1.1.1.1.1.2.2.2.1, ⟨hk.1.1.1.1.1.2.2.2.2.1, ⟨hk.1.1.1.1.1.2.2.2.2.2, ⟨hk.1.1.1.2, hk.1.2⟩⟩⟩⟩⟩⟩⟩⟩⟩))⟩
     have n5_ : Aside0 (Kd.N k25 25 ((w44.setCell ⟨gb1144, 0, none⟩ (.int .i64 t1139)).setCell ⟨gb1144, 1, none⟩ (.slice Ao51 t1140.length co51)) w.heap.size (fun k_ => some k_ ≠ (.slice Ao23 t1121.length co23 : Value).ownBlock ∧ some k_ ≠ (.slice Ao32 t1124.length co32 : Value).ownBlock ∧ some k_ ≠ (.slice Ao51 t1140.length co51 : Value).ownBlock ∧ k_ ≠ gb1118 ∧ k_ ≠ gb1119 ∧ k_ ≠ gb1131 ∧ k_ ≠ gb1132 ∧ k_ ≠ gb1138 ∧ k_ ≠ gb1144) (.slice Ao40 t1134.length co40) t1134) := ⟨(by (with_reducible repeat (first | apply Kd.N_alloc | apply Kd.N_drewN | apply Kd.N_drew)); exact Kd.N_mono (Kd.N_far (p := ⟨gb1144, 1, none⟩) (Kd.N_far (p := ⟨gb1144, 0, none⟩) (Kd.N_mono HO1136.out (fun k_ hk => (⟨hk, hk.2⟩ : _ ∧ k_ ≠ gb1144))) (fun _ hk => hk.2) (.int .i64 t1139)) (fun _ hk => hk.2) (.slice Ao51 t1140.length co51)) (fun _ hk => ⟨hk.1.1.1.1.1, ⟨hk.1.1.1.1.2.1, ⟨hk.1.1.2, ⟨hk.1.1.1.1.2.2.1, ⟨hk.1.1.1.1.2.2.2.1, ⟨hk.1.1.1.1.2.2.2.2.1, ⟨hk.1.1.1.1.2.2.2.2.2, ⟨hk.1.1.1.2, hk.1.2⟩⟩⟩⟩⟩⟩⟩⟩))⟩
     have n6_ : Aside0 (Kd.N k25 25 ((w44.setCell ⟨gb1144, 0, none⟩ (.int .i64 t1139)).setCell ⟨gb1144, 1, none⟩ (.slice Ao51 t1140.length co51)) w.heap.size (fun k_ => some k_ ≠ (.slice Ao23 t1121.length co23 : Value).ownBlock ∧ some k_ ≠ (.slice Ao32 t1124.length co32 : Value).ownBlock ∧ some k_ ≠ (.slice Ao28 t1128.length co28 : Value).ownBlock ∧ some k_ ≠ (.slice Ao40 t1134.length co40 : Value).ownBlock ∧ k_ ≠ gb1118 ∧ k_ ≠ gb1119 ∧ k_ ≠ gb1131 ∧ k_ ≠ gb1132 ∧ k_ ≠ gb1138 ∧ k_ ≠ gb1144) (.slice Ao51 t1140.length co51) t1140) := ⟨(by (with_reducible repeat (first | apply Kd.N_alloc | apply Kd.N_drewN | apply Kd.N_drew)); exact Kd.N_mono (Kd.N_far (p := ⟨gb1144, 1, none⟩) (Kd.N_far (p := ⟨gb1144, 0, none⟩) (Kd.N_mono HO1142.out (fun k_ hk => (⟨hk, hk.2⟩ : _ ∧ k_ ≠ gb1144))) (fun _ hk => hk.2) (.int .i64 t1139)) (fun _ hk => hk.2) (.slice Ao51 t1140.length co51)) (fun _ hk => ⟨hk.1.1.1, ⟨hk.1.1.2.1, ⟨hk.1.1.2.2.1, ⟨hk.1.1.2.2.2.1, ⟨hk.1.1.2.2.2.2.1, ⟨hk.1.1.2.2.2.2.2.1, ⟨hk.1.1.2.2.2.2.2.2.1, ⟨hk.1.1.2.2.2.2.2.2.2.1, ⟨hk.1.1.2.2.2.2.2.2.2.2, hk.1.2⟩⟩⟩⟩⟩⟩⟩⟩⟩))⟩
     have n7_ : Aside0 (((w44.setCell ⟨gb1144, 0, none⟩ (.int .i64 t1139)).setCell ⟨gb1144, 1, none⟩ (.slice Ao51 t1140.length co51)).heap[gb1118]? = some (.cells #[.slice Ao11 t1111.length co11] 50 (0, 0))) := ⟨(y1 NB1118_1144.out BK1118.out)⟩
     have n8_ : Aside0 (((w44.setCell ⟨gb1144, 0, none⟩ (.int .i64 t1139)).setCell ⟨gb1144, 1, none⟩ (.slice Ao51 t1140.length co51)).heap[gb1119]? = some (.cells #[.int .i64 t1114, .slice Ao15 t1115.length co15] 25 (0, 0))) := ⟨(y1 NB1119_1144.out BK1119.out)⟩
     have n9_ : Aside0 (((w44.setCell ⟨gb1144, 0, none⟩ (.int .i64 t1139)).setCell ⟨gb1144, 1, none⟩ (.slice Ao51 t1140.length co51)).heap[gb1131]? = some (.cells #[.int .i64 t1120, .slice Ao23 t1121.length co23] 25 (0, 0))) := ⟨(y1 NB1131_1144.out BK1131.out)⟩
     have n10_ : Aside0 (((w44.setCell ⟨gb1144, 0, none⟩ (.int .i64 t1139)).setCell ⟨gb1144, 1, none⟩ (.slice Ao51 t1140.length co51)).heap[gb1132]? = some (.cells #[.int .i64 t1127, .slice Ao28 t1128.length co28] 25 (0, 0))) := ⟨(y1 NB1132_1144.out BK1132.out)⟩
     have n11_ : Aside0 (((w44.setCell ⟨gb1144, 0, none⟩ (.int .i64 t1139)).setCell ⟨gb1144, 1, none⟩ (.slice Ao51 t1140.length co51)).heap[gb1138]? = some (.cells #[.int .i64 t1133, .slice Ao40 t1134.length co40] 25 (0, 0))) := ⟨(y1 NB1138_1144.out BK1138.out)⟩
     have n12_ : Aside0 (((w44.setCell ⟨gb1144, 0, none⟩ (.int .i64 t1139)).setCell ⟨gb1144, 1, none⟩ (.slice Ao51 t1140.length co51)).heap[gb1144]? = some (.cells #[.int .i64 t1139, .slice Ao51 t1140.length co51] 25 (0, 0))) := ⟨(by (with_reducible repeat (first | refine blk_drewN ?_ _ | refine blk_drew ?_ | refine blk_alloc ?_ _)); refine blk_put (cs := #[.int .i64 t1139, .slice none 0 0]) ?_ 1 _ rfl; (with_reducible repeat (first | refine blk_drewN ?_ _ | refine blk_drew ?_ | refine blk_alloc ?_ _)); refine blk_put (cs := #[.int .i64 0, .slice none 0 0]) ?_ 0 _ rfl; (with_reducible repeat (first | refine blk_drewN ?_ _ | refine blk_drew ?_ | refine blk_alloc ?_ _)); exact BK1144.out)⟩
     have n13_ : Aside0 (Below w.heap.size w ((w44.setCell ⟨gb1144, 0, none⟩ (.int .i64 t1139)).setCell ⟨gb1144, 1, none⟩ (.slice Ao51 t1140.length co51))) := ⟨(y17 HB.out GE1118.out GE1119.out GE1131.out GE1132.out GE1138.out GE1144.out)⟩
     (try clear HO1113)
     (try clear HO1117)
     (try clear HO1123)
     (try clear HO1126)
     (try clear HO1130)
     (try clear HO1136)
     (try clear HO1142)
     (try clear BK1118)
     (try clear BK1119)
     (try clear BK1131)
     (try clear BK1132)
     (try clear BK1138)
     (try clear BK1144)
     (try clear HB)
     generalize ((w44.setCell ⟨gb1144, 0, none⟩ (.int .i64 t1139)).setCell ⟨gb1144, 1, none⟩ (.slice Ao51 t1140.length co51)) = w59 at n0_ n1_ n2_ n3_ n4_ n5_ n6_ n7_ n8_ n9_ n10_ n11_ n12_ n13_ ⊢
     have HO1113 := n0_
     have HO1117 := n1_
     have HO1123 := n2_
     have HO1126 := n3_
     have HO1130 := n4_
     have HO1136 := n5_
     have HO1142 := n6_
     have BK1118 := n7_
     have BK1119 := n8_
     have BK1131 := n9_
     have BK1132 := n10_
     have BK1138 := n11_
     have BK1144 := n12_
     have HB := n13_
     clear n0_ n1_ n2_ n3_ n4_ n5_ n6_ n7_ n8_ n9_ n10_ n11_ n12_ n13_
     replace HO1113 := Aside0.mk (Kd.V_drew HO1113.out)
     replace HO1117 := Aside0.mk (Kd.V_drew HO1117.out)
     replace HO1123 := Aside0.mk (Kd.N_drew HO1123.out)
     replace HO1126 := Aside0.mk (Kd.R_drew HO1126.out)
     replace HO1130 := Aside0.mk (Kd.N_drew HO1130.out)
     replace HO1136 := Aside0.mk (Kd.N_drew HO1136.out)
     replace HO1142 := Aside0.mk (Kd.N_drew HO1142.out)
     replace BK1118 := Aside0.mk (blk_drew BK1118.out)
     replace BK1119 := Aside0.mk (blk_drew BK1119.out)
     replace BK1131 := Aside0.mk (blk_drew BK1131.out)
     replace BK1132 := Aside0.mk (blk_drew BK1132.out)
     replace BK1138 := Aside0.mk (blk_drew BK1138.out)
     replace BK1144 := Aside0.mk (blk_drew BK1144.out)
     replace HB := Aside0.mk (below_drew1 HB.out)
     refine start_ (n := 18) (S := fun w' => w'.cell? ⟨gb1138, 0, none⟩ = some (.int .i64 t1133) ∧ w'.cell? ⟨gb1138, 1, none⟩ = some (.slice Ao40 t1134.length co40) ∧ w'.cell? ⟨gb1144, 0, none⟩ = some (.int .i64 t1139) ∧ w'.cell? ⟨gb1144, 1, none⟩ = some (.slice Ao51 t1140.length co51) ∧ w'.cell? ⟨gb1118, 0, none⟩ = some (.slice Ao11 t1111.length co11) ∧ w'.cell? ⟨gb1119, 0, none⟩ = some (.int .i64 t1114) ∧ w'.cell? ⟨gb1119, 1, none⟩ = some (.slice Ao15 t1115.length co15)) (ds := []) #[false, false, false, false, false, false, false, false, false, false, false, false, false, false, false, false, false, false] (by kernel_rfl) rfl rfl ⟨(blk_cell BK1138.out 0).trans rfl, (blk_cell BK1138.out 1).trans rfl, (blk_cell BK1144.out 0).trans rfl, (blk_cell BK1144.out 1).trans rfl, (blk_cell BK1118.out 0).trans rfl, (blk_cell BK1119.out 0).trans rfl, (blk_cell BK1119.out 1).trans rfl⟩ (fun hHeld => ?_); refine with_tabW laws_FnValType.tab7 laws_FnValType.bits7 (fun HT_ HW_ => ?_)
     generalize w59.drew = w60 at HO1113 HO1117 HO1123 HO1126 HO1130 HO1136 HO1142 BK1118 BK1119 BK1131 BK1132 BK1138 BK1144 HB hHeld ⊢
     refine zp 0 (some 40) HT_ ?_
     refine zp 1 (some 41) HT_ ?_
     refine zp 2 (some 42) HT_ ?_
     refine zp 3 (some 43) HT_ ?_
     refine zt7 4 (some 44) HT_ HW_ hHeld ?_
     refine zt7 5 (some 45) HT_ HW_ hHeld ?_
     refine one_ (i := 6) (N := some 46) #[true, true, true, true, true, true, true, false, false, false, false, false, false, false, false, false, false, false] rfl rfl (one_of HT_.out (by kernel_rfl)) (by decide) (fun K hK => ?_)
     refine goes_ Try.func15 (by kernel_rfl) rfl #[.agg #[.int .i64 t1133, .slice Ao40 t1134.length co40], .agg #[.int .i64 t1139, .slice Ao51 t1140.length co51]] (by rfl) rfl rfl y9 ?_
     with_reducible refine (laws_lhVal.calls k t1133 _ _ t1134 t1139 _ _ t1140 true _ ?side1 ?side2 ?side3 ?side4 A55.out).mono ?_
     (case side1 => exact y36 HO1136.out)
     (case side2 => exact (Kd.N_reads' HO1136.out).2.1)
     (case side3 => exact y36 HO1142.out)
     (case side4 => exact (Kd.N_reads' HO1142.out).2.1)
     rintro e w61 ⟨rfl, hb⟩
     refine ⟨_, rfl, ?_⟩
     replace HO1113 := Aside0.mk (Kd.V_below (y11 HO1113.out) hb)
     replace HO1117 := Aside0.mk (Kd.V_below (y11 HO1117.out) hb)
     replace HO1123 := Aside0.mk (Kd.N_below (y2 HO1123.out) hb)
     replace HO1126 := Aside0.mk (Kd.R_below (y8 HO1126.out) hb)
     replace HO1130 := Aside0.mk (Kd.N_below (y2 HO1130.out) hb)
     replace HO1136 := Aside0.mk (Kd.N_below (y2 HO1136.out) hb)
     replace HO1142 := Aside0.mk (Kd.N_below (y2 HO1142.out) hb)
     replace BK1118 := zbb BK1118 hb
     replace BK1119 := zbb BK1119 hb
     replace BK1131 := zbb BK1131 hb
     replace BK1132 := zbb BK1132 hb
     replace BK1138 := zbb BK1138 hb
     replace BK1144 := zbb BK1144 hb
     replace HB := Aside0.mk (below_step (y17 HB.out GE1118.out GE1119.out GE1131.out GE1132.out GE1138.out GE1144.out) hb)
     (try clear hb)
     (try clear hb2)
     (try clear hk)
     (try clear hi)
     refine hK.out _ _ ⟨(blk_cell BK1138.out 0).trans rfl, (blk_cell BK1138.out 1).trans rfl, (blk_cell BK1144.out 0).trans rfl, (blk_cell BK1144.out 1).trans rfl, (blk_cell BK1118.out 0).trans rfl, (blk_cell BK1119.out 0).trans rfl, (blk_cell BK1119.out 1).trans rfl⟩ (fun hHeld => ?_)
     clear hK K
     refine norm_ (a' := ?_) ?_ ?_
     rotate_left
     ·show Act.put _ (some 46) _ = _
      simp only [Act.put, List.setIfInBounds_toArray, List.set_cons_zero, List.set_cons_succ, i64_w, i32_w]
      rfl
     refine zp 7 (some 47) HT_ ?_
     refine zp 8 (some 48) HT_ ?_
     refine zp 9 (some 49) HT_ ?_
     refine zt7 10 (some 50) HT_ HW_ hHeld ?_
     refine zt7 11 (some 51) HT_ HW_ hHeld ?_
     refine zt7 13 (some 53) HT_ HW_ hHeld ?_
     refine zt7 14 (some 54) HT_ HW_ hHeld ?_
     refine one_ (i := 12) (N := some 52) #[true, true, true, true, true, true, true, true, true, true, true, true, true, true, true, false, false, false] rfl rfl (one_of HT_.out (by kernel_rfl)) (by decide) (fun K hK => ?_)
     refine goes_ Try.func28 (by kernel_rfl) rfl #[.agg #[.slice Ao11 t1111.length co11], .agg #[.int .i64 t1114, .slice Ao15 t1115.length co15]] (by rfl) rfl rfl y9 ?_
     with_reducible refine (impl_ValOk.calls k _ _ t1111 t1114 _ _ t1115 t1146 _ ?side1 ?side2 ?side3 ?side4 A57.out).mono ?_
     (case side1 => exact y33 HO1113.out)
     (case side2 => exact (Kd.V_reads' HO1113.out).2.1)
     (case side3 => exact y33 HO1117.out)
     (case side4 => exact (Kd.V_reads' HO1117.out).2.1)
     rintro e w62 ⟨rfl, hb⟩
     refine ⟨_, rfl, ?_⟩
     replace HO1113 := Aside0.mk (Kd.V_below (y11 HO1113.out) hb)
     replace HO1117 := Aside0.mk (Kd.V_below (y11 HO1117.out) hb)
     replace HO1123 := Aside0.mk (Kd.N_below (y2 HO1123.out) hb)
     replace HO1126 := Aside0.mk (Kd.R_below (y8 HO1126.out) hb)
     replace HO1130 := Aside0.mk (Kd.N_below (y2 HO1130.out) hb)
     replace HO1136 := Aside0.mk (Kd.N_below (y2 HO1136.out) hb)
     replace HO1142 := Aside0.mk (Kd.N_below (y2 HO1142.out) hb)
     replace BK1118 := zbb BK1118 hb
     replace BK1119 := zbb BK1119 hb
     replace BK1131 := zbb BK1131 hb
     replace BK1132 := zbb BK1132 hb
     replace BK1138 := zbb BK1138 hb
     replace BK1144 := zbb BK1144 hb
     replace HB := Aside0.mk (below_step (y17 HB.out GE1118.out GE1119.out GE1131.out GE1132.out GE1138.out GE1144.out) hb)
     (try clear hb)
     (try clear hb2)
     (try clear hk)
     (try clear hi)
     refine hK.out _ _ ⟨(blk_cell BK1138.out 0).trans rfl, (blk_cell BK1138.out 1).trans rfl, (blk_cell BK1144.out 0).trans rfl, (blk_cell BK1144.out 1).trans rfl, (blk_cell BK1118.out 0).trans rfl, (blk_cell BK1119.out 0).trans rfl, (blk_cell BK1119.out 1).trans rfl⟩ (fun hHeld => ?_)
     clear hK K
     refine norm_ (a' := ?_) ?_ ?_
     rotate_left
     ·show Act.put _ (some 52) _ = _
      simp only [Act.put, List.setIfInBounds_toArray, List.set_cons_zero, List.set_cons_succ, i64_w, i32_w]
      rfl
     refine one_ (i := 15) (N := some 55) #[true, true, true, true, true, true, true, true, true, true, true, true, true, true, true, true, false, false] rfl rfl (one_of HT_.out (by kernel_rfl)) (by decide) (fun K hK => ?_)
     refine goes_ Try.func29 (by kernel_rfl) rfl #[.agg #[.slice Ao11 t1111.length co11], .agg #[.int .i64 t1114, .slice Ao15 t1115.length co15]] (by rfl) rfl rfl y9 ?_
     with_reducible refine (spec_ValOk.calls k _ _ t1111 t1114 _ _ t1115 t1147 _ ?side1 ?side2 ?side3 ?side4 A58.out).mono ?_
     (case side1 => exact y33 HO1113.out)
     (case side2 => exact (Kd.V_reads' HO1113.out).2.1)
     (case side3 => exact y33 HO1117.out)
     (case side4 => exact (Kd.V_reads' HO1117.out).2.1)
     rintro e w63 ⟨rfl, hb⟩
     refine ⟨_, rfl, ?_⟩
     replace HO1113 := Aside0.mk (Kd.V_below (y11 HO1113.out) hb)
     replace HO1117 := Aside0.mk (Kd.V_below (y11 HO1117.out) hb)
     replace HO1123 := Aside0.mk (Kd.N_below (y2 HO1123.out) hb)
     replace HO1126 := Aside0.mk (Kd.R_below (y8 HO1126.out) hb)
     replace HO1130 := Aside0.mk (Kd.N_below (y2 HO1130.out) hb)
     replace HO1136 := Aside0.mk (Kd.N_below (y2 HO1136.out) hb)
     replace HO1142 := Aside0.mk (Kd.N_below (y2 HO1142.out) hb)
     replace BK1118 := zbb BK1118 hb
     replace BK1119 := zbb BK1119 hb
     replace BK1131 := zbb BK1131 hb
     replace BK1132 := zbb BK1132 hb
     replace BK1138 := zbb BK1138 hb
     replace BK1144 := zbb BK1144 hb
     replace HB := Aside0.mk (below_step (y17 HB.out GE1118.out GE1119.out GE1131.out GE1132.out GE1138.out GE1144.out) hb)
     (try clear hb)
     (try clear hb2)
     (try clear hk)
     (try clear hi)
     refine hK.out _ _ ⟨(blk_cell BK1138.out 0).trans rfl, (blk_cell BK1138.out 1).trans rfl, (blk_cell BK1144.out 0).trans rfl, (blk_cell BK1144.out 1).trans rfl, (blk_cell BK1118.out 0).trans rfl, (blk_cell BK1119.out 0).trans rfl, (blk_cell BK1119.out 1).trans rfl⟩ (fun hHeld => ?_)
     clear hK K
     refine norm_ (a' := ?_) ?_ ?_
     rotate_left
     ·show Act.put _ (some 55) _ = _
      simp only [Act.put, List.setIfInBounds_toArray, List.set_cons_zero, List.set_cons_succ, i64_w, i32_w]
      rfl
     refine zp 16 (some 56) HT_ ?_
     refine zp 17 (some 57) HT_ ?_
     refine done_ (done_of HT_.out (by kernel_rfl)) ?_
     try go_wp2
     go_meet
     case rel => exact ⟨_, ((t1146 != t1147)), y29, H', ⟨y50⟩, ⟨(y41 HO1113.out)⟩, ⟨(y41 HO1117.out)⟩, ⟨(y67 HO1123.out)⟩, ⟨(y44 HO1130.out)⟩, ⟨(y71 HO1136.out)⟩, ⟨(y44 HO1142.out)⟩, ⟨(y0 BK1118.out)⟩, ⟨(y0 BK1119.out)⟩, ⟨(y0 BK1131.out)⟩, ⟨(y0 BK1132.out)⟩, ⟨(y0 BK1138.out)⟩, ⟨(y0 BK1144.out)⟩, ⟨(y17 HB.out GE1118.out GE1119.out GE1131.out GE1132.out GE1138.out GE1144.out)⟩⟩
    ·replace c56 := Bool.eq_false_iff.mpr c56
     subst c56
     rw [if_neg (show ¬ (false = true) by decide)] at H
     have H' := Aside0.mk H
     clear H
     try go_wp2
     have n0_ : Aside0 (Kd.V k50 50 ((w44.setCell ⟨gb1144, 0, none⟩ (.int .i64 t1139)).setCell ⟨gb1144, 1, none⟩ (.slice Ao51 t1140.length co51)) w.heap.size (fun k_ => some k_ ≠ (.slice Ao23 t1121.length co23 : Value).ownBlock ∧ some k_ ≠ (.slice Ao32 t1124.length co32 : Value).ownBlock ∧ some k_ ≠ (.slice Ao28 t1128.length co28 : Value).ownBlock ∧ some k_ ≠ (.slice Ao40 t1134.length co40 : Value).ownBlock ∧ some k_ ≠ (.slice Ao51 t1140.length co51 : Value).ownBlock ∧ k_ ≠ gb1118 ∧ k_ ≠ gb1119 ∧ k_ ≠ gb1131 ∧ k_ ≠ gb1132 ∧ k_ ≠ gb1138 ∧ k_ ≠ gb1144) (.slice Ao11 t1111.length co11) t1111) := ⟨(by (with_reducible repeat (first | apply Kd.V_alloc | apply Kd.V_drewN | apply Kd.V_drew)); exact Kd.V_mono (Kd.V_far (p := ⟨gb1144, 1, none⟩) (Kd.V_far (p := ⟨gb1144, 0, none⟩) (Kd.V_mono HO1113.out (fun k_ hk => (⟨hk, hk.2⟩ : _ ∧ k_ ≠ gb1144))) (fun _ hk => hk.2) (.int .i64 t1139)) (fun _ hk => hk.2) (.slice Ao51 t1140.length co51)) (fun _ hk => ⟨hk.1.1.1.1.1.1, ⟨hk.1.1.1.1.1.2.1, ⟨hk.1.1.1.1.1.2.2.1, ⟨hk.1.1.1.1.2, ⟨hk.1.1.2, ⟨hk.1.1.1.1.1.2.2.2.1, ⟨hk.1.1.1.1.1.2.2.2.2.1, ⟨hk.1.1.1.1.1.2.2.2.2.2.1, ⟨hk.1.1.1.1.1.2.2.2.2.2.2, ⟨hk.1.1.1.2, hk.1.2⟩⟩⟩⟩⟩⟩⟩⟩⟩⟩))⟩
     have n1_ : Aside0 (Kd.V k25 25 ((w44.setCell ⟨gb1144, 0, none⟩ (.int .i64 t1139)).setCell ⟨gb1144, 1, none⟩ (.slice Ao51 t1140.length co51)) w.heap.size (fun k_ => some k_ ≠ (.slice Ao23 t1121.length co23 : Value).ownBlock ∧ some k_ ≠ (.slice Ao32 t1124.length co32 : Value).ownBlock ∧ some k_ ≠ (.slice Ao28 t1128.length co28 : Value).ownBlock ∧ some k_ ≠ (.slice Ao40 t1134.length co40 : Value).ownBlock ∧ some k_ ≠ (.slice Ao51 t1140.length co51 : Value).ownBlock ∧ k_ ≠ gb1118 ∧ k_ ≠ gb1119 ∧ k_ ≠ gb1131 ∧ k_ ≠ gb1132 ∧ k_ ≠ gb1138 ∧ k_ ≠ gb1144) (.slice Ao15 t1115.length co15) t1115) := ⟨(by (with_reducible repeat (first | apply Kd.V_alloc | apply Kd.V_drewN | apply Kd.V_drew)); exact Kd.V_mono (Kd.V_far (p := ⟨gb1144, 1, none⟩) (Kd.V_far (p := ⟨gb1144, 0, none⟩) (Kd.V_mono HO1117.out (fun k_ hk => (⟨hk, hk.2⟩ : _ ∧ k_ ≠ gb1144))) (fun _ hk => hk.2) (.int .i64 t1139)) (fun _ hk => hk.2) (.slice Ao51 t1140.length co51)) (fun _ hk => ⟨hk.1.1.1.1.1.1, ⟨hk.1.1.1.1.1.2.1, ⟨hk.1.1.1.1.1.2.2.1, ⟨hk.1.1.1.1.2, ⟨hk.1.1.2, ⟨hk.1.1.1.1.1.2.2.2.1, ⟨hk.1.1.1.1.1.2.2.2.2.1, ⟨hk.1.1.1.1.1.2.2.2.2.2.1, ⟨hk.1.1.1.1.1.2.2.2.2.2.2, ⟨hk.1.1.1.2, hk.1.2⟩⟩⟩⟩⟩⟩⟩⟩⟩⟩))⟩
     have n2_ : Aside0 (Kd.N k25 25 ((w44.setCell ⟨gb1144, 0, none⟩ (.int .i64 t1139)).setCell ⟨gb1144, 1, none⟩ (.slice Ao51 t1140.length co51)) w.heap.size (fun k_ => some k_ ≠ (.slice Ao32 t1124.length co32 : Value).ownBlock ∧ some k_ ≠ (.slice Ao28 t1128.length co28 : Value).ownBlock ∧ some k_ ≠ (.slice Ao40 t1134.length co40 : Value).ownBlock ∧ some k_ ≠ (.slice Ao51 t1140.length co51 : Value).ownBlock ∧ k_ ≠ gb1118 ∧ k_ ≠ gb1119 ∧ k_ ≠ gb1131 ∧ k_ ≠ gb1132 ∧ k_ ≠ gb1138 ∧ k_ ≠ gb1144) (.slice Ao23 t1121.length co23) t1121) := ⟨(by (with_reducible repeat (first | apply Kd.N_alloc | apply Kd.N_drewN | apply Kd.N_drew)); exact Kd.N_mono (Kd.N_far (p := ⟨gb1144, 1, none⟩) (Kd.N_far (p := ⟨gb1144, 0, none⟩) (Kd.N_mono HO1123.out (fun k_ hk => (⟨hk, hk.2⟩ : _ ∧ k_ ≠ gb1144))) (fun _ hk => hk.2) (.int .i64 t1139)) (fun _ hk => hk.2) (.slice Ao51 t1140.length co51)) (fun _ hk => ⟨hk.1.1.1.1.1.1, ⟨hk.1.1.1.1.1.2.1, ⟨hk.1.1.1.1.2, ⟨hk.1.1.2, ⟨hk.1.1.1.1.1.2.2.1, ⟨hk.1.1.1.1.1.2.2.2.1, ⟨hk.1.1.1.1.1.2.2.2.2.1, ⟨hk.1.1.1.1.1.2.2.2.2.2, ⟨hk.1.1.1.2, hk.1.2⟩⟩⟩⟩⟩⟩⟩⟩⟩))⟩
     have n3_ : Aside0 (Kd.R (Kd.int .i64) 3 ((w44.setCell ⟨gb1144, 0, none⟩ (.int .i64 t1139)).setCell ⟨gb1144, 1, none⟩ (.slice Ao51 t1140.length co51)) w.heap.size (fun _ => True) (.slice Ao32 t1124.length co32) t1124) := ⟨(by (with_reducible repeat (first | apply Kd.R_alloc | apply Kd.R_drewN | apply Kd.R_drew)); exact Kd.R_mono (Kd.R_far (p := ⟨gb1144, 1, none⟩) (Kd.R_far (p := ⟨gb1144, 0, none⟩) (Kd.R_types HO1126.out BK1144.out (by decide)) (fun _ hk => hk.2) (.int .i64 t1139)) (fun _ hk => hk.2) (.slice Ao51 t1140.length co51)) (fun _ hk => trivial))⟩
     have n4_ : Aside0 (Kd.N k25 25 ((w44.setCell ⟨gb1144, 0, none⟩ (.int .i64 t1139)).setCell ⟨gb1144, 1, none⟩ (.slice Ao51 t1140.length co51)) w.heap.size (fun k_ => some k_ ≠ (.slice Ao23 t1121.length co23 : Value).ownBlock ∧ some k_ ≠ (.slice Ao32 t1124.length co32 : Value).ownBlock ∧ some k_ ≠ (.slice Ao40 t1134.length co40 : Value).ownBlock ∧ some k_ ≠ (.slice Ao51 t1140.length co51 : Value).ownBlock ∧ k_ ≠ gb1118 ∧ k_ ≠ gb1119 ∧ k_ ≠ gb1131 ∧ k_ ≠ gb1132 ∧ k_ ≠ gb1138 ∧ k_ ≠ gb1144) (.slice Ao28 t1128.length co28) t1128) := ⟨(by (with_reducible repeat (first | apply Kd.N_alloc | apply Kd.N_drewN | apply Kd.N_drew)); exact Kd.N_mono (Kd.N_far (p := ⟨gb1144, 1, none⟩) (Kd.N_far (p := ⟨gb1144, 0, none⟩) (Kd.N_mono HO1130.out (fun k_ hk => (⟨hk, hk.2⟩ : _ ∧ k_ ≠ gb1144))) (fun _ hk => hk.2) (.int .i64 t1139)) (fun _ hk => hk.2) (.slice Ao51 t1140.length co51)) (fun _ hk => ⟨hk.1.1.1.1.1.1, ⟨hk.1.1.1.1.1.2.1, ⟨hk.1.1.1.1.2, ⟨hk.1.1.2, ⟨hk.1.1.1.1.1.2.2.1, ⟨hk.1.1.1.1.1.2.2.2.1, ⟨hk.1.1.1.1.1.2.2.2.2.1, ⟨hk.1.1.1.1.1.2.2.2.2.2, ⟨hk.1.1.1.2, hk.1.2⟩⟩⟩⟩⟩⟩⟩⟩⟩))⟩
     have n5_ : Aside0 (Kd.N k25 25 ((w44.setCell ⟨gb1144, 0, none⟩ (.int .i64 t1139)).setCell ⟨gb1144, 1, none⟩ (.slice Ao51 t1140.length co51)) w.heap.size (fun k_ => some k_ ≠ (.slice Ao23 t1121.length co23 : Value).ownBlock ∧ some k_ ≠ (.slice Ao32 t1124.length co32 : Value).ownBlock ∧ some k_ ≠ (.slice Ao51 t1140.length co51 : Value).ownBlock ∧ k_ ≠ gb1118 ∧ k_ ≠ gb1119 ∧ k_ ≠ gb1131 ∧ k_ ≠ gb1132 ∧ k_ ≠ gb1138 ∧ k_ ≠ gb1144) (.slice Ao40 t1134.length co40) t1134) := ⟨(by (with_reducible repeat (first | apply Kd.N_alloc | apply Kd.N_drewN | apply Kd.N_drew)); exact Kd.N_mono (Kd.N_far (p := ⟨gb1144, 1, none⟩) (Kd.N_far (p := ⟨gb1144, 0, none⟩) (Kd.N_mono HO1136.out (fun k_ hk => (⟨hk, hk.2⟩ : _ ∧ k_ ≠ gb1144))) (fun _ hk => hk.2) (.int .i64 t1139)) (fun _ hk => hk.2) (.slice Ao51 t1140.length co51)) (fun _ hk => ⟨hk.1.1.1.1.1, ⟨hk.1.1.1.1.2.1, ⟨hk.1.1.2, ⟨hk.1.1.1.1.2.2.1, ⟨hk.1.1.1.1.2.2.2.1, ⟨hk.1.1.1.1.2.2.2.2.1, ⟨hk.1.1.1.1.2.2.2.2.2, ⟨hk.1.1.1.2, hk.1.2⟩⟩⟩⟩⟩⟩⟩⟩))⟩
     have n6_ : Aside0 (Kd.N k25 25 ((w44.setCell ⟨gb1144, 0, none⟩ (.int .i64 t1139)).setCell ⟨gb1144, 1, none⟩ (.slice Ao51 t1140.length co51)) w.heap.size (fun k_ => some k_ ≠ (.slice Ao23 t1121.length co23 : Value).ownBlock ∧ some k_ ≠ (.slice Ao32 t1124.length co32 : Value).ownBlock ∧ some k_ ≠ (.slice Ao28 t1128.length co28 : Value).ownBlock ∧ some k_ ≠ (.slice Ao40 t1134.length co40 : Value).ownBlock ∧ k_ ≠ gb1118 ∧ k_ ≠ gb1119 ∧ k_ ≠ gb1131 ∧ k_ ≠ gb1132 ∧ k_ ≠ gb1138 ∧ k_ ≠ gb1144) (.slice Ao51 t1140.length co51) t1140) := ⟨(by (with_reducible repeat (first | apply Kd.N_alloc | apply Kd.N_drewN | apply Kd.N_drew)); exact Kd.N_mono (Kd.N_far (p := ⟨gb1144, 1, none⟩) (Kd.N_far (p := ⟨gb1144, 0, none⟩) (Kd.N_mono HO1142.out (fun k_ hk => (⟨hk, hk.2⟩ : _ ∧ k_ ≠ gb1144))) (fun _ hk => hk.2) (.int .i64 t1139)) (fun _ hk => hk.2) (.slice Ao51 t1140.length co51)) (fun _ hk => ⟨hk.1.1.1, ⟨hk.1.1.2.1, ⟨hk.1.1.2.2.1, ⟨hk.1.1.2.2.2.1, ⟨hk.1.1.2.2.2.2.1, ⟨hk.1.1.2.2.2.2.2.1, ⟨hk.1.1.2.2.2.2.2.2.1, ⟨hk.1.1.2.2.2.2.2.2.2.1, ⟨hk.1.1.2.2.2.2.2.2.2.2, hk.1.2⟩⟩⟩⟩⟩⟩⟩⟩⟩))⟩
     have n7_ : Aside0 (((w44.setCell ⟨gb1144, 0, none⟩ (.int .i64 t1139)).setCell ⟨gb1144, 1, none⟩ (.slice Ao51 t1140.length co51)).heap[gb1118]? = some (.cells #[.slice Ao11 t1111.length co11] 50 (0, 0))) := ⟨(y1 NB1118_1144.out BK1118.out)⟩
     have n8_ : Aside0 (((w44.setCell ⟨gb1144, 0, none⟩ (.int .i64 t1139)).setCell ⟨gb1144, 1, none⟩ (.slice Ao51 t1140.length co51)).heap[gb1119]? = some (.cells #[.int .i64 t1114, .slice Ao15 t1115.length co15] 25 (0, 0))) := ⟨(y1 NB1119_1144.out BK1119.out)⟩
     have n9_ : Aside0 (((w44.setCell ⟨gb1144, 0, none⟩ (.int .i64 t1139)).setCell ⟨gb1144, 1, none⟩ (.slice Ao51 t1140.length co51)).heap[gb1131]? = some (.cells #[.int .i64 t1120, .slice Ao23 t1121.length co23] 25 (0, 0))) := ⟨(y1 NB1131_1144.out BK1131.out)⟩
     have n10_ : Aside0 (((w44.setCell ⟨gb1144, 0, none⟩ (.int .i64 t1139)).setCell ⟨gb1144, 1, none⟩ (.slice Ao51 t1140.length co51)).heap[gb1132]? = some (.cells #[.int .i64 t1127, .slice Ao28 t1128.length co28] 25 (0, 0))) := ⟨(y1 NB1132_1144.out BK1132.out)⟩
     have n11_ : Aside0 (((w44.setCell ⟨gb1144, 0, none⟩ (.int .i64 t1139)).setCell ⟨gb1144, 1, none⟩ (.slice Ao51 t1140.length co51)).heap[gb1138]? = some (.cells #[.int .i64 t1133, .slice Ao40 t1134.length co40] 25 (0, 0))) := ⟨(y1 NB1138_1144.out BK1138.out)⟩
     have n12_ : Aside0 (((w44.setCell ⟨gb1144, 0, none⟩ (.int .i64 t1139)).setCell ⟨gb1144, 1, none⟩ (.slice Ao51 t1140.length co51)).heap[gb1144]? = some (.cells #[.int .i64 t1139, .slice Ao51 t1140.length co51] 25 (0, 0))) := ⟨(by (with_reducible repeat (first | refine blk_drewN ?_ _ | refine blk_drew ?_ | refine blk_alloc ?_ _)); refine blk_put (cs := #[.int .i64 t1139, .slice none 0 0]) ?_ 1 _ rfl; (with_reducible repeat (first | refine blk_drewN ?_ _ | refine blk_drew ?_ | refine blk_alloc ?_ _)); refine blk_put (cs := #[.int .i64 0, .slice none 0 0]) ?_ 0 _ rfl; (with_reducible repeat (first | refine blk_drewN ?_ _ | refine blk_drew ?_ | refine blk_alloc ?_ _)); exact BK1144.out)⟩
     have n13_ : Aside0 (Below w.heap.size w ((w44.setCell ⟨gb1144, 0, none⟩ (.int .i64 t1139)).setCell ⟨gb1144, 1, none⟩ (.slice Ao51 t1140.length co51))) := ⟨(y17 HB.out GE1118.out GE1119.out GE1131.out GE1132.out GE1138.out GE1144.out)⟩
     (try clear HO1113)
     (try clear HO1117)
     (try clear HO1123)
     (try clear HO1126)
     (try clear HO1130)
     (try clear HO1136)
     (try clear HO1142)
     (try clear BK1118)
     (try clear BK1119)
     (try clear BK1131)
     (try clear BK1132)
     (try clear BK1138)
     (try clear BK1144)
     (try clear HB)
     generalize ((w44.setCell ⟨gb1144, 0, none⟩ (.int .i64 t1139)).setCell ⟨gb1144, 1, none⟩ (.slice Ao51 t1140.length co51)) = w64 at n0_ n1_ n2_ n3_ n4_ n5_ n6_ n7_ n8_ n9_ n10_ n11_ n12_ n13_ ⊢
     have HO1113 := n0_
     have HO1117 := n1_
     have HO1123 := n2_
     have HO1126 := n3_
     have HO1130 := n4_
     have HO1136 := n5_
     have HO1142 := n6_
     have BK1118 := n7_
     have BK1119 := n8_
     have BK1131 := n9_
     have BK1132 := n10_
     have BK1138 := n11_
     have BK1144 := n12_
     have HB := n13_
     clear n0_ n1_ n2_ n3_ n4_ n5_ n6_ n7_ n8_ n9_ n10_ n11_ n12_ n13_
     replace HO1113 := Aside0.mk (Kd.V_drew HO1113.out)
     replace HO1117 := Aside0.mk (Kd.V_drew HO1117.out)
     replace HO1123 := Aside0.mk (Kd.N_drew HO1123.out)
     replace HO1126 := Aside0.mk (Kd.R_drew HO1126.out)
     replace HO1130 := Aside0.mk (Kd.N_drew HO1130.out)
     replace HO1136 := Aside0.mk (Kd.N_drew HO1136.out)
     replace HO1142 := Aside0.mk (Kd.N_drew HO1142.out)
     replace BK1118 := Aside0.mk (blk_drew BK1118.out)
     replace BK1119 := Aside0.mk (blk_drew BK1119.out)
     replace BK1131 := Aside0.mk (blk_drew BK1131.out)
     replace BK1132 := Aside0.mk (blk_drew BK1132.out)
     replace BK1138 := Aside0.mk (blk_drew BK1138.out)
     replace BK1144 := Aside0.mk (blk_drew BK1144.out)
     replace HB := Aside0.mk (below_drew1 HB.out)
     refine start_ (n := 18) (S := fun w' => w'.cell? ⟨gb1138, 0, none⟩ = some (.int .i64 t1133) ∧ w'.cell? ⟨gb1138, 1, none⟩ = some (.slice Ao40 t1134.length co40) ∧ w'.cell? ⟨gb1144, 0, none⟩ = some (.int .i64 t1139) ∧ w'.cell? ⟨gb1144, 1, none⟩ = some (.slice Ao51 t1140.length co51)) (ds := []) #[false, false, false, false, false, false, false, false, false, false, false, false, false, false, false, false, false, false] (by kernel_rfl) rfl rfl ⟨(blk_cell BK1138.out 0).trans rfl, (blk_cell BK1138.out 1).trans rfl, (blk_cell BK1144.out 0).trans rfl, (blk_cell BK1144.out 1).trans rfl⟩ (fun hHeld => ?_); refine with_tabW laws_FnValType.tab7 laws_FnValType.bits7 (fun HT_ HW_ => ?_)
     generalize w64.drew = w65 at HO1113 HO1117 HO1123 HO1126 HO1130 HO1136 HO1142 BK1118 BK1119 BK1131 BK1132 BK1138 BK1144 HB hHeld ⊢
     refine zp 0 (some 40) HT_ ?_
     refine zp 1 (some 41) HT_ ?_
     refine zp 2 (some 42) HT_ ?_
     refine zp 3 (some 43) HT_ ?_
     refine zt4 4 (some 44) HT_ HW_ hHeld ?_
     refine zt4 5 (some 45) HT_ HW_ hHeld ?_
     refine one_ (i := 6) (N := some 46) #[true, true, true, true, true, true, true, false, false, false, false, false, false, false, false, false, false, false] rfl rfl (one_of HT_.out (by kernel_rfl)) (by decide) (fun K hK => ?_)
     refine goes_ Try.func15 (by kernel_rfl) rfl #[.agg #[.int .i64 t1133, .slice Ao40 t1134.length co40], .agg #[.int .i64 t1139, .slice Ao51 t1140.length co51]] (by rfl) rfl rfl y9 ?_
     with_reducible refine (laws_lhVal.calls k t1133 _ _ t1134 t1139 _ _ t1140 false _ ?side1 ?side2 ?side3 ?side4 A55.out).mono ?_
     (case side1 => exact y36 HO1136.out)
     (case side2 => exact (Kd.N_reads' HO1136.out).2.1)
     (case side3 => exact y36 HO1142.out)
     (case side4 => exact (Kd.N_reads' HO1142.out).2.1)
     rintro e w66 ⟨rfl, hb⟩
     refine ⟨_, rfl, ?_⟩
     replace HO1113 := Aside0.mk (Kd.V_below (y11 HO1113.out) hb)
     replace HO1117 := Aside0.mk (Kd.V_below (y11 HO1117.out) hb)
     replace HO1123 := Aside0.mk (Kd.N_below (y2 HO1123.out) hb)
     replace HO1126 := Aside0.mk (Kd.R_below (y8 HO1126.out) hb)
     replace HO1130 := Aside0.mk (Kd.N_below (y2 HO1130.out) hb)
     replace HO1136 := Aside0.mk (Kd.N_below (y2 HO1136.out) hb)
     replace HO1142 := Aside0.mk (Kd.N_below (y2 HO1142.out) hb)
     replace BK1118 := zbb BK1118 hb
     replace BK1119 := zbb BK1119 hb
     replace BK1131 := zbb BK1131 hb
     replace BK1132 := zbb BK1132 hb
     replace BK1138 := zbb BK1138 hb
     replace BK1144 := zbb BK1144 hb
     replace HB := Aside0.mk (below_step (y17 HB.out GE1118.out GE1119.out GE1131.out GE1132.out GE1138.out GE1144.out) hb)
     (try clear hb)
     (try clear hb2)
     (try clear hk)
     (try clear hi)
     refine hK.out _ _ ⟨(blk_cell BK1138.out 0).trans rfl, (blk_cell BK1138.out 1).trans rfl, (blk_cell BK1144.out 0).trans rfl, (blk_cell BK1144.out 1).trans rfl⟩ (fun hHeld => ?_)
     clear hK K
     refine norm_ (a' := ?_) ?_ ?_
     rotate_left
     ·show Act.put _ (some 46) _ = _
      simp only [Act.put, List.setIfInBounds_toArray, List.set_cons_zero, List.set_cons_succ, i64_w, i32_w]
      rfl
     refine zp 7 (some 47) HT_ ?_
     refine zp 8 (some 48) HT_ ?_
     refine zp 9 (some 49) HT_ ?_
     refine pure_ (i := 10) (N := some 50) (v := undef) (a' := ?_) #[true, true, true, true, true, true, true, true, true, true, true, false, false, false, false, false, false, false] rfl rfl (any_of HT_.out (by kernel_rfl)) (fun _ _ _ h => h) (Or.inr ⟨(by rfl), rfl⟩) ?_ ?_
     rotate_left
     ·simp only [Act.put, List.setIfInBounds_toArray, List.set_cons_zero, List.set_cons_succ, i64_w, i32_w]
      rfl
     refine pure_ (i := 11) (N := some 51) (v := undef) (a' := ?_) #[true, true, true, true, true, true, true, true, true, true, true, true, false, false, false, false, false, false] rfl rfl (any_of HT_.out (by kernel_rfl)) (fun _ _ _ h => h) (Or.inr ⟨(by rfl), rfl⟩) ?_ ?_
     rotate_left
     ·simp only [Act.put, List.setIfInBounds_toArray, List.set_cons_zero, List.set_cons_succ, i64_w, i32_w]
      rfl
     refine pure_ (i := 12) (N := some 52) (v := undef) (a' := ?_) #[true, true, true, true, true, true, true, true, true, true, true, true, true, false, false, false, false, false] rfl rfl (any_of HT_.out (by kernel_rfl)) (fun _ _ _ h => h) (Or.inr ⟨(by rfl), rfl⟩) ?_ ?_
     rotate_left
     ·simp only [Act.put, List.setIfInBounds_toArray, List.set_cons_zero, List.set_cons_succ, i64_w, i32_w]
      rfl
     refine pure_ (i := 13) (N := some 53) (v := undef) (a' := ?_) #[true, true, true, true, true, true, true, true, true, true, true, true, true, true, false, false, false, false] rfl rfl (any_of HT_.out (by kernel_rfl)) (fun _ _ _ h => h) (Or.inr ⟨(by rfl), rfl⟩) ?_ ?_
     rotate_left
     ·simp only [Act.put, List.setIfInBounds_toArray, List.set_cons_zero, List.set_cons_succ, i64_w, i32_w]
      rfl
     refine pure_ (i := 14) (N := some 54) (v := undef) (a' := ?_) #[true, true, true, true, true, true, true, true, true, true, true, true, true, true, true, false, false, false] rfl rfl (any_of HT_.out (by kernel_rfl)) (fun _ _ _ h => h) (Or.inr ⟨(by rfl), rfl⟩) ?_ ?_
     rotate_left
     ·simp only [Act.put, List.setIfInBounds_toArray, List.set_cons_zero, List.set_cons_succ, i64_w, i32_w]
      rfl
     refine pure_ (i := 15) (N := some 55) (v := undef) (a' := ?_) #[true, true, true, true, true, true, true, true, true, true, true, true, true, true, true, true, false, false] rfl rfl (any_of HT_.out (by kernel_rfl)) (fun _ _ _ h => h) (Or.inr ⟨(by rfl), rfl⟩) ?_ ?_
     rotate_left
     ·simp only [Act.put, List.setIfInBounds_toArray, List.set_cons_zero, List.set_cons_succ, i64_w, i32_w]
      rfl
     refine pure_ (i := 16) (N := some 56) (v := undef) (a' := ?_) #[true, true, true, true, true, true, true, true, true, true, true, true, true, true, true, true, true, false] rfl rfl (any_of HT_.out (by kernel_rfl)) (fun _ _ _ h => h) (Or.inr ⟨(by rfl), rfl⟩) ?_ ?_
     rotate_left
     ·simp only [Act.put, List.setIfInBounds_toArray, List.set_cons_zero, List.set_cons_succ, i64_w, i32_w]
      rfl
     refine zp 17 (some 57) HT_ ?_
     refine done_ (done_of HT_.out (by kernel_rfl)) ?_
     try go_wp2
     go_meet
     case rel => exact ⟨_, (true), y29, H', ⟨y50⟩, ⟨(y41 HO1113.out)⟩, ⟨(y41 HO1117.out)⟩, ⟨(y67 HO1123.out)⟩, ⟨(y44 HO1130.out)⟩, ⟨(y71 HO1136.out)⟩, ⟨(y44 HO1142.out)⟩, ⟨(y0 BK1118.out)⟩, ⟨(y0 BK1119.out)⟩, ⟨(y0 BK1131.out)⟩, ⟨(y0 BK1132.out)⟩, ⟨(y0 BK1138.out)⟩, ⟨(y0 BK1144.out)⟩, ⟨(y17 HB.out GE1118.out GE1119.out GE1131.out GE1132.out GE1138.out GE1144.out)⟩⟩
  case rest =>
   clear HC7
   try clear c1
   try clear c2
   try clear p2
   try clear c5
   try clear c15
   try clear c28
   try clear c29
   try clear c56
   obtain ⟨kq, x57_6, rfl, HA, HJ6, HO_1119000, HO_1120001, HO_1132001, HO_1133001, HO_1139001, HO_1145001, BK1118, BK1119, BK1131, BK1132, BK1138, BK1144, HB⟩ := hcut
   cases kq with
   | zero => exact absurd HA.out (by simp [laws_FnValType.j0])
   | succ kj6 =>
    have H := HA.out
    clear HA
    simp only [laws_FnValType.j0] at H
    by_cases c67 : x57_6 = true
    ·subst c67
     rw [if_pos rfl] at H
     exact absurd ((Option.some.inj H).trans hr_.out) (by decide)
    ·replace c67 := Bool.eq_false_iff.mpr c67
     subst c67
     rw [if_neg (show ¬ (false = true) by decide)] at H
     by_cases c68 : t1137 = true
     ·subst c68
      rw [if_pos rfl] at H
      obtain ⟨t1148, A690, H⟩ := ob H
      have A69 := Aside0.mk A690
      clear A690
      obtain ⟨t1149, A700, H⟩ := ob H
      have A70 := Aside0.mk A700
      clear A700
      clear hr_
      obtain rfl := Option.some.inj H
      try go_wp2
      replace HO_1119000 := Aside0.mk (Kd.V_drew HO_1119000.out)
      replace HO_1120001 := Aside0.mk (Kd.V_drew HO_1120001.out)
      replace HO_1132001 := Aside0.mk (Kd.N_drew HO_1132001.out)
      replace HO_1133001 := Aside0.mk (Kd.N_drew HO_1133001.out)
      replace HO_1139001 := Aside0.mk (Kd.N_drew HO_1139001.out)
      replace HO_1145001 := Aside0.mk (Kd.N_drew HO_1145001.out)
      replace BK1118 := Aside0.mk (blk_drew BK1118.out)
      replace BK1119 := Aside0.mk (blk_drew BK1119.out)
      replace BK1131 := Aside0.mk (blk_drew BK1131.out)
      replace BK1132 := Aside0.mk (blk_drew BK1132.out)
      replace BK1138 := Aside0.mk (blk_drew BK1138.out)
      replace BK1144 := Aside0.mk (blk_drew BK1144.out)
      replace HB := Aside0.mk (below_drew1 HB.out)
      refine start_ (n := 12) (S := fun w' => w'.cell? ⟨gb1118, 0, none⟩ = some (.slice Ao11 t1111.length co11) ∧ w'.cell? ⟨gb1138, 0, none⟩ = some (.int .i64 t1133) ∧ w'.cell? ⟨gb1138, 1, none⟩ = some (.slice Ao40 t1134.length co40) ∧ w'.cell? ⟨gb1119, 0, none⟩ = some (.int .i64 t1114) ∧ w'.cell? ⟨gb1119, 1, none⟩ = some (.slice Ao15 t1115.length co15)) (ds := []) #[false, false, false, false, false, false, false, false, false, false, false, false] (by kernel_rfl) rfl rfl ⟨(blk_cell BK1118.out 0).trans rfl, (blk_cell BK1138.out 0).trans rfl, (blk_cell BK1138.out 1).trans rfl, (blk_cell BK1119.out 0).trans rfl, (blk_cell BK1119.out 1).trans rfl⟩ (fun hHeld => ?_); refine with_tabW laws_FnValType.tab9 laws_FnValType.bits9 (fun HT_ HW_ => ?_)
      generalize wc.drew = w71 at HO_1119000 HO_1120001 HO_1132001 HO_1133001 HO_1139001 HO_1145001 BK1118 BK1119 BK1131 BK1132 BK1138 BK1144 HB hHeld ⊢
      refine zp 0 (some 58) HT_ ?_
      refine zp 1 (some 59) HT_ ?_
      refine zp 2 (some 60) HT_ ?_
      refine zt5 3 (some 61) HT_ HW_ hHeld ?_
      refine zt5 4 (some 62) HT_ HW_ hHeld ?_
      refine zt5 6 (some 64) HT_ HW_ hHeld ?_
      refine zt5 7 (some 65) HT_ HW_ hHeld ?_
      refine one_ (i := 5) (N := some 63) #[true, true, true, true, true, true, true, true, false, false, false, false] rfl rfl (one_of HT_.out (by kernel_rfl)) (by decide) (fun K hK => ?_)
      refine goes_ Try.func28 (by kernel_rfl) rfl #[.agg #[.slice Ao11 t1111.length co11], .agg #[.int .i64 t1133, .slice Ao40 t1134.length co40]] (by rfl) rfl rfl y9 ?_
      with_reducible refine (impl_ValOk.calls kj6 _ _ t1111 t1133 _ _ t1134 t1148 _ ?side1 ?side2 ?side3 ?side4 A69.out).mono ?_
      (case side1 => exact y33 HO_1119000.out)
      (case side2 => exact (Kd.V_reads' HO_1119000.out).2.1)
      (case side3 => exact y36 HO_1139001.out)
      (case side4 => exact (Kd.N_reads' HO_1139001.out).2.1)
      rintro e w72 ⟨rfl, hb⟩
      refine ⟨_, rfl, ?_⟩
      replace HO_1119000 := Aside0.mk (Kd.V_below (y11 HO_1119000.out) hb)
      replace HO_1120001 := Aside0.mk (Kd.V_below (y11 HO_1120001.out) hb)
      replace HO_1132001 := Aside0.mk (Kd.N_below (y2 HO_1132001.out) hb)
      replace HO_1133001 := Aside0.mk (Kd.N_below (y2 HO_1133001.out) hb)
      replace HO_1139001 := Aside0.mk (Kd.N_below (y2 HO_1139001.out) hb)
      replace HO_1145001 := Aside0.mk (Kd.N_below (y2 HO_1145001.out) hb)
      replace BK1118 := zbb BK1118 hb
      replace BK1119 := zbb BK1119 hb
      replace BK1131 := zbb BK1131 hb
      replace BK1132 := zbb BK1132 hb
      replace BK1138 := zbb BK1138 hb
      replace BK1144 := zbb BK1144 hb
      replace HB := Aside0.mk (below_step (y17 HB.out GE1118.out GE1119.out GE1131.out GE1132.out GE1138.out GE1144.out) hb)
      (try clear hb)
      (try clear hb2)
      (try clear hk)
      (try clear hi)
      refine hK.out _ _ ⟨(blk_cell BK1118.out 0).trans rfl, (blk_cell BK1138.out 0).trans rfl, (blk_cell BK1138.out 1).trans rfl, (blk_cell BK1119.out 0).trans rfl, (blk_cell BK1119.out 1).trans rfl⟩ (fun hHeld => ?_)
      clear hK K
      refine norm_ (a' := ?_) ?_ ?_
      rotate_left
      ·show Act.put _ (some 63) _ = _
       simp only [Act.put, List.setIfInBounds_toArray, List.set_cons_zero, List.set_cons_succ, i64_w, i32_w]
       rfl
      refine one_ (i := 8) (N := some 66) #[true, true, true, true, true, true, true, true, true, false, false, false] rfl rfl (one_of HT_.out (by kernel_rfl)) (by decide) (fun K hK => ?_)
      refine goes_ Try.func28 (by kernel_rfl) rfl #[.agg #[.slice Ao11 t1111.length co11], .agg #[.int .i64 t1114, .slice Ao15 t1115.length co15]] (by rfl) rfl rfl y9 ?_
      with_reducible refine (impl_ValOk.calls kj6 _ _ t1111 t1114 _ _ t1115 t1149 _ ?side1 ?side2 ?side3 ?side4 A70.out).mono ?_
      (case side1 => exact y33 HO_1119000.out)
      (case side2 => exact (Kd.V_reads' HO_1119000.out).2.1)
      (case side3 => exact y33 HO_1120001.out)
      (case side4 => exact (Kd.V_reads' HO_1120001.out).2.1)
      rintro e w73 ⟨rfl, hb⟩
      refine ⟨_, rfl, ?_⟩
      replace HO_1119000 := Aside0.mk (Kd.V_below (y11 HO_1119000.out) hb)
      replace HO_1120001 := Aside0.mk (Kd.V_below (y11 HO_1120001.out) hb)
      replace HO_1132001 := Aside0.mk (Kd.N_below (y2 HO_1132001.out) hb)
      replace HO_1133001 := Aside0.mk (Kd.N_below (y2 HO_1133001.out) hb)
      replace HO_1139001 := Aside0.mk (Kd.N_below (y2 HO_1139001.out) hb)
      replace HO_1145001 := Aside0.mk (Kd.N_below (y2 HO_1145001.out) hb)
      replace BK1118 := zbb BK1118 hb
      replace BK1119 := zbb BK1119 hb
      replace BK1131 := zbb BK1131 hb
      replace BK1132 := zbb BK1132 hb
      replace BK1138 := zbb BK1138 hb
      replace BK1144 := zbb BK1144 hb
      replace HB := Aside0.mk (below_step (y17 HB.out GE1118.out GE1119.out GE1131.out GE1132.out GE1138.out GE1144.out) hb)
      (try clear hb)
      (try clear hb2)
      (try clear hk)
      (try clear hi)
      refine hK.out _ _ ⟨(blk_cell BK1118.out 0).trans rfl, (blk_cell BK1138.out 0).trans rfl, (blk_cell BK1138.out 1).trans rfl, (blk_cell BK1119.out 0).trans rfl, (blk_cell BK1119.out 1).trans rfl⟩ (fun hHeld => ?_)
      clear hK K
      refine norm_ (a' := ?_) ?_ ?_
      rotate_left
      ·show Act.put _ (some 66) _ = _
       simp only [Act.put, List.setIfInBounds_toArray, List.set_cons_zero, List.set_cons_succ, i64_w, i32_w]
       rfl
      refine zp 9 (some 67) HT_ ?_
      refine zp 10 (some 68) HT_ ?_
      refine zp 11 (some 2) HT_ ?_
      refine done_ (done_of HT_.out (by kernel_rfl)) ?_
      try go_wp2
      go_ret
      exact ⟨y15, (y17 HB.out GE1118.out GE1119.out GE1131.out GE1132.out GE1138.out GE1144.out)⟩
     ·replace c68 := Bool.eq_false_iff.mpr c68
      subst c68
      rw [if_neg (show ¬ (false = true) by decide)] at H
      clear hr_
      obtain rfl := Option.some.inj H
      try go_wp2
      replace HO_1119000 := Aside0.mk (Kd.V_drew HO_1119000.out)
      replace HO_1120001 := Aside0.mk (Kd.V_drew HO_1120001.out)
      replace HO_1132001 := Aside0.mk (Kd.N_drew HO_1132001.out)
      replace HO_1133001 := Aside0.mk (Kd.N_drew HO_1133001.out)
      replace HO_1139001 := Aside0.mk (Kd.N_drew HO_1139001.out)
      replace HO_1145001 := Aside0.mk (Kd.N_drew HO_1145001.out)
      replace BK1118 := Aside0.mk (blk_drew BK1118.out)
      replace BK1119 := Aside0.mk (blk_drew BK1119.out)
      replace BK1131 := Aside0.mk (blk_drew BK1131.out)
      replace BK1132 := Aside0.mk (blk_drew BK1132.out)
      replace BK1138 := Aside0.mk (blk_drew BK1138.out)
      replace BK1144 := Aside0.mk (blk_drew BK1144.out)
      replace HB := Aside0.mk (below_drew1 HB.out)
      refine start_ (n := 12) (S := fun w' => True) (ds := []) #[false, false, false, false, false, false, false, false, false, false, false, false] (by kernel_rfl) rfl rfl trivial (fun hHeld => ?_); refine with_tabW laws_FnValType.tab9 laws_FnValType.bits9 (fun HT_ HW_ => ?_)
      generalize wc.drew = w74 at HO_1119000 HO_1120001 HO_1132001 HO_1133001 HO_1139001 HO_1145001 BK1118 BK1119 BK1131 BK1132 BK1138 BK1144 HB hHeld ⊢
      refine zp 0 (some 58) HT_ ?_
      refine zp 1 (some 59) HT_ ?_
      refine zp 2 (some 60) HT_ ?_
      refine pure_ (i := 3) (N := some 61) (v := undef) (a' := ?_) #[true, true, true, true, false, false, false, false, false, false, false, false] rfl rfl (any_of HT_.out (by kernel_rfl)) (fun _ _ _ h => h) (Or.inr ⟨(by rfl), rfl⟩) ?_ ?_
      rotate_left
      ·simp only [Act.put, List.setIfInBounds_toArray, List.set_cons_zero, List.set_cons_succ, i64_w, i32_w]
       rfl
      refine pure_ (i := 4) (N := some 62) (v := undef) (a' := ?_) #[true, true, true, true, true, false, false, false, false, false, false, false] rfl rfl (any_of HT_.out (by kernel_rfl)) (fun _ _ _ h => h) (Or.inr ⟨(by rfl), rfl⟩) ?_ ?_
      rotate_left
      ·simp only [Act.put, List.setIfInBounds_toArray, List.set_cons_zero, List.set_cons_succ, i64_w, i32_w]
       rfl
      refine pure_ (i := 5) (N := some 63) (v := undef) (a' := ?_) #[true, true, true, true, true, true, false, false, false, false, false, false] rfl rfl (any_of HT_.out (by kernel_rfl)) (fun _ _ _ h => h) (Or.inr ⟨(by rfl), rfl⟩) ?_ ?_
      rotate_left
      ·simp only [Act.put, List.setIfInBounds_toArray, List.set_cons_zero, List.set_cons_succ, i64_w, i32_w]
       rfl
      refine pure_ (i := 6) (N := some 64) (v := undef) (a' := ?_) #[true, true, true, true, true, true, true, false, false, false, false, false] rfl rfl (any_of HT_.out (by kernel_rfl)) (fun _ _ _ h => h) (Or.inr ⟨(by rfl), rfl⟩) ?_ ?_
      rotate_left
      ·simp only [Act.put, List.setIfInBounds_toArray, List.set_cons_zero, List.set_cons_succ, i64_w, i32_w]
       rfl
      refine pure_ (i := 7) (N := some 65) (v := undef) (a' := ?_) #[true, true, true, true, true, true, true, true, false, false, false, false] rfl rfl (any_of HT_.out (by kernel_rfl)) (fun _ _ _ h => h) (Or.inr ⟨(by rfl), rfl⟩) ?_ ?_
      rotate_left
      ·simp only [Act.put, List.setIfInBounds_toArray, List.set_cons_zero, List.set_cons_succ, i64_w, i32_w]
       rfl
      refine pure_ (i := 8) (N := some 66) (v := undef) (a' := ?_) #[true, true, true, true, true, true, true, true, true, false, false, false] rfl rfl (any_of HT_.out (by kernel_rfl)) (fun _ _ _ h => h) (Or.inr ⟨(by rfl), rfl⟩) ?_ ?_
      rotate_left
      ·simp only [Act.put, List.setIfInBounds_toArray, List.set_cons_zero, List.set_cons_succ, i64_w, i32_w]
       rfl
      refine pure_ (i := 9) (N := some 67) (v := undef) (a' := ?_) #[true, true, true, true, true, true, true, true, true, true, false, false] rfl rfl (any_of HT_.out (by kernel_rfl)) (fun _ _ _ h => h) (Or.inr ⟨(by rfl), rfl⟩) ?_ ?_
      rotate_left
      ·simp only [Act.put, List.setIfInBounds_toArray, List.set_cons_zero, List.set_cons_succ, i64_w, i32_w]
       rfl
      refine zp 10 (some 68) HT_ ?_
      refine zp 11 (some 2) HT_ ?_
      refine done_ (done_of HT_.out (by kernel_rfl)) ?_
      try go_wp2
      go_ret
      exact ⟨y15, (y17 HB.out GE1118.out GE1119.out GE1131.out GE1132.out GE1138.out GE1144.out)⟩
def laws_FnValType.Pure : Prop := ∀ (l0 : List Int), l0.length ≤ maxLen → l0.length * 1 ≤ 140737488351232 → (∀ x ∈ l0, (Lit.int .u8 x).wf = true) → ∃ k, laws_FnValType.f k l0 = some true
theorem laws_FnValType.walk (P : laws_FnValType.Pure) (a0 : Option Addr) (len0 cap0 : Nat) (z0 : List Int) (w : World) (w0 : (a0 = none ∧ len0 = 0 ∧ cap0 = 0 ∧ z0 = []) ∨ ∃ x, a0 = some x ∧ len0 ≤ cap0 ∧ cap0 ≤ maxLen ∧ z0.length = cap0 ∧ (∀ i, i < z0.length → w.cell? (x.add i) = some (.int .u8 (z0.getD i 0))) ∧ ∀ n ∈ z0, (Lit.int .u8 n).wf = true) (y0 : len0 * 1 ≤ 140737488351232) :
  Calls Try.prog 11 #[.slice a0 len0 cap0] w fun e w' => e = .returned (.bool true) ∧ Below w.heap.size w w' := by
 obtain ⟨l0, rfl, hr0, hm0, hw0, hc0⟩ := ReadsInt.ofRowC w0
 obtain ⟨k, h⟩ := P l0 hm0 y0 hw0
 refine (laws_FnValType.calls k _ _ l0 true w (Kd.C_of_reads (d := (0 : Int)) (h1 := fun _ => rfl) hr0) hc0 h ⟨rfl⟩).mono ?_
 rintro e w' ⟨rfl, hd⟩
 exact ⟨rfl, hd⟩
end Go.Proofs.Ythfflieeifakdaa.PA
end
section
namespace Go.Proofs.Ythfflieeifakdaa.Draw
open Go.RowKit Go.Proofs.Ythfflieeifakdaa.PA Go.Proofs.YthfflieeifakdaaW.PrintWords Go.Proofs.YthfflieeifakdaaW.PrintLast
def Bytes (s : List Int) : Prop := s.length ≤ 2000 ∧ ∀ x ∈ s, 0 ≤ x ∧ x ≤ 255
theorem rd_byte {s : List Int} (h : Bytes s) (i : Int) : 0 ≤ rd s i ∧ rd s i ≤ 255 := by
  unfold rd
  rw [List.getD_eq_getElem?_getD]
  cases e : s[i.toNat]? with
  | none => simp
  | some x => exact h.2 x (List.mem_of_getElem? e)
theorem w64 {x : Int} (h0 : -9223372036854775808 ≤ x) (h1 : x ≤ 9223372036854775807) : wrap64 x = x := by unfold wrap64; omega
theorem w01 : wrap64 (0 + 1) = 1 := by rw [w64 (by omega) (by omega)]; rfl
theorem w12 : wrap64 (1 + 1) = 2 := by rw [w64 (by omega) (by omega)]; rfl
theorem xor_nonneg (a b : Nat) (ha : a < 2 ^ 62) (hb : b < 2 ^ 62) : 0 ≤ Go.bits .xor .i64 a b := by
  have hp : (2 : Nat) ^ 62 ≤ 2 ^ IntKind.i64.bits := Nat.pow_le_pow_right (by decide) (by decide)
  have ha' : a % 2 ^ IntKind.i64.bits = a := Nat.mod_eq_of_lt (Nat.lt_of_lt_of_le ha hp)
  have hb' : b % 2 ^ IntKind.i64.bits = b := Nat.mod_eq_of_lt (Nat.lt_of_lt_of_le hb hp)
  simp only [Go.bits, BitVec.ofInt_natCast, BitVec.toNat_xor, BitVec.toNat_ofNat, ha', hb']
  rw [IntKind.wrap_i64]
  have := Nat.xor_lt_two_pow ha hb
  omega
theorem xor_nonneg' (x y : Int) (hx : 0 ≤ x) (hx1 : x < 4611686018427387904) (hy : 0 ≤ y) (hy1 : y < 4611686018427387904) : 0 ≤ Go.bits .xor .i64 x y := by
  obtain ⟨a, rfl⟩ := Int.eq_ofNat_of_zero_le hx
  obtain ⟨b, rfl⟩ := Int.eq_ofNat_of_zero_le hy
  exact xor_nonneg a b (by omega) (by omega)
theorem tmod_range (x n : Int) (hx : 0 ≤ x) (hn : 1 ≤ n) : 0 ≤ Int.tmod x n ∧ Int.tmod x n < n := by
  rw [Int.tmod_eq_emod_of_nonneg hx]
  exact ⟨Int.emod_nonneg _ (by omega), Int.emod_lt_of_pos _ (by omega)⟩
theorem tdiv_range (x n : Int) (hx : 0 ≤ x) (hn : 1 ≤ n) : 0 ≤ Int.tdiv x n ∧ Int.tdiv x n ≤ x := by
  rw [Int.tdiv_eq_ediv_of_nonneg hx]
  exact ⟨Int.ediv_nonneg hx (by omega), Int.ediv_le_self _ hx⟩
theorem pick_ev (s : List Int) (hs : Bytes s) (p n : Int) (hp : 0 ≤ p) (hp1 : p ≤ 1099511627776) (hn : 1 ≤ n) :
    ∃ r, (∀ k, 2 ≤ k → spec_l6Rd_pick.f k s p n = some (r, p + 1)) ∧ 0 ≤ r ∧ r < n := by
  have e1 : wrap64 (p + 1) = p + 1 := w64 (by omega) (by omega)
  have e2 : wrap64 (p + 1 - 1) = p := by rw [w64 (by omega) (by omega)]; omega
  by_cases h0 : (s.length : Int) = 0
  · refine ⟨0, fun k hk => ?_, by omega, by omega⟩
    obtain ⟨k, rfl⟩ : ∃ m, k = m + 1 := ⟨k - 1, by omega⟩
    simp only [spec_l6Rd_pick.f]
    rw [if_neg (by omega), e1, show ((s.length : Int) == 0) = true from beq_iff_eq.2 h0]
    simp only [spec_l6Rd_pick.j0, if_true]
  have hl : 0 < s.length := by omega
  have hl2 := hs.1
  have hb : ((s.length : Int) == 0) = false := by simpa using h0
  by_cases hlt : p < (s.length : Int)
  · have hr := rd_byte hs p
    have hq := tmod_range (rd s p) n hr.1 hn
    refine ⟨_, fun k hk => ?_, hq.1, hq.2⟩
    obtain ⟨k, rfl⟩ : ∃ m, k = m + 1 := ⟨k - 1, by omega⟩
    simp only [spec_l6Rd_pick.f]
    rw [if_neg (by omega), e1, hb]
    simp only [spec_l6Rd_pick.j0, e2]
    rw [if_neg (by simp), if_pos hlt, if_pos hp, if_neg (by omega), w64 (by omega) (by omega)]
  · have m1 := tmod_range p (s.length : Int) hp (by omega)
    have e3 : wrap64 (p * 7) = p * 7 := w64 (by omega) (by omega)
    have e4 : wrap64 (p * 7 + 3) = p * 7 + 3 := w64 (by omega) (by omega)
    have m2 := tmod_range (p * 7 + 3) (s.length : Int) (by omega) (by omega)
    have d1 := tdiv_range p (s.length : Int) hp (by omega)
    have r1 := rd_byte hs (Int.tmod p (s.length : Int))
    have r2 := rd_byte hs (Int.tmod (p * 7 + 3) (s.length : Int))
    generalize ha : rd s (Int.tmod p (s.length : Int)) = a at *
    generalize hc : rd s (Int.tmod (p * 7 + 3) (s.length : Int)) = c at *
    generalize hd : Int.tdiv p (s.length : Int) = d at *
    have e5 : wrap64 (wrap64 (wrap64 (wrap64 (wrap64 a * 131) + wrap64 (wrap64 c * 1117)) + wrap64 (p * 29)) + wrap64 (wrap64 d * 53)) = a * 131 + c * 1117 + p * 29 + d * 53 := by
      rw [w64 (x := a) (by omega) (by omega), w64 (x := c) (by omega) (by omega), w64 (x := d) (by omega) (by omega), w64 (x := a * 131) (by omega) (by omega), w64 (x := c * 1117) (by omega) (by omega), w64 (x := d * 53) (by omega) (by omega), w64 (x := p * 29) (by omega) (by omega), w64 (x := a * 131 + c * 1117) (by omega) (by omega), w64 (x := a * 131 + c * 1117 + p * 29) (by omega) (by omega), w64 (by omega) (by omega)]
    generalize hx : a * 131 + c * 1117 + p * 29 + d * 53 = x at *
    have d2 := tdiv_range x 64 (by omega) (by omega)
    have e6 : wrap64 (Int.tdiv x 64) = Int.tdiv x 64 := w64 (by omega) (by omega)
    have hxor := xor_nonneg' x (Int.tdiv x 64) (by omega) (by omega) d2.1 (by omega)
    have hq := tmod_range (Go.bits .xor .i64 x (Int.tdiv x 64)) n hxor hn
    refine ⟨_, fun k hk => ?_, hq.1, hq.2⟩
    obtain ⟨k, rfl⟩ : ∃ m, k = m + 1 := ⟨k - 1, by omega⟩
    simp only [spec_l6Rd_pick.f]
    rw [if_neg (by omega), e1, hb]
    simp only [spec_l6Rd_pick.j0, e2, e3, e4, ha, hc, hd, e5, e6]
    rw [if_neg (by simp), if_neg hlt, if_neg h0, if_pos m1.1, if_pos m1.2, if_pos m2.1, if_pos m2.2, if_neg (by omega)]
theorem open_ev (l : List Int) (h : ∀ x ∈ l, (Lit.int .u8 x).wf = true) : ∃ s, spec_l6Open.f l = some (s, 0) ∧ Bytes s := by
  have hb : ∀ x ∈ l, 0 ≤ x ∧ x ≤ 255 := fun x hx => bounds_u8 (h x hx)
  unfold spec_l6Open.f
  by_cases hl : (l.length : Int) > 2000
  · rw [if_pos hl, if_pos (by omega)]
    exact ⟨_, rfl, by rw [List.length_take]; omega, fun x hx => hb x (List.mem_of_mem_take hx)⟩
  · rw [if_neg hl]
    exact ⟨_, rfl, by omega, hb⟩
def Dph : Nat → List S50 → Prop
  | 0, l => l = []
  | n + 1, l => ∀ x ∈ l, Dph n x.f0
theorem dph_nil (n : Nat) : Dph n [] := by cases n <;> simp [Dph]
theorem type_ev (s : List Int) (hs : Bytes s) : ∀ (d : Nat), d ≤ 1000 → ∀ (p : Int), 0 ≤ p → p + 2 ^ d ≤ 1099511627776 →
    ∃ r q, (∀ k, 3 * d + 4 ≤ k → spec_l71Type.f k s p d = some (r, q)) ∧ r.length ≤ 2 ∧ p ≤ q ∧ q + 1 ≤ p + 2 ^ d ∧ Dph d r := by
  intro d
  induction d with
  | zero =>
    intro hd p hp hp1
    refine ⟨[], p, fun k hk => ?_, by simp, by omega, by simp, dph_nil _⟩
    obtain ⟨k, rfl⟩ : ∃ m, k = m + 2 := ⟨k - 2, by omega⟩
    simp only [spec_l71Type.f]
    rw [if_pos (by omega)]
    simp only [spec_l71Type.j0, if_true]
  | succ d ih =>
    intro hd p hp hp1
    have hpow : (2 : Int) ^ (d + 1) = 2 ^ d + 2 ^ d := by rw [Int.pow_succ]; omega
    have hpos : (1 : Int) ≤ 2 ^ d := by have := Int.pow_pos (n := 2) (m := d) (by decide); omega
    rw [hpow] at hp1 ⊢
    generalize (2 : Int) ^ d = e at *
    by_cases h2 : (((d + 1 : Nat) : Int)) < 2
    · refine ⟨[], p, fun k hk => ?_, by simp, by omega, by omega, dph_nil _⟩
      obtain ⟨k, rfl⟩ : ∃ m, k = m + 2 := ⟨k - 2, by omega⟩
      simp only [spec_l71Type.f]
      rw [if_pos h2]
      simp only [spec_l71Type.j0, if_true]
    · obtain ⟨r, hr, hr0, hr1⟩ := pick_ev s hs p 3 hp (by omega) (by omega)
      by_cases hrp : r > 0
      · refine ⟨[], p + 1, fun k hk => ?_, by simp, by omega, by omega, dph_nil _⟩
        obtain ⟨k, rfl⟩ : ∃ m, k = m + 2 := ⟨k - 2, by omega⟩
        simp only [spec_l71Type.f]
        rw [if_neg h2, hr (k + 1) (by omega)]
        simp only [Option.bind_some, spec_l71Type.j0]
        rw [if_pos (by simpa using hrp)]
      · obtain ⟨a, q1, h1, _, hq1, hq1', da⟩ := ih (by omega) (p + 1) (by omega) (by omega)
        obtain ⟨b, q2, h3, _, hq2, hq2', db⟩ := ih (by omega) q1 (by omega) (by omega)
        have ew : wrap64 (((d + 1 : Nat) : Int) - 1) = (d : Int) := by
          rw [w64 (by omega) (by omega)]; omega
        refine ⟨[⟨a⟩, ⟨b⟩], q2, fun k hk => ?_, by simp, by omega, by omega, ?_⟩
        rotate_left
        · intro x hx
          rcases List.mem_cons.1 hx with rfl | hx
          · exact da
          · rw [List.mem_singleton.1 hx]; exact db
        · obtain ⟨k, rfl⟩ : ∃ m, k = m + 2 := ⟨k - 2, by omega⟩
          simp only [spec_l71Type.f]
          rw [if_neg h2, hr (k + 1) (by omega)]
          simp only [Option.bind_some, spec_l71Type.j0]
          rw [if_neg (by simpa using hrp), ew, h1 k (by omega)]
          simp only [Option.bind_some]
          rw [h3 k (by omega)]
          simp only [Option.bind_some]
end Go.Proofs.Ythfflieeifakdaa.Draw
end
section
namespace Go.Proofs.Ythfflieeifakdaa.Types
open Go.RowKit Go.Proofs.Ythfflieeifakdaa.PA Go.Proofs.YthfflieeifakdaaW.PrintWords Go.Proofs.YthfflieeifakdaaW.PrintLast Go.Proofs.Ythfflieeifakdaa.Draw
abbrev Ty := List S50
theorem rd0 (a : S50) (l : Ty) : rd_T50 (a :: l) 0 = a := rfl
theorem rd1 (a b : S50) (l : Ty) : rd_T50 (a :: b :: l) 1 = b := rfl
def dp : Nat → Ty → Bool
  | 0, _ => false
  | _ + 1, [] => true
  | n + 1, [a, b] => dp n a.f0 && dp n b.f0
  | _ + 1, _ => false
theorem dp_nil (n : Nat) : dp (n + 1) [] = true := rfl
theorem dp_two (n : Nat) (a b : S50) : dp (n + 1) [a, b] = (dp n a.f0 && dp n b.f0) := rfl
theorem dp_odd (n : Nat) (l : Ty) (h0 : l.length ≠ 0) (h2 : l.length ≠ 2) : dp n l = false := by
  cases n with
  | zero => rfl
  | succ n =>
    match l with
    | [] => simp at h0
    | [_] => rfl
    | [_, _] => simp at h2
    | _ :: _ :: _ :: _ => rfl
theorem two_of {l : Ty} (h : l.length = 2) : ∃ a b, l = [a, b] := by
  match l with
  | [a, b] => exact ⟨a, b, rfl⟩
theorem shape (l : Ty) : l = [] ∨ (∃ a b, l = [a, b]) ∨ (l.length ≠ 0 ∧ l.length ≠ 2) := by
  match l with
  | [] => exact .inl rfl
  | [_] => exact .inr (.inr ⟨by simp, by simp⟩)
  | [a, b] => exact .inr (.inl ⟨a, b, rfl⟩)
  | _ :: _ :: _ :: _ => exact .inr (.inr ⟨by simp, by simp⟩)
theorem pred_cast (n : Nat) (hn : n ≤ 1000) : wrap64 (((n + 1 : Nat) : Int) - 1) = (n : Int) := by rw [w64 (by omega) (by omega)]; omega
theorem deep_ev : ∀ (n : Nat), n ≤ 1000 → ∀ (l : Ty) (k : Nat), 5 * n + 3 ≤ k → spec_l1Deep.f k l n = some (dp n l) := by
  intro n
  induction n with
  | zero =>
    intro _ l k hk
    obtain ⟨k, rfl⟩ : ∃ m, k = m + 2 := ⟨k - 2, by omega⟩
    simp only [spec_l1Deep.f]
    rw [if_pos (by omega)]
    simp only [spec_l1Deep.j0, if_true]
    rfl
  | succ n ih =>
    intro hn l k hk
    obtain ⟨k, rfl⟩ : ∃ m, k = m + 5 := ⟨k - 5, by omega⟩
    have hp := pred_cast n (by omega)
    simp only [spec_l1Deep.f]
    rw [if_neg (by omega)]
    rcases shape l with rfl | ⟨a, b, rfl⟩ | ⟨h0, h2⟩
    · rw [if_pos (by simp)]
      simp only [spec_l1Deep.j0, spec_l1Deep.l0]
      rw [if_neg (by simp), if_neg (by simp)]
      rfl
    · rw [if_neg (by simp)]
      simp only [spec_l1Deep.j0]
      rw [if_neg (by simp)]
      simp only [spec_l1Deep.l0, hp, w01, w12]
      rw [if_pos (by simp), if_pos (by omega), rd0, ih (by omega) _ _ (by omega), dp_two]
      simp only [Option.bind_some]
      cases ha : dp n a.f0 with
      | false => simp
      | true =>
        rw [if_pos rfl, if_pos (by simp), if_pos (by omega), rd1, ih (by omega) _ _ (by omega)]
        simp only [Option.bind_some]
        cases hb : dp n b.f0 with
        | false => simp
        | true => rw [if_pos rfl, if_neg (by simp)]; rfl
    · rw [if_neg (by omega), dp_odd _ _ h0 h2]
      simp only [spec_l1Deep.j0]
      rw [if_pos (by simp; omega)]
theorem specOk_ev (l : Ty) (k : Nat) (hk : 23 ≤ k) : spec_TypeOk.f k l = some (dp 4 l) := by
  unfold spec_TypeOk.f
  rw [show (4 : Int) = ((4 : Nat) : Int) from rfl, deep_ev 4 (by omega) l k (by omega)]; rfl
theorem fits_ev : ∀ (n : Nat), n ≤ 1000 → ∀ (l : Ty) (k : Nat), n + 1 ≤ k → impl_typeFits.f k l n = some (dp n l) := by
  intro n
  induction n with
  | zero =>
    intro _ l k hk
    obtain ⟨k, rfl⟩ : ∃ m, k = m + 1 := ⟨k - 1, by omega⟩
    simp only [impl_typeFits.f]
    rw [if_pos (by omega)]; rfl
  | succ n ih =>
    intro hn l k hk
    obtain ⟨k, rfl⟩ : ∃ m, k = m + 1 := ⟨k - 1, by omega⟩
    have hp := pred_cast n (by omega)
    simp only [impl_typeFits.f]
    rw [if_neg (by omega)]
    rcases shape l with rfl | ⟨a, b, rfl⟩ | ⟨h0, h2⟩
    · rw [if_pos (by simp)]; rfl
    · rw [if_neg (by simp), if_pos (by simp), if_pos (by simp), hp, rd0, ih (by omega) _ _ (by omega), dp_two]
      simp only [Option.bind_some]
      cases ha : dp n a.f0 with
      | false => simp
      | true => rw [if_pos rfl, if_pos (by simp), rd1, ih (by omega) _ _ (by omega)]; simp
    · rw [if_neg (by omega), if_neg (by omega), dp_odd _ _ h0 h2]
theorem implOk_ev (l : Ty) (k : Nat) (hk : 5 ≤ k) : impl_TypeOk.f k l = some (dp 4 l) := by
  unfold impl_TypeOk.f
  rw [show (4 : Int) = ((4 : Nat) : Int) from rfl, fits_ev 4 (by omega) l k (by omega)]; rfl
def tx : Nat → Ty → ByteArray
  | n + 1, [a, b] => ((((⟨#[40]⟩ : ByteArray) ++ tx n a.f0) ++ (⟨#[44]⟩ : ByteArray)) ++ tx n b.f0) ++ (⟨#[41]⟩ : ByteArray)
  | _, _ => ⟨#[105]⟩
theorem tx_two (n : Nat) (a b : S50) : tx (n + 1) [a, b] = ((((⟨#[40]⟩ : ByteArray) ++ tx n a.f0) ++ (⟨#[44]⟩ : ByteArray)) ++ tx n b.f0) ++ (⟨#[41]⟩ : ByteArray) := rfl
theorem tx_nil (n : Nat) : tx n [] = ⟨#[105]⟩ := by cases n <;> rfl
theorem tx_size (n : Nat) : ∀ l, (tx n l).size + 3 ≤ 4 * 2 ^ n := by
  induction n with
  | zero => intro l; simp [tx]; decide
  | succ n ih =>
    intro l
    have hp : 1 ≤ 2 ^ n := Nat.one_le_two_pow
    have h1 : (⟨#[105]⟩ : ByteArray).size = 1 := rfl
    rw [Nat.pow_succ]
    match l with
    | [a, b] =>
      have ha := ih a.f0
      have hb := ih b.f0
      rw [tx_two]
      simp only [ByteArray.size_append, show (⟨#[40]⟩ : ByteArray).size = 1 from rfl, show (⟨#[44]⟩ : ByteArray).size = 1 from rfl, show (⟨#[41]⟩ : ByteArray).size = 1 from rfl]
      omega
    | [] => show (⟨#[105]⟩ : ByteArray).size + 3 ≤ _; omega
    | [_] => show (⟨#[105]⟩ : ByteArray).size + 3 ≤ _; omega
    | _ :: _ :: _ :: _ => show (⟨#[105]⟩ : ByteArray).size + 3 ≤ _; omega
def text (l : Ty) : ByteArray := if dp 4 l = true then tx 4 l else ⟨#[]⟩
def teq : Nat → Ty → Ty → Bool
  | _ + 1, [], [] => true
  | n + 1, [a, b], [c, d] => teq n a.f0 c.f0 && teq n b.f0 d.f0
  | _, _, _ => false
theorem teq_eq : ∀ (n : Nat) (a b : Ty), teq n a b = true → a = b := by
  intro n
  induction n with
  | zero => intro a b h; simp [teq] at h
  | succ n ih =>
    intro a b h
    unfold teq at h
    split at h
    · rfl
    · rename_i m x y z u he
      cases he
      rw [Bool.and_eq_true] at h
      have h1 := ih _ _ h.1
      have h2 := ih _ _ h.2
      cases x; cases y; cases z; cases u
      simp_all
    · cases h
theorem teq_refl : ∀ (n : Nat) (a : Ty), dp n a = true → teq n a a = true := by
  intro n
  induction n with
  | zero => intro a h; simp [dp] at h
  | succ n ih =>
    intro a h
    rcases shape a with rfl | ⟨a1, a2, rfl⟩ | ⟨h0, h2⟩
    · rfl
    · rw [dp_two, Bool.and_eq_true] at h
      show (teq n a1.f0 a1.f0 && teq n a2.f0 a2.f0) = true
      rw [ih _ h.1, ih _ h.2]; rfl
    · rw [dp_odd _ _ h0 h2] at h; cases h
theorem toList_app (a b : ByteArray) : (a ++ b).toList = a.toList ++ b.toList := by
  rw [ByteArray.toList_eq, ByteArray.toList_eq, ByteArray.toList_eq]; simp
theorem lit_toList (c : UInt8) : (⟨#[c]⟩ : ByteArray).toList = [c] := by rw [ByteArray.toList_eq]
theorem tx_inj : ∀ (n : Nat) (a b : Ty) (r s : List UInt8), dp n a = true → dp n b = true → (tx n a).toList ++ r = (tx n b).toList ++ s → teq n a b = true ∧ r = s := by
  intro n
  induction n with
  | zero => intro a b r s h; simp [dp] at h
  | succ n ih =>
    intro a b r s ha hb h
    rcases shape a with rfl | ⟨a1, a2, rfl⟩ | ⟨h0, h2⟩
    · rcases shape b with rfl | ⟨b1, b2, rfl⟩ | ⟨h0, h2⟩
      · rw [tx_nil] at h
        exact ⟨rfl, List.append_cancel_left h⟩
      · rw [tx_nil, tx_two] at h
        simp only [toList_app, lit_toList, List.cons_append, List.nil_append, List.append_assoc] at h
        injection h with h1 _
        exact absurd h1 (by decide)
      · rw [dp_odd _ _ h0 h2] at hb; cases hb
    · rcases shape b with rfl | ⟨b1, b2, rfl⟩ | ⟨h0, h2⟩
      · rw [tx_nil, tx_two] at h
        simp only [toList_app, lit_toList, List.cons_append, List.nil_append, List.append_assoc] at h
        injection h with h1 _
        exact absurd h1 (by decide)
      · rw [dp_two, Bool.and_eq_true] at ha hb
        rw [tx_two, tx_two] at h
        simp only [toList_app, lit_toList, List.cons_append, List.nil_append, List.append_assoc] at h
        injection h with _ h
        obtain ⟨e1, h⟩ := ih _ _ _ _ ha.1 hb.1 h
        injection h with _ h
        obtain ⟨e2, h⟩ := ih _ _ _ _ ha.2 hb.2 h
        injection h with _ h
        refine ⟨?_, h⟩
        show (teq n a1.f0 b1.f0 && teq n a2.f0 b2.f0) = true
        rw [e1, e2]; rfl
      · rw [dp_odd _ _ h0 h2] at hb; cases hb
    · rw [dp_odd _ _ h0 h2] at ha; cases ha
theorem text_teq (a b : Ty) (ha : dp 4 a = true) (hb : dp 4 b = true) : ((text a).toList == (text b).toList) = teq 4 a b := by
  unfold text
  rw [if_pos ha, if_pos hb]
  by_cases h : (tx 4 a).toList = (tx 4 b).toList
  · rw [beq_iff_eq.2 h, (tx_inj 4 a b [] [] ha hb (by simpa using h)).1]
  · cases e : teq 4 a b with
    | false => exact beq_eq_false_iff_ne.2 h
    | true => exact absurd (by rw [teq_eq _ _ _ e]) h
theorem tx_pos (n : Nat) (l : Ty) : 0 < (tx n l).size := by
  unfold tx
  split
  · simp only [ByteArray.size_append, show (⟨#[40]⟩ : ByteArray).size = 1 from rfl]; omega
  · decide
theorem dph_mono : ∀ (n : Nat) (l : Ty), Dph n l → Dph (n + 1) l := by
  intro n
  induction n with
  | zero => intro l h; rw [show l = [] from h]; exact dph_nil _
  | succ n ih => intro l h x hx; exact ih _ (h x hx)
theorem dph_le (n m : Nat) (h : n ≤ m) (l : Ty) (hd : Dph n l) : Dph m l := by
  induction m with
  | zero => obtain rfl : n = 0 := by omega
            exact hd
  | succ m ih =>
    by_cases e : n = m + 1
    · subst e; exact hd
    · exact dph_mono _ _ (ih (by omega))
end Go.Proofs.Ythfflieeifakdaa.Types
end
section
namespace Go.Proofs.Ythfflieeifakdaa.Paths
open Go.RowKit Go.Proofs.Ythfflieeifakdaa.PA Go.Proofs.YthfflieeifakdaaW.PrintWords Go.Proofs.YthfflieeifakdaaW.PrintLast Go.Proofs.Ythfflieeifakdaa.Draw Go.Proofs.Ythfflieeifakdaa.Types
def pf : List Int → Ty → Option Ty
  | [], t => some t
  | i :: r, [a, b] => if i = 0 then pf r a.f0 else if i = 1 then pf r b.f0 else none
  | _ :: _, _ => none
theorem pf_nil (t : Ty) : pf [] t = some t := by cases t <;> rfl
theorem pf_two (i : Int) (r : List Int) (a b : S50) : pf (i :: r) [a, b] = if i = 0 then pf r a.f0 else if i = 1 then pf r b.f0 else none := rfl
theorem pf_odd (i : Int) (r : List Int) (t : Ty) (h : t.length ≠ 2) : pf (i :: r) t = none := by
  match t with
  | [] => rfl
  | [_] => rfl
  | [_, _] => simp at h
  | _ :: _ :: _ :: _ => rfl
theorem pf_app (p q : List Int) : ∀ t, pf (p ++ q) t = (pf p t).bind (pf q) := by
  induction p with
  | nil => intro t; rw [List.nil_append, pf_nil]; rfl
  | cons i r ih =>
    intro t
    by_cases h : t.length = 2
    · obtain ⟨a, b, rfl⟩ := two_of h
      rw [List.cons_append, pf_two, pf_two]
      split
      · exact ih _
      · split
        · exact ih _
        · rfl
    · rw [List.cons_append, pf_odd _ _ _ h, pf_odd _ _ _ h]; rfl
theorem dp_succ : ∀ (n : Nat) (t : Ty), dp n t = true → dp (n + 1) t = true := by
  intro n
  induction n with
  | zero => intro t h; simp [dp] at h
  | succ n ih =>
    intro t h
    rcases Types.shape t with rfl | ⟨a, b, rfl⟩ | ⟨h0, h2⟩
    · rfl
    · rw [dp_two, Bool.and_eq_true] at h ⊢
      exact ⟨ih _ h.1, ih _ h.2⟩
    · rw [dp_odd _ _ h0 h2] at h; cases h
theorem dp_pf (n : Nat) : ∀ (p : List Int) (t u : Ty), dp n t = true → pf p t = some u → dp n u = true := by
  intro p
  induction p with
  | nil => intro t u h e; rw [pf_nil] at e; cases e; exact h
  | cons i r ih =>
    intro t u h e
    by_cases h2 : t.length = 2
    · obtain ⟨a, b, rfl⟩ := two_of h2
      cases n with
      | zero => simp [dp] at h
      | succ n =>
        rw [dp_two, Bool.and_eq_true] at h
        rw [pf_two] at e
        split at e
        · exact ih _ _ (dp_succ _ _ h.1) e
        · split at e
          · exact ih _ _ (dp_succ _ _ h.2) e
          · cases e
    · rw [pf_odd _ _ _ h2] at e; cases e
theorem rd_mid (pre r : List Int) (i : Int) : rd (pre ++ i :: r) (pre.length : Int) = i := by
  unfold rd
  rw [Int.toNat_natCast, List.getD_eq_getElem?_getD, List.getElem?_append_right (Nat.le_refl _)]
  simp
def at_ (o : Option Ty) : Ty × Bool := match o with | some u => (u, true) | none => ([], false)
theorem specCopy_ev : ∀ (n : Nat) (t : Ty) (k : Nat), dp n t = true → 4 * n ≤ k → spec_l1Copy.f k t = some t := by
  intro n
  induction n with
  | zero => intro t k h; simp [dp] at h
  | succ n ih =>
    intro t k h hk
    obtain ⟨k, rfl⟩ : ∃ m, k = m + 4 := ⟨k - 4, by omega⟩
    simp only [spec_l1Copy.f]
    rcases Types.shape t with rfl | ⟨a, b, rfl⟩ | ⟨h0, h2⟩
    · simp only [spec_l1Copy.l0]; rw [if_neg (by simp)]
    · rw [dp_two, Bool.and_eq_true] at h
      simp only [spec_l1Copy.l0, w01, w12]
      rw [if_pos (by simp), if_pos (by omega), rd0, ih _ _ h.1 (by omega)]; simp only [Option.bind_some]
      rw [if_pos (by simp), if_pos (by simp), if_pos (by omega), rd1, ih _ _ h.2 (by omega)]; simp only [Option.bind_some]
      rw [if_pos (by simp), if_neg (by simp)]
      cases a; cases b; rfl
    · rw [dp_odd _ _ h0 h2] at h; cases h
def tat (t : Ty) (p : List Int) : Ty × Bool := if dp 4 t = true then at_ (pf p t) else ([], false)
theorem specLoop_ev (n : Nat) : ∀ (r pre : List Int) (t : Ty) (k : Nat), dp n t = true → pre.length + r.length ≤ 4611686018427387904 → r.length + 4 * n + 1 ≤ k →
    spec_TypeAt.l0 k (pre ++ r) (pre.length : Int) t = some (at_ (pf r t)) := by
  intro r
  induction r with
  | nil =>
    intro pre t k d h1 hk
    obtain ⟨k, rfl⟩ : ∃ m, k = m + 1 := ⟨k - 1, by omega⟩
    simp only [List.length_nil] at hk
    simp only [spec_TypeAt.l0]
    rw [if_neg (by simp), specCopy_ev n t k d (by omega), pf_nil]; rfl
  | cons i r ih =>
    intro pre t k d h1 hk
    simp only [List.length_cons] at h1 hk
    obtain ⟨k, rfl⟩ : ∃ m, k = m + 1 := ⟨k - 1, by omega⟩
    simp only [spec_TypeAt.l0, spec_l6In.f]
    have hl : ((pre ++ i :: r).length : Int) = pre.length + 1 + r.length := by simp; omega
    rw [if_pos (by omega), if_pos (by omega), rd_mid]
    rcases Types.shape t with rfl | ⟨a, b, rfl⟩ | ⟨h0, h2⟩
    · rw [pf_odd _ _ _ (by simp), show wrap64 ((([] : Ty).length : Int) - 1) = -1 from w64 (by simp) (by simp)]
      by_cases hn : i ≥ 0
      · rw [if_pos hn]; simp only [Option.bind_some]; rw [if_neg (by simp; omega)]; rfl
      · rw [if_neg hn]; rfl
    · rw [pf_two, show wrap64 ((([a, b] : Ty).length : Int) - 1) = 1 from w64 (by simp) (by simp)]
      cases n with
      | zero => simp [dp] at d
      | succ n =>
        rw [dp_two, Bool.and_eq_true] at d
        by_cases hn : i ≥ 0
        · rw [if_pos hn]; simp only [Option.bind_some]
          by_cases hb : i ≤ 1
          · rw [if_pos (by simpa using hb), if_pos (by omega), if_pos (by simp; omega), w64 (by omega) (by omega)]
            have ea : pre ++ i :: r = (pre ++ [i]) ++ r := by simp
            have el : (pre.length : Int) + 1 = ((pre ++ [i]).length : Int) := by simp
            rw [el, ea]
            by_cases h0 : i = 0
            · rw [if_pos h0, h0, rd0, ih _ _ _ (dp_succ _ _ d.1) (by simp; omega) (by omega)]
            · rw [if_neg h0, if_pos (by omega), show i = 1 by omega, rd1, ih _ _ _ (dp_succ _ _ d.2) (by simp; omega) (by omega)]
          · rw [if_neg (by simpa using hb), if_neg (by omega), if_neg (by omega)]; rfl
        · rw [if_neg hn, if_neg (show ¬ i = 0 by omega), if_neg (show ¬ i = 1 by omega)]; rfl
    · rw [dp_odd _ _ h0 h2] at d; cases d
theorem specTypeAt_ev (t : Ty) (p : List Int) (k : Nat) (h : p.length ≤ 4611686018427387904) (hk : p.length + 30 ≤ k) : spec_TypeAt.f k t p = some (tat t p) := by
  unfold spec_TypeAt.f tat
  rw [specOk_ev t k (by omega)]; simp only [Option.bind_some]
  by_cases d : dp 4 t = true
  · rw [if_pos d, if_pos d]
    have := specLoop_ev 4 p [] t k d (by simpa using h) (by omega)
    simpa using this
  · rw [if_neg d, if_neg d]
theorem tat_ok (t : Ty) (p : List Int) : dp 4 (tat t p).1 = true := by
  unfold tat
  split
  · rename_i d
    cases e : pf p t with
    | none => rfl
    | some u => exact dp_pf 4 _ _ _ d e
  · rfl
theorem rdT_dph (d : Nat) (t : Ty) (h : Dph (d + 1) t) (i : Int) : Dph d (rd_T50 t i).f0 := by
  unfold rd_T50
  rw [List.getD_eq_getElem?_getD]
  cases e : t[i.toNat]? with
  | none => exact dph_nil d
  | some x => exact h x (List.mem_of_getElem? e)
theorem pathLoop_ev (s : List Int) (hs : Bytes s) : ∀ (d : Nat) (t : Ty), d ≤ 1000 → Dph d t → ∀ (p : Int) (pre : List Int), 0 ≤ p → p + 2 * d + 3 ≤ 1099511627776 → pre.length + d ≤ 1000 →
    ∃ r u q, (∀ k, d + 3 ≤ k → spec_l71Path.l0 k pre s p t = some (r, u, q)) ∧ p ≤ q ∧ q ≤ p + 2 * d + 1 ∧ r.length ≤ pre.length + d := by
  intro d
  induction d with
  | zero =>
    intro t _ h p pre hp hp1 hl
    rw [show t = [] from h]
    refine ⟨pre, [], p, fun k hk => ?_, by omega, by omega, by omega⟩
    obtain ⟨k, rfl⟩ : ∃ m, k = m + 1 := ⟨k - 1, by omega⟩
    simp only [spec_l71Path.l0]
    rw [if_neg (by simp)]
  | succ d ih =>
    intro t hd h p pre hp hp1 hl
    by_cases h0 : (t.length : Int) > 0
    · obtain ⟨c, hc, c0, c1⟩ := pick_ev s hs p 3 hp (by omega) (by omega)
      by_cases hcp : c > 0
      · obtain ⟨i, hi, i0, i1⟩ := pick_ev s hs (p + 1) (t.length : Int) (by omega) (by omega) (by omega)
        obtain ⟨r, u, q, hr, hq, hq2, hrl⟩ := ih (rd_T50 t i).f0 (by omega) (rdT_dph _ _ h i) (p + 1 + 1) (pre ++ [i]) (by omega) (by omega) (by simp; omega)
        refine ⟨r, u, q, fun k hk => ?_, by omega, by omega, by simp at hrl; omega⟩
        obtain ⟨k, rfl⟩ : ∃ m, k = m + 1 := ⟨k - 1, by omega⟩
        simp only [spec_l71Path.l0]
        rw [if_pos h0, hc k (by omega)]; simp only [Option.bind_some]
        rw [if_pos hcp, hi k (by omega)]; simp only [Option.bind_some]
        rw [if_pos (by omega), if_pos i0, if_pos i1]
        exact hr k (by omega)
      · refine ⟨pre, t, p + 1, fun k hk => ?_, by omega, by omega, by omega⟩
        obtain ⟨k, rfl⟩ : ∃ m, k = m + 1 := ⟨k - 1, by omega⟩
        simp only [spec_l71Path.l0]
        rw [if_pos h0, hc k (by omega)]; simp only [Option.bind_some]
        rw [if_neg hcp]
    · refine ⟨pre, t, p, fun k hk => ?_, by omega, by omega, by omega⟩
      obtain ⟨k, rfl⟩ : ∃ m, k = m + 1 := ⟨k - 1, by omega⟩
      simp only [spec_l71Path.l0]
      rw [if_neg h0]
theorem any_ev (s : List Int) (hs : Bytes s) (d : Nat) (t : Ty) (hd : d ≤ 900) (h : Dph d t) (p : Int) (hp : 0 ≤ p) (hp1 : p ≤ 1099511620000) :
    ∃ r q, (∀ k, d + 4 ≤ k → spec_l71Any.f k s p t = some (r, q)) ∧ p ≤ q ∧ q ≤ p + 2 * d + 3 ∧ r.length ≤ d + 1 := by
  obtain ⟨r, u, q, hr, hq, hq2, hl⟩ := pathLoop_ev s hs d t (by omega) h p [] hp (by omega) (by simp; omega)
  simp only [List.length_nil] at hl
  obtain ⟨c, hc, c0, c1⟩ := pick_ev s hs q 6 (by omega) (by omega) (by omega)
  have hf : ∀ k, d + 4 ≤ k → spec_l71Path.f k s p t = some (r, u, q) := fun k hk => hr k (by omega)
  by_cases e : c = 0
  · obtain ⟨c', hc', _, _⟩ := pick_ev s hs (q + 1) 4 (by omega) (by omega) (by omega)
    refine ⟨r ++ [wrap64 (c' - 1)], q + 1 + 1, fun k hk => ?_, by omega, by omega, by simp; omega⟩
    unfold spec_l71Any.f
    rw [hf k hk]; simp only [Option.bind_some]
    rw [hc k (by omega)]; simp only [Option.bind_some]
    rw [if_pos e, hc' k (by omega)]; simp only [Option.bind_some]
    rw [if_pos (by omega)]
  · refine ⟨r, q + 1, fun k hk => ?_, by omega, by omega, by omega⟩
    unfold spec_l71Any.f
    rw [hf k hk]; simp only [Option.bind_some]
    rw [hc k (by omega)]; simp only [Option.bind_some]
    rw [if_neg e]
end Go.Proofs.Ythfflieeifakdaa.Paths
end
section
set_option linter.unusedVariables false
namespace Go.Proofs.Ythfflieeifakdaa.Vals
open Go.RowKit Go.Proofs.Ythfflieeifakdaa.PA Go.Proofs.YthfflieeifakdaaW.PrintWords Go.Proofs.YthfflieeifakdaaW.PrintLast Go.Proofs.Ythfflieeifakdaa.Draw Go.Proofs.Ythfflieeifakdaa.Types Go.Proofs.Ythfflieeifakdaa.Paths
abbrev Vl := List S25
theorem rv0 (a : S25) (l : Vl) : rd_T25 (a :: l) 0 = a := rfl
theorem rv1 (a b : S25) (l : Vl) : rd_T25 (a :: b :: l) 1 = b := rfl
theorem shapeV (l : Vl) : l = [] ∨ (∃ a b, l = [a, b]) ∨ (l.length ≠ 0 ∧ l.length ≠ 2) := by
  match l with
  | [] => exact .inl rfl
  | [_] => exact .inr (.inr ⟨by simp, by simp⟩)
  | [a, b] => exact .inr (.inl ⟨a, b, rfl⟩)
  | _ :: _ :: _ :: _ => exact .inr (.inr ⟨by simp, by simp⟩)
def vt : Nat → Int → Vl → Option Ty
  | 0, _, _ => none
  | _ + 1, x, [] => if 0 ≤ x ∧ x ≤ 9999 then some [] else none
  | n + 1, x, [a, b] => if x = 0 then (vt n a.f0 a.f1).bind fun s => (vt n b.f0 b.f1).bind fun t => some [⟨s⟩, ⟨t⟩] else none
  | _ + 1, _, _ => none
theorem vt_nil (n : Nat) (x : Int) : vt (n + 1) x [] = if 0 ≤ x ∧ x ≤ 9999 then some [] else none := rfl
theorem vt_two (n : Nat) (x : Int) (a b : S25) : vt (n + 1) x [a, b] = if x = 0 then (vt n a.f0 a.f1).bind fun s => (vt n b.f0 b.f1).bind fun t => some [⟨s⟩, ⟨t⟩] else none := rfl
theorem vt_odd (n : Nat) (x : Int) (l : Vl) (h0 : l.length ≠ 0) (h2 : l.length ≠ 2) : vt n x l = none := by
  cases n with
  | zero => rfl
  | succ n =>
    match l with
    | [] => simp at h0
    | [_] => rfl
    | [_, _] => simp at h2
    | _ :: _ :: _ :: _ => rfl
theorem vt_cases {n : Nat} {x : Int} {l : Vl} {t : Ty} (h : vt (n + 1) x l = some t) :
    (l = [] ∧ t = [] ∧ 0 ≤ x ∧ x ≤ 9999) ∨ ∃ a b s u, l = [a, b] ∧ x = 0 ∧ t = [⟨s⟩, ⟨u⟩] ∧ vt n a.f0 a.f1 = some s ∧ vt n b.f0 b.f1 = some u := by
  rcases shapeV l with rfl | ⟨a, b, rfl⟩ | ⟨h0, h2⟩
  · rw [vt_nil] at h
    split at h
    · rename_i hx
      cases h
      exact .inl ⟨rfl, rfl, hx.1, hx.2⟩
    · cases h
  · rw [vt_two] at h
    split at h
    · rename_i hx
      cases e1 : vt n a.f0 a.f1 with
      | none => rw [e1] at h; cases h
      | some s =>
        cases e2 : vt n b.f0 b.f1 with
        | none => rw [e1, e2] at h; cases h
        | some u =>
          rw [e1, e2] at h
          cases h
          exact .inr ⟨a, b, s, u, rfl, hx, rfl, e1, e2⟩
    · cases h
  · rw [vt_odd _ _ _ h0 h2] at h; cases h
theorem vt_dp : ∀ (n : Nat) (x : Int) (l : Vl) (t : Ty), vt n x l = some t → dp n t = true := by
  intro n
  induction n with
  | zero => intro x l t h; cases h
  | succ n ih =>
    intro x l t h
    rcases vt_cases h with ⟨_, rfl, _, _⟩ | ⟨a, b, s, u, _, _, rfl, h1, h2⟩
    · rfl
    · rw [dp_two, ih _ _ _ h1, ih _ _ _ h2]; rfl
theorem vt_succ : ∀ (n : Nat) (x : Int) (l : Vl) (t : Ty), vt n x l = some t → vt (n + 1) x l = some t := by
  intro n
  induction n with
  | zero => intro x l t h; cases h
  | succ n ih =>
    intro x l t h
    rcases vt_cases h with ⟨rfl, rfl, h0, h1⟩ | ⟨a, b, s, u, rfl, rfl, rfl, h1, h2⟩
    · rw [vt_nil, if_pos ⟨h0, h1⟩]
    · rw [vt_two, if_pos rfl, ih _ _ _ h1, ih _ _ _ h2]; rfl
theorem valType_ev : ∀ (n : Nat), n ≤ 1000 → ∀ (x : Int) (l : Vl) (k : Nat), 2 * n + 2 ≤ k → impl_valType.f k x l n = some (at_ (vt n x l)) := by
  intro n
  induction n with
  | zero =>
    intro _ x l k hk
    obtain ⟨k, rfl⟩ : ∃ m, k = m + 1 := ⟨k - 1, by omega⟩
    simp only [impl_valType.f]
    rw [if_pos (by omega)]; rfl
  | succ n ih =>
    intro hn x l k hk
    obtain ⟨k, rfl⟩ : ∃ m, k = m + 2 := ⟨k - 2, by omega⟩
    have hp := pred_cast n (by omega)
    simp only [impl_valType.f]
    rw [if_neg (by omega)]
    rcases shapeV l with rfl | ⟨a, b, rfl⟩ | ⟨h0, h2⟩
    · rw [if_pos (by simp), vt_nil]
      by_cases h0 : x ≥ 0
      · rw [if_pos h0]
        by_cases h9 : x ≤ 9999
        · rw [if_pos ⟨h0, h9⟩, decide_eq_true h9]; rfl
        · rw [if_neg (fun h => h9 h.2), decide_eq_false h9]; rfl
      · rw [if_neg h0, if_neg (fun h => h0 h.1)]; rfl
    · rw [if_neg (by simp), if_pos (by simp), vt_two]
      simp only [impl_valType.j0, hp, rv0, rv1]
      by_cases hx : x = 0
      · rw [if_neg (by simp [hx]), if_pos (by simp), if_pos hx, ih (by omega) _ _ _ (by omega)]; simp only [Option.bind_some]
        rw [if_pos (by simp), ih (by omega) _ _ _ (by omega)]; simp only [Option.bind_some]
        cases vt n a.f0 a.f1 with
        | none => rfl
        | some s =>
          cases vt n b.f0 b.f1 with
          | none => rfl
          | some u => rfl
      · rw [if_pos (by simpa using hx), if_neg hx]; rfl
    · rw [if_neg (by omega), if_neg (by omega), vt_odd _ _ _ h0 h2]
      simp only [impl_valType.j0, if_true]; rfl
theorem typed_ev (x : Int) (l : Vl) (k : Nat) (hk : 10 ≤ k) : impl_valTyped.f k x l = some (at_ (vt 4 x l)) := by
  unfold impl_valTyped.f
  rw [show (4 : Int) = ((4 : Nat) : Int) from rfl, valType_ev 4 (by omega) x l k (by omega)]; rfl
theorem same_ev : ∀ (n : Nat) (a b : Ty) (k : Nat), dp n a = true → dp n b = true → 4 * n ≤ k → impl_typeSame.f k a b = some (teq n a b) := by
  intro n
  induction n with
  | zero => intro a b k h; simp [dp] at h
  | succ n ih =>
    intro a b k ha hb hk
    obtain ⟨k, rfl⟩ : ∃ m, k = m + 4 := ⟨k - 4, by omega⟩
    simp only [impl_typeSame.f]
    rcases Types.shape a with rfl | ⟨a1, a2, rfl⟩ | ⟨h0, h2⟩
    · rcases Types.shape b with rfl | ⟨b1, b2, rfl⟩ | ⟨h0, h2⟩
      · rw [if_pos rfl]; simp only [impl_typeSame.l0]; rw [if_neg (by simp)]; rfl
      · rw [if_neg (by simp)]; rfl
      · rw [dp_odd _ _ h0 h2] at hb; cases hb
    · rcases Types.shape b with rfl | ⟨b1, b2, rfl⟩ | ⟨h0, h2⟩
      · rw [if_neg (by simp)]; rfl
      · rw [dp_two, Bool.and_eq_true] at ha hb
        rw [if_pos (by simp)]
        simp only [impl_typeSame.l0, w01, w12]
        rw [if_pos (by simp), if_pos (by omega), if_pos (by simp), if_pos (by simp), rd0, rd0, ih _ _ _ ha.1 hb.1 (by omega)]
        simp only [Option.bind_some]
        have e : teq (n + 1) [a1, a2] [b1, b2] = (teq n a1.f0 b1.f0 && teq n a2.f0 b2.f0) := rfl
        rw [e]
        cases h1 : teq n a1.f0 b1.f0 with
        | false => simp
        | true =>
          rw [if_pos rfl, if_pos (by simp), if_pos (by omega), if_pos (by simp), if_pos (by simp), rd1, rd1, ih _ _ _ ha.2 hb.2 (by omega)]
          simp only [Option.bind_some]
          cases h2 : teq n a2.f0 b2.f0 with
          | false => simp
          | true => rw [if_pos rfl, if_neg (by simp)]; rfl
      · rw [dp_odd _ _ h0 h2] at hb; cases hb
    · rw [dp_odd _ _ h0 h2] at ha; cases ha
def vm (n : Nat) (t : Ty) (x : Int) (l : Vl) : Bool := match vt n x l with | some s => teq n s t | none => false
def vo (t : Ty) (x : Int) (l : Vl) : Bool := dp 4 t && vm 4 t x l
theorem implValOk_ev (t : Ty) (x : Int) (l : Vl) (k : Nat) (hk : 20 ≤ k) : impl_ValOk.f k t x l = some (vo t x l) := by
  unfold impl_ValOk.f vo vm
  rw [implOk_ev t k (by omega)]; simp only [Option.bind_some]
  cases d : dp 4 t with
  | false => rfl
  | true =>
    simp only [if_true, Bool.true_and]
    rw [typed_ev x l k (by omega)]; simp only [Option.bind_some]
    cases e : vt 4 x l with
    | none => rfl
    | some s =>
      simp only [at_, if_true]
      rw [same_ev 4 s t k (vt_dp _ _ _ _ e) d (by omega)]; rfl
theorem vm_two (n : Nat) (x : Int) (a b : S50) (c d : S25) : vm (n + 1) [a, b] x [c, d] = ((x == 0) && (vm n a.f0 c.f0 c.f1 && vm n b.f0 d.f0 d.f1)) := by
  unfold vm
  rw [vt_two]
  by_cases hx : x = 0
  · rw [if_pos hx, beq_iff_eq.2 hx]
    cases vt n c.f0 c.f1 with
    | none => rfl
    | some s =>
      cases vt n d.f0 d.f1 with
      | none => simp
      | some u => rfl
  · rw [if_neg hx, beq_eq_false_iff_ne.2 hx]; rfl
theorem l1Val_ev : ∀ (n : Nat) (t : Ty) (x : Int) (l : Vl) (k : Nat), dp n t = true → 5 * n ≤ k → spec_l1Val.f k t x l = some (vm n t x l) := by
  intro n
  induction n with
  | zero => intro t x l k h; simp [dp] at h
  | succ n ih =>
    intro t x l k h hk
    obtain ⟨k, rfl⟩ : ∃ m, k = m + 5 := ⟨k - 5, by omega⟩
    simp only [spec_l1Val.f, spec_l6In.f]
    have bad : ∀ m t x l, spec_l1Val.j0 (m + 1) true t x l = some false := fun m t x l => by simp only [spec_l1Val.j0, if_true]
    rcases Types.shape t with rfl | ⟨a, b, rfl⟩ | ⟨h0, h2⟩
    · rcases shapeV l with rfl | ⟨c, d, rfl⟩ | ⟨g0, g2⟩
      · rw [if_pos (by simp), if_neg (by simp)]
        simp only [vm, vt_nil]
        by_cases hx : x ≥ 0
        · rw [if_pos hx]; simp only [Option.bind_some]
          by_cases h9 : x ≤ 9999
          · rw [decide_eq_true h9, if_pos ⟨hx, h9⟩]
            simp only [spec_l1Val.j0, spec_l1Val.l0, Bool.not_true]
            rw [if_neg (by simp), if_neg (by simp)]; rfl
          · rw [decide_eq_false h9, if_neg (fun h => h9 h.2)]
            exact bad _ _ _ _
        · rw [if_neg hx, if_neg (fun h => hx h.1)]; simp only [Option.bind_some]
          exact bad _ _ _ _
      · rw [if_neg (by simp), bad]
        simp only [vm]
        cases e : vt (n + 1) x [c, d] with
        | none => rfl
        | some s =>
          rcases vt_cases e with ⟨h, _⟩ | ⟨_, _, s, u, _, _, rfl, _, _⟩
          · cases h
          · rfl
      · rw [if_neg (by simp; simpa using g0), bad]
        simp only [vm, vt_odd _ _ _ g0 g2]
    · rcases shapeV l with rfl | ⟨c, d, rfl⟩ | ⟨g0, g2⟩
      · rw [if_neg (by simp), bad]
        simp only [vm, vt_nil]
        split
        · rename_i h; split at h
          · cases h; rfl
          · cases h
        · rfl
      · rw [if_pos (by simp), if_pos (by simp), vm_two]
        by_cases hx : x = 0
        · rw [if_pos hx, if_pos (by omega)]; simp only [Option.bind_some]
          rw [decide_eq_true (by omega)]
          rw [dp_two, Bool.and_eq_true] at h
          simp only [spec_l1Val.j0, spec_l1Val.l0, Bool.not_true, w01, w12]
          rw [if_neg (by simp), if_pos (by simp), if_pos (by omega), if_pos (by simp), rd0, rv0, ih _ _ _ _ h.1 (by omega)]; simp only [Option.bind_some]
          rw [beq_iff_eq.2 hx, Bool.true_and]
          cases e1 : vm n a.f0 c.f0 c.f1 with
          | false => rw [if_neg (by simp)]; rfl
          | true =>
            rw [if_pos rfl, if_pos (by simp), if_pos (by omega), if_pos (by simp), rd1, rv1, ih _ _ _ _ h.2 (by omega)]; simp only [Option.bind_some]
            cases e2 : vm n b.f0 d.f0 d.f1 with
            | false => rw [if_neg (by simp)]; rfl
            | true => rw [if_pos rfl, if_neg (by simp)]; rfl
        · rw [if_neg hx, bad, beq_eq_false_iff_ne.2 hx]; rfl
      · rw [if_neg (by simp; omega), bad]
        simp only [vm, vt_odd _ _ _ g0 g2]
    · rw [dp_odd _ _ h0 h2] at h; cases h
theorem specValOk_ev (t : Ty) (x : Int) (l : Vl) (k : Nat) (hk : 23 ≤ k) : spec_ValOk.f k t x l = some (vo t x l) := by
  unfold spec_ValOk.f vo
  rw [specOk_ev t k (by omega)]; simp only [Option.bind_some]
  cases d : dp 4 t with
  | false => rfl
  | true =>
    simp only [if_true, Bool.true_and]
    rw [l1Val_ev 4 t x l k d (by omega)]; rfl
theorem teq_self (t u : Ty) (n : Nat) (ht : dp n t = true) (hu : dp n u = true) : teq n t u = teq n u t := by
  cases e : teq n t u with
  | true => rw [teq_eq _ _ _ e, teq_refl _ _ hu]
  | false =>
    cases e2 : teq n u t with
    | true => rw [teq_eq _ _ _ e2, teq_refl _ _ ht] at e; cases e
    | false => rfl
theorem vo_iff (t : Ty) (x : Int) (l : Vl) : vo t x l = true ↔ vt 4 x l = some t := by
  unfold vo vm
  constructor
  · intro h
    rw [Bool.and_eq_true] at h
    cases e : vt 4 x l with
    | none => rw [e] at h; cases h.2
    | some s => rw [e] at h; rw [teq_eq _ _ _ h.2]
  · intro h
    have d := vt_dp _ _ _ _ h
    rw [h, d]
    exact teq_refl 4 t d
def pv : List Int → Int → Vl → Option (Int × Vl)
  | [], x, l => some (x, l)
  | i :: r, _, [a, b] => if i = 0 then pv r a.f0 a.f1 else if i = 1 then pv r b.f0 b.f1 else none
  | _ :: _, _, _ => none
theorem pv_nil (x : Int) (l : Vl) : pv [] x l = some (x, l) := by cases l <;> rfl
theorem pv_two (i : Int) (r : List Int) (x : Int) (a b : S25) : pv (i :: r) x [a, b] = if i = 0 then pv r a.f0 a.f1 else if i = 1 then pv r b.f0 b.f1 else none := rfl
theorem pv_odd (i : Int) (r : List Int) (x : Int) (l : Vl) (h : l.length ≠ 2) : pv (i :: r) x l = none := by
  match l with
  | [] => rfl
  | [_] => rfl
  | [_, _] => simp at h
  | _ :: _ :: _ :: _ => rfl
theorem pv_app (p q : List Int) : ∀ x l, pv (p ++ q) x l = (pv p x l).bind fun r => pv q r.1 r.2 := by
  induction p with
  | nil => intro x l; rw [List.nil_append, pv_nil]; rfl
  | cons i r ih =>
    intro x l
    by_cases h : l.length = 2
    · rcases shapeV l with rfl | ⟨a, b, rfl⟩ | ⟨_, h2⟩
      · simp at h
      · rw [List.cons_append, pv_two, pv_two]
        split
        · exact ih _ _
        · split
          · exact ih _ _
          · rfl
      · exact absurd h h2
    · rw [List.cons_append, pv_odd _ _ _ _ h, pv_odd _ _ _ _ h]; rfl
theorem vt_pv (n : Nat) : ∀ (p : List Int) (x : Int) (l : Vl) (t : Ty), vt n x l = some t →
    (∀ y m, pv p x l = some (y, m) → ∃ u, pf p t = some u ∧ vt n y m = some u) ∧ (pv p x l = none → pf p t = none) := by
  intro p
  induction p with
  | nil =>
    intro x l t h
    rw [pv_nil]
    exact ⟨fun y m e => by cases e; exact ⟨t, pf_nil t, h⟩, fun e => by cases e⟩
  | cons i r ih =>
    intro x l t h
    cases n with
    | zero => cases h
    | succ n =>
      rcases vt_cases h with ⟨rfl, rfl, _, _⟩ | ⟨a, b, s, u, rfl, rfl, rfl, h1, h2⟩
      · exact ⟨fun y m e => (by cases e), fun _ => rfl⟩
      · rw [pv_two, pf_two]
        by_cases h0 : i = 0
        · rw [if_pos h0, if_pos h0]; exact ih _ _ _ (vt_succ _ _ _ _ h1)
        · rw [if_neg h0, if_neg h0]
          by_cases h3 : i = 1
          · rw [if_pos h3, if_pos h3]; exact ih _ _ _ (vt_succ _ _ _ _ h2)
          · rw [if_neg h3, if_neg h3]; exact ⟨fun y m e => (by cases e), fun _ => rfl⟩
def av (o : Option (Int × Vl)) : Int × Vl × Bool := match o with | some r => (r.1, r.2, true) | none => (0, [], false)
theorem valLoop_ev : ∀ (r pre : List Int) (x : Int) (l : Vl) (k : Nat), pre.length + r.length ≤ 4611686018427387904 → r.length + 1 ≤ k →
    impl_Val.l0 k (pre ++ r) ((pre ++ r).length : Int) (pre.length : Int) x l = some (av (pv r x l)) := by
  intro r
  induction r with
  | nil =>
    intro pre x l k h1 hk
    obtain ⟨k, rfl⟩ : ∃ m, k = m + 1 := ⟨k - 1, by simp at hk; omega⟩
    simp only [impl_Val.l0]
    rw [if_neg (by simp), pv_nil]; rfl
  | cons i r ih =>
    intro pre x l k h1 hk
    simp only [List.length_cons] at h1 hk
    obtain ⟨k, rfl⟩ : ∃ m, k = m + 1 := ⟨k - 1, by omega⟩
    simp only [impl_Val.l0, impl_Val_parts.f, Option.bind_some]
    have hl : ((pre ++ i :: r).length : Int) = pre.length + 1 + r.length := by simp; omega
    rw [if_pos (by omega), if_pos (by omega), if_pos (by omega), rd_mid]
    rcases shapeV l with rfl | ⟨a, b, rfl⟩ | ⟨_, h2⟩
    · rw [if_neg (by simp), pv_odd _ _ _ _ (by simp)]; rfl
    · rw [if_pos (by simp), pv_two]
      by_cases hn : i < 0
      · rw [if_pos hn, if_neg (by omega), if_neg (by omega)]; rfl
      · rw [if_neg hn]
        by_cases hb : i > 1
        · rw [if_pos hb, if_neg (by omega), if_neg (by omega)]; rfl
        · rw [if_neg hb, if_pos (by omega), if_pos (by simp; omega), w64 (by omega) (by omega)]
          have ea : pre ++ i :: r = (pre ++ [i]) ++ r := by simp
          have el : (pre.length : Int) + 1 = ((pre ++ [i]).length : Int) := by simp
          rw [el, ea]
          by_cases h0 : i = 0
          · rw [if_pos h0, ih _ _ _ _ (by simp; omega) (by omega), h0, rv0]
          · rw [if_neg h0, if_pos (by omega), ih _ _ _ _ (by simp; omega) (by omega), show i = 1 by omega, rv1]
    · rw [if_neg (by omega), pv_odd _ _ _ _ h2]; rfl
theorem implVal_ev (x : Int) (l : Vl) (p : List Int) (k : Nat) (h : p.length ≤ 4611686018427387904) (hk : p.length + 1 ≤ k) : impl_Val.f k x l p = some (av (pv p x l)) := by
  unfold impl_Val.f
  have := valLoop_ev p [] x l k (by simpa using h) hk
  simpa using this
theorem valCopy_ev : ∀ (n : Nat) (x : Int) (l : Vl) (t : Ty) (k : Nat), vt n x l = some t → n ≤ k → impl_valCopy.f k x l = some (x, l) := by
  intro n
  induction n with
  | zero => intro x l t k h; cases h
  | succ n ih =>
    intro x l t k h hk
    obtain ⟨k, rfl⟩ : ∃ m, k = m + 1 := ⟨k - 1, by omega⟩
    simp only [impl_valCopy.f]
    rcases vt_cases h with ⟨rfl, rfl, _, _⟩ | ⟨a, b, s, u, rfl, rfl, rfl, h1, h2⟩
    · rw [if_pos (by simp)]
    · rw [if_neg (by simp), if_pos (by simp), rv0, ih _ _ _ _ h1 (by omega)]; simp only [Option.bind_some]
      rw [if_pos (by simp), rv1, ih _ _ _ _ h2 (by omega)]; simp only [Option.bind_some]
      cases a; cases b; rfl
def vat (x : Int) (l : Vl) (p : List Int) : Int × Vl × Bool := if (vt 4 x l).isSome = true then av (pv p x l) else (0, [], false)
theorem implValAt_ev (x : Int) (l : Vl) (p : List Int) (k : Nat) (h : p.length ≤ 4611686018427387904) (hk : p.length + 20 ≤ k) : impl_ValAt.f k x l p = some (vat x l p) := by
  unfold impl_ValAt.f vat
  rw [typed_ev x l k (by omega)]; simp only [Option.bind_some]
  cases e : vt 4 x l with
  | none => rfl
  | some t =>
    simp only [at_, if_true, Option.isSome_some]
    rw [implVal_ev x l p k h (by omega)]; simp only [Option.bind_some]
    cases e2 : pv p x l with
    | none => rfl
    | some r =>
      obtain ⟨u, _, hu⟩ := (vt_pv 4 p x l t e).1 r.1 r.2 e2
      simp only [av, if_true]
      rw [valCopy_ev 4 r.1 r.2 u k hu (by omega)]; rfl
theorem type_dp (s : List Int) : ∀ (k d : Nat) (p : Int) (r : Ty) (q : Int), d ≤ 1000 → spec_l71Type.f k s p d = some (r, q) → dp (d + 1) r = true := by
  intro k
  induction k using Nat.strongRecOn with
  | _ k ih =>
    intro d p r q hd h
    match k, ih, h with
    | 0, _, h => simp [spec_l71Type.f] at h
    | 1, _, h =>
      simp only [spec_l71Type.f] at h
      split at h
      · simp [spec_l71Type.j0] at h
      · cases e : spec_l6Rd_pick.f 0 s p 3 with
        | none => rw [e] at h; cases h
        | some c => rw [e] at h; simp [spec_l71Type.j0] at h
    | k + 2, ih, h =>
      simp only [spec_l71Type.f] at h
      split at h
      · simp only [spec_l71Type.j0, if_true] at h
        cases h; rfl
      · rename_i h2
        cases e : spec_l6Rd_pick.f (k + 1) s p 3 with
        | none => rw [e] at h; cases h
        | some c =>
          rw [e] at h
          simp only [Option.bind_some, spec_l71Type.j0] at h
          split at h
          · cases h; rfl
          · obtain ⟨d, rfl⟩ : ∃ m, d = m + 1 := ⟨d - 1, by omega⟩
            have ew : wrap64 (((d + 1 : Nat) : Int) - 1) = (d : Int) := pred_cast d (by omega)
            rw [ew] at h
            cases e1 : spec_l71Type.f k s c.2 d with
            | none => rw [e1] at h; cases h
            | some a =>
              rw [e1] at h
              simp only [Option.bind_some] at h
              cases e2 : spec_l71Type.f k s a.2 d with
              | none => rw [e2] at h; cases h
              | some b =>
                rw [e2] at h
                cases h
                rw [dp_two, ih k (by omega) d _ a.1 a.2 (by omega) e1, ih k (by omega) d _ b.1 b.2 (by omega) e2]; rfl
theorem val_ev (s : List Int) (hs : Bytes s) : ∀ (n : Nat) (t : Ty) (p : Int), dp n t = true → 0 ≤ p → p + 2 ^ n ≤ 1099511000000 →
    ∃ x l q, (∀ k, n + 3 ≤ k → spec_l71Val.f k s p t = some (x, l, q)) ∧ p ≤ q ∧ q ≤ p + 2 ^ n ∧ l.length ≤ 2 := by
  intro n
  induction n with
  | zero => intro t p h; simp [dp] at h
  | succ n ih =>
    intro t p h hp hp1
    have hpow : (2 : Int) ^ (n + 1) = 2 ^ n + 2 ^ n := by rw [Int.pow_succ]; omega
    have hpos : (1 : Int) ≤ 2 ^ n := by have := Int.pow_pos (n := 2) (m := n) (by decide); omega
    rw [hpow] at hp1 ⊢
    generalize (2 : Int) ^ n = e at *
    rcases Types.shape t with rfl | ⟨a, b, rfl⟩ | ⟨h0, h2⟩
    · obtain ⟨c, hc, c0, c1⟩ := pick_ev s hs p 7 hp (by omega) (by omega)
      refine ⟨rd [0, 1, 2, 3, 7, 50, 9999] c, [], p + 1, fun k hk => ?_, by omega, by omega, by simp⟩
      obtain ⟨k, rfl⟩ : ∃ m, k = m + 1 := ⟨k - 1, by omega⟩
      simp only [spec_l71Val.f]
      rw [if_pos (by simp)]; simp only [Option.bind_some]
      rw [hc k (by omega)]; simp only [Option.bind_some]
      rw [if_pos c0, if_pos (by simp; omega)]
    · rw [dp_two, Bool.and_eq_true] at h
      obtain ⟨x1, l1, q1, h1, g1, g2, _⟩ := ih a.f0 p h.1 hp (by omega)
      obtain ⟨x2, l2, q2, h3, g3, g4, _⟩ := ih b.f0 q1 h.2 (by omega) (by omega)
      refine ⟨0, [⟨x1, l1⟩, ⟨x2, l2⟩], q2, fun k hk => ?_, by omega, by omega, by simp⟩
      obtain ⟨k, rfl⟩ : ∃ m, k = m + 1 := ⟨k - 1, by omega⟩
      simp only [spec_l71Val.f]
      rw [if_neg (by simp), if_pos (by simp), rd0, h1 k (by omega)]; simp only [Option.bind_some]
      rw [if_pos (by simp), rd1, h3 k (by omega)]; rfl
    · rw [dp_odd _ _ h0 h2] at h; cases h
theorem badLoop_ev (s : List Int) (p : Int) : ∀ (d i : Nat), i + d = 5 → ∀ (x : Int) (l : Vl), ∃ y m, ∀ k, d + 1 ≤ k → spec_l71Bad.l0 k i s p x l = some (y, m, p) := by
  intro d
  induction d with
  | zero =>
    intro i hi x l
    refine ⟨x, l, fun k hk => ?_⟩
    obtain ⟨k, rfl⟩ : ∃ m, k = m + 1 := ⟨k - 1, by omega⟩
    simp only [spec_l71Bad.l0]
    rw [if_neg (by omega)]
  | succ d ih =>
    intro i hi x l
    obtain ⟨y, m, h⟩ := ih (i + 1) (by omega) 0 [⟨x, l⟩, ⟨0, []⟩]
    refine ⟨y, m, fun k hk => ?_⟩
    obtain ⟨k, rfl⟩ : ∃ m, k = m + 1 := ⟨k - 1, by omega⟩
    simp only [spec_l71Bad.l0]
    rw [if_pos (by omega), w64 (by omega) (by omega)]
    exact h k (by omega)
theorem pow20 (n : Nat) (hn : n ≤ 20) : (2 : Int) ^ n ≤ 1048576 := by
  have h : (2 : Nat) ^ n ≤ 2 ^ 20 := Nat.pow_le_pow_right (by decide) hn
  have e : (2 : Nat) ^ 20 = 1048576 := rfl
  rw [e] at h
  have := Int.ofNat_le.2 h
  rwa [Int.natCast_pow] at this
theorem bad_ev (s : List Int) (hs : Bytes s) (n : Nat) (hn : n ≤ 20) (t : Ty) (d : dp n t = true) (p : Int) (hp : 0 ≤ p) (hp1 : p ≤ 1099500000000) :
    ∃ x l q, (∀ k, n + 12 ≤ k → spec_l71Bad.f k s p t = some (x, l, q)) ∧ p ≤ q ∧ q ≤ p + 1048578 := by
  have hmax := pow20 n hn
  obtain ⟨x, l, q, hv, g1, g2, hl⟩ := val_ev s hs n t p d hp (by omega)
  generalize (2 : Int) ^ n = e at *
  obtain ⟨c, hc, c0, c1⟩ := pick_ev s hs q 12 (by omega) (by omega) (by omega)
  by_cases e0 : c = 0
  · obtain ⟨c', hc', c0', c1'⟩ := pick_ev s hs (q + 1) 4 (by omega) (by omega) (by omega)
    refine ⟨rd [(-1), 1, 9999, 10000] c', l, q + 1 + 1, fun k hk => ?_, by omega, by omega⟩
    unfold spec_l71Bad.f
    rw [hv k (by omega)]; simp only [Option.bind_some]
    rw [hc k (by omega)]; simp only [Option.bind_some]
    rw [if_pos e0, hc' k (by omega)]; simp only [Option.bind_some]
    rw [if_pos c0', if_pos (by simp; omega)]
  · by_cases e1 : c = 1
    · refine ⟨x, l ++ [⟨0, []⟩], q + 1, fun k hk => ?_, by omega, by omega⟩
      unfold spec_l71Bad.f
      rw [hv k (by omega)]; simp only [Option.bind_some]
      rw [hc k (by omega)]; simp only [Option.bind_some]
      rw [if_neg e0, if_pos e1, if_pos (by omega)]
    · by_cases e2 : c = 2
      · obtain ⟨y, m, hm⟩ := badLoop_ev s (q + 1) 5 0 rfl x l
        refine ⟨y, m, q + 1, fun k hk => ?_, by omega, by omega⟩
        unfold spec_l71Bad.f
        rw [hv k (by omega)]; simp only [Option.bind_some]
        rw [hc k (by omega)]; simp only [Option.bind_some]
        rw [if_neg e0, if_neg e1, if_pos e2]
        exact hm k (by omega)
      · refine ⟨x, l, q + 1, fun k hk => ?_, by omega, by omega⟩
        unfold spec_l71Bad.f
        rw [hv k (by omega)]; simp only [Option.bind_some]
        rw [hc k (by omega)]; simp only [Option.bind_some]
        rw [if_neg e0, if_neg e1, if_neg e2]
theorem typeN_ev (s : List Int) (hs : Bytes s) (d : Nat) (hd : d ≤ 20) (p : Int) (hp : 0 ≤ p) (hp1 : p ≤ 1099500000000) :
    ∃ r q, (∀ k, 3 * d + 4 ≤ k → spec_l71Type.f k s p d = some (r, q)) ∧ p ≤ q ∧ q ≤ p + 1048576 ∧ dp (d + 1) r = true := by
  have hmax := pow20 d hd
  obtain ⟨r, q, hr, _, h1, h2, _⟩ := type_ev s hs d (by omega) p hp (by omega)
  exact ⟨r, q, hr, h1, by omega, type_dp s _ d p r q (by omega) (hr (3 * d + 4) (Nat.le_refl _))⟩
theorem drawVal_ev (l : List Int) (h : ∀ x ∈ l, (Lit.int .u8 x).wf = true) : ∃ t x v, ∀ k, 60 ≤ k → spec_DrawValOk.f k l = some (t, x, v) := by
  obtain ⟨s, ho, hs⟩ := open_ev l h
  obtain ⟨c, hc, c0, c1⟩ := pick_ev s hs 0 4 (by omega) (by omega) (by omega)
  obtain ⟨cn, rfl⟩ := Int.eq_ofNat_of_zero_le c0
  have ew : wrap64 (1 + (cn : Int)) = ((1 + cn : Nat) : Int) := by rw [w64 (by omega) (by omega)]; omega
  obtain ⟨t, q1, ht, g1, g2, d1⟩ := typeN_ev s hs (1 + cn) (by omega) (0 + 1) (by omega) (by omega)
  obtain ⟨c', hc', c0', c1'⟩ := pick_ev s hs q1 5 (by omega) (by omega) (by omega)
  by_cases e : c' = 0
  · obtain ⟨t2, q2, ht2, g3, g4, d2⟩ := typeN_ev s hs 3 (by omega) (q1 + 1) (by omega) (by omega)
    obtain ⟨x, v, q3, hx, _, _⟩ := bad_ev s hs 4 (by omega) t2 d2 q2 (by omega) (by omega)
    refine ⟨t, x, v, fun k hk => ?_⟩
    unfold spec_DrawValOk.f
    rw [ho]; simp only [Option.bind_some]
    rw [hc k (by omega)]; simp only [Option.bind_some]
    rw [ew, ht k (by omega)]; simp only [Option.bind_some]
    rw [hc' k (by omega)]; simp only [Option.bind_some]
    rw [if_pos e, show (3 : Int) = ((3 : Nat) : Int) from rfl, ht2 k (by omega)]; simp only [Option.bind_some]
    rw [hx k (by omega)]; rfl
  · obtain ⟨x, v, q3, hx, _, _⟩ := bad_ev s hs (1 + cn + 1) (by omega) t d1 (q1 + 1) (by omega) (by omega)
    refine ⟨t, x, v, fun k hk => ?_⟩
    unfold spec_DrawValOk.f
    rw [ho]; simp only [Option.bind_some]
    rw [hc k (by omega)]; simp only [Option.bind_some]
    rw [ew, ht k (by omega)]; simp only [Option.bind_some]
    rw [hc' k (by omega)]; simp only [Option.bind_some]
    rw [if_neg e, hx k (by omega)]; rfl
end Go.Proofs.Ythfflieeifakdaa.Vals
end
section
set_option linter.unusedVariables false
set_option linter.unusedSimpArgs false
namespace Go.Proofs.Ythfflieeifakdaa.Ats
open Go.RowKit Go.Proofs.Ythfflieeifakdaa.PA Go.Proofs.YthfflieeifakdaaW.PrintWords Go.Proofs.YthfflieeifakdaaW.PrintLast Go.Proofs.Ythfflieeifakdaa.Draw Go.Proofs.Ythfflieeifakdaa.Types Go.Proofs.Ythfflieeifakdaa.Paths Go.Proofs.Ythfflieeifakdaa.Vals
def st : Nat → Vl → Option Ty
  | 0, _ => none
  | _ + 1, [] => some []
  | n + 1, [a, b] => (st n a.f1).bind fun s => (st n b.f1).bind fun t => some [⟨s⟩, ⟨t⟩]
  | _ + 1, _ => none
theorem st_nil (n : Nat) : st (n + 1) [] = some [] := rfl
theorem st_two (n : Nat) (a b : S25) : st (n + 1) [a, b] = (st n a.f1).bind fun s => (st n b.f1).bind fun t => some [⟨s⟩, ⟨t⟩] := rfl
theorem st_odd (n : Nat) (l : Vl) (h0 : l.length ≠ 0) (h2 : l.length ≠ 2) : st n l = none := by
  cases n with
  | zero => rfl
  | succ n =>
    match l with
    | [] => simp at h0
    | [_] => rfl
    | [_, _] => simp at h2
    | _ :: _ :: _ :: _ => rfl
theorem st_vt : ∀ (n : Nat) (x : Int) (l : Vl) (t : Ty), vt n x l = some t → st n l = some t := by
  intro n
  induction n with
  | zero => intro x l t h; cases h
  | succ n ih =>
    intro x l t h
    rcases vt_cases h with ⟨rfl, rfl, _, _⟩ | ⟨a, b, s, u, rfl, rfl, rfl, h1, h2⟩
    · rfl
    · rw [st_two, ih _ _ _ h1, ih _ _ _ h2]; rfl
theorem of_ev : ∀ (n : Nat), n ≤ 1000 → ∀ (x : Int) (l : Vl) (k : Nat), 5 * n + 3 ≤ k →
    (∀ t, st n l = some t → spec_l1Of.f k x l n = some (t, true)) ∧ (st n l = none → ∃ t, spec_l1Of.f k x l n = some (t, false)) := by
  intro n
  induction n with
  | zero =>
    intro _ x l k hk
    obtain ⟨k, rfl⟩ : ∃ m, k = m + 2 := ⟨k - 2, by omega⟩
    refine ⟨fun t h => (by cases h), fun _ => ⟨[], ?_⟩⟩
    simp only [spec_l1Of.f]
    rw [if_pos (by omega)]
    simp only [spec_l1Of.j0, if_true]
  | succ n ih =>
    intro hn x l k hk
    obtain ⟨k, rfl⟩ : ∃ m, k = m + 5 := ⟨k - 5, by omega⟩
    have hp := pred_cast n (by omega)
    simp only [spec_l1Of.f]
    rw [if_neg (by omega)]
    rcases shapeV l with rfl | ⟨a, b, rfl⟩ | ⟨h0, h2⟩
    · rw [if_pos (by simp)]
      refine ⟨fun t h => ?_, fun h => (by cases h)⟩
      cases h
      simp only [spec_l1Of.j0, spec_l1Of.l0]
      rw [if_neg (by simp), if_neg (by simp)]
    · rw [if_neg (by simp), show ((([a, b] : Vl).length : Int) != 2) = false from by simp]
      simp only [spec_l1Of.j0, spec_l1Of.l0, hp, w01, w12]
      rw [if_neg (by simp), if_pos (by simp), if_pos (by omega), rv0, st_two]
      have i1 := ih (by omega) a.f0 a.f1 (k + 2) (by omega)
      cases e1 : st n a.f1 with
      | none =>
        obtain ⟨t, h1⟩ := i1.2 e1
        rw [h1]; simp only [Option.bind_some]
        exact ⟨fun t h => (by cases h), fun _ => ⟨[], by rw [if_neg (by simp)]⟩⟩
      | some s =>
        rw [i1.1 s e1]; simp only [Option.bind_some, if_true]
        rw [if_pos (by simp), if_pos (by simp), if_pos (by omega), rv1]
        have i2 := ih (by omega) b.f0 b.f1 (k + 1) (by omega)
        cases e2 : st n b.f1 with
        | none =>
          obtain ⟨t, h1⟩ := i2.2 e2
          rw [h1]; simp only [Option.bind_some]
          exact ⟨fun t h => (by cases h), fun _ => ⟨_, by rw [if_neg (by simp)]⟩⟩
        | some u =>
          rw [i2.1 u e2]; simp only [Option.bind_some, if_true]
          rw [if_pos (by simp), if_neg (by simp)]
          exact ⟨fun t h => (by cases h; rfl), fun h => (by cases h)⟩
    · rw [if_neg (by omega), show ((l.length : Int) != 2) = true from by simp; omega]
      refine ⟨fun t h => (by rw [st_odd _ _ h0 h2] at h; cases h), fun _ => ⟨[], ?_⟩⟩
      simp only [spec_l1Of.j0, if_true]
theorem any_ok (x : Int) (l : Vl) (k : Nat) (hk : 25 ≤ k) : spec_l1Any.f k x l = some (vt 4 x l).isSome := by
  unfold spec_l1Any.f
  rw [show (4 : Int) = ((4 : Nat) : Int) from rfl]
  have h := of_ev 4 (by omega) x l k (by omega)
  cases e : st 4 l with
  | none =>
    obtain ⟨t, h1⟩ := h.2 e
    rw [h1]; simp only [Option.bind_some]
    rw [if_neg (by simp)]
    cases e2 : vt 4 x l with
    | none => rfl
    | some t => rw [st_vt _ _ _ _ e2] at e; cases e
  | some t =>
    rw [h.1 t e]; simp only [Option.bind_some, if_true]
    rw [specValOk_ev t x l k (by omega)]; simp only [Option.bind_some]
    cases e2 : vt 4 x l with
    | none =>
      cases e3 : vo t x l with
      | false => rfl
      | true => rw [(vo_iff t x l).1 e3] at e2; cases e2
    | some u =>
      have := st_vt _ _ _ _ e2
      rw [e] at this
      cases this
      rw [(vo_iff t x l).2 e2]; rfl
theorem anew_ev : ∀ (n : Nat) (x : Int) (l : Vl) (t : Ty) (k : Nat), vt n x l = some t → 4 * n ≤ k → spec_l1Anew.f k x l = some (x, l) := by
  intro n
  induction n with
  | zero => intro x l t k h; cases h
  | succ n ih =>
    intro x l t k h hk
    obtain ⟨k, rfl⟩ : ∃ m, k = m + 4 := ⟨k - 4, by omega⟩
    simp only [spec_l1Anew.f]
    rcases vt_cases h with ⟨rfl, rfl, _, _⟩ | ⟨a, b, s, u, rfl, rfl, rfl, h1, h2⟩
    · simp only [spec_l1Anew.l0]; rw [if_neg (by simp)]
    · simp only [spec_l1Anew.l0, w01, w12]
      rw [if_pos (by simp), if_pos (by omega), rv0, ih _ _ _ _ h1 (by omega)]; simp only [Option.bind_some]
      rw [if_pos (by simp), if_pos (by simp), if_pos (by omega), rv1, ih _ _ _ _ h2 (by omega)]; simp only [Option.bind_some]
      rw [if_pos (by simp), if_neg (by simp)]
      cases a; cases b; rfl
theorem specVLoop_ev (n : Nat) : ∀ (r pre : List Int) (x : Int) (l : Vl) (t : Ty) (k : Nat), vt n x l = some t → pre.length + r.length ≤ 4611686018427387904 → r.length + 4 * n + 1 ≤ k →
    spec_ValAt.l0 k (pre ++ r) (pre.length : Int) x l = some (av (pv r x l)) := by
  intro r
  induction r with
  | nil =>
    intro pre x l t k h h1 hk
    obtain ⟨k, rfl⟩ : ∃ m, k = m + 1 := ⟨k - 1, by omega⟩
    simp only [List.length_nil] at hk
    simp only [spec_ValAt.l0]
    rw [if_neg (by simp), anew_ev n x l t k h (by omega), pv_nil]; rfl
  | cons i r ih =>
    intro pre x l t k h h1 hk
    simp only [List.length_cons] at h1 hk
    obtain ⟨k, rfl⟩ : ∃ m, k = m + 1 := ⟨k - 1, by omega⟩
    simp only [spec_ValAt.l0, spec_l6In.f]
    have hl : ((pre ++ i :: r).length : Int) = pre.length + 1 + r.length := by simp; omega
    rw [if_pos (by omega), if_pos (by omega), rd_mid]
    cases n with
    | zero => cases h
    | succ n =>
      rcases vt_cases h with ⟨rfl, rfl, _, _⟩ | ⟨a, b, s, u, rfl, rfl, rfl, g1, g2⟩
      · rw [pv_odd _ _ _ _ (by simp), show wrap64 ((([] : Vl).length : Int) - 1) = -1 from w64 (by simp) (by simp)]
        by_cases hn : i ≥ 0
        · rw [if_pos hn]; simp only [Option.bind_some]; rw [if_neg (by simp; omega)]; rfl
        · rw [if_neg hn]; rfl
      · rw [pv_two, show wrap64 ((([a, b] : Vl).length : Int) - 1) = 1 from w64 (by simp) (by simp)]
        by_cases hn : i ≥ 0
        · rw [if_pos hn]; simp only [Option.bind_some]
          by_cases hb : i ≤ 1
          · rw [if_pos (by simpa using hb), if_pos (by omega), if_pos (by simp; omega), w64 (by omega) (by omega)]
            have ea : pre ++ i :: r = (pre ++ [i]) ++ r := by simp
            have el : (pre.length : Int) + 1 = ((pre ++ [i]).length : Int) := by simp
            rw [el, ea]
            by_cases h0 : i = 0
            · rw [if_pos h0, h0, rv0, ih _ _ _ _ _ (vt_succ _ _ _ _ g1) (by simp; omega) (by omega)]
            · rw [if_neg h0, if_pos (by omega), show i = 1 by omega, rv1, ih _ _ _ _ _ (vt_succ _ _ _ _ g2) (by simp; omega) (by omega)]
          · rw [if_neg (by simpa using hb), if_neg (by omega), if_neg (by omega)]; rfl
        · rw [if_neg hn, if_neg (show ¬ i = 0 by omega), if_neg (show ¬ i = 1 by omega)]; rfl
theorem specValAt_ev (x : Int) (l : Vl) (p : List Int) (k : Nat) (h : p.length ≤ 4611686018427387904) (hk : p.length + 30 ≤ k) : spec_ValAt.f k x l p = some (vat x l p) := by
  unfold spec_ValAt.f vat
  rw [any_ok x l k (by omega)]; simp only [Option.bind_some]
  cases e : vt 4 x l with
  | none => rfl
  | some t =>
    simp only [Option.isSome_some, if_true]
    have := specVLoop_ev 4 p [] x l t k e (by simpa using h) (by omega)
    simpa using this
theorem vat_vt (x : Int) (l : Vl) (p : List Int) : ∃ t, vt 4 (vat x l p).1 (vat x l p).2.1 = some t := by
  unfold vat
  cases e : vt 4 x l with
  | none => exact ⟨[], rfl⟩
  | some t =>
    simp only [Option.isSome_some, if_true]
    cases e2 : pv p x l with
    | none => exact ⟨[], rfl⟩
    | some r =>
      obtain ⟨u, _, hu⟩ := (vt_pv 4 p x l t e).1 r.1 r.2 e2
      exact ⟨u, hu⟩
theorem lhv_self : ∀ (n : Nat) (x : Int) (l : Vl) (t : Ty) (k : Nat), vt n x l = some t → 5 * n ≤ k → laws_lhVal.f k x l x l = some true := by
  intro n
  induction n with
  | zero => intro x l t k h; cases h
  | succ n ih =>
    intro x l t k h hk
    obtain ⟨k, rfl⟩ : ∃ m, k = m + 5 := ⟨k - 5, by omega⟩
    simp only [laws_lhVal.f, if_true]
    rw [show ((l.length : Int) != (l.length : Int)) = false from by simp]
    rcases vt_cases h with ⟨rfl, rfl, _, _⟩ | ⟨a, b, s, u, rfl, rfl, rfl, h1, h2⟩
    · simp only [laws_lhVal.j0, laws_lhVal.l0]; rw [if_neg (by simp), if_neg (by simp)]
    · simp only [laws_lhVal.j0, laws_lhVal.l0, w01, w12]
      rw [if_neg (by simp), if_pos (by simp), if_pos (by omega), if_pos (by simp), rv0, ih _ _ _ _ h1 (by omega)]; simp only [Option.bind_some, if_true]
      rw [if_pos (by simp), if_pos (by omega), if_pos (by simp), rv1, ih _ _ _ _ h2 (by omega)]; simp only [Option.bind_some, if_true]
      rw [if_neg (by simp)]
end Go.Proofs.Ythfflieeifakdaa.Ats
end
section
set_option linter.unusedVariables false
set_option linter.unusedSimpArgs false
namespace Go.Proofs.Ythfflieeifakdaa.Puts
open Go.RowKit Go.Proofs.Ythfflieeifakdaa.PA Go.Proofs.YthfflieeifakdaaW.PrintWords Go.Proofs.YthfflieeifakdaaW.PrintLast Go.Proofs.Ythfflieeifakdaa.Draw Go.Proofs.Ythfflieeifakdaa.Types Go.Proofs.Ythfflieeifakdaa.Paths Go.Proofs.Ythfflieeifakdaa.Vals Go.Proofs.Ythfflieeifakdaa.Ats
def wp : List Int → Int → Vl → Int → Vl → Int × Vl
  | [], _, _, y, m => (y, m)
  | i :: r, _, [a, b], y, m => if i = 0 then (0, [⟨(wp r a.f0 a.f1 y m).1, (wp r a.f0 a.f1 y m).2⟩, b]) else (0, [a, ⟨(wp r b.f0 b.f1 y m).1, (wp r b.f0 b.f1 y m).2⟩])
  | _ :: _, x, l, _, _ => (x, l)
theorem wp_nil (x : Int) (l : Vl) (y : Int) (m : Vl) : wp [] x l y m = (y, m) := by cases l <;> rfl
theorem wp_two (i : Int) (r : List Int) (x : Int) (a b : S25) (y : Int) (m : Vl) : wp (i :: r) x [a, b] y m = if i = 0 then (0, [⟨(wp r a.f0 a.f1 y m).1, (wp r a.f0 a.f1 y m).2⟩, b]) else (0, [a, ⟨(wp r b.f0 b.f1 y m).1, (wp r b.f0 b.f1 y m).2⟩]) := rfl
theorem vt_le (n m : Nat) (h : n ≤ m) (x : Int) (l : Vl) (t : Ty) (e : vt n x l = some t) : vt m x l = some t := by
  induction m with
  | zero => obtain rfl : n = 0 := by omega
            exact e
  | succ m ih =>
    by_cases g : n = m + 1
    · subst g; exact e
    · exact vt_succ _ _ _ _ (ih (by omega))
theorem vt_same {n m : Nat} {x : Int} {l : Vl} {t u : Ty} (h : vt n x l = some t) (g : vt m x l = some u) : t = u := by
  have h1 := vt_le n (max n m) (Nat.le_max_left _ _) x l t h
  have h2 := vt_le m (max n m) (Nat.le_max_right _ _) x l u g
  rw [h1] at h2
  cases h2; rfl
theorem vt_low : ∀ (m n : Nat) (x : Int) (l : Vl) (t : Ty), vt n x l = some t → dp m t = true → vt m x l = some t := by
  intro m
  induction m with
  | zero => intro n x l t _ h; simp [dp] at h
  | succ m ih =>
    intro n x l t h d
    cases n with
    | zero => cases h
    | succ n =>
      rcases vt_cases h with ⟨rfl, rfl, h0, h1⟩ | ⟨a, b, s, u, rfl, rfl, rfl, h1, h2⟩
      · rw [vt_nil, if_pos ⟨h0, h1⟩]
      · rw [dp_two, Bool.and_eq_true] at d
        rw [vt_two, if_pos rfl, ih _ _ _ _ h1 d.1, ih _ _ _ _ h2 d.2]; rfl
theorem wp_all : ∀ (p : List Int) (n : Nat) (x : Int) (l : Vl) (t : Ty) (q : Int × Vl) (y : Int) (m : Vl) (s : Ty) (N : Nat), vt n x l = some t → pv p x l = some q → vt N q.1 q.2 = some s → vt N y m = some s →
    vt n (wp p x l y m).1 (wp p x l y m).2 = some t ∧ pv p (wp p x l y m).1 (wp p x l y m).2 = some (y, m) ∧ wp p (wp p x l y m).1 (wp p x l y m).2 q.1 q.2 = (x, l) ∧ wp p x l q.1 q.2 = (x, l) := by
  intro p
  induction p with
  | nil =>
    intro n x l t q y m s N h e hq hy
    rw [pv_nil] at e
    cases e
    have := vt_same h hq
    subst this
    simp only [wp_nil, pv_nil]
    exact ⟨vt_low _ _ _ _ _ hy (vt_dp _ _ _ _ h), by trivial, by trivial, by trivial⟩
  | cons i r ih =>
    intro n x l t q y m s N h e hq hy
    cases n with
    | zero => cases h
    | succ n =>
      rcases vt_cases h with ⟨rfl, rfl, _, _⟩ | ⟨a, b, s1, u1, rfl, rfl, rfl, h1, h2⟩
      · cases e
      · rw [pv_two] at e
        rw [wp_two, wp_two]
        by_cases h0 : i = 0
        · rw [if_pos h0] at e
          rw [if_pos h0, if_pos h0]
          obtain ⟨g1, g2, g3, g4⟩ := ih n a.f0 a.f1 s1 q y m s N h1 e hq hy
          refine ⟨?_, ?_, ?_, ?_⟩
          · rw [vt_two, if_pos rfl, g1, h2]; rfl
          · rw [pv_two, if_pos h0]; exact g2
          · rw [wp_two, if_pos h0]; simp only [g3]; cases a; rfl
          · simp only [g4]; cases a; rfl
        · rw [if_neg h0] at e
          by_cases h3 : i = 1
          · rw [if_pos h3] at e
            rw [if_neg h0, if_neg h0]
            obtain ⟨g1, g2, g3, g4⟩ := ih n b.f0 b.f1 u1 q y m s N h2 e hq hy
            refine ⟨?_, ?_, ?_, ?_⟩
            · rw [vt_two, if_pos rfl, g1, h1]; rfl
            · rw [pv_two, if_neg h0, if_pos h3]; exact g2
            · rw [wp_two, if_neg h0]; simp only [g3]; cases b; rfl
            · simp only [g4]; cases b; rfl
          · rw [if_neg h3] at e; cases e
theorem pv_len : ∀ (p : List Int) (n : Nat) (x : Int) (l : Vl) (t : Ty) (q : Int × Vl), vt n x l = some t → pv p x l = some q → p.length < n := by
  intro p
  induction p with
  | nil => intro n x l t q h _; cases n with
    | zero => cases h
    | succ n => simp
  | cons i r ih =>
    intro n x l t q h e
    cases n with
    | zero => cases h
    | succ n =>
      rcases vt_cases h with ⟨rfl, rfl, _, _⟩ | ⟨a, b, s1, u1, rfl, rfl, rfl, h1, h2⟩
      · cases e
      · rw [pv_two] at e
        split at e
        · have := ih n _ _ _ _ h1 e; simp; omega
        · split at e
          · have := ih n _ _ _ _ h2 e; simp; omega
          · cases e
theorem valWith_ev : ∀ (p : List Int) (n : Nat) (x : Int) (l : Vl) (t : Ty) (q : Int × Vl) (y : Int) (m : Vl) (u : Ty) (k : Nat), vt n x l = some t → pv p x l = some q → vt 4 y m = some u → 5 * p.length + n + 8 ≤ k →
    impl_valWith.f k x l p y m = some (wp p x l y m) := by
  intro p
  induction p with
  | nil =>
    intro n x l t q y m u k h e hy hk
    obtain ⟨k, rfl⟩ : ∃ m, k = m + 1 := ⟨k - 1, by omega⟩
    simp only [impl_valWith.f]
    rw [if_pos (by first | (simp; done) | (simp; omega)), valCopy_ev 4 y m u k hy (by omega), wp_nil]; rfl
  | cons i r ih =>
    intro n x l t q y m u k h e hy hk
    simp only [List.length_cons] at hk
    obtain ⟨k, rfl⟩ : ∃ m, k = m + 4 := ⟨k - 4, by omega⟩
    simp only [impl_valWith.f]
    cases n with
    | zero => cases h
    | succ n =>
      rcases vt_cases h with ⟨rfl, rfl, _, _⟩ | ⟨a, b, s1, u1, rfl, rfl, rfl, h1, h2⟩
      · cases e
      · rw [pv_two] at e
        have r0 : rd (i :: r) 0 = i := rfl
        have d1 : (i :: r).drop 1 = r := rfl
        rw [if_neg (by first | omega | (simp; done) | (simp; omega))]
        simp only [impl_valWith.l0, r0, d1, w01, w12]
        rw [if_pos (by first | (simp; done) | (simp; omega)), if_pos (by first | omega | (simp; omega)), if_pos (by first | (simp; done) | (simp; omega)), if_pos (by first | omega | (simp; done) | (simp; omega)), wp_two]
        by_cases h0 : i = 0
        · rw [if_pos h0] at e
          subst h0
          rw [if_pos (by trivial), if_pos (by first | (simp; done) | (simp; omega)), rv0, ih n _ _ _ _ _ _ _ (k + 2) h1 e hy (by omega)]; simp only [Option.bind_some]
          rw [if_pos (by first | (simp; done) | (simp; omega)), if_pos (by first | (simp; done) | (simp; omega)), if_pos (by first | omega | (simp; omega)), if_pos (by first | (simp; done) | (simp; omega)), if_pos (by first | omega | (simp; done) | (simp; omega)), if_neg (by omega), rv1, valCopy_ev n _ _ _ (k + 1) h2 (by omega)]; simp only [Option.bind_some]
          rw [if_pos (by simp), if_neg (by simp), if_pos (by trivial)]
          cases b; rfl
        · rw [if_neg h0] at e
          by_cases h3 : i = 1
          · rw [if_pos h3] at e
            subst h3
            rw [if_neg (by omega), rv0, valCopy_ev n _ _ _ (k + 2) h1 (by omega)]; simp only [Option.bind_some]
            rw [if_pos (by first | (simp; done) | (simp; omega)), if_pos (by first | (simp; done) | (simp; omega)), if_pos (by first | omega | (simp; omega)), if_pos (by first | (simp; done) | (simp; omega)), if_pos (by first | omega | (simp; done) | (simp; omega)), if_pos (by trivial), if_pos (by first | (simp; done) | (simp; omega)), rv1, ih n _ _ _ _ _ _ _ (k + 1) h2 e hy (by omega)]; simp only [Option.bind_some]
            rw [if_pos (by first | (simp; done) | (simp; omega)), if_neg (by first | (simp; done) | (simp; omega)), if_neg (by omega)]
            cases a; rfl
          · rw [if_neg h3] at e; cases e
theorem l1Put_ev : ∀ (p : List Int) (n : Nat) (x : Int) (l : Vl) (t : Ty) (q : Int × Vl) (y : Int) (m : Vl) (u : Ty) (k : Nat), vt n x l = some t → pv p x l = some q → vt 4 y m = some u → p.length + 4 * n + 20 ≤ k →
    spec_l1Put.f k x l p y m = some (wp p x l y m) := by
  intro p
  induction p with
  | nil =>
    intro n x l t q y m u k h e hy hk
    obtain ⟨k, rfl⟩ : ∃ m, k = m + 1 := ⟨k - 1, by omega⟩
    simp only [spec_l1Put.f]
    rw [if_pos (by first | (simp; done) | (simp; omega)), anew_ev 4 y m u k hy (by omega), wp_nil]; rfl
  | cons i r ih =>
    intro n x l t q y m u k h e hy hk
    simp only [List.length_cons] at hk
    obtain ⟨k, rfl⟩ : ∃ m, k = m + 1 := ⟨k - 1, by omega⟩
    simp only [spec_l1Put.f]
    have h' := h
    cases n with
    | zero => cases h
    | succ n =>
      rcases vt_cases h with ⟨rfl, rfl, _, _⟩ | ⟨a, b, s1, u1, rfl, rfl, rfl, h1, h2⟩
      · cases e
      · rw [pv_two] at e
        have r0 : rd (i :: r) 0 = i := rfl
        have d1 : (i :: r).drop 1 = r := rfl
        rw [if_neg (by first | omega | (simp; done) | (simp; omega)), anew_ev (n + 1) _ _ _ k h' (by omega)]; simp only [Option.bind_some, r0, d1]
        rw [if_pos (by first | omega | (simp; done) | (simp; omega)), wp_two]
        by_cases h0 : i = 0
        · rw [if_pos h0] at e
          subst h0
          rw [if_pos (by first | omega | (simp; omega)), if_pos (by first | (simp; done) | (simp; omega)), if_pos (by first | (simp; done) | (simp; omega)), rv0, ih n _ _ _ _ _ _ _ k h1 e hy (by omega)]; simp only [Option.bind_some]
          rw [if_pos (by first | (simp; done) | (simp; omega)), if_pos (by trivial)]; rfl
        · rw [if_neg h0] at e
          by_cases h3 : i = 1
          · rw [if_pos h3] at e
            subst h3
            rw [if_pos (by first | omega | (simp; omega)), if_pos (by first | (simp; done) | (simp; omega)), if_pos (by first | (simp; done) | (simp; omega)), rv1, ih n _ _ _ _ _ _ _ k h2 e hy (by omega)]; simp only [Option.bind_some]
            rw [if_pos (by first | (simp; done) | (simp; omega)), if_neg (by omega)]; rfl
          · rw [if_neg h3] at e; cases e
theorem l1Same_ev : ∀ (n : Nat) (a b : Ty) (k : Nat), dp n a = true → dp n b = true → 4 * n ≤ k → spec_l1Same.f k a b = some (teq n a b) := by
  intro n
  induction n with
  | zero => intro a b k h; simp [dp] at h
  | succ n ih =>
    intro a b k ha hb hk
    obtain ⟨k, rfl⟩ : ∃ m, k = m + 4 := ⟨k - 4, by omega⟩
    simp only [spec_l1Same.f]
    rcases Types.shape a with rfl | ⟨a1, a2, rfl⟩ | ⟨h0, h2⟩
    · rcases Types.shape b with rfl | ⟨b1, b2, rfl⟩ | ⟨h0, h2⟩
      · rw [if_pos (by trivial)]; simp only [spec_l1Same.l0]; rw [if_neg (by first | (simp; done) | (simp; omega))]; rfl
      · rw [if_neg (by first | (simp; done) | (simp; omega))]; rfl
      · rw [dp_odd _ _ h0 h2] at hb; cases hb
    · rcases Types.shape b with rfl | ⟨b1, b2, rfl⟩ | ⟨h0, h2⟩
      · rw [if_neg (by first | (simp; done) | (simp; omega))]; rfl
      · rw [dp_two, Bool.and_eq_true] at ha hb
        rw [if_pos (by first | (simp; done) | (simp; omega))]
        simp only [spec_l1Same.l0, w01, w12]
        rw [if_pos (by first | (simp; done) | (simp; omega)), if_pos (by first | omega | (simp; omega)), if_pos (by first | (simp; done) | (simp; omega)), rd0, rd0, ih _ _ _ ha.1 hb.1 (by omega)]
        simp only [Option.bind_some]
        have e : teq (n + 1) [a1, a2] [b1, b2] = (teq n a1.f0 b1.f0 && teq n a2.f0 b2.f0) := rfl
        rw [e]
        cases h1 : teq n a1.f0 b1.f0 with
        | false => simp
        | true =>
          rw [if_pos (by trivial), if_pos (by first | (simp; done) | (simp; omega)), if_pos (by first | omega | (simp; omega)), if_pos (by first | (simp; done) | (simp; omega)), rd1, rd1, ih _ _ _ ha.2 hb.2 (by omega)]
          simp only [Option.bind_some]
          cases h2 : teq n a2.f0 b2.f0 with
          | false => simp
          | true => rw [if_pos (by trivial), if_neg (by first | (simp; done) | (simp; omega))]; rfl
      · rw [dp_odd _ _ h0 h2] at hb; cases hb
    · rw [dp_odd _ _ h0 h2] at ha; cases ha
def vput (x : Int) (l : Vl) (p : List Int) (y : Int) (m : Vl) : Int × Vl × Bool :=
  match vt 4 x l, pv p x l, vt 4 y m with
  | some _, some q, some u => match vt 4 q.1 q.2 with
    | some s => if teq 4 s u = true then ((wp p x l y m).1, (wp p x l y m).2, true) else (0, [], false)
    | none => (0, [], false)
  | _, _, _ => (0, [], false)
theorem implPut_ev (x : Int) (l : Vl) (p : List Int) (y : Int) (m : Vl) (k : Nat) (h : p.length ≤ 1000) (hk : 6000 ≤ k) : impl_ValPut.f k x l p y m = some (vput x l p y m) := by
  unfold impl_ValPut.f
  rw [implValAt_ev x l p k (by omega) (by omega)]; simp only [Option.bind_some]
  unfold vat vput
  cases e : vt 4 x l with
  | none => rfl
  | some t =>
    cases e2 : pv p x l with
    | none => rfl
    | some q =>
      obtain ⟨s, _, hs⟩ := (vt_pv 4 p x l t e).1 q.1 q.2 e2
      simp only [Option.isSome_some, if_true, av]
      rw [typed_ev _ _ k (by omega)]; simp only [Option.bind_some]
      rw [typed_ev _ _ k (by omega)]; simp only [Option.bind_some]
      cases e3 : vt 4 y m with
      | none => rfl
      | some u =>
        simp only [hs, at_, if_true]
        rw [same_ev 4 s u k (vt_dp _ _ _ _ hs) (vt_dp _ _ _ _ e3) (by omega)]; simp only [Option.bind_some]
        cases g : teq 4 s u with
        | false => rfl
        | true =>
          simp only [if_true]
          rw [valWith_ev p 4 x l t q y m u k e e2 e3 (by omega)]; rfl
theorem specPut_ev (x : Int) (l : Vl) (p : List Int) (y : Int) (m : Vl) (k : Nat) (h : p.length ≤ 1000) (hk : 6000 ≤ k) : spec_ValPut.f k x l p y m = some (vput x l p y m) := by
  obtain ⟨k, rfl⟩ : ∃ m, k = m + 1 := ⟨k - 1, by omega⟩
  unfold spec_ValPut.f
  rw [specValAt_ev x l p (k + 1) (by omega) (by omega)]; simp only [Option.bind_some]
  have bad : ∀ a b c d e f, spec_ValPut.j0 (k + 1) p true a b c d e f = some (0, [], false) := fun a b c d e f => by simp only [spec_ValPut.j0, if_true]
  unfold vat vput
  cases e : vt 4 x l with
  | none => simp [spec_ValPut.j0, av]
  | some t =>
    cases e2 : pv p x l with
    | none => simp [spec_ValPut.j0, av]
    | some q =>
      obtain ⟨s, _, hs⟩ := (vt_pv 4 p x l t e).1 q.1 q.2 e2
      simp only [Option.isSome_some, if_true, av]
      rw [any_ok _ _ (k + 1) (by omega)]; simp only [Option.bind_some]
      cases e3 : vt 4 y m with
      | none => simp [spec_ValPut.j0, av]
      | some u =>
        simp only [spec_ValPut.j0, Option.isSome_some, Bool.not_true]
        rw [if_neg (by simp), show (4 : Int) = ((4 : Nat) : Int) from rfl, (of_ev 4 (by omega) q.1 q.2 k (by omega)).1 s (st_vt _ _ _ _ hs)]; simp only [Option.bind_some]
        rw [(of_ev 4 (by omega) y m k (by omega)).1 u (st_vt _ _ _ _ e3)]; simp only [Option.bind_some]
        rw [l1Same_ev 4 s u k (vt_dp _ _ _ _ hs) (vt_dp _ _ _ _ e3) (by omega)]; simp only [Option.bind_some, hs]
        cases g : teq 4 s u with
        | false => rfl
        | true =>
          simp only [if_true]
          rw [l1Put_ev p 4 x l t q y m u k e e2 e3 (by omega)]; rfl
end Go.Proofs.Ythfflieeifakdaa.Puts
end
section
namespace Go.Proofs.Ythfflieeifakdaa.PA
open Go.RowKit Go.Proofs.YthfflieeifakdaaW.PrintWords Go.Proofs.YthfflieeifakdaaW.PrintLast Go.Proofs.YthfflieeifakdaaW.PrintMore
attribute [local go_sem] max2_int min2_int max_two min_two max_three min_three max_four min_four
set_option linter.unusedVariables false
set_option linter.unusedSimpArgs false
def spec_DrawValAt.f (k : Nat) (l0 : List Int) : Option (Int × (List (S25)) × List Int) := (spec_l6Open.f l0).bind fun bt198 => ((spec_l6Rd_pick.f k bt198.1 bt198.2 3).bind fun bt201 => ((spec_l71Type.f k bt198.1 bt201.2 (wrap64 (2 + bt201.1))).bind fun bt203 => ((spec_l71Bad.f k bt198.1 bt203.2 bt203.1).bind fun bt208 => ((spec_l71Any.f k bt198.1 bt208.2.2 bt203.1).bind fun bt213 => (some (bt208.1, bt208.2.1, bt213.1))))))
theorem spec_DrawValAt.mono : ∀ a0 k, LeO (spec_DrawValAt.f k a0) (spec_DrawValAt.f (k + 1) a0) := by
 intro a0 k
 unfold spec_DrawValAt.f
 repeat' first
   | (with_reducible exact spec_l6Rd_pick.mono _ _ _ _)
   | (with_reducible exact spec_l71Any.mono _ _ _ _)
   | (with_reducible exact spec_l71Bad.mono _ _ _ _)
   | (with_reducible exact spec_l71Type.mono _ _ _ _)
   | (with_reducible exact LeO.refl _)
   | (with_reducible exact LeO.none _)
   | (with_reducible refine LeO.ite ?_ ?_)
   | (with_reducible refine LeO.bind ?_ (fun _ => ?_))
   | exact spec_l6Rd_pick.mono _ _ _ _
   | exact spec_l71Any.mono _ _ _ _
   | exact spec_l71Bad.mono _ _ _ _
   | exact spec_l71Type.mono _ _ _ _
   | exact LeO.none _
   | refine LeO.ite ?_ ?_
   | refine LeO.bind ?_ (fun _ => ?_)
def spec_DrawValAt.T3 : Bool × List (List Nat × List Nat) := (true, [([], []), ([], []), ([0, 1], [0, 1]), ([], []), ([], []), ([3, 4, 2], [3, 4]), ([2, 5, 0, 1, 2], [2]), ([5, 6, 0, 1, 2, 3, 4, 5, 6], [5])])
def spec_DrawValAt.B3 : List Nat := [0, 0, 3, 0, 0, 31, 63, 127]
theorem spec_DrawValAt.tab3 : rtab .any (opsOf Try.f12 3) = spec_DrawValAt.T3 := by kernel_rfl
theorem spec_DrawValAt.bits3 : waitsOk spec_DrawValAt.T3.2 spec_DrawValAt.B3 = true := by kernel_rfl
set_option maxHeartbeats 8000000 in
set_option maxRecDepth 100000 in
theorem spec_DrawValAt.calls (k : Nat) (A0 : Option Addr) (c0 : Nat) (l0 : List Int) (r1 : Int) (r2 : List (S25)) (r3 : List Int) (w : World) (hr0 : Kd.C (Kd.int .u8) w A0 l0.length l0) (hc0 : l0.length ≤ c0) (h : spec_DrawValAt.f k l0 = some (r1, r2, r3)) :
  Calls Try.prog 12 #[.slice A0 l0.length c0] w fun e w' => ∃ v1_ v2_ : Value, e = .returned (.tuple #[.agg #[.int .i64 r1, v1_], v2_]) ∧ Kd.N k25 25 w' w.heap.size (fun k_ => (w.heap.size ≤ k_) ∧ some k_ ≠ (v2_ : Value).ownBlock) v1_ r2 ∧ Kd.R (Kd.int .i64) 3 w' w.heap.size (fun k_ => (w.heap.size ≤ k_)) v2_ r3 ∧ Below w.heap.size w w' := by
 have hu25 := Try.underlying25
 have hu50 := Try.underlying50
 have HR0 := Aside0.mk hr0
 have HC0 := Aside0.mk hc0
 clear hr0 hc0
 have HB := Aside0.mk (Below.refl w.heap.size w)
 have H : ((spec_l6Open.f l0).bind fun bt198 => ((spec_l6Rd_pick.f k bt198.1 bt198.2 3).bind fun bt201 => ((spec_l71Type.f k bt198.1 bt201.2 (wrap64 (2 + bt201.1))).bind fun bt203 => ((spec_l71Bad.f k bt198.1 bt203.2 bt203.1).bind fun bt208 => ((spec_l71Any.f k bt198.1 bt208.2.2 bt203.1).bind fun bt213 => (some (bt208.1, bt208.2.1, bt213.1))))))) = some (r1, r2, r3) := h
 clear h
 obtain ⟨⟨t198, t199⟩, A20, H⟩ := ob H
 have A2 := Aside0.mk A20
 clear A20
 obtain ⟨⟨t201, t202⟩, A30, H⟩ := ob H
 have A3 := Aside0.mk A30
 clear A30
 obtain ⟨⟨t203, t206⟩, A40, H⟩ := ob H
 have A4 := Aside0.mk A40
 clear A40
 obtain ⟨⟨t208, t209, t212⟩, A50, H⟩ := ob H
 have A5 := Aside0.mk A50
 clear A50
 obtain ⟨⟨t213, t216⟩, A60, H⟩ := ob H
 have A6 := Aside0.mk A60
 clear A60
 simp only [Option.some.injEq, Prod.mk.injEq] at H
 obtain ⟨rfl, rfl, rfl⟩ := H
 go_enter Try.func12, Try.ntmps12
 try go_wp2_with (first | ((with_reducible refine gate_dst (N := 2) rfl ?_); refine zbx 2 #[.int .i64 0, .slice none 0 0] 25 ?_; intro gb197 hg w7 hbox hb; have BK197 := Aside0.mk hbox; have GW197 := Aside0.mk ((y10 hg HB.out : w.heap.size ≤ gb197)); have GE197 := Aside0.mk ((y10 hg HB.out : w.heap.size ≤ gb197)); replace HB := Aside0.mk (below_step (y6 HB.out) hb); clear hb hbox hg) | ((with_reducible refine gate_callee (f := 30) rfl ?_); refine goesL_ (some 7) rfl rfl Try.func30 (by kernel_rfl) rfl #[.slice A0 l0.length c0] rfl y9 ?_; (with_reducible refine (spec_l6Open.calls _ _ l0 t198 t199 w _ ?side1 ?side2 ?side3 A2.out).mono ?_); (case side1 => exact y7 HB.out GE197.out); (case side2 => exact HR0.out); (case side3 => exact HC0.out); rintro e w8 ⟨g200, rfl, hi, hb, hb2⟩; refine ⟨_, rfl, ?_⟩; replace HB := Aside0.mk (hb); have HI200 := Aside0.mk (hi); have NB200_197 := Aside0.mk (IsS75.ne_blk hi (blk_below (g := gb197) (o := .cells #[.int .i64 0, .slice none 0 0] 25 (0, 0)) (y0 BK197.out) hb2) (by decide)); have NB197_200 := Aside0.mk (Ne.symm (IsS75.ne_blk hi (blk_below (g := gb197) (o := .cells #[.int .i64 0, .slice none 0 0] 25 (0, 0)) (y0 BK197.out) hb2) (by decide))); replace BK197 := Aside0.mk (blk_below (g := gb197) (o := .cells #[.int .i64 0, .slice none 0 0] 25 (0, 0)) (y0 BK197.out) hb2); (try clear hb); (try clear hb2); (try clear hk); (try clear hi)) | ((with_reducible refine gate_callee (f := 32) rfl ?_); refine goesL_ (some 10) rfl rfl Try.func32 (by kernel_rfl) rfl #[.pointer (some ⟨g200, 0, none⟩), .int .i64 3] rfl y9 ?_; (with_reducible refine (spec_l6Rd_pick.calls k g200 t198 t199 3 t201 t202 w _ ?side1 ?side2 A3.out).mono ?_); (case side1 => exact y35 HI200.out NB200_197.out); (case side2 => exact y31 HB.out HI200.out GE197.out); rintro e w9 ⟨rfl, hi, hb, hk⟩; refine ⟨_, rfl, ?_⟩; replace BK197 := Aside0.mk (KeepBut.blk hk (g' := gb197) (o := .cells #[.int .i64 0, .slice none 0 0] 25 (0, 0)) (y0 BK197.out) NB197_200.out (by simp)); replace HB := Aside0.mk (hb); replace HI200 := Aside0.mk (hi); (try clear hb); (try clear hb2); (try clear hk); (try clear hi)) | ((with_reducible refine gate_callee (f := 31) rfl ?_); refine goesL_ (some 12) rfl rfl Try.func31 (by kernel_rfl) rfl #[.pointer (some ⟨g200, 0, none⟩), .int .i64 (wrap64 (2 + t201))] rfl y9 ?_; (with_reducible refine (spec_l71Type.calls k g200 t198 t202 (wrap64 (2 + t201)) t203 t206 w _ ?side1 ?side2 A4.out).mono ?_); (case side1 => exact y35 HI200.out NB200_197.out); (case side2 => exact y31 HB.out HI200.out GE197.out); rintro e w10 ⟨v204, rfl, ho0, hi, hb, hk⟩; refine ⟨_, rfl, ?_⟩; have HO205 := Aside0.mk (Kd.N_lower (Kd.N_mono (ok' := fun k_ => (w.heap.size ≤ k_) ∧ k_ ≠ gb197 ∧ k_ ≠ g200) ho0 (fun k_ hk_ => ⟨(Nat.le_trans (below_size (y31 HB.out HI200.out GE197.out)) hk_), (Kd.freshB (g := gb197) (o := .cells #[.int .i64 0, .slice none 0 0] 25 (0, 0)) (y0 BK197.out) k_ hk_), (IsS75.fresh (y35 HI200.out NB200_197.out) k_ hk_)⟩)) (below_size (y31 HB.out HI200.out GE197.out))); replace BK197 := Aside0.mk (KeepBut.blk hk (g' := gb197) (o := .cells #[.int .i64 0, .slice none 0 0] 25 (0, 0)) (y0 BK197.out) NB197_200.out (by simp)); replace HB := Aside0.mk (hb); replace HI200 := Aside0.mk (hi); (try clear hb); (try clear hb2); (try clear hk); (try clear hi); (try clear ho0)) | ((with_reducible refine gate_dst (N := 5) rfl ?_); refine zbx 5 #[.slice none 0 0] 50 ?_; intro gb207 hg w11 hbox hb; replace HO205 := Aside0.mk (Kd.N_below (Kd.N_elderB (y2 HO205.out) gb207 (Nat.le_of_eq hg.symm)) hb); have BK207 := Aside0.mk hbox; have GW207 := Aside0.mk ((y88 hg HB.out HI200.out GE197.out : w.heap.size ≤ gb207)); have GE207 := Aside0.mk ((y88 hg HB.out HI200.out GE197.out : w.heap.size ≤ gb207)); replace HB := Aside0.mk (below_step (y31 HB.out HI200.out GE197.out) hb); have NB197_207 := zltn hg BK197; have NB207_197 := zgtn hg BK197; replace BK197 := zbb BK197 hb; have NB200_207 := Aside0.mk ((by rw [hg]; exact Nat.ne_of_lt (IsS75.lt (show IsS75 w _ g200 t198 t206 from by repeat (first | (with_reducible first | exact HI200.out | apply IsS75.alloc | apply IsS75.drewN | apply IsS75.drew | apply IsS75.set_1 | refine IsS75.far ?_ NB200_197.out _) | exact HI200.out))) : g200 ≠ gb207)); have NB207_200 := Aside0.mk ((by rw [hg]; exact Nat.ne_of_gt (IsS75.lt (show IsS75 w _ g200 t198 t206 from by repeat (first | (with_reducible first | exact HI200.out | apply IsS75.alloc | apply IsS75.drewN | apply IsS75.drew | apply IsS75.set_1 | refine IsS75.far ?_ NB200_197.out _) | exact HI200.out))) : gb207 ≠ g200)); replace HI200 := Aside0.mk (IsS75.below (y35 HI200.out NB200_197.out) hb); clear hb hbox hg; obtain ⟨Ao12, co12, eo12⟩ := Kd.N_slice HO205.out; subst eo12; have hnb13 := NB207_197.out; have hnc13 := NB197_207.out; have hnb14 := NB207_200.out; have hnc14 := NB200_207.out; have hcz15_0 := zh BK207; have hfz15_0 := zfr BK207 0))
 have n0_ : Aside0 (Kd.N k50 50 (w11.setCell ⟨gb207, 0, none⟩ (.slice Ao12 t203.length co12)) w.heap.size (fun k_ => (w.heap.size ≤ k_) ∧ k_ ≠ gb197 ∧ k_ ≠ g200 ∧ k_ ≠ gb207) (.slice Ao12 t203.length co12) t203) := ⟨(by (with_reducible repeat (first | apply Kd.N_alloc | apply Kd.N_drewN | apply Kd.N_drew)); exact Kd.N_mono (Kd.N_far (p := ⟨gb207, 0, none⟩) (Kd.N_mono HO205.out (fun k_ hk => (⟨hk, hk.2⟩ : _ ∧ k_ ≠ gb207))) (fun _ hk => hk.2) (.slice Ao12 t203.length co12)) (fun _ hk => ⟨hk.1.1.1, ⟨hk.1.1.2.1, ⟨hk.1.1.2.2, hk.1.2⟩⟩⟩))⟩
 have n1_ : Aside0 ((w11.setCell ⟨gb207, 0, none⟩ (.slice Ao12 t203.length co12)).heap[gb197]? = some (.cells #[.int .i64 0, .slice none 0 0] 25 (0, 0))) := ⟨(y13 NB197_207.out BK197.out)⟩
 have n2_ : Aside0 ((w11.setCell ⟨gb207, 0, none⟩ (.slice Ao12 t203.length co12)).heap[gb207]? = some (.cells #[.slice Ao12 t203.length co12] 50 (0, 0))) := ⟨(by (with_reducible repeat (first | refine blk_drewN ?_ _ | refine blk_drew ?_ | refine blk_alloc ?_ _)); refine blk_put (cs := #[.slice none 0 0]) ?_ 0 _ rfl; (with_reducible repeat (first | refine blk_drewN ?_ _ | refine blk_drew ?_ | refine blk_alloc ?_ _)); exact BK207.out)⟩
 have n3_ : Aside0 (IsS75 w (w11.setCell ⟨gb207, 0, none⟩ (.slice Ao12 t203.length co12)) g200 t198 t206) := ⟨(y24 HI200.out NB200_197.out NB200_207.out)⟩
 have n4_ : Aside0 (Below w.heap.size w (w11.setCell ⟨gb207, 0, none⟩ (.slice Ao12 t203.length co12))) := ⟨(y19 HB.out HI200.out GE197.out GE207.out)⟩
 (try clear HO205)
 (try clear BK197)
 (try clear BK207)
 (try clear HI200)
 (try clear HB)
 generalize (w11.setCell ⟨gb207, 0, none⟩ (.slice Ao12 t203.length co12)) = w16 at n0_ n1_ n2_ n3_ n4_ ⊢
 have HO205 := n0_
 have BK197 := n1_
 have BK207 := n2_
 have HI200 := n3_
 have HB := n4_
 clear n0_ n1_ n2_ n3_ n4_
 replace HO205 := Aside0.mk (Kd.N_drew HO205.out)
 replace BK197 := Aside0.mk (blk_drew BK197.out)
 replace BK207 := Aside0.mk (blk_drew BK207.out)
 replace HI200 := Aside0.mk (IsS75.drew HI200.out)
 replace HB := Aside0.mk (below_drew1 HB.out)
 refine start_ (n := 8) (S := fun w' => w'.cell? ⟨gb207, 0, none⟩ = some (.slice Ao12 t203.length co12)) (ds := []) #[false, false, false, false, false, false, false, false] (by kernel_rfl) rfl rfl ((blk_cell BK207.out 0).trans rfl) (fun hHeld => ?_); refine with_tabW spec_DrawValAt.tab3 spec_DrawValAt.bits3 (fun HT_ HW_ => ?_)
 generalize w16.drew = w17 at HO205 BK197 BK207 HI200 HB hHeld ⊢
 refine zp 0 (some 13) HT_ ?_
 refine zp 3 (some 16) HT_ ?_
 refine take_ (i := 1) (N := some 14) (v := ?_) (a' := ?_) #[true, true, false, true, false, false, false, false] rfl rfl (take_ofW HT_.out HW_.out (by kernel_rfl)) (fun _ _ _ h => h) (Or.inl ⟨(by rfl), ?_⟩) hHeld ?_ ?_
 rotate_left
 ·intro w' s0
  go_simp
  with_reducible rfl
 rotate_left
 ·simp only [Act.put, List.setIfInBounds_toArray, List.set_cons_zero, List.set_cons_succ, i64_w, i32_w]
  rfl
 refine take_ (i := 4) (N := some 17) (v := ?_) (a' := ?_) #[true, true, false, true, true, false, false, false] rfl rfl (take_ofW HT_.out HW_.out (by kernel_rfl)) (fun _ _ _ h => h) (Or.inl ⟨(by rfl), ?_⟩) hHeld ?_ ?_
 rotate_left
 ·intro w' s0
  go_simp
  with_reducible rfl
 rotate_left
 ·simp only [Act.put, List.setIfInBounds_toArray, List.set_cons_zero, List.set_cons_succ, i64_w, i32_w]
  rfl
 refine one_ (i := 2) (N := some 15) #[true, true, true, true, true, false, false, false] rfl rfl (one_of HT_.out (by kernel_rfl)) (by decide) (fun K hK => ?_)
 refine goes_ Try.func33 (by kernel_rfl) rfl #[.pointer (some ⟨g200, 0, none⟩), .agg #[.slice Ao12 t203.length co12]] (by rfl) rfl rfl y9 ?_
 with_reducible refine (spec_l71Bad.calls k g200 t198 t206 (fun k_ => ((w.heap.size ≤ k_) ∧ (k_ ≠ gb197 ∧ (k_ ≠ g200 ∧ k_ ≠ gb207)))) _ _ t203 t208 t209 t212 w _ ?side1 ?side2 ?side3 A5.out).mono ?_
 (case side1 => exact y24 HI200.out NB200_197.out NB200_207.out)
 (case side2 => exact y19 HB.out HI200.out GE197.out GE207.out)
 (case side3 => exact Kd.V_mono (Kd.N_V (HO205.out)) (fun k_ hk_ => ⟨hk_, hk_.2.2.1⟩))
 rintro e w18 ⟨v210, rfl, ho0, hi, hb, hk⟩
 refine ⟨_, rfl, ?_⟩
 replace HO205 := Aside0.mk (Kd.N_mono (Kd.N_told (Kd.N_oldK (Kd.N_mono (ok := fun k_ => (((w.heap.size ≤ k_)) ∧ (k_ ≠ gb197 ∧ (k_ ≠ g200 ∧ k_ ≠ gb207)))) (y2 HO205.out) (fun k_ hk_ => (⟨hk_, hk_.2.2.1⟩ : _ ∧ k_ ≠ g200))) hk) (Kd.N_base ho0)) (fun _ h_ => h_.1))
 have HO211 := Aside0.mk (Kd.N_lower (Kd.N_mono (ok' := fun k_ => (w.heap.size ≤ k_) ∧ k_ ≠ gb197 ∧ k_ ≠ gb207 ∧ k_ ≠ g200) ho0 (fun k_ hk_ => ⟨Or.elim hk_ (fun hs_ => hs_.1) (fun hn_ => (Nat.le_trans (below_size (y19 HB.out HI200.out GE197.out GE207.out)) hn_)), Or.elim hk_ (fun hs_ => hs_.2.1) (fun hn_ => (Kd.freshB (g := gb197) (o := .cells #[.int .i64 0, .slice none 0 0] 25 (0, 0)) (y0 BK197.out) k_ hn_)), Or.elim hk_ (fun hs_ => hs_.2.2.2) (fun hn_ => (Kd.freshB (g := gb207) (o := .cells #[.slice Ao12 t203.length co12] 50 (0, 0)) (y0 BK207.out) k_ hn_)), Or.elim hk_ (fun hs_ => hs_.2.2.1) (fun hn_ => (IsS75.fresh (y24 HI200.out NB200_197.out NB200_207.out) k_ hn_))⟩)) (below_size (y19 HB.out HI200.out GE197.out GE207.out)))
 replace BK197 := Aside0.mk (KeepBut.blk hk (g' := gb197) (o := .cells #[.int .i64 0, .slice none 0 0] 25 (0, 0)) (y0 BK197.out) NB197_200.out (by simp))
 replace BK207 := Aside0.mk (KeepBut.blk hk (g' := gb207) (o := .cells #[.slice Ao12 t203.length co12] 50 (0, 0)) (y0 BK207.out) NB207_200.out (by simp))
 replace HB := Aside0.mk (hb)
 replace HI200 := Aside0.mk (hi)
 (try clear hb)
 (try clear hb2)
 (try clear hk)
 (try clear hi)
 (try clear ho0)
 refine hK.out _ _ ((blk_cell BK207.out 0).trans rfl) (fun hHeld => ?_)
 clear hK K
 refine norm_ (a' := ?_) ?_ ?_
 rotate_left
 ·show Act.put _ (some 15) _ = _
  simp only [Act.put, List.setIfInBounds_toArray, List.set_cons_zero, List.set_cons_succ, i64_w, i32_w]
  rfl
 refine one_ (i := 5) (N := some 18) #[true, true, true, true, true, true, false, false] rfl rfl (one_of HT_.out (by kernel_rfl)) (by decide) (fun K hK => ?_)
 refine goes_ Try.func34 (by kernel_rfl) rfl #[.pointer (some ⟨g200, 0, none⟩), .agg #[.slice Ao12 t203.length co12]] (by rfl) rfl rfl y9 ?_
 with_reducible refine (spec_l71Any.calls k g200 t198 t212 (fun k_ => (((w.heap.size ≤ k_) ∧ (k_ ≠ gb197 ∧ (k_ ≠ g200 ∧ k_ ≠ gb207))) ∧ some k_ ≠ (v210 : Value).ownBlock)) _ _ t203 t213 t216 w _ ?side1 ?side2 ?side3 A6.out).mono ?_
 (case side1 => exact y24 HI200.out NB200_197.out NB200_207.out)
 (case side2 => exact y19 HB.out HI200.out GE197.out GE207.out)
 (case side3 => exact Kd.V_mono (Kd.N_V (HO205.out)) (fun k_ hk_ => ⟨hk_, hk_.1.2.2.1⟩))
 rintro e w19 ⟨v214, rfl, ho0, hi, hb, hk⟩
 refine ⟨_, rfl, ?_⟩
 replace BK197 := Aside0.mk (KeepBut.blk hk (g' := gb197) (o := .cells #[.int .i64 0, .slice none 0 0] 25 (0, 0)) (y0 BK197.out) NB197_200.out (by simp))
 replace HO205 := Aside0.mk (Kd.N_mono (Kd.N_told (Kd.N_oldK (Kd.N_mono (ok := fun k_ => ((((w.heap.size ≤ k_)) ∧ (k_ ≠ gb197 ∧ (k_ ≠ g200 ∧ k_ ≠ gb207))) ∧ some k_ ≠ (v210 : Value).ownBlock)) (y2 HO205.out) (fun k_ hk_ => (⟨hk_, hk_.1.2.2.1⟩ : _ ∧ k_ ≠ g200))) hk) (Kd.R_base ho0)) (fun _ h_ => h_.1))
 replace BK207 := Aside0.mk (KeepBut.blk hk (g' := gb207) (o := .cells #[.slice Ao12 t203.length co12] 50 (0, 0)) (y0 BK207.out) NB207_200.out (by simp))
 replace HO211 := Aside0.mk (Kd.N_mono (Kd.N_told (Kd.N_oldK (Kd.N_mono (ok := fun k_ => (((w.heap.size ≤ k_)) ∧ (k_ ≠ gb197 ∧ (k_ ≠ gb207 ∧ k_ ≠ g200)))) (y2 HO211.out) (fun k_ hk_ => (⟨hk_, hk_.2.2.2⟩ : _ ∧ k_ ≠ g200))) hk) (Kd.R_base ho0)) (fun _ h_ => h_.1))
 have HO215 := Aside0.mk (Kd.R_lower (Kd.R_newM (M := fun k_ => (w.heap.size ≤ k_)) (Kd.R_mono (ok' := fun k_ => True) ho0 (fun _ _ => trivial)) (below_size (y19 HB.out HI200.out GE197.out GE207.out)) (fun k_ h_ => h_)) (below_size (y19 HB.out HI200.out GE197.out GE207.out)))
 replace HB := Aside0.mk (hb)
 replace HI200 := Aside0.mk (hi)
 (try clear hb)
 (try clear hb2)
 (try clear hk)
 (try clear hi)
 (try clear ho0)
 obtain ⟨Ao21, co21, eo21⟩ := Kd.N_slice HO211.out
 (first | subst eo21 | (injection eo21 with f1_ f2_ f3_; have f4_ := f1_.symm; have f5_ := f3_.symm; clear f1_ f2_ f3_; subst f4_; subst f5_))
 refine hK.out _ _ ((blk_cell BK207.out 0).trans rfl) (fun hHeld => ?_)
 clear hK K
 refine norm_ (a' := ?_) ?_ ?_
 rotate_left
 ·show Act.put _ (some 18) _ = _
  simp only [Act.put, List.setIfInBounds_toArray, List.set_cons_zero, List.set_cons_succ, i64_w, i32_w]
  rfl
 refine one_ (i := 6) (N := none) #[true, true, true, true, true, true, true, false] rfl rfl (one_of HT_.out (by kernel_rfl)) (by decide) (fun K hK => ?_)
 have hs20 : w19.cell? ⟨gb197, 0, none⟩ = some (.int .i64 0) := (blk_cell BK197.out 0).trans rfl
 have hfs20 := zfr BK197 0
 have hns20_1 := NB207_197.out
 have hms20_1 := NB197_207.out
 have hs22 : w19.cell? ⟨gb197, 1, none⟩ = some (.slice none 0 0) := (blk_cell BK197.out 1).trans rfl
 have hfs22 := zfr BK197 1
 have hns22_1 := NB207_197.out
 have hms22_1 := NB197_207.out
 refine skip_ (w1 := ?_) (by rfl) rfl ?_ ?_
 rotate_left
 ·go_simp
  rfl
 refine hK.out _ _ (((cell_far (p := ⟨gb197, _, none⟩) NB207_197.out _).trans (((cell_far (p := ⟨gb197, _, none⟩) NB207_197.out _).trans (hHeld))))) (fun hHeld => ?_)
 clear hK K
 refine zp 7 (some 3) HT_ ?_
 refine done_ (done_of HT_.out (by kernel_rfl)) ?_
 try go_wp2
 refine bodyPost_ret (results_ct rfl _ _ gb197 25 #[.int .i64 t208, .slice Ao21 t209.length co21] (0, 0) _ rfl (by (with_reducible repeat (first | refine blk_drewN ?_ _ | refine blk_drew ?_ | refine blk_alloc ?_ _)); refine blk_put (cs := #[.int .i64 t208, .slice none 0 0]) ?_ 1 _ rfl; (with_reducible repeat (first | refine blk_drewN ?_ _ | refine blk_drew ?_ | refine blk_alloc ?_ _)); apply blk_put (i := 0); (case h => exact y0 BK197.out); (case e => rfl)) Try.underlying25 rfl (by kernel_rfl)) rfl ?_
 exact ⟨_, _, y15, (by (with_reducible repeat (first | apply Kd.N_alloc | apply Kd.N_drewN | apply Kd.N_drew)); exact Kd.N_mono (Kd.N_far (p := ⟨gb197, 1, none⟩) (Kd.N_far (p := ⟨gb197, 0, none⟩) (Kd.N_mono HO211.out (fun k_ hk => (⟨hk, hk.1.2.1⟩ : _ ∧ k_ ≠ gb197))) (fun _ hk => hk.2) (.int .i64 t208)) (fun _ hk => hk.2) (.slice Ao21 t209.length co21)) (fun _ hk => ⟨hk.1.1.1, hk.1.2⟩)), (by (with_reducible repeat (first | apply Kd.R_alloc | apply Kd.R_drewN | apply Kd.R_drew)); exact Kd.R_mono (Kd.R_far (p := ⟨gb197, 1, none⟩) (Kd.R_far (p := ⟨gb197, 0, none⟩) (Kd.R_types HO215.out BK197.out (by decide)) (fun _ hk => hk.2) (.int .i64 t208)) (fun _ hk => hk.2) (.slice Ao21 t209.length co21)) (fun _ hk => hk.1.1)), (y19 HB.out HI200.out GE197.out GE207.out)⟩
end Go.Proofs.Ythfflieeifakdaa.PA
end
