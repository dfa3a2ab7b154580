-- Ythfflieeifakdaa's texts for the statement FnValTwice, one behind the other (merge.py).
import Derived.Test.YthfflieeifakdaaQFnValTwice0
import Derived.Test.YthfflieeifakdaaQFnValTwice2
import Derived.Test.YthfflieeifakdaaQFnValTwice4
import Derived.Test.YthfflieeifakdaaQFnValTwice3
import Derived.Test.YthfflieeifakdaaQFnValTwice1
import Derived.SizedLaws
import Derived.ChangeSlices
import Derived.Test.YthfflieeifakdaaRows
import Derived.WalkKit
import Derived.ProofKit
import Derived.OpenShut
import Derived.ShutString
import Derived.ChangeOld
import Derived.Below
section
namespace Go.Proofs.Ythfflieeifakdaa.PA
open Go.RowKit Go.Proofs.YthfflieeifakdaaW.PrintWords Go.Proofs.YthfflieeifakdaaW.PrintLast Go.Proofs.YthfflieeifakdaaW.PrintMore
attribute [local go_sem] max2_int min2_int max_two min_two max_three min_three max_four min_four
set_option linter.unusedVariables false
set_option linter.unusedSimpArgs false
def spec_DrawValAt.f (k : Nat) (l0 : List Int) : Option (Int × (List (S25)) × List Int) := (spec_l6Open.f l0).bind fun bt198 => ((spec_l6Rd_pick.f k bt198.1 bt198.2 3).bind fun bt201 => ((spec_l71Type.f k bt198.1 bt201.2 (wrap64 (2 + bt201.1))).bind fun bt203 => ((spec_l71Bad.f k bt198.1 bt203.2 bt203.1).bind fun bt208 => ((spec_l71Any.f k bt198.1 bt208.2.2 bt203.1).bind fun bt213 => (some (bt208.1, bt208.2.1, bt213.1))))))
theorem spec_DrawValAt.mono : ∀ a0 k, LeO (spec_DrawValAt.f k a0) (spec_DrawValAt.f (k + 1) a0) := by
 intro a0 k
 unfold spec_DrawValAt.f
 repeat' first
   | (with_reducible exact spec_l6Rd_pick.mono _ _ _ _)
   | (with_reducible exact spec_l71Any.mono _ _ _ _)
   | (with_reducible exact spec_l71Bad.mono _ _ _ _)
   | (with_reducible exact spec_l71Type.mono _ _ _ _)
   | (with_reducible exact LeO.refl _)
   | (with_reducible exact LeO.none _)
   | (with_reducible refine LeO.ite ?_ ?_)
   | (with_reducible refine LeO.bind ?_ (fun _ => ?_))
   | exact spec_l6Rd_pick.mono _ _ _ _
   | exact spec_l71Any.mono _ _ _ _
   | exact spec_l71Bad.mono _ _ _ _
   | exact spec_l71Type.mono _ _ _ _
   | exact LeO.none _
   | refine LeO.ite ?_ ?_
   | refine LeO.bind ?_ (fun _ => ?_)
def spec_DrawValAt.T3 : Bool × List (List Nat × List Nat) := (true, [([], []), ([], []), ([0, 1], [0, 1]), ([], []), ([], []), ([3, 4, 2], [3, 4]), ([2, 5, 0, 1, 2], [2]), ([5, 6, 0, 1, 2, 3, 4, 5, 6], [5])])
def spec_DrawValAt.B3 : List Nat := [0, 0, 3, 0, 0, 31, 63, 127]
theorem spec_DrawValAt.tab3 : rtab .any (opsOf Try.f12 3) = spec_DrawValAt.T3 := by kernel_rfl
theorem spec_DrawValAt.bits3 : waitsOk spec_DrawValAt.T3.2 spec_DrawValAt.B3 = true := by kernel_rfl
set_option maxHeartbeats 8000000 in
set_option maxRecDepth 100000 in
theorem spec_DrawValAt.calls (k : Nat) (A0 : Option Addr) (c0 : Nat) (l0 : List Int) (r1 : Int) (r2 : List (S25)) (r3 : List Int) (w : World) (hr0 : Kd.C (Kd.int .u8) w A0 l0.length l0) (hc0 : l0.length ≤ c0) (h : spec_DrawValAt.f k l0 = some (r1, r2, r3)) :
  Calls Try.prog 12 #[.slice A0 l0.length c0] w fun e w' => ∃ v1_ v2_ : Value, e = .returned (.tuple #[.agg #[.int .i64 r1, v1_], v2_]) ∧ Kd.N k25 25 w' w.heap.size (fun k_ => (w.heap.size ≤ k_) ∧ some k_ ≠ (v2_ : Value).ownBlock) v1_ r2 ∧ Kd.R (Kd.int .i64) 3 w' w.heap.size (fun k_ => (w.heap.size ≤ k_)) v2_ r3 ∧ Below w.heap.size w w' := by
 have hu25 := Try.underlying25
 have hu50 := Try.underlying50
 have HR0 := Aside0.mk hr0
 have HC0 := Aside0.mk hc0
 clear hr0 hc0
 have HB := Aside0.mk (Below.refl w.heap.size w)
 have H : ((spec_l6Open.f l0).bind fun bt198 => ((spec_l6Rd_pick.f k bt198.1 bt198.2 3).bind fun bt201 => ((spec_l71Type.f k bt198.1 bt201.2 (wrap64 (2 + bt201.1))).bind fun bt203 => ((spec_l71Bad.f k bt198.1 bt203.2 bt203.1).bind fun bt208 => ((spec_l71Any.f k bt198.1 bt208.2.2 bt203.1).bind fun bt213 => (some (bt208.1, bt208.2.1, bt213.1))))))) = some (r1, r2, r3) := h
 clear h
 obtain ⟨⟨t198, t199⟩, A20, H⟩ := ob H
 have A2 := Aside0.mk A20
 clear A20
 obtain ⟨⟨t201, t202⟩, A30, H⟩ := ob H
 have A3 := Aside0.mk A30
 clear A30
 obtain ⟨⟨t203, t206⟩, A40, H⟩ := ob H
 have A4 := Aside0.mk A40
 clear A40
 obtain ⟨⟨t208, t209, t212⟩, A50, H⟩ := ob H
 have A5 := Aside0.mk A50
 clear A50
 obtain ⟨⟨t213, t216⟩, A60, H⟩ := ob H
 have A6 := Aside0.mk A60
 clear A60
 simp only [Option.some.injEq, Prod.mk.injEq] at H
 obtain ⟨rfl, rfl, rfl⟩ := H
 go_enter Try.func12, Try.ntmps12
 try go_wp2_with (first | ((with_reducible refine gate_dst (N := 2) rfl ?_); refine zbx 2 #[.int .i64 0, .slice none 0 0] 25 ?_; intro gb197 hg w7 hbox hb; have BK197 := Aside0.mk hbox; have GW197 := Aside0.mk ((y10 hg HB.out : w.heap.size ≤ gb197)); have GE197 := Aside0.mk ((y10 hg HB.out : w.heap.size ≤ gb197)); replace HB := Aside0.mk (below_step (y6 HB.out) hb); clear hb hbox hg) | ((with_reducible refine gate_callee (f := 30) rfl ?_); refine goesL_ (some 7) rfl rfl Try.func30 (by kernel_rfl) rfl #[.slice A0 l0.length c0] rfl y9 ?_; (with_reducible refine (spec_l6Open.calls _ _ l0 t198 t199 w _ ?side1 ?side2 ?side3 A2.out).mono ?_); (case side1 => exact y7 HB.out GE197.out); (case side2 => exact HR0.out); (case side3 => exact HC0.out); rintro e w8 ⟨g200, rfl, hi, hb, hb2⟩; refine ⟨_, rfl, ?_⟩; replace HB := Aside0.mk (hb); have HI200 := Aside0.mk (hi); have NB200_197 := Aside0.mk (IsS75.ne_blk hi (blk_below (g := gb197) (o := .cells #[.int .i64 0, .slice none 0 0] 25 (0, 0)) (y0 BK197.out) hb2) (by decide)); have NB197_200 := Aside0.mk (Ne.symm (IsS75.ne_blk hi (blk_below (g := gb197) (o := .cells #[.int .i64 0, .slice none 0 0] 25 (0, 0)) (y0 BK197.out) hb2) (by decide))); replace BK197 := Aside0.mk (blk_below (g := gb197) (o := .cells #[.int .i64 0, .slice none 0 0] 25 (0, 0)) (y0 BK197.out) hb2); (try clear hb); (try clear hb2); (try clear hk); (try clear hi)) | ((with_reducible refine gate_callee (f := 32) rfl ?_); refine goesL_ (some 10) rfl rfl Try.func32 (by kernel_rfl) rfl #[.pointer (some ⟨g200, 0, none⟩), .int .i64 3] rfl y9 ?_; (with_reducible refine (spec_l6Rd_pick.calls k g200 t198 t199 3 t201 t202 w _ ?side1 ?side2 A3.out).mono ?_); (case side1 => exact y35 HI200.out NB200_197.out); (case side2 => exact y31 HB.out HI200.out GE197.out); rintro e w9 ⟨rfl, hi, hb, hk⟩; refine ⟨_, rfl, ?_⟩; replace BK197 := Aside0.mk (KeepBut.blk hk (g' := gb197) (o := .cells #[.int .i64 0, .slice none 0 0] 25 (0, 0)) (y0 BK197.out) NB197_200.out (by simp)); replace HB := Aside0.mk (hb); replace HI200 := Aside0.mk (hi); (try clear hb); (try clear hb2); (try clear hk); (try clear hi)) | ((with_reducible refine gate_callee (f := 31) rfl ?_); refine goesL_ (some 12) rfl rfl Try.func31 (by kernel_rfl) rfl #[.pointer (some ⟨g200, 0, none⟩), .int .i64 (wrap64 (2 + t201))] rfl y9 ?_; (with_reducible refine (spec_l71Type.calls k g200 t198 t202 (wrap64 (2 + t201)) t203 t206 w _ ?side1 ?side2 A4.out).mono ?_); (case side1 => exact y35 HI200.out NB200_197.out); (case side2 => exact y31 HB.out HI200.out GE197.out); rintro e w10 ⟨v204, rfl, ho0, hi, hb, hk⟩; refine ⟨_, rfl, ?_⟩; have HO205 := Aside0.mk (Kd.N_lower (Kd.N_mono (ok' := fun k_ => (w.heap.size ≤ k_) ∧ k_ ≠ gb197 ∧ k_ ≠ g200) ho0 (fun k_ hk_ => ⟨(Nat.le_trans (below_size (y31 HB.out HI200.out GE197.out)) hk_), (Kd.freshB (g := gb197) (o := .cells #[.int .i64 0, .slice none 0 0] 25 (0, 0)) (y0 BK197.out) k_ hk_), (IsS75.fresh (y35 HI200.out NB200_197.out) k_ hk_)⟩)) (below_size (y31 HB.out HI200.out GE197.out))); replace BK197 := Aside0.mk (KeepBut.blk hk (g' := gb197) (o := .cells #[.int .i64 0, .slice none 0 0] 25 (0, 0)) (y0 BK197.out) NB197_200.out (by simp)); replace HB := Aside0.mk (hb); replace HI200 := Aside0.mk (hi); (try clear hb); (try clear hb2); (try clear hk); (try clear hi); (try clear ho0)) | ((with_reducible refine gate_dst (N := 5) rfl ?_); refine zbx 5 #[.slice none 0 0] 50 ?_; intro gb207 hg w11 hbox hb; replace HO205 := Aside0.mk (Kd.N_below (Kd.N_elderB (y2 HO205.out) gb207 (Nat.le_of_eq hg.symm)) hb); have BK207 := Aside0.mk hbox; have GW207 := Aside0.mk ((y88 hg HB.out HI200.out GE197.out : w.heap.size ≤ gb207)); have GE207 := Aside0.mk ((y88 hg HB.out HI200.out GE197.out : w.heap.size ≤ gb207)); replace HB := Aside0.mk (below_step (y31 HB.out HI200.out GE197.out) hb); have NB197_207 := zltn hg BK197; have NB207_197 := zgtn hg BK197; replace BK197 := zbb BK197 hb; have NB200_207 := Aside0.mk ((by rw [hg]; exact Nat.ne_of_lt (IsS75.lt (show IsS75 w _ g200 t198 t206 from by repeat (first | (with_reducible first | exact HI200.out | apply IsS75.alloc | apply IsS75.drewN | apply IsS75.drew | apply IsS75.set_1 | refine IsS75.far ?_ NB200_197.out _) | exact HI200.out))) : g200 ≠ gb207)); have NB207_200 := Aside0.mk ((by rw [hg]; exact Nat.ne_of_gt (IsS75.lt (show IsS75 w _ g200 t198 t206 from by repeat (first | (with_reducible first | exact HI200.out | apply IsS75.alloc | apply IsS75.drewN | apply IsS75.drew | apply IsS75.set_1 | refine IsS75.far ?_ NB200_197.out _) | exact HI200.out))) : gb207 ≠ g200)); replace HI200 := Aside0.mk (IsS75.below (y35 HI200.out NB200_197.out) hb); clear hb hbox hg; obtain ⟨Ao12, co12, eo12⟩ := Kd.N_slice HO205.out; subst eo12; have hnb13 := NB207_197.out; have hnc13 := NB197_207.out; have hnb14 := NB207_200.out; have hnc14 := NB200_207.out; have hcz15_0 := zh BK207; have hfz15_0 := zfr BK207 0))
 have n0_ : Aside0 (Kd.N k50 50 (w11.setCell ⟨gb207, 0, none⟩ (.slice Ao12 t203.length co12)) w.heap.size (fun k_ => (w.heap.size ≤ k_) ∧ k_ ≠ gb197 ∧ k_ ≠ g200 ∧ k_ ≠ gb207) (.slice Ao12 t203.length co12) t203) := ⟨(by (with_reducible repeat (first | apply Kd.N_alloc | apply Kd.N_drewN | apply Kd.N_drew)); exact Kd.N_mono (Kd.N_far (p := ⟨gb207, 0, none⟩) (Kd.N_mono HO205.out (fun k_ hk => (⟨hk, hk.2⟩ : _ ∧ k_ ≠ gb207))) (fun _ hk => hk.2) (.slice Ao12 t203.length co12)) (fun _ hk => ⟨hk.1.1.1, ⟨hk.1.1.2.1, ⟨hk.1.1.2.2, hk.1.2⟩⟩⟩))⟩
 have n1_ : Aside0 ((w11.setCell ⟨gb207, 0, none⟩ (.slice Ao12 t203.length co12)).heap[gb197]? = some (.cells #[.int .i64 0, .slice none 0 0] 25 (0, 0))) := ⟨(y13 NB197_207.out BK197.out)⟩
 have n2_ : Aside0 ((w11.setCell ⟨gb207, 0, none⟩ (.slice Ao12 t203.length co12)).heap[gb207]? = some (.cells #[.slice Ao12 t203.length co12] 50 (0, 0))) := ⟨(by (with_reducible repeat (first | refine blk_drewN ?_ _ | refine blk_drew ?_ | refine blk_alloc ?_ _)); refine blk_put (cs := #[.slice none 0 0]) ?_ 0 _ rfl; (with_reducible repeat (first | refine blk_drewN ?_ _ | refine blk_drew ?_ | refine blk_alloc ?_ _)); exact BK207.out)⟩
 have n3_ : Aside0 (IsS75 w (w11.setCell ⟨gb207, 0, none⟩ (.slice Ao12 t203.length co12)) g200 t198 t206) := ⟨(y24 HI200.out NB200_197.out NB200_207.out)⟩
 have n4_ : Aside0 (Below w.heap.size w (w11.setCell ⟨gb207, 0, none⟩ (.slice Ao12 t203.length co12))) := ⟨(y19 HB.out HI200.out GE197.out GE207.out)⟩
 (try clear HO205)
 (try clear BK197)
 (try clear BK207)
 (try clear HI200)
 (try clear HB)
 generalize (w11.setCell ⟨gb207, 0, none⟩ (.slice Ao12 t203.length co12)) = w16 at n0_ n1_ n2_ n3_ n4_ ⊢
 have HO205 := n0_
 have BK197 := n1_
 have BK207 := n2_
 have HI200 := n3_
 have HB := n4_
 clear n0_ n1_ n2_ n3_ n4_
 replace HO205 := Aside0.mk (Kd.N_drew HO205.out)
 replace BK197 := Aside0.mk (blk_drew BK197.out)
 replace BK207 := Aside0.mk (blk_drew BK207.out)
 replace HI200 := Aside0.mk (IsS75.drew HI200.out)
 replace HB := Aside0.mk (below_drew1 HB.out)
 refine start_ (n := 8) (S := fun w' => w'.cell? ⟨gb207, 0, none⟩ = some (.slice Ao12 t203.length co12)) (ds := []) #[false, false, false, false, false, false, false, false] (by kernel_rfl) rfl rfl ((blk_cell BK207.out 0).trans rfl) (fun hHeld => ?_); refine with_tabW spec_DrawValAt.tab3 spec_DrawValAt.bits3 (fun HT_ HW_ => ?_)
 generalize w16.drew = w17 at HO205 BK197 BK207 HI200 HB hHeld ⊢
 refine zp 0 (some 13) HT_ ?_
 refine zp 3 (some 16) HT_ ?_
 refine take_ (i := 1) (N := some 14) (v := ?_) (a' := ?_) #[true, true, false, true, false, false, false, false] rfl rfl (take_ofW HT_.out HW_.out (by kernel_rfl)) (fun _ _ _ h => h) (Or.inl ⟨(by rfl), ?_⟩) hHeld ?_ ?_
 rotate_left
 ·intro w' s0
  go_simp
  with_reducible rfl
 rotate_left
 ·simp only [Act.put, List.setIfInBounds_toArray, List.set_cons_zero, List.set_cons_succ, i64_w, i32_w]
  rfl
 refine take_ (i := 4) (N := some 17) (v := ?_) (a' := ?_) #[true, true, false, true, true, false, false, false] rfl rfl (take_ofW HT_.out HW_.out (by kernel_rfl)) (fun _ _ _ h => h) (Or.inl ⟨(by rfl), ?_⟩) hHeld ?_ ?_
 rotate_left
 ·intro w' s0
  go_simp
  with_reducible rfl
 rotate_left
 ·simp only [Act.put, List.setIfInBounds_toArray, List.set_cons_zero, List.set_cons_succ, i64_w, i32_w]
  rfl
 refine one_ (i := 2) (N := some 15) #[true, true, true, true, true, false, false, false] rfl rfl (one_of HT_.out (by kernel_rfl)) (by decide) (fun K hK => ?_)
 refine goes_ Try.func33 (by kernel_rfl) rfl #[.pointer (some ⟨g200, 0, none⟩), .agg #[.slice Ao12 t203.length co12]] (by rfl) rfl rfl y9 ?_
 with_reducible refine (spec_l71Bad.calls k g200 t198 t206 (fun k_ => ((w.heap.size ≤ k_) ∧ (k_ ≠ gb197 ∧ (k_ ≠ g200 ∧ k_ ≠ gb207)))) _ _ t203 t208 t209 t212 w _ ?side1 ?side2 ?side3 A5.out).mono ?_
 (case side1 => exact y24 HI200.out NB200_197.out NB200_207.out)
 (case side2 => exact y19 HB.out HI200.out GE197.out GE207.out)
 (case side3 => exact Kd.V_mono (Kd.N_V (HO205.out)) (fun k_ hk_ => ⟨hk_, hk_.2.2.1⟩))
 rintro e w18 ⟨v210, rfl, ho0, hi, hb, hk⟩
 refine ⟨_, rfl, ?_⟩
 replace HO205 := Aside0.mk (Kd.N_mono (Kd.N_told (Kd.N_oldK (Kd.N_mono (ok := fun k_ => (((w.heap.size ≤ k_)) ∧ (k_ ≠ gb197 ∧ (k_ ≠ g200 ∧ k_ ≠ gb207)))) (y2 HO205.out) (fun k_ hk_ => (⟨hk_, hk_.2.2.1⟩ : _ ∧ k_ ≠ g200))) hk) (Kd.N_base ho0)) (fun _ h_ => h_.1))
 have HO211 := Aside0.mk (Kd.N_lower (Kd.N_mono (ok' := fun k_ => (w.heap.size ≤ k_) ∧ k_ ≠ gb197 ∧ k_ ≠ gb207 ∧ k_ ≠ g200) ho0 (fun k_ hk_ => ⟨Or.elim hk_ (fun hs_ => hs_.1) (fun hn_ => (Nat.le_trans (below_size (y19 HB.out HI200.out GE197.out GE207.out)) hn_)), Or.elim hk_ (fun hs_ => hs_.2.1) (fun hn_ => (Kd.freshB (g := gb197) (o := .cells #[.int .i64 0, .slice none 0 0] 25 (0, 0)) (y0 BK197.out) k_ hn_)), Or.elim hk_ (fun hs_ => hs_.2.2.2) (fun hn_ => (Kd.freshB (g := gb207) (o := .cells #[.slice Ao12 t203.length co12] 50 (0, 0)) (y0 BK207.out) k_ hn_)), Or.elim hk_ (fun hs_ => hs_.2.2.1) (fun hn_ => (IsS75.fresh (y24 HI200.out NB200_197.out NB200_207.out) k_ hn_))⟩)) (below_size (y19 HB.out HI200.out GE197.out GE207.out)))
 replace BK197 := Aside0.mk (KeepBut.blk hk (g' := gb197) (o := .cells #[.int .i64 0, .slice none 0 0] 25 (0, 0)) (y0 BK197.out) NB197_200.out (by simp))
 replace BK207 := Aside0.mk (KeepBut.blk hk (g' := gb207) (o := .cells #[.slice Ao12 t203.length co12] 50 (0, 0)) (y0 BK207.out) NB207_200.out (by simp))
 replace HB := Aside0.mk (hb)
 replace HI200 := Aside0.mk (hi)
 (try clear hb)
 (try clear hb2)
 (try clear hk)
 (try clear hi)
 (try clear ho0)
 refine hK.out _ _ ((blk_cell BK207.out 0).trans rfl) (fun hHeld => ?_)
 clear hK K
 refine norm_ (a' := ?_) ?_ ?_
 rotate_left
 ·show Act.put _ (some 15) _ = _
  simp only [Act.put, List.setIfInBounds_toArray, List.set_cons_zero, List.set_cons_succ, i64_w, i32_w]
  rfl
 refine one_ (i := 5) (N := some 18) #[true, true, true, true, true, true, false, false] rfl rfl (one_of HT_.out (by kernel_rfl)) (by decide) (fun K hK => ?_)
 refine goes_ Try.func34 (by kernel_rfl) rfl #[.pointer (some ⟨g200, 0, none⟩), .agg #[.slice Ao12 t203.length co12]] (by rfl) rfl rfl y9 ?_
 with_reducible refine (spec_l71Any.calls k g200 t198 t212 (fun k_ => (((w.heap.size ≤ k_) ∧ (k_ ≠ gb197 ∧ (k_ ≠ g200 ∧ k_ ≠ gb207))) ∧ some k_ ≠ (v210 : Value).ownBlock)) _ _ t203 t213 t216 w _ ?side1 ?side2 ?side3 A6.out).mono ?_
 (case side1 => exact y24 HI200.out NB200_197.out NB200_207.out)
 (case side2 => exact y19 HB.out HI200.out GE197.out GE207.out)
 (case side3 => exact Kd.V_mono (Kd.N_V (HO205.out)) (fun k_ hk_ => ⟨hk_, hk_.1.2.2.1⟩))
 rintro e w19 ⟨v214, rfl, ho0, hi, hb, hk⟩
 refine ⟨_, rfl, ?_⟩
 replace BK197 := Aside0.mk (KeepBut.blk hk (g' := gb197) (o := .cells #[.int .i64 0, .slice none 0 0] 25 (0, 0)) (y0 BK197.out) NB197_200.out (by simp))
 replace HO205 := Aside0.mk (Kd.N_mono (Kd.N_told (Kd.N_oldK (Kd.N_mono (ok := fun k_ => ((((w.heap.size ≤ k_)) ∧ (k_ ≠ gb197 ∧ (k_ ≠ g200 ∧ k_ ≠ gb207))) ∧ some k_ ≠ (v210 : Value).ownBlock)) (y2 HO205.out) (fun k_ hk_ => (⟨hk_, hk_.1.2.2.1⟩ : _ ∧ k_ ≠ g200))) hk) (Kd.R_base ho0)) (fun _ h_ => h_.1))
 replace BK207 := Aside0.mk (KeepBut.blk hk (g' := gb207) (o := .cells #[.slice Ao12 t203.length co12] 50 (0, 0)) (y0 BK207.out) NB207_200.out (by simp))
 replace HO211 := Aside0.mk (Kd.N_mono (Kd.N_told (Kd.N_oldK (Kd.N_mono (ok := fun k_ => (((w.heap.size ≤ k_)) ∧ (k_ ≠ gb197 ∧ (k_ ≠ gb207 ∧ k_ ≠ g200)))) (y2 HO211.out) (fun k_ hk_ => (⟨hk_, hk_.2.2.2⟩ : _ ∧ k_ ≠ g200))) hk) (Kd.R_base ho0)) (fun _ h_ => h_.1))
 have HO215 := Aside0.mk (Kd.R_lower (Kd.R_newM (M := fun k_ => (w.heap.size ≤ k_)) (Kd.R_mono (ok' := fun k_ => True) ho0 (fun _ _ => trivial)) (below_size (y19 HB.out HI200.out GE197.out GE207.out)) (fun k_ h_ => h_)) (below_size (y19 HB.out HI200.out GE197.out GE207.out)))
 replace HB := Aside0.mk (hb)
 replace HI200 := Aside0.mk (hi)
 (try clear hb)
 (try clear hb2)
 (try clear hk)
 (try clear hi)
 (try clear ho0)
 obtain ⟨Ao21, co21, eo21⟩ := Kd.N_slice HO211.out
 (first | subst eo21 | (injection eo21 with f1_ f2_ f3_; have f4_ := f1_.symm; have f5_ := f3_.symm; clear f1_ f2_ f3_; subst f4_; subst f5_))
 refine hK.out _ _ ((blk_cell BK207.out 0).trans rfl) (fun hHeld => ?_)
 clear hK K
 refine norm_ (a' := ?_) ?_ ?_
 rotate_left
 ·show Act.put _ (some 18) _ = _
  simp only [Act.put, List.setIfInBounds_toArray, List.set_cons_zero, List.set_cons_succ, i64_w, i32_w]
  rfl
 refine one_ (i := 6) (N := none) #[true, true, true, true, true, true, true, false] rfl rfl (one_of HT_.out (by kernel_rfl)) (by decide) (fun K hK => ?_)
 have hs20 : w19.cell? ⟨gb197, 0, none⟩ = some (.int .i64 0) := (blk_cell BK197.out 0).trans rfl
 have hfs20 := zfr BK197 0
 have hns20_1 := NB207_197.out
 have hms20_1 := NB197_207.out
 have hs22 : w19.cell? ⟨gb197, 1, none⟩ = some (.slice none 0 0) := (blk_cell BK197.out 1).trans rfl
 have hfs22 := zfr BK197 1
 have hns22_1 := NB207_197.out
 have hms22_1 := NB197_207.out
 refine skip_ (w1 := ?_) (by rfl) rfl ?_ ?_
 rotate_left
 ·go_simp
  rfl
 refine hK.out _ _ (((cell_far (p := ⟨gb197, _, none⟩) NB207_197.out _).trans (((cell_far (p := ⟨gb197, _, none⟩) NB207_197.out _).trans (hHeld))))) (fun hHeld => ?_)
 clear hK K
 refine zp 7 (some 3) HT_ ?_
 refine done_ (done_of HT_.out (by kernel_rfl)) ?_
 try go_wp2
 refine bodyPost_ret (results_ct rfl _ _ gb197 25 #[.int .i64 t208, .slice Ao21 t209.length co21] (0, 0) _ rfl (by (with_reducible repeat (first | refine blk_drewN ?_ _ | refine blk_drew ?_ | refine blk_alloc ?_ _)); refine blk_put (cs := #[.int .i64 t208, .slice none 0 0]) ?_ 1 _ rfl; (with_reducible repeat (first | refine blk_drewN ?_ _ | refine blk_drew ?_ | refine blk_alloc ?_ _)); apply blk_put (i := 0); (case h => exact y0 BK197.out); (case e => rfl)) Try.underlying25 rfl (by kernel_rfl)) rfl ?_
 exact ⟨_, _, y15, (by (with_reducible repeat (first | apply Kd.N_alloc | apply Kd.N_drewN | apply Kd.N_drew)); exact Kd.N_mono (Kd.N_far (p := ⟨gb197, 1, none⟩) (Kd.N_far (p := ⟨gb197, 0, none⟩) (Kd.N_mono HO211.out (fun k_ hk => (⟨hk, hk.1.2.1⟩ : _ ∧ k_ ≠ gb197))) (fun _ hk => hk.2) (.int .i64 t208)) (fun _ hk => hk.2) (.slice Ao21 t209.length co21)) (fun _ hk => ⟨hk.1.1.1, hk.1.2⟩)), (by (with_reducible repeat (first | apply Kd.R_alloc | apply Kd.R_drewN | apply Kd.R_drew)); exact Kd.R_mono (Kd.R_far (p := ⟨gb197, 1, none⟩) (Kd.R_far (p := ⟨gb197, 0, none⟩) (Kd.R_types HO215.out BK197.out (by decide)) (fun _ hk => hk.2) (.int .i64 t208)) (fun _ hk => hk.2) (.slice Ao21 t209.length co21)) (fun _ hk => hk.1.1)), (y19 HB.out HI200.out GE197.out GE207.out)⟩
end Go.Proofs.Ythfflieeifakdaa.PA
end
section
set_option linter.unusedVariables false
namespace Go.Proofs.Ythfflieeifakdaa.DrawV
open Go.RowKit Go.Proofs.Ythfflieeifakdaa.PA Go.Proofs.YthfflieeifakdaaW.PrintWords Go.Proofs.YthfflieeifakdaaW.PrintLast Go.Proofs.Ythfflieeifakdaa.Draw Go.Proofs.Ythfflieeifakdaa.Types Go.Proofs.Ythfflieeifakdaa.Paths Go.Proofs.Ythfflieeifakdaa.Vals
theorem dph_dp : ∀ (n : Nat) (t : Ty), dp (n + 1) t = true → Dph n t := by
  intro n
  induction n with
  | zero =>
    intro t h
    rcases Types.shape t with rfl | ⟨a, b, rfl⟩ | ⟨h0, h2⟩
    · rfl
    · rw [dp_two, Bool.and_eq_true] at h; simp [dp] at h
    · rw [dp_odd _ _ h0 h2] at h; cases h
  | succ n ih =>
    intro t h
    rcases Types.shape t with rfl | ⟨a, b, rfl⟩ | ⟨h0, h2⟩
    · exact dph_nil _
    · rw [dp_two, Bool.and_eq_true] at h
      intro x hx
      rcases List.mem_cons.1 hx with rfl | hx
      · exact ih _ h.1
      · rw [List.mem_singleton.1 hx]; exact ih _ h.2
    · rw [dp_odd _ _ h0 h2] at h; cases h
theorem drawValAt_ev (l : List Int) (h : ∀ x ∈ l, (Lit.int .u8 x).wf = true) : ∃ x v p, (∀ k, 60 ≤ k → spec_DrawValAt.f k l = some (x, v, p)) ∧ p.length ≤ 11 := by
  obtain ⟨s, ho, hs⟩ := open_ev l h
  obtain ⟨c, hc, c0, c1⟩ := pick_ev s hs 0 3 (by omega) (by omega) (by omega)
  obtain ⟨cn, rfl⟩ := Int.eq_ofNat_of_zero_le c0
  have ew : wrap64 (2 + (cn : Int)) = ((2 + cn : Nat) : Int) := by rw [w64 (by omega) (by omega)]; omega
  obtain ⟨t, q1, ht, g1, g2, d1⟩ := typeN_ev s hs (2 + cn) (by omega) (0 + 1) (by omega) (by omega)
  obtain ⟨x, v, q2, hx, g3, g4⟩ := bad_ev s hs (2 + cn + 1) (by omega) t d1 q1 (by omega) (by omega)
  obtain ⟨p, q3, hp, _, _, hl⟩ := any_ev s hs (2 + cn) t (by omega) (dph_dp _ _ d1) q2 (by omega) (by omega)
  refine ⟨x, v, p, fun k hk => ?_, by omega⟩
  unfold spec_DrawValAt.f
  rw [ho]; simp only [Option.bind_some]
  rw [hc k (by omega)]; simp only [Option.bind_some]
  rw [ew, ht k (by omega)]; simp only [Option.bind_some]
  rw [hx k (by omega)]; simp only [Option.bind_some]
  rw [hp k (by omega)]; rfl
end Go.Proofs.Ythfflieeifakdaa.DrawV
end
section
set_option linter.unusedVariables false
namespace Go.Proofs.Ythfflieeifakdaa.DrawP
open Go.RowKit Go.Proofs.Ythfflieeifakdaa.PA Go.Proofs.YthfflieeifakdaaW.PrintWords Go.Proofs.YthfflieeifakdaaW.PrintLast Go.Proofs.Ythfflieeifakdaa.Draw Go.Proofs.Ythfflieeifakdaa.Types Go.Proofs.Ythfflieeifakdaa.Paths Go.Proofs.Ythfflieeifakdaa.Vals Go.Proofs.Ythfflieeifakdaa.DrawV
theorem drawPut1_ev (s : List Int) (hs : Bytes s) (c : Nat) (hc : c ≤ 10) (t part : Ty) (p : List Int) (d : dp c t = true) (dq : dp 4 part = true) (b : Bool) (q : Int) (hq : 0 ≤ q) (hq1 : q ≤ 1099400000000) :
    ∃ x v y m, ∀ k, 50 ≤ k → spec_DrawValPut.j0 k p b s q t part = some (x, v, p, y, m) := by
  cases b with
  | true =>
    obtain ⟨u, q1, hu, g1, g2, d1⟩ := typeN_ev s hs 2 (by omega) q (by omega) (by omega)
    obtain ⟨x, v, q2, hx, g3, g4⟩ := bad_ev s hs c (by omega) t d q1 (by omega) (by omega)
    obtain ⟨y, m, q3, hy, _, _⟩ := bad_ev s hs 3 (by omega) u d1 q2 (by omega) (by omega)
    refine ⟨x, v, y, m, fun k hk => ?_⟩
    obtain ⟨k, rfl⟩ : ∃ m, k = m + 1 := ⟨k - 1, by omega⟩
    simp only [spec_DrawValPut.j0, if_true]
    have hu' := hu k (by omega)
    rw [show (((2 : Nat) : Int)) = (2 : Int) from rfl] at hu'
    rw [hu']; simp only [Option.bind_some]
    rw [hx k (by omega)]; simp only [Option.bind_some]
    rw [hy k (by omega)]; rfl
  | false =>
    obtain ⟨x, v, q2, hx, g3, g4⟩ := bad_ev s hs c (by omega) t d q (by omega) (by omega)
    obtain ⟨y, m, q3, hy, _, _⟩ := bad_ev s hs 4 (by omega) part dq q2 (by omega) (by omega)
    refine ⟨x, v, y, m, fun k hk => ?_⟩
    obtain ⟨k, rfl⟩ : ∃ m, k = m + 1 := ⟨k - 1, by omega⟩
    simp only [spec_DrawValPut.j0]
    rw [if_neg (by simp), hx k (by omega)]; simp only [Option.bind_some]
    rw [hy k (by omega)]; rfl
theorem drawValPut_ev (l : List Int) (h : ∀ x ∈ l, (Lit.int .u8 x).wf = true) : ∃ x v p y m, (∀ k, 60 ≤ k → spec_DrawValPut.f k l = some (x, v, p, y, m)) ∧ p.length ≤ 11 := by
  obtain ⟨s, ho, hs⟩ := open_ev l h
  obtain ⟨c, hc, c0, c1⟩ := pick_ev s hs 0 3 (by omega) (by omega) (by omega)
  obtain ⟨cn, rfl⟩ := Int.eq_ofNat_of_zero_le c0
  have ew : wrap64 (2 + (cn : Int)) = ((2 + cn : Nat) : Int) := by rw [w64 (by omega) (by omega)]; omega
  obtain ⟨t, q1, ht, g1, g2, d1⟩ := typeN_ev s hs (2 + cn) (by omega) (0 + 1) (by omega) (by omega)
  obtain ⟨p, q3, hp, g5, g6, hl⟩ := any_ev s hs (2 + cn) t (by omega) (dph_dp _ _ d1) q1 (by omega) (by omega)
  obtain ⟨e, he, e0, e1⟩ := pick_ev s hs q3 8 (by omega) (by omega) (by omega)
  have hd := tat_ok t p
  cases g : (tat t p).2 with
  | true =>
    obtain ⟨x, v, y, m, hj⟩ := drawPut1_ev s hs (2 + cn + 1) (by omega) t (tat t p).1 p d1 hd (e == 0) (q3 + 1) (by omega) (by omega)
    refine ⟨x, v, p, y, m, fun k hk => ?_, by omega⟩
    unfold spec_DrawValPut.f
    rw [ho]; simp only [Option.bind_some]
    rw [hc k (by omega)]; simp only [Option.bind_some]
    rw [ew, ht k (by omega)]; simp only [Option.bind_some]
    rw [hp k (by omega)]; simp only [Option.bind_some]
    rw [specTypeAt_ev t p k (by omega) (by omega)]; simp only [Option.bind_some]
    rw [if_pos g, he k (by omega)]; simp only [Option.bind_some]
    exact hj k (by omega)
  | false =>
    obtain ⟨x, v, y, m, hj⟩ := drawPut1_ev s hs (2 + cn + 1) (by omega) t (tat t p).1 p d1 hd true q3 (by omega) (by omega)
    refine ⟨x, v, p, y, m, fun k hk => ?_, by omega⟩
    unfold spec_DrawValPut.f
    rw [ho]; simp only [Option.bind_some]
    rw [hc k (by omega)]; simp only [Option.bind_some]
    rw [ew, ht k (by omega)]; simp only [Option.bind_some]
    rw [hp k (by omega)]; simp only [Option.bind_some]
    rw [specTypeAt_ev t p k (by omega) (by omega)]; simp only [Option.bind_some]
    rw [if_neg (by rw [g]; simp)]
    exact hj k (by omega)
end Go.Proofs.Ythfflieeifakdaa.DrawP
end
section
set_option linter.unusedVariables false
set_option linter.unusedSimpArgs false
namespace Go.Proofs.Ythfflieeifakdaa.PutLaws
open Go.RowKit Go.Proofs.Ythfflieeifakdaa.PA Go.Proofs.YthfflieeifakdaaW.PrintWords Go.Proofs.YthfflieeifakdaaW.PrintLast Go.Proofs.Ythfflieeifakdaa.Draw Go.Proofs.Ythfflieeifakdaa.Types Go.Proofs.Ythfflieeifakdaa.Paths Go.Proofs.Ythfflieeifakdaa.Vals Go.Proofs.Ythfflieeifakdaa.Ats Go.Proofs.Ythfflieeifakdaa.Puts
theorem vput_of {x : Int} {l : Vl} {p : List Int} {y : Int} {m : Vl} {t s : Ty} {q : Int × Vl} (h1 : vt 4 x l = some t) (h2 : pv p x l = some q) (h3 : vt 4 q.1 q.2 = some s) (h4 : vt 4 y m = some s) :
    vput x l p y m = ((wp p x l y m).1, (wp p x l y m).2, true) := by
  unfold vput
  rw [h1, h2, h4]
  simp only [h3]
  rw [if_pos (teq_refl 4 s (vt_dp _ _ _ _ h4))]
theorem vput_ok {x : Int} {l : Vl} {p : List Int} {y : Int} {m : Vl} (h : (vput x l p y m).2.2 = true) :
    ∃ t s q, vt 4 x l = some t ∧ pv p x l = some q ∧ vt 4 q.1 q.2 = some s ∧ vt 4 y m = some s := by
  unfold vput at h
  cases h1 : vt 4 x l with
  | none => rw [h1] at h; cases h
  | some t =>
    cases h2 : pv p x l with
    | none => rw [h1, h2] at h; cases h
    | some q =>
      cases h4 : vt 4 y m with
      | none => rw [h1, h2, h4] at h; cases h
      | some u =>
        rw [h1, h2, h4] at h
        obtain ⟨s, _, h3⟩ := (vt_pv 4 p x l t h1).1 q.1 q.2 h2
        simp only [h3] at h
        by_cases g : teq 4 s u = true
        · exact ⟨t, s, q, rfl, rfl, h3, by rw [teq_eq 4 s u g]⟩
        · rw [if_neg g] at h; cases h
theorem vput_no {x : Int} {l : Vl} {p : List Int} {y : Int} {m : Vl} (h : (vput x l p y m).2.2 = false) : vput x l p y m = (0, [], false) := by
  unfold vput at h ⊢
  split
  · split
    · split
      · rename_i e1 e2 e3 _ _ e4 g
        simp only [e1, e2, e3, e4] at h
        rw [if_pos g] at h; cases h
      · rfl
    · rfl
  · rfl
theorem vput_long {x : Int} {l : Vl} {p : List Int} {y : Int} {m : Vl} (h : 4 ≤ p.length) : vput x l p y m = (0, [], false) ∧ vat x l p = (0, [], false) := by
  have key : ∀ t, vt 4 x l = some t → pv p x l = none := by
    intro t ht
    cases e : pv p x l with
    | none => rfl
    | some q => have := pv_len p 4 x l t q ht e; omega
  constructor
  · cases e : (vput x l p y m).2.2 with
    | false => exact vput_no e
    | true =>
      obtain ⟨t, s, q, h1, h2, _, _⟩ := vput_ok e
      rw [key t h1] at h2; cases h2
  · unfold vat
    cases e : vt 4 x l with
    | none => rfl
    | some t => rw [key t e]; rfl
theorem nil_vt : vt 4 0 [] = some [] := rfl
theorem vput_vt (x : Int) (l : Vl) (p : List Int) (y : Int) (m : Vl) : ∃ t, vt 4 (vput x l p y m).1 (vput x l p y m).2.1 = some t := by
  cases e : (vput x l p y m).2.2 with
  | false => rw [vput_no e]; exact ⟨[], rfl⟩
  | true =>
    obtain ⟨t, s, q, h1, h2, h3, h4⟩ := vput_ok e
    rw [vput_of h1 h2 h3 h4]
    exact ⟨t, (wp_all p 4 x l t q y m s 4 h1 h2 h3 h4).1⟩
theorem vput_self (x : Int) (l : Vl) (p : List Int) (y : Int) (m : Vl) (k : Nat) (hk : 20 ≤ k) : laws_lhVal.f k (vput x l p y m).1 (vput x l p y m).2.1 (vput x l p y m).1 (vput x l p y m).2.1 = some true := by
  obtain ⟨t, ht⟩ := vput_vt x l p y m
  exact lhv_self 4 _ _ t k ht (by omega)
theorem vat_refl (x : Int) (l : Vl) (p : List Int) (k : Nat) (hk : 20 ≤ k) : laws_lhVal.f k (vat x l p).1 (vat x l p).2.1 (vat x l p).1 (vat x l p).2.1 = some true := by
  obtain ⟨t, ht⟩ := vat_vt x l p
  exact lhv_self 4 _ _ t k ht (by omega)
theorem vat_of {x : Int} {l : Vl} {p : List Int} {t : Ty} {q : Int × Vl} (h1 : vt 4 x l = some t) (h2 : pv p x l = some q) : vat x l p = (q.1, q.2, true) := by
  unfold vat; rw [h1, h2]; rfl
theorem vat_ok {x : Int} {l : Vl} {p : List Int} (h : (vat x l p).2.2 = true) : ∃ t q, vt 4 x l = some t ∧ pv p x l = some q := by
  unfold vat at h
  cases h1 : vt 4 x l with
  | none => rw [h1] at h; cases h
  | some t =>
    cases h2 : pv p x l with
    | none => rw [h1, h2] at h; cases h
    | some q => exact ⟨t, q, rfl, rfl⟩
end Go.Proofs.Ythfflieeifakdaa.PutLaws
end
section
set_option linter.unusedSimpArgs false
set_option linter.unusedVariables false
namespace Go.Proofs.Ythfflieeifakdaa.Pure
open Go.RowKit Go.Proofs.Ythfflieeifakdaa.PA Go.Proofs.YthfflieeifakdaaW.PrintWords Go.Proofs.YthfflieeifakdaaW.PrintLast Go.Proofs.Ythfflieeifakdaa.Draw Go.Proofs.Ythfflieeifakdaa.Types Go.Proofs.Ythfflieeifakdaa.Paths Go.Proofs.Ythfflieeifakdaa.Vals Go.Proofs.Ythfflieeifakdaa.Ats Go.Proofs.Ythfflieeifakdaa.DrawV Go.Proofs.Ythfflieeifakdaa.DrawP Go.Proofs.Ythfflieeifakdaa.Puts Go.Proofs.Ythfflieeifakdaa.PutLaws
theorem FnValTwice : laws_FnValTwice.Pure := by
  intro l0 _ _ h0
  obtain ⟨x, v, p, y, m, ht, hl⟩ := drawValPut_ev l0 h0
  refine ⟨7000, ?_⟩
  unfold laws_FnValTwice.f
  split
  · rfl
  · rw [ht 7000 (by omega)]; simp only [Option.bind_some]
    rw [specPut_ev x v p y m 7000 (by omega) (by omega)]; simp only [Option.bind_some]
    rw [implPut_ev x v p y m 7000 (by omega) (by omega)]; simp only [Option.bind_some]
    rw [if_neg (by simp), vput_self x v p y m 7000 (by omega)]; simp only [Option.bind_some, if_true]
    cases e : (vput x v p y m).2.2 with
    | false =>
      simp only [laws_FnValTwice.j0, Bool.not_false, if_true]
      rw [if_pos (by simp), vput_self x v p y m 6999 (by omega)]; rfl
    | true =>
      simp only [laws_FnValTwice.j0, Bool.not_true]
      obtain ⟨t, s, q, h1, h2, h3, h4⟩ := vput_ok e
      have w := wp_all p 4 x v t q y m s 4 h1 h2 h3 h4
      rw [if_neg (by simp), implValAt_ev x v p 6999 (by omega) (by omega)]; simp only [Option.bind_some]
      rw [vat_of h1 h2]; simp only
      rw [vput_of h1 h2 h3 h4]; simp only
      rw [implPut_ev _ _ p q.1 q.2 6999 (by omega) (by omega)]; simp only [Option.bind_some]
      rw [vput_of w.1 w.2.1 h4 h3, w.2.2.1]; simp only [if_true]
      rw [implPut_ev x v p y m 6999 (by omega) (by omega)]; simp only [Option.bind_some]
      rw [vput_of h1 h2 h3 h4]; simp only [if_true]
      rw [lhv_self 4 x v t 6999 h1 (by omega)]; simp only [Option.bind_some, if_true]
      rw [lhv_self 4 _ _ t 6999 w.1 (by omega)]; rfl
end Go.Proofs.Ythfflieeifakdaa.Pure
end
section
namespace Go.Proofs.YthfflieeifakdaaW.PrintWords
open Go.ChangeShapes Go.WideShapes
theorem sized_ints {H : Type} {enc : TypeId × Value → H} {P : Program} {W : World} {base : Nat} {spare : Nat → Bool} {held : Bool} {t e : TypeId} {k : IntKind} {a : Option Addr} {len cap : Nat} {d : DataW H} {ps : List MemPlace} {ts : List TypeId} {ds : List (DataW H)} {j : Nat}
    (hsz : (DataW.weightsEach P ts ds).all (· ≤ reachBytes) = true) (ht : ts[j]? = some t) (hd : ds[j]? = some d) (hu : P.underlying t = some (.slice e)) (he : P.underlying e = some (.int k)) (hc : P.cellsOf e = 1) {B : Nat} (hB : P.bytesOf e = B)
    (h : DataW.Trod enc P W base spare held t (.slice a len cap) d ps) : len * B ≤ 140737488351232 := by
  obtain ⟨fuel, hf⟩ := h
  rcases open_ints hu he hc hf with ⟨hcs, _⟩ | ⟨x, l, c, zs, hcs, _, hl, _, hz, hx, _, _⟩
  · simp [Value.cells] at hcs
    obtain ⟨rfl, rfl, rfl⟩ := hcs
    simp
  · simp [Value.cells] at hcs
    obtain ⟨rfl, rfl, rfl⟩ := hcs
    obtain ⟨hx, _⟩ := Prod.mk.inj hx
    subst hx
    have z := sized_slice hsz ht hd hu
    rw [hB] at z
    have hl2 : len ≤ zs.length := by
      rw [hz]
      split
      · exact hl
      · exact Nat.le_refl _
    have h1 : (lits (H := H) k (zs.take len)).length + (lits (H := H) k (zs.drop len)).length = zs.length := by
      simp [lits]
      omega
    rw [h1] at z
    exact Nat.le_trans (Nat.mul_le_mul_right _ hl2) z
end Go.Proofs.YthfflieeifakdaaW.PrintWords
end
section
namespace Go.Proofs.Ythfflieeifakdaa.fnValTwice
open Go.ChangeShapes Go.WideShapes Go.ChangeAt Go.RowKit
open Go.ChangeMaps (open_string shut_string)
set_option linter.unusedVariables false
theorem own : ownKnob Try.prog.godebug = none := by kernel_rfl
theorem laidOut : laidOutB Try.prog = true := by kernel_rfl
def IsRow (k : IntKind) (w : World) (a : Option Addr) (len cap : Nat) (zs : List Int) : Prop :=
  (a = none ∧ len = 0 ∧ cap = 0 ∧ zs = []) ∨
  ∃ x, a = some x ∧ len ≤ cap ∧ cap ≤ maxLen ∧ zs.length = cap ∧ (∀ i, i < zs.length → w.cell? (x.add i) = some (.int k (zs.getD i 0))) ∧ ∀ n ∈ zs, (Lit.int k n).wf = true
set_option maxRecDepth 100000 in
theorem lifted (os : Os) (started : os.Started) (H : Type) (enc : TypeId × Value → H) :
    ReturnsInHanded {} Try.checked os 9 .any (Rows.fnValTwiceSpec.pre6 enc Try.prog Try.f9 Rows.fnValTwiceRow.domain false) (Rows.fnValTwiceSpec.post enc Try.prog Try.f9 false true false false) := by
  refine returnsInHanded_of_change_sized (C := Try.checked) own started (by kernel_rfl) Try.func9
    (ChangeSpec.witness6 (enc := enc) (C := Try.checked) false ⟨#[], #[.slice none 0 0], []⟩ 8 (by kernel_rfl) (by kernel_rfl) (by kernel_rfl) (by kernel_rfl)) ?_
  intro W base args ds gs before hval0 hW hcnd hsz0 _
  have hsz : (DataW.weightsEach Try.prog (Try.f9.params.toList ++ Rows.fnValTwiceSpec.plain.varTypes Try.prog) (ds ++ gs)).all (· ≤ reachBytes) = true := hsz0
  have hval : ∀ (j : Nat) t v, Try.f9.params[j]? = some t → args[j]? = some v → Value.okWide Try.prog W .any base t v := hval0
  have hW' := hW
  obtain ⟨p, q, hA0, hV, rfl, hfz, hnd⟩ := hW
  have hA : DataW.TrodAll enc Try.prog W 0 (fun _ => true) true Try.f9.params.toList args.toList ds p := hA0
  rw [Try.params9] at hA hval hsz
  obtain ⟨v0, vs0, d0, ds0, p0, q0, hargs, rfl, rfl, h0, r0⟩ := trodAll_cons hA
  obtain ⟨rfl, rfl, rfl⟩ := trodAll_nil r0
  obtain rfl : args = #[v0] := by cases args; simp_all
  obtain ⟨rfl, rfl⟩ := trodVars_none hV
  obtain ⟨a0, len0, cap0, rfl⟩ := okWide_slice Try.underlying22 (hval 0 22 v0 rfl rfl)
  have k0 := h0
  have lt0 : ∀ x ∈ p0, x.block < W.heap.size := by obtain ⟨m, hm⟩ := k0; exact DataW.trod_lt m _ _ _ hm
  obtain ⟨z0, w0⟩ : ∃ zs, IsRow .u8 W a0 len0 cap0 zs := by
    obtain ⟨fuel, hf⟩ := h0
    rcases open_ints Try.underlying22 Try.underlying5 (by kernel_rfl) hf with ⟨hcs, _⟩ | ⟨x, l, c, zs, hcs, _, hl, hm, hz, _, hcell, hwz⟩
    · simp [Value.cells] at hcs
      obtain ⟨rfl, rfl, rfl⟩ := hcs
      exact ⟨[], .inl ⟨rfl, rfl, rfl, rfl⟩⟩
    · simp [Value.cells] at hcs
      obtain ⟨rfl, rfl, rfl⟩ := hcs
      exact ⟨zs, .inr ⟨_, rfl, hl, hm, by simpa using hz, hcell, hwz⟩⟩
  have y0 : len0 * 1 ≤ 140737488351232 := Go.Proofs.YthfflieeifakdaaW.PrintWords.sized_ints hsz (j := 0) (t := 22) rfl rfl Try.underlying22 Try.underlying5 (by kernel_rfl) (by kernel_rfl) h0
  clear hA0 hval0 hsz0 hsz
  refine (PA.laws_FnValTwice.walk Pure.FnValTwice a0 len0 cap0 z0 W w0 y0).mono fun e W' ⟨he, bel⟩ => ?_
  subst he
  exact ⟨_, rfl, _, _, _, [], _, [], hW', trodAll_mk1 (shut_bool Try.underlying4 _), (trodAll_cons_mk (Below.trod laidOut (by kernel_rfl) (of_decide_eq_true (by kernel_rfl)) k0 bel lt0) trodAll_mk0), rfl, bel.frame _, fun h => by cases h⟩
theorem over : Rows.fnValTwiceRow.holds Try.pinned (OpenSpec.ofChange Rows.fnValTwiceSpec) :=
  OpenClaim.holds_of_wide 9 Try.f9 rfl rfl rfl rfl rfl rfl rfl ⟨rfl, rfl, rfl, rfl, rfl⟩ rfl rfl rfl rfl rfl (by kernel_rfl) Try.func9 (by kernel_rfl)
    (of_decide_eq_true (by kernel_rfl)) (by unfold Func.isWrapper; first | (rw [if_pos (by decide +kernel)]; kernel_rfl) | (rw [if_neg (by decide +kernel)]; exact ⟨rfl, rfl⟩))
    (fun os started H enc _ => lifted os started H enc)
theorem proved : Rows.FnValTwiceSaid := over
#print axioms proved
end Go.Proofs.Ythfflieeifakdaa.fnValTwice
namespace Go.Proofs.Ythfflieeifakdaa
theorem fnValTwice_holds : Rows.FnValTwiceSaid := fnValTwice.proved
end Go.Proofs.Ythfflieeifakdaa
end
