-- Ythfflieeifakdaa's texts for the statement FnValPut, one behind the other (merge.py).
import Derived.Test.YthfflieeifakdaaQFnValPut0
import Derived.Test.YthfflieeifakdaaQFnValPut3
import Derived.Test.YthfflieeifakdaaQFnValPut1
import Derived.Test.YthfflieeifakdaaQFnValPut2
import Derived.OpenShut
import Derived.Laws.BitsLemmas
section
namespace Go.Proofs.Ythfflieeifakdaa.PA
open Go.RowKit Go.Proofs.YthfflieeifakdaaW.PrintWords Go.Proofs.YthfflieeifakdaaW.PrintLast Go.Proofs.YthfflieeifakdaaW.PrintMore
attribute [local go_sem] max2_int min2_int max_two min_two max_three min_three max_four min_four
set_option linter.unusedVariables false
set_option linter.unusedSimpArgs false
mutual
def spec_l1Anew.l0 : Nat → Int → Int → List (S25) → Int → List (S25) → Option (Int × (List (S25)))
 | 0, _, _, _, _, _ => none
 | k + 1, x4, x253000, x253001, x255000, x255001 => if x4 < (x253001.length : Int) then (if 0 ≤ x4 then ((spec_l1Anew.f k ((rd_T25 x253001 x4).f0) ((rd_T25 x253001 x4).f1)).bind fun bt256 => (if x255001.length < 4398046511104 then (spec_l1Anew.l0 k (wrap64 (x4 + 1)) x253000 x253001 x255000 (x255001 ++ [(⟨bt256.1, bt256.2⟩ : S25)])) else (none))) else (none)) else (some (x255000, x255001))
def spec_l1Anew.f : Nat → Int → List (S25) → Option (Int × (List (S25)))
 | 0, _, _ => none
 | k + 1, a0_0, l0_1 => spec_l1Anew.l0 k 0 a0_0 l0_1 a0_0 ([] : List (S25))
end
theorem spec_l1Anew.mono_l : ∀ k, (∀ y0 y1, LeO (spec_l1Anew.f k y0 y1) (spec_l1Anew.f (k + 1) y0 y1)) ∧ (∀ y0 y1 y2 y3 y4, LeO (spec_l1Anew.l0 k y0 y1 y2 y3 y4) (spec_l1Anew.l0 (k + 1) y0 y1 y2 y3 y4))
 | 0 => ⟨fun _ _ r h => by simp [spec_l1Anew.f] at h, fun _ _ _ _ _ r h => by simp [spec_l1Anew.l0] at h⟩
 | k + 1 => by
  obtain ⟨ih0, ih1⟩ := spec_l1Anew.mono_l k
  refine ⟨?_, ?_⟩
  ·intro y0 y1
   unfold spec_l1Anew.f
   repeat' first
   | (with_reducible exact ih0 _ _)
   | (with_reducible exact ih1 _ _ _ _ _)
   | (with_reducible exact LeO.refl _)
   | (with_reducible exact LeO.none _)
   | (with_reducible refine LeO.ite ?_ ?_)
   | (with_reducible refine LeO.bind ?_ (fun _ => ?_))
   | exact ih0 _ _
   | exact ih1 _ _ _ _ _
   | exact LeO.none _
   | refine LeO.ite ?_ ?_
   | refine LeO.bind ?_ (fun _ => ?_)
  ·intro y0 y1 y2 y3 y4
   unfold spec_l1Anew.l0
   repeat' first
   | (with_reducible exact ih0 _ _)
   | (with_reducible exact ih1 _ _ _ _ _)
   | (with_reducible exact LeO.refl _)
   | (with_reducible exact LeO.none _)
   | (with_reducible refine LeO.ite ?_ ?_)
   | (with_reducible refine LeO.bind ?_ (fun _ => ?_))
   | exact ih0 _ _
   | exact ih1 _ _ _ _ _
   | exact LeO.none _
   | refine LeO.ite ?_ ?_
   | refine LeO.bind ?_ (fun _ => ?_)
theorem spec_l1Anew.mono : ∀ a0 a1 k, LeO (spec_l1Anew.f k a0 a1) (spec_l1Anew.f (k + 1) a0 a1) := by
 intro a0 a1 k
 obtain ⟨ih0, ih1⟩ := spec_l1Anew.mono_l k
 exact ih0 a0 a1
def spec_l1Anew.T5 : Bool × List (List Nat × List Nat) := (true, [([], []), ([0], [0]), ([], []), ([2], [2]), ([], []), ([3, 4], [3, 4]), ([5], [5]), ([6], [6]), ([7], [7]), ([1, 8, 7], [1, 8]), ([0, 1, 2, 3, 4, 5, 6, 7, 8, 9], []), ([10, 9, 9, 0, 1, 2, 3, 4, 5, 6, 7, 8, 9], [9, 10])])
def spec_l1Anew.B5 : List Nat := [0, 1, 0, 4, 0, 28, 60, 124, 252, 511, 1023, 2047]
theorem spec_l1Anew.tab5 : rtab .any (opsOf Try.f37 5) = spec_l1Anew.T5 := by kernel_rfl
theorem spec_l1Anew.bits5 : waitsOk spec_l1Anew.T5.2 spec_l1Anew.B5 = true := by kernel_rfl
set_option maxHeartbeats 8000000 in
set_option maxRecDepth 100000 in
theorem spec_l1Anew.calls (k : Nat) : ∀ (a0_0 : Int) (A0_1 : Option Addr) (c0_1 : Nat) (l0_1 : List (S25)) (r1 : Int) (r2 : List (S25)) (w : World) (hr0_1 : Kd.C k25 w A0_1 l0_1.length l0_1) (hc0_1 : l0_1.length ≤ c0_1) (h : spec_l1Anew.f k a0_0 l0_1 = some (r1, r2)),
  Calls Try.prog 37 #[.agg #[.int .i64 a0_0, .slice A0_1 l0_1.length c0_1]] w fun e w' => ∃ v1_ : Value, e = .returned (.agg #[.int .i64 r1, v1_]) ∧ Kd.R k25 25 w' w.heap.size (fun _ => True) v1_ r2 ∧ Below w.heap.size w w' := by
 induction k using Nat.strongRecOn with
 | _ k ih =>
 intro a0_0 A0_1 c0_1 l0_1 r1 r2 w hr0_1 hc0_1 h
 cases k with
 | zero => exact absurd h (by simp [spec_l1Anew.f])
 | succ k =>
 simp only [spec_l1Anew.f] at h
 have hu25 := Try.underlying25
 have HR0_1 := Aside0.mk hr0_1
 have HC0_1 := Aside0.mk hc0_1
 clear hr0_1 hc0_1
 have HB := Aside0.mk (Below.refl w.heap.size w)
 have H : (spec_l1Anew.l0 k 0 a0_0 l0_1 a0_0 ([] : List (S25))) = some (r1, r2) := h
 clear h
 have H' := Aside0.mk H
 clear H
 go_enter Try.func37, Try.ntmps37
 go_wp2_with (first | ((with_reducible refine gate_dst (N := 1) rfl ?_); refine zbx 1 #[.int .i64 a0_0, .slice A0_1 l0_1.length c0_1] 25 ?_; intro gb252 hg w2 hbox hb; have BK252 := Aside0.mk hbox; have GW252 := Aside0.mk ((y9 hg HB.out : w.heap.size ≤ gb252)); have GE252 := Aside0.mk ((y9 hg HB.out : w.heap.size ≤ gb252)); replace HB := Aside0.mk (below_step (y5 HB.out) hb); clear hb hbox hg) | ((with_reducible refine gate_dst (N := 2) rfl ?_); refine zbx 2 #[.int .i64 0, .slice none 0 0] 25 ?_; intro gb253 hg w3 hbox hb; have BK253 := Aside0.mk hbox; have GW253 := Aside0.mk ((y11 hg HB.out GE252.out : w.heap.size ≤ gb253)); have GE253 := Aside0.mk ((y11 hg HB.out GE252.out : w.heap.size ≤ gb253)); replace HB := Aside0.mk (below_step (y6 HB.out GE252.out) hb); have NB252_253 := zltn hg BK252; have NB253_252 := zgtn hg BK252; replace BK252 := zbb BK252 hb; clear hb hbox hg; have hnb4 := NB252_253.out; have hnc4 := NB253_252.out; have hcz5_0 := zh BK252; have hcz5_1 := zh1 BK252; have hfz5_0 := zfr BK252 0; have hfz5_1 := zfr BK252 1) | ((with_reducible refine gate_dst (N := 3) rfl ?_); refine zbx 3 #[.int .i64 0, .slice none 0 0] 25 ?_; intro gb254 hg w6 hbox hb; have BK254 := Aside0.mk hbox; have GW254 := Aside0.mk ((y16 hg HB.out GE252.out GE253.out : w.heap.size ≤ gb254)); have GE254 := Aside0.mk ((y16 hg HB.out GE252.out GE253.out : w.heap.size ≤ gb254)); replace HB := Aside0.mk (below_step (y2 HB.out GE252.out GE253.out) hb); have NB252_254 := zltn hg BK252; have NB254_252 := zgtn hg BK252; replace BK252 := zbb BK252 hb; have NB253_254 := zltn hg BK253; have NB254_253 := zgtn hg BK253; replace BK253 := zbb BK253 hb; clear hb hbox hg; have hnb7 := NB254_252.out; have hnc7 := NB252_254.out; have hnb8 := NB254_253.out; have hnc8 := NB253_254.out; have hcz9_0 := zh BK254; have hcz9_1 := zh1 BK254; have hfz9_0 := zfr BK254 0; have hfz9_1 := zfr BK254 1))
 go_loopg [4] k (fun kq v4 w' => ∃ (x4_1 : Int) (x255001_1 : List (S25)) (u255001 : Value), v4 = .int .i64 x4_1 ∧ Aside0 (spec_l1Anew.l0 kq x4_1 a0_0 l0_1 a0_0 x255001_1 = some (r1, r2)) ∧ Aside0 (kq ≤ k) ∧ Aside0 (Kd.R k25 25 w' w.heap.size (fun k_ => k_ ≠ gb252 ∧ k_ ≠ gb253 ∧ k_ ≠ gb254) u255001 x255001_1) ∧ Aside0 (w'.heap[gb252]? = some (.cells #[.int .i64 a0_0, (.slice A0_1 l0_1.length c0_1)] 25 (0, 0))) ∧ Aside0 (w'.heap[gb253]? = some (.cells #[.int .i64 0, (.slice none 0 0)] 25 (0, 0))) ∧ Aside0 (w'.heap[gb254]? = some (.cells #[.int .i64 a0_0, u255001] 25 (0, 0))) ∧ Aside0 (Below w.heap.size w w'))
 case atStart => exact ⟨(0), (([] : List (S25))), (.slice none 0 0), y34, H', ⟨Nat.le_refl _⟩, ⟨y37⟩, ⟨(y1 NB252_254.out BK252.out)⟩, ⟨(y1 NB253_254.out BK253.out)⟩, ⟨(by (with_reducible repeat (first | refine blk_drewN ?_ _ | refine blk_drew ?_ | refine blk_alloc ?_ _)); refine blk_put (cs := #[.int .i64 a0_0, .slice none 0 0]) ?_ 1 _ rfl; (with_reducible repeat (first | refine blk_drewN ?_ _ | refine blk_drew ?_ | refine blk_alloc ?_ _)); refine blk_put (cs := #[.int .i64 0, .slice none 0 0]) ?_ 0 _ rfl; (with_reducible repeat (first | refine blk_drewN ?_ _ | refine blk_drew ?_ | refine blk_alloc ?_ _)); exact BK254.out)⟩, ⟨(y4 HB.out GE252.out GE253.out GE254.out)⟩⟩
 case round =>
  clear H'
  try clear p2
  try clear c3
  try clear c4
  try clear c7
  try clear c8
  try clear hcz5_0
  try clear hcz5_1
  try clear hcz9_0
  try clear hcz9_1
  try clear hfz5_0
  try clear hfz5_1
  try clear hfz9_0
  try clear hfz9_1
  (try clear BK252); (try clear BK253); (try clear BK254)
  obtain ⟨x4_1, x255001_1, u255001, rfl, HA, HK1, HO_255001, BK252, BK253, BK254, HB⟩ := hrel
  cases gk with
  | zero => exact absurd HA.out (by simp [spec_l1Anew.l0])
  | succ k1 =>
   have H := HA.out
   clear HA
   simp only [spec_l1Anew.l0] at H
   by_cases c10 : x4_1 < (l0_1.length : Int)
   ·rw [if_pos c10] at H
    have c10b0 : decide (x4_1 < (l0_1.length : Int)) = true := decide_eq_true c10
    clear c10
    by_cases c11 : 0 ≤ x4_1
    ·rw [if_pos c11] at H
     have c11b0 : decide (0 ≤ x4_1) = true := decide_eq_true c11
     clear c11
     obtain ⟨⟨t256, t257⟩, A120, H⟩ := ob H
     have A12 := Aside0.mk A120
     clear A120
     by_cases c13 : x255001_1.length < 4398046511104
     ·rw [if_pos c13] at H
      have LMc13 := Aside0.mk c13
      clear c13
      obtain ⟨y260, hy260⟩ : ∃ y_ : List (S25), y_ = (x255001_1 ++ [(⟨t256, t257⟩ : S25)]) := ⟨_, rfl⟩
      replace H : (spec_l1Anew.l0 k1 (wrap64 (x4_1 + 1)) a0_0 l0_1 a0_0 y260) = some (r1, r2) := by first | (rw [hy260]; with_reducible exact H) | (have H2_ := (Option.bind_some _ _).symm.trans H; rw [hy260]; with_reducible exact H2_) | (have H2_ := (Option.bind_some _ _).symm.trans H; with_reducible exact H2_) | with_reducible exact H | (rw [hy260]; exact H) | exact H
      have Ny260 := Aside0.mk hy260
      clear hy260
      have H' := Aside0.mk H
      clear H
      have hnb14 := NB252_253.out
      have hnc14 := NB253_252.out
      have hnb15 := NB252_254.out
      have hnc15 := NB254_252.out
      have hcz16_0 := zh BK252
      have hcz16_1 := zh1 BK252
      have hfz16_0 := zfr BK252 0
      have hfz16_1 := zfr BK252 1
      try go_wp2
      replace HO_255001 := Aside0.mk (Kd.R_drew HO_255001.out)
      replace BK252 := Aside0.mk (blk_drew BK252.out)
      replace BK253 := Aside0.mk (blk_drew BK253.out)
      replace BK254 := Aside0.mk (blk_drew BK254.out)
      replace HB := Aside0.mk (below_drew1 HB.out)
      have p255 : 0 ≤ (x4_1 : Int) := of_decide_eq_true y23
      have q255 : x4_1 < (l0_1.length : Int) := of_decide_eq_true y23
      obtain ⟨ad255, A255_1, c255_1, e255, hx255_0, hx255_1, hl255_1, hi255_1⟩ := at_T25 HR0_1.out x4_1 p255 q255
      have hw255_1 := hx255_1
      have hw255_0 := hx255_0
      cases e255
      replace hx255_0 := (HB.out.cell (World.block_lt_of_cell? w _ hx255_0)).trans hx255_0
      replace hx255_1 := (HB.out.cell (World.block_lt_of_cell? w _ hx255_1)).trans hx255_1
      have HR255_1 := Aside0.mk hi255_1
      have HC255_1 := Aside0.mk hl255_1
      clear hi255_1 hl255_1
      replace p255 := eq_true p255
      replace q255 := eq_true q255
      refine start_ (n := 12) (S := fun w' => w'.cell? ⟨gb254, 0, none⟩ = some (.int .i64 a0_0) ∧ w'.cell? ⟨gb254, 1, none⟩ = some (u255001) ∧ w'.cell? ⟨gb252, 0, none⟩ = some (.int .i64 a0_0) ∧ w'.cell? ⟨gb252, 1, none⟩ = some (.slice (some ad255) l0_1.length c0_1) ∧ w'.cell? (ad255.add ((x4_1).toNat * 2)) = some (.int .i64 ((rd_T25 l0_1 x4_1).f0)) ∧ w'.cell? ⟨(ad255.add ((x4_1).toNat * 2)).block, (ad255.add ((x4_1).toNat * 2)).off + 1, none⟩ = some (.slice A255_1 ((rd_T25 l0_1 x4_1).f1).length c255_1)) (ds := [11]) #[false, false, false, false, false, false, false, false, false, false, false, false] (by kernel_rfl) rfl rfl ⟨(blk_cell BK254.out 0).trans rfl, (blk_cell BK254.out 1).trans rfl, (blk_cell BK252.out 0).trans rfl, (blk_cell BK252.out 1).trans rfl, ((HB.out.cell (World.block_lt_of_cell? w _ hw255_0)).trans hw255_0), ((HB.out.cell (World.block_lt_of_cell? w _ hw255_1)).trans hw255_1)⟩ (fun hHeld => ?_); refine with_tabW spec_l1Anew.tab5 spec_l1Anew.bits5 (fun HT_ HW_ => ?_)
      generalize wr.drew = w17 at HO_255001 BK252 BK253 BK254 HB HR255_1 hx255_0 hx255_1 hHeld ⊢
      refine zp 0 (some 15) HT_ ?_
      refine zp 2 (some 17) HT_ ?_
      refine zp 4 (some 19) HT_ ?_
      refine zt6 1 (some 16) HT_ HW_ hHeld ?_
      refine zt6 3 (some 18) HT_ HW_ hHeld ?_
      refine zp 5 (some 20) HT_ ?_
      refine zt6 6 (some 21) HT_ HW_ hHeld ?_
      refine one_ (i := 7) (N := some 22) #[true, true, true, true, true, true, true, true, false, false, false, false] rfl rfl (one_of HT_.out (by kernel_rfl)) (by decide) (fun K hK => ?_)
      refine goes_ Try.func37 (by kernel_rfl) rfl #[.agg #[.int .i64 ((rd_T25 l0_1 x4_1).f0), .slice A255_1 ((rd_T25 l0_1 x4_1).f1).length c255_1]] (by rfl) rfl rfl y8 ?_
      with_reducible refine (ih k1 (y57 HK1.out) ((rd_T25 l0_1 x4_1).f0) _ _ ((rd_T25 l0_1 x4_1).f1) t256 t257 _ ?side1 ?side2 A12.out).mono ?_
      (case side1 => exact y15 HR255_1.out HB.out)
      (case side2 => exact HC255_1.out)
      rintro e w18 ⟨v258, rfl, ho0, hb⟩
      refine ⟨_, rfl, ?_⟩
      have HO259 := Aside0.mk (Kd.R_lower (Kd.R_newB (Kd.R_newB (Kd.R_newB (Kd.R_new' ho0 (Kd.R_lt (y12 HO_255001.out))) (g := gb252) (o := .cells #[.int .i64 a0_0, .slice (some ad255) l0_1.length c0_1] 25 (0, 0)) (y0 BK252.out)) (g := gb253) (o := .cells #[.int .i64 0, .slice none 0 0] 25 (0, 0)) (y0 BK253.out)) (g := gb254) (o := .cells #[.int .i64 a0_0, u255001] 25 (0, 0)) (y0 BK254.out)) (below_size (y4 HB.out GE252.out GE253.out GE254.out)))
      replace HO_255001 := Aside0.mk (Kd.R_elder' (y12 HO_255001.out) (Kd.R_base ho0) hb)
      replace BK252 := zbb BK252 hb
      replace BK253 := zbb BK253 hb
      replace BK254 := zbb BK254 hb
      replace HB := Aside0.mk (below_step (y4 HB.out GE252.out GE253.out GE254.out) hb)
      (try clear hb)
      (try clear hb2)
      (try clear hk)
      (try clear hi)
      (try clear ho0)
      obtain ⟨Ao20, co20, eo20⟩ := Kd.R_slice HO259.out
      (first | subst eo20 | (injection eo20 with f1_ f2_ f3_; have f4_ := f1_.symm; have f5_ := f3_.symm; clear f1_ f2_ f3_; subst f4_; subst f5_))
      refine hK.out _ _ ⟨(blk_cell BK254.out 0).trans rfl, (blk_cell BK254.out 1).trans rfl, (blk_cell BK252.out 0).trans rfl, (blk_cell BK252.out 1).trans rfl, ((HB.out.cell (World.block_lt_of_cell? w _ hw255_0)).trans hw255_0), ((HB.out.cell (World.block_lt_of_cell? w _ hw255_1)).trans hw255_1)⟩ (fun hHeld => ?_)
      clear hK K
      refine norm_ (a' := ?_) ?_ ?_
      rotate_left
      ·show Act.put _ (some 22) _ = _
       simp only [Act.put, List.setIfInBounds_toArray, List.set_cons_zero, List.set_cons_succ, i64_w, i32_w]
       rfl
      refine one_ (i := 8) (N := some 23) #[true, true, true, true, true, true, true, true, true, false, false, false] rfl rfl (one_of HT_.out (by kernel_rfl)) (by decide) (fun K hK => ?_)
      refine value_ (w1 := ?_) (v := ?_) (by rfl) rfl ?_ ?_
      rotate_left 2
      ·go_simp
       constructor
       ·rfl
       ·rfl
      refine hK.out _ _ ⟨(blk_cell (blk_alloc BK254.out _) 0).trans rfl, (blk_cell (blk_alloc BK254.out _) 1).trans rfl, (blk_cell (blk_alloc BK252.out _) 0).trans rfl, (blk_cell (blk_alloc BK252.out _) 1).trans rfl, (World.cell?_alloc_lt _ _ _ (World.block_lt_of_cell? _ _ (((HB.out.cell (World.block_lt_of_cell? w _ hw255_0)).trans hw255_0)))).trans (((HB.out.cell (World.block_lt_of_cell? w _ hw255_0)).trans hw255_0)), (World.cell?_alloc_lt _ _ _ (World.block_lt_of_cell? _ _ (((HB.out.cell (World.block_lt_of_cell? w _ hw255_1)).trans hw255_1)))).trans (((HB.out.cell (World.block_lt_of_cell? w _ hw255_1)).trans hw255_1))⟩ (fun hHeld => ?_)
      clear hK K
      refine norm_ (a' := ?_) ?_ ?_
      rotate_left
      ·show Act.put _ (some 23) _ = _
       simp only [Act.put, List.setIfInBounds_toArray, List.set_cons_zero, List.set_cons_succ, i64_w, i32_w]
       rfl
      refine one_ (i := 9) (N := some 24) #[true, true, true, true, true, true, true, true, true, true, false, false] rfl rfl (one_of HT_.out (by kernel_rfl)) (by decide) (fun K hK => ?_)
      refine Kd.R_append_step k25 (w0 := w) w.heap.size (by rfl) (.tmp 16) (.tmp 23) 23 25 (.agg #[(.int .i64 0), (.slice none 0 0)]) 32 rfl Try.underlying23 info25 rfl (by decide) (by omega) u255001 x255001_1 (⟨t256, t257⟩ : S25) [.int .i64 t256, .slice Ao20 t257.length co20] (fun k_ => k_ ≠ gb252 ∧ k_ ≠ gb253 ∧ k_ ≠ gb254) (fun k_ => ((fun k_ => k_ ≠ gb252 ∧ k_ ≠ gb253 ∧ k_ ≠ gb254)) k_ ∧ some k_ ≠ (u255001 : Value).ownBlock) rfl rfl ?aP (fun _ hk => hk) ?aF ?aO ?aB ?aS ?aL ?_
      (case aP => exact k25_mkM _ _ _ (⟨t256, t257⟩ : S25) (Kd.R_mono (HO259.out) (fun k_ hk => ⟨⟨hk.1.1.2, ⟨hk.1.2, hk.2⟩⟩, hk.1.1.1.2⟩)))
      (case aB => exact y78 HB.out GE252.out GE253.out GE254.out)
      (case aF => exact (fun k_ hk => ⟨Kd.freshB (g := gb252) (o := .cells #[.int .i64 a0_0, .slice (some ad255) l0_1.length c0_1] 25 (0, 0)) (y0 BK252.out) k_ hk, Kd.freshB (g := gb253) (o := .cells #[.int .i64 0, .slice none 0 0] 25 (0, 0)) (y0 BK253.out) k_ hk, Kd.freshB (g := gb254) (o := .cells #[.int .i64 a0_0, u255001] 25 (0, 0)) (y0 BK254.out) k_ hk⟩))
      (case aO => exact y91 HO_255001.out)
      (case aS => exact y73 HB.out GE252.out GE253.out GE254.out)
      (case aL => exact y57 LMc13.out)
      intro v261 w19 ho hb hg hat
      rw [← Ny260.out] at ho
      replace BK252 := Aside0.mk (blk_grown (g := gb252) (o := .cells #[.int .i64 a0_0, .slice (some ad255) l0_1.length c0_1] 25 (0, 0)) (y0 BK252.out) hg (Kd.R_away HO_255001.out (fun _ hk => hk.1.1)))
      replace BK253 := Aside0.mk (blk_grown (g := gb253) (o := .cells #[.int .i64 0, .slice none 0 0] 25 (0, 0)) (y0 BK253.out) hg (Kd.R_away HO_255001.out (fun _ hk => hk.1.2.1)))
      replace BK254 := Aside0.mk (blk_grown (g := gb254) (o := .cells #[.int .i64 a0_0, u255001] 25 (0, 0)) (y0 BK254.out) hg (Kd.R_away HO_255001.out (fun _ hk => hk.1.2.2)))
      replace HB := Aside0.mk (hb)
      have HO262 := Aside0.mk (ho)
      clear HO259 HO_255001
      clear ho hb hg hat
      obtain ⟨Ao21, co21, eo21⟩ := Kd.R_slice HO262.out
      (first | subst eo21 | (injection eo21 with f1_ f2_ f3_; have f4_ := f1_.symm; have f5_ := f3_.symm; clear f1_ f2_ f3_; subst f4_; subst f5_))
      refine hK.out _ _ ⟨(blk_cell BK254.out 0).trans rfl, (blk_cell BK254.out 1).trans rfl, (blk_cell BK252.out 0).trans rfl, (blk_cell BK252.out 1).trans rfl, ((HB.out.cell (World.block_lt_of_cell? w _ hw255_0)).trans hw255_0), ((HB.out.cell (World.block_lt_of_cell? w _ hw255_1)).trans hw255_1)⟩ (fun hHeld => ?_)
      clear hK K
      refine norm_ (a' := ?_) ?_ ?_
      rotate_left
      ·show Act.put _ (some 24) _ = _
       simp only [Act.put, List.setIfInBounds_toArray, List.set_cons_zero, List.set_cons_succ, i64_w, i32_w]
       rfl
      refine zp 10 (some 25) HT_ ?_
      refine last_ (i := 11) (N := none) #[true, true, true, true, true, true, true, true, true, true, true, true] rfl rfl (one_of HT_.out (by kernel_rfl)) (by decide) (fun K hK => ?_)
      have hs22 : w19.cell? ⟨gb254, 1, none⟩ = some (u255001) := (blk_cell BK254.out 1).trans rfl
      have hfs22 := zfr BK254 1
      have hns22_0 := NB252_254.out
      have hns22_1 := NB253_254.out
      have hms22_0 := NB254_252.out
      have hms22_1 := NB254_253.out
      refine skip_ (w1 := ?_) (by rfl) rfl ?_ ?_
      rotate_left
      ·go_simp
       rfl
      refine hK.out _ _ ?_
      clear hK K
      refine done_ (done_of HT_.out (by kernel_rfl)) ?_
      try go_wp2
      go_roundg k1
      case measure => have := HK1.out; omega
      case rel => exact ⟨(wrap64 (x4_1 + 1)), (y260), (.slice Ao21 y260.length co21), y34, H', ⟨(y57 HK1.out)⟩, ⟨(by (with_reducible repeat (first | apply Kd.R_alloc | apply Kd.R_drewN | apply Kd.R_drew)); exact Kd.R_mono (Kd.R_far (p := ⟨gb254, 1, none⟩) (Kd.R_mono HO262.out (fun k_ hk => (⟨hk, hk.2.2⟩ : _ ∧ k_ ≠ gb254))) (fun _ hk => hk.2) (.slice Ao21 y260.length co21)) (fun _ hk => ⟨hk.1.1, ⟨hk.1.2.1, hk.1.2.2⟩⟩))⟩, ⟨(y13 NB252_254.out BK252.out)⟩, ⟨(y13 NB253_254.out BK253.out)⟩, ⟨(by (with_reducible repeat (first | refine blk_drewN ?_ _ | refine blk_drew ?_ | refine blk_alloc ?_ _)); refine blk_put (cs := #[.int .i64 a0_0, u255001]) ?_ 1 _ rfl; (with_reducible repeat (first | refine blk_drewN ?_ _ | refine blk_drew ?_ | refine blk_alloc ?_ _)); exact BK254.out)⟩, ⟨(y4 HB.out GE252.out GE253.out GE254.out)⟩⟩
     ·rw [if_neg c13] at H
      exact absurd H (by simp)
    ·rw [if_neg c11] at H
     exact absurd H (by simp)
   ·rw [if_neg c10] at H
    have c10b0 : decide (x4_1 < (l0_1.length : Int)) = false := decide_eq_false c10
    clear c10
    simp only [Option.some.injEq, Prod.mk.injEq] at H
    obtain ⟨rfl, rfl⟩ := H
    have hnb23 := NB252_253.out
    have hnc23 := NB253_252.out
    have hnb24 := NB252_254.out
    have hnc24 := NB254_252.out
    have hcz25_0 := zh BK252
    have hcz25_1 := zh1 BK252
    have hfz25_0 := zfr BK252 0
    have hfz25_1 := zfr BK252 1
    have hnb26 := NB254_253.out
    have hnc26 := NB253_254.out
    have hcz27_0 := zh BK254
    have hcz27_1 := zh1 BK254
    have hfz27_0 := zfr BK254 0
    have hfz27_1 := zfr BK254 1
    have hcz28_0 := zh BK253
    have hcz28_1 := zh1 BK253
    have hfz28_0 := zfr BK253 0
    have hfz28_1 := zfr BK253 1
    obtain ⟨Ao29, co29, eo29⟩ := Kd.R_slice HO_255001.out
    subst eo29
    go_wp2
    refine bodyPost_ret (results_cell_row rfl _ _ gb253 25 #[.int .i64 a0_0, .slice Ao29 x255001_1.length co29] (0, 0) _ rfl (by (with_reducible repeat (first | refine blk_drewN ?_ _ | refine blk_drew ?_ | refine blk_alloc ?_ _)); refine blk_put (cs := #[.int .i64 a0_0, .slice none 0 0]) ?_ 1 _ rfl; (with_reducible repeat (first | refine blk_drewN ?_ _ | refine blk_drew ?_ | refine blk_alloc ?_ _)); apply blk_put (i := 0); (case h => exact y0 BK253.out); (case e => rfl)) Try.underlying25 rfl (by kernel_rfl)) rfl ?_
    exact ⟨_, y19, (by (with_reducible repeat (first | apply Kd.R_alloc | apply Kd.R_drewN | apply Kd.R_drew)); exact Kd.R_mono (Kd.R_far (p := ⟨gb253, 1, none⟩) (Kd.R_far (p := ⟨gb253, 0, none⟩) (Kd.R_mono HO_255001.out (fun k_ hk => (⟨hk, hk.2.1⟩ : _ ∧ k_ ≠ gb253))) (fun _ hk => hk.2) (.int .i64 a0_0)) (fun _ hk => hk.2) (.slice Ao29 x255001_1.length co29)) (fun _ hk => trivial)), (y4 HB.out GE252.out GE253.out GE254.out)⟩
end Go.Proofs.Ythfflieeifakdaa.PA
end
section
namespace Go.Proofs.Ythfflieeifakdaa.PA
open Go.RowKit Go.Proofs.YthfflieeifakdaaW.PrintWords Go.Proofs.YthfflieeifakdaaW.PrintLast Go.Proofs.YthfflieeifakdaaW.PrintMore
attribute [local go_sem] max2_int min2_int max_two min_two max_three min_three max_four min_four
set_option linter.unusedVariables false
set_option linter.unusedSimpArgs false
def spec_ValAt.l0 : Nat → List Int → Int → Int → List (S25) → Option (Int × (List (S25)) × Bool)
 | 0, _, _, _, _ => none
 | k + 1, x1, x6, x264000, x264001 => if x6 < (x1.length : Int) then (if 0 ≤ x6 then ((spec_l6In.f (rd x1 x6) 0 (wrap64 ((x264001.length : Int) - 1))).bind fun t267 => (if t267 = true then (if 0 ≤ (rd x1 x6) then (if (rd x1 x6) < (x264001.length : Int) then (spec_ValAt.l0 k x1 (wrap64 (x6 + 1)) ((rd_T25 x264001 (rd x1 x6)).f0) ((rd_T25 x264001 (rd x1 x6)).f1)) else (none)) else (none)) else (some (0, ([] : List (S25)), false)))) else (none)) else ((spec_l1Anew.f k x264000 x264001).bind fun bt270 => (some (bt270.1, bt270.2, true)))
def spec_ValAt.f (k : Nat) (a0_0 : Int) (l0_1 : List (S25)) (l1 : List Int) : Option (Int × (List (S25)) × Bool) := (spec_l1Any.f k a0_0 l0_1).bind fun t265 => (if t265 = true then (spec_ValAt.l0 k l1 0 a0_0 l0_1) else (some (0, ([] : List (S25)), false)))
theorem spec_ValAt.mono_l : ∀ k, (∀ y0 y1 y2 y3, LeO (spec_ValAt.l0 k y0 y1 y2 y3) (spec_ValAt.l0 (k + 1) y0 y1 y2 y3))
 | 0 => fun _ _ _ _ r h => by simp [spec_ValAt.l0] at h
 | k + 1 => by
  have ih0 := spec_ValAt.mono_l k
  ·intro y0 y1 y2 y3
   unfold spec_ValAt.l0
   repeat' first
   | (with_reducible exact ih0 _ _ _ _)
   | (with_reducible exact spec_l1Anew.mono _ _ _)
   | (with_reducible exact spec_l1Any.mono _ _ _)
   | (with_reducible exact LeO.refl _)
   | (with_reducible exact LeO.none _)
   | (with_reducible refine LeO.ite ?_ ?_)
   | (with_reducible refine LeO.bind ?_ (fun _ => ?_))
   | exact ih0 _ _ _ _
   | exact spec_l1Anew.mono _ _ _
   | exact spec_l1Any.mono _ _ _
   | exact LeO.none _
   | refine LeO.ite ?_ ?_
   | refine LeO.bind ?_ (fun _ => ?_)
theorem spec_ValAt.mono : ∀ a0 a1 a2 k, LeO (spec_ValAt.f k a0 a1 a2) (spec_ValAt.f (k + 1) a0 a1 a2) := by
 intro a0 a1 a2 k
 have ih0 := spec_ValAt.mono_l k
 unfold spec_ValAt.f
 repeat' first
   | (with_reducible exact ih0 _ _ _ _)
   | (with_reducible exact spec_l1Anew.mono _ _ _)
   | (with_reducible exact spec_l1Any.mono _ _ _)
   | (with_reducible exact LeO.refl _)
   | (with_reducible exact LeO.none _)
   | (with_reducible refine LeO.ite ?_ ?_)
   | (with_reducible refine LeO.bind ?_ (fun _ => ?_))
   | exact ih0 _ _ _ _
   | exact spec_l1Anew.mono _ _ _
   | exact spec_l1Any.mono _ _ _
   | exact LeO.none _
   | refine LeO.ite ?_ ?_
   | refine LeO.bind ?_ (fun _ => ?_)
def spec_ValAt.T6 : Bool × List (List Nat × List Nat) := (true, [([], []), ([], []), ([0, 1], [0, 1]), ([2], [2]), ([], []), ([4], [4]), ([5], [5]), ([6], [6]), ([3, 7], [3, 7]), ([8], [8])])
def spec_ValAt.B6 : List Nat := [0, 0, 3, 7, 0, 16, 48, 112, 255, 511]
theorem spec_ValAt.tab6 : rtab .any (opsOf Try.f13 6) = spec_ValAt.T6 := by kernel_rfl
theorem spec_ValAt.bits6 : waitsOk spec_ValAt.T6.2 spec_ValAt.B6 = true := by kernel_rfl
def spec_ValAt.T8 : Bool × List (List Nat × List Nat) := (true, [([], []), ([0], [0]), ([], []), ([], []), ([2, 3], [2, 3]), ([4], [4]), ([1, 5], [1, 5]), ([6], [6]), ([7, 0, 1, 2, 3, 4, 5, 6, 7], [7])])
def spec_ValAt.B8 : List Nat := [0, 1, 0, 0, 12, 28, 63, 127, 255]
theorem spec_ValAt.tab8 : rtab .any (opsOf Try.f13 8) = spec_ValAt.T8 := by kernel_rfl
theorem spec_ValAt.bits8 : waitsOk spec_ValAt.T8.2 spec_ValAt.B8 = true := by kernel_rfl
set_option maxHeartbeats 8000000 in
set_option maxRecDepth 100000 in
theorem spec_ValAt.calls (k : Nat) (a0_0 : Int) (P0_1_ : Nat → Prop) (A0_1 : Option Addr) (c0_1 : Nat) (l0_1 : List (S25)) (A1 : Option Addr) (c1 : Nat) (l1 : List Int) (r1 : Int) (r2 : List (S25)) (r3 : Bool) (w : World) (hs0_1 : Kd.V k25 25 w w.heap.size (fun k_ => P0_1_ k_) (.slice A0_1 l0_1.length c0_1) l0_1) (hr1 : Kd.C (Kd.int .i64) w A1 l1.length l1) (hc1 : l1.length ≤ c1) (h : spec_ValAt.f k a0_0 l0_1 l1 = some (r1, r2, r3)) :
  Calls Try.prog 13 #[.agg #[.int .i64 a0_0, .slice A0_1 l0_1.length c0_1], .slice A1 l1.length c1] w fun e w' => ∃ v1_ : Value, e = .returned (.tuple #[.agg #[.int .i64 r1, v1_], .bool r3]) ∧ Kd.R k25 25 w' w.heap.size (fun k_ => (w.heap.size ≤ k_)) v1_ r2 ∧ Below w.heap.size w w' := by
 have hu25 := Try.underlying25
 have HO0_1 := Aside0.mk (show Kd.V k25 25 w w.heap.size (fun k_ => (P0_1_ k_ ∨ w.heap.size ≤ k_)) (.slice A0_1 l0_1.length c0_1) l0_1 from Kd.V_mono hs0_1 (fun k_ hk => .inl hk))
 have HR1 := Aside0.mk hr1
 have HC1 := Aside0.mk hc1
 clear hr1 hc1
 have HB := Aside0.mk (Below.refl w.heap.size w)
 have H : ((spec_l1Any.f k a0_0 l0_1).bind fun t265 => (if t265 = true then (spec_ValAt.l0 k l1 0 a0_0 l0_1) else (some (0, ([] : List (S25)), false)))) = some (r1, r2, r3) := h
 clear h
 obtain ⟨t265, A30, H⟩ := ob H
 have A3 := Aside0.mk A30
 clear A30
 by_cases c4 : t265 = true
 ·subst c4
  rw [if_pos rfl] at H
  have H' := Aside0.mk H
  clear H
  go_enter Try.func13, Try.ntmps13
  go_wp2_with (first | ((with_reducible refine gate_dst (N := 2) rfl ?_); refine zbx 2 #[.int .i64 a0_0, .slice A0_1 l0_1.length c0_1] 25 ?_; intro gb263 hg w5 hbox hb; replace HO0_1 := Aside0.mk (Kd.V_below (Kd.V_elderB (y10 HO0_1.out) gb263 (Nat.le_of_eq hg.symm)) hb); have BK263 := Aside0.mk hbox; have GW263 := Aside0.mk ((y9 hg HB.out : w.heap.size ≤ gb263)); have GE263 := Aside0.mk ((y9 hg HB.out : w.heap.size ≤ gb263)); replace HB := Aside0.mk (below_step (y5 HB.out) hb); clear hb hbox hg) | ((with_reducible refine gate_dst (N := 4) rfl ?_); refine zbx 4 #[.int .i64 0, .slice none 0 0] 25 ?_; intro gb264 hg w6 hbox hb; replace HO0_1 := Aside0.mk (Kd.V_below (Kd.V_elderB (y10 HO0_1.out) gb264 (Nat.le_of_eq hg.symm)) hb); have BK264 := Aside0.mk hbox; have GW264 := Aside0.mk ((y11 hg HB.out GE263.out : w.heap.size ≤ gb264)); have GE264 := Aside0.mk ((y11 hg HB.out GE263.out : w.heap.size ≤ gb264)); replace HB := Aside0.mk (below_step (y6 HB.out GE263.out) hb); have NB263_264 := zltn hg BK263; have NB264_263 := zgtn hg BK263; replace BK263 := zbb BK263 hb; clear hb hbox hg; have hnb7 := NB263_264.out; have hnc7 := NB264_263.out; have hcz8_0 := zh BK263; have hcz8_1 := zh1 BK263; have hfz8_0 := zfr BK263 0; have hfz8_1 := zfr BK263 1) | ((with_reducible refine gate_callee (f := 35) rfl ?_); refine goesL_ (some 8) rfl rfl Try.func35 (by kernel_rfl) rfl #[.agg #[.int .i64 a0_0, .slice A0_1 l0_1.length c0_1]] rfl y8 ?_; (with_reducible refine (spec_l1Any.calls k a0_0 _ _ l0_1 true _ ?side1 ?side2 A3.out).mono ?_); (case side1 => exact y35 HO0_1.out); (case side2 => exact (Kd.V_reads' HO0_1.out).2.1); rintro e w9 ⟨rfl, hb⟩; refine ⟨_, rfl, ?_⟩; replace HO0_1 := Aside0.mk (Kd.V_below (y10 HO0_1.out) hb); replace BK263 := zbb BK263 hb; replace BK264 := zbb BK264 hb; replace HB := Aside0.mk (below_step (y2 HB.out GE263.out GE264.out) hb); (try clear hb); (try clear hb2); (try clear hk); (try clear hi)))
  go_loopg [6] k (fun kq v6 w' => ∃ (x6_1 : Int) (x264000_1 : Int) (x264001_1 : List (S25)) (x265000_1 : Int) (u264001 : Value), v6 = .int .i64 x6_1 ∧ Aside0 (spec_ValAt.l0 kq l1 x6_1 x264000_1 x264001_1 = some (r1, r2, r3)) ∧ Aside0 (kq ≤ k) ∧ Aside0 (Kd.V k25 25 w' w.heap.size (fun k_ => (P0_1_ k_ ∨ w.heap.size ≤ k_) ∧ k_ ≠ gb263 ∧ k_ ≠ gb264) u264001 x264001_1) ∧ Aside0 (w'.heap[gb263]? = some (.cells #[.int .i64 x264000_1, u264001] 25 (0, 0))) ∧ Aside0 (w'.heap[gb264]? = some (.cells #[.int .i64 x265000_1, (.slice none 0 0)] 25 (0, 0))) ∧ Aside0 (Below w.heap.size w w'))
  case atStart => exact ⟨(0), (a0_0), (l0_1), (0), (.slice A0_1 l0_1.length c0_1), y34, H', ⟨Nat.le_refl _⟩, ⟨(y74 HO0_1.out)⟩, ⟨(y0 BK263.out)⟩, ⟨(y0 BK264.out)⟩, ⟨(y2 HB.out GE263.out GE264.out)⟩⟩
  case round =>
   clear H'
   try clear c1
   try clear p2
   try clear c3
   try clear c4
   try clear c7
   try clear hcz8_0
   try clear hcz8_1
   try clear hfz8_0
   try clear hfz8_1
   (try clear BK263); (try clear BK264)
   obtain ⟨x6_1, x264000_1, x264001_1, x265000_1, u264001, rfl, HA, HK1, HO_264001, BK263, BK264, HB⟩ := hrel
   cases gk with
   | zero => exact absurd HA.out (by simp [spec_ValAt.l0])
   | succ k1 =>
    have H := HA.out
    clear HA
    simp only [spec_ValAt.l0] at H
    by_cases c10 : x6_1 < (l1.length : Int)
    ·rw [if_pos c10] at H
     have c10b0 : decide (x6_1 < (l1.length : Int)) = true := decide_eq_true c10
     clear c10
     by_cases c11 : 0 ≤ x6_1
     ·rw [if_pos c11] at H
      have c11b0 : decide (0 ≤ x6_1) = true := decide_eq_true c11
      clear c11
      obtain ⟨t267, A120, H⟩ := ob H
      have A12 := Aside0.mk A120
      clear A120
      by_cases c13 : t267 = true
      ·subst c13
       rw [if_pos rfl] at H
       by_cases c14 : 0 ≤ (rd l1 x6_1)
       ·rw [if_pos c14] at H
        have c14b0 : decide (0 ≤ (rd l1 x6_1)) = true := decide_eq_true c14
        clear c14
        by_cases c15 : (rd l1 x6_1) < (x264001_1.length : Int)
        ·rw [if_pos c15] at H
         have c15b0 : decide ((rd l1 x6_1) < (x264001_1.length : Int)) = true := decide_eq_true c15
         clear c15
         have H' := Aside0.mk H
         clear H
         try go_wp2
         replace HO_264001 := Aside0.mk (Kd.V_drew HO_264001.out)
         replace BK263 := Aside0.mk (blk_drew BK263.out)
         replace BK264 := Aside0.mk (blk_drew BK264.out)
         replace HB := Aside0.mk (below_drew1 HB.out)
         have p266 : 0 ≤ (x6_1 : Int) := of_decide_eq_true y23
         have q266 : x6_1 < (l1.length : Int) := of_decide_eq_true y23
         obtain ⟨ad266, e266, hx266_0⟩ := Kd.at_int HR1.out x6_1 p266 q266
         have hw266_0 := hx266_0
         cases e266
         replace hx266_0 := (HB.out.cell (World.block_lt_of_cell? w _ hx266_0)).trans hx266_0
         replace p266 := eq_true p266
         replace q266 := eq_true q266
         obtain ⟨Ao17, co17, eo17⟩ := Kd.V_slice HO_264001.out
         (first | subst eo17 | (injection eo17 with f1_ f2_ f3_; have f4_ := f1_.symm; have f5_ := f3_.symm; clear f1_ f2_ f3_; subst f4_; subst f5_))
         refine start_ (n := 10) (S := fun w' => w'.cell? ⟨gb263, 0, none⟩ = some (.int .i64 x264000_1) ∧ w'.cell? ⟨gb263, 1, none⟩ = some (.slice Ao17 x264001_1.length co17) ∧ w'.cell? (ad266.add (x6_1).toNat) = some (.int .i64 (rd l1 x6_1))) (ds := []) #[false, false, false, false, false, false, false, false, false, false] (by kernel_rfl) rfl rfl ⟨(blk_cell BK263.out 0).trans rfl, (blk_cell BK263.out 1).trans rfl, ((HB.out.cell (World.block_lt_of_cell? w _ hw266_0)).trans hw266_0)⟩ (fun hHeld => ?_); refine with_tabW spec_ValAt.tab6 spec_ValAt.bits6 (fun HT_ HW_ => ?_)
         generalize wr.drew = w16 at HO_264001 BK263 BK264 HB hx266_0 hHeld ⊢
         refine zp 0 (some 17) HT_ ?_
         refine zp 1 (some 18) HT_ ?_
         refine zp 2 (some 19) HT_ ?_
         refine zp 4 (some 21) HT_ ?_
         refine zt3 3 (some 20) HT_ HW_ hHeld ?_
         refine zt3 5 (some 22) HT_ HW_ hHeld ?_
         refine zp 6 (some 23) HT_ ?_
         refine zp 7 (some 24) HT_ ?_
         refine one_ (i := 8) (N := some 25) #[true, true, true, true, true, true, true, true, true, false] rfl rfl (one_of HT_.out (by kernel_rfl)) (by decide) (fun K hK => ?_)
         refine goes_ Try.func36 (by kernel_rfl) rfl #[.int .i64 (rd l1 x6_1), .int .i64 0, .int .i64 (wrap64 ((x264001_1.length : Int) - 1))] (by rfl) rfl rfl y8 ?_
         with_reducible refine (spec_l6In.calls (rd l1 x6_1) 0 (wrap64 ((x264001_1.length : Int) - 1)) true _ A12.out).mono ?_
         rintro e w' ⟨rfl, ⟨nd, rfl⟩⟩
         refine ⟨_, rfl, ?_⟩
         refine hK.out _ _ ⟨(blk_cell BK263.out 0).trans rfl, (blk_cell BK263.out 1).trans rfl, ((HB.out.cell (World.block_lt_of_cell? w _ hw266_0)).trans hw266_0)⟩ (fun hHeld => ?_)
         clear hK K
         refine norm_ (a' := ?_) ?_ ?_
         rotate_left
         ·show Act.put _ (some 25) _ = _
          simp only [Act.put, List.setIfInBounds_toArray, List.set_cons_zero, List.set_cons_succ, i64_w, i32_w]
          rfl
         refine zp 9 (some 26) HT_ ?_
         refine done_ (done_of HT_.out (by kernel_rfl)) ?_
         try go_wp2
         (try (rw [drewN_self w16]; generalize hq_ : World.drewN w16 _ = w16; have n0_ : Aside0 (Kd.V k25 25 w16 w.heap.size (fun k_ => (P0_1_ k_ ∨ w.heap.size ≤ k_) ∧ k_ ≠ gb263 ∧ k_ ≠ gb264) (.slice Ao17 x264001_1.length co17) x264001_1) := ⟨(by rw [← hq_]; exact (y10 HO_264001.out))⟩; have n1_ : Aside0 (w16.heap[gb263]? = some (.cells #[.int .i64 x264000_1, .slice Ao17 x264001_1.length co17] 25 (0, 0))) := ⟨(by rw [← hq_]; exact (y0 BK263.out))⟩; have n2_ : Aside0 (w16.heap[gb264]? = some (.cells #[.int .i64 x265000_1, .slice none 0 0] 25 (0, 0))) := ⟨(by rw [← hq_]; exact (y0 BK264.out))⟩; have n3_ : Aside0 (Below w.heap.size w w16) := ⟨(by rw [← hq_]; exact (y2 HB.out GE263.out GE264.out))⟩; clear HO_264001 BK263 BK264 HB hq_; have HO_264001 := n0_; have BK263 := n1_; have BK264 := n2_; have HB := n3_; clear n0_ n1_ n2_ n3_))
         replace HO_264001 := Aside0.mk (Kd.V_drew HO_264001.out)
         replace BK263 := Aside0.mk (blk_drew BK263.out)
         replace BK264 := Aside0.mk (blk_drew BK264.out)
         replace HB := Aside0.mk (below_drew1 HB.out)
         have p268 : 0 ≤ (x6_1 : Int) := of_decide_eq_true y23
         have q268 : x6_1 < (l1.length : Int) := of_decide_eq_true y23
         obtain ⟨ad268, e268, hx268_0⟩ := Kd.at_int HR1.out x6_1 p268 q268
         have hw268_0 := hx268_0
         obtain rfl : ad266 = ad268 := (by injection e268)
         replace hx268_0 := (HB.out.cell (World.block_lt_of_cell? w _ hx268_0)).trans hx268_0
         replace p268 := eq_true p268
         replace q268 := eq_true q268
         have p269 : 0 ≤ ((rd l1 x6_1) : Int) := of_decide_eq_true y23
         have q269 : (rd l1 x6_1) < (x264001_1.length : Int) := of_decide_eq_true y23
         obtain ⟨ad269, A269_1, c269_1, e269, hx269_0, hx269_1, hl269_1, hi269_1⟩ := at_T25 (Kd.V_reads' HO_264001.out).2.2 (rd l1 x6_1) p269 q269
         cases e269
         obtain ⟨ce269, hce269, hMe269, hcc269⟩ := Kd.V_get HO_264001.out z25 (rd l1 x6_1) p269 (by first | exact q269 | exact of_decide_eq_true y23 | (have e_ := (Kd.V_reads' HO_264001.out).1; omega))
         obtain ⟨ua269_1, uc269_1, rfl, ul269_1, ge269_1⟩ := k25_openF hMe269
         have hv269_1 := hcc269 1 _ rfl
         rw [add_field _ _ 1 (by omega)] at hv269_1
         replace hv269_1 := Option.some.inj (hv269_1.symm.trans hx269_1)
         injection hv269_1 with hva_ hvn_ hvc_
         rw [hva_] at ge269_1
         rw [hvc_] at ul269_1
         have HL269_1 := Aside0.mk (show Kd.V k25 25 _ w.heap.size _ _ ((rd_T25 x264001_1 (rd l1 x6_1)).f1) from Kd.V_mk ul269_1 ge269_1)
         clear hva_ hvn_ hvc_ ge269_1 ul269_1
         clear hcc269 hce269
         have HR269_1 := Aside0.mk hi269_1
         have HC269_1 := Aside0.mk hl269_1
         clear hi269_1 hl269_1
         replace p269 := eq_true p269
         replace q269 := eq_true q269
         refine start_ (n := 9) (S := fun w' => w'.cell? ⟨gb263, 0, none⟩ = some (.int .i64 x264000_1) ∧ w'.cell? ⟨gb263, 1, none⟩ = some (.slice (some ad269) x264001_1.length co17) ∧ w'.cell? (ad266.add (x6_1).toNat) = some (.int .i64 (rd l1 x6_1)) ∧ w'.cell? (ad269.add (((rd l1 x6_1)).toNat * 2)) = some (.int .i64 ((rd_T25 x264001_1 (rd l1 x6_1)).f0)) ∧ w'.cell? ⟨(ad269.add (((rd l1 x6_1)).toNat * 2)).block, (ad269.add (((rd l1 x6_1)).toNat * 2)).off + 1, none⟩ = some (.slice A269_1 ((rd_T25 x264001_1 (rd l1 x6_1)).f1).length c269_1)) (ds := [8]) #[false, false, false, false, false, false, false, false, false] (by kernel_rfl) rfl rfl ⟨(blk_cell BK263.out 0).trans rfl, (blk_cell BK263.out 1).trans rfl, ((HB.out.cell (World.block_lt_of_cell? w _ hw268_0)).trans hw268_0), hx269_0, hx269_1⟩ (fun hHeld => ?_); refine with_tabW spec_ValAt.tab8 spec_ValAt.bits8 (fun HT_ HW_ => ?_)
         generalize w16.drew = w18 at HO_264001 BK263 BK264 HB HL269_1 HR269_1 hx268_0 hx269_0 hx269_1 hHeld ⊢
         refine zp 0 (some 28) HT_ ?_
         refine zp 2 (some 30) HT_ ?_
         refine zp 3 (some 31) HT_ ?_
         refine zp 4 (some 32) HT_ ?_
         refine zt5 1 (some 29) HT_ HW_ hHeld ?_
         refine zt5 5 (some 33) HT_ HW_ hHeld ?_
         refine zp 6 (some 34) HT_ ?_
         refine zt5 7 (some 35) HT_ HW_ hHeld ?_
         refine last_ (i := 8) (N := none) #[true, true, true, true, true, true, true, true, true] rfl rfl (one_of HT_.out (by kernel_rfl)) (by decide) (fun K hK => ?_)
         have hs19 : w18.cell? ⟨gb263, 0, none⟩ = some (.int .i64 x264000_1) := (blk_cell BK263.out 0).trans rfl
         have hfs19 := zfr BK263 0
         have hns19_1 := NB264_263.out
         have hms19_1 := NB263_264.out
         have hs20 : w18.cell? ⟨gb263, 1, none⟩ = some (.slice (some ad269) x264001_1.length co17) := (blk_cell BK263.out 1).trans rfl
         have hfs20 := zfr BK263 1
         have hns20_1 := NB264_263.out
         have hms20_1 := NB263_264.out
         refine skip_ (w1 := ?_) (by rfl) rfl ?_ ?_
         rotate_left
         ·go_simp
          rfl
         refine hK.out _ _ ?_
         clear hK K
         refine done_ (done_of HT_.out (by kernel_rfl)) ?_
         try go_wp2
         go_roundg k1
         case measure => have := HK1.out; omega
         case rel => exact ⟨(wrap64 (x6_1 + 1)), ((rd_T25 x264001_1 (rd l1 x6_1)).f0), ((rd_T25 x264001_1 (rd l1 x6_1)).f1), (x265000_1), (.slice A269_1 ((rd_T25 x264001_1 (rd l1 x6_1)).f1).length c269_1), y34, H', ⟨(y57 HK1.out)⟩, ⟨(by (with_reducible repeat (first | apply Kd.V_alloc | apply Kd.V_drewN | apply Kd.V_drew)); exact Kd.V_mono (Kd.V_far (p := ⟨gb263, 1, none⟩) (Kd.V_far (p := ⟨gb263, 0, none⟩) (Kd.V_mono HL269_1.out (fun k_ hk => (⟨hk, hk.2.1⟩ : _ ∧ k_ ≠ gb263))) (fun _ hk => hk.2) (.int .i64 ((rd_T25 x264001_1 (rd l1 x6_1)).f0))) (fun _ hk => hk.2) (.slice A269_1 ((rd_T25 x264001_1 (rd l1 x6_1)).f1).length c269_1)) (fun _ hk => ⟨hk.1.1, ⟨hk.1.2.1, hk.1.2.2⟩⟩))⟩, ⟨(by (with_reducible repeat (first | refine blk_drewN ?_ _ | refine blk_drew ?_ | refine blk_alloc ?_ _)); refine blk_put (cs := #[.int .i64 ((rd_T25 x264001_1 (rd l1 x6_1)).f0), .slice (some ad269) x264001_1.length co17]) ?_ 1 _ rfl; (with_reducible repeat (first | refine blk_drewN ?_ _ | refine blk_drew ?_ | refine blk_alloc ?_ _)); refine blk_put (cs := #[.int .i64 x264000_1, .slice (some ad269) x264001_1.length co17]) ?_ 0 _ rfl; (with_reducible repeat (first | refine blk_drewN ?_ _ | refine blk_drew ?_ | refine blk_alloc ?_ _)); exact BK263.out)⟩, ⟨(y1 NB264_263.out BK264.out)⟩, ⟨(y2 HB.out GE263.out GE264.out)⟩⟩
        ·rw [if_neg c15] at H
         exact absurd H (by simp)
       ·rw [if_neg c14] at H
        exact absurd H (by simp)
      ·replace c13 := Bool.eq_false_iff.mpr c13
       subst c13
       rw [if_neg (show ¬ (false = true) by decide)] at H
       simp only [Option.some.injEq, Prod.mk.injEq] at H
       obtain ⟨rfl, rfl, rfl⟩ := H
       try go_wp2
       replace HO_264001 := Aside0.mk (Kd.V_drew HO_264001.out)
       replace BK263 := Aside0.mk (blk_drew BK263.out)
       replace BK264 := Aside0.mk (blk_drew BK264.out)
       replace HB := Aside0.mk (below_drew1 HB.out)
       have p266 : 0 ≤ (x6_1 : Int) := of_decide_eq_true y23
       have q266 : x6_1 < (l1.length : Int) := of_decide_eq_true y23
       obtain ⟨ad266, e266, hx266_0⟩ := Kd.at_int HR1.out x6_1 p266 q266
       have hw266_0 := hx266_0
       cases e266
       replace hx266_0 := (HB.out.cell (World.block_lt_of_cell? w _ hx266_0)).trans hx266_0
       replace p266 := eq_true p266
       replace q266 := eq_true q266
       obtain ⟨Ao22, co22, eo22⟩ := Kd.V_slice HO_264001.out
       (first | subst eo22 | (injection eo22 with f1_ f2_ f3_; have f4_ := f1_.symm; have f5_ := f3_.symm; clear f1_ f2_ f3_; subst f4_; subst f5_))
       refine start_ (n := 10) (S := fun w' => w'.cell? ⟨gb263, 0, none⟩ = some (.int .i64 x264000_1) ∧ w'.cell? ⟨gb263, 1, none⟩ = some (.slice Ao22 x264001_1.length co22) ∧ w'.cell? (ad266.add (x6_1).toNat) = some (.int .i64 (rd l1 x6_1))) (ds := []) #[false, false, false, false, false, false, false, false, false, false] (by kernel_rfl) rfl rfl ⟨(blk_cell BK263.out 0).trans rfl, (blk_cell BK263.out 1).trans rfl, ((HB.out.cell (World.block_lt_of_cell? w _ hw266_0)).trans hw266_0)⟩ (fun hHeld => ?_); refine with_tabW spec_ValAt.tab6 spec_ValAt.bits6 (fun HT_ HW_ => ?_)
       generalize wr.drew = w21 at HO_264001 BK263 BK264 HB hx266_0 hHeld ⊢
       refine zp 0 (some 17) HT_ ?_
       refine zp 1 (some 18) HT_ ?_
       refine zp 2 (some 19) HT_ ?_
       refine zp 4 (some 21) HT_ ?_
       refine zt3 3 (some 20) HT_ HW_ hHeld ?_
       refine zt3 5 (some 22) HT_ HW_ hHeld ?_
       refine zp 6 (some 23) HT_ ?_
       refine zp 7 (some 24) HT_ ?_
       refine one_ (i := 8) (N := some 25) #[true, true, true, true, true, true, true, true, true, false] rfl rfl (one_of HT_.out (by kernel_rfl)) (by decide) (fun K hK => ?_)
       refine goes_ Try.func36 (by kernel_rfl) rfl #[.int .i64 (rd l1 x6_1), .int .i64 0, .int .i64 (wrap64 ((x264001_1.length : Int) - 1))] (by rfl) rfl rfl y8 ?_
       with_reducible refine (spec_l6In.calls (rd l1 x6_1) 0 (wrap64 ((x264001_1.length : Int) - 1)) false _ A12.out).mono ?_
       rintro e w' ⟨rfl, ⟨nd, rfl⟩⟩
       refine ⟨_, rfl, ?_⟩
       refine hK.out _ _ ⟨(blk_cell BK263.out 0).trans rfl, (blk_cell BK263.out 1).trans rfl, ((HB.out.cell (World.block_lt_of_cell? w _ hw266_0)).trans hw266_0)⟩ (fun hHeld => ?_)
       clear hK K
       refine norm_ (a' := ?_) ?_ ?_
       rotate_left
       ·show Act.put _ (some 25) _ = _
        simp only [Act.put, List.setIfInBounds_toArray, List.set_cons_zero, List.set_cons_succ, i64_w, i32_w]
        rfl
       refine zp 9 (some 26) HT_ ?_
       refine done_ (done_of HT_.out (by kernel_rfl)) ?_
       have hnb23 := NB264_263.out
       have hnc23 := NB263_264.out
       have hcz24_0 := zh BK264
       have hcz24_1 := zh1 BK264
       have hfz24_0 := zfr BK264 0
       have hfz24_1 := zfr BK264 1
       try go_wp2
       refine bodyPost_ret (results_ct rfl _ _ gb264 25 #[.int .i64 0, .slice none 0 0] (0, 0) _ rfl (by (with_reducible repeat (first | refine blk_drewN ?_ _ | refine blk_drew ?_ | refine blk_alloc ?_ _)); refine blk_put (cs := #[.int .i64 0, .slice none 0 0]) ?_ 1 _ rfl; (with_reducible repeat (first | refine blk_drewN ?_ _ | refine blk_drew ?_ | refine blk_alloc ?_ _)); apply blk_put (i := 0); (case h => exact y0 BK264.out); (case e => rfl)) Try.underlying25 rfl (by kernel_rfl)) rfl ?_
       exact ⟨_, y19, y37, (y2 HB.out GE263.out GE264.out)⟩
     ·rw [if_neg c11] at H
      exact absurd H (by simp)
    ·rw [if_neg c10] at H
     have c10b0 : decide (x6_1 < (l1.length : Int)) = false := decide_eq_false c10
     clear c10
     obtain ⟨⟨t270, t271⟩, A250, H⟩ := ob H
     have A25 := Aside0.mk A250
     clear A250
     simp only [Option.some.injEq, Prod.mk.injEq] at H
     obtain ⟨rfl, rfl, rfl⟩ := H
     have hnb26 := NB263_264.out
     have hnc26 := NB264_263.out
     have hcz27_0 := zh BK263
     have hcz27_1 := zh1 BK263
     have hfz27_0 := zfr BK263 0
     have hfz27_1 := zfr BK263 1
     obtain ⟨Ao28, co28, eo28⟩ := Kd.V_slice HO_264001.out
     subst eo28
     go_wp2_with (first | ((with_reducible refine gate_callee (f := 37) rfl ?_); refine goesL_ (some 37) rfl rfl Try.func37 (by kernel_rfl) rfl #[.agg #[.int .i64 x264000_1, .slice Ao28 x264001_1.length co28]] rfl y8 ?_; (with_reducible refine (spec_l1Anew.calls k1 x264000_1 _ _ x264001_1 t270 t271 _ ?side1 ?side2 A25.out).mono ?_); (case side1 => exact y35 HO_264001.out); (case side2 => exact (Kd.V_reads' HO_264001.out).2.1); rintro e w29 ⟨v272, rfl, ho0, hb⟩; refine ⟨_, rfl, ?_⟩; replace HO_264001 := Aside0.mk (Kd.V_elder' (y10 HO_264001.out) (Kd.R_base ho0) hb); have HO273 := Aside0.mk (Kd.R_lower (Kd.R_newB (Kd.R_newB (Kd.R_newM (M := fun k_ => (w.heap.size ≤ k_)) ho0 (below_size (y2 HB.out GE263.out GE264.out)) (fun k_ h_ => h_)) (g := gb263) (o := .cells #[.int .i64 x264000_1, .slice Ao28 x264001_1.length co28] 25 (0, 0)) (y0 BK263.out)) (g := gb264) (o := .cells #[.int .i64 x265000_1, .slice none 0 0] 25 (0, 0)) (y0 BK264.out)) (below_size (y2 HB.out GE263.out GE264.out))); replace BK263 := zbb BK263 hb; replace BK264 := zbb BK264 hb; replace HB := Aside0.mk (below_step (y2 HB.out GE263.out GE264.out) hb); (try clear hb); (try clear hb2); (try clear hk); (try clear hi); (try clear ho0); have hcz30_0 := zh BK264; have hcz30_1 := zh1 BK264; have hfz30_0 := zfr BK264 0; have hfz30_1 := zfr BK264 1; obtain ⟨Ao31, co31, eo31⟩ := Kd.R_slice HO273.out; subst eo31))
     refine bodyPost_ret (results_ct rfl _ _ gb264 25 #[.int .i64 t270, .slice Ao31 t271.length co31] (0, 0) _ rfl (by (with_reducible repeat (first | refine blk_drewN ?_ _ | refine blk_drew ?_ | refine blk_alloc ?_ _)); refine blk_put (cs := #[.int .i64 t270, .slice none 0 0]) ?_ 1 _ rfl; (with_reducible repeat (first | refine blk_drewN ?_ _ | refine blk_drew ?_ | refine blk_alloc ?_ _)); apply blk_put (i := 0); (case h => exact y0 BK264.out); (case e => rfl)) Try.underlying25 rfl (by kernel_rfl)) rfl ?_
     exact ⟨_, y19, (by (with_reducible repeat (first | apply Kd.R_alloc | apply Kd.R_drewN | apply Kd.R_drew)); exact Kd.R_mono (Kd.R_far (p := ⟨gb264, 1, none⟩) (Kd.R_far (p := ⟨gb264, 0, none⟩) (Kd.R_mono HO273.out (fun k_ hk => (⟨hk, hk.2⟩ : _ ∧ k_ ≠ gb264))) (fun _ hk => hk.2) (.int .i64 t270)) (fun _ hk => hk.2) (.slice Ao31 t271.length co31)) (fun _ hk => hk.1.1.1.1)), (y2 HB.out GE263.out GE264.out)⟩
 ·replace c4 := Bool.eq_false_iff.mpr c4
  subst c4
  rw [if_neg (show ¬ (false = true) by decide)] at H
  simp only [Option.some.injEq, Prod.mk.injEq] at H
  obtain ⟨rfl, rfl, rfl⟩ := H
  go_enter Try.func13, Try.ntmps13
  go_wp2_with (first | ((with_reducible refine gate_dst (N := 2) rfl ?_); refine zbx 2 #[.int .i64 a0_0, .slice A0_1 l0_1.length c0_1] 25 ?_; intro gb263 hg w32 hbox hb; replace HO0_1 := Aside0.mk (Kd.V_below (Kd.V_elderB (y10 HO0_1.out) gb263 (Nat.le_of_eq hg.symm)) hb); have BK263 := Aside0.mk hbox; have GW263 := Aside0.mk ((y9 hg HB.out : w.heap.size ≤ gb263)); have GE263 := Aside0.mk ((y9 hg HB.out : w.heap.size ≤ gb263)); replace HB := Aside0.mk (below_step (y5 HB.out) hb); clear hb hbox hg) | ((with_reducible refine gate_dst (N := 4) rfl ?_); refine zbx 4 #[.int .i64 0, .slice none 0 0] 25 ?_; intro gb264 hg w33 hbox hb; replace HO0_1 := Aside0.mk (Kd.V_below (Kd.V_elderB (y10 HO0_1.out) gb264 (Nat.le_of_eq hg.symm)) hb); have BK264 := Aside0.mk hbox; have GW264 := Aside0.mk ((y11 hg HB.out GE263.out : w.heap.size ≤ gb264)); have GE264 := Aside0.mk ((y11 hg HB.out GE263.out : w.heap.size ≤ gb264)); replace HB := Aside0.mk (below_step (y6 HB.out GE263.out) hb); have NB263_264 := zltn hg BK263; have NB264_263 := zgtn hg BK263; replace BK263 := zbb BK263 hb; clear hb hbox hg; have hnb34 := NB263_264.out; have hnc34 := NB264_263.out; have hcz35_0 := zh BK263; have hcz35_1 := zh1 BK263; have hfz35_0 := zfr BK263 0; have hfz35_1 := zfr BK263 1) | ((with_reducible refine gate_callee (f := 35) rfl ?_); refine goesL_ (some 8) rfl rfl Try.func35 (by kernel_rfl) rfl #[.agg #[.int .i64 a0_0, .slice A0_1 l0_1.length c0_1]] rfl y8 ?_; (with_reducible refine (spec_l1Any.calls k a0_0 _ _ l0_1 false _ ?side1 ?side2 A3.out).mono ?_); (case side1 => exact y35 HO0_1.out); (case side2 => exact (Kd.V_reads' HO0_1.out).2.1); rintro e w36 ⟨rfl, hb⟩; refine ⟨_, rfl, ?_⟩; replace HO0_1 := Aside0.mk (Kd.V_below (y10 HO0_1.out) hb); replace BK263 := zbb BK263 hb; replace BK264 := zbb BK264 hb; replace HB := Aside0.mk (below_step (y2 HB.out GE263.out GE264.out) hb); (try clear hb); (try clear hb2); (try clear hk); (try clear hi); have hcz37_0 := zh BK264; have hcz37_1 := zh1 BK264; have hfz37_0 := zfr BK264 0; have hfz37_1 := zfr BK264 1))
  refine bodyPost_ret (results_ct rfl _ _ gb264 25 #[.int .i64 0, .slice none 0 0] (0, 0) _ rfl (by (with_reducible repeat (first | refine blk_drewN ?_ _ | refine blk_drew ?_ | refine blk_alloc ?_ _)); refine blk_put (cs := #[.int .i64 0, .slice none 0 0]) ?_ 1 _ rfl; (with_reducible repeat (first | refine blk_drewN ?_ _ | refine blk_drew ?_ | refine blk_alloc ?_ _)); apply blk_put (i := 0); (case h => exact y0 BK264.out); (case e => rfl)) Try.underlying25 rfl (by kernel_rfl)) rfl ?_
  exact ⟨_, y19, y37, (y2 HB.out GE263.out GE264.out)⟩
end Go.Proofs.Ythfflieeifakdaa.PA
end
section
namespace Go.Proofs.Ythfflieeifakdaa.PA
open Go.RowKit Go.Proofs.YthfflieeifakdaaW.PrintWords Go.Proofs.YthfflieeifakdaaW.PrintLast Go.Proofs.YthfflieeifakdaaW.PrintMore
attribute [local go_sem] max2_int min2_int max_two min_two max_three min_three max_four min_four
set_option linter.unusedVariables false
set_option linter.unusedSimpArgs false
mutual
def spec_l1Same.l0 : Nat → Int → List (S50) → List (S50) → Option (Bool)
 | 0, _, _, _ => none
 | k + 1, x5, x642000, x643000 => if x5 < (x642000.length : Int) then (if 0 ≤ x5 then (if x5 < (x643000.length : Int) then ((spec_l1Same.f k ((rd_T50 x642000 x5).f0) ((rd_T50 x643000 x5).f0)).bind fun t645 => (if t645 = true then (spec_l1Same.l0 k (wrap64 (x5 + 1)) x642000 x643000) else (some false))) else (none)) else (none)) else (some true)
def spec_l1Same.f : Nat → List (S50) → List (S50) → Option (Bool)
 | 0, _, _ => none
 | k + 1, l0_0, l1_0 => if (l0_0.length : Int) = (l1_0.length : Int) then (spec_l1Same.l0 k 0 l0_0 l1_0) else (some false)
end
theorem spec_l1Same.mono_l : ∀ k, (∀ y0 y1, LeO (spec_l1Same.f k y0 y1) (spec_l1Same.f (k + 1) y0 y1)) ∧ (∀ y0 y1 y2, LeO (spec_l1Same.l0 k y0 y1 y2) (spec_l1Same.l0 (k + 1) y0 y1 y2))
 | 0 => ⟨fun _ _ r h => by simp [spec_l1Same.f] at h, fun _ _ _ r h => by simp [spec_l1Same.l0] at h⟩
 | k + 1 => by
  obtain ⟨ih0, ih1⟩ := spec_l1Same.mono_l k
  refine ⟨?_, ?_⟩
  ·intro y0 y1
   unfold spec_l1Same.f
   repeat' first
   | (with_reducible exact ih0 _ _)
   | (with_reducible exact ih1 _ _ _)
   | (with_reducible exact LeO.refl _)
   | (with_reducible exact LeO.none _)
   | (with_reducible refine LeO.ite ?_ ?_)
   | (with_reducible refine LeO.bind ?_ (fun _ => ?_))
   | exact ih0 _ _
   | exact ih1 _ _ _
   | exact LeO.none _
   | refine LeO.ite ?_ ?_
   | refine LeO.bind ?_ (fun _ => ?_)
  ·intro y0 y1 y2
   unfold spec_l1Same.l0
   repeat' first
   | (with_reducible exact ih0 _ _)
   | (with_reducible exact ih1 _ _ _)
   | (with_reducible exact LeO.refl _)
   | (with_reducible exact LeO.none _)
   | (with_reducible refine LeO.ite ?_ ?_)
   | (with_reducible refine LeO.bind ?_ (fun _ => ?_))
   | exact ih0 _ _
   | exact ih1 _ _ _
   | exact LeO.none _
   | refine LeO.ite ?_ ?_
   | refine LeO.bind ?_ (fun _ => ?_)
theorem spec_l1Same.mono : ∀ a0 a1 k, LeO (spec_l1Same.f k a0 a1) (spec_l1Same.f (k + 1) a0 a1) := by
 intro a0 a1 k
 obtain ⟨ih0, ih1⟩ := spec_l1Same.mono_l k
 exact ih0 a0 a1
def spec_l1Same.T6 : Bool × List (List Nat × List Nat) := (true, [([], []), ([0], [0]), ([], []), ([1, 2], [1, 2]), ([3], [3]), ([], []), ([5], [5]), ([], []), ([6, 7], [6, 7]), ([8], [8]), ([4, 9], [4, 9]), ([10], [10])])
def spec_l1Same.B6 : List Nat := [0, 1, 0, 7, 15, 0, 32, 0, 224, 480, 1023, 2047]
theorem spec_l1Same.tab6 : rtab .any (opsOf Try.f50 6) = spec_l1Same.T6 := by kernel_rfl
theorem spec_l1Same.bits6 : waitsOk spec_l1Same.T6.2 spec_l1Same.B6 = true := by kernel_rfl
set_option maxHeartbeats 8000000 in
set_option maxRecDepth 100000 in
theorem spec_l1Same.calls (k : Nat) : ∀ (A0_0 : Option Addr) (c0_0 : Nat) (l0_0 : List (S50)) (A1_0 : Option Addr) (c1_0 : Nat) (l1_0 : List (S50)) (r : Bool) (w : World) (hr0_0 : Kd.C k50 w A0_0 l0_0.length l0_0) (hc0_0 : l0_0.length ≤ c0_0) (hr1_0 : Kd.C k50 w A1_0 l1_0.length l1_0) (hc1_0 : l1_0.length ≤ c1_0) (h : spec_l1Same.f k l0_0 l1_0 = some r),
  Calls Try.prog 50 #[.agg #[.slice A0_0 l0_0.length c0_0], .agg #[.slice A1_0 l1_0.length c1_0]] w fun e w' => e = .returned (.bool r) ∧ Below w.heap.size w w' := by
 induction k using Nat.strongRecOn with
 | _ k ih =>
 intro A0_0 c0_0 l0_0 A1_0 c1_0 l1_0 r w hr0_0 hc0_0 hr1_0 hc1_0 h
 cases k with
 | zero => exact absurd h (by simp [spec_l1Same.f])
 | succ k =>
 simp only [spec_l1Same.f] at h
 have hu50 := Try.underlying50
 have HR0_0 := Aside0.mk hr0_0
 have HC0_0 := Aside0.mk hc0_0
 clear hr0_0 hc0_0
 have HR1_0 := Aside0.mk hr1_0
 have HC1_0 := Aside0.mk hc1_0
 clear hr1_0 hc1_0
 have HB := Aside0.mk (Below.refl w.heap.size w)
 have H : (if (l0_0.length : Int) = (l1_0.length : Int) then (spec_l1Same.l0 k 0 l0_0 l1_0) else (some false)) = some r := h
 clear h
 by_cases c3 : (l0_0.length : Int) = (l1_0.length : Int)
 ·rw [if_pos c3] at H
  have c3b0 : ((l0_0.length : Int) == (l1_0.length : Int)) = true := beq_iff_eq.mpr c3
  have c3b1 : ((l0_0.length : Int) != (l1_0.length : Int)) = false := bne_eq_false_iff_eq.mpr c3
  have c3b2 : (l0_0.length == l1_0.length) = true := by first | simpa using c3 | (simp at c3 ⊢; omega)
  clear c3
  have H' := Aside0.mk H
  clear H
  go_enter Try.func50, Try.ntmps50
  go_wp2_with (first | ((with_reducible refine gate_dst (N := 2) rfl ?_); refine zbx 2 #[.slice A0_0 l0_0.length c0_0] 50 ?_; intro gb641 hg w4 hbox hb; have BK641 := Aside0.mk hbox; have GW641 := Aside0.mk ((y9 hg HB.out : w.heap.size ≤ gb641)); have GE641 := Aside0.mk ((y9 hg HB.out : w.heap.size ≤ gb641)); replace HB := Aside0.mk (below_step (y5 HB.out) hb); clear hb hbox hg) | ((with_reducible refine gate_dst (N := 3) rfl ?_); refine zbx 3 #[.slice A1_0 l1_0.length c1_0] 50 ?_; intro gb642 hg w5 hbox hb; have BK642 := Aside0.mk hbox; have GW642 := Aside0.mk ((y11 hg HB.out GE641.out : w.heap.size ≤ gb642)); have GE642 := Aside0.mk ((y11 hg HB.out GE641.out : w.heap.size ≤ gb642)); replace HB := Aside0.mk (below_step (y6 HB.out GE641.out) hb); have NB641_642 := zltn hg BK641; have NB642_641 := zgtn hg BK641; replace BK641 := zbb BK641 hb; clear hb hbox hg; have hnb6 := NB641_642.out; have hnc6 := NB642_641.out; have hcz7_0 := zh BK641; have hfz7_0 := zfr BK641 0; have hcz8_0 := zh BK642; have hfz8_0 := zfr BK642 0))
  go_loopg [5] k (fun kq v5 w' => ∃ (x5_1 : Int), v5 = .int .i64 x5_1 ∧ Aside0 (spec_l1Same.l0 kq x5_1 l0_0 l1_0 = some r) ∧ Aside0 (kq ≤ k) ∧ Aside0 (w'.heap[gb641]? = some (.cells #[(.slice A0_0 l0_0.length c0_0)] 50 (0, 0))) ∧ Aside0 (w'.heap[gb642]? = some (.cells #[(.slice A1_0 l1_0.length c1_0)] 50 (0, 0))) ∧ Aside0 (Below w.heap.size w w'))
  case atStart => exact ⟨(0), y34, H', ⟨Nat.le_refl _⟩, ⟨(y0 BK641.out)⟩, ⟨(y0 BK642.out)⟩, ⟨(y2 HB.out GE641.out GE642.out)⟩⟩
  case round =>
   clear H'
   try clear c1
   try clear p2
   try clear c3
   try clear c3b0
   try clear c3b1
   try clear c3b2
   try clear c5
   try clear c6
   try clear hcz7_0
   try clear hcz8_0
   try clear hfz7_0
   try clear hfz8_0
   (try clear BK641); (try clear BK642)
   obtain ⟨x5_1, rfl, HA, HK1, BK641, BK642, HB⟩ := hrel
   cases gk with
   | zero => exact absurd HA.out (by simp [spec_l1Same.l0])
   | succ k1 =>
    have H := HA.out
    clear HA
    simp only [spec_l1Same.l0] at H
    by_cases c9 : x5_1 < (l0_0.length : Int)
    ·rw [if_pos c9] at H
     have c9b0 : decide (x5_1 < (l0_0.length : Int)) = true := decide_eq_true c9
     clear c9
     by_cases c10 : 0 ≤ x5_1
     ·rw [if_pos c10] at H
      have c10b0 : decide (0 ≤ x5_1) = true := decide_eq_true c10
      clear c10
      by_cases c11 : x5_1 < (l1_0.length : Int)
      ·rw [if_pos c11] at H
       have c11b0 : decide (x5_1 < (l1_0.length : Int)) = true := decide_eq_true c11
       clear c11
       obtain ⟨t645, A120, H⟩ := ob H
       have A12 := Aside0.mk A120
       clear A120
       by_cases c13 : t645 = true
       ·subst c13
        rw [if_pos rfl] at H
        have H' := Aside0.mk H
        clear H
        have hnb14 := NB641_642.out
        have hnc14 := NB642_641.out
        have hcz15_0 := zh BK641
        have hfz15_0 := zfr BK641 0
        try go_wp2
        replace BK641 := Aside0.mk (blk_drew BK641.out)
        replace BK642 := Aside0.mk (blk_drew BK642.out)
        replace HB := Aside0.mk (below_drew1 HB.out)
        have p643 : 0 ≤ (x5_1 : Int) := of_decide_eq_true y23
        have q643 : x5_1 < (l0_0.length : Int) := of_decide_eq_true y23
        obtain ⟨ad643, A643_0, c643_0, e643, hx643_0, hl643_0, hi643_0⟩ := at_T50 HR0_0.out x5_1 p643 q643
        have hw643_0 := hx643_0
        cases e643
        replace hx643_0 := (HB.out.cell (World.block_lt_of_cell? w _ hx643_0)).trans hx643_0
        have HR643_0 := Aside0.mk hi643_0
        have HC643_0 := Aside0.mk hl643_0
        clear hi643_0 hl643_0
        replace p643 := eq_true p643
        replace q643 := eq_true q643
        have p644 : 0 ≤ (x5_1 : Int) := of_decide_eq_true y23
        have q644 : x5_1 < (l1_0.length : Int) := of_decide_eq_true y23
        obtain ⟨ad644, A644_0, c644_0, e644, hx644_0, hl644_0, hi644_0⟩ := at_T50 HR1_0.out x5_1 p644 q644
        have hw644_0 := hx644_0
        cases e644
        replace hx644_0 := (HB.out.cell (World.block_lt_of_cell? w _ hx644_0)).trans hx644_0
        have HR644_0 := Aside0.mk hi644_0
        have HC644_0 := Aside0.mk hl644_0
        clear hi644_0 hl644_0
        replace p644 := eq_true p644
        replace q644 := eq_true q644
        refine start_ (n := 12) (S := fun w' => w'.cell? ⟨gb641, 0, none⟩ = some (.slice (some ad643) l0_0.length c0_0) ∧ w'.cell? ⟨gb642, 0, none⟩ = some (.slice (some ad644) l1_0.length c1_0) ∧ w'.cell? (ad643.add (x5_1).toNat) = some (.slice A643_0 ((rd_T50 l0_0 x5_1).f0).length c643_0) ∧ w'.cell? (ad644.add (x5_1).toNat) = some (.slice A644_0 ((rd_T50 l1_0 x5_1).f0).length c644_0)) (ds := []) #[false, false, false, false, false, false, false, false, false, false, false, false] (by kernel_rfl) rfl rfl ⟨(blk_cell BK641.out 0).trans rfl, (blk_cell BK642.out 0).trans rfl, ((HB.out.cell (World.block_lt_of_cell? w _ hw643_0)).trans hw643_0), ((HB.out.cell (World.block_lt_of_cell? w _ hw644_0)).trans hw644_0)⟩ (fun hHeld => ?_); refine with_tabW spec_l1Same.tab6 spec_l1Same.bits6 (fun HT_ HW_ => ?_)
        generalize wr.drew = w16 at BK641 BK642 HB HR643_0 HR644_0 hx643_0 hx644_0 hHeld ⊢
        refine zp 0 (some 20) HT_ ?_
        refine zp 2 (some 22) HT_ ?_
        refine zp 5 (some 25) HT_ ?_
        refine zp 7 (some 27) HT_ ?_
        refine zt4 1 (some 21) HT_ HW_ hHeld ?_
        refine zp 3 (some 23) HT_ ?_
        refine zt4 4 (some 24) HT_ HW_ hHeld ?_
        refine zt4 6 (some 26) HT_ HW_ hHeld ?_
        refine zp 8 (some 28) HT_ ?_
        refine zt4 9 (some 29) HT_ HW_ hHeld ?_
        refine one_ (i := 10) (N := some 30) #[true, true, true, true, true, true, true, true, true, true, true, false] rfl rfl (one_of HT_.out (by kernel_rfl)) (by decide) (fun K hK => ?_)
        refine goes_ Try.func50 (by kernel_rfl) rfl #[.agg #[.slice A643_0 ((rd_T50 l0_0 x5_1).f0).length c643_0], .agg #[.slice A644_0 ((rd_T50 l1_0 x5_1).f0).length c644_0]] (by rfl) rfl rfl y8 ?_
        with_reducible refine (ih k1 (y57 HK1.out) _ _ ((rd_T50 l0_0 x5_1).f0) _ _ ((rd_T50 l1_0 x5_1).f0) true _ ?side1 ?side2 ?side3 ?side4 A12.out).mono ?_
        (case side1 => exact y15 HR643_0.out HB.out)
        (case side2 => exact HC643_0.out)
        (case side3 => exact y15 HR644_0.out HB.out)
        (case side4 => exact HC644_0.out)
        rintro e w17 ⟨rfl, hb⟩
        refine ⟨_, rfl, ?_⟩
        replace BK641 := zbb BK641 hb
        replace BK642 := zbb BK642 hb
        replace HB := Aside0.mk (below_step (y2 HB.out GE641.out GE642.out) hb)
        (try clear hb)
        (try clear hb2)
        (try clear hk)
        (try clear hi)
        refine hK.out _ _ ⟨(blk_cell BK641.out 0).trans rfl, (blk_cell BK642.out 0).trans rfl, ((HB.out.cell (World.block_lt_of_cell? w _ hw643_0)).trans hw643_0), ((HB.out.cell (World.block_lt_of_cell? w _ hw644_0)).trans hw644_0)⟩ (fun hHeld => ?_)
        clear hK K
        refine norm_ (a' := ?_) ?_ ?_
        rotate_left
        ·show Act.put _ (some 30) _ = _
         simp only [Act.put, List.setIfInBounds_toArray, List.set_cons_zero, List.set_cons_succ, i64_w, i32_w]
         rfl
        refine zp 11 (some 31) HT_ ?_
        refine done_ (done_of HT_.out (by kernel_rfl)) ?_
        try go_wp2
        go_roundg k1
        case measure => have := HK1.out; omega
        case rel => exact ⟨(wrap64 (x5_1 + 1)), y34, H', ⟨(y57 HK1.out)⟩, ⟨(y0 BK641.out)⟩, ⟨(y0 BK642.out)⟩, ⟨(y2 HB.out GE641.out GE642.out)⟩⟩
       ·replace c13 := Bool.eq_false_iff.mpr c13
        subst c13
        rw [if_neg (show ¬ (false = true) by decide)] at H
        obtain rfl := Option.some.inj H
        have hnb18 := NB641_642.out
        have hnc18 := NB642_641.out
        have hcz19_0 := zh BK641
        have hfz19_0 := zfr BK641 0
        try go_wp2
        replace BK641 := Aside0.mk (blk_drew BK641.out)
        replace BK642 := Aside0.mk (blk_drew BK642.out)
        replace HB := Aside0.mk (below_drew1 HB.out)
        have p643 : 0 ≤ (x5_1 : Int) := of_decide_eq_true y23
        have q643 : x5_1 < (l0_0.length : Int) := of_decide_eq_true y23
        obtain ⟨ad643, A643_0, c643_0, e643, hx643_0, hl643_0, hi643_0⟩ := at_T50 HR0_0.out x5_1 p643 q643
        have hw643_0 := hx643_0
        cases e643
        replace hx643_0 := (HB.out.cell (World.block_lt_of_cell? w _ hx643_0)).trans hx643_0
        have HR643_0 := Aside0.mk hi643_0
        have HC643_0 := Aside0.mk hl643_0
        clear hi643_0 hl643_0
        replace p643 := eq_true p643
        replace q643 := eq_true q643
        have p644 : 0 ≤ (x5_1 : Int) := of_decide_eq_true y23
        have q644 : x5_1 < (l1_0.length : Int) := of_decide_eq_true y23
        obtain ⟨ad644, A644_0, c644_0, e644, hx644_0, hl644_0, hi644_0⟩ := at_T50 HR1_0.out x5_1 p644 q644
        have hw644_0 := hx644_0
        cases e644
        replace hx644_0 := (HB.out.cell (World.block_lt_of_cell? w _ hx644_0)).trans hx644_0
        have HR644_0 := Aside0.mk hi644_0
        have HC644_0 := Aside0.mk hl644_0
        clear hi644_0 hl644_0
        replace p644 := eq_true p644
        replace q644 := eq_true q644
        refine start_ (n := 12) (S := fun w' => w'.cell? ⟨gb641, 0, none⟩ = some (.slice (some ad643) l0_0.length c0_0) ∧ w'.cell? ⟨gb642, 0, none⟩ = some (.slice (some ad644) l1_0.length c1_0) ∧ w'.cell? (ad643.add (x5_1).toNat) = some (.slice A643_0 ((rd_T50 l0_0 x5_1).f0).length c643_0) ∧ w'.cell? (ad644.add (x5_1).toNat) = some (.slice A644_0 ((rd_T50 l1_0 x5_1).f0).length c644_0)) (ds := []) #[false, false, false, false, false, false, false, false, false, false, false, false] (by kernel_rfl) rfl rfl ⟨(blk_cell BK641.out 0).trans rfl, (blk_cell BK642.out 0).trans rfl, ((HB.out.cell (World.block_lt_of_cell? w _ hw643_0)).trans hw643_0), ((HB.out.cell (World.block_lt_of_cell? w _ hw644_0)).trans hw644_0)⟩ (fun hHeld => ?_); refine with_tabW spec_l1Same.tab6 spec_l1Same.bits6 (fun HT_ HW_ => ?_)
        generalize wr.drew = w20 at BK641 BK642 HB HR643_0 HR644_0 hx643_0 hx644_0 hHeld ⊢
        refine zp 0 (some 20) HT_ ?_
        refine zp 2 (some 22) HT_ ?_
        refine zp 5 (some 25) HT_ ?_
        refine zp 7 (some 27) HT_ ?_
        refine zt4 1 (some 21) HT_ HW_ hHeld ?_
        refine zp 3 (some 23) HT_ ?_
        refine zt4 4 (some 24) HT_ HW_ hHeld ?_
        refine zt4 6 (some 26) HT_ HW_ hHeld ?_
        refine zp 8 (some 28) HT_ ?_
        refine zt4 9 (some 29) HT_ HW_ hHeld ?_
        refine one_ (i := 10) (N := some 30) #[true, true, true, true, true, true, true, true, true, true, true, false] rfl rfl (one_of HT_.out (by kernel_rfl)) (by decide) (fun K hK => ?_)
        refine goes_ Try.func50 (by kernel_rfl) rfl #[.agg #[.slice A643_0 ((rd_T50 l0_0 x5_1).f0).length c643_0], .agg #[.slice A644_0 ((rd_T50 l1_0 x5_1).f0).length c644_0]] (by rfl) rfl rfl y8 ?_
        with_reducible refine (ih k1 (y57 HK1.out) _ _ ((rd_T50 l0_0 x5_1).f0) _ _ ((rd_T50 l1_0 x5_1).f0) false _ ?side1 ?side2 ?side3 ?side4 A12.out).mono ?_
        (case side1 => exact y15 HR643_0.out HB.out)
        (case side2 => exact HC643_0.out)
        (case side3 => exact y15 HR644_0.out HB.out)
        (case side4 => exact HC644_0.out)
        rintro e w21 ⟨rfl, hb⟩
        refine ⟨_, rfl, ?_⟩
        replace BK641 := zbb BK641 hb
        replace BK642 := zbb BK642 hb
        replace HB := Aside0.mk (below_step (y2 HB.out GE641.out GE642.out) hb)
        (try clear hb)
        (try clear hb2)
        (try clear hk)
        (try clear hi)
        refine hK.out _ _ ⟨(blk_cell BK641.out 0).trans rfl, (blk_cell BK642.out 0).trans rfl, ((HB.out.cell (World.block_lt_of_cell? w _ hw643_0)).trans hw643_0), ((HB.out.cell (World.block_lt_of_cell? w _ hw644_0)).trans hw644_0)⟩ (fun hHeld => ?_)
        clear hK K
        refine norm_ (a' := ?_) ?_ ?_
        rotate_left
        ·show Act.put _ (some 30) _ = _
         simp only [Act.put, List.setIfInBounds_toArray, List.set_cons_zero, List.set_cons_succ, i64_w, i32_w]
         rfl
        refine zp 11 (some 31) HT_ ?_
        refine done_ (done_of HT_.out (by kernel_rfl)) ?_
        try go_wp2
        go_ret
        exact ⟨y19, (y2 HB.out GE641.out GE642.out)⟩
      ·rw [if_neg c11] at H
       exact absurd H (by simp)
     ·rw [if_neg c10] at H
      exact absurd H (by simp)
    ·rw [if_neg c9] at H
     have c9b0 : decide (x5_1 < (l0_0.length : Int)) = false := decide_eq_false c9
     clear c9
     obtain rfl := Option.some.inj H
     have hnb22 := NB641_642.out
     have hnc22 := NB642_641.out
     have hcz23_0 := zh BK641
     have hfz23_0 := zfr BK641 0
     go_wp2
     go_ret
     exact ⟨y19, (y2 HB.out GE641.out GE642.out)⟩
 ·rw [if_neg c3] at H
  have c3b0 : ((l0_0.length : Int) == (l1_0.length : Int)) = false := beq_eq_false_iff_ne.mpr c3
  have c3b1 : ((l0_0.length : Int) != (l1_0.length : Int)) = true := bne_iff_ne.mpr c3
  have c3b2 : (l0_0.length == l1_0.length) = false := by first | simpa using c3 | (simp at c3 ⊢; omega)
  obtain rfl := Option.some.inj H
  go_enter Try.func50, Try.ntmps50
  go_wp2_with (first | ((with_reducible refine gate_dst (N := 2) rfl ?_); refine zbx 2 #[.slice A0_0 l0_0.length c0_0] 50 ?_; intro gb641 hg w24 hbox hb; have BK641 := Aside0.mk hbox; have GW641 := Aside0.mk ((y9 hg HB.out : w.heap.size ≤ gb641)); have GE641 := Aside0.mk ((y9 hg HB.out : w.heap.size ≤ gb641)); replace HB := Aside0.mk (below_step (y5 HB.out) hb); clear hb hbox hg) | ((with_reducible refine gate_dst (N := 3) rfl ?_); refine zbx 3 #[.slice A1_0 l1_0.length c1_0] 50 ?_; intro gb642 hg w25 hbox hb; have BK642 := Aside0.mk hbox; have GW642 := Aside0.mk ((y11 hg HB.out GE641.out : w.heap.size ≤ gb642)); have GE642 := Aside0.mk ((y11 hg HB.out GE641.out : w.heap.size ≤ gb642)); replace HB := Aside0.mk (below_step (y6 HB.out GE641.out) hb); have NB641_642 := zltn hg BK641; have NB642_641 := zgtn hg BK641; replace BK641 := zbb BK641 hb; clear hb hbox hg; have hnb26 := NB641_642.out; have hnc26 := NB642_641.out; have hcz27_0 := zh BK641; have hfz27_0 := zfr BK641 0; have hcz28_0 := zh BK642; have hfz28_0 := zfr BK642 0))
  go_ret
  exact ⟨y19, (y2 HB.out GE641.out GE642.out)⟩
end Go.Proofs.Ythfflieeifakdaa.PA
end
section
namespace Go.Proofs.Ythfflieeifakdaa.PA
open Go.RowKit Go.Proofs.YthfflieeifakdaaW.PrintWords Go.Proofs.YthfflieeifakdaaW.PrintLast Go.Proofs.YthfflieeifakdaaW.PrintMore
attribute [local go_sem] max2_int min2_int max_two min_two max_three min_three max_four min_four
set_option linter.unusedVariables false
set_option linter.unusedSimpArgs false
def spec_l1Put.f : Nat → Int → List (S25) → List Int → Int → List (S25) → Option (Int × (List (S25)))
 | 0, _, _, _, _, _ => none
 | k + 1, a0_0, l0_1, l1, a2_0, l2_1 => if (l1.length : Int) = 0 then ((spec_l1Anew.f k a2_0 l2_1).bind fun bt649 => (some (bt649.1, bt649.2))) else ((spec_l1Anew.f k a0_0 l0_1).bind fun bt653 => (if 0 < (l1.length : Int) then (if 0 ≤ (rd l1 0) then (if (rd l1 0) < (l0_1.length : Int) then (if 1 ≤ (l1.length : Int) then ((spec_l1Put.f k ((rd_T25 l0_1 (rd l1 0)).f0) ((rd_T25 l0_1 (rd l1 0)).f1) (l1.drop 1) a2_0 l2_1).bind fun bt662 => (if (rd l1 0) < (bt653.2.length : Int) then (some (bt653.1, (bt653.2.set ((rd l1 0) : Int).toNat (⟨bt662.1, bt662.2⟩ : S25)))) else (none))) else (none)) else (none)) else (none)) else (none)))
theorem spec_l1Put.mono_l : ∀ k, (∀ y0 y1 y2 y3 y4, LeO (spec_l1Put.f k y0 y1 y2 y3 y4) (spec_l1Put.f (k + 1) y0 y1 y2 y3 y4))
 | 0 => fun _ _ _ _ _ r h => by simp [spec_l1Put.f] at h
 | k + 1 => by
  have ih0 := spec_l1Put.mono_l k
  ·intro y0 y1 y2 y3 y4
   unfold spec_l1Put.f
   repeat' first
   | (with_reducible exact ih0 _ _ _ _ _)
   | (with_reducible exact spec_l1Anew.mono _ _ _)
   | (with_reducible exact LeO.refl _)
   | (with_reducible exact LeO.none _)
   | (with_reducible refine LeO.ite ?_ ?_)
   | (with_reducible refine LeO.bind ?_ (fun _ => ?_))
   | exact ih0 _ _ _ _ _
   | exact spec_l1Anew.mono _ _ _
   | exact LeO.none _
   | refine LeO.ite ?_ ?_
   | refine LeO.bind ?_ (fun _ => ?_)
theorem spec_l1Put.mono : ∀ a0 a1 a2 a3 a4 k, LeO (spec_l1Put.f k a0 a1 a2 a3 a4) (spec_l1Put.f (k + 1) a0 a1 a2 a3 a4) := by
 intro a0 a1 a2 a3 a4 k
 have ih0 := spec_l1Put.mono_l k
 exact ih0 a0 a1 a2 a3 a4
def spec_l1Put.T4 : Bool × List (List Nat × List Nat) := (true, [([], []), ([0], [0]), ([], []), ([2], [2]), ([3], [3]), ([], []), ([5], [5]), ([], []), ([7], [7]), ([8], [8]), ([6, 9], [6, 9]), ([10], [10]), ([], []), ([12], [12]), ([], []), ([11, 13, 14], [11, 13, 14]), ([1, 4, 0, 1, 2, 3, 4, 5, 6, 7, 8, 9, 10, 11, 12, 13, 14, 15], [1, 4]), ([16, 15, 15, 0, 1, 2, 3, 4, 5, 6, 7, 8, 9, 10, 11, 12, 13, 14, 15], [15, 16])])
def spec_l1Put.B4 : List Nat := [0, 1, 0, 4, 12, 0, 32, 0, 128, 384, 992, 2016, 0, 4096, 0, 32736, 65535, 131071]
theorem spec_l1Put.tab4 : rtab .any (opsOf Try.f51 4) = spec_l1Put.T4 := by kernel_rfl
theorem spec_l1Put.bits4 : waitsOk spec_l1Put.T4.2 spec_l1Put.B4 = true := by kernel_rfl
set_option maxHeartbeats 8000000 in
set_option maxRecDepth 100000 in
theorem spec_l1Put.calls (k : Nat) : ∀ (a0_0 : Int) (A0_1 : Option Addr) (c0_1 : Nat) (l0_1 : List (S25)) (A1 : Option Addr) (c1 : Nat) (l1 : List Int) (a2_0 : Int) (A2_1 : Option Addr) (c2_1 : Nat) (l2_1 : List (S25)) (r1 : Int) (r2 : List (S25)) (w : World) (hr0_1 : Kd.C k25 w A0_1 l0_1.length l0_1) (hc0_1 : l0_1.length ≤ c0_1) (hr1 : Kd.C (Kd.int .i64) w A1 l1.length l1) (hc1 : l1.length ≤ c1) (hr2_1 : Kd.C k25 w A2_1 l2_1.length l2_1) (hc2_1 : l2_1.length ≤ c2_1) (h : spec_l1Put.f k a0_0 l0_1 l1 a2_0 l2_1 = some (r1, r2)),
  Calls Try.prog 51 #[.agg #[.int .i64 a0_0, .slice A0_1 l0_1.length c0_1], .slice A1 l1.length c1, .agg #[.int .i64 a2_0, .slice A2_1 l2_1.length c2_1]] w fun e w' => ∃ v1_ : Value, e = .returned (.agg #[.int .i64 r1, v1_]) ∧ Kd.N k25 25 w' w.heap.size (fun k_ => (w.heap.size ≤ k_)) v1_ r2 ∧ Below w.heap.size w w' := by
 induction k using Nat.strongRecOn with
 | _ k ih =>
 intro a0_0 A0_1 c0_1 l0_1 A1 c1 l1 a2_0 A2_1 c2_1 l2_1 r1 r2 w hr0_1 hc0_1 hr1 hc1 hr2_1 hc2_1 h
 cases k with
 | zero => exact absurd h (by simp [spec_l1Put.f])
 | succ k =>
 simp only [spec_l1Put.f] at h
 have hu25 := Try.underlying25
 have HR0_1 := Aside0.mk hr0_1
 have HC0_1 := Aside0.mk hc0_1
 clear hr0_1 hc0_1
 have HR1 := Aside0.mk hr1
 have HC1 := Aside0.mk hc1
 clear hr1 hc1
 have HR2_1 := Aside0.mk hr2_1
 have HC2_1 := Aside0.mk hc2_1
 clear hr2_1 hc2_1
 have HB := Aside0.mk (Below.refl w.heap.size w)
 have H : (if (l1.length : Int) = 0 then ((spec_l1Anew.f k a2_0 l2_1).bind fun bt649 => (some (bt649.1, bt649.2))) else ((spec_l1Anew.f k a0_0 l0_1).bind fun bt653 => (if 0 < (l1.length : Int) then (if 0 ≤ (rd l1 0) then (if (rd l1 0) < (l0_1.length : Int) then (if 1 ≤ (l1.length : Int) then ((spec_l1Put.f k ((rd_T25 l0_1 (rd l1 0)).f0) ((rd_T25 l0_1 (rd l1 0)).f1) (l1.drop 1) a2_0 l2_1).bind fun bt662 => (if (rd l1 0) < (bt653.2.length : Int) then (some (bt653.1, (bt653.2.set ((rd l1 0) : Int).toNat (⟨bt662.1, bt662.2⟩ : S25)))) else (none))) else (none)) else (none)) else (none)) else (none)))) = some (r1, r2) := h
 clear h
 by_cases c4 : (l1.length : Int) = 0
 ·rw [if_pos c4] at H
  have c4b0 : ((l1.length : Int) == 0) = true := beq_iff_eq.mpr c4
  have c4b1 : ((l1.length : Int) != 0) = false := bne_eq_false_iff_eq.mpr c4
  clear c4
  obtain ⟨⟨t649, t650⟩, A50, H⟩ := ob H
  have A5 := Aside0.mk A50
  clear A50
  simp only [Option.some.injEq, Prod.mk.injEq] at H
  obtain ⟨rfl, rfl⟩ := H
  go_enter Try.func51, Try.ntmps51
  go_wp2_with (first | ((with_reducible refine gate_dst (N := 3) rfl ?_); refine zbx 3 #[.int .i64 a0_0, .slice A0_1 l0_1.length c0_1] 25 ?_; intro gb646 hg w6 hbox hb; have BK646 := Aside0.mk hbox; have GW646 := Aside0.mk ((y9 hg HB.out : w.heap.size ≤ gb646)); have GE646 := Aside0.mk ((y9 hg HB.out : w.heap.size ≤ gb646)); replace HB := Aside0.mk (below_step (y5 HB.out) hb); clear hb hbox hg) | ((with_reducible refine gate_dst (N := 5) rfl ?_); refine zbx 5 #[.int .i64 a2_0, .slice A2_1 l2_1.length c2_1] 25 ?_; intro gb647 hg w7 hbox hb; have BK647 := Aside0.mk hbox; have GW647 := Aside0.mk ((y11 hg HB.out GE646.out : w.heap.size ≤ gb647)); have GE647 := Aside0.mk ((y11 hg HB.out GE646.out : w.heap.size ≤ gb647)); replace HB := Aside0.mk (below_step (y6 HB.out GE646.out) hb); have NB646_647 := zltn hg BK646; have NB647_646 := zgtn hg BK646; replace BK646 := zbb BK646 hb; clear hb hbox hg) | ((with_reducible refine gate_dst (N := 6) rfl ?_); refine zbx 6 #[.int .i64 0, .slice none 0 0] 25 ?_; intro gb648 hg w8 hbox hb; have BK648 := Aside0.mk hbox; have GW648 := Aside0.mk ((y16 hg HB.out GE646.out GE647.out : w.heap.size ≤ gb648)); have GE648 := Aside0.mk ((y16 hg HB.out GE646.out GE647.out : w.heap.size ≤ gb648)); replace HB := Aside0.mk (below_step (y2 HB.out GE646.out GE647.out) hb); have NB646_648 := zltn hg BK646; have NB648_646 := zgtn hg BK646; replace BK646 := zbb BK646 hb; have NB647_648 := zltn hg BK647; have NB648_647 := zgtn hg BK647; replace BK647 := zbb BK647 hb; clear hb hbox hg; have hnb9 := NB647_646.out; have hnc9 := NB646_647.out; have hnb10 := NB647_648.out; have hnc10 := NB648_647.out; have hcz11_0 := zh BK647; have hcz11_1 := zh1 BK647; have hfz11_0 := zfr BK647 0; have hfz11_1 := zfr BK647 1) | ((with_reducible refine gate_callee (f := 37) rfl ?_); refine goesL_ (some 12) rfl rfl Try.func37 (by kernel_rfl) rfl #[.agg #[.int .i64 a2_0, .slice A2_1 l2_1.length c2_1]] rfl y8 ?_; (with_reducible refine (spec_l1Anew.calls k a2_0 _ _ l2_1 t649 t650 _ ?side1 ?side2 A5.out).mono ?_); (case side1 => exact y15 HR2_1.out HB.out); (case side2 => exact HC2_1.out); rintro e w12 ⟨v651, rfl, ho0, hb⟩; refine ⟨_, rfl, ?_⟩; have HO652 := Aside0.mk (Kd.N_lower (Kd.N_mono (ok' := fun k_ => (w.heap.size ≤ k_) ∧ k_ ≠ gb646 ∧ k_ ≠ gb647 ∧ k_ ≠ gb648) (Kd.R_N (Kd.R_bound ho0)) (fun k_ hk_ => ⟨(Nat.le_trans (below_size (y4 HB.out GE646.out GE647.out GE648.out)) hk_.2.1), (Kd.freshB (g := gb646) (o := .cells #[.int .i64 a0_0, .slice A0_1 l0_1.length c0_1] 25 (0, 0)) (y0 BK646.out) k_ hk_.2.1), (Kd.freshB (g := gb647) (o := .cells #[.int .i64 a2_0, .slice A2_1 l2_1.length c2_1] 25 (0, 0)) (y0 BK647.out) k_ hk_.2.1), (Kd.freshB (g := gb648) (o := .cells #[.int .i64 0, .slice none 0 0] 25 (0, 0)) (y0 BK648.out) k_ hk_.2.1)⟩)) (below_size (y4 HB.out GE646.out GE647.out GE648.out))); replace BK646 := zbb BK646 hb; replace BK647 := zbb BK647 hb; replace BK648 := zbb BK648 hb; replace HB := Aside0.mk (below_step (y4 HB.out GE646.out GE647.out GE648.out) hb); (try clear hb); (try clear hb2); (try clear hk); (try clear hi); (try clear ho0); have hnb13 := NB648_646.out; have hnc13 := NB646_648.out; have hcz14_0 := zh BK648; have hcz14_1 := zh1 BK648; have hfz14_0 := zfr BK648 0; have hfz14_1 := zfr BK648 1; obtain ⟨Ao15, co15, eo15⟩ := Kd.N_slice HO652.out; subst eo15))
  refine bodyPost_ret (results_cell_row rfl _ _ gb648 25 #[.int .i64 t649, .slice Ao15 t650.length co15] (0, 0) _ rfl (by (with_reducible repeat (first | refine blk_drewN ?_ _ | refine blk_drew ?_ | refine blk_alloc ?_ _)); refine blk_put (cs := #[.int .i64 t649, .slice none 0 0]) ?_ 1 _ rfl; (with_reducible repeat (first | refine blk_drewN ?_ _ | refine blk_drew ?_ | refine blk_alloc ?_ _)); apply blk_put (i := 0); (case h => exact y0 BK648.out); (case e => rfl)) Try.underlying25 rfl (by kernel_rfl)) rfl ?_
  exact ⟨_, y19, (by (with_reducible repeat (first | apply Kd.N_alloc | apply Kd.N_drewN | apply Kd.N_drew)); exact Kd.N_mono (Kd.N_far (p := ⟨gb648, 1, none⟩) (Kd.N_far (p := ⟨gb648, 0, none⟩) (Kd.N_mono HO652.out (fun k_ hk => (⟨hk, hk.2.2.2⟩ : _ ∧ k_ ≠ gb648))) (fun _ hk => hk.2) (.int .i64 t649)) (fun _ hk => hk.2) (.slice Ao15 t650.length co15)) (fun _ hk => hk.1.1)), (y4 HB.out GE646.out GE647.out GE648.out)⟩
 ·rw [if_neg c4] at H
  have c4b0 : ((l1.length : Int) == 0) = false := beq_eq_false_iff_ne.mpr c4
  have c4b1 : ((l1.length : Int) != 0) = true := bne_iff_ne.mpr c4
  have c4b2 : ¬ (l1 = []) := fun h_ => c4 (by rw [h_]; rfl)
  obtain ⟨⟨t653, t654⟩, A160, H⟩ := ob H
  have A16 := Aside0.mk A160
  clear A160
  by_cases c17 : 0 < (l1.length : Int)
  ·rw [if_pos c17] at H
   have c17b0 : decide (0 < (l1.length : Int)) = true := decide_eq_true c17
   have c17b1 : decide (0 < l1.length) = true := decide_eq_true (by omega)
   clear c17
   by_cases c18 : 0 ≤ (rd l1 0)
   ·rw [if_pos c18] at H
    have c18b0 : decide (0 ≤ (rd l1 0)) = true := decide_eq_true c18
    clear c18
    by_cases c19 : (rd l1 0) < (l0_1.length : Int)
    ·rw [if_pos c19] at H
     have c19b0 : decide ((rd l1 0) < (l0_1.length : Int)) = true := decide_eq_true c19
     clear c19
     by_cases c20 : 1 ≤ (l1.length : Int)
     ·rw [if_pos c20] at H
      have c20b0 := eq_true c20
      have c20b1 : decide (1 ≤ (l1.length : Int)) = true := decide_eq_true c20
      clear c20
      obtain ⟨⟨t662, t663⟩, A210, H⟩ := ob H
      have A21 := Aside0.mk A210
      clear A210
      by_cases c22 : (rd l1 0) < (t654.length : Int)
      ·rw [if_pos c22] at H
       have c22b0 : decide ((rd l1 0) < (t654.length : Int)) = true := decide_eq_true c22
       clear c22
       obtain ⟨y666, hy666⟩ : ∃ y_ : List (S25), y_ = (t654.set ((rd l1 0) : Int).toNat (⟨t662, t663⟩ : S25)) := ⟨_, rfl⟩
       replace H : (some (t653, y666)) = some (r1, r2) := by first | (rw [hy666]; with_reducible exact H) | (have H2_ := (Option.bind_some _ _).symm.trans H; rw [hy666]; with_reducible exact H2_) | (have H2_ := (Option.bind_some _ _).symm.trans H; with_reducible exact H2_) | with_reducible exact H | (rw [hy666]; exact H) | exact H
       have Ny666 := Aside0.mk hy666
       clear hy666
       simp only [Option.some.injEq, Prod.mk.injEq] at H
       obtain ⟨rfl, rfl⟩ := H
       go_enter Try.func51, Try.ntmps51
       try go_wp2_with (first | ((with_reducible refine gate_dst (N := 3) rfl ?_); refine zbx 3 #[.int .i64 a0_0, .slice A0_1 l0_1.length c0_1] 25 ?_; intro gb646 hg w24 hbox hb; have BK646 := Aside0.mk hbox; have GW646 := Aside0.mk ((y9 hg HB.out : w.heap.size ≤ gb646)); have GE646 := Aside0.mk ((y9 hg HB.out : w.heap.size ≤ gb646)); replace HB := Aside0.mk (below_step (y5 HB.out) hb); clear hb hbox hg) | ((with_reducible refine gate_dst (N := 5) rfl ?_); refine zbx 5 #[.int .i64 a2_0, .slice A2_1 l2_1.length c2_1] 25 ?_; intro gb647 hg w25 hbox hb; have BK647 := Aside0.mk hbox; have GW647 := Aside0.mk ((y11 hg HB.out GE646.out : w.heap.size ≤ gb647)); have GE647 := Aside0.mk ((y11 hg HB.out GE646.out : w.heap.size ≤ gb647)); replace HB := Aside0.mk (below_step (y6 HB.out GE646.out) hb); have NB646_647 := zltn hg BK646; have NB647_646 := zgtn hg BK646; replace BK646 := zbb BK646 hb; clear hb hbox hg) | ((with_reducible refine gate_dst (N := 6) rfl ?_); refine zbx 6 #[.int .i64 0, .slice none 0 0] 25 ?_; intro gb648 hg w26 hbox hb; have BK648 := Aside0.mk hbox; have GW648 := Aside0.mk ((y16 hg HB.out GE646.out GE647.out : w.heap.size ≤ gb648)); have GE648 := Aside0.mk ((y16 hg HB.out GE646.out GE647.out : w.heap.size ≤ gb648)); replace HB := Aside0.mk (below_step (y2 HB.out GE646.out GE647.out) hb); have NB646_648 := zltn hg BK646; have NB648_646 := zgtn hg BK646; replace BK646 := zbb BK646 hb; have NB647_648 := zltn hg BK647; have NB648_647 := zgtn hg BK647; replace BK647 := zbb BK647 hb; clear hb hbox hg; have hnb27 := NB646_647.out; have hnc27 := NB647_646.out; have hnb28 := NB646_648.out; have hnc28 := NB648_646.out; have hcz29_0 := zh BK646; have hcz29_1 := zh1 BK646; have hfz29_0 := zfr BK646 0; have hfz29_1 := zfr BK646 1) | ((with_reducible refine gate_callee (f := 37) rfl ?_); refine goesL_ (some 14) rfl rfl Try.func37 (by kernel_rfl) rfl #[.agg #[.int .i64 a0_0, .slice A0_1 l0_1.length c0_1]] rfl y8 ?_; (with_reducible refine (spec_l1Anew.calls k a0_0 _ _ l0_1 t653 t654 _ ?side1 ?side2 A16.out).mono ?_); (case side1 => exact y15 HR0_1.out HB.out); (case side2 => exact HC0_1.out); rintro e w30 ⟨v655, rfl, ho0, hb⟩; refine ⟨_, rfl, ?_⟩; have HO656 := Aside0.mk (Kd.N_lower (Kd.N_mono (ok' := fun k_ => (w.heap.size ≤ k_) ∧ k_ ≠ gb646 ∧ k_ ≠ gb647 ∧ k_ ≠ gb648) (Kd.R_N (Kd.R_bound ho0)) (fun k_ hk_ => ⟨(Nat.le_trans (below_size (y4 HB.out GE646.out GE647.out GE648.out)) hk_.2.1), (Kd.freshB (g := gb646) (o := .cells #[.int .i64 a0_0, .slice A0_1 l0_1.length c0_1] 25 (0, 0)) (y0 BK646.out) k_ hk_.2.1), (Kd.freshB (g := gb647) (o := .cells #[.int .i64 a2_0, .slice A2_1 l2_1.length c2_1] 25 (0, 0)) (y0 BK647.out) k_ hk_.2.1), (Kd.freshB (g := gb648) (o := .cells #[.int .i64 0, .slice none 0 0] 25 (0, 0)) (y0 BK648.out) k_ hk_.2.1)⟩)) (below_size (y4 HB.out GE646.out GE647.out GE648.out))); replace BK646 := zbb BK646 hb; replace BK647 := zbb BK647 hb; replace BK648 := zbb BK648 hb; replace HB := Aside0.mk (below_step (y4 HB.out GE646.out GE647.out GE648.out) hb); (try clear hb); (try clear hb2); (try clear hk); (try clear hi); (try clear ho0)) | ((with_reducible refine gate_dst (N := 7) rfl ?_); refine zbx 7 #[.int .i64 0, .slice none 0 0] 25 ?_; intro gb657 hg w31 hbox hb; replace HO656 := Aside0.mk (Kd.N_below (Kd.N_elderB (y3 HO656.out) gb657 (Nat.le_of_eq hg.symm)) hb); have BK657 := Aside0.mk hbox; have GW657 := Aside0.mk ((y22 hg HB.out GE646.out GE647.out GE648.out : w.heap.size ≤ gb657)); have GE657 := Aside0.mk ((y22 hg HB.out GE646.out GE647.out GE648.out : w.heap.size ≤ gb657)); replace HB := Aside0.mk (below_step (y4 HB.out GE646.out GE647.out GE648.out) hb); have NB646_657 := zltn hg BK646; have NB657_646 := zgtn hg BK646; replace BK646 := zbb BK646 hb; have NB647_657 := zltn hg BK647; have NB657_647 := zgtn hg BK647; replace BK647 := zbb BK647 hb; have NB648_657 := zltn hg BK648; have NB657_648 := zgtn hg BK648; replace BK648 := zbb BK648 hb; clear hb hbox hg; have hnb32 := NB657_646.out; have hnc32 := NB646_657.out; have hnb33 := NB657_647.out; have hnc33 := NB647_657.out; have hnb34 := NB657_648.out; have hnc34 := NB648_657.out; have hcz35_0 := zh BK657; have hcz35_1 := zh1 BK657; have hfz35_0 := zfr BK657 0; have hfz35_1 := zfr BK657 1; obtain ⟨Ao36, co36, eo36⟩ := Kd.N_slice HO656.out; subst eo36))
       have n0_ : Aside0 (Kd.N k25 25 ((w31.setCell ⟨gb657, 0, none⟩ (.int .i64 t653)).setCell ⟨gb657, 1, none⟩ (.slice Ao36 t654.length co36)) w.heap.size (fun k_ => (w.heap.size ≤ k_) ∧ k_ ≠ gb646 ∧ k_ ≠ gb647 ∧ k_ ≠ gb648 ∧ k_ ≠ gb657) (.slice Ao36 t654.length co36) t654) := ⟨(by (with_reducible repeat (first | apply Kd.N_alloc | apply Kd.N_drewN | apply Kd.N_drew)); exact Kd.N_mono (Kd.N_far (p := ⟨gb657, 1, none⟩) (Kd.N_far (p := ⟨gb657, 0, none⟩) (Kd.N_mono HO656.out (fun k_ hk => (⟨hk, hk.2⟩ : _ ∧ k_ ≠ gb657))) (fun _ hk => hk.2) (.int .i64 t653)) (fun _ hk => hk.2) (.slice Ao36 t654.length co36)) (fun _ hk => ⟨hk.1.1.1, ⟨hk.1.1.2.1, ⟨hk.1.1.2.2.1, ⟨hk.1.1.2.2.2, hk.1.2⟩⟩⟩⟩))⟩
       have n1_ : Aside0 (((w31.setCell ⟨gb657, 0, none⟩ (.int .i64 t653)).setCell ⟨gb657, 1, none⟩ (.slice Ao36 t654.length co36)).heap[gb646]? = some (.cells #[.int .i64 a0_0, .slice A0_1 l0_1.length c0_1] 25 (0, 0))) := ⟨(y1 NB646_657.out BK646.out)⟩
       have n2_ : Aside0 (((w31.setCell ⟨gb657, 0, none⟩ (.int .i64 t653)).setCell ⟨gb657, 1, none⟩ (.slice Ao36 t654.length co36)).heap[gb647]? = some (.cells #[.int .i64 a2_0, .slice A2_1 l2_1.length c2_1] 25 (0, 0))) := ⟨(y1 NB647_657.out BK647.out)⟩
       have n3_ : Aside0 (((w31.setCell ⟨gb657, 0, none⟩ (.int .i64 t653)).setCell ⟨gb657, 1, none⟩ (.slice Ao36 t654.length co36)).heap[gb648]? = some (.cells #[.int .i64 0, .slice none 0 0] 25 (0, 0))) := ⟨(y1 NB648_657.out BK648.out)⟩
       have n4_ : Aside0 (((w31.setCell ⟨gb657, 0, none⟩ (.int .i64 t653)).setCell ⟨gb657, 1, none⟩ (.slice Ao36 t654.length co36)).heap[gb657]? = some (.cells #[.int .i64 t653, .slice Ao36 t654.length co36] 25 (0, 0))) := ⟨(by (with_reducible repeat (first | refine blk_drewN ?_ _ | refine blk_drew ?_ | refine blk_alloc ?_ _)); refine blk_put (cs := #[.int .i64 t653, .slice none 0 0]) ?_ 1 _ rfl; (with_reducible repeat (first | refine blk_drewN ?_ _ | refine blk_drew ?_ | refine blk_alloc ?_ _)); refine blk_put (cs := #[.int .i64 0, .slice none 0 0]) ?_ 0 _ rfl; (with_reducible repeat (first | refine blk_drewN ?_ _ | refine blk_drew ?_ | refine blk_alloc ?_ _)); exact BK657.out)⟩
       have n5_ : Aside0 (Below w.heap.size w ((w31.setCell ⟨gb657, 0, none⟩ (.int .i64 t653)).setCell ⟨gb657, 1, none⟩ (.slice Ao36 t654.length co36))) := ⟨(y7 HB.out GE646.out GE647.out GE648.out GE657.out)⟩
       (try clear HO656)
       (try clear BK646)
       (try clear BK647)
       (try clear BK648)
       (try clear BK657)
       (try clear HB)
       generalize ((w31.setCell ⟨gb657, 0, none⟩ (.int .i64 t653)).setCell ⟨gb657, 1, none⟩ (.slice Ao36 t654.length co36)) = w37 at n0_ n1_ n2_ n3_ n4_ n5_ ⊢
       have HO656 := n0_
       have BK646 := n1_
       have BK647 := n2_
       have BK648 := n3_
       have BK657 := n4_
       have HB := n5_
       clear n0_ n1_ n2_ n3_ n4_ n5_
       replace HO656 := Aside0.mk (Kd.N_drew HO656.out)
       replace BK646 := Aside0.mk (blk_drew BK646.out)
       replace BK647 := Aside0.mk (blk_drew BK647.out)
       replace BK648 := Aside0.mk (blk_drew BK648.out)
       replace BK657 := Aside0.mk (blk_drew BK657.out)
       replace HB := Aside0.mk (below_drew1 HB.out)
       have p658 : 0 ≤ (0 : Int) := (by omega)
       have q658 : 0 < (l1.length : Int) := of_decide_eq_true y23
       obtain ⟨ad658, e658, hx658_0⟩ := Kd.at_int HR1.out 0 p658 q658
       have hw658_0 := hx658_0
       (try rw [show ((0 : Int)).toNat = 0 from rfl] at hw658_0)
       (try rw [show 0 * 1 = 0 from rfl] at hw658_0)
       (try rw [Addr.add_zero'] at hw658_0)
       cases e658
       have qi658 : (0 < l1.length) = True := eq_true (by omega)
       (try rw [show ((0 : Int)).toNat = 0 from rfl] at hx658_0)
       (try rw [Addr.add_zero'] at hx658_0)
       replace hx658_0 := (HB.out.cell (World.block_lt_of_cell? w _ hx658_0)).trans hx658_0
       replace p658 := eq_true p658
       replace q658 := eq_true q658
       have p659 : 0 ≤ (0 : Int) := (by omega)
       have q659 : 0 < (l1.length : Int) := of_decide_eq_true y23
       obtain ⟨ad659, e659, hx659_0⟩ := Kd.at_int HR1.out 0 p659 q659
       have hw659_0 := hx659_0
       (try rw [show ((0 : Int)).toNat = 0 from rfl] at hw659_0)
       (try rw [show 0 * 1 = 0 from rfl] at hw659_0)
       (try rw [Addr.add_zero'] at hw659_0)
       obtain rfl : ad658 = ad659 := (by injection e659)
       have qi659 : (0 < l1.length) = True := eq_true (by omega)
       (try rw [show ((0 : Int)).toNat = 0 from rfl] at hx659_0)
       (try rw [Addr.add_zero'] at hx659_0)
       replace hx659_0 := (HB.out.cell (World.block_lt_of_cell? w _ hx659_0)).trans hx659_0
       replace p659 := eq_true p659
       replace q659 := eq_true q659
       have p660 : 0 ≤ ((rd l1 0) : Int) := of_decide_eq_true y23
       have q660 : (rd l1 0) < (l0_1.length : Int) := of_decide_eq_true y23
       obtain ⟨ad660, A660_1, c660_1, e660, hx660_0, hx660_1, hl660_1, hi660_1⟩ := at_T25 HR0_1.out (rd l1 0) p660 q660
       have hw660_1 := hx660_1
       have hw660_0 := hx660_0
       cases e660
       replace hx660_0 := (HB.out.cell (World.block_lt_of_cell? w _ hx660_0)).trans hx660_0
       replace hx660_1 := (HB.out.cell (World.block_lt_of_cell? w _ hx660_1)).trans hx660_1
       have HR660_1 := Aside0.mk hi660_1
       have HC660_1 := Aside0.mk hl660_1
       clear hi660_1 hl660_1
       replace p660 := eq_true p660
       replace q660 := eq_true q660
       obtain ⟨i039, hi039, _, hsz39, _⟩ := info_parts info3
       obtain ⟨A39, hcut39, hA39, hC39⟩ := print_drop_of (P := Try.prog) (Value.int .i64) 0 26 3 .i64 Try.underlying26 hi039 hsz39 (some ad658) c1 l1 1 (by omega) (of_decide_eq_true y23) HC1.out
       have HR661 := Aside0.mk (Kd.C_of_reads (h1 := fun _ => rfl) (hA39 _ (Kd.reads_of_C HR1.out)))
       have HC661 := Aside0.mk hC39
       clear hA39 hC39 hi039 hsz39
       refine start_ (n := 18) (S := fun w' => w'.cell? ⟨gb657, 0, none⟩ = some (.int .i64 t653) ∧ w'.cell? ⟨gb657, 1, none⟩ = some (.slice Ao36 t654.length co36) ∧ w'.cell? ⟨gb646, 0, none⟩ = some (.int .i64 a0_0) ∧ w'.cell? ⟨gb646, 1, none⟩ = some (.slice (some ad660) l0_1.length c0_1) ∧ w'.cell? ⟨gb647, 0, none⟩ = some (.int .i64 a2_0) ∧ w'.cell? ⟨gb647, 1, none⟩ = some (.slice A2_1 l2_1.length c2_1) ∧ w'.cell? ad658 = some (.int .i64 (rd l1 0)) ∧ w'.cell? ad658 = some (.int .i64 (rd l1 0)) ∧ w'.cell? (ad660.add (((rd l1 0)).toNat * 2)) = some (.int .i64 ((rd_T25 l0_1 (rd l1 0)).f0)) ∧ w'.cell? ⟨(ad660.add (((rd l1 0)).toNat * 2)).block, (ad660.add (((rd l1 0)).toNat * 2)).off + 1, none⟩ = some (.slice A660_1 ((rd_T25 l0_1 (rd l1 0)).f1).length c660_1)) (ds := [17]) #[false, false, false, false, false, false, false, false, false, false, false, false, false, false, false, false, false, false] (by kernel_rfl) rfl rfl ⟨(blk_cell BK657.out 0).trans rfl, (blk_cell BK657.out 1).trans rfl, (blk_cell BK646.out 0).trans rfl, (blk_cell BK646.out 1).trans rfl, (blk_cell BK647.out 0).trans rfl, (blk_cell BK647.out 1).trans rfl, ((HB.out.cell (World.block_lt_of_cell? w _ hw658_0)).trans hw658_0), ((HB.out.cell (World.block_lt_of_cell? w _ hw659_0)).trans hw659_0), ((HB.out.cell (World.block_lt_of_cell? w _ hw660_0)).trans hw660_0), ((HB.out.cell (World.block_lt_of_cell? w _ hw660_1)).trans hw660_1)⟩ (fun hHeld => ?_); refine with_tabW spec_l1Put.tab4 spec_l1Put.bits4 (fun HT_ HW_ => ?_)
       generalize w37.drew = w38 at HO656 BK646 BK647 BK648 BK657 HB HR660_1 HR661 hx658_0 hx659_0 hx660_0 hx660_1 hHeld ⊢
       refine zp 0 (some 15) HT_ ?_
       refine zp 2 (some 17) HT_ ?_
       refine zp 3 (some 18) HT_ ?_
       refine zp 5 (some 20) HT_ ?_
       refine zp 7 (some 22) HT_ ?_
       refine zp 8 (some 23) HT_ ?_
       refine zp 12 (some 27) HT_ ?_
       refine zp 13 (some 28) HT_ ?_
       refine zt10 1 (some 16) HT_ HW_ hHeld ?_
       refine zt10 4 (some 19) HT_ HW_ hHeld ?_
       refine zt10 6 (some 21) HT_ HW_ hHeld ?_
       refine zt10 9 (some 24) HT_ HW_ hHeld ?_
       refine zp 10 (some 25) HT_ ?_
       refine zt10 11 (some 26) HT_ HW_ hHeld ?_
       refine zt10 14 (some 29) HT_ HW_ hHeld ?_
       refine one_ (i := 15) (N := some 30) #[true, true, true, true, true, true, true, true, true, true, true, true, true, true, true, true, false, false] rfl rfl (one_of HT_.out (by kernel_rfl)) (by decide) (fun K hK => ?_)
       refine goes_ Try.func51 (by kernel_rfl) rfl #[.agg #[.int .i64 ((rd_T25 l0_1 (rd l1 0)).f0), .slice A660_1 ((rd_T25 l0_1 (rd l1 0)).f1).length c660_1], .slice A39 (l1.drop 1).length (c1 - 1), .agg #[.int .i64 a2_0, .slice A2_1 l2_1.length c2_1]] (by rfl) rfl rfl (by (try simp only [List.map_toArray, List.map_cons, List.map_nil]); first | done | (rw [show (l1.drop 1).length = (l1.length - 1) from List.length_drop] <;> rfl) | rfl | (simp only [List.length_drop, List.length_take]; rfl)) ?_
       with_reducible refine (ih k (by omega) ((rd_T25 l0_1 (rd l1 0)).f0) _ _ ((rd_T25 l0_1 (rd l1 0)).f1) _ _ (l1.drop 1) a2_0 _ _ l2_1 t662 t663 _ ?side1 ?side2 ?side3 ?side4 ?side5 ?side6 A21.out).mono ?_
       (case side1 => exact y15 HR660_1.out HB.out)
       (case side2 => exact HC660_1.out)
       (case side3 => exact y15 HR661.out HB.out)
       (case side4 => exact HC661.out)
       (case side5 => exact y15 HR2_1.out HB.out)
       (case side6 => exact HC2_1.out)
       rintro e w40 ⟨v664, rfl, ho0, hb⟩
       refine ⟨_, rfl, ?_⟩
       have HO665 := Aside0.mk (Kd.N_lower (Kd.N_mono (ok' := fun k_ => (w.heap.size ≤ k_) ∧ some k_ ≠ (.slice Ao36 t654.length co36 : Value).ownBlock ∧ k_ ≠ gb646 ∧ k_ ≠ gb647 ∧ k_ ≠ gb648 ∧ k_ ≠ gb657) ho0 (fun k_ hk_ => ⟨(Nat.le_trans (below_size (y7 HB.out GE646.out GE647.out GE648.out GE657.out)) hk_), (Kd.fresh' (Kd.N_lt (y3 HO656.out)) k_ hk_), (Kd.freshB (g := gb646) (o := .cells #[.int .i64 a0_0, .slice (some ad660) l0_1.length c0_1] 25 (0, 0)) (y0 BK646.out) k_ hk_), (Kd.freshB (g := gb647) (o := .cells #[.int .i64 a2_0, .slice A2_1 l2_1.length c2_1] 25 (0, 0)) (y0 BK647.out) k_ hk_), (Kd.freshB (g := gb648) (o := .cells #[.int .i64 0, .slice none 0 0] 25 (0, 0)) (y0 BK648.out) k_ hk_), (Kd.freshB (g := gb657) (o := .cells #[.int .i64 t653, .slice Ao36 t654.length co36] 25 (0, 0)) (y0 BK657.out) k_ hk_)⟩)) (below_size (y7 HB.out GE646.out GE647.out GE648.out GE657.out)))
       replace HO656 := Aside0.mk (Kd.N_elder' (y3 HO656.out) (Kd.N_base ho0) hb)
       replace BK646 := zbb BK646 hb
       replace BK647 := zbb BK647 hb
       replace BK648 := zbb BK648 hb
       replace BK657 := zbb BK657 hb
       replace HB := Aside0.mk (below_step (y7 HB.out GE646.out GE647.out GE648.out GE657.out) hb)
       (try clear hb)
       (try clear hb2)
       (try clear hk)
       (try clear hi)
       (try clear ho0)
       have p23 : 0 ≤ ((rd l1 0) : Int) := of_decide_eq_true y23
       have q23 : ((rd l1 0) : Int) < ((t654.length : Int) : Int) := of_decide_eq_true y23
       obtain ⟨go23, co23, eo23, gb23, gl23, cl23, HG23⟩ := Kd.N_form HO656.out (by omega)
       (first | cases eo23 | (injection eo23 with ea_ en_ ec_; (first | subst ea_ | (injection ea_ with ea_; subst ea_)); subst ec_; clear en_))
       have GB23 := Aside0.mk gb23
       have GG23 := Aside0.mk HG23
       clear gb23 gl23 HG23
       obtain ⟨ce23, hcl23, hM23, hcc23, hfr23⟩ := Kd.N_elem HO656.out z25 ((rd l1 0) : Int) p23 q23
       obtain ⟨ua23_1, uc23_1, rfl, ul23_1, ge23_1⟩ := k25_openF hM23
       have hx23_0 : World.cell? _ ⟨go23, ((rd l1 0) : Int).toNat * 2, none⟩ = some (.int .i64 ((rd_T25 t654 (rd l1 0)).f0)) := hcc23 0 _ rfl
       have hx23_1 : World.cell? _ ⟨go23, ((rd l1 0) : Int).toNat * 2 + 1, none⟩ = some (.slice ua23_1 ((rd_T25 t654 (rd l1 0)).f1).length uc23_1) := hcc23 1 _ rfl
       have hf23_0 : World.frozen? _ ⟨go23, ((rd l1 0) : Int).toNat * 2, none⟩ = false := hfr23 0
       have hf23_1 : World.frozen? _ ⟨go23, ((rd l1 0) : Int).toNat * 2 + 1, none⟩ = false := hfr23 1
       clear hcl23 hcc23 hfr23 hM23
       replace p23 := eq_true p23
       replace q23 := eq_true q23
       obtain ⟨Ao41, co41, eo41⟩ := Kd.N_slice HO665.out
       (first | subst eo41 | (injection eo41 with f1_ f2_ f3_; have f4_ := f1_.symm; have f5_ := f3_.symm; clear f1_ f2_ f3_; subst f4_; subst f5_))
       have HX42 := Aside0.mk (show Kd.N k25 25 _ w.heap.size (fun k_ => (w.heap.size ≤ k_) ∧ some k_ ≠ (.slice Ao41 t663.length co41 : Value).ownBlock ∧ k_ ≠ gb646 ∧ k_ ≠ gb647 ∧ k_ ≠ gb648 ∧ k_ ≠ gb657) (.slice (some ⟨go23, 0, none⟩) t654.length co36) t654 from (Kd.N_mono (HO656.out) (fun k_ hk => ⟨hk.1.1, ⟨hk.2, ⟨hk.1.2.1, ⟨hk.1.2.2.1, ⟨hk.1.2.2.2.1, hk.1.2.2.2.2⟩⟩⟩⟩⟩)))
       replace HX42 := Aside0.mk (show Kd.N k25 25 _ w.heap.size (fun k_ => (w.heap.size ≤ k_) ∧ k_ ≠ gb646 ∧ k_ ≠ gb647 ∧ k_ ≠ gb648 ∧ k_ ≠ gb657) (.slice (some ⟨go23, 0, none⟩) t654.length co36) t654 from Kd.N_mono HX42.out (fun k_ hk => ⟨hk.1, ⟨hk.2.2.1, ⟨hk.2.2.2.1, ⟨hk.2.2.2.2.1, hk.2.2.2.2.2⟩⟩⟩⟩))
       obtain ⟨ce42, hcl42, hM42, hcc42, hfr42⟩ := Kd.N_elem HX42.out z25 ((rd l1 0) : Int) (of_decide_eq_true y23) (by have h_ : ((rd l1 0) : Int) < ((t654.length : Int) : Int) := of_decide_eq_true y23; first | exact h_ | (have e_ := (Kd.N_reads' HO656.out).1; omega) | simpa using h_)
       obtain ⟨ua42_1, uc42_1, rfl, ul42_1, ge42_1⟩ := k25_openF hM42
       have HP42 := (Kd.N_seg HX42.out ((rd l1 0) : Int) (of_decide_eq_true y23) (by have h_ : ((rd l1 0) : Int) < ((t654.length : Int) : Int) := of_decide_eq_true y23; first | exact h_ | (have e_ := (Kd.N_reads' HO656.out).1; omega) | simpa using h_) (seg := [.int .i64 t662, .slice Ao41 t663.length co41]) (j := 0) hcl42 hcc42 (show 2 ≤ 2 from by decide) (x' := (⟨t662, t663⟩ : S25)) (k25_mkF _ _ (⟨t662, t663⟩ : S25) (Kd.N_reads' (Kd.N_mono (ok' := (fun k_ => ((fun k_ => (w.heap.size ≤ k_) ∧ k_ ≠ gb646 ∧ k_ ≠ gb647 ∧ k_ ≠ gb648 ∧ k_ ≠ gb657)) k_ ∧ k_ ≠ go23)) (HO665.out) (fun k_ hk => ⟨⟨hk.1, ⟨hk.2.2.1, ⟨hk.2.2.2.1, ⟨hk.2.2.2.2.1, hk.2.2.2.2.2⟩⟩⟩⟩, fun e_ => (hk.2.1) (by rw [e_]; rfl)⟩))).2.1 (Kd.N_F (Kd.N_mono (ok' := (fun k_ => ((fun k_ => (w.heap.size ≤ k_) ∧ k_ ≠ gb646 ∧ k_ ≠ gb647 ∧ k_ ≠ gb648 ∧ k_ ≠ gb657)) k_ ∧ k_ ≠ go23)) (HO665.out) (fun k_ hk => ⟨⟨hk.1, ⟨hk.2.2.1, ⟨hk.2.2.2.1, ⟨hk.2.2.2.2.1, hk.2.2.2.2.2⟩⟩⟩⟩, fun e_ => (hk.2.1) (by rw [e_]; rfl)⟩)))) (fun _ hk => hk)).1
       rw [← Ny666.out] at HP42
       have HQ42 := Aside0.mk HP42
       clear hcl42 hcc42 hfr42 hM42 HP42
       refine hK.out _ _ ⟨(blk_cell BK657.out 0).trans rfl, (blk_cell BK657.out 1).trans rfl, (blk_cell BK646.out 0).trans rfl, (blk_cell BK646.out 1).trans rfl, (blk_cell BK647.out 0).trans rfl, (blk_cell BK647.out 1).trans rfl, ((HB.out.cell (World.block_lt_of_cell? w _ hw658_0)).trans hw658_0), ((HB.out.cell (World.block_lt_of_cell? w _ hw659_0)).trans hw659_0), ((HB.out.cell (World.block_lt_of_cell? w _ hw660_0)).trans hw660_0), ((HB.out.cell (World.block_lt_of_cell? w _ hw660_1)).trans hw660_1)⟩ (fun hHeld => ?_)
       clear hK K
       refine norm_ (a' := ?_) ?_ ?_
       rotate_left
       ·show Act.put _ (some 30) _ = _
        simp only [Act.put, List.setIfInBounds_toArray, List.set_cons_zero, List.set_cons_succ, i64_w, i32_w]
        rfl
       refine zp 16 (some 31) HT_ ?_
       refine last_ (i := 17) (N := none) #[true, true, true, true, true, true, true, true, true, true, true, true, true, true, true, true, true, true] rfl rfl (one_of HT_.out (by kernel_rfl)) (by decide) (fun K hK => ?_)
       refine skip_ (w1 := ?_) (by rfl) rfl ?_ ?_
       rotate_left
       ·go_simp
        rfl
       refine hK.out _ _ ?_
       clear hK K
       refine done_ (done_of HT_.out (by kernel_rfl)) ?_
       have n0_ : Aside0 (Kd.N k25 25 ((w40.setCell ⟨go23, ((rd l1 0) : Int).toNat * 2, none⟩ (.int .i64 t662)).setCell ⟨go23, ((rd l1 0) : Int).toNat * 2 + 1, none⟩ (.slice Ao41 t663.length co41)) w.heap.size (fun k_ => (w.heap.size ≤ k_) ∧ k_ ≠ gb646 ∧ k_ ≠ gb647 ∧ k_ ≠ gb648 ∧ k_ ≠ gb657) (.slice (some ⟨go23, 0, none⟩) t654.length co36) y666) := ⟨(y3 HQ42.out)⟩
       have n1_ : Aside0 (((w40.setCell ⟨go23, ((rd l1 0) : Int).toNat * 2, none⟩ (.int .i64 t662)).setCell ⟨go23, ((rd l1 0) : Int).toNat * 2 + 1, none⟩ (.slice Ao41 t663.length co41)).heap[gb646]? = some (.cells #[.int .i64 a0_0, .slice (some ad660) l0_1.length c0_1] 25 (0, 0))) := ⟨(y50 HQ42.out BK646.out)⟩
       have n2_ : Aside0 (((w40.setCell ⟨go23, ((rd l1 0) : Int).toNat * 2, none⟩ (.int .i64 t662)).setCell ⟨go23, ((rd l1 0) : Int).toNat * 2 + 1, none⟩ (.slice Ao41 t663.length co41)).heap[gb647]? = some (.cells #[.int .i64 a2_0, .slice A2_1 l2_1.length c2_1] 25 (0, 0))) := ⟨(y49 HQ42.out BK647.out)⟩
       have n3_ : Aside0 (((w40.setCell ⟨go23, ((rd l1 0) : Int).toNat * 2, none⟩ (.int .i64 t662)).setCell ⟨go23, ((rd l1 0) : Int).toNat * 2 + 1, none⟩ (.slice Ao41 t663.length co41)).heap[gb648]? = some (.cells #[.int .i64 0, .slice none 0 0] 25 (0, 0))) := ⟨(y48 HQ42.out BK648.out)⟩
       have n4_ : Aside0 (((w40.setCell ⟨go23, ((rd l1 0) : Int).toNat * 2, none⟩ (.int .i64 t662)).setCell ⟨go23, ((rd l1 0) : Int).toNat * 2 + 1, none⟩ (.slice Ao41 t663.length co41)).heap[gb657]? = some (.cells #[.int .i64 t653, .slice (some ⟨go23, 0, none⟩) t654.length co36] 25 (0, 0))) := ⟨(by (with_reducible repeat (first | refine blk_drewN ?_ _ | refine blk_drew ?_ | refine blk_alloc ?_ _)); refine blk_far ?_ (by have h_ := Kd.N_away HQ42.out (fun _ hk => hk.2.2.2.2); intro e_; exact h_ (by rw [e_]; rfl)) _; (with_reducible repeat (first | refine blk_drewN ?_ _ | refine blk_drew ?_ | refine blk_alloc ?_ _)); refine blk_far ?_ (by have h_ := Kd.N_away HQ42.out (fun _ hk => hk.2.2.2.2); intro e_; exact h_ (by rw [e_]; rfl)) _; (with_reducible repeat (first | refine blk_drewN ?_ _ | refine blk_drew ?_ | refine blk_alloc ?_ _)); exact BK657.out)⟩
       have n5_ : Aside0 (Below w.heap.size w ((w40.setCell ⟨go23, ((rd l1 0) : Int).toNat * 2, none⟩ (.int .i64 t662)).setCell ⟨go23, ((rd l1 0) : Int).toNat * 2 + 1, none⟩ (.slice Ao41 t663.length co41))) := ⟨(y65 HB.out GB23.out GE646.out GE647.out GE648.out GE657.out)⟩
       (try clear HO656)
       (try clear BK646)
       (try clear BK647)
       (try clear BK648)
       (try clear BK657)
       (try clear HB)
       generalize ((w40.setCell ⟨go23, ((rd l1 0) : Int).toNat * 2, none⟩ (.int .i64 t662)).setCell ⟨go23, ((rd l1 0) : Int).toNat * 2 + 1, none⟩ (.slice Ao41 t663.length co41)) = w43 at n0_ n1_ n2_ n3_ n4_ n5_ ⊢
       have HO656 := n0_
       have BK646 := n1_
       have BK647 := n2_
       have BK648 := n3_
       have BK657 := n4_
       have HB := n5_
       clear n0_ n1_ n2_ n3_ n4_ n5_
       have hcz44_0 := zh BK657
       have hcz44_1 := zh1 BK657
       have hfz44_0 := zfr BK657 0
       have hfz44_1 := zfr BK657 1
       have hnb45 := NB648_647.out
       have hnc45 := NB647_648.out
       have hcz46_0 := zh BK648
       have hcz46_1 := zh1 BK648
       have hfz46_0 := zfr BK648 0
       have hfz46_1 := zfr BK648 1
       try go_wp2
       refine bodyPost_ret (results_cell_row rfl _ _ gb648 25 #[.int .i64 t653, .slice (some ⟨go23, 0, none⟩) t654.length co36] (0, 0) _ rfl (by (with_reducible repeat (first | refine blk_drewN ?_ _ | refine blk_drew ?_ | refine blk_alloc ?_ _)); refine blk_put (cs := #[.int .i64 t653, .slice none 0 0]) ?_ 1 _ rfl; (with_reducible repeat (first | refine blk_drewN ?_ _ | refine blk_drew ?_ | refine blk_alloc ?_ _)); apply blk_put (i := 0); (case h => exact y0 BK648.out); (case e => rfl)) Try.underlying25 rfl (by kernel_rfl)) rfl ?_
       exact ⟨_, y19, (by (with_reducible repeat (first | apply Kd.N_alloc | apply Kd.N_drewN | apply Kd.N_drew)); exact Kd.N_mono (Kd.N_far (p := ⟨gb648, 1, none⟩) (Kd.N_far (p := ⟨gb648, 0, none⟩) (Kd.N_mono HO656.out (fun k_ hk => (⟨hk, hk.2.2.2.1⟩ : _ ∧ k_ ≠ gb648))) (fun _ hk => hk.2) (.int .i64 t653)) (fun _ hk => hk.2) (.slice (some ⟨go23, 0, none⟩) t654.length co36)) (fun _ hk => hk.1.1)), (y7 HB.out GE646.out GE647.out GE648.out GE657.out)⟩
      ·rw [if_neg c22] at H
       exact absurd H (by simp)
     ·rw [if_neg c20] at H
      exact absurd H (by simp)
    ·rw [if_neg c19] at H
     exact absurd H (by simp)
   ·rw [if_neg c18] at H
    exact absurd H (by simp)
  ·rw [if_neg c17] at H
   exact absurd H (by simp)
end Go.Proofs.Ythfflieeifakdaa.PA
end
section
namespace Go.Proofs.Ythfflieeifakdaa.PA
open Go.RowKit Go.Proofs.YthfflieeifakdaaW.PrintWords Go.Proofs.YthfflieeifakdaaW.PrintLast Go.Proofs.YthfflieeifakdaaW.PrintMore
attribute [local go_sem] max2_int min2_int max_two min_two max_three min_three max_four min_four
set_option linter.unusedVariables false
set_option linter.unusedSimpArgs false
def spec_ValPut.j0 : Nat → List Int → Bool → Int → List (S25) → Int → List (S25) → Int → List (S25) → Option (Int × (List (S25)) × Bool)
 | 0, _, _, _, _, _, _, _, _ => none
 | k + 1, x1, x26, x668000, x668001, x669000, x669001, x676000, x676001 => if x26 = true then (some (0, ([] : List (S25)), false)) else ((spec_l1Of.f k x676000 x676001 4).bind fun bt677 => ((spec_l1Of.f k x669000 x669001 4).bind fun bt682 => ((spec_l1Same.f k bt677.1 bt682.1).bind fun t687 => (if t687 = true then ((spec_l1Put.f k x668000 x668001 x1 x669000 x669001).bind fun bt688 => (some (bt688.1, bt688.2, true))) else (some (0, ([] : List (S25)), false))))))
def spec_ValPut.f (k : Nat) (a0_0 : Int) (l0_1 : List (S25)) (l1 : List Int) (a2_0 : Int) (l2_1 : List (S25)) : Option (Int × (List (S25)) × Bool) := (spec_ValAt.f k a0_0 l0_1 l1).bind fun bt670 => (if bt670.2.2 = true then ((spec_l1Any.f k a2_0 l2_1).bind fun t676 => (spec_ValPut.j0 k l1 (!t676) a0_0 l0_1 a2_0 l2_1 bt670.1 bt670.2.1)) else (spec_ValPut.j0 k l1 true a0_0 l0_1 a2_0 l2_1 bt670.1 bt670.2.1))
theorem spec_ValPut.mono_l : ∀ k, (∀ y0 y1 y2 y3 y4 y5 y6 y7, LeO (spec_ValPut.j0 k y0 y1 y2 y3 y4 y5 y6 y7) (spec_ValPut.j0 (k + 1) y0 y1 y2 y3 y4 y5 y6 y7))
 | 0 => fun _ _ _ _ _ _ _ _ r h => by simp [spec_ValPut.j0] at h
 | k + 1 => by
  have ih0 := spec_ValPut.mono_l k
  ·intro y0 y1 y2 y3 y4 y5 y6 y7
   unfold spec_ValPut.j0
   repeat' first
   | (with_reducible exact ih0 _ _ _ _ _ _ _ _)
   | (with_reducible exact spec_ValAt.mono _ _ _ _)
   | (with_reducible exact spec_l1Any.mono _ _ _)
   | (with_reducible exact spec_l1Of.mono _ _ _ _)
   | (with_reducible exact spec_l1Put.mono _ _ _ _ _ _)
   | (with_reducible exact spec_l1Same.mono _ _ _)
   | (with_reducible exact LeO.refl _)
   | (with_reducible exact LeO.none _)
   | (with_reducible refine LeO.ite ?_ ?_)
   | (with_reducible refine LeO.bind ?_ (fun _ => ?_))
   | exact ih0 _ _ _ _ _ _ _ _
   | exact spec_ValAt.mono _ _ _ _
   | exact spec_l1Any.mono _ _ _
   | exact spec_l1Of.mono _ _ _ _
   | exact spec_l1Put.mono _ _ _ _ _ _
   | exact spec_l1Same.mono _ _ _
   | exact LeO.none _
   | refine LeO.ite ?_ ?_
   | refine LeO.bind ?_ (fun _ => ?_)
theorem spec_ValPut.mono : ∀ a0 a1 a2 a3 a4 k, LeO (spec_ValPut.f k a0 a1 a2 a3 a4) (spec_ValPut.f (k + 1) a0 a1 a2 a3 a4) := by
 intro a0 a1 a2 a3 a4 k
 have ih0 := spec_ValPut.mono_l k
 unfold spec_ValPut.f
 repeat' first
   | (with_reducible exact ih0 _ _ _ _ _ _ _ _)
   | (with_reducible exact spec_ValAt.mono _ _ _ _)
   | (with_reducible exact spec_l1Any.mono _ _ _)
   | (with_reducible exact spec_l1Of.mono _ _ _ _)
   | (with_reducible exact spec_l1Put.mono _ _ _ _ _ _)
   | (with_reducible exact spec_l1Same.mono _ _ _)
   | (with_reducible exact LeO.refl _)
   | (with_reducible exact LeO.none _)
   | (with_reducible refine LeO.ite ?_ ?_)
   | (with_reducible refine LeO.bind ?_ (fun _ => ?_))
   | exact ih0 _ _ _ _ _ _ _ _
   | exact spec_ValAt.mono _ _ _ _
   | exact spec_l1Any.mono _ _ _
   | exact spec_l1Of.mono _ _ _ _
   | exact spec_l1Put.mono _ _ _ _ _ _
   | exact spec_l1Same.mono _ _ _
   | exact LeO.none _
   | refine LeO.ite ?_ ?_
   | refine LeO.bind ?_ (fun _ => ?_)
set_option maxHeartbeats 8000000 in
set_option maxRecDepth 100000 in
theorem spec_ValPut.calls (k : Nat) (a0_0 : Int) (A0_1 : Option Addr) (c0_1 : Nat) (l0_1 : List (S25)) (A1 : Option Addr) (c1 : Nat) (l1 : List Int) (a2_0 : Int) (A2_1 : Option Addr) (c2_1 : Nat) (l2_1 : List (S25)) (r1 : Int) (r2 : List (S25)) (r3 : Bool) (w : World) (hr0_1 : Kd.C k25 w A0_1 l0_1.length l0_1) (hc0_1 : l0_1.length ≤ c0_1) (hr1 : Kd.C (Kd.int .i64) w A1 l1.length l1) (hc1 : l1.length ≤ c1) (hr2_1 : Kd.C k25 w A2_1 l2_1.length l2_1) (hc2_1 : l2_1.length ≤ c2_1) (h : spec_ValPut.f k a0_0 l0_1 l1 a2_0 l2_1 = some (r1, r2, r3)) :
  Calls Try.prog 26 #[.agg #[.int .i64 a0_0, .slice A0_1 l0_1.length c0_1], .slice A1 l1.length c1, .agg #[.int .i64 a2_0, .slice A2_1 l2_1.length c2_1]] w fun e w' => ∃ v1_ : Value, e = .returned (.tuple #[.agg #[.int .i64 r1, v1_], .bool r3]) ∧ Kd.N k25 25 w' w.heap.size (fun k_ => (w.heap.size ≤ k_)) v1_ r2 ∧ Below w.heap.size w w' := by
 have hu25 := Try.underlying25
 have hu50 := Try.underlying50
 have HR0_1 := Aside0.mk hr0_1
 have HC0_1 := Aside0.mk hc0_1
 clear hr0_1 hc0_1
 have HR1 := Aside0.mk hr1
 have HC1 := Aside0.mk hc1
 clear hr1 hc1
 have HR2_1 := Aside0.mk hr2_1
 have HC2_1 := Aside0.mk hc2_1
 clear hr2_1 hc2_1
 have HB := Aside0.mk (Below.refl w.heap.size w)
 have H : ((spec_ValAt.f k a0_0 l0_1 l1).bind fun bt670 => (if bt670.2.2 = true then ((spec_l1Any.f k a2_0 l2_1).bind fun t676 => (spec_ValPut.j0 k l1 (!t676) a0_0 l0_1 a2_0 l2_1 bt670.1 bt670.2.1)) else (spec_ValPut.j0 k l1 true a0_0 l0_1 a2_0 l2_1 bt670.1 bt670.2.1))) = some (r1, r2, r3) := h
 clear h
 obtain ⟨⟨t670, t671, t674⟩, A40, H⟩ := ob H
 have A4 := Aside0.mk A40
 clear A40
 have HC5 := Aside0.mk H
 clear H
 go_enter Try.func26, Try.ntmps26
 go_upto_region 2 with (first | ((with_reducible refine gate_dst (N := 3) rfl ?_); refine zbx 3 #[.int .i64 a0_0, .slice A0_1 l0_1.length c0_1] 25 ?_; intro gb667 hg w6 hbox hb; have BK667 := Aside0.mk hbox; have GW667 := Aside0.mk ((y9 hg HB.out : w.heap.size ≤ gb667)); have GE667 := Aside0.mk ((y9 hg HB.out : w.heap.size ≤ gb667)); replace HB := Aside0.mk (below_step (y5 HB.out) hb); clear hb hbox hg) | ((with_reducible refine gate_dst (N := 5) rfl ?_); refine zbx 5 #[.int .i64 a2_0, .slice A2_1 l2_1.length c2_1] 25 ?_; intro gb668 hg w7 hbox hb; have BK668 := Aside0.mk hbox; have GW668 := Aside0.mk ((y11 hg HB.out GE667.out : w.heap.size ≤ gb668)); have GE668 := Aside0.mk ((y11 hg HB.out GE667.out : w.heap.size ≤ gb668)); replace HB := Aside0.mk (below_step (y6 HB.out GE667.out) hb); have NB667_668 := zltn hg BK667; have NB668_667 := zgtn hg BK667; replace BK667 := zbb BK667 hb; clear hb hbox hg) | ((with_reducible refine gate_dst (N := 6) rfl ?_); refine zbx 6 #[.int .i64 0, .slice none 0 0] 25 ?_; intro gb669 hg w8 hbox hb; have BK669 := Aside0.mk hbox; have GW669 := Aside0.mk ((y16 hg HB.out GE667.out GE668.out : w.heap.size ≤ gb669)); have GE669 := Aside0.mk ((y16 hg HB.out GE667.out GE668.out : w.heap.size ≤ gb669)); replace HB := Aside0.mk (below_step (y2 HB.out GE667.out GE668.out) hb); have NB667_669 := zltn hg BK667; have NB669_667 := zgtn hg BK667; replace BK667 := zbb BK667 hb; have NB668_669 := zltn hg BK668; have NB669_668 := zgtn hg BK668; replace BK668 := zbb BK668 hb; clear hb hbox hg; have hnb9 := NB667_668.out; have hnc9 := NB668_667.out; have hnb10 := NB667_669.out; have hnc10 := NB669_667.out; have hcz11_0 := zh BK667; have hcz11_1 := zh1 BK667; have hfz11_0 := zfr BK667 0; have hfz11_1 := zfr BK667 1) | ((with_reducible refine gate_callee (f := 13) rfl ?_); refine goesL_ (some 17) rfl rfl Try.func13 (by kernel_rfl) rfl #[.agg #[.int .i64 a0_0, .slice A0_1 l0_1.length c0_1], .slice A1 l1.length c1] rfl y8 ?_; (with_reducible refine (spec_ValAt.calls k a0_0 (fun k_ => k_ < w.heap.size) _ _ l0_1 _ _ l1 t670 t671 t674 _ ?side1 ?side2 ?side3 A4.out).mono ?_); (case side1 => exact Kd.V_mk HC0_1.out (Kd.F_below (Kd.C_F k25_heap HR0_1.out) (y4 HB.out GE667.out GE668.out GE669.out))); (case side2 => exact y15 HR1.out HB.out); (case side3 => exact HC1.out); rintro e w12 ⟨v672, rfl, ho0, hb⟩; refine ⟨_, rfl, ?_⟩; have HO673 := Aside0.mk (Kd.N_lower (Kd.N_mono (ok' := fun k_ => (w.heap.size ≤ k_) ∧ k_ ≠ gb667 ∧ k_ ≠ gb668 ∧ k_ ≠ gb669) (Kd.R_N (Kd.R_bound ho0)) (fun k_ hk_ => ⟨(Nat.le_trans (below_size (y4 HB.out GE667.out GE668.out GE669.out)) hk_.2.1), (Kd.freshB (g := gb667) (o := .cells #[.int .i64 a0_0, .slice A0_1 l0_1.length c0_1] 25 (0, 0)) (y0 BK667.out) k_ hk_.2.1), (Kd.freshB (g := gb668) (o := .cells #[.int .i64 a2_0, .slice A2_1 l2_1.length c2_1] 25 (0, 0)) (y0 BK668.out) k_ hk_.2.1), (Kd.freshB (g := gb669) (o := .cells #[.int .i64 0, .slice none 0 0] 25 (0, 0)) (y0 BK669.out) k_ hk_.2.1)⟩)) (below_size (y4 HB.out GE667.out GE668.out GE669.out))); replace BK667 := zbb BK667 hb; replace BK668 := zbb BK668 hb; replace BK669 := zbb BK669 hb; replace HB := Aside0.mk (below_step (y4 HB.out GE667.out GE668.out GE669.out) hb); (try clear hb); (try clear hb2); (try clear hk); (try clear hi); (try clear ho0)) | ((with_reducible refine gate_dst (N := 8) rfl ?_); refine zbx 8 #[.int .i64 0, .slice none 0 0] 25 ?_; intro gb675 hg w13 hbox hb; replace HO673 := Aside0.mk (Kd.N_below (Kd.N_elderB (y3 HO673.out) gb675 (Nat.le_of_eq hg.symm)) hb); have BK675 := Aside0.mk hbox; have GW675 := Aside0.mk ((y22 hg HB.out GE667.out GE668.out GE669.out : w.heap.size ≤ gb675)); have GE675 := Aside0.mk ((y22 hg HB.out GE667.out GE668.out GE669.out : w.heap.size ≤ gb675)); replace HB := Aside0.mk (below_step (y4 HB.out GE667.out GE668.out GE669.out) hb); have NB667_675 := zltn hg BK667; have NB675_667 := zgtn hg BK667; replace BK667 := zbb BK667 hb; have NB668_675 := zltn hg BK668; have NB675_668 := zgtn hg BK668; replace BK668 := zbb BK668 hb; have NB669_675 := zltn hg BK669; have NB675_669 := zgtn hg BK669; replace BK669 := zbb BK669 hb; clear hb hbox hg; have hnb14 := NB675_667.out; have hnc14 := NB667_675.out; have hnb15 := NB675_668.out; have hnc15 := NB668_675.out; have hnb16 := NB675_669.out; have hnc16 := NB669_675.out; have hcz17_0 := zh BK675; have hcz17_1 := zh1 BK675; have hfz17_0 := zfr BK675 0; have hfz17_1 := zfr BK675 1; obtain ⟨Ao18, co18, eo18⟩ := Kd.N_slice HO673.out; subst eo18))
 (try simp only [Act.put, List.setIfInBounds_toArray, List.set_cons_zero, List.set_cons_succ])
 go_cut [26] (fun v26 wc => ∃ (kq : Nat) (x26_4 : Bool), v26 = .bool x26_4 ∧ Aside0 (spec_ValPut.j0 kq l1 x26_4 a0_0 l0_1 a2_0 l2_1 t670 t671 = some (r1, r2, r3)) ∧ Aside0 (kq ≤ k) ∧ Aside0 (Kd.N k25 25 wc w.heap.size (fun k_ => (w.heap.size ≤ k_) ∧ k_ ≠ gb667 ∧ k_ ≠ gb668 ∧ k_ ≠ gb669 ∧ k_ ≠ gb675) (.slice Ao18 t671.length co18) t671) ∧ Aside0 (wc.heap[gb667]? = some (.cells #[.int .i64 a0_0, (.slice A0_1 l0_1.length c0_1)] 25 (0, 0))) ∧ Aside0 (wc.heap[gb668]? = some (.cells #[.int .i64 a2_0, (.slice A2_1 l2_1.length c2_1)] 25 (0, 0))) ∧ Aside0 (wc.heap[gb669]? = some (.cells #[.int .i64 0, (.slice none 0 0)] 25 (0, 0))) ∧ Aside0 (wc.heap[gb675]? = some (.cells #[.int .i64 t670, (.slice Ao18 t671.length co18)] 25 (0, 0))) ∧ Aside0 (Below w.heap.size w wc))
 case first =>
  have H := HC5.out
  clear HC5
  by_cases c19 : t674 = true
  ·subst c19
   rw [if_pos rfl] at H
   obtain ⟨t676, A200, H⟩ := ob H
   have A20 := Aside0.mk A200
   clear A200
   have H' := Aside0.mk H
   clear H
   have hnb21 := NB668_667.out
   have hnc21 := NB667_668.out
   have hnb22 := NB668_669.out
   have hnc22 := NB669_668.out
   have hnb23 := NB668_675.out
   have hnc23 := NB675_668.out
   have hcz24_0 := zh BK668
   have hcz24_1 := zh1 BK668
   have hfz24_0 := zfr BK668 0
   have hfz24_1 := zfr BK668 1
   go_wp2_with (first | (go_at_call 35; (with_reducible refine (spec_l1Any.calls k a2_0 _ _ l2_1 t676 _ ?side1 ?side2 A20.out).mono ?_); (case side1 => exact Kd.C_below HR2_1.out (y7 HB.out GE667.out GE668.out GE669.out GE675.out)); (case side2 => exact HC2_1.out); rintro e w25 ⟨rfl, hb⟩; replace HO673 := Aside0.mk (Kd.N_below (by (with_reducible repeat (first | apply Kd.N_alloc | apply Kd.N_drewN | apply Kd.N_drew)); exact (Kd.N_mono (Kd.N_far (p := ⟨gb675, 1, none⟩) (Kd.N_far (p := ⟨gb675, 0, none⟩) (Kd.N_mono HO673.out (fun k_ hk => (⟨hk, hk.2⟩ : _ ∧ k_ ≠ gb675))) (fun _ hk => hk.2) (.int .i64 t670)) (fun _ hk => hk.2) (.slice Ao18 t671.length co18)) (fun _ h_ => h_.1))) hb); replace BK667 := Aside0.mk (blk_below (g := gb667) (o := .cells #[.int .i64 a0_0, .slice A0_1 l0_1.length c0_1] 25 (0, 0)) (y1 NB667_675.out BK667.out) hb); replace BK668 := Aside0.mk (blk_below (g := gb668) (o := .cells #[.int .i64 a2_0, .slice A2_1 l2_1.length c2_1] 25 (0, 0)) (y1 NB668_675.out BK668.out) hb); replace BK669 := Aside0.mk (blk_below (g := gb669) (o := .cells #[.int .i64 0, .slice none 0 0] 25 (0, 0)) (y1 NB669_675.out BK669.out) hb); replace BK675 := Aside0.mk (blk_below (g := gb675) (o := .cells #[.int .i64 t670, .slice Ao18 t671.length co18] 25 (0, 0)) (by (with_reducible repeat (first | refine blk_drewN ?_ _ | refine blk_drew ?_ | refine blk_alloc ?_ _)); refine blk_put (cs := #[.int .i64 t670, .slice none 0 0]) ?_ 1 _ rfl; (with_reducible repeat (first | refine blk_drewN ?_ _ | refine blk_drew ?_ | refine blk_alloc ?_ _)); apply blk_put (i := 0); (case h => exact y0 BK675.out); (case e => rfl)) hb); replace HB := Aside0.mk (below_step (y7 HB.out GE667.out GE668.out GE669.out GE675.out) hb); (try clear hb); (try clear hb2); (try clear hk); (try clear hi)))
   go_meet
   case rel => exact ⟨_, (!t676), y34, H', ⟨y46⟩, ⟨(y54 HO673.out)⟩, ⟨(y0 BK667.out)⟩, ⟨(y0 BK668.out)⟩, ⟨(y0 BK669.out)⟩, ⟨(y0 BK675.out)⟩, ⟨(y7 HB.out GE667.out GE668.out GE669.out GE675.out)⟩⟩
  ·replace c19 := Bool.eq_false_iff.mpr c19
   subst c19
   rw [if_neg (show ¬ (false = true) by decide)] at H
   have H' := Aside0.mk H
   clear H
   go_wp2
   go_meet
   case rel => exact ⟨_, (true), y34, H', ⟨y46⟩, ⟨(by (with_reducible repeat (first | apply Kd.N_alloc | apply Kd.N_drewN | apply Kd.N_drew)); exact Kd.N_mono (Kd.N_far (p := ⟨gb675, 1, none⟩) (Kd.N_far (p := ⟨gb675, 0, none⟩) (Kd.N_mono HO673.out (fun k_ hk => (⟨hk, hk.2⟩ : _ ∧ k_ ≠ gb675))) (fun _ hk => hk.2) (.int .i64 t670)) (fun _ hk => hk.2) (.slice Ao18 t671.length co18)) (fun _ hk => ⟨hk.1.1.1, ⟨hk.1.1.2.1, ⟨hk.1.1.2.2.1, ⟨hk.1.1.2.2.2, hk.1.2⟩⟩⟩⟩))⟩, ⟨(y1 NB667_675.out BK667.out)⟩, ⟨(y1 NB668_675.out BK668.out)⟩, ⟨(y1 NB669_675.out BK669.out)⟩, ⟨(by (with_reducible repeat (first | refine blk_drewN ?_ _ | refine blk_drew ?_ | refine blk_alloc ?_ _)); refine blk_put (cs := #[.int .i64 t670, .slice none 0 0]) ?_ 1 _ rfl; (with_reducible repeat (first | refine blk_drewN ?_ _ | refine blk_drew ?_ | refine blk_alloc ?_ _)); refine blk_put (cs := #[.int .i64 0, .slice none 0 0]) ?_ 0 _ rfl; (with_reducible repeat (first | refine blk_drewN ?_ _ | refine blk_drew ?_ | refine blk_alloc ?_ _)); exact BK675.out)⟩, ⟨(y7 HB.out GE667.out GE668.out GE669.out GE675.out)⟩⟩
 case rest =>
  clear HC5
  try clear c1
  try clear c2
  try clear p2
  try clear c9
  try clear c10
  try clear c13
  try clear c14
  try clear c15
  try clear c16
  try clear c19
  try clear c21
  try clear c22
  try clear c23
  try clear hcz11_0
  try clear hcz11_1
  try clear hcz17_0
  try clear hcz17_1
  try clear hcz24_0
  try clear hcz24_1
  try clear hfz11_0
  try clear hfz11_1
  try clear hfz17_0
  try clear hfz17_1
  try clear hfz24_0
  try clear hfz24_1
  obtain ⟨kq, x26_4, rfl, HA, HJ4, HO_676001, BK667, BK668, BK669, BK675, HB⟩ := hcut
  cases kq with
  | zero => exact absurd HA.out (by simp [spec_ValPut.j0])
  | succ kj4 =>
   have H := HA.out
   clear HA
   simp only [spec_ValPut.j0] at H
   by_cases c26 : x26_4 = true
   ·subst c26
    rw [if_pos rfl] at H
    simp only [Option.some.injEq, Prod.mk.injEq] at H
    obtain ⟨rfl, rfl, rfl⟩ := H
    have hnb27 := NB669_667.out
    have hnc27 := NB667_669.out
    have hnb28 := NB669_668.out
    have hnc28 := NB668_669.out
    have hnb29 := NB669_675.out
    have hnc29 := NB675_669.out
    have hcz30_0 := zh BK669
    have hcz30_1 := zh1 BK669
    have hfz30_0 := zfr BK669 0
    have hfz30_1 := zfr BK669 1
    go_wp2
    refine bodyPost_ret (results_ct rfl _ _ gb669 25 #[.int .i64 0, .slice none 0 0] (0, 0) _ rfl (by (with_reducible repeat (first | refine blk_drewN ?_ _ | refine blk_drew ?_ | refine blk_alloc ?_ _)); refine blk_put (cs := #[.int .i64 0, .slice none 0 0]) ?_ 1 _ rfl; (with_reducible repeat (first | refine blk_drewN ?_ _ | refine blk_drew ?_ | refine blk_alloc ?_ _)); apply blk_put (i := 0); (case h => exact y0 BK669.out); (case e => rfl)) Try.underlying25 rfl (by kernel_rfl)) rfl ?_
    exact ⟨_, y19, y37, (y7 HB.out GE667.out GE668.out GE669.out GE675.out)⟩
   ·replace c26 := Bool.eq_false_iff.mpr c26
    subst c26
    rw [if_neg (show ¬ (false = true) by decide)] at H
    obtain ⟨⟨t677, t680⟩, A310, H⟩ := ob H
    have A31 := Aside0.mk A310
    clear A310
    obtain ⟨⟨t682, t685⟩, A320, H⟩ := ob H
    have A32 := Aside0.mk A320
    clear A320
    obtain ⟨t687, A330, H⟩ := ob H
    have A33 := Aside0.mk A330
    clear A330
    by_cases c34 : t687 = true
    ·subst c34
     rw [if_pos rfl] at H
     obtain ⟨⟨t688, t689⟩, A350, H⟩ := ob H
     have A35 := Aside0.mk A350
     clear A350
     simp only [Option.some.injEq, Prod.mk.injEq] at H
     obtain ⟨rfl, rfl, rfl⟩ := H
     have hnb36 := NB675_667.out
     have hnc36 := NB667_675.out
     have hnb37 := NB675_668.out
     have hnc37 := NB668_675.out
     have hnb38 := NB675_669.out
     have hnc38 := NB669_675.out
     have hcz39_0 := zh BK675
     have hcz39_1 := zh1 BK675
     have hfz39_0 := zfr BK675 0
     have hfz39_1 := zfr BK675 1
     go_wp2_with (first | ((with_reducible refine gate_callee (f := 49) rfl ?_); refine goesL_ (some 30) rfl rfl Try.func49 (by kernel_rfl) rfl #[.agg #[.int .i64 t670, .slice Ao18 t671.length co18], .int .i64 4] rfl y8 ?_; (with_reducible refine (spec_l1Of.calls kj4 t670 _ _ t671 4 t677 t680 _ ?side1 ?side2 A31.out).mono ?_); (case side1 => exact y38 HO_676001.out); (case side2 => exact (Kd.N_reads' HO_676001.out).2.1); rintro e w40 ⟨v678, rfl, ho0, hb⟩; refine ⟨_, rfl, ?_⟩; have HO679 := Aside0.mk (Kd.N_lower (Kd.N_mono (ok' := fun k_ => (w.heap.size ≤ k_) ∧ some k_ ≠ (.slice Ao18 t671.length co18 : Value).ownBlock ∧ k_ ≠ gb667 ∧ k_ ≠ gb668 ∧ k_ ≠ gb669 ∧ k_ ≠ gb675) (Kd.R_N (Kd.R_bound ho0)) (fun k_ hk_ => ⟨(Nat.le_trans (below_size (y7 HB.out GE667.out GE668.out GE669.out GE675.out)) hk_.2.1), (Kd.fresh' (Kd.N_lt (y3 HO_676001.out)) k_ hk_.2.1), (Kd.freshB (g := gb667) (o := .cells #[.int .i64 a0_0, .slice A0_1 l0_1.length c0_1] 25 (0, 0)) (y0 BK667.out) k_ hk_.2.1), (Kd.freshB (g := gb668) (o := .cells #[.int .i64 a2_0, .slice A2_1 l2_1.length c2_1] 25 (0, 0)) (y0 BK668.out) k_ hk_.2.1), (Kd.freshB (g := gb669) (o := .cells #[.int .i64 0, .slice none 0 0] 25 (0, 0)) (y0 BK669.out) k_ hk_.2.1), (Kd.freshB (g := gb675) (o := .cells #[.int .i64 t670, .slice Ao18 t671.length co18] 25 (0, 0)) (y0 BK675.out) k_ hk_.2.1)⟩)) (below_size (y7 HB.out GE667.out GE668.out GE669.out GE675.out))); replace HO_676001 := Aside0.mk (Kd.N_elder' (y3 HO_676001.out) (Kd.R_base ho0) hb); replace BK667 := zbb BK667 hb; replace BK668 := zbb BK668 hb; replace BK669 := zbb BK669 hb; replace BK675 := zbb BK675 hb; replace HB := Aside0.mk (below_step (y7 HB.out GE667.out GE668.out GE669.out GE675.out) hb); (try clear hb); (try clear hb2); (try clear hk); (try clear hi); (try clear ho0)) | ((with_reducible refine gate_dst (N := 10) rfl ?_); refine zbx 10 #[.slice none 0 0] 50 ?_; intro gb681 hg w41 hbox hb; replace HO_676001 := Aside0.mk (Kd.N_below (Kd.N_elderB (y3 HO_676001.out) gb681 (Nat.le_of_eq hg.symm)) hb); replace HO679 := Aside0.mk (Kd.N_below (Kd.N_elderB (y3 HO679.out) gb681 (Nat.le_of_eq hg.symm)) hb); have BK681 := Aside0.mk hbox; have GW681 := Aside0.mk ((y27 hg HB.out GE667.out GE668.out GE669.out GE675.out : w.heap.size ≤ gb681)); have GE681 := Aside0.mk ((y27 hg HB.out GE667.out GE668.out GE669.out GE675.out : w.heap.size ≤ gb681)); replace HB := Aside0.mk (below_step (y7 HB.out GE667.out GE668.out GE669.out GE675.out) hb); have NB667_681 := zltn hg BK667; have NB681_667 := zgtn hg BK667; replace BK667 := zbb BK667 hb; have NB668_681 := zltn hg BK668; have NB681_668 := zgtn hg BK668; replace BK668 := zbb BK668 hb; have NB669_681 := zltn hg BK669; have NB681_669 := zgtn hg BK669; replace BK669 := zbb BK669 hb; have NB675_681 := zltn hg BK675; have NB681_675 := zgtn hg BK675; replace BK675 := zbb BK675 hb; clear hb hbox hg; obtain ⟨Ao42, co42, eo42⟩ := Kd.N_slice HO679.out; subst eo42; have hnb43 := NB681_667.out; have hnc43 := NB667_681.out; have hnb44 := NB681_668.out; have hnc44 := NB668_681.out; have hnb45 := NB681_669.out; have hnc45 := NB669_681.out; have hnb46 := NB681_675.out; have hnc46 := NB675_681.out; have hcz47_0 := zh BK681; have hfz47_0 := zfr BK681 0; have hnb48 := NB668_667.out; have hnc48 := NB667_668.out; have hnb49 := NB668_669.out; have hnc49 := NB669_668.out; have hcz50_0 := zh BK668; have hcz50_1 := zh1 BK668; have hfz50_0 := zfr BK668 0; have hfz50_1 := zfr BK668 1) | ((with_reducible refine gate_callee (f := 49) rfl ?_); refine goesL_ (some 35) rfl rfl Try.func49 (by kernel_rfl) rfl #[.agg #[.int .i64 a2_0, .slice A2_1 l2_1.length c2_1], .int .i64 4] rfl y8 ?_; (with_reducible refine (spec_l1Of.calls kj4 a2_0 _ _ l2_1 4 t682 t685 _ ?side1 ?side2 A32.out).mono ?_); (case side1 => exact y66 HR2_1.out HB.out GE667.out GE668.out GE669.out GE675.out GE681.out); (case side2 => exact HC2_1.out); rintro e w51 ⟨v683, rfl, ho0, hb⟩; refine ⟨_, rfl, ?_⟩; have HO684 := Aside0.mk (Kd.N_lower (Kd.N_mono (ok' := fun k_ => (w.heap.size ≤ k_) ∧ some k_ ≠ (.slice Ao18 t671.length co18 : Value).ownBlock ∧ some k_ ≠ (.slice Ao42 t677.length co42 : Value).ownBlock ∧ k_ ≠ gb667 ∧ k_ ≠ gb668 ∧ k_ ≠ gb669 ∧ k_ ≠ gb675 ∧ k_ ≠ gb681) (Kd.R_N (Kd.R_bound ho0)) (fun k_ hk_ => ⟨(Nat.le_trans (below_size (y14 HB.out GE667.out GE668.out GE669.out GE675.out GE681.out)) hk_.2.1), (Kd.fresh' (Kd.N_lt (by (with_reducible repeat (first | apply Kd.N_alloc | apply Kd.N_drewN | apply Kd.N_drew)); exact (Kd.N_mono (Kd.N_far (p := ⟨gb681, 0, none⟩) (Kd.N_mono HO_676001.out (fun k_ hk => (⟨hk, hk.2⟩ : _ ∧ k_ ≠ gb681))) (fun _ hk => hk.2) (.slice Ao42 t677.length co42)) (fun _ h_ => h_.1)))) k_ hk_.2.1), (Kd.fresh' (Kd.N_lt (by (with_reducible repeat (first | apply Kd.N_alloc | apply Kd.N_drewN | apply Kd.N_drew)); exact (Kd.N_mono (Kd.N_far (p := ⟨gb681, 0, none⟩) (Kd.N_mono HO679.out (fun k_ hk => (⟨hk, hk.2⟩ : _ ∧ k_ ≠ gb681))) (fun _ hk => hk.2) (.slice Ao42 t677.length co42)) (fun _ h_ => h_.1)))) k_ hk_.2.1), (Kd.freshB (g := gb667) (o := .cells #[.int .i64 a0_0, .slice A0_1 l0_1.length c0_1] 25 (0, 0)) (y13 NB667_681.out BK667.out) k_ hk_.2.1), (Kd.freshB (g := gb668) (o := .cells #[.int .i64 a2_0, .slice A2_1 l2_1.length c2_1] 25 (0, 0)) (y13 NB668_681.out BK668.out) k_ hk_.2.1), (Kd.freshB (g := gb669) (o := .cells #[.int .i64 0, .slice none 0 0] 25 (0, 0)) (y13 NB669_681.out BK669.out) k_ hk_.2.1), (Kd.freshB (g := gb675) (o := .cells #[.int .i64 t670, .slice Ao18 t671.length co18] 25 (0, 0)) (y13 NB675_681.out BK675.out) k_ hk_.2.1), (Kd.freshB (g := gb681) (o := .cells #[.slice Ao42 t677.length co42] 50 (0, 0)) (by (with_reducible repeat (first | refine blk_drewN ?_ _ | refine blk_drew ?_ | refine blk_alloc ?_ _)); apply blk_put (i := 0); (case h => exact y0 BK681.out); (case e => rfl)) k_ hk_.2.1)⟩)) (below_size (y14 HB.out GE667.out GE668.out GE669.out GE675.out GE681.out))); replace HO_676001 := Aside0.mk (Kd.N_elder' (by (with_reducible repeat (first | apply Kd.N_alloc | apply Kd.N_drewN | apply Kd.N_drew)); exact (Kd.N_mono (Kd.N_far (p := ⟨gb681, 0, none⟩) (Kd.N_mono HO_676001.out (fun k_ hk => (⟨hk, hk.2⟩ : _ ∧ k_ ≠ gb681))) (fun _ hk => hk.2) (.slice Ao42 t677.length co42)) (fun _ h_ => h_.1))) (Kd.R_base ho0) hb); replace HO679 := Aside0.mk (Kd.N_elder' (by (with_reducible repeat (first | apply Kd.N_alloc | apply Kd.N_drewN | apply Kd.N_drew)); exact (Kd.N_mono (Kd.N_far (p := ⟨gb681, 0, none⟩) (Kd.N_mono HO679.out (fun k_ hk => (⟨hk, hk.2⟩ : _ ∧ k_ ≠ gb681))) (fun _ hk => hk.2) (.slice Ao42 t677.length co42)) (fun _ h_ => h_.1))) (Kd.R_base ho0) hb); replace BK667 := zbf BK667 NB667_681 hb; replace BK668 := zbf BK668 NB668_681 hb; replace BK669 := zbf BK669 NB669_681 hb; replace BK675 := zbf BK675 NB675_681 hb; replace BK681 := Aside0.mk (blk_below (g := gb681) (o := .cells #[.slice Ao42 t677.length co42] 50 (0, 0)) (by (with_reducible repeat (first | refine blk_drewN ?_ _ | refine blk_drew ?_ | refine blk_alloc ?_ _)); apply blk_put (i := 0); (case h => exact y0 BK681.out); (case e => rfl)) hb); replace HB := Aside0.mk (below_step (y14 HB.out GE667.out GE668.out GE669.out GE675.out GE681.out) hb); (try clear hb); (try clear hb2); (try clear hk); (try clear hi); (try clear ho0)) | ((with_reducible refine gate_dst (N := 12) rfl ?_); refine zbx 12 #[.slice none 0 0] 50 ?_; intro gb686 hg w52 hbox hb; replace HO_676001 := Aside0.mk (Kd.N_below (Kd.N_elderB (y3 HO_676001.out) gb686 (Nat.le_of_eq hg.symm)) hb); replace HO679 := Aside0.mk (Kd.N_below (Kd.N_elderB (y3 HO679.out) gb686 (Nat.le_of_eq hg.symm)) hb); replace HO684 := Aside0.mk (Kd.N_below (Kd.N_elderB (y3 HO684.out) gb686 (Nat.le_of_eq hg.symm)) hb); have BK686 := Aside0.mk hbox; have GW686 := Aside0.mk ((y32 hg HB.out GE667.out GE668.out GE669.out GE675.out GE681.out : w.heap.size ≤ gb686)); have GE686 := Aside0.mk ((y32 hg HB.out GE667.out GE668.out GE669.out GE675.out GE681.out : w.heap.size ≤ gb686)); replace HB := Aside0.mk (below_step (y14 HB.out GE667.out GE668.out GE669.out GE675.out GE681.out) hb); have NB667_686 := zltn hg BK667; have NB686_667 := zgtn hg BK667; replace BK667 := zbb BK667 hb; have NB668_686 := zltn hg BK668; have NB686_668 := zgtn hg BK668; replace BK668 := zbb BK668 hb; have NB669_686 := zltn hg BK669; have NB686_669 := zgtn hg BK669; replace BK669 := zbb BK669 hb; have NB675_686 := zltn hg BK675; have NB686_675 := zgtn hg BK675; replace BK675 := zbb BK675 hb; have NB681_686 := zltn hg BK681; have NB686_681 := zgtn hg BK681; replace BK681 := zbb BK681 hb; clear hb hbox hg; obtain ⟨Ao53, co53, eo53⟩ := Kd.N_slice HO684.out; subst eo53; have hnb54 := NB686_667.out; have hnc54 := NB667_686.out; have hnb55 := NB686_668.out; have hnc55 := NB668_686.out; have hnb56 := NB686_669.out; have hnc56 := NB669_686.out; have hnb57 := NB686_675.out; have hnc57 := NB675_686.out; have hnb58 := NB686_681.out; have hnc58 := NB681_686.out; have hcz59_0 := zh BK686; have hfz59_0 := zfr BK686 0; have hcz60_0 := zh BK681; have hfz60_0 := zfr BK681 0) | ((with_reducible refine gate_callee (f := 50) rfl ?_); refine goesL_ (some 40) rfl rfl Try.func50 (by kernel_rfl) rfl #[.agg #[.slice Ao42 t677.length co42], .agg #[.slice Ao53 t682.length co53]] rfl y8 ?_; (with_reducible refine (spec_l1Same.calls kj4 _ _ t677 _ _ t682 true _ ?side1 ?side2 ?side3 ?side4 A33.out).mono ?_); (case side1 => refine (Kd.N_reads' (e := 50) (base := w.heap.size) (ok := fun k_ => (((((w.heap.size ≤ k_) ∧ (some k_ ≠ (.slice Ao18 t671.length co18 : Value).ownBlock ∧ (k_ ≠ gb667 ∧ (k_ ≠ gb668 ∧ (k_ ≠ gb669 ∧ k_ ≠ gb675))))) ∧ k_ ≠ gb681) ∧ some k_ ≠ (.slice Ao53 t682.length co53 : Value).ownBlock) ∧ k_ ≠ gb686)) (n := t677.length) (c := co42) ?_).2.2; exact (by (with_reducible repeat (first | apply Kd.N_alloc | apply Kd.N_drewN | apply Kd.N_drew)); exact (Kd.N_mono (Kd.N_far (p := ⟨gb686, 0, none⟩) (Kd.N_mono HO679.out (fun k_ hk => (⟨hk, hk.2⟩ : _ ∧ k_ ≠ gb686))) (fun _ hk => hk.2) (.slice Ao53 t682.length co53)) (fun _ h_ => h_.1)))); (case side2 => exact (Kd.N_reads' HO679.out).2.1); (case side3 => refine (Kd.N_reads' (e := 50) (base := w.heap.size) (ok := fun k_ => (((w.heap.size ≤ k_) ∧ (some k_ ≠ (.slice Ao18 t671.length co18 : Value).ownBlock ∧ (some k_ ≠ (.slice Ao42 t677.length co42 : Value).ownBlock ∧ (k_ ≠ gb667 ∧ (k_ ≠ gb668 ∧ (k_ ≠ gb669 ∧ (k_ ≠ gb675 ∧ k_ ≠ gb681))))))) ∧ k_ ≠ gb686)) (n := t682.length) (c := co53) ?_).2.2; exact (by (with_reducible repeat (first | apply Kd.N_alloc | apply Kd.N_drewN | apply Kd.N_drew)); exact (Kd.N_mono (Kd.N_far (p := ⟨gb686, 0, none⟩) (Kd.N_mono HO684.out (fun k_ hk => (⟨hk, hk.2⟩ : _ ∧ k_ ≠ gb686))) (fun _ hk => hk.2) (.slice Ao53 t682.length co53)) (fun _ h_ => h_.1)))); (case side4 => exact (Kd.N_reads' HO684.out).2.1); rintro e w61 ⟨rfl, hb⟩; refine ⟨_, rfl, ?_⟩; replace HO_676001 := Aside0.mk (Kd.N_below (by (with_reducible repeat (first | apply Kd.N_alloc | apply Kd.N_drewN | apply Kd.N_drew)); exact (Kd.N_mono (Kd.N_far (p := ⟨gb686, 0, none⟩) (Kd.N_mono HO_676001.out (fun k_ hk => (⟨hk, hk.2⟩ : _ ∧ k_ ≠ gb686))) (fun _ hk => hk.2) (.slice Ao53 t682.length co53)) (fun _ h_ => h_.1))) hb); replace HO679 := Aside0.mk (Kd.N_below (by (with_reducible repeat (first | apply Kd.N_alloc | apply Kd.N_drewN | apply Kd.N_drew)); exact (Kd.N_mono (Kd.N_far (p := ⟨gb686, 0, none⟩) (Kd.N_mono HO679.out (fun k_ hk => (⟨hk, hk.2⟩ : _ ∧ k_ ≠ gb686))) (fun _ hk => hk.2) (.slice Ao53 t682.length co53)) (fun _ h_ => h_.1))) hb); replace HO684 := Aside0.mk (Kd.N_below (by (with_reducible repeat (first | apply Kd.N_alloc | apply Kd.N_drewN | apply Kd.N_drew)); exact (Kd.N_mono (Kd.N_far (p := ⟨gb686, 0, none⟩) (Kd.N_mono HO684.out (fun k_ hk => (⟨hk, hk.2⟩ : _ ∧ k_ ≠ gb686))) (fun _ hk => hk.2) (.slice Ao53 t682.length co53)) (fun _ h_ => h_.1))) hb); replace BK667 := zbf BK667 NB667_686 hb; replace BK668 := zbf BK668 NB668_686 hb; replace BK669 := zbf BK669 NB669_686 hb; replace BK675 := zbf BK675 NB675_686 hb; replace BK681 := zbf BK681 NB681_686 hb; replace BK686 := Aside0.mk (blk_below (g := gb686) (o := .cells #[.slice Ao53 t682.length co53] 50 (0, 0)) (by (with_reducible repeat (first | refine blk_drewN ?_ _ | refine blk_drew ?_ | refine blk_alloc ?_ _)); apply blk_put (i := 0); (case h => exact y0 BK686.out); (case e => rfl)) hb); replace HB := Aside0.mk (below_step (y20 HB.out GE667.out GE668.out GE669.out GE675.out GE681.out GE686.out) hb); (try clear hb); (try clear hb2); (try clear hk); (try clear hi); have hnb62 := NB667_669.out; have hnc62 := NB669_667.out; have hcz63_0 := zh BK667; have hcz63_1 := zh1 BK667; have hfz63_0 := zfr BK667 0; have hfz63_1 := zfr BK667 1; have hcz64_0 := zh BK668; have hcz64_1 := zh1 BK668; have hfz64_0 := zfr BK668 0; have hfz64_1 := zfr BK668 1) | ((with_reducible refine gate_callee (f := 51) rfl ?_); refine goesL_ (some 46) rfl rfl Try.func51 (by kernel_rfl) rfl #[.agg #[.int .i64 a0_0, .slice A0_1 l0_1.length c0_1], .slice A1 l1.length c1, .agg #[.int .i64 a2_0, .slice A2_1 l2_1.length c2_1]] rfl y8 ?_; (with_reducible refine (spec_l1Put.calls kj4 a0_0 _ _ l0_1 _ _ l1 a2_0 _ _ l2_1 t688 t689 _ ?side1 ?side2 ?side3 ?side4 ?side5 ?side6 A35.out).mono ?_); (case side1 => exact y15 HR0_1.out HB.out); (case side2 => exact HC0_1.out); (case side3 => exact y15 HR1.out HB.out); (case side4 => exact HC1.out); (case side5 => exact y15 HR2_1.out HB.out); (case side6 => exact HC2_1.out); rintro e w65 ⟨v690, rfl, ho0, hb⟩; refine ⟨_, rfl, ?_⟩; have HO691 := Aside0.mk (Kd.N_lower (Kd.N_mono (ok' := fun k_ => (w.heap.size ≤ k_) ∧ some k_ ≠ (.slice Ao18 t671.length co18 : Value).ownBlock ∧ some k_ ≠ (.slice Ao42 t677.length co42 : Value).ownBlock ∧ some k_ ≠ (.slice Ao53 t682.length co53 : Value).ownBlock ∧ k_ ≠ gb667 ∧ k_ ≠ gb668 ∧ k_ ≠ gb669 ∧ k_ ≠ gb675 ∧ k_ ≠ gb681 ∧ k_ ≠ gb686) ho0 (fun k_ hk_ => ⟨(Nat.le_trans (below_size (y20 HB.out GE667.out GE668.out GE669.out GE675.out GE681.out GE686.out)) hk_), (Kd.fresh' (Kd.N_lt (y3 HO_676001.out)) k_ hk_), (Kd.fresh' (Kd.N_lt (y3 HO679.out)) k_ hk_), (Kd.fresh' (Kd.N_lt (y3 HO684.out)) k_ hk_), (Kd.freshB (g := gb667) (o := .cells #[.int .i64 a0_0, .slice A0_1 l0_1.length c0_1] 25 (0, 0)) (y0 BK667.out) k_ hk_), (Kd.freshB (g := gb668) (o := .cells #[.int .i64 a2_0, .slice A2_1 l2_1.length c2_1] 25 (0, 0)) (y0 BK668.out) k_ hk_), (Kd.freshB (g := gb669) (o := .cells #[.int .i64 0, .slice none 0 0] 25 (0, 0)) (y0 BK669.out) k_ hk_), (Kd.freshB (g := gb675) (o := .cells #[.int .i64 t670, .slice Ao18 t671.length co18] 25 (0, 0)) (y0 BK675.out) k_ hk_), (Kd.freshB (g := gb681) (o := .cells #[.slice Ao42 t677.length co42] 50 (0, 0)) (y0 BK681.out) k_ hk_), (Kd.freshB (g := gb686) (o := .cells #[.slice Ao53 t682.length co53] 50 (0, 0)) (y0 BK686.out) k_ hk_)⟩)) (below_size (y20 HB.out GE667.out GE668.out GE669.out GE675.out GE681.out GE686.out))); replace HO_676001 := Aside0.mk (Kd.N_elder' (y3 HO_676001.out) (Kd.N_base ho0) hb); replace HO679 := Aside0.mk (Kd.N_elder' (y3 HO679.out) (Kd.N_base ho0) hb); replace HO684 := Aside0.mk (Kd.N_elder' (y3 HO684.out) (Kd.N_base ho0) hb); replace BK667 := zbb BK667 hb; replace BK668 := zbb BK668 hb; replace BK669 := zbb BK669 hb; replace BK675 := zbb BK675 hb; replace BK681 := zbb BK681 hb; replace BK686 := zbb BK686 hb; replace HB := Aside0.mk (below_step (y20 HB.out GE667.out GE668.out GE669.out GE675.out GE681.out GE686.out) hb); (try clear hb); (try clear hb2); (try clear hk); (try clear hi); (try clear ho0); have hcz66_0 := zh BK669; have hcz66_1 := zh1 BK669; have hfz66_0 := zfr BK669 0; have hfz66_1 := zfr BK669 1; obtain ⟨Ao67, co67, eo67⟩ := Kd.N_slice HO691.out; subst eo67))
     refine bodyPost_ret (results_ct rfl _ _ gb669 25 #[.int .i64 t688, .slice Ao67 t689.length co67] (0, 0) _ rfl (by (with_reducible repeat (first | refine blk_drewN ?_ _ | refine blk_drew ?_ | refine blk_alloc ?_ _)); refine blk_put (cs := #[.int .i64 t688, .slice none 0 0]) ?_ 1 _ rfl; (with_reducible repeat (first | refine blk_drewN ?_ _ | refine blk_drew ?_ | refine blk_alloc ?_ _)); apply blk_put (i := 0); (case h => exact y0 BK669.out); (case e => rfl)) Try.underlying25 rfl (by kernel_rfl)) rfl ?_
     exact ⟨_, y19, (by (with_reducible repeat (first | apply Kd.N_alloc | apply Kd.N_drewN | apply Kd.N_drew)); exact Kd.N_mono (Kd.N_far (p := ⟨gb669, 1, none⟩) (Kd.N_far (p := ⟨gb669, 0, none⟩) (Kd.N_mono HO691.out (fun k_ hk => (⟨hk, hk.2.2.2.2.2.2.1⟩ : _ ∧ k_ ≠ gb669))) (fun _ hk => hk.2) (.int .i64 t688)) (fun _ hk => hk.2) (.slice Ao67 t689.length co67)) (fun _ hk => hk.1.1)), (y20 HB.out GE667.out GE668.out GE669.out GE675.out GE681.out GE686.out)⟩
    ·replace c34 := Bool.eq_false_iff.mpr c34
     subst c34
     rw [if_neg (show ¬ (false = true) by decide)] at H
     simp only [Option.some.injEq, Prod.mk.injEq] at H
     obtain ⟨rfl, rfl, rfl⟩ := H
     have hnb68 := NB675_667.out
     have hnc68 := NB667_675.out
     have hnb69 := NB675_668.out
     have hnc69 := NB668_675.out
     have hnb70 := NB675_669.out
     have hnc70 := NB669_675.out
     have hcz71_0 := zh BK675
     have hcz71_1 := zh1 BK675
     have hfz71_0 := zfr BK675 0
     have hfz71_1 := zfr BK675 1
     go_wp2_with (first | ((with_reducible refine gate_callee (f := 49) rfl ?_); refine goesL_ (some 30) rfl rfl Try.func49 (by kernel_rfl) rfl #[.agg #[.int .i64 t670, .slice Ao18 t671.length co18], .int .i64 4] rfl y8 ?_; (with_reducible refine (spec_l1Of.calls kj4 t670 _ _ t671 4 t677 t680 _ ?side1 ?side2 A31.out).mono ?_); (case side1 => exact y38 HO_676001.out); (case side2 => exact (Kd.N_reads' HO_676001.out).2.1); rintro e w72 ⟨v678, rfl, ho0, hb⟩; refine ⟨_, rfl, ?_⟩; have HO679 := Aside0.mk (Kd.N_lower (Kd.N_mono (ok' := fun k_ => (w.heap.size ≤ k_) ∧ some k_ ≠ (.slice Ao18 t671.length co18 : Value).ownBlock ∧ k_ ≠ gb667 ∧ k_ ≠ gb668 ∧ k_ ≠ gb669 ∧ k_ ≠ gb675) (Kd.R_N (Kd.R_bound ho0)) (fun k_ hk_ => ⟨(Nat.le_trans (below_size (y7 HB.out GE667.out GE668.out GE669.out GE675.out)) hk_.2.1), (Kd.fresh' (Kd.N_lt (y3 HO_676001.out)) k_ hk_.2.1), (Kd.freshB (g := gb667) (o := .cells #[.int .i64 a0_0, .slice A0_1 l0_1.length c0_1] 25 (0, 0)) (y0 BK667.out) k_ hk_.2.1), (Kd.freshB (g := gb668) (o := .cells #[.int .i64 a2_0, .slice A2_1 l2_1.length c2_1] 25 (0, 0)) (y0 BK668.out) k_ hk_.2.1), (Kd.freshB (g := gb669) (o := .cells #[.int .i64 0, .slice none 0 0] 25 (0, 0)) (y0 BK669.out) k_ hk_.2.1), (Kd.freshB (g := gb675) (o := .cells #[.int .i64 t670, .slice Ao18 t671.length co18] 25 (0, 0)) (y0 BK675.out) k_ hk_.2.1)⟩)) (below_size (y7 HB.out GE667.out GE668.out GE669.out GE675.out))); replace HO_676001 := Aside0.mk (Kd.N_elder' (y3 HO_676001.out) (Kd.R_base ho0) hb); replace BK667 := zbb BK667 hb; replace BK668 := zbb BK668 hb; replace BK669 := zbb BK669 hb; replace BK675 := zbb BK675 hb; replace HB := Aside0.mk (below_step (y7 HB.out GE667.out GE668.out GE669.out GE675.out) hb); (try clear hb); (try clear hb2); (try clear hk); (try clear hi); (try clear ho0)) | ((with_reducible refine gate_dst (N := 10) rfl ?_); refine zbx 10 #[.slice none 0 0] 50 ?_; intro gb681 hg w73 hbox hb; replace HO_676001 := Aside0.mk (Kd.N_below (Kd.N_elderB (y3 HO_676001.out) gb681 (Nat.le_of_eq hg.symm)) hb); replace HO679 := Aside0.mk (Kd.N_below (Kd.N_elderB (y3 HO679.out) gb681 (Nat.le_of_eq hg.symm)) hb); have BK681 := Aside0.mk hbox; have GW681 := Aside0.mk ((y27 hg HB.out GE667.out GE668.out GE669.out GE675.out : w.heap.size ≤ gb681)); have GE681 := Aside0.mk ((y27 hg HB.out GE667.out GE668.out GE669.out GE675.out : w.heap.size ≤ gb681)); replace HB := Aside0.mk (below_step (y7 HB.out GE667.out GE668.out GE669.out GE675.out) hb); have NB667_681 := zltn hg BK667; have NB681_667 := zgtn hg BK667; replace BK667 := zbb BK667 hb; have NB668_681 := zltn hg BK668; have NB681_668 := zgtn hg BK668; replace BK668 := zbb BK668 hb; have NB669_681 := zltn hg BK669; have NB681_669 := zgtn hg BK669; replace BK669 := zbb BK669 hb; have NB675_681 := zltn hg BK675; have NB681_675 := zgtn hg BK675; replace BK675 := zbb BK675 hb; clear hb hbox hg; obtain ⟨Ao74, co74, eo74⟩ := Kd.N_slice HO679.out; subst eo74; have hnb75 := NB681_667.out; have hnc75 := NB667_681.out; have hnb76 := NB681_668.out; have hnc76 := NB668_681.out; have hnb77 := NB681_669.out; have hnc77 := NB669_681.out; have hnb78 := NB681_675.out; have hnc78 := NB675_681.out; have hcz79_0 := zh BK681; have hfz79_0 := zfr BK681 0; have hnb80 := NB668_667.out; have hnc80 := NB667_668.out; have hnb81 := NB668_669.out; have hnc81 := NB669_668.out; have hcz82_0 := zh BK668; have hcz82_1 := zh1 BK668; have hfz82_0 := zfr BK668 0; have hfz82_1 := zfr BK668 1) | ((with_reducible refine gate_callee (f := 49) rfl ?_); refine goesL_ (some 35) rfl rfl Try.func49 (by kernel_rfl) rfl #[.agg #[.int .i64 a2_0, .slice A2_1 l2_1.length c2_1], .int .i64 4] rfl y8 ?_; (with_reducible refine (spec_l1Of.calls kj4 a2_0 _ _ l2_1 4 t682 t685 _ ?side1 ?side2 A32.out).mono ?_); (case side1 => exact y66 HR2_1.out HB.out GE667.out GE668.out GE669.out GE675.out GE681.out); (case side2 => exact HC2_1.out); rintro e w83 ⟨v683, rfl, ho0, hb⟩; refine ⟨_, rfl, ?_⟩; have HO684 := Aside0.mk (Kd.N_lower (Kd.N_mono (ok' := fun k_ => (w.heap.size ≤ k_) ∧ some k_ ≠ (.slice Ao18 t671.length co18 : Value).ownBlock ∧ some k_ ≠ (.slice Ao74 t677.length co74 : Value).ownBlock ∧ k_ ≠ gb667 ∧ k_ ≠ gb668 ∧ k_ ≠ gb669 ∧ k_ ≠ gb675 ∧ k_ ≠ gb681) (Kd.R_N (Kd.R_bound ho0)) (fun k_ hk_ => ⟨(Nat.le_trans (below_size (y14 HB.out GE667.out GE668.out GE669.out GE675.out GE681.out)) hk_.2.1), (Kd.fresh' (Kd.N_lt (by (with_reducible repeat (first | apply Kd.N_alloc | apply Kd.N_drewN | apply Kd.N_drew)); exact (Kd.N_mono (Kd.N_far (p := ⟨gb681, 0, none⟩) (Kd.N_mono HO_676001.out (fun k_ hk => (⟨hk, hk.2⟩ : _ ∧ k_ ≠ gb681))) (fun _ hk => hk.2) (.slice Ao74 t677.length co74)) (fun _ h_ => h_.1)))) k_ hk_.2.1), (Kd.fresh' (Kd.N_lt (by (with_reducible repeat (first | apply Kd.N_alloc | apply Kd.N_drewN | apply Kd.N_drew)); exact (Kd.N_mono (Kd.N_far (p := ⟨gb681, 0, none⟩) (Kd.N_mono HO679.out (fun k_ hk => (⟨hk, hk.2⟩ : _ ∧ k_ ≠ gb681))) (fun _ hk => hk.2) (.slice Ao74 t677.length co74)) (fun _ h_ => h_.1)))) k_ hk_.2.1), (Kd.freshB (g := gb667) (o := .cells #[.int .i64 a0_0, .slice A0_1 l0_1.length c0_1] 25 (0, 0)) (y13 NB667_681.out BK667.out) k_ hk_.2.1), (Kd.freshB (g := gb668) (o := .cells #[.int .i64 a2_0, .slice A2_1 l2_1.length c2_1] 25 (0, 0)) (y13 NB668_681.out BK668.out) k_ hk_.2.1), (Kd.freshB (g := gb669) (o := .cells #[.int .i64 0, .slice none 0 0] 25 (0, 0)) (y13 NB669_681.out BK669.out) k_ hk_.2.1), (Kd.freshB (g := gb675) (o := .cells #[.int .i64 t670, .slice Ao18 t671.length co18] 25 (0, 0)) (y13 NB675_681.out BK675.out) k_ hk_.2.1), (Kd.freshB (g := gb681) (o := .cells #[.slice Ao74 t677.length co74] 50 (0, 0)) (by (with_reducible repeat (first | refine blk_drewN ?_ _ | refine blk_drew ?_ | refine blk_alloc ?_ _)); apply blk_put (i := 0); (case h => exact y0 BK681.out); (case e => rfl)) k_ hk_.2.1)⟩)) (below_size (y14 HB.out GE667.out GE668.out GE669.out GE675.out GE681.out))); replace HO_676001 := Aside0.mk (Kd.N_elder' (by (with_reducible repeat (first | apply Kd.N_alloc | apply Kd.N_drewN | apply Kd.N_drew)); exact (Kd.N_mono (Kd.N_far (p := ⟨gb681, 0, none⟩) (Kd.N_mono HO_676001.out (fun k_ hk => (⟨hk, hk.2⟩ : _ ∧ k_ ≠ gb681))) (fun _ hk => hk.2) (.slice Ao74 t677.length co74)) (fun _ h_ => h_.1))) (Kd.R_base ho0) hb); replace HO679 := Aside0.mk (Kd.N_elder' (by (with_reducible repeat (first | apply Kd.N_alloc | apply Kd.N_drewN | apply Kd.N_drew)); exact (Kd.N_mono (Kd.N_far (p := ⟨gb681, 0, none⟩) (Kd.N_mono HO679.out (fun k_ hk => (⟨hk, hk.2⟩ : _ ∧ k_ ≠ gb681))) (fun _ hk => hk.2) (.slice Ao74 t677.length co74)) (fun _ h_ => h_.1))) (Kd.R_base ho0) hb); replace BK667 := zbf BK667 NB667_681 hb; replace BK668 := zbf BK668 NB668_681 hb; replace BK669 := zbf BK669 NB669_681 hb; replace BK675 := zbf BK675 NB675_681 hb; replace BK681 := Aside0.mk (blk_below (g := gb681) (o := .cells #[.slice Ao74 t677.length co74] 50 (0, 0)) (by (with_reducible repeat (first | refine blk_drewN ?_ _ | refine blk_drew ?_ | refine blk_alloc ?_ _)); apply blk_put (i := 0); (case h => exact y0 BK681.out); (case e => rfl)) hb); replace HB := Aside0.mk (below_step (y14 HB.out GE667.out GE668.out GE669.out GE675.out GE681.out) hb); (try clear hb); (try clear hb2); (try clear hk); (try clear hi); (try clear ho0)) | ((with_reducible refine gate_dst (N := 12) rfl ?_); refine zbx 12 #[.slice none 0 0] 50 ?_; intro gb686 hg w84 hbox hb; replace HO_676001 := Aside0.mk (Kd.N_below (Kd.N_elderB (y3 HO_676001.out) gb686 (Nat.le_of_eq hg.symm)) hb); replace HO679 := Aside0.mk (Kd.N_below (Kd.N_elderB (y3 HO679.out) gb686 (Nat.le_of_eq hg.symm)) hb); replace HO684 := Aside0.mk (Kd.N_below (Kd.N_elderB (y3 HO684.out) gb686 (Nat.le_of_eq hg.symm)) hb); have BK686 := Aside0.mk hbox; have GW686 := Aside0.mk ((y32 hg HB.out GE667.out GE668.out GE669.out GE675.out GE681.out : w.heap.size ≤ gb686)); have GE686 := Aside0.mk ((y32 hg HB.out GE667.out GE668.out GE669.out GE675.out GE681.out : w.heap.size ≤ gb686)); replace HB := Aside0.mk (below_step (y14 HB.out GE667.out GE668.out GE669.out GE675.out GE681.out) hb); have NB667_686 := zltn hg BK667; have NB686_667 := zgtn hg BK667; replace BK667 := zbb BK667 hb; have NB668_686 := zltn hg BK668; have NB686_668 := zgtn hg BK668; replace BK668 := zbb BK668 hb; have NB669_686 := zltn hg BK669; have NB686_669 := zgtn hg BK669; replace BK669 := zbb BK669 hb; have NB675_686 := zltn hg BK675; have NB686_675 := zgtn hg BK675; replace BK675 := zbb BK675 hb; have NB681_686 := zltn hg BK681; have NB686_681 := zgtn hg BK681; replace BK681 := zbb BK681 hb; clear hb hbox hg; obtain ⟨Ao85, co85, eo85⟩ := Kd.N_slice HO684.out; subst eo85; have hnb86 := NB686_667.out; have hnc86 := NB667_686.out; have hnb87 := NB686_668.out; have hnc87 := NB668_686.out; have hnb88 := NB686_669.out; have hnc88 := NB669_686.out; have hnb89 := NB686_675.out; have hnc89 := NB675_686.out; have hnb90 := NB686_681.out; have hnc90 := NB681_686.out; have hcz91_0 := zh BK686; have hfz91_0 := zfr BK686 0; have hcz92_0 := zh BK681; have hfz92_0 := zfr BK681 0) | ((with_reducible refine gate_callee (f := 50) rfl ?_); refine goesL_ (some 40) rfl rfl Try.func50 (by kernel_rfl) rfl #[.agg #[.slice Ao74 t677.length co74], .agg #[.slice Ao85 t682.length co85]] rfl y8 ?_; (with_reducible refine (spec_l1Same.calls kj4 _ _ t677 _ _ t682 false _ ?side1 ?side2 ?side3 ?side4 A33.out).mono ?_); (case side1 => refine (Kd.N_reads' (e := 50) (base := w.heap.size) (ok := fun k_ => (((((w.heap.size ≤ k_) ∧ (some k_ ≠ (.slice Ao18 t671.length co18 : Value).ownBlock ∧ (k_ ≠ gb667 ∧ (k_ ≠ gb668 ∧ (k_ ≠ gb669 ∧ k_ ≠ gb675))))) ∧ k_ ≠ gb681) ∧ some k_ ≠ (.slice Ao85 t682.length co85 : Value).ownBlock) ∧ k_ ≠ gb686)) (n := t677.length) (c := co74) ?_).2.2; exact (by (with_reducible repeat (first | apply Kd.N_alloc | apply Kd.N_drewN | apply Kd.N_drew)); exact (Kd.N_mono (Kd.N_far (p := ⟨gb686, 0, none⟩) (Kd.N_mono HO679.out (fun k_ hk => (⟨hk, hk.2⟩ : _ ∧ k_ ≠ gb686))) (fun _ hk => hk.2) (.slice Ao85 t682.length co85)) (fun _ h_ => h_.1)))); (case side2 => exact (Kd.N_reads' HO679.out).2.1); (case side3 => refine (Kd.N_reads' (e := 50) (base := w.heap.size) (ok := fun k_ => (((w.heap.size ≤ k_) ∧ (some k_ ≠ (.slice Ao18 t671.length co18 : Value).ownBlock ∧ (some k_ ≠ (.slice Ao74 t677.length co74 : Value).ownBlock ∧ (k_ ≠ gb667 ∧ (k_ ≠ gb668 ∧ (k_ ≠ gb669 ∧ (k_ ≠ gb675 ∧ k_ ≠ gb681))))))) ∧ k_ ≠ gb686)) (n := t682.length) (c := co85) ?_).2.2; exact (by (with_reducible repeat (first | apply Kd.N_alloc | apply Kd.N_drewN | apply Kd.N_drew)); exact (Kd.N_mono (Kd.N_far (p := ⟨gb686, 0, none⟩) (Kd.N_mono HO684.out (fun k_ hk => (⟨hk, hk.2⟩ : _ ∧ k_ ≠ gb686))) (fun _ hk => hk.2) (.slice Ao85 t682.length co85)) (fun _ h_ => h_.1)))); (case side4 => exact (Kd.N_reads' HO684.out).2.1); rintro e w93 ⟨rfl, hb⟩; refine ⟨_, rfl, ?_⟩; replace HO_676001 := Aside0.mk (Kd.N_below (by (with_reducible repeat (first | apply Kd.N_alloc | apply Kd.N_drewN | apply Kd.N_drew)); exact (Kd.N_mono (Kd.N_far (p := ⟨gb686, 0, none⟩) (Kd.N_mono HO_676001.out (fun k_ hk => (⟨hk, hk.2⟩ : _ ∧ k_ ≠ gb686))) (fun _ hk => hk.2) (.slice Ao85 t682.length co85)) (fun _ h_ => h_.1))) hb); replace HO679 := Aside0.mk (Kd.N_below (by (with_reducible repeat (first | apply Kd.N_alloc | apply Kd.N_drewN | apply Kd.N_drew)); exact (Kd.N_mono (Kd.N_far (p := ⟨gb686, 0, none⟩) (Kd.N_mono HO679.out (fun k_ hk => (⟨hk, hk.2⟩ : _ ∧ k_ ≠ gb686))) (fun _ hk => hk.2) (.slice Ao85 t682.length co85)) (fun _ h_ => h_.1))) hb); replace HO684 := Aside0.mk (Kd.N_below (by (with_reducible repeat (first | apply Kd.N_alloc | apply Kd.N_drewN | apply Kd.N_drew)); exact (Kd.N_mono (Kd.N_far (p := ⟨gb686, 0, none⟩) (Kd.N_mono HO684.out (fun k_ hk => (⟨hk, hk.2⟩ : _ ∧ k_ ≠ gb686))) (fun _ hk => hk.2) (.slice Ao85 t682.length co85)) (fun _ h_ => h_.1))) hb); replace BK667 := zbf BK667 NB667_686 hb; replace BK668 := zbf BK668 NB668_686 hb; replace BK669 := zbf BK669 NB669_686 hb; replace BK675 := zbf BK675 NB675_686 hb; replace BK681 := zbf BK681 NB681_686 hb; replace BK686 := Aside0.mk (blk_below (g := gb686) (o := .cells #[.slice Ao85 t682.length co85] 50 (0, 0)) (by (with_reducible repeat (first | refine blk_drewN ?_ _ | refine blk_drew ?_ | refine blk_alloc ?_ _)); apply blk_put (i := 0); (case h => exact y0 BK686.out); (case e => rfl)) hb); replace HB := Aside0.mk (below_step (y20 HB.out GE667.out GE668.out GE669.out GE675.out GE681.out GE686.out) hb); (try clear hb); (try clear hb2); (try clear hk); (try clear hi); have hnb94 := NB669_667.out; have hnc94 := NB667_669.out; have hcz95_0 := zh BK669; have hcz95_1 := zh1 BK669; have hfz95_0 := zfr BK669 0; have hfz95_1 := zfr BK669 1))
     refine bodyPost_ret (results_ct rfl _ _ gb669 25 #[.int .i64 0, .slice none 0 0] (0, 0) _ rfl (by (with_reducible repeat (first | refine blk_drewN ?_ _ | refine blk_drew ?_ | refine blk_alloc ?_ _)); refine blk_put (cs := #[.int .i64 0, .slice none 0 0]) ?_ 1 _ rfl; (with_reducible repeat (first | refine blk_drewN ?_ _ | refine blk_drew ?_ | refine blk_alloc ?_ _)); apply blk_put (i := 0); (case h => exact y0 BK669.out); (case e => rfl)) Try.underlying25 rfl (by kernel_rfl)) rfl ?_
     exact ⟨_, y19, y37, (y20 HB.out GE667.out GE668.out GE669.out GE675.out GE681.out GE686.out)⟩
end Go.Proofs.Ythfflieeifakdaa.PA
end
section
namespace Go.Proofs.Ythfflieeifakdaa.PA
open Go.RowKit Go.Proofs.YthfflieeifakdaaW.PrintWords Go.Proofs.YthfflieeifakdaaW.PrintLast Go.Proofs.YthfflieeifakdaaW.PrintMore
attribute [local go_sem] max2_int min2_int max_two min_two max_three min_three max_four min_four
set_option linter.unusedVariables false
set_option linter.unusedSimpArgs false
def laws_FnValPut.j0 : Nat → List Int → Bool → Bool → Bool → Int → List (S25) → Int → List (S25) → Int → List (S25) → Option (Bool)
 | 0, _, _, _, _, _, _, _, _, _, _ => none
 | k + 1, x4, x7, x9, x47, x815000, x815001, x821000, x821001, x827000, x827001 => if x47 = true then (if (x9 == x7) = true then ((laws_lhVal.f k x827000 x827001 x821000 x821001).bind fun t828 => (some t828)) else (some false)) else ((impl_ValAt.f k x827000 x827001 x4).bind fun bt829 => (if bt829.2.2 = true then ((laws_lhVal.f k bt829.1 bt829.2.1 x815000 x815001).bind fun t835 => (some t835)) else (some false)))
def laws_FnValPut.f (k : Nat) (l0 : List Int) : Option (Bool) := if (l0.length : Int) > 1048576 then (some true) else ((spec_DrawValPut.f k l0).bind fun bt802 => ((spec_ValPut.f k bt802.1 bt802.2.1 bt802.2.2.1 bt802.2.2.2.1 bt802.2.2.2.2).bind fun bt815 => ((impl_ValPut.f k bt802.1 bt802.2.1 bt802.2.2.1 bt802.2.2.2.1 bt802.2.2.2.2).bind fun bt821 => (if (bt821.2.2 != bt815.2.2) = true then (laws_FnValPut.j0 k bt802.2.2.1 bt815.2.2 bt821.2.2 true bt802.2.2.2.1 bt802.2.2.2.2 bt815.1 bt815.2.1 bt821.1 bt821.2.1) else ((laws_lhVal.f k bt821.1 bt821.2.1 bt815.1 bt815.2.1).bind fun t827 => (if t827 = true then (laws_FnValPut.j0 k bt802.2.2.1 bt815.2.2 bt821.2.2 (!bt821.2.2) bt802.2.2.2.1 bt802.2.2.2.2 bt815.1 bt815.2.1 bt821.1 bt821.2.1) else (laws_FnValPut.j0 k bt802.2.2.1 bt815.2.2 bt821.2.2 true bt802.2.2.2.1 bt802.2.2.2.2 bt815.1 bt815.2.1 bt821.1 bt821.2.1)))))))
theorem laws_FnValPut.mono_l : ∀ k, (∀ y0 y1 y2 y3 y4 y5 y6 y7 y8 y9, LeO (laws_FnValPut.j0 k y0 y1 y2 y3 y4 y5 y6 y7 y8 y9) (laws_FnValPut.j0 (k + 1) y0 y1 y2 y3 y4 y5 y6 y7 y8 y9))
 | 0 => fun _ _ _ _ _ _ _ _ _ _ r h => by simp [laws_FnValPut.j0] at h
 | k + 1 => by
  have ih0 := laws_FnValPut.mono_l k
  ·intro y0 y1 y2 y3 y4 y5 y6 y7 y8 y9
   unfold laws_FnValPut.j0
   repeat' first
   | (with_reducible exact ih0 _ _ _ _ _ _ _ _ _ _)
   | (with_reducible exact impl_ValAt.mono _ _ _ _)
   | (with_reducible exact impl_ValPut.mono _ _ _ _ _ _)
   | (with_reducible exact laws_lhVal.mono _ _ _ _ _)
   | (with_reducible exact spec_DrawValPut.mono _ _)
   | (with_reducible exact spec_ValPut.mono _ _ _ _ _ _)
   | (with_reducible exact LeO.refl _)
   | (with_reducible exact LeO.none _)
   | (with_reducible refine LeO.ite ?_ ?_)
   | (with_reducible refine LeO.bind ?_ (fun _ => ?_))
   | exact ih0 _ _ _ _ _ _ _ _ _ _
   | exact impl_ValAt.mono _ _ _ _
   | exact impl_ValPut.mono _ _ _ _ _ _
   | exact laws_lhVal.mono _ _ _ _ _
   | exact spec_DrawValPut.mono _ _
   | exact spec_ValPut.mono _ _ _ _ _ _
   | exact LeO.none _
   | refine LeO.ite ?_ ?_
   | refine LeO.bind ?_ (fun _ => ?_)
theorem laws_FnValPut.mono : ∀ a0 k, LeO (laws_FnValPut.f k a0) (laws_FnValPut.f (k + 1) a0) := by
 intro a0 k
 have ih0 := laws_FnValPut.mono_l k
 unfold laws_FnValPut.f
 repeat' first
   | (with_reducible exact ih0 _ _ _ _ _ _ _ _ _ _)
   | (with_reducible exact impl_ValAt.mono _ _ _ _)
   | (with_reducible exact impl_ValPut.mono _ _ _ _ _ _)
   | (with_reducible exact laws_lhVal.mono _ _ _ _ _)
   | (with_reducible exact spec_DrawValPut.mono _ _)
   | (with_reducible exact spec_ValPut.mono _ _ _ _ _ _)
   | (with_reducible exact LeO.refl _)
   | (with_reducible exact LeO.none _)
   | (with_reducible refine LeO.ite ?_ ?_)
   | (with_reducible refine LeO.bind ?_ (fun _ => ?_))
   | exact ih0 _ _ _ _ _ _ _ _ _ _
   | exact impl_ValAt.mono _ _ _ _
   | exact impl_ValPut.mono _ _ _ _ _ _
   | exact laws_lhVal.mono _ _ _ _ _
   | exact spec_DrawValPut.mono _ _
   | exact spec_ValPut.mono _ _ _ _ _ _
   | exact LeO.none _
   | refine LeO.ite ?_ ?_
   | refine LeO.bind ?_ (fun _ => ?_)
set_option maxHeartbeats 8000000 in
set_option maxRecDepth 100000 in
theorem laws_FnValPut.calls (k : Nat) (A0 : Option Addr) (c0 : Nat) (l0 : List Int) (r : Bool) (w : World) (hr0 : Kd.C (Kd.int .u8) w A0 l0.length l0) (hc0 : l0.length ≤ c0) (h : laws_FnValPut.f k l0 = some r) (hr_ : Aside0 (r = true)) :
  Calls Try.prog 8 #[.slice A0 l0.length c0] w fun e w' => e = .returned (.bool r) ∧ Below w.heap.size w w' := by
 have hu25 := Try.underlying25
 have HR0 := Aside0.mk hr0
 have HC0 := Aside0.mk hc0
 clear hr0 hc0
 have HB := Aside0.mk (Below.refl w.heap.size w)
 have H : (if (l0.length : Int) > 1048576 then (some true) else ((spec_DrawValPut.f k l0).bind fun bt802 => ((spec_ValPut.f k bt802.1 bt802.2.1 bt802.2.2.1 bt802.2.2.2.1 bt802.2.2.2.2).bind fun bt815 => ((impl_ValPut.f k bt802.1 bt802.2.1 bt802.2.2.1 bt802.2.2.2.1 bt802.2.2.2.2).bind fun bt821 => (if (bt821.2.2 != bt815.2.2) = true then (laws_FnValPut.j0 k bt802.2.2.1 bt815.2.2 bt821.2.2 true bt802.2.2.2.1 bt802.2.2.2.2 bt815.1 bt815.2.1 bt821.1 bt821.2.1) else ((laws_lhVal.f k bt821.1 bt821.2.1 bt815.1 bt815.2.1).bind fun t827 => (if t827 = true then (laws_FnValPut.j0 k bt802.2.2.1 bt815.2.2 bt821.2.2 (!bt821.2.2) bt802.2.2.2.1 bt802.2.2.2.2 bt815.1 bt815.2.1 bt821.1 bt821.2.1) else (laws_FnValPut.j0 k bt802.2.2.1 bt815.2.2 bt821.2.2 true bt802.2.2.2.1 bt802.2.2.2.2 bt815.1 bt815.2.1 bt821.1 bt821.2.1)))))))) = some r := h
 clear h
 by_cases c2 : (l0.length : Int) > 1048576
 ·rw [if_pos c2] at H
  have c2b0 : decide (1048576 < (l0.length : Int)) = true := decide_eq_true c2
  have c2b1 : decide (1048576 < l0.length) = true := decide_eq_true (by omega)
  clear c2
  clear hr_
  obtain rfl := Option.some.inj H
  go_enter Try.func8, Try.ntmps8
  go_wp2
  go_ret
  exact ⟨y19, (y5 HB.out)⟩
 ·rw [if_neg c2] at H
  have c2b0 : decide (1048576 < (l0.length : Int)) = false := decide_eq_false c2
  have c2b1 : decide (1048576 < l0.length) = false := decide_eq_false (by omega)
  clear c2
  obtain ⟨⟨t802, t803, t806, t809, t810⟩, A30, H⟩ := ob H
  have A3 := Aside0.mk A30
  clear A30
  obtain ⟨⟨t815, t816, t819⟩, A40, H⟩ := ob H
  have A4 := Aside0.mk A40
  clear A40
  obtain ⟨⟨t821, t822, t825⟩, A50, H⟩ := ob H
  have A5 := Aside0.mk A50
  clear A50
  have HC6 := Aside0.mk H
  clear H
  go_enter Try.func8, Try.ntmps8
  go_upto_region 6 with (first | ((with_reducible refine gate_callee (f := 25) rfl ?_); refine goesL_ (some 17) rfl rfl Try.func25 (by kernel_rfl) rfl #[.slice A0 l0.length c0] rfl y8 ?_; (with_reducible refine (spec_DrawValPut.calls k _ _ l0 t802 t803 t806 t809 t810 _ ?side1 ?side2 A3.out).mono ?_); (case side1 => exact y51 HR0.out); (case side2 => exact HC0.out); rintro e w7 ⟨v804, v807, v811, rfl, ho0, ho1, ho2, hb⟩; refine ⟨_, rfl, ?_⟩; have HO805 := Aside0.mk (Kd.N_lower (Kd.N_mono (ok' := fun k_ => some k_ ≠ (v807 : Value).ownBlock ∧ some k_ ≠ (v811 : Value).ownBlock) ho0 (fun k_ hk_ => ⟨hk_.2.1, hk_.2.2⟩)) (below_size (y5 HB.out))); have HO808 := Aside0.mk (Kd.R_lower (Kd.R_mono (ok' := fun k_ => True) ho1 (fun _ _ => trivial)) (below_size (y5 HB.out))); have HO812 := Aside0.mk (Kd.N_lower (Kd.N_mono (ok' := fun k_ => some k_ ≠ (v804 : Value).ownBlock ∧ some k_ ≠ (v807 : Value).ownBlock) ho2 (fun k_ hk_ => ⟨hk_.2.1, hk_.2.2⟩)) (below_size (y5 HB.out))); replace HB := Aside0.mk (below_step (y5 HB.out) hb); (try clear hb); (try clear hb2); (try clear hk); (try clear hi); (try clear ho0); (try clear ho1); (try clear ho2)) | ((with_reducible refine gate_dst (N := 3) rfl ?_); refine zbx 3 #[.int .i64 0, .slice none 0 0] 25 ?_; intro gb813 hg w8 hbox hb; replace HO805 := Aside0.mk (Kd.N_below (Kd.N_elderB (y3 HO805.out) gb813 (Nat.le_of_eq hg.symm)) hb); replace HO808 := Aside0.mk (Kd.R_below (y12 HO808.out) hb); replace HO812 := Aside0.mk (Kd.N_below (Kd.N_elderB (y3 HO812.out) gb813 (Nat.le_of_eq hg.symm)) hb); have BK813 := Aside0.mk hbox; have GW813 := Aside0.mk ((y9 hg HB.out : w.heap.size ≤ gb813)); have GE813 := Aside0.mk ((y9 hg HB.out : w.heap.size ≤ gb813)); replace HB := Aside0.mk (below_step (y5 HB.out) hb); clear hb hbox hg) | ((with_reducible refine gate_dst (N := 5) rfl ?_); refine zbx 5 #[.int .i64 0, .slice none 0 0] 25 ?_; intro gb814 hg w9 hbox hb; replace HO805 := Aside0.mk (Kd.N_below (Kd.N_elderB (y3 HO805.out) gb814 (Nat.le_of_eq hg.symm)) hb); replace HO808 := Aside0.mk (Kd.R_below (y12 HO808.out) hb); replace HO812 := Aside0.mk (Kd.N_below (Kd.N_elderB (y3 HO812.out) gb814 (Nat.le_of_eq hg.symm)) hb); have BK814 := Aside0.mk hbox; have GW814 := Aside0.mk ((y11 hg HB.out GE813.out : w.heap.size ≤ gb814)); have GE814 := Aside0.mk ((y11 hg HB.out GE813.out : w.heap.size ≤ gb814)); replace HB := Aside0.mk (below_step (y6 HB.out GE813.out) hb); have NB813_814 := zltn hg BK813; have NB814_813 := zgtn hg BK813; replace BK813 := zbb BK813 hb; clear hb hbox hg; have hnb10 := NB813_814.out; have hnc10 := NB814_813.out; have hcz11_0 := zh BK813; have hcz11_1 := zh1 BK813; have hfz11_0 := zfr BK813 0; have hfz11_1 := zfr BK813 1; obtain ⟨Ao12, co12, eo12⟩ := Kd.N_slice HO805.out; subst eo12; have hcz13_0 := zh BK814; have hcz13_1 := zh1 BK814; have hfz13_0 := zfr BK814 0; have hfz13_1 := zfr BK814 1; obtain ⟨Ao14, co14, eo14⟩ := Kd.N_slice HO812.out; subst eo14; obtain ⟨Ao15, co15, eo15⟩ := Kd.R_slice HO808.out; subst eo15) | ((with_reducible refine gate_callee (f := 26) rfl ?_); refine goesL_ (some 25) rfl rfl Try.func26 (by kernel_rfl) rfl #[.agg #[.int .i64 t802, .slice Ao12 t803.length co12], .slice Ao15 t806.length co15, .agg #[.int .i64 t809, .slice Ao14 t810.length co14]] rfl y8 ?_; (with_reducible refine (spec_ValPut.calls k t802 _ _ t803 _ _ t806 t809 _ _ t810 t815 t816 t819 _ ?side1 ?side2 ?side3 ?side4 ?side5 ?side6 A4.out).mono ?_); (case side1 => refine (Kd.N_reads' (e := 25) (base := w.heap.size) (ok := fun k_ => (((some k_ ≠ (.slice Ao15 t806.length co15 : Value).ownBlock ∧ some k_ ≠ (.slice Ao14 t810.length co14 : Value).ownBlock) ∧ k_ ≠ gb813) ∧ k_ ≠ gb814)) (n := t803.length) (c := co12) ?_).2.2; exact (by (with_reducible repeat (first | apply Kd.N_alloc | apply Kd.N_drewN | apply Kd.N_drew)); exact (Kd.N_mono (Kd.N_mono (Kd.N_far (p := ⟨gb814, 1, none⟩) (Kd.N_far (p := ⟨gb814, 0, none⟩) (Kd.N_far (p := ⟨gb813, 1, none⟩) (Kd.N_far (p := ⟨gb813, 0, none⟩) (Kd.N_mono (Kd.N_mono HO805.out (fun k_ hk => (⟨hk, hk.1.2⟩ : _ ∧ k_ ≠ gb813))) (fun k_ hk => (⟨hk, hk.1.2⟩ : _ ∧ k_ ≠ gb814))) (fun _ hk => hk.1.2) (.int .i64 t802)) (fun _ hk => hk.1.2) (.slice Ao12 t803.length co12)) (fun _ hk => hk.2) (.int .i64 t809)) (fun _ hk => hk.2) (.slice Ao14 t810.length co14)) (fun _ h_ => h_.1)) (fun _ h_ => h_.1)))); (case side2 => exact (Kd.N_reads' HO805.out).2.1); (case side3 => refine (Kd.R_reads' (e := 3) (base := w.heap.size) (ok := fun k_ => True) (n := t806.length) (c := co15) ?_).2.2; exact (by (with_reducible repeat (first | apply Kd.R_alloc | apply Kd.R_drewN | apply Kd.R_drew)); exact (Kd.R_mono (Kd.R_mono (Kd.R_far (p := ⟨gb814, 1, none⟩) (Kd.R_far (p := ⟨gb814, 0, none⟩) (Kd.R_far (p := ⟨gb813, 1, none⟩) (Kd.R_far (p := ⟨gb813, 0, none⟩) (Kd.R_types (Kd.R_types HO808.out BK813.out (by decide)) BK814.out (by decide)) (fun _ hk => hk.1.2) (.int .i64 t802)) (fun _ hk => hk.1.2) (.slice Ao12 t803.length co12)) (fun _ hk => hk.2) (.int .i64 t809)) (fun _ hk => hk.2) (.slice Ao14 t810.length co14)) (fun _ h_ => h_.1)) (fun _ h_ => h_.1)))); (case side4 => exact (Kd.R_reads' HO808.out).2.1); (case side5 => refine (Kd.N_reads' (e := 25) (base := w.heap.size) (ok := fun k_ => (((some k_ ≠ (.slice Ao12 t803.length co12 : Value).ownBlock ∧ some k_ ≠ (.slice Ao15 t806.length co15 : Value).ownBlock) ∧ k_ ≠ gb813) ∧ k_ ≠ gb814)) (n := t810.length) (c := co14) ?_).2.2; exact (by (with_reducible repeat (first | apply Kd.N_alloc | apply Kd.N_drewN | apply Kd.N_drew)); exact (Kd.N_mono (Kd.N_mono (Kd.N_far (p := ⟨gb814, 1, none⟩) (Kd.N_far (p := ⟨gb814, 0, none⟩) (Kd.N_far (p := ⟨gb813, 1, none⟩) (Kd.N_far (p := ⟨gb813, 0, none⟩) (Kd.N_mono (Kd.N_mono HO812.out (fun k_ hk => (⟨hk, hk.1.2⟩ : _ ∧ k_ ≠ gb813))) (fun k_ hk => (⟨hk, hk.1.2⟩ : _ ∧ k_ ≠ gb814))) (fun _ hk => hk.1.2) (.int .i64 t802)) (fun _ hk => hk.1.2) (.slice Ao12 t803.length co12)) (fun _ hk => hk.2) (.int .i64 t809)) (fun _ hk => hk.2) (.slice Ao14 t810.length co14)) (fun _ h_ => h_.1)) (fun _ h_ => h_.1)))); (case side6 => exact (Kd.N_reads' HO812.out).2.1); rintro e w16 ⟨v817, rfl, ho0, hb⟩; refine ⟨_, rfl, ?_⟩; have HO818 := Aside0.mk (Kd.N_lower (Kd.N_mono (ok' := fun k_ => some k_ ≠ (.slice Ao12 t803.length co12 : Value).ownBlock ∧ some k_ ≠ (.slice Ao15 t806.length co15 : Value).ownBlock ∧ some k_ ≠ (.slice Ao14 t810.length co14 : Value).ownBlock ∧ k_ ≠ gb813 ∧ k_ ≠ gb814) ho0 (fun k_ hk_ => ⟨(Kd.fresh' (Kd.N_lt (by (with_reducible repeat (first | apply Kd.N_alloc | apply Kd.N_drewN | apply Kd.N_drew)); exact (Kd.N_mono (Kd.N_mono (Kd.N_far (p := ⟨gb814, 1, none⟩) (Kd.N_far (p := ⟨gb814, 0, none⟩) (Kd.N_far (p := ⟨gb813, 1, none⟩) (Kd.N_far (p := ⟨gb813, 0, none⟩) (Kd.N_mono (Kd.N_mono HO805.out (fun k_ hk => (⟨hk, hk.1.2⟩ : _ ∧ k_ ≠ gb813))) (fun k_ hk => (⟨hk, hk.1.2⟩ : _ ∧ k_ ≠ gb814))) (fun _ hk => hk.1.2) (.int .i64 t802)) (fun _ hk => hk.1.2) (.slice Ao12 t803.length co12)) (fun _ hk => hk.2) (.int .i64 t809)) (fun _ hk => hk.2) (.slice Ao14 t810.length co14)) (fun _ h_ => h_.1)) (fun _ h_ => h_.1)))) k_ hk_), (Kd.fresh' (Kd.R_lt (by (with_reducible repeat (first | apply Kd.R_alloc | apply Kd.R_drewN | apply Kd.R_drew)); exact (Kd.R_mono (Kd.R_mono (Kd.R_far (p := ⟨gb814, 1, none⟩) (Kd.R_far (p := ⟨gb814, 0, none⟩) (Kd.R_far (p := ⟨gb813, 1, none⟩) (Kd.R_far (p := ⟨gb813, 0, none⟩) (Kd.R_types (Kd.R_types HO808.out BK813.out (by decide)) BK814.out (by decide)) (fun _ hk => hk.1.2) (.int .i64 t802)) (fun _ hk => hk.1.2) (.slice Ao12 t803.length co12)) (fun _ hk => hk.2) (.int .i64 t809)) (fun _ hk => hk.2) (.slice Ao14 t810.length co14)) (fun _ h_ => h_.1)) (fun _ h_ => h_.1)))) k_ hk_), (Kd.fresh' (Kd.N_lt (by (with_reducible repeat (first | apply Kd.N_alloc | apply Kd.N_drewN | apply Kd.N_drew)); exact (Kd.N_mono (Kd.N_mono (Kd.N_far (p := ⟨gb814, 1, none⟩) (Kd.N_far (p := ⟨gb814, 0, none⟩) (Kd.N_far (p := ⟨gb813, 1, none⟩) (Kd.N_far (p := ⟨gb813, 0, none⟩) (Kd.N_mono (Kd.N_mono HO812.out (fun k_ hk => (⟨hk, hk.1.2⟩ : _ ∧ k_ ≠ gb813))) (fun k_ hk => (⟨hk, hk.1.2⟩ : _ ∧ k_ ≠ gb814))) (fun _ hk => hk.1.2) (.int .i64 t802)) (fun _ hk => hk.1.2) (.slice Ao12 t803.length co12)) (fun _ hk => hk.2) (.int .i64 t809)) (fun _ hk => hk.2) (.slice Ao14 t810.length co14)) (fun _ h_ => h_.1)) (fun _ h_ => h_.1)))) k_ hk_), (Kd.freshB (g := gb813) (o := .cells #[.int .i64 t802, .slice Ao12 t803.length co12] 25 (0, 0)) (by (with_reducible repeat (first | refine blk_drewN ?_ _ | refine blk_drew ?_ | refine blk_alloc ?_ _)); refine blk_far ?_ NB813_814.out _; (with_reducible repeat (first | refine blk_drewN ?_ _ | refine blk_drew ?_ | refine blk_alloc ?_ _)); refine blk_far ?_ NB813_814.out _; (with_reducible repeat (first | refine blk_drewN ?_ _ | refine blk_drew ?_ | refine blk_alloc ?_ _)); refine blk_put (cs := #[.int .i64 t802, .slice none 0 0]) ?_ 1 _ rfl; (with_reducible repeat (first | refine blk_drewN ?_ _ | refine blk_drew ?_ | refine blk_alloc ?_ _)); apply blk_put (i := 0); (case h => exact y0 BK813.out); (case e => rfl)) k_ hk_), (Kd.freshB (g := gb814) (o := .cells #[.int .i64 t809, .slice Ao14 t810.length co14] 25 (0, 0)) (by (with_reducible repeat (first | refine blk_drewN ?_ _ | refine blk_drew ?_ | refine blk_alloc ?_ _)); refine blk_put (cs := #[.int .i64 t809, .slice none 0 0]) ?_ 1 _ rfl; (with_reducible repeat (first | refine blk_drewN ?_ _ | refine blk_drew ?_ | refine blk_alloc ?_ _)); refine blk_put (cs := #[.int .i64 0, .slice none 0 0]) ?_ 0 _ rfl; (with_reducible repeat (first | refine blk_drewN ?_ _ | refine blk_drew ?_ | refine blk_alloc ?_ _)); refine blk_far ?_ NB814_813.out _; (with_reducible repeat (first | refine blk_drewN ?_ _ | refine blk_drew ?_ | refine blk_alloc ?_ _)); refine blk_far ?_ NB814_813.out _; (with_reducible repeat (first | refine blk_drewN ?_ _ | refine blk_drew ?_ | refine blk_alloc ?_ _)); exact BK814.out) k_ hk_)⟩)) (below_size (y2 HB.out GE813.out GE814.out))); replace HO805 := Aside0.mk (Kd.N_elder' (by (with_reducible repeat (first | apply Kd.N_alloc | apply Kd.N_drewN | apply Kd.N_drew)); exact (Kd.N_mono (Kd.N_mono (Kd.N_far (p := ⟨gb814, 1, none⟩) (Kd.N_far (p := ⟨gb814, 0, none⟩) (Kd.N_far (p := ⟨gb813, 1, none⟩) (Kd.N_far (p := ⟨gb813, 0, none⟩) (Kd.N_mono (Kd.N_mono HO805.out (fun k_ hk => (⟨hk, hk.1.2⟩ : _ ∧ k_ ≠ gb813))) (fun k_ hk => (⟨hk, hk.1.2⟩ : _ ∧ k_ ≠ gb814))) (fun _ hk => hk.1.2) (.int .i64 t802)) (fun _ hk => hk.1.2) (.slice Ao12 t803.length co12)) (fun _ hk => hk.2) (.int .i64 t809)) (fun _ hk => hk.2) (.slice Ao14 t810.length co14)) (fun _ h_ => h_.1)) (fun _ h_ => h_.1))) (Kd.N_base ho0) hb); replace HO808 := Aside0.mk (Kd.R_below (by (with_reducible repeat (first | apply Kd.R_alloc | apply Kd.R_drewN | apply Kd.R_drew)); exact (Kd.R_mono (Kd.R_mono (Kd.R_far (p := ⟨gb814, 1, none⟩) (Kd.R_far (p := ⟨gb814, 0, none⟩) (Kd.R_far (p := ⟨gb813, 1, none⟩) (Kd.R_far (p := ⟨gb813, 0, none⟩) (Kd.R_types (Kd.R_types HO808.out BK813.out (by decide)) BK814.out (by decide)) (fun _ hk => hk.1.2) (.int .i64 t802)) (fun _ hk => hk.1.2) (.slice Ao12 t803.length co12)) (fun _ hk => hk.2) (.int .i64 t809)) (fun _ hk => hk.2) (.slice Ao14 t810.length co14)) (fun _ h_ => h_.1)) (fun _ h_ => h_.1))) hb); replace HO812 := Aside0.mk (Kd.N_elder' (by (with_reducible repeat (first | apply Kd.N_alloc | apply Kd.N_drewN | apply Kd.N_drew)); exact (Kd.N_mono (Kd.N_mono (Kd.N_far (p := ⟨gb814, 1, none⟩) (Kd.N_far (p := ⟨gb814, 0, none⟩) (Kd.N_far (p := ⟨gb813, 1, none⟩) (Kd.N_far (p := ⟨gb813, 0, none⟩) (Kd.N_mono (Kd.N_mono HO812.out (fun k_ hk => (⟨hk, hk.1.2⟩ : _ ∧ k_ ≠ gb813))) (fun k_ hk => (⟨hk, hk.1.2⟩ : _ ∧ k_ ≠ gb814))) (fun _ hk => hk.1.2) (.int .i64 t802)) (fun _ hk => hk.1.2) (.slice Ao12 t803.length co12)) (fun _ hk => hk.2) (.int .i64 t809)) (fun _ hk => hk.2) (.slice Ao14 t810.length co14)) (fun _ h_ => h_.1)) (fun _ h_ => h_.1))) (Kd.N_base ho0) hb); replace BK813 := Aside0.mk (blk_below (g := gb813) (o := .cells #[.int .i64 t802, .slice Ao12 t803.length co12] 25 (0, 0)) (by (with_reducible repeat (first | refine blk_drewN ?_ _ | refine blk_drew ?_ | refine blk_alloc ?_ _)); refine blk_far ?_ NB813_814.out _; (with_reducible repeat (first | refine blk_drewN ?_ _ | refine blk_drew ?_ | refine blk_alloc ?_ _)); refine blk_far ?_ NB813_814.out _; (with_reducible repeat (first | refine blk_drewN ?_ _ | refine blk_drew ?_ | refine blk_alloc ?_ _)); refine blk_put (cs := #[.int .i64 t802, .slice none 0 0]) ?_ 1 _ rfl; (with_reducible repeat (first | refine blk_drewN ?_ _ | refine blk_drew ?_ | refine blk_alloc ?_ _)); apply blk_put (i := 0); (case h => exact y0 BK813.out); (case e => rfl)) hb); replace BK814 := Aside0.mk (blk_below (g := gb814) (o := .cells #[.int .i64 t809, .slice Ao14 t810.length co14] 25 (0, 0)) (by (with_reducible repeat (first | refine blk_drewN ?_ _ | refine blk_drew ?_ | refine blk_alloc ?_ _)); refine blk_put (cs := #[.int .i64 t809, .slice none 0 0]) ?_ 1 _ rfl; (with_reducible repeat (first | refine blk_drewN ?_ _ | refine blk_drew ?_ | refine blk_alloc ?_ _)); refine blk_put (cs := #[.int .i64 0, .slice none 0 0]) ?_ 0 _ rfl; (with_reducible repeat (first | refine blk_drewN ?_ _ | refine blk_drew ?_ | refine blk_alloc ?_ _)); refine blk_far ?_ NB814_813.out _; (with_reducible repeat (first | refine blk_drewN ?_ _ | refine blk_drew ?_ | refine blk_alloc ?_ _)); refine blk_far ?_ NB814_813.out _; (with_reducible repeat (first | refine blk_drewN ?_ _ | refine blk_drew ?_ | refine blk_alloc ?_ _)); exact BK814.out) hb); replace HB := Aside0.mk (below_step (y2 HB.out GE813.out GE814.out) hb); (try clear hb); (try clear hb2); (try clear hk); (try clear hi); (try clear ho0)) | ((with_reducible refine gate_dst (N := 6) rfl ?_); refine zbx 6 #[.int .i64 0, .slice none 0 0] 25 ?_; intro gb820 hg w17 hbox hb; replace HO805 := Aside0.mk (Kd.N_below (Kd.N_elderB (y3 HO805.out) gb820 (Nat.le_of_eq hg.symm)) hb); replace HO808 := Aside0.mk (Kd.R_below (y12 HO808.out) hb); replace HO812 := Aside0.mk (Kd.N_below (Kd.N_elderB (y3 HO812.out) gb820 (Nat.le_of_eq hg.symm)) hb); replace HO818 := Aside0.mk (Kd.N_below (Kd.N_elderB (y3 HO818.out) gb820 (Nat.le_of_eq hg.symm)) hb); have BK820 := Aside0.mk hbox; have GW820 := Aside0.mk ((y16 hg HB.out GE813.out GE814.out : w.heap.size ≤ gb820)); have GE820 := Aside0.mk ((y16 hg HB.out GE813.out GE814.out : w.heap.size ≤ gb820)); replace HB := Aside0.mk (below_step (y2 HB.out GE813.out GE814.out) hb); have NB813_820 := zltn hg BK813; have NB820_813 := zgtn hg BK813; replace BK813 := zbb BK813 hb; have NB814_820 := zltn hg BK814; have NB820_814 := zgtn hg BK814; replace BK814 := zbb BK814 hb; clear hb hbox hg; have hnb18 := NB820_813.out; have hnc18 := NB813_820.out; have hnb19 := NB820_814.out; have hnc19 := NB814_820.out; have hcz20_0 := zh BK820; have hcz20_1 := zh1 BK820; have hfz20_0 := zfr BK820 0; have hfz20_1 := zfr BK820 1; obtain ⟨Ao21, co21, eo21⟩ := Kd.N_slice HO818.out; subst eo21) | ((with_reducible refine gate_store (t := 25) (p := 6) rfl ?_); refine store_event (t := 25) (p := 6) (v := ?vo_w22) (w1 := ((w17.setCell ⟨gb820, 0, none⟩ (.int .i64 t815)).setCell ⟨gb820, 1, none⟩ (.slice Ao21 t816.length co21))) ?hg ?ho ?hn ?hr ?_; (case ho => rfl); (case hg => rfl); (case hn => rfl); (case hr => first | (go_simp; done) | (go_simp; rfl)); intro w22 hw; have n0_ : Aside0 (Kd.N k25 25 w22 w.heap.size (fun k_ => some k_ ≠ (.slice Ao15 t806.length co15 : Value).ownBlock ∧ some k_ ≠ (.slice Ao14 t810.length co14 : Value).ownBlock ∧ some k_ ≠ (.slice Ao21 t816.length co21 : Value).ownBlock ∧ k_ ≠ gb813 ∧ k_ ≠ gb814 ∧ k_ ≠ gb820) (.slice Ao12 t803.length co12) t803) := ⟨(by rw [hw]; exact (by (with_reducible repeat (first | apply Kd.N_alloc | apply Kd.N_drewN | apply Kd.N_drew)); exact Kd.N_mono (Kd.N_far (p := ⟨gb820, 1, none⟩) (Kd.N_far (p := ⟨gb820, 0, none⟩) (Kd.N_mono HO805.out (fun k_ hk => (⟨hk, hk.2⟩ : _ ∧ k_ ≠ gb820))) (fun _ hk => hk.2) (.int .i64 t815)) (fun _ hk => hk.2) (.slice Ao21 t816.length co21)) (fun _ hk => ⟨hk.1.1.1.1.1.1, ⟨hk.1.1.1.1.1.2, ⟨hk.1.1.2, ⟨hk.1.1.1.1.2, ⟨hk.1.1.1.2, hk.1.2⟩⟩⟩⟩⟩)))⟩; have n1_ : Aside0 (Kd.R (Kd.int .i64) 3 w22 w.heap.size (fun _ => True) (.slice Ao15 t806.length co15) t806) := ⟨(by rw [hw]; exact (by (with_reducible repeat (first | apply Kd.R_alloc | apply Kd.R_drewN | apply Kd.R_drew)); exact Kd.R_mono (Kd.R_far (p := ⟨gb820, 1, none⟩) (Kd.R_far (p := ⟨gb820, 0, none⟩) (Kd.R_types HO808.out BK820.out (by decide)) (fun _ hk => hk.2) (.int .i64 t815)) (fun _ hk => hk.2) (.slice Ao21 t816.length co21)) (fun _ hk => trivial)))⟩; have n2_ : Aside0 (Kd.N k25 25 w22 w.heap.size (fun k_ => some k_ ≠ (.slice Ao12 t803.length co12 : Value).ownBlock ∧ some k_ ≠ (.slice Ao15 t806.length co15 : Value).ownBlock ∧ some k_ ≠ (.slice Ao21 t816.length co21 : Value).ownBlock ∧ k_ ≠ gb813 ∧ k_ ≠ gb814 ∧ k_ ≠ gb820) (.slice Ao14 t810.length co14) t810) := ⟨(by rw [hw]; exact (by (with_reducible repeat (first | apply Kd.N_alloc | apply Kd.N_drewN | apply Kd.N_drew)); exact Kd.N_mono (Kd.N_far (p := ⟨gb820, 1, none⟩) (Kd.N_far (p := ⟨gb820, 0, none⟩) (Kd.N_mono HO812.out (fun k_ hk => (⟨hk, hk.2⟩ : _ ∧ k_ ≠ gb820))) (fun _ hk => hk.2) (.int .i64 t815)) (fun _ hk => hk.2) (.slice Ao21 t816.length co21)) (fun _ hk => ⟨hk.1.1.1.1.1.1, ⟨hk.1.1.1.1.1.2, ⟨hk.1.1.2, ⟨hk.1.1.1.1.2, ⟨hk.1.1.1.2, hk.1.2⟩⟩⟩⟩⟩)))⟩; have n3_ : Aside0 (Kd.N k25 25 w22 w.heap.size (fun k_ => some k_ ≠ (.slice Ao12 t803.length co12 : Value).ownBlock ∧ some k_ ≠ (.slice Ao15 t806.length co15 : Value).ownBlock ∧ some k_ ≠ (.slice Ao14 t810.length co14 : Value).ownBlock ∧ k_ ≠ gb813 ∧ k_ ≠ gb814 ∧ k_ ≠ gb820) (.slice Ao21 t816.length co21) t816) := ⟨(by rw [hw]; exact (by (with_reducible repeat (first | apply Kd.N_alloc | apply Kd.N_drewN | apply Kd.N_drew)); exact Kd.N_mono (Kd.N_far (p := ⟨gb820, 1, none⟩) (Kd.N_far (p := ⟨gb820, 0, none⟩) (Kd.N_mono HO818.out (fun k_ hk => (⟨hk, hk.2⟩ : _ ∧ k_ ≠ gb820))) (fun _ hk => hk.2) (.int .i64 t815)) (fun _ hk => hk.2) (.slice Ao21 t816.length co21)) (fun _ hk => ⟨hk.1.1.1, ⟨hk.1.1.2.1, ⟨hk.1.1.2.2.1, ⟨hk.1.1.2.2.2.1, ⟨hk.1.1.2.2.2.2, hk.1.2⟩⟩⟩⟩⟩)))⟩; have n4_ : Aside0 (w22.heap[gb813]? = some (.cells #[.int .i64 t802, .slice Ao12 t803.length co12] 25 (0, 0))) := ⟨(by rw [hw]; exact (y1 NB813_820.out BK813.out))⟩; have n5_ : Aside0 (w22.heap[gb814]? = some (.cells #[.int .i64 t809, .slice Ao14 t810.length co14] 25 (0, 0))) := ⟨(by rw [hw]; exact (y1 NB814_820.out BK814.out))⟩; have n6_ : Aside0 (w22.heap[gb820]? = some (.cells #[.int .i64 t815, .slice Ao21 t816.length co21] 25 (0, 0))) := ⟨(by rw [hw]; exact (by (with_reducible repeat (first | refine blk_drewN ?_ _ | refine blk_drew ?_ | refine blk_alloc ?_ _)); refine blk_put (cs := #[.int .i64 t815, .slice none 0 0]) ?_ 1 _ rfl; (with_reducible repeat (first | refine blk_drewN ?_ _ | refine blk_drew ?_ | refine blk_alloc ?_ _)); apply blk_put (i := 0); (case h => exact y0 BK820.out); (case e => rfl)))⟩; have n7_ : Aside0 (Below w.heap.size w w22) := ⟨(by rw [hw]; exact (y4 HB.out GE813.out GE814.out GE820.out))⟩; clear hw; clear HO805; clear HO808; clear HO812; clear HO818; clear BK813; clear BK814; clear BK820; clear HB; have HO805 := n0_; have HO808 := n1_; have HO812 := n2_; have HO818 := n3_; have BK813 := n4_; have BK814 := n5_; have BK820 := n6_; have HB := n7_; clear n0_ n1_ n2_ n3_ n4_ n5_ n6_ n7_; have hcz23_0 := zh BK813; have hcz23_1 := zh1 BK813; have hfz23_0 := zfr BK813 0; have hfz23_1 := zfr BK813 1; have hcz24_0 := zh BK814; have hcz24_1 := zh1 BK814; have hfz24_0 := zfr BK814 0; have hfz24_1 := zfr BK814 1) | ((with_reducible refine gate_callee (f := 24) rfl ?_); refine goesL_ (some 32) rfl rfl Try.func24 (by kernel_rfl) rfl #[.agg #[.int .i64 t802, .slice Ao12 t803.length co12], .slice Ao15 t806.length co15, .agg #[.int .i64 t809, .slice Ao14 t810.length co14]] rfl y8 ?_; (with_reducible refine (impl_ValPut.calls k t802 (fun k_ => (some k_ ≠ (.slice Ao15 t806.length co15 : Value).ownBlock ∧ (some k_ ≠ (.slice Ao14 t810.length co14 : Value).ownBlock ∧ (some k_ ≠ (.slice Ao21 t816.length co21 : Value).ownBlock ∧ (k_ ≠ gb813 ∧ (k_ ≠ gb814 ∧ k_ ≠ gb820)))))) _ _ t803 _ _ t806 t809 (fun k_ => (some k_ ≠ (.slice Ao12 t803.length co12 : Value).ownBlock ∧ (some k_ ≠ (.slice Ao15 t806.length co15 : Value).ownBlock ∧ (some k_ ≠ (.slice Ao21 t816.length co21 : Value).ownBlock ∧ (k_ ≠ gb813 ∧ (k_ ≠ gb814 ∧ k_ ≠ gb820)))))) _ _ t810 t821 t822 t825 _ ?side1 ?side2 ?side3 ?side4 A5.out).mono ?_); (case side1 => exact Kd.N_V (HO805.out)); (case side2 => exact y39 HO808.out); (case side3 => exact (Kd.R_reads' HO808.out).2.1); (case side4 => exact Kd.N_V (HO812.out)); rintro e w25 ⟨v823, rfl, ho0, hb⟩; refine ⟨_, rfl, ?_⟩; replace HO805 := Aside0.mk (Kd.N_elder' (y3 HO805.out) (Kd.N_base ho0) hb); replace HO812 := Aside0.mk (Kd.N_elder' (y3 HO812.out) (Kd.N_base ho0) hb); have HO824 := Aside0.mk (Kd.N_lower (Kd.N_mono (ok' := fun k_ => some k_ ≠ (.slice Ao15 t806.length co15 : Value).ownBlock ∧ some k_ ≠ (.slice Ao21 t816.length co21 : Value).ownBlock ∧ k_ ≠ gb813 ∧ k_ ≠ gb814 ∧ k_ ≠ gb820) ho0 (fun k_ hk_ => ⟨Or.elim hk_ (fun hs_ => Or.elim hs_ (fun hs_ => hs_.1) (fun hs_ => hs_.2.1)) (fun hn_ => (Kd.fresh' (Kd.R_lt (y12 HO808.out)) k_ hn_)), Or.elim hk_ (fun hs_ => Or.elim hs_ (fun hs_ => hs_.2.2.1) (fun hs_ => hs_.2.2.1)) (fun hn_ => (Kd.fresh' (Kd.N_lt (y3 HO818.out)) k_ hn_)), Or.elim hk_ (fun hs_ => Or.elim hs_ (fun hs_ => hs_.2.2.2.1) (fun hs_ => hs_.2.2.2.1)) (fun hn_ => (Kd.freshB (g := gb813) (o := .cells #[.int .i64 t802, .slice Ao12 t803.length co12] 25 (0, 0)) (y0 BK813.out) k_ hn_)), Or.elim hk_ (fun hs_ => Or.elim hs_ (fun hs_ => hs_.2.2.2.2.1) (fun hs_ => hs_.2.2.2.2.1)) (fun hn_ => (Kd.freshB (g := gb814) (o := .cells #[.int .i64 t809, .slice Ao14 t810.length co14] 25 (0, 0)) (y0 BK814.out) k_ hn_)), Or.elim hk_ (fun hs_ => Or.elim hs_ (fun hs_ => hs_.2.2.2.2.2) (fun hs_ => hs_.2.2.2.2.2)) (fun hn_ => (Kd.freshB (g := gb820) (o := .cells #[.int .i64 t815, .slice Ao21 t816.length co21] 25 (0, 0)) (y0 BK820.out) k_ hn_))⟩)) (below_size (y4 HB.out GE813.out GE814.out GE820.out))); replace HO808 := Aside0.mk (Kd.R_below (y12 HO808.out) hb); replace HO818 := Aside0.mk (Kd.N_elder' (y3 HO818.out) (Kd.N_base ho0) hb); replace BK813 := zbb BK813 hb; replace BK814 := zbb BK814 hb; replace BK820 := zbb BK820 hb; replace HB := Aside0.mk (below_step (y4 HB.out GE813.out GE814.out GE820.out) hb); (try clear hb); (try clear hb2); (try clear hk); (try clear hi); (try clear ho0)) | ((with_reducible refine gate_dst (N := 8) rfl ?_); refine zbx 8 #[.int .i64 0, .slice none 0 0] 25 ?_; intro gb826 hg w26 hbox hb; replace HO805 := Aside0.mk (Kd.N_below (Kd.N_elderB (y3 HO805.out) gb826 (Nat.le_of_eq hg.symm)) hb); replace HO808 := Aside0.mk (Kd.R_below (y12 HO808.out) hb); replace HO812 := Aside0.mk (Kd.N_below (Kd.N_elderB (y3 HO812.out) gb826 (Nat.le_of_eq hg.symm)) hb); replace HO818 := Aside0.mk (Kd.N_below (Kd.N_elderB (y3 HO818.out) gb826 (Nat.le_of_eq hg.symm)) hb); replace HO824 := Aside0.mk (Kd.N_below (Kd.N_elderB (y3 HO824.out) gb826 (Nat.le_of_eq hg.symm)) hb); have BK826 := Aside0.mk hbox; have GW826 := Aside0.mk ((y22 hg HB.out GE813.out GE814.out GE820.out : w.heap.size ≤ gb826)); have GE826 := Aside0.mk ((y22 hg HB.out GE813.out GE814.out GE820.out : w.heap.size ≤ gb826)); replace HB := Aside0.mk (below_step (y4 HB.out GE813.out GE814.out GE820.out) hb); have NB813_826 := zltn hg BK813; have NB826_813 := zgtn hg BK813; replace BK813 := zbb BK813 hb; have NB814_826 := zltn hg BK814; have NB826_814 := zgtn hg BK814; replace BK814 := zbb BK814 hb; have NB820_826 := zltn hg BK820; have NB826_820 := zgtn hg BK820; replace BK820 := zbb BK820 hb; clear hb hbox hg; have hnb27 := NB826_813.out; have hnc27 := NB813_826.out; have hnb28 := NB826_814.out; have hnc28 := NB814_826.out; have hnb29 := NB826_820.out; have hnc29 := NB820_826.out; have hcz30_0 := zh BK826; have hcz30_1 := zh1 BK826; have hfz30_0 := zfr BK826 0; have hfz30_1 := zfr BK826 1; obtain ⟨Ao31, co31, eo31⟩ := Kd.N_slice HO824.out; subst eo31))
  (try simp only [Act.put, List.setIfInBounds_toArray, List.set_cons_zero, List.set_cons_succ])
  go_cut [47] (fun v47 wc => ∃ (kq : Nat) (x47_5 : Bool), v47 = .bool x47_5 ∧ Aside0 (laws_FnValPut.j0 kq t806 t819 t825 x47_5 t809 t810 t815 t816 t821 t822 = some r) ∧ Aside0 (kq ≤ k) ∧ Aside0 (Kd.R (Kd.int .i64) 3 wc w.heap.size (fun _ => True) (.slice Ao15 t806.length co15) t806) ∧ Aside0 (Kd.N k25 25 wc w.heap.size (fun k_ => some k_ ≠ ((.slice Ao15 t806.length co15) : Value).ownBlock ∧ some k_ ≠ ((.slice Ao14 t810.length co14) : Value).ownBlock ∧ some k_ ≠ ((.slice Ao21 t816.length co21) : Value).ownBlock ∧ some k_ ≠ ((.slice Ao31 t822.length co31) : Value).ownBlock ∧ k_ ≠ gb813 ∧ k_ ≠ gb814 ∧ k_ ≠ gb820 ∧ k_ ≠ gb826) (.slice Ao12 t803.length co12) t803) ∧ Aside0 (Kd.N k25 25 wc w.heap.size (fun k_ => some k_ ≠ ((.slice Ao15 t806.length co15) : Value).ownBlock ∧ some k_ ≠ ((.slice Ao12 t803.length co12) : Value).ownBlock ∧ some k_ ≠ ((.slice Ao21 t816.length co21) : Value).ownBlock ∧ some k_ ≠ ((.slice Ao31 t822.length co31) : Value).ownBlock ∧ k_ ≠ gb813 ∧ k_ ≠ gb814 ∧ k_ ≠ gb820 ∧ k_ ≠ gb826) (.slice Ao14 t810.length co14) t810) ∧ Aside0 (Kd.N k25 25 wc w.heap.size (fun k_ => some k_ ≠ ((.slice Ao15 t806.length co15) : Value).ownBlock ∧ some k_ ≠ ((.slice Ao12 t803.length co12) : Value).ownBlock ∧ some k_ ≠ ((.slice Ao14 t810.length co14) : Value).ownBlock ∧ some k_ ≠ ((.slice Ao31 t822.length co31) : Value).ownBlock ∧ k_ ≠ gb813 ∧ k_ ≠ gb814 ∧ k_ ≠ gb820 ∧ k_ ≠ gb826) (.slice Ao21 t816.length co21) t816) ∧ Aside0 (Kd.N k25 25 wc w.heap.size (fun k_ => some k_ ≠ ((.slice Ao15 t806.length co15) : Value).ownBlock ∧ some k_ ≠ ((.slice Ao21 t816.length co21) : Value).ownBlock ∧ k_ ≠ gb813 ∧ k_ ≠ gb814 ∧ k_ ≠ gb820 ∧ k_ ≠ gb826) (.slice Ao31 t822.length co31) t822) ∧ Aside0 (wc.heap[gb813]? = some (.cells #[.int .i64 t802, (.slice Ao12 t803.length co12)] 25 (0, 0))) ∧ Aside0 (wc.heap[gb814]? = some (.cells #[.int .i64 t809, (.slice Ao14 t810.length co14)] 25 (0, 0))) ∧ Aside0 (wc.heap[gb820]? = some (.cells #[.int .i64 t815, (.slice Ao21 t816.length co21)] 25 (0, 0))) ∧ Aside0 (wc.heap[gb826]? = some (.cells #[.int .i64 t821, (.slice Ao31 t822.length co31)] 25 (0, 0))) ∧ Aside0 (Below w.heap.size w wc))
  case first =>
   have H := HC6.out
   clear HC6
   by_cases c32 : (t825 != t819) = true
   ·rw [if_pos c32] at H
    have c32b0 : (t825 != t819) = true := c32
    (try (have c32b1 : decide (t825 = t819) = false := by simpa using c32))
    (try (have c32b2 : (t825 == t819) = false := by simpa using c32))
    (try (have c32b3 : ¬ (t825 = t819) := by simpa using c32))
    clear c32
    (first | rw [c32b0] | (simp only [i64_w, i32_w]; rw [c32b0]) | skip)
    have H' := Aside0.mk H
    clear H
    go_wp2
    go_meet
    case rel => exact ⟨_, (true), y34, H', ⟨y46⟩, ⟨(by (with_reducible repeat (first | apply Kd.R_alloc | apply Kd.R_drewN | apply Kd.R_drew)); exact Kd.R_mono (Kd.R_far (p := ⟨gb826, 1, none⟩) (Kd.R_far (p := ⟨gb826, 0, none⟩) (Kd.R_types HO808.out BK826.out (by decide)) (fun _ hk => hk.2) (.int .i64 t821)) (fun _ hk => hk.2) (.slice Ao31 t822.length co31)) (fun _ hk => trivial))⟩, ⟨(by (with_reducible repeat (first | apply Kd.N_alloc | apply Kd.N_drewN | apply Kd.N_drew)); exact Kd.N_mono (Kd.N_far (p := ⟨gb826, 1, none⟩) (Kd.N_far (p := ⟨gb826, 0, none⟩) (Kd.N_mono HO805.out (fun k_ hk => (⟨hk, hk.2⟩ : _ ∧ k_ ≠ gb826))) (fun _ hk => hk.2) (.int .i64 t821)) (fun _ hk => hk.2) (.slice Ao31 t822.length co31)) (fun _ hk => ⟨hk.1.1.1.1, ⟨hk.1.1.1.2.1, ⟨hk.1.1.1.2.2.1, ⟨hk.1.1.2, ⟨hk.1.1.1.2.2.2.1, ⟨hk.1.1.1.2.2.2.2.1, ⟨hk.1.1.1.2.2.2.2.2, hk.1.2⟩⟩⟩⟩⟩⟩⟩))⟩, ⟨(by (with_reducible repeat (first | apply Kd.N_alloc | apply Kd.N_drewN | apply Kd.N_drew)); exact Kd.N_mono (Kd.N_far (p := ⟨gb826, 1, none⟩) (Kd.N_far (p := ⟨gb826, 0, none⟩) (Kd.N_mono HO812.out (fun k_ hk => (⟨hk, hk.2⟩ : _ ∧ k_ ≠ gb826))) (fun _ hk => hk.2) (.int .i64 t821)) (fun _ hk => hk.2) (.slice Ao31 t822.length co31)) (fun _ hk => ⟨hk.1.1.1.2.1, ⟨hk.1.1.1.1, ⟨hk.1.1.1.2.2.1, ⟨hk.1.1.2, ⟨hk.1.1.1.2.2.2.1, ⟨hk.1.1.1.2.2.2.2.1, ⟨hk.1.1.1.2.2.2.2.2, hk.1.2⟩⟩⟩⟩⟩⟩⟩))⟩, ⟨(by (with_reducible repeat (first | apply Kd.N_alloc | apply Kd.N_drewN | apply Kd.N_drew)); exact Kd.N_mono (Kd.N_far (p := ⟨gb826, 1, none⟩) (Kd.N_far (p := ⟨gb826, 0, none⟩) (Kd.N_mono HO818.out (fun k_ hk => (⟨hk, hk.2⟩ : _ ∧ k_ ≠ gb826))) (fun _ hk => hk.2) (.int .i64 t821)) (fun _ hk => hk.2) (.slice Ao31 t822.length co31)) (fun _ hk => ⟨hk.1.1.1.2.1, ⟨hk.1.1.1.1, ⟨hk.1.1.1.2.2.1, ⟨hk.1.1.2, ⟨hk.1.1.1.2.2.2.1, ⟨hk.1.1.1.2.2.2.2.1, ⟨hk.1.1.1.2.2.2.2.2, hk.1.2⟩⟩⟩⟩⟩⟩⟩))⟩, ⟨(by (with_reducible repeat (first | apply Kd.N_alloc | apply Kd.N_drewN | apply Kd.N_drew)); exact Kd.N_mono (Kd.N_far (p := ⟨gb826, 1, none⟩) (Kd.N_far (p := ⟨gb826, 0, none⟩) (Kd.N_mono HO824.out (fun k_ hk => (⟨hk, hk.2⟩ : _ ∧ k_ ≠ gb826))) (fun _ hk => hk.2) (.int .i64 t821)) (fun _ hk => hk.2) (.slice Ao31 t822.length co31)) (fun _ hk => ⟨hk.1.1.1, ⟨hk.1.1.2.1, ⟨hk.1.1.2.2.1, ⟨hk.1.1.2.2.2.1, ⟨hk.1.1.2.2.2.2, hk.1.2⟩⟩⟩⟩⟩))⟩, ⟨(y1 NB813_826.out BK813.out)⟩, ⟨(y1 NB814_826.out BK814.out)⟩, ⟨(y1 NB820_826.out BK820.out)⟩, ⟨(by (with_reducible repeat (first | refine blk_drewN ?_ _ | refine blk_drew ?_ | refine blk_alloc ?_ _)); refine blk_put (cs := #[.int .i64 t821, .slice none 0 0]) ?_ 1 _ rfl; (with_reducible repeat (first | refine blk_drewN ?_ _ | refine blk_drew ?_ | refine blk_alloc ?_ _)); refine blk_put (cs := #[.int .i64 0, .slice none 0 0]) ?_ 0 _ rfl; (with_reducible repeat (first | refine blk_drewN ?_ _ | refine blk_drew ?_ | refine blk_alloc ?_ _)); exact BK826.out)⟩, ⟨(y7 HB.out GE813.out GE814.out GE820.out GE826.out)⟩⟩
   ·rw [if_neg c32] at H
    have c32b0 : (t825 != t819) = false := by simpa using c32
    (try (have c32b1 : decide (t825 = t819) = true := by simpa using c32))
    (try (have c32b2 : (t825 == t819) = true := by simpa using c32))
    clear c32
    (first | rw [c32b0] | (simp only [i64_w, i32_w]; rw [c32b0]) | skip)
    obtain ⟨t827, A330, H⟩ := ob H
    have A33 := Aside0.mk A330
    clear A330
    by_cases c34 : t827 = true
    ·subst c34
     rw [if_pos rfl] at H
     have H' := Aside0.mk H
     clear H
     have hnb35 := NB826_813.out
     have hnc35 := NB813_826.out
     have hnb36 := NB826_814.out
     have hnc36 := NB814_826.out
     have hnb37 := NB826_820.out
     have hnc37 := NB820_826.out
     have hcz38_0 := zh BK826
     have hcz38_1 := zh1 BK826
     have hfz38_0 := zfr BK826 0
     have hfz38_1 := zfr BK826 1
     have hnb39 := NB820_813.out
     have hnc39 := NB813_820.out
     have hnb40 := NB820_814.out
     have hnc40 := NB814_820.out
     have hcz41_0 := zh BK820
     have hcz41_1 := zh1 BK820
     have hfz41_0 := zfr BK820 0
     have hfz41_1 := zfr BK820 1
     go_wp2_with (first | (go_at_call 15; (with_reducible refine (laws_lhVal.calls k t821 _ _ t822 t815 _ _ t816 true _ ?side1 ?side2 ?side3 ?side4 A33.out).mono ?_); (case side1 => refine (Kd.N_reads' (e := 25) (base := w.heap.size) (ok := fun k_ => ((some k_ ≠ (.slice Ao15 t806.length co15 : Value).ownBlock ∧ (some k_ ≠ (.slice Ao21 t816.length co21 : Value).ownBlock ∧ (k_ ≠ gb813 ∧ (k_ ≠ gb814 ∧ k_ ≠ gb820)))) ∧ k_ ≠ gb826)) (n := t822.length) (c := co31) ?_).2.2; exact (by (with_reducible repeat (first | apply Kd.N_alloc | apply Kd.N_drewN | apply Kd.N_drew)); exact (Kd.N_mono (Kd.N_far (p := ⟨gb826, 1, none⟩) (Kd.N_far (p := ⟨gb826, 0, none⟩) (Kd.N_mono HO824.out (fun k_ hk => (⟨hk, hk.2⟩ : _ ∧ k_ ≠ gb826))) (fun _ hk => hk.2) (.int .i64 t821)) (fun _ hk => hk.2) (.slice Ao31 t822.length co31)) (fun _ h_ => h_.1)))); (case side2 => exact (Kd.N_reads' HO824.out).2.1); (case side3 => refine (Kd.N_reads' (e := 25) (base := w.heap.size) (ok := fun k_ => (((some k_ ≠ (.slice Ao12 t803.length co12 : Value).ownBlock ∧ (some k_ ≠ (.slice Ao15 t806.length co15 : Value).ownBlock ∧ (some k_ ≠ (.slice Ao14 t810.length co14 : Value).ownBlock ∧ (k_ ≠ gb813 ∧ (k_ ≠ gb814 ∧ k_ ≠ gb820))))) ∧ some k_ ≠ (.slice Ao31 t822.length co31 : Value).ownBlock) ∧ k_ ≠ gb826)) (n := t816.length) (c := co21) ?_).2.2; exact (by (with_reducible repeat (first | apply Kd.N_alloc | apply Kd.N_drewN | apply Kd.N_drew)); exact (Kd.N_mono (Kd.N_far (p := ⟨gb826, 1, none⟩) (Kd.N_far (p := ⟨gb826, 0, none⟩) (Kd.N_mono HO818.out (fun k_ hk => (⟨hk, hk.2⟩ : _ ∧ k_ ≠ gb826))) (fun _ hk => hk.2) (.int .i64 t821)) (fun _ hk => hk.2) (.slice Ao31 t822.length co31)) (fun _ h_ => h_.1)))); (case side4 => exact (Kd.N_reads' HO818.out).2.1); rintro e w42 ⟨rfl, hb⟩; replace HO805 := Aside0.mk (Kd.N_below (by (with_reducible repeat (first | apply Kd.N_alloc | apply Kd.N_drewN | apply Kd.N_drew)); exact (Kd.N_mono (Kd.N_far (p := ⟨gb826, 1, none⟩) (Kd.N_far (p := ⟨gb826, 0, none⟩) (Kd.N_mono HO805.out (fun k_ hk => (⟨hk, hk.2⟩ : _ ∧ k_ ≠ gb826))) (fun _ hk => hk.2) (.int .i64 t821)) (fun _ hk => hk.2) (.slice Ao31 t822.length co31)) (fun _ h_ => h_.1))) hb); replace HO808 := Aside0.mk (Kd.R_below (by (with_reducible repeat (first | apply Kd.R_alloc | apply Kd.R_drewN | apply Kd.R_drew)); exact (Kd.R_mono (Kd.R_far (p := ⟨gb826, 1, none⟩) (Kd.R_far (p := ⟨gb826, 0, none⟩) (Kd.R_types HO808.out BK826.out (by decide)) (fun _ hk => hk.2) (.int .i64 t821)) (fun _ hk => hk.2) (.slice Ao31 t822.length co31)) (fun _ h_ => h_.1))) hb); replace HO812 := Aside0.mk (Kd.N_below (by (with_reducible repeat (first | apply Kd.N_alloc | apply Kd.N_drewN | apply Kd.N_drew)); exact (Kd.N_mono (Kd.N_far (p := ⟨gb826, 1, none⟩) (Kd.N_far (p := ⟨gb826, 0, none⟩) (Kd.N_mono HO812.out (fun k_ hk => (⟨hk, hk.2⟩ : _ ∧ k_ ≠ gb826))) (fun _ hk => hk.2) (.int .i64 t821)) (fun _ hk => hk.2) (.slice Ao31 t822.length co31)) (fun _ h_ => h_.1))) hb); replace HO818 := Aside0.mk (Kd.N_below (by (with_reducible repeat (first | apply Kd.N_alloc | apply Kd.N_drewN | apply Kd.N_drew)); exact (Kd.N_mono (Kd.N_far (p := ⟨gb826, 1, none⟩) (Kd.N_far (p := ⟨gb826, 0, none⟩) (Kd.N_mono HO818.out (fun k_ hk => (⟨hk, hk.2⟩ : _ ∧ k_ ≠ gb826))) (fun _ hk => hk.2) (.int .i64 t821)) (fun _ hk => hk.2) (.slice Ao31 t822.length co31)) (fun _ h_ => h_.1))) hb); replace HO824 := Aside0.mk (Kd.N_below (by (with_reducible repeat (first | apply Kd.N_alloc | apply Kd.N_drewN | apply Kd.N_drew)); exact (Kd.N_mono (Kd.N_far (p := ⟨gb826, 1, none⟩) (Kd.N_far (p := ⟨gb826, 0, none⟩) (Kd.N_mono HO824.out (fun k_ hk => (⟨hk, hk.2⟩ : _ ∧ k_ ≠ gb826))) (fun _ hk => hk.2) (.int .i64 t821)) (fun _ hk => hk.2) (.slice Ao31 t822.length co31)) (fun _ h_ => h_.1))) hb); replace BK813 := Aside0.mk (blk_below (g := gb813) (o := .cells #[.int .i64 t802, .slice Ao12 t803.length co12] 25 (0, 0)) (y1 NB813_826.out BK813.out) hb); replace BK814 := Aside0.mk (blk_below (g := gb814) (o := .cells #[.int .i64 t809, .slice Ao14 t810.length co14] 25 (0, 0)) (y1 NB814_826.out BK814.out) hb); replace BK820 := Aside0.mk (blk_below (g := gb820) (o := .cells #[.int .i64 t815, .slice Ao21 t816.length co21] 25 (0, 0)) (y1 NB820_826.out BK820.out) hb); replace BK826 := Aside0.mk (blk_below (g := gb826) (o := .cells #[.int .i64 t821, .slice Ao31 t822.length co31] 25 (0, 0)) (by (with_reducible repeat (first | refine blk_drewN ?_ _ | refine blk_drew ?_ | refine blk_alloc ?_ _)); refine blk_put (cs := #[.int .i64 t821, .slice none 0 0]) ?_ 1 _ rfl; (with_reducible repeat (first | refine blk_drewN ?_ _ | refine blk_drew ?_ | refine blk_alloc ?_ _)); apply blk_put (i := 0); (case h => exact y0 BK826.out); (case e => rfl)) hb); replace HB := Aside0.mk (below_step (y7 HB.out GE813.out GE814.out GE820.out GE826.out) hb); (try clear hb); (try clear hb2); (try clear hk); (try clear hi)))
     go_meet
     case rel => exact ⟨_, (!t825), y34, H', ⟨y46⟩, ⟨(y12 HO808.out)⟩, ⟨(y52 HO805.out)⟩, ⟨(y42 HO812.out)⟩, ⟨(y42 HO818.out)⟩, ⟨(y59 HO824.out)⟩, ⟨(y0 BK813.out)⟩, ⟨(y0 BK814.out)⟩, ⟨(y0 BK820.out)⟩, ⟨(y0 BK826.out)⟩, ⟨(y7 HB.out GE813.out GE814.out GE820.out GE826.out)⟩⟩
    ·replace c34 := Bool.eq_false_iff.mpr c34
     subst c34
     rw [if_neg (show ¬ (false = true) by decide)] at H
     have H' := Aside0.mk H
     clear H
     have hnb43 := NB826_813.out
     have hnc43 := NB813_826.out
     have hnb44 := NB826_814.out
     have hnc44 := NB814_826.out
     have hnb45 := NB826_820.out
     have hnc45 := NB820_826.out
     have hcz46_0 := zh BK826
     have hcz46_1 := zh1 BK826
     have hfz46_0 := zfr BK826 0
     have hfz46_1 := zfr BK826 1
     have hnb47 := NB820_813.out
     have hnc47 := NB813_820.out
     have hnb48 := NB820_814.out
     have hnc48 := NB814_820.out
     have hcz49_0 := zh BK820
     have hcz49_1 := zh1 BK820
     have hfz49_0 := zfr BK820 0
     have hfz49_1 := zfr BK820 1
     go_wp2_with (first | (go_at_call 15; (with_reducible refine (laws_lhVal.calls k t821 _ _ t822 t815 _ _ t816 false _ ?side1 ?side2 ?side3 ?side4 A33.out).mono ?_); (case side1 => refine (Kd.N_reads' (e := 25) (base := w.heap.size) (ok := fun k_ => ((some k_ ≠ (.slice Ao15 t806.length co15 : Value).ownBlock ∧ (some k_ ≠ (.slice Ao21 t816.length co21 : Value).ownBlock ∧ (k_ ≠ gb813 ∧ (k_ ≠ gb814 ∧ k_ ≠ gb820)))) ∧ k_ ≠ gb826)) (n := t822.length) (c := co31) ?_).2.2; exact (by (with_reducible repeat (first | apply Kd.N_alloc | apply Kd.N_drewN | apply Kd.N_drew)); exact (Kd.N_mono (Kd.N_far (p := ⟨gb826, 1, none⟩) (Kd.N_far (p := ⟨gb826, 0, none⟩) (Kd.N_mono HO824.out (fun k_ hk => (⟨hk, hk.2⟩ : _ ∧ k_ ≠ gb826))) (fun _ hk => hk.2) (.int .i64 t821)) (fun _ hk => hk.2) (.slice Ao31 t822.length co31)) (fun _ h_ => h_.1)))); (case side2 => exact (Kd.N_reads' HO824.out).2.1); (case side3 => refine (Kd.N_reads' (e := 25) (base := w.heap.size) (ok := fun k_ => (((some k_ ≠ (.slice Ao12 t803.length co12 : Value).ownBlock ∧ (some k_ ≠ (.slice Ao15 t806.length co15 : Value).ownBlock ∧ (some k_ ≠ (.slice Ao14 t810.length co14 : Value).ownBlock ∧ (k_ ≠ gb813 ∧ (k_ ≠ gb814 ∧ k_ ≠ gb820))))) ∧ some k_ ≠ (.slice Ao31 t822.length co31 : Value).ownBlock) ∧ k_ ≠ gb826)) (n := t816.length) (c := co21) ?_).2.2; exact (by (with_reducible repeat (first | apply Kd.N_alloc | apply Kd.N_drewN | apply Kd.N_drew)); exact (Kd.N_mono (Kd.N_far (p := ⟨gb826, 1, none⟩) (Kd.N_far (p := ⟨gb826, 0, none⟩) (Kd.N_mono HO818.out (fun k_ hk => (⟨hk, hk.2⟩ : _ ∧ k_ ≠ gb826))) (fun _ hk => hk.2) (.int .i64 t821)) (fun _ hk => hk.2) (.slice Ao31 t822.length co31)) (fun _ h_ => h_.1)))); (case side4 => exact (Kd.N_reads' HO818.out).2.1); rintro e w50 ⟨rfl, hb⟩; replace HO805 := Aside0.mk (Kd.N_below (by (with_reducible repeat (first | apply Kd.N_alloc | apply Kd.N_drewN | apply Kd.N_drew)); exact (Kd.N_mono (Kd.N_far (p := ⟨gb826, 1, none⟩) (Kd.N_far (p := ⟨gb826, 0, none⟩) (Kd.N_mono HO805.out (fun k_ hk => (⟨hk, hk.2⟩ : _ ∧ k_ ≠ gb826))) (fun _ hk => hk.2) (.int .i64 t821)) (fun _ hk => hk.2) (.slice Ao31 t822.length co31)) (fun _ h_ => h_.1))) hb); replace HO808 := Aside0.mk (Kd.R_below (by (with_reducible repeat (first | apply Kd.R_alloc | apply Kd.R_drewN | apply Kd.R_drew)); exact (Kd.R_mono (Kd.R_far (p := ⟨gb826, 1, none⟩) (Kd.R_far (p := ⟨gb826, 0, none⟩) (Kd.R_types HO808.out BK826.out (by decide)) (fun _ hk => hk.2) (.int .i64 t821)) (fun _ hk => hk.2) (.slice Ao31 t822.length co31)) (fun _ h_ => h_.1))) hb); replace HO812 := Aside0.mk (Kd.N_below (by (with_reducible repeat (first | apply Kd.N_alloc | apply Kd.N_drewN | apply Kd.N_drew)); exact (Kd.N_mono (Kd.N_far (p := ⟨gb826, 1, none⟩) (Kd.N_far (p := ⟨gb826, 0, none⟩) (Kd.N_mono HO812.out (fun k_ hk => (⟨hk, hk.2⟩ : _ ∧ k_ ≠ gb826))) (fun _ hk => hk.2) (.int .i64 t821)) (fun _ hk => hk.2) (.slice Ao31 t822.length co31)) (fun _ h_ => h_.1))) hb); replace HO818 := Aside0.mk (Kd.N_below (by (with_reducible repeat (first | apply Kd.N_alloc | apply Kd.N_drewN | apply Kd.N_drew)); exact (Kd.N_mono (Kd.N_far (p := ⟨gb826, 1, none⟩) (Kd.N_far (p := ⟨gb826, 0, none⟩) (Kd.N_mono HO818.out (fun k_ hk => (⟨hk, hk.2⟩ : _ ∧ k_ ≠ gb826))) (fun _ hk => hk.2) (.int .i64 t821)) (fun _ hk => hk.2) (.slice Ao31 t822.length co31)) (fun _ h_ => h_.1))) hb); replace HO824 := Aside0.mk (Kd.N_below (by (with_reducible repeat (first | apply Kd.N_alloc | apply Kd.N_drewN | apply Kd.N_drew)); exact (Kd.N_mono (Kd.N_far (p := ⟨gb826, 1, none⟩) (Kd.N_far (p := ⟨gb826, 0, none⟩) (Kd.N_mono HO824.out (fun k_ hk => (⟨hk, hk.2⟩ : _ ∧ k_ ≠ gb826))) (fun _ hk => hk.2) (.int .i64 t821)) (fun _ hk => hk.2) (.slice Ao31 t822.length co31)) (fun _ h_ => h_.1))) hb); replace BK813 := Aside0.mk (blk_below (g := gb813) (o := .cells #[.int .i64 t802, .slice Ao12 t803.length co12] 25 (0, 0)) (y1 NB813_826.out BK813.out) hb); replace BK814 := Aside0.mk (blk_below (g := gb814) (o := .cells #[.int .i64 t809, .slice Ao14 t810.length co14] 25 (0, 0)) (y1 NB814_826.out BK814.out) hb); replace BK820 := Aside0.mk (blk_below (g := gb820) (o := .cells #[.int .i64 t815, .slice Ao21 t816.length co21] 25 (0, 0)) (y1 NB820_826.out BK820.out) hb); replace BK826 := Aside0.mk (blk_below (g := gb826) (o := .cells #[.int .i64 t821, .slice Ao31 t822.length co31] 25 (0, 0)) (by (with_reducible repeat (first | refine blk_drewN ?_ _ | refine blk_drew ?_ | refine blk_alloc ?_ _)); refine blk_put (cs := #[.int .i64 t821, .slice none 0 0]) ?_ 1 _ rfl; (with_reducible repeat (first | refine blk_drewN ?_ _ | refine blk_drew ?_ | refine blk_alloc ?_ _)); apply blk_put (i := 0); (case h => exact y0 BK826.out); (case e => rfl)) hb); replace HB := Aside0.mk (below_step (y7 HB.out GE813.out GE814.out GE820.out GE826.out) hb); (try clear hb); (try clear hb2); (try clear hk); (try clear hi)))
     go_meet
     case rel => exact ⟨_, (true), y34, H', ⟨y46⟩, ⟨(y12 HO808.out)⟩, ⟨(y52 HO805.out)⟩, ⟨(y42 HO812.out)⟩, ⟨(y42 HO818.out)⟩, ⟨(y59 HO824.out)⟩, ⟨(y0 BK813.out)⟩, ⟨(y0 BK814.out)⟩, ⟨(y0 BK820.out)⟩, ⟨(y0 BK826.out)⟩, ⟨(y7 HB.out GE813.out GE814.out GE820.out GE826.out)⟩⟩
  case rest =>
   clear HC6
   try clear c1
   try clear c2
   try clear c2b0
   try clear c2b1
   try clear p2
   try clear c3
   try clear c4
   try clear c8
   try clear c10
   try clear c18
   try clear c19
   try clear c24
   try clear c25
   try clear c26
   try clear c27
   try clear c28
   try clear c29
   try clear c32
   try clear c32b0
   try clear c32b1
   try clear c32b2
   try clear c34
   try clear c35
   try clear c36
   try clear c37
   try clear c39
   try clear c40
   try clear c43
   try clear c44
   try clear c45
   try clear c47
   try clear c48
   try clear hcz11_0
   try clear hcz11_1
   try clear hcz13_0
   try clear hcz13_1
   try clear hcz20_0
   try clear hcz20_1
   try clear hcz23_0
   try clear hcz23_1
   try clear hcz24_0
   try clear hcz24_1
   try clear hcz30_0
   try clear hcz30_1
   try clear hcz38_0
   try clear hcz38_1
   try clear hcz41_0
   try clear hcz41_1
   try clear hcz46_0
   try clear hcz46_1
   try clear hcz49_0
   try clear hcz49_1
   try clear hfz11_0
   try clear hfz11_1
   try clear hfz13_0
   try clear hfz13_1
   try clear hfz20_0
   try clear hfz20_1
   try clear hfz23_0
   try clear hfz23_1
   try clear hfz24_0
   try clear hfz24_1
   try clear hfz30_0
   try clear hfz30_1
   try clear hfz38_0
   try clear hfz38_1
   try clear hfz41_0
   try clear hfz41_1
   try clear hfz46_0
   try clear hfz46_1
   try clear hfz49_0
   try clear hfz49_1
   obtain ⟨kq, x47_5, rfl, HA, HJ5, HO_4, HO_814001, HO_815001, HO_821001, HO_827001, BK813, BK814, BK820, BK826, HB⟩ := hcut
   cases kq with
   | zero => exact absurd HA.out (by simp [laws_FnValPut.j0])
   | succ kj5 =>
    have H := HA.out
    clear HA
    simp only [laws_FnValPut.j0] at H
    by_cases c51 : x47_5 = true
    ·subst c51
     rw [if_pos rfl] at H
     by_cases c52 : (t825 == t819) = true
     ·rw [if_pos c52] at H
      have c52b0 : (t825 == t819) = true := c52
      (try (have c52b1 : decide (t825 = t819) = true := by simpa using c52))
      (try (have c52b2 : (t825 == t819) = true := by simpa using c52))
      clear c52
      obtain ⟨t828, A530, H⟩ := ob H
      have A53 := Aside0.mk A530
      clear A530
      clear hr_
      obtain rfl := Option.some.inj H
      have hnb54 := NB826_813.out
      have hnc54 := NB813_826.out
      have hnb55 := NB826_814.out
      have hnc55 := NB814_826.out
      have hnb56 := NB826_820.out
      have hnc56 := NB820_826.out
      have hcz57_0 := zh BK826
      have hcz57_1 := zh1 BK826
      have hfz57_0 := zfr BK826 0
      have hfz57_1 := zfr BK826 1
      have hnb58 := NB820_813.out
      have hnc58 := NB813_820.out
      have hnb59 := NB820_814.out
      have hnc59 := NB814_820.out
      have hcz60_0 := zh BK820
      have hcz60_1 := zh1 BK820
      have hfz60_0 := zfr BK820 0
      have hfz60_1 := zfr BK820 1
      go_wp2_with (first | (go_at_call 15; (with_reducible refine (laws_lhVal.calls kj5 t821 _ _ t822 t815 _ _ t816 t828 _ ?side1 ?side2 ?side3 ?side4 A53.out).mono ?_); (case side1 => exact y38 HO_827001.out); (case side2 => exact (Kd.N_reads' HO_827001.out).2.1); (case side3 => exact y38 HO_821001.out); (case side4 => exact (Kd.N_reads' HO_821001.out).2.1); rintro e w61 ⟨rfl, hb⟩; replace HO_4 := Aside0.mk (Kd.R_below (y12 HO_4.out) hb); replace HO_814001 := Aside0.mk (Kd.N_below (y3 HO_814001.out) hb); replace HO_815001 := Aside0.mk (Kd.N_below (y3 HO_815001.out) hb); replace HO_821001 := Aside0.mk (Kd.N_below (y3 HO_821001.out) hb); replace HO_827001 := Aside0.mk (Kd.N_below (y3 HO_827001.out) hb); replace BK813 := zbb BK813 hb; replace BK814 := zbb BK814 hb; replace BK820 := zbb BK820 hb; replace BK826 := zbb BK826 hb; replace HB := Aside0.mk (below_step (y7 HB.out GE813.out GE814.out GE820.out GE826.out) hb); (try clear hb); (try clear hb2); (try clear hk); (try clear hi)))
      go_ret
      exact ⟨y19, (y7 HB.out GE813.out GE814.out GE820.out GE826.out)⟩
     ·rw [if_neg c52] at H
      have c52b0 : (t825 == t819) = false := by simpa using c52
      (try (have c52b1 : decide (t825 = t819) = false := by simpa using c52))
      (try (have c52b2 : (t825 == t819) = false := by simpa using c52))
      (try (have c52b3 : ¬ (t825 = t819) := by simpa using c52))
      clear c52
      exact absurd ((Option.some.inj H).trans hr_.out) (by decide)
    ·replace c51 := Bool.eq_false_iff.mpr c51
     subst c51
     rw [if_neg (show ¬ (false = true) by decide)] at H
     obtain ⟨⟨t829, t830, t833⟩, A620, H⟩ := ob H
     have A62 := Aside0.mk A620
     clear A620
     by_cases c63 : t833 = true
     ·subst c63
      rw [if_pos rfl] at H
      obtain ⟨t835, A640, H⟩ := ob H
      have A64 := Aside0.mk A640
      clear A640
      clear hr_
      obtain rfl := Option.some.inj H
      have hnb65 := NB826_813.out
      have hnc65 := NB813_826.out
      have hnb66 := NB826_814.out
      have hnc66 := NB814_826.out
      have hnb67 := NB826_820.out
      have hnc67 := NB820_826.out
      have hcz68_0 := zh BK826
      have hcz68_1 := zh1 BK826
      have hfz68_0 := zfr BK826 0
      have hfz68_1 := zfr BK826 1
      go_wp2_with (first | ((with_reducible refine gate_callee (f := 14) rfl ?_); refine goesL_ (some 59) rfl rfl Try.func14 (by kernel_rfl) rfl #[.agg #[.int .i64 t821, .slice Ao31 t822.length co31], .slice Ao15 t806.length co15] rfl y8 ?_; (with_reducible refine (impl_ValAt.calls kj5 t821 (fun k_ => (some k_ ≠ (.slice Ao15 t806.length co15 : Value).ownBlock ∧ (some k_ ≠ (.slice Ao21 t816.length co21 : Value).ownBlock ∧ (k_ ≠ gb813 ∧ (k_ ≠ gb814 ∧ (k_ ≠ gb820 ∧ k_ ≠ gb826)))))) _ _ t822 _ _ t806 t829 t830 true _ ?side1 ?side2 ?side3 A62.out).mono ?_); (case side1 => exact Kd.N_V (HO_827001.out)); (case side2 => exact y39 HO_4.out); (case side3 => exact (Kd.R_reads' HO_4.out).2.1); rintro e w69 ⟨v831, rfl, ho0, hb⟩; refine ⟨_, rfl, ?_⟩; replace HO_814001 := Aside0.mk (Kd.N_elder' (y3 HO_814001.out) (Kd.N_base ho0) hb); replace HO_815001 := Aside0.mk (Kd.N_elder' (y3 HO_815001.out) (Kd.N_base ho0) hb); replace HO_827001 := Aside0.mk (Kd.N_elder' (y3 HO_827001.out) (Kd.N_base ho0) hb); have HO832 := Aside0.mk (Kd.N_lower (Kd.N_mono (ok' := fun k_ => some k_ ≠ (.slice Ao15 t806.length co15 : Value).ownBlock ∧ some k_ ≠ (.slice Ao21 t816.length co21 : Value).ownBlock ∧ k_ ≠ gb813 ∧ k_ ≠ gb814 ∧ k_ ≠ gb820 ∧ k_ ≠ gb826) ho0 (fun k_ hk_ => ⟨Or.elim hk_ (fun hs_ => hs_.1) (fun hn_ => (Kd.fresh' (Kd.R_lt (y12 HO_4.out)) k_ hn_)), Or.elim hk_ (fun hs_ => hs_.2.1) (fun hn_ => (Kd.fresh' (Kd.N_lt (y3 HO_821001.out)) k_ hn_)), Or.elim hk_ (fun hs_ => hs_.2.2.1) (fun hn_ => (Kd.freshB (g := gb813) (o := .cells #[.int .i64 t802, .slice Ao12 t803.length co12] 25 (0, 0)) (y0 BK813.out) k_ hn_)), Or.elim hk_ (fun hs_ => hs_.2.2.2.1) (fun hn_ => (Kd.freshB (g := gb814) (o := .cells #[.int .i64 t809, .slice Ao14 t810.length co14] 25 (0, 0)) (y0 BK814.out) k_ hn_)), Or.elim hk_ (fun hs_ => hs_.2.2.2.2.1) (fun hn_ => (Kd.freshB (g := gb820) (o := .cells #[.int .i64 t815, .slice Ao21 t816.length co21] 25 (0, 0)) (y0 BK820.out) k_ hn_)), Or.elim hk_ (fun hs_ => hs_.2.2.2.2.2) (fun hn_ => (Kd.freshB (g := gb826) (o := .cells #[.int .i64 t821, .slice Ao31 t822.length co31] 25 (0, 0)) (y0 BK826.out) k_ hn_))⟩)) (below_size (y7 HB.out GE813.out GE814.out GE820.out GE826.out))); replace HO_4 := Aside0.mk (Kd.R_below (y12 HO_4.out) hb); replace HO_821001 := Aside0.mk (Kd.N_elder' (y3 HO_821001.out) (Kd.N_base ho0) hb); replace BK813 := zbb BK813 hb; replace BK814 := zbb BK814 hb; replace BK820 := zbb BK820 hb; replace BK826 := zbb BK826 hb; replace HB := Aside0.mk (below_step (y7 HB.out GE813.out GE814.out GE820.out GE826.out) hb); (try clear hb); (try clear hb2); (try clear hk); (try clear hi); (try clear ho0)) | ((with_reducible refine gate_dst (N := 10) rfl ?_); refine zbx 10 #[.int .i64 0, .slice none 0 0] 25 ?_; intro gb834 hg w70 hbox hb; replace HO_4 := Aside0.mk (Kd.R_below (y12 HO_4.out) hb); replace HO_814001 := Aside0.mk (Kd.N_below (Kd.N_elderB (y3 HO_814001.out) gb834 (Nat.le_of_eq hg.symm)) hb); replace HO_815001 := Aside0.mk (Kd.N_below (Kd.N_elderB (y3 HO_815001.out) gb834 (Nat.le_of_eq hg.symm)) hb); replace HO_821001 := Aside0.mk (Kd.N_below (Kd.N_elderB (y3 HO_821001.out) gb834 (Nat.le_of_eq hg.symm)) hb); replace HO_827001 := Aside0.mk (Kd.N_below (Kd.N_elderB (y3 HO_827001.out) gb834 (Nat.le_of_eq hg.symm)) hb); replace HO832 := Aside0.mk (Kd.N_below (Kd.N_elderB (y3 HO832.out) gb834 (Nat.le_of_eq hg.symm)) hb); have BK834 := Aside0.mk hbox; have GW834 := Aside0.mk ((y27 hg HB.out GE813.out GE814.out GE820.out GE826.out : w.heap.size ≤ gb834)); have GE834 := Aside0.mk ((y27 hg HB.out GE813.out GE814.out GE820.out GE826.out : w.heap.size ≤ gb834)); replace HB := Aside0.mk (below_step (y7 HB.out GE813.out GE814.out GE820.out GE826.out) hb); have NB813_834 := zltn hg BK813; have NB834_813 := zgtn hg BK813; replace BK813 := zbb BK813 hb; have NB814_834 := zltn hg BK814; have NB834_814 := zgtn hg BK814; replace BK814 := zbb BK814 hb; have NB820_834 := zltn hg BK820; have NB834_820 := zgtn hg BK820; replace BK820 := zbb BK820 hb; have NB826_834 := zltn hg BK826; have NB834_826 := zgtn hg BK826; replace BK826 := zbb BK826 hb; clear hb hbox hg; have hnb71 := NB834_813.out; have hnc71 := NB813_834.out; have hnb72 := NB834_814.out; have hnc72 := NB814_834.out; have hnb73 := NB834_820.out; have hnc73 := NB820_834.out; have hnb74 := NB834_826.out; have hnc74 := NB826_834.out; have hcz75_0 := zh BK834; have hcz75_1 := zh1 BK834; have hfz75_0 := zfr BK834 0; have hfz75_1 := zfr BK834 1; obtain ⟨Ao76, co76, eo76⟩ := Kd.N_slice HO832.out; subst eo76; have hnb77 := NB814_813.out; have hnc77 := NB813_814.out; have hnb78 := NB814_820.out; have hnc78 := NB820_814.out; have hcz79_0 := zh BK814; have hcz79_1 := zh1 BK814; have hfz79_0 := zfr BK814 0; have hfz79_1 := zfr BK814 1) | (go_at_call 15; (with_reducible refine (laws_lhVal.calls kj5 t829 _ _ t830 t809 _ _ t810 t835 _ ?side1 ?side2 ?side3 ?side4 A64.out).mono ?_); (case side1 => refine (Kd.N_reads' (e := 25) (base := w.heap.size) (ok := fun k_ => ((some k_ ≠ (.slice Ao15 t806.length co15 : Value).ownBlock ∧ (some k_ ≠ (.slice Ao21 t816.length co21 : Value).ownBlock ∧ (k_ ≠ gb813 ∧ (k_ ≠ gb814 ∧ (k_ ≠ gb820 ∧ k_ ≠ gb826))))) ∧ k_ ≠ gb834)) (n := t830.length) (c := co76) ?_).2.2; exact (by (with_reducible repeat (first | apply Kd.N_alloc | apply Kd.N_drewN | apply Kd.N_drew)); exact (Kd.N_mono (Kd.N_far (p := ⟨gb834, 1, none⟩) (Kd.N_far (p := ⟨gb834, 0, none⟩) (Kd.N_mono HO832.out (fun k_ hk => (⟨hk, hk.2⟩ : _ ∧ k_ ≠ gb834))) (fun _ hk => hk.2) (.int .i64 t829)) (fun _ hk => hk.2) (.slice Ao76 t830.length co76)) (fun _ h_ => h_.1)))); (case side2 => exact (Kd.N_reads' HO832.out).2.1); (case side3 => refine (Kd.N_reads' (e := 25) (base := w.heap.size) (ok := fun k_ => (((some k_ ≠ (.slice Ao15 t806.length co15 : Value).ownBlock ∧ (some k_ ≠ (.slice Ao12 t803.length co12 : Value).ownBlock ∧ (some k_ ≠ (.slice Ao21 t816.length co21 : Value).ownBlock ∧ (some k_ ≠ (.slice Ao31 t822.length co31 : Value).ownBlock ∧ (k_ ≠ gb813 ∧ (k_ ≠ gb814 ∧ (k_ ≠ gb820 ∧ k_ ≠ gb826))))))) ∧ some k_ ≠ (.slice Ao76 t830.length co76 : Value).ownBlock) ∧ k_ ≠ gb834)) (n := t810.length) (c := co14) ?_).2.2; exact (by (with_reducible repeat (first | apply Kd.N_alloc | apply Kd.N_drewN | apply Kd.N_drew)); exact (Kd.N_mono (Kd.N_far (p := ⟨gb834, 1, none⟩) (Kd.N_far (p := ⟨gb834, 0, none⟩) (Kd.N_mono HO_815001.out (fun k_ hk => (⟨hk, hk.2⟩ : _ ∧ k_ ≠ gb834))) (fun _ hk => hk.2) (.int .i64 t829)) (fun _ hk => hk.2) (.slice Ao76 t830.length co76)) (fun _ h_ => h_.1)))); (case side4 => exact (Kd.N_reads' HO_815001.out).2.1); rintro e w80 ⟨rfl, hb⟩; replace HO_4 := Aside0.mk (Kd.R_below (by (with_reducible repeat (first | apply Kd.R_alloc | apply Kd.R_drewN | apply Kd.R_drew)); exact (Kd.R_mono (Kd.R_far (p := ⟨gb834, 1, none⟩) (Kd.R_far (p := ⟨gb834, 0, none⟩) (Kd.R_types HO_4.out BK834.out (by decide)) (fun _ hk => hk.2) (.int .i64 t829)) (fun _ hk => hk.2) (.slice Ao76 t830.length co76)) (fun _ h_ => h_.1))) hb); replace HO_814001 := Aside0.mk (Kd.N_below (by (with_reducible repeat (first | apply Kd.N_alloc | apply Kd.N_drewN | apply Kd.N_drew)); exact (Kd.N_mono (Kd.N_far (p := ⟨gb834, 1, none⟩) (Kd.N_far (p := ⟨gb834, 0, none⟩) (Kd.N_mono HO_814001.out (fun k_ hk => (⟨hk, hk.2⟩ : _ ∧ k_ ≠ gb834))) (fun _ hk => hk.2) (.int .i64 t829)) (fun _ hk => hk.2) (.slice Ao76 t830.length co76)) (fun _ h_ => h_.1))) hb); replace HO_815001 := Aside0.mk (Kd.N_below (by (with_reducible repeat (first | apply Kd.N_alloc | apply Kd.N_drewN | apply Kd.N_drew)); exact (Kd.N_mono (Kd.N_far (p := ⟨gb834, 1, none⟩) (Kd.N_far (p := ⟨gb834, 0, none⟩) (Kd.N_mono HO_815001.out (fun k_ hk => (⟨hk, hk.2⟩ : _ ∧ k_ ≠ gb834))) (fun _ hk => hk.2) (.int .i64 t829)) (fun _ hk => hk.2) (.slice Ao76 t830.length co76)) (fun _ h_ => h_.1))) hb); replace HO_821001 := Aside0.mk (Kd.N_below (by (with_reducible repeat (first | apply Kd.N_alloc | apply Kd.N_drewN | apply Kd.N_drew)); exact (Kd.N_mono (Kd.N_far (p := ⟨gb834, 1, none⟩) (Kd.N_far (p := ⟨gb834, 0, none⟩) (Kd.N_mono HO_821001.out (fun k_ hk => (⟨hk, hk.2⟩ : _ ∧ k_ ≠ gb834))) (fun _ hk => hk.2) (.int .i64 t829)) (fun _ hk => hk.2) (.slice Ao76 t830.length co76)) (fun _ h_ => h_.1))) hb); replace HO_827001 := Aside0.mk (Kd.N_below (by (with_reducible repeat (first | apply Kd.N_alloc | apply Kd.N_drewN | apply Kd.N_drew)); exact (Kd.N_mono (Kd.N_far (p := ⟨gb834, 1, none⟩) (Kd.N_far (p := ⟨gb834, 0, none⟩) (Kd.N_mono HO_827001.out (fun k_ hk => (⟨hk, hk.2⟩ : _ ∧ k_ ≠ gb834))) (fun _ hk => hk.2) (.int .i64 t829)) (fun _ hk => hk.2) (.slice Ao76 t830.length co76)) (fun _ h_ => h_.1))) hb); replace HO832 := Aside0.mk (Kd.N_below (by (with_reducible repeat (first | apply Kd.N_alloc | apply Kd.N_drewN | apply Kd.N_drew)); exact (Kd.N_mono (Kd.N_far (p := ⟨gb834, 1, none⟩) (Kd.N_far (p := ⟨gb834, 0, none⟩) (Kd.N_mono HO832.out (fun k_ hk => (⟨hk, hk.2⟩ : _ ∧ k_ ≠ gb834))) (fun _ hk => hk.2) (.int .i64 t829)) (fun _ hk => hk.2) (.slice Ao76 t830.length co76)) (fun _ h_ => h_.1))) hb); replace BK813 := Aside0.mk (blk_below (g := gb813) (o := .cells #[.int .i64 t802, .slice Ao12 t803.length co12] 25 (0, 0)) (y1 NB813_834.out BK813.out) hb); replace BK814 := Aside0.mk (blk_below (g := gb814) (o := .cells #[.int .i64 t809, .slice Ao14 t810.length co14] 25 (0, 0)) (y1 NB814_834.out BK814.out) hb); replace BK820 := Aside0.mk (blk_below (g := gb820) (o := .cells #[.int .i64 t815, .slice Ao21 t816.length co21] 25 (0, 0)) (y1 NB820_834.out BK820.out) hb); replace BK826 := Aside0.mk (blk_below (g := gb826) (o := .cells #[.int .i64 t821, .slice Ao31 t822.length co31] 25 (0, 0)) (y1 NB826_834.out BK826.out) hb); replace BK834 := Aside0.mk (blk_below (g := gb834) (o := .cells #[.int .i64 t829, .slice Ao76 t830.length co76] 25 (0, 0)) (by (with_reducible repeat (first | refine blk_drewN ?_ _ | refine blk_drew ?_ | refine blk_alloc ?_ _)); refine blk_put (cs := #[.int .i64 t829, .slice none 0 0]) ?_ 1 _ rfl; (with_reducible repeat (first | refine blk_drewN ?_ _ | refine blk_drew ?_ | refine blk_alloc ?_ _)); apply blk_put (i := 0); (case h => exact y0 BK834.out); (case e => rfl)) hb); replace HB := Aside0.mk (below_step (y14 HB.out GE813.out GE814.out GE820.out GE826.out GE834.out) hb); (try clear hb); (try clear hb2); (try clear hk); (try clear hi)))
      go_ret
      exact ⟨y19, (y14 HB.out GE813.out GE814.out GE820.out GE826.out GE834.out)⟩
     ·replace c63 := Bool.eq_false_iff.mpr c63
      subst c63
      rw [if_neg (show ¬ (false = true) by decide)] at H
      exact absurd ((Option.some.inj H).trans hr_.out) (by decide)
def laws_FnValPut.Pure : Prop := ∀ (l0 : List Int), l0.length ≤ maxLen → l0.length * 1 ≤ 140737488351232 → (∀ x ∈ l0, (Lit.int .u8 x).wf = true) → ∃ k, laws_FnValPut.f k l0 = some true
theorem laws_FnValPut.walk (P : laws_FnValPut.Pure) (a0 : Option Addr) (len0 cap0 : Nat) (z0 : List Int) (w : World) (w0 : (a0 = none ∧ len0 = 0 ∧ cap0 = 0 ∧ z0 = []) ∨ ∃ x, a0 = some x ∧ len0 ≤ cap0 ∧ cap0 ≤ maxLen ∧ z0.length = cap0 ∧ (∀ i, i < z0.length → w.cell? (x.add i) = some (.int .u8 (z0.getD i 0))) ∧ ∀ n ∈ z0, (Lit.int .u8 n).wf = true) (y0 : len0 * 1 ≤ 140737488351232) :
  Calls Try.prog 8 #[.slice a0 len0 cap0] w fun e w' => e = .returned (.bool true) ∧ Below w.heap.size w w' := by
 obtain ⟨l0, rfl, hr0, hm0, hw0, hc0⟩ := ReadsInt.ofRowC w0
 obtain ⟨k, h⟩ := P l0 hm0 y0 hw0
 refine (laws_FnValPut.calls k _ _ l0 true w (Kd.C_of_reads (d := (0 : Int)) (h1 := fun _ => rfl) hr0) hc0 h ⟨rfl⟩).mono ?_
 rintro e w' ⟨rfl, hd⟩
 exact ⟨rfl, hd⟩
end Go.Proofs.Ythfflieeifakdaa.PA
end
section
namespace Go.Proofs.Ythfflieeifakdaa.Draw
open Go.RowKit Go.Proofs.Ythfflieeifakdaa.PA Go.Proofs.YthfflieeifakdaaW.PrintWords Go.Proofs.YthfflieeifakdaaW.PrintLast
def Bytes (s : List Int) : Prop := s.length ≤ 2000 ∧ ∀ x ∈ s, 0 ≤ x ∧ x ≤ 255
theorem rd_byte {s : List Int} (h : Bytes s) (i : Int) : 0 ≤ rd s i ∧ rd s i ≤ 255 := by
  unfold rd
  rw [List.getD_eq_getElem?_getD]
  cases e : s[i.toNat]? with
  | none => simp
  | some x => exact h.2 x (List.mem_of_getElem? e)
theorem w64 {x : Int} (h0 : -9223372036854775808 ≤ x) (h1 : x ≤ 9223372036854775807) : wrap64 x = x := by unfold wrap64; omega
theorem w01 : wrap64 (0 + 1) = 1 := by rw [w64 (by omega) (by omega)]; rfl
theorem w12 : wrap64 (1 + 1) = 2 := by rw [w64 (by omega) (by omega)]; rfl
theorem xor_nonneg (a b : Nat) (ha : a < 2 ^ 62) (hb : b < 2 ^ 62) : 0 ≤ Go.bits .xor .i64 a b := by
  have hp : (2 : Nat) ^ 62 ≤ 2 ^ IntKind.i64.bits := Nat.pow_le_pow_right (by decide) (by decide)
  have ha' : a % 2 ^ IntKind.i64.bits = a := Nat.mod_eq_of_lt (Nat.lt_of_lt_of_le ha hp)
  have hb' : b % 2 ^ IntKind.i64.bits = b := Nat.mod_eq_of_lt (Nat.lt_of_lt_of_le hb hp)
  simp only [Go.bits, BitVec.ofInt_natCast, BitVec.toNat_xor, BitVec.toNat_ofNat, ha', hb']
  rw [IntKind.wrap_i64]
  have := Nat.xor_lt_two_pow ha hb
  omega
theorem xor_nonneg' (x y : Int) (hx : 0 ≤ x) (hx1 : x < 4611686018427387904) (hy : 0 ≤ y) (hy1 : y < 4611686018427387904) : 0 ≤ Go.bits .xor .i64 x y := by
  obtain ⟨a, rfl⟩ := Int.eq_ofNat_of_zero_le hx
  obtain ⟨b, rfl⟩ := Int.eq_ofNat_of_zero_le hy
  exact xor_nonneg a b (by omega) (by omega)
theorem tmod_range (x n : Int) (hx : 0 ≤ x) (hn : 1 ≤ n) : 0 ≤ Int.tmod x n ∧ Int.tmod x n < n := by
  rw [Int.tmod_eq_emod_of_nonneg hx]
  exact ⟨Int.emod_nonneg _ (by omega), Int.emod_lt_of_pos _ (by omega)⟩
theorem tdiv_range (x n : Int) (hx : 0 ≤ x) (hn : 1 ≤ n) : 0 ≤ Int.tdiv x n ∧ Int.tdiv x n ≤ x := by
  rw [Int.tdiv_eq_ediv_of_nonneg hx]
  exact ⟨Int.ediv_nonneg hx (by omega), Int.ediv_le_self _ hx⟩
theorem pick_ev (s : List Int) (hs : Bytes s) (p n : Int) (hp : 0 ≤ p) (hp1 : p ≤ 1099511627776) (hn : 1 ≤ n) :
    ∃ r, (∀ k, 2 ≤ k → spec_l6Rd_pick.f k s p n = some (r, p + 1)) ∧ 0 ≤ r ∧ r < n := by
  have e1 : wrap64 (p + 1) = p + 1 := w64 (by omega) (by omega)
  have e2 : wrap64 (p + 1 - 1) = p := by rw [w64 (by omega) (by omega)]; omega
  by_cases h0 : (s.length : Int) = 0
  · refine ⟨0, fun k hk => ?_, by omega, by omega⟩
    obtain ⟨k, rfl⟩ : ∃ m, k = m + 1 := ⟨k - 1, by omega⟩
    simp only [spec_l6Rd_pick.f]
    rw [if_neg (by omega), e1, show ((s.length : Int) == 0) = true from beq_iff_eq.2 h0]
    simp only [spec_l6Rd_pick.j0, if_true]
  have hl : 0 < s.length := by omega
  have hl2 := hs.1
  have hb : ((s.length : Int) == 0) = false := by simpa using h0
  by_cases hlt : p < (s.length : Int)
  · have hr := rd_byte hs p
    have hq := tmod_range (rd s p) n hr.1 hn
    refine ⟨_, fun k hk => ?_, hq.1, hq.2⟩
    obtain ⟨k, rfl⟩ : ∃ m, k = m + 1 := ⟨k - 1, by omega⟩
    simp only [spec_l6Rd_pick.f]
    rw [if_neg (by omega), e1, hb]
    simp only [spec_l6Rd_pick.j0, e2]
    rw [if_neg (by simp), if_pos hlt, if_pos hp, if_neg (by omega), w64 (by omega) (by omega)]
  · have m1 := tmod_range p (s.length : Int) hp (by omega)
    have e3 : wrap64 (p * 7) = p * 7 := w64 (by omega) (by omega)
    have e4 : wrap64 (p * 7 + 3) = p * 7 + 3 := w64 (by omega) (by omega)
    have m2 := tmod_range (p * 7 + 3) (s.length : Int) (by omega) (by omega)
    have d1 := tdiv_range p (s.length : Int) hp (by omega)
    have r1 := rd_byte hs (Int.tmod p (s.length : Int))
    have r2 := rd_byte hs (Int.tmod (p * 7 + 3) (s.length : Int))
    generalize ha : rd s (Int.tmod p (s.length : Int)) = a at *
    generalize hc : rd s (Int.tmod (p * 7 + 3) (s.length : Int)) = c at *
    generalize hd : Int.tdiv p (s.length : Int) = d at *
    have e5 : wrap64 (wrap64 (wrap64 (wrap64 (wrap64 a * 131) + wrap64 (wrap64 c * 1117)) + wrap64 (p * 29)) + wrap64 (wrap64 d * 53)) = a * 131 + c * 1117 + p * 29 + d * 53 := by
      rw [w64 (x := a) (by omega) (by omega), w64 (x := c) (by omega) (by omega), w64 (x := d) (by omega) (by omega), w64 (x := a * 131) (by omega) (by omega), w64 (x := c * 1117) (by omega) (by omega), w64 (x := d * 53) (by omega) (by omega), w64 (x := p * 29) (by omega) (by omega), w64 (x := a * 131 + c * 1117) (by omega) (by omega), w64 (x := a * 131 + c * 1117 + p * 29) (by omega) (by omega), w64 (by omega) (by omega)]
    generalize hx : a * 131 + c * 1117 + p * 29 + d * 53 = x at *
    have d2 := tdiv_range x 64 (by omega) (by omega)
    have e6 : wrap64 (Int.tdiv x 64) = Int.tdiv x 64 := w64 (by omega) (by omega)
    have hxor := xor_nonneg' x (Int.tdiv x 64) (by omega) (by omega) d2.1 (by omega)
    have hq := tmod_range (Go.bits .xor .i64 x (Int.tdiv x 64)) n hxor hn
    refine ⟨_, fun k hk => ?_, hq.1, hq.2⟩
    obtain ⟨k, rfl⟩ : ∃ m, k = m + 1 := ⟨k - 1, by omega⟩
    simp only [spec_l6Rd_pick.f]
    rw [if_neg (by omega), e1, hb]
    simp only [spec_l6Rd_pick.j0, e2, e3, e4, ha, hc, hd, e5, e6]
    rw [if_neg (by simp), if_neg hlt, if_neg h0, if_pos m1.1, if_pos m1.2, if_pos m2.1, if_pos m2.2, if_neg (by omega)]
theorem open_ev (l : List Int) (h : ∀ x ∈ l, (Lit.int .u8 x).wf = true) : ∃ s, spec_l6Open.f l = some (s, 0) ∧ Bytes s := by
  have hb : ∀ x ∈ l, 0 ≤ x ∧ x ≤ 255 := fun x hx => bounds_u8 (h x hx)
  unfold spec_l6Open.f
  by_cases hl : (l.length : Int) > 2000
  · rw [if_pos hl, if_pos (by omega)]
    exact ⟨_, rfl, by rw [List.length_take]; omega, fun x hx => hb x (List.mem_of_mem_take hx)⟩
  · rw [if_neg hl]
    exact ⟨_, rfl, by omega, hb⟩
def Dph : Nat → List S50 → Prop
  | 0, l => l = []
  | n + 1, l => ∀ x ∈ l, Dph n x.f0
theorem dph_nil (n : Nat) : Dph n [] := by cases n <;> simp [Dph]
theorem type_ev (s : List Int) (hs : Bytes s) : ∀ (d : Nat), d ≤ 1000 → ∀ (p : Int), 0 ≤ p → p + 2 ^ d ≤ 1099511627776 →
    ∃ r q, (∀ k, 3 * d + 4 ≤ k → spec_l71Type.f k s p d = some (r, q)) ∧ r.length ≤ 2 ∧ p ≤ q ∧ q + 1 ≤ p + 2 ^ d ∧ Dph d r := by
  intro d
  induction d with
  | zero =>
    intro hd p hp hp1
    refine ⟨[], p, fun k hk => ?_, by simp, by omega, by simp, dph_nil _⟩
    obtain ⟨k, rfl⟩ : ∃ m, k = m + 2 := ⟨k - 2, by omega⟩
    simp only [spec_l71Type.f]
    rw [if_pos (by omega)]
    simp only [spec_l71Type.j0, if_true]
  | succ d ih =>
    intro hd p hp hp1
    have hpow : (2 : Int) ^ (d + 1) = 2 ^ d + 2 ^ d := by rw [Int.pow_succ]; omega
    have hpos : (1 : Int) ≤ 2 ^ d := by have := Int.pow_pos (n := 2) (m := d) (by decide); omega
    rw [hpow] at hp1 ⊢
    generalize (2 : Int) ^ d = e at *
    by_cases h2 : (((d + 1 : Nat) : Int)) < 2
    · refine ⟨[], p, fun k hk => ?_, by simp, by omega, by omega, dph_nil _⟩
      obtain ⟨k, rfl⟩ : ∃ m, k = m + 2 := ⟨k - 2, by omega⟩
      simp only [spec_l71Type.f]
      rw [if_pos h2]
      simp only [spec_l71Type.j0, if_true]
    · obtain ⟨r, hr, hr0, hr1⟩ := pick_ev s hs p 3 hp (by omega) (by omega)
      by_cases hrp : r > 0
      · refine ⟨[], p + 1, fun k hk => ?_, by simp, by omega, by omega, dph_nil _⟩
        obtain ⟨k, rfl⟩ : ∃ m, k = m + 2 := ⟨k - 2, by omega⟩
        simp only [spec_l71Type.f]
        rw [if_neg h2, hr (k + 1) (by omega)]
        simp only [Option.bind_some, spec_l71Type.j0]
        rw [if_pos (by simpa using hrp)]
      · obtain ⟨a, q1, h1, _, hq1, hq1', da⟩ := ih (by omega) (p + 1) (by omega) (by omega)
        obtain ⟨b, q2, h3, _, hq2, hq2', db⟩ := ih (by omega) q1 (by omega) (by omega)
        have ew : wrap64 (((d + 1 : Nat) : Int) - 1) = (d : Int) := by
          rw [w64 (by omega) (by omega)]; omega
        refine ⟨[⟨a⟩, ⟨b⟩], q2, fun k hk => ?_, by simp, by omega, by omega, ?_⟩
        rotate_left
        · intro x hx
          rcases List.mem_cons.1 hx with rfl | hx
          · exact da
          · rw [List.mem_singleton.1 hx]; exact db
        · obtain ⟨k, rfl⟩ : ∃ m, k = m + 2 := ⟨k - 2, by omega⟩
          simp only [spec_l71Type.f]
          rw [if_neg h2, hr (k + 1) (by omega)]
          simp only [Option.bind_some, spec_l71Type.j0]
          rw [if_neg (by simpa using hrp), ew, h1 k (by omega)]
          simp only [Option.bind_some]
          rw [h3 k (by omega)]
          simp only [Option.bind_some]
end Go.Proofs.Ythfflieeifakdaa.Draw
end
section
namespace Go.Proofs.Ythfflieeifakdaa.PA
open Go.RowKit Go.Proofs.YthfflieeifakdaaW.PrintWords Go.Proofs.YthfflieeifakdaaW.PrintLast Go.Proofs.YthfflieeifakdaaW.PrintMore
attribute [local go_sem] max2_int min2_int max_two min_two max_three min_three max_four min_four
set_option linter.unusedVariables false
set_option linter.unusedSimpArgs false
def impl_typeFits.f : Nat → List (S50) → Int → Option (Bool)
 | 0, _, _ => none
 | k + 1, l0_0, a1 => if a1 < 1 then (some false) else (if (l0_0.length : Int) = 0 then (some true) else (if (l0_0.length : Int) = 2 then (if 0 < (l0_0.length : Int) then ((impl_typeFits.f k ((rd_T50 l0_0 0).f0) (wrap64 (a1 - 1))).bind fun t968 => (if t968 = true then (if 1 < (l0_0.length : Int) then ((impl_typeFits.f k ((rd_T50 l0_0 1).f0) (wrap64 (a1 - 1))).bind fun t970 => (some t970)) else (none)) else (some false))) else (none)) else (some false)))
theorem impl_typeFits.mono_l : ∀ k, (∀ y0 y1, LeO (impl_typeFits.f k y0 y1) (impl_typeFits.f (k + 1) y0 y1))
 | 0 => fun _ _ r h => by simp [impl_typeFits.f] at h
 | k + 1 => by
  have ih0 := impl_typeFits.mono_l k
  ·intro y0 y1
   unfold impl_typeFits.f
   repeat' first
   | (with_reducible exact ih0 _ _)
   | (with_reducible exact LeO.refl _)
   | (with_reducible exact LeO.none _)
   | (with_reducible refine LeO.ite ?_ ?_)
   | (with_reducible refine LeO.bind ?_ (fun _ => ?_))
   | exact ih0 _ _
   | exact LeO.none _
   | refine LeO.ite ?_ ?_
   | refine LeO.bind ?_ (fun _ => ?_)
theorem impl_typeFits.mono : ∀ a0 a1 k, LeO (impl_typeFits.f k a0 a1) (impl_typeFits.f (k + 1) a0 a1) := by
 intro a0 a1 k
 have ih0 := impl_typeFits.mono_l k
 exact ih0 a0 a1
set_option maxHeartbeats 8000000 in
set_option maxRecDepth 100000 in
theorem impl_typeFits.calls (k : Nat) : ∀ (A0_0 : Option Addr) (c0_0 : Nat) (l0_0 : List (S50)) (a1 : Int) (r : Bool) (w : World) (hr0_0 : Kd.C k50 w A0_0 l0_0.length l0_0) (hc0_0 : l0_0.length ≤ c0_0) (h : impl_typeFits.f k l0_0 a1 = some r),
  Calls Try.prog 59 #[.agg #[.slice A0_0 l0_0.length c0_0], .int .i64 a1] w fun e w' => e = .returned (.bool r) ∧ Below w.heap.size w w' := by
 induction k using Nat.strongRecOn with
 | _ k ih =>
 intro A0_0 c0_0 l0_0 a1 r w hr0_0 hc0_0 h
 cases k with
 | zero => exact absurd h (by simp [impl_typeFits.f])
 | succ k =>
 simp only [impl_typeFits.f] at h
 have hu50 := Try.underlying50
 have HR0_0 := Aside0.mk hr0_0
 have HC0_0 := Aside0.mk hc0_0
 clear hr0_0 hc0_0
 have HB := Aside0.mk (Below.refl w.heap.size w)
 have H : (if a1 < 1 then (some false) else (if (l0_0.length : Int) = 0 then (some true) else (if (l0_0.length : Int) = 2 then (if 0 < (l0_0.length : Int) then ((impl_typeFits.f k ((rd_T50 l0_0 0).f0) (wrap64 (a1 - 1))).bind fun t968 => (if t968 = true then (if 1 < (l0_0.length : Int) then ((impl_typeFits.f k ((rd_T50 l0_0 1).f0) (wrap64 (a1 - 1))).bind fun t970 => (some t970)) else (none)) else (some false))) else (none)) else (some false)))) = some r := h
 clear h
 by_cases c3 : a1 < 1
 ·rw [if_pos c3] at H
  have c3b0 : decide (a1 < 1) = true := decide_eq_true c3
  clear c3
  obtain rfl := Option.some.inj H
  go_enter Try.func59, Try.ntmps59
  go_wp2_with (first | ((with_reducible refine gate_dst (N := 2) rfl ?_); refine zbx 2 #[.slice A0_0 l0_0.length c0_0] 50 ?_; intro gb966 hg w4 hbox hb; have BK966 := Aside0.mk hbox; have GW966 := Aside0.mk ((y9 hg HB.out : w.heap.size ≤ gb966)); have GE966 := Aside0.mk ((y9 hg HB.out : w.heap.size ≤ gb966)); replace HB := Aside0.mk (below_step (y5 HB.out) hb); clear hb hbox hg))
  go_ret
  exact ⟨y19, (y6 HB.out GE966.out)⟩
 ·rw [if_neg c3] at H
  have c3b0 : decide (a1 < 1) = false := decide_eq_false c3
  clear c3
  by_cases c5 : (l0_0.length : Int) = 0
  ·rw [if_pos c5] at H
   have c5b0 : ((l0_0.length : Int) == 0) = true := beq_iff_eq.mpr c5
   have c5b1 : ((l0_0.length : Int) != 0) = false := bne_eq_false_iff_eq.mpr c5
   clear c5
   obtain rfl := Option.some.inj H
   go_enter Try.func59, Try.ntmps59
   go_wp2_with (first | ((with_reducible refine gate_dst (N := 2) rfl ?_); refine zbx 2 #[.slice A0_0 l0_0.length c0_0] 50 ?_; intro gb966 hg w6 hbox hb; have BK966 := Aside0.mk hbox; have GW966 := Aside0.mk ((y9 hg HB.out : w.heap.size ≤ gb966)); have GE966 := Aside0.mk ((y9 hg HB.out : w.heap.size ≤ gb966)); replace HB := Aside0.mk (below_step (y5 HB.out) hb); clear hb hbox hg; have hcz7_0 := zh BK966; have hfz7_0 := zfr BK966 0))
   go_ret
   exact ⟨y19, (y6 HB.out GE966.out)⟩
  ·rw [if_neg c5] at H
   have c5b0 : ((l0_0.length : Int) == 0) = false := beq_eq_false_iff_ne.mpr c5
   have c5b1 : ((l0_0.length : Int) != 0) = true := bne_iff_ne.mpr c5
   have c5b2 : ¬ (l0_0 = []) := fun h_ => c5 (by rw [h_]; rfl)
   by_cases c8 : (l0_0.length : Int) = 2
   ·rw [if_pos c8] at H
    have c8b0 : ((l0_0.length : Int) == 2) = true := beq_iff_eq.mpr c8
    have c8b1 : ((l0_0.length : Int) != 2) = false := bne_eq_false_iff_eq.mpr c8
    clear c8
    by_cases c9 : 0 < (l0_0.length : Int)
    ·rw [if_pos c9] at H
     have c9b0 : decide (0 < (l0_0.length : Int)) = true := decide_eq_true c9
     have c9b1 : decide (0 < l0_0.length) = true := decide_eq_true (by omega)
     clear c9
     obtain ⟨t968, A100, H⟩ := ob H
     have A10 := Aside0.mk A100
     clear A100
     by_cases c11 : t968 = true
     ·subst c11
      rw [if_pos rfl] at H
      by_cases c12 : 1 < (l0_0.length : Int)
      ·rw [if_pos c12] at H
       have c12b0 : decide (1 < (l0_0.length : Int)) = true := decide_eq_true c12
       have c12b1 : decide (1 < l0_0.length) = true := decide_eq_true (by omega)
       clear c12
       obtain ⟨t970, A130, H⟩ := ob H
       have A13 := Aside0.mk A130
       clear A130
       obtain rfl := Option.some.inj H
       go_enter Try.func59, Try.ntmps59
       go_wp2_with (first | ((with_reducible refine gate_dst (N := 2) rfl ?_); refine zbx 2 #[.slice A0_0 l0_0.length c0_0] 50 ?_; intro gb966 hg w14 hbox hb; have BK966 := Aside0.mk hbox; have GW966 := Aside0.mk ((y9 hg HB.out : w.heap.size ≤ gb966)); have GE966 := Aside0.mk ((y9 hg HB.out : w.heap.size ≤ gb966)); replace HB := Aside0.mk (below_step (y5 HB.out) hb); clear hb hbox hg; have hcz15_0 := zh BK966; have hfz15_0 := zfr BK966 0; have p967 : 0 ≤ (0 : Int) := (by omega); have q967 : 0 < (l0_0.length : Int) := of_decide_eq_true y23; obtain ⟨ad967, A967_0, c967_0, e967, hx967_0, hl967_0, hi967_0⟩ := at_T50 HR0_0.out 0 p967 q967; cases e967; have qi967 : (0 < l0_0.length) = True := eq_true (by omega); (try rw [show ((0 : Int)).toNat = 0 from rfl] at hx967_0); (try rw [Addr.add_zero'] at hx967_0); replace hx967_0 := (HB.out.cell (World.block_lt_of_cell? w _ hx967_0)).trans hx967_0; have HR967_0 := Aside0.mk hi967_0; have HC967_0 := Aside0.mk hl967_0; clear hi967_0 hl967_0; replace p967 := eq_true p967; replace q967 := eq_true q967) | (go_at_call 59; (with_reducible refine (ih k (by omega) _ _ ((rd_T50 l0_0 0).f0) (wrap64 (a1 - 1)) true _ ?side1 ?side2 A10.out).mono ?_); (case side1 => exact y15 HR967_0.out HB.out); (case side2 => exact HC967_0.out); rintro e w16 ⟨rfl, hb⟩; replace BK966 := zbb BK966 hb; replace HB := Aside0.mk (below_step (y6 HB.out GE966.out) hb); (try clear hb); (try clear hb2); (try clear hk); (try clear hi); have hcz17_0 := zh BK966; have hfz17_0 := zfr BK966 0; have p969 : 0 ≤ (1 : Int) := (by omega); have q969 : 1 < (l0_0.length : Int) := of_decide_eq_true y23; obtain ⟨ad969, A969_0, c969_0, e969, hx969_0, hl969_0, hi969_0⟩ := at_T50 HR0_0.out 1 p969 q969; obtain rfl : ad967 = ad969 := (by injection e969); (try simp only [show (1 : Int).toNat = 1 from rfl, Nat.reduceMul, Nat.reduceEqDiff, Go.Addr.add, ↓reduceIte] at hx969_0); have qi969 : (1 < l0_0.length) = True := eq_true (by omega); (try rw [show ((1 : Int)).toNat = 1 from rfl] at hx969_0); replace hx969_0 := (HB.out.cell (World.block_lt_of_cell? w _ hx969_0)).trans hx969_0; have HR969_0 := Aside0.mk hi969_0; have HC969_0 := Aside0.mk hl969_0; clear hi969_0 hl969_0; replace p969 := eq_true p969; replace q969 := eq_true q969) | (go_at_call 59; (with_reducible refine (ih k (by omega) _ _ ((rd_T50 l0_0 1).f0) (wrap64 (a1 - 1)) t970 _ ?side1 ?side2 A13.out).mono ?_); (case side1 => exact y15 HR969_0.out HB.out); (case side2 => exact HC969_0.out); rintro e w18 ⟨rfl, hb⟩; replace BK966 := zbb BK966 hb; replace HB := Aside0.mk (below_step (y6 HB.out GE966.out) hb); (try clear hb); (try clear hb2); (try clear hk); (try clear hi)))
       go_ret
       exact ⟨y19, (y6 HB.out GE966.out)⟩
      ·rw [if_neg c12] at H
       exact absurd H (by simp)
     ·replace c11 := Bool.eq_false_iff.mpr c11
      subst c11
      rw [if_neg (show ¬ (false = true) by decide)] at H
      obtain rfl := Option.some.inj H
      go_enter Try.func59, Try.ntmps59
      go_wp2_with (first | ((with_reducible refine gate_dst (N := 2) rfl ?_); refine zbx 2 #[.slice A0_0 l0_0.length c0_0] 50 ?_; intro gb966 hg w19 hbox hb; have BK966 := Aside0.mk hbox; have GW966 := Aside0.mk ((y9 hg HB.out : w.heap.size ≤ gb966)); have GE966 := Aside0.mk ((y9 hg HB.out : w.heap.size ≤ gb966)); replace HB := Aside0.mk (below_step (y5 HB.out) hb); clear hb hbox hg; have hcz20_0 := zh BK966; have hfz20_0 := zfr BK966 0; have p967 : 0 ≤ (0 : Int) := (by omega); have q967 : 0 < (l0_0.length : Int) := of_decide_eq_true y23; obtain ⟨ad967, A967_0, c967_0, e967, hx967_0, hl967_0, hi967_0⟩ := at_T50 HR0_0.out 0 p967 q967; cases e967; have qi967 : (0 < l0_0.length) = True := eq_true (by omega); (try rw [show ((0 : Int)).toNat = 0 from rfl] at hx967_0); (try rw [Addr.add_zero'] at hx967_0); replace hx967_0 := (HB.out.cell (World.block_lt_of_cell? w _ hx967_0)).trans hx967_0; have HR967_0 := Aside0.mk hi967_0; have HC967_0 := Aside0.mk hl967_0; clear hi967_0 hl967_0; replace p967 := eq_true p967; replace q967 := eq_true q967) | (go_at_call 59; (with_reducible refine (ih k (by omega) _ _ ((rd_T50 l0_0 0).f0) (wrap64 (a1 - 1)) false _ ?side1 ?side2 A10.out).mono ?_); (case side1 => exact y15 HR967_0.out HB.out); (case side2 => exact HC967_0.out); rintro e w21 ⟨rfl, hb⟩; replace BK966 := zbb BK966 hb; replace HB := Aside0.mk (below_step (y6 HB.out GE966.out) hb); (try clear hb); (try clear hb2); (try clear hk); (try clear hi)))
      go_ret
      exact ⟨y19, (y6 HB.out GE966.out)⟩
    ·rw [if_neg c9] at H
     exact absurd H (by simp)
   ·rw [if_neg c8] at H
    have c8b0 : ((l0_0.length : Int) == 2) = false := beq_eq_false_iff_ne.mpr c8
    have c8b1 : ((l0_0.length : Int) != 2) = true := bne_iff_ne.mpr c8
    obtain rfl := Option.some.inj H
    go_enter Try.func59, Try.ntmps59
    go_wp2_with (first | ((with_reducible refine gate_dst (N := 2) rfl ?_); refine zbx 2 #[.slice A0_0 l0_0.length c0_0] 50 ?_; intro gb966 hg w22 hbox hb; have BK966 := Aside0.mk hbox; have GW966 := Aside0.mk ((y9 hg HB.out : w.heap.size ≤ gb966)); have GE966 := Aside0.mk ((y9 hg HB.out : w.heap.size ≤ gb966)); replace HB := Aside0.mk (below_step (y5 HB.out) hb); clear hb hbox hg; have hcz23_0 := zh BK966; have hfz23_0 := zfr BK966 0))
    go_ret
    exact ⟨y19, (y6 HB.out GE966.out)⟩
end Go.Proofs.Ythfflieeifakdaa.PA
end
section
namespace Go.Proofs.Ythfflieeifakdaa.PA
open Go.RowKit Go.Proofs.YthfflieeifakdaaW.PrintWords Go.Proofs.YthfflieeifakdaaW.PrintLast Go.Proofs.YthfflieeifakdaaW.PrintMore
attribute [local go_sem] max2_int min2_int max_two min_two max_three min_three max_four min_four
set_option linter.unusedVariables false
set_option linter.unusedSimpArgs false
def impl_TypeOk.f (k : Nat) (l0_0 : List (S50)) : Option (Bool) := (impl_typeFits.f k l0_0 4).bind fun t972 => (some t972)
theorem impl_TypeOk.mono : ∀ a0 k, LeO (impl_TypeOk.f k a0) (impl_TypeOk.f (k + 1) a0) := by
 intro a0 k
 unfold impl_TypeOk.f
 repeat' first
   | (with_reducible exact impl_typeFits.mono _ _ _)
   | (with_reducible exact LeO.refl _)
   | (with_reducible exact LeO.none _)
   | (with_reducible refine LeO.ite ?_ ?_)
   | (with_reducible refine LeO.bind ?_ (fun _ => ?_))
   | exact impl_typeFits.mono _ _ _
   | exact LeO.none _
   | refine LeO.ite ?_ ?_
   | refine LeO.bind ?_ (fun _ => ?_)
set_option maxHeartbeats 8000000 in
set_option maxRecDepth 100000 in
theorem impl_TypeOk.calls (k : Nat) (A0_0 : Option Addr) (c0_0 : Nat) (l0_0 : List (S50)) (r : Bool) (w : World) (hr0_0 : Kd.C k50 w A0_0 l0_0.length l0_0) (hc0_0 : l0_0.length ≤ c0_0) (h : impl_TypeOk.f k l0_0 = some r) :
  Calls Try.prog 52 #[.agg #[.slice A0_0 l0_0.length c0_0]] w fun e w' => e = .returned (.bool r) ∧ Below w.heap.size w w' := by
 have hu50 := Try.underlying50
 have HR0_0 := Aside0.mk hr0_0
 have HC0_0 := Aside0.mk hc0_0
 clear hr0_0 hc0_0
 have HB := Aside0.mk (Below.refl w.heap.size w)
 have H : ((impl_typeFits.f k l0_0 4).bind fun t972 => (some t972)) = some r := h
 clear h
 obtain ⟨t972, A20, H⟩ := ob H
 have A2 := Aside0.mk A20
 clear A20
 obtain rfl := Option.some.inj H
 go_enter Try.func52, Try.ntmps52
 go_wp2_with (first | ((with_reducible refine gate_dst (N := 1) rfl ?_); refine zbx 1 #[.slice A0_0 l0_0.length c0_0] 50 ?_; intro gb971 hg w3 hbox hb; have BK971 := Aside0.mk hbox; have GW971 := Aside0.mk ((y9 hg HB.out : w.heap.size ≤ gb971)); have GE971 := Aside0.mk ((y9 hg HB.out : w.heap.size ≤ gb971)); replace HB := Aside0.mk (below_step (y5 HB.out) hb); clear hb hbox hg; have hcz4_0 := zh BK971; have hfz4_0 := zfr BK971 0) | ((with_reducible refine gate_callee (f := 59) rfl ?_); refine goesL_ (some 4) rfl rfl Try.func59 (by kernel_rfl) rfl #[.agg #[.slice A0_0 l0_0.length c0_0], .int .i64 4] rfl y8 ?_; (with_reducible refine (impl_typeFits.calls k _ _ l0_0 4 t972 _ ?side1 ?side2 A2.out).mono ?_); (case side1 => exact y15 HR0_0.out HB.out); (case side2 => exact HC0_0.out); rintro e w5 ⟨rfl, hb⟩; refine ⟨_, rfl, ?_⟩; replace BK971 := zbb BK971 hb; replace HB := Aside0.mk (below_step (y6 HB.out GE971.out) hb); (try clear hb); (try clear hb2); (try clear hk); (try clear hi)))
 go_ret
 exact ⟨y19, (y6 HB.out GE971.out)⟩
end Go.Proofs.Ythfflieeifakdaa.PA
end
section
namespace Go.Proofs.Ythfflieeifakdaa.Types
open Go.RowKit Go.Proofs.Ythfflieeifakdaa.PA Go.Proofs.YthfflieeifakdaaW.PrintWords Go.Proofs.YthfflieeifakdaaW.PrintLast Go.Proofs.Ythfflieeifakdaa.Draw
abbrev Ty := List S50
theorem rd0 (a : S50) (l : Ty) : rd_T50 (a :: l) 0 = a := rfl
theorem rd1 (a b : S50) (l : Ty) : rd_T50 (a :: b :: l) 1 = b := rfl
def dp : Nat → Ty → Bool
  | 0, _ => false
  | _ + 1, [] => true
  | n + 1, [a, b] => dp n a.f0 && dp n b.f0
  | _ + 1, _ => false
theorem dp_nil (n : Nat) : dp (n + 1) [] = true := rfl
theorem dp_two (n : Nat) (a b : S50) : dp (n + 1) [a, b] = (dp n a.f0 && dp n b.f0) := rfl
theorem dp_odd (n : Nat) (l : Ty) (h0 : l.length ≠ 0) (h2 : l.length ≠ 2) : dp n l = false := by
  cases n with
  | zero => rfl
  | succ n =>
    match l with
    | [] => simp at h0
    | [_] => rfl
    | [_, _] => simp at h2
    | _ :: _ :: _ :: _ => rfl
theorem two_of {l : Ty} (h : l.length = 2) : ∃ a b, l = [a, b] := by
  match l with
  | [a, b] => exact ⟨a, b, rfl⟩
theorem shape (l : Ty) : l = [] ∨ (∃ a b, l = [a, b]) ∨ (l.length ≠ 0 ∧ l.length ≠ 2) := by
  match l with
  | [] => exact .inl rfl
  | [_] => exact .inr (.inr ⟨by simp, by simp⟩)
  | [a, b] => exact .inr (.inl ⟨a, b, rfl⟩)
  | _ :: _ :: _ :: _ => exact .inr (.inr ⟨by simp, by simp⟩)
theorem pred_cast (n : Nat) (hn : n ≤ 1000) : wrap64 (((n + 1 : Nat) : Int) - 1) = (n : Int) := by rw [w64 (by omega) (by omega)]; omega
theorem deep_ev : ∀ (n : Nat), n ≤ 1000 → ∀ (l : Ty) (k : Nat), 5 * n + 3 ≤ k → spec_l1Deep.f k l n = some (dp n l) := by
  intro n
  induction n with
  | zero =>
    intro _ l k hk
    obtain ⟨k, rfl⟩ : ∃ m, k = m + 2 := ⟨k - 2, by omega⟩
    simp only [spec_l1Deep.f]
    rw [if_pos (by omega)]
    simp only [spec_l1Deep.j0, if_true]
    rfl
  | succ n ih =>
    intro hn l k hk
    obtain ⟨k, rfl⟩ : ∃ m, k = m + 5 := ⟨k - 5, by omega⟩
    have hp := pred_cast n (by omega)
    simp only [spec_l1Deep.f]
    rw [if_neg (by omega)]
    rcases shape l with rfl | ⟨a, b, rfl⟩ | ⟨h0, h2⟩
    · rw [if_pos (by simp)]
      simp only [spec_l1Deep.j0, spec_l1Deep.l0]
      rw [if_neg (by simp), if_neg (by simp)]
      rfl
    · rw [if_neg (by simp)]
      simp only [spec_l1Deep.j0]
      rw [if_neg (by simp)]
      simp only [spec_l1Deep.l0, hp, w01, w12]
      rw [if_pos (by simp), if_pos (by omega), rd0, ih (by omega) _ _ (by omega), dp_two]
      simp only [Option.bind_some]
      cases ha : dp n a.f0 with
      | false => simp
      | true =>
        rw [if_pos rfl, if_pos (by simp), if_pos (by omega), rd1, ih (by omega) _ _ (by omega)]
        simp only [Option.bind_some]
        cases hb : dp n b.f0 with
        | false => simp
        | true => rw [if_pos rfl, if_neg (by simp)]; rfl
    · rw [if_neg (by omega), dp_odd _ _ h0 h2]
      simp only [spec_l1Deep.j0]
      rw [if_pos (by simp; omega)]
theorem specOk_ev (l : Ty) (k : Nat) (hk : 23 ≤ k) : spec_TypeOk.f k l = some (dp 4 l) := by
  unfold spec_TypeOk.f
  rw [show (4 : Int) = ((4 : Nat) : Int) from rfl, deep_ev 4 (by omega) l k (by omega)]; rfl
theorem fits_ev : ∀ (n : Nat), n ≤ 1000 → ∀ (l : Ty) (k : Nat), n + 1 ≤ k → impl_typeFits.f k l n = some (dp n l) := by
  intro n
  induction n with
  | zero =>
    intro _ l k hk
    obtain ⟨k, rfl⟩ : ∃ m, k = m + 1 := ⟨k - 1, by omega⟩
    simp only [impl_typeFits.f]
    rw [if_pos (by omega)]; rfl
  | succ n ih =>
    intro hn l k hk
    obtain ⟨k, rfl⟩ : ∃ m, k = m + 1 := ⟨k - 1, by omega⟩
    have hp := pred_cast n (by omega)
    simp only [impl_typeFits.f]
    rw [if_neg (by omega)]
    rcases shape l with rfl | ⟨a, b, rfl⟩ | ⟨h0, h2⟩
    · rw [if_pos (by simp)]; rfl
    · rw [if_neg (by simp), if_pos (by simp), if_pos (by simp), hp, rd0, ih (by omega) _ _ (by omega), dp_two]
      simp only [Option.bind_some]
      cases ha : dp n a.f0 with
      | false => simp
      | true => rw [if_pos rfl, if_pos (by simp), rd1, ih (by omega) _ _ (by omega)]; simp
    · rw [if_neg (by omega), if_neg (by omega), dp_odd _ _ h0 h2]
theorem implOk_ev (l : Ty) (k : Nat) (hk : 5 ≤ k) : impl_TypeOk.f k l = some (dp 4 l) := by
  unfold impl_TypeOk.f
  rw [show (4 : Int) = ((4 : Nat) : Int) from rfl, fits_ev 4 (by omega) l k (by omega)]; rfl
def tx : Nat → Ty → ByteArray
  | n + 1, [a, b] => ((((⟨#[40]⟩ : ByteArray) ++ tx n a.f0) ++ (⟨#[44]⟩ : ByteArray)) ++ tx n b.f0) ++ (⟨#[41]⟩ : ByteArray)
  | _, _ => ⟨#[105]⟩
theorem tx_two (n : Nat) (a b : S50) : tx (n + 1) [a, b] = ((((⟨#[40]⟩ : ByteArray) ++ tx n a.f0) ++ (⟨#[44]⟩ : ByteArray)) ++ tx n b.f0) ++ (⟨#[41]⟩ : ByteArray) := rfl
theorem tx_nil (n : Nat) : tx n [] = ⟨#[105]⟩ := by cases n <;> rfl
theorem tx_size (n : Nat) : ∀ l, (tx n l).size + 3 ≤ 4 * 2 ^ n := by
  induction n with
  | zero => intro l; simp [tx]; decide
  | succ n ih =>
    intro l
    have hp : 1 ≤ 2 ^ n := Nat.one_le_two_pow
    have h1 : (⟨#[105]⟩ : ByteArray).size = 1 := rfl
    rw [Nat.pow_succ]
    match l with
    | [a, b] =>
      have ha := ih a.f0
      have hb := ih b.f0
      rw [tx_two]
      simp only [ByteArray.size_append, show (⟨#[40]⟩ : ByteArray).size = 1 from rfl, show (⟨#[44]⟩ : ByteArray).size = 1 from rfl, show (⟨#[41]⟩ : ByteArray).size = 1 from rfl]
      omega
    | [] => show (⟨#[105]⟩ : ByteArray).size + 3 ≤ _; omega
    | [_] => show (⟨#[105]⟩ : ByteArray).size + 3 ≤ _; omega
    | _ :: _ :: _ :: _ => show (⟨#[105]⟩ : ByteArray).size + 3 ≤ _; omega
def text (l : Ty) : ByteArray := if dp 4 l = true then tx 4 l else ⟨#[]⟩
def teq : Nat → Ty → Ty → Bool
  | _ + 1, [], [] => true
  | n + 1, [a, b], [c, d] => teq n a.f0 c.f0 && teq n b.f0 d.f0
  | _, _, _ => false
theorem teq_eq : ∀ (n : Nat) (a b : Ty), teq n a b = true → a = b := by
  intro n
  induction n with
  | zero => intro a b h; simp [teq] at h
  | succ n ih =>
    intro a b h
    unfold teq at h
    split at h
    · rfl
    · rename_i m x y z u he
      cases he
      rw [Bool.and_eq_true] at h
      have h1 := ih _ _ h.1
      have h2 := ih _ _ h.2
      cases x; cases y; cases z; cases u
      simp_all
    · cases h
theorem teq_refl : ∀ (n : Nat) (a : Ty), dp n a = true → teq n a a = true := by
  intro n
  induction n with
  | zero => intro a h; simp [dp] at h
  | succ n ih =>
    intro a h
    rcases shape a with rfl | ⟨a1, a2, rfl⟩ | ⟨h0, h2⟩
    · rfl
    · rw [dp_two, Bool.and_eq_true] at h
      show (teq n a1.f0 a1.f0 && teq n a2.f0 a2.f0) = true
      rw [ih _ h.1, ih _ h.2]; rfl
    · rw [dp_odd _ _ h0 h2] at h; cases h
theorem toList_app (a b : ByteArray) : (a ++ b).toList = a.toList ++ b.toList := by
  rw [ByteArray.toList_eq, ByteArray.toList_eq, ByteArray.toList_eq]; simp
theorem lit_toList (c : UInt8) : (⟨#[c]⟩ : ByteArray).toList = [c] := by rw [ByteArray.toList_eq]
theorem tx_inj : ∀ (n : Nat) (a b : Ty) (r s : List UInt8), dp n a = true → dp n b = true → (tx n a).toList ++ r = (tx n b).toList ++ s → teq n a b = true ∧ r = s := by
  intro n
  induction n with
  | zero => intro a b r s h; simp [dp] at h
  | succ n ih =>
    intro a b r s ha hb h
    rcases shape a with rfl | ⟨a1, a2, rfl⟩ | ⟨h0, h2⟩
    · rcases shape b with rfl | ⟨b1, b2, rfl⟩ | ⟨h0, h2⟩
      · rw [tx_nil] at h
        exact ⟨rfl, List.append_cancel_left h⟩
      · rw [tx_nil, tx_two] at h
        simp only [toList_app, lit_toList, List.cons_append, List.nil_append, List.append_assoc] at h
        injection h with h1 _
        exact absurd h1 (by decide)
      · rw [dp_odd _ _ h0 h2] at hb; cases hb
    · rcases shape b with rfl | ⟨b1, b2, rfl⟩ | ⟨h0, h2⟩
      · rw [tx_nil, tx_two] at h
        simp only [toList_app, lit_toList, List.cons_append, List.nil_append, List.append_assoc] at h
        injection h with h1 _
        exact absurd h1 (by decide)
      · rw [dp_two, Bool.and_eq_true] at ha hb
        rw [tx_two, tx_two] at h
        simp only [toList_app, lit_toList, List.cons_append, List.nil_append, List.append_assoc] at h
        injection h with _ h
        obtain ⟨e1, h⟩ := ih _ _ _ _ ha.1 hb.1 h
        injection h with _ h
        obtain ⟨e2, h⟩ := ih _ _ _ _ ha.2 hb.2 h
        injection h with _ h
        refine ⟨?_, h⟩
        show (teq n a1.f0 b1.f0 && teq n a2.f0 b2.f0) = true
        rw [e1, e2]; rfl
      · rw [dp_odd _ _ h0 h2] at hb; cases hb
    · rw [dp_odd _ _ h0 h2] at ha; cases ha
theorem text_teq (a b : Ty) (ha : dp 4 a = true) (hb : dp 4 b = true) : ((text a).toList == (text b).toList) = teq 4 a b := by
  unfold text
  rw [if_pos ha, if_pos hb]
  by_cases h : (tx 4 a).toList = (tx 4 b).toList
  · rw [beq_iff_eq.2 h, (tx_inj 4 a b [] [] ha hb (by simpa using h)).1]
  · cases e : teq 4 a b with
    | false => exact beq_eq_false_iff_ne.2 h
    | true => exact absurd (by rw [teq_eq _ _ _ e]) h
theorem tx_pos (n : Nat) (l : Ty) : 0 < (tx n l).size := by
  unfold tx
  split
  · simp only [ByteArray.size_append, show (⟨#[40]⟩ : ByteArray).size = 1 from rfl]; omega
  · decide
theorem dph_mono : ∀ (n : Nat) (l : Ty), Dph n l → Dph (n + 1) l := by
  intro n
  induction n with
  | zero => intro l h; rw [show l = [] from h]; exact dph_nil _
  | succ n ih => intro l h x hx; exact ih _ (h x hx)
theorem dph_le (n m : Nat) (h : n ≤ m) (l : Ty) (hd : Dph n l) : Dph m l := by
  induction m with
  | zero => obtain rfl : n = 0 := by omega
            exact hd
  | succ m ih =>
    by_cases e : n = m + 1
    · subst e; exact hd
    · exact dph_mono _ _ (ih (by omega))
end Go.Proofs.Ythfflieeifakdaa.Types
end
section
namespace Go.Proofs.Ythfflieeifakdaa.Paths
open Go.RowKit Go.Proofs.Ythfflieeifakdaa.PA Go.Proofs.YthfflieeifakdaaW.PrintWords Go.Proofs.YthfflieeifakdaaW.PrintLast Go.Proofs.Ythfflieeifakdaa.Draw Go.Proofs.Ythfflieeifakdaa.Types
def pf : List Int → Ty → Option Ty
  | [], t => some t
  | i :: r, [a, b] => if i = 0 then pf r a.f0 else if i = 1 then pf r b.f0 else none
  | _ :: _, _ => none
theorem pf_nil (t : Ty) : pf [] t = some t := by cases t <;> rfl
theorem pf_two (i : Int) (r : List Int) (a b : S50) : pf (i :: r) [a, b] = if i = 0 then pf r a.f0 else if i = 1 then pf r b.f0 else none := rfl
theorem pf_odd (i : Int) (r : List Int) (t : Ty) (h : t.length ≠ 2) : pf (i :: r) t = none := by
  match t with
  | [] => rfl
  | [_] => rfl
  | [_, _] => simp at h
  | _ :: _ :: _ :: _ => rfl
theorem pf_app (p q : List Int) : ∀ t, pf (p ++ q) t = (pf p t).bind (pf q) := by
  induction p with
  | nil => intro t; rw [List.nil_append, pf_nil]; rfl
  | cons i r ih =>
    intro t
    by_cases h : t.length = 2
    · obtain ⟨a, b, rfl⟩ := two_of h
      rw [List.cons_append, pf_two, pf_two]
      split
      · exact ih _
      · split
        · exact ih _
        · rfl
    · rw [List.cons_append, pf_odd _ _ _ h, pf_odd _ _ _ h]; rfl
theorem dp_succ : ∀ (n : Nat) (t : Ty), dp n t = true → dp (n + 1) t = true := by
  intro n
  induction n with
  | zero => intro t h; simp [dp] at h
  | succ n ih =>
    intro t h
    rcases Types.shape t with rfl | ⟨a, b, rfl⟩ | ⟨h0, h2⟩
    · rfl
    · rw [dp_two, Bool.and_eq_true] at h ⊢
      exact ⟨ih _ h.1, ih _ h.2⟩
    · rw [dp_odd _ _ h0 h2] at h; cases h
theorem dp_pf (n : Nat) : ∀ (p : List Int) (t u : Ty), dp n t = true → pf p t = some u → dp n u = true := by
  intro p
  induction p with
  | nil => intro t u h e; rw [pf_nil] at e; cases e; exact h
  | cons i r ih =>
    intro t u h e
    by_cases h2 : t.length = 2
    · obtain ⟨a, b, rfl⟩ := two_of h2
      cases n with
      | zero => simp [dp] at h
      | succ n =>
        rw [dp_two, Bool.and_eq_true] at h
        rw [pf_two] at e
        split at e
        · exact ih _ _ (dp_succ _ _ h.1) e
        · split at e
          · exact ih _ _ (dp_succ _ _ h.2) e
          · cases e
    · rw [pf_odd _ _ _ h2] at e; cases e
theorem rd_mid (pre r : List Int) (i : Int) : rd (pre ++ i :: r) (pre.length : Int) = i := by
  unfold rd
  rw [Int.toNat_natCast, List.getD_eq_getElem?_getD, List.getElem?_append_right (Nat.le_refl _)]
  simp
def at_ (o : Option Ty) : Ty × Bool := match o with | some u => (u, true) | none => ([], false)
theorem specCopy_ev : ∀ (n : Nat) (t : Ty) (k : Nat), dp n t = true → 4 * n ≤ k → spec_l1Copy.f k t = some t := by
  intro n
  induction n with
  | zero => intro t k h; simp [dp] at h
  | succ n ih =>
    intro t k h hk
    obtain ⟨k, rfl⟩ : ∃ m, k = m + 4 := ⟨k - 4, by omega⟩
    simp only [spec_l1Copy.f]
    rcases Types.shape t with rfl | ⟨a, b, rfl⟩ | ⟨h0, h2⟩
    · simp only [spec_l1Copy.l0]; rw [if_neg (by simp)]
    · rw [dp_two, Bool.and_eq_true] at h
      simp only [spec_l1Copy.l0, w01, w12]
      rw [if_pos (by simp), if_pos (by omega), rd0, ih _ _ h.1 (by omega)]; simp only [Option.bind_some]
      rw [if_pos (by simp), if_pos (by simp), if_pos (by omega), rd1, ih _ _ h.2 (by omega)]; simp only [Option.bind_some]
      rw [if_pos (by simp), if_neg (by simp)]
      cases a; cases b; rfl
    · rw [dp_odd _ _ h0 h2] at h; cases h
def tat (t : Ty) (p : List Int) : Ty × Bool := if dp 4 t = true then at_ (pf p t) else ([], false)
theorem specLoop_ev (n : Nat) : ∀ (r pre : List Int) (t : Ty) (k : Nat), dp n t = true → pre.length + r.length ≤ 4611686018427387904 → r.length + 4 * n + 1 ≤ k →
    spec_TypeAt.l0 k (pre ++ r) (pre.length : Int) t = some (at_ (pf r t)) := by
  intro r
  induction r with
  | nil =>
    intro pre t k d h1 hk
    obtain ⟨k, rfl⟩ : ∃ m, k = m + 1 := ⟨k - 1, by omega⟩
    simp only [List.length_nil] at hk
    simp only [spec_TypeAt.l0]
    rw [if_neg (by simp), specCopy_ev n t k d (by omega), pf_nil]; rfl
  | cons i r ih =>
    intro pre t k d h1 hk
    simp only [List.length_cons] at h1 hk
    obtain ⟨k, rfl⟩ : ∃ m, k = m + 1 := ⟨k - 1, by omega⟩
    simp only [spec_TypeAt.l0, spec_l6In.f]
    have hl : ((pre ++ i :: r).length : Int) = pre.length + 1 + r.length := by simp; omega
    rw [if_pos (by omega), if_pos (by omega), rd_mid]
    rcases Types.shape t with rfl | ⟨a, b, rfl⟩ | ⟨h0, h2⟩
    · rw [pf_odd _ _ _ (by simp), show wrap64 ((([] : Ty).length : Int) - 1) = -1 from w64 (by simp) (by simp)]
      by_cases hn : i ≥ 0
      · rw [if_pos hn]; simp only [Option.bind_some]; rw [if_neg (by simp; omega)]; rfl
      · rw [if_neg hn]; rfl
    · rw [pf_two, show wrap64 ((([a, b] : Ty).length : Int) - 1) = 1 from w64 (by simp) (by simp)]
      cases n with
      | zero => simp [dp] at d
      | succ n =>
        rw [dp_two, Bool.and_eq_true] at d
        by_cases hn : i ≥ 0
        · rw [if_pos hn]; simp only [Option.bind_some]
          by_cases hb : i ≤ 1
          · rw [if_pos (by simpa using hb), if_pos (by omega), if_pos (by simp; omega), w64 (by omega) (by omega)]
            have ea : pre ++ i :: r = (pre ++ [i]) ++ r := by simp
            have el : (pre.length : Int) + 1 = ((pre ++ [i]).length : Int) := by simp
            rw [el, ea]
            by_cases h0 : i = 0
            · rw [if_pos h0, h0, rd0, ih _ _ _ (dp_succ _ _ d.1) (by simp; omega) (by omega)]
            · rw [if_neg h0, if_pos (by omega), show i = 1 by omega, rd1, ih _ _ _ (dp_succ _ _ d.2) (by simp; omega) (by omega)]
          · rw [if_neg (by simpa using hb), if_neg (by omega), if_neg (by omega)]; rfl
        · rw [if_neg hn, if_neg (show ¬ i = 0 by omega), if_neg (show ¬ i = 1 by omega)]; rfl
    · rw [dp_odd _ _ h0 h2] at d; cases d
theorem specTypeAt_ev (t : Ty) (p : List Int) (k : Nat) (h : p.length ≤ 4611686018427387904) (hk : p.length + 30 ≤ k) : spec_TypeAt.f k t p = some (tat t p) := by
  unfold spec_TypeAt.f tat
  rw [specOk_ev t k (by omega)]; simp only [Option.bind_some]
  by_cases d : dp 4 t = true
  · rw [if_pos d, if_pos d]
    have := specLoop_ev 4 p [] t k d (by simpa using h) (by omega)
    simpa using this
  · rw [if_neg d, if_neg d]
theorem tat_ok (t : Ty) (p : List Int) : dp 4 (tat t p).1 = true := by
  unfold tat
  split
  · rename_i d
    cases e : pf p t with
    | none => rfl
    | some u => exact dp_pf 4 _ _ _ d e
  · rfl
theorem rdT_dph (d : Nat) (t : Ty) (h : Dph (d + 1) t) (i : Int) : Dph d (rd_T50 t i).f0 := by
  unfold rd_T50
  rw [List.getD_eq_getElem?_getD]
  cases e : t[i.toNat]? with
  | none => exact dph_nil d
  | some x => exact h x (List.mem_of_getElem? e)
theorem pathLoop_ev (s : List Int) (hs : Bytes s) : ∀ (d : Nat) (t : Ty), d ≤ 1000 → Dph d t → ∀ (p : Int) (pre : List Int), 0 ≤ p → p + 2 * d + 3 ≤ 1099511627776 → pre.length + d ≤ 1000 →
    ∃ r u q, (∀ k, d + 3 ≤ k → spec_l71Path.l0 k pre s p t = some (r, u, q)) ∧ p ≤ q ∧ q ≤ p + 2 * d + 1 ∧ r.length ≤ pre.length + d := by
  intro d
  induction d with
  | zero =>
    intro t _ h p pre hp hp1 hl
    rw [show t = [] from h]
    refine ⟨pre, [], p, fun k hk => ?_, by omega, by omega, by omega⟩
    obtain ⟨k, rfl⟩ : ∃ m, k = m + 1 := ⟨k - 1, by omega⟩
    simp only [spec_l71Path.l0]
    rw [if_neg (by simp)]
  | succ d ih =>
    intro t hd h p pre hp hp1 hl
    by_cases h0 : (t.length : Int) > 0
    · obtain ⟨c, hc, c0, c1⟩ := pick_ev s hs p 3 hp (by omega) (by omega)
      by_cases hcp : c > 0
      · obtain ⟨i, hi, i0, i1⟩ := pick_ev s hs (p + 1) (t.length : Int) (by omega) (by omega) (by omega)
        obtain ⟨r, u, q, hr, hq, hq2, hrl⟩ := ih (rd_T50 t i).f0 (by omega) (rdT_dph _ _ h i) (p + 1 + 1) (pre ++ [i]) (by omega) (by omega) (by simp; omega)
        refine ⟨r, u, q, fun k hk => ?_, by omega, by omega, by simp at hrl; omega⟩
        obtain ⟨k, rfl⟩ : ∃ m, k = m + 1 := ⟨k - 1, by omega⟩
        simp only [spec_l71Path.l0]
        rw [if_pos h0, hc k (by omega)]; simp only [Option.bind_some]
        rw [if_pos hcp, hi k (by omega)]; simp only [Option.bind_some]
        rw [if_pos (by omega), if_pos i0, if_pos i1]
        exact hr k (by omega)
      · refine ⟨pre, t, p + 1, fun k hk => ?_, by omega, by omega, by omega⟩
        obtain ⟨k, rfl⟩ : ∃ m, k = m + 1 := ⟨k - 1, by omega⟩
        simp only [spec_l71Path.l0]
        rw [if_pos h0, hc k (by omega)]; simp only [Option.bind_some]
        rw [if_neg hcp]
    · refine ⟨pre, t, p, fun k hk => ?_, by omega, by omega, by omega⟩
      obtain ⟨k, rfl⟩ : ∃ m, k = m + 1 := ⟨k - 1, by omega⟩
      simp only [spec_l71Path.l0]
      rw [if_neg h0]
theorem any_ev (s : List Int) (hs : Bytes s) (d : Nat) (t : Ty) (hd : d ≤ 900) (h : Dph d t) (p : Int) (hp : 0 ≤ p) (hp1 : p ≤ 1099511620000) :
    ∃ r q, (∀ k, d + 4 ≤ k → spec_l71Any.f k s p t = some (r, q)) ∧ p ≤ q ∧ q ≤ p + 2 * d + 3 ∧ r.length ≤ d + 1 := by
  obtain ⟨r, u, q, hr, hq, hq2, hl⟩ := pathLoop_ev s hs d t (by omega) h p [] hp (by omega) (by simp; omega)
  simp only [List.length_nil] at hl
  obtain ⟨c, hc, c0, c1⟩ := pick_ev s hs q 6 (by omega) (by omega) (by omega)
  have hf : ∀ k, d + 4 ≤ k → spec_l71Path.f k s p t = some (r, u, q) := fun k hk => hr k (by omega)
  by_cases e : c = 0
  · obtain ⟨c', hc', _, _⟩ := pick_ev s hs (q + 1) 4 (by omega) (by omega) (by omega)
    refine ⟨r ++ [wrap64 (c' - 1)], q + 1 + 1, fun k hk => ?_, by omega, by omega, by simp; omega⟩
    unfold spec_l71Any.f
    rw [hf k hk]; simp only [Option.bind_some]
    rw [hc k (by omega)]; simp only [Option.bind_some]
    rw [if_pos e, hc' k (by omega)]; simp only [Option.bind_some]
    rw [if_pos (by omega)]
  · refine ⟨r, q + 1, fun k hk => ?_, by omega, by omega, by omega⟩
    unfold spec_l71Any.f
    rw [hf k hk]; simp only [Option.bind_some]
    rw [hc k (by omega)]; simp only [Option.bind_some]
    rw [if_neg e]
end Go.Proofs.Ythfflieeifakdaa.Paths
end
