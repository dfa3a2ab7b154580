-- Written by this session's own program (hfprint) out of the translation. Not trusted: Lean checks it.
import Derived.Test.YtjhbhihfifhljaaPAz
import Derived.Test.YtjhbhihfifhljaaPAx14
import Derived.Test.YtjhbhihfifhljaaPAx16
import Derived.Test.YtjhbhihfifhljaaPAx17
import Derived.Test.YtjhbhihfifhljaaPAx56
namespace Go.Proofs.Ytjhbhihfifhljaa.PA
open Go.RowKit Go.Proofs.YtjhbhihfifhljaaW.PrintWords Go.Proofs.YtjhbhihfifhljaaW.PrintLast Go.Proofs.YtjhbhihfifhljaaW.PrintMore
attribute [local go_sem] max2_int min2_int max_two min_two max_three min_three max_four min_four   -- for this text's walks alone
set_option linter.unusedVariables false
set_option linter.unusedSimpArgs false

/-! ### spec_DrawTypeAt: function 32 -/
def spec_DrawTypeAt.f (k : Nat) (l0 : List Int) : Option ((List (S30)) × List Int) := (spec_l6Open.f l0).bind fun bt563 => ((spec_l71Deep.f k bt563.1 bt563.2).bind fun bt566 => ((spec_l71Any.f k bt563.1 bt566.2 bt566.1).bind fun bt571 => (some (bt566.1, bt571.1))))
theorem spec_DrawTypeAt.mono : ∀ a0 k, LeO (spec_DrawTypeAt.f k a0) (spec_DrawTypeAt.f (k + 1) a0) := by
 intro a0 k
 unfold spec_DrawTypeAt.f
 repeat' first
   | (with_reducible exact spec_l71Any.mono _ _ _ _)
   | (with_reducible exact spec_l71Deep.mono _ _ _)
   | (with_reducible exact LeO.refl _)
   | (with_reducible exact LeO.none _)
   | (with_reducible refine LeO.ite ?_ ?_)
   | (with_reducible refine LeO.bind ?_ (fun _ => ?_))
   | exact spec_l71Any.mono _ _ _ _
   | exact spec_l71Deep.mono _ _ _
   | exact LeO.none _
   | refine LeO.ite ?_ ?_
   | refine LeO.bind ?_ (fun _ => ?_)
set_option maxHeartbeats 8000000 in
set_option maxRecDepth 100000 in
theorem spec_DrawTypeAt.calls (k : Nat) (A0 : Option Addr) (c0 : Nat) (l0 : List Int) (r1 : List (S30)) (r2 : List Int) (w : World) (hr0 : Kd.C (Kd.int .u8) w A0 l0.length l0) (hc0 : l0.length ≤ c0) (h : spec_DrawTypeAt.f k l0 = some (r1, r2)) :
  Calls Try.prog 32 #[.slice A0 l0.length c0] w fun e w' => ∃ v0_ v1_ : Value, e = .returned (.tuple #[.agg #[v0_], v1_]) ∧ Kd.N k30 30 w' w.heap.size (fun k_ => (w.heap.size ≤ k_) ∧ some k_ ≠ (v1_ : Value).ownBlock) v0_ r1 ∧ Kd.R (Kd.int .i64) 3 w' w.heap.size (fun k_ => (w.heap.size ≤ k_)) v1_ r2 ∧ Below w.heap.size w w' := by
 have hu30 := Try.underlying30
 have HR0 := Aside0.mk hr0
 have HC0 := Aside0.mk hc0
 clear hr0 hc0
 have HB := Aside0.mk (Below.refl w.heap.size w)
 have H : ((spec_l6Open.f l0).bind fun bt563 => ((spec_l71Deep.f k bt563.1 bt563.2).bind fun bt566 => ((spec_l71Any.f k bt563.1 bt566.2 bt566.1).bind fun bt571 => (some (bt566.1, bt571.1))))) = some (r1, r2) := h
 clear h
 replace H := Option.bind_eq_some_iff.mp H
 obtain ⟨⟨t563, t564⟩, A20, H⟩ := H
 replace H : ((spec_l71Deep.f k t563 t564).bind fun bt566 => ((spec_l71Any.f k t563 bt566.2 bt566.1).bind fun bt571 => (some (bt566.1, bt571.1)))) = some (r1, r2) := H
 have A2 := Aside0.mk A20
 clear A20
 replace H := Option.bind_eq_some_iff.mp H
 obtain ⟨⟨t566, t569⟩, A30, H⟩ := H
 replace H : ((spec_l71Any.f k t563 t569 t566).bind fun bt571 => (some (t566, bt571.1))) = some (r1, r2) := H
 have A3 := Aside0.mk A30
 clear A30
 replace H := Option.bind_eq_some_iff.mp H
 obtain ⟨⟨t571, t574⟩, A40, H⟩ := H
 replace H : (some (t566, t571)) = some (r1, r2) := H
 have A4 := Aside0.mk A40
 clear A40
 simp only [Option.some.injEq, Prod.mk.injEq] at H
 obtain ⟨rfl, rfl⟩ := H
 go_enter Try.func32, Try.ntmps32
 try go_wp2_with (first | ((with_reducible refine gate_dst (N := 2) rfl ?_); refine box_event ?hg (N := 2) ?hd (cs := #[.slice none 0 0]) (t := 30) ?hr ?_; (case hd => rfl); (case hg => rfl); (case hr => first | (go_simp; done) | (go_simp; rfl)); intro gb562 hg w5 hbox hb; have n0_ := Aside0.mk (below_step (y0 HB.out) hb); have n1_ := Aside0.mk (hbox); have n2_ := Aside0.mk ((y3 hg HB.out : w.heap.size ≤ gb562)); have n3_ := Aside0.mk ((y3 hg HB.out : w.heap.size ≤ gb562)); clear HB; have HB := n0_; have BK562 := n1_; have GW562 := n2_; have GE562 := n3_; clear n0_ n1_ n2_ n3_; clear hb hbox hg) | ((with_reducible refine gate_callee (f := 52) rfl ?_); refine goesL_ (some 7) rfl rfl Try.func52 (by kernel_rfl) rfl #[.slice A0 l0.length c0] rfl (by (try simp only [List.map_toArray, List.map_cons, List.map_nil]); first | done | rfl | (simp only [List.length_drop, List.length_take]; rfl)) ?_; (with_reducible refine (spec_l6Open.calls _ _ l0 t563 t564 w _ ?side1 ?side2 ?side3 A2.out).mono ?_); (case side1 => exact y1 HB.out GE562.out); (case side2 => exact HR0.out); (case side3 => exact HC0.out); rintro e w6 ⟨g565, rfl, hi, hb, hb2⟩; refine ⟨_, rfl, ?_⟩; have n0_ := Aside0.mk (blk_below (g := gb562) (o := .cells #[.slice none 0 0] 30 (0, 0)) (y4 BK562.out) hb2); have n1_ := Aside0.mk (hb); have n2_ := Aside0.mk (hi); have n3_ := Aside0.mk (IsS95.ne_blk hi (blk_below (g := gb562) (o := .cells #[.slice none 0 0] 30 (0, 0)) (y4 BK562.out) hb2) (by decide)); have n4_ := Aside0.mk (Ne.symm (IsS95.ne_blk hi (blk_below (g := gb562) (o := .cells #[.slice none 0 0] 30 (0, 0)) (y4 BK562.out) hb2) (by decide))); clear BK562; clear HB; have BK562 := n0_; have HB := n1_; have HI565 := n2_; have NB565_562 := n3_; have NB562_565 := n4_; clear n0_ n1_ n2_ n3_ n4_; (try clear hb); (try clear hb2); (try clear hk); (try clear hi)) | ((with_reducible refine gate_callee (f := 51) rfl ?_); refine goesL_ (some 9) rfl rfl Try.func51 (by kernel_rfl) rfl #[.pointer (some ⟨g565, 0, none⟩)] rfl (by (try simp only [List.map_toArray, List.map_cons, List.map_nil]); first | done | rfl | (simp only [List.length_drop, List.length_take]; rfl)) ?_; (with_reducible refine (spec_l71Deep.calls k g565 t563 t564 t566 t569 w _ ?side1 ?side2 A3.out).mono ?_); (case side1 => exact y19 HI565.out NB565_562.out); (case side2 => exact y18 HB.out HI565.out GE562.out); rintro e w7 ⟨v567, rfl, ho0, hi, hb, hk⟩; refine ⟨_, rfl, ?_⟩; have n0_ := Aside0.mk (KeepBut.blk hk (g' := gb562) (o := .cells #[.slice none 0 0] 30 (0, 0)) (y4 BK562.out) NB562_565.out (by simp)); have n1_ := Aside0.mk (Kd.N_lower (Kd.N_mono (ok' := fun k_ => (w.heap.size ≤ k_) ∧ k_ ≠ gb562 ∧ k_ ≠ g565) ho0 (fun k_ hk_ => ⟨(Nat.le_trans (below_size (y18 HB.out HI565.out GE562.out)) hk_), (Kd.freshB (g := gb562) (o := .cells #[.slice none 0 0] 30 (0, 0)) (y4 BK562.out) k_ hk_), (IsS95.fresh (y19 HI565.out NB565_562.out) k_ hk_)⟩)) (below_size (y18 HB.out HI565.out GE562.out))); have n2_ := Aside0.mk (hb); have n3_ := Aside0.mk (hi); clear BK562; clear HB; clear HI565; have BK562 := n0_; have HO568 := n1_; have HB := n2_; have HI565 := n3_; clear n0_ n1_ n2_ n3_; (try clear hb); (try clear hb2); (try clear hk); (try clear hi); (try clear ho0)) | ((with_reducible refine gate_dst (N := 5) rfl ?_); refine box_event ?hg (N := 5) ?hd (cs := #[.slice none 0 0]) (t := 30) ?hr ?_; (case hd => rfl); (case hg => rfl); (case hr => first | (go_simp; done) | (go_simp; rfl)); intro gb570 hg w8 hbox hb; have n0_ := Aside0.mk (Kd.N_below (Kd.N_elderB (y7 HO568.out) gb570 (Nat.le_of_eq hg.symm)) hb); have n1_ := Aside0.mk (zbb BK562.out hb); have n2_ := Aside0.mk (IsS95.below (y19 HI565.out NB565_562.out) hb); have n3_ := Aside0.mk (below_step (y18 HB.out HI565.out GE562.out) hb); have n4_ := Aside0.mk (hbox); have n5_ := Aside0.mk ((y43 hg HB.out HI565.out GE562.out : w.heap.size ≤ gb570)); have n6_ := Aside0.mk ((y43 hg HB.out HI565.out GE562.out : w.heap.size ≤ gb570)); have n7_ := Aside0.mk (zltn hg BK562.out); have n8_ := Aside0.mk (zgtn hg BK562.out); have n9_ := Aside0.mk ((by rw [hg]; exact Nat.ne_of_lt (IsS95.lt (show IsS95 w _ g565 t563 t569 from by repeat (first | (with_reducible first | exact HI565.out | apply IsS95.alloc | apply IsS95.drewN | apply IsS95.drew | apply IsS95.set_1 | refine IsS95.far ?_ NB565_562.out _) | exact HI565.out))) : g565 ≠ gb570)); have n10_ := Aside0.mk ((by rw [hg]; exact Nat.ne_of_gt (IsS95.lt (show IsS95 w _ g565 t563 t569 from by repeat (first | (with_reducible first | exact HI565.out | apply IsS95.alloc | apply IsS95.drewN | apply IsS95.drew | apply IsS95.set_1 | refine IsS95.far ?_ NB565_562.out _) | exact HI565.out))) : gb570 ≠ g565)); clear HO568; clear BK562; clear HI565; clear HB; have HO568 := n0_; have BK562 := n1_; have HI565 := n2_; have HB := n3_; have BK570 := n4_; have GW570 := n5_; have GE570 := n6_; have NB562_570 := n7_; have NB570_562 := n8_; have NB565_570 := n9_; have NB570_565 := n10_; clear n0_ n1_ n2_ n3_ n4_ n5_ n6_ n7_ n8_ n9_ n10_; clear hb hbox hg; obtain ⟨Ao9, co9, eo9⟩ := Kd.N_slice HO568.out; subst eo9; have hnb10 := NB570_562.out; have hnc10 := NB562_570.out; have hnb11 := NB570_565.out; have hnc11 := NB565_570.out; have hcz12_0 : w8.cell? ⟨gb570, 0, none⟩ = some (.slice none 0 0) := (blk_cell BK570.out 0).trans rfl; have hfz12_0 := blk_frozen BK570.out 0))
 have n0_ : Aside0 (Kd.N k30 30 (w8.setCell ⟨gb570, 0, none⟩ (.slice Ao9 t566.length co9)) w.heap.size (fun k_ => (w.heap.size ≤ k_) ∧ k_ ≠ gb562 ∧ k_ ≠ g565 ∧ k_ ≠ gb570) (.slice Ao9 t566.length co9) t566) := ⟨by (with_reducible repeat (first | apply Kd.N_alloc | apply Kd.N_drewN | apply Kd.N_drew)); exact Kd.N_mono (Kd.N_far (p := ⟨gb570, 0, none⟩) (Kd.N_mono HO568.out (fun k_ hk => (⟨hk, hk.2⟩ : _ ∧ k_ ≠ gb570))) (fun _ hk => hk.2) (.slice Ao9 t566.length co9)) (fun _ hk => ⟨hk.1.1.1, ⟨hk.1.1.2.1, ⟨hk.1.1.2.2, hk.1.2⟩⟩⟩)⟩
 have n1_ : Aside0 ((w8.setCell ⟨gb570, 0, none⟩ (.slice Ao9 t566.length co9)).heap[gb562]? = some (.cells #[.slice none 0 0] 30 (0, 0))) := ⟨by (with_reducible repeat (first | refine blk_drewN ?_ _ | refine blk_drew ?_ | refine blk_alloc ?_ _)); refine blk_far ?_ NB562_570.out _; (with_reducible repeat (first | refine blk_drewN ?_ _ | refine blk_drew ?_ | refine blk_alloc ?_ _)); exact BK562.out⟩
 have n2_ : Aside0 ((w8.setCell ⟨gb570, 0, none⟩ (.slice Ao9 t566.length co9)).heap[gb570]? = some (.cells #[.slice Ao9 t566.length co9] 30 (0, 0))) := ⟨by (with_reducible repeat (first | refine blk_drewN ?_ _ | refine blk_drew ?_ | refine blk_alloc ?_ _)); refine blk_put (cs := #[.slice none 0 0]) ?_ 0 _ rfl; (with_reducible repeat (first | refine blk_drewN ?_ _ | refine blk_drew ?_ | refine blk_alloc ?_ _)); exact BK570.out⟩
 have n3_ : Aside0 (IsS95 w (w8.setCell ⟨gb570, 0, none⟩ (.slice Ao9 t566.length co9)) g565 t563 t569) := ⟨by repeat (first | (with_reducible first | exact HI565.out | apply IsS95.alloc | apply IsS95.drewN | apply IsS95.drew | apply IsS95.set_1 | refine IsS95.far ?_ NB565_562.out _ | refine IsS95.far ?_ NB565_570.out _) | exact HI565.out)⟩
 have n4_ : Aside0 (Below w.heap.size w (w8.setCell ⟨gb570, 0, none⟩ (.slice Ao9 t566.length co9))) := ⟨by repeat (first | (with_reducible first | exact HB.out | apply below_alloc | apply pw_below_drewN | apply below_drew1 | refine below_set ?_ (IsS95.ge HI565.out) | refine below_set ?_ GE562.out | refine below_set ?_ GE570.out) | exact HB.out)⟩
 (try clear HO568)
 (try clear BK562)
 (try clear BK570)
 (try clear HI565)
 (try clear HB)
 generalize (w8.setCell ⟨gb570, 0, none⟩ (.slice Ao9 t566.length co9)) = w13 at n0_ n1_ n2_ n3_ n4_ ⊢
 have HO568 := n0_
 have BK562 := n1_
 have BK570 := n2_
 have HI565 := n3_
 have HB := n4_
 clear n0_ n1_ n2_ n3_ n4_
 replace HO568 := Aside0.mk (Kd.N_drew HO568.out)
 replace BK562 := Aside0.mk (blk_drew BK562.out)
 replace BK570 := Aside0.mk (blk_drew BK570.out)
 replace HI565 := Aside0.mk (IsS95.drew HI565.out)
 replace HB := Aside0.mk (below_drew1 HB.out)
 refine start_ (n := 6) (S := fun w' => w'.cell? ⟨gb570, 0, none⟩ = some (.slice Ao9 t566.length co9)) (ds := []) #[false, false, false, false, false, false] (by kernel_rfl) rfl rfl ((blk_cell BK570.out 0).trans rfl) (fun hHeld => ?_)
 generalize w13.drew = w14 at HO568 BK562 BK570 HI565 HB hHeld ⊢
 refine pure_ (i := 1) (N := some 11) (v := ?_) (a' := ?_) #[false, true, false, false, false, false] rfl rfl (by kernel_rfl) (fun _ _ _ h => h) (Or.inl ⟨by rfl, ?_⟩) ?_ ?_
 rotate_left
 ·intro w'
  go_simp
  with_reducible rfl
 rotate_left
 ·simp only [Act.put, List.setIfInBounds_toArray, List.set_cons_zero, List.set_cons_succ, i64_w, i32_w]
  rfl
 refine take_ (i := 0) (N := some 10) (v := ?_) (a' := ?_) #[true, true, false, false, false, false] rfl rfl (by kernel_rfl) (fun _ _ _ h => h) (Or.inl ⟨by rfl, ?_⟩) hHeld ?_ ?_
 rotate_left
 ·intro w' s0
  go_simp
  with_reducible rfl
 rotate_left
 ·simp only [Act.put, List.setIfInBounds_toArray, List.set_cons_zero, List.set_cons_succ, i64_w, i32_w]
  rfl
 refine take_ (i := 2) (N := some 12) (v := ?_) (a' := ?_) #[true, true, true, false, false, false] rfl rfl (by kernel_rfl) (fun _ _ _ h => h) (Or.inl ⟨by rfl, ?_⟩) hHeld ?_ ?_
 rotate_left
 ·intro w' s0
  go_simp
  with_reducible rfl
 rotate_left
 ·simp only [Act.put, List.setIfInBounds_toArray, List.set_cons_zero, List.set_cons_succ, i64_w, i32_w]
  rfl
 refine one_ (i := 3) (N := some 13) #[true, true, true, true, false, false] rfl rfl (by kernel_rfl) (by decide) (fun K hK => ?_)
 refine goes_ Try.func64 (by kernel_rfl) rfl #[.pointer (some ⟨g565, 0, none⟩), .agg #[.slice Ao9 t566.length co9]] (by rfl) rfl rfl (by (try simp only [List.map_toArray, List.map_cons, List.map_nil]); first | done | rfl | (simp only [List.length_drop, List.length_take]; rfl)) ?_
 with_reducible refine (spec_l71Any.calls k g565 t563 t569 (fun k_ => ((w.heap.size ≤ k_) ∧ (k_ ≠ gb562 ∧ (k_ ≠ g565 ∧ k_ ≠ gb570)))) _ _ t566 t571 t574 w _ ?side1 ?side2 ?side3 A4.out).mono ?_
 (case side1 => exact y15 HI565.out NB565_562.out NB565_570.out)
 (case side2 => exact y12 HB.out HI565.out GE562.out GE570.out)
 (case side3 => exact Kd.V_mono (Kd.N_V (HO568.out)) (fun k_ hk_ => ⟨hk_, hk_.2.2.1⟩))
 rintro e w15 ⟨v572, rfl, ho0, hi, hb, hk⟩
 refine ⟨_, rfl, ?_⟩
 replace BK562 := Aside0.mk (KeepBut.blk hk (g' := gb562) (o := .cells #[.slice none 0 0] 30 (0, 0)) (y4 BK562.out) NB562_565.out (by simp))
 replace HO568 := Aside0.mk (Kd.N_mono (Kd.N_told (Kd.N_oldK (Kd.N_mono (ok := fun k_ => (((w.heap.size ≤ k_)) ∧ (k_ ≠ gb562 ∧ (k_ ≠ g565 ∧ k_ ≠ gb570)))) (y7 HO568.out) (fun k_ hk_ => (⟨hk_, hk_.2.2.1⟩ : _ ∧ k_ ≠ g565))) hk) (Kd.R_base ho0)) (fun _ h_ => h_.1))
 replace BK570 := Aside0.mk (KeepBut.blk hk (g' := gb570) (o := .cells #[.slice Ao9 t566.length co9] 30 (0, 0)) (y4 BK570.out) NB570_565.out (by simp))
 have HO573 := Aside0.mk (Kd.R_lower (Kd.R_newM (M := fun k_ => (w.heap.size ≤ k_)) ho0 (below_size (y12 HB.out HI565.out GE562.out GE570.out)) (fun k_ h_ => h_)) (below_size (y12 HB.out HI565.out GE562.out GE570.out)))
 replace HB := Aside0.mk (hb)
 replace HI565 := Aside0.mk (hi)
 (try clear hb)
 (try clear hb2)
 (try clear hk)
 (try clear hi)
 (try clear ho0)
 refine hK.out _ _ ((blk_cell BK570.out 0).trans rfl) (fun hHeld => ?_)
 clear hK K
 refine norm_ (a' := ?_) ?_ ?_
 rotate_left
 ·show Act.put _ (some 13) _ = _
  simp only [Act.put, List.setIfInBounds_toArray, List.set_cons_zero, List.set_cons_succ, i64_w, i32_w]
  rfl
 refine one_ (i := 4) (N := none) #[true, true, true, true, true, false] rfl rfl (by kernel_rfl) (by decide) (fun K hK => ?_)
 have hs16 : w15.cell? ⟨gb562, 0, none⟩ = some (.slice none 0 0) := (blk_cell BK562.out 0).trans rfl
 have hfs16 := blk_frozen BK562.out 0
 have hns16_1 := NB570_562.out
 have hms16_1 := NB562_570.out
 refine skip_ (w1 := ?_) (by rfl) rfl ?_ ?_
 rotate_left
 ·go_simp
  rfl
 refine hK.out _ _ (((cell_far (p := ⟨gb562, _, none⟩) NB570_562.out _).trans (hHeld))) (fun hHeld => ?_)
 clear hK K
 refine pure_ (i := 5) (N := some 3) (v := ?_) (a' := ?_) #[true, true, true, true, true, true] rfl rfl (by kernel_rfl) (fun _ _ _ h => h) (Or.inl ⟨by rfl, ?_⟩) ?_ ?_
 rotate_left
 ·intro w'
  go_simp
  with_reducible rfl
 rotate_left
 ·simp only [Act.put, List.setIfInBounds_toArray, List.set_cons_zero, List.set_cons_succ, i64_w, i32_w]
  rfl
 refine done_ (by kernel_rfl) ?_
 try go_wp2
 refine bodyPost_ret (results_ct rfl _ _ gb562 30 #[.slice Ao9 t566.length co9] (0, 0) _ rfl (by (with_reducible repeat (first | refine blk_drewN ?_ _ | refine blk_drew ?_ | refine blk_alloc ?_ _)); refine blk_put (cs := #[.slice none 0 0]) ?_ 0 _ rfl; (with_reducible repeat (first | refine blk_drewN ?_ _ | refine blk_drew ?_ | refine blk_alloc ?_ _)); exact BK562.out) Try.underlying30 rfl (by kernel_rfl)) rfl ?_
 exact ⟨_, _, by first | rfl | (simp [errW_none, errW_some] <;> rfl) | (simp [*, errW_none, errW_some] <;> rfl), by (with_reducible repeat (first | apply Kd.N_alloc | apply Kd.N_drewN | apply Kd.N_drew)); exact Kd.N_mono (Kd.N_far (p := ⟨gb562, 0, none⟩) (Kd.N_mono HO568.out (fun k_ hk => (⟨hk, hk.1.2.1⟩ : _ ∧ k_ ≠ gb562))) (fun _ hk => hk.2) (.slice Ao9 t566.length co9)) (fun _ hk => ⟨hk.1.1.1, hk.1.2⟩), by (with_reducible repeat (first | apply Kd.R_alloc | apply Kd.R_drewN | apply Kd.R_drew)); exact Kd.R_mono (Kd.R_far (p := ⟨gb562, 0, none⟩) (Kd.R_types HO573.out BK562.out (by decide)) (fun _ hk => hk.2) (.slice Ao9 t566.length co9)) (fun _ hk => hk.1.1), by repeat (first | (with_reducible first | exact HB.out | apply below_alloc | apply pw_below_drewN | apply below_drew1 | refine below_set ?_ (IsS95.ge HI565.out) | refine below_set ?_ GE562.out | refine below_set ?_ GE570.out) | exact HB.out)⟩

end Go.Proofs.Ytjhbhihfifhljaa.PA
