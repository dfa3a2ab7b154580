-- Written by this session's own program (hfprint) out of the translation. Not trusted: Lean checks it.
import Derived.Test.YtjhbhihfifhljaaPAz
namespace Go.Proofs.Ytjhbhihfifhljaa.PA
open Go.RowKit Go.Proofs.YtjhbhihfifhljaaW.PrintWords Go.Proofs.YtjhbhihfifhljaaW.PrintLast Go.Proofs.YtjhbhihfifhljaaW.PrintMore
attribute [local go_sem] max2_int min2_int max_two min_two max_three min_three max_four min_four   -- for this text's walks alone
set_option linter.unusedVariables false
set_option linter.unusedSimpArgs false

/-! ### spec_l1Copy: function 66 -/
mutual
def spec_l1Copy.l0 : Nat → Int → List (S30) → List (S30) → Option ((List (S30)))
 | 0, _, _, _ => none
 | k + 1, x4, x576000, x578000 => if x4 < (x576000.length : Int) then (if 0 ≤ x4 then ((spec_l1Copy.f k ((rd_T30 x576000 x4).f0)).bind fun t579 => (if x578000.length < 5864062014805 then (spec_l1Copy.l0 k (wrap64 (x4 + 1)) x576000 (x578000 ++ [(⟨t579⟩ : S30)])) else (none))) else (none)) else (some x578000)
def spec_l1Copy.f : Nat → List (S30) → Option ((List (S30)))
 | 0, _ => none
 | k + 1, l0_0 => spec_l1Copy.l0 k 0 l0_0 ([] : List (S30))
end
theorem spec_l1Copy.mono_l : ∀ k, (∀ y0, LeO (spec_l1Copy.f k y0) (spec_l1Copy.f (k + 1) y0)) ∧ (∀ y0 y1 y2, LeO (spec_l1Copy.l0 k y0 y1 y2) (spec_l1Copy.l0 (k + 1) y0 y1 y2))
 | 0 => ⟨fun _ r h => by simp [spec_l1Copy.f] at h, fun _ _ _ r h => by simp [spec_l1Copy.l0] at h⟩
 | k + 1 => by
  obtain ⟨ih0, ih1⟩ := spec_l1Copy.mono_l k
  refine ⟨?_, ?_⟩
  ·intro y0
   unfold spec_l1Copy.f
   repeat' first
   | (with_reducible exact ih0 _)
   | (with_reducible exact ih1 _ _ _)
   | (with_reducible exact LeO.refl _)
   | (with_reducible exact LeO.none _)
   | (with_reducible refine LeO.ite ?_ ?_)
   | (with_reducible refine LeO.bind ?_ (fun _ => ?_))
   | exact ih0 _
   | exact ih1 _ _ _
   | exact LeO.none _
   | refine LeO.ite ?_ ?_
   | refine LeO.bind ?_ (fun _ => ?_)
  ·intro y0 y1 y2
   unfold spec_l1Copy.l0
   repeat' first
   | (with_reducible exact ih0 _)
   | (with_reducible exact ih1 _ _ _)
   | (with_reducible exact LeO.refl _)
   | (with_reducible exact LeO.none _)
   | (with_reducible refine LeO.ite ?_ ?_)
   | (with_reducible refine LeO.bind ?_ (fun _ => ?_))
   | exact ih0 _
   | exact ih1 _ _ _
   | exact LeO.none _
   | refine LeO.ite ?_ ?_
   | refine LeO.bind ?_ (fun _ => ?_)
theorem spec_l1Copy.mono : ∀ a0 k, LeO (spec_l1Copy.f k a0) (spec_l1Copy.f (k + 1) a0) := by
 intro a0 k
 obtain ⟨ih0, ih1⟩ := spec_l1Copy.mono_l k
 exact ih0 a0
def spec_l1Copy.T5 : Bool × List (List Nat × List Nat) := (true, [([], []), ([0], [0]), ([], []), ([2], [2]), ([], []), ([3, 4], [3, 4]), ([5], [5]), ([6], [6]), ([7], [7]), ([1, 8, 7], [1, 8]), ([0, 1, 2, 3, 4, 5, 6, 7, 8, 9], []), ([10, 9, 9, 0, 1, 2, 3, 4, 5, 6, 7, 8, 9], [9, 10])])
def spec_l1Copy.B5 : List Nat := [0, 1, 0, 4, 0, 28, 60, 124, 252, 511, 1023, 2047]
theorem spec_l1Copy.tab5 : rtab .any (opsOf Try.f66 5) = spec_l1Copy.T5 := by kernel_rfl
theorem spec_l1Copy.bits5 : waitsOk spec_l1Copy.T5.2 spec_l1Copy.B5 = true := by kernel_rfl
set_option maxHeartbeats 8000000 in
set_option maxRecDepth 100000 in
theorem spec_l1Copy.calls (k : Nat) : ∀ (A0_0 : Option Addr) (c0_0 : Nat) (l0_0 : List (S30)) (r : List (S30)) (w : World) (hr0_0 : Kd.C k30 w A0_0 l0_0.length l0_0) (hc0_0 : l0_0.length ≤ c0_0) (h : spec_l1Copy.f k l0_0 = some r),
  Calls Try.prog 66 #[.agg #[.slice A0_0 l0_0.length c0_0]] w fun e w' => ∃ v0_ : Value, e = .returned (.agg #[v0_]) ∧ Kd.R k30 30 w' w.heap.size (fun _ => True) v0_ r ∧ Below w.heap.size w w' := by
 induction k using Nat.strongRecOn with
 | _ k ih =>
 intro A0_0 c0_0 l0_0 r w hr0_0 hc0_0 h
 cases k with
 | zero => exact absurd h (by simp [spec_l1Copy.f])
 | succ k =>
 simp only [spec_l1Copy.f] at h
 have hu30 := Try.underlying30
 have HR0_0 := Aside0.mk hr0_0
 have HC0_0 := Aside0.mk hc0_0
 clear hr0_0 hc0_0
 have HB := Aside0.mk (Below.refl w.heap.size w)
 have H : (spec_l1Copy.l0 k 0 l0_0 ([] : List (S30))) = some r := h
 clear h
 have H' := Aside0.mk H
 clear H
 go_enter Try.func66, Try.ntmps66
 go_wp2_with (first | ((with_reducible refine gate_dst (N := 1) rfl ?_); refine box_event ?hg (N := 1) ?hd (cs := #[.slice A0_0 l0_0.length c0_0]) (t := 30) ?hr ?_; (case hd => rfl); (case hg => rfl); (case hr => first | (go_simp; done) | (go_simp; rfl)); intro gb575 hg w2 hbox hb; have n0_ := Aside0.mk (below_step (y0 HB.out) hb); have n1_ := Aside0.mk (hbox); have n2_ := Aside0.mk ((y3 hg HB.out : w.heap.size ≤ gb575)); have n3_ := Aside0.mk ((y3 hg HB.out : w.heap.size ≤ gb575)); clear HB; have HB := n0_; have BK575 := n1_; have GW575 := n2_; have GE575 := n3_; clear n0_ n1_ n2_ n3_; clear hb hbox hg) | ((with_reducible refine gate_dst (N := 2) rfl ?_); refine box_event ?hg (N := 2) ?hd (cs := #[.slice none 0 0]) (t := 30) ?hr ?_; (case hd => rfl); (case hg => rfl); (case hr => first | (go_simp; done) | (go_simp; rfl)); intro gb576 hg w3 hbox hb; have n0_ := Aside0.mk (zbb BK575.out hb); have n1_ := Aside0.mk (below_step (y1 HB.out GE575.out) hb); have n2_ := Aside0.mk (hbox); have n3_ := Aside0.mk ((y5 hg HB.out GE575.out : w.heap.size ≤ gb576)); have n4_ := Aside0.mk ((y5 hg HB.out GE575.out : w.heap.size ≤ gb576)); have n5_ := Aside0.mk (zltn hg BK575.out); have n6_ := Aside0.mk (zgtn hg BK575.out); clear BK575; clear HB; have BK575 := n0_; have HB := n1_; have BK576 := n2_; have GW576 := n3_; have GE576 := n4_; have NB575_576 := n5_; have NB576_575 := n6_; clear n0_ n1_ n2_ n3_ n4_ n5_ n6_; clear hb hbox hg) | ((with_reducible refine gate_dst (N := 3) rfl ?_); refine box_event ?hg (N := 3) ?hd (cs := #[.slice none 0 0]) (t := 30) ?hr ?_; (case hd => rfl); (case hg => rfl); (case hr => first | (go_simp; done) | (go_simp; rfl)); intro gb577 hg w4 hbox hb; have n0_ := Aside0.mk (zbb BK575.out hb); have n1_ := Aside0.mk (zbb BK576.out hb); have n2_ := Aside0.mk (below_step (y2 HB.out GE575.out GE576.out) hb); have n3_ := Aside0.mk (hbox); have n4_ := Aside0.mk ((y17 hg HB.out GE575.out GE576.out : w.heap.size ≤ gb577)); have n5_ := Aside0.mk ((y17 hg HB.out GE575.out GE576.out : w.heap.size ≤ gb577)); have n6_ := Aside0.mk (zltn hg BK575.out); have n7_ := Aside0.mk (zgtn hg BK575.out); have n8_ := Aside0.mk (zltn hg BK576.out); have n9_ := Aside0.mk (zgtn hg BK576.out); clear BK575; clear BK576; clear HB; have BK575 := n0_; have BK576 := n1_; have HB := n2_; have BK577 := n3_; have GW577 := n4_; have GE577 := n5_; have NB575_577 := n6_; have NB577_575 := n7_; have NB576_577 := n8_; have NB577_576 := n9_; clear n0_ n1_ n2_ n3_ n4_ n5_ n6_ n7_ n8_ n9_; clear hb hbox hg; have hnb5 := NB577_575.out; have hnc5 := NB575_577.out; have hnb6 := NB577_576.out; have hnc6 := NB576_577.out; have hcz7_0 : w4.cell? ⟨gb577, 0, none⟩ = some (.slice none 0 0) := (blk_cell BK577.out 0).trans rfl; have hfz7_0 := blk_frozen BK577.out 0))
 go_loopg [4] k (fun kq v4 w' => ∃ (x4_1 : Int) (x578000_1 : List (S30)) (u578000 : Value), v4 = .int .i64 x4_1 ∧ Aside0 (spec_l1Copy.l0 kq x4_1 l0_0 x578000_1 = some r) ∧ Aside0 (kq ≤ k) ∧ Aside0 (Kd.R k30 30 w' w.heap.size (fun k_ => k_ ≠ gb575 ∧ k_ ≠ gb576 ∧ k_ ≠ gb577) u578000 x578000_1) ∧ Aside0 (w'.heap[gb575]? = some (.cells #[(.slice A0_0 l0_0.length c0_0)] 30 (0, 0))) ∧ Aside0 (w'.heap[gb576]? = some (.cells #[(.slice none 0 0)] 30 (0, 0))) ∧ Aside0 (w'.heap[gb577]? = some (.cells #[u578000] 30 (0, 0))) ∧ Aside0 (Below w.heap.size w w'))
 case atStart => exact ⟨(0), (([] : List (S30))), (.slice none 0 0), (by first | rfl | (simp; done) | (simp [*]; done)), H', ⟨Nat.le_refl _⟩, ⟨by first | exact Kd.R_nil _ _ _ _ _ | exact Kd.N_nil _ _ _ _ _ | exact Kd.V_nil _ _ _ _ _ | exact Kd.Q_nil _ _ _ _ _ | exact Kd.S_nil _ _ _ _ _⟩, ⟨by (with_reducible repeat (first | refine blk_drewN ?_ _ | refine blk_drew ?_ | refine blk_alloc ?_ _)); refine blk_far ?_ NB575_577.out _; (with_reducible repeat (first | refine blk_drewN ?_ _ | refine blk_drew ?_ | refine blk_alloc ?_ _)); exact BK575.out⟩, ⟨by (with_reducible repeat (first | refine blk_drewN ?_ _ | refine blk_drew ?_ | refine blk_alloc ?_ _)); refine blk_far ?_ NB576_577.out _; (with_reducible repeat (first | refine blk_drewN ?_ _ | refine blk_drew ?_ | refine blk_alloc ?_ _)); exact BK576.out⟩, ⟨by (with_reducible repeat (first | refine blk_drewN ?_ _ | refine blk_drew ?_ | refine blk_alloc ?_ _)); refine blk_put (cs := #[.slice none 0 0]) ?_ 0 _ rfl; (with_reducible repeat (first | refine blk_drewN ?_ _ | refine blk_drew ?_ | refine blk_alloc ?_ _)); exact BK577.out⟩, ⟨by repeat (first | (with_reducible first | exact HB.out | apply below_alloc | apply pw_below_drewN | apply below_drew1 | refine below_set ?_ GE575.out | refine below_set ?_ GE576.out | refine below_set ?_ GE577.out) | exact HB.out)⟩⟩
 case round =>
  clear H'
  try clear p2
  try clear c5
  try clear c6
  try clear hcz7_0
  try clear hfz7_0
  obtain ⟨x4_1, x578000_1, u578000, rfl, HA, HK1, HO_578000, BK575, BK576, BK577, HB⟩ := hrel
  cases gk with
  | zero => exact absurd HA.out (by simp [spec_l1Copy.l0])
  | succ k1 =>
   have H := HA.out
   clear HA
   simp only [spec_l1Copy.l0] at H
   by_cases c8 : x4_1 < (l0_0.length : Int)
   ·rw [if_pos c8] at H
    have c8b0 : decide (x4_1 < (l0_0.length : Int)) = true := decide_eq_true c8
    clear c8
    by_cases c9 : 0 ≤ x4_1
    ·rw [if_pos c9] at H
     have c9b0 : decide (0 ≤ x4_1) = true := decide_eq_true c9
     clear c9
     replace H := Option.bind_eq_some_iff.mp H
     obtain ⟨t579, A100, H⟩ := H
     replace H : (if x578000_1.length < 5864062014805 then (spec_l1Copy.l0 k1 (wrap64 (x4_1 + 1)) l0_0 (x578000_1 ++ [(⟨t579⟩ : S30)])) else (none)) = some r := H
     have A10 := Aside0.mk A100
     clear A100
     by_cases c11 : x578000_1.length < 5864062014805
     ·rw [if_pos c11] at H
      have LMc11 := Aside0.mk c11
      clear c11
      obtain ⟨y582, hy582⟩ : ∃ y_ : List (S30), y_ = (x578000_1 ++ [(⟨t579⟩ : S30)]) := ⟨_, rfl⟩
      replace H : (spec_l1Copy.l0 k1 (wrap64 (x4_1 + 1)) l0_0 y582) = some r := by first | (rw [hy582]; with_reducible exact H) | (have H2_ := (Option.bind_some _ _).symm.trans H; rw [hy582]; with_reducible exact H2_) | (have H2_ := (Option.bind_some _ _).symm.trans H; with_reducible exact H2_) | with_reducible exact H | (rw [hy582]; exact H) | exact H
      have Ny582 := Aside0.mk hy582
      clear hy582
      have H' := Aside0.mk H
      clear H
      have hnb12 := NB575_576.out
      have hnc12 := NB576_575.out
      have hnb13 := NB575_577.out
      have hnc13 := NB577_575.out
      have hcz14_0 : wr.cell? ⟨gb575, 0, none⟩ = some (.slice A0_0 l0_0.length c0_0) := (blk_cell BK575.out 0).trans rfl
      have hfz14_0 := blk_frozen BK575.out 0
      try go_wp2
      replace HO_578000 := Aside0.mk (Kd.R_drew HO_578000.out)
      replace BK575 := Aside0.mk (blk_drew BK575.out)
      replace BK576 := Aside0.mk (blk_drew BK576.out)
      replace BK577 := Aside0.mk (blk_drew BK577.out)
      replace HB := Aside0.mk (below_drew1 HB.out)
      have p578 : 0 ≤ (x4_1 : Int) := of_decide_eq_true (by first | (with_reducible assumption) | assumption)
      have q578 : x4_1 < (l0_0.length : Int) := of_decide_eq_true (by first | (with_reducible assumption) | assumption)
      obtain ⟨ad578, A578_0, c578_0, e578, hx578_0, hl578_0, hi578_0⟩ := at_T30 HR0_0.out x4_1 p578 q578
      have hw578_0 := hx578_0
      cases e578
      replace hx578_0 := (HB.out.cell (World.block_lt_of_cell? w _ hx578_0)).trans hx578_0
      have HR578_0 := Aside0.mk hi578_0
      have HC578_0 := Aside0.mk hl578_0
      clear hi578_0 hl578_0
      replace p578 := eq_true p578
      replace q578 := eq_true q578
      refine start_ (n := 12) (S := fun w' => w'.cell? ⟨gb577, 0, none⟩ = some (u578000) ∧ w'.cell? ⟨gb575, 0, none⟩ = some (.slice (some ad578) l0_0.length c0_0) ∧ w'.cell? (ad578.add (x4_1).toNat) = some (.slice A578_0 ((rd_T30 l0_0 x4_1).f0).length c578_0)) (ds := [11]) #[false, false, false, false, false, false, false, false, false, false, false, false] (by kernel_rfl) rfl rfl ⟨(blk_cell BK577.out 0).trans rfl, (blk_cell BK575.out 0).trans rfl, ((HB.out.cell (World.block_lt_of_cell? w _ hw578_0)).trans hw578_0)⟩ (fun hHeld => ?_); refine with_tabW spec_l1Copy.tab5 spec_l1Copy.bits5 (fun HT_ HW_ => ?_)
      generalize wr.drew = w15 at HO_578000 BK575 BK576 BK577 HB HR578_0 hx578_0 hHeld ⊢
      refine pure_ (i := 0) (N := some 13) (v := ?_) (a' := ?_) #[true, false, false, false, false, false, false, false, false, false, false, false] rfl rfl (any_of HT_.out (by kernel_rfl)) (fun _ _ _ h => h) (Or.inl ⟨by rfl, ?_⟩) ?_ ?_
      rotate_left
      ·intro w'
       go_simp
       with_reducible rfl
      rotate_left
      ·simp only [Act.put, List.setIfInBounds_toArray, List.set_cons_zero, List.set_cons_succ, i64_w, i32_w]
       rfl
      refine pure_ (i := 2) (N := some 15) (v := ?_) (a' := ?_) #[true, false, true, false, false, false, false, false, false, false, false, false] rfl rfl (any_of HT_.out (by kernel_rfl)) (fun _ _ _ h => h) (Or.inl ⟨by rfl, ?_⟩) ?_ ?_
      rotate_left
      ·intro w'
       go_simp
       with_reducible rfl
      rotate_left
      ·simp only [Act.put, List.setIfInBounds_toArray, List.set_cons_zero, List.set_cons_succ, i64_w, i32_w]
       rfl
      refine pure_ (i := 4) (N := some 17) (v := ?_) (a' := ?_) #[true, false, true, false, true, false, false, false, false, false, false, false] rfl rfl (any_of HT_.out (by kernel_rfl)) (fun _ _ _ h => h) (Or.inl ⟨by rfl, ?_⟩) ?_ ?_
      rotate_left
      ·intro w'
       go_simp
       with_reducible rfl
      rotate_left
      ·simp only [Act.put, List.setIfInBounds_toArray, List.set_cons_zero, List.set_cons_succ, i64_w, i32_w]
       rfl
      refine take_ (i := 1) (N := some 14) (v := ?_) (a' := ?_) #[true, true, true, false, true, false, false, false, false, false, false, false] rfl rfl (take_ofW HT_.out HW_.out (by kernel_rfl)) (fun _ _ _ h => h) (Or.inl ⟨by rfl, ?_⟩) hHeld ?_ ?_
      rotate_left
      ·rintro w' ⟨s0, s1, s2⟩
       go_simp
       with_reducible rfl
      rotate_left
      ·simp only [Act.put, List.setIfInBounds_toArray, List.set_cons_zero, List.set_cons_succ, i64_w, i32_w]
       rfl
      refine take_ (i := 3) (N := some 16) (v := ?_) (a' := ?_) #[true, true, true, true, true, false, false, false, false, false, false, false] rfl rfl (take_ofW HT_.out HW_.out (by kernel_rfl)) (fun _ _ _ h => h) (Or.inl ⟨by rfl, ?_⟩) hHeld ?_ ?_
      rotate_left
      ·rintro w' ⟨s0, s1, s2⟩
       go_simp
       with_reducible rfl
      rotate_left
      ·simp only [Act.put, List.setIfInBounds_toArray, List.set_cons_zero, List.set_cons_succ, i64_w, i32_w]
       rfl
      refine pure_ (i := 5) (N := some 18) (v := ?_) (a' := ?_) #[true, true, true, true, true, true, false, false, false, false, false, false] rfl rfl (any_of HT_.out (by kernel_rfl)) (fun _ _ _ h => h) (Or.inl ⟨by rfl, ?_⟩) ?_ ?_
      rotate_left
      ·intro w'
       go_simp
       with_reducible rfl
      rotate_left
      ·simp only [Act.put, List.setIfInBounds_toArray, List.set_cons_zero, List.set_cons_succ, i64_w, i32_w]
       rfl
      refine take_ (i := 6) (N := some 19) (v := ?_) (a' := ?_) #[true, true, true, true, true, true, true, false, false, false, false, false] rfl rfl (take_ofW HT_.out HW_.out (by kernel_rfl)) (fun _ _ _ h => h) (Or.inl ⟨by rfl, ?_⟩) hHeld ?_ ?_
      rotate_left
      ·rintro w' ⟨s0, s1, s2⟩
       go_simp
       with_reducible rfl
      rotate_left
      ·simp only [Act.put, List.setIfInBounds_toArray, List.set_cons_zero, List.set_cons_succ, i64_w, i32_w]
       rfl
      refine one_ (i := 7) (N := some 20) #[true, true, true, true, true, true, true, true, false, false, false, false] rfl rfl (one_of HT_.out (by kernel_rfl)) (by decide) (fun K hK => ?_)
      refine goes_ Try.func66 (by kernel_rfl) rfl #[.agg #[.slice A578_0 ((rd_T30 l0_0 x4_1).f0).length c578_0]] (by rfl) rfl rfl (by (try simp only [List.map_toArray, List.map_cons, List.map_nil]); first | done | rfl | (simp only [List.length_drop, List.length_take]; rfl)) ?_
      with_reducible refine (ih k1 (y37 HK1.out) _ _ ((rd_T30 l0_0 x4_1).f0) t579 _ ?side1 ?side2 A10.out).mono ?_
      (case side1 => exact y6 HR578_0.out HB.out)
      (case side2 => exact HC578_0.out)
      rintro e w16 ⟨v580, rfl, ho0, hb⟩
      refine ⟨_, rfl, ?_⟩
      have n0_ := Aside0.mk (Kd.R_elder' (y9 HO_578000.out) (Kd.R_base ho0) hb)
      have n1_ := Aside0.mk (Kd.R_lower (Kd.R_newB (Kd.R_newB (Kd.R_newB (Kd.R_new' ho0 (Kd.R_lt (y9 HO_578000.out))) (g := gb575) (o := .cells #[.slice (some ad578) l0_0.length c0_0] 30 (0, 0)) (y4 BK575.out)) (g := gb576) (o := .cells #[.slice none 0 0] 30 (0, 0)) (y4 BK576.out)) (g := gb577) (o := .cells #[u578000] 30 (0, 0)) (y4 BK577.out)) (below_size (y8 HB.out GE575.out GE576.out GE577.out)))
      have n2_ := Aside0.mk (zbb BK575.out hb)
      have n3_ := Aside0.mk (zbb BK576.out hb)
      have n4_ := Aside0.mk (zbb BK577.out hb)
      have n5_ := Aside0.mk (below_step (y8 HB.out GE575.out GE576.out GE577.out) hb)
      clear HO_578000
      clear BK575
      clear BK576
      clear BK577
      clear HB
      have HO_578000 := n0_
      have HO581 := n1_
      have BK575 := n2_
      have BK576 := n3_
      have BK577 := n4_
      have HB := n5_
      clear n0_ n1_ n2_ n3_ n4_ n5_
      (try clear hb)
      (try clear hb2)
      (try clear hk)
      (try clear hi)
      (try clear ho0)
      obtain ⟨Ao18, co18, eo18⟩ := Kd.R_slice HO581.out
      (first | subst eo18 | (injection eo18 with f1_ f2_ f3_; have f4_ := f1_.symm; have f5_ := f3_.symm; clear f1_ f2_ f3_; subst f4_; subst f5_))
      refine hK.out _ _ ⟨(blk_cell BK577.out 0).trans rfl, (blk_cell BK575.out 0).trans rfl, ((HB.out.cell (World.block_lt_of_cell? w _ hw578_0)).trans hw578_0)⟩ (fun hHeld => ?_)
      clear hK K
      refine norm_ (a' := ?_) ?_ ?_
      rotate_left
      ·show Act.put _ (some 20) _ = _
       simp only [Act.put, List.setIfInBounds_toArray, List.set_cons_zero, List.set_cons_succ, i64_w, i32_w]
       rfl
      refine one_ (i := 8) (N := some 21) #[true, true, true, true, true, true, true, true, true, false, false, false] rfl rfl (one_of HT_.out (by kernel_rfl)) (by decide) (fun K hK => ?_)
      refine value_ (w1 := ?_) (v := ?_) (by rfl) rfl ?_ ?_
      rotate_left 2
      ·go_simp
       constructor
       ·rfl
       ·rfl
      refine hK.out _ _ ⟨(blk_cell (blk_alloc BK577.out _) 0).trans rfl, (blk_cell (blk_alloc BK575.out _) 0).trans rfl, (World.cell?_alloc_lt _ _ _ (World.block_lt_of_cell? _ _ (((HB.out.cell (World.block_lt_of_cell? w _ hw578_0)).trans hw578_0)))).trans (((HB.out.cell (World.block_lt_of_cell? w _ hw578_0)).trans hw578_0))⟩ (fun hHeld => ?_)
      clear hK K
      refine norm_ (a' := ?_) ?_ ?_
      rotate_left
      ·show Act.put _ (some 21) _ = _
       simp only [Act.put, List.setIfInBounds_toArray, List.set_cons_zero, List.set_cons_succ, i64_w, i32_w]
       rfl
      refine one_ (i := 9) (N := some 22) #[true, true, true, true, true, true, true, true, true, true, false, false] rfl rfl (one_of HT_.out (by kernel_rfl)) (by decide) (fun K hK => ?_)
      refine Kd.R_append_step k30 (w0 := w) w.heap.size (by rfl) (.tmp 14) (.tmp 21) 28 30 (.agg #[(.slice none 0 0)]) 24 rfl Try.underlying28 info30 rfl (by decide) (by omega) u578000 x578000_1 (⟨t579⟩ : S30) [.slice Ao18 t579.length co18] (fun k_ => k_ ≠ gb575 ∧ k_ ≠ gb576 ∧ k_ ≠ gb577) (fun k_ => ((fun k_ => k_ ≠ gb575 ∧ k_ ≠ gb576 ∧ k_ ≠ gb577)) k_ ∧ some k_ ≠ (u578000 : Value).ownBlock) rfl rfl ?aP (fun _ hk => hk) ?aF ?aO ?aB ?aS ?aL ?_
      (case aP => exact k30_mkM _ _ _ (⟨t579⟩ : S30) (Kd.R_mono (HO581.out) (fun k_ hk => ⟨⟨hk.1.1.2, ⟨hk.1.2, hk.2⟩⟩, hk.1.1.1.2⟩)))
      (case aB => exact (y8 HB.out GE575.out GE576.out GE577.out))
      (case aF => exact (fun k_ hk => ⟨Kd.freshB (g := gb575) (o := .cells #[.slice (some ad578) l0_0.length c0_0] 30 (0, 0)) (y4 BK575.out) k_ hk, Kd.freshB (g := gb576) (o := .cells #[.slice none 0 0] 30 (0, 0)) (y4 BK576.out) k_ hk, Kd.freshB (g := gb577) (o := .cells #[u578000] 30 (0, 0)) (y4 BK577.out) k_ hk⟩))
      (case aO => exact (by (with_reducible repeat (first | apply Kd.R_alloc | apply Kd.R_drewN | apply Kd.R_drew)); exact Kd.R_mono HO_578000.out (fun _ hk => ⟨hk.1.1, ⟨hk.1.2.1, hk.1.2.2⟩⟩)))
      (case aS => exact (below_size (y8 HB.out GE575.out GE576.out GE577.out)))
      (case aL => exact y37 LMc11.out)
      intro v583 w17 ho hb hg hat
      rw [← Ny582.out] at ho
      replace BK575 := Aside0.mk (blk_grown (g := gb575) (o := .cells #[.slice (some ad578) l0_0.length c0_0] 30 (0, 0)) (y4 BK575.out) hg (Kd.R_away HO_578000.out (fun _ hk => hk.1.1)))
      replace BK576 := Aside0.mk (blk_grown (g := gb576) (o := .cells #[.slice none 0 0] 30 (0, 0)) (y4 BK576.out) hg (Kd.R_away HO_578000.out (fun _ hk => hk.1.2.1)))
      replace BK577 := Aside0.mk (blk_grown (g := gb577) (o := .cells #[u578000] 30 (0, 0)) (y4 BK577.out) hg (Kd.R_away HO_578000.out (fun _ hk => hk.1.2.2)))
      replace HB := Aside0.mk (hb)
      have HO584 := Aside0.mk (ho)
      clear HO581 HO_578000
      clear ho hb hg hat
      obtain ⟨Ao19, co19, eo19⟩ := Kd.R_slice HO584.out
      (first | subst eo19 | (injection eo19 with f1_ f2_ f3_; have f4_ := f1_.symm; have f5_ := f3_.symm; clear f1_ f2_ f3_; subst f4_; subst f5_))
      refine hK.out _ _ ⟨(blk_cell BK577.out 0).trans rfl, (blk_cell BK575.out 0).trans rfl, ((HB.out.cell (World.block_lt_of_cell? w _ hw578_0)).trans hw578_0)⟩ (fun hHeld => ?_)
      clear hK K
      refine norm_ (a' := ?_) ?_ ?_
      rotate_left
      ·show Act.put _ (some 22) _ = _
       simp only [Act.put, List.setIfInBounds_toArray, List.set_cons_zero, List.set_cons_succ, i64_w, i32_w]
       rfl
      refine pure_ (i := 10) (N := some 23) (v := ?_) (a' := ?_) #[true, true, true, true, true, true, true, true, true, true, true, false] rfl rfl (any_of HT_.out (by kernel_rfl)) (fun _ _ _ h => h) (Or.inl ⟨by rfl, ?_⟩) ?_ ?_
      rotate_left
      ·intro w'
       go_simp
       with_reducible rfl
      rotate_left
      ·simp only [Act.put, List.setIfInBounds_toArray, List.set_cons_zero, List.set_cons_succ, i64_w, i32_w]
       rfl
      refine last_ (i := 11) (N := none) #[true, true, true, true, true, true, true, true, true, true, true, true] rfl rfl (one_of HT_.out (by kernel_rfl)) (by decide) (fun K hK => ?_)
      have hs20 : w17.cell? ⟨gb577, 0, none⟩ = some (u578000) := (blk_cell BK577.out 0).trans rfl
      have hfs20 := blk_frozen BK577.out 0
      have hns20_0 := NB575_577.out
      have hns20_1 := NB576_577.out
      have hms20_0 := NB577_575.out
      have hms20_1 := NB577_576.out
      refine skip_ (w1 := ?_) (by rfl) rfl ?_ ?_
      rotate_left
      ·go_simp
       rfl
      refine hK.out _ _ ?_
      clear hK K
      refine done_ (done_of HT_.out (by kernel_rfl)) ?_
      try go_wp2
      go_roundg k1
      case measure => have := HK1.out; omega
      case rel => exact ⟨(wrap64 (x4_1 + 1)), (y582), (.slice Ao19 y582.length co19), (by first | rfl | (simp; done) | (simp [*]; done)), H', ⟨by have := HK1.out; omega⟩, ⟨by (with_reducible repeat (first | apply Kd.R_alloc | apply Kd.R_drewN | apply Kd.R_drew)); exact Kd.R_mono (Kd.R_far (p := ⟨gb577, 0, none⟩) (Kd.R_mono HO584.out (fun k_ hk => (⟨hk, hk.2.2⟩ : _ ∧ k_ ≠ gb577))) (fun _ hk => hk.2) (.slice Ao19 y582.length co19)) (fun _ hk => ⟨hk.1.1, ⟨hk.1.2.1, hk.1.2.2⟩⟩)⟩, ⟨by (with_reducible repeat (first | refine blk_drewN ?_ _ | refine blk_drew ?_ | refine blk_alloc ?_ _)); refine blk_far ?_ NB575_577.out _; (with_reducible repeat (first | refine blk_drewN ?_ _ | refine blk_drew ?_ | refine blk_alloc ?_ _)); exact BK575.out⟩, ⟨by (with_reducible repeat (first | refine blk_drewN ?_ _ | refine blk_drew ?_ | refine blk_alloc ?_ _)); refine blk_far ?_ NB576_577.out _; (with_reducible repeat (first | refine blk_drewN ?_ _ | refine blk_drew ?_ | refine blk_alloc ?_ _)); exact BK576.out⟩, ⟨by (with_reducible repeat (first | refine blk_drewN ?_ _ | refine blk_drew ?_ | refine blk_alloc ?_ _)); refine blk_put (cs := #[u578000]) ?_ 0 _ rfl; (with_reducible repeat (first | refine blk_drewN ?_ _ | refine blk_drew ?_ | refine blk_alloc ?_ _)); exact BK577.out⟩, ⟨by repeat (first | (with_reducible first | exact HB.out | apply below_alloc | apply pw_below_drewN | apply below_drew1 | refine below_set ?_ GE575.out | refine below_set ?_ GE576.out | refine below_set ?_ GE577.out) | exact HB.out)⟩⟩
     ·rw [if_neg c11] at H
      exact absurd H (by simp)
    ·rw [if_neg c9] at H
     exact absurd H (by simp)
   ·rw [if_neg c8] at H
    have c8b0 : decide (x4_1 < (l0_0.length : Int)) = false := decide_eq_false c8
    clear c8
    obtain rfl := Option.some.inj H
    have hnb21 := NB575_576.out
    have hnc21 := NB576_575.out
    have hnb22 := NB575_577.out
    have hnc22 := NB577_575.out
    have hcz23_0 : wr.cell? ⟨gb575, 0, none⟩ = some (.slice A0_0 l0_0.length c0_0) := (blk_cell BK575.out 0).trans rfl
    have hfz23_0 := blk_frozen BK575.out 0
    have hnb24 := NB577_576.out
    have hnc24 := NB576_577.out
    have hcz25_0 : wr.cell? ⟨gb577, 0, none⟩ = some (u578000) := (blk_cell BK577.out 0).trans rfl
    have hfz25_0 := blk_frozen BK577.out 0
    obtain ⟨Ao26, co26, eo26⟩ := Kd.R_slice HO_578000.out
    subst eo26
    have hcz27_0 : wr.cell? ⟨gb576, 0, none⟩ = some (.slice none 0 0) := (blk_cell BK576.out 0).trans rfl
    have hfz27_0 := blk_frozen BK576.out 0
    go_wp2
    refine bodyPost_ret (results_cell_row rfl _ _ gb576 30 #[.slice Ao26 x578000_1.length co26] (0, 0) _ rfl (by (with_reducible repeat (first | refine blk_drewN ?_ _ | refine blk_drew ?_ | refine blk_alloc ?_ _)); refine blk_put (cs := #[.slice none 0 0]) ?_ 0 _ rfl; (with_reducible repeat (first | refine blk_drewN ?_ _ | refine blk_drew ?_ | refine blk_alloc ?_ _)); exact BK576.out) Try.underlying30 rfl (by kernel_rfl)) rfl ?_
    exact ⟨_, by first | rfl | (simp [errW_none, errW_some] <;> rfl) | (simp [*, errW_none, errW_some] <;> rfl), by (with_reducible repeat (first | apply Kd.R_alloc | apply Kd.R_drewN | apply Kd.R_drew)); exact Kd.R_mono (Kd.R_far (p := ⟨gb576, 0, none⟩) (Kd.R_mono HO_578000.out (fun k_ hk => (⟨hk, hk.2.1⟩ : _ ∧ k_ ≠ gb576))) (fun _ hk => hk.2) (.slice Ao26 x578000_1.length co26)) (fun _ hk => trivial), by repeat (first | (with_reducible first | exact HB.out | apply below_alloc | apply pw_below_drewN | apply below_drew1 | refine below_set ?_ GE575.out | refine below_set ?_ GE576.out | refine below_set ?_ GE577.out) | exact HB.out)⟩

end Go.Proofs.Ytjhbhihfifhljaa.PA
