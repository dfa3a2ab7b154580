-- Written by this session's own program (hfprint) out of the translation. Not trusted: Lean checks it.
import Derived.Test.YtjhbhihfifhljaaPAz
namespace Go.Proofs.Ytjhbhihfifhljaa.PA
open Go.RowKit Go.Proofs.YtjhbhihfifhljaaW.PrintWords Go.Proofs.YtjhbhihfifhljaaW.PrintLast Go.Proofs.YtjhbhihfifhljaaW.PrintMore
attribute [local go_sem] max2_int min2_int max_two min_two max_three min_three max_four min_four   -- for this text's walks alone
set_option linter.unusedVariables false
set_option linter.unusedSimpArgs false

/-! ### impl_typePair: function 79 -/
def impl_typePair.F (rec_ : List (S30) → Option ((List (S30)))) (k : Nat) (l0_0 : List (S30)) (l1_0 : List (S30)) : Option ((List (S30))) := (rec_ l0_0).bind fun t254 => ((rec_ l1_0).bind fun t257 => (some (([(⟨t254⟩ : S30), (⟨t257⟩ : S30)] : List (S30)))))

/-! ### impl_typeCopy: function 54 -/
def impl_typeCopy.f : Nat → List (S30) → Option ((List (S30)))
 | 0, _ => none
 | k + 1, l0_0 => if (l0_0.length : Int) = 0 then (some ([] : List (S30))) else (if 0 < (l0_0.length : Int) then (if 1 < (l0_0.length : Int) then ((impl_typePair.F (impl_typeCopy.f k) k ((rd_T30 l0_0 0).f0) ((rd_T30 l0_0 1).f0)).bind fun t267 => (some t267)) else (none)) else (none))
theorem impl_typePair.Fmono {rec_ rec2_ : List (S30) → Option ((List (S30)))} (hrec : (∀ y0, LeO (rec_ y0) (rec2_ y0))) : ∀ a0 a1 k, LeO (impl_typePair.F rec_ k a0 a1) (impl_typePair.F rec2_ (k + 1) a0 a1) := by
 intro a0 a1 k
 unfold impl_typePair.F
 repeat' first
   | (with_reducible exact hrec _)
   | (with_reducible exact LeO.refl _)
   | (with_reducible exact LeO.none _)
   | (with_reducible refine LeO.ite ?_ ?_)
   | (with_reducible refine LeO.bind ?_ (fun _ => ?_))
   | exact hrec _
   | exact LeO.none _
   | refine LeO.ite ?_ ?_
   | refine LeO.bind ?_ (fun _ => ?_)

theorem impl_typeCopy.mono_l : ∀ k, (∀ y0, LeO (impl_typeCopy.f k y0) (impl_typeCopy.f (k + 1) y0))
 | 0 => fun _ r h => by simp [impl_typeCopy.f] at h
 | k + 1 => by
  have ih0 := impl_typeCopy.mono_l k
  ·intro y0
   unfold impl_typeCopy.f
   repeat' first
   | (with_reducible exact ih0 _)
   | (with_reducible exact impl_typePair.Fmono ih0 _ _ _)
   | (with_reducible exact LeO.refl _)
   | (with_reducible exact LeO.none _)
   | (with_reducible refine LeO.ite ?_ ?_)
   | (with_reducible refine LeO.bind ?_ (fun _ => ?_))
   | exact ih0 _
   | exact impl_typePair.Fmono ih0 _ _ _
   | exact LeO.none _
   | refine LeO.ite ?_ ?_
   | refine LeO.bind ?_ (fun _ => ?_)
theorem impl_typeCopy.mono : ∀ a0 k, LeO (impl_typeCopy.f k a0) (impl_typeCopy.f (k + 1) a0) := by
 intro a0 k
 have ih0 := impl_typeCopy.mono_l k
 exact ih0 a0
set_option maxHeartbeats 8000000 in
set_option maxRecDepth 100000 in
theorem impl_typePair.Fcalls (rec_ : List (S30) → Option ((List (S30)))) (IH : ∀ (A0_0 : Option Addr) (c0_0 : Nat) (l0_0 : List (S30)) (r : List (S30)) (w : World) (hr0_0 : Kd.C k30 w A0_0 l0_0.length l0_0) (hc0_0 : l0_0.length ≤ c0_0) (h : rec_ l0_0 = some r),
  Calls Try.prog 54 #[.agg #[.slice A0_0 l0_0.length c0_0]] w fun e w' => ∃ v0_ : Value, e = .returned (.agg #[v0_]) ∧ Kd.N k30 30 w' w.heap.size (fun k_ => (w.heap.size ≤ k_)) v0_ r ∧ Below w.heap.size w w') (k : Nat) (A0_0 : Option Addr) (c0_0 : Nat) (l0_0 : List (S30)) (A1_0 : Option Addr) (c1_0 : Nat) (l1_0 : List (S30)) (r : List (S30)) (w : World) (hr0_0 : Kd.C k30 w A0_0 l0_0.length l0_0) (hc0_0 : l0_0.length ≤ c0_0) (hr1_0 : Kd.C k30 w A1_0 l1_0.length l1_0) (hc1_0 : l1_0.length ≤ c1_0) (h : impl_typePair.F rec_ k l0_0 l1_0 = some r) :
  Calls Try.prog 79 #[.agg #[.slice A0_0 l0_0.length c0_0], .agg #[.slice A1_0 l1_0.length c1_0]] w fun e w' => ∃ v0_ : Value, e = .returned (.agg #[v0_]) ∧ Kd.N k30 30 w' w.heap.size (fun k_ => (w.heap.size ≤ k_)) v0_ r ∧ Below w.heap.size w w' := by
 have hu30 := Try.underlying30
 have HR0_0 := Aside0.mk hr0_0
 have HC0_0 := Aside0.mk hc0_0
 clear hr0_0 hc0_0
 have HR1_0 := Aside0.mk hr1_0
 have HC1_0 := Aside0.mk hc1_0
 clear hr1_0 hc1_0
 have HB := Aside0.mk (Below.refl w.heap.size w)
 have H : ((rec_ l0_0).bind fun t254 => ((rec_ l1_0).bind fun t257 => (some (([(⟨t254⟩ : S30), (⟨t257⟩ : S30)] : List (S30)))))) = some r := h
 clear h
 replace H := Option.bind_eq_some_iff.mp H
 obtain ⟨t254, A30, H⟩ := H
 replace H : ((rec_ l1_0).bind fun t257 => (some (([(⟨t254⟩ : S30), (⟨t257⟩ : S30)] : List (S30))))) = some r := H
 have A3 := Aside0.mk A30
 clear A30
 replace H := Option.bind_eq_some_iff.mp H
 obtain ⟨t257, A40, H⟩ := H
 replace H : (some (([(⟨t254⟩ : S30), (⟨t257⟩ : S30)] : List (S30)))) = some r := H
 have A4 := Aside0.mk A40
 clear A40
 obtain ⟨y260, hy260⟩ : ∃ y_ : List (S30), y_ = (([(⟨t254⟩ : S30), (⟨t257⟩ : S30)] : List (S30))) := ⟨_, rfl⟩
 replace H : (some y260) = some r := by first | (rw [hy260]; with_reducible exact H) | (have H2_ := (Option.bind_some _ _).symm.trans H; rw [hy260]; with_reducible exact H2_) | (have H2_ := (Option.bind_some _ _).symm.trans H; with_reducible exact H2_) | with_reducible exact H | (rw [hy260]; exact H) | exact H
 have Ny260 := Aside0.mk hy260
 clear hy260
 obtain rfl := Option.some.inj H
 go_enter Try.func79, Try.ntmps79
 try go_wp2_with (first | ((with_reducible refine gate_dst (N := 2) rfl ?_); refine box_event ?hg (N := 2) ?hd (cs := #[.slice A0_0 l0_0.length c0_0]) (t := 30) ?hr ?_; (case hd => rfl); (case hg => rfl); (case hr => first | (go_simp; done) | (go_simp; rfl)); intro gb251 hg w5 hbox hb; have n0_ := Aside0.mk (below_step (y0 HB.out) hb); have n1_ := Aside0.mk (hbox); have n2_ := Aside0.mk ((y3 hg HB.out : w.heap.size ≤ gb251)); have n3_ := Aside0.mk ((y3 hg HB.out : w.heap.size ≤ gb251)); clear HB; have HB := n0_; have BK251 := n1_; have GW251 := n2_; have GE251 := n3_; clear n0_ n1_ n2_ n3_; clear hb hbox hg) | ((with_reducible refine gate_dst (N := 3) rfl ?_); refine box_event ?hg (N := 3) ?hd (cs := #[.slice A1_0 l1_0.length c1_0]) (t := 30) ?hr ?_; (case hd => rfl); (case hg => rfl); (case hr => first | (go_simp; done) | (go_simp; rfl)); intro gb252 hg w6 hbox hb; have n0_ := Aside0.mk (zbb BK251.out hb); have n1_ := Aside0.mk (below_step (y1 HB.out GE251.out) hb); have n2_ := Aside0.mk (hbox); have n3_ := Aside0.mk ((y5 hg HB.out GE251.out : w.heap.size ≤ gb252)); have n4_ := Aside0.mk ((y5 hg HB.out GE251.out : w.heap.size ≤ gb252)); have n5_ := Aside0.mk (zltn hg BK251.out); have n6_ := Aside0.mk (zgtn hg BK251.out); clear BK251; clear HB; have BK251 := n0_; have HB := n1_; have BK252 := n2_; have GW252 := n3_; have GE252 := n4_; have NB251_252 := n5_; have NB252_251 := n6_; clear n0_ n1_ n2_ n3_ n4_ n5_ n6_; clear hb hbox hg) | ((with_reducible refine gate_dst (N := 4) rfl ?_); refine box_event ?hg (N := 4) ?hd (cs := #[.slice none 0 0]) (t := 30) ?hr ?_; (case hd => rfl); (case hg => rfl); (case hr => first | (go_simp; done) | (go_simp; rfl)); intro gb253 hg w7 hbox hb; have n0_ := Aside0.mk (zbb BK251.out hb); have n1_ := Aside0.mk (zbb BK252.out hb); have n2_ := Aside0.mk (below_step (y2 HB.out GE251.out GE252.out) hb); have n3_ := Aside0.mk (hbox); have n4_ := Aside0.mk ((y17 hg HB.out GE251.out GE252.out : w.heap.size ≤ gb253)); have n5_ := Aside0.mk ((y17 hg HB.out GE251.out GE252.out : w.heap.size ≤ gb253)); have n6_ := Aside0.mk (zltn hg BK251.out); have n7_ := Aside0.mk (zgtn hg BK251.out); have n8_ := Aside0.mk (zltn hg BK252.out); have n9_ := Aside0.mk (zgtn hg BK252.out); clear BK251; clear BK252; clear HB; have BK251 := n0_; have BK252 := n1_; have HB := n2_; have BK253 := n3_; have GW253 := n4_; have GE253 := n5_; have NB251_253 := n6_; have NB253_251 := n7_; have NB252_253 := n8_; have NB253_252 := n9_; clear n0_ n1_ n2_ n3_ n4_ n5_ n6_ n7_ n8_ n9_; clear hb hbox hg))
 replace BK251 := Aside0.mk (blk_drew BK251.out)
 replace BK252 := Aside0.mk (blk_drew BK252.out)
 replace BK253 := Aside0.mk (blk_drew BK253.out)
 replace HB := Aside0.mk (below_drew1 HB.out)
 refine start_ (n := 7) (S := fun w' => w'.cell? ⟨gb251, 0, none⟩ = some (.slice A0_0 l0_0.length c0_0) ∧ w'.cell? ⟨gb252, 0, none⟩ = some (.slice A1_0 l1_0.length c1_0)) (ds := []) #[false, false, false, false, false, false, false] (by kernel_rfl) rfl rfl ⟨(blk_cell BK251.out 0).trans rfl, (blk_cell BK252.out 0).trans rfl⟩ (fun hHeld => ?_)
 generalize w7.drew = w8 at BK251 BK252 BK253 HB hHeld ⊢
 refine take_ (i := 0) (N := some 5) (v := ?_) (a' := ?_) #[true, false, false, false, false, false, false] rfl rfl (by kernel_rfl) (fun _ _ _ h => h) (Or.inl ⟨by rfl, ?_⟩) hHeld ?_ ?_
 rotate_left
 ·rintro w' ⟨s0, s1⟩
  go_simp
  with_reducible rfl
 rotate_left
 ·simp only [Act.put, List.setIfInBounds_toArray, List.set_cons_zero, List.set_cons_succ, i64_w, i32_w]
  rfl
 refine take_ (i := 2) (N := some 7) (v := ?_) (a' := ?_) #[true, false, true, false, false, false, false] rfl rfl (by kernel_rfl) (fun _ _ _ h => h) (Or.inl ⟨by rfl, ?_⟩) hHeld ?_ ?_
 rotate_left
 ·rintro w' ⟨s0, s1⟩
  go_simp
  with_reducible rfl
 rotate_left
 ·simp only [Act.put, List.setIfInBounds_toArray, List.set_cons_zero, List.set_cons_succ, i64_w, i32_w]
  rfl
 refine one_ (i := 1) (N := some 6) #[true, true, true, false, false, false, false] rfl rfl (by kernel_rfl) (by decide) (fun K hK => ?_)
 refine goes_ Try.func54 (by kernel_rfl) rfl #[.agg #[.slice A0_0 l0_0.length c0_0]] (by rfl) rfl rfl (by (try simp only [List.map_toArray, List.map_cons, List.map_nil]); first | done | rfl | (simp only [List.length_drop, List.length_take]; rfl)) ?_
 with_reducible refine (IH  _ _ l0_0 t254 _ ?side1 ?side2 A3.out).mono ?_
 (case side1 => exact y6 HR0_0.out HB.out)
 (case side2 => exact HC0_0.out)
 rintro e w9 ⟨v255, rfl, ho0, hb⟩
 refine ⟨_, rfl, ?_⟩
 have HO256 := Aside0.mk (Kd.N_lower (Kd.N_mono (ok' := fun k_ => (w.heap.size ≤ k_) ∧ k_ ≠ gb251 ∧ k_ ≠ gb252 ∧ k_ ≠ gb253) ho0 (fun k_ hk_ => ⟨(Nat.le_trans (below_size (y8 HB.out GE251.out GE252.out GE253.out)) hk_), (Kd.freshB (g := gb251) (o := .cells #[.slice A0_0 l0_0.length c0_0] 30 (0, 0)) (y4 BK251.out) k_ hk_), (Kd.freshB (g := gb252) (o := .cells #[.slice A1_0 l1_0.length c1_0] 30 (0, 0)) (y4 BK252.out) k_ hk_), (Kd.freshB (g := gb253) (o := .cells #[.slice none 0 0] 30 (0, 0)) (y4 BK253.out) k_ hk_)⟩)) (below_size (y8 HB.out GE251.out GE252.out GE253.out)))
 replace BK251 := Aside0.mk (zbb BK251.out hb)
 replace BK252 := Aside0.mk (zbb BK252.out hb)
 replace BK253 := Aside0.mk (zbb BK253.out hb)
 replace HB := Aside0.mk (below_step (y8 HB.out GE251.out GE252.out GE253.out) hb)
 (try clear hb)
 (try clear hb2)
 (try clear hk)
 (try clear hi)
 (try clear ho0)
 refine hK.out _ _ ⟨(blk_cell BK251.out 0).trans rfl, (blk_cell BK252.out 0).trans rfl⟩ (fun hHeld => ?_)
 clear hK K
 refine norm_ (a' := ?_) ?_ ?_
 rotate_left
 ·show Act.put _ (some 6) _ = _
  simp only [Act.put, List.setIfInBounds_toArray, List.set_cons_zero, List.set_cons_succ, i64_w, i32_w]
  rfl
 refine one_ (i := 3) (N := some 8) #[true, true, true, true, false, false, false] rfl rfl (by kernel_rfl) (by decide) (fun K hK => ?_)
 refine goes_ Try.func54 (by kernel_rfl) rfl #[.agg #[.slice A1_0 l1_0.length c1_0]] (by rfl) rfl rfl (by (try simp only [List.map_toArray, List.map_cons, List.map_nil]); first | done | rfl | (simp only [List.length_drop, List.length_take]; rfl)) ?_
 with_reducible refine (IH  _ _ l1_0 t257 _ ?side1 ?side2 A4.out).mono ?_
 (case side1 => exact y6 HR1_0.out HB.out)
 (case side2 => exact HC1_0.out)
 rintro e w10 ⟨v258, rfl, ho0, hb⟩
 refine ⟨_, rfl, ?_⟩
 have n0_ := Aside0.mk (Kd.N_elder' (y7 HO256.out) (Kd.N_base ho0) hb)
 have n1_ := Aside0.mk (Kd.N_lower (Kd.N_mono (ok' := fun k_ => (w.heap.size ≤ k_) ∧ some k_ ≠ (v255 : Value).ownBlock ∧ k_ ≠ gb251 ∧ k_ ≠ gb252 ∧ k_ ≠ gb253) ho0 (fun k_ hk_ => ⟨(Nat.le_trans (below_size (y8 HB.out GE251.out GE252.out GE253.out)) hk_), (Kd.fresh' (Kd.N_lt (y7 HO256.out)) k_ hk_), (Kd.freshB (g := gb251) (o := .cells #[.slice A0_0 l0_0.length c0_0] 30 (0, 0)) (y4 BK251.out) k_ hk_), (Kd.freshB (g := gb252) (o := .cells #[.slice A1_0 l1_0.length c1_0] 30 (0, 0)) (y4 BK252.out) k_ hk_), (Kd.freshB (g := gb253) (o := .cells #[.slice none 0 0] 30 (0, 0)) (y4 BK253.out) k_ hk_)⟩)) (below_size (y8 HB.out GE251.out GE252.out GE253.out)))
 have n2_ := Aside0.mk (zbb BK251.out hb)
 have n3_ := Aside0.mk (zbb BK252.out hb)
 have n4_ := Aside0.mk (zbb BK253.out hb)
 have n5_ := Aside0.mk (below_step (y8 HB.out GE251.out GE252.out GE253.out) hb)
 clear HO256
 clear BK251
 clear BK252
 clear BK253
 clear HB
 have HO256 := n0_
 have HO259 := n1_
 have BK251 := n2_
 have BK252 := n3_
 have BK253 := n4_
 have HB := n5_
 clear n0_ n1_ n2_ n3_ n4_ n5_
 (try clear hb)
 (try clear hb2)
 (try clear hk)
 (try clear hi)
 (try clear ho0)
 obtain ⟨Ao11, co11, eo11⟩ := Kd.N_slice HO256.out
 (first | subst eo11 | (injection eo11 with f1_ f2_ f3_; have f4_ := f1_.symm; have f5_ := f3_.symm; clear f1_ f2_ f3_; subst f4_; subst f5_))
 obtain ⟨Ao12, co12, eo12⟩ := Kd.N_slice HO259.out
 (first | subst eo12 | (injection eo12 with f1_ f2_ f3_; have f4_ := f1_.symm; have f5_ := f3_.symm; clear f1_ f2_ f3_; subst f4_; subst f5_))
 refine hK.out _ _ ⟨(blk_cell BK251.out 0).trans rfl, (blk_cell BK252.out 0).trans rfl⟩ (fun hHeld => ?_)
 clear hK K
 refine norm_ (a' := ?_) ?_ ?_
 rotate_left
 ·show Act.put _ (some 8) _ = _
  simp only [Act.put, List.setIfInBounds_toArray, List.set_cons_zero, List.set_cons_succ, i64_w, i32_w]
  rfl
 refine one_ (i := 4) (N := some 9) #[true, true, true, true, true, false, false] rfl rfl (by kernel_rfl) (by decide) (fun K hK => ?_)
 refine Kd.N_lit_step k30 _ 30 ?hg (N' := 9) ?hd (xs := ([(⟨t254⟩ : S30), (⟨t257⟩ : S30)] : List (S30))) (inner := [.slice Ao11 t254.length co11, .slice Ao12 t257.length co12]) (ok := (fun k_ => (w.heap.size ≤ k_) ∧ k_ ≠ gb251 ∧ k_ ≠ gb252 ∧ k_ ≠ gb253)) (okp := (fun k_ => (w.heap.size ≤ k_) ∧ k_ ≠ gb251 ∧ k_ ≠ gb252 ∧ k_ ≠ gb253)) ?hr ?hp (fun _ hk => hk) ((show ∀ k_, w10.heap.size ≤ k_ → (fun k_ => (w.heap.size ≤ k_) ∧ k_ ≠ gb251 ∧ k_ ≠ gb252 ∧ k_ ≠ gb253) k_ from fun k_ hk => ⟨(Nat.le_trans (below_size (y8 HB.out GE251.out GE252.out GE253.out)) hk), Kd.freshB (g := gb251) (o := .cells #[.slice A0_0 l0_0.length c0_0] 30 (0, 0)) (y4 BK251.out) k_ hk, Kd.freshB (g := gb252) (o := .cells #[.slice A1_0 l1_0.length c1_0] 30 (0, 0)) (y4 BK252.out) k_ hk, Kd.freshB (g := gb253) (o := .cells #[.slice none 0 0] 30 (0, 0)) (y4 BK253.out) k_ hk⟩) _ (Nat.le_refl _)) (Below.refl _ _) (Nat.le_refl _) (by simp) ?_; (case hd => rfl); (case hg => rfl); (case hr => first | (go_simp; done) | (go_simp; rfl)); (case hp => exact (Reps.one (show Kd.FK k30 _ _ (⟨t254⟩ : S30) [.slice Ao11 t254.length co11] from (k30_mkF _ _ (⟨t254⟩ : S30) (Kd.N_reads' (Kd.N_mono (ok' := (fun k_ => (w.heap.size ≤ k_) ∧ k_ ≠ gb251 ∧ k_ ≠ gb252 ∧ k_ ≠ gb253)) (HO256.out) (fun k_ hk => ⟨hk.1.1, ⟨hk.1.2.1, ⟨hk.1.2.2.1, hk.1.2.2.2⟩⟩⟩))).2.1 (Kd.N_F (Kd.N_mono (ok' := (fun k_ => (w.heap.size ≤ k_) ∧ k_ ≠ gb251 ∧ k_ ≠ gb252 ∧ k_ ≠ gb253)) (HO256.out) (fun k_ hk => ⟨hk.1.1, ⟨hk.1.2.1, ⟨hk.1.2.2.1, hk.1.2.2.2⟩⟩⟩))))) (Reps.one (show Kd.FK k30 _ _ (⟨t257⟩ : S30) [.slice Ao12 t257.length co12] from (k30_mkF _ _ (⟨t257⟩ : S30) (Kd.N_reads' (Kd.N_mono (ok' := (fun k_ => (w.heap.size ≤ k_) ∧ k_ ≠ gb251 ∧ k_ ≠ gb252 ∧ k_ ≠ gb253)) (HO259.out) (fun k_ hk => ⟨hk.1, ⟨hk.2.2.1, ⟨hk.2.2.2.1, hk.2.2.2.2⟩⟩⟩))).2.1 (Kd.N_F (Kd.N_mono (ok' := (fun k_ => (w.heap.size ≤ k_) ∧ k_ ≠ gb251 ∧ k_ ≠ gb252 ∧ k_ ≠ gb253)) (HO259.out) (fun k_ hk => ⟨hk.1, ⟨hk.2.2.1, ⟨hk.2.2.2.1, hk.2.2.2.2⟩⟩⟩))))) (Reps.none _ _))))
 intro v261 w13 ho14 hb hg_ hnew_
 clear hg_ hnew_
 (first | rw [← Ny260.out] at ho14 | (simp only [Int.reduceToNat] at ho14; rw [← Ny260.out] at ho14))
 have HO262 := Aside0.mk (Kd.N_lower ho14 (below_size (y8 HB.out GE251.out GE252.out GE253.out)))
 replace BK251 := Aside0.mk (zbb BK251.out hb)
 replace BK252 := Aside0.mk (zbb BK252.out hb)
 replace BK253 := Aside0.mk (zbb BK253.out hb)
 replace HB := Aside0.mk (below_step (y8 HB.out GE251.out GE252.out GE253.out) hb)
 clear HO256 HO259
 clear hb ho14
 obtain ⟨Ao15, co15, eo15⟩ := Kd.N_slice HO262.out
 (first | subst eo15 | (injection eo15 with f1_ f2_ f3_; have f4_ := f1_.symm; have f5_ := f3_.symm; clear f1_ f2_ f3_; subst f4_; subst f5_))
 refine hK.out _ _ ⟨(blk_cell BK251.out 0).trans rfl, (blk_cell BK252.out 0).trans rfl⟩ (fun hHeld => ?_)
 clear hK K
 refine norm_ (a' := ?_) ?_ ?_
 rotate_left
 ·show Act.put _ (some 9) _ = _
  simp only [Act.put, List.setIfInBounds_toArray, List.set_cons_zero, List.set_cons_succ, i64_w, i32_w]
  rfl
 refine pure_ (i := 5) (N := some 10) (v := ?_) (a' := ?_) #[true, true, true, true, true, true, false] rfl rfl (by kernel_rfl) (fun _ _ _ h => h) (Or.inl ⟨by rfl, ?_⟩) ?_ ?_
 rotate_left
 ·intro w'
  go_simp
  with_reducible rfl
 rotate_left
 ·simp only [Act.put, List.setIfInBounds_toArray, List.set_cons_zero, List.set_cons_succ, i64_w, i32_w]
  rfl
 refine one_ (i := 6) (N := none) #[true, true, true, true, true, true, true] rfl rfl (by kernel_rfl) (by decide) (fun K hK => ?_)
 have hs16 : w13.cell? ⟨gb253, 0, none⟩ = some (.slice none 0 0) := (blk_cell BK253.out 0).trans rfl
 have hfs16 := blk_frozen BK253.out 0
 have hns16_0 := NB251_253.out
 have hns16_1 := NB252_253.out
 have hms16_0 := NB253_251.out
 have hms16_1 := NB253_252.out
 refine skip_ (w1 := ?_) (by rfl) rfl ?_ ?_
 rotate_left
 ·go_simp
  rfl
 refine hK.out _ _ ⟨((cell_far (p := ⟨gb253, _, none⟩) NB251_253.out _).trans (hHeld.1)), ((cell_far (p := ⟨gb253, _, none⟩) NB252_253.out _).trans (hHeld.2))⟩ (fun hHeld => ?_)
 clear hK K
 refine done_ (by kernel_rfl) ?_
 try go_wp2
 refine bodyPost_ret (results_cell_row rfl _ _ gb253 30 #[.slice Ao15 y260.length co15] (0, 0) _ rfl (by (with_reducible repeat (first | refine blk_drewN ?_ _ | refine blk_drew ?_ | refine blk_alloc ?_ _)); refine blk_put (cs := #[.slice none 0 0]) ?_ 0 _ rfl; (with_reducible repeat (first | refine blk_drewN ?_ _ | refine blk_drew ?_ | refine blk_alloc ?_ _)); exact BK253.out) Try.underlying30 rfl (by kernel_rfl)) rfl ?_
 exact ⟨_, by first | rfl | (simp [errW_none, errW_some] <;> rfl) | (simp [*, errW_none, errW_some] <;> rfl), by (with_reducible repeat (first | apply Kd.N_alloc | apply Kd.N_drewN | apply Kd.N_drew)); exact Kd.N_mono (Kd.N_far (p := ⟨gb253, 0, none⟩) (Kd.N_mono HO262.out (fun k_ hk => (⟨hk, hk.2.2.2⟩ : _ ∧ k_ ≠ gb253))) (fun _ hk => hk.2) (.slice Ao15 y260.length co15)) (fun _ hk => hk.1.1), by repeat (first | (with_reducible first | exact HB.out | apply below_alloc | apply pw_below_drewN | apply below_drew1 | refine below_set ?_ GE251.out | refine below_set ?_ GE252.out | refine below_set ?_ GE253.out) | exact HB.out)⟩

def impl_typeCopy.T3 : Bool × List (List Nat × List Nat) := (true, [([], []), ([0], [0]), ([1], [1]), ([2], [2]), ([], []), ([4], [4]), ([5], [5]), ([6], [6]), ([3, 7], [3, 7]), ([8, 8, 0, 1, 2, 3, 4, 5, 6, 7, 8], [8])])
def impl_typeCopy.B3 : List Nat := [0, 1, 3, 7, 0, 16, 48, 112, 255, 511]
theorem impl_typeCopy.tab3 : rtab .any (opsOf Try.f54 3) = impl_typeCopy.T3 := by kernel_rfl
theorem impl_typeCopy.bits3 : waitsOk impl_typeCopy.T3.2 impl_typeCopy.B3 = true := by kernel_rfl
set_option maxHeartbeats 8000000 in
set_option maxRecDepth 100000 in
theorem impl_typeCopy.calls (k : Nat) : ∀ (A0_0 : Option Addr) (c0_0 : Nat) (l0_0 : List (S30)) (r : List (S30)) (w : World) (hr0_0 : Kd.C k30 w A0_0 l0_0.length l0_0) (hc0_0 : l0_0.length ≤ c0_0) (h : impl_typeCopy.f k l0_0 = some r),
  Calls Try.prog 54 #[.agg #[.slice A0_0 l0_0.length c0_0]] w fun e w' => ∃ v0_ : Value, e = .returned (.agg #[v0_]) ∧ Kd.N k30 30 w' w.heap.size (fun k_ => (w.heap.size ≤ k_)) v0_ r ∧ Below w.heap.size w w' := by
 induction k using Nat.strongRecOn with
 | _ k ih =>
 intro A0_0 c0_0 l0_0 r w hr0_0 hc0_0 h
 cases k with
 | zero => exact absurd h (by simp [impl_typeCopy.f])
 | succ k =>
 simp only [impl_typeCopy.f] at h
 have hu30 := Try.underlying30
 have HR0_0 := Aside0.mk hr0_0
 have HC0_0 := Aside0.mk hc0_0
 clear hr0_0 hc0_0
 have HB := Aside0.mk (Below.refl w.heap.size w)
 have H : (if (l0_0.length : Int) = 0 then (some ([] : List (S30))) else (if 0 < (l0_0.length : Int) then (if 1 < (l0_0.length : Int) then ((impl_typePair.F (impl_typeCopy.f k) k ((rd_T30 l0_0 0).f0) ((rd_T30 l0_0 1).f0)).bind fun t267 => (some t267)) else (none)) else (none))) = some r := h
 clear h
 by_cases c2 : (l0_0.length : Int) = 0
 ·rw [if_pos c2] at H
  have c2b0 : ((l0_0.length : Int) == 0) = true := beq_iff_eq.mpr c2
  have c2b1 : ((l0_0.length : Int) != 0) = false := bne_eq_false_iff_eq.mpr c2
  clear c2
  obtain rfl := Option.some.inj H
  go_enter Try.func54, Try.ntmps54
  go_wp2_with (first | ((with_reducible refine gate_dst (N := 1) rfl ?_); refine box_event ?hg (N := 1) ?hd (cs := #[.slice A0_0 l0_0.length c0_0]) (t := 30) ?hr ?_; (case hd => rfl); (case hg => rfl); (case hr => first | (go_simp; done) | (go_simp; rfl)); intro gb263 hg w3 hbox hb; have n0_ := Aside0.mk (below_step (y0 HB.out) hb); have n1_ := Aside0.mk (hbox); have n2_ := Aside0.mk ((y3 hg HB.out : w.heap.size ≤ gb263)); have n3_ := Aside0.mk ((y3 hg HB.out : w.heap.size ≤ gb263)); clear HB; have HB := n0_; have BK263 := n1_; have GW263 := n2_; have GE263 := n3_; clear n0_ n1_ n2_ n3_; clear hb hbox hg) | ((with_reducible refine gate_dst (N := 2) rfl ?_); refine box_event ?hg (N := 2) ?hd (cs := #[.slice none 0 0]) (t := 30) ?hr ?_; (case hd => rfl); (case hg => rfl); (case hr => first | (go_simp; done) | (go_simp; rfl)); intro gb264 hg w4 hbox hb; have n0_ := Aside0.mk (zbb BK263.out hb); have n1_ := Aside0.mk (below_step (y1 HB.out GE263.out) hb); have n2_ := Aside0.mk (hbox); have n3_ := Aside0.mk ((y5 hg HB.out GE263.out : w.heap.size ≤ gb264)); have n4_ := Aside0.mk ((y5 hg HB.out GE263.out : w.heap.size ≤ gb264)); have n5_ := Aside0.mk (zltn hg BK263.out); have n6_ := Aside0.mk (zgtn hg BK263.out); clear BK263; clear HB; have BK263 := n0_; have HB := n1_; have BK264 := n2_; have GW264 := n3_; have GE264 := n4_; have NB263_264 := n5_; have NB264_263 := n6_; clear n0_ n1_ n2_ n3_ n4_ n5_ n6_; clear hb hbox hg; have hnb5 := NB263_264.out; have hnc5 := NB264_263.out; have hcz6_0 : w4.cell? ⟨gb263, 0, none⟩ = some (.slice A0_0 l0_0.length c0_0) := (blk_cell BK263.out 0).trans rfl; have hfz6_0 := blk_frozen BK263.out 0; have hcz7_0 : w4.cell? ⟨gb264, 0, none⟩ = some (.slice none 0 0) := (blk_cell BK264.out 0).trans rfl; have hfz7_0 := blk_frozen BK264.out 0))
  refine bodyPost_ret (results_cell_row rfl _ _ gb264 30 #[.slice none 0 0] (0, 0) _ rfl (by (with_reducible repeat (first | refine blk_drewN ?_ _ | refine blk_drew ?_ | refine blk_alloc ?_ _)); refine blk_put (cs := #[.slice none 0 0]) ?_ 0 _ rfl; (with_reducible repeat (first | refine blk_drewN ?_ _ | refine blk_drew ?_ | refine blk_alloc ?_ _)); exact BK264.out) Try.underlying30 rfl (by kernel_rfl)) rfl ?_
  exact ⟨_, by first | rfl | (simp [errW_none, errW_some] <;> rfl) | (simp [*, errW_none, errW_some] <;> rfl), by first | exact Kd.R_nil _ _ _ _ _ | exact Kd.N_nil _ _ _ _ _ | exact Kd.V_nil _ _ _ _ _ | exact Kd.Q_nil _ _ _ _ _ | exact Kd.S_nil _ _ _ _ _, by repeat (first | (with_reducible first | exact HB.out | apply below_alloc | apply pw_below_drewN | apply below_drew1 | refine below_set ?_ GE263.out | refine below_set ?_ GE264.out) | exact HB.out)⟩
 ·rw [if_neg c2] at H
  have c2b0 : ((l0_0.length : Int) == 0) = false := beq_eq_false_iff_ne.mpr c2
  have c2b1 : ((l0_0.length : Int) != 0) = true := bne_iff_ne.mpr c2
  have c2b2 : ¬ (l0_0 = []) := fun h_ => c2 (by rw [h_]; rfl)
  by_cases c8 : 0 < (l0_0.length : Int)
  ·rw [if_pos c8] at H
   have c8b0 : decide (0 < (l0_0.length : Int)) = true := decide_eq_true c8
   have c8b1 : decide (0 < l0_0.length) = true := decide_eq_true (by omega)
   clear c8
   by_cases c9 : 1 < (l0_0.length : Int)
   ·rw [if_pos c9] at H
    have c9b0 : decide (1 < (l0_0.length : Int)) = true := decide_eq_true c9
    have c9b1 : decide (1 < l0_0.length) = true := decide_eq_true (by omega)
    clear c9
    replace H := Option.bind_eq_some_iff.mp H
    obtain ⟨t267, A100, H⟩ := H
    replace H : (some t267) = some r := H
    have A10 := Aside0.mk A100
    clear A100
    obtain rfl := Option.some.inj H
    go_enter Try.func54, Try.ntmps54
    try go_wp2_with (first | ((with_reducible refine gate_dst (N := 1) rfl ?_); refine box_event ?hg (N := 1) ?hd (cs := #[.slice A0_0 l0_0.length c0_0]) (t := 30) ?hr ?_; (case hd => rfl); (case hg => rfl); (case hr => first | (go_simp; done) | (go_simp; rfl)); intro gb263 hg w11 hbox hb; have n0_ := Aside0.mk (below_step (y0 HB.out) hb); have n1_ := Aside0.mk (hbox); have n2_ := Aside0.mk ((y3 hg HB.out : w.heap.size ≤ gb263)); have n3_ := Aside0.mk ((y3 hg HB.out : w.heap.size ≤ gb263)); clear HB; have HB := n0_; have BK263 := n1_; have GW263 := n2_; have GE263 := n3_; clear n0_ n1_ n2_ n3_; clear hb hbox hg) | ((with_reducible refine gate_dst (N := 2) rfl ?_); refine box_event ?hg (N := 2) ?hd (cs := #[.slice none 0 0]) (t := 30) ?hr ?_; (case hd => rfl); (case hg => rfl); (case hr => first | (go_simp; done) | (go_simp; rfl)); intro gb264 hg w12 hbox hb; have n0_ := Aside0.mk (zbb BK263.out hb); have n1_ := Aside0.mk (below_step (y1 HB.out GE263.out) hb); have n2_ := Aside0.mk (hbox); have n3_ := Aside0.mk ((y5 hg HB.out GE263.out : w.heap.size ≤ gb264)); have n4_ := Aside0.mk ((y5 hg HB.out GE263.out : w.heap.size ≤ gb264)); have n5_ := Aside0.mk (zltn hg BK263.out); have n6_ := Aside0.mk (zgtn hg BK263.out); clear BK263; clear HB; have BK263 := n0_; have HB := n1_; have BK264 := n2_; have GW264 := n3_; have GE264 := n4_; have NB263_264 := n5_; have NB264_263 := n6_; clear n0_ n1_ n2_ n3_ n4_ n5_ n6_; clear hb hbox hg; have hnb13 := NB263_264.out; have hnc13 := NB264_263.out; have hcz14_0 : w12.cell? ⟨gb263, 0, none⟩ = some (.slice A0_0 l0_0.length c0_0) := (blk_cell BK263.out 0).trans rfl; have hfz14_0 := blk_frozen BK263.out 0))
    replace BK263 := Aside0.mk (blk_drew BK263.out)
    replace BK264 := Aside0.mk (blk_drew BK264.out)
    replace HB := Aside0.mk (below_drew1 HB.out)
    have p265 : 0 ≤ (0 : Int) := (by omega)
    have q265 : 0 < (l0_0.length : Int) := of_decide_eq_true (by first | (with_reducible assumption) | assumption)
    obtain ⟨ad265, A265_0, c265_0, e265, hx265_0, hl265_0, hi265_0⟩ := at_T30 HR0_0.out 0 p265 q265
    have hw265_0 := hx265_0
    (try rw [show ((0 : Int)).toNat = 0 from rfl] at hw265_0)
    (try rw [show 0 * 1 = 0 from rfl] at hw265_0)
    (try rw [Addr.add_zero'] at hw265_0)
    cases e265
    have qi265 : (0 < l0_0.length) = True := eq_true (by omega)
    (try rw [show ((0 : Int)).toNat = 0 from rfl] at hx265_0)
    (try rw [Addr.add_zero'] at hx265_0)
    replace hx265_0 := (HB.out.cell (World.block_lt_of_cell? w _ hx265_0)).trans hx265_0
    have HR265_0 := Aside0.mk hi265_0
    have HC265_0 := Aside0.mk hl265_0
    clear hi265_0 hl265_0
    replace p265 := eq_true p265
    replace q265 := eq_true q265
    have p266 : 0 ≤ (1 : Int) := (by omega)
    have q266 : 1 < (l0_0.length : Int) := of_decide_eq_true (by first | (with_reducible assumption) | assumption)
    obtain ⟨ad266, A266_0, c266_0, e266, hx266_0, hl266_0, hi266_0⟩ := at_T30 HR0_0.out 1 p266 q266
    have hw266_0 := hx266_0
    (try rw [show ((1 : Int)).toNat = 1 from rfl] at hw266_0)
    (try rw [show 1 * 1 = 1 from rfl] at hw266_0)
    (try simp only [Nat.reduceMul, Nat.reduceEqDiff, Go.Addr.add, ↓reduceIte] at hw266_0)
    obtain rfl : ad265 = ad266 := (by injection e266)
    (try simp only [show (1 : Int).toNat = 1 from rfl, Nat.reduceMul, Nat.reduceEqDiff, Go.Addr.add, ↓reduceIte] at hx266_0)
    have qi266 : (1 < l0_0.length) = True := eq_true (by omega)
    (try rw [show ((1 : Int)).toNat = 1 from rfl] at hx266_0)
    replace hx266_0 := (HB.out.cell (World.block_lt_of_cell? w _ hx266_0)).trans hx266_0
    have HR266_0 := Aside0.mk hi266_0
    have HC266_0 := Aside0.mk hl266_0
    clear hi266_0 hl266_0
    replace p266 := eq_true p266
    replace q266 := eq_true q266
    refine start_ (n := 10) (S := fun w' => w'.cell? ⟨gb263, 0, none⟩ = some (.slice (some ad265) l0_0.length c0_0) ∧ w'.cell? ad265 = some (.slice A265_0 ((rd_T30 l0_0 0).f0).length c265_0) ∧ w'.cell? ⟨ad265.block, ad265.off + 1, none⟩ = some (.slice A266_0 ((rd_T30 l0_0 1).f0).length c266_0)) (ds := []) #[false, false, false, false, false, false, false, false, false, false] (by kernel_rfl) rfl rfl ⟨(blk_cell BK263.out 0).trans rfl, ((HB.out.cell (World.block_lt_of_cell? w _ hw265_0)).trans hw265_0), ((HB.out.cell (World.block_lt_of_cell? w _ hw266_0)).trans hw266_0)⟩ (fun hHeld => ?_); refine with_tabW impl_typeCopy.tab3 impl_typeCopy.bits3 (fun HT_ HW_ => ?_)
    generalize w12.drew = w15 at BK263 BK264 HB HR265_0 HR266_0 hx265_0 hx266_0 hHeld ⊢
    refine pure_ (i := 0) (N := some 8) (v := ?_) (a' := ?_) #[true, false, false, false, false, false, false, false, false, false] rfl rfl (any_of HT_.out (by kernel_rfl)) (fun _ _ _ h => h) (Or.inl ⟨by rfl, ?_⟩) ?_ ?_
    rotate_left
    ·intro w'
     go_simp
     with_reducible rfl
    rotate_left
    ·simp only [Act.put, List.setIfInBounds_toArray, List.set_cons_zero, List.set_cons_succ, i64_w, i32_w]
     rfl
    refine pure_ (i := 4) (N := some 12) (v := ?_) (a' := ?_) #[true, false, false, false, true, false, false, false, false, false] rfl rfl (any_of HT_.out (by kernel_rfl)) (fun _ _ _ h => h) (Or.inl ⟨by rfl, ?_⟩) ?_ ?_
    rotate_left
    ·intro w'
     go_simp
     with_reducible rfl
    rotate_left
    ·simp only [Act.put, List.setIfInBounds_toArray, List.set_cons_zero, List.set_cons_succ, i64_w, i32_w]
     rfl
    refine take_ (i := 1) (N := some 9) (v := ?_) (a' := ?_) #[true, true, false, false, true, false, false, false, false, false] rfl rfl (take_ofW HT_.out HW_.out (by kernel_rfl)) (fun _ _ _ h => h) (Or.inl ⟨by rfl, ?_⟩) hHeld ?_ ?_
    rotate_left
    ·rintro w' ⟨s0, s1, s2⟩
     go_simp
     with_reducible rfl
    rotate_left
    ·simp only [Act.put, List.setIfInBounds_toArray, List.set_cons_zero, List.set_cons_succ, i64_w, i32_w]
     rfl
    refine pure_ (i := 2) (N := some 10) (v := ?_) (a' := ?_) #[true, true, true, false, true, false, false, false, false, false] rfl rfl (any_of HT_.out (by kernel_rfl)) (fun _ _ _ h => h) (Or.inl ⟨by rfl, ?_⟩) ?_ ?_
    rotate_left
    ·intro w'
     go_simp
     with_reducible rfl
    rotate_left
    ·simp only [Act.put, List.setIfInBounds_toArray, List.set_cons_zero, List.set_cons_succ, i64_w, i32_w]
     rfl
    refine take_ (i := 3) (N := some 11) (v := ?_) (a' := ?_) #[true, true, true, true, true, false, false, false, false, false] rfl rfl (take_ofW HT_.out HW_.out (by kernel_rfl)) (fun _ _ _ h => h) (Or.inl ⟨by rfl, ?_⟩) hHeld ?_ ?_
    rotate_left
    ·rintro w' ⟨s0, s1, s2⟩
     go_simp
     with_reducible rfl
    rotate_left
    ·simp only [Act.put, List.setIfInBounds_toArray, List.set_cons_zero, List.set_cons_succ, i64_w, i32_w]
     rfl
    refine take_ (i := 5) (N := some 13) (v := ?_) (a' := ?_) #[true, true, true, true, true, true, false, false, false, false] rfl rfl (take_ofW HT_.out HW_.out (by kernel_rfl)) (fun _ _ _ h => h) (Or.inl ⟨by rfl, ?_⟩) hHeld ?_ ?_
    rotate_left
    ·rintro w' ⟨s0, s1, s2⟩
     go_simp
     with_reducible rfl
    rotate_left
    ·simp only [Act.put, List.setIfInBounds_toArray, List.set_cons_zero, List.set_cons_succ, i64_w, i32_w]
     rfl
    refine pure_ (i := 6) (N := some 14) (v := ?_) (a' := ?_) #[true, true, true, true, true, true, true, false, false, false] rfl rfl (any_of HT_.out (by kernel_rfl)) (fun _ _ _ h => h) (Or.inl ⟨by rfl, ?_⟩) ?_ ?_
    rotate_left
    ·intro w'
     go_simp
     with_reducible rfl
    rotate_left
    ·simp only [Act.put, List.setIfInBounds_toArray, List.set_cons_zero, List.set_cons_succ, i64_w, i32_w]
     rfl
    refine take_ (i := 7) (N := some 15) (v := ?_) (a' := ?_) #[true, true, true, true, true, true, true, true, false, false] rfl rfl (take_ofW HT_.out HW_.out (by kernel_rfl)) (fun _ _ _ h => h) (Or.inl ⟨by rfl, ?_⟩) hHeld ?_ ?_
    rotate_left
    ·rintro w' ⟨s0, s1, s2⟩
     go_simp
     with_reducible rfl
    rotate_left
    ·simp only [Act.put, List.setIfInBounds_toArray, List.set_cons_zero, List.set_cons_succ, i64_w, i32_w]
     rfl
    refine one_ (i := 8) (N := some 16) #[true, true, true, true, true, true, true, true, true, false] rfl rfl (one_of HT_.out (by kernel_rfl)) (by decide) (fun K hK => ?_)
    refine goes_ Try.func79 (by kernel_rfl) rfl #[.agg #[.slice A265_0 ((rd_T30 l0_0 0).f0).length c265_0], .agg #[.slice A266_0 ((rd_T30 l0_0 1).f0).length c266_0]] (by rfl) rfl rfl (by (try simp only [List.map_toArray, List.map_cons, List.map_nil]); first | done | rfl | (simp only [List.length_drop, List.length_take]; rfl)) ?_
    with_reducible refine (impl_typePair.Fcalls (impl_typeCopy.f k) (ih k (by omega)) k _ _ ((rd_T30 l0_0 0).f0) _ _ ((rd_T30 l0_0 1).f0) t267 _ ?side1 ?side2 ?side3 ?side4 A10.out).mono ?_
    (case side1 => exact y6 HR265_0.out HB.out)
    (case side2 => exact HC265_0.out)
    (case side3 => exact y6 HR266_0.out HB.out)
    (case side4 => exact HC266_0.out)
    rintro e w16 ⟨v268, rfl, ho0, hb⟩
    refine ⟨_, rfl, ?_⟩
    have HO269 := Aside0.mk (Kd.N_lower (Kd.N_mono (ok' := fun k_ => (w.heap.size ≤ k_) ∧ k_ ≠ gb263 ∧ k_ ≠ gb264) ho0 (fun k_ hk_ => ⟨(Nat.le_trans (below_size (y2 HB.out GE263.out GE264.out)) hk_), (Kd.freshB (g := gb263) (o := .cells #[.slice (some ad265) l0_0.length c0_0] 30 (0, 0)) (y4 BK263.out) k_ hk_), (Kd.freshB (g := gb264) (o := .cells #[.slice none 0 0] 30 (0, 0)) (y4 BK264.out) k_ hk_)⟩)) (below_size (y2 HB.out GE263.out GE264.out)))
    replace BK263 := Aside0.mk (zbb BK263.out hb)
    replace BK264 := Aside0.mk (zbb BK264.out hb)
    replace HB := Aside0.mk (below_step (y2 HB.out GE263.out GE264.out) hb)
    (try clear hb)
    (try clear hb2)
    (try clear hk)
    (try clear hi)
    (try clear ho0)
    obtain ⟨Ao17, co17, eo17⟩ := Kd.N_slice HO269.out
    (first | subst eo17 | (injection eo17 with f1_ f2_ f3_; have f4_ := f1_.symm; have f5_ := f3_.symm; clear f1_ f2_ f3_; subst f4_; subst f5_))
    refine hK.out _ _ ⟨(blk_cell BK263.out 0).trans rfl, ((HB.out.cell (World.block_lt_of_cell? w _ hw265_0)).trans hw265_0), ((HB.out.cell (World.block_lt_of_cell? w _ hw266_0)).trans hw266_0)⟩ (fun hHeld => ?_)
    clear hK K
    refine norm_ (a' := ?_) ?_ ?_
    rotate_left
    ·show Act.put _ (some 16) _ = _
     simp only [Act.put, List.setIfInBounds_toArray, List.set_cons_zero, List.set_cons_succ, i64_w, i32_w]
     rfl
    refine one_ (i := 9) (N := none) #[true, true, true, true, true, true, true, true, true, true] rfl rfl (one_of HT_.out (by kernel_rfl)) (by decide) (fun K hK => ?_)
    have hs18 : w16.cell? ⟨gb264, 0, none⟩ = some (.slice none 0 0) := (blk_cell BK264.out 0).trans rfl
    have hfs18 := blk_frozen BK264.out 0
    have hns18_0 := NB263_264.out
    have hms18_0 := NB264_263.out
    refine skip_ (w1 := ?_) (by rfl) rfl ?_ ?_
    rotate_left
    ·go_simp
     rfl
    refine hK.out _ _ ⟨((cell_far (p := ⟨gb264, _, none⟩) NB263_264.out _).trans (hHeld.1)), ((cell_far (p := ⟨gb264, _, none⟩) (by first | exact Nat.ne_of_lt (Nat.lt_of_lt_of_le (by have := World.block_lt_of_cell? _ _ hw265_0; first | rwa [add_block] at this | exact this) GW264.out) | (rw [add_block]; exact Nat.ne_of_lt (Nat.lt_of_lt_of_le (by have := World.block_lt_of_cell? _ _ hw265_0; first | rwa [add_block] at this | exact this) GW264.out)) | (show (Addr.add _ _).block ≠ _; rw [add_block]; exact Nat.ne_of_lt (Nat.lt_of_lt_of_le (by have := World.block_lt_of_cell? _ _ hw265_0; first | rwa [add_block] at this | exact this) GW264.out)) | (dsimp only; exact Nat.ne_of_lt (Nat.lt_of_lt_of_le (by have := World.block_lt_of_cell? _ _ hw265_0; first | rwa [add_block] at this | exact this) GW264.out))) _).trans (hHeld.2.1)), ((cell_far (p := ⟨gb264, _, none⟩) (by first | exact Nat.ne_of_lt (Nat.lt_of_lt_of_le (by have := World.block_lt_of_cell? _ _ hw266_0; first | rwa [add_block] at this | exact this) GW264.out) | (rw [add_block]; exact Nat.ne_of_lt (Nat.lt_of_lt_of_le (by have := World.block_lt_of_cell? _ _ hw266_0; first | rwa [add_block] at this | exact this) GW264.out)) | (show (Addr.add _ _).block ≠ _; rw [add_block]; exact Nat.ne_of_lt (Nat.lt_of_lt_of_le (by have := World.block_lt_of_cell? _ _ hw266_0; first | rwa [add_block] at this | exact this) GW264.out)) | (dsimp only; exact Nat.ne_of_lt (Nat.lt_of_lt_of_le (by have := World.block_lt_of_cell? _ _ hw266_0; first | rwa [add_block] at this | exact this) GW264.out))) _).trans (hHeld.2.2))⟩ (fun hHeld => ?_)
    clear hK K
    refine done_ (done_of HT_.out (by kernel_rfl)) ?_
    try go_wp2
    refine bodyPost_ret (results_cell_row rfl _ _ gb264 30 #[.slice Ao17 t267.length co17] (0, 0) _ rfl (by (with_reducible repeat (first | refine blk_drewN ?_ _ | refine blk_drew ?_ | refine blk_alloc ?_ _)); refine blk_put (cs := #[.slice none 0 0]) ?_ 0 _ rfl; (with_reducible repeat (first | refine blk_drewN ?_ _ | refine blk_drew ?_ | refine blk_alloc ?_ _)); exact BK264.out) Try.underlying30 rfl (by kernel_rfl)) rfl ?_
    exact ⟨_, by first | rfl | (simp [errW_none, errW_some] <;> rfl) | (simp [*, errW_none, errW_some] <;> rfl), by (with_reducible repeat (first | apply Kd.N_alloc | apply Kd.N_drewN | apply Kd.N_drew)); exact Kd.N_mono (Kd.N_far (p := ⟨gb264, 0, none⟩) (Kd.N_mono HO269.out (fun k_ hk => (⟨hk, hk.2.2⟩ : _ ∧ k_ ≠ gb264))) (fun _ hk => hk.2) (.slice Ao17 t267.length co17)) (fun _ hk => hk.1.1), by repeat (first | (with_reducible first | exact HB.out | apply below_alloc | apply pw_below_drewN | apply below_drew1 | refine below_set ?_ GE263.out | refine below_set ?_ GE264.out) | exact HB.out)⟩
   ·rw [if_neg c9] at H
    exact absurd H (by simp)
  ·rw [if_neg c8] at H
   exact absurd H (by simp)

def impl_typePair.f (k : Nat) (l0_0 : List (S30)) (l1_0 : List (S30)) : Option ((List (S30))) := impl_typePair.F (impl_typeCopy.f k) k l0_0 l1_0
theorem impl_typePair.mono : ∀ a0 a1 k, LeO (impl_typePair.f k a0 a1) (impl_typePair.f (k + 1) a0 a1) := fun a0 a1 k => impl_typePair.Fmono (fun y0 => impl_typeCopy.mono y0 k) a0 a1 k
theorem impl_typePair.calls (k : Nat) (A0_0 : Option Addr) (c0_0 : Nat) (l0_0 : List (S30)) (A1_0 : Option Addr) (c1_0 : Nat) (l1_0 : List (S30)) (r : List (S30)) (w : World) (hr0_0 : Kd.C k30 w A0_0 l0_0.length l0_0) (hc0_0 : l0_0.length ≤ c0_0) (hr1_0 : Kd.C k30 w A1_0 l1_0.length l1_0) (hc1_0 : l1_0.length ≤ c1_0) (h : impl_typePair.f k l0_0 l1_0 = some r) :
  Calls Try.prog 79 #[.agg #[.slice A0_0 l0_0.length c0_0], .agg #[.slice A1_0 l1_0.length c1_0]] w fun e w' => ∃ v0_ : Value, e = .returned (.agg #[v0_]) ∧ Kd.N k30 30 w' w.heap.size (fun k_ => (w.heap.size ≤ k_)) v0_ r ∧ Below w.heap.size w w' := impl_typePair.Fcalls (impl_typeCopy.f k) (impl_typeCopy.calls k) k A0_0 c0_0 l0_0 A1_0 c1_0 l1_0 r w hr0_0 hc0_0 hr1_0 hc1_0 h

end Go.Proofs.Ytjhbhihfifhljaa.PA
