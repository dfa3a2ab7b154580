-- Ytjhbhihfifhljaa's texts for the statement FnValParts, one behind the other (merge.py).
import Derived.Test.YtjhbhihfifhljaaQFnValParts0
section
namespace Go.Proofs.Ytjhbhihfifhljaa.PA
open Go.RowKit Go.Proofs.YtjhbhihfifhljaaW.PrintWords Go.Proofs.YtjhbhihfifhljaaW.PrintLast Go.Proofs.YtjhbhihfifhljaaW.PrintMore
attribute [local go_sem] max2_int min2_int max_two min_two max_three min_three max_four min_four
set_option linter.unusedVariables false
set_option linter.unusedSimpArgs false
def impl_typePair.F (rec_ : List (S30) → Option ((List (S30)))) (k : Nat) (l0_0 : List (S30)) (l1_0 : List (S30)) : Option ((List (S30))) := (rec_ l0_0).bind fun t254 => ((rec_ l1_0).bind fun t257 => (some (([(⟨t254⟩ : S30), (⟨t257⟩ : S30)] : List (S30)))))
def impl_typeCopy.f : Nat → List (S30) → Option ((List (S30)))
 | 0, _ => none
 | k + 1, l0_0 => if (l0_0.length : Int) = 0 then (some ([] : List (S30))) else (if 0 < (l0_0.length : Int) then (if 1 < (l0_0.length : Int) then ((impl_typePair.F (impl_typeCopy.f k) k ((rd_T30 l0_0 0).f0) ((rd_T30 l0_0 1).f0)).bind fun t267 => (some t267)) else (none)) else (none))
theorem impl_typePair.Fmono {rec_ rec2_ : List (S30) → Option ((List (S30)))} (hrec : (∀ y0, LeO (rec_ y0) (rec2_ y0))) : ∀ a0 a1 k, LeO (impl_typePair.F rec_ k a0 a1) (impl_typePair.F rec2_ (k + 1) a0 a1) := by
 intro a0 a1 k
 unfold impl_typePair.F
 repeat' first
   | (with_reducible exact hrec _)
   | (with_reducible exact LeO.refl _)
   | (with_reducible exact LeO.none _)
   | (with_reducible refine LeO.ite ?_ ?_)
   | (with_reducible refine LeO.bind ?_ (fun _ => ?_))
   | exact hrec _
   | exact LeO.none _
   | refine LeO.ite ?_ ?_
   | refine LeO.bind ?_ (fun _ => ?_)
theorem impl_typeCopy.mono_l : ∀ k, (∀ y0, LeO (impl_typeCopy.f k y0) (impl_typeCopy.f (k + 1) y0))
 | 0 => fun _ r h => by simp [impl_typeCopy.f] at h
 | k + 1 => by
  have ih0 := impl_typeCopy.mono_l k
  ·intro y0
   unfold impl_typeCopy.f
   repeat' first
   | (with_reducible exact ih0 _)
   | (with_reducible exact impl_typePair.Fmono ih0 _ _ _)
   | (with_reducible exact LeO.refl _)
   | (with_reducible exact LeO.none _)
   | (with_reducible refine LeO.ite ?_ ?_)
   | (with_reducible refine LeO.bind ?_ (fun _ => ?_))
   | exact ih0 _
   | exact impl_typePair.Fmono ih0 _ _ _
   | exact LeO.none _
   | refine LeO.ite ?_ ?_
   | refine LeO.bind ?_ (fun _ => ?_)
theorem impl_typeCopy.mono : ∀ a0 k, LeO (impl_typeCopy.f k a0) (impl_typeCopy.f (k + 1) a0) := by
 intro a0 k
 have ih0 := impl_typeCopy.mono_l k
 exact ih0 a0
set_option maxHeartbeats 8000000 in
set_option maxRecDepth 100000 in
theorem impl_typePair.Fcalls (rec_ : List (S30) → Option ((List (S30)))) (IH : ∀ (A0_0 : Option Addr) (c0_0 : Nat) (l0_0 : List (S30)) (r : List (S30)) (w : World) (hr0_0 : Kd.C k30 w A0_0 l0_0.length l0_0) (hc0_0 : l0_0.length ≤ c0_0) (h : rec_ l0_0 = some r),
  Calls Try.prog 54 #[.agg #[.slice A0_0 l0_0.length c0_0]] w fun e w' => ∃ v0_ : Value, e = .returned (.agg #[v0_]) ∧ Kd.N k30 30 w' w.heap.size (fun k_ => (w.heap.size ≤ k_)) v0_ r ∧ Below w.heap.size w w') (k : Nat) (A0_0 : Option Addr) (c0_0 : Nat) (l0_0 : List (S30)) (A1_0 : Option Addr) (c1_0 : Nat) (l1_0 : List (S30)) (r : List (S30)) (w : World) (hr0_0 : Kd.C k30 w A0_0 l0_0.length l0_0) (hc0_0 : l0_0.length ≤ c0_0) (hr1_0 : Kd.C k30 w A1_0 l1_0.length l1_0) (hc1_0 : l1_0.length ≤ c1_0) (h : impl_typePair.F rec_ k l0_0 l1_0 = some r) :
  Calls Try.prog 79 #[.agg #[.slice A0_0 l0_0.length c0_0], .agg #[.slice A1_0 l1_0.length c1_0]] w fun e w' => ∃ v0_ : Value, e = .returned (.agg #[v0_]) ∧ Kd.N k30 30 w' w.heap.size (fun k_ => (w.heap.size ≤ k_)) v0_ r ∧ Below w.heap.size w w' := by
 have hu30 := Try.underlying30
 have HR0_0 := Aside0.mk hr0_0
 have HC0_0 := Aside0.mk hc0_0
 clear hr0_0 hc0_0
 have HR1_0 := Aside0.mk hr1_0
 have HC1_0 := Aside0.mk hc1_0
 clear hr1_0 hc1_0
 have HB := Aside0.mk (Below.refl w.heap.size w)
 have H : ((rec_ l0_0).bind fun t254 => ((rec_ l1_0).bind fun t257 => (some (([(⟨t254⟩ : S30), (⟨t257⟩ : S30)] : List (S30)))))) = some r := h
 clear h
 obtain ⟨t254, A30, H⟩ := ob H
 have A3 := Aside0.mk A30
 clear A30
 obtain ⟨t257, A40, H⟩ := ob H
 have A4 := Aside0.mk A40
 clear A40
 obtain ⟨y260, hy260⟩ : ∃ y_ : List (S30), y_ = (([(⟨t254⟩ : S30), (⟨t257⟩ : S30)] : List (S30))) := ⟨_, rfl⟩
 replace H : (some y260) = some r := by first | (rw [hy260]; with_reducible exact H) | (have H2_ := (Option.bind_some _ _).symm.trans H; rw [hy260]; with_reducible exact H2_) | (have H2_ := (Option.bind_some _ _).symm.trans H; with_reducible exact H2_) | with_reducible exact H | (rw [hy260]; exact H) | exact H
 have Ny260 := Aside0.mk hy260
 clear hy260
 obtain rfl := Option.some.inj H
 go_enter Try.func79, Try.ntmps79
 try go_wp2_with (first | ((with_reducible refine gate_dst (N := 2) rfl ?_); refine zbx 2 #[.slice A0_0 l0_0.length c0_0] 30 ?_; intro gb251 hg w5 hbox hb; have BK251 := Aside0.mk hbox; have GW251 := Aside0.mk ((y5 hg HB.out : w.heap.size ≤ gb251)); have GE251 := Aside0.mk ((y5 hg HB.out : w.heap.size ≤ gb251)); replace HB := Aside0.mk (below_step (y2 HB.out) hb); clear hb hbox hg) | ((with_reducible refine gate_dst (N := 3) rfl ?_); refine zbx 3 #[.slice A1_0 l1_0.length c1_0] 30 ?_; intro gb252 hg w6 hbox hb; have BK252 := Aside0.mk hbox; have GW252 := Aside0.mk ((y6 hg HB.out GE251.out : w.heap.size ≤ gb252)); have GE252 := Aside0.mk ((y6 hg HB.out GE251.out : w.heap.size ≤ gb252)); replace HB := Aside0.mk (below_step (y3 HB.out GE251.out) hb); have NB251_252 := zltn hg BK251; have NB252_251 := zgtn hg BK251; replace BK251 := zbb BK251 hb; clear hb hbox hg) | ((with_reducible refine gate_dst (N := 4) rfl ?_); refine zbx 4 #[.slice none 0 0] 30 ?_; intro gb253 hg w7 hbox hb; have BK253 := Aside0.mk hbox; have GW253 := Aside0.mk ((y20 hg HB.out GE251.out GE252.out : w.heap.size ≤ gb253)); have GE253 := Aside0.mk ((y20 hg HB.out GE251.out GE252.out : w.heap.size ≤ gb253)); replace HB := Aside0.mk (below_step (y1 HB.out GE251.out GE252.out) hb); have NB251_253 := zltn hg BK251; have NB253_251 := zgtn hg BK251; replace BK251 := zbb BK251 hb; have NB252_253 := zltn hg BK252; have NB253_252 := zgtn hg BK252; replace BK252 := zbb BK252 hb; clear hb hbox hg))
 replace BK251 := Aside0.mk (blk_drew BK251.out)
 replace BK252 := Aside0.mk (blk_drew BK252.out)
 replace BK253 := Aside0.mk (blk_drew BK253.out)
 replace HB := Aside0.mk (below_drew1 HB.out)
 refine start_ (n := 7) (S := fun w' => w'.cell? ⟨gb251, 0, none⟩ = some (.slice A0_0 l0_0.length c0_0) ∧ w'.cell? ⟨gb252, 0, none⟩ = some (.slice A1_0 l1_0.length c1_0)) (ds := []) #[false, false, false, false, false, false, false] (by kernel_rfl) rfl rfl ⟨(blk_cell BK251.out 0).trans rfl, (blk_cell BK252.out 0).trans rfl⟩ (fun hHeld => ?_)
 generalize w7.drew = w8 at BK251 BK252 BK253 HB hHeld ⊢
 refine take_ (i := 0) (N := some 5) (v := ?_) (a' := ?_) #[true, false, false, false, false, false, false] rfl rfl (by kernel_rfl) (fun _ _ _ h => h) (Or.inl ⟨(by rfl), ?_⟩) hHeld ?_ ?_
 rotate_left
 ·rintro w' ⟨s0, s1⟩
  go_simp
  with_reducible rfl
 rotate_left
 ·simp only [Act.put, List.setIfInBounds_toArray, List.set_cons_zero, List.set_cons_succ, i64_w, i32_w]
  rfl
 refine take_ (i := 2) (N := some 7) (v := ?_) (a' := ?_) #[true, false, true, false, false, false, false] rfl rfl (by kernel_rfl) (fun _ _ _ h => h) (Or.inl ⟨(by rfl), ?_⟩) hHeld ?_ ?_
 rotate_left
 ·rintro w' ⟨s0, s1⟩
  go_simp
  with_reducible rfl
 rotate_left
 ·simp only [Act.put, List.setIfInBounds_toArray, List.set_cons_zero, List.set_cons_succ, i64_w, i32_w]
  rfl
 refine one_ (i := 1) (N := some 6) #[true, true, true, false, false, false, false] rfl rfl (by kernel_rfl) (by decide) (fun K hK => ?_)
 refine goes_ Try.func54 (by kernel_rfl) rfl #[.agg #[.slice A0_0 l0_0.length c0_0]] (by rfl) rfl rfl y4 ?_
 with_reducible refine (IH  _ _ l0_0 t254 _ ?side1 ?side2 A3.out).mono ?_
 (case side1 => exact y8 HR0_0.out HB.out)
 (case side2 => exact HC0_0.out)
 rintro e w9 ⟨v255, rfl, ho0, hb⟩
 refine ⟨_, rfl, ?_⟩
 have HO256 := Aside0.mk (Kd.N_lower (Kd.N_mono (ok' := fun k_ => (w.heap.size ≤ k_) ∧ k_ ≠ gb251 ∧ k_ ≠ gb252 ∧ k_ ≠ gb253) ho0 (fun k_ hk_ => ⟨(Nat.le_trans (below_size (y7 HB.out GE251.out GE252.out GE253.out)) hk_), (Kd.freshB (g := gb251) (o := .cells #[.slice A0_0 l0_0.length c0_0] 30 (0, 0)) (y0 BK251.out) k_ hk_), (Kd.freshB (g := gb252) (o := .cells #[.slice A1_0 l1_0.length c1_0] 30 (0, 0)) (y0 BK252.out) k_ hk_), (Kd.freshB (g := gb253) (o := .cells #[.slice none 0 0] 30 (0, 0)) (y0 BK253.out) k_ hk_)⟩)) (below_size (y7 HB.out GE251.out GE252.out GE253.out)))
 replace BK251 := zbb BK251 hb
 replace BK252 := zbb BK252 hb
 replace BK253 := zbb BK253 hb
 replace HB := Aside0.mk (below_step (y7 HB.out GE251.out GE252.out GE253.out) hb)
 (try clear hb)
 (try clear hb2)
 (try clear hk)
 (try clear hi)
 (try clear ho0)
 refine hK.out _ _ ⟨(blk_cell BK251.out 0).trans rfl, (blk_cell BK252.out 0).trans rfl⟩ (fun hHeld => ?_)
 clear hK K
 refine norm_ (a' := ?_) ?_ ?_
 rotate_left
 ·show Act.put _ (some 6) _ = _
  simp only [Act.put, List.setIfInBounds_toArray, List.set_cons_zero, List.set_cons_succ, i64_w, i32_w]
  rfl
 refine one_ (i := 3) (N := some 8) #[true, true, true, true, false, false, false] rfl rfl (by kernel_rfl) (by decide) (fun K hK => ?_)
 refine goes_ Try.func54 (by kernel_rfl) rfl #[.agg #[.slice A1_0 l1_0.length c1_0]] (by rfl) rfl rfl y4 ?_
 with_reducible refine (IH  _ _ l1_0 t257 _ ?side1 ?side2 A4.out).mono ?_
 (case side1 => exact y8 HR1_0.out HB.out)
 (case side2 => exact HC1_0.out)
 rintro e w10 ⟨v258, rfl, ho0, hb⟩
 refine ⟨_, rfl, ?_⟩
 have HO259 := Aside0.mk (Kd.N_lower (Kd.N_mono (ok' := fun k_ => (w.heap.size ≤ k_) ∧ some k_ ≠ (v255 : Value).ownBlock ∧ k_ ≠ gb251 ∧ k_ ≠ gb252 ∧ k_ ≠ gb253) ho0 (fun k_ hk_ => ⟨(Nat.le_trans (below_size (y7 HB.out GE251.out GE252.out GE253.out)) hk_), (Kd.fresh' (Kd.N_lt (y9 HO256.out)) k_ hk_), (Kd.freshB (g := gb251) (o := .cells #[.slice A0_0 l0_0.length c0_0] 30 (0, 0)) (y0 BK251.out) k_ hk_), (Kd.freshB (g := gb252) (o := .cells #[.slice A1_0 l1_0.length c1_0] 30 (0, 0)) (y0 BK252.out) k_ hk_), (Kd.freshB (g := gb253) (o := .cells #[.slice none 0 0] 30 (0, 0)) (y0 BK253.out) k_ hk_)⟩)) (below_size (y7 HB.out GE251.out GE252.out GE253.out)))
 replace HO256 := Aside0.mk (Kd.N_elder' (y9 HO256.out) (Kd.N_base ho0) hb)
 replace BK251 := zbb BK251 hb
 replace BK252 := zbb BK252 hb
 replace BK253 := zbb BK253 hb
 replace HB := Aside0.mk (below_step (y7 HB.out GE251.out GE252.out GE253.out) hb)
 (try clear hb)
 (try clear hb2)
 (try clear hk)
 (try clear hi)
 (try clear ho0)
 obtain ⟨Ao11, co11, eo11⟩ := Kd.N_slice HO256.out
 (first | subst eo11 | (injection eo11 with f1_ f2_ f3_; have f4_ := f1_.symm; have f5_ := f3_.symm; clear f1_ f2_ f3_; subst f4_; subst f5_))
 obtain ⟨Ao12, co12, eo12⟩ := Kd.N_slice HO259.out
 (first | subst eo12 | (injection eo12 with f1_ f2_ f3_; have f4_ := f1_.symm; have f5_ := f3_.symm; clear f1_ f2_ f3_; subst f4_; subst f5_))
 refine hK.out _ _ ⟨(blk_cell BK251.out 0).trans rfl, (blk_cell BK252.out 0).trans rfl⟩ (fun hHeld => ?_)
 clear hK K
 refine norm_ (a' := ?_) ?_ ?_
 rotate_left
 ·show Act.put _ (some 8) _ = _
  simp only [Act.put, List.setIfInBounds_toArray, List.set_cons_zero, List.set_cons_succ, i64_w, i32_w]
  rfl
 refine one_ (i := 4) (N := some 9) #[true, true, true, true, true, false, false] rfl rfl (by kernel_rfl) (by decide) (fun K hK => ?_)
 refine Kd.N_lit_step k30 _ 30 ?hg (N' := 9) ?hd (xs := ([(⟨t254⟩ : S30), (⟨t257⟩ : S30)] : List (S30))) (inner := [.slice Ao11 t254.length co11, .slice Ao12 t257.length co12]) (ok := (fun k_ => (w.heap.size ≤ k_) ∧ k_ ≠ gb251 ∧ k_ ≠ gb252 ∧ k_ ≠ gb253)) (okp := (fun k_ => (w.heap.size ≤ k_) ∧ k_ ≠ gb251 ∧ k_ ≠ gb252 ∧ k_ ≠ gb253)) ?hr ?hp (fun _ hk => hk) ((show ∀ k_, w10.heap.size ≤ k_ → (fun k_ => (w.heap.size ≤ k_) ∧ k_ ≠ gb251 ∧ k_ ≠ gb252 ∧ k_ ≠ gb253) k_ from fun k_ hk => ⟨(Nat.le_trans (below_size (y7 HB.out GE251.out GE252.out GE253.out)) hk), Kd.freshB (g := gb251) (o := .cells #[.slice A0_0 l0_0.length c0_0] 30 (0, 0)) (y0 BK251.out) k_ hk, Kd.freshB (g := gb252) (o := .cells #[.slice A1_0 l1_0.length c1_0] 30 (0, 0)) (y0 BK252.out) k_ hk, Kd.freshB (g := gb253) (o := .cells #[.slice none 0 0] 30 (0, 0)) (y0 BK253.out) k_ hk⟩) _ (Nat.le_refl _)) (Below.refl _ _) (Nat.le_refl _) (by simp) ?_; (case hd => rfl); (case hg => rfl); (case hr => first | (go_simp; done) | (go_simp; rfl)); (case hp => exact (Reps.one (show Kd.FK k30 _ _ (⟨t254⟩ : S30) [.slice Ao11 t254.length co11] from (k30_mkF _ _ (⟨t254⟩ : S30) (Kd.N_reads' (Kd.N_mono (ok' := (fun k_ => (w.heap.size ≤ k_) ∧ k_ ≠ gb251 ∧ k_ ≠ gb252 ∧ k_ ≠ gb253)) (HO256.out) (fun k_ hk => ⟨hk.1.1, ⟨hk.1.2.1, ⟨hk.1.2.2.1, hk.1.2.2.2⟩⟩⟩))).2.1 (Kd.N_F (Kd.N_mono (ok' := (fun k_ => (w.heap.size ≤ k_) ∧ k_ ≠ gb251 ∧ k_ ≠ gb252 ∧ k_ ≠ gb253)) (HO256.out) (fun k_ hk => ⟨hk.1.1, ⟨hk.1.2.1, ⟨hk.1.2.2.1, hk.1.2.2.2⟩⟩⟩))))) (Reps.one (show Kd.FK k30 _ _ (⟨t257⟩ : S30) [.slice Ao12 t257.length co12] from (k30_mkF _ _ (⟨t257⟩ : S30) (Kd.N_reads' (Kd.N_mono (ok' := (fun k_ => (w.heap.size ≤ k_) ∧ k_ ≠ gb251 ∧ k_ ≠ gb252 ∧ k_ ≠ gb253)) (HO259.out) (fun k_ hk => ⟨hk.1, ⟨hk.2.2.1, ⟨hk.2.2.2.1, hk.2.2.2.2⟩⟩⟩))).2.1 (Kd.N_F (Kd.N_mono (ok' := (fun k_ => (w.heap.size ≤ k_) ∧ k_ ≠ gb251 ∧ k_ ≠ gb252 ∧ k_ ≠ gb253)) (HO259.out) (fun k_ hk => ⟨hk.1, ⟨hk.2.2.1, ⟨hk.2.2.2.1, hk.2.2.2.2⟩⟩⟩))))) (Reps.none _ _))))
 intro v261 w13 ho14 hb hg_ hnew_
 clear hg_ hnew_
 (first | rw [← Ny260.out] at ho14 | (simp only [Int.reduceToNat] at ho14; rw [← Ny260.out] at ho14))
 have HO262 := Aside0.mk (Kd.N_lower ho14 (below_size (y7 HB.out GE251.out GE252.out GE253.out)))
 replace BK251 := zbb BK251 hb
 replace BK252 := zbb BK252 hb
 replace BK253 := zbb BK253 hb
 replace HB := Aside0.mk (below_step (y7 HB.out GE251.out GE252.out GE253.out) hb)
 clear HO256 HO259
 clear hb ho14
 obtain ⟨Ao15, co15, eo15⟩ := Kd.N_slice HO262.out
 (first | subst eo15 | (injection eo15 with f1_ f2_ f3_; have f4_ := f1_.symm; have f5_ := f3_.symm; clear f1_ f2_ f3_; subst f4_; subst f5_))
 refine hK.out _ _ ⟨(blk_cell BK251.out 0).trans rfl, (blk_cell BK252.out 0).trans rfl⟩ (fun hHeld => ?_)
 clear hK K
 refine norm_ (a' := ?_) ?_ ?_
 rotate_left
 ·show Act.put _ (some 9) _ = _
  simp only [Act.put, List.setIfInBounds_toArray, List.set_cons_zero, List.set_cons_succ, i64_w, i32_w]
  rfl
 refine pure_ (i := 5) (N := some 10) (v := ?_) (a' := ?_) #[true, true, true, true, true, true, false] rfl rfl (by kernel_rfl) (fun _ _ _ h => h) (Or.inl ⟨(by rfl), ?_⟩) ?_ ?_
 rotate_left
 ·intro w'
  go_simp
  with_reducible rfl
 rotate_left
 ·simp only [Act.put, List.setIfInBounds_toArray, List.set_cons_zero, List.set_cons_succ, i64_w, i32_w]
  rfl
 refine one_ (i := 6) (N := none) #[true, true, true, true, true, true, true] rfl rfl (by kernel_rfl) (by decide) (fun K hK => ?_)
 have hs16 : w13.cell? ⟨gb253, 0, none⟩ = some (.slice none 0 0) := (blk_cell BK253.out 0).trans rfl
 have hfs16 := zfr BK253 0
 have hns16_0 := NB251_253.out
 have hns16_1 := NB252_253.out
 have hms16_0 := NB253_251.out
 have hms16_1 := NB253_252.out
 refine skip_ (w1 := ?_) (by rfl) rfl ?_ ?_
 rotate_left
 ·go_simp
  rfl
 refine hK.out _ _ ⟨((cell_far (p := ⟨gb253, _, none⟩) NB251_253.out _).trans (hHeld.1)), ((cell_far (p := ⟨gb253, _, none⟩) NB252_253.out _).trans (hHeld.2))⟩ (fun hHeld => ?_)
 clear hK K
 refine done_ (by kernel_rfl) ?_
 try go_wp2
 refine bodyPost_ret (results_cell_row rfl _ _ gb253 30 #[.slice Ao15 y260.length co15] (0, 0) _ rfl (by (with_reducible repeat (first | refine blk_drewN ?_ _ | refine blk_drew ?_ | refine blk_alloc ?_ _)); apply blk_put (i := 0); (case h => exact y0 BK253.out); (case e => rfl)) Try.underlying30 rfl (by kernel_rfl)) rfl ?_
 exact ⟨_, y14, (by (with_reducible repeat (first | apply Kd.N_alloc | apply Kd.N_drewN | apply Kd.N_drew)); exact Kd.N_mono (Kd.N_far (p := ⟨gb253, 0, none⟩) (Kd.N_mono HO262.out (fun k_ hk => (⟨hk, hk.2.2.2⟩ : _ ∧ k_ ≠ gb253))) (fun _ hk => hk.2) (.slice Ao15 y260.length co15)) (fun _ hk => hk.1.1)), (y7 HB.out GE251.out GE252.out GE253.out)⟩
def impl_typeCopy.T3 : Bool × List (List Nat × List Nat) := (true, [([], []), ([0], [0]), ([1], [1]), ([2], [2]), ([], []), ([4], [4]), ([5], [5]), ([6], [6]), ([3, 7], [3, 7]), ([8, 8, 0, 1, 2, 3, 4, 5, 6, 7, 8], [8])])
def impl_typeCopy.B3 : List Nat := [0, 1, 3, 7, 0, 16, 48, 112, 255, 511]
theorem impl_typeCopy.tab3 : rtab .any (opsOf Try.f54 3) = impl_typeCopy.T3 := by kernel_rfl
theorem impl_typeCopy.bits3 : waitsOk impl_typeCopy.T3.2 impl_typeCopy.B3 = true := by kernel_rfl
set_option maxHeartbeats 8000000 in
set_option maxRecDepth 100000 in
theorem impl_typeCopy.calls (k : Nat) : ∀ (A0_0 : Option Addr) (c0_0 : Nat) (l0_0 : List (S30)) (r : List (S30)) (w : World) (hr0_0 : Kd.C k30 w A0_0 l0_0.length l0_0) (hc0_0 : l0_0.length ≤ c0_0) (h : impl_typeCopy.f k l0_0 = some r),
  Calls Try.prog 54 #[.agg #[.slice A0_0 l0_0.length c0_0]] w fun e w' => ∃ v0_ : Value, e = .returned (.agg #[v0_]) ∧ Kd.N k30 30 w' w.heap.size (fun k_ => (w.heap.size ≤ k_)) v0_ r ∧ Below w.heap.size w w' := by
 induction k using Nat.strongRecOn with
 | _ k ih =>
 intro A0_0 c0_0 l0_0 r w hr0_0 hc0_0 h
 cases k with
 | zero => exact absurd h (by simp [impl_typeCopy.f])
 | succ k =>
 simp only [impl_typeCopy.f] at h
 have hu30 := Try.underlying30
 have HR0_0 := Aside0.mk hr0_0
 have HC0_0 := Aside0.mk hc0_0
 clear hr0_0 hc0_0
 have HB := Aside0.mk (Below.refl w.heap.size w)
 have H : (if (l0_0.length : Int) = 0 then (some ([] : List (S30))) else (if 0 < (l0_0.length : Int) then (if 1 < (l0_0.length : Int) then ((impl_typePair.F (impl_typeCopy.f k) k ((rd_T30 l0_0 0).f0) ((rd_T30 l0_0 1).f0)).bind fun t267 => (some t267)) else (none)) else (none))) = some r := h
 clear h
 by_cases c2 : (l0_0.length : Int) = 0
 ·rw [if_pos c2] at H
  have c2b0 : ((l0_0.length : Int) == 0) = true := beq_iff_eq.mpr c2
  have c2b1 : ((l0_0.length : Int) != 0) = false := bne_eq_false_iff_eq.mpr c2
  clear c2
  obtain rfl := Option.some.inj H
  go_enter Try.func54, Try.ntmps54
  go_wp2_with (first | ((with_reducible refine gate_dst (N := 1) rfl ?_); refine zbx 1 #[.slice A0_0 l0_0.length c0_0] 30 ?_; intro gb263 hg w3 hbox hb; have BK263 := Aside0.mk hbox; have GW263 := Aside0.mk ((y5 hg HB.out : w.heap.size ≤ gb263)); have GE263 := Aside0.mk ((y5 hg HB.out : w.heap.size ≤ gb263)); replace HB := Aside0.mk (below_step (y2 HB.out) hb); clear hb hbox hg) | ((with_reducible refine gate_dst (N := 2) rfl ?_); refine zbx 2 #[.slice none 0 0] 30 ?_; intro gb264 hg w4 hbox hb; have BK264 := Aside0.mk hbox; have GW264 := Aside0.mk ((y6 hg HB.out GE263.out : w.heap.size ≤ gb264)); have GE264 := Aside0.mk ((y6 hg HB.out GE263.out : w.heap.size ≤ gb264)); replace HB := Aside0.mk (below_step (y3 HB.out GE263.out) hb); have NB263_264 := zltn hg BK263; have NB264_263 := zgtn hg BK263; replace BK263 := zbb BK263 hb; clear hb hbox hg; have hnb5 := NB263_264.out; have hnc5 := NB264_263.out; have hcz6_0 := zh BK263; have hfz6_0 := zfr BK263 0; have hcz7_0 := zh BK264; have hfz7_0 := zfr BK264 0))
  refine bodyPost_ret (results_cell_row rfl _ _ gb264 30 #[.slice none 0 0] (0, 0) _ rfl (by (with_reducible repeat (first | refine blk_drewN ?_ _ | refine blk_drew ?_ | refine blk_alloc ?_ _)); apply blk_put (i := 0); (case h => exact y0 BK264.out); (case e => rfl)) Try.underlying30 rfl (by kernel_rfl)) rfl ?_
  exact ⟨_, y14, y36, (y1 HB.out GE263.out GE264.out)⟩
 ·rw [if_neg c2] at H
  have c2b0 : ((l0_0.length : Int) == 0) = false := beq_eq_false_iff_ne.mpr c2
  have c2b1 : ((l0_0.length : Int) != 0) = true := bne_iff_ne.mpr c2
  have c2b2 : ¬ (l0_0 = []) := fun h_ => c2 (by rw [h_]; rfl)
  by_cases c8 : 0 < (l0_0.length : Int)
  ·rw [if_pos c8] at H
   have c8b0 : decide (0 < (l0_0.length : Int)) = true := decide_eq_true c8
   have c8b1 : decide (0 < l0_0.length) = true := decide_eq_true (by omega)
   clear c8
   by_cases c9 : 1 < (l0_0.length : Int)
   ·rw [if_pos c9] at H
    have c9b0 : decide (1 < (l0_0.length : Int)) = true := decide_eq_true c9
    have c9b1 : decide (1 < l0_0.length) = true := decide_eq_true (by omega)
    clear c9
    obtain ⟨t267, A100, H⟩ := ob H
    have A10 := Aside0.mk A100
    clear A100
    obtain rfl := Option.some.inj H
    go_enter Try.func54, Try.ntmps54
    try go_wp2_with (first | ((with_reducible refine gate_dst (N := 1) rfl ?_); refine zbx 1 #[.slice A0_0 l0_0.length c0_0] 30 ?_; intro gb263 hg w11 hbox hb; have BK263 := Aside0.mk hbox; have GW263 := Aside0.mk ((y5 hg HB.out : w.heap.size ≤ gb263)); have GE263 := Aside0.mk ((y5 hg HB.out : w.heap.size ≤ gb263)); replace HB := Aside0.mk (below_step (y2 HB.out) hb); clear hb hbox hg) | ((with_reducible refine gate_dst (N := 2) rfl ?_); refine zbx 2 #[.slice none 0 0] 30 ?_; intro gb264 hg w12 hbox hb; have BK264 := Aside0.mk hbox; have GW264 := Aside0.mk ((y6 hg HB.out GE263.out : w.heap.size ≤ gb264)); have GE264 := Aside0.mk ((y6 hg HB.out GE263.out : w.heap.size ≤ gb264)); replace HB := Aside0.mk (below_step (y3 HB.out GE263.out) hb); have NB263_264 := zltn hg BK263; have NB264_263 := zgtn hg BK263; replace BK263 := zbb BK263 hb; clear hb hbox hg; have hnb13 := NB263_264.out; have hnc13 := NB264_263.out; have hcz14_0 := zh BK263; have hfz14_0 := zfr BK263 0))
    replace BK263 := Aside0.mk (blk_drew BK263.out)
    replace BK264 := Aside0.mk (blk_drew BK264.out)
    replace HB := Aside0.mk (below_drew1 HB.out)
    have p265 : 0 ≤ (0 : Int) := (by omega)
    have q265 : 0 < (l0_0.length : Int) := of_decide_eq_true y19
    obtain ⟨ad265, A265_0, c265_0, e265, hx265_0, hl265_0, hi265_0⟩ := at_T30 HR0_0.out 0 p265 q265
    have hw265_0 := hx265_0
    (try rw [show ((0 : Int)).toNat = 0 from rfl] at hw265_0)
    (try rw [show 0 * 1 = 0 from rfl] at hw265_0)
    (try rw [Addr.add_zero'] at hw265_0)
    cases e265
    have qi265 : (0 < l0_0.length) = True := eq_true (by omega)
    (try rw [show ((0 : Int)).toNat = 0 from rfl] at hx265_0)
    (try rw [Addr.add_zero'] at hx265_0)
    replace hx265_0 := (HB.out.cell (World.block_lt_of_cell? w _ hx265_0)).trans hx265_0
    have HR265_0 := Aside0.mk hi265_0
    have HC265_0 := Aside0.mk hl265_0
    clear hi265_0 hl265_0
    replace p265 := eq_true p265
    replace q265 := eq_true q265
    have p266 : 0 ≤ (1 : Int) := (by omega)
    have q266 : 1 < (l0_0.length : Int) := of_decide_eq_true y19
    obtain ⟨ad266, A266_0, c266_0, e266, hx266_0, hl266_0, hi266_0⟩ := at_T30 HR0_0.out 1 p266 q266
    have hw266_0 := hx266_0
    (try rw [show ((1 : Int)).toNat = 1 from rfl] at hw266_0)
    (try rw [show 1 * 1 = 1 from rfl] at hw266_0)
    (try simp only [Nat.reduceMul, Nat.reduceEqDiff, Go.Addr.add, ↓reduceIte] at hw266_0)
    obtain rfl : ad265 = ad266 := (by injection e266)
    (try simp only [show (1 : Int).toNat = 1 from rfl, Nat.reduceMul, Nat.reduceEqDiff, Go.Addr.add, ↓reduceIte] at hx266_0)
    have qi266 : (1 < l0_0.length) = True := eq_true (by omega)
    (try rw [show ((1 : Int)).toNat = 1 from rfl] at hx266_0)
    replace hx266_0 := (HB.out.cell (World.block_lt_of_cell? w _ hx266_0)).trans hx266_0
    have HR266_0 := Aside0.mk hi266_0
    have HC266_0 := Aside0.mk hl266_0
    clear hi266_0 hl266_0
    replace p266 := eq_true p266
    replace q266 := eq_true q266
    refine start_ (n := 10) (S := fun w' => w'.cell? ⟨gb263, 0, none⟩ = some (.slice (some ad265) l0_0.length c0_0) ∧ w'.cell? ad265 = some (.slice A265_0 ((rd_T30 l0_0 0).f0).length c265_0) ∧ w'.cell? ⟨ad265.block, ad265.off + 1, none⟩ = some (.slice A266_0 ((rd_T30 l0_0 1).f0).length c266_0)) (ds := []) #[false, false, false, false, false, false, false, false, false, false] (by kernel_rfl) rfl rfl ⟨(blk_cell BK263.out 0).trans rfl, ((HB.out.cell (World.block_lt_of_cell? w _ hw265_0)).trans hw265_0), ((HB.out.cell (World.block_lt_of_cell? w _ hw266_0)).trans hw266_0)⟩ (fun hHeld => ?_); refine with_tabW impl_typeCopy.tab3 impl_typeCopy.bits3 (fun HT_ HW_ => ?_)
    generalize w12.drew = w15 at BK263 BK264 HB HR265_0 HR266_0 hx265_0 hx266_0 hHeld ⊢
    refine zp 0 (some 8) HT_ ?_
    refine zp 4 (some 12) HT_ ?_
    refine zt3 1 (some 9) HT_ HW_ hHeld ?_
    refine zp 2 (some 10) HT_ ?_
    refine zt3 3 (some 11) HT_ HW_ hHeld ?_
    refine zt3 5 (some 13) HT_ HW_ hHeld ?_
    refine zp 6 (some 14) HT_ ?_
    refine zt3 7 (some 15) HT_ HW_ hHeld ?_
    refine one_ (i := 8) (N := some 16) #[true, true, true, true, true, true, true, true, true, false] rfl rfl (one_of HT_.out (by kernel_rfl)) (by decide) (fun K hK => ?_)
    refine goes_ Try.func79 (by kernel_rfl) rfl #[.agg #[.slice A265_0 ((rd_T30 l0_0 0).f0).length c265_0], .agg #[.slice A266_0 ((rd_T30 l0_0 1).f0).length c266_0]] (by rfl) rfl rfl y4 ?_
    with_reducible refine (impl_typePair.Fcalls (impl_typeCopy.f k) (ih k (by omega)) k _ _ ((rd_T30 l0_0 0).f0) _ _ ((rd_T30 l0_0 1).f0) t267 _ ?side1 ?side2 ?side3 ?side4 A10.out).mono ?_
    (case side1 => exact y8 HR265_0.out HB.out)
    (case side2 => exact HC265_0.out)
    (case side3 => exact y8 HR266_0.out HB.out)
    (case side4 => exact HC266_0.out)
    rintro e w16 ⟨v268, rfl, ho0, hb⟩
    refine ⟨_, rfl, ?_⟩
    have HO269 := Aside0.mk (Kd.N_lower (Kd.N_mono (ok' := fun k_ => (w.heap.size ≤ k_) ∧ k_ ≠ gb263 ∧ k_ ≠ gb264) ho0 (fun k_ hk_ => ⟨(Nat.le_trans (below_size (y1 HB.out GE263.out GE264.out)) hk_), (Kd.freshB (g := gb263) (o := .cells #[.slice (some ad265) l0_0.length c0_0] 30 (0, 0)) (y0 BK263.out) k_ hk_), (Kd.freshB (g := gb264) (o := .cells #[.slice none 0 0] 30 (0, 0)) (y0 BK264.out) k_ hk_)⟩)) (below_size (y1 HB.out GE263.out GE264.out)))
    replace BK263 := zbb BK263 hb
    replace BK264 := zbb BK264 hb
    replace HB := Aside0.mk (below_step (y1 HB.out GE263.out GE264.out) hb)
    (try clear hb)
    (try clear hb2)
    (try clear hk)
    (try clear hi)
    (try clear ho0)
    obtain ⟨Ao17, co17, eo17⟩ := Kd.N_slice HO269.out
    (first | subst eo17 | (injection eo17 with f1_ f2_ f3_; have f4_ := f1_.symm; have f5_ := f3_.symm; clear f1_ f2_ f3_; subst f4_; subst f5_))
    refine hK.out _ _ ⟨(blk_cell BK263.out 0).trans rfl, ((HB.out.cell (World.block_lt_of_cell? w _ hw265_0)).trans hw265_0), ((HB.out.cell (World.block_lt_of_cell? w _ hw266_0)).trans hw266_0)⟩ (fun hHeld => ?_)
    clear hK K
    refine norm_ (a' := ?_) ?_ ?_
    rotate_left
    ·show Act.put _ (some 16) _ = _
     simp only [Act.put, List.setIfInBounds_toArray, List.set_cons_zero, List.set_cons_succ, i64_w, i32_w]
     rfl
    refine one_ (i := 9) (N := none) #[true, true, true, true, true, true, true, true, true, true] rfl rfl (one_of HT_.out (by kernel_rfl)) (by decide) (fun K hK => ?_)
    have hs18 : w16.cell? ⟨gb264, 0, none⟩ = some (.slice none 0 0) := (blk_cell BK264.out 0).trans rfl
    have hfs18 := zfr BK264 0
    have hns18_0 := NB263_264.out
    have hms18_0 := NB264_263.out
    refine skip_ (w1 := ?_) (by rfl) rfl ?_ ?_
    rotate_left
    ·go_simp
     rfl
    refine hK.out _ _ ⟨((cell_far (p := ⟨gb264, _, none⟩) NB263_264.out _).trans (hHeld.1)), ((cell_far (p := ⟨gb264, _, none⟩) (by first | exact Nat.ne_of_lt (Nat.lt_of_lt_of_le (by have := World.block_lt_of_cell? _ _ hw265_0; first | rwa [add_block] at this | exact this) GW264.out) | (rw [add_block]; exact Nat.ne_of_lt (Nat.lt_of_lt_of_le (by have := World.block_lt_of_cell? _ _ hw265_0; first | rwa [add_block] at this | exact this) GW264.out)) | (show (Addr.add _ _).block ≠ _; rw [add_block]; exact Nat.ne_of_lt (Nat.lt_of_lt_of_le (by have := World.block_lt_of_cell? _ _ hw265_0; first | rwa [add_block] at this | exact this) GW264.out)) | (dsimp only; exact Nat.ne_of_lt (Nat.lt_of_lt_of_le (by have := World.block_lt_of_cell? _ _ hw265_0; first | rwa [add_block] at this | exact this) GW264.out))) _).trans (hHeld.2.1)), ((cell_far (p := ⟨gb264, _, none⟩) (by first | exact Nat.ne_of_lt (Nat.lt_of_lt_of_le (by have := World.block_lt_of_cell? _ _ hw266_0; first | rwa [add_block] at this | exact this) GW264.out) | (rw [add_block]; exact Nat.ne_of_lt (Nat.lt_of_lt_of_le (by have := World.block_lt_of_cell? _ _ hw266_0; first | rwa [add_block] at this | exact this) GW264.out)) | (show (Addr.add _ _).block ≠ _; rw [add_block]; exact Nat.ne_of_lt (Nat.lt_of_lt_of_le (by have := World.block_lt_of_cell? _ _ hw266_0; first | rwa [add_block] at this | exact this) GW264.out)) | (dsimp only; exact Nat.ne_of_lt (Nat.lt_of_lt_of_le (by have := World.block_lt_of_cell? _ _ hw266_0; first | rwa [add_block] at this | exact this) GW264.out))) _).trans (hHeld.2.2))⟩ (fun hHeld => ?_)
    clear hK K
    refine done_ (done_of HT_.out (by kernel_rfl)) ?_
    try go_wp2
    refine bodyPost_ret (results_cell_row rfl _ _ gb264 30 #[.slice Ao17 t267.length co17] (0, 0) _ rfl (by (with_reducible repeat (first | refine blk_drewN ?_ _ | refine blk_drew ?_ | refine blk_alloc ?_ _)); apply blk_put (i := 0); (case h => exact y0 BK264.out); (case e => rfl)) Try.underlying30 rfl (by kernel_rfl)) rfl ?_
    exact ⟨_, y14, (by (with_reducible repeat (first | apply Kd.N_alloc | apply Kd.N_drewN | apply Kd.N_drew)); exact Kd.N_mono (Kd.N_far (p := ⟨gb264, 0, none⟩) (Kd.N_mono HO269.out (fun k_ hk => (⟨hk, hk.2.2⟩ : _ ∧ k_ ≠ gb264))) (fun _ hk => hk.2) (.slice Ao17 t267.length co17)) (fun _ hk => hk.1.1)), (y1 HB.out GE263.out GE264.out)⟩
   ·rw [if_neg c9] at H
    exact absurd H (by simp)
  ·rw [if_neg c8] at H
   exact absurd H (by simp)
def impl_typePair.f (k : Nat) (l0_0 : List (S30)) (l1_0 : List (S30)) : Option ((List (S30))) := impl_typePair.F (impl_typeCopy.f k) k l0_0 l1_0
theorem impl_typePair.mono : ∀ a0 a1 k, LeO (impl_typePair.f k a0 a1) (impl_typePair.f (k + 1) a0 a1) := fun a0 a1 k => impl_typePair.Fmono (fun y0 => impl_typeCopy.mono y0 k) a0 a1 k
theorem impl_typePair.calls (k : Nat) (A0_0 : Option Addr) (c0_0 : Nat) (l0_0 : List (S30)) (A1_0 : Option Addr) (c1_0 : Nat) (l1_0 : List (S30)) (r : List (S30)) (w : World) (hr0_0 : Kd.C k30 w A0_0 l0_0.length l0_0) (hc0_0 : l0_0.length ≤ c0_0) (hr1_0 : Kd.C k30 w A1_0 l1_0.length l1_0) (hc1_0 : l1_0.length ≤ c1_0) (h : impl_typePair.f k l0_0 l1_0 = some r) :
  Calls Try.prog 79 #[.agg #[.slice A0_0 l0_0.length c0_0], .agg #[.slice A1_0 l1_0.length c1_0]] w fun e w' => ∃ v0_ : Value, e = .returned (.agg #[v0_]) ∧ Kd.N k30 30 w' w.heap.size (fun k_ => (w.heap.size ≤ k_)) v0_ r ∧ Below w.heap.size w w' := impl_typePair.Fcalls (impl_typeCopy.f k) (impl_typeCopy.calls k) k A0_0 c0_0 l0_0 A1_0 c1_0 l1_0 r w hr0_0 hc0_0 hr1_0 hc1_0 h
end Go.Proofs.Ytjhbhihfifhljaa.PA
end
section
namespace Go.Proofs.Ytjhbhihfifhljaa.PA
open Go.RowKit Go.Proofs.YtjhbhihfifhljaaW.PrintWords Go.Proofs.YtjhbhihfifhljaaW.PrintLast Go.Proofs.YtjhbhihfifhljaaW.PrintMore
attribute [local go_sem] max2_int min2_int max_two min_two max_three min_three max_four min_four
set_option linter.unusedVariables false
set_option linter.unusedSimpArgs false
def impl_TypeAt.f (k : Nat) (l0_0 : List (S30)) (l1 : List Int) : Option ((List (S30)) × Bool) := (impl_TypeOk.f k l0_0).bind fun t272 => (if t272 = true then ((impl_Type.f k l0_0 l1).bind fun bt273 => (if bt273.2 = true then ((impl_typeCopy.f k bt273.1).bind fun t278 => (some (t278, true))) else (some (([] : List (S30)), false)))) else (some (([] : List (S30)), false)))
theorem impl_TypeAt.mono : ∀ a0 a1 k, LeO (impl_TypeAt.f k a0 a1) (impl_TypeAt.f (k + 1) a0 a1) := by
 intro a0 a1 k
 unfold impl_TypeAt.f
 repeat' first
   | (with_reducible exact impl_Type.mono _ _ _)
   | (with_reducible exact impl_TypeOk.mono _ _)
   | (with_reducible exact impl_typeCopy.mono _ _)
   | (with_reducible exact LeO.refl _)
   | (with_reducible exact LeO.none _)
   | (with_reducible refine LeO.ite ?_ ?_)
   | (with_reducible refine LeO.bind ?_ (fun _ => ?_))
   | exact impl_Type.mono _ _ _
   | exact impl_TypeOk.mono _ _
   | exact impl_typeCopy.mono _ _
   | exact LeO.none _
   | refine LeO.ite ?_ ?_
   | refine LeO.bind ?_ (fun _ => ?_)
set_option maxHeartbeats 8000000 in
set_option maxRecDepth 100000 in
theorem impl_TypeAt.calls (k : Nat) (P0_0_ : Nat → Prop) (A0_0 : Option Addr) (c0_0 : Nat) (l0_0 : List (S30)) (A1 : Option Addr) (c1 : Nat) (l1 : List Int) (r1 : List (S30)) (r2 : Bool) (w : World) (hs0_0 : Kd.V k30 30 w w.heap.size (fun k_ => P0_0_ k_) (.slice A0_0 l0_0.length c0_0) l0_0) (hr1 : Kd.C (Kd.int .i64) w A1 l1.length l1) (hc1 : l1.length ≤ c1) (h : impl_TypeAt.f k l0_0 l1 = some (r1, r2)) :
  Calls Try.prog 21 #[.agg #[.slice A0_0 l0_0.length c0_0], .slice A1 l1.length c1] w fun e w' => ∃ v0_ : Value, e = .returned (.tuple #[.agg #[v0_], .bool r2]) ∧ Kd.N k30 30 w' w.heap.size (fun k_ => (P0_0_ k_ ∨ w.heap.size ≤ k_)) v0_ r1 ∧ Below w.heap.size w w' := by
 have hu30 := Try.underlying30
 have HO0_0 := Aside0.mk (show Kd.V k30 30 w w.heap.size (fun k_ => (P0_0_ k_ ∨ w.heap.size ≤ k_)) (.slice A0_0 l0_0.length c0_0) l0_0 from Kd.V_mono hs0_0 (fun k_ hk => .inl hk))
 have HR1 := Aside0.mk hr1
 have HC1 := Aside0.mk hc1
 clear hr1 hc1
 have HB := Aside0.mk (Below.refl w.heap.size w)
 have H : ((impl_TypeOk.f k l0_0).bind fun t272 => (if t272 = true then ((impl_Type.f k l0_0 l1).bind fun bt273 => (if bt273.2 = true then ((impl_typeCopy.f k bt273.1).bind fun t278 => (some (t278, true))) else (some (([] : List (S30)), false)))) else (some (([] : List (S30)), false)))) = some (r1, r2) := h
 clear h
 obtain ⟨t272, A30, H⟩ := ob H
 have A3 := Aside0.mk A30
 clear A30
 by_cases c4 : t272 = true
 ·subst c4
  rw [if_pos rfl] at H
  obtain ⟨⟨t273, t276⟩, A50, H⟩ := ob H
  have A5 := Aside0.mk A50
  clear A50
  by_cases c6 : t276 = true
  ·subst c6
   rw [if_pos rfl] at H
   obtain ⟨t278, A70, H⟩ := ob H
   have A7 := Aside0.mk A70
   clear A70
   simp only [Option.some.injEq, Prod.mk.injEq] at H
   obtain ⟨rfl, rfl⟩ := H
   go_enter Try.func21, Try.ntmps21
   go_wp2_with (first | ((with_reducible refine gate_dst (N := 2) rfl ?_); refine zbx 2 #[.slice A0_0 l0_0.length c0_0] 30 ?_; intro gb270 hg w8 hbox hb; replace HO0_0 := Aside0.mk (Kd.V_below (Kd.V_elderB (y13 HO0_0.out) gb270 (Nat.le_of_eq hg.symm)) hb); have BK270 := Aside0.mk hbox; have GW270 := Aside0.mk ((y5 hg HB.out : w.heap.size ≤ gb270)); have GE270 := Aside0.mk ((y5 hg HB.out : w.heap.size ≤ gb270)); replace HB := Aside0.mk (below_step (y2 HB.out) hb); clear hb hbox hg) | ((with_reducible refine gate_dst (N := 4) rfl ?_); refine zbx 4 #[.slice none 0 0] 30 ?_; intro gb271 hg w9 hbox hb; replace HO0_0 := Aside0.mk (Kd.V_below (Kd.V_elderB (y13 HO0_0.out) gb271 (Nat.le_of_eq hg.symm)) hb); have BK271 := Aside0.mk hbox; have GW271 := Aside0.mk ((y6 hg HB.out GE270.out : w.heap.size ≤ gb271)); have GE271 := Aside0.mk ((y6 hg HB.out GE270.out : w.heap.size ≤ gb271)); replace HB := Aside0.mk (below_step (y3 HB.out GE270.out) hb); have NB270_271 := zltn hg BK270; have NB271_270 := zgtn hg BK270; replace BK270 := zbb BK270 hb; clear hb hbox hg; have hnb10 := NB270_271.out; have hnc10 := NB271_270.out; have hcz11_0 := zh BK270; have hfz11_0 := zfr BK270 0) | ((with_reducible refine gate_callee (f := 18) rfl ?_); refine goesL_ (some 9) rfl rfl Try.func18 (by kernel_rfl) rfl #[.agg #[.slice A0_0 l0_0.length c0_0]] rfl y4 ?_; (with_reducible refine (impl_TypeOk.calls k _ _ l0_0 true _ ?side1 ?side2 A3.out).mono ?_); (case side1 => exact y31 HO0_0.out); (case side2 => exact (Kd.V_reads' HO0_0.out).2.1); rintro e w12 ⟨rfl, hb⟩; refine ⟨_, rfl, ?_⟩; replace HO0_0 := Aside0.mk (Kd.V_below (y13 HO0_0.out) hb); replace BK270 := zbb BK270 hb; replace BK271 := zbb BK271 hb; replace HB := Aside0.mk (below_step (y1 HB.out GE270.out GE271.out) hb); (try clear hb); (try clear hb2); (try clear hk); (try clear hi); have hcz13_0 := zh BK270; have hfz13_0 := zfr BK270 0) | ((with_reducible refine gate_callee (f := 53) rfl ?_); refine goesL_ (some 15) rfl rfl Try.func53 (by kernel_rfl) rfl #[.agg #[.slice A0_0 l0_0.length c0_0], .slice A1 l1.length c1] rfl y4 ?_; (with_reducible refine (impl_Type.calls k (fun k_ => (((P0_0_ k_ ∨ w.heap.size ≤ k_) ∧ k_ ≠ gb270) ∧ k_ ≠ gb271)) _ _ l0_0 _ _ l1 t273 true _ ?side1 ?side2 ?side3 A5.out).mono ?_); (case side1 => exact HO0_0.out); (case side2 => exact y8 HR1.out HB.out); (case side3 => exact HC1.out); rintro e w14 ⟨v274, rfl, ho0, hb⟩; refine ⟨_, rfl, ?_⟩; replace HO0_0 := Aside0.mk (Kd.V_below (y13 HO0_0.out) hb); have HO275 := Aside0.mk (Kd.V_lower (Kd.V_mono (ok' := fun k_ => (P0_0_ k_ ∨ w.heap.size ≤ k_) ∧ k_ ≠ gb270 ∧ k_ ≠ gb271) ho0 (fun k_ hk_ => ⟨Or.elim hk_ (fun hs_ => hs_.1.1) (fun hn_ => (.inr (Nat.le_trans (below_size (y1 HB.out GE270.out GE271.out)) hn_))), Or.elim hk_ (fun hs_ => hs_.1.2) (fun hn_ => (Kd.freshB (g := gb270) (o := .cells #[.slice A0_0 l0_0.length c0_0] 30 (0, 0)) (y0 BK270.out) k_ hn_)), Or.elim hk_ (fun hs_ => hs_.2) (fun hn_ => (Kd.freshB (g := gb271) (o := .cells #[.slice none 0 0] 30 (0, 0)) (y0 BK271.out) k_ hn_))⟩)) (below_size (y1 HB.out GE270.out GE271.out))); replace BK270 := zbb BK270 hb; replace BK271 := zbb BK271 hb; replace HB := Aside0.mk (below_step (y1 HB.out GE270.out GE271.out) hb); (try clear hb); (try clear hb2); (try clear hk); (try clear hi); (try clear ho0)) | ((with_reducible refine gate_dst (N := 6) rfl ?_); refine zbx 6 #[.slice none 0 0] 30 ?_; intro gb277 hg w15 hbox hb; replace HO0_0 := Aside0.mk (Kd.V_below (Kd.V_elderB (y13 HO0_0.out) gb277 (Nat.le_of_eq hg.symm)) hb); replace HO275 := Aside0.mk (Kd.V_below (Kd.V_elderB (y13 HO275.out) gb277 (Nat.le_of_eq hg.symm)) hb); have BK277 := Aside0.mk hbox; have GW277 := Aside0.mk ((y20 hg HB.out GE270.out GE271.out : w.heap.size ≤ gb277)); have GE277 := Aside0.mk ((y20 hg HB.out GE270.out GE271.out : w.heap.size ≤ gb277)); replace HB := Aside0.mk (below_step (y1 HB.out GE270.out GE271.out) hb); have NB270_277 := zltn hg BK270; have NB277_270 := zgtn hg BK270; replace BK270 := zbb BK270 hb; have NB271_277 := zltn hg BK271; have NB277_271 := zgtn hg BK271; replace BK271 := zbb BK271 hb; clear hb hbox hg; obtain ⟨Ao16, co16, eo16⟩ := Kd.V_slice HO275.out; subst eo16; have hnb17 := NB277_270.out; have hnc17 := NB270_277.out; have hnb18 := NB277_271.out; have hnc18 := NB271_277.out; have hcz19_0 := zh BK277; have hfz19_0 := zfr BK277 0) | ((with_reducible refine gate_callee (f := 54) rfl ?_); refine goesL_ (some 22) rfl rfl Try.func54 (by kernel_rfl) rfl #[.agg #[.slice Ao16 t273.length co16]] rfl y4 ?_; (with_reducible refine (impl_typeCopy.calls k _ _ t273 t278 _ ?side1 ?side2 A7.out).mono ?_); (case side1 => refine (Kd.V_reads' (e := 30) (base := w.heap.size) (ok := fun k_ => (((P0_0_ k_ ∨ w.heap.size ≤ k_) ∧ (k_ ≠ gb270 ∧ k_ ≠ gb271)) ∧ k_ ≠ gb277)) (n := t273.length) (c := co16) ?_).2.2; exact (by (with_reducible repeat (first | apply Kd.V_alloc | apply Kd.V_drewN | apply Kd.V_drew)); exact (Kd.V_mono (Kd.V_far (p := ⟨gb277, 0, none⟩) (Kd.V_mono HO275.out (fun k_ hk => (⟨hk, hk.2⟩ : _ ∧ k_ ≠ gb277))) (fun _ hk => hk.2) (.slice Ao16 t273.length co16)) (fun _ h_ => h_.1)))); (case side2 => exact (Kd.V_reads' HO275.out).2.1); rintro e w20 ⟨v279, rfl, ho0, hb⟩; refine ⟨_, rfl, ?_⟩; replace HO0_0 := Aside0.mk (Kd.V_elder' (by (with_reducible repeat (first | apply Kd.V_alloc | apply Kd.V_drewN | apply Kd.V_drew)); exact (Kd.V_mono (Kd.V_far (p := ⟨gb277, 0, none⟩) (Kd.V_mono HO0_0.out (fun k_ hk => (⟨hk, hk.2⟩ : _ ∧ k_ ≠ gb277))) (fun _ hk => hk.2) (.slice Ao16 t273.length co16)) (fun _ h_ => h_.1))) (Kd.N_base ho0) hb); replace HO275 := Aside0.mk (Kd.V_elder' (by (with_reducible repeat (first | apply Kd.V_alloc | apply Kd.V_drewN | apply Kd.V_drew)); exact (Kd.V_mono (Kd.V_far (p := ⟨gb277, 0, none⟩) (Kd.V_mono HO275.out (fun k_ hk => (⟨hk, hk.2⟩ : _ ∧ k_ ≠ gb277))) (fun _ hk => hk.2) (.slice Ao16 t273.length co16)) (fun _ h_ => h_.1))) (Kd.N_base ho0) hb); have HO280 := Aside0.mk (Kd.N_lower (Kd.N_mono (ok' := fun k_ => (P0_0_ k_ ∨ w.heap.size ≤ k_) ∧ k_ ≠ gb270 ∧ k_ ≠ gb271 ∧ k_ ≠ gb277) ho0 (fun k_ hk_ => ⟨(.inr (Nat.le_trans (below_size (y7 HB.out GE270.out GE271.out GE277.out)) hk_)), (Kd.freshB (g := gb270) (o := .cells #[.slice A0_0 l0_0.length c0_0] 30 (0, 0)) (y21 NB270_277.out BK270.out) k_ hk_), (Kd.freshB (g := gb271) (o := .cells #[.slice none 0 0] 30 (0, 0)) (y21 NB271_277.out BK271.out) k_ hk_), (Kd.freshB (g := gb277) (o := .cells #[.slice Ao16 t273.length co16] 30 (0, 0)) (by (with_reducible repeat (first | refine blk_drewN ?_ _ | refine blk_drew ?_ | refine blk_alloc ?_ _)); apply blk_put (i := 0); (case h => exact y0 BK277.out); (case e => rfl)) k_ hk_)⟩)) (below_size (y7 HB.out GE270.out GE271.out GE277.out))); replace BK270 := zbf BK270 NB270_277 hb; replace BK271 := zbf BK271 NB271_277 hb; replace BK277 := Aside0.mk (blk_below (g := gb277) (o := .cells #[.slice Ao16 t273.length co16] 30 (0, 0)) (by (with_reducible repeat (first | refine blk_drewN ?_ _ | refine blk_drew ?_ | refine blk_alloc ?_ _)); apply blk_put (i := 0); (case h => exact y0 BK277.out); (case e => rfl)) hb); replace HB := Aside0.mk (below_step (y7 HB.out GE270.out GE271.out GE277.out) hb); (try clear hb); (try clear hb2); (try clear hk); (try clear hi); (try clear ho0); obtain ⟨Ao21, co21, eo21⟩ := Kd.N_slice HO280.out; subst eo21; have hcz22_0 := zh BK271; have hfz22_0 := zfr BK271 0))
   refine bodyPost_ret (results_ct rfl _ _ gb271 30 #[.slice Ao21 t278.length co21] (0, 0) _ rfl (by (with_reducible repeat (first | refine blk_drewN ?_ _ | refine blk_drew ?_ | refine blk_alloc ?_ _)); apply blk_put (i := 0); (case h => exact y0 BK271.out); (case e => rfl)) Try.underlying30 rfl (by kernel_rfl)) rfl ?_
   exact ⟨_, y14, (by (with_reducible repeat (first | apply Kd.N_alloc | apply Kd.N_drewN | apply Kd.N_drew)); exact Kd.N_mono (Kd.N_far (p := ⟨gb271, 0, none⟩) (Kd.N_mono HO280.out (fun k_ hk => (⟨hk, hk.2.2.1⟩ : _ ∧ k_ ≠ gb271))) (fun _ hk => hk.2) (.slice Ao21 t278.length co21)) (fun _ hk => hk.1.1)), (y7 HB.out GE270.out GE271.out GE277.out)⟩
  ·replace c6 := Bool.eq_false_iff.mpr c6
   subst c6
   rw [if_neg (show ¬ (false = true) by decide)] at H
   simp only [Option.some.injEq, Prod.mk.injEq] at H
   obtain ⟨rfl, rfl⟩ := H
   go_enter Try.func21, Try.ntmps21
   go_wp2_with (first | ((with_reducible refine gate_dst (N := 2) rfl ?_); refine zbx 2 #[.slice A0_0 l0_0.length c0_0] 30 ?_; intro gb270 hg w23 hbox hb; replace HO0_0 := Aside0.mk (Kd.V_below (Kd.V_elderB (y13 HO0_0.out) gb270 (Nat.le_of_eq hg.symm)) hb); have BK270 := Aside0.mk hbox; have GW270 := Aside0.mk ((y5 hg HB.out : w.heap.size ≤ gb270)); have GE270 := Aside0.mk ((y5 hg HB.out : w.heap.size ≤ gb270)); replace HB := Aside0.mk (below_step (y2 HB.out) hb); clear hb hbox hg) | ((with_reducible refine gate_dst (N := 4) rfl ?_); refine zbx 4 #[.slice none 0 0] 30 ?_; intro gb271 hg w24 hbox hb; replace HO0_0 := Aside0.mk (Kd.V_below (Kd.V_elderB (y13 HO0_0.out) gb271 (Nat.le_of_eq hg.symm)) hb); have BK271 := Aside0.mk hbox; have GW271 := Aside0.mk ((y6 hg HB.out GE270.out : w.heap.size ≤ gb271)); have GE271 := Aside0.mk ((y6 hg HB.out GE270.out : w.heap.size ≤ gb271)); replace HB := Aside0.mk (below_step (y3 HB.out GE270.out) hb); have NB270_271 := zltn hg BK270; have NB271_270 := zgtn hg BK270; replace BK270 := zbb BK270 hb; clear hb hbox hg; have hnb25 := NB270_271.out; have hnc25 := NB271_270.out; have hcz26_0 := zh BK270; have hfz26_0 := zfr BK270 0) | ((with_reducible refine gate_callee (f := 18) rfl ?_); refine goesL_ (some 9) rfl rfl Try.func18 (by kernel_rfl) rfl #[.agg #[.slice A0_0 l0_0.length c0_0]] rfl y4 ?_; (with_reducible refine (impl_TypeOk.calls k _ _ l0_0 true _ ?side1 ?side2 A3.out).mono ?_); (case side1 => exact y31 HO0_0.out); (case side2 => exact (Kd.V_reads' HO0_0.out).2.1); rintro e w27 ⟨rfl, hb⟩; refine ⟨_, rfl, ?_⟩; replace HO0_0 := Aside0.mk (Kd.V_below (y13 HO0_0.out) hb); replace BK270 := zbb BK270 hb; replace BK271 := zbb BK271 hb; replace HB := Aside0.mk (below_step (y1 HB.out GE270.out GE271.out) hb); (try clear hb); (try clear hb2); (try clear hk); (try clear hi); have hcz28_0 := zh BK270; have hfz28_0 := zfr BK270 0) | ((with_reducible refine gate_callee (f := 53) rfl ?_); refine goesL_ (some 15) rfl rfl Try.func53 (by kernel_rfl) rfl #[.agg #[.slice A0_0 l0_0.length c0_0], .slice A1 l1.length c1] rfl y4 ?_; (with_reducible refine (impl_Type.calls k (fun k_ => (((P0_0_ k_ ∨ w.heap.size ≤ k_) ∧ k_ ≠ gb270) ∧ k_ ≠ gb271)) _ _ l0_0 _ _ l1 t273 false _ ?side1 ?side2 ?side3 A5.out).mono ?_); (case side1 => exact HO0_0.out); (case side2 => exact y8 HR1.out HB.out); (case side3 => exact HC1.out); rintro e w29 ⟨v274, rfl, ho0, hb⟩; refine ⟨_, rfl, ?_⟩; replace HO0_0 := Aside0.mk (Kd.V_below (y13 HO0_0.out) hb); have HO275 := Aside0.mk (Kd.V_lower (Kd.V_mono (ok' := fun k_ => (P0_0_ k_ ∨ w.heap.size ≤ k_) ∧ k_ ≠ gb270 ∧ k_ ≠ gb271) ho0 (fun k_ hk_ => ⟨Or.elim hk_ (fun hs_ => hs_.1.1) (fun hn_ => (.inr (Nat.le_trans (below_size (y1 HB.out GE270.out GE271.out)) hn_))), Or.elim hk_ (fun hs_ => hs_.1.2) (fun hn_ => (Kd.freshB (g := gb270) (o := .cells #[.slice A0_0 l0_0.length c0_0] 30 (0, 0)) (y0 BK270.out) k_ hn_)), Or.elim hk_ (fun hs_ => hs_.2) (fun hn_ => (Kd.freshB (g := gb271) (o := .cells #[.slice none 0 0] 30 (0, 0)) (y0 BK271.out) k_ hn_))⟩)) (below_size (y1 HB.out GE270.out GE271.out))); replace BK270 := zbb BK270 hb; replace BK271 := zbb BK271 hb; replace HB := Aside0.mk (below_step (y1 HB.out GE270.out GE271.out) hb); (try clear hb); (try clear hb2); (try clear hk); (try clear hi); (try clear ho0)) | ((with_reducible refine gate_dst (N := 6) rfl ?_); refine zbx 6 #[.slice none 0 0] 30 ?_; intro gb277 hg w30 hbox hb; replace HO0_0 := Aside0.mk (Kd.V_below (Kd.V_elderB (y13 HO0_0.out) gb277 (Nat.le_of_eq hg.symm)) hb); replace HO275 := Aside0.mk (Kd.V_below (Kd.V_elderB (y13 HO275.out) gb277 (Nat.le_of_eq hg.symm)) hb); have BK277 := Aside0.mk hbox; have GW277 := Aside0.mk ((y20 hg HB.out GE270.out GE271.out : w.heap.size ≤ gb277)); have GE277 := Aside0.mk ((y20 hg HB.out GE270.out GE271.out : w.heap.size ≤ gb277)); replace HB := Aside0.mk (below_step (y1 HB.out GE270.out GE271.out) hb); have NB270_277 := zltn hg BK270; have NB277_270 := zgtn hg BK270; replace BK270 := zbb BK270 hb; have NB271_277 := zltn hg BK271; have NB277_271 := zgtn hg BK271; replace BK271 := zbb BK271 hb; clear hb hbox hg; obtain ⟨Ao31, co31, eo31⟩ := Kd.V_slice HO275.out; subst eo31; have hnb32 := NB277_270.out; have hnc32 := NB270_277.out; have hnb33 := NB277_271.out; have hnc33 := NB271_277.out; have hcz34_0 := zh BK277; have hfz34_0 := zfr BK277 0; have hcz35_0 := zh BK271; have hfz35_0 := zfr BK271 0))
   refine bodyPost_ret (results_ct rfl _ _ gb271 30 #[.slice none 0 0] (0, 0) _ rfl (by (with_reducible repeat (first | refine blk_drewN ?_ _ | refine blk_drew ?_ | refine blk_alloc ?_ _)); refine blk_put (cs := #[.slice none 0 0]) ?_ 0 _ rfl; (with_reducible repeat (first | refine blk_drewN ?_ _ | refine blk_drew ?_ | refine blk_alloc ?_ _)); refine blk_far ?_ NB271_277.out _; (with_reducible repeat (first | refine blk_drewN ?_ _ | refine blk_drew ?_ | refine blk_alloc ?_ _)); exact BK271.out) Try.underlying30 rfl (by kernel_rfl)) rfl ?_
   exact ⟨_, y14, y36, (y7 HB.out GE270.out GE271.out GE277.out)⟩
 ·replace c4 := Bool.eq_false_iff.mpr c4
  subst c4
  rw [if_neg (show ¬ (false = true) by decide)] at H
  simp only [Option.some.injEq, Prod.mk.injEq] at H
  obtain ⟨rfl, rfl⟩ := H
  go_enter Try.func21, Try.ntmps21
  go_wp2_with (first | ((with_reducible refine gate_dst (N := 2) rfl ?_); refine zbx 2 #[.slice A0_0 l0_0.length c0_0] 30 ?_; intro gb270 hg w36 hbox hb; replace HO0_0 := Aside0.mk (Kd.V_below (Kd.V_elderB (y13 HO0_0.out) gb270 (Nat.le_of_eq hg.symm)) hb); have BK270 := Aside0.mk hbox; have GW270 := Aside0.mk ((y5 hg HB.out : w.heap.size ≤ gb270)); have GE270 := Aside0.mk ((y5 hg HB.out : w.heap.size ≤ gb270)); replace HB := Aside0.mk (below_step (y2 HB.out) hb); clear hb hbox hg) | ((with_reducible refine gate_dst (N := 4) rfl ?_); refine zbx 4 #[.slice none 0 0] 30 ?_; intro gb271 hg w37 hbox hb; replace HO0_0 := Aside0.mk (Kd.V_below (Kd.V_elderB (y13 HO0_0.out) gb271 (Nat.le_of_eq hg.symm)) hb); have BK271 := Aside0.mk hbox; have GW271 := Aside0.mk ((y6 hg HB.out GE270.out : w.heap.size ≤ gb271)); have GE271 := Aside0.mk ((y6 hg HB.out GE270.out : w.heap.size ≤ gb271)); replace HB := Aside0.mk (below_step (y3 HB.out GE270.out) hb); have NB270_271 := zltn hg BK270; have NB271_270 := zgtn hg BK270; replace BK270 := zbb BK270 hb; clear hb hbox hg; have hnb38 := NB270_271.out; have hnc38 := NB271_270.out; have hcz39_0 := zh BK270; have hfz39_0 := zfr BK270 0) | ((with_reducible refine gate_callee (f := 18) rfl ?_); refine goesL_ (some 9) rfl rfl Try.func18 (by kernel_rfl) rfl #[.agg #[.slice A0_0 l0_0.length c0_0]] rfl y4 ?_; (with_reducible refine (impl_TypeOk.calls k _ _ l0_0 false _ ?side1 ?side2 A3.out).mono ?_); (case side1 => exact y31 HO0_0.out); (case side2 => exact (Kd.V_reads' HO0_0.out).2.1); rintro e w40 ⟨rfl, hb⟩; refine ⟨_, rfl, ?_⟩; replace HO0_0 := Aside0.mk (Kd.V_below (y13 HO0_0.out) hb); replace BK270 := zbb BK270 hb; replace BK271 := zbb BK271 hb; replace HB := Aside0.mk (below_step (y1 HB.out GE270.out GE271.out) hb); (try clear hb); (try clear hb2); (try clear hk); (try clear hi); have hcz41_0 := zh BK271; have hfz41_0 := zfr BK271 0))
  refine bodyPost_ret (results_ct rfl _ _ gb271 30 #[.slice none 0 0] (0, 0) _ rfl (by (with_reducible repeat (first | refine blk_drewN ?_ _ | refine blk_drew ?_ | refine blk_alloc ?_ _)); apply blk_put (i := 0); (case h => exact y0 BK271.out); (case e => rfl)) Try.underlying30 rfl (by kernel_rfl)) rfl ?_
  exact ⟨_, y14, y36, (y1 HB.out GE270.out GE271.out)⟩
end Go.Proofs.Ytjhbhihfifhljaa.PA
end
section
namespace Go.Proofs.Ytjhbhihfifhljaa.PA
open Go.RowKit Go.Proofs.YtjhbhihfifhljaaW.PrintWords Go.Proofs.YtjhbhihfifhljaaW.PrintLast Go.Proofs.YtjhbhihfifhljaaW.PrintMore
attribute [local go_sem] max2_int min2_int max_two min_two max_three min_three max_four min_four
set_option linter.unusedVariables false
set_option linter.unusedSimpArgs false
def IsS95 (w0 W : World) (g : Nat) (f0 : List Int) (f1 : Int) : Prop := ∃ A0 c0, W.heap[g]? = some (.cells #[.slice A0 f0.length c0, .int .i64 f1] 95 (0, 0)) ∧ w0.heap.size ≤ g ∧ Kd.C (Kd.int .u8) w0 A0 f0.length f0
theorem IsS95.grown {w0 W : World} {g : Nat} {f0 : List Int} {f1 : Int} {W1 : World} {row : Option Nat} (h : IsS95 w0 W g f0 f1) (hw : W.grownBy W1 row) (hne : some g ≠ row) : IsS95 w0 W1 g f0 f1 := by
 obtain ⟨A0, c0, hb, hg, hr0⟩ := h
 exact ⟨A0, c0, blk_grown hb hw hne, hg, hr0⟩
theorem IsS95.own_neN {w0 W : World} {g : Nat} {f0 : List Int} {f1 : Int} {α : Type} {d : Kd α} {e : Nat} {base : Nat} {ok : Nat → Prop} {v : Value} {xs : List α} (h : IsS95 w0 W g f0 f1) (ho : Kd.N d e W base ok v xs) (ht : e ≠ 95) : some g ≠ v.ownBlock := by
 obtain ⟨A0, c0, hb, hg, hr0⟩ := h
 exact Kd.N_ne ho hb ht
theorem IsS95.fresh {w0 W : World} {g : Nat} {f0 : List Int} {f1 : Int} (h : IsS95 w0 W g f0 f1) : ∀ k, W.heap.size ≤ k → k ≠ g := by
 obtain ⟨A0, c0, hb, hg, hr0⟩ := h
 exact Kd.freshB hb
theorem IsS95.kept {w0 W : World} {g : Nat} {f0 : List Int} {f1 : Int} {W1 : World} {S : Nat → Prop} (h : IsS95 w0 W g f0 f1) (hk : Kept W W1 S) (hne : ¬ S g) : IsS95 w0 W1 g f0 f1 := by
 obtain ⟨A0, c0, hb, hg, hr0⟩ := h
 exact ⟨A0, c0, blk_kept hb hk hne, hg, hr0⟩
theorem IsS95.below {w0 W : World} {g : Nat} {f0 : List Int} {f1 : Int} {W1 : World} (h : IsS95 w0 W g f0 f1) (hw : Below W.heap.size W W1) : IsS95 w0 W1 g f0 f1 := h.grown (grown_of_below hw none) (by simp)
theorem IsS95.alloc {w0 W : World} {g : Nat} {f0 : List Int} {f1 : Int} (h : IsS95 w0 W g f0 f1) (o : Obj) : IsS95 w0 (W.alloc o) g f0 f1 := h.below (below_alloc (Below.refl _ _) o)
theorem IsS95.drewN {w0 W : World} {g : Nat} {f0 : List Int} {f1 : Int} (h : IsS95 w0 W g f0 f1) (m : Nat) : IsS95 w0 (W.drewN m) g f0 f1 := h
theorem IsS95.drew {w0 W : World} {g : Nat} {f0 : List Int} {f1 : Int} (h : IsS95 w0 W g f0 f1) : IsS95 w0 W.drew g f0 f1 := h
theorem IsS95.at_ {w0 W : World} {g : Nat} {f0 : List Int} {f1 : Int} {w' : World} {m : Nat} (hq : W.drewN m = w') (h : IsS95 w0 W g f0 f1) : IsS95 w0 w' g f0 f1 := by subst hq; exact IsS95.drewN h m
theorem IsS95.apart {w0 W : World} {g : Nat} {f0 : List Int} {f1 : Int} {α : Type} {d : Kd α} {e : Nat} {base : Nat} {ok : Nat → Prop} {v : Value} {xs : List α} (h : IsS95 w0 W g f0 f1) (ho : d.R e W base ok v xs) (ht : ∀ q, q ∈ e :: d.E → q ≠ 95) : d.R e W base (fun k => ok k ∧ k ≠ g) v xs := by
 obtain ⟨A0, c0, hb, hg, hr0⟩ := h
 exact Kd.R_types ho hb ht
theorem IsS95.own_ne {w0 W : World} {g : Nat} {f0 : List Int} {f1 : Int} {α : Type} {d : Kd α} {e : Nat} {base : Nat} {ok : Nat → Prop} {v : Value} {xs : List α} (h : IsS95 w0 W g f0 f1) (ho : d.R e W base ok v xs) (ht : e ≠ 95) : some g ≠ v.ownBlock := by
 obtain ⟨A0, c0, hb, hg, hr0⟩ := h
 exact Kd.R_ne ho hb ht
theorem IsS95.apartQ {w0 W : World} {g : Nat} {f0 : List Int} {f1 : Int} {α : Type} {d : Kd α} {e : Nat} {base : Nat} {ok : Nat → Prop} {v : Value} {xs : List α} (h : IsS95 w0 W g f0 f1) (ho : d.Q e W base ok v xs) (ht : ∀ q, q ∈ e :: d.E → q ≠ 95) : d.Q e W base (fun k => ok k ∧ k ≠ g) v xs := by
 obtain ⟨A0, c0, hb, hg, hr0⟩ := h
 exact Kd.Q_types ho hb ht
theorem IsS95.own_neQ {w0 W : World} {g : Nat} {f0 : List Int} {f1 : Int} {α : Type} {d : Kd α} {e : Nat} {base : Nat} {ok : Nat → Prop} {v : Value} {xs : List α} (h : IsS95 w0 W g f0 f1) (ho : d.Q e W base ok v xs) (ht : e ≠ 95) : some g ≠ v.ownBlock := by
 obtain ⟨A0, c0, hb, hg, hr0⟩ := h
 exact Kd.Q_ne ho hb ht
theorem IsS95.apartS {w0 W : World} {g : Nat} {f0 : List Int} {f1 : Int} {α : Type} {d : Kd α} {e : Nat} {base : Nat} {ok : Nat → Prop} {v : Value} {xs : List α} (h : IsS95 w0 W g f0 f1) (ho : d.S e W base ok v xs) (ht : ∀ q, q ∈ e :: d.E → q ≠ 95) : d.S e W base (fun k => ok k ∧ k ≠ g) v xs := by
 obtain ⟨A0, c0, hb, hg, hr0⟩ := h
 exact Kd.S_types ho hb ht
theorem IsS95.own_neS {w0 W : World} {g : Nat} {f0 : List Int} {f1 : Int} {α : Type} {d : Kd α} {e : Nat} {base : Nat} {ok : Nat → Prop} {v : Value} {xs : List α} (h : IsS95 w0 W g f0 f1) (ho : d.S e W base ok v xs) (ht : e ≠ 95) : some g ≠ v.ownBlock := by
 obtain ⟨A0, c0, hb, hg, hr0⟩ := h
 exact Kd.S_ne ho hb ht
theorem IsS95.lt {w0 W : World} {g : Nat} {f0 : List Int} {f1 : Int} (h : IsS95 w0 W g f0 f1) : g < W.heap.size := by
 obtain ⟨A0, c0, hb, hg, hr0⟩ := h
 exact blk_lt hb
theorem IsS95.ge {w0 W : World} {g : Nat} {f0 : List Int} {f1 : Int} (h : IsS95 w0 W g f0 f1) : w0.heap.size ≤ g := by
 obtain ⟨A0, c0, hb, hg, hr0⟩ := h
 exact hg
theorem IsS95.ne_blk {w0 W : World} {g : Nat} {f0 : List Int} {f1 : Int} {a : Nat} {cs : Array Value} {t : TypeId} {fr : Nat × Nat} (h : IsS95 w0 W g f0 f1) (hb2 : W.heap[a]? = some (.cells cs t fr)) (ht : t ≠ 95) : g ≠ a := by
 obtain ⟨A0, c0, hb, hg, hr0⟩ := h
 rintro rfl
 rw [hb] at hb2
 injection hb2 with hb2
 injection hb2 with _ ht2
 exact ht ht2.symm
theorem IsS95.far {w0 W : World} {g : Nat} {f0 : List Int} {f1 : Int} {p : Addr} (h : IsS95 w0 W g f0 f1) (hne : g ≠ p.block) (u : Value) : IsS95 w0 (W.setCell p u) g f0 f1 := by
 obtain ⟨A0, c0, hb, hg, hr0⟩ := h
 exact ⟨A0, c0, blk_far hb hne u, hg, hr0⟩
theorem cellS95_0 {W : World} {g : Nat} {A0 : Option Addr} {c0 : Nat} {f0 : List Int} {f1 : Int} (h : W.heap[g]? = some (.cells #[.slice A0 f0.length c0, .int .i64 f1] 95 (0, 0))) : W.cell? ⟨g, 0, none⟩ = some (.slice A0 f0.length c0) := (blk_cell h 0).trans rfl
theorem cellS95_1 {W : World} {g : Nat} {A0 : Option Addr} {c0 : Nat} {f0 : List Int} {f1 : Int} (h : W.heap[g]? = some (.cells #[.slice A0 f0.length c0, .int .i64 f1] 95 (0, 0))) : W.cell? ⟨g, 1, none⟩ = some (.int .i64 f1) := (blk_cell h 1).trans rfl
theorem IsS95.set_1 {w0 W : World} {g : Nat} {f0 : List Int} {f1 : Int} (h : IsS95 w0 W g f0 f1) (x : Int) : IsS95 w0 (W.setCell ⟨g, 1, none⟩ (.int .i64 x)) g f0 x := by
 obtain ⟨A0, c0, hb, hg, hr0⟩ := h
 exact ⟨A0, c0, (by simpa using blk_set hb 1 (.int .i64 x)), hg, hr0⟩
theorem IsS95.new (w0 W : World) (A0 : Option Addr) (c0 : Nat) (f0 : List Int) (f1 : Int) (hB : Below w0.heap.size w0 W) (hr0 : Kd.C (Kd.int .u8) w0 A0 f0.length f0) : IsS95 w0 (W.alloc (.cells #[.slice A0 f0.length c0, .int .i64 f1] 95)) W.heap.size f0 f1 := ⟨A0, c0, by simpa using heap_alloc_new W _, hB.size, hr0⟩
def spec_l6Rd_pick.j0 : Nat → Int → Bool → List Int → Int → Option (Int × Int)
 | 0, _, _, _, _ => none
 | k + 1, x1, x24, x1000, x1001 => if x24 = true then (some (0, x1001)) else (if (wrap64 (x1001 - 1)) < (x1000.length : Int) then (if 0 ≤ (wrap64 (x1001 - 1)) then (if x1 = 0 then (none) else (some (Int.tmod (wrap64 (rd x1000 (wrap64 (x1001 - 1)))) x1, x1001))) else (none)) else (if (x1000.length : Int) = 0 then (none) else (if 0 ≤ (Int.tmod (wrap64 (x1001 - 1)) (x1000.length : Int)) then (if (Int.tmod (wrap64 (x1001 - 1)) (x1000.length : Int)) < (x1000.length : Int) then (if 0 ≤ (Int.tmod (wrap64 ((wrap64 ((wrap64 (x1001 - 1)) * 7)) + 3)) (x1000.length : Int)) then (if (Int.tmod (wrap64 ((wrap64 ((wrap64 (x1001 - 1)) * 7)) + 3)) (x1000.length : Int)) < (x1000.length : Int) then (if x1 = 0 then (none) else (some (Int.tmod (Go.bits .xor .i64 (wrap64 ((wrap64 ((wrap64 ((wrap64 ((wrap64 (rd x1000 (Int.tmod (wrap64 (x1001 - 1)) (x1000.length : Int)))) * 131)) + (wrap64 ((wrap64 (rd x1000 (Int.tmod (wrap64 ((wrap64 ((wrap64 (x1001 - 1)) * 7)) + 3)) (x1000.length : Int)))) * 1117)))) + (wrap64 ((wrap64 (x1001 - 1)) * 29)))) + (wrap64 ((wrap64 (Int.tdiv (wrap64 (x1001 - 1)) (x1000.length : Int))) * 53)))) (wrap64 (Int.tdiv (wrap64 ((wrap64 ((wrap64 ((wrap64 ((wrap64 (rd x1000 (Int.tmod (wrap64 (x1001 - 1)) (x1000.length : Int)))) * 131)) + (wrap64 ((wrap64 (rd x1000 (Int.tmod (wrap64 ((wrap64 ((wrap64 (x1001 - 1)) * 7)) + 3)) (x1000.length : Int)))) * 1117)))) + (wrap64 ((wrap64 (x1001 - 1)) * 29)))) + (wrap64 ((wrap64 (Int.tdiv (wrap64 (x1001 - 1)) (x1000.length : Int))) * 53)))) 64))) x1, x1001))) else (none)) else (none)) else (none)) else (none))))
def spec_l6Rd_pick.f (k : Nat) (s0_0 : List Int) (s0_1 : Int) (a1 : Int) : Option (Int × Int) := if a1 < 1 then (spec_l6Rd_pick.j0 k a1 true s0_0 (wrap64 (s0_1 + 1))) else (spec_l6Rd_pick.j0 k a1 ((s0_0.length : Int) == 0) s0_0 (wrap64 (s0_1 + 1)))
theorem spec_l6Rd_pick.mono_l : ∀ k, (∀ y0 y1 y2 y3, LeO (spec_l6Rd_pick.j0 k y0 y1 y2 y3) (spec_l6Rd_pick.j0 (k + 1) y0 y1 y2 y3))
 | 0 => fun _ _ _ _ r h => by simp [spec_l6Rd_pick.j0] at h
 | k + 1 => by
  have ih0 := spec_l6Rd_pick.mono_l k
  ·intro y0 y1 y2 y3
   unfold spec_l6Rd_pick.j0
   repeat' first
   | (with_reducible exact ih0 _ _ _ _)
   | (with_reducible exact LeO.refl _)
   | (with_reducible exact LeO.none _)
   | (with_reducible refine LeO.ite ?_ ?_)
   | (with_reducible refine LeO.bind ?_ (fun _ => ?_))
   | exact ih0 _ _ _ _
   | exact LeO.none _
   | refine LeO.ite ?_ ?_
   | refine LeO.bind ?_ (fun _ => ?_)
theorem spec_l6Rd_pick.mono : ∀ a0 a1 a2 k, LeO (spec_l6Rd_pick.f k a0 a1 a2) (spec_l6Rd_pick.f (k + 1) a0 a1 a2) := by
 intro a0 a1 a2 k
 have ih0 := spec_l6Rd_pick.mono_l k
 unfold spec_l6Rd_pick.f
 repeat' first
   | (with_reducible exact ih0 _ _ _ _)
   | (with_reducible exact LeO.refl _)
   | (with_reducible exact LeO.none _)
   | (with_reducible refine LeO.ite ?_ ?_)
   | (with_reducible refine LeO.bind ?_ (fun _ => ?_))
   | exact ih0 _ _ _ _
   | exact LeO.none _
   | refine LeO.ite ?_ ?_
   | refine LeO.bind ?_ (fun _ => ?_)
set_option maxHeartbeats 8000000 in
set_option maxRecDepth 100000 in
theorem spec_l6Rd_pick.calls (k : Nat) (g : Nat) (s0_0 : List Int) (s0_1 : Int) (a1 : Int) (r1 : Int) (r2 : Int) (w0 w : World) (hI : IsS95 w0 w g s0_0 s0_1) (hB : Below w0.heap.size w0 w) (h : spec_l6Rd_pick.f k s0_0 s0_1 a1 = some (r1, r2)) :
  Calls Try.prog 58 #[.pointer (some ⟨g, 0, none⟩), .int .i64 a1] w fun e w' => e = .returned (.int .i64 r1) ∧ IsS95 w0 w' g s0_0 r2 ∧ Below w0.heap.size w0 w' ∧ KeepBut w w' g none := by
 have HI0 := Aside0.mk hI
 have HK := Aside0.mk (KeepBut.refl w g none)
 have HL := Aside0.mk hB.size
 clear hI
 have HW0 := Aside0.mk hB.size
 have HB := Aside0.mk hB
 clear hB
 have H : (if a1 < 1 then (spec_l6Rd_pick.j0 k a1 true s0_0 (wrap64 (s0_1 + 1))) else (spec_l6Rd_pick.j0 k a1 ((s0_0.length : Int) == 0) s0_0 (wrap64 (s0_1 + 1)))) = some (r1, r2) := h
 clear h
 have HC3 := Aside0.mk H
 clear H
 obtain ⟨ASz4_0, cSz4_0, HGz4, hgz4, HSz4_0⟩ := HI0.out
 have hcz4_0 := cellS95_0 HGz4
 have hcz4_1 := cellS95_1 HGz4
 have hfz4_1 := blk_frozen HGz4 1
 clear HGz4 hgz4
 go_enter Try.func58, Try.ntmps58
 go_upto_region 2 with (fail)
 repeat (go_quiet (fail); go_upto_region 2 with (fail))
 go_cut [24] (fun v24 wc => ∃ (kq : Nat) (x24_2 : Bool), v24 = .bool x24_2 ∧ Aside0 (spec_l6Rd_pick.j0 kq a1 x24_2 s0_0 (wrap64 (s0_1 + 1)) = some (r1, r2)) ∧ Aside0 (kq ≤ k) ∧ Aside0 (IsS95 w0 wc g s0_0 (wrap64 (s0_1 + 1))) ∧ Aside0 (KeepBut w wc g none) ∧ Aside0 (Below w0.heap.size w0 wc))
 case first =>
  have H := HC3.out
  clear HC3
  by_cases c5 : a1 < 1
  ·rw [if_pos c5] at H
   have c5b0 : decide (a1 < 1) = true := decide_eq_true c5
   clear c5
   (first | rw [c5b0] | (simp only [i64_w, i32_w]; rw [c5b0]) | skip)
   have H' := Aside0.mk H
   clear H
   go_wp2
   repeat (go_quiet (fail); try go_wp2)
   go_meet
   case rel => exact ⟨_, (true), y26, H', ⟨y43⟩, ⟨(y35 HI0.out)⟩, ⟨(y25 HK.out)⟩, ⟨(y33 HB.out HI0.out)⟩⟩
  ·rw [if_neg c5] at H
   have c5b0 : decide (a1 < 1) = false := decide_eq_false c5
   clear c5
   (first | rw [c5b0] | (simp only [i64_w, i32_w]; rw [c5b0]) | skip)
   have H' := Aside0.mk H
   clear H
   obtain ⟨ASz6_0, cSz6_0, HGz6, hgz6, HSz6_0⟩ := HI0.out
   have hcz6_0 := cellS95_0 HGz6
   have hcz6_1 := cellS95_1 HGz6
   have hfz6_1 := blk_frozen HGz6 1
   clear HGz6 hgz6
   go_wp2
   repeat (go_quiet (fail); try go_wp2)
   go_meet
   case rel => exact ⟨_, (((s0_0.length : Int) == 0)), y26, H', ⟨y43⟩, ⟨(y35 HI0.out)⟩, ⟨(y25 HK.out)⟩, ⟨(y33 HB.out HI0.out)⟩⟩
 case rest =>
  clear HC3
  try clear p2
  try clear c5
  try clear c5b0
  try clear p6
  try clear hcz4_0
  try clear hcz4_1
  try clear hcz6_0
  try clear hcz6_1
  try clear hfz4_1
  try clear hfz6_1
  obtain ⟨kq, x24_2, rfl, HA, HJ2, HI0, HK, HB⟩ := hcut
  cases kq with
  | zero => exact absurd HA.out (by simp [spec_l6Rd_pick.j0])
  | succ kj2 =>
   have H := HA.out
   clear HA
   simp only [spec_l6Rd_pick.j0] at H
   by_cases c7 : x24_2 = true
   ·subst c7
    rw [if_pos rfl] at H
    simp only [Option.some.injEq, Prod.mk.injEq] at H
    obtain ⟨rfl, rfl⟩ := H
    go_wp2
    repeat (go_quiet (fail); try go_wp2)
    go_ret
    exact ⟨y14, (y35 HI0.out), (y33 HB.out HI0.out), (y25 HK.out)⟩
   ·replace c7 := Bool.eq_false_iff.mpr c7
    subst c7
    rw [if_neg (show ¬ (false = true) by decide)] at H
    by_cases c8 : (wrap64 ((wrap64 (s0_1 + 1)) - 1)) < (s0_0.length : Int)
    ·rw [if_pos c8] at H
     have c8b0 : decide ((wrap64 ((wrap64 (s0_1 + 1)) - 1)) < (s0_0.length : Int)) = true := decide_eq_true c8
     clear c8
     obtain ⟨ji9, hji9⟩ : ∃ j_ : Int, (wrap64 ((wrap64 (s0_1 + 1)) - 1)) = j_ := ⟨_, rfl⟩
     replace H : (if 0 ≤ (ji9) then (if a1 = 0 then (none) else (some (Int.tmod (wrap64 (rd s0_0 (ji9))) a1, (wrap64 (s0_1 + 1))))) else (none)) = some (r1, r2) := by first | (rw [hji9] at H; exact H) | (simp only [hji9] at H ⊢; exact H)
     (try rw [hji9] at c8b0)
     have hji9w : (IntKind.i64.wrap ((wrap64 (s0_1 + 1)) - 1)) = ji9 := (i64_w _).trans hji9
     by_cases c10 : 0 ≤ (ji9)
     ·rw [if_pos c10] at H
      have c10b0 : decide (0 ≤ (ji9)) = true := decide_eq_true c10
      clear c10
      by_cases c11 : a1 = 0
      ·rw [if_pos c11] at H
       exact absurd H (by simp)
      ·rw [if_neg c11] at H
       have c11b0 : (a1 == 0) = false := beq_eq_false_iff_ne.mpr c11
       have c11b1 : (a1 != 0) = true := bne_iff_ne.mpr c11
       simp only [Option.some.injEq, Prod.mk.injEq] at H
       obtain ⟨rfl, rfl⟩ := H
       obtain ⟨ASz12_0, cSz12_0, HGz12, hgz12, HSz12_0⟩ := HI0.out
       have hcz12_0 := cellS95_0 HGz12
       have hcz12_1 := cellS95_1 HGz12
       have hfz12_1 := blk_frozen HGz12 1
       clear HGz12 hgz12
       have p178 : 0 ≤ ((ji9) : Int) := of_decide_eq_true y19
       have q178 : (ji9) < (s0_0.length : Int) := of_decide_eq_true y19
       obtain ⟨ad178, e178, hx178_0⟩ := Kd.at_int HSz12_0 (ji9) p178 q178
       cases e178
       replace hx178_0 := pw_cell_below HB.out hx178_0
       replace p178 := eq_true p178
       replace q178 := eq_true q178
       go_wp2
       repeat (go_quiet (fail); try go_wp2)
       go_ret
       exact ⟨(by first | rfl | (simp [errW_none, errW_some] <;> rfl) | (simp only [← hji9]; first | rfl | (simp [errW_none, errW_some] <;> rfl)) | (simp [*, errW_none, errW_some] <;> rfl)), (y35 HI0.out), (y33 HB.out HI0.out), (y25 HK.out)⟩
     ·rw [if_neg c10] at H
      exact absurd H (by simp)
    ·rw [if_neg c8] at H
     have c8b0 : decide ((wrap64 ((wrap64 (s0_1 + 1)) - 1)) < (s0_0.length : Int)) = false := decide_eq_false c8
     clear c8
     by_cases c13 : (s0_0.length : Int) = 0
     ·rw [if_pos c13] at H
      exact absurd H (by simp)
     ·rw [if_neg c13] at H
      have c13b0 : ((s0_0.length : Int) == 0) = false := beq_eq_false_iff_ne.mpr c13
      have c13b1 : ((s0_0.length : Int) != 0) = true := bne_iff_ne.mpr c13
      have c13b2 : ¬ (s0_0 = []) := fun h_ => c13 (by rw [h_]; rfl)
      obtain ⟨ji14, hji14⟩ : ∃ j_ : Int, (Int.tmod (wrap64 ((wrap64 (s0_1 + 1)) - 1)) (s0_0.length : Int)) = j_ := ⟨_, rfl⟩
      replace H : (if 0 ≤ (ji14) then (if (ji14) < (s0_0.length : Int) then (if 0 ≤ (Int.tmod (wrap64 ((wrap64 ((wrap64 ((wrap64 (s0_1 + 1)) - 1)) * 7)) + 3)) (s0_0.length : Int)) then (if (Int.tmod (wrap64 ((wrap64 ((wrap64 ((wrap64 (s0_1 + 1)) - 1)) * 7)) + 3)) (s0_0.length : Int)) < (s0_0.length : Int) then (if a1 = 0 then (none) else (some (Int.tmod (Go.bits .xor .i64 (wrap64 ((wrap64 ((wrap64 ((wrap64 ((wrap64 (rd s0_0 (ji14))) * 131)) + (wrap64 ((wrap64 (rd s0_0 (Int.tmod (wrap64 ((wrap64 ((wrap64 ((wrap64 (s0_1 + 1)) - 1)) * 7)) + 3)) (s0_0.length : Int)))) * 1117)))) + (wrap64 ((wrap64 ((wrap64 (s0_1 + 1)) - 1)) * 29)))) + (wrap64 ((wrap64 (Int.tdiv (wrap64 ((wrap64 (s0_1 + 1)) - 1)) (s0_0.length : Int))) * 53)))) (wrap64 (Int.tdiv (wrap64 ((wrap64 ((wrap64 ((wrap64 ((wrap64 (rd s0_0 (ji14))) * 131)) + (wrap64 ((wrap64 (rd s0_0 (Int.tmod (wrap64 ((wrap64 ((wrap64 ((wrap64 (s0_1 + 1)) - 1)) * 7)) + 3)) (s0_0.length : Int)))) * 1117)))) + (wrap64 ((wrap64 ((wrap64 (s0_1 + 1)) - 1)) * 29)))) + (wrap64 ((wrap64 (Int.tdiv (wrap64 ((wrap64 (s0_1 + 1)) - 1)) (s0_0.length : Int))) * 53)))) 64))) a1, (wrap64 (s0_1 + 1))))) else (none)) else (none)) else (none)) else (none)) = some (r1, r2) := by first | (rw [hji14] at H; exact H) | (simp only [hji14] at H ⊢; exact H)
      by_cases c15 : 0 ≤ (ji14)
      ·rw [if_pos c15] at H
       have c15b0 : decide (0 ≤ (ji14)) = true := decide_eq_true c15
       clear c15
       by_cases c16 : (ji14) < (s0_0.length : Int)
       ·rw [if_pos c16] at H
        have c16b0 : decide ((ji14) < (s0_0.length : Int)) = true := decide_eq_true c16
        clear c16
        obtain ⟨ji17, hji17⟩ : ∃ j_ : Int, (Int.tmod (wrap64 ((wrap64 ((wrap64 ((wrap64 (s0_1 + 1)) - 1)) * 7)) + 3)) (s0_0.length : Int)) = j_ := ⟨_, rfl⟩
        replace H : (if 0 ≤ (ji17) then (if (ji17) < (s0_0.length : Int) then (if a1 = 0 then (none) else (some (Int.tmod (Go.bits .xor .i64 (wrap64 ((wrap64 ((wrap64 ((wrap64 ((wrap64 (rd s0_0 (ji14))) * 131)) + (wrap64 ((wrap64 (rd s0_0 (ji17))) * 1117)))) + (wrap64 ((wrap64 ((wrap64 (s0_1 + 1)) - 1)) * 29)))) + (wrap64 ((wrap64 (Int.tdiv (wrap64 ((wrap64 (s0_1 + 1)) - 1)) (s0_0.length : Int))) * 53)))) (wrap64 (Int.tdiv (wrap64 ((wrap64 ((wrap64 ((wrap64 ((wrap64 (rd s0_0 (ji14))) * 131)) + (wrap64 ((wrap64 (rd s0_0 (ji17))) * 1117)))) + (wrap64 ((wrap64 ((wrap64 (s0_1 + 1)) - 1)) * 29)))) + (wrap64 ((wrap64 (Int.tdiv (wrap64 ((wrap64 (s0_1 + 1)) - 1)) (s0_0.length : Int))) * 53)))) 64))) a1, (wrap64 (s0_1 + 1))))) else (none)) else (none)) = some (r1, r2) := by first | (rw [hji17] at H; exact H) | (simp only [hji17] at H ⊢; exact H)
        by_cases c18 : 0 ≤ (ji17)
        ·rw [if_pos c18] at H
         have c18b0 : decide (0 ≤ (ji17)) = true := decide_eq_true c18
         clear c18
         by_cases c19 : (ji17) < (s0_0.length : Int)
         ·rw [if_pos c19] at H
          have c19b0 : decide ((ji17) < (s0_0.length : Int)) = true := decide_eq_true c19
          clear c19
          by_cases c20 : a1 = 0
          ·rw [if_pos c20] at H
           exact absurd H (by simp)
          ·rw [if_neg c20] at H
           have c20b0 : (a1 == 0) = false := beq_eq_false_iff_ne.mpr c20
           have c20b1 : (a1 != 0) = true := bne_iff_ne.mpr c20
           simp only [Option.some.injEq, Prod.mk.injEq] at H
           obtain ⟨rfl, rfl⟩ := H
           obtain ⟨ASz21_0, cSz21_0, HGz21, hgz21, HSz21_0⟩ := HI0.out
           have hcz21_0 := cellS95_0 HGz21
           have hcz21_1 := cellS95_1 HGz21
           have hfz21_1 := blk_frozen HGz21 1
           clear HGz21 hgz21
           have p179 : 0 ≤ ((ji14) : Int) := of_decide_eq_true y19
           have q179 : (ji14) < (s0_0.length : Int) := of_decide_eq_true y19
           obtain ⟨ad179, e179, hx179_0⟩ := Kd.at_int HSz21_0 (ji14) p179 q179
           cases e179
           replace hx179_0 := pw_cell_below HB.out hx179_0
           replace p179 := eq_true p179
           replace q179 := eq_true q179
           have p180 : 0 ≤ ((ji17) : Int) := of_decide_eq_true y19
           have q180 : (ji17) < (s0_0.length : Int) := of_decide_eq_true y19
           obtain ⟨ad180, e180, hx180_0⟩ := Kd.at_int HSz21_0 (ji17) p180 q180
           obtain rfl : ad179 = ad180 := (by injection e180)
           replace hx180_0 := pw_cell_below HB.out hx180_0
           replace p180 := eq_true p180
           replace q180 := eq_true q180
           go_wp2
           repeat (go_quiet (fail); try go_wp2)
           go_ret
           exact ⟨(by first | rfl | (simp [errW_none, errW_some] <;> rfl) | (simp only [← hji14, ← hji17]; first | rfl | (simp [errW_none, errW_some] <;> rfl)) | (simp [*, errW_none, errW_some] <;> rfl)), (y35 HI0.out), (y33 HB.out HI0.out), (y25 HK.out)⟩
         ·rw [if_neg c19] at H
          exact absurd H (by simp)
        ·rw [if_neg c18] at H
         exact absurd H (by simp)
       ·rw [if_neg c16] at H
        exact absurd H (by simp)
      ·rw [if_neg c15] at H
       exact absurd H (by simp)
end Go.Proofs.Ytjhbhihfifhljaa.PA
end
section
namespace Go.Proofs.Ytjhbhihfifhljaa.PA
open Go.RowKit Go.Proofs.YtjhbhihfifhljaaW.PrintWords Go.Proofs.YtjhbhihfifhljaaW.PrintLast Go.Proofs.YtjhbhihfifhljaaW.PrintMore
attribute [local go_sem] max2_int min2_int max_two min_two max_three min_three max_four min_four
set_option linter.unusedVariables false
set_option linter.unusedSimpArgs false
mutual
def spec_l71Type.j0 : Nat → Int → Bool → List Int → Int → Option ((List (S30)) × Int)
 | 0, _, _, _, _ => none
 | k + 1, x1, x11, x1000, x1001 => if x11 = true then (some (([] : List (S30)), x1001)) else ((spec_l71Type.f k x1000 x1001 (wrap64 (x1 - 1))).bind fun bt184 => ((spec_l71Type.f k x1000 bt184.2 (wrap64 (x1 - 1))).bind fun bt188 => (some ((([(⟨bt184.1⟩ : S30), (⟨bt188.1⟩ : S30)] : List (S30))), bt188.2))))
def spec_l71Type.f : Nat → List Int → Int → Int → Option ((List (S30)) × Int)
 | 0, _, _, _ => none
 | k + 1, s0_0, s0_1, a1 => if a1 < 2 then (spec_l71Type.j0 k a1 true s0_0 s0_1) else ((spec_l6Rd_pick.f k s0_0 s0_1 3).bind fun bt182 => (spec_l71Type.j0 k a1 (decide (bt182.1 > 0)) s0_0 bt182.2))
end
theorem spec_l71Type.mono_l : ∀ k, (∀ y0 y1 y2, LeO (spec_l71Type.f k y0 y1 y2) (spec_l71Type.f (k + 1) y0 y1 y2)) ∧ (∀ y0 y1 y2 y3, LeO (spec_l71Type.j0 k y0 y1 y2 y3) (spec_l71Type.j0 (k + 1) y0 y1 y2 y3))
 | 0 => ⟨fun _ _ _ r h => by simp [spec_l71Type.f] at h, fun _ _ _ _ r h => by simp [spec_l71Type.j0] at h⟩
 | k + 1 => by
  obtain ⟨ih0, ih1⟩ := spec_l71Type.mono_l k
  refine ⟨?_, ?_⟩
  ·intro y0 y1 y2
   unfold spec_l71Type.f
   repeat' first
   | (with_reducible exact ih0 _ _ _)
   | (with_reducible exact ih1 _ _ _ _)
   | (with_reducible exact spec_l6Rd_pick.mono _ _ _ _)
   | (with_reducible exact LeO.refl _)
   | (with_reducible exact LeO.none _)
   | (with_reducible refine LeO.ite ?_ ?_)
   | (with_reducible refine LeO.bind ?_ (fun _ => ?_))
   | exact ih0 _ _ _
   | exact ih1 _ _ _ _
   | exact spec_l6Rd_pick.mono _ _ _ _
   | exact LeO.none _
   | refine LeO.ite ?_ ?_
   | refine LeO.bind ?_ (fun _ => ?_)
  ·intro y0 y1 y2 y3
   unfold spec_l71Type.j0
   repeat' first
   | (with_reducible exact ih0 _ _ _)
   | (with_reducible exact ih1 _ _ _ _)
   | (with_reducible exact spec_l6Rd_pick.mono _ _ _ _)
   | (with_reducible exact LeO.refl _)
   | (with_reducible exact LeO.none _)
   | (with_reducible refine LeO.ite ?_ ?_)
   | (with_reducible refine LeO.bind ?_ (fun _ => ?_))
   | exact ih0 _ _ _
   | exact ih1 _ _ _ _
   | exact spec_l6Rd_pick.mono _ _ _ _
   | exact LeO.none _
   | refine LeO.ite ?_ ?_
   | refine LeO.bind ?_ (fun _ => ?_)
theorem spec_l71Type.mono : ∀ a0 a1 a2 k, LeO (spec_l71Type.f k a0 a1 a2) (spec_l71Type.f (k + 1) a0 a1 a2) := by
 intro a0 a1 a2 k
 obtain ⟨ih0, ih1⟩ := spec_l71Type.mono_l k
 exact ih0 a0 a1 a2
set_option maxHeartbeats 8000000 in
set_option maxRecDepth 100000 in
theorem spec_l71Type.calls (k : Nat) : ∀ (g : Nat) (s0_0 : List Int) (s0_1 : Int) (a1 : Int) (r1 : List (S30)) (r2 : Int) (w0 w : World) (hI : IsS95 w0 w g s0_0 s0_1) (hB : Below w0.heap.size w0 w) (h : spec_l71Type.f k s0_0 s0_1 a1 = some (r1, r2)),
  Calls Try.prog 67 #[.pointer (some ⟨g, 0, none⟩), .int .i64 a1] w fun e w' => ∃ v0_ : Value, e = .returned (.agg #[v0_]) ∧ Kd.N k30 30 w' w.heap.size (fun k_ => (w.heap.size ≤ k_)) v0_ r1 ∧ IsS95 w0 w' g s0_0 r2 ∧ Below w0.heap.size w0 w' ∧ KeepBut w w' g none := by
 induction k using Nat.strongRecOn with
 | _ k ih =>
 intro g s0_0 s0_1 a1 r1 r2 w0 w hI hB h
 cases k with
 | zero => exact absurd h (by simp [spec_l71Type.f])
 | succ k =>
 simp only [spec_l71Type.f] at h
 have hu30 := Try.underlying30
 have HI0 := Aside0.mk hI
 have HK := Aside0.mk (KeepBut.refl w g none)
 have HL := Aside0.mk hB.size
 clear hI
 have HW0 := Aside0.mk hB.size
 have HB := Aside0.mk hB
 clear hB
 have H : (if a1 < 2 then (spec_l71Type.j0 k a1 true s0_0 s0_1) else ((spec_l6Rd_pick.f k s0_0 s0_1 3).bind fun bt182 => (spec_l71Type.j0 k a1 (decide (bt182.1 > 0)) s0_0 bt182.2))) = some (r1, r2) := h
 clear h
 have HC3 := Aside0.mk H
 clear H
 go_enter Try.func67, Try.ntmps67
 go_upto_region 1 with (first | ((with_reducible refine gate_dst (N := 4) rfl ?_); refine zbx 4 #[.slice none 0 0] 30 ?_; intro gb181 hg w4 hbox hb; replace HB := Aside0.mk (below_step (y33 HB.out HI0.out) hb); have BK181 := Aside0.mk hbox; have GW181 := Aside0.mk ((by rw [hg]; exact (keep_size (w := w) (g := g) (row := none) (y25 HK.out)) : w.heap.size ≤ gb181)); have GE181 := Aside0.mk ((Nat.le_trans HW0.out (by rw [hg]; exact (keep_size (w := w) (g := g) (row := none) (y25 HK.out)) : w.heap.size ≤ gb181) : w0.heap.size ≤ gb181)); replace HK := Aside0.mk (KeepBut.trans (y25 HK.out) (KeepBut.of_below hb g none) (.inl rfl)); have NB0_181 := Aside0.mk ((by rw [hg]; exact Nat.ne_of_lt (IsS95.lt (show IsS95 w0 _ g s0_0 s0_1 from by repeat (first | (with_reducible first | exact HI0.out | apply IsS95.alloc | apply IsS95.drewN | apply IsS95.drew | apply IsS95.set_1) | exact HI0.out))) : g ≠ gb181)); have NB181_0 := Aside0.mk ((by rw [hg]; exact Nat.ne_of_gt (IsS95.lt (show IsS95 w0 _ g s0_0 s0_1 from by repeat (first | (with_reducible first | exact HI0.out | apply IsS95.alloc | apply IsS95.drewN | apply IsS95.drew | apply IsS95.set_1) | exact HI0.out))) : gb181 ≠ g)); replace HI0 := Aside0.mk (IsS95.below (y35 HI0.out) hb); clear hb hbox hg))
 (try simp only [Act.put, List.setIfInBounds_toArray, List.set_cons_zero, List.set_cons_succ])
 go_cut [11] (fun v11 wc => ∃ (kq : Nat) (x11_2 : Bool) (x1001_2 : Int), v11 = .bool x11_2 ∧ Aside0 (spec_l71Type.j0 kq a1 x11_2 s0_0 x1001_2 = some (r1, r2)) ∧ Aside0 (kq ≤ k) ∧ Aside0 (wc.heap[gb181]? = some (.cells #[(.slice none 0 0)] 30 (0, 0))) ∧ Aside0 (IsS95 w0 wc g s0_0 x1001_2) ∧ Aside0 (KeepBut w wc g none) ∧ Aside0 (Below w0.heap.size w0 wc))
 case first =>
  have H := HC3.out
  clear HC3
  by_cases c5 : a1 < 2
  ·rw [if_pos c5] at H
   have c5b0 : decide (a1 < 2) = true := decide_eq_true c5
   clear c5
   (first | rw [c5b0] | (simp only [i64_w, i32_w]; rw [c5b0]) | skip)
   have H' := Aside0.mk H
   clear H
   go_wp2
   go_meet
   case rel => exact ⟨_, (true), (s0_1), y26, H', ⟨y43⟩, ⟨(y0 BK181.out)⟩, ⟨(y24 HI0.out NB0_181.out)⟩, ⟨(y18 HK.out GW181.out)⟩, ⟨(y23 HB.out HI0.out GE181.out)⟩⟩
  ·rw [if_neg c5] at H
   have c5b0 : decide (a1 < 2) = false := decide_eq_false c5
   clear c5
   (first | rw [c5b0] | (simp only [i64_w, i32_w]; rw [c5b0]) | skip)
   obtain ⟨⟨t182, t183⟩, A60, H⟩ := ob H
   have A6 := Aside0.mk A60
   clear A60
   have H' := Aside0.mk H
   clear H
   go_wp2_with (first | (go_at_call 58; (with_reducible refine (spec_l6Rd_pick.calls k g s0_0 s0_1 3 t182 t183 w0 _ ?side1 ?side2 A6.out).mono ?_); (case side1 => exact y24 HI0.out NB0_181.out); (case side2 => exact y23 HB.out HI0.out GE181.out); rintro e w7 ⟨rfl, hi, hb, hk⟩; replace BK181 := Aside0.mk (KeepBut.blk hk (g' := gb181) (o := .cells #[.slice none 0 0] 30 (0, 0)) (y0 BK181.out) NB181_0.out (by simp)); replace HK := Aside0.mk (KeepBut.trans (y18 HK.out GW181.out) hk (.inl rfl)); replace HB := Aside0.mk (hb); replace HI0 := Aside0.mk (hi); (try clear hb); (try clear hb2); (try clear hk); (try clear hi)))
   go_meet
   case rel => exact ⟨_, (decide (t182 > 0)), (t183), y26, H', ⟨y43⟩, ⟨(y0 BK181.out)⟩, ⟨(y24 HI0.out NB0_181.out)⟩, ⟨(y18 HK.out GW181.out)⟩, ⟨(y23 HB.out HI0.out GE181.out)⟩⟩
 case rest =>
  clear HC3
  try clear p2
  try clear c5
  try clear c5b0
  try clear c6
  obtain ⟨kq, x11_2, x1001_2, rfl, HA, HJ2, BK181, HI0, HK, HB⟩ := hcut
  cases kq with
  | zero => exact absurd HA.out (by simp [spec_l71Type.j0])
  | succ kj2 =>
   have H := HA.out
   clear HA
   simp only [spec_l71Type.j0] at H
   by_cases c8 : x11_2 = true
   ·subst c8
    rw [if_pos rfl] at H
    simp only [Option.some.injEq, Prod.mk.injEq] at H
    obtain ⟨rfl, rfl⟩ := H
    have hnb9 := NB181_0.out
    have hnc9 := NB0_181.out
    have hcz10_0 := zh BK181
    have hfz10_0 := zfr BK181 0
    go_wp2
    refine bodyPost_ret (results_cell_row rfl _ _ gb181 30 #[.slice none 0 0] (0, 0) _ rfl (by (with_reducible repeat (first | refine blk_drewN ?_ _ | refine blk_drew ?_ | refine blk_alloc ?_ _)); apply blk_put (i := 0); (case h => exact y0 BK181.out); (case e => rfl)) Try.underlying30 rfl (by kernel_rfl)) rfl ?_
    exact ⟨_, y14, y36, (y24 HI0.out NB0_181.out), (y23 HB.out HI0.out GE181.out), (y18 HK.out GW181.out)⟩
   ·replace c8 := Bool.eq_false_iff.mpr c8
    subst c8
    rw [if_neg (show ¬ (false = true) by decide)] at H
    obtain ⟨⟨t184, t187⟩, A110, H⟩ := ob H
    have A11 := Aside0.mk A110
    clear A110
    obtain ⟨⟨t188, t191⟩, A120, H⟩ := ob H
    have A12 := Aside0.mk A120
    clear A120
    obtain ⟨y192, hy192⟩ : ∃ y_ : List (S30), y_ = (([(⟨t184⟩ : S30), (⟨t188⟩ : S30)] : List (S30))) := ⟨_, rfl⟩
    replace H : (some (y192, t191)) = some (r1, r2) := by first | (rw [hy192]; with_reducible exact H) | (have H2_ := (Option.bind_some _ _).symm.trans H; rw [hy192]; with_reducible exact H2_) | (have H2_ := (Option.bind_some _ _).symm.trans H; with_reducible exact H2_) | with_reducible exact H | (rw [hy192]; exact H) | exact H
    have Ny192 := Aside0.mk hy192
    clear hy192
    simp only [Option.some.injEq, Prod.mk.injEq] at H
    obtain ⟨rfl, rfl⟩ := H
    go_wp2_with (first | ((with_reducible refine gate_callee (f := 67) rfl ?_); refine goesL_ (some 16) rfl rfl Try.func67 (by kernel_rfl) rfl #[.pointer (some ⟨g, 0, none⟩), .int .i64 (wrap64 (a1 - 1))] rfl y4 ?_; (with_reducible refine (ih kj2 (y46 HJ2.out) g s0_0 x1001_2 (wrap64 (a1 - 1)) t184 t187 w0 _ ?side1 ?side2 A11.out).mono ?_); (case side1 => exact y24 HI0.out NB0_181.out); (case side2 => exact y23 HB.out HI0.out GE181.out); rintro e w13 ⟨v185, rfl, ho0, hi, hb, hk⟩; refine ⟨_, rfl, ?_⟩; have HO186 := Aside0.mk (Kd.N_lower (Kd.N_mono (ok' := fun k_ => (w.heap.size ≤ k_) ∧ k_ ≠ gb181 ∧ k_ ≠ g) ho0 (fun k_ hk_ => ⟨(Nat.le_trans (keep_size (w := w) (g := g) (row := none) (y18 HK.out GW181.out)) hk_), (Kd.freshB (g := gb181) (o := .cells #[.slice none 0 0] 30 (0, 0)) (y0 BK181.out) k_ hk_), (IsS95.fresh (y24 HI0.out NB0_181.out) k_ hk_)⟩)) (keep_size (w := w) (g := g) (row := none) (y18 HK.out GW181.out))); replace BK181 := Aside0.mk (KeepBut.blk hk (g' := gb181) (o := .cells #[.slice none 0 0] 30 (0, 0)) (y0 BK181.out) NB181_0.out (by simp)); replace HK := Aside0.mk (KeepBut.trans (y18 HK.out GW181.out) hk (.inl rfl)); replace HB := Aside0.mk (hb); replace HI0 := Aside0.mk (hi); (try clear hb); (try clear hb2); (try clear hk); (try clear hi); (try clear ho0)) | ((with_reducible refine gate_callee (f := 67) rfl ?_); refine goesL_ (some 20) rfl rfl Try.func67 (by kernel_rfl) rfl #[.pointer (some ⟨g, 0, none⟩), .int .i64 (wrap64 (a1 - 1))] rfl y4 ?_; (with_reducible refine (ih kj2 (y46 HJ2.out) g s0_0 t187 (wrap64 (a1 - 1)) t188 t191 w0 _ ?side1 ?side2 A12.out).mono ?_); (case side1 => exact y24 HI0.out NB0_181.out); (case side2 => exact y23 HB.out HI0.out GE181.out); rintro e w14 ⟨v189, rfl, ho0, hi, hb, hk⟩; refine ⟨_, rfl, ?_⟩; have HO190 := Aside0.mk (Kd.N_lower (Kd.N_mono (ok' := fun k_ => (w.heap.size ≤ k_) ∧ some k_ ≠ (v185 : Value).ownBlock ∧ k_ ≠ gb181 ∧ k_ ≠ g) ho0 (fun k_ hk_ => ⟨(Nat.le_trans (keep_size (w := w) (g := g) (row := none) (y18 HK.out GW181.out)) hk_), (Kd.fresh' (Kd.N_lt (y9 HO186.out)) k_ hk_), (Kd.freshB (g := gb181) (o := .cells #[.slice none 0 0] 30 (0, 0)) (y0 BK181.out) k_ hk_), (IsS95.fresh (y24 HI0.out NB0_181.out) k_ hk_)⟩)) (keep_size (w := w) (g := g) (row := none) (y18 HK.out GW181.out))); replace BK181 := Aside0.mk (KeepBut.blk hk (g' := gb181) (o := .cells #[.slice none 0 0] 30 (0, 0)) (y0 BK181.out) NB181_0.out (by simp)); replace HO186 := Aside0.mk (Kd.N_mono (Kd.N_told (Kd.N_oldK (Kd.N_mono (ok := fun k_ => (((w.heap.size ≤ k_)) ∧ (k_ ≠ gb181 ∧ k_ ≠ g))) (y9 HO186.out) (fun k_ hk_ => (⟨hk_, hk_.2.2⟩ : _ ∧ k_ ≠ g))) hk) (Kd.N_base ho0)) (fun _ h_ => h_.1)); replace HK := Aside0.mk (KeepBut.trans (y18 HK.out GW181.out) hk (.inl rfl)); replace HB := Aside0.mk (hb); replace HI0 := Aside0.mk (hi); (try clear hb); (try clear hb2); (try clear hk); (try clear hi); (try clear ho0); obtain ⟨Ao15, co15, eo15⟩ := Kd.N_slice HO186.out; subst eo15; obtain ⟨Ao16, co16, eo16⟩ := Kd.N_slice HO190.out; subst eo16) | ((with_reducible refine gate_dst (N := 21) rfl ?_); refine Kd.N_lit k30 _ 30 ?hg (N' := 21) ?hd (xs := ([(⟨t184⟩ : S30), (⟨t188⟩ : S30)] : List (S30))) (inner := [.slice Ao15 t184.length co15, .slice Ao16 t188.length co16]) (ok := (fun k_ => (w.heap.size ≤ k_) ∧ k_ ≠ gb181 ∧ k_ ≠ g)) (okp := (fun k_ => (w.heap.size ≤ k_) ∧ k_ ≠ gb181 ∧ k_ ≠ g)) ?hr ?hp (fun _ hk => hk) ((show ∀ k_, w14.heap.size ≤ k_ → (fun k_ => (w.heap.size ≤ k_) ∧ k_ ≠ gb181 ∧ k_ ≠ g) k_ from fun k_ hk => ⟨(Nat.le_trans (keep_size (w := w) (g := g) (row := none) (y18 HK.out GW181.out)) hk), Kd.freshB (g := gb181) (o := .cells #[.slice none 0 0] 30 (0, 0)) (y0 BK181.out) k_ hk, IsS95.fresh (y24 HI0.out NB0_181.out) k_ hk⟩) _ (Nat.le_refl _)) (Below.refl _ _) (Nat.le_refl _) (by simp) ?_; (case hd => rfl); (case hg => rfl); (case hr => first | (go_simp; done) | (go_simp; rfl)); (case hp => exact (Reps.one (show Kd.FK k30 _ _ (⟨t184⟩ : S30) [.slice Ao15 t184.length co15] from (k30_mkF _ _ (⟨t184⟩ : S30) (Kd.N_reads' (Kd.N_mono (ok' := (fun k_ => (w.heap.size ≤ k_) ∧ k_ ≠ gb181 ∧ k_ ≠ g)) (HO186.out) (fun k_ hk => ⟨hk.1.1, ⟨hk.1.2.1, hk.1.2.2⟩⟩))).2.1 (Kd.N_F (Kd.N_mono (ok' := (fun k_ => (w.heap.size ≤ k_) ∧ k_ ≠ gb181 ∧ k_ ≠ g)) (HO186.out) (fun k_ hk => ⟨hk.1.1, ⟨hk.1.2.1, hk.1.2.2⟩⟩))))) (Reps.one (show Kd.FK k30 _ _ (⟨t188⟩ : S30) [.slice Ao16 t188.length co16] from (k30_mkF _ _ (⟨t188⟩ : S30) (Kd.N_reads' (Kd.N_mono (ok' := (fun k_ => (w.heap.size ≤ k_) ∧ k_ ≠ gb181 ∧ k_ ≠ g)) (HO190.out) (fun k_ hk => ⟨hk.1, ⟨hk.2.2.1, hk.2.2.2⟩⟩))).2.1 (Kd.N_F (Kd.N_mono (ok' := (fun k_ => (w.heap.size ≤ k_) ∧ k_ ≠ gb181 ∧ k_ ≠ g)) (HO190.out) (fun k_ hk => ⟨hk.1, ⟨hk.2.2.1, hk.2.2.2⟩⟩))))) (Reps.none _ _)))); intro v193 w17 ho18 hb hg_ hnew_; clear hg_ hnew_; (first | rw [← Ny192.out] at ho18 | (simp only [Int.reduceToNat] at ho18; rw [← Ny192.out] at ho18)); have HO194 := Aside0.mk (Kd.N_lower ho18 (keep_size (w := w) (g := g) (row := none) (y18 HK.out GW181.out))); replace BK181 := zbb BK181 hb; replace HK := Aside0.mk (KeepBut.trans (y18 HK.out GW181.out) (KeepBut.of_below hb g none) (.inl rfl)); replace HB := Aside0.mk (below_step (y23 HB.out HI0.out GE181.out) hb); replace HI0 := Aside0.mk (IsS95.below (y24 HI0.out NB0_181.out) hb); clear HO186 HO190; clear hb ho18; obtain ⟨Ao19, co19, eo19⟩ := Kd.N_slice HO194.out; subst eo19; have hnb20 := NB181_0.out; have hnc20 := NB0_181.out; have hcz21_0 := zh BK181; have hfz21_0 := zfr BK181 0))
    refine bodyPost_ret (results_cell_row rfl _ _ gb181 30 #[.slice Ao19 y192.length co19] (0, 0) _ rfl (by (with_reducible repeat (first | refine blk_drewN ?_ _ | refine blk_drew ?_ | refine blk_alloc ?_ _)); apply blk_put (i := 0); (case h => exact y0 BK181.out); (case e => rfl)) Try.underlying30 rfl (by kernel_rfl)) rfl ?_
    exact ⟨_, y14, (by (with_reducible repeat (first | apply Kd.N_alloc | apply Kd.N_drewN | apply Kd.N_drew)); exact Kd.N_mono (Kd.N_far (p := ⟨gb181, 0, none⟩) (Kd.N_mono HO194.out (fun k_ hk => (⟨hk, hk.2.1⟩ : _ ∧ k_ ≠ gb181))) (fun _ hk => hk.2) (.slice Ao19 y192.length co19)) (fun _ hk => hk.1.1)), (y24 HI0.out NB0_181.out), (y23 HB.out HI0.out GE181.out), (y18 HK.out GW181.out)⟩
end Go.Proofs.Ytjhbhihfifhljaa.PA
end
section
namespace Go.Proofs.Ytjhbhihfifhljaa.PA
open Go.RowKit Go.Proofs.YtjhbhihfifhljaaW.PrintWords Go.Proofs.YtjhbhihfifhljaaW.PrintLast Go.Proofs.YtjhbhihfifhljaaW.PrintMore
attribute [local go_sem] max2_int min2_int max_two min_two max_three min_three max_four min_four
set_option linter.unusedVariables false
set_option linter.unusedSimpArgs false
def spec_l6Open.f (l0 : List Int) : Option (List Int × Int) := if (l0.length : Int) > 2000 then (if 2000 ≤ (l0.length : Int) then (some (l0.take 2000, 0)) else (none)) else (some (l0, 0))
set_option maxHeartbeats 8000000 in
set_option maxRecDepth 100000 in
theorem spec_l6Open.calls (A0 : Option Addr) (c0 : Nat) (l0 : List Int) (r1 : List Int) (r2 : Int) (w0 w : World) (hB : Below w0.heap.size w0 w) (hr0 : Kd.C (Kd.int .u8) w0 A0 l0.length l0) (hc0 : l0.length ≤ c0) (h : spec_l6Open.f l0 = some (r1, r2)) :
  Calls Try.prog 52 #[.slice A0 l0.length c0] w fun e w' => ∃ g_ : Nat, e = .returned (.pointer (some ⟨g_, 0, none⟩)) ∧ IsS95 w0 w' g_ r1 r2 ∧ Below w0.heap.size w0 w' ∧ Below w.heap.size w w' := by
 have hu95 := Try.underlying95
 have HR0 := Aside0.mk hr0
 have HC0 := Aside0.mk hc0
 clear hr0 hc0
 have HBW := Aside0.mk (Below.refl w.heap.size w)
 have HW0 := Aside0.mk hB.size
 have HB := Aside0.mk hB
 clear hB
 have H : (if (l0.length : Int) > 2000 then (if 2000 ≤ (l0.length : Int) then (some (l0.take 2000, 0)) else (none)) else (some (l0, 0))) = some (r1, r2) := h
 clear h
 by_cases c2 : (l0.length : Int) > 2000
 ·rw [if_pos c2] at H
  have c2b0 : decide (2000 < (l0.length : Int)) = true := decide_eq_true c2
  have c2b1 : decide (2000 < l0.length) = true := decide_eq_true (by omega)
  clear c2
  by_cases c3 : 2000 ≤ (l0.length : Int)
  ·rw [if_pos c3] at H
   have c3b0 := eq_true c3
   have c3b1 : decide (2000 ≤ (l0.length : Int)) = true := decide_eq_true c3
   clear c3
   simp only [Option.some.injEq, Prod.mk.injEq] at H
   obtain ⟨rfl, rfl⟩ := H
   obtain ⟨i04, hi04, _, hsz4, _⟩ := info_parts info5
   obtain ⟨hcut4, hA4, hC4⟩ := print_take_of (P := Try.prog) (Value.int .u8) 0 34 5 .i64 Try.underlying34 hi04 hsz4 A0 c0 l0 2000 (by omega) (of_decide_eq_true y19) HC0.out
   have HR211 := Aside0.mk (Kd.C_of_reads (h1 := fun _ => rfl) (hA4 _ (Kd.reads_of_C HR0.out)))
   have HC211 := Aside0.mk hC4
   clear hA4 hC4 hi04 hsz4
   go_enter Try.func52, Try.ntmps52
   go_wp2_with (first | ((with_reducible refine gate_dst (N := 10) rfl ?_); refine zbx 10 #[.slice A0 (l0.take 2000).length c0, .int .i64 0] 95 ?_; intro gb212 hg w5 hbox hb; replace HB := Aside0.mk (below_step (y2 HB.out) hb); have BK212 := Aside0.mk hbox; have GW212 := Aside0.mk ((y5 hg HBW.out : w.heap.size ≤ gb212)); have GE212 := Aside0.mk ((Nat.le_trans HW0.out (y5 hg HBW.out : w.heap.size ≤ gb212) : w0.heap.size ≤ gb212)); replace HBW := Aside0.mk (below_step HBW.out hb); clear hb hbox hg))
   go_ret
   exact ⟨_, rfl, (show IsS95 w0 _ gb212 (l0.take 2000) 0 from ⟨_, _, (y0 BK212.out), GE212.out, HR211.out⟩), (y3 HB.out GE212.out), (y3 HBW.out GW212.out)⟩
  ·rw [if_neg c3] at H
   exact absurd H (by simp)
 ·rw [if_neg c2] at H
  have c2b0 : decide (2000 < (l0.length : Int)) = false := decide_eq_false c2
  have c2b1 : decide (2000 < l0.length) = false := decide_eq_false (by omega)
  clear c2
  simp only [Option.some.injEq, Prod.mk.injEq] at H
  obtain ⟨rfl, rfl⟩ := H
  go_enter Try.func52, Try.ntmps52
  go_wp2_with (first | ((with_reducible refine gate_dst (N := 10) rfl ?_); refine zbx 10 #[.slice A0 l0.length c0, .int .i64 0] 95 ?_; intro gb213 hg w6 hbox hb; replace HB := Aside0.mk (below_step (y2 HB.out) hb); have BK213 := Aside0.mk hbox; have GW213 := Aside0.mk ((y5 hg HBW.out : w.heap.size ≤ gb213)); have GE213 := Aside0.mk ((Nat.le_trans HW0.out (y5 hg HBW.out : w.heap.size ≤ gb213) : w0.heap.size ≤ gb213)); replace HBW := Aside0.mk (below_step HBW.out hb); clear hb hbox hg))
  go_ret
  exact ⟨_, rfl, (show IsS95 w0 _ gb213 l0 0 from ⟨_, _, (y0 BK213.out), GE213.out, HR0.out⟩), (y3 HB.out GE213.out), (y3 HBW.out GW213.out)⟩
end Go.Proofs.Ytjhbhihfifhljaa.PA
end
section
namespace Go.Proofs.Ytjhbhihfifhljaa.PA
open Go.RowKit Go.Proofs.YtjhbhihfifhljaaW.PrintWords Go.Proofs.YtjhbhihfifhljaaW.PrintLast Go.Proofs.YtjhbhihfifhljaaW.PrintMore
attribute [local go_sem] max2_int min2_int max_two min_two max_three min_three max_four min_four
set_option linter.unusedVariables false
set_option linter.unusedSimpArgs false
def spec_l71Val.f : Nat → List Int → Int → List (S30) → Option (Int × (List (S55)) × Int)
 | 0, _, _, _ => none
 | k + 1, s0_0, s0_1, l1_0 => if (l1_0.length : Int) = 0 then ((some (([0, 1, 2, 3, 7, 50, 9999] : List Int) : List Int)).bind fun y637 => ((spec_l6Rd_pick.f k s0_0 s0_1 7).bind fun bt640 => (if 0 ≤ bt640.1 then (if bt640.1 < (y637.length : Int) then (some (rd y637 bt640.1, ([] : List (S55)), bt640.2)) else (none)) else (none)))) else (if 0 < (l1_0.length : Int) then ((spec_l71Val.f k s0_0 s0_1 ((rd_T30 l1_0 0).f0)).bind fun bt644 => (if 1 < (l1_0.length : Int) then ((spec_l71Val.f k s0_0 bt644.2.2 ((rd_T30 l1_0 1).f0)).bind fun bt650 => (some (0, (([(⟨bt644.1, bt644.2.1⟩ : S55), (⟨bt650.1, bt650.2.1⟩ : S55)] : List (S55))), bt650.2.2))) else (none))) else (none))
theorem spec_l71Val.mono_l : ∀ k, (∀ y0 y1 y2, LeO (spec_l71Val.f k y0 y1 y2) (spec_l71Val.f (k + 1) y0 y1 y2))
 | 0 => fun _ _ _ r h => by simp [spec_l71Val.f] at h
 | k + 1 => by
  have ih0 := spec_l71Val.mono_l k
  ·intro y0 y1 y2
   unfold spec_l71Val.f
   repeat' first
   | (with_reducible exact ih0 _ _ _)
   | (with_reducible exact spec_l6Rd_pick.mono _ _ _ _)
   | (with_reducible exact LeO.refl _)
   | (with_reducible exact LeO.none _)
   | (with_reducible refine LeO.ite ?_ ?_)
   | (with_reducible refine LeO.bind ?_ (fun _ => ?_))
   | exact ih0 _ _ _
   | exact spec_l6Rd_pick.mono _ _ _ _
   | exact LeO.none _
   | refine LeO.ite ?_ ?_
   | refine LeO.bind ?_ (fun _ => ?_)
theorem spec_l71Val.mono : ∀ a0 a1 a2 k, LeO (spec_l71Val.f k a0 a1 a2) (spec_l71Val.f (k + 1) a0 a1 a2) := by
 intro a0 a1 a2 k
 have ih0 := spec_l71Val.mono_l k
 exact ih0 a0 a1 a2
def spec_l71Val.T3 : Bool × List (List Nat × List Nat) := (true, [([], []), ([], []), ([1], [1]), ([2], [2]), ([3], [3]), ([0, 4], [0, 4]), ([], []), ([], []), ([7], [7]), ([8], [8]), ([9], [9]), ([6, 10, 5], [6, 10]), ([5, 11], [5, 11]), ([12], [12]), ([13, 11, 0, 1, 2, 3, 4, 5, 6, 7, 8, 9, 10, 11, 12, 13], [13])])
def spec_l71Val.B3 : List Nat := [0, 0, 2, 6, 14, 31, 0, 0, 128, 384, 896, 2047, 4095, 8191, 16383]
theorem spec_l71Val.tab3 : rtab .any (opsOf Try.f87 3) = spec_l71Val.T3 := by kernel_rfl
theorem spec_l71Val.bits3 : waitsOk spec_l71Val.T3.2 spec_l71Val.B3 = true := by kernel_rfl
set_option maxHeartbeats 8000000 in
set_option maxRecDepth 100000 in
theorem spec_l71Val.calls (k : Nat) : ∀ (g : Nat) (s0_0 : List Int) (s0_1 : Int) (P1_0_ : Nat → Prop) (A1_0 : Option Addr) (c1_0 : Nat) (l1_0 : List (S30)) (r1 : Int) (r2 : List (S55)) (r3 : Int) (w0 w : World) (hI : IsS95 w0 w g s0_0 s0_1) (hB : Below w0.heap.size w0 w) (hs1_0 : Kd.V k30 30 w w.heap.size (fun k_ => P1_0_ k_ ∧ k_ ≠ g) (.slice A1_0 l1_0.length c1_0) l1_0) (h : spec_l71Val.f k s0_0 s0_1 l1_0 = some (r1, r2, r3)),
  Calls Try.prog 87 #[.pointer (some ⟨g, 0, none⟩), .agg #[.slice A1_0 l1_0.length c1_0]] w fun e w' => ∃ v1_ : Value, e = .returned (.agg #[.int .i64 r1, v1_]) ∧ Kd.N k55 55 w' w.heap.size (fun k_ => (P1_0_ k_ ∨ w.heap.size ≤ k_)) v1_ r2 ∧ IsS95 w0 w' g s0_0 r3 ∧ Below w0.heap.size w0 w' ∧ KeepBut w w' g none := by
 induction k using Nat.strongRecOn with
 | _ k ih =>
 intro g s0_0 s0_1 P1_0_ A1_0 c1_0 l1_0 r1 r2 r3 w0 w hI hB hs1_0 h
 cases k with
 | zero => exact absurd h (by simp [spec_l71Val.f])
 | succ k =>
 simp only [spec_l71Val.f] at h
 have hu30 := Try.underlying30
 have hu55 := Try.underlying55
 have HO1_0 := Aside0.mk (show Kd.V k30 30 w w.heap.size (fun k_ => (P1_0_ k_ ∨ w.heap.size ≤ k_) ∧ k_ ≠ g) (.slice A1_0 l1_0.length c1_0) l1_0 from Kd.V_mono hs1_0 (fun k_ hk => ⟨.inl hk.1, hk.2⟩))
 have HI0 := Aside0.mk hI
 have HK := Aside0.mk (KeepBut.refl w g none)
 have HL := Aside0.mk hB.size
 clear hI
 have HW0 := Aside0.mk hB.size
 have HB := Aside0.mk hB
 clear hB
 have H : (if (l1_0.length : Int) = 0 then ((some (([0, 1, 2, 3, 7, 50, 9999] : List Int) : List Int)).bind fun y637 => ((spec_l6Rd_pick.f k s0_0 s0_1 7).bind fun bt640 => (if 0 ≤ bt640.1 then (if bt640.1 < (y637.length : Int) then (some (rd y637 bt640.1, ([] : List (S55)), bt640.2)) else (none)) else (none)))) else (if 0 < (l1_0.length : Int) then ((spec_l71Val.f k s0_0 s0_1 ((rd_T30 l1_0 0).f0)).bind fun bt644 => (if 1 < (l1_0.length : Int) then ((spec_l71Val.f k s0_0 bt644.2.2 ((rd_T30 l1_0 1).f0)).bind fun bt650 => (some (0, (([(⟨bt644.1, bt644.2.1⟩ : S55), (⟨bt650.1, bt650.2.1⟩ : S55)] : List (S55))), bt650.2.2))) else (none))) else (none))) = some (r1, r2, r3) := h
 clear h
 by_cases c3 : (l1_0.length : Int) = 0
 ·rw [if_pos c3] at H
  have c3b0 : ((l1_0.length : Int) == 0) = true := beq_iff_eq.mpr c3
  have c3b1 : ((l1_0.length : Int) != 0) = false := bne_eq_false_iff_eq.mpr c3
  clear c3
  obtain ⟨y637, hy637⟩ : ∃ y_ : List Int, y_ = (([0, 1, 2, 3, 7, 50, 9999] : List Int)) := ⟨_, rfl⟩
  replace H : ((spec_l6Rd_pick.f k s0_0 s0_1 7).bind fun bt640 => (if 0 ≤ bt640.1 then (if bt640.1 < (y637.length : Int) then (some (rd y637 bt640.1, ([] : List (S55)), bt640.2)) else (none)) else (none))) = some (r1, r2, r3) := by first | (rw [hy637]; with_reducible exact H) | (have H2_ := (Option.bind_some _ _).symm.trans H; rw [hy637]; with_reducible exact H2_) | (have H2_ := (Option.bind_some _ _).symm.trans H; with_reducible exact H2_) | with_reducible exact H | (rw [hy637]; exact H) | exact H
  have Ny637 := Aside0.mk hy637
  clear hy637
  obtain ⟨⟨t640, t641⟩, A40, H⟩ := ob H
  have A4 := Aside0.mk A40
  clear A40
  by_cases c5 : 0 ≤ t640
  ·rw [if_pos c5] at H
   have c5b0 : decide (0 ≤ t640) = true := decide_eq_true c5
   clear c5
   by_cases c6 : t640 < (y637.length : Int)
   ·rw [if_pos c6] at H
    have c6b0 : decide (t640 < (y637.length : Int)) = true := decide_eq_true c6
    clear c6
    simp only [Option.some.injEq, Prod.mk.injEq] at H
    obtain ⟨rfl, rfl, rfl⟩ := H
    go_enter Try.func87, Try.ntmps87
    go_wp2_with (first | ((with_reducible refine gate_dst (N := 3) rfl ?_); refine zbx 3 #[.slice A1_0 l1_0.length c1_0] 30 ?_; intro gb635 hg w7 hbox hb; replace HO1_0 := Aside0.mk (Kd.V_below (Kd.V_elderB (y13 HO1_0.out) gb635 (Nat.le_of_eq hg.symm)) hb); replace HB := Aside0.mk (below_step (y33 HB.out HI0.out) hb); have BK635 := Aside0.mk hbox; have GW635 := Aside0.mk ((by rw [hg]; exact (keep_size (w := w) (g := g) (row := none) (y25 HK.out)) : w.heap.size ≤ gb635)); have GE635 := Aside0.mk ((Nat.le_trans HW0.out (by rw [hg]; exact (keep_size (w := w) (g := g) (row := none) (y25 HK.out)) : w.heap.size ≤ gb635) : w0.heap.size ≤ gb635)); replace HK := Aside0.mk (KeepBut.trans (y25 HK.out) (KeepBut.of_below hb g none) (.inl rfl)); have NB0_635 := Aside0.mk ((by rw [hg]; exact Nat.ne_of_lt (IsS95.lt (show IsS95 w0 _ g s0_0 s0_1 from by repeat (first | (with_reducible first | exact HI0.out | apply IsS95.alloc | apply IsS95.drewN | apply IsS95.drew | apply IsS95.set_1) | exact HI0.out))) : g ≠ gb635)); have NB635_0 := Aside0.mk ((by rw [hg]; exact Nat.ne_of_gt (IsS95.lt (show IsS95 w0 _ g s0_0 s0_1 from by repeat (first | (with_reducible first | exact HI0.out | apply IsS95.alloc | apply IsS95.drewN | apply IsS95.drew | apply IsS95.set_1) | exact HI0.out))) : gb635 ≠ g)); replace HI0 := Aside0.mk (IsS95.below (y35 HI0.out) hb); clear hb hbox hg) | ((with_reducible refine gate_dst (N := 4) rfl ?_); refine zbx 4 #[.int .i64 0, .slice none 0 0] 55 ?_; intro gb636 hg w8 hbox hb; replace HO1_0 := Aside0.mk (Kd.V_below (Kd.V_elderB (y13 HO1_0.out) gb636 (Nat.le_of_eq hg.symm)) hb); replace HB := Aside0.mk (below_step (y23 HB.out HI0.out GE635.out) hb); have BK636 := Aside0.mk hbox; have GW636 := Aside0.mk ((by rw [hg]; exact (keep_size (w := w) (g := g) (row := none) (y18 HK.out GW635.out)) : w.heap.size ≤ gb636)); have GE636 := Aside0.mk ((Nat.le_trans HW0.out (by rw [hg]; exact (keep_size (w := w) (g := g) (row := none) (y18 HK.out GW635.out)) : w.heap.size ≤ gb636) : w0.heap.size ≤ gb636)); replace HK := Aside0.mk (KeepBut.trans (y18 HK.out GW635.out) (KeepBut.of_below hb g none) (.inl rfl)); have NB635_636 := zltn hg BK635; have NB636_635 := zgtn hg BK635; replace BK635 := zbb BK635 hb; have NB0_636 := Aside0.mk ((by rw [hg]; exact Nat.ne_of_lt (IsS95.lt (show IsS95 w0 _ g s0_0 s0_1 from by repeat (first | (with_reducible first | exact HI0.out | apply IsS95.alloc | apply IsS95.drewN | apply IsS95.drew | apply IsS95.set_1 | refine IsS95.far ?_ NB0_635.out _) | exact HI0.out))) : g ≠ gb636)); have NB636_0 := Aside0.mk ((by rw [hg]; exact Nat.ne_of_gt (IsS95.lt (show IsS95 w0 _ g s0_0 s0_1 from by repeat (first | (with_reducible first | exact HI0.out | apply IsS95.alloc | apply IsS95.drewN | apply IsS95.drew | apply IsS95.set_1 | refine IsS95.far ?_ NB0_635.out _) | exact HI0.out))) : gb636 ≠ g)); replace HI0 := Aside0.mk (IsS95.below (y24 HI0.out NB0_635.out) hb); clear hb hbox hg; have hnb9 := NB635_636.out; have hnc9 := NB636_635.out; have hnb10 := NB635_0.out; have hnc10 := NB0_635.out; have hcz11_0 := zh BK635; have hfz11_0 := zfr BK635 0) | ((with_reducible refine gate_dst (N := 9) rfl ?_); refine Kd.R_lit (Kd.int .i64) _ 3 ?hg (N := 9) ?hd (xs := ([0, 1, 2, 3, 7, 50, 9999] : List Int)) (inner := [.int .i64 0, .int .i64 1, .int .i64 2, .int .i64 3, .int .i64 7, .int .i64 50, .int .i64 9999]) (ok := fun _ => True) (okp := fun _ => True) ?hr ?hp (fun _ hk => hk) trivial (Below.refl _ _) (Nat.le_refl _) (by simp) ?_; (case hd => rfl); (case hg => rfl); (case hr => first | (go_simp; done) | (go_simp; rfl)); (case hp => exact (Reps.one (show Kd.M (Kd.int .i64) _ _ _ 0 [.int .i64 0] from rfl) (Reps.one (show Kd.M (Kd.int .i64) _ _ _ 1 [.int .i64 1] from rfl) (Reps.one (show Kd.M (Kd.int .i64) _ _ _ 2 [.int .i64 2] from rfl) (Reps.one (show Kd.M (Kd.int .i64) _ _ _ 3 [.int .i64 3] from rfl) (Reps.one (show Kd.M (Kd.int .i64) _ _ _ 7 [.int .i64 7] from rfl) (Reps.one (show Kd.M (Kd.int .i64) _ _ _ 50 [.int .i64 50] from rfl) (Reps.one (show Kd.M (Kd.int .i64) _ _ _ 9999 [.int .i64 9999] from rfl) (Reps.none _ _))))))))); intro v638 w12 ho13 hb hg_ hnew_; clear hg_ hnew_; (first | rw [← Ny637.out] at ho13 | (simp only [Int.reduceToNat] at ho13; rw [← Ny637.out] at ho13)); replace HO1_0 := Aside0.mk (Kd.V_elder' (y13 HO1_0.out) (Kd.R_base ho13) hb); have HO639 := Aside0.mk (Kd.R_lower (Kd.R_newM (M := fun k_ => (w.heap.size ≤ k_)) ho13 (keep_size (w := w) (g := g) (row := none) (y11 HK.out GW635.out GW636.out)) (fun k_ h_ => h_)) (keep_size (w := w) (g := g) (row := none) (y11 HK.out GW635.out GW636.out))); replace BK635 := zbb BK635 hb; replace BK636 := zbb BK636 hb; replace HK := Aside0.mk (KeepBut.trans (y11 HK.out GW635.out GW636.out) (KeepBut.of_below hb g none) (.inl rfl)); replace HB := Aside0.mk (below_step (y12 HB.out HI0.out GE635.out GE636.out) hb); replace HI0 := Aside0.mk (IsS95.below (y15 HI0.out NB0_635.out NB0_636.out) hb); clear hb ho13) | ((with_reducible refine gate_callee (f := 58) rfl ?_); refine goesL_ (some 11) rfl rfl Try.func58 (by kernel_rfl) rfl #[.pointer (some ⟨g, 0, none⟩), .int .i64 7] rfl y4 ?_; (with_reducible refine (spec_l6Rd_pick.calls k g s0_0 s0_1 7 t640 t641 w0 _ ?side1 ?side2 A4.out).mono ?_); (case side1 => exact y15 HI0.out NB0_635.out NB0_636.out); (case side2 => exact y12 HB.out HI0.out GE635.out GE636.out); rintro e w14 ⟨rfl, hi, hb, hk⟩; refine ⟨_, rfl, ?_⟩; replace HO1_0 := Aside0.mk (Kd.V_mono (Kd.V_keep (Kd.V_mono (ok := fun k_ => ((((((P1_0_ k_ ∨ w.heap.size ≤ k_)) ∧ k_ ≠ g) ∧ k_ ≠ gb635) ∧ k_ ≠ gb636) ∧ some k_ ≠ (v638 : Value).ownBlock)) (y13 HO1_0.out) (fun k_ hk_ => (⟨hk_, hk_.1.1.1.2⟩ : _ ∧ k_ ≠ g))) hk (fun _ h => h.2)) (fun _ h => h.1)); replace BK635 := Aside0.mk (KeepBut.blk hk (g' := gb635) (o := .cells #[.slice A1_0 l1_0.length c1_0] 30 (0, 0)) (y0 BK635.out) NB635_0.out (by simp)); replace BK636 := Aside0.mk (KeepBut.blk hk (g' := gb636) (o := .cells #[.int .i64 0, .slice none 0 0] 55 (0, 0)) (y0 BK636.out) NB636_0.out (by simp)); replace HO639 := Aside0.mk (Kd.R_mono (Kd.R_keep (IsS95.apart (show IsS95 w0 _ g s0_0 s0_1 from by repeat (first | (with_reducible first | exact HI0.out | apply IsS95.alloc | apply IsS95.drewN | apply IsS95.drew | apply IsS95.set_1 | refine IsS95.far ?_ NB0_635.out _ | refine IsS95.far ?_ NB0_636.out _) | exact HI0.out)) (y10 HO639.out) (by decide)) hk (fun _ h => h.2)) (fun _ h => h.1)); replace HK := Aside0.mk (KeepBut.trans (y11 HK.out GW635.out GW636.out) hk (.inl rfl)); replace HB := Aside0.mk (hb); replace HI0 := Aside0.mk (hi); (try clear hb); (try clear hb2); (try clear hk); (try clear hi); obtain ⟨Ao15, co15, eo15⟩ := Kd.R_slice HO639.out; subst eo15; have p642 : 0 ≤ (t640 : Int) := of_decide_eq_true y19; have q642 : t640 < (y637.length : Int) := of_decide_eq_true y19; obtain ⟨ad642, e642, hx642_0⟩ := Kd.at_int (Kd.R_reads' HO639.out).2.2 t640 p642 q642; cases e642; replace p642 := eq_true p642; replace q642 := eq_true q642; have hnb16 := NB636_0.out; have hnc16 := NB0_636.out; have hcz17_0 := zh BK636; have hcz17_1 := zh1 BK636; have hfz17_0 := zfr BK636 0; have hfz17_1 := zfr BK636 1))
    refine bodyPost_ret (results_cell_row rfl _ _ gb636 55 #[.int .i64 (rd y637 t640), .slice none 0 0] (0, 0) _ rfl (by (with_reducible repeat (first | refine blk_drewN ?_ _ | refine blk_drew ?_ | refine blk_alloc ?_ _)); refine blk_put (cs := #[.int .i64 (rd y637 t640), .slice none 0 0]) ?_ 1 _ rfl; (with_reducible repeat (first | refine blk_drewN ?_ _ | refine blk_drew ?_ | refine blk_alloc ?_ _)); apply blk_put (i := 0); (case h => exact y0 BK636.out); (case e => rfl)) Try.underlying55 rfl (by kernel_rfl)) rfl ?_
    exact ⟨_, y14, y36, (y15 HI0.out NB0_635.out NB0_636.out), (y12 HB.out HI0.out GE635.out GE636.out), (y11 HK.out GW635.out GW636.out)⟩
   ·rw [if_neg c6] at H
    exact absurd H (by simp)
  ·rw [if_neg c5] at H
   exact absurd H (by simp)
 ·rw [if_neg c3] at H
  have c3b0 : ((l1_0.length : Int) == 0) = false := beq_eq_false_iff_ne.mpr c3
  have c3b1 : ((l1_0.length : Int) != 0) = true := bne_iff_ne.mpr c3
  have c3b2 : ¬ (l1_0 = []) := fun h_ => c3 (by rw [h_]; rfl)
  by_cases c18 : 0 < (l1_0.length : Int)
  ·rw [if_pos c18] at H
   have c18b0 : decide (0 < (l1_0.length : Int)) = true := decide_eq_true c18
   have c18b1 : decide (0 < l1_0.length) = true := decide_eq_true (by omega)
   clear c18
   obtain ⟨⟨t644, t645, t648⟩, A190, H⟩ := ob H
   have A19 := Aside0.mk A190
   clear A190
   by_cases c20 : 1 < (l1_0.length : Int)
   ·rw [if_pos c20] at H
    have c20b0 : decide (1 < (l1_0.length : Int)) = true := decide_eq_true c20
    have c20b1 : decide (1 < l1_0.length) = true := decide_eq_true (by omega)
    clear c20
    obtain ⟨⟨t650, t651, t654⟩, A210, H⟩ := ob H
    have A21 := Aside0.mk A210
    clear A210
    obtain ⟨y655, hy655⟩ : ∃ y_ : List (S55), y_ = (([(⟨t644, t645⟩ : S55), (⟨t650, t651⟩ : S55)] : List (S55))) := ⟨_, rfl⟩
    replace H : (some (0, y655, t654)) = some (r1, r2, r3) := by first | (rw [hy655]; with_reducible exact H) | (have H2_ := (Option.bind_some _ _).symm.trans H; rw [hy655]; with_reducible exact H2_) | (have H2_ := (Option.bind_some _ _).symm.trans H; with_reducible exact H2_) | with_reducible exact H | (rw [hy655]; exact H) | exact H
    have Ny655 := Aside0.mk hy655
    clear hy655
    simp only [Option.some.injEq, Prod.mk.injEq] at H
    obtain ⟨rfl, rfl, rfl⟩ := H
    go_enter Try.func87, Try.ntmps87
    try go_wp2_with (first | ((with_reducible refine gate_dst (N := 3) rfl ?_); refine zbx 3 #[.slice A1_0 l1_0.length c1_0] 30 ?_; intro gb635 hg w22 hbox hb; replace HO1_0 := Aside0.mk (Kd.V_below (Kd.V_elderB (y13 HO1_0.out) gb635 (Nat.le_of_eq hg.symm)) hb); replace HB := Aside0.mk (below_step (y33 HB.out HI0.out) hb); have BK635 := Aside0.mk hbox; have GW635 := Aside0.mk ((by rw [hg]; exact (keep_size (w := w) (g := g) (row := none) (y25 HK.out)) : w.heap.size ≤ gb635)); have GE635 := Aside0.mk ((Nat.le_trans HW0.out (by rw [hg]; exact (keep_size (w := w) (g := g) (row := none) (y25 HK.out)) : w.heap.size ≤ gb635) : w0.heap.size ≤ gb635)); replace HK := Aside0.mk (KeepBut.trans (y25 HK.out) (KeepBut.of_below hb g none) (.inl rfl)); have NB0_635 := Aside0.mk ((by rw [hg]; exact Nat.ne_of_lt (IsS95.lt (show IsS95 w0 _ g s0_0 s0_1 from by repeat (first | (with_reducible first | exact HI0.out | apply IsS95.alloc | apply IsS95.drewN | apply IsS95.drew | apply IsS95.set_1) | exact HI0.out))) : g ≠ gb635)); have NB635_0 := Aside0.mk ((by rw [hg]; exact Nat.ne_of_gt (IsS95.lt (show IsS95 w0 _ g s0_0 s0_1 from by repeat (first | (with_reducible first | exact HI0.out | apply IsS95.alloc | apply IsS95.drewN | apply IsS95.drew | apply IsS95.set_1) | exact HI0.out))) : gb635 ≠ g)); replace HI0 := Aside0.mk (IsS95.below (y35 HI0.out) hb); clear hb hbox hg) | ((with_reducible refine gate_dst (N := 4) rfl ?_); refine zbx 4 #[.int .i64 0, .slice none 0 0] 55 ?_; intro gb636 hg w23 hbox hb; replace HO1_0 := Aside0.mk (Kd.V_below (Kd.V_elderB (y13 HO1_0.out) gb636 (Nat.le_of_eq hg.symm)) hb); replace HB := Aside0.mk (below_step (y23 HB.out HI0.out GE635.out) hb); have BK636 := Aside0.mk hbox; have GW636 := Aside0.mk ((by rw [hg]; exact (keep_size (w := w) (g := g) (row := none) (y18 HK.out GW635.out)) : w.heap.size ≤ gb636)); have GE636 := Aside0.mk ((Nat.le_trans HW0.out (by rw [hg]; exact (keep_size (w := w) (g := g) (row := none) (y18 HK.out GW635.out)) : w.heap.size ≤ gb636) : w0.heap.size ≤ gb636)); replace HK := Aside0.mk (KeepBut.trans (y18 HK.out GW635.out) (KeepBut.of_below hb g none) (.inl rfl)); have NB635_636 := zltn hg BK635; have NB636_635 := zgtn hg BK635; replace BK635 := zbb BK635 hb; have NB0_636 := Aside0.mk ((by rw [hg]; exact Nat.ne_of_lt (IsS95.lt (show IsS95 w0 _ g s0_0 s0_1 from by repeat (first | (with_reducible first | exact HI0.out | apply IsS95.alloc | apply IsS95.drewN | apply IsS95.drew | apply IsS95.set_1 | refine IsS95.far ?_ NB0_635.out _) | exact HI0.out))) : g ≠ gb636)); have NB636_0 := Aside0.mk ((by rw [hg]; exact Nat.ne_of_gt (IsS95.lt (show IsS95 w0 _ g s0_0 s0_1 from by repeat (first | (with_reducible first | exact HI0.out | apply IsS95.alloc | apply IsS95.drewN | apply IsS95.drew | apply IsS95.set_1 | refine IsS95.far ?_ NB0_635.out _) | exact HI0.out))) : gb636 ≠ g)); replace HI0 := Aside0.mk (IsS95.below (y24 HI0.out NB0_635.out) hb); clear hb hbox hg; have hnb24 := NB635_636.out; have hnc24 := NB636_635.out; have hnb25 := NB635_0.out; have hnc25 := NB0_635.out; have hcz26_0 := zh BK635; have hfz26_0 := zfr BK635 0))
    replace HO1_0 := Aside0.mk (Kd.V_drew HO1_0.out)
    replace BK635 := Aside0.mk (blk_drew BK635.out)
    replace BK636 := Aside0.mk (blk_drew BK636.out)
    replace HI0 := Aside0.mk (IsS95.drew HI0.out)
    replace HK := Aside0.mk (keep_drew HK.out)
    replace HB := Aside0.mk (below_drew1 HB.out)
    have p643 : 0 ≤ (0 : Int) := (by omega)
    have q643 : 0 < (l1_0.length : Int) := of_decide_eq_true y19
    obtain ⟨ad643, A643_0, c643_0, e643, hx643_0, hl643_0, hi643_0⟩ := at_T30 (Kd.V_reads' HO1_0.out).2.2 0 p643 q643
    cases e643
    obtain ⟨ce643, hce643, hMe643, hcc643⟩ := Kd.V_get HO1_0.out z30 0 p643 (by first | exact q643 | exact of_decide_eq_true y19 | (have e_ := (Kd.V_reads' HO1_0.out).1; omega))
    obtain ⟨ua643_0, uc643_0, rfl, ul643_0, ge643_0⟩ := k30_openF hMe643
    have hv643_0 := hcc643 0 _ rfl
    rw [Nat.add_zero, show (k30).sz = 1 from rfl, Nat.mul_one] at hv643_0
    replace hv643_0 := Option.some.inj (hv643_0.symm.trans hx643_0)
    injection hv643_0 with hva_ hvn_ hvc_
    rw [hva_] at ge643_0
    rw [hvc_] at ul643_0
    have HL643_0 := Aside0.mk (show Kd.V k30 30 _ w.heap.size _ _ ((rd_T30 l1_0 0).f0) from Kd.V_mk ul643_0 ge643_0)
    clear hva_ hvn_ hvc_ ge643_0 ul643_0
    clear hcc643 hce643
    have qi643 : (0 < l1_0.length) = True := eq_true (by omega)
    (try rw [show ((0 : Int)).toNat = 0 from rfl] at hx643_0)
    (try rw [Addr.add_zero'] at hx643_0)
    have HR643_0 := Aside0.mk hi643_0
    have HC643_0 := Aside0.mk hl643_0
    clear hi643_0 hl643_0
    replace p643 := eq_true p643
    replace q643 := eq_true q643
    have p649 : 0 ≤ (1 : Int) := (by omega)
    have q649 : 1 < (l1_0.length : Int) := of_decide_eq_true y19
    obtain ⟨ad649, A649_0, c649_0, e649, hx649_0, hl649_0, hi649_0⟩ := at_T30 (Kd.V_reads' HO1_0.out).2.2 1 p649 q649
    obtain rfl : ad643 = ad649 := (by injection e649)
    obtain ⟨ce649, hce649, hMe649, hcc649⟩ := Kd.V_get HO1_0.out z30 1 p649 (by first | exact q649 | exact of_decide_eq_true y19 | (have e_ := (Kd.V_reads' HO1_0.out).1; omega))
    obtain ⟨ua649_0, uc649_0, rfl, ul649_0, ge649_0⟩ := k30_openF hMe649
    have hv649_0 := hcc649 0 _ rfl
    rw [Nat.add_zero, show (k30).sz = 1 from rfl, Nat.mul_one] at hv649_0
    replace hv649_0 := Option.some.inj (hv649_0.symm.trans hx649_0)
    injection hv649_0 with hva_ hvn_ hvc_
    rw [hva_] at ge649_0
    rw [hvc_] at ul649_0
    have HL649_0 := Aside0.mk (show Kd.V k30 30 _ w.heap.size _ _ ((rd_T30 l1_0 1).f0) from Kd.V_mk ul649_0 ge649_0)
    clear hva_ hvn_ hvc_ ge649_0 ul649_0
    clear hcc649 hce649
    (try simp only [show (1 : Int).toNat = 1 from rfl, Nat.reduceMul, Nat.reduceEqDiff, Go.Addr.add, ↓reduceIte] at hx649_0)
    have qi649 : (1 < l1_0.length) = True := eq_true (by omega)
    (try rw [show ((1 : Int)).toNat = 1 from rfl] at hx649_0)
    have HR649_0 := Aside0.mk hi649_0
    have HC649_0 := Aside0.mk hl649_0
    clear hi649_0 hl649_0
    replace p649 := eq_true p649
    replace q649 := eq_true q649
    refine start_ (n := 15) (S := fun w' => w'.cell? ⟨gb635, 0, none⟩ = some (.slice (some ad643) l1_0.length c1_0) ∧ w'.cell? ad643 = some (.slice A643_0 ((rd_T30 l1_0 0).f0).length c643_0) ∧ w'.cell? ⟨ad643.block, ad643.off + 1, none⟩ = some (.slice A649_0 ((rd_T30 l1_0 1).f0).length c649_0)) (ds := []) #[false, false, false, false, false, false, false, false, false, false, false, false, false, false, false] (by kernel_rfl) rfl rfl ⟨(blk_cell BK635.out 0).trans rfl, hx643_0, hx649_0⟩ (fun hHeld => ?_); refine with_tabW spec_l71Val.tab3 spec_l71Val.bits3 (fun HT_ HW_ => ?_)
    generalize w23.drew = w27 at HO1_0 BK635 BK636 HI0 HK HB HL643_0 HL649_0 HR643_0 HR649_0 hx643_0 hx649_0 hHeld ⊢
    refine zp 0 (some 15) HT_ ?_
    refine zp 1 (some 16) HT_ ?_
    refine zp 6 (some 21) HT_ ?_
    refine zp 7 (some 22) HT_ ?_
    refine zt3 2 (some 17) HT_ HW_ hHeld ?_
    refine zp 3 (some 18) HT_ ?_
    refine zt3 4 (some 19) HT_ HW_ hHeld ?_
    refine zt3 8 (some 23) HT_ HW_ hHeld ?_
    refine zp 9 (some 24) HT_ ?_
    refine zt3 10 (some 25) HT_ HW_ hHeld ?_
    refine one_ (i := 5) (N := some 20) #[true, true, true, true, true, true, true, true, true, true, true, false, false, false, false] rfl rfl (one_of HT_.out (by kernel_rfl)) (by decide) (fun K hK => ?_)
    refine goes_ Try.func87 (by kernel_rfl) rfl #[.pointer (some ⟨g, 0, none⟩), .agg #[.slice A643_0 ((rd_T30 l1_0 0).f0).length c643_0]] (by rfl) rfl rfl y4 ?_
    with_reducible refine (ih k (by omega) g s0_0 s0_1 (fun k_ => ((((P1_0_ k_ ∨ w.heap.size ≤ k_) ∧ k_ ≠ g) ∧ k_ ≠ gb635) ∧ k_ ≠ gb636)) _ _ ((rd_T30 l1_0 0).f0) t644 t645 t648 w0 _ ?side1 ?side2 ?side3 A19.out).mono ?_
    (case side1 => exact y15 HI0.out NB0_635.out NB0_636.out)
    (case side2 => exact y12 HB.out HI0.out GE635.out GE636.out)
    (case side3 => exact y80 HL643_0.out)
    rintro e w28 ⟨v646, rfl, ho0, hi, hb, hk⟩
    have HS1_ := keep_cell hk (hHeld.2.1) (by first | (rw [add_block]; exact (show _ from by have h_ := hf_V_in HO1_0.out (by have h0_ : (0 : Int) < (l1_0.length : Int) := (by first | exact of_eq_true (by assumption) | exact Int.lt_trans (by decide : (0 : Int) < 1) (of_eq_true (by assumption))); omega) (by decide); first | exact h_ | exact h_.1 | exact h_.2 | exact h_.1.1 | exact h_.1.2 | exact h_.2.1 | exact h_.2.2 | exact h_.1.1.1 | exact h_.1.1.2 | exact h_.1.2.1 | exact h_.1.2.2 | exact h_.2.1.1 | exact h_.2.1.2 | exact h_.2.2.1 | exact h_.2.2.2 | exact h_.1.1.1.1 | exact h_.1.1.1.2 | exact h_.1.1.2.1 | exact h_.1.1.2.2 | exact h_.1.2.1.1 | exact h_.1.2.1.2 | exact h_.1.2.2.1 | exact h_.1.2.2.2 | exact h_.2.1.1.1 | exact h_.2.1.1.2 | exact h_.2.1.2.1 | exact h_.2.1.2.2 | exact h_.2.2.1.1 | exact h_.2.2.1.2 | exact h_.2.2.2.1 | exact h_.2.2.2.2 | exact h_.1.1.1.1.1 | exact h_.1.1.1.1.2 | exact h_.1.1.1.2.1 | exact h_.1.1.1.2.2 | exact h_.1.1.2.1.1 | exact h_.1.1.2.1.2 | exact h_.1.1.2.2.1 | exact h_.1.1.2.2.2 | exact h_.1.2.1.1.1 | exact h_.1.2.1.1.2 | exact h_.1.2.1.2.1 | exact h_.1.2.1.2.2 | exact h_.1.2.2.1.1 | exact h_.1.2.2.1.2 | exact h_.1.2.2.2.1 | exact h_.1.2.2.2.2 | exact h_.2.1.1.1.1 | exact h_.2.1.1.1.2 | exact h_.2.1.1.2.1 | exact h_.2.1.1.2.2 | exact h_.2.1.2.1.1 | exact h_.2.1.2.1.2 | exact h_.2.1.2.2.1 | exact h_.2.1.2.2.2 | exact h_.2.2.1.1.1 | exact h_.2.2.1.1.2 | exact h_.2.2.1.2.1 | exact h_.2.2.1.2.2 | exact h_.2.2.2.1.1 | exact h_.2.2.2.1.2 | exact h_.2.2.2.2.1 | exact h_.2.2.2.2.2)) | (show (Addr.add _ _).block ≠ _; rw [add_block]; exact (show _ from by have h_ := hf_V_in HO1_0.out (by have h0_ : (0 : Int) < (l1_0.length : Int) := (by first | exact of_eq_true (by assumption) | exact Int.lt_trans (by decide : (0 : Int) < 1) (of_eq_true (by assumption))); omega) (by decide); first | exact h_ | exact h_.1 | exact h_.2 | exact h_.1.1 | exact h_.1.2 | exact h_.2.1 | exact h_.2.2 | exact h_.1.1.1 | exact h_.1.1.2 | exact h_.1.2.1 | exact h_.1.2.2 | exact h_.2.1.1 | exact h_.2.1.2 | exact h_.2.2.1 | exact h_.2.2.2 | exact h_.1.1.1.1 | exact h_.1.1.1.2 | exact h_.1.1.2.1 | exact h_.1.1.2.2 | exact h_.1.2.1.1 | exact h_.1.2.1.2 | exact h_.1.2.2.1 | exact h_.1.2.2.2 | exact h_.2.1.1.1 | exact h_.2.1.1.2 | exact h_.2.1.2.1 | exact h_.2.1.2.2 | exact h_.2.2.1.1 | exact h_.2.2.1.2 | exact h_.2.2.2.1 | exact h_.2.2.2.2 | exact h_.1.1.1.1.1 | exact h_.1.1.1.1.2 | exact h_.1.1.1.2.1 | exact h_.1.1.1.2.2 | exact h_.1.1.2.1.1 | exact h_.1.1.2.1.2 | exact h_.1.1.2.2.1 | exact h_.1.1.2.2.2 | exact h_.1.2.1.1.1 | exact h_.1.2.1.1.2 | exact h_.1.2.1.2.1 | exact h_.1.2.1.2.2 | exact h_.1.2.2.1.1 | exact h_.1.2.2.1.2 | exact h_.1.2.2.2.1 | exact h_.1.2.2.2.2 | exact h_.2.1.1.1.1 | exact h_.2.1.1.1.2 | exact h_.2.1.1.2.1 | exact h_.2.1.1.2.2 | exact h_.2.1.2.1.1 | exact h_.2.1.2.1.2 | exact h_.2.1.2.2.1 | exact h_.2.1.2.2.2 | exact h_.2.2.1.1.1 | exact h_.2.2.1.1.2 | exact h_.2.2.1.2.1 | exact h_.2.2.1.2.2 | exact h_.2.2.2.1.1 | exact h_.2.2.2.1.2 | exact h_.2.2.2.2.1 | exact h_.2.2.2.2.2)) | exact (show _ from by have h_ := hf_V_in HO1_0.out (by have h0_ : (0 : Int) < (l1_0.length : Int) := (by first | exact of_eq_true (by assumption) | exact Int.lt_trans (by decide : (0 : Int) < 1) (of_eq_true (by assumption))); omega) (by decide); first | exact h_ | exact h_.1 | exact h_.2 | exact h_.1.1 | exact h_.1.2 | exact h_.2.1 | exact h_.2.2 | exact h_.1.1.1 | exact h_.1.1.2 | exact h_.1.2.1 | exact h_.1.2.2 | exact h_.2.1.1 | exact h_.2.1.2 | exact h_.2.2.1 | exact h_.2.2.2 | exact h_.1.1.1.1 | exact h_.1.1.1.2 | exact h_.1.1.2.1 | exact h_.1.1.2.2 | exact h_.1.2.1.1 | exact h_.1.2.1.2 | exact h_.1.2.2.1 | exact h_.1.2.2.2 | exact h_.2.1.1.1 | exact h_.2.1.1.2 | exact h_.2.1.2.1 | exact h_.2.1.2.2 | exact h_.2.2.1.1 | exact h_.2.2.1.2 | exact h_.2.2.2.1 | exact h_.2.2.2.2 | exact h_.1.1.1.1.1 | exact h_.1.1.1.1.2 | exact h_.1.1.1.2.1 | exact h_.1.1.1.2.2 | exact h_.1.1.2.1.1 | exact h_.1.1.2.1.2 | exact h_.1.1.2.2.1 | exact h_.1.1.2.2.2 | exact h_.1.2.1.1.1 | exact h_.1.2.1.1.2 | exact h_.1.2.1.2.1 | exact h_.1.2.1.2.2 | exact h_.1.2.2.1.1 | exact h_.1.2.2.1.2 | exact h_.1.2.2.2.1 | exact h_.1.2.2.2.2 | exact h_.2.1.1.1.1 | exact h_.2.1.1.1.2 | exact h_.2.1.1.2.1 | exact h_.2.1.1.2.2 | exact h_.2.1.2.1.1 | exact h_.2.1.2.1.2 | exact h_.2.1.2.2.1 | exact h_.2.1.2.2.2 | exact h_.2.2.1.1.1 | exact h_.2.2.1.1.2 | exact h_.2.2.1.2.1 | exact h_.2.2.1.2.2 | exact h_.2.2.2.1.1 | exact h_.2.2.2.1.2 | exact h_.2.2.2.2.1 | exact h_.2.2.2.2.2))
    have HS2_ := keep_cell hk (hHeld.2.2) (by first | (rw [add_block]; exact (show _ from by have h_ := hf_V_in HO1_0.out (by have h0_ : (0 : Int) < (l1_0.length : Int) := (by first | exact of_eq_true (by assumption) | exact Int.lt_trans (by decide : (0 : Int) < 1) (of_eq_true (by assumption))); omega) (by decide); first | exact h_ | exact h_.1 | exact h_.2 | exact h_.1.1 | exact h_.1.2 | exact h_.2.1 | exact h_.2.2 | exact h_.1.1.1 | exact h_.1.1.2 | exact h_.1.2.1 | exact h_.1.2.2 | exact h_.2.1.1 | exact h_.2.1.2 | exact h_.2.2.1 | exact h_.2.2.2 | exact h_.1.1.1.1 | exact h_.1.1.1.2 | exact h_.1.1.2.1 | exact h_.1.1.2.2 | exact h_.1.2.1.1 | exact h_.1.2.1.2 | exact h_.1.2.2.1 | exact h_.1.2.2.2 | exact h_.2.1.1.1 | exact h_.2.1.1.2 | exact h_.2.1.2.1 | exact h_.2.1.2.2 | exact h_.2.2.1.1 | exact h_.2.2.1.2 | exact h_.2.2.2.1 | exact h_.2.2.2.2 | exact h_.1.1.1.1.1 | exact h_.1.1.1.1.2 | exact h_.1.1.1.2.1 | exact h_.1.1.1.2.2 | exact h_.1.1.2.1.1 | exact h_.1.1.2.1.2 | exact h_.1.1.2.2.1 | exact h_.1.1.2.2.2 | exact h_.1.2.1.1.1 | exact h_.1.2.1.1.2 | exact h_.1.2.1.2.1 | exact h_.1.2.1.2.2 | exact h_.1.2.2.1.1 | exact h_.1.2.2.1.2 | exact h_.1.2.2.2.1 | exact h_.1.2.2.2.2 | exact h_.2.1.1.1.1 | exact h_.2.1.1.1.2 | exact h_.2.1.1.2.1 | exact h_.2.1.1.2.2 | exact h_.2.1.2.1.1 | exact h_.2.1.2.1.2 | exact h_.2.1.2.2.1 | exact h_.2.1.2.2.2 | exact h_.2.2.1.1.1 | exact h_.2.2.1.1.2 | exact h_.2.2.1.2.1 | exact h_.2.2.1.2.2 | exact h_.2.2.2.1.1 | exact h_.2.2.2.1.2 | exact h_.2.2.2.2.1 | exact h_.2.2.2.2.2)) | (show (Addr.add _ _).block ≠ _; rw [add_block]; exact (show _ from by have h_ := hf_V_in HO1_0.out (by have h0_ : (0 : Int) < (l1_0.length : Int) := (by first | exact of_eq_true (by assumption) | exact Int.lt_trans (by decide : (0 : Int) < 1) (of_eq_true (by assumption))); omega) (by decide); first | exact h_ | exact h_.1 | exact h_.2 | exact h_.1.1 | exact h_.1.2 | exact h_.2.1 | exact h_.2.2 | exact h_.1.1.1 | exact h_.1.1.2 | exact h_.1.2.1 | exact h_.1.2.2 | exact h_.2.1.1 | exact h_.2.1.2 | exact h_.2.2.1 | exact h_.2.2.2 | exact h_.1.1.1.1 | exact h_.1.1.1.2 | exact h_.1.1.2.1 | exact h_.1.1.2.2 | exact h_.1.2.1.1 | exact h_.1.2.1.2 | exact h_.1.2.2.1 | exact h_.1.2.2.2 | exact h_.2.1.1.1 | exact h_.2.1.1.2 | exact h_.2.1.2.1 | exact h_.2.1.2.2 | exact h_.2.2.1.1 | exact h_.2.2.1.2 | exact h_.2.2.2.1 | exact h_.2.2.2.2 | exact h_.1.1.1.1.1 | exact h_.1.1.1.1.2 | exact h_.1.1.1.2.1 | exact h_.1.1.1.2.2 | exact h_.1.1.2.1.1 | exact h_.1.1.2.1.2 | exact h_.1.1.2.2.1 | exact h_.1.1.2.2.2 | exact h_.1.2.1.1.1 | exact h_.1.2.1.1.2 | exact h_.1.2.1.2.1 | exact h_.1.2.1.2.2 | exact h_.1.2.2.1.1 | exact h_.1.2.2.1.2 | exact h_.1.2.2.2.1 | exact h_.1.2.2.2.2 | exact h_.2.1.1.1.1 | exact h_.2.1.1.1.2 | exact h_.2.1.1.2.1 | exact h_.2.1.1.2.2 | exact h_.2.1.2.1.1 | exact h_.2.1.2.1.2 | exact h_.2.1.2.2.1 | exact h_.2.1.2.2.2 | exact h_.2.2.1.1.1 | exact h_.2.2.1.1.2 | exact h_.2.2.1.2.1 | exact h_.2.2.1.2.2 | exact h_.2.2.2.1.1 | exact h_.2.2.2.1.2 | exact h_.2.2.2.2.1 | exact h_.2.2.2.2.2)) | exact (show _ from by have h_ := hf_V_in HO1_0.out (by have h0_ : (0 : Int) < (l1_0.length : Int) := (by first | exact of_eq_true (by assumption) | exact Int.lt_trans (by decide : (0 : Int) < 1) (of_eq_true (by assumption))); omega) (by decide); first | exact h_ | exact h_.1 | exact h_.2 | exact h_.1.1 | exact h_.1.2 | exact h_.2.1 | exact h_.2.2 | exact h_.1.1.1 | exact h_.1.1.2 | exact h_.1.2.1 | exact h_.1.2.2 | exact h_.2.1.1 | exact h_.2.1.2 | exact h_.2.2.1 | exact h_.2.2.2 | exact h_.1.1.1.1 | exact h_.1.1.1.2 | exact h_.1.1.2.1 | exact h_.1.1.2.2 | exact h_.1.2.1.1 | exact h_.1.2.1.2 | exact h_.1.2.2.1 | exact h_.1.2.2.2 | exact h_.2.1.1.1 | exact h_.2.1.1.2 | exact h_.2.1.2.1 | exact h_.2.1.2.2 | exact h_.2.2.1.1 | exact h_.2.2.1.2 | exact h_.2.2.2.1 | exact h_.2.2.2.2 | exact h_.1.1.1.1.1 | exact h_.1.1.1.1.2 | exact h_.1.1.1.2.1 | exact h_.1.1.1.2.2 | exact h_.1.1.2.1.1 | exact h_.1.1.2.1.2 | exact h_.1.1.2.2.1 | exact h_.1.1.2.2.2 | exact h_.1.2.1.1.1 | exact h_.1.2.1.1.2 | exact h_.1.2.1.2.1 | exact h_.1.2.1.2.2 | exact h_.1.2.2.1.1 | exact h_.1.2.2.1.2 | exact h_.1.2.2.2.1 | exact h_.1.2.2.2.2 | exact h_.2.1.1.1.1 | exact h_.2.1.1.1.2 | exact h_.2.1.1.2.1 | exact h_.2.1.1.2.2 | exact h_.2.1.2.1.1 | exact h_.2.1.2.1.2 | exact h_.2.1.2.2.1 | exact h_.2.1.2.2.2 | exact h_.2.2.1.1.1 | exact h_.2.2.1.1.2 | exact h_.2.2.1.2.1 | exact h_.2.2.1.2.2 | exact h_.2.2.2.1.1 | exact h_.2.2.2.1.2 | exact h_.2.2.2.2.1 | exact h_.2.2.2.2.2))
    refine ⟨_, rfl, ?_⟩
    replace HO1_0 := Aside0.mk (Kd.V_mono (Kd.V_told (Kd.V_oldK (Kd.V_mono (ok := fun k_ => (((((P1_0_ k_ ∨ w.heap.size ≤ k_)) ∧ k_ ≠ g) ∧ k_ ≠ gb635) ∧ k_ ≠ gb636)) (y13 HO1_0.out) (fun k_ hk_ => (⟨hk_, hk_.1.1.2⟩ : _ ∧ k_ ≠ g))) hk) (Kd.N_base ho0)) (fun _ h_ => h_.1))
    replace HL643_0 := Aside0.mk (Kd.V_mono (Kd.V_told (Kd.V_oldK (Kd.V_mono (ok := fun k_ => (((((P1_0_ k_ ∨ w.heap.size ≤ k_)) ∧ k_ ≠ g) ∧ k_ ≠ gb635) ∧ k_ ≠ gb636)) (y13 HL643_0.out) (fun k_ hk_ => (⟨hk_, hk_.1.1.2⟩ : _ ∧ k_ ≠ g))) hk) (Kd.N_base ho0)) (fun _ h_ => h_.1))
    replace HL649_0 := Aside0.mk (Kd.V_mono (Kd.V_told (Kd.V_oldK (Kd.V_mono (ok := fun k_ => (((((P1_0_ k_ ∨ w.heap.size ≤ k_)) ∧ k_ ≠ g) ∧ k_ ≠ gb635) ∧ k_ ≠ gb636)) (y13 HL649_0.out) (fun k_ hk_ => (⟨hk_, hk_.1.1.2⟩ : _ ∧ k_ ≠ g))) hk) (Kd.N_base ho0)) (fun _ h_ => h_.1))
    have HO647 := Aside0.mk (Kd.N_lower (Kd.N_mono (ok' := fun k_ => (P1_0_ k_ ∨ w.heap.size ≤ k_) ∧ k_ ≠ gb635 ∧ k_ ≠ gb636 ∧ k_ ≠ g) ho0 (fun k_ hk_ => ⟨Or.elim hk_ (fun hs_ => hs_.1.1.1) (fun hn_ => (.inr (Nat.le_trans (keep_size (w := w) (g := g) (row := none) (y11 HK.out GW635.out GW636.out)) hn_))), Or.elim hk_ (fun hs_ => hs_.1.2) (fun hn_ => (Kd.freshB (g := gb635) (o := .cells #[.slice (some ad643) l1_0.length c1_0] 30 (0, 0)) (y0 BK635.out) k_ hn_)), Or.elim hk_ (fun hs_ => hs_.2) (fun hn_ => (Kd.freshB (g := gb636) (o := .cells #[.int .i64 0, .slice none 0 0] 55 (0, 0)) (y0 BK636.out) k_ hn_)), Or.elim hk_ (fun hs_ => hs_.1.1.2) (fun hn_ => (IsS95.fresh (y15 HI0.out NB0_635.out NB0_636.out) k_ hn_))⟩)) (keep_size (w := w) (g := g) (row := none) (y11 HK.out GW635.out GW636.out)))
    replace BK635 := Aside0.mk (KeepBut.blk hk (g' := gb635) (o := .cells #[.slice (some ad643) l1_0.length c1_0] 30 (0, 0)) (y0 BK635.out) NB635_0.out (by simp))
    replace BK636 := Aside0.mk (KeepBut.blk hk (g' := gb636) (o := .cells #[.int .i64 0, .slice none 0 0] 55 (0, 0)) (y0 BK636.out) NB636_0.out (by simp))
    replace HK := Aside0.mk (KeepBut.trans (y11 HK.out GW635.out GW636.out) hk (.inl rfl))
    replace HB := Aside0.mk (hb)
    replace HI0 := Aside0.mk (hi)
    (try clear hb)
    (try clear hb2)
    (try clear hk)
    (try clear hi)
    (try clear ho0)
    refine hK.out _ _ ⟨(blk_cell BK635.out 0).trans rfl, HS1_, HS2_⟩ (fun hHeld => ?_)
    clear hK K
    refine norm_ (a' := ?_) ?_ ?_
    rotate_left
    ·show Act.put _ (some 20) _ = _
     simp only [Act.put, List.setIfInBounds_toArray, List.set_cons_zero, List.set_cons_succ, i64_w, i32_w]
     rfl
    refine one_ (i := 11) (N := some 26) #[true, true, true, true, true, true, true, true, true, true, true, true, false, false, false] rfl rfl (one_of HT_.out (by kernel_rfl)) (by decide) (fun K hK => ?_)
    refine goes_ Try.func87 (by kernel_rfl) rfl #[.pointer (some ⟨g, 0, none⟩), .agg #[.slice A649_0 ((rd_T30 l1_0 1).f0).length c649_0]] (by rfl) rfl rfl y4 ?_
    with_reducible refine (ih k (by omega) g s0_0 t648 (fun k_ => (((((P1_0_ k_ ∨ w.heap.size ≤ k_) ∧ k_ ≠ g) ∧ k_ ≠ gb635) ∧ k_ ≠ gb636) ∧ some k_ ≠ (v646 : Value).ownBlock)) _ _ ((rd_T30 l1_0 1).f0) t650 t651 t654 w0 _ ?side1 ?side2 ?side3 A21.out).mono ?_
    (case side1 => exact y15 HI0.out NB0_635.out NB0_636.out)
    (case side2 => exact y12 HB.out HI0.out GE635.out GE636.out)
    (case side3 => exact Kd.V_mono (HL649_0.out) (fun k_ hk_ => ⟨hk_, hk_.1.1.1.2⟩))
    rintro e w29 ⟨v652, rfl, ho0, hi, hb, hk⟩
    have HS1_ := keep_cell hk (hHeld.2.1) (by first | (rw [add_block]; exact (show _ from by have h_ := hf_V_in HO1_0.out (by have h0_ : (0 : Int) < (l1_0.length : Int) := (by first | exact of_eq_true (by assumption) | exact Int.lt_trans (by decide : (0 : Int) < 1) (of_eq_true (by assumption))); omega) (by decide); first | exact h_ | exact h_.1 | exact h_.2 | exact h_.1.1 | exact h_.1.2 | exact h_.2.1 | exact h_.2.2 | exact h_.1.1.1 | exact h_.1.1.2 | exact h_.1.2.1 | exact h_.1.2.2 | exact h_.2.1.1 | exact h_.2.1.2 | exact h_.2.2.1 | exact h_.2.2.2 | exact h_.1.1.1.1 | exact h_.1.1.1.2 | exact h_.1.1.2.1 | exact h_.1.1.2.2 | exact h_.1.2.1.1 | exact h_.1.2.1.2 | exact h_.1.2.2.1 | exact h_.1.2.2.2 | exact h_.2.1.1.1 | exact h_.2.1.1.2 | exact h_.2.1.2.1 | exact h_.2.1.2.2 | exact h_.2.2.1.1 | exact h_.2.2.1.2 | exact h_.2.2.2.1 | exact h_.2.2.2.2 | exact h_.1.1.1.1.1 | exact h_.1.1.1.1.2 | exact h_.1.1.1.2.1 | exact h_.1.1.1.2.2 | exact h_.1.1.2.1.1 | exact h_.1.1.2.1.2 | exact h_.1.1.2.2.1 | exact h_.1.1.2.2.2 | exact h_.1.2.1.1.1 | exact h_.1.2.1.1.2 | exact h_.1.2.1.2.1 | exact h_.1.2.1.2.2 | exact h_.1.2.2.1.1 | exact h_.1.2.2.1.2 | exact h_.1.2.2.2.1 | exact h_.1.2.2.2.2 | exact h_.2.1.1.1.1 | exact h_.2.1.1.1.2 | exact h_.2.1.1.2.1 | exact h_.2.1.1.2.2 | exact h_.2.1.2.1.1 | exact h_.2.1.2.1.2 | exact h_.2.1.2.2.1 | exact h_.2.1.2.2.2 | exact h_.2.2.1.1.1 | exact h_.2.2.1.1.2 | exact h_.2.2.1.2.1 | exact h_.2.2.1.2.2 | exact h_.2.2.2.1.1 | exact h_.2.2.2.1.2 | exact h_.2.2.2.2.1 | exact h_.2.2.2.2.2)) | (show (Addr.add _ _).block ≠ _; rw [add_block]; exact (show _ from by have h_ := hf_V_in HO1_0.out (by have h0_ : (0 : Int) < (l1_0.length : Int) := (by first | exact of_eq_true (by assumption) | exact Int.lt_trans (by decide : (0 : Int) < 1) (of_eq_true (by assumption))); omega) (by decide); first | exact h_ | exact h_.1 | exact h_.2 | exact h_.1.1 | exact h_.1.2 | exact h_.2.1 | exact h_.2.2 | exact h_.1.1.1 | exact h_.1.1.2 | exact h_.1.2.1 | exact h_.1.2.2 | exact h_.2.1.1 | exact h_.2.1.2 | exact h_.2.2.1 | exact h_.2.2.2 | exact h_.1.1.1.1 | exact h_.1.1.1.2 | exact h_.1.1.2.1 | exact h_.1.1.2.2 | exact h_.1.2.1.1 | exact h_.1.2.1.2 | exact h_.1.2.2.1 | exact h_.1.2.2.2 | exact h_.2.1.1.1 | exact h_.2.1.1.2 | exact h_.2.1.2.1 | exact h_.2.1.2.2 | exact h_.2.2.1.1 | exact h_.2.2.1.2 | exact h_.2.2.2.1 | exact h_.2.2.2.2 | exact h_.1.1.1.1.1 | exact h_.1.1.1.1.2 | exact h_.1.1.1.2.1 | exact h_.1.1.1.2.2 | exact h_.1.1.2.1.1 | exact h_.1.1.2.1.2 | exact h_.1.1.2.2.1 | exact h_.1.1.2.2.2 | exact h_.1.2.1.1.1 | exact h_.1.2.1.1.2 | exact h_.1.2.1.2.1 | exact h_.1.2.1.2.2 | exact h_.1.2.2.1.1 | exact h_.1.2.2.1.2 | exact h_.1.2.2.2.1 | exact h_.1.2.2.2.2 | exact h_.2.1.1.1.1 | exact h_.2.1.1.1.2 | exact h_.2.1.1.2.1 | exact h_.2.1.1.2.2 | exact h_.2.1.2.1.1 | exact h_.2.1.2.1.2 | exact h_.2.1.2.2.1 | exact h_.2.1.2.2.2 | exact h_.2.2.1.1.1 | exact h_.2.2.1.1.2 | exact h_.2.2.1.2.1 | exact h_.2.2.1.2.2 | exact h_.2.2.2.1.1 | exact h_.2.2.2.1.2 | exact h_.2.2.2.2.1 | exact h_.2.2.2.2.2)) | exact (show _ from by have h_ := hf_V_in HO1_0.out (by have h0_ : (0 : Int) < (l1_0.length : Int) := (by first | exact of_eq_true (by assumption) | exact Int.lt_trans (by decide : (0 : Int) < 1) (of_eq_true (by assumption))); omega) (by decide); first | exact h_ | exact h_.1 | exact h_.2 | exact h_.1.1 | exact h_.1.2 | exact h_.2.1 | exact h_.2.2 | exact h_.1.1.1 | exact h_.1.1.2 | exact h_.1.2.1 | exact h_.1.2.2 | exact h_.2.1.1 | exact h_.2.1.2 | exact h_.2.2.1 | exact h_.2.2.2 | exact h_.1.1.1.1 | exact h_.1.1.1.2 | exact h_.1.1.2.1 | exact h_.1.1.2.2 | exact h_.1.2.1.1 | exact h_.1.2.1.2 | exact h_.1.2.2.1 | exact h_.1.2.2.2 | exact h_.2.1.1.1 | exact h_.2.1.1.2 | exact h_.2.1.2.1 | exact h_.2.1.2.2 | exact h_.2.2.1.1 | exact h_.2.2.1.2 | exact h_.2.2.2.1 | exact h_.2.2.2.2 | exact h_.1.1.1.1.1 | exact h_.1.1.1.1.2 | exact h_.1.1.1.2.1 | exact h_.1.1.1.2.2 | exact h_.1.1.2.1.1 | exact h_.1.1.2.1.2 | exact h_.1.1.2.2.1 | exact h_.1.1.2.2.2 | exact h_.1.2.1.1.1 | exact h_.1.2.1.1.2 | exact h_.1.2.1.2.1 | exact h_.1.2.1.2.2 | exact h_.1.2.2.1.1 | exact h_.1.2.2.1.2 | exact h_.1.2.2.2.1 | exact h_.1.2.2.2.2 | exact h_.2.1.1.1.1 | exact h_.2.1.1.1.2 | exact h_.2.1.1.2.1 | exact h_.2.1.1.2.2 | exact h_.2.1.2.1.1 | exact h_.2.1.2.1.2 | exact h_.2.1.2.2.1 | exact h_.2.1.2.2.2 | exact h_.2.2.1.1.1 | exact h_.2.2.1.1.2 | exact h_.2.2.1.2.1 | exact h_.2.2.1.2.2 | exact h_.2.2.2.1.1 | exact h_.2.2.2.1.2 | exact h_.2.2.2.2.1 | exact h_.2.2.2.2.2))
    have HS2_ := keep_cell hk (hHeld.2.2) (by first | (rw [add_block]; exact (show _ from by have h_ := hf_V_in HO1_0.out (by have h0_ : (0 : Int) < (l1_0.length : Int) := (by first | exact of_eq_true (by assumption) | exact Int.lt_trans (by decide : (0 : Int) < 1) (of_eq_true (by assumption))); omega) (by decide); first | exact h_ | exact h_.1 | exact h_.2 | exact h_.1.1 | exact h_.1.2 | exact h_.2.1 | exact h_.2.2 | exact h_.1.1.1 | exact h_.1.1.2 | exact h_.1.2.1 | exact h_.1.2.2 | exact h_.2.1.1 | exact h_.2.1.2 | exact h_.2.2.1 | exact h_.2.2.2 | exact h_.1.1.1.1 | exact h_.1.1.1.2 | exact h_.1.1.2.1 | exact h_.1.1.2.2 | exact h_.1.2.1.1 | exact h_.1.2.1.2 | exact h_.1.2.2.1 | exact h_.1.2.2.2 | exact h_.2.1.1.1 | exact h_.2.1.1.2 | exact h_.2.1.2.1 | exact h_.2.1.2.2 | exact h_.2.2.1.1 | exact h_.2.2.1.2 | exact h_.2.2.2.1 | exact h_.2.2.2.2 | exact h_.1.1.1.1.1 | exact h_.1.1.1.1.2 | exact h_.1.1.1.2.1 | exact h_.1.1.1.2.2 | exact h_.1.1.2.1.1 | exact h_.1.1.2.1.2 | exact h_.1.1.2.2.1 | exact h_.1.1.2.2.2 | exact h_.1.2.1.1.1 | exact h_.1.2.1.1.2 | exact h_.1.2.1.2.1 | exact h_.1.2.1.2.2 | exact h_.1.2.2.1.1 | exact h_.1.2.2.1.2 | exact h_.1.2.2.2.1 | exact h_.1.2.2.2.2 | exact h_.2.1.1.1.1 | exact h_.2.1.1.1.2 | exact h_.2.1.1.2.1 | exact h_.2.1.1.2.2 | exact h_.2.1.2.1.1 | exact h_.2.1.2.1.2 | exact h_.2.1.2.2.1 | exact h_.2.1.2.2.2 | exact h_.2.2.1.1.1 | exact h_.2.2.1.1.2 | exact h_.2.2.1.2.1 | exact h_.2.2.1.2.2 | exact h_.2.2.2.1.1 | exact h_.2.2.2.1.2 | exact h_.2.2.2.2.1 | exact h_.2.2.2.2.2)) | (show (Addr.add _ _).block ≠ _; rw [add_block]; exact (show _ from by have h_ := hf_V_in HO1_0.out (by have h0_ : (0 : Int) < (l1_0.length : Int) := (by first | exact of_eq_true (by assumption) | exact Int.lt_trans (by decide : (0 : Int) < 1) (of_eq_true (by assumption))); omega) (by decide); first | exact h_ | exact h_.1 | exact h_.2 | exact h_.1.1 | exact h_.1.2 | exact h_.2.1 | exact h_.2.2 | exact h_.1.1.1 | exact h_.1.1.2 | exact h_.1.2.1 | exact h_.1.2.2 | exact h_.2.1.1 | exact h_.2.1.2 | exact h_.2.2.1 | exact h_.2.2.2 | exact h_.1.1.1.1 | exact h_.1.1.1.2 | exact h_.1.1.2.1 | exact h_.1.1.2.2 | exact h_.1.2.1.1 | exact h_.1.2.1.2 | exact h_.1.2.2.1 | exact h_.1.2.2.2 | exact h_.2.1.1.1 | exact h_.2.1.1.2 | exact h_.2.1.2.1 | exact h_.2.1.2.2 | exact h_.2.2.1.1 | exact h_.2.2.1.2 | exact h_.2.2.2.1 | exact h_.2.2.2.2 | exact h_.1.1.1.1.1 | exact h_.1.1.1.1.2 | exact h_.1.1.1.2.1 | exact h_.1.1.1.2.2 | exact h_.1.1.2.1.1 | exact h_.1.1.2.1.2 | exact h_.1.1.2.2.1 | exact h_.1.1.2.2.2 | exact h_.1.2.1.1.1 | exact h_.1.2.1.1.2 | exact h_.1.2.1.2.1 | exact h_.1.2.1.2.2 | exact h_.1.2.2.1.1 | exact h_.1.2.2.1.2 | exact h_.1.2.2.2.1 | exact h_.1.2.2.2.2 | exact h_.2.1.1.1.1 | exact h_.2.1.1.1.2 | exact h_.2.1.1.2.1 | exact h_.2.1.1.2.2 | exact h_.2.1.2.1.1 | exact h_.2.1.2.1.2 | exact h_.2.1.2.2.1 | exact h_.2.1.2.2.2 | exact h_.2.2.1.1.1 | exact h_.2.2.1.1.2 | exact h_.2.2.1.2.1 | exact h_.2.2.1.2.2 | exact h_.2.2.2.1.1 | exact h_.2.2.2.1.2 | exact h_.2.2.2.2.1 | exact h_.2.2.2.2.2)) | exact (show _ from by have h_ := hf_V_in HO1_0.out (by have h0_ : (0 : Int) < (l1_0.length : Int) := (by first | exact of_eq_true (by assumption) | exact Int.lt_trans (by decide : (0 : Int) < 1) (of_eq_true (by assumption))); omega) (by decide); first | exact h_ | exact h_.1 | exact h_.2 | exact h_.1.1 | exact h_.1.2 | exact h_.2.1 | exact h_.2.2 | exact h_.1.1.1 | exact h_.1.1.2 | exact h_.1.2.1 | exact h_.1.2.2 | exact h_.2.1.1 | exact h_.2.1.2 | exact h_.2.2.1 | exact h_.2.2.2 | exact h_.1.1.1.1 | exact h_.1.1.1.2 | exact h_.1.1.2.1 | exact h_.1.1.2.2 | exact h_.1.2.1.1 | exact h_.1.2.1.2 | exact h_.1.2.2.1 | exact h_.1.2.2.2 | exact h_.2.1.1.1 | exact h_.2.1.1.2 | exact h_.2.1.2.1 | exact h_.2.1.2.2 | exact h_.2.2.1.1 | exact h_.2.2.1.2 | exact h_.2.2.2.1 | exact h_.2.2.2.2 | exact h_.1.1.1.1.1 | exact h_.1.1.1.1.2 | exact h_.1.1.1.2.1 | exact h_.1.1.1.2.2 | exact h_.1.1.2.1.1 | exact h_.1.1.2.1.2 | exact h_.1.1.2.2.1 | exact h_.1.1.2.2.2 | exact h_.1.2.1.1.1 | exact h_.1.2.1.1.2 | exact h_.1.2.1.2.1 | exact h_.1.2.1.2.2 | exact h_.1.2.2.1.1 | exact h_.1.2.2.1.2 | exact h_.1.2.2.2.1 | exact h_.1.2.2.2.2 | exact h_.2.1.1.1.1 | exact h_.2.1.1.1.2 | exact h_.2.1.1.2.1 | exact h_.2.1.1.2.2 | exact h_.2.1.2.1.1 | exact h_.2.1.2.1.2 | exact h_.2.1.2.2.1 | exact h_.2.1.2.2.2 | exact h_.2.2.1.1.1 | exact h_.2.2.1.1.2 | exact h_.2.2.1.2.1 | exact h_.2.2.1.2.2 | exact h_.2.2.2.1.1 | exact h_.2.2.2.1.2 | exact h_.2.2.2.2.1 | exact h_.2.2.2.2.2))
    refine ⟨_, rfl, ?_⟩
    replace HO1_0 := Aside0.mk (Kd.V_mono (Kd.V_told (Kd.V_oldK (Kd.V_mono (ok := fun k_ => ((((((P1_0_ k_ ∨ w.heap.size ≤ k_)) ∧ k_ ≠ g) ∧ k_ ≠ gb635) ∧ k_ ≠ gb636) ∧ some k_ ≠ (v646 : Value).ownBlock)) (y13 HO1_0.out) (fun k_ hk_ => (⟨hk_, hk_.1.1.1.2⟩ : _ ∧ k_ ≠ g))) hk) (Kd.N_base ho0)) (fun _ h_ => h_.1))
    replace HL643_0 := Aside0.mk (Kd.V_mono (Kd.V_told (Kd.V_oldK (Kd.V_mono (ok := fun k_ => ((((((P1_0_ k_ ∨ w.heap.size ≤ k_)) ∧ k_ ≠ g) ∧ k_ ≠ gb635) ∧ k_ ≠ gb636) ∧ some k_ ≠ (v646 : Value).ownBlock)) (y13 HL643_0.out) (fun k_ hk_ => (⟨hk_, hk_.1.1.1.2⟩ : _ ∧ k_ ≠ g))) hk) (Kd.N_base ho0)) (fun _ h_ => h_.1))
    replace HL649_0 := Aside0.mk (Kd.V_mono (Kd.V_told (Kd.V_oldK (Kd.V_mono (ok := fun k_ => ((((((P1_0_ k_ ∨ w.heap.size ≤ k_)) ∧ k_ ≠ g) ∧ k_ ≠ gb635) ∧ k_ ≠ gb636) ∧ some k_ ≠ (v646 : Value).ownBlock)) (y13 HL649_0.out) (fun k_ hk_ => (⟨hk_, hk_.1.1.1.2⟩ : _ ∧ k_ ≠ g))) hk) (Kd.N_base ho0)) (fun _ h_ => h_.1))
    have HO653 := Aside0.mk (Kd.N_lower (Kd.N_mono (ok' := fun k_ => (P1_0_ k_ ∨ w.heap.size ≤ k_) ∧ some k_ ≠ (v646 : Value).ownBlock ∧ k_ ≠ gb635 ∧ k_ ≠ gb636 ∧ k_ ≠ g) ho0 (fun k_ hk_ => ⟨Or.elim hk_ (fun hs_ => hs_.1.1.1.1) (fun hn_ => (.inr (Nat.le_trans (keep_size (w := w) (g := g) (row := none) (y11 HK.out GW635.out GW636.out)) hn_))), Or.elim hk_ (fun hs_ => hs_.2) (fun hn_ => (Kd.fresh' (Kd.N_lt (y9 HO647.out)) k_ hn_)), Or.elim hk_ (fun hs_ => hs_.1.1.2) (fun hn_ => (Kd.freshB (g := gb635) (o := .cells #[.slice (some ad643) l1_0.length c1_0] 30 (0, 0)) (y0 BK635.out) k_ hn_)), Or.elim hk_ (fun hs_ => hs_.1.2) (fun hn_ => (Kd.freshB (g := gb636) (o := .cells #[.int .i64 0, .slice none 0 0] 55 (0, 0)) (y0 BK636.out) k_ hn_)), Or.elim hk_ (fun hs_ => hs_.1.1.1.2) (fun hn_ => (IsS95.fresh (y15 HI0.out NB0_635.out NB0_636.out) k_ hn_))⟩)) (keep_size (w := w) (g := g) (row := none) (y11 HK.out GW635.out GW636.out)))
    replace BK635 := Aside0.mk (KeepBut.blk hk (g' := gb635) (o := .cells #[.slice (some ad643) l1_0.length c1_0] 30 (0, 0)) (y0 BK635.out) NB635_0.out (by simp))
    replace BK636 := Aside0.mk (KeepBut.blk hk (g' := gb636) (o := .cells #[.int .i64 0, .slice none 0 0] 55 (0, 0)) (y0 BK636.out) NB636_0.out (by simp))
    replace HO647 := Aside0.mk (Kd.N_mono (Kd.N_told (Kd.N_oldK (Kd.N_mono (ok := fun k_ => (((P1_0_ k_ ∨ w.heap.size ≤ k_)) ∧ (k_ ≠ gb635 ∧ (k_ ≠ gb636 ∧ k_ ≠ g)))) (y9 HO647.out) (fun k_ hk_ => (⟨hk_, hk_.2.2.2⟩ : _ ∧ k_ ≠ g))) hk) (Kd.N_base ho0)) (fun _ h_ => h_.1))
    replace HK := Aside0.mk (KeepBut.trans (y11 HK.out GW635.out GW636.out) hk (.inl rfl))
    replace HB := Aside0.mk (hb)
    replace HI0 := Aside0.mk (hi)
    (try clear hb)
    (try clear hb2)
    (try clear hk)
    (try clear hi)
    (try clear ho0)
    obtain ⟨Ao30, co30, eo30⟩ := Kd.N_slice HO647.out
    (first | subst eo30 | (injection eo30 with f1_ f2_ f3_; have f4_ := f1_.symm; have f5_ := f3_.symm; clear f1_ f2_ f3_; subst f4_; subst f5_))
    obtain ⟨Ao31, co31, eo31⟩ := Kd.N_slice HO653.out
    (first | subst eo31 | (injection eo31 with f1_ f2_ f3_; have f4_ := f1_.symm; have f5_ := f3_.symm; clear f1_ f2_ f3_; subst f4_; subst f5_))
    refine hK.out _ _ ⟨(blk_cell BK635.out 0).trans rfl, HS1_, HS2_⟩ (fun hHeld => ?_)
    clear hK K
    refine norm_ (a' := ?_) ?_ ?_
    rotate_left
    ·show Act.put _ (some 26) _ = _
     simp only [Act.put, List.setIfInBounds_toArray, List.set_cons_zero, List.set_cons_succ, i64_w, i32_w]
     rfl
    refine one_ (i := 12) (N := some 27) #[true, true, true, true, true, true, true, true, true, true, true, true, true, false, false] rfl rfl (one_of HT_.out (by kernel_rfl)) (by decide) (fun K hK => ?_)
    refine Kd.N_lit_step k55 _ 55 ?hg (N' := 27) ?hd (xs := ([(⟨t644, t645⟩ : S55), (⟨t650, t651⟩ : S55)] : List (S55))) (inner := [.int .i64 t644, .slice Ao30 t645.length co30, .int .i64 t650, .slice Ao31 t651.length co31]) (ok := (fun k_ => (P1_0_ k_ ∨ w.heap.size ≤ k_) ∧ k_ ≠ gb635 ∧ k_ ≠ gb636 ∧ k_ ≠ g)) (okp := (fun k_ => (P1_0_ k_ ∨ w.heap.size ≤ k_) ∧ k_ ≠ gb635 ∧ k_ ≠ gb636 ∧ k_ ≠ g)) ?hr ?hp (fun _ hk => hk) ((show ∀ k_, w29.heap.size ≤ k_ → (fun k_ => (P1_0_ k_ ∨ w.heap.size ≤ k_) ∧ k_ ≠ gb635 ∧ k_ ≠ gb636 ∧ k_ ≠ g) k_ from fun k_ hk => ⟨(.inr (Nat.le_trans (keep_size (w := w) (g := g) (row := none) (y11 HK.out GW635.out GW636.out)) hk)), Kd.freshB (g := gb635) (o := .cells #[.slice (some ad643) l1_0.length c1_0] 30 (0, 0)) (y0 BK635.out) k_ hk, Kd.freshB (g := gb636) (o := .cells #[.int .i64 0, .slice none 0 0] 55 (0, 0)) (y0 BK636.out) k_ hk, IsS95.fresh (y15 HI0.out NB0_635.out NB0_636.out) k_ hk⟩) _ (Nat.le_refl _)) (Below.refl _ _) (Nat.le_refl _) (by simp) ?_; (case hd => rfl); (case hg => rfl); (case hr => first | (go_simp; done) | (go_simp; rfl)); (case hp => exact (Reps.c2 (show Kd.FK k55 _ _ (⟨t644, t645⟩ : S55) [.int .i64 t644, .slice Ao30 t645.length co30] from (k55_mkF _ _ (⟨t644, t645⟩ : S55) (Kd.N_reads' (Kd.N_mono (ok' := (fun k_ => (P1_0_ k_ ∨ w.heap.size ≤ k_) ∧ k_ ≠ gb635 ∧ k_ ≠ gb636 ∧ k_ ≠ g)) (HO647.out) (fun k_ hk => ⟨hk.1.1, ⟨hk.1.2.1, ⟨hk.1.2.2.1, hk.1.2.2.2⟩⟩⟩))).2.1 (Kd.N_F (Kd.N_mono (ok' := (fun k_ => (P1_0_ k_ ∨ w.heap.size ≤ k_) ∧ k_ ≠ gb635 ∧ k_ ≠ gb636 ∧ k_ ≠ g)) (HO647.out) (fun k_ hk => ⟨hk.1.1, ⟨hk.1.2.1, ⟨hk.1.2.2.1, hk.1.2.2.2⟩⟩⟩))))) (Reps.c2 (show Kd.FK k55 _ _ (⟨t650, t651⟩ : S55) [.int .i64 t650, .slice Ao31 t651.length co31] from (k55_mkF _ _ (⟨t650, t651⟩ : S55) (Kd.N_reads' (Kd.N_mono (ok' := (fun k_ => (P1_0_ k_ ∨ w.heap.size ≤ k_) ∧ k_ ≠ gb635 ∧ k_ ≠ gb636 ∧ k_ ≠ g)) (HO653.out) (fun k_ hk => ⟨hk.1, ⟨hk.2.2.1, ⟨hk.2.2.2.1, hk.2.2.2.2⟩⟩⟩))).2.1 (Kd.N_F (Kd.N_mono (ok' := (fun k_ => (P1_0_ k_ ∨ w.heap.size ≤ k_) ∧ k_ ≠ gb635 ∧ k_ ≠ gb636 ∧ k_ ≠ g)) (HO653.out) (fun k_ hk => ⟨hk.1, ⟨hk.2.2.1, ⟨hk.2.2.2.1, hk.2.2.2.2⟩⟩⟩))))) (Reps.none _ _))))
    intro v656 w32 ho33 hb hg_ hnew_
    have HS1_ := (hb.cell (World.block_lt_of_cell? _ _ (hHeld.2.1))).trans (hHeld.2.1)
    have HS2_ := (hb.cell (World.block_lt_of_cell? _ _ (hHeld.2.2))).trans (hHeld.2.2)
    clear hg_ hnew_
    (first | rw [← Ny655.out] at ho33 | (simp only [Int.reduceToNat] at ho33; rw [← Ny655.out] at ho33))
    replace HO1_0 := Aside0.mk (Kd.V_elder' (y13 HO1_0.out) (Kd.N_base ho33) hb)
    replace HL643_0 := Aside0.mk (Kd.V_elder' (y13 HL643_0.out) (Kd.N_base ho33) hb)
    replace HL649_0 := Aside0.mk (Kd.V_elder' (y13 HL649_0.out) (Kd.N_base ho33) hb)
    have HO657 := Aside0.mk (Kd.N_lower ho33 (keep_size (w := w) (g := g) (row := none) (y11 HK.out GW635.out GW636.out)))
    replace BK635 := zbb BK635 hb
    replace BK636 := zbb BK636 hb
    replace HK := Aside0.mk (KeepBut.trans (y11 HK.out GW635.out GW636.out) (KeepBut.of_below hb g none) (.inl rfl))
    replace HB := Aside0.mk (below_step (y12 HB.out HI0.out GE635.out GE636.out) hb)
    replace HI0 := Aside0.mk (IsS95.below (y15 HI0.out NB0_635.out NB0_636.out) hb)
    clear HO647 HO653
    clear hb ho33
    obtain ⟨Ao34, co34, eo34⟩ := Kd.N_slice HO657.out
    (first | subst eo34 | (injection eo34 with f1_ f2_ f3_; have f4_ := f1_.symm; have f5_ := f3_.symm; clear f1_ f2_ f3_; subst f4_; subst f5_))
    refine hK.out _ _ ⟨(blk_cell BK635.out 0).trans rfl, HS1_, HS2_⟩ (fun hHeld => ?_)
    clear hK K
    refine norm_ (a' := ?_) ?_ ?_
    rotate_left
    ·show Act.put _ (some 27) _ = _
     simp only [Act.put, List.setIfInBounds_toArray, List.set_cons_zero, List.set_cons_succ, i64_w, i32_w]
     rfl
    refine zp 13 (some 28) HT_ ?_
    refine one_ (i := 14) (N := none) #[true, true, true, true, true, true, true, true, true, true, true, true, true, true, true] rfl rfl (one_of HT_.out (by kernel_rfl)) (by decide) (fun K hK => ?_)
    have hs35 : w32.cell? ⟨gb636, 0, none⟩ = some (.int .i64 0) := (blk_cell BK636.out 0).trans rfl
    have hfs35 := zfr BK636 0
    have hns35_0 := NB635_636.out
    have hms35_0 := NB636_635.out
    have hs36 : w32.cell? ⟨gb636, 1, none⟩ = some (.slice none 0 0) := (blk_cell BK636.out 1).trans rfl
    have hfs36 := zfr BK636 1
    have hns36_0 := NB635_636.out
    have hms36_0 := NB636_635.out
    refine skip_ (w1 := ?_) (by rfl) rfl ?_ ?_
    rotate_left
    ·go_simp
     rfl
    refine hK.out _ _ ⟨((cell_far (p := ⟨gb636, _, none⟩) NB635_636.out _).trans (((cell_far (p := ⟨gb636, _, none⟩) NB635_636.out _).trans (hHeld.1)))), ((cell_far (p := ⟨gb636, _, none⟩) (by first | exact (hf_V_away HO1_0.out (by first | exact Int.ofNat_lt.1 (of_eq_true (by assumption)) | exact Int.ofNat_lt.1 (Int.lt_trans (by decide : (0 : Int) < 1) (of_eq_true (by assumption)))) (by decide) (fun _ hk => hk.1.1.1.2)) | (rw [add_block]; exact (hf_V_away HO1_0.out (by first | exact Int.ofNat_lt.1 (of_eq_true (by assumption)) | exact Int.ofNat_lt.1 (Int.lt_trans (by decide : (0 : Int) < 1) (of_eq_true (by assumption)))) (by decide) (fun _ hk => hk.1.1.1.2))) | (show (Addr.add _ _).block ≠ _; rw [add_block]; exact (hf_V_away HO1_0.out (by first | exact Int.ofNat_lt.1 (of_eq_true (by assumption)) | exact Int.ofNat_lt.1 (Int.lt_trans (by decide : (0 : Int) < 1) (of_eq_true (by assumption)))) (by decide) (fun _ hk => hk.1.1.1.2))) | (dsimp only; exact (hf_V_away HO1_0.out (by first | exact Int.ofNat_lt.1 (of_eq_true (by assumption)) | exact Int.ofNat_lt.1 (Int.lt_trans (by decide : (0 : Int) < 1) (of_eq_true (by assumption)))) (by decide) (fun _ hk => hk.1.1.1.2)))) _).trans (((cell_far (p := ⟨gb636, _, none⟩) (by first | exact (hf_V_away HO1_0.out (by first | exact Int.ofNat_lt.1 (of_eq_true (by assumption)) | exact Int.ofNat_lt.1 (Int.lt_trans (by decide : (0 : Int) < 1) (of_eq_true (by assumption)))) (by decide) (fun _ hk => hk.1.1.1.2)) | (rw [add_block]; exact (hf_V_away HO1_0.out (by first | exact Int.ofNat_lt.1 (of_eq_true (by assumption)) | exact Int.ofNat_lt.1 (Int.lt_trans (by decide : (0 : Int) < 1) (of_eq_true (by assumption)))) (by decide) (fun _ hk => hk.1.1.1.2))) | (show (Addr.add _ _).block ≠ _; rw [add_block]; exact (hf_V_away HO1_0.out (by first | exact Int.ofNat_lt.1 (of_eq_true (by assumption)) | exact Int.ofNat_lt.1 (Int.lt_trans (by decide : (0 : Int) < 1) (of_eq_true (by assumption)))) (by decide) (fun _ hk => hk.1.1.1.2))) | (dsimp only; exact (hf_V_away HO1_0.out (by first | exact Int.ofNat_lt.1 (of_eq_true (by assumption)) | exact Int.ofNat_lt.1 (Int.lt_trans (by decide : (0 : Int) < 1) (of_eq_true (by assumption)))) (by decide) (fun _ hk => hk.1.1.1.2)))) _).trans (hHeld.2.1)))), ((cell_far (p := ⟨gb636, _, none⟩) (by first | exact (hf_V_away HO1_0.out (by first | exact Int.ofNat_lt.1 (of_eq_true (by assumption)) | exact Int.ofNat_lt.1 (Int.lt_trans (by decide : (0 : Int) < 1) (of_eq_true (by assumption)))) (by decide) (fun _ hk => hk.1.1.1.2)) | (rw [add_block]; exact (hf_V_away HO1_0.out (by first | exact Int.ofNat_lt.1 (of_eq_true (by assumption)) | exact Int.ofNat_lt.1 (Int.lt_trans (by decide : (0 : Int) < 1) (of_eq_true (by assumption)))) (by decide) (fun _ hk => hk.1.1.1.2))) | (show (Addr.add _ _).block ≠ _; rw [add_block]; exact (hf_V_away HO1_0.out (by first | exact Int.ofNat_lt.1 (of_eq_true (by assumption)) | exact Int.ofNat_lt.1 (Int.lt_trans (by decide : (0 : Int) < 1) (of_eq_true (by assumption)))) (by decide) (fun _ hk => hk.1.1.1.2))) | (dsimp only; exact (hf_V_away HO1_0.out (by first | exact Int.ofNat_lt.1 (of_eq_true (by assumption)) | exact Int.ofNat_lt.1 (Int.lt_trans (by decide : (0 : Int) < 1) (of_eq_true (by assumption)))) (by decide) (fun _ hk => hk.1.1.1.2)))) _).trans (((cell_far (p := ⟨gb636, _, none⟩) (by first | exact (hf_V_away HO1_0.out (by first | exact Int.ofNat_lt.1 (of_eq_true (by assumption)) | exact Int.ofNat_lt.1 (Int.lt_trans (by decide : (0 : Int) < 1) (of_eq_true (by assumption)))) (by decide) (fun _ hk => hk.1.1.1.2)) | (rw [add_block]; exact (hf_V_away HO1_0.out (by first | exact Int.ofNat_lt.1 (of_eq_true (by assumption)) | exact Int.ofNat_lt.1 (Int.lt_trans (by decide : (0 : Int) < 1) (of_eq_true (by assumption)))) (by decide) (fun _ hk => hk.1.1.1.2))) | (show (Addr.add _ _).block ≠ _; rw [add_block]; exact (hf_V_away HO1_0.out (by first | exact Int.ofNat_lt.1 (of_eq_true (by assumption)) | exact Int.ofNat_lt.1 (Int.lt_trans (by decide : (0 : Int) < 1) (of_eq_true (by assumption)))) (by decide) (fun _ hk => hk.1.1.1.2))) | (dsimp only; exact (hf_V_away HO1_0.out (by first | exact Int.ofNat_lt.1 (of_eq_true (by assumption)) | exact Int.ofNat_lt.1 (Int.lt_trans (by decide : (0 : Int) < 1) (of_eq_true (by assumption)))) (by decide) (fun _ hk => hk.1.1.1.2)))) _).trans (hHeld.2.2))))⟩ (fun hHeld => ?_)
    clear hK K
    refine done_ (done_of HT_.out (by kernel_rfl)) ?_
    try go_wp2
    refine bodyPost_ret (results_cell_row rfl _ _ gb636 55 #[.int .i64 0, .slice Ao34 y655.length co34] (0, 0) _ rfl (by (with_reducible repeat (first | refine blk_drewN ?_ _ | refine blk_drew ?_ | refine blk_alloc ?_ _)); refine blk_put (cs := #[.int .i64 0, .slice none 0 0]) ?_ 1 _ rfl; (with_reducible repeat (first | refine blk_drewN ?_ _ | refine blk_drew ?_ | refine blk_alloc ?_ _)); apply blk_put (i := 0); (case h => exact y0 BK636.out); (case e => rfl)) Try.underlying55 rfl (by kernel_rfl)) rfl ?_
    exact ⟨_, y14, (by (with_reducible repeat (first | apply Kd.N_alloc | apply Kd.N_drewN | apply Kd.N_drew)); exact Kd.N_mono (Kd.N_far (p := ⟨gb636, 1, none⟩) (Kd.N_far (p := ⟨gb636, 0, none⟩) (Kd.N_mono HO657.out (fun k_ hk => (⟨hk, hk.2.2.1⟩ : _ ∧ k_ ≠ gb636))) (fun _ hk => hk.2) (.int .i64 0)) (fun _ hk => hk.2) (.slice Ao34 y655.length co34)) (fun _ hk => hk.1.1)), (y15 HI0.out NB0_635.out NB0_636.out), (y12 HB.out HI0.out GE635.out GE636.out), (y11 HK.out GW635.out GW636.out)⟩
   ·rw [if_neg c20] at H
    exact absurd H (by simp)
  ·rw [if_neg c18] at H
   exact absurd H (by simp)
end Go.Proofs.Ytjhbhihfifhljaa.PA
end
section
namespace Go.Proofs.Ytjhbhihfifhljaa.PA
open Go.RowKit Go.Proofs.YtjhbhihfifhljaaW.PrintWords Go.Proofs.YtjhbhihfifhljaaW.PrintLast Go.Proofs.YtjhbhihfifhljaaW.PrintMore
attribute [local go_sem] max2_int min2_int max_two min_two max_three min_three max_four min_four
set_option linter.unusedVariables false
set_option linter.unusedSimpArgs false
def spec_l71Bad.l0 : Nat → Int → List Int → Int → Int → List (S55) → Option (Int × (List (S55)) × Int)
 | 0, _, _, _, _, _ => none
 | k + 1, x6, x1000, x1001, x666000, x666001 => if x6 < 5 then (spec_l71Bad.l0 k (wrap64 (x6 + 1)) x1000 x1001 0 (([(⟨x666000, x666001⟩ : S55), (⟨0, ([] : List (S55))⟩ : S55)] : List (S55)))) else (some (x666000, x666001, x1001))
def spec_l71Bad.f (k : Nat) (s0_0 : List Int) (s0_1 : Int) (l1_0 : List (S30)) : Option (Int × (List (S55)) × Int) := (spec_l71Val.f k s0_0 s0_1 l1_0).bind fun bt660 => ((spec_l6Rd_pick.f k s0_0 bt660.2.2 12).bind fun bt666 => (if bt666.1 = 0 then ((some (([(-1), 1, 9999, 10000] : List Int) : List Int)).bind fun y668 => ((spec_l6Rd_pick.f k s0_0 bt666.2 4).bind fun bt671 => (if 0 ≤ bt671.1 then (if bt671.1 < (y668.length : Int) then (some (rd y668 bt671.1, bt660.2.1, bt671.2)) else (none)) else (none)))) else (if bt666.1 = 1 then (if bt660.2.1.length < 4398046511104 then (some (bt660.1, (bt660.2.1 ++ [(⟨0, ([] : List (S55))⟩ : S55)]), bt666.2)) else (none)) else (if bt666.1 = 2 then (spec_l71Bad.l0 k 0 s0_0 bt666.2 bt660.1 bt660.2.1) else (some (bt660.1, bt660.2.1, bt666.2))))))
theorem spec_l71Bad.mono_l : ∀ k, (∀ y0 y1 y2 y3 y4, LeO (spec_l71Bad.l0 k y0 y1 y2 y3 y4) (spec_l71Bad.l0 (k + 1) y0 y1 y2 y3 y4))
 | 0 => fun _ _ _ _ _ r h => by simp [spec_l71Bad.l0] at h
 | k + 1 => by
  have ih0 := spec_l71Bad.mono_l k
  ·intro y0 y1 y2 y3 y4
   unfold spec_l71Bad.l0
   repeat' first
   | (with_reducible exact ih0 _ _ _ _ _)
   | (with_reducible exact spec_l6Rd_pick.mono _ _ _ _)
   | (with_reducible exact spec_l71Val.mono _ _ _ _)
   | (with_reducible exact LeO.refl _)
   | (with_reducible exact LeO.none _)
   | (with_reducible refine LeO.ite ?_ ?_)
   | (with_reducible refine LeO.bind ?_ (fun _ => ?_))
   | exact ih0 _ _ _ _ _
   | exact spec_l6Rd_pick.mono _ _ _ _
   | exact spec_l71Val.mono _ _ _ _
   | exact LeO.none _
   | refine LeO.ite ?_ ?_
   | refine LeO.bind ?_ (fun _ => ?_)
theorem spec_l71Bad.mono : ∀ a0 a1 a2 k, LeO (spec_l71Bad.f k a0 a1 a2) (spec_l71Bad.f (k + 1) a0 a1 a2) := by
 intro a0 a1 a2 k
 have ih0 := spec_l71Bad.mono_l k
 unfold spec_l71Bad.f
 repeat' first
   | (with_reducible exact ih0 _ _ _ _ _)
   | (with_reducible exact spec_l6Rd_pick.mono _ _ _ _)
   | (with_reducible exact spec_l71Val.mono _ _ _ _)
   | (with_reducible exact LeO.refl _)
   | (with_reducible exact LeO.none _)
   | (with_reducible refine LeO.ite ?_ ?_)
   | (with_reducible refine LeO.bind ?_ (fun _ => ?_))
   | exact ih0 _ _ _ _ _
   | exact spec_l6Rd_pick.mono _ _ _ _
   | exact spec_l71Val.mono _ _ _ _
   | exact LeO.none _
   | refine LeO.ite ?_ ?_
   | refine LeO.bind ?_ (fun _ => ?_)
set_option maxHeartbeats 8000000 in
set_option maxRecDepth 100000 in
theorem spec_l71Bad.calls (k : Nat) (g : Nat) (s0_0 : List Int) (s0_1 : Int) (P1_0_ : Nat → Prop) (A1_0 : Option Addr) (c1_0 : Nat) (l1_0 : List (S30)) (r1 : Int) (r2 : List (S55)) (r3 : Int) (w0 w : World) (hI : IsS95 w0 w g s0_0 s0_1) (hB : Below w0.heap.size w0 w) (hs1_0 : Kd.V k30 30 w w.heap.size (fun k_ => P1_0_ k_ ∧ k_ ≠ g) (.slice A1_0 l1_0.length c1_0) l1_0) (h : spec_l71Bad.f k s0_0 s0_1 l1_0 = some (r1, r2, r3)) :
  Calls Try.prog 68 #[.pointer (some ⟨g, 0, none⟩), .agg #[.slice A1_0 l1_0.length c1_0]] w fun e w' => ∃ v1_ : Value, e = .returned (.agg #[.int .i64 r1, v1_]) ∧ Kd.N k55 55 w' w.heap.size (fun k_ => (P1_0_ k_ ∨ w.heap.size ≤ k_)) v1_ r2 ∧ IsS95 w0 w' g s0_0 r3 ∧ Below w0.heap.size w0 w' ∧ KeepBut w w' g none := by
 have hu30 := Try.underlying30
 have hu55 := Try.underlying55
 have HO1_0 := Aside0.mk (show Kd.V k30 30 w w.heap.size (fun k_ => (P1_0_ k_ ∨ w.heap.size ≤ k_) ∧ k_ ≠ g) (.slice A1_0 l1_0.length c1_0) l1_0 from Kd.V_mono hs1_0 (fun k_ hk => ⟨.inl hk.1, hk.2⟩))
 have HI0 := Aside0.mk hI
 have HK := Aside0.mk (KeepBut.refl w g none)
 have HL := Aside0.mk hB.size
 clear hI
 have HW0 := Aside0.mk hB.size
 have HB := Aside0.mk hB
 clear hB
 have H : ((spec_l71Val.f k s0_0 s0_1 l1_0).bind fun bt660 => ((spec_l6Rd_pick.f k s0_0 bt660.2.2 12).bind fun bt666 => (if bt666.1 = 0 then ((some (([(-1), 1, 9999, 10000] : List Int) : List Int)).bind fun y668 => ((spec_l6Rd_pick.f k s0_0 bt666.2 4).bind fun bt671 => (if 0 ≤ bt671.1 then (if bt671.1 < (y668.length : Int) then (some (rd y668 bt671.1, bt660.2.1, bt671.2)) else (none)) else (none)))) else (if bt666.1 = 1 then (if bt660.2.1.length < 4398046511104 then (some (bt660.1, (bt660.2.1 ++ [(⟨0, ([] : List (S55))⟩ : S55)]), bt666.2)) else (none)) else (if bt666.1 = 2 then (spec_l71Bad.l0 k 0 s0_0 bt666.2 bt660.1 bt660.2.1) else (some (bt660.1, bt660.2.1, bt666.2))))))) = some (r1, r2, r3) := h
 clear h
 obtain ⟨⟨t660, t661, t664⟩, A30, H⟩ := ob H
 have A3 := Aside0.mk A30
 clear A30
 obtain ⟨⟨t666, t667⟩, A40, H⟩ := ob H
 have A4 := Aside0.mk A40
 clear A40
 by_cases c5 : t666 = 0
 ·rw [if_pos c5] at H
  have c5b0 : (t666 == 0) = true := beq_iff_eq.mpr c5
  have c5b1 : (t666 != 0) = false := bne_eq_false_iff_eq.mpr c5
  clear c5
  obtain ⟨y668, hy668⟩ : ∃ y_ : List Int, y_ = (([(-1), 1, 9999, 10000] : List Int)) := ⟨_, rfl⟩
  replace H : ((spec_l6Rd_pick.f k s0_0 t667 4).bind fun bt671 => (if 0 ≤ bt671.1 then (if bt671.1 < (y668.length : Int) then (some (rd y668 bt671.1, t661, bt671.2)) else (none)) else (none))) = some (r1, r2, r3) := by first | (rw [hy668]; with_reducible exact H) | (have H2_ := (Option.bind_some _ _).symm.trans H; rw [hy668]; with_reducible exact H2_) | (have H2_ := (Option.bind_some _ _).symm.trans H; with_reducible exact H2_) | with_reducible exact H | (rw [hy668]; exact H) | exact H
  have Ny668 := Aside0.mk hy668
  clear hy668
  obtain ⟨⟨t671, t672⟩, A60, H⟩ := ob H
  have A6 := Aside0.mk A60
  clear A60
  by_cases c7 : 0 ≤ t671
  ·rw [if_pos c7] at H
   have c7b0 : decide (0 ≤ t671) = true := decide_eq_true c7
   clear c7
   by_cases c8 : t671 < (y668.length : Int)
   ·rw [if_pos c8] at H
    have c8b0 : decide (t671 < (y668.length : Int)) = true := decide_eq_true c8
    clear c8
    simp only [Option.some.injEq, Prod.mk.injEq] at H
    obtain ⟨rfl, rfl, rfl⟩ := H
    go_enter Try.func68, Try.ntmps68
    go_wp2_with (first | ((with_reducible refine gate_dst (N := 3) rfl ?_); refine zbx 3 #[.slice A1_0 l1_0.length c1_0] 30 ?_; intro gb658 hg w9 hbox hb; replace HO1_0 := Aside0.mk (Kd.V_below (Kd.V_elderB (y13 HO1_0.out) gb658 (Nat.le_of_eq hg.symm)) hb); replace HB := Aside0.mk (below_step (y33 HB.out HI0.out) hb); have BK658 := Aside0.mk hbox; have GW658 := Aside0.mk ((by rw [hg]; exact (keep_size (w := w) (g := g) (row := none) (y25 HK.out)) : w.heap.size ≤ gb658)); have GE658 := Aside0.mk ((Nat.le_trans HW0.out (by rw [hg]; exact (keep_size (w := w) (g := g) (row := none) (y25 HK.out)) : w.heap.size ≤ gb658) : w0.heap.size ≤ gb658)); replace HK := Aside0.mk (KeepBut.trans (y25 HK.out) (KeepBut.of_below hb g none) (.inl rfl)); have NB0_658 := Aside0.mk ((by rw [hg]; exact Nat.ne_of_lt (IsS95.lt (show IsS95 w0 _ g s0_0 s0_1 from by repeat (first | (with_reducible first | exact HI0.out | apply IsS95.alloc | apply IsS95.drewN | apply IsS95.drew | apply IsS95.set_1) | exact HI0.out))) : g ≠ gb658)); have NB658_0 := Aside0.mk ((by rw [hg]; exact Nat.ne_of_gt (IsS95.lt (show IsS95 w0 _ g s0_0 s0_1 from by repeat (first | (with_reducible first | exact HI0.out | apply IsS95.alloc | apply IsS95.drewN | apply IsS95.drew | apply IsS95.set_1) | exact HI0.out))) : gb658 ≠ g)); replace HI0 := Aside0.mk (IsS95.below (y35 HI0.out) hb); clear hb hbox hg) | ((with_reducible refine gate_dst (N := 4) rfl ?_); refine zbx 4 #[.int .i64 0, .slice none 0 0] 55 ?_; intro gb659 hg w10 hbox hb; replace HO1_0 := Aside0.mk (Kd.V_below (Kd.V_elderB (y13 HO1_0.out) gb659 (Nat.le_of_eq hg.symm)) hb); replace HB := Aside0.mk (below_step (y23 HB.out HI0.out GE658.out) hb); have BK659 := Aside0.mk hbox; have GW659 := Aside0.mk ((by rw [hg]; exact (keep_size (w := w) (g := g) (row := none) (y18 HK.out GW658.out)) : w.heap.size ≤ gb659)); have GE659 := Aside0.mk ((Nat.le_trans HW0.out (by rw [hg]; exact (keep_size (w := w) (g := g) (row := none) (y18 HK.out GW658.out)) : w.heap.size ≤ gb659) : w0.heap.size ≤ gb659)); replace HK := Aside0.mk (KeepBut.trans (y18 HK.out GW658.out) (KeepBut.of_below hb g none) (.inl rfl)); have NB658_659 := zltn hg BK658; have NB659_658 := zgtn hg BK658; replace BK658 := zbb BK658 hb; have NB0_659 := Aside0.mk ((by rw [hg]; exact Nat.ne_of_lt (IsS95.lt (show IsS95 w0 _ g s0_0 s0_1 from by repeat (first | (with_reducible first | exact HI0.out | apply IsS95.alloc | apply IsS95.drewN | apply IsS95.drew | apply IsS95.set_1 | refine IsS95.far ?_ NB0_658.out _) | exact HI0.out))) : g ≠ gb659)); have NB659_0 := Aside0.mk ((by rw [hg]; exact Nat.ne_of_gt (IsS95.lt (show IsS95 w0 _ g s0_0 s0_1 from by repeat (first | (with_reducible first | exact HI0.out | apply IsS95.alloc | apply IsS95.drewN | apply IsS95.drew | apply IsS95.set_1 | refine IsS95.far ?_ NB0_658.out _) | exact HI0.out))) : gb659 ≠ g)); replace HI0 := Aside0.mk (IsS95.below (y24 HI0.out NB0_658.out) hb); clear hb hbox hg; have hnb11 := NB658_659.out; have hnc11 := NB659_658.out; have hnb12 := NB658_0.out; have hnc12 := NB0_658.out; have hcz13_0 := zh BK658; have hfz13_0 := zfr BK658 0) | ((with_reducible refine gate_callee (f := 87) rfl ?_); refine goesL_ (some 9) rfl rfl Try.func87 (by kernel_rfl) rfl #[.pointer (some ⟨g, 0, none⟩), .agg #[.slice A1_0 l1_0.length c1_0]] rfl y4 ?_; (with_reducible refine (spec_l71Val.calls k g s0_0 s0_1 (fun k_ => ((((P1_0_ k_ ∨ w.heap.size ≤ k_) ∧ k_ ≠ g) ∧ k_ ≠ gb658) ∧ k_ ≠ gb659)) _ _ l1_0 t660 t661 t664 w0 _ ?side1 ?side2 ?side3 A3.out).mono ?_); (case side1 => exact y15 HI0.out NB0_658.out NB0_659.out); (case side2 => exact y12 HB.out HI0.out GE658.out GE659.out); (case side3 => exact y80 HO1_0.out); rintro e w14 ⟨v662, rfl, ho0, hi, hb, hk⟩; refine ⟨_, rfl, ?_⟩; replace HO1_0 := Aside0.mk (Kd.V_mono (Kd.V_told (Kd.V_oldK (Kd.V_mono (ok := fun k_ => (((((P1_0_ k_ ∨ w.heap.size ≤ k_)) ∧ k_ ≠ g) ∧ k_ ≠ gb658) ∧ k_ ≠ gb659)) (y13 HO1_0.out) (fun k_ hk_ => (⟨hk_, hk_.1.1.2⟩ : _ ∧ k_ ≠ g))) hk) (Kd.N_base ho0)) (fun _ h_ => h_.1)); have HO663 := Aside0.mk (Kd.N_lower (Kd.N_mono (ok' := fun k_ => (P1_0_ k_ ∨ w.heap.size ≤ k_) ∧ k_ ≠ gb658 ∧ k_ ≠ gb659 ∧ k_ ≠ g) ho0 (fun k_ hk_ => ⟨Or.elim hk_ (fun hs_ => hs_.1.1.1) (fun hn_ => (.inr (Nat.le_trans (keep_size (w := w) (g := g) (row := none) (y11 HK.out GW658.out GW659.out)) hn_))), Or.elim hk_ (fun hs_ => hs_.1.2) (fun hn_ => (Kd.freshB (g := gb658) (o := .cells #[.slice A1_0 l1_0.length c1_0] 30 (0, 0)) (y0 BK658.out) k_ hn_)), Or.elim hk_ (fun hs_ => hs_.2) (fun hn_ => (Kd.freshB (g := gb659) (o := .cells #[.int .i64 0, .slice none 0 0] 55 (0, 0)) (y0 BK659.out) k_ hn_)), Or.elim hk_ (fun hs_ => hs_.1.1.2) (fun hn_ => (IsS95.fresh (y15 HI0.out NB0_658.out NB0_659.out) k_ hn_))⟩)) (keep_size (w := w) (g := g) (row := none) (y11 HK.out GW658.out GW659.out))); replace BK658 := Aside0.mk (KeepBut.blk hk (g' := gb658) (o := .cells #[.slice A1_0 l1_0.length c1_0] 30 (0, 0)) (y0 BK658.out) NB658_0.out (by simp)); replace BK659 := Aside0.mk (KeepBut.blk hk (g' := gb659) (o := .cells #[.int .i64 0, .slice none 0 0] 55 (0, 0)) (y0 BK659.out) NB659_0.out (by simp)); replace HK := Aside0.mk (KeepBut.trans (y11 HK.out GW658.out GW659.out) hk (.inl rfl)); replace HB := Aside0.mk (hb); replace HI0 := Aside0.mk (hi); (try clear hb); (try clear hb2); (try clear hk); (try clear hi); (try clear ho0)) | ((with_reducible refine gate_dst (N := 5) rfl ?_); refine zbx 5 #[.int .i64 0, .slice none 0 0] 55 ?_; intro gb665 hg w15 hbox hb; replace HO1_0 := Aside0.mk (Kd.V_below (Kd.V_elderB (y13 HO1_0.out) gb665 (Nat.le_of_eq hg.symm)) hb); replace HO663 := Aside0.mk (Kd.N_below (Kd.N_elderB (y9 HO663.out) gb665 (Nat.le_of_eq hg.symm)) hb); replace HB := Aside0.mk (below_step (y12 HB.out HI0.out GE658.out GE659.out) hb); have BK665 := Aside0.mk hbox; have GW665 := Aside0.mk ((by rw [hg]; exact (keep_size (w := w) (g := g) (row := none) (y11 HK.out GW658.out GW659.out)) : w.heap.size ≤ gb665)); have GE665 := Aside0.mk ((Nat.le_trans HW0.out (by rw [hg]; exact (keep_size (w := w) (g := g) (row := none) (y11 HK.out GW658.out GW659.out)) : w.heap.size ≤ gb665) : w0.heap.size ≤ gb665)); replace HK := Aside0.mk (KeepBut.trans (y11 HK.out GW658.out GW659.out) (KeepBut.of_below hb g none) (.inl rfl)); have NB658_665 := zltn hg BK658; have NB665_658 := zgtn hg BK658; replace BK658 := zbb BK658 hb; have NB659_665 := zltn hg BK659; have NB665_659 := zgtn hg BK659; replace BK659 := zbb BK659 hb; have NB0_665 := Aside0.mk ((by rw [hg]; exact Nat.ne_of_lt (IsS95.lt (show IsS95 w0 _ g s0_0 t664 from by repeat (first | (with_reducible first | exact HI0.out | apply IsS95.alloc | apply IsS95.drewN | apply IsS95.drew | apply IsS95.set_1 | refine IsS95.far ?_ NB0_658.out _ | refine IsS95.far ?_ NB0_659.out _) | exact HI0.out))) : g ≠ gb665)); have NB665_0 := Aside0.mk ((by rw [hg]; exact Nat.ne_of_gt (IsS95.lt (show IsS95 w0 _ g s0_0 t664 from by repeat (first | (with_reducible first | exact HI0.out | apply IsS95.alloc | apply IsS95.drewN | apply IsS95.drew | apply IsS95.set_1 | refine IsS95.far ?_ NB0_658.out _ | refine IsS95.far ?_ NB0_659.out _) | exact HI0.out))) : gb665 ≠ g)); replace HI0 := Aside0.mk (IsS95.below (y15 HI0.out NB0_658.out NB0_659.out) hb); clear hb hbox hg; have hnb16 := NB665_658.out; have hnc16 := NB658_665.out; have hnb17 := NB665_659.out; have hnc17 := NB659_665.out; have hnb18 := NB665_0.out; have hnc18 := NB0_665.out; have hcz19_0 := zh BK665; have hcz19_1 := zh1 BK665; have hfz19_0 := zfr BK665 0; have hfz19_1 := zfr BK665 1; obtain ⟨Ao20, co20, eo20⟩ := Kd.N_slice HO663.out; subst eo20) | ((with_reducible refine gate_callee (f := 58) rfl ?_); refine goesL_ (some 11) rfl rfl Try.func58 (by kernel_rfl) rfl #[.pointer (some ⟨g, 0, none⟩), .int .i64 12] rfl y4 ?_; (with_reducible refine (spec_l6Rd_pick.calls k g s0_0 t664 12 t666 t667 w0 _ ?side1 ?side2 A4.out).mono ?_); (case side1 => exact y28 HI0.out NB0_658.out NB0_659.out NB0_665.out); (case side2 => exact y22 HB.out HI0.out GE658.out GE659.out GE665.out); rintro e w21 ⟨rfl, hi, hb, hk⟩; refine ⟨_, rfl, ?_⟩; replace HO1_0 := Aside0.mk (Kd.V_mono (Kd.V_keep (Kd.V_mono (ok := fun k_ => (((((((P1_0_ k_ ∨ w.heap.size ≤ k_)) ∧ k_ ≠ g) ∧ k_ ≠ gb658) ∧ k_ ≠ gb659) ∧ some k_ ≠ (.slice Ao20 t661.length co20 : Value).ownBlock) ∧ k_ ≠ gb665)) (by (with_reducible repeat (first | apply Kd.V_alloc | apply Kd.V_drewN | apply Kd.V_drew)); exact (Kd.V_mono (Kd.V_far (p := ⟨gb665, 1, none⟩) (Kd.V_far (p := ⟨gb665, 0, none⟩) (Kd.V_mono HO1_0.out (fun k_ hk => (⟨hk, hk.2⟩ : _ ∧ k_ ≠ gb665))) (fun _ hk => hk.2) (.int .i64 t660)) (fun _ hk => hk.2) (.slice Ao20 t661.length co20)) (fun _ h_ => h_.1))) (fun k_ hk_ => (⟨hk_, hk_.1.1.1.1.2⟩ : _ ∧ k_ ≠ g))) hk (fun _ h => h.2)) (fun _ h => h.1)); replace BK658 := Aside0.mk (KeepBut.blk hk (g' := gb658) (o := .cells #[.slice A1_0 l1_0.length c1_0] 30 (0, 0)) (y17 NB658_665.out BK658.out) NB658_0.out (by simp)); replace BK659 := Aside0.mk (KeepBut.blk hk (g' := gb659) (o := .cells #[.int .i64 0, .slice none 0 0] 55 (0, 0)) (y17 NB659_665.out BK659.out) NB659_0.out (by simp)); replace HO663 := Aside0.mk (Kd.N_mono (Kd.N_keep (Kd.N_mono (ok := fun k_ => ((((P1_0_ k_ ∨ w.heap.size ≤ k_)) ∧ (k_ ≠ gb658 ∧ (k_ ≠ gb659 ∧ k_ ≠ g))) ∧ k_ ≠ gb665)) (by (with_reducible repeat (first | apply Kd.N_alloc | apply Kd.N_drewN | apply Kd.N_drew)); exact (Kd.N_mono (Kd.N_far (p := ⟨gb665, 1, none⟩) (Kd.N_far (p := ⟨gb665, 0, none⟩) (Kd.N_mono HO663.out (fun k_ hk => (⟨hk, hk.2⟩ : _ ∧ k_ ≠ gb665))) (fun _ hk => hk.2) (.int .i64 t660)) (fun _ hk => hk.2) (.slice Ao20 t661.length co20)) (fun _ h_ => h_.1))) (fun k_ hk_ => (⟨hk_, hk_.1.2.2.2⟩ : _ ∧ k_ ≠ g))) hk (fun _ h => h.2)) (fun _ h => h.1)); replace BK665 := Aside0.mk (KeepBut.blk hk (g' := gb665) (o := .cells #[.int .i64 t660, .slice Ao20 t661.length co20] 55 (0, 0)) (by (with_reducible repeat (first | refine blk_drewN ?_ _ | refine blk_drew ?_ | refine blk_alloc ?_ _)); refine blk_put (cs := #[.int .i64 t660, .slice none 0 0]) ?_ 1 _ rfl; (with_reducible repeat (first | refine blk_drewN ?_ _ | refine blk_drew ?_ | refine blk_alloc ?_ _)); apply blk_put (i := 0); (case h => exact y0 BK665.out); (case e => rfl)) NB665_0.out (by simp)); replace HK := Aside0.mk (KeepBut.trans (y32 HK.out GW658.out GW659.out GW665.out) hk (.inl rfl)); replace HB := Aside0.mk (hb); replace HI0 := Aside0.mk (hi); (try clear hb); (try clear hb2); (try clear hk); (try clear hi)) | ((with_reducible refine gate_dst (N := 14) rfl ?_); refine Kd.R_lit (Kd.int .i64) _ 3 ?hg (N := 14) ?hd (xs := ([(-1), 1, 9999, 10000] : List Int)) (inner := [.int .i64 (-1), .int .i64 1, .int .i64 9999, .int .i64 10000]) (ok := fun _ => True) (okp := fun _ => True) ?hr ?hp (fun _ hk => hk) trivial (Below.refl _ _) (Nat.le_refl _) (by simp) ?_; (case hd => rfl); (case hg => rfl); (case hr => first | (go_simp; done) | (go_simp; rfl)); (case hp => exact (Reps.one (show Kd.M (Kd.int .i64) _ _ _ (-1) [.int .i64 (-1)] from rfl) (Reps.one (show Kd.M (Kd.int .i64) _ _ _ 1 [.int .i64 1] from rfl) (Reps.one (show Kd.M (Kd.int .i64) _ _ _ 9999 [.int .i64 9999] from rfl) (Reps.one (show Kd.M (Kd.int .i64) _ _ _ 10000 [.int .i64 10000] from rfl) (Reps.none _ _)))))); intro v669 w22 ho23 hb hg_ hnew_; clear hg_ hnew_; (first | rw [← Ny668.out] at ho23 | (simp only [Int.reduceToNat] at ho23; rw [← Ny668.out] at ho23)); replace HO1_0 := Aside0.mk (Kd.V_elder' (y13 HO1_0.out) (Kd.R_base ho23) hb); replace HO663 := Aside0.mk (Kd.N_elder' (y9 HO663.out) (Kd.R_base ho23) hb); have HO670 := Aside0.mk (Kd.R_lower (Kd.R_newM (M := fun k_ => (w.heap.size ≤ k_)) ho23 (keep_size (w := w) (g := g) (row := none) (y32 HK.out GW658.out GW659.out GW665.out)) (fun k_ h_ => h_)) (keep_size (w := w) (g := g) (row := none) (y32 HK.out GW658.out GW659.out GW665.out))); replace BK658 := zbb BK658 hb; replace BK659 := zbb BK659 hb; replace BK665 := zbb BK665 hb; replace HK := Aside0.mk (KeepBut.trans (y32 HK.out GW658.out GW659.out GW665.out) (KeepBut.of_below hb g none) (.inl rfl)); replace HB := Aside0.mk (below_step (y22 HB.out HI0.out GE658.out GE659.out GE665.out) hb); replace HI0 := Aside0.mk (IsS95.below (y28 HI0.out NB0_658.out NB0_659.out NB0_665.out) hb); clear hb ho23) | ((with_reducible refine gate_callee (f := 58) rfl ?_); refine goesL_ (some 16) rfl rfl Try.func58 (by kernel_rfl) rfl #[.pointer (some ⟨g, 0, none⟩), .int .i64 4] rfl y4 ?_; (with_reducible refine (spec_l6Rd_pick.calls k g s0_0 t667 4 t671 t672 w0 _ ?side1 ?side2 A6.out).mono ?_); (case side1 => exact y28 HI0.out NB0_658.out NB0_659.out NB0_665.out); (case side2 => exact y22 HB.out HI0.out GE658.out GE659.out GE665.out); rintro e w24 ⟨rfl, hi, hb, hk⟩; refine ⟨_, rfl, ?_⟩; replace HO1_0 := Aside0.mk (Kd.V_mono (Kd.V_keep (Kd.V_mono (ok := fun k_ => ((((((((P1_0_ k_ ∨ w.heap.size ≤ k_)) ∧ k_ ≠ g) ∧ k_ ≠ gb658) ∧ k_ ≠ gb659) ∧ some k_ ≠ (.slice Ao20 t661.length co20 : Value).ownBlock) ∧ k_ ≠ gb665) ∧ some k_ ≠ (v669 : Value).ownBlock)) (y13 HO1_0.out) (fun k_ hk_ => (⟨hk_, hk_.1.1.1.1.1.2⟩ : _ ∧ k_ ≠ g))) hk (fun _ h => h.2)) (fun _ h => h.1)); replace BK658 := Aside0.mk (KeepBut.blk hk (g' := gb658) (o := .cells #[.slice A1_0 l1_0.length c1_0] 30 (0, 0)) (y0 BK658.out) NB658_0.out (by simp)); replace BK659 := Aside0.mk (KeepBut.blk hk (g' := gb659) (o := .cells #[.int .i64 0, .slice none 0 0] 55 (0, 0)) (y0 BK659.out) NB659_0.out (by simp)); replace HO663 := Aside0.mk (Kd.N_mono (Kd.N_keep (Kd.N_mono (ok := fun k_ => (((((P1_0_ k_ ∨ w.heap.size ≤ k_)) ∧ (k_ ≠ gb658 ∧ (k_ ≠ gb659 ∧ k_ ≠ g))) ∧ k_ ≠ gb665) ∧ some k_ ≠ (v669 : Value).ownBlock)) (y9 HO663.out) (fun k_ hk_ => (⟨hk_, hk_.1.1.2.2.2⟩ : _ ∧ k_ ≠ g))) hk (fun _ h => h.2)) (fun _ h => h.1)); replace BK665 := Aside0.mk (KeepBut.blk hk (g' := gb665) (o := .cells #[.int .i64 t660, .slice Ao20 t661.length co20] 55 (0, 0)) (y0 BK665.out) NB665_0.out (by simp)); replace HO670 := Aside0.mk (Kd.R_mono (Kd.R_keep (IsS95.apart (show IsS95 w0 _ g s0_0 t667 from by repeat (first | (with_reducible first | exact HI0.out | apply IsS95.alloc | apply IsS95.drewN | apply IsS95.drew | apply IsS95.set_1 | refine IsS95.far ?_ NB0_658.out _ | refine IsS95.far ?_ NB0_659.out _ | refine IsS95.far ?_ NB0_665.out _) | exact HI0.out)) (y10 HO670.out) (by decide)) hk (fun _ h => h.2)) (fun _ h => h.1)); replace HK := Aside0.mk (KeepBut.trans (y32 HK.out GW658.out GW659.out GW665.out) hk (.inl rfl)); replace HB := Aside0.mk (hb); replace HI0 := Aside0.mk (hi); (try clear hb); (try clear hb2); (try clear hk); (try clear hi); obtain ⟨Ao25, co25, eo25⟩ := Kd.R_slice HO670.out; subst eo25; have p673 : 0 ≤ (t671 : Int) := of_decide_eq_true y19; have q673 : t671 < (y668.length : Int) := of_decide_eq_true y19; obtain ⟨ad673, e673, hx673_0⟩ := Kd.at_int (Kd.R_reads' HO670.out).2.2 t671 p673 q673; cases e673; replace p673 := eq_true p673; replace q673 := eq_true q673; have hcz26_0 := zh BK665; have hcz26_1 := zh1 BK665; have hfz26_0 := zfr BK665 0; have hfz26_1 := zfr BK665 1; have hnb27 := NB659_0.out; have hnc27 := NB0_659.out; have hcz28_0 := zh BK659; have hcz28_1 := zh1 BK659; have hfz28_0 := zfr BK659 0; have hfz28_1 := zfr BK659 1))
    refine bodyPost_ret (results_cell_row rfl _ _ gb659 55 #[.int .i64 (rd y668 t671), .slice Ao20 t661.length co20] (0, 0) _ rfl (by (with_reducible repeat (first | refine blk_drewN ?_ _ | refine blk_drew ?_ | refine blk_alloc ?_ _)); refine blk_put (cs := #[.int .i64 (rd y668 t671), .slice none 0 0]) ?_ 1 _ rfl; (with_reducible repeat (first | refine blk_drewN ?_ _ | refine blk_drew ?_ | refine blk_alloc ?_ _)); refine blk_put (cs := #[.int .i64 0, .slice none 0 0]) ?_ 0 _ rfl; (with_reducible repeat (first | refine blk_drewN ?_ _ | refine blk_drew ?_ | refine blk_alloc ?_ _)); refine blk_far ?_ NB659_665.out _; (with_reducible repeat (first | refine blk_drewN ?_ _ | refine blk_drew ?_ | refine blk_alloc ?_ _)); exact BK659.out) Try.underlying55 rfl (by kernel_rfl)) rfl ?_
    exact ⟨_, y14, (by (with_reducible repeat (first | apply Kd.N_alloc | apply Kd.N_drewN | apply Kd.N_drew)); exact Kd.N_mono (Kd.N_far (p := ⟨gb659, 1, none⟩) (Kd.N_far (p := ⟨gb659, 0, none⟩) (Kd.N_far (p := ⟨gb665, 0, none⟩) (Kd.N_mono (Kd.N_mono HO663.out (fun k_ hk => (⟨hk, hk.1.2⟩ : _ ∧ k_ ≠ gb665))) (fun k_ hk => (⟨hk, hk.1.1.1.2.2.1⟩ : _ ∧ k_ ≠ gb659))) (fun _ hk => hk.1.2) (.int .i64 (rd y668 t671))) (fun _ hk => hk.2) (.int .i64 (rd y668 t671))) (fun _ hk => hk.2) (.slice Ao20 t661.length co20)) (fun _ hk => hk.1.1.1.1.1)), (y28 HI0.out NB0_658.out NB0_659.out NB0_665.out), (y22 HB.out HI0.out GE658.out GE659.out GE665.out), (y32 HK.out GW658.out GW659.out GW665.out)⟩
   ·rw [if_neg c8] at H
    exact absurd H (by simp)
  ·rw [if_neg c7] at H
   exact absurd H (by simp)
 ·rw [if_neg c5] at H
  have c5b0 : (t666 == 0) = false := beq_eq_false_iff_ne.mpr c5
  have c5b1 : (t666 != 0) = true := bne_iff_ne.mpr c5
  by_cases c29 : t666 = 1
  ·rw [if_pos c29] at H
   have c29b0 : (t666 == 1) = true := beq_iff_eq.mpr c29
   have c29b1 : (t666 != 1) = false := bne_eq_false_iff_eq.mpr c29
   clear c29
   by_cases c30 : t661.length < 4398046511104
   ·rw [if_pos c30] at H
    have LMc30 := Aside0.mk c30
    clear c30
    obtain ⟨y674, hy674⟩ : ∃ y_ : List (S55), y_ = (t661 ++ [(⟨0, ([] : List (S55))⟩ : S55)]) := ⟨_, rfl⟩
    replace H : (some (t660, y674, t667)) = some (r1, r2, r3) := by first | (rw [hy674]; with_reducible exact H) | (have H2_ := (Option.bind_some _ _).symm.trans H; rw [hy674]; with_reducible exact H2_) | (have H2_ := (Option.bind_some _ _).symm.trans H; with_reducible exact H2_) | with_reducible exact H | (rw [hy674]; exact H) | exact H
    have Ny674 := Aside0.mk hy674
    clear hy674
    simp only [Option.some.injEq, Prod.mk.injEq] at H
    obtain ⟨rfl, rfl, rfl⟩ := H
    go_enter Try.func68, Try.ntmps68
    go_wp2_with (first | ((with_reducible refine gate_dst (N := 3) rfl ?_); refine zbx 3 #[.slice A1_0 l1_0.length c1_0] 30 ?_; intro gb658 hg w31 hbox hb; replace HO1_0 := Aside0.mk (Kd.V_below (Kd.V_elderB (y13 HO1_0.out) gb658 (Nat.le_of_eq hg.symm)) hb); replace HB := Aside0.mk (below_step (y33 HB.out HI0.out) hb); have BK658 := Aside0.mk hbox; have GW658 := Aside0.mk ((by rw [hg]; exact (keep_size (w := w) (g := g) (row := none) (y25 HK.out)) : w.heap.size ≤ gb658)); have GE658 := Aside0.mk ((Nat.le_trans HW0.out (by rw [hg]; exact (keep_size (w := w) (g := g) (row := none) (y25 HK.out)) : w.heap.size ≤ gb658) : w0.heap.size ≤ gb658)); replace HK := Aside0.mk (KeepBut.trans (y25 HK.out) (KeepBut.of_below hb g none) (.inl rfl)); have NB0_658 := Aside0.mk ((by rw [hg]; exact Nat.ne_of_lt (IsS95.lt (show IsS95 w0 _ g s0_0 s0_1 from by repeat (first | (with_reducible first | exact HI0.out | apply IsS95.alloc | apply IsS95.drewN | apply IsS95.drew | apply IsS95.set_1) | exact HI0.out))) : g ≠ gb658)); have NB658_0 := Aside0.mk ((by rw [hg]; exact Nat.ne_of_gt (IsS95.lt (show IsS95 w0 _ g s0_0 s0_1 from by repeat (first | (with_reducible first | exact HI0.out | apply IsS95.alloc | apply IsS95.drewN | apply IsS95.drew | apply IsS95.set_1) | exact HI0.out))) : gb658 ≠ g)); replace HI0 := Aside0.mk (IsS95.below (y35 HI0.out) hb); clear hb hbox hg) | ((with_reducible refine gate_dst (N := 4) rfl ?_); refine zbx 4 #[.int .i64 0, .slice none 0 0] 55 ?_; intro gb659 hg w32 hbox hb; replace HO1_0 := Aside0.mk (Kd.V_below (Kd.V_elderB (y13 HO1_0.out) gb659 (Nat.le_of_eq hg.symm)) hb); replace HB := Aside0.mk (below_step (y23 HB.out HI0.out GE658.out) hb); have BK659 := Aside0.mk hbox; have GW659 := Aside0.mk ((by rw [hg]; exact (keep_size (w := w) (g := g) (row := none) (y18 HK.out GW658.out)) : w.heap.size ≤ gb659)); have GE659 := Aside0.mk ((Nat.le_trans HW0.out (by rw [hg]; exact (keep_size (w := w) (g := g) (row := none) (y18 HK.out GW658.out)) : w.heap.size ≤ gb659) : w0.heap.size ≤ gb659)); replace HK := Aside0.mk (KeepBut.trans (y18 HK.out GW658.out) (KeepBut.of_below hb g none) (.inl rfl)); have NB658_659 := zltn hg BK658; have NB659_658 := zgtn hg BK658; replace BK658 := zbb BK658 hb; have NB0_659 := Aside0.mk ((by rw [hg]; exact Nat.ne_of_lt (IsS95.lt (show IsS95 w0 _ g s0_0 s0_1 from by repeat (first | (with_reducible first | exact HI0.out | apply IsS95.alloc | apply IsS95.drewN | apply IsS95.drew | apply IsS95.set_1 | refine IsS95.far ?_ NB0_658.out _) | exact HI0.out))) : g ≠ gb659)); have NB659_0 := Aside0.mk ((by rw [hg]; exact Nat.ne_of_gt (IsS95.lt (show IsS95 w0 _ g s0_0 s0_1 from by repeat (first | (with_reducible first | exact HI0.out | apply IsS95.alloc | apply IsS95.drewN | apply IsS95.drew | apply IsS95.set_1 | refine IsS95.far ?_ NB0_658.out _) | exact HI0.out))) : gb659 ≠ g)); replace HI0 := Aside0.mk (IsS95.below (y24 HI0.out NB0_658.out) hb); clear hb hbox hg; have hnb33 := NB658_659.out; have hnc33 := NB659_658.out; have hnb34 := NB658_0.out; have hnc34 := NB0_658.out; have hcz35_0 := zh BK658; have hfz35_0 := zfr BK658 0) | ((with_reducible refine gate_callee (f := 87) rfl ?_); refine goesL_ (some 9) rfl rfl Try.func87 (by kernel_rfl) rfl #[.pointer (some ⟨g, 0, none⟩), .agg #[.slice A1_0 l1_0.length c1_0]] rfl y4 ?_; (with_reducible refine (spec_l71Val.calls k g s0_0 s0_1 (fun k_ => ((((P1_0_ k_ ∨ w.heap.size ≤ k_) ∧ k_ ≠ g) ∧ k_ ≠ gb658) ∧ k_ ≠ gb659)) _ _ l1_0 t660 t661 t664 w0 _ ?side1 ?side2 ?side3 A3.out).mono ?_); (case side1 => exact y15 HI0.out NB0_658.out NB0_659.out); (case side2 => exact y12 HB.out HI0.out GE658.out GE659.out); (case side3 => exact y80 HO1_0.out); rintro e w36 ⟨v662, rfl, ho0, hi, hb, hk⟩; refine ⟨_, rfl, ?_⟩; replace HO1_0 := Aside0.mk (Kd.V_mono (Kd.V_told (Kd.V_oldK (Kd.V_mono (ok := fun k_ => (((((P1_0_ k_ ∨ w.heap.size ≤ k_)) ∧ k_ ≠ g) ∧ k_ ≠ gb658) ∧ k_ ≠ gb659)) (y13 HO1_0.out) (fun k_ hk_ => (⟨hk_, hk_.1.1.2⟩ : _ ∧ k_ ≠ g))) hk) (Kd.N_base ho0)) (fun _ h_ => h_.1)); have HO663 := Aside0.mk (Kd.N_lower (Kd.N_mono (ok' := fun k_ => (P1_0_ k_ ∨ w.heap.size ≤ k_) ∧ k_ ≠ gb658 ∧ k_ ≠ gb659 ∧ k_ ≠ g) ho0 (fun k_ hk_ => ⟨Or.elim hk_ (fun hs_ => hs_.1.1.1) (fun hn_ => (.inr (Nat.le_trans (keep_size (w := w) (g := g) (row := none) (y11 HK.out GW658.out GW659.out)) hn_))), Or.elim hk_ (fun hs_ => hs_.1.2) (fun hn_ => (Kd.freshB (g := gb658) (o := .cells #[.slice A1_0 l1_0.length c1_0] 30 (0, 0)) (y0 BK658.out) k_ hn_)), Or.elim hk_ (fun hs_ => hs_.2) (fun hn_ => (Kd.freshB (g := gb659) (o := .cells #[.int .i64 0, .slice none 0 0] 55 (0, 0)) (y0 BK659.out) k_ hn_)), Or.elim hk_ (fun hs_ => hs_.1.1.2) (fun hn_ => (IsS95.fresh (y15 HI0.out NB0_658.out NB0_659.out) k_ hn_))⟩)) (keep_size (w := w) (g := g) (row := none) (y11 HK.out GW658.out GW659.out))); replace BK658 := Aside0.mk (KeepBut.blk hk (g' := gb658) (o := .cells #[.slice A1_0 l1_0.length c1_0] 30 (0, 0)) (y0 BK658.out) NB658_0.out (by simp)); replace BK659 := Aside0.mk (KeepBut.blk hk (g' := gb659) (o := .cells #[.int .i64 0, .slice none 0 0] 55 (0, 0)) (y0 BK659.out) NB659_0.out (by simp)); replace HK := Aside0.mk (KeepBut.trans (y11 HK.out GW658.out GW659.out) hk (.inl rfl)); replace HB := Aside0.mk (hb); replace HI0 := Aside0.mk (hi); (try clear hb); (try clear hb2); (try clear hk); (try clear hi); (try clear ho0)) | ((with_reducible refine gate_dst (N := 5) rfl ?_); refine zbx 5 #[.int .i64 0, .slice none 0 0] 55 ?_; intro gb665 hg w37 hbox hb; replace HO1_0 := Aside0.mk (Kd.V_below (Kd.V_elderB (y13 HO1_0.out) gb665 (Nat.le_of_eq hg.symm)) hb); replace HO663 := Aside0.mk (Kd.N_below (Kd.N_elderB (y9 HO663.out) gb665 (Nat.le_of_eq hg.symm)) hb); replace HB := Aside0.mk (below_step (y12 HB.out HI0.out GE658.out GE659.out) hb); have BK665 := Aside0.mk hbox; have GW665 := Aside0.mk ((by rw [hg]; exact (keep_size (w := w) (g := g) (row := none) (y11 HK.out GW658.out GW659.out)) : w.heap.size ≤ gb665)); have GE665 := Aside0.mk ((Nat.le_trans HW0.out (by rw [hg]; exact (keep_size (w := w) (g := g) (row := none) (y11 HK.out GW658.out GW659.out)) : w.heap.size ≤ gb665) : w0.heap.size ≤ gb665)); replace HK := Aside0.mk (KeepBut.trans (y11 HK.out GW658.out GW659.out) (KeepBut.of_below hb g none) (.inl rfl)); have NB658_665 := zltn hg BK658; have NB665_658 := zgtn hg BK658; replace BK658 := zbb BK658 hb; have NB659_665 := zltn hg BK659; have NB665_659 := zgtn hg BK659; replace BK659 := zbb BK659 hb; have NB0_665 := Aside0.mk ((by rw [hg]; exact Nat.ne_of_lt (IsS95.lt (show IsS95 w0 _ g s0_0 t664 from by repeat (first | (with_reducible first | exact HI0.out | apply IsS95.alloc | apply IsS95.drewN | apply IsS95.drew | apply IsS95.set_1 | refine IsS95.far ?_ NB0_658.out _ | refine IsS95.far ?_ NB0_659.out _) | exact HI0.out))) : g ≠ gb665)); have NB665_0 := Aside0.mk ((by rw [hg]; exact Nat.ne_of_gt (IsS95.lt (show IsS95 w0 _ g s0_0 t664 from by repeat (first | (with_reducible first | exact HI0.out | apply IsS95.alloc | apply IsS95.drewN | apply IsS95.drew | apply IsS95.set_1 | refine IsS95.far ?_ NB0_658.out _ | refine IsS95.far ?_ NB0_659.out _) | exact HI0.out))) : gb665 ≠ g)); replace HI0 := Aside0.mk (IsS95.below (y15 HI0.out NB0_658.out NB0_659.out) hb); clear hb hbox hg; have hnb38 := NB665_658.out; have hnc38 := NB658_665.out; have hnb39 := NB665_659.out; have hnc39 := NB659_665.out; have hnb40 := NB665_0.out; have hnc40 := NB0_665.out; have hcz41_0 := zh BK665; have hcz41_1 := zh1 BK665; have hfz41_0 := zfr BK665 0; have hfz41_1 := zfr BK665 1; obtain ⟨Ao42, co42, eo42⟩ := Kd.N_slice HO663.out; subst eo42) | ((with_reducible refine gate_callee (f := 58) rfl ?_); refine goesL_ (some 11) rfl rfl Try.func58 (by kernel_rfl) rfl #[.pointer (some ⟨g, 0, none⟩), .int .i64 12] rfl y4 ?_; (with_reducible refine (spec_l6Rd_pick.calls k g s0_0 t664 12 t666 t667 w0 _ ?side1 ?side2 A4.out).mono ?_); (case side1 => exact y28 HI0.out NB0_658.out NB0_659.out NB0_665.out); (case side2 => exact y22 HB.out HI0.out GE658.out GE659.out GE665.out); rintro e w43 ⟨rfl, hi, hb, hk⟩; refine ⟨_, rfl, ?_⟩; replace HO1_0 := Aside0.mk (Kd.V_mono (Kd.V_keep (Kd.V_mono (ok := fun k_ => (((((((P1_0_ k_ ∨ w.heap.size ≤ k_)) ∧ k_ ≠ g) ∧ k_ ≠ gb658) ∧ k_ ≠ gb659) ∧ some k_ ≠ (.slice Ao42 t661.length co42 : Value).ownBlock) ∧ k_ ≠ gb665)) (by (with_reducible repeat (first | apply Kd.V_alloc | apply Kd.V_drewN | apply Kd.V_drew)); exact (Kd.V_mono (Kd.V_far (p := ⟨gb665, 1, none⟩) (Kd.V_far (p := ⟨gb665, 0, none⟩) (Kd.V_mono HO1_0.out (fun k_ hk => (⟨hk, hk.2⟩ : _ ∧ k_ ≠ gb665))) (fun _ hk => hk.2) (.int .i64 t660)) (fun _ hk => hk.2) (.slice Ao42 t661.length co42)) (fun _ h_ => h_.1))) (fun k_ hk_ => (⟨hk_, hk_.1.1.1.1.2⟩ : _ ∧ k_ ≠ g))) hk (fun _ h => h.2)) (fun _ h => h.1)); replace BK658 := Aside0.mk (KeepBut.blk hk (g' := gb658) (o := .cells #[.slice A1_0 l1_0.length c1_0] 30 (0, 0)) (y17 NB658_665.out BK658.out) NB658_0.out (by simp)); replace BK659 := Aside0.mk (KeepBut.blk hk (g' := gb659) (o := .cells #[.int .i64 0, .slice none 0 0] 55 (0, 0)) (y17 NB659_665.out BK659.out) NB659_0.out (by simp)); replace HO663 := Aside0.mk (Kd.N_mono (Kd.N_keep (Kd.N_mono (ok := fun k_ => ((((P1_0_ k_ ∨ w.heap.size ≤ k_)) ∧ (k_ ≠ gb658 ∧ (k_ ≠ gb659 ∧ k_ ≠ g))) ∧ k_ ≠ gb665)) (by (with_reducible repeat (first | apply Kd.N_alloc | apply Kd.N_drewN | apply Kd.N_drew)); exact (Kd.N_mono (Kd.N_far (p := ⟨gb665, 1, none⟩) (Kd.N_far (p := ⟨gb665, 0, none⟩) (Kd.N_mono HO663.out (fun k_ hk => (⟨hk, hk.2⟩ : _ ∧ k_ ≠ gb665))) (fun _ hk => hk.2) (.int .i64 t660)) (fun _ hk => hk.2) (.slice Ao42 t661.length co42)) (fun _ h_ => h_.1))) (fun k_ hk_ => (⟨hk_, hk_.1.2.2.2⟩ : _ ∧ k_ ≠ g))) hk (fun _ h => h.2)) (fun _ h => h.1)); replace BK665 := Aside0.mk (KeepBut.blk hk (g' := gb665) (o := .cells #[.int .i64 t660, .slice Ao42 t661.length co42] 55 (0, 0)) (by (with_reducible repeat (first | refine blk_drewN ?_ _ | refine blk_drew ?_ | refine blk_alloc ?_ _)); refine blk_put (cs := #[.int .i64 t660, .slice none 0 0]) ?_ 1 _ rfl; (with_reducible repeat (first | refine blk_drewN ?_ _ | refine blk_drew ?_ | refine blk_alloc ?_ _)); apply blk_put (i := 0); (case h => exact y0 BK665.out); (case e => rfl)) NB665_0.out (by simp)); replace HK := Aside0.mk (KeepBut.trans (y32 HK.out GW658.out GW659.out GW665.out) hk (.inl rfl)); replace HB := Aside0.mk (hb); replace HI0 := Aside0.mk (hi); (try clear hb); (try clear hb2); (try clear hk); (try clear hi); have hcz44_0 := zh BK665; have hcz44_1 := zh1 BK665; have hfz44_0 := zfr BK665 0; have hfz44_1 := zfr BK665 1) | ((with_reducible refine gate_builtin (b := .append) (xs := #[.tmp 23, .tmp 25]) rfl ?_); at_builtin; refine Kd.N_append k55 w.heap.size rfl (.tmp 23) (.tmp 25) 53 55 (.agg #[(.int .i64 0), (.slice none 0 0)]) 32 rfl Try.underlying53 info55 rfl (by decide) (by omega) (.slice Ao42 t661.length co42) t661 (⟨0, ([] : List (S55))⟩ : S55) [.int .i64 0, .slice none 0 0] (fun k_ => (P1_0_ k_ ∨ w.heap.size ≤ k_) ∧ k_ ≠ gb658 ∧ k_ ≠ gb659 ∧ k_ ≠ gb665 ∧ k_ ≠ g) (fun k_ => ((fun k_ => (P1_0_ k_ ∨ w.heap.size ≤ k_) ∧ k_ ≠ gb658 ∧ k_ ≠ gb659 ∧ k_ ≠ gb665 ∧ k_ ≠ g)) k_ ∧ some k_ ≠ (.slice Ao42 t661.length co42 : Value).ownBlock) rfl rfl ?aP (fun _ hk => hk) ?aF ?aO (Below.refl _ _) ?aS ?aL ?_; (case aP => exact (k55_mkF _ _ (⟨0, ([] : List (S55))⟩ : S55) (Nat.le_refl _) (Kd.F_nil _ _ _))); (case aF => exact (fun k_ hk => ⟨(.inr (Nat.le_trans (keep_size (w := w) (g := g) (row := none) (y32 HK.out GW658.out GW659.out GW665.out)) hk)), Kd.freshB (g := gb658) (o := .cells #[.slice A1_0 l1_0.length c1_0] 30 (0, 0)) (y0 BK658.out) k_ hk, Kd.freshB (g := gb659) (o := .cells #[.int .i64 0, .slice none 0 0] 55 (0, 0)) (y0 BK659.out) k_ hk, Kd.freshB (g := gb665) (o := .cells #[.int .i64 t660, .slice Ao42 t661.length co42] 55 (0, 0)) (y0 BK665.out) k_ hk, IsS95.fresh (y28 HI0.out NB0_658.out NB0_659.out NB0_665.out) k_ hk⟩)); (case aO => exact (y75 HO663.out)); (case aS => exact (keep_size (w := w) (g := g) (row := none) (y32 HK.out GW658.out GW659.out GW665.out))); (case aL => exact y46 LMc30.out); intro v675 w45 ho hb hg hat; rw [← Ny674.out] at ho; replace HO1_0 := Aside0.mk (Kd.V_afterv (ok := (fun k_ => (P1_0_ k_ ∨ w.heap.size ≤ k_) ∧ k_ ≠ g ∧ k_ ≠ gb658 ∧ k_ ≠ gb659 ∧ k_ ≠ gb665)) (by (with_reducible repeat (first | apply Kd.V_alloc | apply Kd.V_drewN | apply Kd.V_drew)); exact Kd.V_mono HO1_0.out (fun _ hk => ⟨⟨hk.1.1.1.1.1, ⟨hk.1.1.1.1.2, ⟨hk.1.1.1.2, ⟨hk.1.1.2, hk.2⟩⟩⟩⟩, hk.1.2⟩)) hg hat); replace BK658 := Aside0.mk (blk_grown (g := gb658) (o := .cells #[.slice A1_0 l1_0.length c1_0] 30 (0, 0)) (y0 BK658.out) hg (Kd.N_ne HO663.out BK658.out (by decide))); replace BK659 := Aside0.mk (blk_grown (g := gb659) (o := .cells #[.int .i64 0, .slice none 0 0] 55 (0, 0)) (y0 BK659.out) hg (Kd.N_away HO663.out (fun _ hk => hk.1.2.2.1))); replace BK665 := Aside0.mk (blk_grown (g := gb665) (o := .cells #[.int .i64 t660, .slice Ao42 t661.length co42] 55 (0, 0)) (y0 BK665.out) hg (Kd.N_away HO663.out (fun _ hk => hk.2))); replace HB := Aside0.mk (below_weaken (y22 HB.out HI0.out GE658.out GE659.out GE665.out) HL.out hb); replace HI0 := Aside0.mk (IsS95.grown (y28 HI0.out NB0_658.out NB0_659.out NB0_665.out) hg (IsS95.own_neN HI0.out HO663.out (by decide))); replace HK := Aside0.mk (KeepBut.trans (y32 HK.out GW658.out GW659.out GW665.out) (KeepBut.of_grown hg g) (Kd.N_base2 HO663.out)); have HO676 := Aside0.mk (ho); clear HO663; clear ho hb hg hat; obtain ⟨Ao46, co46, eo46⟩ := Kd.N_slice HO676.out; subst eo46; have hcz47_0 := zh BK665; have hcz47_1 := zh1 BK665; have hfz47_0 := zfr BK665 0; have hfz47_1 := zfr BK665 1; have hnb48 := NB659_0.out; have hnc48 := NB0_659.out; have hcz49_0 := zh BK659; have hcz49_1 := zh1 BK659; have hfz49_0 := zfr BK659 0; have hfz49_1 := zfr BK659 1))
    refine bodyPost_ret (results_cell_row rfl _ _ gb659 55 #[.int .i64 t660, .slice Ao46 y674.length co46] (0, 0) _ rfl (by (with_reducible repeat (first | refine blk_drewN ?_ _ | refine blk_drew ?_ | refine blk_alloc ?_ _)); refine blk_put (cs := #[.int .i64 t660, .slice none 0 0]) ?_ 1 _ rfl; (with_reducible repeat (first | refine blk_drewN ?_ _ | refine blk_drew ?_ | refine blk_alloc ?_ _)); refine blk_put (cs := #[.int .i64 0, .slice none 0 0]) ?_ 0 _ rfl; (with_reducible repeat (first | refine blk_drewN ?_ _ | refine blk_drew ?_ | refine blk_alloc ?_ _)); refine blk_far ?_ NB659_665.out _; (with_reducible repeat (first | refine blk_drewN ?_ _ | refine blk_drew ?_ | refine blk_alloc ?_ _)); exact BK659.out) Try.underlying55 rfl (by kernel_rfl)) rfl ?_
    exact ⟨_, y14, (by (with_reducible repeat (first | apply Kd.N_alloc | apply Kd.N_drewN | apply Kd.N_drew)); exact Kd.N_mono (Kd.N_far (p := ⟨gb659, 1, none⟩) (Kd.N_far (p := ⟨gb659, 0, none⟩) (Kd.N_far (p := ⟨gb665, 1, none⟩) (Kd.N_mono (Kd.N_mono HO676.out (fun k_ hk => (⟨hk, hk.2.2.2.1⟩ : _ ∧ k_ ≠ gb665))) (fun k_ hk => (⟨hk, hk.1.2.2.1⟩ : _ ∧ k_ ≠ gb659))) (fun _ hk => hk.1.2) (.slice Ao46 y674.length co46)) (fun _ hk => hk.2) (.int .i64 t660)) (fun _ hk => hk.2) (.slice Ao46 y674.length co46)) (fun _ hk => hk.1.1.1)), (y28 HI0.out NB0_658.out NB0_659.out NB0_665.out), (y22 HB.out HI0.out GE658.out GE659.out GE665.out), (y32 HK.out GW658.out GW659.out GW665.out)⟩
   ·rw [if_neg c30] at H
    exact absurd H (by simp)
  ·rw [if_neg c29] at H
   have c29b0 : (t666 == 1) = false := beq_eq_false_iff_ne.mpr c29
   have c29b1 : (t666 != 1) = true := bne_iff_ne.mpr c29
   by_cases c50 : t666 = 2
   ·rw [if_pos c50] at H
    have c50b0 : (t666 == 2) = true := beq_iff_eq.mpr c50
    have c50b1 : (t666 != 2) = false := bne_eq_false_iff_eq.mpr c50
    clear c50
    have H' := Aside0.mk H
    clear H
    go_enter Try.func68, Try.ntmps68
    go_wp2_with (first | ((with_reducible refine gate_dst (N := 3) rfl ?_); refine zbx 3 #[.slice A1_0 l1_0.length c1_0] 30 ?_; intro gb658 hg w51 hbox hb; replace HO1_0 := Aside0.mk (Kd.V_below (Kd.V_elderB (y13 HO1_0.out) gb658 (Nat.le_of_eq hg.symm)) hb); replace HB := Aside0.mk (below_step (y33 HB.out HI0.out) hb); have BK658 := Aside0.mk hbox; have GW658 := Aside0.mk ((by rw [hg]; exact (keep_size (w := w) (g := g) (row := none) (y25 HK.out)) : w.heap.size ≤ gb658)); have GE658 := Aside0.mk ((Nat.le_trans HW0.out (by rw [hg]; exact (keep_size (w := w) (g := g) (row := none) (y25 HK.out)) : w.heap.size ≤ gb658) : w0.heap.size ≤ gb658)); replace HK := Aside0.mk (KeepBut.trans (y25 HK.out) (KeepBut.of_below hb g none) (.inl rfl)); have NB0_658 := Aside0.mk ((by rw [hg]; exact Nat.ne_of_lt (IsS95.lt (show IsS95 w0 _ g s0_0 s0_1 from by repeat (first | (with_reducible first | exact HI0.out | apply IsS95.alloc | apply IsS95.drewN | apply IsS95.drew | apply IsS95.set_1) | exact HI0.out))) : g ≠ gb658)); have NB658_0 := Aside0.mk ((by rw [hg]; exact Nat.ne_of_gt (IsS95.lt (show IsS95 w0 _ g s0_0 s0_1 from by repeat (first | (with_reducible first | exact HI0.out | apply IsS95.alloc | apply IsS95.drewN | apply IsS95.drew | apply IsS95.set_1) | exact HI0.out))) : gb658 ≠ g)); replace HI0 := Aside0.mk (IsS95.below (y35 HI0.out) hb); clear hb hbox hg) | ((with_reducible refine gate_dst (N := 4) rfl ?_); refine zbx 4 #[.int .i64 0, .slice none 0 0] 55 ?_; intro gb659 hg w52 hbox hb; replace HO1_0 := Aside0.mk (Kd.V_below (Kd.V_elderB (y13 HO1_0.out) gb659 (Nat.le_of_eq hg.symm)) hb); replace HB := Aside0.mk (below_step (y23 HB.out HI0.out GE658.out) hb); have BK659 := Aside0.mk hbox; have GW659 := Aside0.mk ((by rw [hg]; exact (keep_size (w := w) (g := g) (row := none) (y18 HK.out GW658.out)) : w.heap.size ≤ gb659)); have GE659 := Aside0.mk ((Nat.le_trans HW0.out (by rw [hg]; exact (keep_size (w := w) (g := g) (row := none) (y18 HK.out GW658.out)) : w.heap.size ≤ gb659) : w0.heap.size ≤ gb659)); replace HK := Aside0.mk (KeepBut.trans (y18 HK.out GW658.out) (KeepBut.of_below hb g none) (.inl rfl)); have NB658_659 := zltn hg BK658; have NB659_658 := zgtn hg BK658; replace BK658 := zbb BK658 hb; have NB0_659 := Aside0.mk ((by rw [hg]; exact Nat.ne_of_lt (IsS95.lt (show IsS95 w0 _ g s0_0 s0_1 from by repeat (first | (with_reducible first | exact HI0.out | apply IsS95.alloc | apply IsS95.drewN | apply IsS95.drew | apply IsS95.set_1 | refine IsS95.far ?_ NB0_658.out _) | exact HI0.out))) : g ≠ gb659)); have NB659_0 := Aside0.mk ((by rw [hg]; exact Nat.ne_of_gt (IsS95.lt (show IsS95 w0 _ g s0_0 s0_1 from by repeat (first | (with_reducible first | exact HI0.out | apply IsS95.alloc | apply IsS95.drewN | apply IsS95.drew | apply IsS95.set_1 | refine IsS95.far ?_ NB0_658.out _) | exact HI0.out))) : gb659 ≠ g)); replace HI0 := Aside0.mk (IsS95.below (y24 HI0.out NB0_658.out) hb); clear hb hbox hg; have hnb53 := NB658_659.out; have hnc53 := NB659_658.out; have hnb54 := NB658_0.out; have hnc54 := NB0_658.out; have hcz55_0 := zh BK658; have hfz55_0 := zfr BK658 0) | ((with_reducible refine gate_callee (f := 87) rfl ?_); refine goesL_ (some 9) rfl rfl Try.func87 (by kernel_rfl) rfl #[.pointer (some ⟨g, 0, none⟩), .agg #[.slice A1_0 l1_0.length c1_0]] rfl y4 ?_; (with_reducible refine (spec_l71Val.calls k g s0_0 s0_1 (fun k_ => ((((P1_0_ k_ ∨ w.heap.size ≤ k_) ∧ k_ ≠ g) ∧ k_ ≠ gb658) ∧ k_ ≠ gb659)) _ _ l1_0 t660 t661 t664 w0 _ ?side1 ?side2 ?side3 A3.out).mono ?_); (case side1 => exact y15 HI0.out NB0_658.out NB0_659.out); (case side2 => exact y12 HB.out HI0.out GE658.out GE659.out); (case side3 => exact y80 HO1_0.out); rintro e w56 ⟨v662, rfl, ho0, hi, hb, hk⟩; refine ⟨_, rfl, ?_⟩; replace HO1_0 := Aside0.mk (Kd.V_mono (Kd.V_told (Kd.V_oldK (Kd.V_mono (ok := fun k_ => (((((P1_0_ k_ ∨ w.heap.size ≤ k_)) ∧ k_ ≠ g) ∧ k_ ≠ gb658) ∧ k_ ≠ gb659)) (y13 HO1_0.out) (fun k_ hk_ => (⟨hk_, hk_.1.1.2⟩ : _ ∧ k_ ≠ g))) hk) (Kd.N_base ho0)) (fun _ h_ => h_.1)); have HO663 := Aside0.mk (Kd.N_lower (Kd.N_mono (ok' := fun k_ => (P1_0_ k_ ∨ w.heap.size ≤ k_) ∧ k_ ≠ gb658 ∧ k_ ≠ gb659 ∧ k_ ≠ g) ho0 (fun k_ hk_ => ⟨Or.elim hk_ (fun hs_ => hs_.1.1.1) (fun hn_ => (.inr (Nat.le_trans (keep_size (w := w) (g := g) (row := none) (y11 HK.out GW658.out GW659.out)) hn_))), Or.elim hk_ (fun hs_ => hs_.1.2) (fun hn_ => (Kd.freshB (g := gb658) (o := .cells #[.slice A1_0 l1_0.length c1_0] 30 (0, 0)) (y0 BK658.out) k_ hn_)), Or.elim hk_ (fun hs_ => hs_.2) (fun hn_ => (Kd.freshB (g := gb659) (o := .cells #[.int .i64 0, .slice none 0 0] 55 (0, 0)) (y0 BK659.out) k_ hn_)), Or.elim hk_ (fun hs_ => hs_.1.1.2) (fun hn_ => (IsS95.fresh (y15 HI0.out NB0_658.out NB0_659.out) k_ hn_))⟩)) (keep_size (w := w) (g := g) (row := none) (y11 HK.out GW658.out GW659.out))); replace BK658 := Aside0.mk (KeepBut.blk hk (g' := gb658) (o := .cells #[.slice A1_0 l1_0.length c1_0] 30 (0, 0)) (y0 BK658.out) NB658_0.out (by simp)); replace BK659 := Aside0.mk (KeepBut.blk hk (g' := gb659) (o := .cells #[.int .i64 0, .slice none 0 0] 55 (0, 0)) (y0 BK659.out) NB659_0.out (by simp)); replace HK := Aside0.mk (KeepBut.trans (y11 HK.out GW658.out GW659.out) hk (.inl rfl)); replace HB := Aside0.mk (hb); replace HI0 := Aside0.mk (hi); (try clear hb); (try clear hb2); (try clear hk); (try clear hi); (try clear ho0)) | ((with_reducible refine gate_dst (N := 5) rfl ?_); refine zbx 5 #[.int .i64 0, .slice none 0 0] 55 ?_; intro gb665 hg w57 hbox hb; replace HO1_0 := Aside0.mk (Kd.V_below (Kd.V_elderB (y13 HO1_0.out) gb665 (Nat.le_of_eq hg.symm)) hb); replace HO663 := Aside0.mk (Kd.N_below (Kd.N_elderB (y9 HO663.out) gb665 (Nat.le_of_eq hg.symm)) hb); replace HB := Aside0.mk (below_step (y12 HB.out HI0.out GE658.out GE659.out) hb); have BK665 := Aside0.mk hbox; have GW665 := Aside0.mk ((by rw [hg]; exact (keep_size (w := w) (g := g) (row := none) (y11 HK.out GW658.out GW659.out)) : w.heap.size ≤ gb665)); have GE665 := Aside0.mk ((Nat.le_trans HW0.out (by rw [hg]; exact (keep_size (w := w) (g := g) (row := none) (y11 HK.out GW658.out GW659.out)) : w.heap.size ≤ gb665) : w0.heap.size ≤ gb665)); replace HK := Aside0.mk (KeepBut.trans (y11 HK.out GW658.out GW659.out) (KeepBut.of_below hb g none) (.inl rfl)); have NB658_665 := zltn hg BK658; have NB665_658 := zgtn hg BK658; replace BK658 := zbb BK658 hb; have NB659_665 := zltn hg BK659; have NB665_659 := zgtn hg BK659; replace BK659 := zbb BK659 hb; have NB0_665 := Aside0.mk ((by rw [hg]; exact Nat.ne_of_lt (IsS95.lt (show IsS95 w0 _ g s0_0 t664 from by repeat (first | (with_reducible first | exact HI0.out | apply IsS95.alloc | apply IsS95.drewN | apply IsS95.drew | apply IsS95.set_1 | refine IsS95.far ?_ NB0_658.out _ | refine IsS95.far ?_ NB0_659.out _) | exact HI0.out))) : g ≠ gb665)); have NB665_0 := Aside0.mk ((by rw [hg]; exact Nat.ne_of_gt (IsS95.lt (show IsS95 w0 _ g s0_0 t664 from by repeat (first | (with_reducible first | exact HI0.out | apply IsS95.alloc | apply IsS95.drewN | apply IsS95.drew | apply IsS95.set_1 | refine IsS95.far ?_ NB0_658.out _ | refine IsS95.far ?_ NB0_659.out _) | exact HI0.out))) : gb665 ≠ g)); replace HI0 := Aside0.mk (IsS95.below (y15 HI0.out NB0_658.out NB0_659.out) hb); clear hb hbox hg; have hnb58 := NB665_658.out; have hnc58 := NB658_665.out; have hnb59 := NB665_659.out; have hnc59 := NB659_665.out; have hnb60 := NB665_0.out; have hnc60 := NB0_665.out; have hcz61_0 := zh BK665; have hcz61_1 := zh1 BK665; have hfz61_0 := zfr BK665 0; have hfz61_1 := zfr BK665 1; obtain ⟨Ao62, co62, eo62⟩ := Kd.N_slice HO663.out; subst eo62) | ((with_reducible refine gate_callee (f := 58) rfl ?_); refine goesL_ (some 11) rfl rfl Try.func58 (by kernel_rfl) rfl #[.pointer (some ⟨g, 0, none⟩), .int .i64 12] rfl y4 ?_; (with_reducible refine (spec_l6Rd_pick.calls k g s0_0 t664 12 t666 t667 w0 _ ?side1 ?side2 A4.out).mono ?_); (case side1 => exact y28 HI0.out NB0_658.out NB0_659.out NB0_665.out); (case side2 => exact y22 HB.out HI0.out GE658.out GE659.out GE665.out); rintro e w63 ⟨rfl, hi, hb, hk⟩; refine ⟨_, rfl, ?_⟩; replace HO1_0 := Aside0.mk (Kd.V_mono (Kd.V_keep (Kd.V_mono (ok := fun k_ => (((((((P1_0_ k_ ∨ w.heap.size ≤ k_)) ∧ k_ ≠ g) ∧ k_ ≠ gb658) ∧ k_ ≠ gb659) ∧ some k_ ≠ (.slice Ao62 t661.length co62 : Value).ownBlock) ∧ k_ ≠ gb665)) (by (with_reducible repeat (first | apply Kd.V_alloc | apply Kd.V_drewN | apply Kd.V_drew)); exact (Kd.V_mono (Kd.V_far (p := ⟨gb665, 1, none⟩) (Kd.V_far (p := ⟨gb665, 0, none⟩) (Kd.V_mono HO1_0.out (fun k_ hk => (⟨hk, hk.2⟩ : _ ∧ k_ ≠ gb665))) (fun _ hk => hk.2) (.int .i64 t660)) (fun _ hk => hk.2) (.slice Ao62 t661.length co62)) (fun _ h_ => h_.1))) (fun k_ hk_ => (⟨hk_, hk_.1.1.1.1.2⟩ : _ ∧ k_ ≠ g))) hk (fun _ h => h.2)) (fun _ h => h.1)); replace BK658 := Aside0.mk (KeepBut.blk hk (g' := gb658) (o := .cells #[.slice A1_0 l1_0.length c1_0] 30 (0, 0)) (y17 NB658_665.out BK658.out) NB658_0.out (by simp)); replace BK659 := Aside0.mk (KeepBut.blk hk (g' := gb659) (o := .cells #[.int .i64 0, .slice none 0 0] 55 (0, 0)) (y17 NB659_665.out BK659.out) NB659_0.out (by simp)); replace HO663 := Aside0.mk (Kd.N_mono (Kd.N_keep (Kd.N_mono (ok := fun k_ => ((((P1_0_ k_ ∨ w.heap.size ≤ k_)) ∧ (k_ ≠ gb658 ∧ (k_ ≠ gb659 ∧ k_ ≠ g))) ∧ k_ ≠ gb665)) (by (with_reducible repeat (first | apply Kd.N_alloc | apply Kd.N_drewN | apply Kd.N_drew)); exact (Kd.N_mono (Kd.N_far (p := ⟨gb665, 1, none⟩) (Kd.N_far (p := ⟨gb665, 0, none⟩) (Kd.N_mono HO663.out (fun k_ hk => (⟨hk, hk.2⟩ : _ ∧ k_ ≠ gb665))) (fun _ hk => hk.2) (.int .i64 t660)) (fun _ hk => hk.2) (.slice Ao62 t661.length co62)) (fun _ h_ => h_.1))) (fun k_ hk_ => (⟨hk_, hk_.1.2.2.2⟩ : _ ∧ k_ ≠ g))) hk (fun _ h => h.2)) (fun _ h => h.1)); replace BK665 := Aside0.mk (KeepBut.blk hk (g' := gb665) (o := .cells #[.int .i64 t660, .slice Ao62 t661.length co62] 55 (0, 0)) (by (with_reducible repeat (first | refine blk_drewN ?_ _ | refine blk_drew ?_ | refine blk_alloc ?_ _)); refine blk_put (cs := #[.int .i64 t660, .slice none 0 0]) ?_ 1 _ rfl; (with_reducible repeat (first | refine blk_drewN ?_ _ | refine blk_drew ?_ | refine blk_alloc ?_ _)); apply blk_put (i := 0); (case h => exact y0 BK665.out); (case e => rfl)) NB665_0.out (by simp)); replace HK := Aside0.mk (KeepBut.trans (y32 HK.out GW658.out GW659.out GW665.out) hk (.inl rfl)); replace HB := Aside0.mk (hb); replace HI0 := Aside0.mk (hi); (try clear hb); (try clear hb2); (try clear hk); (try clear hi)))
    go_loopg [6] k (fun kq v6 w' => ∃ (x6_1 : Int) (x666000_1 : Int) (x666001_1 : List (S55)) (u666001 : Value), v6 = .int .i64 x6_1 ∧ Aside0 (spec_l71Bad.l0 kq x6_1 s0_0 t667 x666000_1 x666001_1 = some (r1, r2, r3)) ∧ Aside0 (kq ≤ k) ∧ Aside0 (Kd.V k30 30 w' w.heap.size (fun k_ => (P1_0_ k_ ∨ w.heap.size ≤ k_) ∧ some k_ ≠ (u666001 : Value).ownBlock ∧ k_ ≠ gb658 ∧ k_ ≠ gb659 ∧ k_ ≠ gb665 ∧ k_ ≠ g) (.slice A1_0 l1_0.length c1_0) l1_0) ∧ Aside0 (Kd.N k55 55 w' w.heap.size (fun k_ => (P1_0_ k_ ∨ w.heap.size ≤ k_) ∧ k_ ≠ gb658 ∧ k_ ≠ gb659 ∧ k_ ≠ gb665 ∧ k_ ≠ g) u666001 x666001_1) ∧ Aside0 (w'.heap[gb658]? = some (.cells #[(.slice A1_0 l1_0.length c1_0)] 30 (0, 0))) ∧ Aside0 (w'.heap[gb659]? = some (.cells #[.int .i64 0, (.slice none 0 0)] 55 (0, 0))) ∧ Aside0 (w'.heap[gb665]? = some (.cells #[.int .i64 x666000_1, u666001] 55 (0, 0))) ∧ Aside0 (IsS95 w0 w' g s0_0 t667) ∧ Aside0 (KeepBut w w' g none) ∧ Aside0 (Below w0.heap.size w0 w'))
    case atStart => exact ⟨(0), (t660), (t661), (.slice Ao62 t661.length co62), y26, H', ⟨Nat.le_refl _⟩, ⟨(by (with_reducible repeat (first | apply Kd.V_alloc | apply Kd.V_drewN | apply Kd.V_drew)); exact Kd.V_mono HO1_0.out (fun _ hk => ⟨hk.1.1.1.1.1, ⟨hk.1.2, ⟨hk.1.1.1.2, ⟨hk.1.1.2, ⟨hk.2, hk.1.1.1.1.2⟩⟩⟩⟩⟩))⟩, ⟨(y75 HO663.out)⟩, ⟨(y0 BK658.out)⟩, ⟨(y0 BK659.out)⟩, ⟨(y0 BK665.out)⟩, ⟨(y28 HI0.out NB0_658.out NB0_659.out NB0_665.out)⟩, ⟨(y32 HK.out GW658.out GW659.out GW665.out)⟩, ⟨(y22 HB.out HI0.out GE658.out GE659.out GE665.out)⟩⟩
    case round =>
     clear H'
     try clear c1
     try clear c2
     try clear p2
     try clear c3
     try clear c4
     try clear c5
     try clear c5b0
     try clear c5b1
     try clear c6
     try clear p6
     try clear q6
     try clear hx6
     try clear c7
     try clear c7b0
     try clear c8
     try clear c8b0
     try clear c11
     try clear c12
     try clear c16
     try clear c17
     try clear c18
     try clear c27
     try clear c29
     try clear c29b0
     try clear c29b1
     try clear c30
     try clear c33
     try clear c34
     try clear c38
     try clear c39
     try clear c40
     try clear c48
     try clear c50
     try clear c50b0
     try clear c50b1
     try clear c53
     try clear c54
     try clear c58
     try clear c59
     try clear c60
     try clear hcz13_0
     try clear hcz19_0
     try clear hcz19_1
     try clear hcz26_0
     try clear hcz26_1
     try clear hcz28_0
     try clear hcz28_1
     try clear hcz35_0
     try clear hcz41_0
     try clear hcz41_1
     try clear hcz44_0
     try clear hcz44_1
     try clear hcz47_0
     try clear hcz47_1
     try clear hcz49_0
     try clear hcz49_1
     try clear hcz55_0
     try clear hcz61_0
     try clear hcz61_1
     try clear hfz13_0
     try clear hfz19_0
     try clear hfz19_1
     try clear hfz26_0
     try clear hfz26_1
     try clear hfz28_0
     try clear hfz28_1
     try clear hfz35_0
     try clear hfz41_0
     try clear hfz41_1
     try clear hfz44_0
     try clear hfz44_1
     try clear hfz47_0
     try clear hfz47_1
     try clear hfz49_0
     try clear hfz49_1
     try clear hfz55_0
     try clear hfz61_0
     try clear hfz61_1
     try clear hx673_0
     try clear p673
     try clear q673
     obtain ⟨x6_1, x666000_1, x666001_1, u666001, rfl, HA, HK1, HO_659000, HO_666001, BK658, BK659, BK665, HI0, HK, HB⟩ := hrel
     cases gk with
     | zero => exact absurd HA.out (by simp [spec_l71Bad.l0])
     | succ k1 =>
      have H := HA.out
      clear HA
      simp only [spec_l71Bad.l0] at H
      by_cases c64 : x6_1 < 5
      ·rw [if_pos c64] at H
       have c64b0 : decide (x6_1 < 5) = true := decide_eq_true c64
       clear c64
       obtain ⟨y677, hy677⟩ : ∃ y_ : List (S55), y_ = (([(⟨x666000_1, x666001_1⟩ : S55), (⟨0, ([] : List (S55))⟩ : S55)] : List (S55))) := ⟨_, rfl⟩
       replace H : (spec_l71Bad.l0 k1 (wrap64 (x6_1 + 1)) s0_0 t667 0 y677) = some (r1, r2, r3) := by first | (rw [hy677]; with_reducible exact H) | (have H2_ := (Option.bind_some _ _).symm.trans H; rw [hy677]; with_reducible exact H2_) | (have H2_ := (Option.bind_some _ _).symm.trans H; with_reducible exact H2_) | with_reducible exact H | (rw [hy677]; exact H) | exact H
       have Ny677 := Aside0.mk hy677
       clear hy677
       have H' := Aside0.mk H
       clear H
       have hnb65 := NB665_658.out
       have hnc65 := NB658_665.out
       have hnb66 := NB665_659.out
       have hnc66 := NB659_665.out
       have hnb67 := NB665_0.out
       have hnc67 := NB0_665.out
       have hcz68_0 := zh BK665
       have hcz68_1 := zh1 BK665
       have hfz68_0 := zfr BK665 0
       have hfz68_1 := zfr BK665 1
       obtain ⟨Ao69, co69, eo69⟩ := Kd.N_slice HO_666001.out
       subst eo69
       go_wp2_with (first | ((with_reducible refine gate_dst (N := 36) rfl ?_); refine Kd.N_lit k55 _ 55 ?hg (N' := 36) ?hd (xs := ([(⟨x666000_1, x666001_1⟩ : S55), (⟨0, ([] : List (S55))⟩ : S55)] : List (S55))) (inner := [.int .i64 x666000_1, .slice Ao69 x666001_1.length co69, .int .i64 0, .slice none 0 0]) (ok := (fun k_ => (P1_0_ k_ ∨ w.heap.size ≤ k_) ∧ k_ ≠ gb658 ∧ k_ ≠ gb659 ∧ k_ ≠ gb665 ∧ k_ ≠ g)) (okp := (fun k_ => (P1_0_ k_ ∨ w.heap.size ≤ k_) ∧ k_ ≠ gb658 ∧ k_ ≠ gb659 ∧ k_ ≠ gb665 ∧ k_ ≠ g)) ?hr ?hp (fun _ hk => hk) ((show ∀ k_, wr.heap.size ≤ k_ → (fun k_ => (P1_0_ k_ ∨ w.heap.size ≤ k_) ∧ k_ ≠ gb658 ∧ k_ ≠ gb659 ∧ k_ ≠ gb665 ∧ k_ ≠ g) k_ from fun k_ hk => ⟨(.inr (Nat.le_trans (keep_size (w := w) (g := g) (row := none) (y32 HK.out GW658.out GW659.out GW665.out)) hk)), Kd.freshB (g := gb658) (o := .cells #[.slice A1_0 l1_0.length c1_0] 30 (0, 0)) (y0 BK658.out) k_ hk, Kd.freshB (g := gb659) (o := .cells #[.int .i64 0, .slice none 0 0] 55 (0, 0)) (y0 BK659.out) k_ hk, Kd.freshB (g := gb665) (o := .cells #[.int .i64 x666000_1, .slice Ao69 x666001_1.length co69] 55 (0, 0)) (y0 BK665.out) k_ hk, IsS95.fresh (y28 HI0.out NB0_658.out NB0_659.out NB0_665.out) k_ hk⟩) _ (Nat.le_refl _)) (Below.refl _ _) (Nat.le_refl _) (by simp) ?_; (case hd => rfl); (case hg => rfl); (case hr => first | (go_simp; done) | (go_simp; rfl)); (case hp => exact (Reps.c2 (show Kd.FK k55 _ _ (⟨x666000_1, x666001_1⟩ : S55) [.int .i64 x666000_1, .slice Ao69 x666001_1.length co69] from (k55_mkF _ _ (⟨x666000_1, x666001_1⟩ : S55) (Kd.N_reads' (Kd.N_mono (ok' := (fun k_ => (P1_0_ k_ ∨ w.heap.size ≤ k_) ∧ k_ ≠ gb658 ∧ k_ ≠ gb659 ∧ k_ ≠ gb665 ∧ k_ ≠ g)) (HO_666001.out) (fun k_ hk => ⟨hk.1, ⟨hk.2.1, ⟨hk.2.2.1, ⟨hk.2.2.2.1, hk.2.2.2.2⟩⟩⟩⟩))).2.1 (Kd.N_F (Kd.N_mono (ok' := (fun k_ => (P1_0_ k_ ∨ w.heap.size ≤ k_) ∧ k_ ≠ gb658 ∧ k_ ≠ gb659 ∧ k_ ≠ gb665 ∧ k_ ≠ g)) (HO_666001.out) (fun k_ hk => ⟨hk.1, ⟨hk.2.1, ⟨hk.2.2.1, ⟨hk.2.2.2.1, hk.2.2.2.2⟩⟩⟩⟩))))) (Reps.c2 (show Kd.FK k55 _ _ (⟨0, ([] : List (S55))⟩ : S55) [.int .i64 0, .slice none 0 0] from (k55_mkF _ _ (⟨0, ([] : List (S55))⟩ : S55) (Nat.le_refl _) (Kd.F_nil _ _ _))) (Reps.none _ _)))); intro v678 w70 ho71 hb hg_ hnew_; clear hg_ hnew_; (first | rw [← Ny677.out] at ho71 | (simp only [Int.reduceToNat] at ho71; rw [← Ny677.out] at ho71)); replace HO_659000 := Aside0.mk (Kd.V_elder' (y13 HO_659000.out) (Kd.N_base ho71) hb); have HO679 := Aside0.mk (Kd.N_lower ho71 (keep_size (w := w) (g := g) (row := none) (y32 HK.out GW658.out GW659.out GW665.out))); replace BK658 := zbb BK658 hb; replace BK659 := zbb BK659 hb; replace BK665 := zbb BK665 hb; replace HK := Aside0.mk (KeepBut.trans (y32 HK.out GW658.out GW659.out GW665.out) (KeepBut.of_below hb g none) (.inl rfl)); replace HB := Aside0.mk (below_step (y22 HB.out HI0.out GE658.out GE659.out GE665.out) hb); replace HI0 := Aside0.mk (IsS95.below (y28 HI0.out NB0_658.out NB0_659.out NB0_665.out) hb); clear HO_666001; clear hb ho71; obtain ⟨Ao72, co72, eo72⟩ := Kd.N_slice HO679.out; subst eo72; have hcz73_0 := zh BK665; have hcz73_1 := zh1 BK665; have hfz73_0 := zfr BK665 0; have hfz73_1 := zfr BK665 1))
       go_roundg k1
       case measure => have := HK1.out; omega
       case rel => exact ⟨(wrap64 (x6_1 + 1)), (0), (y677), (.slice Ao72 y677.length co72), y26, H', ⟨(y46 HK1.out)⟩, ⟨(by (with_reducible repeat (first | apply Kd.V_alloc | apply Kd.V_drewN | apply Kd.V_drew)); exact Kd.V_mono (Kd.V_far (p := ⟨gb665, 1, none⟩) (Kd.V_far (p := ⟨gb665, 0, none⟩) (Kd.V_mono HO_659000.out (fun k_ hk => (⟨hk, hk.1.2.2.2.2.1⟩ : _ ∧ k_ ≠ gb665))) (fun _ hk => hk.2) (.int .i64 0)) (fun _ hk => hk.2) (.slice Ao72 y677.length co72)) (fun _ hk => ⟨hk.1.1.1, ⟨hk.1.2, ⟨hk.1.1.2.2.1, ⟨hk.1.1.2.2.2.1, ⟨hk.1.1.2.2.2.2.1, hk.1.1.2.2.2.2.2⟩⟩⟩⟩⟩))⟩, ⟨(by (with_reducible repeat (first | apply Kd.N_alloc | apply Kd.N_drewN | apply Kd.N_drew)); exact Kd.N_mono (Kd.N_far (p := ⟨gb665, 1, none⟩) (Kd.N_far (p := ⟨gb665, 0, none⟩) (Kd.N_mono HO679.out (fun k_ hk => (⟨hk, hk.2.2.2.1⟩ : _ ∧ k_ ≠ gb665))) (fun _ hk => hk.2) (.int .i64 0)) (fun _ hk => hk.2) (.slice Ao72 y677.length co72)) (fun _ hk => ⟨hk.1.1, ⟨hk.1.2.1, ⟨hk.1.2.2.1, ⟨hk.1.2.2.2.1, hk.1.2.2.2.2⟩⟩⟩⟩))⟩, ⟨(y17 NB658_665.out BK658.out)⟩, ⟨(y17 NB659_665.out BK659.out)⟩, ⟨(by (with_reducible repeat (first | refine blk_drewN ?_ _ | refine blk_drew ?_ | refine blk_alloc ?_ _)); refine blk_put (cs := #[.int .i64 0, .slice Ao69 x666001_1.length co69]) ?_ 1 _ rfl; (with_reducible repeat (first | refine blk_drewN ?_ _ | refine blk_drew ?_ | refine blk_alloc ?_ _)); refine blk_put (cs := #[.int .i64 x666000_1, .slice Ao69 x666001_1.length co69]) ?_ 0 _ rfl; (with_reducible repeat (first | refine blk_drewN ?_ _ | refine blk_drew ?_ | refine blk_alloc ?_ _)); exact BK665.out)⟩, ⟨(y28 HI0.out NB0_658.out NB0_659.out NB0_665.out)⟩, ⟨(y32 HK.out GW658.out GW659.out GW665.out)⟩, ⟨(y22 HB.out HI0.out GE658.out GE659.out GE665.out)⟩⟩
      ·rw [if_neg c64] at H
       have c64b0 : decide (x6_1 < 5) = false := decide_eq_false c64
       clear c64
       simp only [Option.some.injEq, Prod.mk.injEq] at H
       obtain ⟨rfl, rfl, rfl⟩ := H
       have hnb74 := NB665_658.out
       have hnc74 := NB658_665.out
       have hnb75 := NB665_659.out
       have hnc75 := NB659_665.out
       have hnb76 := NB665_0.out
       have hnc76 := NB0_665.out
       have hcz77_0 := zh BK665
       have hcz77_1 := zh1 BK665
       have hfz77_0 := zfr BK665 0
       have hfz77_1 := zfr BK665 1
       have hnb78 := NB659_658.out
       have hnc78 := NB658_659.out
       have hnb79 := NB659_0.out
       have hnc79 := NB0_659.out
       have hcz80_0 := zh BK659
       have hcz80_1 := zh1 BK659
       have hfz80_0 := zfr BK659 0
       have hfz80_1 := zfr BK659 1
       obtain ⟨Ao81, co81, eo81⟩ := Kd.N_slice HO_666001.out
       subst eo81
       go_wp2
       refine bodyPost_ret (results_cell_row rfl _ _ gb659 55 #[.int .i64 x666000_1, .slice Ao81 x666001_1.length co81] (0, 0) _ rfl (by (with_reducible repeat (first | refine blk_drewN ?_ _ | refine blk_drew ?_ | refine blk_alloc ?_ _)); refine blk_put (cs := #[.int .i64 x666000_1, .slice none 0 0]) ?_ 1 _ rfl; (with_reducible repeat (first | refine blk_drewN ?_ _ | refine blk_drew ?_ | refine blk_alloc ?_ _)); apply blk_put (i := 0); (case h => exact y0 BK659.out); (case e => rfl)) Try.underlying55 rfl (by kernel_rfl)) rfl ?_
       exact ⟨_, y14, (by (with_reducible repeat (first | apply Kd.N_alloc | apply Kd.N_drewN | apply Kd.N_drew)); exact Kd.N_mono (Kd.N_far (p := ⟨gb659, 1, none⟩) (Kd.N_far (p := ⟨gb659, 0, none⟩) (Kd.N_mono HO_666001.out (fun k_ hk => (⟨hk, hk.2.2.1⟩ : _ ∧ k_ ≠ gb659))) (fun _ hk => hk.2) (.int .i64 x666000_1)) (fun _ hk => hk.2) (.slice Ao81 x666001_1.length co81)) (fun _ hk => hk.1.1)), (y28 HI0.out NB0_658.out NB0_659.out NB0_665.out), (y22 HB.out HI0.out GE658.out GE659.out GE665.out), (y32 HK.out GW658.out GW659.out GW665.out)⟩
   ·rw [if_neg c50] at H
    have c50b0 : (t666 == 2) = false := beq_eq_false_iff_ne.mpr c50
    have c50b1 : (t666 != 2) = true := bne_iff_ne.mpr c50
    simp only [Option.some.injEq, Prod.mk.injEq] at H
    obtain ⟨rfl, rfl, rfl⟩ := H
    go_enter Try.func68, Try.ntmps68
    go_wp2_with (first | ((with_reducible refine gate_dst (N := 3) rfl ?_); refine zbx 3 #[.slice A1_0 l1_0.length c1_0] 30 ?_; intro gb658 hg w82 hbox hb; replace HO1_0 := Aside0.mk (Kd.V_below (Kd.V_elderB (y13 HO1_0.out) gb658 (Nat.le_of_eq hg.symm)) hb); replace HB := Aside0.mk (below_step (y33 HB.out HI0.out) hb); have BK658 := Aside0.mk hbox; have GW658 := Aside0.mk ((by rw [hg]; exact (keep_size (w := w) (g := g) (row := none) (y25 HK.out)) : w.heap.size ≤ gb658)); have GE658 := Aside0.mk ((Nat.le_trans HW0.out (by rw [hg]; exact (keep_size (w := w) (g := g) (row := none) (y25 HK.out)) : w.heap.size ≤ gb658) : w0.heap.size ≤ gb658)); replace HK := Aside0.mk (KeepBut.trans (y25 HK.out) (KeepBut.of_below hb g none) (.inl rfl)); have NB0_658 := Aside0.mk ((by rw [hg]; exact Nat.ne_of_lt (IsS95.lt (show IsS95 w0 _ g s0_0 s0_1 from by repeat (first | (with_reducible first | exact HI0.out | apply IsS95.alloc | apply IsS95.drewN | apply IsS95.drew | apply IsS95.set_1) | exact HI0.out))) : g ≠ gb658)); have NB658_0 := Aside0.mk ((by rw [hg]; exact Nat.ne_of_gt (IsS95.lt (show IsS95 w0 _ g s0_0 s0_1 from by repeat (first | (with_reducible first | exact HI0.out | apply IsS95.alloc | apply IsS95.drewN | apply IsS95.drew | apply IsS95.set_1) | exact HI0.out))) : gb658 ≠ g)); replace HI0 := Aside0.mk (IsS95.below (y35 HI0.out) hb); clear hb hbox hg) | ((with_reducible refine gate_dst (N := 4) rfl ?_); refine zbx 4 #[.int .i64 0, .slice none 0 0] 55 ?_; intro gb659 hg w83 hbox hb; replace HO1_0 := Aside0.mk (Kd.V_below (Kd.V_elderB (y13 HO1_0.out) gb659 (Nat.le_of_eq hg.symm)) hb); replace HB := Aside0.mk (below_step (y23 HB.out HI0.out GE658.out) hb); have BK659 := Aside0.mk hbox; have GW659 := Aside0.mk ((by rw [hg]; exact (keep_size (w := w) (g := g) (row := none) (y18 HK.out GW658.out)) : w.heap.size ≤ gb659)); have GE659 := Aside0.mk ((Nat.le_trans HW0.out (by rw [hg]; exact (keep_size (w := w) (g := g) (row := none) (y18 HK.out GW658.out)) : w.heap.size ≤ gb659) : w0.heap.size ≤ gb659)); replace HK := Aside0.mk (KeepBut.trans (y18 HK.out GW658.out) (KeepBut.of_below hb g none) (.inl rfl)); have NB658_659 := zltn hg BK658; have NB659_658 := zgtn hg BK658; replace BK658 := zbb BK658 hb; have NB0_659 := Aside0.mk ((by rw [hg]; exact Nat.ne_of_lt (IsS95.lt (show IsS95 w0 _ g s0_0 s0_1 from by repeat (first | (with_reducible first | exact HI0.out | apply IsS95.alloc | apply IsS95.drewN | apply IsS95.drew | apply IsS95.set_1 | refine IsS95.far ?_ NB0_658.out _) | exact HI0.out))) : g ≠ gb659)); have NB659_0 := Aside0.mk ((by rw [hg]; exact Nat.ne_of_gt (IsS95.lt (show IsS95 w0 _ g s0_0 s0_1 from by repeat (first | (with_reducible first | exact HI0.out | apply IsS95.alloc | apply IsS95.drewN | apply IsS95.drew | apply IsS95.set_1 | refine IsS95.far ?_ NB0_658.out _) | exact HI0.out))) : gb659 ≠ g)); replace HI0 := Aside0.mk (IsS95.below (y24 HI0.out NB0_658.out) hb); clear hb hbox hg; have hnb84 := NB658_659.out; have hnc84 := NB659_658.out; have hnb85 := NB658_0.out; have hnc85 := NB0_658.out; have hcz86_0 := zh BK658; have hfz86_0 := zfr BK658 0) | ((with_reducible refine gate_callee (f := 87) rfl ?_); refine goesL_ (some 9) rfl rfl Try.func87 (by kernel_rfl) rfl #[.pointer (some ⟨g, 0, none⟩), .agg #[.slice A1_0 l1_0.length c1_0]] rfl y4 ?_; (with_reducible refine (spec_l71Val.calls k g s0_0 s0_1 (fun k_ => ((((P1_0_ k_ ∨ w.heap.size ≤ k_) ∧ k_ ≠ g) ∧ k_ ≠ gb658) ∧ k_ ≠ gb659)) _ _ l1_0 t660 t661 t664 w0 _ ?side1 ?side2 ?side3 A3.out).mono ?_); (case side1 => exact y15 HI0.out NB0_658.out NB0_659.out); (case side2 => exact y12 HB.out HI0.out GE658.out GE659.out); (case side3 => exact y80 HO1_0.out); rintro e w87 ⟨v662, rfl, ho0, hi, hb, hk⟩; refine ⟨_, rfl, ?_⟩; replace HO1_0 := Aside0.mk (Kd.V_mono (Kd.V_told (Kd.V_oldK (Kd.V_mono (ok := fun k_ => (((((P1_0_ k_ ∨ w.heap.size ≤ k_)) ∧ k_ ≠ g) ∧ k_ ≠ gb658) ∧ k_ ≠ gb659)) (y13 HO1_0.out) (fun k_ hk_ => (⟨hk_, hk_.1.1.2⟩ : _ ∧ k_ ≠ g))) hk) (Kd.N_base ho0)) (fun _ h_ => h_.1)); have HO663 := Aside0.mk (Kd.N_lower (Kd.N_mono (ok' := fun k_ => (P1_0_ k_ ∨ w.heap.size ≤ k_) ∧ k_ ≠ gb658 ∧ k_ ≠ gb659 ∧ k_ ≠ g) ho0 (fun k_ hk_ => ⟨Or.elim hk_ (fun hs_ => hs_.1.1.1) (fun hn_ => (.inr (Nat.le_trans (keep_size (w := w) (g := g) (row := none) (y11 HK.out GW658.out GW659.out)) hn_))), Or.elim hk_ (fun hs_ => hs_.1.2) (fun hn_ => (Kd.freshB (g := gb658) (o := .cells #[.slice A1_0 l1_0.length c1_0] 30 (0, 0)) (y0 BK658.out) k_ hn_)), Or.elim hk_ (fun hs_ => hs_.2) (fun hn_ => (Kd.freshB (g := gb659) (o := .cells #[.int .i64 0, .slice none 0 0] 55 (0, 0)) (y0 BK659.out) k_ hn_)), Or.elim hk_ (fun hs_ => hs_.1.1.2) (fun hn_ => (IsS95.fresh (y15 HI0.out NB0_658.out NB0_659.out) k_ hn_))⟩)) (keep_size (w := w) (g := g) (row := none) (y11 HK.out GW658.out GW659.out))); replace BK658 := Aside0.mk (KeepBut.blk hk (g' := gb658) (o := .cells #[.slice A1_0 l1_0.length c1_0] 30 (0, 0)) (y0 BK658.out) NB658_0.out (by simp)); replace BK659 := Aside0.mk (KeepBut.blk hk (g' := gb659) (o := .cells #[.int .i64 0, .slice none 0 0] 55 (0, 0)) (y0 BK659.out) NB659_0.out (by simp)); replace HK := Aside0.mk (KeepBut.trans (y11 HK.out GW658.out GW659.out) hk (.inl rfl)); replace HB := Aside0.mk (hb); replace HI0 := Aside0.mk (hi); (try clear hb); (try clear hb2); (try clear hk); (try clear hi); (try clear ho0)) | ((with_reducible refine gate_dst (N := 5) rfl ?_); refine zbx 5 #[.int .i64 0, .slice none 0 0] 55 ?_; intro gb665 hg w88 hbox hb; replace HO1_0 := Aside0.mk (Kd.V_below (Kd.V_elderB (y13 HO1_0.out) gb665 (Nat.le_of_eq hg.symm)) hb); replace HO663 := Aside0.mk (Kd.N_below (Kd.N_elderB (y9 HO663.out) gb665 (Nat.le_of_eq hg.symm)) hb); replace HB := Aside0.mk (below_step (y12 HB.out HI0.out GE658.out GE659.out) hb); have BK665 := Aside0.mk hbox; have GW665 := Aside0.mk ((by rw [hg]; exact (keep_size (w := w) (g := g) (row := none) (y11 HK.out GW658.out GW659.out)) : w.heap.size ≤ gb665)); have GE665 := Aside0.mk ((Nat.le_trans HW0.out (by rw [hg]; exact (keep_size (w := w) (g := g) (row := none) (y11 HK.out GW658.out GW659.out)) : w.heap.size ≤ gb665) : w0.heap.size ≤ gb665)); replace HK := Aside0.mk (KeepBut.trans (y11 HK.out GW658.out GW659.out) (KeepBut.of_below hb g none) (.inl rfl)); have NB658_665 := zltn hg BK658; have NB665_658 := zgtn hg BK658; replace BK658 := zbb BK658 hb; have NB659_665 := zltn hg BK659; have NB665_659 := zgtn hg BK659; replace BK659 := zbb BK659 hb; have NB0_665 := Aside0.mk ((by rw [hg]; exact Nat.ne_of_lt (IsS95.lt (show IsS95 w0 _ g s0_0 t664 from by repeat (first | (with_reducible first | exact HI0.out | apply IsS95.alloc | apply IsS95.drewN | apply IsS95.drew | apply IsS95.set_1 | refine IsS95.far ?_ NB0_658.out _ | refine IsS95.far ?_ NB0_659.out _) | exact HI0.out))) : g ≠ gb665)); have NB665_0 := Aside0.mk ((by rw [hg]; exact Nat.ne_of_gt (IsS95.lt (show IsS95 w0 _ g s0_0 t664 from by repeat (first | (with_reducible first | exact HI0.out | apply IsS95.alloc | apply IsS95.drewN | apply IsS95.drew | apply IsS95.set_1 | refine IsS95.far ?_ NB0_658.out _ | refine IsS95.far ?_ NB0_659.out _) | exact HI0.out))) : gb665 ≠ g)); replace HI0 := Aside0.mk (IsS95.below (y15 HI0.out NB0_658.out NB0_659.out) hb); clear hb hbox hg; have hnb89 := NB665_658.out; have hnc89 := NB658_665.out; have hnb90 := NB665_659.out; have hnc90 := NB659_665.out; have hnb91 := NB665_0.out; have hnc91 := NB0_665.out; have hcz92_0 := zh BK665; have hcz92_1 := zh1 BK665; have hfz92_0 := zfr BK665 0; have hfz92_1 := zfr BK665 1; obtain ⟨Ao93, co93, eo93⟩ := Kd.N_slice HO663.out; subst eo93) | ((with_reducible refine gate_callee (f := 58) rfl ?_); refine goesL_ (some 11) rfl rfl Try.func58 (by kernel_rfl) rfl #[.pointer (some ⟨g, 0, none⟩), .int .i64 12] rfl y4 ?_; (with_reducible refine (spec_l6Rd_pick.calls k g s0_0 t664 12 t666 t667 w0 _ ?side1 ?side2 A4.out).mono ?_); (case side1 => exact y28 HI0.out NB0_658.out NB0_659.out NB0_665.out); (case side2 => exact y22 HB.out HI0.out GE658.out GE659.out GE665.out); rintro e w94 ⟨rfl, hi, hb, hk⟩; refine ⟨_, rfl, ?_⟩; replace HO1_0 := Aside0.mk (Kd.V_mono (Kd.V_keep (Kd.V_mono (ok := fun k_ => (((((((P1_0_ k_ ∨ w.heap.size ≤ k_)) ∧ k_ ≠ g) ∧ k_ ≠ gb658) ∧ k_ ≠ gb659) ∧ some k_ ≠ (.slice Ao93 t661.length co93 : Value).ownBlock) ∧ k_ ≠ gb665)) (by (with_reducible repeat (first | apply Kd.V_alloc | apply Kd.V_drewN | apply Kd.V_drew)); exact (Kd.V_mono (Kd.V_far (p := ⟨gb665, 1, none⟩) (Kd.V_far (p := ⟨gb665, 0, none⟩) (Kd.V_mono HO1_0.out (fun k_ hk => (⟨hk, hk.2⟩ : _ ∧ k_ ≠ gb665))) (fun _ hk => hk.2) (.int .i64 t660)) (fun _ hk => hk.2) (.slice Ao93 t661.length co93)) (fun _ h_ => h_.1))) (fun k_ hk_ => (⟨hk_, hk_.1.1.1.1.2⟩ : _ ∧ k_ ≠ g))) hk (fun _ h => h.2)) (fun _ h => h.1)); replace BK658 := Aside0.mk (KeepBut.blk hk (g' := gb658) (o := .cells #[.slice A1_0 l1_0.length c1_0] 30 (0, 0)) (y17 NB658_665.out BK658.out) NB658_0.out (by simp)); replace BK659 := Aside0.mk (KeepBut.blk hk (g' := gb659) (o := .cells #[.int .i64 0, .slice none 0 0] 55 (0, 0)) (y17 NB659_665.out BK659.out) NB659_0.out (by simp)); replace HO663 := Aside0.mk (Kd.N_mono (Kd.N_keep (Kd.N_mono (ok := fun k_ => ((((P1_0_ k_ ∨ w.heap.size ≤ k_)) ∧ (k_ ≠ gb658 ∧ (k_ ≠ gb659 ∧ k_ ≠ g))) ∧ k_ ≠ gb665)) (by (with_reducible repeat (first | apply Kd.N_alloc | apply Kd.N_drewN | apply Kd.N_drew)); exact (Kd.N_mono (Kd.N_far (p := ⟨gb665, 1, none⟩) (Kd.N_far (p := ⟨gb665, 0, none⟩) (Kd.N_mono HO663.out (fun k_ hk => (⟨hk, hk.2⟩ : _ ∧ k_ ≠ gb665))) (fun _ hk => hk.2) (.int .i64 t660)) (fun _ hk => hk.2) (.slice Ao93 t661.length co93)) (fun _ h_ => h_.1))) (fun k_ hk_ => (⟨hk_, hk_.1.2.2.2⟩ : _ ∧ k_ ≠ g))) hk (fun _ h => h.2)) (fun _ h => h.1)); replace BK665 := Aside0.mk (KeepBut.blk hk (g' := gb665) (o := .cells #[.int .i64 t660, .slice Ao93 t661.length co93] 55 (0, 0)) (by (with_reducible repeat (first | refine blk_drewN ?_ _ | refine blk_drew ?_ | refine blk_alloc ?_ _)); refine blk_put (cs := #[.int .i64 t660, .slice none 0 0]) ?_ 1 _ rfl; (with_reducible repeat (first | refine blk_drewN ?_ _ | refine blk_drew ?_ | refine blk_alloc ?_ _)); apply blk_put (i := 0); (case h => exact y0 BK665.out); (case e => rfl)) NB665_0.out (by simp)); replace HK := Aside0.mk (KeepBut.trans (y32 HK.out GW658.out GW659.out GW665.out) hk (.inl rfl)); replace HB := Aside0.mk (hb); replace HI0 := Aside0.mk (hi); (try clear hb); (try clear hb2); (try clear hk); (try clear hi); have hcz95_0 := zh BK665; have hcz95_1 := zh1 BK665; have hfz95_0 := zfr BK665 0; have hfz95_1 := zfr BK665 1; have hnb96 := NB659_0.out; have hnc96 := NB0_659.out; have hcz97_0 := zh BK659; have hcz97_1 := zh1 BK659; have hfz97_0 := zfr BK659 0; have hfz97_1 := zfr BK659 1))
    refine bodyPost_ret (results_cell_row rfl _ _ gb659 55 #[.int .i64 t660, .slice Ao93 t661.length co93] (0, 0) _ rfl (by (with_reducible repeat (first | refine blk_drewN ?_ _ | refine blk_drew ?_ | refine blk_alloc ?_ _)); refine blk_put (cs := #[.int .i64 t660, .slice none 0 0]) ?_ 1 _ rfl; (with_reducible repeat (first | refine blk_drewN ?_ _ | refine blk_drew ?_ | refine blk_alloc ?_ _)); apply blk_put (i := 0); (case h => exact y0 BK659.out); (case e => rfl)) Try.underlying55 rfl (by kernel_rfl)) rfl ?_
    exact ⟨_, y14, (by (with_reducible repeat (first | apply Kd.N_alloc | apply Kd.N_drewN | apply Kd.N_drew)); exact Kd.N_mono (Kd.N_far (p := ⟨gb659, 1, none⟩) (Kd.N_far (p := ⟨gb659, 0, none⟩) (Kd.N_mono HO663.out (fun k_ hk => (⟨hk, hk.1.2.2.1⟩ : _ ∧ k_ ≠ gb659))) (fun _ hk => hk.2) (.int .i64 t660)) (fun _ hk => hk.2) (.slice Ao93 t661.length co93)) (fun _ hk => hk.1.1.1)), (y28 HI0.out NB0_658.out NB0_659.out NB0_665.out), (y22 HB.out HI0.out GE658.out GE659.out GE665.out), (y32 HK.out GW658.out GW659.out GW665.out)⟩
end Go.Proofs.Ytjhbhihfifhljaa.PA
end
section
namespace Go.Proofs.Ytjhbhihfifhljaa.PA
open Go.RowKit Go.Proofs.YtjhbhihfifhljaaW.PrintWords Go.Proofs.YtjhbhihfifhljaaW.PrintLast Go.Proofs.YtjhbhihfifhljaaW.PrintMore
attribute [local go_sem] max2_int min2_int max_two min_two max_three min_three max_four min_four
set_option linter.unusedVariables false
set_option linter.unusedSimpArgs false
def spec_DrawValOk.f (k : Nat) (l0 : List Int) : Option ((List (S30)) × Int × (List (S55))) := (spec_l6Open.f l0).bind fun bt682 => ((spec_l6Rd_pick.f k bt682.1 bt682.2 4).bind fun bt685 => ((spec_l71Type.f k bt682.1 bt685.2 (wrap64 (1 + bt685.1))).bind fun bt687 => ((spec_l6Rd_pick.f k bt682.1 bt687.2 5).bind fun bt692 => (if bt692.1 = 0 then ((spec_l71Type.f k bt682.1 bt692.2 3).bind fun bt694 => ((spec_l71Bad.f k bt682.1 bt694.2 bt694.1).bind fun bt698 => (some (bt687.1, bt698.1, bt698.2.1)))) else ((spec_l71Bad.f k bt682.1 bt692.2 bt687.1).bind fun bt703 => (some (bt687.1, bt703.1, bt703.2.1)))))))
theorem spec_DrawValOk.mono : ∀ a0 k, LeO (spec_DrawValOk.f k a0) (spec_DrawValOk.f (k + 1) a0) := by
 intro a0 k
 unfold spec_DrawValOk.f
 repeat' first
   | (with_reducible exact spec_l6Rd_pick.mono _ _ _ _)
   | (with_reducible exact spec_l71Bad.mono _ _ _ _)
   | (with_reducible exact spec_l71Type.mono _ _ _ _)
   | (with_reducible exact LeO.refl _)
   | (with_reducible exact LeO.none _)
   | (with_reducible refine LeO.ite ?_ ?_)
   | (with_reducible refine LeO.bind ?_ (fun _ => ?_))
   | exact spec_l6Rd_pick.mono _ _ _ _
   | exact spec_l71Bad.mono _ _ _ _
   | exact spec_l71Type.mono _ _ _ _
   | exact LeO.none _
   | refine LeO.ite ?_ ?_
   | refine LeO.bind ?_ (fun _ => ?_)
set_option maxHeartbeats 8000000 in
set_option maxRecDepth 100000 in
theorem spec_DrawValOk.calls (k : Nat) (A0 : Option Addr) (c0 : Nat) (l0 : List Int) (r1 : List (S30)) (r2 : Int) (r3 : List (S55)) (w : World) (hr0 : Kd.C (Kd.int .u8) w A0 l0.length l0) (hc0 : l0.length ≤ c0) (h : spec_DrawValOk.f k l0 = some (r1, r2, r3)) :
  Calls Try.prog 34 #[.slice A0 l0.length c0] w fun e w' => ∃ v0_ v2_ : Value, e = .returned (.tuple #[.agg #[v0_], .agg #[.int .i64 r2, v2_]]) ∧ Kd.V k30 30 w' w.heap.size (fun k_ => (w.heap.size ≤ k_)) v0_ r1 ∧ Kd.V k55 55 w' w.heap.size (fun k_ => (w.heap.size ≤ k_)) v2_ r3 ∧ Below w.heap.size w w' := by
 have hu30 := Try.underlying30
 have hu55 := Try.underlying55
 have HR0 := Aside0.mk hr0
 have HC0 := Aside0.mk hc0
 clear hr0 hc0
 have HB := Aside0.mk (Below.refl w.heap.size w)
 have H : ((spec_l6Open.f l0).bind fun bt682 => ((spec_l6Rd_pick.f k bt682.1 bt682.2 4).bind fun bt685 => ((spec_l71Type.f k bt682.1 bt685.2 (wrap64 (1 + bt685.1))).bind fun bt687 => ((spec_l6Rd_pick.f k bt682.1 bt687.2 5).bind fun bt692 => (if bt692.1 = 0 then ((spec_l71Type.f k bt682.1 bt692.2 3).bind fun bt694 => ((spec_l71Bad.f k bt682.1 bt694.2 bt694.1).bind fun bt698 => (some (bt687.1, bt698.1, bt698.2.1)))) else ((spec_l71Bad.f k bt682.1 bt692.2 bt687.1).bind fun bt703 => (some (bt687.1, bt703.1, bt703.2.1)))))))) = some (r1, r2, r3) := h
 clear h
 obtain ⟨⟨t682, t683⟩, A20, H⟩ := ob H
 have A2 := Aside0.mk A20
 clear A20
 obtain ⟨⟨t685, t686⟩, A30, H⟩ := ob H
 have A3 := Aside0.mk A30
 clear A30
 obtain ⟨⟨t687, t690⟩, A40, H⟩ := ob H
 have A4 := Aside0.mk A40
 clear A40
 obtain ⟨⟨t692, t693⟩, A50, H⟩ := ob H
 have A5 := Aside0.mk A50
 clear A50
 by_cases c6 : t692 = 0
 ·rw [if_pos c6] at H
  have c6b0 : (t692 == 0) = true := beq_iff_eq.mpr c6
  have c6b1 : (t692 != 0) = false := bne_eq_false_iff_eq.mpr c6
  clear c6
  obtain ⟨⟨t694, t697⟩, A70, H⟩ := ob H
  have A7 := Aside0.mk A70
  clear A70
  obtain ⟨⟨t698, t699, t702⟩, A80, H⟩ := ob H
  have A8 := Aside0.mk A80
  clear A80
  simp only [Option.some.injEq, Prod.mk.injEq] at H
  obtain ⟨rfl, rfl, rfl⟩ := H
  go_enter Try.func34, Try.ntmps34
  try go_wp2_with (first | ((with_reducible refine gate_dst (N := 2) rfl ?_); refine zbx 2 #[.slice none 0 0] 30 ?_; intro gb680 hg w9 hbox hb; have BK680 := Aside0.mk hbox; have GW680 := Aside0.mk ((y5 hg HB.out : w.heap.size ≤ gb680)); have GE680 := Aside0.mk ((y5 hg HB.out : w.heap.size ≤ gb680)); replace HB := Aside0.mk (below_step (y2 HB.out) hb); clear hb hbox hg) | ((with_reducible refine gate_dst (N := 3) rfl ?_); refine zbx 3 #[.int .i64 0, .slice none 0 0] 55 ?_; intro gb681 hg w10 hbox hb; have BK681 := Aside0.mk hbox; have GW681 := Aside0.mk ((y6 hg HB.out GE680.out : w.heap.size ≤ gb681)); have GE681 := Aside0.mk ((y6 hg HB.out GE680.out : w.heap.size ≤ gb681)); replace HB := Aside0.mk (below_step (y3 HB.out GE680.out) hb); have NB680_681 := zltn hg BK680; have NB681_680 := zgtn hg BK680; replace BK680 := zbb BK680 hb; clear hb hbox hg) | ((with_reducible refine gate_callee (f := 52) rfl ?_); refine goesL_ (some 7) rfl rfl Try.func52 (by kernel_rfl) rfl #[.slice A0 l0.length c0] rfl y4 ?_; (with_reducible refine (spec_l6Open.calls _ _ l0 t682 t683 w _ ?side1 ?side2 ?side3 A2.out).mono ?_); (case side1 => exact y1 HB.out GE680.out GE681.out); (case side2 => exact HR0.out); (case side3 => exact HC0.out); rintro e w11 ⟨g684, rfl, hi, hb, hb2⟩; refine ⟨_, rfl, ?_⟩; replace HB := Aside0.mk (hb); have HI684 := Aside0.mk (hi); have NB684_680 := Aside0.mk (IsS95.ne_blk hi (blk_below (g := gb680) (o := .cells #[.slice none 0 0] 30 (0, 0)) (y0 BK680.out) hb2) (by decide)); have NB680_684 := Aside0.mk (Ne.symm (IsS95.ne_blk hi (blk_below (g := gb680) (o := .cells #[.slice none 0 0] 30 (0, 0)) (y0 BK680.out) hb2) (by decide))); replace BK680 := Aside0.mk (blk_below (g := gb680) (o := .cells #[.slice none 0 0] 30 (0, 0)) (y0 BK680.out) hb2); have NB684_681 := Aside0.mk (IsS95.ne_blk hi (blk_below (g := gb681) (o := .cells #[.int .i64 0, .slice none 0 0] 55 (0, 0)) (y0 BK681.out) hb2) (by decide)); have NB681_684 := Aside0.mk (Ne.symm (IsS95.ne_blk hi (blk_below (g := gb681) (o := .cells #[.int .i64 0, .slice none 0 0] 55 (0, 0)) (y0 BK681.out) hb2) (by decide))); replace BK681 := Aside0.mk (blk_below (g := gb681) (o := .cells #[.int .i64 0, .slice none 0 0] 55 (0, 0)) (y0 BK681.out) hb2); (try clear hb); (try clear hb2); (try clear hk); (try clear hi)) | ((with_reducible refine gate_callee (f := 58) rfl ?_); refine goesL_ (some 10) rfl rfl Try.func58 (by kernel_rfl) rfl #[.pointer (some ⟨g684, 0, none⟩), .int .i64 4] rfl y4 ?_; (with_reducible refine (spec_l6Rd_pick.calls k g684 t682 t683 4 t685 t686 w _ ?side1 ?side2 A3.out).mono ?_); (case side1 => exact y15 HI684.out NB684_680.out NB684_681.out); (case side2 => exact y12 HB.out HI684.out GE680.out GE681.out); rintro e w12 ⟨rfl, hi, hb, hk⟩; refine ⟨_, rfl, ?_⟩; replace BK680 := Aside0.mk (KeepBut.blk hk (g' := gb680) (o := .cells #[.slice none 0 0] 30 (0, 0)) (y0 BK680.out) NB680_684.out (by simp)); replace BK681 := Aside0.mk (KeepBut.blk hk (g' := gb681) (o := .cells #[.int .i64 0, .slice none 0 0] 55 (0, 0)) (y0 BK681.out) NB681_684.out (by simp)); replace HB := Aside0.mk (hb); replace HI684 := Aside0.mk (hi); (try clear hb); (try clear hb2); (try clear hk); (try clear hi)) | ((with_reducible refine gate_callee (f := 67) rfl ?_); refine goesL_ (some 12) rfl rfl Try.func67 (by kernel_rfl) rfl #[.pointer (some ⟨g684, 0, none⟩), .int .i64 (wrap64 (1 + t685))] rfl y4 ?_; (with_reducible refine (spec_l71Type.calls k g684 t682 t686 (wrap64 (1 + t685)) t687 t690 w _ ?side1 ?side2 A4.out).mono ?_); (case side1 => exact y15 HI684.out NB684_680.out NB684_681.out); (case side2 => exact y12 HB.out HI684.out GE680.out GE681.out); rintro e w13 ⟨v688, rfl, ho0, hi, hb, hk⟩; refine ⟨_, rfl, ?_⟩; have HO689 := Aside0.mk (Kd.N_lower (Kd.N_mono (ok' := fun k_ => (w.heap.size ≤ k_) ∧ k_ ≠ gb680 ∧ k_ ≠ gb681 ∧ k_ ≠ g684) ho0 (fun k_ hk_ => ⟨(Nat.le_trans (below_size (y12 HB.out HI684.out GE680.out GE681.out)) hk_), (Kd.freshB (g := gb680) (o := .cells #[.slice none 0 0] 30 (0, 0)) (y0 BK680.out) k_ hk_), (Kd.freshB (g := gb681) (o := .cells #[.int .i64 0, .slice none 0 0] 55 (0, 0)) (y0 BK681.out) k_ hk_), (IsS95.fresh (y15 HI684.out NB684_680.out NB684_681.out) k_ hk_)⟩)) (below_size (y12 HB.out HI684.out GE680.out GE681.out))); replace BK680 := Aside0.mk (KeepBut.blk hk (g' := gb680) (o := .cells #[.slice none 0 0] 30 (0, 0)) (y0 BK680.out) NB680_684.out (by simp)); replace BK681 := Aside0.mk (KeepBut.blk hk (g' := gb681) (o := .cells #[.int .i64 0, .slice none 0 0] 55 (0, 0)) (y0 BK681.out) NB681_684.out (by simp)); replace HB := Aside0.mk (hb); replace HI684 := Aside0.mk (hi); (try clear hb); (try clear hb2); (try clear hk); (try clear hi); (try clear ho0)) | ((with_reducible refine gate_dst (N := 5) rfl ?_); refine zbx 5 #[.slice none 0 0] 30 ?_; intro gb691 hg w14 hbox hb; replace HO689 := Aside0.mk (Kd.N_below (Kd.N_elderB (y9 HO689.out) gb691 (Nat.le_of_eq hg.symm)) hb); have BK691 := Aside0.mk hbox; have GW691 := Aside0.mk ((y39 hg HB.out HI684.out GE680.out GE681.out : w.heap.size ≤ gb691)); have GE691 := Aside0.mk ((y39 hg HB.out HI684.out GE680.out GE681.out : w.heap.size ≤ gb691)); replace HB := Aside0.mk (below_step (y12 HB.out HI684.out GE680.out GE681.out) hb); have NB680_691 := zltn hg BK680; have NB691_680 := zgtn hg BK680; replace BK680 := zbb BK680 hb; have NB681_691 := zltn hg BK681; have NB691_681 := zgtn hg BK681; replace BK681 := zbb BK681 hb; have NB684_691 := Aside0.mk ((by rw [hg]; exact Nat.ne_of_lt (IsS95.lt (show IsS95 w _ g684 t682 t690 from by repeat (first | (with_reducible first | exact HI684.out | apply IsS95.alloc | apply IsS95.drewN | apply IsS95.drew | apply IsS95.set_1 | refine IsS95.far ?_ NB684_680.out _ | refine IsS95.far ?_ NB684_681.out _) | exact HI684.out))) : g684 ≠ gb691)); have NB691_684 := Aside0.mk ((by rw [hg]; exact Nat.ne_of_gt (IsS95.lt (show IsS95 w _ g684 t682 t690 from by repeat (first | (with_reducible first | exact HI684.out | apply IsS95.alloc | apply IsS95.drewN | apply IsS95.drew | apply IsS95.set_1 | refine IsS95.far ?_ NB684_680.out _ | refine IsS95.far ?_ NB684_681.out _) | exact HI684.out))) : gb691 ≠ g684)); replace HI684 := Aside0.mk (IsS95.below (y15 HI684.out NB684_680.out NB684_681.out) hb); clear hb hbox hg; obtain ⟨Ao15, co15, eo15⟩ := Kd.N_slice HO689.out; subst eo15; have hnb16 := NB691_680.out; have hnc16 := NB680_691.out; have hnb17 := NB691_681.out; have hnc17 := NB681_691.out; have hnb18 := NB691_684.out; have hnc18 := NB684_691.out; have hcz19_0 := zh BK691; have hfz19_0 := zfr BK691 0) | ((with_reducible refine gate_callee (f := 58) rfl ?_); refine goesL_ (some 14) rfl rfl Try.func58 (by kernel_rfl) rfl #[.pointer (some ⟨g684, 0, none⟩), .int .i64 5] rfl y4 ?_; (with_reducible refine (spec_l6Rd_pick.calls k g684 t682 t690 5 t692 t693 w _ ?side1 ?side2 A5.out).mono ?_); (case side1 => exact y28 HI684.out NB684_680.out NB684_681.out NB684_691.out); (case side2 => exact y22 HB.out HI684.out GE680.out GE681.out GE691.out); rintro e w20 ⟨rfl, hi, hb, hk⟩; refine ⟨_, rfl, ?_⟩; replace BK680 := Aside0.mk (KeepBut.blk hk (g' := gb680) (o := .cells #[.slice none 0 0] 30 (0, 0)) (y21 NB680_691.out BK680.out) NB680_684.out (by simp)); replace BK681 := Aside0.mk (KeepBut.blk hk (g' := gb681) (o := .cells #[.int .i64 0, .slice none 0 0] 55 (0, 0)) (y21 NB681_691.out BK681.out) NB681_684.out (by simp)); replace HO689 := Aside0.mk (Kd.N_mono (Kd.N_keep (Kd.N_mono (ok := fun k_ => ((((w.heap.size ≤ k_)) ∧ (k_ ≠ gb680 ∧ (k_ ≠ gb681 ∧ k_ ≠ g684))) ∧ k_ ≠ gb691)) (by (with_reducible repeat (first | apply Kd.N_alloc | apply Kd.N_drewN | apply Kd.N_drew)); exact (Kd.N_mono (Kd.N_far (p := ⟨gb691, 0, none⟩) (Kd.N_mono HO689.out (fun k_ hk => (⟨hk, hk.2⟩ : _ ∧ k_ ≠ gb691))) (fun _ hk => hk.2) (.slice Ao15 t687.length co15)) (fun _ h_ => h_.1))) (fun k_ hk_ => (⟨hk_, hk_.1.2.2.2⟩ : _ ∧ k_ ≠ g684))) hk (fun _ h => h.2)) (fun _ h => h.1)); replace BK691 := Aside0.mk (KeepBut.blk hk (g' := gb691) (o := .cells #[.slice Ao15 t687.length co15] 30 (0, 0)) (by (with_reducible repeat (first | refine blk_drewN ?_ _ | refine blk_drew ?_ | refine blk_alloc ?_ _)); apply blk_put (i := 0); (case h => exact y0 BK691.out); (case e => rfl)) NB691_684.out (by simp)); replace HB := Aside0.mk (hb); replace HI684 := Aside0.mk (hi); (try clear hb); (try clear hb2); (try clear hk); (try clear hi)))
  replace HO689 := Aside0.mk (Kd.N_drew HO689.out)
  replace BK680 := Aside0.mk (blk_drew BK680.out)
  replace BK681 := Aside0.mk (blk_drew BK681.out)
  replace BK691 := Aside0.mk (blk_drew BK691.out)
  replace HI684 := Aside0.mk (IsS95.drew HI684.out)
  replace HB := Aside0.mk (below_drew1 HB.out)
  refine start_ (n := 7) (S := fun w' => w'.cell? ⟨gb691, 0, none⟩ = some (.slice Ao15 t687.length co15)) (ds := []) #[false, false, false, false, false, false, false] (by kernel_rfl) rfl rfl ((blk_cell BK691.out 0).trans rfl) (fun hHeld => ?_)
  generalize w20.drew = w21 at HO689 BK680 BK681 BK691 HI684 HB hHeld ⊢
  refine pure_ (i := 1) (N := some 17) (v := ?_) (a' := ?_) #[false, true, false, false, false, false, false] rfl rfl (by kernel_rfl) (fun _ _ _ h => h) (Or.inl ⟨(by rfl), ?_⟩) ?_ ?_
  rotate_left
  ·intro w'
   go_simp
   with_reducible rfl
  rotate_left
  ·simp only [Act.put, List.setIfInBounds_toArray, List.set_cons_zero, List.set_cons_succ, i64_w, i32_w]
   rfl
  refine pure_ (i := 2) (N := some 18) (v := ?_) (a' := ?_) #[false, true, true, false, false, false, false] rfl rfl (by kernel_rfl) (fun _ _ _ h => h) (Or.inl ⟨(by rfl), ?_⟩) ?_ ?_
  rotate_left
  ·intro w'
   go_simp
   with_reducible rfl
  rotate_left
  ·simp only [Act.put, List.setIfInBounds_toArray, List.set_cons_zero, List.set_cons_succ, i64_w, i32_w]
   rfl
  refine take_ (i := 0) (N := some 16) (v := ?_) (a' := ?_) #[true, true, true, false, false, false, false] rfl rfl (by kernel_rfl) (fun _ _ _ h => h) (Or.inl ⟨(by rfl), ?_⟩) hHeld ?_ ?_
  rotate_left
  ·intro w' s0
   go_simp
   with_reducible rfl
  rotate_left
  ·simp only [Act.put, List.setIfInBounds_toArray, List.set_cons_zero, List.set_cons_succ, i64_w, i32_w]
   rfl
  refine one_ (i := 3) (N := some 19) #[true, true, true, true, false, false, false] rfl rfl (by kernel_rfl) (by decide) (fun K hK => ?_)
  refine goes_ Try.func67 (by kernel_rfl) rfl #[.pointer (some ⟨g684, 0, none⟩), .int .i64 3] (by rfl) rfl rfl y4 ?_
  with_reducible refine (spec_l71Type.calls k g684 t682 t693 3 t694 t697 w _ ?side1 ?side2 A7.out).mono ?_
  (case side1 => exact y28 HI684.out NB684_680.out NB684_681.out NB684_691.out)
  (case side2 => exact y22 HB.out HI684.out GE680.out GE681.out GE691.out)
  rintro e w22 ⟨v695, rfl, ho0, hi, hb, hk⟩
  refine ⟨_, rfl, ?_⟩
  have HO696 := Aside0.mk (Kd.N_lower (Kd.N_mono (ok' := fun k_ => (w.heap.size ≤ k_) ∧ some k_ ≠ (.slice Ao15 t687.length co15 : Value).ownBlock ∧ k_ ≠ gb680 ∧ k_ ≠ gb681 ∧ k_ ≠ gb691 ∧ k_ ≠ g684) ho0 (fun k_ hk_ => ⟨(Nat.le_trans (below_size (y22 HB.out HI684.out GE680.out GE681.out GE691.out)) hk_), (Kd.fresh' (Kd.N_lt (y9 HO689.out)) k_ hk_), (Kd.freshB (g := gb680) (o := .cells #[.slice none 0 0] 30 (0, 0)) (y0 BK680.out) k_ hk_), (Kd.freshB (g := gb681) (o := .cells #[.int .i64 0, .slice none 0 0] 55 (0, 0)) (y0 BK681.out) k_ hk_), (Kd.freshB (g := gb691) (o := .cells #[.slice Ao15 t687.length co15] 30 (0, 0)) (y0 BK691.out) k_ hk_), (IsS95.fresh (y28 HI684.out NB684_680.out NB684_681.out NB684_691.out) k_ hk_)⟩)) (below_size (y22 HB.out HI684.out GE680.out GE681.out GE691.out)))
  replace BK680 := Aside0.mk (KeepBut.blk hk (g' := gb680) (o := .cells #[.slice none 0 0] 30 (0, 0)) (y0 BK680.out) NB680_684.out (by simp))
  replace BK681 := Aside0.mk (KeepBut.blk hk (g' := gb681) (o := .cells #[.int .i64 0, .slice none 0 0] 55 (0, 0)) (y0 BK681.out) NB681_684.out (by simp))
  replace HO689 := Aside0.mk (Kd.N_mono (Kd.N_told (Kd.N_oldK (Kd.N_mono (ok := fun k_ => ((((w.heap.size ≤ k_)) ∧ (k_ ≠ gb680 ∧ (k_ ≠ gb681 ∧ k_ ≠ g684))) ∧ k_ ≠ gb691)) (y9 HO689.out) (fun k_ hk_ => (⟨hk_, hk_.1.2.2.2⟩ : _ ∧ k_ ≠ g684))) hk) (Kd.N_base ho0)) (fun _ h_ => h_.1))
  replace BK691 := Aside0.mk (KeepBut.blk hk (g' := gb691) (o := .cells #[.slice Ao15 t687.length co15] 30 (0, 0)) (y0 BK691.out) NB691_684.out (by simp))
  replace HB := Aside0.mk (hb)
  replace HI684 := Aside0.mk (hi)
  (try clear hb)
  (try clear hb2)
  (try clear hk)
  (try clear hi)
  (try clear ho0)
  obtain ⟨Ao23, co23, eo23⟩ := Kd.N_slice HO696.out
  (first | subst eo23 | (injection eo23 with f1_ f2_ f3_; have f4_ := f1_.symm; have f5_ := f3_.symm; clear f1_ f2_ f3_; subst f4_; subst f5_))
  refine hK.out _ _ ((blk_cell BK691.out 0).trans rfl) (fun hHeld => ?_)
  clear hK K
  refine norm_ (a' := ?_) ?_ ?_
  rotate_left
  ·show Act.put _ (some 19) _ = _
   simp only [Act.put, List.setIfInBounds_toArray, List.set_cons_zero, List.set_cons_succ, i64_w, i32_w]
   rfl
  refine one_ (i := 4) (N := some 20) #[true, true, true, true, true, false, false] rfl rfl (by kernel_rfl) (by decide) (fun K hK => ?_)
  refine goes_ Try.func68 (by kernel_rfl) rfl #[.pointer (some ⟨g684, 0, none⟩), .agg #[.slice Ao23 t694.length co23]] (by rfl) rfl rfl y4 ?_
  with_reducible refine (spec_l71Bad.calls k g684 t682 t697 (fun k_ => ((w.heap.size ≤ k_) ∧ (some k_ ≠ (.slice Ao15 t687.length co15 : Value).ownBlock ∧ (k_ ≠ gb680 ∧ (k_ ≠ gb681 ∧ (k_ ≠ gb691 ∧ k_ ≠ g684)))))) _ _ t694 t698 t699 t702 w _ ?side1 ?side2 ?side3 A8.out).mono ?_
  (case side1 => exact y28 HI684.out NB684_680.out NB684_681.out NB684_691.out)
  (case side2 => exact y22 HB.out HI684.out GE680.out GE681.out GE691.out)
  (case side3 => exact Kd.V_mono (Kd.N_V (HO696.out)) (fun k_ hk_ => ⟨hk_, hk_.2.2.2.2.2⟩))
  rintro e w24 ⟨v700, rfl, ho0, hi, hb, hk⟩
  refine ⟨_, rfl, ?_⟩
  replace HO696 := Aside0.mk (Kd.N_mono (Kd.N_told (Kd.N_oldK (Kd.N_mono (ok := fun k_ => (((w.heap.size ≤ k_)) ∧ (some k_ ≠ (.slice Ao15 t687.length co15 : Value).ownBlock ∧ (k_ ≠ gb680 ∧ (k_ ≠ gb681 ∧ (k_ ≠ gb691 ∧ k_ ≠ g684)))))) (y9 HO696.out) (fun k_ hk_ => (⟨hk_, hk_.2.2.2.2.2⟩ : _ ∧ k_ ≠ g684))) hk) (Kd.N_base ho0)) (fun _ h_ => h_.1))
  have HO701 := Aside0.mk (Kd.N_lower (Kd.N_mono (ok' := fun k_ => (w.heap.size ≤ k_) ∧ some k_ ≠ (.slice Ao15 t687.length co15 : Value).ownBlock ∧ k_ ≠ gb680 ∧ k_ ≠ gb681 ∧ k_ ≠ gb691 ∧ k_ ≠ g684) ho0 (fun k_ hk_ => ⟨Or.elim hk_ (fun hs_ => hs_.1) (fun hn_ => (Nat.le_trans (below_size (y22 HB.out HI684.out GE680.out GE681.out GE691.out)) hn_)), Or.elim hk_ (fun hs_ => hs_.2.1) (fun hn_ => (Kd.fresh' (Kd.N_lt (y9 HO689.out)) k_ hn_)), Or.elim hk_ (fun hs_ => hs_.2.2.1) (fun hn_ => (Kd.freshB (g := gb680) (o := .cells #[.slice none 0 0] 30 (0, 0)) (y0 BK680.out) k_ hn_)), Or.elim hk_ (fun hs_ => hs_.2.2.2.1) (fun hn_ => (Kd.freshB (g := gb681) (o := .cells #[.int .i64 0, .slice none 0 0] 55 (0, 0)) (y0 BK681.out) k_ hn_)), Or.elim hk_ (fun hs_ => hs_.2.2.2.2.1) (fun hn_ => (Kd.freshB (g := gb691) (o := .cells #[.slice Ao15 t687.length co15] 30 (0, 0)) (y0 BK691.out) k_ hn_)), Or.elim hk_ (fun hs_ => hs_.2.2.2.2.2) (fun hn_ => (IsS95.fresh (y28 HI684.out NB684_680.out NB684_681.out NB684_691.out) k_ hn_))⟩)) (below_size (y22 HB.out HI684.out GE680.out GE681.out GE691.out)))
  replace BK680 := Aside0.mk (KeepBut.blk hk (g' := gb680) (o := .cells #[.slice none 0 0] 30 (0, 0)) (y0 BK680.out) NB680_684.out (by simp))
  replace BK681 := Aside0.mk (KeepBut.blk hk (g' := gb681) (o := .cells #[.int .i64 0, .slice none 0 0] 55 (0, 0)) (y0 BK681.out) NB681_684.out (by simp))
  replace HO689 := Aside0.mk (Kd.N_mono (Kd.N_told (Kd.N_oldK (Kd.N_mono (ok := fun k_ => (((((w.heap.size ≤ k_)) ∧ (k_ ≠ gb680 ∧ (k_ ≠ gb681 ∧ k_ ≠ g684))) ∧ k_ ≠ gb691) ∧ some k_ ≠ (.slice Ao23 t694.length co23 : Value).ownBlock)) (y9 HO689.out) (fun k_ hk_ => (⟨hk_, hk_.1.1.2.2.2⟩ : _ ∧ k_ ≠ g684))) hk) (Kd.N_base ho0)) (fun _ h_ => h_.1))
  replace BK691 := Aside0.mk (KeepBut.blk hk (g' := gb691) (o := .cells #[.slice Ao15 t687.length co15] 30 (0, 0)) (y0 BK691.out) NB691_684.out (by simp))
  replace HB := Aside0.mk (hb)
  replace HI684 := Aside0.mk (hi)
  (try clear hb)
  (try clear hb2)
  (try clear hk)
  (try clear hi)
  (try clear ho0)
  obtain ⟨Ao27, co27, eo27⟩ := Kd.N_slice HO701.out
  (first | subst eo27 | (injection eo27 with f1_ f2_ f3_; have f4_ := f1_.symm; have f5_ := f3_.symm; clear f1_ f2_ f3_; subst f4_; subst f5_))
  refine hK.out _ _ ((blk_cell BK691.out 0).trans rfl) (fun hHeld => ?_)
  clear hK K
  refine norm_ (a' := ?_) ?_ ?_
  rotate_left
  ·show Act.put _ (some 20) _ = _
   simp only [Act.put, List.setIfInBounds_toArray, List.set_cons_zero, List.set_cons_succ, i64_w, i32_w]
   rfl
  refine one_ (i := 5) (N := none) #[true, true, true, true, true, true, false] rfl rfl (by kernel_rfl) (by decide) (fun K hK => ?_)
  have hs25 : w24.cell? ⟨gb680, 0, none⟩ = some (.slice none 0 0) := (blk_cell BK680.out 0).trans rfl
  have hfs25 := zfr BK680 0
  have hns25_1 := NB681_680.out
  have hns25_2 := NB691_680.out
  have hms25_1 := NB680_681.out
  have hms25_2 := NB680_691.out
  refine skip_ (w1 := ?_) (by rfl) rfl ?_ ?_
  rotate_left
  ·go_simp
   rfl
  refine hK.out _ _ (((cell_far (p := ⟨gb680, _, none⟩) NB691_680.out _).trans (hHeld))) (fun hHeld => ?_)
  clear hK K
  refine one_ (i := 6) (N := none) #[true, true, true, true, true, true, true] rfl rfl (by kernel_rfl) (by decide) (fun K hK => ?_)
  have hs26 : w24.cell? ⟨gb681, 0, none⟩ = some (.int .i64 0) := (blk_cell BK681.out 0).trans rfl
  have hfs26 := zfr BK681 0
  have hns26_0 := NB680_681.out
  have hns26_2 := NB691_681.out
  have hms26_0 := NB681_680.out
  have hms26_2 := NB681_691.out
  have hs28 : w24.cell? ⟨gb681, 1, none⟩ = some (.slice none 0 0) := (blk_cell BK681.out 1).trans rfl
  have hfs28 := zfr BK681 1
  have hns28_0 := NB680_681.out
  have hns28_2 := NB691_681.out
  have hms28_0 := NB681_680.out
  have hms28_2 := NB681_691.out
  refine skip_ (w1 := ?_) (by rfl) rfl ?_ ?_
  rotate_left
  ·go_simp
   rfl
  refine hK.out _ _ (((cell_far (p := ⟨gb681, _, none⟩) NB691_681.out _).trans (((cell_far (p := ⟨gb681, _, none⟩) NB691_681.out _).trans (hHeld))))) (fun hHeld => ?_)
  clear hK K
  refine done_ (by kernel_rfl) ?_
  try go_wp2
  refine bodyPost_ret (results_cc rfl _ _ gb680 gb681 30 55 #[.slice Ao15 t687.length co15] #[.int .i64 t698, .slice Ao27 t699.length co27] (0, 0) (0, 0) _ _ rfl (by (with_reducible repeat (first | refine blk_drewN ?_ _ | refine blk_drew ?_ | refine blk_alloc ?_ _)); refine blk_far ?_ NB680_681.out _; (with_reducible repeat (first | refine blk_drewN ?_ _ | refine blk_drew ?_ | refine blk_alloc ?_ _)); refine blk_far ?_ NB680_681.out _; (with_reducible repeat (first | refine blk_drewN ?_ _ | refine blk_drew ?_ | refine blk_alloc ?_ _)); apply blk_put (i := 0); (case h => exact y0 BK680.out); (case e => rfl)) Try.underlying30 rfl (by kernel_rfl) rfl (by (with_reducible repeat (first | refine blk_drewN ?_ _ | refine blk_drew ?_ | refine blk_alloc ?_ _)); refine blk_put (cs := #[.int .i64 t698, .slice none 0 0]) ?_ 1 _ rfl; (with_reducible repeat (first | refine blk_drewN ?_ _ | refine blk_drew ?_ | refine blk_alloc ?_ _)); refine blk_put (cs := #[.int .i64 0, .slice none 0 0]) ?_ 0 _ rfl; (with_reducible repeat (first | refine blk_drewN ?_ _ | refine blk_drew ?_ | refine blk_alloc ?_ _)); refine blk_far ?_ NB681_680.out _; (with_reducible repeat (first | refine blk_drewN ?_ _ | refine blk_drew ?_ | refine blk_alloc ?_ _)); exact BK681.out) Try.underlying55 rfl (by kernel_rfl)) rfl ?_
  exact ⟨_, _, y14, Kd.N_V (by (with_reducible repeat (first | apply Kd.N_alloc | apply Kd.N_drewN | apply Kd.N_drew)); exact Kd.N_mono (Kd.N_far (p := ⟨gb681, 1, none⟩) (Kd.N_far (p := ⟨gb681, 0, none⟩) (Kd.N_far (p := ⟨gb680, 0, none⟩) (Kd.N_mono (Kd.N_mono HO689.out (fun k_ hk => (⟨hk, hk.1.1.1.2.1⟩ : _ ∧ k_ ≠ gb680))) (fun k_ hk => (⟨hk, hk.1.1.1.1.2.2.1⟩ : _ ∧ k_ ≠ gb681))) (fun _ hk => hk.1.2) (.slice Ao15 t687.length co15)) (fun _ hk => hk.2) (.int .i64 t698)) (fun _ hk => hk.2) (.slice Ao27 t699.length co27)) (fun _ hk => hk.1.1.1.1.1.1)), Kd.N_V (by (with_reducible repeat (first | apply Kd.N_alloc | apply Kd.N_drewN | apply Kd.N_drew)); exact Kd.N_mono (Kd.N_far (p := ⟨gb681, 1, none⟩) (Kd.N_far (p := ⟨gb681, 0, none⟩) (Kd.N_far (p := ⟨gb680, 0, none⟩) (Kd.N_mono (Kd.N_mono HO701.out (fun k_ hk => (⟨hk, hk.2.2.1⟩ : _ ∧ k_ ≠ gb680))) (fun k_ hk => (⟨hk, hk.1.2.2.2.1⟩ : _ ∧ k_ ≠ gb681))) (fun _ hk => hk.1.2) (.slice Ao15 t687.length co15)) (fun _ hk => hk.2) (.int .i64 t698)) (fun _ hk => hk.2) (.slice Ao27 t699.length co27)) (fun _ hk => hk.1.1.1)), (y22 HB.out HI684.out GE680.out GE681.out GE691.out)⟩
 ·rw [if_neg c6] at H
  have c6b0 : (t692 == 0) = false := beq_eq_false_iff_ne.mpr c6
  have c6b1 : (t692 != 0) = true := bne_iff_ne.mpr c6
  obtain ⟨⟨t703, t704, t707⟩, A290, H⟩ := ob H
  have A29 := Aside0.mk A290
  clear A290
  simp only [Option.some.injEq, Prod.mk.injEq] at H
  obtain ⟨rfl, rfl, rfl⟩ := H
  go_enter Try.func34, Try.ntmps34
  try go_wp2_with (first | ((with_reducible refine gate_dst (N := 2) rfl ?_); refine zbx 2 #[.slice none 0 0] 30 ?_; intro gb680 hg w30 hbox hb; have BK680 := Aside0.mk hbox; have GW680 := Aside0.mk ((y5 hg HB.out : w.heap.size ≤ gb680)); have GE680 := Aside0.mk ((y5 hg HB.out : w.heap.size ≤ gb680)); replace HB := Aside0.mk (below_step (y2 HB.out) hb); clear hb hbox hg) | ((with_reducible refine gate_dst (N := 3) rfl ?_); refine zbx 3 #[.int .i64 0, .slice none 0 0] 55 ?_; intro gb681 hg w31 hbox hb; have BK681 := Aside0.mk hbox; have GW681 := Aside0.mk ((y6 hg HB.out GE680.out : w.heap.size ≤ gb681)); have GE681 := Aside0.mk ((y6 hg HB.out GE680.out : w.heap.size ≤ gb681)); replace HB := Aside0.mk (below_step (y3 HB.out GE680.out) hb); have NB680_681 := zltn hg BK680; have NB681_680 := zgtn hg BK680; replace BK680 := zbb BK680 hb; clear hb hbox hg) | ((with_reducible refine gate_callee (f := 52) rfl ?_); refine goesL_ (some 7) rfl rfl Try.func52 (by kernel_rfl) rfl #[.slice A0 l0.length c0] rfl y4 ?_; (with_reducible refine (spec_l6Open.calls _ _ l0 t682 t683 w _ ?side1 ?side2 ?side3 A2.out).mono ?_); (case side1 => exact y1 HB.out GE680.out GE681.out); (case side2 => exact HR0.out); (case side3 => exact HC0.out); rintro e w32 ⟨g684, rfl, hi, hb, hb2⟩; refine ⟨_, rfl, ?_⟩; replace HB := Aside0.mk (hb); have HI684 := Aside0.mk (hi); have NB684_680 := Aside0.mk (IsS95.ne_blk hi (blk_below (g := gb680) (o := .cells #[.slice none 0 0] 30 (0, 0)) (y0 BK680.out) hb2) (by decide)); have NB680_684 := Aside0.mk (Ne.symm (IsS95.ne_blk hi (blk_below (g := gb680) (o := .cells #[.slice none 0 0] 30 (0, 0)) (y0 BK680.out) hb2) (by decide))); replace BK680 := Aside0.mk (blk_below (g := gb680) (o := .cells #[.slice none 0 0] 30 (0, 0)) (y0 BK680.out) hb2); have NB684_681 := Aside0.mk (IsS95.ne_blk hi (blk_below (g := gb681) (o := .cells #[.int .i64 0, .slice none 0 0] 55 (0, 0)) (y0 BK681.out) hb2) (by decide)); have NB681_684 := Aside0.mk (Ne.symm (IsS95.ne_blk hi (blk_below (g := gb681) (o := .cells #[.int .i64 0, .slice none 0 0] 55 (0, 0)) (y0 BK681.out) hb2) (by decide))); replace BK681 := Aside0.mk (blk_below (g := gb681) (o := .cells #[.int .i64 0, .slice none 0 0] 55 (0, 0)) (y0 BK681.out) hb2); (try clear hb); (try clear hb2); (try clear hk); (try clear hi)) | ((with_reducible refine gate_callee (f := 58) rfl ?_); refine goesL_ (some 10) rfl rfl Try.func58 (by kernel_rfl) rfl #[.pointer (some ⟨g684, 0, none⟩), .int .i64 4] rfl y4 ?_; (with_reducible refine (spec_l6Rd_pick.calls k g684 t682 t683 4 t685 t686 w _ ?side1 ?side2 A3.out).mono ?_); (case side1 => exact y15 HI684.out NB684_680.out NB684_681.out); (case side2 => exact y12 HB.out HI684.out GE680.out GE681.out); rintro e w33 ⟨rfl, hi, hb, hk⟩; refine ⟨_, rfl, ?_⟩; replace BK680 := Aside0.mk (KeepBut.blk hk (g' := gb680) (o := .cells #[.slice none 0 0] 30 (0, 0)) (y0 BK680.out) NB680_684.out (by simp)); replace BK681 := Aside0.mk (KeepBut.blk hk (g' := gb681) (o := .cells #[.int .i64 0, .slice none 0 0] 55 (0, 0)) (y0 BK681.out) NB681_684.out (by simp)); replace HB := Aside0.mk (hb); replace HI684 := Aside0.mk (hi); (try clear hb); (try clear hb2); (try clear hk); (try clear hi)) | ((with_reducible refine gate_callee (f := 67) rfl ?_); refine goesL_ (some 12) rfl rfl Try.func67 (by kernel_rfl) rfl #[.pointer (some ⟨g684, 0, none⟩), .int .i64 (wrap64 (1 + t685))] rfl y4 ?_; (with_reducible refine (spec_l71Type.calls k g684 t682 t686 (wrap64 (1 + t685)) t687 t690 w _ ?side1 ?side2 A4.out).mono ?_); (case side1 => exact y15 HI684.out NB684_680.out NB684_681.out); (case side2 => exact y12 HB.out HI684.out GE680.out GE681.out); rintro e w34 ⟨v688, rfl, ho0, hi, hb, hk⟩; refine ⟨_, rfl, ?_⟩; have HO689 := Aside0.mk (Kd.N_lower (Kd.N_mono (ok' := fun k_ => (w.heap.size ≤ k_) ∧ k_ ≠ gb680 ∧ k_ ≠ gb681 ∧ k_ ≠ g684) ho0 (fun k_ hk_ => ⟨(Nat.le_trans (below_size (y12 HB.out HI684.out GE680.out GE681.out)) hk_), (Kd.freshB (g := gb680) (o := .cells #[.slice none 0 0] 30 (0, 0)) (y0 BK680.out) k_ hk_), (Kd.freshB (g := gb681) (o := .cells #[.int .i64 0, .slice none 0 0] 55 (0, 0)) (y0 BK681.out) k_ hk_), (IsS95.fresh (y15 HI684.out NB684_680.out NB684_681.out) k_ hk_)⟩)) (below_size (y12 HB.out HI684.out GE680.out GE681.out))); replace BK680 := Aside0.mk (KeepBut.blk hk (g' := gb680) (o := .cells #[.slice none 0 0] 30 (0, 0)) (y0 BK680.out) NB680_684.out (by simp)); replace BK681 := Aside0.mk (KeepBut.blk hk (g' := gb681) (o := .cells #[.int .i64 0, .slice none 0 0] 55 (0, 0)) (y0 BK681.out) NB681_684.out (by simp)); replace HB := Aside0.mk (hb); replace HI684 := Aside0.mk (hi); (try clear hb); (try clear hb2); (try clear hk); (try clear hi); (try clear ho0)) | ((with_reducible refine gate_dst (N := 5) rfl ?_); refine zbx 5 #[.slice none 0 0] 30 ?_; intro gb691 hg w35 hbox hb; replace HO689 := Aside0.mk (Kd.N_below (Kd.N_elderB (y9 HO689.out) gb691 (Nat.le_of_eq hg.symm)) hb); have BK691 := Aside0.mk hbox; have GW691 := Aside0.mk ((y39 hg HB.out HI684.out GE680.out GE681.out : w.heap.size ≤ gb691)); have GE691 := Aside0.mk ((y39 hg HB.out HI684.out GE680.out GE681.out : w.heap.size ≤ gb691)); replace HB := Aside0.mk (below_step (y12 HB.out HI684.out GE680.out GE681.out) hb); have NB680_691 := zltn hg BK680; have NB691_680 := zgtn hg BK680; replace BK680 := zbb BK680 hb; have NB681_691 := zltn hg BK681; have NB691_681 := zgtn hg BK681; replace BK681 := zbb BK681 hb; have NB684_691 := Aside0.mk ((by rw [hg]; exact Nat.ne_of_lt (IsS95.lt (show IsS95 w _ g684 t682 t690 from by repeat (first | (with_reducible first | exact HI684.out | apply IsS95.alloc | apply IsS95.drewN | apply IsS95.drew | apply IsS95.set_1 | refine IsS95.far ?_ NB684_680.out _ | refine IsS95.far ?_ NB684_681.out _) | exact HI684.out))) : g684 ≠ gb691)); have NB691_684 := Aside0.mk ((by rw [hg]; exact Nat.ne_of_gt (IsS95.lt (show IsS95 w _ g684 t682 t690 from by repeat (first | (with_reducible first | exact HI684.out | apply IsS95.alloc | apply IsS95.drewN | apply IsS95.drew | apply IsS95.set_1 | refine IsS95.far ?_ NB684_680.out _ | refine IsS95.far ?_ NB684_681.out _) | exact HI684.out))) : gb691 ≠ g684)); replace HI684 := Aside0.mk (IsS95.below (y15 HI684.out NB684_680.out NB684_681.out) hb); clear hb hbox hg; obtain ⟨Ao36, co36, eo36⟩ := Kd.N_slice HO689.out; subst eo36; have hnb37 := NB691_680.out; have hnc37 := NB680_691.out; have hnb38 := NB691_681.out; have hnc38 := NB681_691.out; have hnb39 := NB691_684.out; have hnc39 := NB684_691.out; have hcz40_0 := zh BK691; have hfz40_0 := zfr BK691 0) | ((with_reducible refine gate_callee (f := 58) rfl ?_); refine goesL_ (some 14) rfl rfl Try.func58 (by kernel_rfl) rfl #[.pointer (some ⟨g684, 0, none⟩), .int .i64 5] rfl y4 ?_; (with_reducible refine (spec_l6Rd_pick.calls k g684 t682 t690 5 t692 t693 w _ ?side1 ?side2 A5.out).mono ?_); (case side1 => exact y28 HI684.out NB684_680.out NB684_681.out NB684_691.out); (case side2 => exact y22 HB.out HI684.out GE680.out GE681.out GE691.out); rintro e w41 ⟨rfl, hi, hb, hk⟩; refine ⟨_, rfl, ?_⟩; replace BK680 := Aside0.mk (KeepBut.blk hk (g' := gb680) (o := .cells #[.slice none 0 0] 30 (0, 0)) (y21 NB680_691.out BK680.out) NB680_684.out (by simp)); replace BK681 := Aside0.mk (KeepBut.blk hk (g' := gb681) (o := .cells #[.int .i64 0, .slice none 0 0] 55 (0, 0)) (y21 NB681_691.out BK681.out) NB681_684.out (by simp)); replace HO689 := Aside0.mk (Kd.N_mono (Kd.N_keep (Kd.N_mono (ok := fun k_ => ((((w.heap.size ≤ k_)) ∧ (k_ ≠ gb680 ∧ (k_ ≠ gb681 ∧ k_ ≠ g684))) ∧ k_ ≠ gb691)) (by (with_reducible repeat (first | apply Kd.N_alloc | apply Kd.N_drewN | apply Kd.N_drew)); exact (Kd.N_mono (Kd.N_far (p := ⟨gb691, 0, none⟩) (Kd.N_mono HO689.out (fun k_ hk => (⟨hk, hk.2⟩ : _ ∧ k_ ≠ gb691))) (fun _ hk => hk.2) (.slice Ao36 t687.length co36)) (fun _ h_ => h_.1))) (fun k_ hk_ => (⟨hk_, hk_.1.2.2.2⟩ : _ ∧ k_ ≠ g684))) hk (fun _ h => h.2)) (fun _ h => h.1)); replace BK691 := Aside0.mk (KeepBut.blk hk (g' := gb691) (o := .cells #[.slice Ao36 t687.length co36] 30 (0, 0)) (by (with_reducible repeat (first | refine blk_drewN ?_ _ | refine blk_drew ?_ | refine blk_alloc ?_ _)); apply blk_put (i := 0); (case h => exact y0 BK691.out); (case e => rfl)) NB691_684.out (by simp)); replace HB := Aside0.mk (hb); replace HI684 := Aside0.mk (hi); (try clear hb); (try clear hb2); (try clear hk); (try clear hi)))
  replace HO689 := Aside0.mk (Kd.N_drew HO689.out)
  replace BK680 := Aside0.mk (blk_drew BK680.out)
  replace BK681 := Aside0.mk (blk_drew BK681.out)
  replace BK691 := Aside0.mk (blk_drew BK691.out)
  replace HI684 := Aside0.mk (IsS95.drew HI684.out)
  replace HB := Aside0.mk (below_drew1 HB.out)
  refine start_ (n := 6) (S := fun w' => w'.cell? ⟨gb691, 0, none⟩ = some (.slice Ao36 t687.length co36)) (ds := []) #[false, false, false, false, false, false] (by kernel_rfl) rfl rfl ((blk_cell BK691.out 0).trans rfl) (fun hHeld => ?_)
  generalize w41.drew = w42 at HO689 BK680 BK681 BK691 HI684 HB hHeld ⊢
  refine pure_ (i := 1) (N := some 22) (v := ?_) (a' := ?_) #[false, true, false, false, false, false] rfl rfl (by kernel_rfl) (fun _ _ _ h => h) (Or.inl ⟨(by rfl), ?_⟩) ?_ ?_
  rotate_left
  ·intro w'
   go_simp
   with_reducible rfl
  rotate_left
  ·simp only [Act.put, List.setIfInBounds_toArray, List.set_cons_zero, List.set_cons_succ, i64_w, i32_w]
   rfl
  refine take_ (i := 0) (N := some 21) (v := ?_) (a' := ?_) #[true, true, false, false, false, false] rfl rfl (by kernel_rfl) (fun _ _ _ h => h) (Or.inl ⟨(by rfl), ?_⟩) hHeld ?_ ?_
  rotate_left
  ·intro w' s0
   go_simp
   with_reducible rfl
  rotate_left
  ·simp only [Act.put, List.setIfInBounds_toArray, List.set_cons_zero, List.set_cons_succ, i64_w, i32_w]
   rfl
  refine take_ (i := 2) (N := some 23) (v := ?_) (a' := ?_) #[true, true, true, false, false, false] rfl rfl (by kernel_rfl) (fun _ _ _ h => h) (Or.inl ⟨(by rfl), ?_⟩) hHeld ?_ ?_
  rotate_left
  ·intro w' s0
   go_simp
   with_reducible rfl
  rotate_left
  ·simp only [Act.put, List.setIfInBounds_toArray, List.set_cons_zero, List.set_cons_succ, i64_w, i32_w]
   rfl
  refine one_ (i := 3) (N := some 24) #[true, true, true, true, false, false] rfl rfl (by kernel_rfl) (by decide) (fun K hK => ?_)
  refine goes_ Try.func68 (by kernel_rfl) rfl #[.pointer (some ⟨g684, 0, none⟩), .agg #[.slice Ao36 t687.length co36]] (by rfl) rfl rfl y4 ?_
  with_reducible refine (spec_l71Bad.calls k g684 t682 t693 (fun k_ => (((w.heap.size ≤ k_) ∧ (k_ ≠ gb680 ∧ (k_ ≠ gb681 ∧ k_ ≠ g684))) ∧ k_ ≠ gb691)) _ _ t687 t703 t704 t707 w _ ?side1 ?side2 ?side3 A29.out).mono ?_
  (case side1 => exact y28 HI684.out NB684_680.out NB684_681.out NB684_691.out)
  (case side2 => exact y22 HB.out HI684.out GE680.out GE681.out GE691.out)
  (case side3 => exact Kd.V_mono (Kd.N_V (HO689.out)) (fun k_ hk_ => ⟨hk_, hk_.1.2.2.2⟩))
  rintro e w43 ⟨v705, rfl, ho0, hi, hb, hk⟩
  refine ⟨_, rfl, ?_⟩
  replace HO689 := Aside0.mk (Kd.N_mono (Kd.N_told (Kd.N_oldK (Kd.N_mono (ok := fun k_ => ((((w.heap.size ≤ k_)) ∧ (k_ ≠ gb680 ∧ (k_ ≠ gb681 ∧ k_ ≠ g684))) ∧ k_ ≠ gb691)) (y9 HO689.out) (fun k_ hk_ => (⟨hk_, hk_.1.2.2.2⟩ : _ ∧ k_ ≠ g684))) hk) (Kd.N_base ho0)) (fun _ h_ => h_.1))
  have HO706 := Aside0.mk (Kd.N_lower (Kd.N_mono (ok' := fun k_ => (w.heap.size ≤ k_) ∧ k_ ≠ gb680 ∧ k_ ≠ gb681 ∧ k_ ≠ gb691 ∧ k_ ≠ g684) ho0 (fun k_ hk_ => ⟨Or.elim hk_ (fun hs_ => hs_.1.1) (fun hn_ => (Nat.le_trans (below_size (y22 HB.out HI684.out GE680.out GE681.out GE691.out)) hn_)), Or.elim hk_ (fun hs_ => hs_.1.2.1) (fun hn_ => (Kd.freshB (g := gb680) (o := .cells #[.slice none 0 0] 30 (0, 0)) (y0 BK680.out) k_ hn_)), Or.elim hk_ (fun hs_ => hs_.1.2.2.1) (fun hn_ => (Kd.freshB (g := gb681) (o := .cells #[.int .i64 0, .slice none 0 0] 55 (0, 0)) (y0 BK681.out) k_ hn_)), Or.elim hk_ (fun hs_ => hs_.2) (fun hn_ => (Kd.freshB (g := gb691) (o := .cells #[.slice Ao36 t687.length co36] 30 (0, 0)) (y0 BK691.out) k_ hn_)), Or.elim hk_ (fun hs_ => hs_.1.2.2.2) (fun hn_ => (IsS95.fresh (y28 HI684.out NB684_680.out NB684_681.out NB684_691.out) k_ hn_))⟩)) (below_size (y22 HB.out HI684.out GE680.out GE681.out GE691.out)))
  replace BK680 := Aside0.mk (KeepBut.blk hk (g' := gb680) (o := .cells #[.slice none 0 0] 30 (0, 0)) (y0 BK680.out) NB680_684.out (by simp))
  replace BK681 := Aside0.mk (KeepBut.blk hk (g' := gb681) (o := .cells #[.int .i64 0, .slice none 0 0] 55 (0, 0)) (y0 BK681.out) NB681_684.out (by simp))
  replace BK691 := Aside0.mk (KeepBut.blk hk (g' := gb691) (o := .cells #[.slice Ao36 t687.length co36] 30 (0, 0)) (y0 BK691.out) NB691_684.out (by simp))
  replace HB := Aside0.mk (hb)
  replace HI684 := Aside0.mk (hi)
  (try clear hb)
  (try clear hb2)
  (try clear hk)
  (try clear hi)
  (try clear ho0)
  obtain ⟨Ao46, co46, eo46⟩ := Kd.N_slice HO706.out
  (first | subst eo46 | (injection eo46 with f1_ f2_ f3_; have f4_ := f1_.symm; have f5_ := f3_.symm; clear f1_ f2_ f3_; subst f4_; subst f5_))
  refine hK.out _ _ ((blk_cell BK691.out 0).trans rfl) (fun hHeld => ?_)
  clear hK K
  refine norm_ (a' := ?_) ?_ ?_
  rotate_left
  ·show Act.put _ (some 24) _ = _
   simp only [Act.put, List.setIfInBounds_toArray, List.set_cons_zero, List.set_cons_succ, i64_w, i32_w]
   rfl
  refine one_ (i := 4) (N := none) #[true, true, true, true, true, false] rfl rfl (by kernel_rfl) (by decide) (fun K hK => ?_)
  have hs44 : w43.cell? ⟨gb680, 0, none⟩ = some (.slice none 0 0) := (blk_cell BK680.out 0).trans rfl
  have hfs44 := zfr BK680 0
  have hns44_1 := NB681_680.out
  have hns44_2 := NB691_680.out
  have hms44_1 := NB680_681.out
  have hms44_2 := NB680_691.out
  refine skip_ (w1 := ?_) (by rfl) rfl ?_ ?_
  rotate_left
  ·go_simp
   rfl
  refine hK.out _ _ (((cell_far (p := ⟨gb680, _, none⟩) NB691_680.out _).trans (hHeld))) (fun hHeld => ?_)
  clear hK K
  refine one_ (i := 5) (N := none) #[true, true, true, true, true, true] rfl rfl (by kernel_rfl) (by decide) (fun K hK => ?_)
  have hs45 : w43.cell? ⟨gb681, 0, none⟩ = some (.int .i64 0) := (blk_cell BK681.out 0).trans rfl
  have hfs45 := zfr BK681 0
  have hns45_0 := NB680_681.out
  have hns45_2 := NB691_681.out
  have hms45_0 := NB681_680.out
  have hms45_2 := NB681_691.out
  have hs47 : w43.cell? ⟨gb681, 1, none⟩ = some (.slice none 0 0) := (blk_cell BK681.out 1).trans rfl
  have hfs47 := zfr BK681 1
  have hns47_0 := NB680_681.out
  have hns47_2 := NB691_681.out
  have hms47_0 := NB681_680.out
  have hms47_2 := NB681_691.out
  refine skip_ (w1 := ?_) (by rfl) rfl ?_ ?_
  rotate_left
  ·go_simp
   rfl
  refine hK.out _ _ (((cell_far (p := ⟨gb681, _, none⟩) NB691_681.out _).trans (((cell_far (p := ⟨gb681, _, none⟩) NB691_681.out _).trans (hHeld))))) (fun hHeld => ?_)
  clear hK K
  refine done_ (by kernel_rfl) ?_
  try go_wp2
  refine bodyPost_ret (results_cc rfl _ _ gb680 gb681 30 55 #[.slice Ao36 t687.length co36] #[.int .i64 t703, .slice Ao46 t704.length co46] (0, 0) (0, 0) _ _ rfl (by (with_reducible repeat (first | refine blk_drewN ?_ _ | refine blk_drew ?_ | refine blk_alloc ?_ _)); refine blk_far ?_ NB680_681.out _; (with_reducible repeat (first | refine blk_drewN ?_ _ | refine blk_drew ?_ | refine blk_alloc ?_ _)); refine blk_far ?_ NB680_681.out _; (with_reducible repeat (first | refine blk_drewN ?_ _ | refine blk_drew ?_ | refine blk_alloc ?_ _)); apply blk_put (i := 0); (case h => exact y0 BK680.out); (case e => rfl)) Try.underlying30 rfl (by kernel_rfl) rfl (by (with_reducible repeat (first | refine blk_drewN ?_ _ | refine blk_drew ?_ | refine blk_alloc ?_ _)); refine blk_put (cs := #[.int .i64 t703, .slice none 0 0]) ?_ 1 _ rfl; (with_reducible repeat (first | refine blk_drewN ?_ _ | refine blk_drew ?_ | refine blk_alloc ?_ _)); refine blk_put (cs := #[.int .i64 0, .slice none 0 0]) ?_ 0 _ rfl; (with_reducible repeat (first | refine blk_drewN ?_ _ | refine blk_drew ?_ | refine blk_alloc ?_ _)); refine blk_far ?_ NB681_680.out _; (with_reducible repeat (first | refine blk_drewN ?_ _ | refine blk_drew ?_ | refine blk_alloc ?_ _)); exact BK681.out) Try.underlying55 rfl (by kernel_rfl)) rfl ?_
  exact ⟨_, _, y14, Kd.N_V (by (with_reducible repeat (first | apply Kd.N_alloc | apply Kd.N_drewN | apply Kd.N_drew)); exact Kd.N_mono (Kd.N_far (p := ⟨gb681, 1, none⟩) (Kd.N_far (p := ⟨gb681, 0, none⟩) (Kd.N_far (p := ⟨gb680, 0, none⟩) (Kd.N_mono (Kd.N_mono HO689.out (fun k_ hk => (⟨hk, hk.1.1.2.1⟩ : _ ∧ k_ ≠ gb680))) (fun k_ hk => (⟨hk, hk.1.1.1.2.2.1⟩ : _ ∧ k_ ≠ gb681))) (fun _ hk => hk.1.2) (.slice Ao36 t687.length co36)) (fun _ hk => hk.2) (.int .i64 t703)) (fun _ hk => hk.2) (.slice Ao46 t704.length co46)) (fun _ hk => hk.1.1.1.1.1)), Kd.N_V (by (with_reducible repeat (first | apply Kd.N_alloc | apply Kd.N_drewN | apply Kd.N_drew)); exact Kd.N_mono (Kd.N_far (p := ⟨gb681, 1, none⟩) (Kd.N_far (p := ⟨gb681, 0, none⟩) (Kd.N_far (p := ⟨gb680, 0, none⟩) (Kd.N_mono (Kd.N_mono HO706.out (fun k_ hk => (⟨hk, hk.2.1⟩ : _ ∧ k_ ≠ gb680))) (fun k_ hk => (⟨hk, hk.1.2.2.1⟩ : _ ∧ k_ ≠ gb681))) (fun _ hk => hk.1.2) (.slice Ao36 t687.length co36)) (fun _ hk => hk.2) (.int .i64 t703)) (fun _ hk => hk.2) (.slice Ao46 t704.length co46)) (fun _ hk => hk.1.1.1)), (y22 HB.out HI684.out GE680.out GE681.out GE691.out)⟩
end Go.Proofs.Ytjhbhihfifhljaa.PA
end
