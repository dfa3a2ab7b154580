-- Ytjhbhihfifhljaa's texts for the statement FnExactValOk, one behind the other (merge.py).
import Derived.Test.YtjhbhihfifhljaaQFnExactValOk0
import Derived.Test.YtjhbhihfifhljaaQFnExactValOk1
import Derived.Test.YtjhbhihfifhljaaQFnExactValOk2
section
namespace Go.Proofs.Ytjhbhihfifhljaa.PA
open Go.RowKit Go.Proofs.YtjhbhihfifhljaaW.PrintWords Go.Proofs.YtjhbhihfifhljaaW.PrintLast Go.Proofs.YtjhbhihfifhljaaW.PrintMore
attribute [local go_sem] max2_int min2_int max_two min_two max_three min_three max_four min_four
set_option linter.unusedVariables false
set_option linter.unusedSimpArgs false
def impl_typePair.F (rec_ : List (S30) → Option ((List (S30)))) (k : Nat) (l0_0 : List (S30)) (l1_0 : List (S30)) : Option ((List (S30))) := (rec_ l0_0).bind fun t254 => ((rec_ l1_0).bind fun t257 => (some (([(⟨t254⟩ : S30), (⟨t257⟩ : S30)] : List (S30)))))
def impl_typeCopy.f : Nat → List (S30) → Option ((List (S30)))
 | 0, _ => none
 | k + 1, l0_0 => if (l0_0.length : Int) = 0 then (some ([] : List (S30))) else (if 0 < (l0_0.length : Int) then (if 1 < (l0_0.length : Int) then ((impl_typePair.F (impl_typeCopy.f k) k ((rd_T30 l0_0 0).f0) ((rd_T30 l0_0 1).f0)).bind fun t267 => (some t267)) else (none)) else (none))
theorem impl_typePair.Fmono {rec_ rec2_ : List (S30) → Option ((List (S30)))} (hrec : (∀ y0, LeO (rec_ y0) (rec2_ y0))) : ∀ a0 a1 k, LeO (impl_typePair.F rec_ k a0 a1) (impl_typePair.F rec2_ (k + 1) a0 a1) := by
 intro a0 a1 k
 unfold impl_typePair.F
 repeat' first
   | (with_reducible exact hrec _)
   | (with_reducible exact LeO.refl _)
   | (with_reducible exact LeO.none _)
   | (with_reducible refine LeO.ite ?_ ?_)
   | (with_reducible refine LeO.bind ?_ (fun _ => ?_))
   | exact hrec _
   | exact LeO.none _
   | refine LeO.ite ?_ ?_
   | refine LeO.bind ?_ (fun _ => ?_)
theorem impl_typeCopy.mono_l : ∀ k, (∀ y0, LeO (impl_typeCopy.f k y0) (impl_typeCopy.f (k + 1) y0))
 | 0 => fun _ r h => by simp [impl_typeCopy.f] at h
 | k + 1 => by
  have ih0 := impl_typeCopy.mono_l k
  ·intro y0
   unfold impl_typeCopy.f
   repeat' first
   | (with_reducible exact ih0 _)
   | (with_reducible exact impl_typePair.Fmono ih0 _ _ _)
   | (with_reducible exact LeO.refl _)
   | (with_reducible exact LeO.none _)
   | (with_reducible refine LeO.ite ?_ ?_)
   | (with_reducible refine LeO.bind ?_ (fun _ => ?_))
   | exact ih0 _
   | exact impl_typePair.Fmono ih0 _ _ _
   | exact LeO.none _
   | refine LeO.ite ?_ ?_
   | refine LeO.bind ?_ (fun _ => ?_)
theorem impl_typeCopy.mono : ∀ a0 k, LeO (impl_typeCopy.f k a0) (impl_typeCopy.f (k + 1) a0) := by
 intro a0 k
 have ih0 := impl_typeCopy.mono_l k
 exact ih0 a0
set_option maxHeartbeats 8000000 in
set_option maxRecDepth 100000 in
theorem impl_typePair.Fcalls (rec_ : List (S30) → Option ((List (S30)))) (IH : ∀ (A0_0 : Option Addr) (c0_0 : Nat) (l0_0 : List (S30)) (r : List (S30)) (w : World) (hr0_0 : Kd.C k30 w A0_0 l0_0.length l0_0) (hc0_0 : l0_0.length ≤ c0_0) (h : rec_ l0_0 = some r),
  Calls Try.prog 54 #[.agg #[.slice A0_0 l0_0.length c0_0]] w fun e w' => ∃ v0_ : Value, e = .returned (.agg #[v0_]) ∧ Kd.N k30 30 w' w.heap.size (fun k_ => (w.heap.size ≤ k_)) v0_ r ∧ Below w.heap.size w w') (k : Nat) (A0_0 : Option Addr) (c0_0 : Nat) (l0_0 : List (S30)) (A1_0 : Option Addr) (c1_0 : Nat) (l1_0 : List (S30)) (r : List (S30)) (w : World) (hr0_0 : Kd.C k30 w A0_0 l0_0.length l0_0) (hc0_0 : l0_0.length ≤ c0_0) (hr1_0 : Kd.C k30 w A1_0 l1_0.length l1_0) (hc1_0 : l1_0.length ≤ c1_0) (h : impl_typePair.F rec_ k l0_0 l1_0 = some r) :
  Calls Try.prog 79 #[.agg #[.slice A0_0 l0_0.length c0_0], .agg #[.slice A1_0 l1_0.length c1_0]] w fun e w' => ∃ v0_ : Value, e = .returned (.agg #[v0_]) ∧ Kd.N k30 30 w' w.heap.size (fun k_ => (w.heap.size ≤ k_)) v0_ r ∧ Below w.heap.size w w' := by
 have hu30 := Try.underlying30
 have HR0_0 := Aside0.mk hr0_0
 have HC0_0 := Aside0.mk hc0_0
 clear hr0_0 hc0_0
 have HR1_0 := Aside0.mk hr1_0
 have HC1_0 := Aside0.mk hc1_0
 clear hr1_0 hc1_0
 have HB := Aside0.mk (Below.refl w.heap.size w)
 have H : ((rec_ l0_0).bind fun t254 => ((rec_ l1_0).bind fun t257 => (some (([(⟨t254⟩ : S30), (⟨t257⟩ : S30)] : List (S30)))))) = some r := h
 clear h
 obtain ⟨t254, A30, H⟩ := ob H
 have A3 := Aside0.mk A30
 clear A30
 obtain ⟨t257, A40, H⟩ := ob H
 have A4 := Aside0.mk A40
 clear A40
 obtain ⟨y260, hy260⟩ : ∃ y_ : List (S30), y_ = (([(⟨t254⟩ : S30), (⟨t257⟩ : S30)] : List (S30))) := ⟨_, rfl⟩
 replace H : (some y260) = some r := by first | (rw [hy260]; with_reducible exact H) | (have H2_ := (Option.bind_some _ _).symm.trans H; rw [hy260]; with_reducible exact H2_) | (have H2_ := (Option.bind_some _ _).symm.trans H; with_reducible exact H2_) | with_reducible exact H | (rw [hy260]; exact H) | exact H
 have Ny260 := Aside0.mk hy260
 clear hy260
 obtain rfl := Option.some.inj H
 go_enter Try.func79, Try.ntmps79
 try go_wp2_with (first | ((with_reducible refine gate_dst (N := 2) rfl ?_); refine zbx 2 #[.slice A0_0 l0_0.length c0_0] 30 ?_; intro gb251 hg w5 hbox hb; have BK251 := Aside0.mk hbox; have GW251 := Aside0.mk ((y5 hg HB.out : w.heap.size ≤ gb251)); have GE251 := Aside0.mk ((y5 hg HB.out : w.heap.size ≤ gb251)); replace HB := Aside0.mk (below_step (y2 HB.out) hb); clear hb hbox hg) | ((with_reducible refine gate_dst (N := 3) rfl ?_); refine zbx 3 #[.slice A1_0 l1_0.length c1_0] 30 ?_; intro gb252 hg w6 hbox hb; have BK252 := Aside0.mk hbox; have GW252 := Aside0.mk ((y6 hg HB.out GE251.out : w.heap.size ≤ gb252)); have GE252 := Aside0.mk ((y6 hg HB.out GE251.out : w.heap.size ≤ gb252)); replace HB := Aside0.mk (below_step (y3 HB.out GE251.out) hb); have NB251_252 := zltn hg BK251; have NB252_251 := zgtn hg BK251; replace BK251 := zbb BK251 hb; clear hb hbox hg) | ((with_reducible refine gate_dst (N := 4) rfl ?_); refine zbx 4 #[.slice none 0 0] 30 ?_; intro gb253 hg w7 hbox hb; have BK253 := Aside0.mk hbox; have GW253 := Aside0.mk ((y20 hg HB.out GE251.out GE252.out : w.heap.size ≤ gb253)); have GE253 := Aside0.mk ((y20 hg HB.out GE251.out GE252.out : w.heap.size ≤ gb253)); replace HB := Aside0.mk (below_step (y1 HB.out GE251.out GE252.out) hb); have NB251_253 := zltn hg BK251; have NB253_251 := zgtn hg BK251; replace BK251 := zbb BK251 hb; have NB252_253 := zltn hg BK252; have NB253_252 := zgtn hg BK252; replace BK252 := zbb BK252 hb; clear hb hbox hg))
 replace BK251 := Aside0.mk (blk_drew BK251.out)
 replace BK252 := Aside0.mk (blk_drew BK252.out)
 replace BK253 := Aside0.mk (blk_drew BK253.out)
 replace HB := Aside0.mk (below_drew1 HB.out)
 refine start_ (n := 7) (S := fun w' => w'.cell? ⟨gb251, 0, none⟩ = some (.slice A0_0 l0_0.length c0_0) ∧ w'.cell? ⟨gb252, 0, none⟩ = some (.slice A1_0 l1_0.length c1_0)) (ds := []) #[false, false, false, false, false, false, false] (by kernel_rfl) rfl rfl ⟨(blk_cell BK251.out 0).trans rfl, (blk_cell BK252.out 0).trans rfl⟩ (fun hHeld => ?_)
 generalize w7.drew = w8 at BK251 BK252 BK253 HB hHeld ⊢
 refine take_ (i := 0) (N := some 5) (v := ?_) (a' := ?_) #[true, false, false, false, false, false, false] rfl rfl (by kernel_rfl) (fun _ _ _ h => h) (Or.inl ⟨(by rfl), ?_⟩) hHeld ?_ ?_
 rotate_left
 ·rintro w' ⟨s0, s1⟩
  go_simp
  with_reducible rfl
 rotate_left
 ·simp only [Act.put, List.setIfInBounds_toArray, List.set_cons_zero, List.set_cons_succ, i64_w, i32_w]
  rfl
 refine take_ (i := 2) (N := some 7) (v := ?_) (a' := ?_) #[true, false, true, false, false, false, false] rfl rfl (by kernel_rfl) (fun _ _ _ h => h) (Or.inl ⟨(by rfl), ?_⟩) hHeld ?_ ?_
 rotate_left
 ·rintro w' ⟨s0, s1⟩
  go_simp
  with_reducible rfl
 rotate_left
 ·simp only [Act.put, List.setIfInBounds_toArray, List.set_cons_zero, List.set_cons_succ, i64_w, i32_w]
  rfl
 refine one_ (i := 1) (N := some 6) #[true, true, true, false, false, false, false] rfl rfl (by kernel_rfl) (by decide) (fun K hK => ?_)
 refine goes_ Try.func54 (by kernel_rfl) rfl #[.agg #[.slice A0_0 l0_0.length c0_0]] (by rfl) rfl rfl y4 ?_
 with_reducible refine (IH  _ _ l0_0 t254 _ ?side1 ?side2 A3.out).mono ?_
 (case side1 => exact y8 HR0_0.out HB.out)
 (case side2 => exact HC0_0.out)
 rintro e w9 ⟨v255, rfl, ho0, hb⟩
 refine ⟨_, rfl, ?_⟩
 have HO256 := Aside0.mk (Kd.N_lower (Kd.N_mono (ok' := fun k_ => (w.heap.size ≤ k_) ∧ k_ ≠ gb251 ∧ k_ ≠ gb252 ∧ k_ ≠ gb253) ho0 (fun k_ hk_ => ⟨(Nat.le_trans (below_size (y7 HB.out GE251.out GE252.out GE253.out)) hk_), (Kd.freshB (g := gb251) (o := .cells #[.slice A0_0 l0_0.length c0_0] 30 (0, 0)) (y0 BK251.out) k_ hk_), (Kd.freshB (g := gb252) (o := .cells #[.slice A1_0 l1_0.length c1_0] 30 (0, 0)) (y0 BK252.out) k_ hk_), (Kd.freshB (g := gb253) (o := .cells #[.slice none 0 0] 30 (0, 0)) (y0 BK253.out) k_ hk_)⟩)) (below_size (y7 HB.out GE251.out GE252.out GE253.out)))
 replace BK251 := zbb BK251 hb
 replace BK252 := zbb BK252 hb
 replace BK253 := zbb BK253 hb
 replace HB := Aside0.mk (below_step (y7 HB.out GE251.out GE252.out GE253.out) hb)
 (try clear hb)
 (try clear hb2)
 (try clear hk)
 (try clear hi)
 (try clear ho0)
 refine hK.out _ _ ⟨(blk_cell BK251.out 0).trans rfl, (blk_cell BK252.out 0).trans rfl⟩ (fun hHeld => ?_)
 clear hK K
 refine norm_ (a' := ?_) ?_ ?_
 rotate_left
 ·show Act.put _ (some 6) _ = _
  simp only [Act.put, List.setIfInBounds_toArray, List.set_cons_zero, List.set_cons_succ, i64_w, i32_w]
  rfl
 refine one_ (i := 3) (N := some 8) #[true, true, true, true, false, false, false] rfl rfl (by kernel_rfl) (by decide) (fun K hK => ?_)
 refine goes_ Try.func54 (by kernel_rfl) rfl #[.agg #[.slice A1_0 l1_0.length c1_0]] (by rfl) rfl rfl y4 ?_
 with_reducible refine (IH  _ _ l1_0 t257 _ ?side1 ?side2 A4.out).mono ?_
 (case side1 => exact y8 HR1_0.out HB.out)
 (case side2 => exact HC1_0.out)
 rintro e w10 ⟨v258, rfl, ho0, hb⟩
 refine ⟨_, rfl, ?_⟩
 have HO259 := Aside0.mk (Kd.N_lower (Kd.N_mono (ok' := fun k_ => (w.heap.size ≤ k_) ∧ some k_ ≠ (v255 : Value).ownBlock ∧ k_ ≠ gb251 ∧ k_ ≠ gb252 ∧ k_ ≠ gb253) ho0 (fun k_ hk_ => ⟨(Nat.le_trans (below_size (y7 HB.out GE251.out GE252.out GE253.out)) hk_), (Kd.fresh' (Kd.N_lt (y9 HO256.out)) k_ hk_), (Kd.freshB (g := gb251) (o := .cells #[.slice A0_0 l0_0.length c0_0] 30 (0, 0)) (y0 BK251.out) k_ hk_), (Kd.freshB (g := gb252) (o := .cells #[.slice A1_0 l1_0.length c1_0] 30 (0, 0)) (y0 BK252.out) k_ hk_), (Kd.freshB (g := gb253) (o := .cells #[.slice none 0 0] 30 (0, 0)) (y0 BK253.out) k_ hk_)⟩)) (below_size (y7 HB.out GE251.out GE252.out GE253.out)))
 replace HO256 := Aside0.mk (Kd.N_elder' (y9 HO256.out) (Kd.N_base ho0) hb)
 replace BK251 := zbb BK251 hb
 replace BK252 := zbb BK252 hb
 replace BK253 := zbb BK253 hb
 replace HB := Aside0.mk (below_step (y7 HB.out GE251.out GE252.out GE253.out) hb)
 (try clear hb)
 (try clear hb2)
 (try clear hk)
 (try clear hi)
 (try clear ho0)
 obtain ⟨Ao11, co11, eo11⟩ := Kd.N_slice HO256.out
 (first | subst eo11 | (injection eo11 with f1_ f2_ f3_; have f4_ := f1_.symm; have f5_ := f3_.symm; clear f1_ f2_ f3_; subst f4_; subst f5_))
 obtain ⟨Ao12, co12, eo12⟩ := Kd.N_slice HO259.out
 (first | subst eo12 | (injection eo12 with f1_ f2_ f3_; have f4_ := f1_.symm; have f5_ := f3_.symm; clear f1_ f2_ f3_; subst f4_; subst f5_))
 refine hK.out _ _ ⟨(blk_cell BK251.out 0).trans rfl, (blk_cell BK252.out 0).trans rfl⟩ (fun hHeld => ?_)
 clear hK K
 refine norm_ (a' := ?_) ?_ ?_
 rotate_left
 ·show Act.put _ (some 8) _ = _
  simp only [Act.put, List.setIfInBounds_toArray, List.set_cons_zero, List.set_cons_succ, i64_w, i32_w]
  rfl
 refine one_ (i := 4) (N := some 9) #[true, true, true, true, true, false, false] rfl rfl (by kernel_rfl) (by decide) (fun K hK => ?_)
 refine Kd.N_lit_step k30 _ 30 ?hg (N' := 9) ?hd (xs := ([(⟨t254⟩ : S30), (⟨t257⟩ : S30)] : List (S30))) (inner := [.slice Ao11 t254.length co11, .slice Ao12 t257.length co12]) (ok := (fun k_ => (w.heap.size ≤ k_) ∧ k_ ≠ gb251 ∧ k_ ≠ gb252 ∧ k_ ≠ gb253)) (okp := (fun k_ => (w.heap.size ≤ k_) ∧ k_ ≠ gb251 ∧ k_ ≠ gb252 ∧ k_ ≠ gb253)) ?hr ?hp (fun _ hk => hk) ((show ∀ k_, w10.heap.size ≤ k_ → (fun k_ => (w.heap.size ≤ k_) ∧ k_ ≠ gb251 ∧ k_ ≠ gb252 ∧ k_ ≠ gb253) k_ from fun k_ hk => ⟨(Nat.le_trans (below_size (y7 HB.out GE251.out GE252.out GE253.out)) hk), Kd.freshB (g := gb251) (o := .cells #[.slice A0_0 l0_0.length c0_0] 30 (0, 0)) (y0 BK251.out) k_ hk, Kd.freshB (g := gb252) (o := .cells #[.slice A1_0 l1_0.length c1_0] 30 (0, 0)) (y0 BK252.out) k_ hk, Kd.freshB (g := gb253) (o := .cells #[.slice none 0 0] 30 (0, 0)) (y0 BK253.out) k_ hk⟩) _ (Nat.le_refl _)) (Below.refl _ _) (Nat.le_refl _) (by simp) ?_; (case hd => rfl); (case hg => rfl); (case hr => first | (go_simp; done) | (go_simp; rfl)); (case hp => exact (Reps.one (show Kd.FK k30 _ _ (⟨t254⟩ : S30) [.slice Ao11 t254.length co11] from (k30_mkF _ _ (⟨t254⟩ : S30) (Kd.N_reads' (Kd.N_mono (ok' := (fun k_ => (w.heap.size ≤ k_) ∧ k_ ≠ gb251 ∧ k_ ≠ gb252 ∧ k_ ≠ gb253)) (HO256.out) (fun k_ hk => ⟨hk.1.1, ⟨hk.1.2.1, ⟨hk.1.2.2.1, hk.1.2.2.2⟩⟩⟩))).2.1 (Kd.N_F (Kd.N_mono (ok' := (fun k_ => (w.heap.size ≤ k_) ∧ k_ ≠ gb251 ∧ k_ ≠ gb252 ∧ k_ ≠ gb253)) (HO256.out) (fun k_ hk => ⟨hk.1.1, ⟨hk.1.2.1, ⟨hk.1.2.2.1, hk.1.2.2.2⟩⟩⟩))))) (Reps.one (show Kd.FK k30 _ _ (⟨t257⟩ : S30) [.slice Ao12 t257.length co12] from (k30_mkF _ _ (⟨t257⟩ : S30) (Kd.N_reads' (Kd.N_mono (ok' := (fun k_ => (w.heap.size ≤ k_) ∧ k_ ≠ gb251 ∧ k_ ≠ gb252 ∧ k_ ≠ gb253)) (HO259.out) (fun k_ hk => ⟨hk.1, ⟨hk.2.2.1, ⟨hk.2.2.2.1, hk.2.2.2.2⟩⟩⟩))).2.1 (Kd.N_F (Kd.N_mono (ok' := (fun k_ => (w.heap.size ≤ k_) ∧ k_ ≠ gb251 ∧ k_ ≠ gb252 ∧ k_ ≠ gb253)) (HO259.out) (fun k_ hk => ⟨hk.1, ⟨hk.2.2.1, ⟨hk.2.2.2.1, hk.2.2.2.2⟩⟩⟩))))) (Reps.none _ _))))
 intro v261 w13 ho14 hb hg_ hnew_
 clear hg_ hnew_
 (first | rw [← Ny260.out] at ho14 | (simp only [Int.reduceToNat] at ho14; rw [← Ny260.out] at ho14))
 have HO262 := Aside0.mk (Kd.N_lower ho14 (below_size (y7 HB.out GE251.out GE252.out GE253.out)))
 replace BK251 := zbb BK251 hb
 replace BK252 := zbb BK252 hb
 replace BK253 := zbb BK253 hb
 replace HB := Aside0.mk (below_step (y7 HB.out GE251.out GE252.out GE253.out) hb)
 clear HO256 HO259
 clear hb ho14
 obtain ⟨Ao15, co15, eo15⟩ := Kd.N_slice HO262.out
 (first | subst eo15 | (injection eo15 with f1_ f2_ f3_; have f4_ := f1_.symm; have f5_ := f3_.symm; clear f1_ f2_ f3_; subst f4_; subst f5_))
 refine hK.out _ _ ⟨(blk_cell BK251.out 0).trans rfl, (blk_cell BK252.out 0).trans rfl⟩ (fun hHeld => ?_)
 clear hK K
 refine norm_ (a' := ?_) ?_ ?_
 rotate_left
 ·show Act.put _ (some 9) _ = _
  simp only [Act.put, List.setIfInBounds_toArray, List.set_cons_zero, List.set_cons_succ, i64_w, i32_w]
  rfl
 refine pure_ (i := 5) (N := some 10) (v := ?_) (a' := ?_) #[true, true, true, true, true, true, false] rfl rfl (by kernel_rfl) (fun _ _ _ h => h) (Or.inl ⟨(by rfl), ?_⟩) ?_ ?_
 rotate_left
 ·intro w'
  go_simp
  with_reducible rfl
 rotate_left
 ·simp only [Act.put, List.setIfInBounds_toArray, List.set_cons_zero, List.set_cons_succ, i64_w, i32_w]
  rfl
 refine one_ (i := 6) (N := none) #[true, true, true, true, true, true, true] rfl rfl (by kernel_rfl) (by decide) (fun K hK => ?_)
 have hs16 : w13.cell? ⟨gb253, 0, none⟩ = some (.slice none 0 0) := (blk_cell BK253.out 0).trans rfl
 have hfs16 := zfr BK253 0
 have hns16_0 := NB251_253.out
 have hns16_1 := NB252_253.out
 have hms16_0 := NB253_251.out
 have hms16_1 := NB253_252.out
 refine skip_ (w1 := ?_) (by rfl) rfl ?_ ?_
 rotate_left
 ·go_simp
  rfl
 refine hK.out _ _ ⟨((cell_far (p := ⟨gb253, _, none⟩) NB251_253.out _).trans (hHeld.1)), ((cell_far (p := ⟨gb253, _, none⟩) NB252_253.out _).trans (hHeld.2))⟩ (fun hHeld => ?_)
 clear hK K
 refine done_ (by kernel_rfl) ?_
 try go_wp2
 refine bodyPost_ret (results_cell_row rfl _ _ gb253 30 #[.slice Ao15 y260.length co15] (0, 0) _ rfl (by (with_reducible repeat (first | refine blk_drewN ?_ _ | refine blk_drew ?_ | refine blk_alloc ?_ _)); apply blk_put (i := 0); (case h => exact y0 BK253.out); (case e => rfl)) Try.underlying30 rfl (by kernel_rfl)) rfl ?_
 exact ⟨_, y14, (by (with_reducible repeat (first | apply Kd.N_alloc | apply Kd.N_drewN | apply Kd.N_drew)); exact Kd.N_mono (Kd.N_far (p := ⟨gb253, 0, none⟩) (Kd.N_mono HO262.out (fun k_ hk => (⟨hk, hk.2.2.2⟩ : _ ∧ k_ ≠ gb253))) (fun _ hk => hk.2) (.slice Ao15 y260.length co15)) (fun _ hk => hk.1.1)), (y7 HB.out GE251.out GE252.out GE253.out)⟩
def impl_typeCopy.T3 : Bool × List (List Nat × List Nat) := (true, [([], []), ([0], [0]), ([1], [1]), ([2], [2]), ([], []), ([4], [4]), ([5], [5]), ([6], [6]), ([3, 7], [3, 7]), ([8, 8, 0, 1, 2, 3, 4, 5, 6, 7, 8], [8])])
def impl_typeCopy.B3 : List Nat := [0, 1, 3, 7, 0, 16, 48, 112, 255, 511]
theorem impl_typeCopy.tab3 : rtab .any (opsOf Try.f54 3) = impl_typeCopy.T3 := by kernel_rfl
theorem impl_typeCopy.bits3 : waitsOk impl_typeCopy.T3.2 impl_typeCopy.B3 = true := by kernel_rfl
set_option maxHeartbeats 8000000 in
set_option maxRecDepth 100000 in
theorem impl_typeCopy.calls (k : Nat) : ∀ (A0_0 : Option Addr) (c0_0 : Nat) (l0_0 : List (S30)) (r : List (S30)) (w : World) (hr0_0 : Kd.C k30 w A0_0 l0_0.length l0_0) (hc0_0 : l0_0.length ≤ c0_0) (h : impl_typeCopy.f k l0_0 = some r),
  Calls Try.prog 54 #[.agg #[.slice A0_0 l0_0.length c0_0]] w fun e w' => ∃ v0_ : Value, e = .returned (.agg #[v0_]) ∧ Kd.N k30 30 w' w.heap.size (fun k_ => (w.heap.size ≤ k_)) v0_ r ∧ Below w.heap.size w w' := by
 induction k using Nat.strongRecOn with
 | _ k ih =>
 intro A0_0 c0_0 l0_0 r w hr0_0 hc0_0 h
 cases k with
 | zero => exact absurd h (by simp [impl_typeCopy.f])
 | succ k =>
 simp only [impl_typeCopy.f] at h
 have hu30 := Try.underlying30
 have HR0_0 := Aside0.mk hr0_0
 have HC0_0 := Aside0.mk hc0_0
 clear hr0_0 hc0_0
 have HB := Aside0.mk (Below.refl w.heap.size w)
 have H : (if (l0_0.length : Int) = 0 then (some ([] : List (S30))) else (if 0 < (l0_0.length : Int) then (if 1 < (l0_0.length : Int) then ((impl_typePair.F (impl_typeCopy.f k) k ((rd_T30 l0_0 0).f0) ((rd_T30 l0_0 1).f0)).bind fun t267 => (some t267)) else (none)) else (none))) = some r := h
 clear h
 by_cases c2 : (l0_0.length : Int) = 0
 ·rw [if_pos c2] at H
  have c2b0 : ((l0_0.length : Int) == 0) = true := beq_iff_eq.mpr c2
  have c2b1 : ((l0_0.length : Int) != 0) = false := bne_eq_false_iff_eq.mpr c2
  clear c2
  obtain rfl := Option.some.inj H
  go_enter Try.func54, Try.ntmps54
  go_wp2_with (first | ((with_reducible refine gate_dst (N := 1) rfl ?_); refine zbx 1 #[.slice A0_0 l0_0.length c0_0] 30 ?_; intro gb263 hg w3 hbox hb; have BK263 := Aside0.mk hbox; have GW263 := Aside0.mk ((y5 hg HB.out : w.heap.size ≤ gb263)); have GE263 := Aside0.mk ((y5 hg HB.out : w.heap.size ≤ gb263)); replace HB := Aside0.mk (below_step (y2 HB.out) hb); clear hb hbox hg) | ((with_reducible refine gate_dst (N := 2) rfl ?_); refine zbx 2 #[.slice none 0 0] 30 ?_; intro gb264 hg w4 hbox hb; have BK264 := Aside0.mk hbox; have GW264 := Aside0.mk ((y6 hg HB.out GE263.out : w.heap.size ≤ gb264)); have GE264 := Aside0.mk ((y6 hg HB.out GE263.out : w.heap.size ≤ gb264)); replace HB := Aside0.mk (below_step (y3 HB.out GE263.out) hb); have NB263_264 := zltn hg BK263; have NB264_263 := zgtn hg BK263; replace BK263 := zbb BK263 hb; clear hb hbox hg; have hnb5 := NB263_264.out; have hnc5 := NB264_263.out; have hcz6_0 := zh BK263; have hfz6_0 := zfr BK263 0; have hcz7_0 := zh BK264; have hfz7_0 := zfr BK264 0))
  refine bodyPost_ret (results_cell_row rfl _ _ gb264 30 #[.slice none 0 0] (0, 0) _ rfl (by (with_reducible repeat (first | refine blk_drewN ?_ _ | refine blk_drew ?_ | refine blk_alloc ?_ _)); apply blk_put (i := 0); (case h => exact y0 BK264.out); (case e => rfl)) Try.underlying30 rfl (by kernel_rfl)) rfl ?_
  exact ⟨_, y14, y36, (y1 HB.out GE263.out GE264.out)⟩
 ·rw [if_neg c2] at H
  have c2b0 : ((l0_0.length : Int) == 0) = false := beq_eq_false_iff_ne.mpr c2
  have c2b1 : ((l0_0.length : Int) != 0) = true := bne_iff_ne.mpr c2
  have c2b2 : ¬ (l0_0 = []) := fun h_ => c2 (by rw [h_]; rfl)
  by_cases c8 : 0 < (l0_0.length : Int)
  ·rw [if_pos c8] at H
   have c8b0 : decide (0 < (l0_0.length : Int)) = true := decide_eq_true c8
   have c8b1 : decide (0 < l0_0.length) = true := decide_eq_true (by omega)
   clear c8
   by_cases c9 : 1 < (l0_0.length : Int)
   ·rw [if_pos c9] at H
    have c9b0 : decide (1 < (l0_0.length : Int)) = true := decide_eq_true c9
    have c9b1 : decide (1 < l0_0.length) = true := decide_eq_true (by omega)
    clear c9
    obtain ⟨t267, A100, H⟩ := ob H
    have A10 := Aside0.mk A100
    clear A100
    obtain rfl := Option.some.inj H
    go_enter Try.func54, Try.ntmps54
    try go_wp2_with (first | ((with_reducible refine gate_dst (N := 1) rfl ?_); refine zbx 1 #[.slice A0_0 l0_0.length c0_0] 30 ?_; intro gb263 hg w11 hbox hb; have BK263 := Aside0.mk hbox; have GW263 := Aside0.mk ((y5 hg HB.out : w.heap.size ≤ gb263)); have GE263 := Aside0.mk ((y5 hg HB.out : w.heap.size ≤ gb263)); replace HB := Aside0.mk (below_step (y2 HB.out) hb); clear hb hbox hg) | ((with_reducible refine gate_dst (N := 2) rfl ?_); refine zbx 2 #[.slice none 0 0] 30 ?_; intro gb264 hg w12 hbox hb; have BK264 := Aside0.mk hbox; have GW264 := Aside0.mk ((y6 hg HB.out GE263.out : w.heap.size ≤ gb264)); have GE264 := Aside0.mk ((y6 hg HB.out GE263.out : w.heap.size ≤ gb264)); replace HB := Aside0.mk (below_step (y3 HB.out GE263.out) hb); have NB263_264 := zltn hg BK263; have NB264_263 := zgtn hg BK263; replace BK263 := zbb BK263 hb; clear hb hbox hg; have hnb13 := NB263_264.out; have hnc13 := NB264_263.out; have hcz14_0 := zh BK263; have hfz14_0 := zfr BK263 0))
    replace BK263 := Aside0.mk (blk_drew BK263.out)
    replace BK264 := Aside0.mk (blk_drew BK264.out)
    replace HB := Aside0.mk (below_drew1 HB.out)
    have p265 : 0 ≤ (0 : Int) := (by omega)
    have q265 : 0 < (l0_0.length : Int) := of_decide_eq_true y19
    obtain ⟨ad265, A265_0, c265_0, e265, hx265_0, hl265_0, hi265_0⟩ := at_T30 HR0_0.out 0 p265 q265
    have hw265_0 := hx265_0
    (try rw [show ((0 : Int)).toNat = 0 from rfl] at hw265_0)
    (try rw [show 0 * 1 = 0 from rfl] at hw265_0)
    (try rw [Addr.add_zero'] at hw265_0)
    cases e265
    have qi265 : (0 < l0_0.length) = True := eq_true (by omega)
    (try rw [show ((0 : Int)).toNat = 0 from rfl] at hx265_0)
    (try rw [Addr.add_zero'] at hx265_0)
    replace hx265_0 := (HB.out.cell (World.block_lt_of_cell? w _ hx265_0)).trans hx265_0
    have HR265_0 := Aside0.mk hi265_0
    have HC265_0 := Aside0.mk hl265_0
    clear hi265_0 hl265_0
    replace p265 := eq_true p265
    replace q265 := eq_true q265
    have p266 : 0 ≤ (1 : Int) := (by omega)
    have q266 : 1 < (l0_0.length : Int) := of_decide_eq_true y19
    obtain ⟨ad266, A266_0, c266_0, e266, hx266_0, hl266_0, hi266_0⟩ := at_T30 HR0_0.out 1 p266 q266
    have hw266_0 := hx266_0
    (try rw [show ((1 : Int)).toNat = 1 from rfl] at hw266_0)
    (try rw [show 1 * 1 = 1 from rfl] at hw266_0)
    (try simp only [Nat.reduceMul, Nat.reduceEqDiff, Go.Addr.add, ↓reduceIte] at hw266_0)
    obtain rfl : ad265 = ad266 := (by injection e266)
    (try simp only [show (1 : Int).toNat = 1 from rfl, Nat.reduceMul, Nat.reduceEqDiff, Go.Addr.add, ↓reduceIte] at hx266_0)
    have qi266 : (1 < l0_0.length) = True := eq_true (by omega)
    (try rw [show ((1 : Int)).toNat = 1 from rfl] at hx266_0)
    replace hx266_0 := (HB.out.cell (World.block_lt_of_cell? w _ hx266_0)).trans hx266_0
    have HR266_0 := Aside0.mk hi266_0
    have HC266_0 := Aside0.mk hl266_0
    clear hi266_0 hl266_0
    replace p266 := eq_true p266
    replace q266 := eq_true q266
    refine start_ (n := 10) (S := fun w' => w'.cell? ⟨gb263, 0, none⟩ = some (.slice (some ad265) l0_0.length c0_0) ∧ w'.cell? ad265 = some (.slice A265_0 ((rd_T30 l0_0 0).f0).length c265_0) ∧ w'.cell? ⟨ad265.block, ad265.off + 1, none⟩ = some (.slice A266_0 ((rd_T30 l0_0 1).f0).length c266_0)) (ds := []) #[false, false, false, false, false, false, false, false, false, false] (by kernel_rfl) rfl rfl ⟨(blk_cell BK263.out 0).trans rfl, ((HB.out.cell (World.block_lt_of_cell? w _ hw265_0)).trans hw265_0), ((HB.out.cell (World.block_lt_of_cell? w _ hw266_0)).trans hw266_0)⟩ (fun hHeld => ?_); refine with_tabW impl_typeCopy.tab3 impl_typeCopy.bits3 (fun HT_ HW_ => ?_)
    generalize w12.drew = w15 at BK263 BK264 HB HR265_0 HR266_0 hx265_0 hx266_0 hHeld ⊢
    refine zp 0 (some 8) HT_ ?_
    refine zp 4 (some 12) HT_ ?_
    refine zt3 1 (some 9) HT_ HW_ hHeld ?_
    refine zp 2 (some 10) HT_ ?_
    refine zt3 3 (some 11) HT_ HW_ hHeld ?_
    refine zt3 5 (some 13) HT_ HW_ hHeld ?_
    refine zp 6 (some 14) HT_ ?_
    refine zt3 7 (some 15) HT_ HW_ hHeld ?_
    refine one_ (i := 8) (N := some 16) #[true, true, true, true, true, true, true, true, true, false] rfl rfl (one_of HT_.out (by kernel_rfl)) (by decide) (fun K hK => ?_)
    refine goes_ Try.func79 (by kernel_rfl) rfl #[.agg #[.slice A265_0 ((rd_T30 l0_0 0).f0).length c265_0], .agg #[.slice A266_0 ((rd_T30 l0_0 1).f0).length c266_0]] (by rfl) rfl rfl y4 ?_
    with_reducible refine (impl_typePair.Fcalls (impl_typeCopy.f k) (ih k (by omega)) k _ _ ((rd_T30 l0_0 0).f0) _ _ ((rd_T30 l0_0 1).f0) t267 _ ?side1 ?side2 ?side3 ?side4 A10.out).mono ?_
    (case side1 => exact y8 HR265_0.out HB.out)
    (case side2 => exact HC265_0.out)
    (case side3 => exact y8 HR266_0.out HB.out)
    (case side4 => exact HC266_0.out)
    rintro e w16 ⟨v268, rfl, ho0, hb⟩
    refine ⟨_, rfl, ?_⟩
    have HO269 := Aside0.mk (Kd.N_lower (Kd.N_mono (ok' := fun k_ => (w.heap.size ≤ k_) ∧ k_ ≠ gb263 ∧ k_ ≠ gb264) ho0 (fun k_ hk_ => ⟨(Nat.le_trans (below_size (y1 HB.out GE263.out GE264.out)) hk_), (Kd.freshB (g := gb263) (o := .cells #[.slice (some ad265) l0_0.length c0_0] 30 (0, 0)) (y0 BK263.out) k_ hk_), (Kd.freshB (g := gb264) (o := .cells #[.slice none 0 0] 30 (0, 0)) (y0 BK264.out) k_ hk_)⟩)) (below_size (y1 HB.out GE263.out GE264.out)))
    replace BK263 := zbb BK263 hb
    replace BK264 := zbb BK264 hb
    replace HB := Aside0.mk (below_step (y1 HB.out GE263.out GE264.out) hb)
    (try clear hb)
    (try clear hb2)
    (try clear hk)
    (try clear hi)
    (try clear ho0)
    obtain ⟨Ao17, co17, eo17⟩ := Kd.N_slice HO269.out
    (first | subst eo17 | (injection eo17 with f1_ f2_ f3_; have f4_ := f1_.symm; have f5_ := f3_.symm; clear f1_ f2_ f3_; subst f4_; subst f5_))
    refine hK.out _ _ ⟨(blk_cell BK263.out 0).trans rfl, ((HB.out.cell (World.block_lt_of_cell? w _ hw265_0)).trans hw265_0), ((HB.out.cell (World.block_lt_of_cell? w _ hw266_0)).trans hw266_0)⟩ (fun hHeld => ?_)
    clear hK K
    refine norm_ (a' := ?_) ?_ ?_
    rotate_left
    ·show Act.put _ (some 16) _ = _
     simp only [Act.put, List.setIfInBounds_toArray, List.set_cons_zero, List.set_cons_succ, i64_w, i32_w]
     rfl
    refine one_ (i := 9) (N := none) #[true, true, true, true, true, true, true, true, true, true] rfl rfl (one_of HT_.out (by kernel_rfl)) (by decide) (fun K hK => ?_)
    have hs18 : w16.cell? ⟨gb264, 0, none⟩ = some (.slice none 0 0) := (blk_cell BK264.out 0).trans rfl
    have hfs18 := zfr BK264 0
    have hns18_0 := NB263_264.out
    have hms18_0 := NB264_263.out
    refine skip_ (w1 := ?_) (by rfl) rfl ?_ ?_
    rotate_left
    ·go_simp
     rfl
    refine hK.out _ _ ⟨((cell_far (p := ⟨gb264, _, none⟩) NB263_264.out _).trans (hHeld.1)), ((cell_far (p := ⟨gb264, _, none⟩) (by first | exact Nat.ne_of_lt (Nat.lt_of_lt_of_le (by have := World.block_lt_of_cell? _ _ hw265_0; first | rwa [add_block] at this | exact this) GW264.out) | (rw [add_block]; exact Nat.ne_of_lt (Nat.lt_of_lt_of_le (by have := World.block_lt_of_cell? _ _ hw265_0; first | rwa [add_block] at this | exact this) GW264.out)) | (show (Addr.add _ _).block ≠ _; rw [add_block]; exact Nat.ne_of_lt (Nat.lt_of_lt_of_le (by have := World.block_lt_of_cell? _ _ hw265_0; first | rwa [add_block] at this | exact this) GW264.out)) | (dsimp only; exact Nat.ne_of_lt (Nat.lt_of_lt_of_le (by have := World.block_lt_of_cell? _ _ hw265_0; first | rwa [add_block] at this | exact this) GW264.out))) _).trans (hHeld.2.1)), ((cell_far (p := ⟨gb264, _, none⟩) (by first | exact Nat.ne_of_lt (Nat.lt_of_lt_of_le (by have := World.block_lt_of_cell? _ _ hw266_0; first | rwa [add_block] at this | exact this) GW264.out) | (rw [add_block]; exact Nat.ne_of_lt (Nat.lt_of_lt_of_le (by have := World.block_lt_of_cell? _ _ hw266_0; first | rwa [add_block] at this | exact this) GW264.out)) | (show (Addr.add _ _).block ≠ _; rw [add_block]; exact Nat.ne_of_lt (Nat.lt_of_lt_of_le (by have := World.block_lt_of_cell? _ _ hw266_0; first | rwa [add_block] at this | exact this) GW264.out)) | (dsimp only; exact Nat.ne_of_lt (Nat.lt_of_lt_of_le (by have := World.block_lt_of_cell? _ _ hw266_0; first | rwa [add_block] at this | exact this) GW264.out))) _).trans (hHeld.2.2))⟩ (fun hHeld => ?_)
    clear hK K
    refine done_ (done_of HT_.out (by kernel_rfl)) ?_
    try go_wp2
    refine bodyPost_ret (results_cell_row rfl _ _ gb264 30 #[.slice Ao17 t267.length co17] (0, 0) _ rfl (by (with_reducible repeat (first | refine blk_drewN ?_ _ | refine blk_drew ?_ | refine blk_alloc ?_ _)); apply blk_put (i := 0); (case h => exact y0 BK264.out); (case e => rfl)) Try.underlying30 rfl (by kernel_rfl)) rfl ?_
    exact ⟨_, y14, (by (with_reducible repeat (first | apply Kd.N_alloc | apply Kd.N_drewN | apply Kd.N_drew)); exact Kd.N_mono (Kd.N_far (p := ⟨gb264, 0, none⟩) (Kd.N_mono HO269.out (fun k_ hk => (⟨hk, hk.2.2⟩ : _ ∧ k_ ≠ gb264))) (fun _ hk => hk.2) (.slice Ao17 t267.length co17)) (fun _ hk => hk.1.1)), (y1 HB.out GE263.out GE264.out)⟩
   ·rw [if_neg c9] at H
    exact absurd H (by simp)
  ·rw [if_neg c8] at H
   exact absurd H (by simp)
def impl_typePair.f (k : Nat) (l0_0 : List (S30)) (l1_0 : List (S30)) : Option ((List (S30))) := impl_typePair.F (impl_typeCopy.f k) k l0_0 l1_0
theorem impl_typePair.mono : ∀ a0 a1 k, LeO (impl_typePair.f k a0 a1) (impl_typePair.f (k + 1) a0 a1) := fun a0 a1 k => impl_typePair.Fmono (fun y0 => impl_typeCopy.mono y0 k) a0 a1 k
theorem impl_typePair.calls (k : Nat) (A0_0 : Option Addr) (c0_0 : Nat) (l0_0 : List (S30)) (A1_0 : Option Addr) (c1_0 : Nat) (l1_0 : List (S30)) (r : List (S30)) (w : World) (hr0_0 : Kd.C k30 w A0_0 l0_0.length l0_0) (hc0_0 : l0_0.length ≤ c0_0) (hr1_0 : Kd.C k30 w A1_0 l1_0.length l1_0) (hc1_0 : l1_0.length ≤ c1_0) (h : impl_typePair.f k l0_0 l1_0 = some r) :
  Calls Try.prog 79 #[.agg #[.slice A0_0 l0_0.length c0_0], .agg #[.slice A1_0 l1_0.length c1_0]] w fun e w' => ∃ v0_ : Value, e = .returned (.agg #[v0_]) ∧ Kd.N k30 30 w' w.heap.size (fun k_ => (w.heap.size ≤ k_)) v0_ r ∧ Below w.heap.size w w' := impl_typePair.Fcalls (impl_typeCopy.f k) (impl_typeCopy.calls k) k A0_0 c0_0 l0_0 A1_0 c1_0 l1_0 r w hr0_0 hc0_0 hr1_0 hc1_0 h
end Go.Proofs.Ytjhbhihfifhljaa.PA
end
section
namespace Go.Proofs.Ytjhbhihfifhljaa.PA
open Go.RowKit Go.Proofs.YtjhbhihfifhljaaW.PrintWords Go.Proofs.YtjhbhihfifhljaaW.PrintLast Go.Proofs.YtjhbhihfifhljaaW.PrintMore
attribute [local go_sem] max2_int min2_int max_two min_two max_three min_three max_four min_four
set_option linter.unusedVariables false
set_option linter.unusedSimpArgs false
def impl_TypeAt.f (k : Nat) (l0_0 : List (S30)) (l1 : List Int) : Option ((List (S30)) × Bool) := (impl_TypeOk.f k l0_0).bind fun t272 => (if t272 = true then ((impl_Type.f k l0_0 l1).bind fun bt273 => (if bt273.2 = true then ((impl_typeCopy.f k bt273.1).bind fun t278 => (some (t278, true))) else (some (([] : List (S30)), false)))) else (some (([] : List (S30)), false)))
theorem impl_TypeAt.mono : ∀ a0 a1 k, LeO (impl_TypeAt.f k a0 a1) (impl_TypeAt.f (k + 1) a0 a1) := by
 intro a0 a1 k
 unfold impl_TypeAt.f
 repeat' first
   | (with_reducible exact impl_Type.mono _ _ _)
   | (with_reducible exact impl_TypeOk.mono _ _)
   | (with_reducible exact impl_typeCopy.mono _ _)
   | (with_reducible exact LeO.refl _)
   | (with_reducible exact LeO.none _)
   | (with_reducible refine LeO.ite ?_ ?_)
   | (with_reducible refine LeO.bind ?_ (fun _ => ?_))
   | exact impl_Type.mono _ _ _
   | exact impl_TypeOk.mono _ _
   | exact impl_typeCopy.mono _ _
   | exact LeO.none _
   | refine LeO.ite ?_ ?_
   | refine LeO.bind ?_ (fun _ => ?_)
set_option maxHeartbeats 8000000 in
set_option maxRecDepth 100000 in
theorem impl_TypeAt.calls (k : Nat) (P0_0_ : Nat → Prop) (A0_0 : Option Addr) (c0_0 : Nat) (l0_0 : List (S30)) (A1 : Option Addr) (c1 : Nat) (l1 : List Int) (r1 : List (S30)) (r2 : Bool) (w : World) (hs0_0 : Kd.V k30 30 w w.heap.size (fun k_ => P0_0_ k_) (.slice A0_0 l0_0.length c0_0) l0_0) (hr1 : Kd.C (Kd.int .i64) w A1 l1.length l1) (hc1 : l1.length ≤ c1) (h : impl_TypeAt.f k l0_0 l1 = some (r1, r2)) :
  Calls Try.prog 21 #[.agg #[.slice A0_0 l0_0.length c0_0], .slice A1 l1.length c1] w fun e w' => ∃ v0_ : Value, e = .returned (.tuple #[.agg #[v0_], .bool r2]) ∧ Kd.N k30 30 w' w.heap.size (fun k_ => (P0_0_ k_ ∨ w.heap.size ≤ k_)) v0_ r1 ∧ Below w.heap.size w w' := by
 have hu30 := Try.underlying30
 have HO0_0 := Aside0.mk (show Kd.V k30 30 w w.heap.size (fun k_ => (P0_0_ k_ ∨ w.heap.size ≤ k_)) (.slice A0_0 l0_0.length c0_0) l0_0 from Kd.V_mono hs0_0 (fun k_ hk => .inl hk))
 have HR1 := Aside0.mk hr1
 have HC1 := Aside0.mk hc1
 clear hr1 hc1
 have HB := Aside0.mk (Below.refl w.heap.size w)
 have H : ((impl_TypeOk.f k l0_0).bind fun t272 => (if t272 = true then ((impl_Type.f k l0_0 l1).bind fun bt273 => (if bt273.2 = true then ((impl_typeCopy.f k bt273.1).bind fun t278 => (some (t278, true))) else (some (([] : List (S30)), false)))) else (some (([] : List (S30)), false)))) = some (r1, r2) := h
 clear h
 obtain ⟨t272, A30, H⟩ := ob H
 have A3 := Aside0.mk A30
 clear A30
 by_cases c4 : t272 = true
 ·subst c4
  rw [if_pos rfl] at H
  obtain ⟨⟨t273, t276⟩, A50, H⟩ := ob H
  have A5 := Aside0.mk A50
  clear A50
  by_cases c6 : t276 = true
  ·subst c6
   rw [if_pos rfl] at H
   obtain ⟨t278, A70, H⟩ := ob H
   have A7 := Aside0.mk A70
   clear A70
   simp only [Option.some.injEq, Prod.mk.injEq] at H
   obtain ⟨rfl, rfl⟩ := H
   go_enter Try.func21, Try.ntmps21
   go_wp2_with (first | ((with_reducible refine gate_dst (N := 2) rfl ?_); refine zbx 2 #[.slice A0_0 l0_0.length c0_0] 30 ?_; intro gb270 hg w8 hbox hb; replace HO0_0 := Aside0.mk (Kd.V_below (Kd.V_elderB (y13 HO0_0.out) gb270 (Nat.le_of_eq hg.symm)) hb); have BK270 := Aside0.mk hbox; have GW270 := Aside0.mk ((y5 hg HB.out : w.heap.size ≤ gb270)); have GE270 := Aside0.mk ((y5 hg HB.out : w.heap.size ≤ gb270)); replace HB := Aside0.mk (below_step (y2 HB.out) hb); clear hb hbox hg) | ((with_reducible refine gate_dst (N := 4) rfl ?_); refine zbx 4 #[.slice none 0 0] 30 ?_; intro gb271 hg w9 hbox hb; replace HO0_0 := Aside0.mk (Kd.V_below (Kd.V_elderB (y13 HO0_0.out) gb271 (Nat.le_of_eq hg.symm)) hb); have BK271 := Aside0.mk hbox; have GW271 := Aside0.mk ((y6 hg HB.out GE270.out : w.heap.size ≤ gb271)); have GE271 := Aside0.mk ((y6 hg HB.out GE270.out : w.heap.size ≤ gb271)); replace HB := Aside0.mk (below_step (y3 HB.out GE270.out) hb); have NB270_271 := zltn hg BK270; have NB271_270 := zgtn hg BK270; replace BK270 := zbb BK270 hb; clear hb hbox hg; have hnb10 := NB270_271.out; have hnc10 := NB271_270.out; have hcz11_0 := zh BK270; have hfz11_0 := zfr BK270 0) | ((with_reducible refine gate_callee (f := 18) rfl ?_); refine goesL_ (some 9) rfl rfl Try.func18 (by kernel_rfl) rfl #[.agg #[.slice A0_0 l0_0.length c0_0]] rfl y4 ?_; (with_reducible refine (impl_TypeOk.calls k _ _ l0_0 true _ ?side1 ?side2 A3.out).mono ?_); (case side1 => exact y31 HO0_0.out); (case side2 => exact (Kd.V_reads' HO0_0.out).2.1); rintro e w12 ⟨rfl, hb⟩; refine ⟨_, rfl, ?_⟩; replace HO0_0 := Aside0.mk (Kd.V_below (y13 HO0_0.out) hb); replace BK270 := zbb BK270 hb; replace BK271 := zbb BK271 hb; replace HB := Aside0.mk (below_step (y1 HB.out GE270.out GE271.out) hb); (try clear hb); (try clear hb2); (try clear hk); (try clear hi); have hcz13_0 := zh BK270; have hfz13_0 := zfr BK270 0) | ((with_reducible refine gate_callee (f := 53) rfl ?_); refine goesL_ (some 15) rfl rfl Try.func53 (by kernel_rfl) rfl #[.agg #[.slice A0_0 l0_0.length c0_0], .slice A1 l1.length c1] rfl y4 ?_; (with_reducible refine (impl_Type.calls k (fun k_ => (((P0_0_ k_ ∨ w.heap.size ≤ k_) ∧ k_ ≠ gb270) ∧ k_ ≠ gb271)) _ _ l0_0 _ _ l1 t273 true _ ?side1 ?side2 ?side3 A5.out).mono ?_); (case side1 => exact HO0_0.out); (case side2 => exact y8 HR1.out HB.out); (case side3 => exact HC1.out); rintro e w14 ⟨v274, rfl, ho0, hb⟩; refine ⟨_, rfl, ?_⟩; replace HO0_0 := Aside0.mk (Kd.V_below (y13 HO0_0.out) hb); have HO275 := Aside0.mk (Kd.V_lower (Kd.V_mono (ok' := fun k_ => (P0_0_ k_ ∨ w.heap.size ≤ k_) ∧ k_ ≠ gb270 ∧ k_ ≠ gb271) ho0 (fun k_ hk_ => ⟨Or.elim hk_ (fun hs_ => hs_.1.1) (fun hn_ => (.inr (Nat.le_trans (below_size (y1 HB.out GE270.out GE271.out)) hn_))), Or.elim hk_ (fun hs_ => hs_.1.2) (fun hn_ => (Kd.freshB (g := gb270) (o := .cells #[.slice A0_0 l0_0.length c0_0] 30 (0, 0)) (y0 BK270.out) k_ hn_)), Or.elim hk_ (fun hs_ => hs_.2) (fun hn_ => (Kd.freshB (g := gb271) (o := .cells #[.slice none 0 0] 30 (0, 0)) (y0 BK271.out) k_ hn_))⟩)) (below_size (y1 HB.out GE270.out GE271.out))); replace BK270 := zbb BK270 hb; replace BK271 := zbb BK271 hb; replace HB := Aside0.mk (below_step (y1 HB.out GE270.out GE271.out) hb); (try clear hb); (try clear hb2); (try clear hk); (try clear hi); (try clear ho0)) | ((with_reducible refine gate_dst (N := 6) rfl ?_); refine zbx 6 #[.slice none 0 0] 30 ?_; intro gb277 hg w15 hbox hb; replace HO0_0 := Aside0.mk (Kd.V_below (Kd.V_elderB (y13 HO0_0.out) gb277 (Nat.le_of_eq hg.symm)) hb); replace HO275 := Aside0.mk (Kd.V_below (Kd.V_elderB (y13 HO275.out) gb277 (Nat.le_of_eq hg.symm)) hb); have BK277 := Aside0.mk hbox; have GW277 := Aside0.mk ((y20 hg HB.out GE270.out GE271.out : w.heap.size ≤ gb277)); have GE277 := Aside0.mk ((y20 hg HB.out GE270.out GE271.out : w.heap.size ≤ gb277)); replace HB := Aside0.mk (below_step (y1 HB.out GE270.out GE271.out) hb); have NB270_277 := zltn hg BK270; have NB277_270 := zgtn hg BK270; replace BK270 := zbb BK270 hb; have NB271_277 := zltn hg BK271; have NB277_271 := zgtn hg BK271; replace BK271 := zbb BK271 hb; clear hb hbox hg; obtain ⟨Ao16, co16, eo16⟩ := Kd.V_slice HO275.out; subst eo16; have hnb17 := NB277_270.out; have hnc17 := NB270_277.out; have hnb18 := NB277_271.out; have hnc18 := NB271_277.out; have hcz19_0 := zh BK277; have hfz19_0 := zfr BK277 0) | ((with_reducible refine gate_callee (f := 54) rfl ?_); refine goesL_ (some 22) rfl rfl Try.func54 (by kernel_rfl) rfl #[.agg #[.slice Ao16 t273.length co16]] rfl y4 ?_; (with_reducible refine (impl_typeCopy.calls k _ _ t273 t278 _ ?side1 ?side2 A7.out).mono ?_); (case side1 => refine (Kd.V_reads' (e := 30) (base := w.heap.size) (ok := fun k_ => (((P0_0_ k_ ∨ w.heap.size ≤ k_) ∧ (k_ ≠ gb270 ∧ k_ ≠ gb271)) ∧ k_ ≠ gb277)) (n := t273.length) (c := co16) ?_).2.2; exact (by (with_reducible repeat (first | apply Kd.V_alloc | apply Kd.V_drewN | apply Kd.V_drew)); exact (Kd.V_mono (Kd.V_far (p := ⟨gb277, 0, none⟩) (Kd.V_mono HO275.out (fun k_ hk => (⟨hk, hk.2⟩ : _ ∧ k_ ≠ gb277))) (fun _ hk => hk.2) (.slice Ao16 t273.length co16)) (fun _ h_ => h_.1)))); (case side2 => exact (Kd.V_reads' HO275.out).2.1); rintro e w20 ⟨v279, rfl, ho0, hb⟩; refine ⟨_, rfl, ?_⟩; replace HO0_0 := Aside0.mk (Kd.V_elder' (by (with_reducible repeat (first | apply Kd.V_alloc | apply Kd.V_drewN | apply Kd.V_drew)); exact (Kd.V_mono (Kd.V_far (p := ⟨gb277, 0, none⟩) (Kd.V_mono HO0_0.out (fun k_ hk => (⟨hk, hk.2⟩ : _ ∧ k_ ≠ gb277))) (fun _ hk => hk.2) (.slice Ao16 t273.length co16)) (fun _ h_ => h_.1))) (Kd.N_base ho0) hb); replace HO275 := Aside0.mk (Kd.V_elder' (by (with_reducible repeat (first | apply Kd.V_alloc | apply Kd.V_drewN | apply Kd.V_drew)); exact (Kd.V_mono (Kd.V_far (p := ⟨gb277, 0, none⟩) (Kd.V_mono HO275.out (fun k_ hk => (⟨hk, hk.2⟩ : _ ∧ k_ ≠ gb277))) (fun _ hk => hk.2) (.slice Ao16 t273.length co16)) (fun _ h_ => h_.1))) (Kd.N_base ho0) hb); have HO280 := Aside0.mk (Kd.N_lower (Kd.N_mono (ok' := fun k_ => (P0_0_ k_ ∨ w.heap.size ≤ k_) ∧ k_ ≠ gb270 ∧ k_ ≠ gb271 ∧ k_ ≠ gb277) ho0 (fun k_ hk_ => ⟨(.inr (Nat.le_trans (below_size (y7 HB.out GE270.out GE271.out GE277.out)) hk_)), (Kd.freshB (g := gb270) (o := .cells #[.slice A0_0 l0_0.length c0_0] 30 (0, 0)) (y21 NB270_277.out BK270.out) k_ hk_), (Kd.freshB (g := gb271) (o := .cells #[.slice none 0 0] 30 (0, 0)) (y21 NB271_277.out BK271.out) k_ hk_), (Kd.freshB (g := gb277) (o := .cells #[.slice Ao16 t273.length co16] 30 (0, 0)) (by (with_reducible repeat (first | refine blk_drewN ?_ _ | refine blk_drew ?_ | refine blk_alloc ?_ _)); apply blk_put (i := 0); (case h => exact y0 BK277.out); (case e => rfl)) k_ hk_)⟩)) (below_size (y7 HB.out GE270.out GE271.out GE277.out))); replace BK270 := zbf BK270 NB270_277 hb; replace BK271 := zbf BK271 NB271_277 hb; replace BK277 := Aside0.mk (blk_below (g := gb277) (o := .cells #[.slice Ao16 t273.length co16] 30 (0, 0)) (by (with_reducible repeat (first | refine blk_drewN ?_ _ | refine blk_drew ?_ | refine blk_alloc ?_ _)); apply blk_put (i := 0); (case h => exact y0 BK277.out); (case e => rfl)) hb); replace HB := Aside0.mk (below_step (y7 HB.out GE270.out GE271.out GE277.out) hb); (try clear hb); (try clear hb2); (try clear hk); (try clear hi); (try clear ho0); obtain ⟨Ao21, co21, eo21⟩ := Kd.N_slice HO280.out; subst eo21; have hcz22_0 := zh BK271; have hfz22_0 := zfr BK271 0))
   refine bodyPost_ret (results_ct rfl _ _ gb271 30 #[.slice Ao21 t278.length co21] (0, 0) _ rfl (by (with_reducible repeat (first | refine blk_drewN ?_ _ | refine blk_drew ?_ | refine blk_alloc ?_ _)); apply blk_put (i := 0); (case h => exact y0 BK271.out); (case e => rfl)) Try.underlying30 rfl (by kernel_rfl)) rfl ?_
   exact ⟨_, y14, (by (with_reducible repeat (first | apply Kd.N_alloc | apply Kd.N_drewN | apply Kd.N_drew)); exact Kd.N_mono (Kd.N_far (p := ⟨gb271, 0, none⟩) (Kd.N_mono HO280.out (fun k_ hk => (⟨hk, hk.2.2.1⟩ : _ ∧ k_ ≠ gb271))) (fun _ hk => hk.2) (.slice Ao21 t278.length co21)) (fun _ hk => hk.1.1)), (y7 HB.out GE270.out GE271.out GE277.out)⟩
  ·replace c6 := Bool.eq_false_iff.mpr c6
   subst c6
   rw [if_neg (show ¬ (false = true) by decide)] at H
   simp only [Option.some.injEq, Prod.mk.injEq] at H
   obtain ⟨rfl, rfl⟩ := H
   go_enter Try.func21, Try.ntmps21
   go_wp2_with (first | ((with_reducible refine gate_dst (N := 2) rfl ?_); refine zbx 2 #[.slice A0_0 l0_0.length c0_0] 30 ?_; intro gb270 hg w23 hbox hb; replace HO0_0 := Aside0.mk (Kd.V_below (Kd.V_elderB (y13 HO0_0.out) gb270 (Nat.le_of_eq hg.symm)) hb); have BK270 := Aside0.mk hbox; have GW270 := Aside0.mk ((y5 hg HB.out : w.heap.size ≤ gb270)); have GE270 := Aside0.mk ((y5 hg HB.out : w.heap.size ≤ gb270)); replace HB := Aside0.mk (below_step (y2 HB.out) hb); clear hb hbox hg) | ((with_reducible refine gate_dst (N := 4) rfl ?_); refine zbx 4 #[.slice none 0 0] 30 ?_; intro gb271 hg w24 hbox hb; replace HO0_0 := Aside0.mk (Kd.V_below (Kd.V_elderB (y13 HO0_0.out) gb271 (Nat.le_of_eq hg.symm)) hb); have BK271 := Aside0.mk hbox; have GW271 := Aside0.mk ((y6 hg HB.out GE270.out : w.heap.size ≤ gb271)); have GE271 := Aside0.mk ((y6 hg HB.out GE270.out : w.heap.size ≤ gb271)); replace HB := Aside0.mk (below_step (y3 HB.out GE270.out) hb); have NB270_271 := zltn hg BK270; have NB271_270 := zgtn hg BK270; replace BK270 := zbb BK270 hb; clear hb hbox hg; have hnb25 := NB270_271.out; have hnc25 := NB271_270.out; have hcz26_0 := zh BK270; have hfz26_0 := zfr BK270 0) | ((with_reducible refine gate_callee (f := 18) rfl ?_); refine goesL_ (some 9) rfl rfl Try.func18 (by kernel_rfl) rfl #[.agg #[.slice A0_0 l0_0.length c0_0]] rfl y4 ?_; (with_reducible refine (impl_TypeOk.calls k _ _ l0_0 true _ ?side1 ?side2 A3.out).mono ?_); (case side1 => exact y31 HO0_0.out); (case side2 => exact (Kd.V_reads' HO0_0.out).2.1); rintro e w27 ⟨rfl, hb⟩; refine ⟨_, rfl, ?_⟩; replace HO0_0 := Aside0.mk (Kd.V_below (y13 HO0_0.out) hb); replace BK270 := zbb BK270 hb; replace BK271 := zbb BK271 hb; replace HB := Aside0.mk (below_step (y1 HB.out GE270.out GE271.out) hb); (try clear hb); (try clear hb2); (try clear hk); (try clear hi); have hcz28_0 := zh BK270; have hfz28_0 := zfr BK270 0) | ((with_reducible refine gate_callee (f := 53) rfl ?_); refine goesL_ (some 15) rfl rfl Try.func53 (by kernel_rfl) rfl #[.agg #[.slice A0_0 l0_0.length c0_0], .slice A1 l1.length c1] rfl y4 ?_; (with_reducible refine (impl_Type.calls k (fun k_ => (((P0_0_ k_ ∨ w.heap.size ≤ k_) ∧ k_ ≠ gb270) ∧ k_ ≠ gb271)) _ _ l0_0 _ _ l1 t273 false _ ?side1 ?side2 ?side3 A5.out).mono ?_); (case side1 => exact HO0_0.out); (case side2 => exact y8 HR1.out HB.out); (case side3 => exact HC1.out); rintro e w29 ⟨v274, rfl, ho0, hb⟩; refine ⟨_, rfl, ?_⟩; replace HO0_0 := Aside0.mk (Kd.V_below (y13 HO0_0.out) hb); have HO275 := Aside0.mk (Kd.V_lower (Kd.V_mono (ok' := fun k_ => (P0_0_ k_ ∨ w.heap.size ≤ k_) ∧ k_ ≠ gb270 ∧ k_ ≠ gb271) ho0 (fun k_ hk_ => ⟨Or.elim hk_ (fun hs_ => hs_.1.1) (fun hn_ => (.inr (Nat.le_trans (below_size (y1 HB.out GE270.out GE271.out)) hn_))), Or.elim hk_ (fun hs_ => hs_.1.2) (fun hn_ => (Kd.freshB (g := gb270) (o := .cells #[.slice A0_0 l0_0.length c0_0] 30 (0, 0)) (y0 BK270.out) k_ hn_)), Or.elim hk_ (fun hs_ => hs_.2) (fun hn_ => (Kd.freshB (g := gb271) (o := .cells #[.slice none 0 0] 30 (0, 0)) (y0 BK271.out) k_ hn_))⟩)) (below_size (y1 HB.out GE270.out GE271.out))); replace BK270 := zbb BK270 hb; replace BK271 := zbb BK271 hb; replace HB := Aside0.mk (below_step (y1 HB.out GE270.out GE271.out) hb); (try clear hb); (try clear hb2); (try clear hk); (try clear hi); (try clear ho0)) | ((with_reducible refine gate_dst (N := 6) rfl ?_); refine zbx 6 #[.slice none 0 0] 30 ?_; intro gb277 hg w30 hbox hb; replace HO0_0 := Aside0.mk (Kd.V_below (Kd.V_elderB (y13 HO0_0.out) gb277 (Nat.le_of_eq hg.symm)) hb); replace HO275 := Aside0.mk (Kd.V_below (Kd.V_elderB (y13 HO275.out) gb277 (Nat.le_of_eq hg.symm)) hb); have BK277 := Aside0.mk hbox; have GW277 := Aside0.mk ((y20 hg HB.out GE270.out GE271.out : w.heap.size ≤ gb277)); have GE277 := Aside0.mk ((y20 hg HB.out GE270.out GE271.out : w.heap.size ≤ gb277)); replace HB := Aside0.mk (below_step (y1 HB.out GE270.out GE271.out) hb); have NB270_277 := zltn hg BK270; have NB277_270 := zgtn hg BK270; replace BK270 := zbb BK270 hb; have NB271_277 := zltn hg BK271; have NB277_271 := zgtn hg BK271; replace BK271 := zbb BK271 hb; clear hb hbox hg; obtain ⟨Ao31, co31, eo31⟩ := Kd.V_slice HO275.out; subst eo31; have hnb32 := NB277_270.out; have hnc32 := NB270_277.out; have hnb33 := NB277_271.out; have hnc33 := NB271_277.out; have hcz34_0 := zh BK277; have hfz34_0 := zfr BK277 0; have hcz35_0 := zh BK271; have hfz35_0 := zfr BK271 0))
   refine bodyPost_ret (results_ct rfl _ _ gb271 30 #[.slice none 0 0] (0, 0) _ rfl (by (with_reducible repeat (first | refine blk_drewN ?_ _ | refine blk_drew ?_ | refine blk_alloc ?_ _)); refine blk_put (cs := #[.slice none 0 0]) ?_ 0 _ rfl; (with_reducible repeat (first | refine blk_drewN ?_ _ | refine blk_drew ?_ | refine blk_alloc ?_ _)); refine blk_far ?_ NB271_277.out _; (with_reducible repeat (first | refine blk_drewN ?_ _ | refine blk_drew ?_ | refine blk_alloc ?_ _)); exact BK271.out) Try.underlying30 rfl (by kernel_rfl)) rfl ?_
   exact ⟨_, y14, y36, (y7 HB.out GE270.out GE271.out GE277.out)⟩
 ·replace c4 := Bool.eq_false_iff.mpr c4
  subst c4
  rw [if_neg (show ¬ (false = true) by decide)] at H
  simp only [Option.some.injEq, Prod.mk.injEq] at H
  obtain ⟨rfl, rfl⟩ := H
  go_enter Try.func21, Try.ntmps21
  go_wp2_with (first | ((with_reducible refine gate_dst (N := 2) rfl ?_); refine zbx 2 #[.slice A0_0 l0_0.length c0_0] 30 ?_; intro gb270 hg w36 hbox hb; replace HO0_0 := Aside0.mk (Kd.V_below (Kd.V_elderB (y13 HO0_0.out) gb270 (Nat.le_of_eq hg.symm)) hb); have BK270 := Aside0.mk hbox; have GW270 := Aside0.mk ((y5 hg HB.out : w.heap.size ≤ gb270)); have GE270 := Aside0.mk ((y5 hg HB.out : w.heap.size ≤ gb270)); replace HB := Aside0.mk (below_step (y2 HB.out) hb); clear hb hbox hg) | ((with_reducible refine gate_dst (N := 4) rfl ?_); refine zbx 4 #[.slice none 0 0] 30 ?_; intro gb271 hg w37 hbox hb; replace HO0_0 := Aside0.mk (Kd.V_below (Kd.V_elderB (y13 HO0_0.out) gb271 (Nat.le_of_eq hg.symm)) hb); have BK271 := Aside0.mk hbox; have GW271 := Aside0.mk ((y6 hg HB.out GE270.out : w.heap.size ≤ gb271)); have GE271 := Aside0.mk ((y6 hg HB.out GE270.out : w.heap.size ≤ gb271)); replace HB := Aside0.mk (below_step (y3 HB.out GE270.out) hb); have NB270_271 := zltn hg BK270; have NB271_270 := zgtn hg BK270; replace BK270 := zbb BK270 hb; clear hb hbox hg; have hnb38 := NB270_271.out; have hnc38 := NB271_270.out; have hcz39_0 := zh BK270; have hfz39_0 := zfr BK270 0) | ((with_reducible refine gate_callee (f := 18) rfl ?_); refine goesL_ (some 9) rfl rfl Try.func18 (by kernel_rfl) rfl #[.agg #[.slice A0_0 l0_0.length c0_0]] rfl y4 ?_; (with_reducible refine (impl_TypeOk.calls k _ _ l0_0 false _ ?side1 ?side2 A3.out).mono ?_); (case side1 => exact y31 HO0_0.out); (case side2 => exact (Kd.V_reads' HO0_0.out).2.1); rintro e w40 ⟨rfl, hb⟩; refine ⟨_, rfl, ?_⟩; replace HO0_0 := Aside0.mk (Kd.V_below (y13 HO0_0.out) hb); replace BK270 := zbb BK270 hb; replace BK271 := zbb BK271 hb; replace HB := Aside0.mk (below_step (y1 HB.out GE270.out GE271.out) hb); (try clear hb); (try clear hb2); (try clear hk); (try clear hi); have hcz41_0 := zh BK271; have hfz41_0 := zfr BK271 0))
  refine bodyPost_ret (results_ct rfl _ _ gb271 30 #[.slice none 0 0] (0, 0) _ rfl (by (with_reducible repeat (first | refine blk_drewN ?_ _ | refine blk_drew ?_ | refine blk_alloc ?_ _)); apply blk_put (i := 0); (case h => exact y0 BK271.out); (case e => rfl)) Try.underlying30 rfl (by kernel_rfl)) rfl ?_
  exact ⟨_, y14, y36, (y1 HB.out GE270.out GE271.out)⟩
end Go.Proofs.Ytjhbhihfifhljaa.PA
end
section
namespace Go.Proofs.Ytjhbhihfifhljaa.PA
open Go.RowKit Go.Proofs.YtjhbhihfifhljaaW.PrintWords Go.Proofs.YtjhbhihfifhljaaW.PrintLast Go.Proofs.YtjhbhihfifhljaaW.PrintMore
attribute [local go_sem] max2_int min2_int max_two min_two max_three min_three max_four min_four
set_option linter.unusedVariables false
set_option linter.unusedSimpArgs false
def spec_l71Path.l0 : Nat → List Int → List Int → Int → List (S30) → Option (List Int × (List (S30)) × Int)
 | 0, _, _, _, _ => none
 | k + 1, x6, x1000, x1001, x534000 => if (x534000.length : Int) > 0 then ((spec_l6Rd_pick.f k x1000 x1001 3).bind fun bt538 => (if bt538.1 > 0 then ((spec_l6Rd_pick.f k x1000 bt538.2 (x534000.length : Int)).bind fun bt540 => (if x6.length < 17592186044416 then (if 0 ≤ bt540.1 then (if bt540.1 < (x534000.length : Int) then (spec_l71Path.l0 k (x6 ++ [bt540.1]) x1000 bt540.2 ((rd_T30 x534000 bt540.1).f0)) else (none)) else (none)) else (none))) else (some (x6, x534000, bt538.2)))) else (some (x6, x534000, x1001))
def spec_l71Path.f (k : Nat) (s0_0 : List Int) (s0_1 : Int) (l1_0 : List (S30)) : Option (List Int × (List (S30)) × Int) := spec_l71Path.l0 k (([] : List Int)) s0_0 s0_1 l1_0
theorem spec_l71Path.mono_l : ∀ k, (∀ y0 y1 y2 y3, LeO (spec_l71Path.l0 k y0 y1 y2 y3) (spec_l71Path.l0 (k + 1) y0 y1 y2 y3))
 | 0 => fun _ _ _ _ r h => by simp [spec_l71Path.l0] at h
 | k + 1 => by
  have ih0 := spec_l71Path.mono_l k
  ·intro y0 y1 y2 y3
   unfold spec_l71Path.l0
   repeat' first
   | (with_reducible exact ih0 _ _ _ _)
   | (with_reducible exact spec_l6Rd_pick.mono _ _ _ _)
   | (with_reducible exact LeO.refl _)
   | (with_reducible exact LeO.none _)
   | (with_reducible refine LeO.ite ?_ ?_)
   | (with_reducible refine LeO.bind ?_ (fun _ => ?_))
   | exact ih0 _ _ _ _
   | exact spec_l6Rd_pick.mono _ _ _ _
   | exact LeO.none _
   | refine LeO.ite ?_ ?_
   | refine LeO.bind ?_ (fun _ => ?_)
theorem spec_l71Path.mono : ∀ a0 a1 a2 k, LeO (spec_l71Path.f k a0 a1 a2) (spec_l71Path.f (k + 1) a0 a1 a2) := by
 intro a0 a1 a2 k
 have ih0 := spec_l71Path.mono_l k
 unfold spec_l71Path.f
 repeat' first
   | (with_reducible exact ih0 _ _ _ _)
   | (with_reducible exact spec_l6Rd_pick.mono _ _ _ _)
   | (with_reducible exact LeO.refl _)
   | (with_reducible exact LeO.none _)
   | (with_reducible refine LeO.ite ?_ ?_)
   | (with_reducible refine LeO.bind ?_ (fun _ => ?_))
   | exact ih0 _ _ _ _
   | exact spec_l6Rd_pick.mono _ _ _ _
   | exact LeO.none _
   | refine LeO.ite ?_ ?_
   | refine LeO.bind ?_ (fun _ => ?_)
set_option maxHeartbeats 8000000 in
set_option maxRecDepth 100000 in
theorem spec_l71Path.calls (k : Nat) (g : Nat) (s0_0 : List Int) (s0_1 : Int) (P1_0_ : Nat → Prop) (A1_0 : Option Addr) (c1_0 : Nat) (l1_0 : List (S30)) (r1 : List Int) (r2 : List (S30)) (r3 : Int) (w0 w : World) (hI : IsS95 w0 w g s0_0 s0_1) (hB : Below w0.heap.size w0 w) (hs1_0 : Kd.V k30 30 w w.heap.size (fun k_ => P1_0_ k_ ∧ k_ ≠ g) (.slice A1_0 l1_0.length c1_0) l1_0) (h : spec_l71Path.f k s0_0 s0_1 l1_0 = some (r1, r2, r3)) :
  Calls Try.prog 86 #[.pointer (some ⟨g, 0, none⟩), .agg #[.slice A1_0 l1_0.length c1_0]] w fun e w' => ∃ v0_ v1_ : Value, e = .returned (.tuple #[v0_, .agg #[v1_]]) ∧ Kd.R (Kd.int .i64) 3 w' w.heap.size (fun k_ => (w.heap.size ≤ k_)) v0_ r1 ∧ Kd.V k30 30 w' w.heap.size (fun k_ => (P1_0_ k_ ∨ w.heap.size ≤ k_) ∧ some k_ ≠ (v0_ : Value).ownBlock) v1_ r2 ∧ IsS95 w0 w' g s0_0 r3 ∧ Below w0.heap.size w0 w' ∧ KeepBut w w' g none := by
 have hu30 := Try.underlying30
 have HO1_0 := Aside0.mk (show Kd.V k30 30 w w.heap.size (fun k_ => (P1_0_ k_ ∨ w.heap.size ≤ k_) ∧ k_ ≠ g) (.slice A1_0 l1_0.length c1_0) l1_0 from Kd.V_mono hs1_0 (fun k_ hk => ⟨.inl hk.1, hk.2⟩))
 have HI0 := Aside0.mk hI
 have HK := Aside0.mk (KeepBut.refl w g none)
 have HL := Aside0.mk hB.size
 clear hI
 have HW0 := Aside0.mk hB.size
 have HB := Aside0.mk hB
 clear hB
 have H : (spec_l71Path.l0 k (([] : List Int)) s0_0 s0_1 l1_0) = some (r1, r2, r3) := h
 clear h
 obtain ⟨y535, hy535⟩ : ∃ y_ : List Int, y_ = (([] : List Int)) := ⟨_, rfl⟩
 replace H : (spec_l71Path.l0 k y535 s0_0 s0_1 l1_0) = some (r1, r2, r3) := by first | (rw [hy535]; with_reducible exact H) | (have H2_ := (Option.bind_some _ _).symm.trans H; rw [hy535]; with_reducible exact H2_) | (have H2_ := (Option.bind_some _ _).symm.trans H; with_reducible exact H2_) | with_reducible exact H | (rw [hy535]; exact H) | exact H
 have Ny535 := Aside0.mk hy535
 clear hy535
 have H' := Aside0.mk H
 clear H
 go_enter Try.func86, Try.ntmps86
 go_wp2_with (first | ((with_reducible refine gate_dst (N := 3) rfl ?_); refine zbx 3 #[.slice A1_0 l1_0.length c1_0] 30 ?_; intro gb533 hg w3 hbox hb; replace HO1_0 := Aside0.mk (Kd.V_below (Kd.V_elderB (y13 HO1_0.out) gb533 (Nat.le_of_eq hg.symm)) hb); replace HB := Aside0.mk (below_step (y33 HB.out HI0.out) hb); have BK533 := Aside0.mk hbox; have GW533 := Aside0.mk ((by rw [hg]; exact (keep_size (w := w) (g := g) (row := none) (y25 HK.out)) : w.heap.size ≤ gb533)); have GE533 := Aside0.mk ((Nat.le_trans HW0.out (by rw [hg]; exact (keep_size (w := w) (g := g) (row := none) (y25 HK.out)) : w.heap.size ≤ gb533) : w0.heap.size ≤ gb533)); replace HK := Aside0.mk (KeepBut.trans (y25 HK.out) (KeepBut.of_below hb g none) (.inl rfl)); have NB0_533 := Aside0.mk ((by rw [hg]; exact Nat.ne_of_lt (IsS95.lt (show IsS95 w0 _ g s0_0 s0_1 from by repeat (first | (with_reducible first | exact HI0.out | apply IsS95.alloc | apply IsS95.drewN | apply IsS95.drew | apply IsS95.set_1) | exact HI0.out))) : g ≠ gb533)); have NB533_0 := Aside0.mk ((by rw [hg]; exact Nat.ne_of_gt (IsS95.lt (show IsS95 w0 _ g s0_0 s0_1 from by repeat (first | (with_reducible first | exact HI0.out | apply IsS95.alloc | apply IsS95.drewN | apply IsS95.drew | apply IsS95.set_1) | exact HI0.out))) : gb533 ≠ g)); replace HI0 := Aside0.mk (IsS95.below (y35 HI0.out) hb); clear hb hbox hg) | ((with_reducible refine gate_dst (N := 5) rfl ?_); refine zbx 5 #[.slice none 0 0] 30 ?_; intro gb534 hg w4 hbox hb; replace HO1_0 := Aside0.mk (Kd.V_below (Kd.V_elderB (y13 HO1_0.out) gb534 (Nat.le_of_eq hg.symm)) hb); replace HB := Aside0.mk (below_step (y23 HB.out HI0.out GE533.out) hb); have BK534 := Aside0.mk hbox; have GW534 := Aside0.mk ((by rw [hg]; exact (keep_size (w := w) (g := g) (row := none) (y18 HK.out GW533.out)) : w.heap.size ≤ gb534)); have GE534 := Aside0.mk ((Nat.le_trans HW0.out (by rw [hg]; exact (keep_size (w := w) (g := g) (row := none) (y18 HK.out GW533.out)) : w.heap.size ≤ gb534) : w0.heap.size ≤ gb534)); replace HK := Aside0.mk (KeepBut.trans (y18 HK.out GW533.out) (KeepBut.of_below hb g none) (.inl rfl)); have NB533_534 := zltn hg BK533; have NB534_533 := zgtn hg BK533; replace BK533 := zbb BK533 hb; have NB0_534 := Aside0.mk ((by rw [hg]; exact Nat.ne_of_lt (IsS95.lt (show IsS95 w0 _ g s0_0 s0_1 from by repeat (first | (with_reducible first | exact HI0.out | apply IsS95.alloc | apply IsS95.drewN | apply IsS95.drew | apply IsS95.set_1 | refine IsS95.far ?_ NB0_533.out _) | exact HI0.out))) : g ≠ gb534)); have NB534_0 := Aside0.mk ((by rw [hg]; exact Nat.ne_of_gt (IsS95.lt (show IsS95 w0 _ g s0_0 s0_1 from by repeat (first | (with_reducible first | exact HI0.out | apply IsS95.alloc | apply IsS95.drewN | apply IsS95.drew | apply IsS95.set_1 | refine IsS95.far ?_ NB0_533.out _) | exact HI0.out))) : gb534 ≠ g)); replace HI0 := Aside0.mk (IsS95.below (y24 HI0.out NB0_533.out) hb); clear hb hbox hg) | ((with_reducible refine gate_dst (N := 8) rfl ?_); refine Kd.R_lit (Kd.int .i64) _ 3 ?hg (N := 8) ?hd (xs := ([] : List Int)) (inner := []) (ok := fun _ => True) (okp := fun _ => True) ?hr ?hp (fun _ hk => hk) trivial (Below.refl _ _) (Nat.le_refl _) (by simp) ?_; (case hd => rfl); (case hg => rfl); (case hr => first | (go_simp; done) | (go_simp; rfl)); (case hp => exact (Reps.none _ _)); intro v536 w5 ho6 hb hg_ hnew_; clear hg_ hnew_; (first | rw [← Ny535.out] at ho6 | (simp only [Int.reduceToNat] at ho6; rw [← Ny535.out] at ho6)); replace HO1_0 := Aside0.mk (Kd.V_elder' (y13 HO1_0.out) (Kd.R_base ho6) hb); have HO537 := Aside0.mk (Kd.R_lower (Kd.R_newM (M := fun k_ => (w.heap.size ≤ k_)) ho6 (keep_size (w := w) (g := g) (row := none) (y11 HK.out GW533.out GW534.out)) (fun k_ h_ => h_)) (keep_size (w := w) (g := g) (row := none) (y11 HK.out GW533.out GW534.out))); replace BK533 := zbb BK533 hb; replace BK534 := zbb BK534 hb; replace HK := Aside0.mk (KeepBut.trans (y11 HK.out GW533.out GW534.out) (KeepBut.of_below hb g none) (.inl rfl)); replace HB := Aside0.mk (below_step (y12 HB.out HI0.out GE533.out GE534.out) hb); replace HI0 := Aside0.mk (IsS95.below (y15 HI0.out NB0_533.out NB0_534.out) hb); clear hb ho6))
 go_loopg [6] k (fun kq v6 w' => ∃ (x6_1 : List Int) (x1001_1 : Int) (x534000_1 : List (S30)) (u534000 : Value), Aside0 (spec_l71Path.l0 kq x6_1 s0_0 x1001_1 x534000_1 = some (r1, r2, r3)) ∧ Aside0 (kq ≤ k) ∧ Aside0 (Kd.R (Kd.int .i64) 3 w' w.heap.size (fun k_ => (w.heap.size ≤ k_)) v6 x6_1) ∧ Aside0 (Kd.V k30 30 w' w.heap.size (fun k_ => (P1_0_ k_ ∨ w.heap.size ≤ k_) ∧ some k_ ≠ (v6 : Value).ownBlock ∧ k_ ≠ gb533 ∧ k_ ≠ gb534 ∧ k_ ≠ g) u534000 x534000_1) ∧ Aside0 (w'.heap[gb533]? = some (.cells #[u534000] 30 (0, 0))) ∧ Aside0 (w'.heap[gb534]? = some (.cells #[(.slice none 0 0)] 30 (0, 0))) ∧ Aside0 (IsS95 w0 w' g s0_0 x1001_1) ∧ Aside0 (KeepBut w w' g none) ∧ Aside0 (Below w0.heap.size w0 w'))
 case atStart => exact ⟨(y535), (s0_1), (l1_0), (.slice A1_0 l1_0.length c1_0), H', ⟨Nat.le_refl _⟩, ⟨(y71 HO537.out)⟩, ⟨(by (with_reducible repeat (first | apply Kd.V_alloc | apply Kd.V_drewN | apply Kd.V_drew)); exact Kd.V_mono HO1_0.out (fun _ hk => ⟨hk.1.1.1.1, ⟨hk.2, ⟨hk.1.1.2, ⟨hk.1.2, hk.1.1.1.2⟩⟩⟩⟩))⟩, ⟨(y0 BK533.out)⟩, ⟨(y0 BK534.out)⟩, ⟨(y15 HI0.out NB0_533.out NB0_534.out)⟩, ⟨(y11 HK.out GW533.out GW534.out)⟩, ⟨(y12 HB.out HI0.out GE533.out GE534.out)⟩⟩
 case round =>
  clear H'
  try clear c1
  try clear p2
  obtain ⟨x6_1, x1001_1, x534000_1, u534000, HA, HK1, HO_6, HO_534000, BK533, BK534, HI0, HK, HB⟩ := hrel
  cases gk with
  | zero => exact absurd HA.out (by simp [spec_l71Path.l0])
  | succ k1 =>
   have H := HA.out
   clear HA
   simp only [spec_l71Path.l0] at H
   by_cases c7 : (x534000_1.length : Int) > 0
   ·rw [if_pos c7] at H
    have c7b0 : decide (0 < (x534000_1.length : Int)) = true := decide_eq_true c7
    have c7b1 : decide (0 < x534000_1.length) = true := decide_eq_true (by omega)
    clear c7
    obtain ⟨⟨t538, t539⟩, A80, H⟩ := ob H
    have A8 := Aside0.mk A80
    clear A80
    by_cases c9 : t538 > 0
    ·rw [if_pos c9] at H
     have c9b0 : decide (0 < t538) = true := decide_eq_true c9
     clear c9
     obtain ⟨⟨t540, t541⟩, A100, H⟩ := ob H
     have A10 := Aside0.mk A100
     clear A100
     by_cases c11 : x6_1.length < 17592186044416
     ·rw [if_pos c11] at H
      have LMc11 := Aside0.mk c11
      clear c11
      obtain ⟨y542, hy542⟩ : ∃ y_ : List Int, y_ = (x6_1 ++ [t540]) := ⟨_, rfl⟩
      replace H : (if 0 ≤ t540 then (if t540 < (x534000_1.length : Int) then (spec_l71Path.l0 k1 y542 s0_0 t541 ((rd_T30 x534000_1 t540).f0)) else (none)) else (none)) = some (r1, r2, r3) := by first | (rw [hy542]; with_reducible exact H) | (have H2_ := (Option.bind_some _ _).symm.trans H; rw [hy542]; with_reducible exact H2_) | (have H2_ := (Option.bind_some _ _).symm.trans H; with_reducible exact H2_) | with_reducible exact H | (rw [hy542]; exact H) | exact H
      have Ny542 := Aside0.mk hy542
      clear hy542
      by_cases c12 : 0 ≤ t540
      ·rw [if_pos c12] at H
       have c12b0 : decide (0 ≤ t540) = true := decide_eq_true c12
       clear c12
       by_cases c13 : t540 < (x534000_1.length : Int)
       ·rw [if_pos c13] at H
        have c13b0 : decide (t540 < (x534000_1.length : Int)) = true := decide_eq_true c13
        clear c13
        have H' := Aside0.mk H
        clear H
        have hnb14 := NB533_534.out
        have hnc14 := NB534_533.out
        have hnb15 := NB533_0.out
        have hnc15 := NB0_533.out
        have hcz16_0 := zh BK533
        have hfz16_0 := zfr BK533 0
        obtain ⟨Ao17, co17, eo17⟩ := Kd.V_slice HO_534000.out
        subst eo17
        go_wp2_with (first | (go_at_call 58; (with_reducible refine (spec_l6Rd_pick.calls k1 g s0_0 x1001_1 3 t538 t539 w0 _ ?side1 ?side2 A8.out).mono ?_); (case side1 => exact y15 HI0.out NB0_533.out NB0_534.out); (case side2 => exact y12 HB.out HI0.out GE533.out GE534.out); rintro e w18 ⟨rfl, hi, hb, hk⟩; replace HO_6 := Aside0.mk (Kd.R_mono (Kd.R_keep (IsS95.apart (show IsS95 w0 _ g s0_0 x1001_1 from by repeat (first | (with_reducible first | exact HI0.out | apply IsS95.alloc | apply IsS95.drewN | apply IsS95.drew | apply IsS95.set_1 | refine IsS95.far ?_ NB0_533.out _ | refine IsS95.far ?_ NB0_534.out _) | exact HI0.out)) (y10 HO_6.out) (by decide)) hk (fun _ h => h.2)) (fun _ h => h.1)); replace HO_534000 := Aside0.mk (Kd.V_mono (Kd.V_keep (Kd.V_mono (ok := fun k_ => (((P1_0_ k_ ∨ w.heap.size ≤ k_)) ∧ (some k_ ≠ (u6 : Value).ownBlock ∧ (k_ ≠ gb533 ∧ (k_ ≠ gb534 ∧ k_ ≠ g))))) (y13 HO_534000.out) (fun k_ hk_ => (⟨hk_, hk_.2.2.2.2⟩ : _ ∧ k_ ≠ g))) hk (fun _ h => h.2)) (fun _ h => h.1)); replace BK533 := Aside0.mk (KeepBut.blk hk (g' := gb533) (o := .cells #[.slice Ao17 x534000_1.length co17] 30 (0, 0)) (y0 BK533.out) NB533_0.out (by simp)); replace BK534 := Aside0.mk (KeepBut.blk hk (g' := gb534) (o := .cells #[.slice none 0 0] 30 (0, 0)) (y0 BK534.out) NB534_0.out (by simp)); replace HK := Aside0.mk (KeepBut.trans (y11 HK.out GW533.out GW534.out) hk (.inl rfl)); replace HB := Aside0.mk (hb); replace HI0 := Aside0.mk (hi); (try clear hb); (try clear hb2); (try clear hk); (try clear hi); have hcz19_0 := zh BK533; have hfz19_0 := zfr BK533 0) | ((with_reducible refine gate_callee (f := 58) rfl ?_); refine goesL_ (some 22) rfl rfl Try.func58 (by kernel_rfl) rfl #[.pointer (some ⟨g, 0, none⟩), .int .i64 (x534000_1.length : Int)] rfl y4 ?_; (with_reducible refine (spec_l6Rd_pick.calls k1 g s0_0 t539 (x534000_1.length : Int) t540 t541 w0 _ ?side1 ?side2 A10.out).mono ?_); (case side1 => exact y15 HI0.out NB0_533.out NB0_534.out); (case side2 => exact y12 HB.out HI0.out GE533.out GE534.out); rintro e w20 ⟨rfl, hi, hb, hk⟩; refine ⟨_, rfl, ?_⟩; replace HO_6 := Aside0.mk (Kd.R_mono (Kd.R_keep (IsS95.apart (show IsS95 w0 _ g s0_0 t539 from by repeat (first | (with_reducible first | exact HI0.out | apply IsS95.alloc | apply IsS95.drewN | apply IsS95.drew | apply IsS95.set_1 | refine IsS95.far ?_ NB0_533.out _ | refine IsS95.far ?_ NB0_534.out _) | exact HI0.out)) (y10 HO_6.out) (by decide)) hk (fun _ h => h.2)) (fun _ h => h.1)); replace HO_534000 := Aside0.mk (Kd.V_mono (Kd.V_keep (Kd.V_mono (ok := fun k_ => (((P1_0_ k_ ∨ w.heap.size ≤ k_)) ∧ (some k_ ≠ (u6 : Value).ownBlock ∧ (k_ ≠ gb533 ∧ (k_ ≠ gb534 ∧ k_ ≠ g))))) (y13 HO_534000.out) (fun k_ hk_ => (⟨hk_, hk_.2.2.2.2⟩ : _ ∧ k_ ≠ g))) hk (fun _ h => h.2)) (fun _ h => h.1)); replace BK533 := Aside0.mk (KeepBut.blk hk (g' := gb533) (o := .cells #[.slice Ao17 x534000_1.length co17] 30 (0, 0)) (y0 BK533.out) NB533_0.out (by simp)); replace BK534 := Aside0.mk (KeepBut.blk hk (g' := gb534) (o := .cells #[.slice none 0 0] 30 (0, 0)) (y0 BK534.out) NB534_0.out (by simp)); replace HK := Aside0.mk (KeepBut.trans (y11 HK.out GW533.out GW534.out) hk (.inl rfl)); replace HB := Aside0.mk (hb); replace HI0 := Aside0.mk (hi); (try clear hb); (try clear hb2); (try clear hk); (try clear hi)) | ((with_reducible refine gate_builtin (b := .append) (xs := #[.tmp 23, .tmp 25]) rfl ?_); at_builtin; refine Kd.R_append (Kd.int .i64) w.heap.size rfl (.tmp 23) (.tmp 25) 38 3 (.int .i64 0) 8 rfl Try.underlying38 info3 rfl (by decide) (by omega) u6 x6_1 t540 [.int .i64 t540] (fun k_ => (w.heap.size ≤ k_)) (fun _ => False) rfl rfl ?aP (fun _ hk => hk.elim) ?aF ?aO (Below.refl _ _) ?aS ?aL ?_; (case aP => exact rfl); (case aF => exact (fun k_ hk => (Nat.le_trans (keep_size (w := w) (g := g) (row := none) (y11 HK.out GW533.out GW534.out)) hk))); (case aO => exact y77 HO_6.out); (case aS => exact (keep_size (w := w) (g := g) (row := none) (y11 HK.out GW533.out GW534.out))); (case aL => exact y46 LMc11.out); intro v543 w21 ho hb hg hat; rw [← Ny542.out] at ho; replace HO_534000 := Aside0.mk (Kd.V_afterv (ok := (fun k_ => (P1_0_ k_ ∨ w.heap.size ≤ k_) ∧ k_ ≠ gb533 ∧ k_ ≠ gb534 ∧ k_ ≠ g)) (by (with_reducible repeat (first | apply Kd.V_alloc | apply Kd.V_drewN | apply Kd.V_drew)); exact Kd.V_mono HO_534000.out (fun _ hk => ⟨⟨hk.1, ⟨hk.2.2.1, ⟨hk.2.2.2.1, hk.2.2.2.2⟩⟩⟩, hk.2.1⟩)) hg hat); replace BK533 := Aside0.mk (blk_grown (g := gb533) (o := .cells #[.slice Ao17 x534000_1.length co17] 30 (0, 0)) (y0 BK533.out) hg (Kd.R_ne HO_6.out BK533.out (by decide))); replace BK534 := Aside0.mk (blk_grown (g := gb534) (o := .cells #[.slice none 0 0] 30 (0, 0)) (y0 BK534.out) hg (Kd.R_ne HO_6.out BK534.out (by decide))); replace HB := Aside0.mk (below_weaken (y12 HB.out HI0.out GE533.out GE534.out) HL.out hb); replace HI0 := Aside0.mk (IsS95.grown (y15 HI0.out NB0_533.out NB0_534.out) hg (IsS95.own_ne HI0.out HO_6.out (by decide))); replace HK := Aside0.mk (KeepBut.trans (y11 HK.out GW533.out GW534.out) (KeepBut.of_grown hg g) (Kd.R_base2 HO_6.out)); have HO544 := Aside0.mk (ho); clear HO_6; clear ho hb hg hat; have hcz22_0 := zh BK533; have hfz22_0 := zfr BK533 0; have p545 : 0 ≤ (t540 : Int) := of_decide_eq_true y19; have q545 : t540 < (x534000_1.length : Int) := of_decide_eq_true y19; obtain ⟨ad545, A545_0, c545_0, e545, hx545_0, hl545_0, hi545_0⟩ := at_T30 (Kd.V_reads' HO_534000.out).2.2 t540 p545 q545; cases e545; obtain ⟨ce545, hce545, hMe545, hcc545⟩ := Kd.V_get HO_534000.out z30 t540 p545 (by first | exact q545 | exact of_decide_eq_true y19 | (have e_ := (Kd.V_reads' HO_534000.out).1; omega)); obtain ⟨ua545_0, uc545_0, rfl, ul545_0, ge545_0⟩ := k30_openF hMe545; have hv545_0 := hcc545 0 _ rfl; rw [Nat.add_zero, show (k30).sz = 1 from rfl, Nat.mul_one] at hv545_0; replace hv545_0 := Option.some.inj (hv545_0.symm.trans hx545_0); injection hv545_0 with hva_ hvn_ hvc_; rw [hva_] at ge545_0; rw [hvc_] at ul545_0; have HL545_0 := Aside0.mk (show Kd.V k30 30 _ w.heap.size _ _ ((rd_T30 x534000_1 t540).f0) from Kd.V_mk ul545_0 ge545_0); clear hva_ hvn_ hvc_ ge545_0 ul545_0; clear hcc545 hce545; have HR545_0 := Aside0.mk hi545_0; have HC545_0 := Aside0.mk hl545_0; clear hi545_0 hl545_0; replace p545 := eq_true p545; replace q545 := eq_true q545))
        go_roundg k1
        case measure => have := HK1.out; omega
        case rel => exact ⟨(y542), (t541), ((rd_T30 x534000_1 t540).f0), (.slice A545_0 ((rd_T30 x534000_1 t540).f0).length c545_0), H', ⟨(y46 HK1.out)⟩, ⟨(by (with_reducible repeat (first | apply Kd.R_alloc | apply Kd.R_drewN | apply Kd.R_drew)); exact Kd.R_mono (Kd.R_far (p := ⟨gb533, 0, none⟩) (Kd.R_types HO544.out BK533.out (by decide)) (fun _ hk => hk.2) (.slice A545_0 ((rd_T30 x534000_1 t540).f0).length c545_0)) (fun _ hk => hk.1))⟩, ⟨(by (with_reducible repeat (first | apply Kd.V_alloc | apply Kd.V_drewN | apply Kd.V_drew)); exact Kd.V_mono (Kd.V_far (p := ⟨gb533, 0, none⟩) (Kd.V_mono HL545_0.out (fun k_ hk => (⟨hk, hk.1.2.1⟩ : _ ∧ k_ ≠ gb533))) (fun _ hk => hk.2) (.slice A545_0 ((rd_T30 x534000_1 t540).f0).length c545_0)) (fun _ hk => ⟨hk.1.1.1, ⟨hk.1.2, ⟨hk.1.1.2.1, ⟨hk.1.1.2.2.1, hk.1.1.2.2.2⟩⟩⟩⟩))⟩, ⟨(by (with_reducible repeat (first | refine blk_drewN ?_ _ | refine blk_drew ?_ | refine blk_alloc ?_ _)); refine blk_put (cs := #[.slice (some ad545) x534000_1.length co17]) ?_ 0 _ rfl; (with_reducible repeat (first | refine blk_drewN ?_ _ | refine blk_drew ?_ | refine blk_alloc ?_ _)); exact BK533.out)⟩, ⟨(y21 NB534_533.out BK534.out)⟩, ⟨(y15 HI0.out NB0_533.out NB0_534.out)⟩, ⟨(y11 HK.out GW533.out GW534.out)⟩, ⟨(y12 HB.out HI0.out GE533.out GE534.out)⟩⟩
       ·rw [if_neg c13] at H
        exact absurd H (by simp)
      ·rw [if_neg c12] at H
       exact absurd H (by simp)
     ·rw [if_neg c11] at H
      exact absurd H (by simp)
    ·rw [if_neg c9] at H
     have c9b0 : decide (0 < t538) = false := decide_eq_false c9
     clear c9
     simp only [Option.some.injEq, Prod.mk.injEq] at H
     obtain ⟨rfl, rfl, rfl⟩ := H
     have hnb23 := NB533_534.out
     have hnc23 := NB534_533.out
     have hnb24 := NB533_0.out
     have hnc24 := NB0_533.out
     have hcz25_0 := zh BK533
     have hfz25_0 := zfr BK533 0
     obtain ⟨Ao26, co26, eo26⟩ := Kd.V_slice HO_534000.out
     subst eo26
     try go_wp2_with (first | (go_at_call 58; (with_reducible refine (spec_l6Rd_pick.calls k1 g s0_0 x1001_1 3 t538 t539 w0 _ ?side1 ?side2 A8.out).mono ?_); (case side1 => exact y15 HI0.out NB0_533.out NB0_534.out); (case side2 => exact y12 HB.out HI0.out GE533.out GE534.out); rintro e w27 ⟨rfl, hi, hb, hk⟩; replace HO_6 := Aside0.mk (Kd.R_mono (Kd.R_keep (IsS95.apart (show IsS95 w0 _ g s0_0 x1001_1 from by repeat (first | (with_reducible first | exact HI0.out | apply IsS95.alloc | apply IsS95.drewN | apply IsS95.drew | apply IsS95.set_1 | refine IsS95.far ?_ NB0_533.out _ | refine IsS95.far ?_ NB0_534.out _) | exact HI0.out)) (y10 HO_6.out) (by decide)) hk (fun _ h => h.2)) (fun _ h => h.1)); replace HO_534000 := Aside0.mk (Kd.V_mono (Kd.V_keep (Kd.V_mono (ok := fun k_ => (((P1_0_ k_ ∨ w.heap.size ≤ k_)) ∧ (some k_ ≠ (u6 : Value).ownBlock ∧ (k_ ≠ gb533 ∧ (k_ ≠ gb534 ∧ k_ ≠ g))))) (y13 HO_534000.out) (fun k_ hk_ => (⟨hk_, hk_.2.2.2.2⟩ : _ ∧ k_ ≠ g))) hk (fun _ h => h.2)) (fun _ h => h.1)); replace BK533 := Aside0.mk (KeepBut.blk hk (g' := gb533) (o := .cells #[.slice Ao26 x534000_1.length co26] 30 (0, 0)) (y0 BK533.out) NB533_0.out (by simp)); replace BK534 := Aside0.mk (KeepBut.blk hk (g' := gb534) (o := .cells #[.slice none 0 0] 30 (0, 0)) (y0 BK534.out) NB534_0.out (by simp)); replace HK := Aside0.mk (KeepBut.trans (y11 HK.out GW533.out GW534.out) hk (.inl rfl)); replace HB := Aside0.mk (hb); replace HI0 := Aside0.mk (hi); (try clear hb); (try clear hb2); (try clear hk); (try clear hi)))
     replace HO_6 := Aside0.mk (Kd.R_drew HO_6.out)
     replace HO_534000 := Aside0.mk (Kd.V_drew HO_534000.out)
     replace BK533 := Aside0.mk (blk_drew BK533.out)
     replace BK534 := Aside0.mk (blk_drew BK534.out)
     replace HI0 := Aside0.mk (IsS95.drew HI0.out)
     replace HK := Aside0.mk (keep_drew HK.out)
     replace HB := Aside0.mk (below_drew1 HB.out)
     refine start_ (n := 4) (S := fun w' => w'.cell? ⟨gb533, 0, none⟩ = some (.slice Ao26 x534000_1.length co26)) (ds := []) #[false, false, false, false] (by kernel_rfl) rfl rfl ((blk_cell BK533.out 0).trans rfl) (fun hHeld => ?_)
     generalize w27.drew = w28 at HO_6 HO_534000 BK533 BK534 HI0 HK HB hHeld ⊢
     refine pure_ (i := 0) (N := some 32) (v := ?_) (a' := ?_) #[true, false, false, false] rfl rfl (by kernel_rfl) (fun _ _ _ h => h) (Or.inl ⟨(by rfl), ?_⟩) ?_ ?_
     rotate_left
     ·intro w'
      go_simp
      with_reducible rfl
     rotate_left
     ·simp only [Act.put, List.setIfInBounds_toArray, List.set_cons_zero, List.set_cons_succ, i64_w, i32_w]
      rfl
     refine pure_ (i := 2) (N := some 4) (v := ?_) (a' := ?_) #[true, false, true, false] rfl rfl (by kernel_rfl) (fun _ _ _ h => h) (Or.inl ⟨(by rfl), ?_⟩) ?_ ?_
     rotate_left
     ·intro w'
      go_simp
      with_reducible rfl
     rotate_left
     ·simp only [Act.put, List.setIfInBounds_toArray, List.set_cons_zero, List.set_cons_succ, i64_w, i32_w]
      rfl
     refine take_ (i := 1) (N := some 33) (v := ?_) (a' := ?_) #[true, true, true, false] rfl rfl (by kernel_rfl) (fun _ _ _ h => h) (Or.inl ⟨(by rfl), ?_⟩) hHeld ?_ ?_
     rotate_left
     ·intro w' s0
      go_simp
      with_reducible rfl
     rotate_left
     ·simp only [Act.put, List.setIfInBounds_toArray, List.set_cons_zero, List.set_cons_succ, i64_w, i32_w]
      rfl
     refine one_ (i := 3) (N := none) #[true, true, true, true] rfl rfl (by kernel_rfl) (by decide) (fun K hK => ?_)
     have hs29 : w28.cell? ⟨gb534, 0, none⟩ = some (.slice none 0 0) := (blk_cell BK534.out 0).trans rfl
     have hfs29 := zfr BK534 0
     have hns29_0 := NB533_534.out
     have hms29_0 := NB534_533.out
     refine skip_ (w1 := ?_) (by rfl) rfl ?_ ?_
     rotate_left
     ·go_simp
      rfl
     refine hK.out _ _ (((cell_far (p := ⟨gb534, _, none⟩) NB533_534.out _).trans (hHeld))) (fun hHeld => ?_)
     clear hK K
     refine done_ (by kernel_rfl) ?_
     try go_wp2
     refine bodyPost_ret (results_tc rfl _ _ gb534 30 #[.slice Ao26 x534000_1.length co26] (0, 0) _ rfl (by (with_reducible repeat (first | refine blk_drewN ?_ _ | refine blk_drew ?_ | refine blk_alloc ?_ _)); apply blk_put (i := 0); (case h => exact y0 BK534.out); (case e => rfl)) Try.underlying30 rfl (by kernel_rfl)) rfl ?_
     exact ⟨_, _, y14, (by (with_reducible repeat (first | apply Kd.R_alloc | apply Kd.R_drewN | apply Kd.R_drew)); exact Kd.R_mono (Kd.R_far (p := ⟨gb534, 0, none⟩) (Kd.R_types HO_6.out BK534.out (by decide)) (fun _ hk => hk.2) (.slice Ao26 x534000_1.length co26)) (fun _ hk => hk.1)), (by (with_reducible repeat (first | apply Kd.V_alloc | apply Kd.V_drewN | apply Kd.V_drew)); exact Kd.V_mono (Kd.V_far (p := ⟨gb534, 0, none⟩) (Kd.V_mono HO_534000.out (fun k_ hk => (⟨hk, hk.2.2.2.1⟩ : _ ∧ k_ ≠ gb534))) (fun _ hk => hk.2) (.slice Ao26 x534000_1.length co26)) (fun _ hk => ⟨hk.1.1, hk.1.2.1⟩)), (y15 HI0.out NB0_533.out NB0_534.out), (y12 HB.out HI0.out GE533.out GE534.out), (y11 HK.out GW533.out GW534.out)⟩
   ·rw [if_neg c7] at H
    have c7b0 : decide (0 < (x534000_1.length : Int)) = false := decide_eq_false c7
    have c7b1 : decide (0 < x534000_1.length) = false := decide_eq_false (by omega)
    clear c7
    simp only [Option.some.injEq, Prod.mk.injEq] at H
    obtain ⟨rfl, rfl, rfl⟩ := H
    have hnb30 := NB533_534.out
    have hnc30 := NB534_533.out
    have hnb31 := NB533_0.out
    have hnc31 := NB0_533.out
    have hcz32_0 := zh BK533
    have hfz32_0 := zfr BK533 0
    obtain ⟨Ao33, co33, eo33⟩ := Kd.V_slice HO_534000.out
    subst eo33
    try go_wp2
    replace HO_6 := Aside0.mk (Kd.R_drew HO_6.out)
    replace HO_534000 := Aside0.mk (Kd.V_drew HO_534000.out)
    replace BK533 := Aside0.mk (blk_drew BK533.out)
    replace BK534 := Aside0.mk (blk_drew BK534.out)
    replace HI0 := Aside0.mk (IsS95.drew HI0.out)
    replace HK := Aside0.mk (keep_drew HK.out)
    replace HB := Aside0.mk (below_drew1 HB.out)
    refine start_ (n := 4) (S := fun w' => w'.cell? ⟨gb533, 0, none⟩ = some (.slice Ao33 x534000_1.length co33)) (ds := []) #[false, false, false, false] (by kernel_rfl) rfl rfl ((blk_cell BK533.out 0).trans rfl) (fun hHeld => ?_)
    generalize wr.drew = w34 at HO_6 HO_534000 BK533 BK534 HI0 HK HB hHeld ⊢
    refine pure_ (i := 0) (N := some 32) (v := ?_) (a' := ?_) #[true, false, false, false] rfl rfl (by kernel_rfl) (fun _ _ _ h => h) (Or.inl ⟨(by rfl), ?_⟩) ?_ ?_
    rotate_left
    ·intro w'
     go_simp
     with_reducible rfl
    rotate_left
    ·simp only [Act.put, List.setIfInBounds_toArray, List.set_cons_zero, List.set_cons_succ, i64_w, i32_w]
     rfl
    refine pure_ (i := 2) (N := some 4) (v := ?_) (a' := ?_) #[true, false, true, false] rfl rfl (by kernel_rfl) (fun _ _ _ h => h) (Or.inl ⟨(by rfl), ?_⟩) ?_ ?_
    rotate_left
    ·intro w'
     go_simp
     with_reducible rfl
    rotate_left
    ·simp only [Act.put, List.setIfInBounds_toArray, List.set_cons_zero, List.set_cons_succ, i64_w, i32_w]
     rfl
    refine take_ (i := 1) (N := some 33) (v := ?_) (a' := ?_) #[true, true, true, false] rfl rfl (by kernel_rfl) (fun _ _ _ h => h) (Or.inl ⟨(by rfl), ?_⟩) hHeld ?_ ?_
    rotate_left
    ·intro w' s0
     go_simp
     with_reducible rfl
    rotate_left
    ·simp only [Act.put, List.setIfInBounds_toArray, List.set_cons_zero, List.set_cons_succ, i64_w, i32_w]
     rfl
    refine one_ (i := 3) (N := none) #[true, true, true, true] rfl rfl (by kernel_rfl) (by decide) (fun K hK => ?_)
    have hs35 : w34.cell? ⟨gb534, 0, none⟩ = some (.slice none 0 0) := (blk_cell BK534.out 0).trans rfl
    have hfs35 := zfr BK534 0
    have hns35_0 := NB533_534.out
    have hms35_0 := NB534_533.out
    refine skip_ (w1 := ?_) (by rfl) rfl ?_ ?_
    rotate_left
    ·go_simp
     rfl
    refine hK.out _ _ (((cell_far (p := ⟨gb534, _, none⟩) NB533_534.out _).trans (hHeld))) (fun hHeld => ?_)
    clear hK K
    refine done_ (by kernel_rfl) ?_
    try go_wp2
    refine bodyPost_ret (results_tc rfl _ _ gb534 30 #[.slice Ao33 x534000_1.length co33] (0, 0) _ rfl (by (with_reducible repeat (first | refine blk_drewN ?_ _ | refine blk_drew ?_ | refine blk_alloc ?_ _)); apply blk_put (i := 0); (case h => exact y0 BK534.out); (case e => rfl)) Try.underlying30 rfl (by kernel_rfl)) rfl ?_
    exact ⟨_, _, y14, (by (with_reducible repeat (first | apply Kd.R_alloc | apply Kd.R_drewN | apply Kd.R_drew)); exact Kd.R_mono (Kd.R_far (p := ⟨gb534, 0, none⟩) (Kd.R_types HO_6.out BK534.out (by decide)) (fun _ hk => hk.2) (.slice Ao33 x534000_1.length co33)) (fun _ hk => hk.1)), (by (with_reducible repeat (first | apply Kd.V_alloc | apply Kd.V_drewN | apply Kd.V_drew)); exact Kd.V_mono (Kd.V_far (p := ⟨gb534, 0, none⟩) (Kd.V_mono HO_534000.out (fun k_ hk => (⟨hk, hk.2.2.2.1⟩ : _ ∧ k_ ≠ gb534))) (fun _ hk => hk.2) (.slice Ao33 x534000_1.length co33)) (fun _ hk => ⟨hk.1.1, hk.1.2.1⟩)), (y15 HI0.out NB0_533.out NB0_534.out), (y12 HB.out HI0.out GE533.out GE534.out), (y11 HK.out GW533.out GW534.out)⟩
end Go.Proofs.Ytjhbhihfifhljaa.PA
end
section
namespace Go.Proofs.Ytjhbhihfifhljaa.PA
open Go.RowKit Go.Proofs.YtjhbhihfifhljaaW.PrintWords Go.Proofs.YtjhbhihfifhljaaW.PrintLast Go.Proofs.YtjhbhihfifhljaaW.PrintMore
attribute [local go_sem] max2_int min2_int max_two min_two max_three min_three max_four min_four
set_option linter.unusedVariables false
set_option linter.unusedSimpArgs false
def spec_l71Any.f (k : Nat) (s0_0 : List Int) (s0_1 : Int) (l1_0 : List (S30)) : Option (List Int × Int) := (spec_l71Path.f k s0_0 s0_1 l1_0).bind fun bt547 => ((spec_l6Rd_pick.f k s0_0 bt547.2.2 6).bind fun bt555 => (if bt555.1 = 0 then ((spec_l6Rd_pick.f k s0_0 bt555.2 4).bind fun bt557 => (if bt547.1.length < 17592186044416 then (some ((bt547.1 ++ [wrap64 (bt557.1 - 1)]), bt557.2)) else (none))) else (some (bt547.1, bt555.2))))
theorem spec_l71Any.mono : ∀ a0 a1 a2 k, LeO (spec_l71Any.f k a0 a1 a2) (spec_l71Any.f (k + 1) a0 a1 a2) := by
 intro a0 a1 a2 k
 unfold spec_l71Any.f
 repeat' first
   | (with_reducible exact spec_l6Rd_pick.mono _ _ _ _)
   | (with_reducible exact spec_l71Path.mono _ _ _ _)
   | (with_reducible exact LeO.refl _)
   | (with_reducible exact LeO.none _)
   | (with_reducible refine LeO.ite ?_ ?_)
   | (with_reducible refine LeO.bind ?_ (fun _ => ?_))
   | exact spec_l6Rd_pick.mono _ _ _ _
   | exact spec_l71Path.mono _ _ _ _
   | exact LeO.none _
   | refine LeO.ite ?_ ?_
   | refine LeO.bind ?_ (fun _ => ?_)
set_option maxHeartbeats 8000000 in
set_option maxRecDepth 100000 in
theorem spec_l71Any.calls (k : Nat) (g : Nat) (s0_0 : List Int) (s0_1 : Int) (P1_0_ : Nat → Prop) (A1_0 : Option Addr) (c1_0 : Nat) (l1_0 : List (S30)) (r1 : List Int) (r2 : Int) (w0 w : World) (hI : IsS95 w0 w g s0_0 s0_1) (hB : Below w0.heap.size w0 w) (hs1_0 : Kd.V k30 30 w w.heap.size (fun k_ => P1_0_ k_ ∧ k_ ≠ g) (.slice A1_0 l1_0.length c1_0) l1_0) (h : spec_l71Any.f k s0_0 s0_1 l1_0 = some (r1, r2)) :
  Calls Try.prog 64 #[.pointer (some ⟨g, 0, none⟩), .agg #[.slice A1_0 l1_0.length c1_0]] w fun e w' => ∃ v0_ : Value, e = .returned (v0_) ∧ Kd.R (Kd.int .i64) 3 w' w.heap.size (fun k_ => (w.heap.size ≤ k_)) v0_ r1 ∧ IsS95 w0 w' g s0_0 r2 ∧ Below w0.heap.size w0 w' ∧ KeepBut w w' g none := by
 have hu30 := Try.underlying30
 have HO1_0 := Aside0.mk (show Kd.V k30 30 w w.heap.size (fun k_ => (P1_0_ k_ ∨ w.heap.size ≤ k_) ∧ k_ ≠ g) (.slice A1_0 l1_0.length c1_0) l1_0 from Kd.V_mono hs1_0 (fun k_ hk => ⟨.inl hk.1, hk.2⟩))
 have HI0 := Aside0.mk hI
 have HK := Aside0.mk (KeepBut.refl w g none)
 have HL := Aside0.mk hB.size
 clear hI
 have HW0 := Aside0.mk hB.size
 have HB := Aside0.mk hB
 clear hB
 have H : ((spec_l71Path.f k s0_0 s0_1 l1_0).bind fun bt547 => ((spec_l6Rd_pick.f k s0_0 bt547.2.2 6).bind fun bt555 => (if bt555.1 = 0 then ((spec_l6Rd_pick.f k s0_0 bt555.2 4).bind fun bt557 => (if bt547.1.length < 17592186044416 then (some ((bt547.1 ++ [wrap64 (bt557.1 - 1)]), bt557.2)) else (none))) else (some (bt547.1, bt555.2))))) = some (r1, r2) := h
 clear h
 obtain ⟨⟨t547, t550, t553⟩, A30, H⟩ := ob H
 have A3 := Aside0.mk A30
 clear A30
 obtain ⟨⟨t555, t556⟩, A40, H⟩ := ob H
 have A4 := Aside0.mk A40
 clear A40
 by_cases c5 : t555 = 0
 ·rw [if_pos c5] at H
  have c5b0 : (t555 == 0) = true := beq_iff_eq.mpr c5
  have c5b1 : (t555 != 0) = false := bne_eq_false_iff_eq.mpr c5
  clear c5
  obtain ⟨⟨t557, t558⟩, A60, H⟩ := ob H
  have A6 := Aside0.mk A60
  clear A60
  by_cases c7 : t547.length < 17592186044416
  ·rw [if_pos c7] at H
   have LMc7 := Aside0.mk c7
   clear c7
   obtain ⟨y559, hy559⟩ : ∃ y_ : List Int, y_ = (t547 ++ [wrap64 (t557 - 1)]) := ⟨_, rfl⟩
   replace H : (some (y559, t558)) = some (r1, r2) := by first | (rw [hy559]; with_reducible exact H) | (have H2_ := (Option.bind_some _ _).symm.trans H; rw [hy559]; with_reducible exact H2_) | (have H2_ := (Option.bind_some _ _).symm.trans H; with_reducible exact H2_) | with_reducible exact H | (rw [hy559]; exact H) | exact H
   have Ny559 := Aside0.mk hy559
   clear hy559
   simp only [Option.some.injEq, Prod.mk.injEq] at H
   obtain ⟨rfl, rfl⟩ := H
   go_enter Try.func64, Try.ntmps64
   go_wp2_with (first | ((with_reducible refine gate_dst (N := 3) rfl ?_); refine zbx 3 #[.slice A1_0 l1_0.length c1_0] 30 ?_; intro gb546 hg w8 hbox hb; replace HO1_0 := Aside0.mk (Kd.V_below (Kd.V_elderB (y13 HO1_0.out) gb546 (Nat.le_of_eq hg.symm)) hb); replace HB := Aside0.mk (below_step (y33 HB.out HI0.out) hb); have BK546 := Aside0.mk hbox; have GW546 := Aside0.mk ((by rw [hg]; exact (keep_size (w := w) (g := g) (row := none) (y25 HK.out)) : w.heap.size ≤ gb546)); have GE546 := Aside0.mk ((Nat.le_trans HW0.out (by rw [hg]; exact (keep_size (w := w) (g := g) (row := none) (y25 HK.out)) : w.heap.size ≤ gb546) : w0.heap.size ≤ gb546)); replace HK := Aside0.mk (KeepBut.trans (y25 HK.out) (KeepBut.of_below hb g none) (.inl rfl)); have NB0_546 := Aside0.mk ((by rw [hg]; exact Nat.ne_of_lt (IsS95.lt (show IsS95 w0 _ g s0_0 s0_1 from by repeat (first | (with_reducible first | exact HI0.out | apply IsS95.alloc | apply IsS95.drewN | apply IsS95.drew | apply IsS95.set_1) | exact HI0.out))) : g ≠ gb546)); have NB546_0 := Aside0.mk ((by rw [hg]; exact Nat.ne_of_gt (IsS95.lt (show IsS95 w0 _ g s0_0 s0_1 from by repeat (first | (with_reducible first | exact HI0.out | apply IsS95.alloc | apply IsS95.drewN | apply IsS95.drew | apply IsS95.set_1) | exact HI0.out))) : gb546 ≠ g)); replace HI0 := Aside0.mk (IsS95.below (y35 HI0.out) hb); clear hb hbox hg; have hnb9 := NB546_0.out; have hnc9 := NB0_546.out; have hcz10_0 := zh BK546; have hfz10_0 := zfr BK546 0) | ((with_reducible refine gate_callee (f := 86) rfl ?_); refine goesL_ (some 10) rfl rfl Try.func86 (by kernel_rfl) rfl #[.pointer (some ⟨g, 0, none⟩), .agg #[.slice A1_0 l1_0.length c1_0]] rfl y4 ?_; (with_reducible refine (spec_l71Path.calls k g s0_0 s0_1 (fun k_ => (((P1_0_ k_ ∨ w.heap.size ≤ k_) ∧ k_ ≠ g) ∧ k_ ≠ gb546)) _ _ l1_0 t547 t550 t553 w0 _ ?side1 ?side2 ?side3 A3.out).mono ?_); (case side1 => exact y24 HI0.out NB0_546.out); (case side2 => exact y23 HB.out HI0.out GE546.out); (case side3 => exact Kd.V_mono (HO1_0.out) (fun k_ hk_ => ⟨hk_, hk_.1.2⟩)); rintro e w11 ⟨v548, v551, rfl, ho0, ho1, hi, hb, hk⟩; refine ⟨_, rfl, ?_⟩; replace HO1_0 := Aside0.mk (Kd.V_mono (Kd.V_told (Kd.V_oldK (Kd.V_mono (ok := fun k_ => ((((P1_0_ k_ ∨ w.heap.size ≤ k_)) ∧ k_ ≠ g) ∧ k_ ≠ gb546)) (y13 HO1_0.out) (fun k_ hk_ => (⟨hk_, hk_.1.2⟩ : _ ∧ k_ ≠ g))) hk) (Kd.R_base ho0)) (fun _ h_ => h_.1)); have HO549 := Aside0.mk (Kd.R_lower (Kd.R_newM (M := fun k_ => (w.heap.size ≤ k_)) ho0 (keep_size (w := w) (g := g) (row := none) (y18 HK.out GW546.out)) (fun k_ h_ => h_)) (keep_size (w := w) (g := g) (row := none) (y18 HK.out GW546.out))); have HO552 := Aside0.mk (Kd.V_lower (Kd.V_mono (ok' := fun k_ => (P1_0_ k_ ∨ w.heap.size ≤ k_) ∧ some k_ ≠ (v548 : Value).ownBlock ∧ k_ ≠ gb546 ∧ k_ ≠ g) ho1 (fun k_ hk_ => ⟨Or.elim hk_.1 (fun hs_ => hs_.1.1) (fun hn_ => (.inr (Nat.le_trans (keep_size (w := w) (g := g) (row := none) (y18 HK.out GW546.out)) hn_))), hk_.2, Or.elim hk_.1 (fun hs_ => hs_.2) (fun hn_ => (Kd.freshB (g := gb546) (o := .cells #[.slice A1_0 l1_0.length c1_0] 30 (0, 0)) (y0 BK546.out) k_ hn_)), Or.elim hk_.1 (fun hs_ => hs_.1.2) (fun hn_ => (IsS95.fresh (y24 HI0.out NB0_546.out) k_ hn_))⟩)) (keep_size (w := w) (g := g) (row := none) (y18 HK.out GW546.out))); replace BK546 := Aside0.mk (KeepBut.blk hk (g' := gb546) (o := .cells #[.slice A1_0 l1_0.length c1_0] 30 (0, 0)) (y0 BK546.out) NB546_0.out (by simp)); replace HK := Aside0.mk (KeepBut.trans (y18 HK.out GW546.out) hk (.inl rfl)); replace HB := Aside0.mk (hb); replace HI0 := Aside0.mk (hi); (try clear hb); (try clear hb2); (try clear hk); (try clear hi); (try clear ho0); (try clear ho1)) | ((with_reducible refine gate_dst (N := 6) rfl ?_); refine zbx 6 #[.slice none 0 0] 30 ?_; intro gb554 hg w12 hbox hb; replace HO1_0 := Aside0.mk (Kd.V_below (Kd.V_elderB (y13 HO1_0.out) gb554 (Nat.le_of_eq hg.symm)) hb); replace HO549 := Aside0.mk (Kd.R_below (y10 HO549.out) hb); replace HO552 := Aside0.mk (Kd.V_below (Kd.V_elderB (y13 HO552.out) gb554 (Nat.le_of_eq hg.symm)) hb); replace HB := Aside0.mk (below_step (y23 HB.out HI0.out GE546.out) hb); have BK554 := Aside0.mk hbox; have GW554 := Aside0.mk ((by rw [hg]; exact (keep_size (w := w) (g := g) (row := none) (y18 HK.out GW546.out)) : w.heap.size ≤ gb554)); have GE554 := Aside0.mk ((Nat.le_trans HW0.out (by rw [hg]; exact (keep_size (w := w) (g := g) (row := none) (y18 HK.out GW546.out)) : w.heap.size ≤ gb554) : w0.heap.size ≤ gb554)); replace HK := Aside0.mk (KeepBut.trans (y18 HK.out GW546.out) (KeepBut.of_below hb g none) (.inl rfl)); have NB546_554 := zltn hg BK546; have NB554_546 := zgtn hg BK546; replace BK546 := zbb BK546 hb; have NB0_554 := Aside0.mk ((by rw [hg]; exact Nat.ne_of_lt (IsS95.lt (show IsS95 w0 _ g s0_0 t553 from by repeat (first | (with_reducible first | exact HI0.out | apply IsS95.alloc | apply IsS95.drewN | apply IsS95.drew | apply IsS95.set_1 | refine IsS95.far ?_ NB0_546.out _) | exact HI0.out))) : g ≠ gb554)); have NB554_0 := Aside0.mk ((by rw [hg]; exact Nat.ne_of_gt (IsS95.lt (show IsS95 w0 _ g s0_0 t553 from by repeat (first | (with_reducible first | exact HI0.out | apply IsS95.alloc | apply IsS95.drewN | apply IsS95.drew | apply IsS95.set_1 | refine IsS95.far ?_ NB0_546.out _) | exact HI0.out))) : gb554 ≠ g)); replace HI0 := Aside0.mk (IsS95.below (y24 HI0.out NB0_546.out) hb); clear hb hbox hg; obtain ⟨Ao13, co13, eo13⟩ := Kd.V_slice HO552.out; subst eo13; have hnb14 := NB554_546.out; have hnc14 := NB546_554.out; have hnb15 := NB554_0.out; have hnc15 := NB0_554.out; have hcz16_0 := zh BK554; have hfz16_0 := zfr BK554 0) | ((with_reducible refine gate_callee (f := 58) rfl ?_); refine goesL_ (some 14) rfl rfl Try.func58 (by kernel_rfl) rfl #[.pointer (some ⟨g, 0, none⟩), .int .i64 6] rfl y4 ?_; (with_reducible refine (spec_l6Rd_pick.calls k g s0_0 t553 6 t555 t556 w0 _ ?side1 ?side2 A4.out).mono ?_); (case side1 => exact y15 HI0.out NB0_546.out NB0_554.out); (case side2 => exact y12 HB.out HI0.out GE546.out GE554.out); rintro e w17 ⟨rfl, hi, hb, hk⟩; refine ⟨_, rfl, ?_⟩; replace HO1_0 := Aside0.mk (Kd.V_mono (Kd.V_keep (Kd.V_mono (ok := fun k_ => ((((((P1_0_ k_ ∨ w.heap.size ≤ k_)) ∧ k_ ≠ g) ∧ k_ ≠ gb546) ∧ some k_ ≠ (v548 : Value).ownBlock) ∧ k_ ≠ gb554)) (by (with_reducible repeat (first | apply Kd.V_alloc | apply Kd.V_drewN | apply Kd.V_drew)); exact (Kd.V_mono (Kd.V_far (p := ⟨gb554, 0, none⟩) (Kd.V_mono HO1_0.out (fun k_ hk => (⟨hk, hk.2⟩ : _ ∧ k_ ≠ gb554))) (fun _ hk => hk.2) (.slice Ao13 t550.length co13)) (fun _ h_ => h_.1))) (fun k_ hk_ => (⟨hk_, hk_.1.1.1.2⟩ : _ ∧ k_ ≠ g))) hk (fun _ h => h.2)) (fun _ h => h.1)); replace BK546 := Aside0.mk (KeepBut.blk hk (g' := gb546) (o := .cells #[.slice A1_0 l1_0.length c1_0] 30 (0, 0)) (y21 NB546_554.out BK546.out) NB546_0.out (by simp)); replace HO549 := Aside0.mk (Kd.R_mono (Kd.R_keep (IsS95.apart (show IsS95 w0 _ g s0_0 t553 from by repeat (first | (with_reducible first | exact HI0.out | apply IsS95.alloc | apply IsS95.drewN | apply IsS95.drew | apply IsS95.set_1 | refine IsS95.far ?_ NB0_546.out _ | refine IsS95.far ?_ NB0_554.out _) | exact HI0.out)) (by (with_reducible repeat (first | apply Kd.R_alloc | apply Kd.R_drewN | apply Kd.R_drew)); exact (Kd.R_mono (Kd.R_far (p := ⟨gb554, 0, none⟩) (Kd.R_types HO549.out BK554.out (by decide)) (fun _ hk => hk.2) (.slice Ao13 t550.length co13)) (fun _ h_ => h_.1))) (by decide)) hk (fun _ h => h.2)) (fun _ h => h.1)); replace HO552 := Aside0.mk (Kd.V_mono (Kd.V_keep (Kd.V_mono (ok := fun k_ => ((((P1_0_ k_ ∨ w.heap.size ≤ k_)) ∧ (some k_ ≠ (v548 : Value).ownBlock ∧ (k_ ≠ gb546 ∧ k_ ≠ g))) ∧ k_ ≠ gb554)) (by (with_reducible repeat (first | apply Kd.V_alloc | apply Kd.V_drewN | apply Kd.V_drew)); exact (Kd.V_mono (Kd.V_far (p := ⟨gb554, 0, none⟩) (Kd.V_mono HO552.out (fun k_ hk => (⟨hk, hk.2⟩ : _ ∧ k_ ≠ gb554))) (fun _ hk => hk.2) (.slice Ao13 t550.length co13)) (fun _ h_ => h_.1))) (fun k_ hk_ => (⟨hk_, hk_.1.2.2.2⟩ : _ ∧ k_ ≠ g))) hk (fun _ h => h.2)) (fun _ h => h.1)); replace BK554 := Aside0.mk (KeepBut.blk hk (g' := gb554) (o := .cells #[.slice Ao13 t550.length co13] 30 (0, 0)) (by (with_reducible repeat (first | refine blk_drewN ?_ _ | refine blk_drew ?_ | refine blk_alloc ?_ _)); apply blk_put (i := 0); (case h => exact y0 BK554.out); (case e => rfl)) NB554_0.out (by simp)); replace HK := Aside0.mk (KeepBut.trans (y11 HK.out GW546.out GW554.out) hk (.inl rfl)); replace HB := Aside0.mk (hb); replace HI0 := Aside0.mk (hi); (try clear hb); (try clear hb2); (try clear hk); (try clear hi)) | ((with_reducible refine gate_callee (f := 58) rfl ?_); refine goesL_ (some 18) rfl rfl Try.func58 (by kernel_rfl) rfl #[.pointer (some ⟨g, 0, none⟩), .int .i64 4] rfl y4 ?_; (with_reducible refine (spec_l6Rd_pick.calls k g s0_0 t556 4 t557 t558 w0 _ ?side1 ?side2 A6.out).mono ?_); (case side1 => exact y15 HI0.out NB0_546.out NB0_554.out); (case side2 => exact y12 HB.out HI0.out GE546.out GE554.out); rintro e w18 ⟨rfl, hi, hb, hk⟩; refine ⟨_, rfl, ?_⟩; replace HO1_0 := Aside0.mk (Kd.V_mono (Kd.V_keep (Kd.V_mono (ok := fun k_ => ((((((P1_0_ k_ ∨ w.heap.size ≤ k_)) ∧ k_ ≠ g) ∧ k_ ≠ gb546) ∧ some k_ ≠ (v548 : Value).ownBlock) ∧ k_ ≠ gb554)) (y13 HO1_0.out) (fun k_ hk_ => (⟨hk_, hk_.1.1.1.2⟩ : _ ∧ k_ ≠ g))) hk (fun _ h => h.2)) (fun _ h => h.1)); replace BK546 := Aside0.mk (KeepBut.blk hk (g' := gb546) (o := .cells #[.slice A1_0 l1_0.length c1_0] 30 (0, 0)) (y0 BK546.out) NB546_0.out (by simp)); replace HO549 := Aside0.mk (Kd.R_mono (Kd.R_keep (IsS95.apart (show IsS95 w0 _ g s0_0 t556 from by repeat (first | (with_reducible first | exact HI0.out | apply IsS95.alloc | apply IsS95.drewN | apply IsS95.drew | apply IsS95.set_1 | refine IsS95.far ?_ NB0_546.out _ | refine IsS95.far ?_ NB0_554.out _) | exact HI0.out)) (y10 HO549.out) (by decide)) hk (fun _ h => h.2)) (fun _ h => h.1)); replace HO552 := Aside0.mk (Kd.V_mono (Kd.V_keep (Kd.V_mono (ok := fun k_ => ((((P1_0_ k_ ∨ w.heap.size ≤ k_)) ∧ (some k_ ≠ (v548 : Value).ownBlock ∧ (k_ ≠ gb546 ∧ k_ ≠ g))) ∧ k_ ≠ gb554)) (y13 HO552.out) (fun k_ hk_ => (⟨hk_, hk_.1.2.2.2⟩ : _ ∧ k_ ≠ g))) hk (fun _ h => h.2)) (fun _ h => h.1)); replace BK554 := Aside0.mk (KeepBut.blk hk (g' := gb554) (o := .cells #[.slice Ao13 t550.length co13] 30 (0, 0)) (y0 BK554.out) NB554_0.out (by simp)); replace HK := Aside0.mk (KeepBut.trans (y11 HK.out GW546.out GW554.out) hk (.inl rfl)); replace HB := Aside0.mk (hb); replace HI0 := Aside0.mk (hi); (try clear hb); (try clear hb2); (try clear hk); (try clear hi)) | ((with_reducible refine gate_builtin (b := .append) (xs := #[.tmp 16, .tmp 20]) rfl ?_); at_builtin; refine Kd.R_append (Kd.int .i64) w.heap.size rfl (.tmp 16) (.tmp 20) 38 3 (.int .i64 0) 8 rfl Try.underlying38 info3 rfl (by decide) (by omega) v548 t547 (wrap64 (t557 - 1)) [.int .i64 (wrap64 (t557 - 1))] (fun k_ => (w.heap.size ≤ k_)) (fun _ => False) rfl rfl ?aP (fun _ hk => hk.elim) ?aF ?aO (Below.refl _ _) ?aS ?aL ?_; (case aP => exact rfl); (case aF => exact (fun k_ hk => (Nat.le_trans (keep_size (w := w) (g := g) (row := none) (y11 HK.out GW546.out GW554.out)) hk))); (case aO => exact (y71 HO549.out)); (case aS => exact (keep_size (w := w) (g := g) (row := none) (y11 HK.out GW546.out GW554.out))); (case aL => exact y46 LMc7.out); intro v560 w19 ho hb hg hat; rw [← Ny559.out] at ho; replace HO1_0 := Aside0.mk (Kd.V_afterv (ok := (fun k_ => (P1_0_ k_ ∨ w.heap.size ≤ k_) ∧ k_ ≠ g ∧ k_ ≠ gb546 ∧ k_ ≠ gb554)) (by (with_reducible repeat (first | apply Kd.V_alloc | apply Kd.V_drewN | apply Kd.V_drew)); exact Kd.V_mono HO1_0.out (fun _ hk => ⟨⟨hk.1.1.1.1, ⟨hk.1.1.1.2, ⟨hk.1.1.2, hk.2⟩⟩⟩, hk.1.2⟩)) hg hat); replace BK546 := Aside0.mk (blk_grown (g := gb546) (o := .cells #[.slice A1_0 l1_0.length c1_0] 30 (0, 0)) (y0 BK546.out) hg (Kd.R_ne HO549.out BK546.out (by decide))); replace HO552 := Aside0.mk (Kd.V_afterv (ok := (fun k_ => (P1_0_ k_ ∨ w.heap.size ≤ k_) ∧ k_ ≠ gb546 ∧ k_ ≠ g ∧ k_ ≠ gb554)) (by (with_reducible repeat (first | apply Kd.V_alloc | apply Kd.V_drewN | apply Kd.V_drew)); exact Kd.V_mono HO552.out (fun _ hk => ⟨⟨hk.1.1, ⟨hk.1.2.2.1, ⟨hk.1.2.2.2, hk.2⟩⟩⟩, hk.1.2.1⟩)) hg hat); replace BK554 := Aside0.mk (blk_grown (g := gb554) (o := .cells #[.slice Ao13 t550.length co13] 30 (0, 0)) (y0 BK554.out) hg (Kd.R_ne HO549.out BK554.out (by decide))); replace HB := Aside0.mk (below_weaken (y12 HB.out HI0.out GE546.out GE554.out) HL.out hb); replace HI0 := Aside0.mk (IsS95.grown (y15 HI0.out NB0_546.out NB0_554.out) hg (IsS95.own_ne HI0.out HO549.out (by decide))); replace HK := Aside0.mk (KeepBut.trans (y11 HK.out GW546.out GW554.out) (KeepBut.of_grown hg g) (Kd.R_base2 HO549.out)); have HO561 := Aside0.mk (ho); clear HO549; clear ho hb hg hat))
   go_ret
   exact ⟨_, y14, (y10 HO561.out), (y15 HI0.out NB0_546.out NB0_554.out), (y12 HB.out HI0.out GE546.out GE554.out), (y11 HK.out GW546.out GW554.out)⟩
  ·rw [if_neg c7] at H
   exact absurd H (by simp)
 ·rw [if_neg c5] at H
  have c5b0 : (t555 == 0) = false := beq_eq_false_iff_ne.mpr c5
  have c5b1 : (t555 != 0) = true := bne_iff_ne.mpr c5
  simp only [Option.some.injEq, Prod.mk.injEq] at H
  obtain ⟨rfl, rfl⟩ := H
  go_enter Try.func64, Try.ntmps64
  go_wp2_with (first | ((with_reducible refine gate_dst (N := 3) rfl ?_); refine zbx 3 #[.slice A1_0 l1_0.length c1_0] 30 ?_; intro gb546 hg w20 hbox hb; replace HO1_0 := Aside0.mk (Kd.V_below (Kd.V_elderB (y13 HO1_0.out) gb546 (Nat.le_of_eq hg.symm)) hb); replace HB := Aside0.mk (below_step (y33 HB.out HI0.out) hb); have BK546 := Aside0.mk hbox; have GW546 := Aside0.mk ((by rw [hg]; exact (keep_size (w := w) (g := g) (row := none) (y25 HK.out)) : w.heap.size ≤ gb546)); have GE546 := Aside0.mk ((Nat.le_trans HW0.out (by rw [hg]; exact (keep_size (w := w) (g := g) (row := none) (y25 HK.out)) : w.heap.size ≤ gb546) : w0.heap.size ≤ gb546)); replace HK := Aside0.mk (KeepBut.trans (y25 HK.out) (KeepBut.of_below hb g none) (.inl rfl)); have NB0_546 := Aside0.mk ((by rw [hg]; exact Nat.ne_of_lt (IsS95.lt (show IsS95 w0 _ g s0_0 s0_1 from by repeat (first | (with_reducible first | exact HI0.out | apply IsS95.alloc | apply IsS95.drewN | apply IsS95.drew | apply IsS95.set_1) | exact HI0.out))) : g ≠ gb546)); have NB546_0 := Aside0.mk ((by rw [hg]; exact Nat.ne_of_gt (IsS95.lt (show IsS95 w0 _ g s0_0 s0_1 from by repeat (first | (with_reducible first | exact HI0.out | apply IsS95.alloc | apply IsS95.drewN | apply IsS95.drew | apply IsS95.set_1) | exact HI0.out))) : gb546 ≠ g)); replace HI0 := Aside0.mk (IsS95.below (y35 HI0.out) hb); clear hb hbox hg; have hnb21 := NB546_0.out; have hnc21 := NB0_546.out; have hcz22_0 := zh BK546; have hfz22_0 := zfr BK546 0) | ((with_reducible refine gate_callee (f := 86) rfl ?_); refine goesL_ (some 10) rfl rfl Try.func86 (by kernel_rfl) rfl #[.pointer (some ⟨g, 0, none⟩), .agg #[.slice A1_0 l1_0.length c1_0]] rfl y4 ?_; (with_reducible refine (spec_l71Path.calls k g s0_0 s0_1 (fun k_ => (((P1_0_ k_ ∨ w.heap.size ≤ k_) ∧ k_ ≠ g) ∧ k_ ≠ gb546)) _ _ l1_0 t547 t550 t553 w0 _ ?side1 ?side2 ?side3 A3.out).mono ?_); (case side1 => exact y24 HI0.out NB0_546.out); (case side2 => exact y23 HB.out HI0.out GE546.out); (case side3 => exact Kd.V_mono (HO1_0.out) (fun k_ hk_ => ⟨hk_, hk_.1.2⟩)); rintro e w23 ⟨v548, v551, rfl, ho0, ho1, hi, hb, hk⟩; refine ⟨_, rfl, ?_⟩; replace HO1_0 := Aside0.mk (Kd.V_mono (Kd.V_told (Kd.V_oldK (Kd.V_mono (ok := fun k_ => ((((P1_0_ k_ ∨ w.heap.size ≤ k_)) ∧ k_ ≠ g) ∧ k_ ≠ gb546)) (y13 HO1_0.out) (fun k_ hk_ => (⟨hk_, hk_.1.2⟩ : _ ∧ k_ ≠ g))) hk) (Kd.R_base ho0)) (fun _ h_ => h_.1)); have HO549 := Aside0.mk (Kd.R_lower (Kd.R_newM (M := fun k_ => (w.heap.size ≤ k_)) ho0 (keep_size (w := w) (g := g) (row := none) (y18 HK.out GW546.out)) (fun k_ h_ => h_)) (keep_size (w := w) (g := g) (row := none) (y18 HK.out GW546.out))); have HO552 := Aside0.mk (Kd.V_lower (Kd.V_mono (ok' := fun k_ => (P1_0_ k_ ∨ w.heap.size ≤ k_) ∧ some k_ ≠ (v548 : Value).ownBlock ∧ k_ ≠ gb546 ∧ k_ ≠ g) ho1 (fun k_ hk_ => ⟨Or.elim hk_.1 (fun hs_ => hs_.1.1) (fun hn_ => (.inr (Nat.le_trans (keep_size (w := w) (g := g) (row := none) (y18 HK.out GW546.out)) hn_))), hk_.2, Or.elim hk_.1 (fun hs_ => hs_.2) (fun hn_ => (Kd.freshB (g := gb546) (o := .cells #[.slice A1_0 l1_0.length c1_0] 30 (0, 0)) (y0 BK546.out) k_ hn_)), Or.elim hk_.1 (fun hs_ => hs_.1.2) (fun hn_ => (IsS95.fresh (y24 HI0.out NB0_546.out) k_ hn_))⟩)) (keep_size (w := w) (g := g) (row := none) (y18 HK.out GW546.out))); replace BK546 := Aside0.mk (KeepBut.blk hk (g' := gb546) (o := .cells #[.slice A1_0 l1_0.length c1_0] 30 (0, 0)) (y0 BK546.out) NB546_0.out (by simp)); replace HK := Aside0.mk (KeepBut.trans (y18 HK.out GW546.out) hk (.inl rfl)); replace HB := Aside0.mk (hb); replace HI0 := Aside0.mk (hi); (try clear hb); (try clear hb2); (try clear hk); (try clear hi); (try clear ho0); (try clear ho1)) | ((with_reducible refine gate_dst (N := 6) rfl ?_); refine zbx 6 #[.slice none 0 0] 30 ?_; intro gb554 hg w24 hbox hb; replace HO1_0 := Aside0.mk (Kd.V_below (Kd.V_elderB (y13 HO1_0.out) gb554 (Nat.le_of_eq hg.symm)) hb); replace HO549 := Aside0.mk (Kd.R_below (y10 HO549.out) hb); replace HO552 := Aside0.mk (Kd.V_below (Kd.V_elderB (y13 HO552.out) gb554 (Nat.le_of_eq hg.symm)) hb); replace HB := Aside0.mk (below_step (y23 HB.out HI0.out GE546.out) hb); have BK554 := Aside0.mk hbox; have GW554 := Aside0.mk ((by rw [hg]; exact (keep_size (w := w) (g := g) (row := none) (y18 HK.out GW546.out)) : w.heap.size ≤ gb554)); have GE554 := Aside0.mk ((Nat.le_trans HW0.out (by rw [hg]; exact (keep_size (w := w) (g := g) (row := none) (y18 HK.out GW546.out)) : w.heap.size ≤ gb554) : w0.heap.size ≤ gb554)); replace HK := Aside0.mk (KeepBut.trans (y18 HK.out GW546.out) (KeepBut.of_below hb g none) (.inl rfl)); have NB546_554 := zltn hg BK546; have NB554_546 := zgtn hg BK546; replace BK546 := zbb BK546 hb; have NB0_554 := Aside0.mk ((by rw [hg]; exact Nat.ne_of_lt (IsS95.lt (show IsS95 w0 _ g s0_0 t553 from by repeat (first | (with_reducible first | exact HI0.out | apply IsS95.alloc | apply IsS95.drewN | apply IsS95.drew | apply IsS95.set_1 | refine IsS95.far ?_ NB0_546.out _) | exact HI0.out))) : g ≠ gb554)); have NB554_0 := Aside0.mk ((by rw [hg]; exact Nat.ne_of_gt (IsS95.lt (show IsS95 w0 _ g s0_0 t553 from by repeat (first | (with_reducible first | exact HI0.out | apply IsS95.alloc | apply IsS95.drewN | apply IsS95.drew | apply IsS95.set_1 | refine IsS95.far ?_ NB0_546.out _) | exact HI0.out))) : gb554 ≠ g)); replace HI0 := Aside0.mk (IsS95.below (y24 HI0.out NB0_546.out) hb); clear hb hbox hg; obtain ⟨Ao25, co25, eo25⟩ := Kd.V_slice HO552.out; subst eo25; have hnb26 := NB554_546.out; have hnc26 := NB546_554.out; have hnb27 := NB554_0.out; have hnc27 := NB0_554.out; have hcz28_0 := zh BK554; have hfz28_0 := zfr BK554 0) | ((with_reducible refine gate_callee (f := 58) rfl ?_); refine goesL_ (some 14) rfl rfl Try.func58 (by kernel_rfl) rfl #[.pointer (some ⟨g, 0, none⟩), .int .i64 6] rfl y4 ?_; (with_reducible refine (spec_l6Rd_pick.calls k g s0_0 t553 6 t555 t556 w0 _ ?side1 ?side2 A4.out).mono ?_); (case side1 => exact y15 HI0.out NB0_546.out NB0_554.out); (case side2 => exact y12 HB.out HI0.out GE546.out GE554.out); rintro e w29 ⟨rfl, hi, hb, hk⟩; refine ⟨_, rfl, ?_⟩; replace HO1_0 := Aside0.mk (Kd.V_mono (Kd.V_keep (Kd.V_mono (ok := fun k_ => ((((((P1_0_ k_ ∨ w.heap.size ≤ k_)) ∧ k_ ≠ g) ∧ k_ ≠ gb546) ∧ some k_ ≠ (v548 : Value).ownBlock) ∧ k_ ≠ gb554)) (by (with_reducible repeat (first | apply Kd.V_alloc | apply Kd.V_drewN | apply Kd.V_drew)); exact (Kd.V_mono (Kd.V_far (p := ⟨gb554, 0, none⟩) (Kd.V_mono HO1_0.out (fun k_ hk => (⟨hk, hk.2⟩ : _ ∧ k_ ≠ gb554))) (fun _ hk => hk.2) (.slice Ao25 t550.length co25)) (fun _ h_ => h_.1))) (fun k_ hk_ => (⟨hk_, hk_.1.1.1.2⟩ : _ ∧ k_ ≠ g))) hk (fun _ h => h.2)) (fun _ h => h.1)); replace BK546 := Aside0.mk (KeepBut.blk hk (g' := gb546) (o := .cells #[.slice A1_0 l1_0.length c1_0] 30 (0, 0)) (y21 NB546_554.out BK546.out) NB546_0.out (by simp)); replace HO549 := Aside0.mk (Kd.R_mono (Kd.R_keep (IsS95.apart (show IsS95 w0 _ g s0_0 t553 from by repeat (first | (with_reducible first | exact HI0.out | apply IsS95.alloc | apply IsS95.drewN | apply IsS95.drew | apply IsS95.set_1 | refine IsS95.far ?_ NB0_546.out _ | refine IsS95.far ?_ NB0_554.out _) | exact HI0.out)) (by (with_reducible repeat (first | apply Kd.R_alloc | apply Kd.R_drewN | apply Kd.R_drew)); exact (Kd.R_mono (Kd.R_far (p := ⟨gb554, 0, none⟩) (Kd.R_types HO549.out BK554.out (by decide)) (fun _ hk => hk.2) (.slice Ao25 t550.length co25)) (fun _ h_ => h_.1))) (by decide)) hk (fun _ h => h.2)) (fun _ h => h.1)); replace HO552 := Aside0.mk (Kd.V_mono (Kd.V_keep (Kd.V_mono (ok := fun k_ => ((((P1_0_ k_ ∨ w.heap.size ≤ k_)) ∧ (some k_ ≠ (v548 : Value).ownBlock ∧ (k_ ≠ gb546 ∧ k_ ≠ g))) ∧ k_ ≠ gb554)) (by (with_reducible repeat (first | apply Kd.V_alloc | apply Kd.V_drewN | apply Kd.V_drew)); exact (Kd.V_mono (Kd.V_far (p := ⟨gb554, 0, none⟩) (Kd.V_mono HO552.out (fun k_ hk => (⟨hk, hk.2⟩ : _ ∧ k_ ≠ gb554))) (fun _ hk => hk.2) (.slice Ao25 t550.length co25)) (fun _ h_ => h_.1))) (fun k_ hk_ => (⟨hk_, hk_.1.2.2.2⟩ : _ ∧ k_ ≠ g))) hk (fun _ h => h.2)) (fun _ h => h.1)); replace BK554 := Aside0.mk (KeepBut.blk hk (g' := gb554) (o := .cells #[.slice Ao25 t550.length co25] 30 (0, 0)) (by (with_reducible repeat (first | refine blk_drewN ?_ _ | refine blk_drew ?_ | refine blk_alloc ?_ _)); apply blk_put (i := 0); (case h => exact y0 BK554.out); (case e => rfl)) NB554_0.out (by simp)); replace HK := Aside0.mk (KeepBut.trans (y11 HK.out GW546.out GW554.out) hk (.inl rfl)); replace HB := Aside0.mk (hb); replace HI0 := Aside0.mk (hi); (try clear hb); (try clear hb2); (try clear hk); (try clear hi)))
  go_ret
  exact ⟨_, y14, (y71 HO549.out), (y15 HI0.out NB0_546.out NB0_554.out), (y12 HB.out HI0.out GE546.out GE554.out), (y11 HK.out GW546.out GW554.out)⟩
end Go.Proofs.Ytjhbhihfifhljaa.PA
end
section
namespace Go.Proofs.Ytjhbhihfifhljaa.PA
open Go.RowKit Go.Proofs.YtjhbhihfifhljaaW.PrintWords Go.Proofs.YtjhbhihfifhljaaW.PrintLast Go.Proofs.YtjhbhihfifhljaaW.PrintMore
attribute [local go_sem] max2_int min2_int max_two min_two max_three min_three max_four min_four
set_option linter.unusedVariables false
set_option linter.unusedSimpArgs false
def spec_DrawTypeAt.f (k : Nat) (l0 : List Int) : Option ((List (S30)) × List Int) := (spec_l6Open.f l0).bind fun bt563 => ((spec_l71Deep.f k bt563.1 bt563.2).bind fun bt566 => ((spec_l71Any.f k bt563.1 bt566.2 bt566.1).bind fun bt571 => (some (bt566.1, bt571.1))))
theorem spec_DrawTypeAt.mono : ∀ a0 k, LeO (spec_DrawTypeAt.f k a0) (spec_DrawTypeAt.f (k + 1) a0) := by
 intro a0 k
 unfold spec_DrawTypeAt.f
 repeat' first
   | (with_reducible exact spec_l71Any.mono _ _ _ _)
   | (with_reducible exact spec_l71Deep.mono _ _ _)
   | (with_reducible exact LeO.refl _)
   | (with_reducible exact LeO.none _)
   | (with_reducible refine LeO.ite ?_ ?_)
   | (with_reducible refine LeO.bind ?_ (fun _ => ?_))
   | exact spec_l71Any.mono _ _ _ _
   | exact spec_l71Deep.mono _ _ _
   | exact LeO.none _
   | refine LeO.ite ?_ ?_
   | refine LeO.bind ?_ (fun _ => ?_)
set_option maxHeartbeats 8000000 in
set_option maxRecDepth 100000 in
theorem spec_DrawTypeAt.calls (k : Nat) (A0 : Option Addr) (c0 : Nat) (l0 : List Int) (r1 : List (S30)) (r2 : List Int) (w : World) (hr0 : Kd.C (Kd.int .u8) w A0 l0.length l0) (hc0 : l0.length ≤ c0) (h : spec_DrawTypeAt.f k l0 = some (r1, r2)) :
  Calls Try.prog 32 #[.slice A0 l0.length c0] w fun e w' => ∃ v0_ v1_ : Value, e = .returned (.tuple #[.agg #[v0_], v1_]) ∧ Kd.N k30 30 w' w.heap.size (fun k_ => (w.heap.size ≤ k_) ∧ some k_ ≠ (v1_ : Value).ownBlock) v0_ r1 ∧ Kd.R (Kd.int .i64) 3 w' w.heap.size (fun k_ => (w.heap.size ≤ k_)) v1_ r2 ∧ Below w.heap.size w w' := by
 have hu30 := Try.underlying30
 have HR0 := Aside0.mk hr0
 have HC0 := Aside0.mk hc0
 clear hr0 hc0
 have HB := Aside0.mk (Below.refl w.heap.size w)
 have H : ((spec_l6Open.f l0).bind fun bt563 => ((spec_l71Deep.f k bt563.1 bt563.2).bind fun bt566 => ((spec_l71Any.f k bt563.1 bt566.2 bt566.1).bind fun bt571 => (some (bt566.1, bt571.1))))) = some (r1, r2) := h
 clear h
 obtain ⟨⟨t563, t564⟩, A20, H⟩ := ob H
 have A2 := Aside0.mk A20
 clear A20
 obtain ⟨⟨t566, t569⟩, A30, H⟩ := ob H
 have A3 := Aside0.mk A30
 clear A30
 obtain ⟨⟨t571, t574⟩, A40, H⟩ := ob H
 have A4 := Aside0.mk A40
 clear A40
 simp only [Option.some.injEq, Prod.mk.injEq] at H
 obtain ⟨rfl, rfl⟩ := H
 go_enter Try.func32, Try.ntmps32
 try go_wp2_with (first | ((with_reducible refine gate_dst (N := 2) rfl ?_); refine zbx 2 #[.slice none 0 0] 30 ?_; intro gb562 hg w5 hbox hb; have BK562 := Aside0.mk hbox; have GW562 := Aside0.mk ((y5 hg HB.out : w.heap.size ≤ gb562)); have GE562 := Aside0.mk ((y5 hg HB.out : w.heap.size ≤ gb562)); replace HB := Aside0.mk (below_step (y2 HB.out) hb); clear hb hbox hg) | ((with_reducible refine gate_callee (f := 52) rfl ?_); refine goesL_ (some 7) rfl rfl Try.func52 (by kernel_rfl) rfl #[.slice A0 l0.length c0] rfl y4 ?_; (with_reducible refine (spec_l6Open.calls _ _ l0 t563 t564 w _ ?side1 ?side2 ?side3 A2.out).mono ?_); (case side1 => exact y3 HB.out GE562.out); (case side2 => exact HR0.out); (case side3 => exact HC0.out); rintro e w6 ⟨g565, rfl, hi, hb, hb2⟩; refine ⟨_, rfl, ?_⟩; replace HB := Aside0.mk (hb); have HI565 := Aside0.mk (hi); have NB565_562 := Aside0.mk (IsS95.ne_blk hi (blk_below (g := gb562) (o := .cells #[.slice none 0 0] 30 (0, 0)) (y0 BK562.out) hb2) (by decide)); have NB562_565 := Aside0.mk (Ne.symm (IsS95.ne_blk hi (blk_below (g := gb562) (o := .cells #[.slice none 0 0] 30 (0, 0)) (y0 BK562.out) hb2) (by decide))); replace BK562 := Aside0.mk (blk_below (g := gb562) (o := .cells #[.slice none 0 0] 30 (0, 0)) (y0 BK562.out) hb2); (try clear hb); (try clear hb2); (try clear hk); (try clear hi)) | ((with_reducible refine gate_callee (f := 51) rfl ?_); refine goesL_ (some 9) rfl rfl Try.func51 (by kernel_rfl) rfl #[.pointer (some ⟨g565, 0, none⟩)] rfl y4 ?_; (with_reducible refine (spec_l71Deep.calls k g565 t563 t564 t566 t569 w _ ?side1 ?side2 A3.out).mono ?_); (case side1 => exact y24 HI565.out NB565_562.out); (case side2 => exact y23 HB.out HI565.out GE562.out); rintro e w7 ⟨v567, rfl, ho0, hi, hb, hk⟩; refine ⟨_, rfl, ?_⟩; have HO568 := Aside0.mk (Kd.N_lower (Kd.N_mono (ok' := fun k_ => (w.heap.size ≤ k_) ∧ k_ ≠ gb562 ∧ k_ ≠ g565) ho0 (fun k_ hk_ => ⟨(Nat.le_trans (below_size (y23 HB.out HI565.out GE562.out)) hk_), (Kd.freshB (g := gb562) (o := .cells #[.slice none 0 0] 30 (0, 0)) (y0 BK562.out) k_ hk_), (IsS95.fresh (y24 HI565.out NB565_562.out) k_ hk_)⟩)) (below_size (y23 HB.out HI565.out GE562.out))); replace BK562 := Aside0.mk (KeepBut.blk hk (g' := gb562) (o := .cells #[.slice none 0 0] 30 (0, 0)) (y0 BK562.out) NB562_565.out (by simp)); replace HB := Aside0.mk (hb); replace HI565 := Aside0.mk (hi); (try clear hb); (try clear hb2); (try clear hk); (try clear hi); (try clear ho0)) | ((with_reducible refine gate_dst (N := 5) rfl ?_); refine zbx 5 #[.slice none 0 0] 30 ?_; intro gb570 hg w8 hbox hb; replace HO568 := Aside0.mk (Kd.N_below (Kd.N_elderB (y9 HO568.out) gb570 (Nat.le_of_eq hg.symm)) hb); have BK570 := Aside0.mk hbox; have GW570 := Aside0.mk ((y64 hg HB.out HI565.out GE562.out : w.heap.size ≤ gb570)); have GE570 := Aside0.mk ((y64 hg HB.out HI565.out GE562.out : w.heap.size ≤ gb570)); replace HB := Aside0.mk (below_step (y23 HB.out HI565.out GE562.out) hb); have NB562_570 := zltn hg BK562; have NB570_562 := zgtn hg BK562; replace BK562 := zbb BK562 hb; have NB565_570 := Aside0.mk ((by rw [hg]; exact Nat.ne_of_lt (IsS95.lt (show IsS95 w _ g565 t563 t569 from by repeat (first | (with_reducible first | exact HI565.out | apply IsS95.alloc | apply IsS95.drewN | apply IsS95.drew | apply IsS95.set_1 | refine IsS95.far ?_ NB565_562.out _) | exact HI565.out))) : g565 ≠ gb570)); have NB570_565 := Aside0.mk ((by rw [hg]; exact Nat.ne_of_gt (IsS95.lt (show IsS95 w _ g565 t563 t569 from by repeat (first | (with_reducible first | exact HI565.out | apply IsS95.alloc | apply IsS95.drewN | apply IsS95.drew | apply IsS95.set_1 | refine IsS95.far ?_ NB565_562.out _) | exact HI565.out))) : gb570 ≠ g565)); replace HI565 := Aside0.mk (IsS95.below (y24 HI565.out NB565_562.out) hb); clear hb hbox hg; obtain ⟨Ao9, co9, eo9⟩ := Kd.N_slice HO568.out; subst eo9; have hnb10 := NB570_562.out; have hnc10 := NB562_570.out; have hnb11 := NB570_565.out; have hnc11 := NB565_570.out; have hcz12_0 := zh BK570; have hfz12_0 := zfr BK570 0))
 have n0_ : Aside0 (Kd.N k30 30 (w8.setCell ⟨gb570, 0, none⟩ (.slice Ao9 t566.length co9)) w.heap.size (fun k_ => (w.heap.size ≤ k_) ∧ k_ ≠ gb562 ∧ k_ ≠ g565 ∧ k_ ≠ gb570) (.slice Ao9 t566.length co9) t566) := ⟨(by (with_reducible repeat (first | apply Kd.N_alloc | apply Kd.N_drewN | apply Kd.N_drew)); exact Kd.N_mono (Kd.N_far (p := ⟨gb570, 0, none⟩) (Kd.N_mono HO568.out (fun k_ hk => (⟨hk, hk.2⟩ : _ ∧ k_ ≠ gb570))) (fun _ hk => hk.2) (.slice Ao9 t566.length co9)) (fun _ hk => ⟨hk.1.1.1, ⟨hk.1.1.2.1, ⟨hk.1.1.2.2, hk.1.2⟩⟩⟩))⟩
 have n1_ : Aside0 ((w8.setCell ⟨gb570, 0, none⟩ (.slice Ao9 t566.length co9)).heap[gb562]? = some (.cells #[.slice none 0 0] 30 (0, 0))) := ⟨(y21 NB562_570.out BK562.out)⟩
 have n2_ : Aside0 ((w8.setCell ⟨gb570, 0, none⟩ (.slice Ao9 t566.length co9)).heap[gb570]? = some (.cells #[.slice Ao9 t566.length co9] 30 (0, 0))) := ⟨(by (with_reducible repeat (first | refine blk_drewN ?_ _ | refine blk_drew ?_ | refine blk_alloc ?_ _)); refine blk_put (cs := #[.slice none 0 0]) ?_ 0 _ rfl; (with_reducible repeat (first | refine blk_drewN ?_ _ | refine blk_drew ?_ | refine blk_alloc ?_ _)); exact BK570.out)⟩
 have n3_ : Aside0 (IsS95 w (w8.setCell ⟨gb570, 0, none⟩ (.slice Ao9 t566.length co9)) g565 t563 t569) := ⟨(y15 HI565.out NB565_562.out NB565_570.out)⟩
 have n4_ : Aside0 (Below w.heap.size w (w8.setCell ⟨gb570, 0, none⟩ (.slice Ao9 t566.length co9))) := ⟨(y12 HB.out HI565.out GE562.out GE570.out)⟩
 (try clear HO568)
 (try clear BK562)
 (try clear BK570)
 (try clear HI565)
 (try clear HB)
 generalize (w8.setCell ⟨gb570, 0, none⟩ (.slice Ao9 t566.length co9)) = w13 at n0_ n1_ n2_ n3_ n4_ ⊢
 have HO568 := n0_
 have BK562 := n1_
 have BK570 := n2_
 have HI565 := n3_
 have HB := n4_
 clear n0_ n1_ n2_ n3_ n4_
 replace HO568 := Aside0.mk (Kd.N_drew HO568.out)
 replace BK562 := Aside0.mk (blk_drew BK562.out)
 replace BK570 := Aside0.mk (blk_drew BK570.out)
 replace HI565 := Aside0.mk (IsS95.drew HI565.out)
 replace HB := Aside0.mk (below_drew1 HB.out)
 refine start_ (n := 6) (S := fun w' => w'.cell? ⟨gb570, 0, none⟩ = some (.slice Ao9 t566.length co9)) (ds := []) #[false, false, false, false, false, false] (by kernel_rfl) rfl rfl ((blk_cell BK570.out 0).trans rfl) (fun hHeld => ?_)
 generalize w13.drew = w14 at HO568 BK562 BK570 HI565 HB hHeld ⊢
 refine pure_ (i := 1) (N := some 11) (v := ?_) (a' := ?_) #[false, true, false, false, false, false] rfl rfl (by kernel_rfl) (fun _ _ _ h => h) (Or.inl ⟨(by rfl), ?_⟩) ?_ ?_
 rotate_left
 ·intro w'
  go_simp
  with_reducible rfl
 rotate_left
 ·simp only [Act.put, List.setIfInBounds_toArray, List.set_cons_zero, List.set_cons_succ, i64_w, i32_w]
  rfl
 refine take_ (i := 0) (N := some 10) (v := ?_) (a' := ?_) #[true, true, false, false, false, false] rfl rfl (by kernel_rfl) (fun _ _ _ h => h) (Or.inl ⟨(by rfl), ?_⟩) hHeld ?_ ?_
 rotate_left
 ·intro w' s0
  go_simp
  with_reducible rfl
 rotate_left
 ·simp only [Act.put, List.setIfInBounds_toArray, List.set_cons_zero, List.set_cons_succ, i64_w, i32_w]
  rfl
 refine take_ (i := 2) (N := some 12) (v := ?_) (a' := ?_) #[true, true, true, false, false, false] rfl rfl (by kernel_rfl) (fun _ _ _ h => h) (Or.inl ⟨(by rfl), ?_⟩) hHeld ?_ ?_
 rotate_left
 ·intro w' s0
  go_simp
  with_reducible rfl
 rotate_left
 ·simp only [Act.put, List.setIfInBounds_toArray, List.set_cons_zero, List.set_cons_succ, i64_w, i32_w]
  rfl
 refine one_ (i := 3) (N := some 13) #[true, true, true, true, false, false] rfl rfl (by kernel_rfl) (by decide) (fun K hK => ?_)
 refine goes_ Try.func64 (by kernel_rfl) rfl #[.pointer (some ⟨g565, 0, none⟩), .agg #[.slice Ao9 t566.length co9]] (by rfl) rfl rfl y4 ?_
 with_reducible refine (spec_l71Any.calls k g565 t563 t569 (fun k_ => ((w.heap.size ≤ k_) ∧ (k_ ≠ gb562 ∧ (k_ ≠ g565 ∧ k_ ≠ gb570)))) _ _ t566 t571 t574 w _ ?side1 ?side2 ?side3 A4.out).mono ?_
 (case side1 => exact y15 HI565.out NB565_562.out NB565_570.out)
 (case side2 => exact y12 HB.out HI565.out GE562.out GE570.out)
 (case side3 => exact Kd.V_mono (Kd.N_V (HO568.out)) (fun k_ hk_ => ⟨hk_, hk_.2.2.1⟩))
 rintro e w15 ⟨v572, rfl, ho0, hi, hb, hk⟩
 refine ⟨_, rfl, ?_⟩
 replace BK562 := Aside0.mk (KeepBut.blk hk (g' := gb562) (o := .cells #[.slice none 0 0] 30 (0, 0)) (y0 BK562.out) NB562_565.out (by simp))
 replace HO568 := Aside0.mk (Kd.N_mono (Kd.N_told (Kd.N_oldK (Kd.N_mono (ok := fun k_ => (((w.heap.size ≤ k_)) ∧ (k_ ≠ gb562 ∧ (k_ ≠ g565 ∧ k_ ≠ gb570)))) (y9 HO568.out) (fun k_ hk_ => (⟨hk_, hk_.2.2.1⟩ : _ ∧ k_ ≠ g565))) hk) (Kd.R_base ho0)) (fun _ h_ => h_.1))
 replace BK570 := Aside0.mk (KeepBut.blk hk (g' := gb570) (o := .cells #[.slice Ao9 t566.length co9] 30 (0, 0)) (y0 BK570.out) NB570_565.out (by simp))
 have HO573 := Aside0.mk (Kd.R_lower (Kd.R_newM (M := fun k_ => (w.heap.size ≤ k_)) ho0 (below_size (y12 HB.out HI565.out GE562.out GE570.out)) (fun k_ h_ => h_)) (below_size (y12 HB.out HI565.out GE562.out GE570.out)))
 replace HB := Aside0.mk (hb)
 replace HI565 := Aside0.mk (hi)
 (try clear hb)
 (try clear hb2)
 (try clear hk)
 (try clear hi)
 (try clear ho0)
 refine hK.out _ _ ((blk_cell BK570.out 0).trans rfl) (fun hHeld => ?_)
 clear hK K
 refine norm_ (a' := ?_) ?_ ?_
 rotate_left
 ·show Act.put _ (some 13) _ = _
  simp only [Act.put, List.setIfInBounds_toArray, List.set_cons_zero, List.set_cons_succ, i64_w, i32_w]
  rfl
 refine one_ (i := 4) (N := none) #[true, true, true, true, true, false] rfl rfl (by kernel_rfl) (by decide) (fun K hK => ?_)
 have hs16 : w15.cell? ⟨gb562, 0, none⟩ = some (.slice none 0 0) := (blk_cell BK562.out 0).trans rfl
 have hfs16 := zfr BK562 0
 have hns16_1 := NB570_562.out
 have hms16_1 := NB562_570.out
 refine skip_ (w1 := ?_) (by rfl) rfl ?_ ?_
 rotate_left
 ·go_simp
  rfl
 refine hK.out _ _ (((cell_far (p := ⟨gb562, _, none⟩) NB570_562.out _).trans (hHeld))) (fun hHeld => ?_)
 clear hK K
 refine pure_ (i := 5) (N := some 3) (v := ?_) (a' := ?_) #[true, true, true, true, true, true] rfl rfl (by kernel_rfl) (fun _ _ _ h => h) (Or.inl ⟨(by rfl), ?_⟩) ?_ ?_
 rotate_left
 ·intro w'
  go_simp
  with_reducible rfl
 rotate_left
 ·simp only [Act.put, List.setIfInBounds_toArray, List.set_cons_zero, List.set_cons_succ, i64_w, i32_w]
  rfl
 refine done_ (by kernel_rfl) ?_
 try go_wp2
 refine bodyPost_ret (results_ct rfl _ _ gb562 30 #[.slice Ao9 t566.length co9] (0, 0) _ rfl (by (with_reducible repeat (first | refine blk_drewN ?_ _ | refine blk_drew ?_ | refine blk_alloc ?_ _)); apply blk_put (i := 0); (case h => exact y0 BK562.out); (case e => rfl)) Try.underlying30 rfl (by kernel_rfl)) rfl ?_
 exact ⟨_, _, y14, (by (with_reducible repeat (first | apply Kd.N_alloc | apply Kd.N_drewN | apply Kd.N_drew)); exact Kd.N_mono (Kd.N_far (p := ⟨gb562, 0, none⟩) (Kd.N_mono HO568.out (fun k_ hk => (⟨hk, hk.1.2.1⟩ : _ ∧ k_ ≠ gb562))) (fun _ hk => hk.2) (.slice Ao9 t566.length co9)) (fun _ hk => ⟨hk.1.1.1, hk.1.2⟩)), (by (with_reducible repeat (first | apply Kd.R_alloc | apply Kd.R_drewN | apply Kd.R_drew)); exact Kd.R_mono (Kd.R_far (p := ⟨gb562, 0, none⟩) (Kd.R_types HO573.out BK562.out (by decide)) (fun _ hk => hk.2) (.slice Ao9 t566.length co9)) (fun _ hk => hk.1.1)), (y12 HB.out HI565.out GE562.out GE570.out)⟩
end Go.Proofs.Ytjhbhihfifhljaa.PA
end
section
namespace Go.Proofs.Ytjhbhihfifhljaa.PA
open Go.RowKit Go.Proofs.YtjhbhihfifhljaaW.PrintWords Go.Proofs.YtjhbhihfifhljaaW.PrintLast Go.Proofs.YtjhbhihfifhljaaW.PrintMore
attribute [local go_sem] max2_int min2_int max_two min_two max_three min_three max_four min_four
set_option linter.unusedVariables false
set_option linter.unusedSimpArgs false
mutual
def spec_l1Copy.l0 : Nat → Int → List (S30) → List (S30) → Option ((List (S30)))
 | 0, _, _, _ => none
 | k + 1, x4, x576000, x578000 => if x4 < (x576000.length : Int) then (if 0 ≤ x4 then ((spec_l1Copy.f k ((rd_T30 x576000 x4).f0)).bind fun t579 => (if x578000.length < 5864062014805 then (spec_l1Copy.l0 k (wrap64 (x4 + 1)) x576000 (x578000 ++ [(⟨t579⟩ : S30)])) else (none))) else (none)) else (some x578000)
def spec_l1Copy.f : Nat → List (S30) → Option ((List (S30)))
 | 0, _ => none
 | k + 1, l0_0 => spec_l1Copy.l0 k 0 l0_0 ([] : List (S30))
end
theorem spec_l1Copy.mono_l : ∀ k, (∀ y0, LeO (spec_l1Copy.f k y0) (spec_l1Copy.f (k + 1) y0)) ∧ (∀ y0 y1 y2, LeO (spec_l1Copy.l0 k y0 y1 y2) (spec_l1Copy.l0 (k + 1) y0 y1 y2))
 | 0 => ⟨fun _ r h => by simp [spec_l1Copy.f] at h, fun _ _ _ r h => by simp [spec_l1Copy.l0] at h⟩
 | k + 1 => by
  obtain ⟨ih0, ih1⟩ := spec_l1Copy.mono_l k
  refine ⟨?_, ?_⟩
  ·intro y0
   unfold spec_l1Copy.f
   repeat' first
   | (with_reducible exact ih0 _)
   | (with_reducible exact ih1 _ _ _)
   | (with_reducible exact LeO.refl _)
   | (with_reducible exact LeO.none _)
   | (with_reducible refine LeO.ite ?_ ?_)
   | (with_reducible refine LeO.bind ?_ (fun _ => ?_))
   | exact ih0 _
   | exact ih1 _ _ _
   | exact LeO.none _
   | refine LeO.ite ?_ ?_
   | refine LeO.bind ?_ (fun _ => ?_)
  ·intro y0 y1 y2
   unfold spec_l1Copy.l0
   repeat' first
   | (with_reducible exact ih0 _)
   | (with_reducible exact ih1 _ _ _)
   | (with_reducible exact LeO.refl _)
   | (with_reducible exact LeO.none _)
   | (with_reducible refine LeO.ite ?_ ?_)
   | (with_reducible refine LeO.bind ?_ (fun _ => ?_))
   | exact ih0 _
   | exact ih1 _ _ _
   | exact LeO.none _
   | refine LeO.ite ?_ ?_
   | refine LeO.bind ?_ (fun _ => ?_)
theorem spec_l1Copy.mono : ∀ a0 k, LeO (spec_l1Copy.f k a0) (spec_l1Copy.f (k + 1) a0) := by
 intro a0 k
 obtain ⟨ih0, ih1⟩ := spec_l1Copy.mono_l k
 exact ih0 a0
def spec_l1Copy.T5 : Bool × List (List Nat × List Nat) := (true, [([], []), ([0], [0]), ([], []), ([2], [2]), ([], []), ([3, 4], [3, 4]), ([5], [5]), ([6], [6]), ([7], [7]), ([1, 8, 7], [1, 8]), ([0, 1, 2, 3, 4, 5, 6, 7, 8, 9], []), ([10, 9, 9, 0, 1, 2, 3, 4, 5, 6, 7, 8, 9], [9, 10])])
def spec_l1Copy.B5 : List Nat := [0, 1, 0, 4, 0, 28, 60, 124, 252, 511, 1023, 2047]
theorem spec_l1Copy.tab5 : rtab .any (opsOf Try.f66 5) = spec_l1Copy.T5 := by kernel_rfl
theorem spec_l1Copy.bits5 : waitsOk spec_l1Copy.T5.2 spec_l1Copy.B5 = true := by kernel_rfl
set_option maxHeartbeats 8000000 in
set_option maxRecDepth 100000 in
theorem spec_l1Copy.calls (k : Nat) : ∀ (A0_0 : Option Addr) (c0_0 : Nat) (l0_0 : List (S30)) (r : List (S30)) (w : World) (hr0_0 : Kd.C k30 w A0_0 l0_0.length l0_0) (hc0_0 : l0_0.length ≤ c0_0) (h : spec_l1Copy.f k l0_0 = some r),
  Calls Try.prog 66 #[.agg #[.slice A0_0 l0_0.length c0_0]] w fun e w' => ∃ v0_ : Value, e = .returned (.agg #[v0_]) ∧ Kd.R k30 30 w' w.heap.size (fun _ => True) v0_ r ∧ Below w.heap.size w w' := by
 induction k using Nat.strongRecOn with
 | _ k ih =>
 intro A0_0 c0_0 l0_0 r w hr0_0 hc0_0 h
 cases k with
 | zero => exact absurd h (by simp [spec_l1Copy.f])
 | succ k =>
 simp only [spec_l1Copy.f] at h
 have hu30 := Try.underlying30
 have HR0_0 := Aside0.mk hr0_0
 have HC0_0 := Aside0.mk hc0_0
 clear hr0_0 hc0_0
 have HB := Aside0.mk (Below.refl w.heap.size w)
 have H : (spec_l1Copy.l0 k 0 l0_0 ([] : List (S30))) = some r := h
 clear h
 have H' := Aside0.mk H
 clear H
 go_enter Try.func66, Try.ntmps66
 go_wp2_with (first | ((with_reducible refine gate_dst (N := 1) rfl ?_); refine zbx 1 #[.slice A0_0 l0_0.length c0_0] 30 ?_; intro gb575 hg w2 hbox hb; have BK575 := Aside0.mk hbox; have GW575 := Aside0.mk ((y5 hg HB.out : w.heap.size ≤ gb575)); have GE575 := Aside0.mk ((y5 hg HB.out : w.heap.size ≤ gb575)); replace HB := Aside0.mk (below_step (y2 HB.out) hb); clear hb hbox hg) | ((with_reducible refine gate_dst (N := 2) rfl ?_); refine zbx 2 #[.slice none 0 0] 30 ?_; intro gb576 hg w3 hbox hb; have BK576 := Aside0.mk hbox; have GW576 := Aside0.mk ((y6 hg HB.out GE575.out : w.heap.size ≤ gb576)); have GE576 := Aside0.mk ((y6 hg HB.out GE575.out : w.heap.size ≤ gb576)); replace HB := Aside0.mk (below_step (y3 HB.out GE575.out) hb); have NB575_576 := zltn hg BK575; have NB576_575 := zgtn hg BK575; replace BK575 := zbb BK575 hb; clear hb hbox hg) | ((with_reducible refine gate_dst (N := 3) rfl ?_); refine zbx 3 #[.slice none 0 0] 30 ?_; intro gb577 hg w4 hbox hb; have BK577 := Aside0.mk hbox; have GW577 := Aside0.mk ((y20 hg HB.out GE575.out GE576.out : w.heap.size ≤ gb577)); have GE577 := Aside0.mk ((y20 hg HB.out GE575.out GE576.out : w.heap.size ≤ gb577)); replace HB := Aside0.mk (below_step (y1 HB.out GE575.out GE576.out) hb); have NB575_577 := zltn hg BK575; have NB577_575 := zgtn hg BK575; replace BK575 := zbb BK575 hb; have NB576_577 := zltn hg BK576; have NB577_576 := zgtn hg BK576; replace BK576 := zbb BK576 hb; clear hb hbox hg; have hnb5 := NB577_575.out; have hnc5 := NB575_577.out; have hnb6 := NB577_576.out; have hnc6 := NB576_577.out; have hcz7_0 := zh BK577; have hfz7_0 := zfr BK577 0))
 go_loopg [4] k (fun kq v4 w' => ∃ (x4_1 : Int) (x578000_1 : List (S30)) (u578000 : Value), v4 = .int .i64 x4_1 ∧ Aside0 (spec_l1Copy.l0 kq x4_1 l0_0 x578000_1 = some r) ∧ Aside0 (kq ≤ k) ∧ Aside0 (Kd.R k30 30 w' w.heap.size (fun k_ => k_ ≠ gb575 ∧ k_ ≠ gb576 ∧ k_ ≠ gb577) u578000 x578000_1) ∧ Aside0 (w'.heap[gb575]? = some (.cells #[(.slice A0_0 l0_0.length c0_0)] 30 (0, 0))) ∧ Aside0 (w'.heap[gb576]? = some (.cells #[(.slice none 0 0)] 30 (0, 0))) ∧ Aside0 (w'.heap[gb577]? = some (.cells #[u578000] 30 (0, 0))) ∧ Aside0 (Below w.heap.size w w'))
 case atStart => exact ⟨(0), (([] : List (S30))), (.slice none 0 0), y26, H', ⟨Nat.le_refl _⟩, ⟨y36⟩, ⟨(y21 NB575_577.out BK575.out)⟩, ⟨(y21 NB576_577.out BK576.out)⟩, ⟨(by (with_reducible repeat (first | refine blk_drewN ?_ _ | refine blk_drew ?_ | refine blk_alloc ?_ _)); refine blk_put (cs := #[.slice none 0 0]) ?_ 0 _ rfl; (with_reducible repeat (first | refine blk_drewN ?_ _ | refine blk_drew ?_ | refine blk_alloc ?_ _)); exact BK577.out)⟩, ⟨(y7 HB.out GE575.out GE576.out GE577.out)⟩⟩
 case round =>
  clear H'
  try clear p2
  try clear c5
  try clear c6
  try clear hcz7_0
  try clear hfz7_0
  obtain ⟨x4_1, x578000_1, u578000, rfl, HA, HK1, HO_578000, BK575, BK576, BK577, HB⟩ := hrel
  cases gk with
  | zero => exact absurd HA.out (by simp [spec_l1Copy.l0])
  | succ k1 =>
   have H := HA.out
   clear HA
   simp only [spec_l1Copy.l0] at H
   by_cases c8 : x4_1 < (l0_0.length : Int)
   ·rw [if_pos c8] at H
    have c8b0 : decide (x4_1 < (l0_0.length : Int)) = true := decide_eq_true c8
    clear c8
    by_cases c9 : 0 ≤ x4_1
    ·rw [if_pos c9] at H
     have c9b0 : decide (0 ≤ x4_1) = true := decide_eq_true c9
     clear c9
     obtain ⟨t579, A100, H⟩ := ob H
     have A10 := Aside0.mk A100
     clear A100
     by_cases c11 : x578000_1.length < 5864062014805
     ·rw [if_pos c11] at H
      have LMc11 := Aside0.mk c11
      clear c11
      obtain ⟨y582, hy582⟩ : ∃ y_ : List (S30), y_ = (x578000_1 ++ [(⟨t579⟩ : S30)]) := ⟨_, rfl⟩
      replace H : (spec_l1Copy.l0 k1 (wrap64 (x4_1 + 1)) l0_0 y582) = some r := by first | (rw [hy582]; with_reducible exact H) | (have H2_ := (Option.bind_some _ _).symm.trans H; rw [hy582]; with_reducible exact H2_) | (have H2_ := (Option.bind_some _ _).symm.trans H; with_reducible exact H2_) | with_reducible exact H | (rw [hy582]; exact H) | exact H
      have Ny582 := Aside0.mk hy582
      clear hy582
      have H' := Aside0.mk H
      clear H
      have hnb12 := NB575_576.out
      have hnc12 := NB576_575.out
      have hnb13 := NB575_577.out
      have hnc13 := NB577_575.out
      have hcz14_0 := zh BK575
      have hfz14_0 := zfr BK575 0
      try go_wp2
      replace HO_578000 := Aside0.mk (Kd.R_drew HO_578000.out)
      replace BK575 := Aside0.mk (blk_drew BK575.out)
      replace BK576 := Aside0.mk (blk_drew BK576.out)
      replace BK577 := Aside0.mk (blk_drew BK577.out)
      replace HB := Aside0.mk (below_drew1 HB.out)
      have p578 : 0 ≤ (x4_1 : Int) := of_decide_eq_true y19
      have q578 : x4_1 < (l0_0.length : Int) := of_decide_eq_true y19
      obtain ⟨ad578, A578_0, c578_0, e578, hx578_0, hl578_0, hi578_0⟩ := at_T30 HR0_0.out x4_1 p578 q578
      have hw578_0 := hx578_0
      cases e578
      replace hx578_0 := (HB.out.cell (World.block_lt_of_cell? w _ hx578_0)).trans hx578_0
      have HR578_0 := Aside0.mk hi578_0
      have HC578_0 := Aside0.mk hl578_0
      clear hi578_0 hl578_0
      replace p578 := eq_true p578
      replace q578 := eq_true q578
      refine start_ (n := 12) (S := fun w' => w'.cell? ⟨gb577, 0, none⟩ = some (u578000) ∧ w'.cell? ⟨gb575, 0, none⟩ = some (.slice (some ad578) l0_0.length c0_0) ∧ w'.cell? (ad578.add (x4_1).toNat) = some (.slice A578_0 ((rd_T30 l0_0 x4_1).f0).length c578_0)) (ds := [11]) #[false, false, false, false, false, false, false, false, false, false, false, false] (by kernel_rfl) rfl rfl ⟨(blk_cell BK577.out 0).trans rfl, (blk_cell BK575.out 0).trans rfl, ((HB.out.cell (World.block_lt_of_cell? w _ hw578_0)).trans hw578_0)⟩ (fun hHeld => ?_); refine with_tabW spec_l1Copy.tab5 spec_l1Copy.bits5 (fun HT_ HW_ => ?_)
      generalize wr.drew = w15 at HO_578000 BK575 BK576 BK577 HB HR578_0 hx578_0 hHeld ⊢
      refine zp 0 (some 13) HT_ ?_
      refine zp 2 (some 15) HT_ ?_
      refine zp 4 (some 17) HT_ ?_
      refine zt3 1 (some 14) HT_ HW_ hHeld ?_
      refine zt3 3 (some 16) HT_ HW_ hHeld ?_
      refine zp 5 (some 18) HT_ ?_
      refine zt3 6 (some 19) HT_ HW_ hHeld ?_
      refine one_ (i := 7) (N := some 20) #[true, true, true, true, true, true, true, true, false, false, false, false] rfl rfl (one_of HT_.out (by kernel_rfl)) (by decide) (fun K hK => ?_)
      refine goes_ Try.func66 (by kernel_rfl) rfl #[.agg #[.slice A578_0 ((rd_T30 l0_0 x4_1).f0).length c578_0]] (by rfl) rfl rfl y4 ?_
      with_reducible refine (ih k1 (y46 HK1.out) _ _ ((rd_T30 l0_0 x4_1).f0) t579 _ ?side1 ?side2 A10.out).mono ?_
      (case side1 => exact y8 HR578_0.out HB.out)
      (case side2 => exact HC578_0.out)
      rintro e w16 ⟨v580, rfl, ho0, hb⟩
      refine ⟨_, rfl, ?_⟩
      have HO581 := Aside0.mk (Kd.R_lower (Kd.R_newB (Kd.R_newB (Kd.R_newB (Kd.R_new' ho0 (Kd.R_lt (y10 HO_578000.out))) (g := gb575) (o := .cells #[.slice (some ad578) l0_0.length c0_0] 30 (0, 0)) (y0 BK575.out)) (g := gb576) (o := .cells #[.slice none 0 0] 30 (0, 0)) (y0 BK576.out)) (g := gb577) (o := .cells #[u578000] 30 (0, 0)) (y0 BK577.out)) (below_size (y7 HB.out GE575.out GE576.out GE577.out)))
      replace HO_578000 := Aside0.mk (Kd.R_elder' (y10 HO_578000.out) (Kd.R_base ho0) hb)
      replace BK575 := zbb BK575 hb
      replace BK576 := zbb BK576 hb
      replace BK577 := zbb BK577 hb
      replace HB := Aside0.mk (below_step (y7 HB.out GE575.out GE576.out GE577.out) hb)
      (try clear hb)
      (try clear hb2)
      (try clear hk)
      (try clear hi)
      (try clear ho0)
      obtain ⟨Ao18, co18, eo18⟩ := Kd.R_slice HO581.out
      (first | subst eo18 | (injection eo18 with f1_ f2_ f3_; have f4_ := f1_.symm; have f5_ := f3_.symm; clear f1_ f2_ f3_; subst f4_; subst f5_))
      refine hK.out _ _ ⟨(blk_cell BK577.out 0).trans rfl, (blk_cell BK575.out 0).trans rfl, ((HB.out.cell (World.block_lt_of_cell? w _ hw578_0)).trans hw578_0)⟩ (fun hHeld => ?_)
      clear hK K
      refine norm_ (a' := ?_) ?_ ?_
      rotate_left
      ·show Act.put _ (some 20) _ = _
       simp only [Act.put, List.setIfInBounds_toArray, List.set_cons_zero, List.set_cons_succ, i64_w, i32_w]
       rfl
      refine one_ (i := 8) (N := some 21) #[true, true, true, true, true, true, true, true, true, false, false, false] rfl rfl (one_of HT_.out (by kernel_rfl)) (by decide) (fun K hK => ?_)
      refine value_ (w1 := ?_) (v := ?_) (by rfl) rfl ?_ ?_
      rotate_left 2
      ·go_simp
       constructor
       ·rfl
       ·rfl
      refine hK.out _ _ ⟨(blk_cell (blk_alloc BK577.out _) 0).trans rfl, (blk_cell (blk_alloc BK575.out _) 0).trans rfl, (World.cell?_alloc_lt _ _ _ (World.block_lt_of_cell? _ _ (((HB.out.cell (World.block_lt_of_cell? w _ hw578_0)).trans hw578_0)))).trans (((HB.out.cell (World.block_lt_of_cell? w _ hw578_0)).trans hw578_0))⟩ (fun hHeld => ?_)
      clear hK K
      refine norm_ (a' := ?_) ?_ ?_
      rotate_left
      ·show Act.put _ (some 21) _ = _
       simp only [Act.put, List.setIfInBounds_toArray, List.set_cons_zero, List.set_cons_succ, i64_w, i32_w]
       rfl
      refine one_ (i := 9) (N := some 22) #[true, true, true, true, true, true, true, true, true, true, false, false] rfl rfl (one_of HT_.out (by kernel_rfl)) (by decide) (fun K hK => ?_)
      refine Kd.R_append_step k30 (w0 := w) w.heap.size (by rfl) (.tmp 14) (.tmp 21) 28 30 (.agg #[(.slice none 0 0)]) 24 rfl Try.underlying28 info30 rfl (by decide) (by omega) u578000 x578000_1 (⟨t579⟩ : S30) [.slice Ao18 t579.length co18] (fun k_ => k_ ≠ gb575 ∧ k_ ≠ gb576 ∧ k_ ≠ gb577) (fun k_ => ((fun k_ => k_ ≠ gb575 ∧ k_ ≠ gb576 ∧ k_ ≠ gb577)) k_ ∧ some k_ ≠ (u578000 : Value).ownBlock) rfl rfl ?aP (fun _ hk => hk) ?aF ?aO ?aB ?aS ?aL ?_
      (case aP => exact k30_mkM _ _ _ (⟨t579⟩ : S30) (Kd.R_mono (HO581.out) (fun k_ hk => ⟨⟨hk.1.1.2, ⟨hk.1.2, hk.2⟩⟩, hk.1.1.1.2⟩)))
      (case aB => exact (y7 HB.out GE575.out GE576.out GE577.out))
      (case aF => exact (fun k_ hk => ⟨Kd.freshB (g := gb575) (o := .cells #[.slice (some ad578) l0_0.length c0_0] 30 (0, 0)) (y0 BK575.out) k_ hk, Kd.freshB (g := gb576) (o := .cells #[.slice none 0 0] 30 (0, 0)) (y0 BK576.out) k_ hk, Kd.freshB (g := gb577) (o := .cells #[u578000] 30 (0, 0)) (y0 BK577.out) k_ hk⟩))
      (case aO => exact (by (with_reducible repeat (first | apply Kd.R_alloc | apply Kd.R_drewN | apply Kd.R_drew)); exact Kd.R_mono HO_578000.out (fun _ hk => ⟨hk.1.1, ⟨hk.1.2.1, hk.1.2.2⟩⟩)))
      (case aS => exact (below_size (y7 HB.out GE575.out GE576.out GE577.out)))
      (case aL => exact y46 LMc11.out)
      intro v583 w17 ho hb hg hat
      rw [← Ny582.out] at ho
      replace BK575 := Aside0.mk (blk_grown (g := gb575) (o := .cells #[.slice (some ad578) l0_0.length c0_0] 30 (0, 0)) (y0 BK575.out) hg (Kd.R_away HO_578000.out (fun _ hk => hk.1.1)))
      replace BK576 := Aside0.mk (blk_grown (g := gb576) (o := .cells #[.slice none 0 0] 30 (0, 0)) (y0 BK576.out) hg (Kd.R_away HO_578000.out (fun _ hk => hk.1.2.1)))
      replace BK577 := Aside0.mk (blk_grown (g := gb577) (o := .cells #[u578000] 30 (0, 0)) (y0 BK577.out) hg (Kd.R_away HO_578000.out (fun _ hk => hk.1.2.2)))
      replace HB := Aside0.mk (hb)
      have HO584 := Aside0.mk (ho)
      clear HO581 HO_578000
      clear ho hb hg hat
      obtain ⟨Ao19, co19, eo19⟩ := Kd.R_slice HO584.out
      (first | subst eo19 | (injection eo19 with f1_ f2_ f3_; have f4_ := f1_.symm; have f5_ := f3_.symm; clear f1_ f2_ f3_; subst f4_; subst f5_))
      refine hK.out _ _ ⟨(blk_cell BK577.out 0).trans rfl, (blk_cell BK575.out 0).trans rfl, ((HB.out.cell (World.block_lt_of_cell? w _ hw578_0)).trans hw578_0)⟩ (fun hHeld => ?_)
      clear hK K
      refine norm_ (a' := ?_) ?_ ?_
      rotate_left
      ·show Act.put _ (some 22) _ = _
       simp only [Act.put, List.setIfInBounds_toArray, List.set_cons_zero, List.set_cons_succ, i64_w, i32_w]
       rfl
      refine zp 10 (some 23) HT_ ?_
      refine last_ (i := 11) (N := none) #[true, true, true, true, true, true, true, true, true, true, true, true] rfl rfl (one_of HT_.out (by kernel_rfl)) (by decide) (fun K hK => ?_)
      have hs20 : w17.cell? ⟨gb577, 0, none⟩ = some (u578000) := (blk_cell BK577.out 0).trans rfl
      have hfs20 := zfr BK577 0
      have hns20_0 := NB575_577.out
      have hns20_1 := NB576_577.out
      have hms20_0 := NB577_575.out
      have hms20_1 := NB577_576.out
      refine skip_ (w1 := ?_) (by rfl) rfl ?_ ?_
      rotate_left
      ·go_simp
       rfl
      refine hK.out _ _ ?_
      clear hK K
      refine done_ (done_of HT_.out (by kernel_rfl)) ?_
      try go_wp2
      go_roundg k1
      case measure => have := HK1.out; omega
      case rel => exact ⟨(wrap64 (x4_1 + 1)), (y582), (.slice Ao19 y582.length co19), y26, H', ⟨(y46 HK1.out)⟩, ⟨(by (with_reducible repeat (first | apply Kd.R_alloc | apply Kd.R_drewN | apply Kd.R_drew)); exact Kd.R_mono (Kd.R_far (p := ⟨gb577, 0, none⟩) (Kd.R_mono HO584.out (fun k_ hk => (⟨hk, hk.2.2⟩ : _ ∧ k_ ≠ gb577))) (fun _ hk => hk.2) (.slice Ao19 y582.length co19)) (fun _ hk => ⟨hk.1.1, ⟨hk.1.2.1, hk.1.2.2⟩⟩))⟩, ⟨(y21 NB575_577.out BK575.out)⟩, ⟨(y21 NB576_577.out BK576.out)⟩, ⟨(by (with_reducible repeat (first | refine blk_drewN ?_ _ | refine blk_drew ?_ | refine blk_alloc ?_ _)); refine blk_put (cs := #[u578000]) ?_ 0 _ rfl; (with_reducible repeat (first | refine blk_drewN ?_ _ | refine blk_drew ?_ | refine blk_alloc ?_ _)); exact BK577.out)⟩, ⟨(y7 HB.out GE575.out GE576.out GE577.out)⟩⟩
     ·rw [if_neg c11] at H
      exact absurd H (by simp)
    ·rw [if_neg c9] at H
     exact absurd H (by simp)
   ·rw [if_neg c8] at H
    have c8b0 : decide (x4_1 < (l0_0.length : Int)) = false := decide_eq_false c8
    clear c8
    obtain rfl := Option.some.inj H
    have hnb21 := NB575_576.out
    have hnc21 := NB576_575.out
    have hnb22 := NB575_577.out
    have hnc22 := NB577_575.out
    have hcz23_0 := zh BK575
    have hfz23_0 := zfr BK575 0
    have hnb24 := NB577_576.out
    have hnc24 := NB576_577.out
    have hcz25_0 := zh BK577
    have hfz25_0 := zfr BK577 0
    obtain ⟨Ao26, co26, eo26⟩ := Kd.R_slice HO_578000.out
    subst eo26
    have hcz27_0 := zh BK576
    have hfz27_0 := zfr BK576 0
    go_wp2
    refine bodyPost_ret (results_cell_row rfl _ _ gb576 30 #[.slice Ao26 x578000_1.length co26] (0, 0) _ rfl (by (with_reducible repeat (first | refine blk_drewN ?_ _ | refine blk_drew ?_ | refine blk_alloc ?_ _)); apply blk_put (i := 0); (case h => exact y0 BK576.out); (case e => rfl)) Try.underlying30 rfl (by kernel_rfl)) rfl ?_
    exact ⟨_, y14, (by (with_reducible repeat (first | apply Kd.R_alloc | apply Kd.R_drewN | apply Kd.R_drew)); exact Kd.R_mono (Kd.R_far (p := ⟨gb576, 0, none⟩) (Kd.R_mono HO_578000.out (fun k_ hk => (⟨hk, hk.2.1⟩ : _ ∧ k_ ≠ gb576))) (fun _ hk => hk.2) (.slice Ao26 x578000_1.length co26)) (fun _ hk => trivial)), (y7 HB.out GE575.out GE576.out GE577.out)⟩
end Go.Proofs.Ytjhbhihfifhljaa.PA
end
section
namespace Go.Proofs.Ytjhbhihfifhljaa.PA
open Go.RowKit Go.Proofs.YtjhbhihfifhljaaW.PrintWords Go.Proofs.YtjhbhihfifhljaaW.PrintLast Go.Proofs.YtjhbhihfifhljaaW.PrintMore
attribute [local go_sem] max2_int min2_int max_two min_two max_three min_three max_four min_four
set_option linter.unusedVariables false
set_option linter.unusedSimpArgs false
def spec_TypeAt.l0 : Nat → List Int → Int → List (S30) → Option ((List (S30)) × Bool)
 | 0, _, _, _ => none
 | k + 1, x1, x6, x586000 => if x6 < (x1.length : Int) then (if 0 ≤ x6 then ((spec_l6In.f (rd x1 x6) 0 (wrap64 ((x586000.length : Int) - 1))).bind fun t589 => (if t589 = true then (if 0 ≤ (rd x1 x6) then (if (rd x1 x6) < (x586000.length : Int) then (spec_TypeAt.l0 k x1 (wrap64 (x6 + 1)) ((rd_T30 x586000 (rd x1 x6)).f0)) else (none)) else (none)) else (some (([] : List (S30)), false)))) else (none)) else ((spec_l1Copy.f k x586000).bind fun t592 => (some (t592, true)))
def spec_TypeAt.f (k : Nat) (l0_0 : List (S30)) (l1 : List Int) : Option ((List (S30)) × Bool) := (spec_TypeOk.f k l0_0).bind fun t587 => (if t587 = true then (spec_TypeAt.l0 k l1 0 l0_0) else (some (([] : List (S30)), false)))
theorem spec_TypeAt.mono_l : ∀ k, (∀ y0 y1 y2, LeO (spec_TypeAt.l0 k y0 y1 y2) (spec_TypeAt.l0 (k + 1) y0 y1 y2))
 | 0 => fun _ _ _ r h => by simp [spec_TypeAt.l0] at h
 | k + 1 => by
  have ih0 := spec_TypeAt.mono_l k
  ·intro y0 y1 y2
   unfold spec_TypeAt.l0
   repeat' first
   | (with_reducible exact ih0 _ _ _)
   | (with_reducible exact spec_TypeOk.mono _ _)
   | (with_reducible exact spec_l1Copy.mono _ _)
   | (with_reducible exact LeO.refl _)
   | (with_reducible exact LeO.none _)
   | (with_reducible refine LeO.ite ?_ ?_)
   | (with_reducible refine LeO.bind ?_ (fun _ => ?_))
   | exact ih0 _ _ _
   | exact spec_TypeOk.mono _ _
   | exact spec_l1Copy.mono _ _
   | exact LeO.none _
   | refine LeO.ite ?_ ?_
   | refine LeO.bind ?_ (fun _ => ?_)
theorem spec_TypeAt.mono : ∀ a0 a1 k, LeO (spec_TypeAt.f k a0 a1) (spec_TypeAt.f (k + 1) a0 a1) := by
 intro a0 a1 k
 have ih0 := spec_TypeAt.mono_l k
 unfold spec_TypeAt.f
 repeat' first
   | (with_reducible exact ih0 _ _ _)
   | (with_reducible exact spec_TypeOk.mono _ _)
   | (with_reducible exact spec_l1Copy.mono _ _)
   | (with_reducible exact LeO.refl _)
   | (with_reducible exact LeO.none _)
   | (with_reducible refine LeO.ite ?_ ?_)
   | (with_reducible refine LeO.bind ?_ (fun _ => ?_))
   | exact ih0 _ _ _
   | exact spec_TypeOk.mono _ _
   | exact spec_l1Copy.mono _ _
   | exact LeO.none _
   | refine LeO.ite ?_ ?_
   | refine LeO.bind ?_ (fun _ => ?_)
def spec_TypeAt.T6 : Bool × List (List Nat × List Nat) := (true, [([], []), ([], []), ([0, 1], [0, 1]), ([2], [2]), ([], []), ([4], [4]), ([5], [5]), ([6], [6]), ([3, 7], [3, 7]), ([8], [8])])
def spec_TypeAt.B6 : List Nat := [0, 0, 3, 7, 0, 16, 48, 112, 255, 511]
theorem spec_TypeAt.tab6 : rtab .any (opsOf Try.f33 6) = spec_TypeAt.T6 := by kernel_rfl
theorem spec_TypeAt.bits6 : waitsOk spec_TypeAt.T6.2 spec_TypeAt.B6 = true := by kernel_rfl
def spec_TypeAt.T8 : Bool × List (List Nat × List Nat) := (true, [([], []), ([0], [0]), ([], []), ([], []), ([2, 3], [2, 3]), ([4], [4]), ([1, 5], [1, 5]), ([6], [6]), ([7, 0, 1, 2, 3, 4, 5, 6, 7], [7])])
def spec_TypeAt.B8 : List Nat := [0, 1, 0, 0, 12, 28, 63, 127, 255]
theorem spec_TypeAt.tab8 : rtab .any (opsOf Try.f33 8) = spec_TypeAt.T8 := by kernel_rfl
theorem spec_TypeAt.bits8 : waitsOk spec_TypeAt.T8.2 spec_TypeAt.B8 = true := by kernel_rfl
set_option maxHeartbeats 8000000 in
set_option maxRecDepth 100000 in
theorem spec_TypeAt.calls (k : Nat) (P0_0_ : Nat → Prop) (A0_0 : Option Addr) (c0_0 : Nat) (l0_0 : List (S30)) (A1 : Option Addr) (c1 : Nat) (l1 : List Int) (r1 : List (S30)) (r2 : Bool) (w : World) (hs0_0 : Kd.V k30 30 w w.heap.size (fun k_ => P0_0_ k_) (.slice A0_0 l0_0.length c0_0) l0_0) (hr1 : Kd.C (Kd.int .i64) w A1 l1.length l1) (hc1 : l1.length ≤ c1) (h : spec_TypeAt.f k l0_0 l1 = some (r1, r2)) :
  Calls Try.prog 33 #[.agg #[.slice A0_0 l0_0.length c0_0], .slice A1 l1.length c1] w fun e w' => ∃ v0_ : Value, e = .returned (.tuple #[.agg #[v0_], .bool r2]) ∧ Kd.R k30 30 w' w.heap.size (fun k_ => (w.heap.size ≤ k_)) v0_ r1 ∧ Below w.heap.size w w' := by
 have hu30 := Try.underlying30
 have HO0_0 := Aside0.mk (show Kd.V k30 30 w w.heap.size (fun k_ => (P0_0_ k_ ∨ w.heap.size ≤ k_)) (.slice A0_0 l0_0.length c0_0) l0_0 from Kd.V_mono hs0_0 (fun k_ hk => .inl hk))
 have HR1 := Aside0.mk hr1
 have HC1 := Aside0.mk hc1
 clear hr1 hc1
 have HB := Aside0.mk (Below.refl w.heap.size w)
 have H : ((spec_TypeOk.f k l0_0).bind fun t587 => (if t587 = true then (spec_TypeAt.l0 k l1 0 l0_0) else (some (([] : List (S30)), false)))) = some (r1, r2) := h
 clear h
 obtain ⟨t587, A30, H⟩ := ob H
 have A3 := Aside0.mk A30
 clear A30
 by_cases c4 : t587 = true
 ·subst c4
  rw [if_pos rfl] at H
  have H' := Aside0.mk H
  clear H
  go_enter Try.func33, Try.ntmps33
  go_wp2_with (first | ((with_reducible refine gate_dst (N := 2) rfl ?_); refine zbx 2 #[.slice A0_0 l0_0.length c0_0] 30 ?_; intro gb585 hg w5 hbox hb; replace HO0_0 := Aside0.mk (Kd.V_below (Kd.V_elderB (y13 HO0_0.out) gb585 (Nat.le_of_eq hg.symm)) hb); have BK585 := Aside0.mk hbox; have GW585 := Aside0.mk ((y5 hg HB.out : w.heap.size ≤ gb585)); have GE585 := Aside0.mk ((y5 hg HB.out : w.heap.size ≤ gb585)); replace HB := Aside0.mk (below_step (y2 HB.out) hb); clear hb hbox hg) | ((with_reducible refine gate_dst (N := 4) rfl ?_); refine zbx 4 #[.slice none 0 0] 30 ?_; intro gb586 hg w6 hbox hb; replace HO0_0 := Aside0.mk (Kd.V_below (Kd.V_elderB (y13 HO0_0.out) gb586 (Nat.le_of_eq hg.symm)) hb); have BK586 := Aside0.mk hbox; have GW586 := Aside0.mk ((y6 hg HB.out GE585.out : w.heap.size ≤ gb586)); have GE586 := Aside0.mk ((y6 hg HB.out GE585.out : w.heap.size ≤ gb586)); replace HB := Aside0.mk (below_step (y3 HB.out GE585.out) hb); have NB585_586 := zltn hg BK585; have NB586_585 := zgtn hg BK585; replace BK585 := zbb BK585 hb; clear hb hbox hg; have hnb7 := NB585_586.out; have hnc7 := NB586_585.out; have hcz8_0 := zh BK585; have hfz8_0 := zfr BK585 0) | ((with_reducible refine gate_callee (f := 16) rfl ?_); refine goesL_ (some 8) rfl rfl Try.func16 (by kernel_rfl) rfl #[.agg #[.slice A0_0 l0_0.length c0_0]] rfl y4 ?_; (with_reducible refine (spec_TypeOk.calls k _ _ l0_0 true _ ?side1 ?side2 A3.out).mono ?_); (case side1 => exact y31 HO0_0.out); (case side2 => exact (Kd.V_reads' HO0_0.out).2.1); rintro e w9 ⟨rfl, hb⟩; refine ⟨_, rfl, ?_⟩; replace HO0_0 := Aside0.mk (Kd.V_below (y13 HO0_0.out) hb); replace BK585 := zbb BK585 hb; replace BK586 := zbb BK586 hb; replace HB := Aside0.mk (below_step (y1 HB.out GE585.out GE586.out) hb); (try clear hb); (try clear hb2); (try clear hk); (try clear hi)))
  go_loopg [6] k (fun kq v6 w' => ∃ (x6_1 : Int) (x586000_1 : List (S30)) (u586000 : Value), v6 = .int .i64 x6_1 ∧ Aside0 (spec_TypeAt.l0 kq l1 x6_1 x586000_1 = some (r1, r2)) ∧ Aside0 (kq ≤ k) ∧ Aside0 (Kd.V k30 30 w' w.heap.size (fun k_ => (P0_0_ k_ ∨ w.heap.size ≤ k_) ∧ k_ ≠ gb585 ∧ k_ ≠ gb586) u586000 x586000_1) ∧ Aside0 (w'.heap[gb585]? = some (.cells #[u586000] 30 (0, 0))) ∧ Aside0 (w'.heap[gb586]? = some (.cells #[(.slice none 0 0)] 30 (0, 0))) ∧ Aside0 (Below w.heap.size w w'))
  case atStart => exact ⟨(0), (l0_0), (.slice A0_0 l0_0.length c0_0), y26, H', ⟨Nat.le_refl _⟩, ⟨(y63 HO0_0.out)⟩, ⟨(y0 BK585.out)⟩, ⟨(y0 BK586.out)⟩, ⟨(y1 HB.out GE585.out GE586.out)⟩⟩
  case round =>
   clear H'
   try clear c1
   try clear p2
   try clear c3
   try clear c4
   try clear c7
   try clear hcz8_0
   try clear hfz8_0
   obtain ⟨x6_1, x586000_1, u586000, rfl, HA, HK1, HO_586000, BK585, BK586, HB⟩ := hrel
   cases gk with
   | zero => exact absurd HA.out (by simp [spec_TypeAt.l0])
   | succ k1 =>
    have H := HA.out
    clear HA
    simp only [spec_TypeAt.l0] at H
    by_cases c10 : x6_1 < (l1.length : Int)
    ·rw [if_pos c10] at H
     have c10b0 : decide (x6_1 < (l1.length : Int)) = true := decide_eq_true c10
     clear c10
     by_cases c11 : 0 ≤ x6_1
     ·rw [if_pos c11] at H
      have c11b0 : decide (0 ≤ x6_1) = true := decide_eq_true c11
      clear c11
      obtain ⟨t589, A120, H⟩ := ob H
      have A12 := Aside0.mk A120
      clear A120
      by_cases c13 : t589 = true
      ·subst c13
       rw [if_pos rfl] at H
       by_cases c14 : 0 ≤ (rd l1 x6_1)
       ·rw [if_pos c14] at H
        have c14b0 : decide (0 ≤ (rd l1 x6_1)) = true := decide_eq_true c14
        clear c14
        by_cases c15 : (rd l1 x6_1) < (x586000_1.length : Int)
        ·rw [if_pos c15] at H
         have c15b0 : decide ((rd l1 x6_1) < (x586000_1.length : Int)) = true := decide_eq_true c15
         clear c15
         have H' := Aside0.mk H
         clear H
         try go_wp2
         replace HO_586000 := Aside0.mk (Kd.V_drew HO_586000.out)
         replace BK585 := Aside0.mk (blk_drew BK585.out)
         replace BK586 := Aside0.mk (blk_drew BK586.out)
         replace HB := Aside0.mk (below_drew1 HB.out)
         have p588 : 0 ≤ (x6_1 : Int) := of_decide_eq_true y19
         have q588 : x6_1 < (l1.length : Int) := of_decide_eq_true y19
         obtain ⟨ad588, e588, hx588_0⟩ := Kd.at_int HR1.out x6_1 p588 q588
         have hw588_0 := hx588_0
         cases e588
         replace hx588_0 := (HB.out.cell (World.block_lt_of_cell? w _ hx588_0)).trans hx588_0
         replace p588 := eq_true p588
         replace q588 := eq_true q588
         obtain ⟨Ao17, co17, eo17⟩ := Kd.V_slice HO_586000.out
         (first | subst eo17 | (injection eo17 with f1_ f2_ f3_; have f4_ := f1_.symm; have f5_ := f3_.symm; clear f1_ f2_ f3_; subst f4_; subst f5_))
         refine start_ (n := 10) (S := fun w' => w'.cell? ⟨gb585, 0, none⟩ = some (.slice Ao17 x586000_1.length co17) ∧ w'.cell? (ad588.add (x6_1).toNat) = some (.int .i64 (rd l1 x6_1))) (ds := []) #[false, false, false, false, false, false, false, false, false, false] (by kernel_rfl) rfl rfl ⟨(blk_cell BK585.out 0).trans rfl, ((HB.out.cell (World.block_lt_of_cell? w _ hw588_0)).trans hw588_0)⟩ (fun hHeld => ?_); refine with_tabW spec_TypeAt.tab6 spec_TypeAt.bits6 (fun HT_ HW_ => ?_)
         generalize wr.drew = w16 at HO_586000 BK585 BK586 HB hx588_0 hHeld ⊢
         refine zp 0 (some 17) HT_ ?_
         refine zp 1 (some 18) HT_ ?_
         refine zp 2 (some 19) HT_ ?_
         refine zp 4 (some 21) HT_ ?_
         refine zt2 3 (some 20) HT_ HW_ hHeld ?_
         refine zt2 5 (some 22) HT_ HW_ hHeld ?_
         refine zp 6 (some 23) HT_ ?_
         refine zp 7 (some 24) HT_ ?_
         refine one_ (i := 8) (N := some 25) #[true, true, true, true, true, true, true, true, true, false] rfl rfl (one_of HT_.out (by kernel_rfl)) (by decide) (fun K hK => ?_)
         refine goes_ Try.func65 (by kernel_rfl) rfl #[.int .i64 (rd l1 x6_1), .int .i64 0, .int .i64 (wrap64 ((x586000_1.length : Int) - 1))] (by rfl) rfl rfl y4 ?_
         with_reducible refine (spec_l6In.calls (rd l1 x6_1) 0 (wrap64 ((x586000_1.length : Int) - 1)) true _ A12.out).mono ?_
         rintro e w' ⟨rfl, ⟨nd, rfl⟩⟩
         refine ⟨_, rfl, ?_⟩
         refine hK.out _ _ ⟨(blk_cell BK585.out 0).trans rfl, ((HB.out.cell (World.block_lt_of_cell? w _ hw588_0)).trans hw588_0)⟩ (fun hHeld => ?_)
         clear hK K
         refine norm_ (a' := ?_) ?_ ?_
         rotate_left
         ·show Act.put _ (some 25) _ = _
          simp only [Act.put, List.setIfInBounds_toArray, List.set_cons_zero, List.set_cons_succ, i64_w, i32_w]
          rfl
         refine zp 9 (some 26) HT_ ?_
         refine done_ (done_of HT_.out (by kernel_rfl)) ?_
         try go_wp2
         (try (rw [drewN_self w16]; generalize hq_ : World.drewN w16 _ = w16; have n0_ : Aside0 (Kd.V k30 30 w16 w.heap.size (fun k_ => (P0_0_ k_ ∨ w.heap.size ≤ k_) ∧ k_ ≠ gb585 ∧ k_ ≠ gb586) (.slice Ao17 x586000_1.length co17) x586000_1) := ⟨(by rw [← hq_]; exact (y13 HO_586000.out))⟩; have n1_ : Aside0 (w16.heap[gb585]? = some (.cells #[.slice Ao17 x586000_1.length co17] 30 (0, 0))) := ⟨(by rw [← hq_]; exact (y0 BK585.out))⟩; have n2_ : Aside0 (w16.heap[gb586]? = some (.cells #[.slice none 0 0] 30 (0, 0))) := ⟨(by rw [← hq_]; exact (y0 BK586.out))⟩; have n3_ : Aside0 (Below w.heap.size w w16) := ⟨(by rw [← hq_]; exact (y1 HB.out GE585.out GE586.out))⟩; clear HO_586000 BK585 BK586 HB hq_; have HO_586000 := n0_; have BK585 := n1_; have BK586 := n2_; have HB := n3_; clear n0_ n1_ n2_ n3_))
         replace HO_586000 := Aside0.mk (Kd.V_drew HO_586000.out)
         replace BK585 := Aside0.mk (blk_drew BK585.out)
         replace BK586 := Aside0.mk (blk_drew BK586.out)
         replace HB := Aside0.mk (below_drew1 HB.out)
         have p590 : 0 ≤ (x6_1 : Int) := of_decide_eq_true y19
         have q590 : x6_1 < (l1.length : Int) := of_decide_eq_true y19
         obtain ⟨ad590, e590, hx590_0⟩ := Kd.at_int HR1.out x6_1 p590 q590
         have hw590_0 := hx590_0
         obtain rfl : ad588 = ad590 := (by injection e590)
         replace hx590_0 := (HB.out.cell (World.block_lt_of_cell? w _ hx590_0)).trans hx590_0
         replace p590 := eq_true p590
         replace q590 := eq_true q590
         have p591 : 0 ≤ ((rd l1 x6_1) : Int) := of_decide_eq_true y19
         have q591 : (rd l1 x6_1) < (x586000_1.length : Int) := of_decide_eq_true y19
         obtain ⟨ad591, A591_0, c591_0, e591, hx591_0, hl591_0, hi591_0⟩ := at_T30 (Kd.V_reads' HO_586000.out).2.2 (rd l1 x6_1) p591 q591
         cases e591
         obtain ⟨ce591, hce591, hMe591, hcc591⟩ := Kd.V_get HO_586000.out z30 (rd l1 x6_1) p591 (by first | exact q591 | exact of_decide_eq_true y19 | (have e_ := (Kd.V_reads' HO_586000.out).1; omega))
         obtain ⟨ua591_0, uc591_0, rfl, ul591_0, ge591_0⟩ := k30_openF hMe591
         have hv591_0 := hcc591 0 _ rfl
         rw [Nat.add_zero, show (k30).sz = 1 from rfl, Nat.mul_one] at hv591_0
         replace hv591_0 := Option.some.inj (hv591_0.symm.trans hx591_0)
         injection hv591_0 with hva_ hvn_ hvc_
         rw [hva_] at ge591_0
         rw [hvc_] at ul591_0
         have HL591_0 := Aside0.mk (show Kd.V k30 30 _ w.heap.size _ _ ((rd_T30 x586000_1 (rd l1 x6_1)).f0) from Kd.V_mk ul591_0 ge591_0)
         clear hva_ hvn_ hvc_ ge591_0 ul591_0
         clear hcc591 hce591
         have HR591_0 := Aside0.mk hi591_0
         have HC591_0 := Aside0.mk hl591_0
         clear hi591_0 hl591_0
         replace p591 := eq_true p591
         replace q591 := eq_true q591
         refine start_ (n := 9) (S := fun w' => w'.cell? ⟨gb585, 0, none⟩ = some (.slice (some ad591) x586000_1.length co17) ∧ w'.cell? (ad588.add (x6_1).toNat) = some (.int .i64 (rd l1 x6_1)) ∧ w'.cell? (ad591.add ((rd l1 x6_1)).toNat) = some (.slice A591_0 ((rd_T30 x586000_1 (rd l1 x6_1)).f0).length c591_0)) (ds := [8]) #[false, false, false, false, false, false, false, false, false] (by kernel_rfl) rfl rfl ⟨(blk_cell BK585.out 0).trans rfl, ((HB.out.cell (World.block_lt_of_cell? w _ hw590_0)).trans hw590_0), hx591_0⟩ (fun hHeld => ?_); refine with_tabW spec_TypeAt.tab8 spec_TypeAt.bits8 (fun HT_ HW_ => ?_)
         generalize w16.drew = w18 at HO_586000 BK585 BK586 HB HL591_0 HR591_0 hx590_0 hx591_0 hHeld ⊢
         refine zp 0 (some 28) HT_ ?_
         refine zp 2 (some 30) HT_ ?_
         refine zp 3 (some 31) HT_ ?_
         refine zp 4 (some 32) HT_ ?_
         refine zt3 1 (some 29) HT_ HW_ hHeld ?_
         refine zt3 5 (some 33) HT_ HW_ hHeld ?_
         refine zp 6 (some 34) HT_ ?_
         refine zt3 7 (some 35) HT_ HW_ hHeld ?_
         refine last_ (i := 8) (N := none) #[true, true, true, true, true, true, true, true, true] rfl rfl (one_of HT_.out (by kernel_rfl)) (by decide) (fun K hK => ?_)
         have hs19 : w18.cell? ⟨gb585, 0, none⟩ = some (.slice (some ad591) x586000_1.length co17) := (blk_cell BK585.out 0).trans rfl
         have hfs19 := zfr BK585 0
         have hns19_1 := NB586_585.out
         have hms19_1 := NB585_586.out
         refine skip_ (w1 := ?_) (by rfl) rfl ?_ ?_
         rotate_left
         ·go_simp
          rfl
         refine hK.out _ _ ?_
         clear hK K
         refine done_ (done_of HT_.out (by kernel_rfl)) ?_
         try go_wp2
         go_roundg k1
         case measure => have := HK1.out; omega
         case rel => exact ⟨(wrap64 (x6_1 + 1)), ((rd_T30 x586000_1 (rd l1 x6_1)).f0), (.slice A591_0 ((rd_T30 x586000_1 (rd l1 x6_1)).f0).length c591_0), y26, H', ⟨(y46 HK1.out)⟩, ⟨(by (with_reducible repeat (first | apply Kd.V_alloc | apply Kd.V_drewN | apply Kd.V_drew)); exact Kd.V_mono (Kd.V_far (p := ⟨gb585, 0, none⟩) (Kd.V_mono HL591_0.out (fun k_ hk => (⟨hk, hk.2.1⟩ : _ ∧ k_ ≠ gb585))) (fun _ hk => hk.2) (.slice A591_0 ((rd_T30 x586000_1 (rd l1 x6_1)).f0).length c591_0)) (fun _ hk => ⟨hk.1.1, ⟨hk.1.2.1, hk.1.2.2⟩⟩))⟩, ⟨(by (with_reducible repeat (first | refine blk_drewN ?_ _ | refine blk_drew ?_ | refine blk_alloc ?_ _)); refine blk_put (cs := #[.slice (some ad591) x586000_1.length co17]) ?_ 0 _ rfl; (with_reducible repeat (first | refine blk_drewN ?_ _ | refine blk_drew ?_ | refine blk_alloc ?_ _)); exact BK585.out)⟩, ⟨(y21 NB586_585.out BK586.out)⟩, ⟨(y1 HB.out GE585.out GE586.out)⟩⟩
        ·rw [if_neg c15] at H
         exact absurd H (by simp)
       ·rw [if_neg c14] at H
        exact absurd H (by simp)
      ·replace c13 := Bool.eq_false_iff.mpr c13
       subst c13
       rw [if_neg (show ¬ (false = true) by decide)] at H
       simp only [Option.some.injEq, Prod.mk.injEq] at H
       obtain ⟨rfl, rfl⟩ := H
       try go_wp2
       replace HO_586000 := Aside0.mk (Kd.V_drew HO_586000.out)
       replace BK585 := Aside0.mk (blk_drew BK585.out)
       replace BK586 := Aside0.mk (blk_drew BK586.out)
       replace HB := Aside0.mk (below_drew1 HB.out)
       have p588 : 0 ≤ (x6_1 : Int) := of_decide_eq_true y19
       have q588 : x6_1 < (l1.length : Int) := of_decide_eq_true y19
       obtain ⟨ad588, e588, hx588_0⟩ := Kd.at_int HR1.out x6_1 p588 q588
       have hw588_0 := hx588_0
       cases e588
       replace hx588_0 := (HB.out.cell (World.block_lt_of_cell? w _ hx588_0)).trans hx588_0
       replace p588 := eq_true p588
       replace q588 := eq_true q588
       obtain ⟨Ao21, co21, eo21⟩ := Kd.V_slice HO_586000.out
       (first | subst eo21 | (injection eo21 with f1_ f2_ f3_; have f4_ := f1_.symm; have f5_ := f3_.symm; clear f1_ f2_ f3_; subst f4_; subst f5_))
       refine start_ (n := 10) (S := fun w' => w'.cell? ⟨gb585, 0, none⟩ = some (.slice Ao21 x586000_1.length co21) ∧ w'.cell? (ad588.add (x6_1).toNat) = some (.int .i64 (rd l1 x6_1))) (ds := []) #[false, false, false, false, false, false, false, false, false, false] (by kernel_rfl) rfl rfl ⟨(blk_cell BK585.out 0).trans rfl, ((HB.out.cell (World.block_lt_of_cell? w _ hw588_0)).trans hw588_0)⟩ (fun hHeld => ?_); refine with_tabW spec_TypeAt.tab6 spec_TypeAt.bits6 (fun HT_ HW_ => ?_)
       generalize wr.drew = w20 at HO_586000 BK585 BK586 HB hx588_0 hHeld ⊢
       refine zp 0 (some 17) HT_ ?_
       refine zp 1 (some 18) HT_ ?_
       refine zp 2 (some 19) HT_ ?_
       refine zp 4 (some 21) HT_ ?_
       refine zt2 3 (some 20) HT_ HW_ hHeld ?_
       refine zt2 5 (some 22) HT_ HW_ hHeld ?_
       refine zp 6 (some 23) HT_ ?_
       refine zp 7 (some 24) HT_ ?_
       refine one_ (i := 8) (N := some 25) #[true, true, true, true, true, true, true, true, true, false] rfl rfl (one_of HT_.out (by kernel_rfl)) (by decide) (fun K hK => ?_)
       refine goes_ Try.func65 (by kernel_rfl) rfl #[.int .i64 (rd l1 x6_1), .int .i64 0, .int .i64 (wrap64 ((x586000_1.length : Int) - 1))] (by rfl) rfl rfl y4 ?_
       with_reducible refine (spec_l6In.calls (rd l1 x6_1) 0 (wrap64 ((x586000_1.length : Int) - 1)) false _ A12.out).mono ?_
       rintro e w' ⟨rfl, ⟨nd, rfl⟩⟩
       refine ⟨_, rfl, ?_⟩
       refine hK.out _ _ ⟨(blk_cell BK585.out 0).trans rfl, ((HB.out.cell (World.block_lt_of_cell? w _ hw588_0)).trans hw588_0)⟩ (fun hHeld => ?_)
       clear hK K
       refine norm_ (a' := ?_) ?_ ?_
       rotate_left
       ·show Act.put _ (some 25) _ = _
        simp only [Act.put, List.setIfInBounds_toArray, List.set_cons_zero, List.set_cons_succ, i64_w, i32_w]
        rfl
       refine zp 9 (some 26) HT_ ?_
       refine done_ (done_of HT_.out (by kernel_rfl)) ?_
       have hnb22 := NB586_585.out
       have hnc22 := NB585_586.out
       have hcz23_0 := zh BK586
       have hfz23_0 := zfr BK586 0
       try go_wp2
       refine bodyPost_ret (results_ct rfl _ _ gb586 30 #[.slice none 0 0] (0, 0) _ rfl (by (with_reducible repeat (first | refine blk_drewN ?_ _ | refine blk_drew ?_ | refine blk_alloc ?_ _)); apply blk_put (i := 0); (case h => exact y0 BK586.out); (case e => rfl)) Try.underlying30 rfl (by kernel_rfl)) rfl ?_
       exact ⟨_, y14, y36, (y1 HB.out GE585.out GE586.out)⟩
     ·rw [if_neg c11] at H
      exact absurd H (by simp)
    ·rw [if_neg c10] at H
     have c10b0 : decide (x6_1 < (l1.length : Int)) = false := decide_eq_false c10
     clear c10
     obtain ⟨t592, A240, H⟩ := ob H
     have A24 := Aside0.mk A240
     clear A240
     simp only [Option.some.injEq, Prod.mk.injEq] at H
     obtain ⟨rfl, rfl⟩ := H
     have hnb25 := NB585_586.out
     have hnc25 := NB586_585.out
     have hcz26_0 := zh BK585
     have hfz26_0 := zfr BK585 0
     obtain ⟨Ao27, co27, eo27⟩ := Kd.V_slice HO_586000.out
     subst eo27
     go_wp2_with (first | ((with_reducible refine gate_callee (f := 66) rfl ?_); refine goesL_ (some 37) rfl rfl Try.func66 (by kernel_rfl) rfl #[.agg #[.slice Ao27 x586000_1.length co27]] rfl y4 ?_; (with_reducible refine (spec_l1Copy.calls k1 _ _ x586000_1 t592 _ ?side1 ?side2 A24.out).mono ?_); (case side1 => exact y31 HO_586000.out); (case side2 => exact (Kd.V_reads' HO_586000.out).2.1); rintro e w28 ⟨v593, rfl, ho0, hb⟩; refine ⟨_, rfl, ?_⟩; replace HO_586000 := Aside0.mk (Kd.V_elder' (y13 HO_586000.out) (Kd.R_base ho0) hb); have HO594 := Aside0.mk (Kd.R_lower (Kd.R_newB (Kd.R_newB (Kd.R_newM (M := fun k_ => (w.heap.size ≤ k_)) ho0 (below_size (y1 HB.out GE585.out GE586.out)) (fun k_ h_ => h_)) (g := gb585) (o := .cells #[.slice Ao27 x586000_1.length co27] 30 (0, 0)) (y0 BK585.out)) (g := gb586) (o := .cells #[.slice none 0 0] 30 (0, 0)) (y0 BK586.out)) (below_size (y1 HB.out GE585.out GE586.out))); replace BK585 := zbb BK585 hb; replace BK586 := zbb BK586 hb; replace HB := Aside0.mk (below_step (y1 HB.out GE585.out GE586.out) hb); (try clear hb); (try clear hb2); (try clear hk); (try clear hi); (try clear ho0); obtain ⟨Ao29, co29, eo29⟩ := Kd.R_slice HO594.out; subst eo29; have hcz30_0 := zh BK586; have hfz30_0 := zfr BK586 0))
     refine bodyPost_ret (results_ct rfl _ _ gb586 30 #[.slice Ao29 t592.length co29] (0, 0) _ rfl (by (with_reducible repeat (first | refine blk_drewN ?_ _ | refine blk_drew ?_ | refine blk_alloc ?_ _)); apply blk_put (i := 0); (case h => exact y0 BK586.out); (case e => rfl)) Try.underlying30 rfl (by kernel_rfl)) rfl ?_
     exact ⟨_, y14, (by (with_reducible repeat (first | apply Kd.R_alloc | apply Kd.R_drewN | apply Kd.R_drew)); exact Kd.R_mono (Kd.R_far (p := ⟨gb586, 0, none⟩) (Kd.R_mono HO594.out (fun k_ hk => (⟨hk, hk.2⟩ : _ ∧ k_ ≠ gb586))) (fun _ hk => hk.2) (.slice Ao29 t592.length co29)) (fun _ hk => hk.1.1.1.1)), (y1 HB.out GE585.out GE586.out)⟩
 ·replace c4 := Bool.eq_false_iff.mpr c4
  subst c4
  rw [if_neg (show ¬ (false = true) by decide)] at H
  simp only [Option.some.injEq, Prod.mk.injEq] at H
  obtain ⟨rfl, rfl⟩ := H
  go_enter Try.func33, Try.ntmps33
  go_wp2_with (first | ((with_reducible refine gate_dst (N := 2) rfl ?_); refine zbx 2 #[.slice A0_0 l0_0.length c0_0] 30 ?_; intro gb585 hg w31 hbox hb; replace HO0_0 := Aside0.mk (Kd.V_below (Kd.V_elderB (y13 HO0_0.out) gb585 (Nat.le_of_eq hg.symm)) hb); have BK585 := Aside0.mk hbox; have GW585 := Aside0.mk ((y5 hg HB.out : w.heap.size ≤ gb585)); have GE585 := Aside0.mk ((y5 hg HB.out : w.heap.size ≤ gb585)); replace HB := Aside0.mk (below_step (y2 HB.out) hb); clear hb hbox hg) | ((with_reducible refine gate_dst (N := 4) rfl ?_); refine zbx 4 #[.slice none 0 0] 30 ?_; intro gb586 hg w32 hbox hb; replace HO0_0 := Aside0.mk (Kd.V_below (Kd.V_elderB (y13 HO0_0.out) gb586 (Nat.le_of_eq hg.symm)) hb); have BK586 := Aside0.mk hbox; have GW586 := Aside0.mk ((y6 hg HB.out GE585.out : w.heap.size ≤ gb586)); have GE586 := Aside0.mk ((y6 hg HB.out GE585.out : w.heap.size ≤ gb586)); replace HB := Aside0.mk (below_step (y3 HB.out GE585.out) hb); have NB585_586 := zltn hg BK585; have NB586_585 := zgtn hg BK585; replace BK585 := zbb BK585 hb; clear hb hbox hg; have hnb33 := NB585_586.out; have hnc33 := NB586_585.out; have hcz34_0 := zh BK585; have hfz34_0 := zfr BK585 0) | ((with_reducible refine gate_callee (f := 16) rfl ?_); refine goesL_ (some 8) rfl rfl Try.func16 (by kernel_rfl) rfl #[.agg #[.slice A0_0 l0_0.length c0_0]] rfl y4 ?_; (with_reducible refine (spec_TypeOk.calls k _ _ l0_0 false _ ?side1 ?side2 A3.out).mono ?_); (case side1 => exact y31 HO0_0.out); (case side2 => exact (Kd.V_reads' HO0_0.out).2.1); rintro e w35 ⟨rfl, hb⟩; refine ⟨_, rfl, ?_⟩; replace HO0_0 := Aside0.mk (Kd.V_below (y13 HO0_0.out) hb); replace BK585 := zbb BK585 hb; replace BK586 := zbb BK586 hb; replace HB := Aside0.mk (below_step (y1 HB.out GE585.out GE586.out) hb); (try clear hb); (try clear hb2); (try clear hk); (try clear hi); have hcz36_0 := zh BK586; have hfz36_0 := zfr BK586 0))
  refine bodyPost_ret (results_ct rfl _ _ gb586 30 #[.slice none 0 0] (0, 0) _ rfl (by (with_reducible repeat (first | refine blk_drewN ?_ _ | refine blk_drew ?_ | refine blk_alloc ?_ _)); apply blk_put (i := 0); (case h => exact y0 BK586.out); (case e => rfl)) Try.underlying30 rfl (by kernel_rfl)) rfl ?_
  exact ⟨_, y14, y36, (y1 HB.out GE585.out GE586.out)⟩
end Go.Proofs.Ytjhbhihfifhljaa.PA
end
section
namespace Go.Proofs.Ytjhbhihfifhljaa.Paths
open Go.RowKit Go.Proofs.Ytjhbhihfifhljaa.PA Go.Proofs.YtjhbhihfifhljaaW.PrintWords Go.Proofs.YtjhbhihfifhljaaW.PrintLast Go.Proofs.Ytjhbhihfifhljaa.Draw Go.Proofs.Ytjhbhihfifhljaa.Types
def pf : List Int → Ty → Option Ty
  | [], t => some t
  | i :: r, [a, b] => if i = 0 then pf r a.f0 else if i = 1 then pf r b.f0 else none
  | _ :: _, _ => none
theorem pf_nil (t : Ty) : pf [] t = some t := by cases t <;> rfl
theorem pf_two (i : Int) (r : List Int) (a b : S30) : pf (i :: r) [a, b] = if i = 0 then pf r a.f0 else if i = 1 then pf r b.f0 else none := rfl
theorem pf_odd (i : Int) (r : List Int) (t : Ty) (h : t.length ≠ 2) : pf (i :: r) t = none := by
  match t with
  | [] => rfl
  | [_] => rfl
  | [_, _] => simp at h
  | _ :: _ :: _ :: _ => rfl
theorem pf_app (p q : List Int) : ∀ t, pf (p ++ q) t = (pf p t).bind (pf q) := by
  induction p with
  | nil => intro t; rw [List.nil_append, pf_nil]; rfl
  | cons i r ih =>
    intro t
    by_cases h : t.length = 2
    · obtain ⟨a, b, rfl⟩ := two_of h
      rw [List.cons_append, pf_two, pf_two]
      split
      · exact ih _
      · split
        · exact ih _
        · rfl
    · rw [List.cons_append, pf_odd _ _ _ h, pf_odd _ _ _ h]; rfl
theorem dp_succ : ∀ (n : Nat) (t : Ty), dp n t = true → dp (n + 1) t = true := by
  intro n
  induction n with
  | zero => intro t h; simp [dp] at h
  | succ n ih =>
    intro t h
    rcases Types.shape t with rfl | ⟨a, b, rfl⟩ | ⟨h0, h2⟩
    · rfl
    · rw [dp_two, Bool.and_eq_true] at h ⊢
      exact ⟨ih _ h.1, ih _ h.2⟩
    · rw [dp_odd _ _ h0 h2] at h; cases h
theorem dp_pf (n : Nat) : ∀ (p : List Int) (t u : Ty), dp n t = true → pf p t = some u → dp n u = true := by
  intro p
  induction p with
  | nil => intro t u h e; rw [pf_nil] at e; cases e; exact h
  | cons i r ih =>
    intro t u h e
    by_cases h2 : t.length = 2
    · obtain ⟨a, b, rfl⟩ := two_of h2
      cases n with
      | zero => simp [dp] at h
      | succ n =>
        rw [dp_two, Bool.and_eq_true] at h
        rw [pf_two] at e
        split at e
        · exact ih _ _ (dp_succ _ _ h.1) e
        · split at e
          · exact ih _ _ (dp_succ _ _ h.2) e
          · cases e
    · rw [pf_odd _ _ _ h2] at e; cases e
theorem rd_mid (pre r : List Int) (i : Int) : rd (pre ++ i :: r) (pre.length : Int) = i := by
  unfold rd
  rw [Int.toNat_natCast, List.getD_eq_getElem?_getD, List.getElem?_append_right (Nat.le_refl _)]
  simp
def at_ (o : Option Ty) : Ty × Bool := match o with | some u => (u, true) | none => ([], false)
theorem partLoop_ev : ∀ (r pre : List Int) (t : Ty) (k : Nat), pre.length + r.length ≤ 4611686018427387904 → r.length + 1 ≤ k →
    impl_Type.l0 k (pre ++ r) ((pre ++ r).length : Int) (pre.length : Int) t = some (at_ (pf r t)) := by
  intro r
  induction r with
  | nil =>
    intro pre t k h1 hk
    obtain ⟨k, rfl⟩ : ∃ m, k = m + 1 := ⟨k - 1, by simp at hk; omega⟩
    simp only [impl_Type.l0]
    rw [if_neg (by simp), pf_nil]; rfl
  | cons i r ih =>
    intro pre t k h1 hk
    simp only [List.length_cons] at h1 hk
    obtain ⟨k, rfl⟩ : ∃ m, k = m + 1 := ⟨k - 1, by omega⟩
    simp only [impl_Type.l0, impl_Type_parts.f, Option.bind_some]
    have hl : ((pre ++ i :: r).length : Int) = pre.length + 1 + r.length := by simp; omega
    rw [if_pos (by omega), if_pos (by omega), if_pos (by omega), rd_mid]
    by_cases h2 : t.length = 2
    · obtain ⟨a, b, rfl⟩ := two_of h2
      rw [if_pos (by simp), pf_two]
      by_cases hn : i < 0
      · rw [if_pos hn, if_neg (by omega), if_neg (by omega)]; rfl
      · rw [if_neg hn]
        by_cases hb : i > 1
        · rw [if_pos hb, if_neg (by omega), if_neg (by omega)]; rfl
        · rw [if_neg hb, if_pos (by omega), if_pos (by simp; omega), w64 (by omega) (by omega)]
          have ea : pre ++ i :: r = (pre ++ [i]) ++ r := by simp
          have el : (pre.length : Int) + 1 = ((pre ++ [i]).length : Int) := by simp
          rw [el, ea]
          by_cases h0 : i = 0
          · rw [if_pos h0, ih _ _ _ (by simp; omega) (by omega), h0, rd0]
          · rw [if_neg h0, if_pos (by omega), ih _ _ _ (by simp; omega) (by omega), show i = 1 by omega, rd1]
    · rw [if_neg (by omega), pf_odd _ _ _ h2]; rfl
theorem implPart_ev (t : Ty) (p : List Int) (k : Nat) (h : p.length ≤ 4611686018427387904) (hk : p.length + 1 ≤ k) : impl_Type.f k t p = some (at_ (pf p t)) := by
  unfold impl_Type.f
  have := partLoop_ev p [] t k (by simpa using h) hk
  simpa using this
theorem typeCopy_ev : ∀ (n : Nat) (t : Ty) (k : Nat), dp n t = true → n ≤ k → impl_typeCopy.f k t = some t := by
  intro n
  induction n with
  | zero => intro t k h; simp [dp] at h
  | succ n ih =>
    intro t k h hk
    obtain ⟨k, rfl⟩ : ∃ m, k = m + 1 := ⟨k - 1, by omega⟩
    simp only [impl_typeCopy.f]
    rcases Types.shape t with rfl | ⟨a, b, rfl⟩ | ⟨h0, h2⟩
    · rw [if_pos (by simp)]
    · rw [dp_two, Bool.and_eq_true] at h
      rw [if_neg (by simp), if_pos (by simp), if_pos (by simp)]
      simp only [impl_typePair.F, rd0, rd1]
      rw [ih _ _ h.1 (by omega)]; simp only [Option.bind_some]
      rw [ih _ _ h.2 (by omega)]; simp only [Option.bind_some]
      cases a; cases b; rfl
    · rw [dp_odd _ _ h0 h2] at h; cases h
theorem specCopy_ev : ∀ (n : Nat) (t : Ty) (k : Nat), dp n t = true → 4 * n ≤ k → spec_l1Copy.f k t = some t := by
  intro n
  induction n with
  | zero => intro t k h; simp [dp] at h
  | succ n ih =>
    intro t k h hk
    obtain ⟨k, rfl⟩ : ∃ m, k = m + 4 := ⟨k - 4, by omega⟩
    simp only [spec_l1Copy.f]
    rcases Types.shape t with rfl | ⟨a, b, rfl⟩ | ⟨h0, h2⟩
    · simp only [spec_l1Copy.l0]; rw [if_neg (by simp)]
    · rw [dp_two, Bool.and_eq_true] at h
      simp only [spec_l1Copy.l0, w01, w12]
      rw [if_pos (by simp), if_pos (by omega), rd0, ih _ _ h.1 (by omega)]; simp only [Option.bind_some]
      rw [if_pos (by simp), if_pos (by simp), if_pos (by omega), rd1, ih _ _ h.2 (by omega)]; simp only [Option.bind_some]
      rw [if_pos (by simp), if_neg (by simp)]
      cases a; cases b; rfl
    · rw [dp_odd _ _ h0 h2] at h; cases h
def tat (t : Ty) (p : List Int) : Ty × Bool := if dp 4 t = true then at_ (pf p t) else ([], false)
theorem implTypeAt_ev (t : Ty) (p : List Int) (k : Nat) (h : p.length ≤ 4611686018427387904) (hk : p.length + 5 ≤ k) : impl_TypeAt.f k t p = some (tat t p) := by
  unfold impl_TypeAt.f tat
  rw [implOk_ev t k (by omega)]; simp only [Option.bind_some]
  by_cases d : dp 4 t = true
  · rw [if_pos d, if_pos d, implPart_ev t p k h (by omega)]; simp only [Option.bind_some]
    cases e : pf p t with
    | none => rfl
    | some u =>
      simp only [at_, if_true]
      rw [typeCopy_ev 4 u k (dp_pf 4 _ _ _ d e) (by omega)]; rfl
  · rw [if_neg d, if_neg d]
theorem specLoop_ev (n : Nat) : ∀ (r pre : List Int) (t : Ty) (k : Nat), dp n t = true → pre.length + r.length ≤ 4611686018427387904 → r.length + 4 * n + 1 ≤ k →
    spec_TypeAt.l0 k (pre ++ r) (pre.length : Int) t = some (at_ (pf r t)) := by
  intro r
  induction r with
  | nil =>
    intro pre t k d h1 hk
    obtain ⟨k, rfl⟩ : ∃ m, k = m + 1 := ⟨k - 1, by omega⟩
    simp only [List.length_nil] at hk
    simp only [spec_TypeAt.l0]
    rw [if_neg (by simp), specCopy_ev n t k d (by omega), pf_nil]; rfl
  | cons i r ih =>
    intro pre t k d h1 hk
    simp only [List.length_cons] at h1 hk
    obtain ⟨k, rfl⟩ : ∃ m, k = m + 1 := ⟨k - 1, by omega⟩
    simp only [spec_TypeAt.l0, spec_l6In.f]
    have hl : ((pre ++ i :: r).length : Int) = pre.length + 1 + r.length := by simp; omega
    rw [if_pos (by omega), if_pos (by omega), rd_mid]
    rcases Types.shape t with rfl | ⟨a, b, rfl⟩ | ⟨h0, h2⟩
    · rw [pf_odd _ _ _ (by simp), show wrap64 ((([] : Ty).length : Int) - 1) = -1 from w64 (by simp) (by simp)]
      by_cases hn : i ≥ 0
      · rw [if_pos hn]; simp only [Option.bind_some]; rw [if_neg (by simp; omega)]; rfl
      · rw [if_neg hn]; rfl
    · rw [pf_two, show wrap64 ((([a, b] : Ty).length : Int) - 1) = 1 from w64 (by simp) (by simp)]
      cases n with
      | zero => simp [dp] at d
      | succ n =>
        rw [dp_two, Bool.and_eq_true] at d
        by_cases hn : i ≥ 0
        · rw [if_pos hn]; simp only [Option.bind_some]
          by_cases hb : i ≤ 1
          · rw [if_pos (by simpa using hb), if_pos (by omega), if_pos (by simp; omega), w64 (by omega) (by omega)]
            have ea : pre ++ i :: r = (pre ++ [i]) ++ r := by simp
            have el : (pre.length : Int) + 1 = ((pre ++ [i]).length : Int) := by simp
            rw [el, ea]
            by_cases h0 : i = 0
            · rw [if_pos h0, h0, rd0, ih _ _ _ (dp_succ _ _ d.1) (by simp; omega) (by omega)]
            · rw [if_neg h0, if_pos (by omega), show i = 1 by omega, rd1, ih _ _ _ (dp_succ _ _ d.2) (by simp; omega) (by omega)]
          · rw [if_neg (by simpa using hb), if_neg (by omega), if_neg (by omega)]; rfl
        · rw [if_neg hn, if_neg (show ¬ i = 0 by omega), if_neg (show ¬ i = 1 by omega)]; rfl
    · rw [dp_odd _ _ h0 h2] at d; cases d
theorem specTypeAt_ev (t : Ty) (p : List Int) (k : Nat) (h : p.length ≤ 4611686018427387904) (hk : p.length + 30 ≤ k) : spec_TypeAt.f k t p = some (tat t p) := by
  unfold spec_TypeAt.f tat
  rw [specOk_ev t k (by omega)]; simp only [Option.bind_some]
  by_cases d : dp 4 t = true
  · rw [if_pos d, if_pos d]
    have := specLoop_ev 4 p [] t k d (by simpa using h) (by omega)
    simpa using this
  · rw [if_neg d, if_neg d]
theorem tat_ok (t : Ty) (p : List Int) : dp 4 (tat t p).1 = true := by
  unfold tat
  split
  · rename_i d
    cases e : pf p t with
    | none => rfl
    | some u => exact dp_pf 4 _ _ _ d e
  · rfl
theorem rdT_dph (d : Nat) (t : Ty) (h : Dph (d + 1) t) (i : Int) : Dph d (rd_T30 t i).f0 := by
  unfold rd_T30
  rw [List.getD_eq_getElem?_getD]
  cases e : t[i.toNat]? with
  | none => exact dph_nil d
  | some x => exact h x (List.mem_of_getElem? e)
theorem pathLoop_ev (s : List Int) (hs : Bytes s) : ∀ (d : Nat) (t : Ty), d ≤ 1000 → Dph d t → ∀ (p : Int) (pre : List Int), 0 ≤ p → p + 2 * d + 3 ≤ 1099511627776 → pre.length + d ≤ 1000 →
    ∃ r u q, (∀ k, d + 3 ≤ k → spec_l71Path.l0 k pre s p t = some (r, u, q)) ∧ p ≤ q ∧ q ≤ p + 2 * d + 1 ∧ r.length ≤ pre.length + d := by
  intro d
  induction d with
  | zero =>
    intro t _ h p pre hp hp1 hl
    rw [show t = [] from h]
    refine ⟨pre, [], p, fun k hk => ?_, by omega, by omega, by omega⟩
    obtain ⟨k, rfl⟩ : ∃ m, k = m + 1 := ⟨k - 1, by omega⟩
    simp only [spec_l71Path.l0]
    rw [if_neg (by simp)]
  | succ d ih =>
    intro t hd h p pre hp hp1 hl
    by_cases h0 : (t.length : Int) > 0
    · obtain ⟨c, hc, c0, c1⟩ := pick_ev s hs p 3 hp (by omega) (by omega)
      by_cases hcp : c > 0
      · obtain ⟨i, hi, i0, i1⟩ := pick_ev s hs (p + 1) (t.length : Int) (by omega) (by omega) (by omega)
        obtain ⟨r, u, q, hr, hq, hq2, hrl⟩ := ih (rd_T30 t i).f0 (by omega) (rdT_dph _ _ h i) (p + 1 + 1) (pre ++ [i]) (by omega) (by omega) (by simp; omega)
        refine ⟨r, u, q, fun k hk => ?_, by omega, by omega, by simp at hrl; omega⟩
        obtain ⟨k, rfl⟩ : ∃ m, k = m + 1 := ⟨k - 1, by omega⟩
        simp only [spec_l71Path.l0]
        rw [if_pos h0, hc k (by omega)]; simp only [Option.bind_some]
        rw [if_pos hcp, hi k (by omega)]; simp only [Option.bind_some]
        rw [if_pos (by omega), if_pos i0, if_pos i1]
        exact hr k (by omega)
      · refine ⟨pre, t, p + 1, fun k hk => ?_, by omega, by omega, by omega⟩
        obtain ⟨k, rfl⟩ : ∃ m, k = m + 1 := ⟨k - 1, by omega⟩
        simp only [spec_l71Path.l0]
        rw [if_pos h0, hc k (by omega)]; simp only [Option.bind_some]
        rw [if_neg hcp]
    · refine ⟨pre, t, p, fun k hk => ?_, by omega, by omega, by omega⟩
      obtain ⟨k, rfl⟩ : ∃ m, k = m + 1 := ⟨k - 1, by omega⟩
      simp only [spec_l71Path.l0]
      rw [if_neg h0]
theorem any_ev (s : List Int) (hs : Bytes s) (d : Nat) (t : Ty) (hd : d ≤ 900) (h : Dph d t) (p : Int) (hp : 0 ≤ p) (hp1 : p ≤ 1099511620000) :
    ∃ r q, (∀ k, d + 4 ≤ k → spec_l71Any.f k s p t = some (r, q)) ∧ p ≤ q ∧ q ≤ p + 2 * d + 3 ∧ r.length ≤ d + 1 := by
  obtain ⟨r, u, q, hr, hq, hq2, hl⟩ := pathLoop_ev s hs d t (by omega) h p [] hp (by omega) (by simp; omega)
  simp only [List.length_nil] at hl
  obtain ⟨c, hc, c0, c1⟩ := pick_ev s hs q 6 (by omega) (by omega) (by omega)
  have hf : ∀ k, d + 4 ≤ k → spec_l71Path.f k s p t = some (r, u, q) := fun k hk => hr k (by omega)
  by_cases e : c = 0
  · obtain ⟨c', hc', _, _⟩ := pick_ev s hs (q + 1) 4 (by omega) (by omega) (by omega)
    refine ⟨r ++ [wrap64 (c' - 1)], q + 1 + 1, fun k hk => ?_, by omega, by omega, by simp; omega⟩
    unfold spec_l71Any.f
    rw [hf k hk]; simp only [Option.bind_some]
    rw [hc k (by omega)]; simp only [Option.bind_some]
    rw [if_pos e, hc' k (by omega)]; simp only [Option.bind_some]
    rw [if_pos (by omega)]
  · refine ⟨r, q + 1, fun k hk => ?_, by omega, by omega, by omega⟩
    unfold spec_l71Any.f
    rw [hf k hk]; simp only [Option.bind_some]
    rw [hc k (by omega)]; simp only [Option.bind_some]
    rw [if_neg e]
theorem drawOk_ev (l : List Int) (h : ∀ x ∈ l, (Lit.int .u8 x).wf = true) : ∃ r, (∀ k, 20 ≤ k → spec_DrawTypeOk.f k l = some r) ∧ Dph 10 r := by
  obtain ⟨s, ho, hs⟩ := open_ev l h
  obtain ⟨r, q, hr, _, _, hd⟩ := l71Deep_ev s hs 0 (by omega) (by omega)
  refine ⟨r, fun k hk => ?_, hd⟩
  unfold spec_DrawTypeOk.f
  rw [ho]; simp only [Option.bind_some]
  rw [hr k hk]; rfl
theorem drawTypeAt_ev (l : List Int) (h : ∀ x ∈ l, (Lit.int .u8 x).wf = true) : ∃ r p, (∀ k, 20 ≤ k → spec_DrawTypeAt.f k l = some (r, p)) ∧ Dph 10 r ∧ p.length ≤ 11 := by
  obtain ⟨s, ho, hs⟩ := open_ev l h
  obtain ⟨r, q, hr, hq, hq2, hd⟩ := l71Deep_ev s hs 0 (by omega) (by omega)
  obtain ⟨p, q2, hp, _, _, hl⟩ := any_ev s hs 10 r (by omega) hd q (by omega) (by omega)
  refine ⟨r, p, fun k hk => ?_, hd, by omega⟩
  unfold spec_DrawTypeAt.f
  rw [ho]; simp only [Option.bind_some]
  rw [hr k hk]; simp only [Option.bind_some]
  rw [hp k (by omega)]; rfl
end Go.Proofs.Ytjhbhihfifhljaa.Paths
end
section
namespace Go.Proofs.Ytjhbhihfifhljaa.PA
open Go.RowKit Go.Proofs.YtjhbhihfifhljaaW.PrintWords Go.Proofs.YtjhbhihfifhljaaW.PrintLast Go.Proofs.YtjhbhihfifhljaaW.PrintMore
attribute [local go_sem] max2_int min2_int max_two min_two max_three min_three max_four min_four
set_option linter.unusedVariables false
set_option linter.unusedSimpArgs false
def laws_toIntS.l0 : Nat → List Int → List Int → Int → Option (List Int)
 | 0, _, _, _ => none
 | k + 1, x0, x3, x4 => if x4 < (x0.length : Int) then (if 0 ≤ x4 then (if x4 < (x3.length : Int) then (laws_toIntS.l0 k x0 (x3.set (x4 : Int).toNat (rd x0 x4)) (wrap64 (x4 + 1))) else (none)) else (none)) else (some x3)
def laws_toIntS.f (k : Nat) (l0 : List Int) : Option (List Int) := if 0 ≤ (l0.length : Int) then (if ((l0.length : Int) : Int).toNat ≤ 35184372088832 then (laws_toIntS.l0 k l0 (List.replicate ((l0.length : Int) : Int).toNat 0) 0) else (none)) else (none)
theorem laws_toIntS.mono_l : ∀ k, (∀ y0 y1 y2, LeO (laws_toIntS.l0 k y0 y1 y2) (laws_toIntS.l0 (k + 1) y0 y1 y2))
 | 0 => fun _ _ _ r h => by simp [laws_toIntS.l0] at h
 | k + 1 => by
  have ih0 := laws_toIntS.mono_l k
  ·intro y0 y1 y2
   unfold laws_toIntS.l0
   repeat' first
   | (with_reducible exact ih0 _ _ _)
   | (with_reducible exact LeO.refl _)
   | (with_reducible exact LeO.none _)
   | (with_reducible refine LeO.ite ?_ ?_)
   | (with_reducible refine LeO.bind ?_ (fun _ => ?_))
   | exact ih0 _ _ _
   | exact LeO.none _
   | refine LeO.ite ?_ ?_
   | refine LeO.bind ?_ (fun _ => ?_)
theorem laws_toIntS.mono : ∀ a0 k, LeO (laws_toIntS.f k a0) (laws_toIntS.f (k + 1) a0) := by
 intro a0 k
 have ih0 := laws_toIntS.mono_l k
 unfold laws_toIntS.f
 repeat' first
   | (with_reducible exact ih0 _ _ _)
   | (with_reducible exact LeO.refl _)
   | (with_reducible exact LeO.none _)
   | (with_reducible refine LeO.ite ?_ ?_)
   | (with_reducible refine LeO.bind ?_ (fun _ => ?_))
   | exact ih0 _ _ _
   | exact LeO.none _
   | refine LeO.ite ?_ ?_
   | refine LeO.bind ?_ (fun _ => ?_)
set_option maxHeartbeats 8000000 in
set_option maxRecDepth 100000 in
theorem laws_toIntS.calls (k : Nat) (A0 : Option Addr) (c0 : Nat) (l0 : List Int) (r : List Int) (w : World) (hr0 : Kd.C (Kd.int .i64) w A0 l0.length l0) (hc0 : l0.length ≤ c0) (h : laws_toIntS.f k l0 = some r) :
  Calls Try.prog 37 #[.slice A0 l0.length c0] w fun e w' => ∃ v0_ : Value, e = .returned (v0_) ∧ Kd.R (Kd.int .i64) 3 w' w.heap.size (fun _ => True) v0_ r ∧ Below w.heap.size w w' := by
 have HR0 := Aside0.mk hr0
 have HC0 := Aside0.mk hc0
 clear hr0 hc0
 have HB := Aside0.mk (Below.refl w.heap.size w)
 have H : (if 0 ≤ (l0.length : Int) then (if ((l0.length : Int) : Int).toNat ≤ 35184372088832 then (laws_toIntS.l0 k l0 (List.replicate ((l0.length : Int) : Int).toNat 0) 0) else (none)) else (none)) = some r := h
 clear h
 by_cases c2 : 0 ≤ (l0.length : Int)
 ·rw [if_pos c2] at H
  have c2b0 := eq_true c2
  have c2b1 : decide (0 ≤ (l0.length : Int)) = true := decide_eq_true c2
  clear c2
  by_cases c3 : ((l0.length : Int) : Int).toNat ≤ 35184372088832
  ·rw [if_pos c3] at H
   have c3b0 := eq_true c3
   have c3b1 : decide (((l0.length : Int) : Int).toNat ≤ 35184372088832) = true := decide_eq_true c3
   clear c3
   obtain ⟨y483, hy483⟩ : ∃ y_ : List Int, y_ = (List.replicate ((l0.length : Int) : Int).toNat 0) := ⟨_, rfl⟩
   replace H : (laws_toIntS.l0 k l0 y483 0) = some r := by first | (rw [hy483]; with_reducible exact H) | (have H2_ := (Option.bind_some _ _).symm.trans H; rw [hy483]; with_reducible exact H2_) | (have H2_ := (Option.bind_some _ _).symm.trans H; with_reducible exact H2_) | with_reducible exact H | (rw [hy483]; exact H) | exact H
   have Ny483 := Aside0.mk hy483
   clear hy483
   have H' := Aside0.mk H
   clear H
   go_enter Try.func37, Try.ntmps37
   go_wp2_with (first | ((with_reducible refine gate_dst (N := 7) rfl ?_); refine Kd.R_make (Kd.int .i64) _ 3 rfl (N := 7) rfl 38 _ _ rfl (l0.length : Int) rfl rfl Try.underlying38 (.int .i64 0) 8 info3 rfl (by decide) (by omega) 0 (ok := fun _ => True) (okp := fun _ => True) rfl (fun _ hk => hk) trivial (of_decide_eq_true y19) (Nat.le_trans (Nat.mul_le_mul_right _ (of_decide_eq_true y19 : (l0.length : Int).toNat ≤ 35184372088832)) (by omega)) (Below.refl _ _) (Nat.le_refl _) ?_; intro v484 w4 ho5 hb hg_ hnew_; clear hg_ hnew_; (first | rw [← Ny483.out] at ho5 | (simp only [Int.reduceToNat] at ho5; rw [← Ny483.out] at ho5)); have HO485 := Aside0.mk (Kd.R_lower ho5 (below_size (y2 HB.out))); replace HB := Aside0.mk (below_step (y2 HB.out) hb); clear hb ho5))
   go_loopg [4] k (fun kq v4 w' => ∃ (x3_1 : List Int) (x4_1 : Int), v4 = .int .i64 x4_1 ∧ Aside0 (laws_toIntS.l0 kq l0 x3_1 x4_1 = some r) ∧ Aside0 (kq ≤ k) ∧ Aside0 (Kd.R (Kd.int .i64) 3 w' w.heap.size (fun _ => True) v484 x3_1) ∧ Aside0 (Below w.heap.size w w'))
   case atStart => exact ⟨(y483), (0), y26, H', ⟨Nat.le_refl _⟩, ⟨(y10 HO485.out)⟩, ⟨(y2 HB.out)⟩⟩
   case round =>
    clear H'
    try clear c2
    try clear c2b0
    try clear c2b1
    try clear p2
    try clear c3
    try clear c3b0
    try clear c3b1
    obtain ⟨x3_1, x4_1, rfl, HA, HK1, HO_3, HB⟩ := hrel
    cases gk with
    | zero => exact absurd HA.out (by simp [laws_toIntS.l0])
    | succ k1 =>
     have H := HA.out
     clear HA
     simp only [laws_toIntS.l0] at H
     by_cases c6 : x4_1 < (l0.length : Int)
     ·rw [if_pos c6] at H
      have c6b0 : decide (x4_1 < (l0.length : Int)) = true := decide_eq_true c6
      clear c6
      by_cases c7 : 0 ≤ x4_1
      ·rw [if_pos c7] at H
       have c7b0 : decide (0 ≤ x4_1) = true := decide_eq_true c7
       clear c7
       by_cases c8 : x4_1 < (x3_1.length : Int)
       ·rw [if_pos c8] at H
        have c8b0 : decide (x4_1 < (x3_1.length : Int)) = true := decide_eq_true c8
        clear c8
        obtain ⟨y487, hy487⟩ : ∃ y_ : List Int, y_ = (x3_1.set (x4_1 : Int).toNat (rd l0 x4_1)) := ⟨_, rfl⟩
        replace H : (laws_toIntS.l0 k1 l0 y487 (wrap64 (x4_1 + 1))) = some r := by first | (rw [hy487]; with_reducible exact H) | (have H2_ := (Option.bind_some _ _).symm.trans H; rw [hy487]; with_reducible exact H2_) | (have H2_ := (Option.bind_some _ _).symm.trans H; with_reducible exact H2_) | with_reducible exact H | (rw [hy487]; exact H) | exact H
        have Ny487 := Aside0.mk hy487
        clear hy487
        have H' := Aside0.mk H
        clear H
        have p486 : 0 ≤ (x4_1 : Int) := of_decide_eq_true y19
        have q486 : x4_1 < (l0.length : Int) := of_decide_eq_true y19
        obtain ⟨ad486, e486, hx486_0⟩ := Kd.at_int HR0.out x4_1 p486 q486
        cases e486
        replace hx486_0 := (HB.out.cell (World.block_lt_of_cell? w _ hx486_0)).trans hx486_0
        replace p486 := eq_true p486
        replace q486 := eq_true q486
        have p9 : 0 ≤ (x4_1 : Int) := of_decide_eq_true y19
        have q9 : (x4_1 : Int) < ((x3_1.length : Int) : Int) := of_decide_eq_true y19
        obtain ⟨go9, co9, eo9, gb9, gl9, cl9, HG9⟩ := Kd.R_form HO_3.out (by omega)
        (first | cases eo9 | (injection eo9 with ea_ en_ ec_; (first | subst ea_ | (injection ea_ with ea_; subst ea_)); subst ec_; clear en_))
        have GB9 := Aside0.mk gb9
        have GG9 := Aside0.mk HG9
        clear gb9 gl9 HG9
        obtain ⟨hx9_0, hf9_0⟩ := Kd.R_celln 0 HO_3.out (x4_1 : Int) p9 q9
        replace p9 := eq_true p9
        replace q9 := eq_true q9
        have HP10 := Kd.R_putg HO_3.out (x4_1 : Int) (rd l0 x4_1)
        go_wp2_with (first | ((with_reducible refine gate_store (t := 3) (p := 20) rfl ?_); refine store_event (t := 3) (p := 20) (v := ?vo_w11) (w1 := (wr.setCell ⟨go9, (x4_1 : Int).toNat, none⟩ (.int .i64 (rd l0 x4_1)))) ?hg ?ho ?hn ?hr ?_; (case ho => rfl); (case hg => rfl); (case hn => rfl); (case hr => first | (go_simp; done) | (go_simp; rfl)); intro w11 hw; have hg : wr.grownBy w11 (some go9) := (by rw [hw]; exact HP10.2); have hp_ : Kd.R (Kd.int .i64) 3 w11 w.heap.size (fun _ => True) (.slice (some ⟨go9, 0, none⟩) x3_1.length co9) y487 := (by rw [hw, Ny487.out]; exact HP10.1); clear HP10; replace HO_3 := Aside0.mk (hp_); replace HB := Aside0.mk ((by rw [hw]; exact below_set (HB.out) GB9.out : Below w.heap.size w w11)); clear hg hw hp_))
        go_roundg k1
        case measure => have := HK1.out; omega
        case rel => exact ⟨(y487), (wrap64 (x4_1 + 1)), y26, H', ⟨(y46 HK1.out)⟩, ⟨(y10 HO_3.out)⟩, ⟨(y2 HB.out)⟩⟩
       ·rw [if_neg c8] at H
        exact absurd H (by simp)
      ·rw [if_neg c7] at H
       exact absurd H (by simp)
     ·rw [if_neg c6] at H
      have c6b0 : decide (x4_1 < (l0.length : Int)) = false := decide_eq_false c6
      clear c6
      obtain rfl := Option.some.inj H
      go_wp2
      go_ret
      exact ⟨_, y14, (y10 HO_3.out), (y2 HB.out)⟩
  ·rw [if_neg c3] at H
   exact absurd H (by simp)
 ·rw [if_neg c2] at H
  exact absurd H (by simp)
end Go.Proofs.Ytjhbhihfifhljaa.PA
end
section
namespace Go.Proofs.Ytjhbhihfifhljaa.PA
open Go.RowKit Go.Proofs.YtjhbhihfifhljaaW.PrintWords Go.Proofs.YtjhbhihfifhljaaW.PrintLast Go.Proofs.YtjhbhihfifhljaaW.PrintMore
attribute [local go_sem] max2_int min2_int max_two min_two max_three min_three max_four min_four
set_option linter.unusedVariables false
set_option linter.unusedSimpArgs false
def laws_eqIntS.l0 : Nat → List Int → List Int → Int → Option (Bool)
 | 0, _, _, _ => none
 | k + 1, x0, x1, x5 => if x5 < (x0.length : Int) then (if 0 ≤ x5 then (if x5 < (x1.length : Int) then (if (rd x0 x5) = (rd x1 x5) then (laws_eqIntS.l0 k x0 x1 (wrap64 (x5 + 1))) else (some false)) else (none)) else (none)) else (some true)
def laws_eqIntS.f (k : Nat) (l0 : List Int) (l1 : List Int) : Option (Bool) := if (l0.length : Int) = (l1.length : Int) then (laws_eqIntS.l0 k l0 l1 0) else (some false)
theorem laws_eqIntS.mono_l : ∀ k, (∀ y0 y1 y2, LeO (laws_eqIntS.l0 k y0 y1 y2) (laws_eqIntS.l0 (k + 1) y0 y1 y2))
 | 0 => fun _ _ _ r h => by simp [laws_eqIntS.l0] at h
 | k + 1 => by
  have ih0 := laws_eqIntS.mono_l k
  ·intro y0 y1 y2
   unfold laws_eqIntS.l0
   repeat' first
   | (with_reducible exact ih0 _ _ _)
   | (with_reducible exact LeO.refl _)
   | (with_reducible exact LeO.none _)
   | (with_reducible refine LeO.ite ?_ ?_)
   | (with_reducible refine LeO.bind ?_ (fun _ => ?_))
   | exact ih0 _ _ _
   | exact LeO.none _
   | refine LeO.ite ?_ ?_
   | refine LeO.bind ?_ (fun _ => ?_)
theorem laws_eqIntS.mono : ∀ a0 a1 k, LeO (laws_eqIntS.f k a0 a1) (laws_eqIntS.f (k + 1) a0 a1) := by
 intro a0 a1 k
 have ih0 := laws_eqIntS.mono_l k
 unfold laws_eqIntS.f
 repeat' first
   | (with_reducible exact ih0 _ _ _)
   | (with_reducible exact LeO.refl _)
   | (with_reducible exact LeO.none _)
   | (with_reducible refine LeO.ite ?_ ?_)
   | (with_reducible refine LeO.bind ?_ (fun _ => ?_))
   | exact ih0 _ _ _
   | exact LeO.none _
   | refine LeO.ite ?_ ?_
   | refine LeO.bind ?_ (fun _ => ?_)
set_option maxHeartbeats 8000000 in
set_option maxRecDepth 100000 in
theorem laws_eqIntS.calls (k : Nat) (A0 : Option Addr) (c0 : Nat) (l0 : List Int) (A1 : Option Addr) (c1 : Nat) (l1 : List Int) (r : Bool) (w : World) (hr0 : Kd.C (Kd.int .i64) w A0 l0.length l0) (hc0 : l0.length ≤ c0) (hr1 : Kd.C (Kd.int .i64) w A1 l1.length l1) (hc1 : l1.length ≤ c1) (h : laws_eqIntS.f k l0 l1 = some r) :
  Calls Try.prog 38 #[.slice A0 l0.length c0, .slice A1 l1.length c1] w fun e w' => e = .returned (.bool r) ∧ Drawn0 w w' := by
 have HR0 := Aside0.mk hr0
 have HC0 := Aside0.mk hc0
 clear hr0 hc0
 have HR1 := Aside0.mk hr1
 have HC1 := Aside0.mk hc1
 clear hr1 hc1
 have H : (if (l0.length : Int) = (l1.length : Int) then (laws_eqIntS.l0 k l0 l1 0) else (some false)) = some r := h
 clear h
 by_cases c3 : (l0.length : Int) = (l1.length : Int)
 ·rw [if_pos c3] at H
  have c3b0 : ((l0.length : Int) == (l1.length : Int)) = true := beq_iff_eq.mpr c3
  have c3b1 : ((l0.length : Int) != (l1.length : Int)) = false := bne_eq_false_iff_eq.mpr c3
  have c3b2 : (l0.length == l1.length) = true := by first | simpa using c3 | (simp at c3 ⊢; omega)
  clear c3
  have H' := Aside0.mk H
  clear H
  go_enter Try.func38, Try.ntmps38
  go_wp2
  repeat (go_quiet (fail); try go_wp2)
  go_loopg [5] k (fun kq v5 w' => ∃ (x5_1 : Int), v5 = .int .i64 x5_1 ∧ Aside0 (laws_eqIntS.l0 kq l0 l1 x5_1 = some r) ∧ Aside0 (kq ≤ k) ∧ Drawn0 w w')
  case atStart => exact ⟨(0), y26, H', ⟨Nat.le_refl _⟩, y37⟩
  case round =>
   clear H'
   try clear c1
   try clear p2
   try clear c3
   try clear c3b0
   try clear c3b1
   try clear c3b2
   obtain ⟨x5_1, rfl, HA, HK1, ⟨m1, rfl⟩⟩ := hrel
   cases gk with
   | zero => exact absurd HA.out (by simp [laws_eqIntS.l0])
   | succ k1 =>
    have H := HA.out
    clear HA
    simp only [laws_eqIntS.l0] at H
    by_cases c4 : x5_1 < (l0.length : Int)
    ·rw [if_pos c4] at H
     have c4b0 : decide (x5_1 < (l0.length : Int)) = true := decide_eq_true c4
     clear c4
     by_cases c5 : 0 ≤ x5_1
     ·rw [if_pos c5] at H
      have c5b0 : decide (0 ≤ x5_1) = true := decide_eq_true c5
      clear c5
      by_cases c6 : x5_1 < (l1.length : Int)
      ·rw [if_pos c6] at H
       have c6b0 : decide (x5_1 < (l1.length : Int)) = true := decide_eq_true c6
       clear c6
       by_cases c7 : (rd l0 x5_1) = (rd l1 x5_1)
       ·rw [if_pos c7] at H
        have c7b0 : ((rd l0 x5_1) == (rd l1 x5_1)) = true := beq_iff_eq.mpr c7
        have c7b1 : ((rd l0 x5_1) != (rd l1 x5_1)) = false := bne_eq_false_iff_eq.mpr c7
        clear c7
        have H' := Aside0.mk H
        clear H
        have p494 : 0 ≤ (x5_1 : Int) := of_decide_eq_true y19
        have q494 : x5_1 < (l0.length : Int) := of_decide_eq_true y19
        obtain ⟨ad494, e494, hx494_0⟩ := Kd.at_int HR0.out x5_1 p494 q494
        cases e494
        replace p494 := eq_true p494
        replace q494 := eq_true q494
        have p495 : 0 ≤ (x5_1 : Int) := of_decide_eq_true y19
        have q495 : x5_1 < (l1.length : Int) := of_decide_eq_true y19
        obtain ⟨ad495, e495, hx495_0⟩ := Kd.at_int HR1.out x5_1 p495 q495
        cases e495
        replace p495 := eq_true p495
        replace q495 := eq_true q495
        go_wp2
        repeat (go_quiet (fail); try go_wp2)
        go_roundg k1
        case measure => have := HK1.out; omega
        case rel => exact ⟨(wrap64 (x5_1 + 1)), y26, H', ⟨(y46 HK1.out)⟩, y37⟩
       ·rw [if_neg c7] at H
        have c7b0 : ((rd l0 x5_1) == (rd l1 x5_1)) = false := beq_eq_false_iff_ne.mpr c7
        have c7b1 : ((rd l0 x5_1) != (rd l1 x5_1)) = true := bne_iff_ne.mpr c7
        obtain rfl := Option.some.inj H
        have p494 : 0 ≤ (x5_1 : Int) := of_decide_eq_true y19
        have q494 : x5_1 < (l0.length : Int) := of_decide_eq_true y19
        obtain ⟨ad494, e494, hx494_0⟩ := Kd.at_int HR0.out x5_1 p494 q494
        cases e494
        replace p494 := eq_true p494
        replace q494 := eq_true q494
        have p495 : 0 ≤ (x5_1 : Int) := of_decide_eq_true y19
        have q495 : x5_1 < (l1.length : Int) := of_decide_eq_true y19
        obtain ⟨ad495, e495, hx495_0⟩ := Kd.at_int HR1.out x5_1 p495 q495
        cases e495
        replace p495 := eq_true p495
        replace q495 := eq_true q495
        go_wp2
        repeat (go_quiet (fail); try go_wp2)
        go_ret
        exact ⟨y26, y37⟩
      ·rw [if_neg c6] at H
       exact absurd H (by simp)
     ·rw [if_neg c5] at H
      exact absurd H (by simp)
    ·rw [if_neg c4] at H
     have c4b0 : decide (x5_1 < (l0.length : Int)) = false := decide_eq_false c4
     clear c4
     obtain rfl := Option.some.inj H
     go_wp2
     repeat (go_quiet (fail); try go_wp2)
     go_ret
     exact ⟨y26, y37⟩
 ·rw [if_neg c3] at H
  have c3b0 : ((l0.length : Int) == (l1.length : Int)) = false := beq_eq_false_iff_ne.mpr c3
  have c3b1 : ((l0.length : Int) != (l1.length : Int)) = true := bne_iff_ne.mpr c3
  have c3b2 : (l0.length == l1.length) = false := by first | simpa using c3 | (simp at c3 ⊢; omega)
  obtain rfl := Option.some.inj H
  go_enter Try.func38, Try.ntmps38
  go_wp2
  repeat (go_quiet (fail); try go_wp2)
  go_ret
  exact ⟨y26, y37⟩
end Go.Proofs.Ytjhbhihfifhljaa.PA
end
section
namespace Go.Proofs.Ytjhbhihfifhljaa.PA
open Go.RowKit Go.Proofs.YtjhbhihfifhljaaW.PrintWords Go.Proofs.YtjhbhihfifhljaaW.PrintLast Go.Proofs.YtjhbhihfifhljaaW.PrintMore
attribute [local go_sem] max2_int min2_int max_two min_two max_three min_three max_four min_four
set_option linter.unusedVariables false
set_option linter.unusedSimpArgs false
mutual
def laws_markTypeS.l0 : Nat → List (S30) → Int → Int → Option (Int)
 | 0, _, _, _ => none
 | k + 1, x0, x1, x5 => if x5 < (x0.length : Int) then (if 0 ≤ x5 then ((laws_markTypeS.f k ((rd_T30 x0 x5).f0) x1).bind fun t777 => (laws_markTypeS.l0 k x0 t777 (wrap64 (x5 + 1)))) else (none)) else (some x1)
def laws_markTypeS.f : Nat → List (S30) → Int → Option (Int)
 | 0, _, _ => none
 | k + 1, l0, a1 => laws_markTypeS.l0 k l0 a1 0
end
theorem laws_markTypeS.mono_l : ∀ k, (∀ y0 y1, LeO (laws_markTypeS.f k y0 y1) (laws_markTypeS.f (k + 1) y0 y1)) ∧ (∀ y0 y1 y2, LeO (laws_markTypeS.l0 k y0 y1 y2) (laws_markTypeS.l0 (k + 1) y0 y1 y2))
 | 0 => ⟨fun _ _ r h => by simp [laws_markTypeS.f] at h, fun _ _ _ r h => by simp [laws_markTypeS.l0] at h⟩
 | k + 1 => by
  obtain ⟨ih0, ih1⟩ := laws_markTypeS.mono_l k
  refine ⟨?_, ?_⟩
  ·intro y0 y1
   unfold laws_markTypeS.f
   repeat' first
   | (with_reducible exact ih0 _ _)
   | (with_reducible exact ih1 _ _ _)
   | (with_reducible exact LeO.refl _)
   | (with_reducible exact LeO.none _)
   | (with_reducible refine LeO.ite ?_ ?_)
   | (with_reducible refine LeO.bind ?_ (fun _ => ?_))
   | exact ih0 _ _
   | exact ih1 _ _ _
   | exact LeO.none _
   | refine LeO.ite ?_ ?_
   | refine LeO.bind ?_ (fun _ => ?_)
  ·intro y0 y1 y2
   unfold laws_markTypeS.l0
   repeat' first
   | (with_reducible exact ih0 _ _)
   | (with_reducible exact ih1 _ _ _)
   | (with_reducible exact LeO.refl _)
   | (with_reducible exact LeO.none _)
   | (with_reducible refine LeO.ite ?_ ?_)
   | (with_reducible refine LeO.bind ?_ (fun _ => ?_))
   | exact ih0 _ _
   | exact ih1 _ _ _
   | exact LeO.none _
   | refine LeO.ite ?_ ?_
   | refine LeO.bind ?_ (fun _ => ?_)
theorem laws_markTypeS.mono : ∀ a0 a1 k, LeO (laws_markTypeS.f k a0 a1) (laws_markTypeS.f (k + 1) a0 a1) := by
 intro a0 a1 k
 obtain ⟨ih0, ih1⟩ := laws_markTypeS.mono_l k
 exact ih0 a0 a1
set_option maxHeartbeats 8000000 in
set_option maxRecDepth 100000 in
theorem laws_markTypeS.calls (k : Nat) : ∀ (A0 : Option Addr) (c0 : Nat) (l0 : List (S30)) (a1 : Int) (r : Int) (w : World) (hr0 : Kd.C k30 w A0 l0.length l0) (hc0 : l0.length ≤ c0) (h : laws_markTypeS.f k l0 a1 = some r),
  Calls Try.prog 72 #[.slice A0 l0.length c0, .int .i64 a1] w fun e w' => e = .returned (.int .i64 r) ∧ Drawn0 w w' := by
 induction k using Nat.strongRecOn with
 | _ k ih =>
 intro A0 c0 l0 a1 r w hr0 hc0 h
 cases k with
 | zero => exact absurd h (by simp [laws_markTypeS.f])
 | succ k =>
 simp only [laws_markTypeS.f] at h
 have HR0 := Aside0.mk hr0
 have HC0 := Aside0.mk hc0
 clear hr0 hc0
 have H : (laws_markTypeS.l0 k l0 a1 0) = some r := h
 clear h
 have H' := Aside0.mk H
 clear H
 go_enter Try.func72, Try.ntmps72
 go_wp2
 go_loopg [1, 5] k (fun kq v1 v5 w' => ∃ (x1_1 : Int) (x5_1 : Int), v1 = .int .i64 x1_1 ∧ v5 = .int .i64 x5_1 ∧ Aside0 (laws_markTypeS.l0 kq l0 x1_1 x5_1 = some r) ∧ Aside0 (kq ≤ k) ∧ Drawn0 w w')
 case atStart => exact ⟨(a1), (0), y26, y26, H', ⟨Nat.le_refl _⟩, y37⟩
 case round =>
  clear H'
  try clear p2
  obtain ⟨x1_1, x5_1, rfl, rfl, HA, HK1, ⟨m1, rfl⟩⟩ := hrel
  cases gk with
  | zero => exact absurd HA.out (by simp [laws_markTypeS.l0])
  | succ k1 =>
   have H := HA.out
   clear HA
   simp only [laws_markTypeS.l0] at H
   by_cases c3 : x5_1 < (l0.length : Int)
   ·rw [if_pos c3] at H
    have c3b0 : decide (x5_1 < (l0.length : Int)) = true := decide_eq_true c3
    clear c3
    by_cases c4 : 0 ≤ x5_1
    ·rw [if_pos c4] at H
     have c4b0 : decide (0 ≤ x5_1) = true := decide_eq_true c4
     clear c4
     obtain ⟨t777, A50, H⟩ := ob H
     have A5 := Aside0.mk A50
     clear A50
     have H' := Aside0.mk H
     clear H
     have p776 : 0 ≤ (x5_1 : Int) := of_decide_eq_true y19
     have q776 : x5_1 < (l0.length : Int) := of_decide_eq_true y19
     obtain ⟨ad776, A776_0, c776_0, e776, hx776_0, hl776_0, hi776_0⟩ := at_T30 HR0.out x5_1 p776 q776
     cases e776
     have HR776_0 := Aside0.mk hi776_0
     have HC776_0 := Aside0.mk hl776_0
     clear hi776_0 hl776_0
     replace p776 := eq_true p776
     replace q776 := eq_true q776
     go_wp2_with (first | ((with_reducible refine gate_callee (f := 72) rfl ?_); refine goesL_ (some 18) rfl rfl Try.func72 (by kernel_rfl) rfl #[.slice A776_0 ((rd_T30 l0 x5_1).f0).length c776_0, .int .i64 x1_1] rfl y4 ?_; (with_reducible refine (ih k1 (y46 HK1.out) _ _ ((rd_T30 l0 x5_1).f0) x1_1 t777 _ ?side1 ?side2 A5.out).mono ?_); (case side1 => exact y53 HR776_0.out); (case side2 => exact HC776_0.out); rintro e w' ⟨rfl, ⟨nd, rfl⟩⟩; refine ⟨_, rfl, ?_⟩))
     go_roundg k1
     case measure => have := HK1.out; omega
     case rel => exact ⟨(t777), (wrap64 (x5_1 + 1)), y26, y26, H', ⟨(y46 HK1.out)⟩, y37⟩
    ·rw [if_neg c4] at H
     exact absurd H (by simp)
   ·rw [if_neg c3] at H
    have c3b0 : decide (x5_1 < (l0.length : Int)) = false := decide_eq_false c3
    clear c3
    obtain rfl := Option.some.inj H
    go_wp2
    go_ret
    exact ⟨y26, y37⟩
end Go.Proofs.Ytjhbhihfifhljaa.PA
end
section
namespace Go.Proofs.Ytjhbhihfifhljaa.PA
open Go.RowKit Go.Proofs.YtjhbhihfifhljaaW.PrintWords Go.Proofs.YtjhbhihfifhljaaW.PrintLast Go.Proofs.YtjhbhihfifhljaaW.PrintMore
attribute [local go_sem] max2_int min2_int max_two min_two max_three min_three max_four min_four
set_option linter.unusedVariables false
set_option linter.unusedSimpArgs false
def laws_markType.f (k : Nat) (l0_0 : List (S30)) (a1 : Int) : Option (Int) := (laws_markTypeS.f k l0_0 a1).bind fun t779 => (some t779)
theorem laws_markType.mono : ∀ a0 a1 k, LeO (laws_markType.f k a0 a1) (laws_markType.f (k + 1) a0 a1) := by
 intro a0 a1 k
 unfold laws_markType.f
 repeat' first
   | (with_reducible exact laws_markTypeS.mono _ _ _)
   | (with_reducible exact LeO.refl _)
   | (with_reducible exact LeO.none _)
   | (with_reducible refine LeO.ite ?_ ?_)
   | (with_reducible refine LeO.bind ?_ (fun _ => ?_))
   | exact laws_markTypeS.mono _ _ _
   | exact LeO.none _
   | refine LeO.ite ?_ ?_
   | refine LeO.bind ?_ (fun _ => ?_)
set_option maxHeartbeats 8000000 in
set_option maxRecDepth 100000 in
theorem laws_markType.calls (k : Nat) (A0_0 : Option Addr) (c0_0 : Nat) (l0_0 : List (S30)) (a1 : Int) (r : Int) (w : World) (hr0_0 : Kd.C k30 w A0_0 l0_0.length l0_0) (hc0_0 : l0_0.length ≤ c0_0) (h : laws_markType.f k l0_0 a1 = some r) :
  Calls Try.prog 39 #[.agg #[.slice A0_0 l0_0.length c0_0], .int .i64 a1] w fun e w' => e = .returned (.int .i64 r) ∧ Below w.heap.size w w' := by
 have hu30 := Try.underlying30
 have HR0_0 := Aside0.mk hr0_0
 have HC0_0 := Aside0.mk hc0_0
 clear hr0_0 hc0_0
 have HB := Aside0.mk (Below.refl w.heap.size w)
 have H : ((laws_markTypeS.f k l0_0 a1).bind fun t779 => (some t779)) = some r := h
 clear h
 obtain ⟨t779, A30, H⟩ := ob H
 have A3 := Aside0.mk A30
 clear A30
 obtain rfl := Option.some.inj H
 go_enter Try.func39, Try.ntmps39
 go_wp2_with (first | ((with_reducible refine gate_dst (N := 2) rfl ?_); refine zbx 2 #[.slice A0_0 l0_0.length c0_0] 30 ?_; intro gb778 hg w4 hbox hb; have BK778 := Aside0.mk hbox; have GW778 := Aside0.mk ((y5 hg HB.out : w.heap.size ≤ gb778)); have GE778 := Aside0.mk ((y5 hg HB.out : w.heap.size ≤ gb778)); replace HB := Aside0.mk (below_step (y2 HB.out) hb); clear hb hbox hg; have hcz5_0 := zh BK778; have hfz5_0 := zfr BK778 0) | ((with_reducible refine gate_callee (f := 72) rfl ?_); refine goesL_ (some 8) rfl rfl Try.func72 (by kernel_rfl) rfl #[.slice A0_0 l0_0.length c0_0, .int .i64 a1] rfl y4 ?_; (with_reducible refine (laws_markTypeS.calls k _ _ l0_0 a1 t779 _ ?side1 ?side2 A3.out).mono ?_); (case side1 => exact y8 HR0_0.out HB.out); (case side2 => exact HC0_0.out); rintro e w' ⟨rfl, ⟨nd, rfl⟩⟩; refine ⟨_, rfl, ?_⟩))
 go_ret
 exact ⟨y14, (y3 HB.out GE778.out)⟩
end Go.Proofs.Ytjhbhihfifhljaa.PA
end
section
namespace Go.Proofs.Ytjhbhihfifhljaa.PA
open Go.RowKit Go.Proofs.YtjhbhihfifhljaaW.PrintWords Go.Proofs.YtjhbhihfifhljaaW.PrintLast Go.Proofs.YtjhbhihfifhljaaW.PrintMore
attribute [local go_sem] max2_int min2_int max_two min_two max_three min_three max_four min_four
set_option linter.unusedVariables false
set_option linter.unusedSimpArgs false
def laws_markIntS.l0 : Nat → List Int → Int → Int → Option (Int × List Int)
 | 0, _, _, _ => none
 | k + 1, x0, x1, x5 => if x5 < (x0.length : Int) then (if 0 ≤ x5 then (laws_markIntS.l0 k (x0.set (x5 : Int).toNat x1) (wrap64 (x1 + 1)) (wrap64 (x5 + 1))) else (none)) else (some (x1, x0))
def laws_markIntS.f (k : Nat) (l0 : List Int) (a1 : Int) : Option (Int × List Int) := laws_markIntS.l0 k l0 a1 0
theorem laws_markIntS.mono_l : ∀ k, (∀ y0 y1 y2, LeO (laws_markIntS.l0 k y0 y1 y2) (laws_markIntS.l0 (k + 1) y0 y1 y2))
 | 0 => fun _ _ _ r h => by simp [laws_markIntS.l0] at h
 | k + 1 => by
  have ih0 := laws_markIntS.mono_l k
  ·intro y0 y1 y2
   unfold laws_markIntS.l0
   repeat' first
   | (with_reducible exact ih0 _ _ _)
   | (with_reducible exact LeO.refl _)
   | (with_reducible exact LeO.none _)
   | (with_reducible refine LeO.ite ?_ ?_)
   | (with_reducible refine LeO.bind ?_ (fun _ => ?_))
   | exact ih0 _ _ _
   | exact LeO.none _
   | refine LeO.ite ?_ ?_
   | refine LeO.bind ?_ (fun _ => ?_)
theorem laws_markIntS.mono : ∀ a0 a1 k, LeO (laws_markIntS.f k a0 a1) (laws_markIntS.f (k + 1) a0 a1) := by
 intro a0 a1 k
 have ih0 := laws_markIntS.mono_l k
 unfold laws_markIntS.f
 repeat' first
   | (with_reducible exact ih0 _ _ _)
   | (with_reducible exact LeO.refl _)
   | (with_reducible exact LeO.none _)
   | (with_reducible refine LeO.ite ?_ ?_)
   | (with_reducible refine LeO.bind ?_ (fun _ => ?_))
   | exact ih0 _ _ _
   | exact LeO.none _
   | refine LeO.ite ?_ ?_
   | refine LeO.bind ?_ (fun _ => ?_)
set_option maxHeartbeats 8000000 in
set_option maxRecDepth 100000 in
theorem laws_markIntS.calls (k : Nat) (P0_ : Nat → Prop) (u9000_ : Value) (l0 : List Int) (a1 : Int) (r1 : Int) (r2 : List Int) (w0 w : World) (hB : Below w0.heap.size w0 w) (ho0 : Kd.R (Kd.int .i64) 3 w w0.heap.size P0_ u9000_ l0) (h : laws_markIntS.f k l0 a1 = some (r1, r2)) :
  Calls Try.prog 40 #[u9000_, .int .i64 a1] w fun e w' => e = .returned (.int .i64 r1) ∧ Kd.R (Kd.int .i64) 3 w' w0.heap.size (fun k_ => (P0_ k_ ∨ w.heap.size ≤ k_)) u9000_ r2 ∧ Below w0.heap.size w0 w' ∧ Kept w w' (fun k_ => P0_ k_) := by
 have HO0 := Aside0.mk (show Kd.R (Kd.int .i64) 3 w w0.heap.size (fun k_ => (P0_ k_ ∨ w.heap.size ≤ k_)) u9000_ l0 from Kd.R_mono ho0 (fun k_ hk => (.inl hk)))
 have HK := Aside0.mk (Kept.refl w (fun k_ => P0_ k_))
 have HW0 := Aside0.mk hB.size
 have HB := Aside0.mk hB
 clear hB
 have H : (laws_markIntS.l0 k l0 a1 0) = some (r1, r2) := h
 clear h
 have H' := Aside0.mk H
 clear H
 go_enter Try.func40, Try.ntmps40
 go_wp2
 go_loopg [1, 5] k (fun kq v1 v5 w' => ∃ (x0_1 : List Int) (x1_1 : Int) (x5_1 : Int), v1 = .int .i64 x1_1 ∧ v5 = .int .i64 x5_1 ∧ Aside0 (laws_markIntS.l0 kq x0_1 x1_1 x5_1 = some (r1, r2)) ∧ Aside0 (kq ≤ k) ∧ Aside0 (Kd.R (Kd.int .i64) 3 w' w0.heap.size (fun k_ => (P0_ k_ ∨ w.heap.size ≤ k_)) u9000_ x0_1) ∧ Aside0 (Kept w w' (fun k_ => P0_ k_)) ∧ Aside0 (Below w0.heap.size w0 w'))
 case atStart => exact ⟨(l0), (a1), (0), y26, y26, H', ⟨Nat.le_refl _⟩, ⟨(y10 HO0.out)⟩, ⟨(y60 HK.out)⟩, ⟨(y2 HB.out)⟩⟩
 case round =>
  clear H'
  try clear p2
  obtain ⟨x0_1, x1_1, x5_1, rfl, rfl, HA, HK1, HO_0, HK, HB⟩ := hrel
  cases gk with
  | zero => exact absurd HA.out (by simp [laws_markIntS.l0])
  | succ k1 =>
   have H := HA.out
   clear HA
   simp only [laws_markIntS.l0] at H
   by_cases c3 : x5_1 < (x0_1.length : Int)
   ·rw [if_pos c3] at H
    have c3b0 : decide (x5_1 < (x0_1.length : Int)) = true := decide_eq_true c3
    clear c3
    by_cases c4 : 0 ≤ x5_1
    ·rw [if_pos c4] at H
     have c4b0 : decide (0 ≤ x5_1) = true := decide_eq_true c4
     clear c4
     obtain ⟨y780, hy780⟩ : ∃ y_ : List Int, y_ = (x0_1.set (x5_1 : Int).toNat x1_1) := ⟨_, rfl⟩
     replace H : (laws_markIntS.l0 k1 y780 (wrap64 (x1_1 + 1)) (wrap64 (x5_1 + 1))) = some (r1, r2) := by first | (rw [hy780]; with_reducible exact H) | (have H2_ := (Option.bind_some _ _).symm.trans H; rw [hy780]; with_reducible exact H2_) | (have H2_ := (Option.bind_some _ _).symm.trans H; with_reducible exact H2_) | with_reducible exact H | (rw [hy780]; exact H) | exact H
     have Ny780 := Aside0.mk hy780
     clear hy780
     have H' := Aside0.mk H
     clear H
     obtain ⟨Ao6, co6, eo6⟩ := Kd.R_slice HO_0.out
     subst eo6
     have p5 : 0 ≤ (x5_1 : Int) := of_decide_eq_true y19
     have q5 : (x5_1 : Int) < ((x0_1.length : Int) : Int) := of_decide_eq_true y19
     obtain ⟨go5, co5, eo5, gb5, gl5, cl5, HG5⟩ := Kd.R_form HO_0.out (by omega)
     (first | cases eo5 | (injection eo5 with ea_ en_ ec_; (first | subst ea_ | (injection ea_ with ea_; subst ea_)); subst ec_; clear en_))
     have GB5 := Aside0.mk gb5
     have GG5 := Aside0.mk HG5
     clear gb5 gl5 HG5
     have HMgo5 := Aside0.mk (show (P0_ go5 ∨ w.heap.size ≤ go5) from (HO_0.out.1 _ rfl))
     obtain ⟨hx5_0, hf5_0⟩ := Kd.R_celln 0 HO_0.out (x5_1 : Int) p5 q5
     replace p5 := eq_true p5
     replace q5 := eq_true q5
     have HP7 := Kd.R_putg HO_0.out (x5_1 : Int) x1_1
     go_wp2_with (first | ((with_reducible refine gate_store (t := 3) (p := 15) rfl ?_); refine store_event (t := 3) (p := 15) (v := ?vo_w8) (w1 := (wr.setCell ⟨go5, (x5_1 : Int).toNat, none⟩ (.int .i64 x1_1))) ?hg ?ho ?hn ?hr ?_; (case ho => rfl); (case hg => rfl); (case hn => rfl); (case hr => first | (go_simp; done) | (go_simp; rfl)); intro w8 hw; have hg : wr.grownBy w8 (some go5) := (by rw [hw]; exact HP7.2); have hp_ : Kd.R (Kd.int .i64) 3 w8 w0.heap.size (fun k_ => (P0_ k_ ∨ w.heap.size ≤ k_)) (.slice (some ⟨go5, 0, none⟩) x0_1.length co6) y780 := (by rw [hw, Ny780.out]; exact HP7.1); clear HP7; replace HB := Aside0.mk ((by rw [hw]; exact below_set (HB.out) GB5.out : Below w0.heap.size w0 w8)); replace HK := Aside0.mk (Kept.of_grown (S := (fun k_ => P0_ k_)) hg (y60 HK.out) (fun k_ e_ => (HO_0.out.1 k_ e_))); replace HO_0 := Aside0.mk (hp_); clear hg hw hp_))
     go_roundg k1
     case measure => have := HK1.out; omega
     case rel => exact ⟨(y780), (wrap64 (x1_1 + 1)), (wrap64 (x5_1 + 1)), y26, y26, H', ⟨(y46 HK1.out)⟩, ⟨(y10 HO_0.out)⟩, ⟨(y60 HK.out)⟩, ⟨(y2 HB.out)⟩⟩
    ·rw [if_neg c4] at H
     exact absurd H (by simp)
   ·rw [if_neg c3] at H
    have c3b0 : decide (x5_1 < (x0_1.length : Int)) = false := decide_eq_false c3
    clear c3
    simp only [Option.some.injEq, Prod.mk.injEq] at H
    obtain ⟨rfl, rfl⟩ := H
    obtain ⟨Ao9, co9, eo9⟩ := Kd.R_slice HO_0.out
    subst eo9
    go_wp2
    go_ret
    exact ⟨y14, (y10 HO_0.out), (y2 HB.out), (y60 HK.out)⟩
end Go.Proofs.Ytjhbhihfifhljaa.PA
end
section
namespace Go.Proofs.Ytjhbhihfifhljaa.PA
open Go.RowKit Go.Proofs.YtjhbhihfifhljaaW.PrintWords Go.Proofs.YtjhbhihfifhljaaW.PrintLast Go.Proofs.YtjhbhihfifhljaaW.PrintMore
attribute [local go_sem] max2_int min2_int max_two min_two max_three min_three max_four min_four
set_option linter.unusedVariables false
set_option linter.unusedSimpArgs false
mutual
def laws_heldTypeS.l0 : Nat → List (S30) → Int → Int → Option (Int)
 | 0, _, _, _ => none
 | k + 1, x0, x1, x5 => if x5 < (x0.length : Int) then (if 0 ≤ x5 then ((laws_heldTypeS.f k ((rd_T30 x0 x5).f0) x1).bind fun t782 => (if t782 < 0 then (some (-1)) else (laws_heldTypeS.l0 k x0 t782 (wrap64 (x5 + 1))))) else (none)) else (some x1)
def laws_heldTypeS.f : Nat → List (S30) → Int → Option (Int)
 | 0, _, _ => none
 | k + 1, l0, a1 => laws_heldTypeS.l0 k l0 a1 0
end
theorem laws_heldTypeS.mono_l : ∀ k, (∀ y0 y1, LeO (laws_heldTypeS.f k y0 y1) (laws_heldTypeS.f (k + 1) y0 y1)) ∧ (∀ y0 y1 y2, LeO (laws_heldTypeS.l0 k y0 y1 y2) (laws_heldTypeS.l0 (k + 1) y0 y1 y2))
 | 0 => ⟨fun _ _ r h => by simp [laws_heldTypeS.f] at h, fun _ _ _ r h => by simp [laws_heldTypeS.l0] at h⟩
 | k + 1 => by
  obtain ⟨ih0, ih1⟩ := laws_heldTypeS.mono_l k
  refine ⟨?_, ?_⟩
  ·intro y0 y1
   unfold laws_heldTypeS.f
   repeat' first
   | (with_reducible exact ih0 _ _)
   | (with_reducible exact ih1 _ _ _)
   | (with_reducible exact LeO.refl _)
   | (with_reducible exact LeO.none _)
   | (with_reducible refine LeO.ite ?_ ?_)
   | (with_reducible refine LeO.bind ?_ (fun _ => ?_))
   | exact ih0 _ _
   | exact ih1 _ _ _
   | exact LeO.none _
   | refine LeO.ite ?_ ?_
   | refine LeO.bind ?_ (fun _ => ?_)
  ·intro y0 y1 y2
   unfold laws_heldTypeS.l0
   repeat' first
   | (with_reducible exact ih0 _ _)
   | (with_reducible exact ih1 _ _ _)
   | (with_reducible exact LeO.refl _)
   | (with_reducible exact LeO.none _)
   | (with_reducible refine LeO.ite ?_ ?_)
   | (with_reducible refine LeO.bind ?_ (fun _ => ?_))
   | exact ih0 _ _
   | exact ih1 _ _ _
   | exact LeO.none _
   | refine LeO.ite ?_ ?_
   | refine LeO.bind ?_ (fun _ => ?_)
theorem laws_heldTypeS.mono : ∀ a0 a1 k, LeO (laws_heldTypeS.f k a0 a1) (laws_heldTypeS.f (k + 1) a0 a1) := by
 intro a0 a1 k
 obtain ⟨ih0, ih1⟩ := laws_heldTypeS.mono_l k
 exact ih0 a0 a1
set_option maxHeartbeats 8000000 in
set_option maxRecDepth 100000 in
theorem laws_heldTypeS.calls (k : Nat) : ∀ (A0 : Option Addr) (c0 : Nat) (l0 : List (S30)) (a1 : Int) (r : Int) (w : World) (hr0 : Kd.C k30 w A0 l0.length l0) (hc0 : l0.length ≤ c0) (h : laws_heldTypeS.f k l0 a1 = some r),
  Calls Try.prog 73 #[.slice A0 l0.length c0, .int .i64 a1] w fun e w' => e = .returned (.int .i64 r) ∧ Drawn0 w w' := by
 induction k using Nat.strongRecOn with
 | _ k ih =>
 intro A0 c0 l0 a1 r w hr0 hc0 h
 cases k with
 | zero => exact absurd h (by simp [laws_heldTypeS.f])
 | succ k =>
 simp only [laws_heldTypeS.f] at h
 have HR0 := Aside0.mk hr0
 have HC0 := Aside0.mk hc0
 clear hr0 hc0
 have H : (laws_heldTypeS.l0 k l0 a1 0) = some r := h
 clear h
 have H' := Aside0.mk H
 clear H
 go_enter Try.func73, Try.ntmps73
 go_wp2
 go_loopg [1, 5] k (fun kq v1 v5 w' => ∃ (x1_1 : Int) (x5_1 : Int), v1 = .int .i64 x1_1 ∧ v5 = .int .i64 x5_1 ∧ Aside0 (laws_heldTypeS.l0 kq l0 x1_1 x5_1 = some r) ∧ Aside0 (kq ≤ k) ∧ Drawn0 w w')
 case atStart => exact ⟨(a1), (0), y26, y26, H', ⟨Nat.le_refl _⟩, y37⟩
 case round =>
  clear H'
  try clear p2
  obtain ⟨x1_1, x5_1, rfl, rfl, HA, HK1, ⟨m1, rfl⟩⟩ := hrel
  cases gk with
  | zero => exact absurd HA.out (by simp [laws_heldTypeS.l0])
  | succ k1 =>
   have H := HA.out
   clear HA
   simp only [laws_heldTypeS.l0] at H
   by_cases c3 : x5_1 < (l0.length : Int)
   ·rw [if_pos c3] at H
    have c3b0 : decide (x5_1 < (l0.length : Int)) = true := decide_eq_true c3
    clear c3
    by_cases c4 : 0 ≤ x5_1
    ·rw [if_pos c4] at H
     have c4b0 : decide (0 ≤ x5_1) = true := decide_eq_true c4
     clear c4
     obtain ⟨t782, A50, H⟩ := ob H
     have A5 := Aside0.mk A50
     clear A50
     by_cases c6 : t782 < 0
     ·rw [if_pos c6] at H
      have c6b0 : decide (t782 < 0) = true := decide_eq_true c6
      clear c6
      obtain rfl := Option.some.inj H
      have p781 : 0 ≤ (x5_1 : Int) := of_decide_eq_true y19
      have q781 : x5_1 < (l0.length : Int) := of_decide_eq_true y19
      obtain ⟨ad781, A781_0, c781_0, e781, hx781_0, hl781_0, hi781_0⟩ := at_T30 HR0.out x5_1 p781 q781
      cases e781
      have HR781_0 := Aside0.mk hi781_0
      have HC781_0 := Aside0.mk hl781_0
      clear hi781_0 hl781_0
      replace p781 := eq_true p781
      replace q781 := eq_true q781
      go_wp2_with (first | ((with_reducible refine gate_callee (f := 73) rfl ?_); refine goesL_ (some 18) rfl rfl Try.func73 (by kernel_rfl) rfl #[.slice A781_0 ((rd_T30 l0 x5_1).f0).length c781_0, .int .i64 x1_1] rfl y4 ?_; (with_reducible refine (ih k1 (y46 HK1.out) _ _ ((rd_T30 l0 x5_1).f0) x1_1 t782 _ ?side1 ?side2 A5.out).mono ?_); (case side1 => exact y53 HR781_0.out); (case side2 => exact HC781_0.out); rintro e w' ⟨rfl, ⟨nd, rfl⟩⟩; refine ⟨_, rfl, ?_⟩))
      go_ret
      exact ⟨y26, y37⟩
     ·rw [if_neg c6] at H
      have c6b0 : decide (t782 < 0) = false := decide_eq_false c6
      clear c6
      have H' := Aside0.mk H
      clear H
      have p781 : 0 ≤ (x5_1 : Int) := of_decide_eq_true y19
      have q781 : x5_1 < (l0.length : Int) := of_decide_eq_true y19
      obtain ⟨ad781, A781_0, c781_0, e781, hx781_0, hl781_0, hi781_0⟩ := at_T30 HR0.out x5_1 p781 q781
      cases e781
      have HR781_0 := Aside0.mk hi781_0
      have HC781_0 := Aside0.mk hl781_0
      clear hi781_0 hl781_0
      replace p781 := eq_true p781
      replace q781 := eq_true q781
      go_wp2_with (first | ((with_reducible refine gate_callee (f := 73) rfl ?_); refine goesL_ (some 18) rfl rfl Try.func73 (by kernel_rfl) rfl #[.slice A781_0 ((rd_T30 l0 x5_1).f0).length c781_0, .int .i64 x1_1] rfl y4 ?_; (with_reducible refine (ih k1 (y46 HK1.out) _ _ ((rd_T30 l0 x5_1).f0) x1_1 t782 _ ?side1 ?side2 A5.out).mono ?_); (case side1 => exact y53 HR781_0.out); (case side2 => exact HC781_0.out); rintro e w' ⟨rfl, ⟨nd, rfl⟩⟩; refine ⟨_, rfl, ?_⟩))
      go_roundg k1
      case measure => have := HK1.out; omega
      case rel => exact ⟨(t782), (wrap64 (x5_1 + 1)), y26, y26, H', ⟨(y46 HK1.out)⟩, y37⟩
    ·rw [if_neg c4] at H
     exact absurd H (by simp)
   ·rw [if_neg c3] at H
    have c3b0 : decide (x5_1 < (l0.length : Int)) = false := decide_eq_false c3
    clear c3
    obtain rfl := Option.some.inj H
    go_wp2
    go_ret
    exact ⟨y26, y37⟩
end Go.Proofs.Ytjhbhihfifhljaa.PA
end
section
namespace Go.Proofs.Ytjhbhihfifhljaa.PA
open Go.RowKit Go.Proofs.YtjhbhihfifhljaaW.PrintWords Go.Proofs.YtjhbhihfifhljaaW.PrintLast Go.Proofs.YtjhbhihfifhljaaW.PrintMore
attribute [local go_sem] max2_int min2_int max_two min_two max_three min_three max_four min_four
set_option linter.unusedVariables false
set_option linter.unusedSimpArgs false
def laws_heldType.f (k : Nat) (l0_0 : List (S30)) (a1 : Int) : Option (Int) := (laws_heldTypeS.f k l0_0 a1).bind fun t784 => (if t784 < 0 then (some (-1)) else (some t784))
theorem laws_heldType.mono : ∀ a0 a1 k, LeO (laws_heldType.f k a0 a1) (laws_heldType.f (k + 1) a0 a1) := by
 intro a0 a1 k
 unfold laws_heldType.f
 repeat' first
   | (with_reducible exact laws_heldTypeS.mono _ _ _)
   | (with_reducible exact LeO.refl _)
   | (with_reducible exact LeO.none _)
   | (with_reducible refine LeO.ite ?_ ?_)
   | (with_reducible refine LeO.bind ?_ (fun _ => ?_))
   | exact laws_heldTypeS.mono _ _ _
   | exact LeO.none _
   | refine LeO.ite ?_ ?_
   | refine LeO.bind ?_ (fun _ => ?_)
set_option maxHeartbeats 8000000 in
set_option maxRecDepth 100000 in
theorem laws_heldType.calls (k : Nat) (A0_0 : Option Addr) (c0_0 : Nat) (l0_0 : List (S30)) (a1 : Int) (r : Int) (w : World) (hr0_0 : Kd.C k30 w A0_0 l0_0.length l0_0) (hc0_0 : l0_0.length ≤ c0_0) (h : laws_heldType.f k l0_0 a1 = some r) :
  Calls Try.prog 41 #[.agg #[.slice A0_0 l0_0.length c0_0], .int .i64 a1] w fun e w' => e = .returned (.int .i64 r) ∧ Below w.heap.size w w' := by
 have hu30 := Try.underlying30
 have HR0_0 := Aside0.mk hr0_0
 have HC0_0 := Aside0.mk hc0_0
 clear hr0_0 hc0_0
 have HB := Aside0.mk (Below.refl w.heap.size w)
 have H : ((laws_heldTypeS.f k l0_0 a1).bind fun t784 => (if t784 < 0 then (some (-1)) else (some t784))) = some r := h
 clear h
 obtain ⟨t784, A30, H⟩ := ob H
 have A3 := Aside0.mk A30
 clear A30
 by_cases c4 : t784 < 0
 ·rw [if_pos c4] at H
  have c4b0 : decide (t784 < 0) = true := decide_eq_true c4
  clear c4
  obtain rfl := Option.some.inj H
  go_enter Try.func41, Try.ntmps41
  go_wp2_with (first | ((with_reducible refine gate_dst (N := 2) rfl ?_); refine zbx 2 #[.slice A0_0 l0_0.length c0_0] 30 ?_; intro gb783 hg w5 hbox hb; have BK783 := Aside0.mk hbox; have GW783 := Aside0.mk ((y5 hg HB.out : w.heap.size ≤ gb783)); have GE783 := Aside0.mk ((y5 hg HB.out : w.heap.size ≤ gb783)); replace HB := Aside0.mk (below_step (y2 HB.out) hb); clear hb hbox hg; have hcz6_0 := zh BK783; have hfz6_0 := zfr BK783 0) | ((with_reducible refine gate_callee (f := 73) rfl ?_); refine goesL_ (some 8) rfl rfl Try.func73 (by kernel_rfl) rfl #[.slice A0_0 l0_0.length c0_0, .int .i64 a1] rfl y4 ?_; (with_reducible refine (laws_heldTypeS.calls k _ _ l0_0 a1 t784 _ ?side1 ?side2 A3.out).mono ?_); (case side1 => exact y8 HR0_0.out HB.out); (case side2 => exact HC0_0.out); rintro e w' ⟨rfl, ⟨nd, rfl⟩⟩; refine ⟨_, rfl, ?_⟩))
  go_ret
  exact ⟨y14, (y3 HB.out GE783.out)⟩
 ·rw [if_neg c4] at H
  have c4b0 : decide (t784 < 0) = false := decide_eq_false c4
  clear c4
  obtain rfl := Option.some.inj H
  go_enter Try.func41, Try.ntmps41
  go_wp2_with (first | ((with_reducible refine gate_dst (N := 2) rfl ?_); refine zbx 2 #[.slice A0_0 l0_0.length c0_0] 30 ?_; intro gb783 hg w7 hbox hb; have BK783 := Aside0.mk hbox; have GW783 := Aside0.mk ((y5 hg HB.out : w.heap.size ≤ gb783)); have GE783 := Aside0.mk ((y5 hg HB.out : w.heap.size ≤ gb783)); replace HB := Aside0.mk (below_step (y2 HB.out) hb); clear hb hbox hg; have hcz8_0 := zh BK783; have hfz8_0 := zfr BK783 0) | ((with_reducible refine gate_callee (f := 73) rfl ?_); refine goesL_ (some 8) rfl rfl Try.func73 (by kernel_rfl) rfl #[.slice A0_0 l0_0.length c0_0, .int .i64 a1] rfl y4 ?_; (with_reducible refine (laws_heldTypeS.calls k _ _ l0_0 a1 t784 _ ?side1 ?side2 A3.out).mono ?_); (case side1 => exact y8 HR0_0.out HB.out); (case side2 => exact HC0_0.out); rintro e w' ⟨rfl, ⟨nd, rfl⟩⟩; refine ⟨_, rfl, ?_⟩))
  go_ret
  exact ⟨y14, (y3 HB.out GE783.out)⟩
end Go.Proofs.Ytjhbhihfifhljaa.PA
end
section
set_option linter.unusedVariables false
namespace Go.Proofs.Ytjhbhihfifhljaa.ExM
open Go.RowKit Go.Proofs.Ytjhbhihfifhljaa.PA Go.Proofs.YtjhbhihfifhljaaW.PrintWords Go.Proofs.YtjhbhihfifhljaaW.PrintLast Go.Proofs.Ytjhbhihfifhljaa.Draw Go.Proofs.Ytjhbhihfifhljaa.Types Go.Proofs.Ytjhbhihfifhljaa.Paths Go.Proofs.Ytjhbhihfifhljaa.Open Go.Proofs.Ytjhbhihfifhljaa.ExT
mutual
def siz1 : S30 → Nat
  | ⟨l⟩ => siz l
def siz : List S30 → Nat
  | [] => 0
  | x :: r => 1 + siz1 x + siz r
end
theorem siz1_f0 (x : S30) : siz1 x = siz x.f0 := by cases x; rw [siz1]
theorem siz_cons (x : S30) (r : Ty) : siz (x :: r) = 1 + siz x.f0 + siz r := by rw [siz, siz1_f0]
theorem siz_len : ∀ l : Ty, l.length ≤ siz l
  | [] => by simp
  | x :: r => by rw [siz_cons, List.length_cons]; have := siz_len r; omega
theorem siz_app : ∀ l r : Ty, siz (l ++ r) = siz l + siz r
  | [], r => by rw [List.nil_append, siz]; omega
  | x :: l, r => by rw [List.cons_append, siz_cons, siz_cons, siz_app l r]; omega
theorem siz_cvl : ∀ (c : Nat) (l : Lt), cnts l ≤ c → siz (cvl l) = cnts l := by
  intro c
  induction c with
  | zero =>
    intro l h
    match l with
    | [] => rw [cvl, siz, cnts]
    | x :: r => rw [cnts_cons] at h; omega
  | succ c ih =>
    intro l h
    match l with
    | [] => rw [cvl, siz, cnts]
    | x :: r =>
      rw [cnts_cons] at h ⊢
      rw [cvl_cons, siz_cons, ih x.f0 (by omega), ih r (by omega)]
theorem siz_dp : ∀ (n : Nat) (t : Ty), dp n t = true → siz t + 2 ≤ 2 ^ (n + 1) := by
  intro n
  induction n with
  | zero => intro t h; simp [dp] at h
  | succ n ih =>
    intro t h
    rcases Types.shape t with rfl | ⟨a, b, rfl⟩ | ⟨h0, h2⟩
    · rw [siz]; have : 2 ^ 1 ≤ 2 ^ (n + 1 + 1) := Nat.pow_le_pow_right (by decide) (by omega)
      omega
    · rw [dp_two, Bool.and_eq_true] at h
      have ha := ih _ h.1
      have hb := ih _ h.2
      rw [siz_cons, siz_cons, siz, Nat.pow_succ]
      omega
    · rw [dp_odd _ _ h0 h2] at h; cases h
theorem siz_ok (t : Ty) (h : dp 4 t = true) : siz t ≤ 30 := by have := siz_dp 4 t h; omega
theorem sameLoop_ev (c : Nat) (hc : c ≤ 1048576) (IH : ∀ (l : Ty), siz l < c → ∀ k, 3 * siz l + 6 ≤ k → laws_eqTypeS.f k l l = some true) :
    ∀ (r pre : Ty) (k : Nat), siz (pre ++ r) ≤ c → 3 * siz r + 5 ≤ k → laws_eqTypeS.l0 k (pre ++ r) (pre ++ r) pre.length = some true := by
  intro r
  induction r with
  | nil =>
    intro pre k h1 hk
    obtain ⟨k, rfl⟩ : ∃ m, k = m + 1 := ⟨k - 1, by omega⟩
    simp only [laws_eqTypeS.l0]
    rw [if_neg (by simp)]
  | cons x r ih =>
    intro pre k h1 hk
    have e1 := siz_app pre (x :: r)
    rw [siz_cons] at e1 hk
    have e2 := siz_len pre
    obtain ⟨k, rfl⟩ : ∃ m, k = m + 1 := ⟨k - 1, by omega⟩
    simp only [laws_eqTypeS.l0, laws_eqType.F]
    have hlen : ((pre ++ x :: r).length : Int) = pre.length + 1 + r.length := by simp; omega
    rw [if_pos (by omega), if_pos (by omega), if_pos (by omega), rdI_mid, IH x.f0 (by omega) k (by omega)]; simp only [Option.bind_some, if_true]
    rw [w64 (by omega) (by omega)]
    have ea : pre ++ x :: r = (pre ++ [x]) ++ r := by simp
    have el : (pre.length : Int) + 1 = ((pre ++ [x]).length : Int) := by simp
    rw [el, ea]
    exact ih (pre ++ [x]) k (by rw [← ea]; exact h1) (by omega)
theorem sameS_ev : ∀ (c : Nat), c ≤ 1048576 → ∀ (l : Ty), siz l ≤ c → ∀ k, 3 * siz l + 6 ≤ k → laws_eqTypeS.f k l l = some true := by
  intro c
  induction c using Nat.strongRecOn with
  | _ c IH =>
    intro hc l hl k hk
    obtain ⟨k, rfl⟩ : ∃ m, k = m + 1 := ⟨k - 1, by omega⟩
    simp only [laws_eqTypeS.f, if_true]
    have := sameLoop_ev (siz l) (by omega) (fun l' hl' k hk => IH (siz l') (by omega) (by omega) l' (Nat.le_refl _) k hk) l [] k (by simp) (by omega)
    simpa using this
theorem same_ev (l : Ty) (h : siz l ≤ 1048576) (k : Nat) (hk : 3145740 ≤ k) : laws_eqType.f k l l = some true := by
  unfold laws_eqType.f laws_eqType.F
  rw [sameS_ev 1048576 (Nat.le_refl _) l h k (by omega)]; rfl
theorem markLoop_ev (c : Nat) (hc : c ≤ 1048576) (a : Int) (IH : ∀ (l : Ty), siz l < c → ∀ k, 3 * siz l + 6 ≤ k → laws_markTypeS.f k l a = some a) :
    ∀ (r pre : Ty) (k : Nat), siz (pre ++ r) ≤ c → 3 * siz r + 5 ≤ k → laws_markTypeS.l0 k (pre ++ r) a pre.length = some a := by
  intro r
  induction r with
  | nil =>
    intro pre k h1 hk
    obtain ⟨k, rfl⟩ : ∃ m, k = m + 1 := ⟨k - 1, by omega⟩
    simp only [laws_markTypeS.l0]
    rw [if_neg (by simp)]
  | cons x r ih =>
    intro pre k h1 hk
    have e1 := siz_app pre (x :: r)
    rw [siz_cons] at e1 hk
    have e2 := siz_len pre
    obtain ⟨k, rfl⟩ : ∃ m, k = m + 1 := ⟨k - 1, by omega⟩
    simp only [laws_markTypeS.l0]
    have hlen : ((pre ++ x :: r).length : Int) = pre.length + 1 + r.length := by simp; omega
    rw [if_pos (by omega), if_pos (by omega), rdI_mid, IH x.f0 (by omega) k (by omega)]; simp only [Option.bind_some]
    rw [w64 (by omega) (by omega)]
    have ea : pre ++ x :: r = (pre ++ [x]) ++ r := by simp
    have el : (pre.length : Int) + 1 = ((pre ++ [x]).length : Int) := by simp
    rw [el, ea]
    exact ih (pre ++ [x]) k (by rw [← ea]; exact h1) (by omega)
theorem markS_ev (a : Int) : ∀ (c : Nat), c ≤ 1048576 → ∀ (l : Ty), siz l ≤ c → ∀ k, 3 * siz l + 6 ≤ k → laws_markTypeS.f k l a = some a := by
  intro c
  induction c using Nat.strongRecOn with
  | _ c IH =>
    intro hc l hl k hk
    obtain ⟨k, rfl⟩ : ∃ m, k = m + 1 := ⟨k - 1, by omega⟩
    simp only [laws_markTypeS.f]
    have := markLoop_ev (siz l) (by omega) a (fun l' hl' k hk => IH (siz l') (by omega) (by omega) l' (Nat.le_refl _) k hk) l [] k (by simp) (by omega)
    simpa using this
theorem mark_ev (l : Ty) (a : Int) (h : siz l ≤ 1048576) (k : Nat) (hk : 3145740 ≤ k) : laws_markType.f k l a = some a := by
  unfold laws_markType.f
  rw [markS_ev a 1048576 (Nat.le_refl _) l h k (by omega)]; rfl
theorem heldLoop_ev (c : Nat) (hc : c ≤ 1048576) (a : Int) (ha : 0 ≤ a) (IH : ∀ (l : Ty), siz l < c → ∀ k, 3 * siz l + 6 ≤ k → laws_heldTypeS.f k l a = some a) :
    ∀ (r pre : Ty) (k : Nat), siz (pre ++ r) ≤ c → 3 * siz r + 5 ≤ k → laws_heldTypeS.l0 k (pre ++ r) a pre.length = some a := by
  intro r
  induction r with
  | nil =>
    intro pre k h1 hk
    obtain ⟨k, rfl⟩ : ∃ m, k = m + 1 := ⟨k - 1, by omega⟩
    simp only [laws_heldTypeS.l0]
    rw [if_neg (by simp)]
  | cons x r ih =>
    intro pre k h1 hk
    have e1 := siz_app pre (x :: r)
    rw [siz_cons] at e1 hk
    have e2 := siz_len pre
    obtain ⟨k, rfl⟩ : ∃ m, k = m + 1 := ⟨k - 1, by omega⟩
    simp only [laws_heldTypeS.l0]
    have hlen : ((pre ++ x :: r).length : Int) = pre.length + 1 + r.length := by simp; omega
    rw [if_pos (by omega), if_pos (by omega), rdI_mid, IH x.f0 (by omega) k (by omega)]; simp only [Option.bind_some]
    rw [if_neg (by omega), w64 (by omega) (by omega)]
    have ea : pre ++ x :: r = (pre ++ [x]) ++ r := by simp
    have el : (pre.length : Int) + 1 = ((pre ++ [x]).length : Int) := by simp
    rw [el, ea]
    exact ih (pre ++ [x]) k (by rw [← ea]; exact h1) (by omega)
theorem heldS_ev (a : Int) (ha : 0 ≤ a) : ∀ (c : Nat), c ≤ 1048576 → ∀ (l : Ty), siz l ≤ c → ∀ k, 3 * siz l + 6 ≤ k → laws_heldTypeS.f k l a = some a := by
  intro c
  induction c using Nat.strongRecOn with
  | _ c IH =>
    intro hc l hl k hk
    obtain ⟨k, rfl⟩ : ∃ m, k = m + 1 := ⟨k - 1, by omega⟩
    simp only [laws_heldTypeS.f]
    have := heldLoop_ev (siz l) (by omega) a ha (fun l' hl' k hk => IH (siz l') (by omega) (by omega) l' (Nat.le_refl _) k hk) l [] k (by simp) (by omega)
    simpa using this
theorem held_ev (l : Ty) (a : Int) (ha : 0 ≤ a) (h : siz l ≤ 1048576) (k : Nat) (hk : 3145740 ≤ k) : laws_heldType.f k l a = some a := by
  unfold laws_heldType.f
  rw [heldS_ev a ha 1048576 (Nat.le_refl _) l h k (by omega)]; simp only [Option.bind_some]
  rw [if_neg (by omega)]
theorem toIntsLoop_ev : ∀ (r pre : List Int) (k : Nat), pre.length + r.length ≤ 1048576 → r.length + 1 ≤ k →
    laws_toIntS.l0 k (pre ++ r) (pre ++ List.replicate r.length 0) pre.length = some (pre ++ r) := by
  intro r
  induction r with
  | nil =>
    intro pre k h1 hk
    obtain ⟨k, rfl⟩ : ∃ m, k = m + 1 := ⟨k - 1, by omega⟩
    simp only [laws_toIntS.l0]
    rw [if_neg (by simp)]; simp
  | cons x r ih =>
    intro pre k h1 hk
    simp only [List.length_cons] at h1 hk
    obtain ⟨k, rfl⟩ : ∃ m, k = m + 1 := ⟨k - 1, by omega⟩
    simp only [laws_toIntS.l0]
    have hlen : ((pre ++ x :: r).length : Int) = pre.length + 1 + r.length := by simp; omega
    rw [if_pos (by omega), if_pos (by omega), rd_mid, if_pos (by rw [List.length_append, List.length_replicate, List.length_cons]; omega), w64 (by omega) (by omega)]
    have ea : pre ++ x :: r = (pre ++ [x]) ++ r := by simp
    have el : (pre.length : Int) + 1 = ((pre ++ [x]).length : Int) := by simp
    have es : (pre ++ List.replicate (r.length + 1) (0 : Int)).set (pre.length : Int).toNat x = (pre ++ [x]) ++ List.replicate r.length 0 := by
      rw [Int.toNat_natCast, List.set_append_right _ _ (Nat.le_refl _), Nat.sub_self, List.replicate_succ, List.set_cons_zero]
      simp
    rw [List.length_cons, es, el, ea]
    exact ih (pre ++ [x]) k (by simp; omega) (by omega)
theorem toInts_ev (l : List Int) (h : l.length ≤ 1048576) (k : Nat) (hk : 1048580 ≤ k) : laws_toIntS.f k l = some l := by
  unfold laws_toIntS.f
  rw [if_pos (by omega), if_pos (by omega), Int.toNat_natCast]
  have := toIntsLoop_ev l [] k (by simpa using h) (by omega)
  simpa using this
theorem eqIntsLoop_ev : ∀ (r pre : List Int) (k : Nat), pre.length + r.length ≤ 1048576 → r.length + 1 ≤ k → laws_eqIntS.l0 k (pre ++ r) (pre ++ r) pre.length = some true := by
  intro r
  induction r with
  | nil =>
    intro pre k h1 hk
    obtain ⟨k, rfl⟩ : ∃ m, k = m + 1 := ⟨k - 1, by omega⟩
    simp only [laws_eqIntS.l0]
    rw [if_neg (by simp)]
  | cons x r ih =>
    intro pre k h1 hk
    simp only [List.length_cons] at h1 hk
    obtain ⟨k, rfl⟩ : ∃ m, k = m + 1 := ⟨k - 1, by omega⟩
    simp only [laws_eqIntS.l0, if_true]
    have hlen : ((pre ++ x :: r).length : Int) = pre.length + 1 + r.length := by simp; omega
    rw [if_pos (by omega), if_pos (by omega), if_pos (by omega), w64 (by omega) (by omega)]
    have ea : pre ++ x :: r = (pre ++ [x]) ++ r := by simp
    have el : (pre.length : Int) + 1 = ((pre ++ [x]).length : Int) := by simp
    rw [el, ea]
    exact ih (pre ++ [x]) k (by simp; omega) (by omega)
theorem eqInts_ev (l : List Int) (h : l.length ≤ 1048576) (k : Nat) (hk : 1048580 ≤ k) : laws_eqIntS.f k l l = some true := by
  unfold laws_eqIntS.f
  rw [if_pos rfl]
  have := eqIntsLoop_ev l [] k (by simpa using h) (by omega)
  simpa using this
theorem markIntsLoop_ev : ∀ (d : Nat) (l : List Int) (a i : Int) (k : Nat), 0 ≤ i → l.length = i + d → 0 ≤ a → a ≤ 1048577 + i → l.length ≤ 1048576 → d + 1 ≤ k → ∃ m, laws_markIntS.l0 k l a i = some (a + d, m) ∧ m.length = l.length := by
  intro d
  induction d with
  | zero =>
    intro l a i k h0 hl ha ha1 hm hk
    obtain ⟨k, rfl⟩ : ∃ m, k = m + 1 := ⟨k - 1, by omega⟩
    simp only [laws_markIntS.l0]
    rw [if_neg (by omega)]
    exact ⟨l, by simp, rfl⟩
  | succ d ih =>
    intro l a i k h0 hl ha ha1 hm hk
    obtain ⟨k, rfl⟩ : ∃ m, k = m + 1 := ⟨k - 1, by omega⟩
    obtain ⟨m, h1, h2⟩ := ih (l.set i.toNat a) (a + 1) (i + 1) k (by omega) (by rw [List.length_set]; omega) (by omega) (by omega) (by rw [List.length_set]; exact hm) (by omega)
    refine ⟨m, ?_, by rw [h2, List.length_set]⟩
    simp only [laws_markIntS.l0]
    rw [if_pos (by omega), if_pos h0, w64 (by omega) (by omega), w64 (by omega) (by omega), h1]
    congr 2
    omega
theorem markInts_ev (l : List Int) (h : l.length ≤ 1048576) (a : Int) (ha : 0 ≤ a) (ha1 : a ≤ 1048577) (k : Nat) (hk : 1048580 ≤ k) : ∃ m, laws_markIntS.f k l a = some (a + l.length, m) ∧ m.length = l.length := by
  unfold laws_markIntS.f
  exact markIntsLoop_ev l.length l a 0 k (by omega) (by omega) ha (by omega) h (by omega)
end Go.Proofs.Ytjhbhihfifhljaa.ExM
end
section
namespace Go.Proofs.Ytjhbhihfifhljaa.PA
open Go.RowKit Go.Proofs.YtjhbhihfifhljaaW.PrintWords Go.Proofs.YtjhbhihfifhljaaW.PrintLast Go.Proofs.YtjhbhihfifhljaaW.PrintMore
attribute [local go_sem] max2_int min2_int max_two min_two max_three min_three max_four min_four
set_option linter.unusedVariables false
set_option linter.unusedSimpArgs false
def impl_Val_parts.f (a0_0 : Int) (l0_1 : List (S55)) : Option ((List (S55))) := some l0_1
set_option maxHeartbeats 8000000 in
set_option maxRecDepth 100000 in
theorem impl_Val_parts.calls (a0_0 : Int) (P0_1_ : Nat → Prop) (A0_1 : Option Addr) (c0_1 : Nat) (l0_1 : List (S55)) (r : List (S55)) (w : World) (hs0_1 : Kd.V k55 55 w w.heap.size (fun k_ => P0_1_ k_) (.slice A0_1 l0_1.length c0_1) l0_1) (h : impl_Val_parts.f a0_0 l0_1 = some r) :
  Calls Try.prog 105 #[.agg #[.int .i64 a0_0, .slice A0_1 l0_1.length c0_1]] w fun e w' => ∃ v0_ : Value, e = .returned (v0_) ∧ Kd.V k55 55 w' w.heap.size (fun k_ => (P0_1_ k_ ∨ w.heap.size ≤ k_)) v0_ r ∧ Below w.heap.size w w' := by
 have hu55 := Try.underlying55
 have HO0_1 := Aside0.mk (show Kd.V k55 55 w w.heap.size (fun k_ => (P0_1_ k_ ∨ w.heap.size ≤ k_)) (.slice A0_1 l0_1.length c0_1) l0_1 from Kd.V_mono hs0_1 (fun k_ hk => .inl hk))
 have HB := Aside0.mk (Below.refl w.heap.size w)
 have H : (some l0_1) = some r := h
 clear h
 obtain rfl := Option.some.inj H
 go_enter Try.func105, Try.ntmps105
 go_wp2_with (first | ((with_reducible refine gate_dst (N := 1) rfl ?_); refine zbx 1 #[.int .i64 a0_0, .slice A0_1 l0_1.length c0_1] 55 ?_; intro gb102 hg w2 hbox hb; replace HO0_1 := Aside0.mk (Kd.V_below (Kd.V_elderB (y13 HO0_1.out) gb102 (Nat.le_of_eq hg.symm)) hb); have BK102 := Aside0.mk hbox; have GW102 := Aside0.mk ((y5 hg HB.out : w.heap.size ≤ gb102)); have GE102 := Aside0.mk ((y5 hg HB.out : w.heap.size ≤ gb102)); replace HB := Aside0.mk (below_step (y2 HB.out) hb); clear hb hbox hg; have hcz3_0 := zh BK102; have hcz3_1 := zh1 BK102; have hfz3_0 := zfr BK102 0; have hfz3_1 := zfr BK102 1))
 go_ret
 exact ⟨_, y14, (by (with_reducible repeat (first | apply Kd.V_alloc | apply Kd.V_drewN | apply Kd.V_drew)); exact Kd.V_mono HO0_1.out (fun _ hk => hk.1)), (y3 HB.out GE102.out)⟩
end Go.Proofs.Ytjhbhihfifhljaa.PA
end
