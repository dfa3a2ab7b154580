-- Ythfflieeifakdaa's texts for the statement FnValOther, one behind the other (merge.py).
import Derived.Test.YthfflieeifakdaaQFnValOther0
import Derived.Test.YthfflieeifakdaaQFnValOther1
section
namespace Go.Proofs.Ythfflieeifakdaa.PA
open Go.RowKit Go.Proofs.YthfflieeifakdaaW.PrintWords Go.Proofs.YthfflieeifakdaaW.PrintLast Go.Proofs.YthfflieeifakdaaW.PrintMore
attribute [local go_sem] max2_int min2_int max_two min_two max_three min_three max_four min_four
set_option linter.unusedVariables false
set_option linter.unusedSimpArgs false
def impl_ValPut.f (k : Nat) (a0_0 : Int) (l0_1 : List (S25)) (l1 : List Int) (a2_0 : Int) (l2_1 : List (S25)) : Option (Int × (List (S25)) × Bool) := (impl_ValAt.f k a0_0 l0_1 l1).bind fun bt598 => (if bt598.2.2 = true then ((impl_valTyped.f k bt598.1 bt598.2.1).bind fun bt604 => ((impl_valTyped.f k a2_0 l2_1).bind fun bt609 => (if bt609.2 = true then ((impl_typeSame.f k bt604.1 bt609.1).bind fun t614 => (if t614 = true then ((impl_valWith.f k a0_0 l0_1 l1 a2_0 l2_1).bind fun bt615 => (some (bt615.1, bt615.2, true))) else (some (0, ([] : List (S25)), false)))) else (some (0, ([] : List (S25)), false))))) else (some (0, ([] : List (S25)), false)))
theorem impl_ValPut.mono : ∀ a0 a1 a2 a3 a4 k, LeO (impl_ValPut.f k a0 a1 a2 a3 a4) (impl_ValPut.f (k + 1) a0 a1 a2 a3 a4) := by
 intro a0 a1 a2 a3 a4 k
 unfold impl_ValPut.f
 repeat' first
   | (with_reducible exact impl_ValAt.mono _ _ _ _)
   | (with_reducible exact impl_typeSame.mono _ _ _)
   | (with_reducible exact impl_valTyped.mono _ _ _)
   | (with_reducible exact impl_valWith.mono _ _ _ _ _ _)
   | (with_reducible exact LeO.refl _)
   | (with_reducible exact LeO.none _)
   | (with_reducible refine LeO.ite ?_ ?_)
   | (with_reducible refine LeO.bind ?_ (fun _ => ?_))
   | exact impl_ValAt.mono _ _ _ _
   | exact impl_typeSame.mono _ _ _
   | exact impl_valTyped.mono _ _ _
   | exact impl_valWith.mono _ _ _ _ _ _
   | exact LeO.none _
   | refine LeO.ite ?_ ?_
   | refine LeO.bind ?_ (fun _ => ?_)
set_option maxHeartbeats 8000000 in
set_option maxRecDepth 100000 in
theorem impl_ValPut.calls (k : Nat) (a0_0 : Int) (P0_1_ : Nat → Prop) (A0_1 : Option Addr) (c0_1 : Nat) (l0_1 : List (S25)) (A1 : Option Addr) (c1 : Nat) (l1 : List Int) (a2_0 : Int) (P2_1_ : Nat → Prop) (A2_1 : Option Addr) (c2_1 : Nat) (l2_1 : List (S25)) (r1 : Int) (r2 : List (S25)) (r3 : Bool) (w : World) (hs0_1 : Kd.V k25 25 w w.heap.size (fun k_ => P0_1_ k_) (.slice A0_1 l0_1.length c0_1) l0_1) (hr1 : Kd.C (Kd.int .i64) w A1 l1.length l1) (hc1 : l1.length ≤ c1) (hs2_1 : Kd.V k25 25 w w.heap.size (fun k_ => P2_1_ k_) (.slice A2_1 l2_1.length c2_1) l2_1) (h : impl_ValPut.f k a0_0 l0_1 l1 a2_0 l2_1 = some (r1, r2, r3)) :
  Calls Try.prog 24 #[.agg #[.int .i64 a0_0, .slice A0_1 l0_1.length c0_1], .slice A1 l1.length c1, .agg #[.int .i64 a2_0, .slice A2_1 l2_1.length c2_1]] w fun e w' => ∃ v1_ : Value, e = .returned (.tuple #[.agg #[.int .i64 r1, v1_], .bool r3]) ∧ Kd.N k25 25 w' w.heap.size (fun k_ => ((P0_1_ k_ ∨ P2_1_ k_) ∨ w.heap.size ≤ k_)) v1_ r2 ∧ Below w.heap.size w w' := by
 have hu25 := Try.underlying25
 have hu50 := Try.underlying50
 have HO0_1 := Aside0.mk (show Kd.V k25 25 w w.heap.size (fun k_ => ((P0_1_ k_ ∨ P2_1_ k_) ∨ w.heap.size ≤ k_)) (.slice A0_1 l0_1.length c0_1) l0_1 from Kd.V_mono hs0_1 (fun k_ hk => .inl (.inl hk)))
 have HR1 := Aside0.mk hr1
 have HC1 := Aside0.mk hc1
 clear hr1 hc1
 have HO2_1 := Aside0.mk (show Kd.V k25 25 w w.heap.size (fun k_ => ((P0_1_ k_ ∨ P2_1_ k_) ∨ w.heap.size ≤ k_)) (.slice A2_1 l2_1.length c2_1) l2_1 from Kd.V_mono hs2_1 (fun k_ hk => .inl (.inr hk)))
 have HB := Aside0.mk (Below.refl w.heap.size w)
 have H : ((impl_ValAt.f k a0_0 l0_1 l1).bind fun bt598 => (if bt598.2.2 = true then ((impl_valTyped.f k bt598.1 bt598.2.1).bind fun bt604 => ((impl_valTyped.f k a2_0 l2_1).bind fun bt609 => (if bt609.2 = true then ((impl_typeSame.f k bt604.1 bt609.1).bind fun t614 => (if t614 = true then ((impl_valWith.f k a0_0 l0_1 l1 a2_0 l2_1).bind fun bt615 => (some (bt615.1, bt615.2, true))) else (some (0, ([] : List (S25)), false)))) else (some (0, ([] : List (S25)), false))))) else (some (0, ([] : List (S25)), false)))) = some (r1, r2, r3) := h
 clear h
 obtain ⟨⟨t598, t599, t602⟩, A40, H⟩ := ob H
 have A4 := Aside0.mk A40
 clear A40
 have HZ5 := Aside0.mk H
 clear H
 go_enter Try.func24, Try.ntmps24
 go_upto_if 20 with (first | ((with_reducible refine gate_dst (N := 3) rfl ?_); refine zbx 3 #[.int .i64 a0_0, .slice A0_1 l0_1.length c0_1] 25 ?_; intro gb595 hg w6 hbox hb; replace HO0_1 := Aside0.mk (Kd.V_below (Kd.V_elderB (y11 HO0_1.out) gb595 (Nat.le_of_eq hg.symm)) hb); replace HO2_1 := Aside0.mk (Kd.V_below (Kd.V_elderB (y11 HO2_1.out) gb595 (Nat.le_of_eq hg.symm)) hb); have BK595 := Aside0.mk hbox; have GW595 := Aside0.mk ((y10 hg HB.out : w.heap.size ≤ gb595)); have GE595 := Aside0.mk ((y10 hg HB.out : w.heap.size ≤ gb595)); replace HB := Aside0.mk (below_step (y6 HB.out) hb); clear hb hbox hg) | ((with_reducible refine gate_dst (N := 5) rfl ?_); refine zbx 5 #[.int .i64 a2_0, .slice A2_1 l2_1.length c2_1] 25 ?_; intro gb596 hg w7 hbox hb; replace HO0_1 := Aside0.mk (Kd.V_below (Kd.V_elderB (y11 HO0_1.out) gb596 (Nat.le_of_eq hg.symm)) hb); replace HO2_1 := Aside0.mk (Kd.V_below (Kd.V_elderB (y11 HO2_1.out) gb596 (Nat.le_of_eq hg.symm)) hb); have BK596 := Aside0.mk hbox; have GW596 := Aside0.mk ((y12 hg HB.out GE595.out : w.heap.size ≤ gb596)); have GE596 := Aside0.mk ((y12 hg HB.out GE595.out : w.heap.size ≤ gb596)); replace HB := Aside0.mk (below_step (y7 HB.out GE595.out) hb); have NB595_596 := zltn hg BK595; have NB596_595 := zgtn hg BK595; replace BK595 := zbb BK595 hb; clear hb hbox hg) | ((with_reducible refine gate_dst (N := 6) rfl ?_); refine zbx 6 #[.int .i64 0, .slice none 0 0] 25 ?_; intro gb597 hg w8 hbox hb; replace HO0_1 := Aside0.mk (Kd.V_below (Kd.V_elderB (y11 HO0_1.out) gb597 (Nat.le_of_eq hg.symm)) hb); replace HO2_1 := Aside0.mk (Kd.V_below (Kd.V_elderB (y11 HO2_1.out) gb597 (Nat.le_of_eq hg.symm)) hb); have BK597 := Aside0.mk hbox; have GW597 := Aside0.mk ((y16 hg HB.out GE595.out GE596.out : w.heap.size ≤ gb597)); have GE597 := Aside0.mk ((y16 hg HB.out GE595.out GE596.out : w.heap.size ≤ gb597)); replace HB := Aside0.mk (below_step (y3 HB.out GE595.out GE596.out) hb); have NB595_597 := zltn hg BK595; have NB597_595 := zgtn hg BK595; replace BK595 := zbb BK595 hb; have NB596_597 := zltn hg BK596; have NB597_596 := zgtn hg BK596; replace BK596 := zbb BK596 hb; clear hb hbox hg; have hnb9 := NB595_596.out; have hnc9 := NB596_595.out; have hnb10 := NB595_597.out; have hnc10 := NB597_595.out; have hcz11_0 := zh BK595; have hcz11_1 := zh1 BK595; have hfz11_0 := zfr BK595 0; have hfz11_1 := zfr BK595 1) | ((with_reducible refine gate_callee (f := 14) rfl ?_); refine goesL_ (some 16) rfl rfl Try.func14 (by kernel_rfl) rfl #[.agg #[.int .i64 a0_0, .slice A0_1 l0_1.length c0_1], .slice A1 l1.length c1] rfl y9 ?_; (with_reducible refine (impl_ValAt.calls k a0_0 (fun k_ => (((((P0_1_ k_ ∨ P2_1_ k_) ∨ w.heap.size ≤ k_) ∧ k_ ≠ gb595) ∧ k_ ≠ gb596) ∧ k_ ≠ gb597)) _ _ l0_1 _ _ l1 t598 t599 t602 _ ?side1 ?side2 ?side3 A4.out).mono ?_); (case side1 => exact HO0_1.out); (case side2 => exact y18 HR1.out HB.out); (case side3 => exact HC1.out); rintro e w12 ⟨v600, rfl, ho0, hb⟩; refine ⟨_, rfl, ?_⟩; replace HO0_1 := Aside0.mk (Kd.V_elder' (y11 HO0_1.out) (Kd.N_base ho0) hb); replace HO2_1 := Aside0.mk (Kd.V_elder' (y11 HO2_1.out) (Kd.N_base ho0) hb); have HO601 := Aside0.mk (Kd.N_lower (Kd.N_mono (ok' := fun k_ => ((P0_1_ k_ ∨ P2_1_ k_) ∨ w.heap.size ≤ k_) ∧ k_ ≠ gb595 ∧ k_ ≠ gb596 ∧ k_ ≠ gb597) ho0 (fun k_ hk_ => ⟨Or.elim hk_ (fun hs_ => hs_.1.1.1) (fun hn_ => (.inr (Nat.le_trans (below_size (y4 HB.out GE595.out GE596.out GE597.out)) hn_))), Or.elim hk_ (fun hs_ => hs_.1.1.2) (fun hn_ => (Kd.freshB (g := gb595) (o := .cells #[.int .i64 a0_0, .slice A0_1 l0_1.length c0_1] 25 (0, 0)) (y0 BK595.out) k_ hn_)), Or.elim hk_ (fun hs_ => hs_.1.2) (fun hn_ => (Kd.freshB (g := gb596) (o := .cells #[.int .i64 a2_0, .slice A2_1 l2_1.length c2_1] 25 (0, 0)) (y0 BK596.out) k_ hn_)), Or.elim hk_ (fun hs_ => hs_.2) (fun hn_ => (Kd.freshB (g := gb597) (o := .cells #[.int .i64 0, .slice none 0 0] 25 (0, 0)) (y0 BK597.out) k_ hn_))⟩)) (below_size (y4 HB.out GE595.out GE596.out GE597.out))); replace BK595 := zbb BK595 hb; replace BK596 := zbb BK596 hb; replace BK597 := zbb BK597 hb; replace HB := Aside0.mk (below_step (y4 HB.out GE595.out GE596.out GE597.out) hb); (try clear hb); (try clear hb2); (try clear hk); (try clear hi); (try clear ho0)) | ((with_reducible refine gate_dst (N := 8) rfl ?_); refine zbx 8 #[.int .i64 0, .slice none 0 0] 25 ?_; intro gb603 hg w13 hbox hb; replace HO0_1 := Aside0.mk (Kd.V_below (Kd.V_elderB (y11 HO0_1.out) gb603 (Nat.le_of_eq hg.symm)) hb); replace HO2_1 := Aside0.mk (Kd.V_below (Kd.V_elderB (y11 HO2_1.out) gb603 (Nat.le_of_eq hg.symm)) hb); replace HO601 := Aside0.mk (Kd.N_below (Kd.N_elderB (y2 HO601.out) gb603 (Nat.le_of_eq hg.symm)) hb); have BK603 := Aside0.mk hbox; have GW603 := Aside0.mk ((y20 hg HB.out GE595.out GE596.out GE597.out : w.heap.size ≤ gb603)); have GE603 := Aside0.mk ((y20 hg HB.out GE595.out GE596.out GE597.out : w.heap.size ≤ gb603)); replace HB := Aside0.mk (below_step (y4 HB.out GE595.out GE596.out GE597.out) hb); have NB595_603 := zltn hg BK595; have NB603_595 := zgtn hg BK595; replace BK595 := zbb BK595 hb; have NB596_603 := zltn hg BK596; have NB603_596 := zgtn hg BK596; replace BK596 := zbb BK596 hb; have NB597_603 := zltn hg BK597; have NB603_597 := zgtn hg BK597; replace BK597 := zbb BK597 hb; clear hb hbox hg; have hnb14 := NB603_595.out; have hnc14 := NB595_603.out; have hnb15 := NB603_596.out; have hnc15 := NB596_603.out; have hnb16 := NB603_597.out; have hnc16 := NB597_603.out; have hcz17_0 := zh BK603; have hcz17_1 := zh1 BK603; have hfz17_0 := zfr BK603 0; have hfz17_1 := zfr BK603 1; obtain ⟨Ao18, co18, eo18⟩ := Kd.N_slice HO601.out; subst eo18))
 (try simp only [Act.put, List.setIfInBounds_toArray, List.set_cons_zero, List.set_cons_succ])
 have H := HZ5.out
 clear HZ5
 by_cases c19 : t602 = true
 ·subst c19
  rw [if_pos rfl] at H
  obtain ⟨⟨t604, t607⟩, A200, H⟩ := ob H
  have A20 := Aside0.mk A200
  clear A200
  obtain ⟨⟨t609, t612⟩, A210, H⟩ := ob H
  have A21 := Aside0.mk A210
  clear A210
  by_cases c22 : t612 = true
  ·subst c22
   rw [if_pos rfl] at H
   obtain ⟨t614, A230, H⟩ := ob H
   have A23 := Aside0.mk A230
   clear A230
   have HZ24 := Aside0.mk H
   clear H
   have hnb25 := NB603_595.out
   have hnc25 := NB595_603.out
   have hnb26 := NB603_596.out
   have hnc26 := NB596_603.out
   have hnb27 := NB603_597.out
   have hnc27 := NB597_603.out
   have hcz28_0 := zh BK603
   have hcz28_1 := zh1 BK603
   have hfz28_0 := zfr BK603 0
   have hfz28_1 := zfr BK603 1
   go_upto_if 39 with (first | ((with_reducible refine gate_callee (f := 38) rfl ?_); refine goesL_ (some 24) rfl rfl Try.func38 (by kernel_rfl) rfl #[.agg #[.int .i64 t598, .slice Ao18 t599.length co18]] rfl y9 ?_; (with_reducible refine (impl_valTyped.calls k t598 _ _ t599 t604 t607 _ ?side1 ?side2 A20.out).mono ?_); (case side1 => refine (Kd.N_reads' (e := 25) (base := w.heap.size) (ok := fun k_ => ((((P0_1_ k_ ∨ P2_1_ k_) ∨ w.heap.size ≤ k_) ∧ (k_ ≠ gb595 ∧ (k_ ≠ gb596 ∧ k_ ≠ gb597))) ∧ k_ ≠ gb603)) (n := t599.length) (c := co18) ?_).2.2; exact (by (with_reducible repeat (first | apply Kd.N_alloc | apply Kd.N_drewN | apply Kd.N_drew)); exact (Kd.N_mono (Kd.N_far (p := ⟨gb603, 1, none⟩) (Kd.N_far (p := ⟨gb603, 0, none⟩) (Kd.N_mono HO601.out (fun k_ hk => (⟨hk, hk.2⟩ : _ ∧ k_ ≠ gb603))) (fun _ hk => hk.2) (.int .i64 t598)) (fun _ hk => hk.2) (.slice Ao18 t599.length co18)) (fun _ h_ => h_.1)))); (case side2 => exact (Kd.N_reads' HO601.out).2.1); rintro e w29 ⟨v605, rfl, ho0, hb⟩; refine ⟨_, rfl, ?_⟩; replace HO0_1 := Aside0.mk (Kd.V_elder' (by (with_reducible repeat (first | apply Kd.V_alloc | apply Kd.V_drewN | apply Kd.V_drew)); exact (Kd.V_mono (Kd.V_far (p := ⟨gb603, 1, none⟩) (Kd.V_far (p := ⟨gb603, 0, none⟩) (Kd.V_mono HO0_1.out (fun k_ hk => (⟨hk, hk.2⟩ : _ ∧ k_ ≠ gb603))) (fun _ hk => hk.2) (.int .i64 t598)) (fun _ hk => hk.2) (.slice Ao18 t599.length co18)) (fun _ h_ => h_.1))) (Kd.N_base ho0) hb); replace HO2_1 := Aside0.mk (Kd.V_elder' (by (with_reducible repeat (first | apply Kd.V_alloc | apply Kd.V_drewN | apply Kd.V_drew)); exact (Kd.V_mono (Kd.V_far (p := ⟨gb603, 1, none⟩) (Kd.V_far (p := ⟨gb603, 0, none⟩) (Kd.V_mono HO2_1.out (fun k_ hk => (⟨hk, hk.2⟩ : _ ∧ k_ ≠ gb603))) (fun _ hk => hk.2) (.int .i64 t598)) (fun _ hk => hk.2) (.slice Ao18 t599.length co18)) (fun _ h_ => h_.1))) (Kd.N_base ho0) hb); have HO606 := Aside0.mk (Kd.N_lower (Kd.N_mono (ok' := fun k_ => ((P0_1_ k_ ∨ P2_1_ k_) ∨ w.heap.size ≤ k_) ∧ some k_ ≠ (.slice Ao18 t599.length co18 : Value).ownBlock ∧ k_ ≠ gb595 ∧ k_ ≠ gb596 ∧ k_ ≠ gb597 ∧ k_ ≠ gb603) ho0 (fun k_ hk_ => ⟨(.inr (Nat.le_trans (below_size (y5 HB.out GE595.out GE596.out GE597.out GE603.out)) hk_)), (Kd.fresh' (Kd.N_lt (by (with_reducible repeat (first | apply Kd.N_alloc | apply Kd.N_drewN | apply Kd.N_drew)); exact (Kd.N_mono (Kd.N_far (p := ⟨gb603, 1, none⟩) (Kd.N_far (p := ⟨gb603, 0, none⟩) (Kd.N_mono HO601.out (fun k_ hk => (⟨hk, hk.2⟩ : _ ∧ k_ ≠ gb603))) (fun _ hk => hk.2) (.int .i64 t598)) (fun _ hk => hk.2) (.slice Ao18 t599.length co18)) (fun _ h_ => h_.1)))) k_ hk_), (Kd.freshB (g := gb595) (o := .cells #[.int .i64 a0_0, .slice A0_1 l0_1.length c0_1] 25 (0, 0)) (y1 NB595_603.out BK595.out) k_ hk_), (Kd.freshB (g := gb596) (o := .cells #[.int .i64 a2_0, .slice A2_1 l2_1.length c2_1] 25 (0, 0)) (y1 NB596_603.out BK596.out) k_ hk_), (Kd.freshB (g := gb597) (o := .cells #[.int .i64 0, .slice none 0 0] 25 (0, 0)) (y1 NB597_603.out BK597.out) k_ hk_), (Kd.freshB (g := gb603) (o := .cells #[.int .i64 t598, .slice Ao18 t599.length co18] 25 (0, 0)) (by (with_reducible repeat (first | refine blk_drewN ?_ _ | refine blk_drew ?_ | refine blk_alloc ?_ _)); refine blk_put (cs := #[.int .i64 t598, .slice none 0 0]) ?_ 1 _ rfl; (with_reducible repeat (first | refine blk_drewN ?_ _ | refine blk_drew ?_ | refine blk_alloc ?_ _)); apply blk_put (i := 0); (case h => exact y0 BK603.out); (case e => rfl)) k_ hk_)⟩)) (below_size (y5 HB.out GE595.out GE596.out GE597.out GE603.out))); replace HO601 := Aside0.mk (Kd.N_elder' (by (with_reducible repeat (first | apply Kd.N_alloc | apply Kd.N_drewN | apply Kd.N_drew)); exact (Kd.N_mono (Kd.N_far (p := ⟨gb603, 1, none⟩) (Kd.N_far (p := ⟨gb603, 0, none⟩) (Kd.N_mono HO601.out (fun k_ hk => (⟨hk, hk.2⟩ : _ ∧ k_ ≠ gb603))) (fun _ hk => hk.2) (.int .i64 t598)) (fun _ hk => hk.2) (.slice Ao18 t599.length co18)) (fun _ h_ => h_.1))) (Kd.N_base ho0) hb); replace BK595 := Aside0.mk (blk_below (g := gb595) (o := .cells #[.int .i64 a0_0, .slice A0_1 l0_1.length c0_1] 25 (0, 0)) (y1 NB595_603.out BK595.out) hb); replace BK596 := Aside0.mk (blk_below (g := gb596) (o := .cells #[.int .i64 a2_0, .slice A2_1 l2_1.length c2_1] 25 (0, 0)) (y1 NB596_603.out BK596.out) hb); replace BK597 := Aside0.mk (blk_below (g := gb597) (o := .cells #[.int .i64 0, .slice none 0 0] 25 (0, 0)) (y1 NB597_603.out BK597.out) hb); replace BK603 := Aside0.mk (blk_below (g := gb603) (o := .cells #[.int .i64 t598, .slice Ao18 t599.length co18] 25 (0, 0)) (by (with_reducible repeat (first | refine blk_drewN ?_ _ | refine blk_drew ?_ | refine blk_alloc ?_ _)); refine blk_put (cs := #[.int .i64 t598, .slice none 0 0]) ?_ 1 _ rfl; (with_reducible repeat (first | refine blk_drewN ?_ _ | refine blk_drew ?_ | refine blk_alloc ?_ _)); apply blk_put (i := 0); (case h => exact y0 BK603.out); (case e => rfl)) hb); replace HB := Aside0.mk (below_step (y5 HB.out GE595.out GE596.out GE597.out GE603.out) hb); (try clear hb); (try clear hb2); (try clear hk); (try clear hi); (try clear ho0)) | ((with_reducible refine gate_dst (N := 10) rfl ?_); refine zbx 10 #[.slice none 0 0] 50 ?_; intro gb608 hg w30 hbox hb; replace HO0_1 := Aside0.mk (Kd.V_below (Kd.V_elderB (y11 HO0_1.out) gb608 (Nat.le_of_eq hg.symm)) hb); replace HO2_1 := Aside0.mk (Kd.V_below (Kd.V_elderB (y11 HO2_1.out) gb608 (Nat.le_of_eq hg.symm)) hb); replace HO601 := Aside0.mk (Kd.N_below (Kd.N_elderB (y2 HO601.out) gb608 (Nat.le_of_eq hg.symm)) hb); replace HO606 := Aside0.mk (Kd.N_below (Kd.N_elderB (y2 HO606.out) gb608 (Nat.le_of_eq hg.symm)) hb); have BK608 := Aside0.mk hbox; have GW608 := Aside0.mk ((y27 hg HB.out GE595.out GE596.out GE597.out GE603.out : w.heap.size ≤ gb608)); have GE608 := Aside0.mk ((y27 hg HB.out GE595.out GE596.out GE597.out GE603.out : w.heap.size ≤ gb608)); replace HB := Aside0.mk (below_step (y5 HB.out GE595.out GE596.out GE597.out GE603.out) hb); have NB595_608 := zltn hg BK595; have NB608_595 := zgtn hg BK595; replace BK595 := zbb BK595 hb; have NB596_608 := zltn hg BK596; have NB608_596 := zgtn hg BK596; replace BK596 := zbb BK596 hb; have NB597_608 := zltn hg BK597; have NB608_597 := zgtn hg BK597; replace BK597 := zbb BK597 hb; have NB603_608 := zltn hg BK603; have NB608_603 := zgtn hg BK603; replace BK603 := zbb BK603 hb; clear hb hbox hg; obtain ⟨Ao31, co31, eo31⟩ := Kd.N_slice HO606.out; subst eo31; have hnb32 := NB608_595.out; have hnc32 := NB595_608.out; have hnb33 := NB608_596.out; have hnc33 := NB596_608.out; have hnb34 := NB608_597.out; have hnc34 := NB597_608.out; have hnb35 := NB608_603.out; have hnc35 := NB603_608.out; have hcz36_0 := zh BK608; have hfz36_0 := zfr BK608 0; have hnb37 := NB596_595.out; have hnc37 := NB595_596.out; have hnb38 := NB596_597.out; have hnc38 := NB597_596.out; have hcz39_0 := zh BK596; have hcz39_1 := zh1 BK596; have hfz39_0 := zfr BK596 0; have hfz39_1 := zfr BK596 1) | ((with_reducible refine gate_callee (f := 38) rfl ?_); refine goesL_ (some 29) rfl rfl Try.func38 (by kernel_rfl) rfl #[.agg #[.int .i64 a2_0, .slice A2_1 l2_1.length c2_1]] rfl y9 ?_; (with_reducible refine (impl_valTyped.calls k a2_0 _ _ l2_1 t609 true _ ?side1 ?side2 A21.out).mono ?_); (case side1 => refine (Kd.V_reads' (e := 25) (base := w.heap.size) (ok := fun k_ => (((((((((P0_1_ k_ ∨ P2_1_ k_) ∨ w.heap.size ≤ k_) ∧ k_ ≠ gb595) ∧ k_ ≠ gb596) ∧ k_ ≠ gb597) ∧ some k_ ≠ (.slice Ao18 t599.length co18 : Value).ownBlock) ∧ k_ ≠ gb603) ∧ some k_ ≠ (.slice Ao31 t604.length co31 : Value).ownBlock) ∧ k_ ≠ gb608)) (n := l2_1.length) (c := c2_1) ?_).2.2; exact (by (with_reducible repeat (first | apply Kd.V_alloc | apply Kd.V_drewN | apply Kd.V_drew)); exact (Kd.V_mono (Kd.V_far (p := ⟨gb608, 0, none⟩) (Kd.V_mono HO2_1.out (fun k_ hk => (⟨hk, hk.2⟩ : _ ∧ k_ ≠ gb608))) (fun _ hk => hk.2) (.slice Ao31 t604.length co31)) (fun _ h_ => h_.1)))); (case side2 => exact (Kd.V_reads' HO2_1.out).2.1); rintro e w40 ⟨v610, rfl, ho0, hb⟩; refine ⟨_, rfl, ?_⟩; replace HO0_1 := Aside0.mk (Kd.V_elder' (by (with_reducible repeat (first | apply Kd.V_alloc | apply Kd.V_drewN | apply Kd.V_drew)); exact (Kd.V_mono (Kd.V_far (p := ⟨gb608, 0, none⟩) (Kd.V_mono HO0_1.out (fun k_ hk => (⟨hk, hk.2⟩ : _ ∧ k_ ≠ gb608))) (fun _ hk => hk.2) (.slice Ao31 t604.length co31)) (fun _ h_ => h_.1))) (Kd.N_base ho0) hb); replace HO2_1 := Aside0.mk (Kd.V_elder' (by (with_reducible repeat (first | apply Kd.V_alloc | apply Kd.V_drewN | apply Kd.V_drew)); exact (Kd.V_mono (Kd.V_far (p := ⟨gb608, 0, none⟩) (Kd.V_mono HO2_1.out (fun k_ hk => (⟨hk, hk.2⟩ : _ ∧ k_ ≠ gb608))) (fun _ hk => hk.2) (.slice Ao31 t604.length co31)) (fun _ h_ => h_.1))) (Kd.N_base ho0) hb); have HO611 := Aside0.mk (Kd.N_lower (Kd.N_mono (ok' := fun k_ => ((P0_1_ k_ ∨ P2_1_ k_) ∨ w.heap.size ≤ k_) ∧ some k_ ≠ (.slice Ao18 t599.length co18 : Value).ownBlock ∧ some k_ ≠ (.slice Ao31 t604.length co31 : Value).ownBlock ∧ k_ ≠ gb595 ∧ k_ ≠ gb596 ∧ k_ ≠ gb597 ∧ k_ ≠ gb603 ∧ k_ ≠ gb608) ho0 (fun k_ hk_ => ⟨(.inr (Nat.le_trans (below_size (y14 HB.out GE595.out GE596.out GE597.out GE603.out GE608.out)) hk_)), (Kd.fresh' (Kd.N_lt (by (with_reducible repeat (first | apply Kd.N_alloc | apply Kd.N_drewN | apply Kd.N_drew)); exact (Kd.N_mono (Kd.N_far (p := ⟨gb608, 0, none⟩) (Kd.N_mono HO601.out (fun k_ hk => (⟨hk, hk.2⟩ : _ ∧ k_ ≠ gb608))) (fun _ hk => hk.2) (.slice Ao31 t604.length co31)) (fun _ h_ => h_.1)))) k_ hk_), (Kd.fresh' (Kd.N_lt (by (with_reducible repeat (first | apply Kd.N_alloc | apply Kd.N_drewN | apply Kd.N_drew)); exact (Kd.N_mono (Kd.N_far (p := ⟨gb608, 0, none⟩) (Kd.N_mono HO606.out (fun k_ hk => (⟨hk, hk.2⟩ : _ ∧ k_ ≠ gb608))) (fun _ hk => hk.2) (.slice Ao31 t604.length co31)) (fun _ h_ => h_.1)))) k_ hk_), (Kd.freshB (g := gb595) (o := .cells #[.int .i64 a0_0, .slice A0_1 l0_1.length c0_1] 25 (0, 0)) (y13 NB595_608.out BK595.out) k_ hk_), (Kd.freshB (g := gb596) (o := .cells #[.int .i64 a2_0, .slice A2_1 l2_1.length c2_1] 25 (0, 0)) (y13 NB596_608.out BK596.out) k_ hk_), (Kd.freshB (g := gb597) (o := .cells #[.int .i64 0, .slice none 0 0] 25 (0, 0)) (y13 NB597_608.out BK597.out) k_ hk_), (Kd.freshB (g := gb603) (o := .cells #[.int .i64 t598, .slice Ao18 t599.length co18] 25 (0, 0)) (y13 NB603_608.out BK603.out) k_ hk_), (Kd.freshB (g := gb608) (o := .cells #[.slice Ao31 t604.length co31] 50 (0, 0)) (by (with_reducible repeat (first | refine blk_drewN ?_ _ | refine blk_drew ?_ | refine blk_alloc ?_ _)); apply blk_put (i := 0); (case h => exact y0 BK608.out); (case e => rfl)) k_ hk_)⟩)) (below_size (y14 HB.out GE595.out GE596.out GE597.out GE603.out GE608.out))); replace HO601 := Aside0.mk (Kd.N_elder' (by (with_reducible repeat (first | apply Kd.N_alloc | apply Kd.N_drewN | apply Kd.N_drew)); exact (Kd.N_mono (Kd.N_far (p := ⟨gb608, 0, none⟩) (Kd.N_mono HO601.out (fun k_ hk => (⟨hk, hk.2⟩ : _ ∧ k_ ≠ gb608))) (fun _ hk => hk.2) (.slice Ao31 t604.length co31)) (fun _ h_ => h_.1))) (Kd.N_base ho0) hb); replace HO606 := Aside0.mk (Kd.N_elder' (by (with_reducible repeat (first | apply Kd.N_alloc | apply Kd.N_drewN | apply Kd.N_drew)); exact (Kd.N_mono (Kd.N_far (p := ⟨gb608, 0, none⟩) (Kd.N_mono HO606.out (fun k_ hk => (⟨hk, hk.2⟩ : _ ∧ k_ ≠ gb608))) (fun _ hk => hk.2) (.slice Ao31 t604.length co31)) (fun _ h_ => h_.1))) (Kd.N_base ho0) hb); replace BK595 := zbf BK595 NB595_608 hb; replace BK596 := zbf BK596 NB596_608 hb; replace BK597 := zbf BK597 NB597_608 hb; replace BK603 := zbf BK603 NB603_608 hb; replace BK608 := Aside0.mk (blk_below (g := gb608) (o := .cells #[.slice Ao31 t604.length co31] 50 (0, 0)) (by (with_reducible repeat (first | refine blk_drewN ?_ _ | refine blk_drew ?_ | refine blk_alloc ?_ _)); apply blk_put (i := 0); (case h => exact y0 BK608.out); (case e => rfl)) hb); replace HB := Aside0.mk (below_step (y14 HB.out GE595.out GE596.out GE597.out GE603.out GE608.out) hb); (try clear hb); (try clear hb2); (try clear hk); (try clear hi); (try clear ho0)) | ((with_reducible refine gate_dst (N := 12) rfl ?_); refine zbx 12 #[.slice none 0 0] 50 ?_; intro gb613 hg w41 hbox hb; replace HO0_1 := Aside0.mk (Kd.V_below (Kd.V_elderB (y11 HO0_1.out) gb613 (Nat.le_of_eq hg.symm)) hb); replace HO2_1 := Aside0.mk (Kd.V_below (Kd.V_elderB (y11 HO2_1.out) gb613 (Nat.le_of_eq hg.symm)) hb); replace HO601 := Aside0.mk (Kd.N_below (Kd.N_elderB (y2 HO601.out) gb613 (Nat.le_of_eq hg.symm)) hb); replace HO606 := Aside0.mk (Kd.N_below (Kd.N_elderB (y2 HO606.out) gb613 (Nat.le_of_eq hg.symm)) hb); replace HO611 := Aside0.mk (Kd.N_below (Kd.N_elderB (y2 HO611.out) gb613 (Nat.le_of_eq hg.symm)) hb); have BK613 := Aside0.mk hbox; have GW613 := Aside0.mk ((y30 hg HB.out GE595.out GE596.out GE597.out GE603.out GE608.out : w.heap.size ≤ gb613)); have GE613 := Aside0.mk ((y30 hg HB.out GE595.out GE596.out GE597.out GE603.out GE608.out : w.heap.size ≤ gb613)); replace HB := Aside0.mk (below_step (y14 HB.out GE595.out GE596.out GE597.out GE603.out GE608.out) hb); have NB595_613 := zltn hg BK595; have NB613_595 := zgtn hg BK595; replace BK595 := zbb BK595 hb; have NB596_613 := zltn hg BK596; have NB613_596 := zgtn hg BK596; replace BK596 := zbb BK596 hb; have NB597_613 := zltn hg BK597; have NB613_597 := zgtn hg BK597; replace BK597 := zbb BK597 hb; have NB603_613 := zltn hg BK603; have NB613_603 := zgtn hg BK603; replace BK603 := zbb BK603 hb; have NB608_613 := zltn hg BK608; have NB613_608 := zgtn hg BK608; replace BK608 := zbb BK608 hb; clear hb hbox hg; obtain ⟨Ao42, co42, eo42⟩ := Kd.N_slice HO611.out; subst eo42; have hnb43 := NB613_595.out; have hnc43 := NB595_613.out; have hnb44 := NB613_596.out; have hnc44 := NB596_613.out; have hnb45 := NB613_597.out; have hnc45 := NB597_613.out; have hnb46 := NB613_603.out; have hnc46 := NB603_613.out; have hnb47 := NB613_608.out; have hnc47 := NB608_613.out; have hcz48_0 := zh BK613; have hfz48_0 := zfr BK613 0; have hcz49_0 := zh BK608; have hfz49_0 := zfr BK608 0) | (go_at_call 46; (with_reducible refine (impl_typeSame.calls k _ _ t604 _ _ t609 t614 _ ?side1 ?side2 ?side3 ?side4 A23.out).mono ?_); (case side1 => refine (Kd.N_reads' (e := 50) (base := w.heap.size) (ok := fun k_ => ((((((P0_1_ k_ ∨ P2_1_ k_) ∨ w.heap.size ≤ k_) ∧ (some k_ ≠ (.slice Ao18 t599.length co18 : Value).ownBlock ∧ (k_ ≠ gb595 ∧ (k_ ≠ gb596 ∧ (k_ ≠ gb597 ∧ k_ ≠ gb603))))) ∧ k_ ≠ gb608) ∧ some k_ ≠ (.slice Ao42 t609.length co42 : Value).ownBlock) ∧ k_ ≠ gb613)) (n := t604.length) (c := co31) ?_).2.2; exact (by (with_reducible repeat (first | apply Kd.N_alloc | apply Kd.N_drewN | apply Kd.N_drew)); exact (Kd.N_mono (Kd.N_far (p := ⟨gb613, 0, none⟩) (Kd.N_mono HO606.out (fun k_ hk => (⟨hk, hk.2⟩ : _ ∧ k_ ≠ gb613))) (fun _ hk => hk.2) (.slice Ao42 t609.length co42)) (fun _ h_ => h_.1)))); (case side2 => exact (Kd.N_reads' HO606.out).2.1); (case side3 => refine (Kd.N_reads' (e := 50) (base := w.heap.size) (ok := fun k_ => ((((P0_1_ k_ ∨ P2_1_ k_) ∨ w.heap.size ≤ k_) ∧ (some k_ ≠ (.slice Ao18 t599.length co18 : Value).ownBlock ∧ (some k_ ≠ (.slice Ao31 t604.length co31 : Value).ownBlock ∧ (k_ ≠ gb595 ∧ (k_ ≠ gb596 ∧ (k_ ≠ gb597 ∧ (k_ ≠ gb603 ∧ k_ ≠ gb608))))))) ∧ k_ ≠ gb613)) (n := t609.length) (c := co42) ?_).2.2; exact (by (with_reducible repeat (first | apply Kd.N_alloc | apply Kd.N_drewN | apply Kd.N_drew)); exact (Kd.N_mono (Kd.N_far (p := ⟨gb613, 0, none⟩) (Kd.N_mono HO611.out (fun k_ hk => (⟨hk, hk.2⟩ : _ ∧ k_ ≠ gb613))) (fun _ hk => hk.2) (.slice Ao42 t609.length co42)) (fun _ h_ => h_.1)))); (case side4 => exact (Kd.N_reads' HO611.out).2.1); rintro e w50 ⟨rfl, hb⟩; replace HO0_1 := Aside0.mk (Kd.V_below (by (with_reducible repeat (first | apply Kd.V_alloc | apply Kd.V_drewN | apply Kd.V_drew)); exact (Kd.V_mono (Kd.V_far (p := ⟨gb613, 0, none⟩) (Kd.V_mono HO0_1.out (fun k_ hk => (⟨hk, hk.2⟩ : _ ∧ k_ ≠ gb613))) (fun _ hk => hk.2) (.slice Ao42 t609.length co42)) (fun _ h_ => h_.1))) hb); replace HO2_1 := Aside0.mk (Kd.V_below (by (with_reducible repeat (first | apply Kd.V_alloc | apply Kd.V_drewN | apply Kd.V_drew)); exact (Kd.V_mono (Kd.V_far (p := ⟨gb613, 0, none⟩) (Kd.V_mono HO2_1.out (fun k_ hk => (⟨hk, hk.2⟩ : _ ∧ k_ ≠ gb613))) (fun _ hk => hk.2) (.slice Ao42 t609.length co42)) (fun _ h_ => h_.1))) hb); replace HO601 := Aside0.mk (Kd.N_below (by (with_reducible repeat (first | apply Kd.N_alloc | apply Kd.N_drewN | apply Kd.N_drew)); exact (Kd.N_mono (Kd.N_far (p := ⟨gb613, 0, none⟩) (Kd.N_mono HO601.out (fun k_ hk => (⟨hk, hk.2⟩ : _ ∧ k_ ≠ gb613))) (fun _ hk => hk.2) (.slice Ao42 t609.length co42)) (fun _ h_ => h_.1))) hb); replace HO606 := Aside0.mk (Kd.N_below (by (with_reducible repeat (first | apply Kd.N_alloc | apply Kd.N_drewN | apply Kd.N_drew)); exact (Kd.N_mono (Kd.N_far (p := ⟨gb613, 0, none⟩) (Kd.N_mono HO606.out (fun k_ hk => (⟨hk, hk.2⟩ : _ ∧ k_ ≠ gb613))) (fun _ hk => hk.2) (.slice Ao42 t609.length co42)) (fun _ h_ => h_.1))) hb); replace HO611 := Aside0.mk (Kd.N_below (by (with_reducible repeat (first | apply Kd.N_alloc | apply Kd.N_drewN | apply Kd.N_drew)); exact (Kd.N_mono (Kd.N_far (p := ⟨gb613, 0, none⟩) (Kd.N_mono HO611.out (fun k_ hk => (⟨hk, hk.2⟩ : _ ∧ k_ ≠ gb613))) (fun _ hk => hk.2) (.slice Ao42 t609.length co42)) (fun _ h_ => h_.1))) hb); replace BK595 := zbf BK595 NB595_613 hb; replace BK596 := zbf BK596 NB596_613 hb; replace BK597 := zbf BK597 NB597_613 hb; replace BK603 := zbf BK603 NB603_613 hb; replace BK608 := zbf BK608 NB608_613 hb; replace BK613 := Aside0.mk (blk_below (g := gb613) (o := .cells #[.slice Ao42 t609.length co42] 50 (0, 0)) (by (with_reducible repeat (first | refine blk_drewN ?_ _ | refine blk_drew ?_ | refine blk_alloc ?_ _)); apply blk_put (i := 0); (case h => exact y0 BK613.out); (case e => rfl)) hb); replace HB := Aside0.mk (below_step (y17 HB.out GE595.out GE596.out GE597.out GE603.out GE608.out GE613.out) hb); (try clear hb); (try clear hb2); (try clear hk); (try clear hi)))
   (try simp only [Act.put, List.setIfInBounds_toArray, List.set_cons_zero, List.set_cons_succ])
   have H := HZ24.out
   clear HZ24
   by_cases c51 : t614 = true
   ·subst c51
    rw [if_pos rfl] at H
    obtain ⟨⟨t615, t616⟩, A520, H⟩ := ob H
    have A52 := Aside0.mk A520
    clear A520
    simp only [Option.some.injEq, Prod.mk.injEq] at H
    obtain ⟨rfl, rfl, rfl⟩ := H
    have hnb53 := NB595_596.out
    have hnc53 := NB596_595.out
    have hnb54 := NB595_597.out
    have hnc54 := NB597_595.out
    have hnb55 := NB595_603.out
    have hnc55 := NB603_595.out
    have hnb56 := NB595_608.out
    have hnc56 := NB608_595.out
    have hnb57 := NB595_613.out
    have hnc57 := NB613_595.out
    have hcz58_0 := zh BK595
    have hcz58_1 := zh1 BK595
    have hfz58_0 := zfr BK595 0
    have hfz58_1 := zfr BK595 1
    have hnb59 := NB596_597.out
    have hnc59 := NB597_596.out
    have hnb60 := NB596_603.out
    have hnc60 := NB603_596.out
    have hnb61 := NB596_608.out
    have hnc61 := NB608_596.out
    have hnb62 := NB596_613.out
    have hnc62 := NB613_596.out
    have hcz63_0 := zh BK596
    have hcz63_1 := zh1 BK596
    have hfz63_0 := zfr BK596 0
    have hfz63_1 := zfr BK596 1
    go_wp2_with (first | ((with_reducible refine gate_callee (f := 47) rfl ?_); refine goesL_ (some 44) rfl rfl Try.func47 (by kernel_rfl) rfl #[.agg #[.int .i64 a0_0, .slice A0_1 l0_1.length c0_1], .slice A1 l1.length c1, .agg #[.int .i64 a2_0, .slice A2_1 l2_1.length c2_1]] rfl y9 ?_; (with_reducible refine (impl_valWith.calls k a0_0 (fun k_ => (((((((((((P0_1_ k_ ∨ P2_1_ k_) ∨ w.heap.size ≤ k_) ∧ k_ ≠ gb595) ∧ k_ ≠ gb596) ∧ k_ ≠ gb597) ∧ some k_ ≠ (.slice Ao18 t599.length co18 : Value).ownBlock) ∧ k_ ≠ gb603) ∧ some k_ ≠ (.slice Ao31 t604.length co31 : Value).ownBlock) ∧ k_ ≠ gb608) ∧ some k_ ≠ (.slice Ao42 t609.length co42 : Value).ownBlock) ∧ k_ ≠ gb613)) _ _ l0_1 _ _ l1 a2_0 (fun k_ => (((((((((((P0_1_ k_ ∨ P2_1_ k_) ∨ w.heap.size ≤ k_) ∧ k_ ≠ gb595) ∧ k_ ≠ gb596) ∧ k_ ≠ gb597) ∧ some k_ ≠ (.slice Ao18 t599.length co18 : Value).ownBlock) ∧ k_ ≠ gb603) ∧ some k_ ≠ (.slice Ao31 t604.length co31 : Value).ownBlock) ∧ k_ ≠ gb608) ∧ some k_ ≠ (.slice Ao42 t609.length co42 : Value).ownBlock) ∧ k_ ≠ gb613)) _ _ l2_1 t615 t616 _ ?side1 ?side2 ?side3 ?side4 A52.out).mono ?_); (case side1 => exact HO0_1.out); (case side2 => exact y18 HR1.out HB.out); (case side3 => exact HC1.out); (case side4 => exact HO2_1.out); rintro e w64 ⟨v617, rfl, ho0, hb⟩; refine ⟨_, rfl, ?_⟩; replace HO0_1 := Aside0.mk (Kd.V_elder' (y11 HO0_1.out) (Kd.N_base ho0) hb); replace HO2_1 := Aside0.mk (Kd.V_elder' (y11 HO2_1.out) (Kd.N_base ho0) hb); have HO618 := Aside0.mk (Kd.N_lower (Kd.N_mono (ok' := fun k_ => ((P0_1_ k_ ∨ P2_1_ k_) ∨ w.heap.size ≤ k_) ∧ some k_ ≠ (.slice Ao18 t599.length co18 : Value).ownBlock ∧ some k_ ≠ (.slice Ao31 t604.length co31 : Value).ownBlock ∧ some k_ ≠ (.slice Ao42 t609.length co42 : Value).ownBlock ∧ k_ ≠ gb595 ∧ k_ ≠ gb596 ∧ k_ ≠ gb597 ∧ k_ ≠ gb603 ∧ k_ ≠ gb608 ∧ k_ ≠ gb613) ho0 (fun k_ hk_ => ⟨Or.elim hk_ (fun hs_ => Or.elim hs_ (fun hs_ => hs_.1.1.1.1.1.1.1.1.1) (fun hs_ => hs_.1.1.1.1.1.1.1.1.1)) (fun hn_ => (.inr (Nat.le_trans (below_size (y17 HB.out GE595.out GE596.out GE597.out GE603.out GE608.out GE613.out)) hn_))), Or.elim hk_ (fun hs_ => Or.elim hs_ (fun hs_ => hs_.1.1.1.1.1.2) (fun hs_ => hs_.1.1.1.1.1.2)) (fun hn_ => (Kd.fresh' (Kd.N_lt (y2 HO601.out)) k_ hn_)), Or.elim hk_ (fun hs_ => Or.elim hs_ (fun hs_ => hs_.1.1.1.2) (fun hs_ => hs_.1.1.1.2)) (fun hn_ => (Kd.fresh' (Kd.N_lt (y2 HO606.out)) k_ hn_)), Or.elim hk_ (fun hs_ => Or.elim hs_ (fun hs_ => hs_.1.2) (fun hs_ => hs_.1.2)) (fun hn_ => (Kd.fresh' (Kd.N_lt (y2 HO611.out)) k_ hn_)), Or.elim hk_ (fun hs_ => Or.elim hs_ (fun hs_ => hs_.1.1.1.1.1.1.1.1.2) (fun hs_ => hs_.1.1.1.1.1.1.1.1.2)) (fun hn_ => (Kd.freshB (g := gb595) (o := .cells #[.int .i64 a0_0, .slice A0_1 l0_1.length c0_1] 25 (0, 0)) (y0 BK595.out) k_ hn_)), Or.elim hk_ (fun hs_ => Or.elim hs_ (fun hs_ => hs_.1.1.1.1.1.1.1.2) (fun hs_ => hs_.1.1.1.1.1.1.1.2)) (fun hn_ => (Kd.freshB (g := gb596) (o := .cells #[.int .i64 a2_0, .slice A2_1 l2_1.length c2_1] 25 (0, 0)) (y0 BK596.out) k_ hn_)), Or.elim hk_ (fun hs_ => Or.elim hs_ (fun hs_ => hs_.1.1.1.1.1.1.2) (fun hs_ => hs_.1.1.1.1.1.1.2)) (fun hn_ => (Kd.freshB (g := gb597) (o := .cells #[.int .i64 0, .slice none 0 0] 25 (0, 0)) (y0 BK597.out) k_ hn_)), Or.elim hk_ (fun hs_ => Or.elim hs_ (fun hs_ => hs_.1.1.1.1.2) (fun hs_ => hs_.1.1.1.1.2)) (fun hn_ => (Kd.freshB (g := gb603) (o := .cells #[.int .i64 t598, .slice Ao18 t599.length co18] 25 (0, 0)) (y0 BK603.out) k_ hn_)), Or.elim hk_ (fun hs_ => Or.elim hs_ (fun hs_ => hs_.1.1.2) (fun hs_ => hs_.1.1.2)) (fun hn_ => (Kd.freshB (g := gb608) (o := .cells #[.slice Ao31 t604.length co31] 50 (0, 0)) (y0 BK608.out) k_ hn_)), Or.elim hk_ (fun hs_ => Or.elim hs_ (fun hs_ => hs_.2) (fun hs_ => hs_.2)) (fun hn_ => (Kd.freshB (g := gb613) (o := .cells #[.slice Ao42 t609.length co42] 50 (0, 0)) (y0 BK613.out) k_ hn_))⟩)) (below_size (y17 HB.out GE595.out GE596.out GE597.out GE603.out GE608.out GE613.out))); replace HO601 := Aside0.mk (Kd.N_elder' (y2 HO601.out) (Kd.N_base ho0) hb); replace HO606 := Aside0.mk (Kd.N_elder' (y2 HO606.out) (Kd.N_base ho0) hb); replace HO611 := Aside0.mk (Kd.N_elder' (y2 HO611.out) (Kd.N_base ho0) hb); replace BK595 := zbb BK595 hb; replace BK596 := zbb BK596 hb; replace BK597 := zbb BK597 hb; replace BK603 := zbb BK603 hb; replace BK608 := zbb BK608 hb; replace BK613 := zbb BK613 hb; replace HB := Aside0.mk (below_step (y17 HB.out GE595.out GE596.out GE597.out GE603.out GE608.out GE613.out) hb); (try clear hb); (try clear hb2); (try clear hk); (try clear hi); (try clear ho0); have hnb65 := NB597_603.out; have hnc65 := NB603_597.out; have hnb66 := NB597_608.out; have hnc66 := NB608_597.out; have hnb67 := NB597_613.out; have hnc67 := NB613_597.out; have hcz68_0 := zh BK597; have hcz68_1 := zh1 BK597; have hfz68_0 := zfr BK597 0; have hfz68_1 := zfr BK597 1; obtain ⟨Ao69, co69, eo69⟩ := Kd.N_slice HO618.out; subst eo69))
    refine bodyPost_ret (results_ct rfl _ _ gb597 25 #[.int .i64 t615, .slice Ao69 t616.length co69] (0, 0) _ rfl (by (with_reducible repeat (first | refine blk_drewN ?_ _ | refine blk_drew ?_ | refine blk_alloc ?_ _)); refine blk_put (cs := #[.int .i64 t615, .slice none 0 0]) ?_ 1 _ rfl; (with_reducible repeat (first | refine blk_drewN ?_ _ | refine blk_drew ?_ | refine blk_alloc ?_ _)); apply blk_put (i := 0); (case h => exact y0 BK597.out); (case e => rfl)) Try.underlying25 rfl (by kernel_rfl)) rfl ?_
    exact ⟨_, y15, (by (with_reducible repeat (first | apply Kd.N_alloc | apply Kd.N_drewN | apply Kd.N_drew)); exact Kd.N_mono (Kd.N_far (p := ⟨gb597, 1, none⟩) (Kd.N_far (p := ⟨gb597, 0, none⟩) (Kd.N_mono HO618.out (fun k_ hk => (⟨hk, hk.2.2.2.2.2.2.1⟩ : _ ∧ k_ ≠ gb597))) (fun _ hk => hk.2) (.int .i64 t615)) (fun _ hk => hk.2) (.slice Ao69 t616.length co69)) (fun _ hk => hk.1.1)), (y17 HB.out GE595.out GE596.out GE597.out GE603.out GE608.out GE613.out)⟩
   ·replace c51 := Bool.eq_false_iff.mpr c51
    subst c51
    rw [if_neg (show ¬ (false = true) by decide)] at H
    simp only [Option.some.injEq, Prod.mk.injEq] at H
    obtain ⟨rfl, rfl, rfl⟩ := H
    have hnb70 := NB597_595.out
    have hnc70 := NB595_597.out
    have hnb71 := NB597_596.out
    have hnc71 := NB596_597.out
    have hnb72 := NB597_603.out
    have hnc72 := NB603_597.out
    have hnb73 := NB597_608.out
    have hnc73 := NB608_597.out
    have hnb74 := NB597_613.out
    have hnc74 := NB613_597.out
    have hcz75_0 := zh BK597
    have hcz75_1 := zh1 BK597
    have hfz75_0 := zfr BK597 0
    have hfz75_1 := zfr BK597 1
    go_wp2
    refine bodyPost_ret (results_ct rfl _ _ gb597 25 #[.int .i64 0, .slice none 0 0] (0, 0) _ rfl (by (with_reducible repeat (first | refine blk_drewN ?_ _ | refine blk_drew ?_ | refine blk_alloc ?_ _)); refine blk_put (cs := #[.int .i64 0, .slice none 0 0]) ?_ 1 _ rfl; (with_reducible repeat (first | refine blk_drewN ?_ _ | refine blk_drew ?_ | refine blk_alloc ?_ _)); apply blk_put (i := 0); (case h => exact y0 BK597.out); (case e => rfl)) Try.underlying25 rfl (by kernel_rfl)) rfl ?_
    exact ⟨_, y15, y38, (y17 HB.out GE595.out GE596.out GE597.out GE603.out GE608.out GE613.out)⟩
  ·replace c22 := Bool.eq_false_iff.mpr c22
   subst c22
   rw [if_neg (show ¬ (false = true) by decide)] at H
   simp only [Option.some.injEq, Prod.mk.injEq] at H
   obtain ⟨rfl, rfl, rfl⟩ := H
   have hnb76 := NB603_595.out
   have hnc76 := NB595_603.out
   have hnb77 := NB603_596.out
   have hnc77 := NB596_603.out
   have hnb78 := NB603_597.out
   have hnc78 := NB597_603.out
   have hcz79_0 := zh BK603
   have hcz79_1 := zh1 BK603
   have hfz79_0 := zfr BK603 0
   have hfz79_1 := zfr BK603 1
   go_wp2_with (first | ((with_reducible refine gate_callee (f := 38) rfl ?_); refine goesL_ (some 24) rfl rfl Try.func38 (by kernel_rfl) rfl #[.agg #[.int .i64 t598, .slice Ao18 t599.length co18]] rfl y9 ?_; (with_reducible refine (impl_valTyped.calls k t598 _ _ t599 t604 t607 _ ?side1 ?side2 A20.out).mono ?_); (case side1 => refine (Kd.N_reads' (e := 25) (base := w.heap.size) (ok := fun k_ => ((((P0_1_ k_ ∨ P2_1_ k_) ∨ w.heap.size ≤ k_) ∧ (k_ ≠ gb595 ∧ (k_ ≠ gb596 ∧ k_ ≠ gb597))) ∧ k_ ≠ gb603)) (n := t599.length) (c := co18) ?_).2.2; exact (by (with_reducible repeat (first | apply Kd.N_alloc | apply Kd.N_drewN | apply Kd.N_drew)); exact (Kd.N_mono (Kd.N_far (p := ⟨gb603, 1, none⟩) (Kd.N_far (p := ⟨gb603, 0, none⟩) (Kd.N_mono HO601.out (fun k_ hk => (⟨hk, hk.2⟩ : _ ∧ k_ ≠ gb603))) (fun _ hk => hk.2) (.int .i64 t598)) (fun _ hk => hk.2) (.slice Ao18 t599.length co18)) (fun _ h_ => h_.1)))); (case side2 => exact (Kd.N_reads' HO601.out).2.1); rintro e w80 ⟨v605, rfl, ho0, hb⟩; refine ⟨_, rfl, ?_⟩; replace HO0_1 := Aside0.mk (Kd.V_elder' (by (with_reducible repeat (first | apply Kd.V_alloc | apply Kd.V_drewN | apply Kd.V_drew)); exact (Kd.V_mono (Kd.V_far (p := ⟨gb603, 1, none⟩) (Kd.V_far (p := ⟨gb603, 0, none⟩) (Kd.V_mono HO0_1.out (fun k_ hk => (⟨hk, hk.2⟩ : _ ∧ k_ ≠ gb603))) (fun _ hk => hk.2) (.int .i64 t598)) (fun _ hk => hk.2) (.slice Ao18 t599.length co18)) (fun _ h_ => h_.1))) (Kd.N_base ho0) hb); replace HO2_1 := Aside0.mk (Kd.V_elder' (by (with_reducible repeat (first | apply Kd.V_alloc | apply Kd.V_drewN | apply Kd.V_drew)); exact (Kd.V_mono (Kd.V_far (p := ⟨gb603, 1, none⟩) (Kd.V_far (p := ⟨gb603, 0, none⟩) (Kd.V_mono HO2_1.out (fun k_ hk => (⟨hk, hk.2⟩ : _ ∧ k_ ≠ gb603))) (fun _ hk => hk.2) (.int .i64 t598)) (fun _ hk => hk.2) (.slice Ao18 t599.length co18)) (fun _ h_ => h_.1))) (Kd.N_base ho0) hb); have HO606 := Aside0.mk (Kd.N_lower (Kd.N_mono (ok' := fun k_ => ((P0_1_ k_ ∨ P2_1_ k_) ∨ w.heap.size ≤ k_) ∧ some k_ ≠ (.slice Ao18 t599.length co18 : Value).ownBlock ∧ k_ ≠ gb595 ∧ k_ ≠ gb596 ∧ k_ ≠ gb597 ∧ k_ ≠ gb603) ho0 (fun k_ hk_ => ⟨(.inr (Nat.le_trans (below_size (y5 HB.out GE595.out GE596.out GE597.out GE603.out)) hk_)), (Kd.fresh' (Kd.N_lt (by (with_reducible repeat (first | apply Kd.N_alloc | apply Kd.N_drewN | apply Kd.N_drew)); exact (Kd.N_mono (Kd.N_far (p := ⟨gb603, 1, none⟩) (Kd.N_far (p := ⟨gb603, 0, none⟩) (Kd.N_mono HO601.out (fun k_ hk => (⟨hk, hk.2⟩ : _ ∧ k_ ≠ gb603))) (fun _ hk => hk.2) (.int .i64 t598)) (fun _ hk => hk.2) (.slice Ao18 t599.length co18)) (fun _ h_ => h_.1)))) k_ hk_), (Kd.freshB (g := gb595) (o := .cells #[.int .i64 a0_0, .slice A0_1 l0_1.length c0_1] 25 (0, 0)) (y1 NB595_603.out BK595.out) k_ hk_), (Kd.freshB (g := gb596) (o := .cells #[.int .i64 a2_0, .slice A2_1 l2_1.length c2_1] 25 (0, 0)) (y1 NB596_603.out BK596.out) k_ hk_), (Kd.freshB (g := gb597) (o := .cells #[.int .i64 0, .slice none 0 0] 25 (0, 0)) (y1 NB597_603.out BK597.out) k_ hk_), (Kd.freshB (g := gb603) (o := .cells #[.int .i64 t598, .slice Ao18 t599.length co18] 25 (0, 0)) (by (with_reducible repeat (first | refine blk_drewN ?_ _ | refine blk_drew ?_ | refine blk_alloc ?_ _)); refine blk_put (cs := #[.int .i64 t598, .slice none 0 0]) ?_ 1 _ rfl; (with_reducible repeat (first | refine blk_drewN ?_ _ | refine blk_drew ?_ | refine blk_alloc ?_ _)); apply blk_put (i := 0); (case h => exact y0 BK603.out); (case e => rfl)) k_ hk_)⟩)) (below_size (y5 HB.out GE595.out GE596.out GE597.out GE603.out))); replace HO601 := Aside0.mk (Kd.N_elder' (by (with_reducible repeat (first | apply Kd.N_alloc | apply Kd.N_drewN | apply Kd.N_drew)); exact (Kd.N_mono (Kd.N_far (p := ⟨gb603, 1, none⟩) (Kd.N_far (p := ⟨gb603, 0, none⟩) (Kd.N_mono HO601.out (fun k_ hk => (⟨hk, hk.2⟩ : _ ∧ k_ ≠ gb603))) (fun _ hk => hk.2) (.int .i64 t598)) (fun _ hk => hk.2) (.slice Ao18 t599.length co18)) (fun _ h_ => h_.1))) (Kd.N_base ho0) hb); replace BK595 := Aside0.mk (blk_below (g := gb595) (o := .cells #[.int .i64 a0_0, .slice A0_1 l0_1.length c0_1] 25 (0, 0)) (y1 NB595_603.out BK595.out) hb); replace BK596 := Aside0.mk (blk_below (g := gb596) (o := .cells #[.int .i64 a2_0, .slice A2_1 l2_1.length c2_1] 25 (0, 0)) (y1 NB596_603.out BK596.out) hb); replace BK597 := Aside0.mk (blk_below (g := gb597) (o := .cells #[.int .i64 0, .slice none 0 0] 25 (0, 0)) (y1 NB597_603.out BK597.out) hb); replace BK603 := Aside0.mk (blk_below (g := gb603) (o := .cells #[.int .i64 t598, .slice Ao18 t599.length co18] 25 (0, 0)) (by (with_reducible repeat (first | refine blk_drewN ?_ _ | refine blk_drew ?_ | refine blk_alloc ?_ _)); refine blk_put (cs := #[.int .i64 t598, .slice none 0 0]) ?_ 1 _ rfl; (with_reducible repeat (first | refine blk_drewN ?_ _ | refine blk_drew ?_ | refine blk_alloc ?_ _)); apply blk_put (i := 0); (case h => exact y0 BK603.out); (case e => rfl)) hb); replace HB := Aside0.mk (below_step (y5 HB.out GE595.out GE596.out GE597.out GE603.out) hb); (try clear hb); (try clear hb2); (try clear hk); (try clear hi); (try clear ho0)) | ((with_reducible refine gate_dst (N := 10) rfl ?_); refine zbx 10 #[.slice none 0 0] 50 ?_; intro gb608 hg w81 hbox hb; replace HO0_1 := Aside0.mk (Kd.V_below (Kd.V_elderB (y11 HO0_1.out) gb608 (Nat.le_of_eq hg.symm)) hb); replace HO2_1 := Aside0.mk (Kd.V_below (Kd.V_elderB (y11 HO2_1.out) gb608 (Nat.le_of_eq hg.symm)) hb); replace HO601 := Aside0.mk (Kd.N_below (Kd.N_elderB (y2 HO601.out) gb608 (Nat.le_of_eq hg.symm)) hb); replace HO606 := Aside0.mk (Kd.N_below (Kd.N_elderB (y2 HO606.out) gb608 (Nat.le_of_eq hg.symm)) hb); have BK608 := Aside0.mk hbox; have GW608 := Aside0.mk ((y27 hg HB.out GE595.out GE596.out GE597.out GE603.out : w.heap.size ≤ gb608)); have GE608 := Aside0.mk ((y27 hg HB.out GE595.out GE596.out GE597.out GE603.out : w.heap.size ≤ gb608)); replace HB := Aside0.mk (below_step (y5 HB.out GE595.out GE596.out GE597.out GE603.out) hb); have NB595_608 := zltn hg BK595; have NB608_595 := zgtn hg BK595; replace BK595 := zbb BK595 hb; have NB596_608 := zltn hg BK596; have NB608_596 := zgtn hg BK596; replace BK596 := zbb BK596 hb; have NB597_608 := zltn hg BK597; have NB608_597 := zgtn hg BK597; replace BK597 := zbb BK597 hb; have NB603_608 := zltn hg BK603; have NB608_603 := zgtn hg BK603; replace BK603 := zbb BK603 hb; clear hb hbox hg; obtain ⟨Ao82, co82, eo82⟩ := Kd.N_slice HO606.out; subst eo82; have hnb83 := NB608_595.out; have hnc83 := NB595_608.out; have hnb84 := NB608_596.out; have hnc84 := NB596_608.out; have hnb85 := NB608_597.out; have hnc85 := NB597_608.out; have hnb86 := NB608_603.out; have hnc86 := NB603_608.out; have hcz87_0 := zh BK608; have hfz87_0 := zfr BK608 0; have hnb88 := NB596_595.out; have hnc88 := NB595_596.out; have hnb89 := NB596_597.out; have hnc89 := NB597_596.out; have hcz90_0 := zh BK596; have hcz90_1 := zh1 BK596; have hfz90_0 := zfr BK596 0; have hfz90_1 := zfr BK596 1) | ((with_reducible refine gate_callee (f := 38) rfl ?_); refine goesL_ (some 29) rfl rfl Try.func38 (by kernel_rfl) rfl #[.agg #[.int .i64 a2_0, .slice A2_1 l2_1.length c2_1]] rfl y9 ?_; (with_reducible refine (impl_valTyped.calls k a2_0 _ _ l2_1 t609 false _ ?side1 ?side2 A21.out).mono ?_); (case side1 => refine (Kd.V_reads' (e := 25) (base := w.heap.size) (ok := fun k_ => (((((((((P0_1_ k_ ∨ P2_1_ k_) ∨ w.heap.size ≤ k_) ∧ k_ ≠ gb595) ∧ k_ ≠ gb596) ∧ k_ ≠ gb597) ∧ some k_ ≠ (.slice Ao18 t599.length co18 : Value).ownBlock) ∧ k_ ≠ gb603) ∧ some k_ ≠ (.slice Ao82 t604.length co82 : Value).ownBlock) ∧ k_ ≠ gb608)) (n := l2_1.length) (c := c2_1) ?_).2.2; exact (by (with_reducible repeat (first | apply Kd.V_alloc | apply Kd.V_drewN | apply Kd.V_drew)); exact (Kd.V_mono (Kd.V_far (p := ⟨gb608, 0, none⟩) (Kd.V_mono HO2_1.out (fun k_ hk => (⟨hk, hk.2⟩ : _ ∧ k_ ≠ gb608))) (fun _ hk => hk.2) (.slice Ao82 t604.length co82)) (fun _ h_ => h_.1)))); (case side2 => exact (Kd.V_reads' HO2_1.out).2.1); rintro e w91 ⟨v610, rfl, ho0, hb⟩; refine ⟨_, rfl, ?_⟩; replace HO0_1 := Aside0.mk (Kd.V_elder' (by (with_reducible repeat (first | apply Kd.V_alloc | apply Kd.V_drewN | apply Kd.V_drew)); exact (Kd.V_mono (Kd.V_far (p := ⟨gb608, 0, none⟩) (Kd.V_mono HO0_1.out (fun k_ hk => (⟨hk, hk.2⟩ : _ ∧ k_ ≠ gb608))) (fun _ hk => hk.2) (.slice Ao82 t604.length co82)) (fun _ h_ => h_.1))) (Kd.N_base ho0) hb); replace HO2_1 := Aside0.mk (Kd.V_elder' (by (with_reducible repeat (first | apply Kd.V_alloc | apply Kd.V_drewN | apply Kd.V_drew)); exact (Kd.V_mono (Kd.V_far (p := ⟨gb608, 0, none⟩) (Kd.V_mono HO2_1.out (fun k_ hk => (⟨hk, hk.2⟩ : _ ∧ k_ ≠ gb608))) (fun _ hk => hk.2) (.slice Ao82 t604.length co82)) (fun _ h_ => h_.1))) (Kd.N_base ho0) hb); have HO611 := Aside0.mk (Kd.N_lower (Kd.N_mono (ok' := fun k_ => ((P0_1_ k_ ∨ P2_1_ k_) ∨ w.heap.size ≤ k_) ∧ some k_ ≠ (.slice Ao18 t599.length co18 : Value).ownBlock ∧ some k_ ≠ (.slice Ao82 t604.length co82 : Value).ownBlock ∧ k_ ≠ gb595 ∧ k_ ≠ gb596 ∧ k_ ≠ gb597 ∧ k_ ≠ gb603 ∧ k_ ≠ gb608) ho0 (fun k_ hk_ => ⟨(.inr (Nat.le_trans (below_size (y14 HB.out GE595.out GE596.out GE597.out GE603.out GE608.out)) hk_)), (Kd.fresh' (Kd.N_lt (by (with_reducible repeat (first | apply Kd.N_alloc | apply Kd.N_drewN | apply Kd.N_drew)); exact (Kd.N_mono (Kd.N_far (p := ⟨gb608, 0, none⟩) (Kd.N_mono HO601.out (fun k_ hk => (⟨hk, hk.2⟩ : _ ∧ k_ ≠ gb608))) (fun _ hk => hk.2) (.slice Ao82 t604.length co82)) (fun _ h_ => h_.1)))) k_ hk_), (Kd.fresh' (Kd.N_lt (by (with_reducible repeat (first | apply Kd.N_alloc | apply Kd.N_drewN | apply Kd.N_drew)); exact (Kd.N_mono (Kd.N_far (p := ⟨gb608, 0, none⟩) (Kd.N_mono HO606.out (fun k_ hk => (⟨hk, hk.2⟩ : _ ∧ k_ ≠ gb608))) (fun _ hk => hk.2) (.slice Ao82 t604.length co82)) (fun _ h_ => h_.1)))) k_ hk_), (Kd.freshB (g := gb595) (o := .cells #[.int .i64 a0_0, .slice A0_1 l0_1.length c0_1] 25 (0, 0)) (y13 NB595_608.out BK595.out) k_ hk_), (Kd.freshB (g := gb596) (o := .cells #[.int .i64 a2_0, .slice A2_1 l2_1.length c2_1] 25 (0, 0)) (y13 NB596_608.out BK596.out) k_ hk_), (Kd.freshB (g := gb597) (o := .cells #[.int .i64 0, .slice none 0 0] 25 (0, 0)) (y13 NB597_608.out BK597.out) k_ hk_), (Kd.freshB (g := gb603) (o := .cells #[.int .i64 t598, .slice Ao18 t599.length co18] 25 (0, 0)) (y13 NB603_608.out BK603.out) k_ hk_), (Kd.freshB (g := gb608) (o := .cells #[.slice Ao82 t604.length co82] 50 (0, 0)) (by (with_reducible repeat (first | refine blk_drewN ?_ _ | refine blk_drew ?_ | refine blk_alloc ?_ _)); apply blk_put (i := 0); (case h => exact y0 BK608.out); (case e => rfl)) k_ hk_)⟩)) (below_size (y14 HB.out GE595.out GE596.out GE597.out GE603.out GE608.out))); replace HO601 := Aside0.mk (Kd.N_elder' (by (with_reducible repeat (first | apply Kd.N_alloc | apply Kd.N_drewN | apply Kd.N_drew)); exact (Kd.N_mono (Kd.N_far (p := ⟨gb608, 0, none⟩) (Kd.N_mono HO601.out (fun k_ hk => (⟨hk, hk.2⟩ : _ ∧ k_ ≠ gb608))) (fun _ hk => hk.2) (.slice Ao82 t604.length co82)) (fun _ h_ => h_.1))) (Kd.N_base ho0) hb); replace HO606 := Aside0.mk (Kd.N_elder' (by (with_reducible repeat (first | apply Kd.N_alloc | apply Kd.N_drewN | apply Kd.N_drew)); exact (Kd.N_mono (Kd.N_far (p := ⟨gb608, 0, none⟩) (Kd.N_mono HO606.out (fun k_ hk => (⟨hk, hk.2⟩ : _ ∧ k_ ≠ gb608))) (fun _ hk => hk.2) (.slice Ao82 t604.length co82)) (fun _ h_ => h_.1))) (Kd.N_base ho0) hb); replace BK595 := zbf BK595 NB595_608 hb; replace BK596 := zbf BK596 NB596_608 hb; replace BK597 := zbf BK597 NB597_608 hb; replace BK603 := zbf BK603 NB603_608 hb; replace BK608 := Aside0.mk (blk_below (g := gb608) (o := .cells #[.slice Ao82 t604.length co82] 50 (0, 0)) (by (with_reducible repeat (first | refine blk_drewN ?_ _ | refine blk_drew ?_ | refine blk_alloc ?_ _)); apply blk_put (i := 0); (case h => exact y0 BK608.out); (case e => rfl)) hb); replace HB := Aside0.mk (below_step (y14 HB.out GE595.out GE596.out GE597.out GE603.out GE608.out) hb); (try clear hb); (try clear hb2); (try clear hk); (try clear hi); (try clear ho0)) | ((with_reducible refine gate_dst (N := 12) rfl ?_); refine zbx 12 #[.slice none 0 0] 50 ?_; intro gb613 hg w92 hbox hb; replace HO0_1 := Aside0.mk (Kd.V_below (Kd.V_elderB (y11 HO0_1.out) gb613 (Nat.le_of_eq hg.symm)) hb); replace HO2_1 := Aside0.mk (Kd.V_below (Kd.V_elderB (y11 HO2_1.out) gb613 (Nat.le_of_eq hg.symm)) hb); replace HO601 := Aside0.mk (Kd.N_below (Kd.N_elderB (y2 HO601.out) gb613 (Nat.le_of_eq hg.symm)) hb); replace HO606 := Aside0.mk (Kd.N_below (Kd.N_elderB (y2 HO606.out) gb613 (Nat.le_of_eq hg.symm)) hb); replace HO611 := Aside0.mk (Kd.N_below (Kd.N_elderB (y2 HO611.out) gb613 (Nat.le_of_eq hg.symm)) hb); have BK613 := Aside0.mk hbox; have GW613 := Aside0.mk ((y30 hg HB.out GE595.out GE596.out GE597.out GE603.out GE608.out : w.heap.size ≤ gb613)); have GE613 := Aside0.mk ((y30 hg HB.out GE595.out GE596.out GE597.out GE603.out GE608.out : w.heap.size ≤ gb613)); replace HB := Aside0.mk (below_step (y14 HB.out GE595.out GE596.out GE597.out GE603.out GE608.out) hb); have NB595_613 := zltn hg BK595; have NB613_595 := zgtn hg BK595; replace BK595 := zbb BK595 hb; have NB596_613 := zltn hg BK596; have NB613_596 := zgtn hg BK596; replace BK596 := zbb BK596 hb; have NB597_613 := zltn hg BK597; have NB613_597 := zgtn hg BK597; replace BK597 := zbb BK597 hb; have NB603_613 := zltn hg BK603; have NB613_603 := zgtn hg BK603; replace BK603 := zbb BK603 hb; have NB608_613 := zltn hg BK608; have NB613_608 := zgtn hg BK608; replace BK608 := zbb BK608 hb; clear hb hbox hg; obtain ⟨Ao93, co93, eo93⟩ := Kd.N_slice HO611.out; subst eo93; have hnb94 := NB613_595.out; have hnc94 := NB595_613.out; have hnb95 := NB613_596.out; have hnc95 := NB596_613.out; have hnb96 := NB613_597.out; have hnc96 := NB597_613.out; have hnb97 := NB613_603.out; have hnc97 := NB603_613.out; have hnb98 := NB613_608.out; have hnc98 := NB608_613.out; have hcz99_0 := zh BK613; have hfz99_0 := zfr BK613 0; have hnb100 := NB597_595.out; have hnc100 := NB595_597.out; have hcz101_0 := zh BK597; have hcz101_1 := zh1 BK597; have hfz101_0 := zfr BK597 0; have hfz101_1 := zfr BK597 1))
   refine bodyPost_ret (results_ct rfl _ _ gb597 25 #[.int .i64 0, .slice none 0 0] (0, 0) _ rfl (by (with_reducible repeat (first | refine blk_drewN ?_ _ | refine blk_drew ?_ | refine blk_alloc ?_ _)); refine blk_put (cs := #[.int .i64 0, .slice none 0 0]) ?_ 1 _ rfl; (with_reducible repeat (first | refine blk_drewN ?_ _ | refine blk_drew ?_ | refine blk_alloc ?_ _)); refine blk_put (cs := #[.int .i64 0, .slice none 0 0]) ?_ 0 _ rfl; (with_reducible repeat (first | refine blk_drewN ?_ _ | refine blk_drew ?_ | refine blk_alloc ?_ _)); refine blk_far ?_ NB597_613.out _; (with_reducible repeat (first | refine blk_drewN ?_ _ | refine blk_drew ?_ | refine blk_alloc ?_ _)); exact BK597.out) Try.underlying25 rfl (by kernel_rfl)) rfl ?_
   exact ⟨_, y15, y38, (y17 HB.out GE595.out GE596.out GE597.out GE603.out GE608.out GE613.out)⟩
 ·replace c19 := Bool.eq_false_iff.mpr c19
  subst c19
  rw [if_neg (show ¬ (false = true) by decide)] at H
  simp only [Option.some.injEq, Prod.mk.injEq] at H
  obtain ⟨rfl, rfl, rfl⟩ := H
  have hnb102 := NB597_595.out
  have hnc102 := NB595_597.out
  have hnb103 := NB597_596.out
  have hnc103 := NB596_597.out
  have hnb104 := NB597_603.out
  have hnc104 := NB603_597.out
  have hcz105_0 := zh BK597
  have hcz105_1 := zh1 BK597
  have hfz105_0 := zfr BK597 0
  have hfz105_1 := zfr BK597 1
  go_wp2
  refine bodyPost_ret (results_ct rfl _ _ gb597 25 #[.int .i64 0, .slice none 0 0] (0, 0) _ rfl (by (with_reducible repeat (first | refine blk_drewN ?_ _ | refine blk_drew ?_ | refine blk_alloc ?_ _)); refine blk_put (cs := #[.int .i64 0, .slice none 0 0]) ?_ 1 _ rfl; (with_reducible repeat (first | refine blk_drewN ?_ _ | refine blk_drew ?_ | refine blk_alloc ?_ _)); refine blk_put (cs := #[.int .i64 0, .slice none 0 0]) ?_ 0 _ rfl; (with_reducible repeat (first | refine blk_drewN ?_ _ | refine blk_drew ?_ | refine blk_alloc ?_ _)); refine blk_far ?_ NB597_603.out _; (with_reducible repeat (first | refine blk_drewN ?_ _ | refine blk_drew ?_ | refine blk_alloc ?_ _)); refine blk_far ?_ NB597_603.out _; (with_reducible repeat (first | refine blk_drewN ?_ _ | refine blk_drew ?_ | refine blk_alloc ?_ _)); exact BK597.out) Try.underlying25 rfl (by kernel_rfl)) rfl ?_
  exact ⟨_, y15, y38, (y5 HB.out GE595.out GE596.out GE597.out GE603.out)⟩
end Go.Proofs.Ythfflieeifakdaa.PA
end
section
namespace Go.Proofs.Ythfflieeifakdaa.PA
open Go.RowKit Go.Proofs.YthfflieeifakdaaW.PrintWords Go.Proofs.YthfflieeifakdaaW.PrintLast Go.Proofs.YthfflieeifakdaaW.PrintMore
attribute [local go_sem] max2_int min2_int max_two min_two max_three min_three max_four min_four
set_option linter.unusedVariables false
set_option linter.unusedSimpArgs false
def IsS75 (w0 W : World) (g : Nat) (f0 : List Int) (f1 : Int) : Prop := ∃ A0 c0, W.heap[g]? = some (.cells #[.slice A0 f0.length c0, .int .i64 f1] 75 (0, 0)) ∧ w0.heap.size ≤ g ∧ Kd.C (Kd.int .u8) w0 A0 f0.length f0
theorem IsS75.grown {w0 W : World} {g : Nat} {f0 : List Int} {f1 : Int} {W1 : World} {row : Option Nat} (h : IsS75 w0 W g f0 f1) (hw : W.grownBy W1 row) (hne : some g ≠ row) : IsS75 w0 W1 g f0 f1 := by
 obtain ⟨A0, c0, hb, hg, hr0⟩ := h
 exact ⟨A0, c0, blk_grown hb hw hne, hg, hr0⟩
theorem IsS75.own_neN {w0 W : World} {g : Nat} {f0 : List Int} {f1 : Int} {α : Type} {d : Kd α} {e : Nat} {base : Nat} {ok : Nat → Prop} {v : Value} {xs : List α} (h : IsS75 w0 W g f0 f1) (ho : Kd.N d e W base ok v xs) (ht : e ≠ 75) : some g ≠ v.ownBlock := by
 obtain ⟨A0, c0, hb, hg, hr0⟩ := h
 exact Kd.N_ne ho hb ht
theorem IsS75.fresh {w0 W : World} {g : Nat} {f0 : List Int} {f1 : Int} (h : IsS75 w0 W g f0 f1) : ∀ k, W.heap.size ≤ k → k ≠ g := by
 obtain ⟨A0, c0, hb, hg, hr0⟩ := h
 exact Kd.freshB hb
theorem IsS75.kept {w0 W : World} {g : Nat} {f0 : List Int} {f1 : Int} {W1 : World} {S : Nat → Prop} (h : IsS75 w0 W g f0 f1) (hk : Kept W W1 S) (hne : ¬ S g) : IsS75 w0 W1 g f0 f1 := by
 obtain ⟨A0, c0, hb, hg, hr0⟩ := h
 exact ⟨A0, c0, blk_kept hb hk hne, hg, hr0⟩
theorem IsS75.below {w0 W : World} {g : Nat} {f0 : List Int} {f1 : Int} {W1 : World} (h : IsS75 w0 W g f0 f1) (hw : Below W.heap.size W W1) : IsS75 w0 W1 g f0 f1 := h.grown (grown_of_below hw none) (by simp)
theorem IsS75.alloc {w0 W : World} {g : Nat} {f0 : List Int} {f1 : Int} (h : IsS75 w0 W g f0 f1) (o : Obj) : IsS75 w0 (W.alloc o) g f0 f1 := h.below (below_alloc (Below.refl _ _) o)
theorem IsS75.drewN {w0 W : World} {g : Nat} {f0 : List Int} {f1 : Int} (h : IsS75 w0 W g f0 f1) (m : Nat) : IsS75 w0 (W.drewN m) g f0 f1 := h
theorem IsS75.drew {w0 W : World} {g : Nat} {f0 : List Int} {f1 : Int} (h : IsS75 w0 W g f0 f1) : IsS75 w0 W.drew g f0 f1 := h
theorem IsS75.at_ {w0 W : World} {g : Nat} {f0 : List Int} {f1 : Int} {w' : World} {m : Nat} (hq : W.drewN m = w') (h : IsS75 w0 W g f0 f1) : IsS75 w0 w' g f0 f1 := by subst hq; exact IsS75.drewN h m
theorem IsS75.apart {w0 W : World} {g : Nat} {f0 : List Int} {f1 : Int} {α : Type} {d : Kd α} {e : Nat} {base : Nat} {ok : Nat → Prop} {v : Value} {xs : List α} (h : IsS75 w0 W g f0 f1) (ho : d.R e W base ok v xs) (ht : ∀ q, q ∈ e :: d.E → q ≠ 75) : d.R e W base (fun k => ok k ∧ k ≠ g) v xs := by
 obtain ⟨A0, c0, hb, hg, hr0⟩ := h
 exact Kd.R_types ho hb ht
theorem IsS75.own_ne {w0 W : World} {g : Nat} {f0 : List Int} {f1 : Int} {α : Type} {d : Kd α} {e : Nat} {base : Nat} {ok : Nat → Prop} {v : Value} {xs : List α} (h : IsS75 w0 W g f0 f1) (ho : d.R e W base ok v xs) (ht : e ≠ 75) : some g ≠ v.ownBlock := by
 obtain ⟨A0, c0, hb, hg, hr0⟩ := h
 exact Kd.R_ne ho hb ht
theorem IsS75.apartQ {w0 W : World} {g : Nat} {f0 : List Int} {f1 : Int} {α : Type} {d : Kd α} {e : Nat} {base : Nat} {ok : Nat → Prop} {v : Value} {xs : List α} (h : IsS75 w0 W g f0 f1) (ho : d.Q e W base ok v xs) (ht : ∀ q, q ∈ e :: d.E → q ≠ 75) : d.Q e W base (fun k => ok k ∧ k ≠ g) v xs := by
 obtain ⟨A0, c0, hb, hg, hr0⟩ := h
 exact Kd.Q_types ho hb ht
theorem IsS75.own_neQ {w0 W : World} {g : Nat} {f0 : List Int} {f1 : Int} {α : Type} {d : Kd α} {e : Nat} {base : Nat} {ok : Nat → Prop} {v : Value} {xs : List α} (h : IsS75 w0 W g f0 f1) (ho : d.Q e W base ok v xs) (ht : e ≠ 75) : some g ≠ v.ownBlock := by
 obtain ⟨A0, c0, hb, hg, hr0⟩ := h
 exact Kd.Q_ne ho hb ht
theorem IsS75.apartS {w0 W : World} {g : Nat} {f0 : List Int} {f1 : Int} {α : Type} {d : Kd α} {e : Nat} {base : Nat} {ok : Nat → Prop} {v : Value} {xs : List α} (h : IsS75 w0 W g f0 f1) (ho : d.S e W base ok v xs) (ht : ∀ q, q ∈ e :: d.E → q ≠ 75) : d.S e W base (fun k => ok k ∧ k ≠ g) v xs := by
 obtain ⟨A0, c0, hb, hg, hr0⟩ := h
 exact Kd.S_types ho hb ht
theorem IsS75.own_neS {w0 W : World} {g : Nat} {f0 : List Int} {f1 : Int} {α : Type} {d : Kd α} {e : Nat} {base : Nat} {ok : Nat → Prop} {v : Value} {xs : List α} (h : IsS75 w0 W g f0 f1) (ho : d.S e W base ok v xs) (ht : e ≠ 75) : some g ≠ v.ownBlock := by
 obtain ⟨A0, c0, hb, hg, hr0⟩ := h
 exact Kd.S_ne ho hb ht
theorem IsS75.lt {w0 W : World} {g : Nat} {f0 : List Int} {f1 : Int} (h : IsS75 w0 W g f0 f1) : g < W.heap.size := by
 obtain ⟨A0, c0, hb, hg, hr0⟩ := h
 exact blk_lt hb
theorem IsS75.ge {w0 W : World} {g : Nat} {f0 : List Int} {f1 : Int} (h : IsS75 w0 W g f0 f1) : w0.heap.size ≤ g := by
 obtain ⟨A0, c0, hb, hg, hr0⟩ := h
 exact hg
theorem IsS75.ne_blk {w0 W : World} {g : Nat} {f0 : List Int} {f1 : Int} {a : Nat} {cs : Array Value} {t : TypeId} {fr : Nat × Nat} (h : IsS75 w0 W g f0 f1) (hb2 : W.heap[a]? = some (.cells cs t fr)) (ht : t ≠ 75) : g ≠ a := by
 obtain ⟨A0, c0, hb, hg, hr0⟩ := h
 rintro rfl
 rw [hb] at hb2
 injection hb2 with hb2
 injection hb2 with _ ht2
 exact ht ht2.symm
theorem IsS75.far {w0 W : World} {g : Nat} {f0 : List Int} {f1 : Int} {p : Addr} (h : IsS75 w0 W g f0 f1) (hne : g ≠ p.block) (u : Value) : IsS75 w0 (W.setCell p u) g f0 f1 := by
 obtain ⟨A0, c0, hb, hg, hr0⟩ := h
 exact ⟨A0, c0, blk_far hb hne u, hg, hr0⟩
theorem cellS75_0 {W : World} {g : Nat} {A0 : Option Addr} {c0 : Nat} {f0 : List Int} {f1 : Int} (h : W.heap[g]? = some (.cells #[.slice A0 f0.length c0, .int .i64 f1] 75 (0, 0))) : W.cell? ⟨g, 0, none⟩ = some (.slice A0 f0.length c0) := (blk_cell h 0).trans rfl
theorem cellS75_1 {W : World} {g : Nat} {A0 : Option Addr} {c0 : Nat} {f0 : List Int} {f1 : Int} (h : W.heap[g]? = some (.cells #[.slice A0 f0.length c0, .int .i64 f1] 75 (0, 0))) : W.cell? ⟨g, 1, none⟩ = some (.int .i64 f1) := (blk_cell h 1).trans rfl
theorem IsS75.set_1 {w0 W : World} {g : Nat} {f0 : List Int} {f1 : Int} (h : IsS75 w0 W g f0 f1) (x : Int) : IsS75 w0 (W.setCell ⟨g, 1, none⟩ (.int .i64 x)) g f0 x := by
 obtain ⟨A0, c0, hb, hg, hr0⟩ := h
 exact ⟨A0, c0, (by simpa using blk_set hb 1 (.int .i64 x)), hg, hr0⟩
theorem IsS75.new (w0 W : World) (A0 : Option Addr) (c0 : Nat) (f0 : List Int) (f1 : Int) (hB : Below w0.heap.size w0 W) (hr0 : Kd.C (Kd.int .u8) w0 A0 f0.length f0) : IsS75 w0 (W.alloc (.cells #[.slice A0 f0.length c0, .int .i64 f1] 75)) W.heap.size f0 f1 := ⟨A0, c0, by simpa using heap_alloc_new W _, hB.size, hr0⟩
def spec_l6Open.f (l0 : List Int) : Option (List Int × Int) := if (l0.length : Int) > 2000 then (if 2000 ≤ (l0.length : Int) then (some (l0.take 2000, 0)) else (none)) else (some (l0, 0))
set_option maxHeartbeats 8000000 in
set_option maxRecDepth 100000 in
theorem spec_l6Open.calls (A0 : Option Addr) (c0 : Nat) (l0 : List Int) (r1 : List Int) (r2 : Int) (w0 w : World) (hB : Below w0.heap.size w0 w) (hr0 : Kd.C (Kd.int .u8) w0 A0 l0.length l0) (hc0 : l0.length ≤ c0) (h : spec_l6Open.f l0 = some (r1, r2)) :
  Calls Try.prog 30 #[.slice A0 l0.length c0] w fun e w' => ∃ g_ : Nat, e = .returned (.pointer (some ⟨g_, 0, none⟩)) ∧ IsS75 w0 w' g_ r1 r2 ∧ Below w0.heap.size w0 w' ∧ Below w.heap.size w w' := by
 have hu75 := Try.underlying75
 have HR0 := Aside0.mk hr0
 have HC0 := Aside0.mk hc0
 clear hr0 hc0
 have HBW := Aside0.mk (Below.refl w.heap.size w)
 have HW0 := Aside0.mk hB.size
 have HB := Aside0.mk hB
 clear hB
 have H : (if (l0.length : Int) > 2000 then (if 2000 ≤ (l0.length : Int) then (some (l0.take 2000, 0)) else (none)) else (some (l0, 0))) = some (r1, r2) := h
 clear h
 by_cases c2 : (l0.length : Int) > 2000
 ·rw [if_pos c2] at H
  have c2b0 : decide (2000 < (l0.length : Int)) = true := decide_eq_true c2
  have c2b1 : decide (2000 < l0.length) = true := decide_eq_true (by omega)
  clear c2
  by_cases c3 : 2000 ≤ (l0.length : Int)
  ·rw [if_pos c3] at H
   have c3b0 := eq_true c3
   have c3b1 : decide (2000 ≤ (l0.length : Int)) = true := decide_eq_true c3
   clear c3
   simp only [Option.some.injEq, Prod.mk.injEq] at H
   obtain ⟨rfl, rfl⟩ := H
   obtain ⟨i04, hi04, _, hsz4, _⟩ := info_parts info5
   obtain ⟨hcut4, hA4, hC4⟩ := print_take_of (P := Try.prog) (Value.int .u8) 0 22 5 .i64 Try.underlying22 hi04 hsz4 A0 c0 l0 2000 (by omega) (of_decide_eq_true y23) HC0.out
   have HR103 := Aside0.mk (Kd.C_of_reads (h1 := fun _ => rfl) (hA4 _ (Kd.reads_of_C HR0.out)))
   have HC103 := Aside0.mk hC4
   clear hA4 hC4 hi04 hsz4
   go_enter Try.func30, Try.ntmps30
   go_wp2_with (first | ((with_reducible refine gate_dst (N := 10) rfl ?_); refine zbx 10 #[.slice A0 (l0.take 2000).length c0, .int .i64 0] 75 ?_; intro gb104 hg w5 hbox hb; replace HB := Aside0.mk (below_step (y6 HB.out) hb); have BK104 := Aside0.mk hbox; have GW104 := Aside0.mk ((y10 hg HBW.out : w.heap.size ≤ gb104)); have GE104 := Aside0.mk ((Nat.le_trans HW0.out (y10 hg HBW.out : w.heap.size ≤ gb104) : w0.heap.size ≤ gb104)); replace HBW := Aside0.mk (below_step HBW.out hb); clear hb hbox hg))
   go_ret
   exact ⟨_, rfl, (show IsS75 w0 _ gb104 (l0.take 2000) 0 from ⟨_, _, (y0 BK104.out), GE104.out, HR103.out⟩), (y7 HB.out GE104.out), (y7 HBW.out GW104.out)⟩
  ·rw [if_neg c3] at H
   exact absurd H (by simp)
 ·rw [if_neg c2] at H
  have c2b0 : decide (2000 < (l0.length : Int)) = false := decide_eq_false c2
  have c2b1 : decide (2000 < l0.length) = false := decide_eq_false (by omega)
  clear c2
  simp only [Option.some.injEq, Prod.mk.injEq] at H
  obtain ⟨rfl, rfl⟩ := H
  go_enter Try.func30, Try.ntmps30
  go_wp2_with (first | ((with_reducible refine gate_dst (N := 10) rfl ?_); refine zbx 10 #[.slice A0 l0.length c0, .int .i64 0] 75 ?_; intro gb105 hg w6 hbox hb; replace HB := Aside0.mk (below_step (y6 HB.out) hb); have BK105 := Aside0.mk hbox; have GW105 := Aside0.mk ((y10 hg HBW.out : w.heap.size ≤ gb105)); have GE105 := Aside0.mk ((Nat.le_trans HW0.out (y10 hg HBW.out : w.heap.size ≤ gb105) : w0.heap.size ≤ gb105)); replace HBW := Aside0.mk (below_step HBW.out hb); clear hb hbox hg))
  go_ret
  exact ⟨_, rfl, (show IsS75 w0 _ gb105 l0 0 from ⟨_, _, (y0 BK105.out), GE105.out, HR0.out⟩), (y7 HB.out GE105.out), (y7 HBW.out GW105.out)⟩
end Go.Proofs.Ythfflieeifakdaa.PA
end
section
namespace Go.Proofs.Ythfflieeifakdaa.PA
open Go.RowKit Go.Proofs.YthfflieeifakdaaW.PrintWords Go.Proofs.YthfflieeifakdaaW.PrintLast Go.Proofs.YthfflieeifakdaaW.PrintMore
attribute [local go_sem] max2_int min2_int max_two min_two max_three min_three max_four min_four
set_option linter.unusedVariables false
set_option linter.unusedSimpArgs false
def spec_l6Rd_pick.j0 : Nat → Int → Bool → List Int → Int → Option (Int × Int)
 | 0, _, _, _, _ => none
 | k + 1, x1, x24, x1000, x1001 => if x24 = true then (some (0, x1001)) else (if (wrap64 (x1001 - 1)) < (x1000.length : Int) then (if 0 ≤ (wrap64 (x1001 - 1)) then (if x1 = 0 then (none) else (some (Int.tmod (wrap64 (rd x1000 (wrap64 (x1001 - 1)))) x1, x1001))) else (none)) else (if (x1000.length : Int) = 0 then (none) else (if 0 ≤ (Int.tmod (wrap64 (x1001 - 1)) (x1000.length : Int)) then (if (Int.tmod (wrap64 (x1001 - 1)) (x1000.length : Int)) < (x1000.length : Int) then (if 0 ≤ (Int.tmod (wrap64 ((wrap64 ((wrap64 (x1001 - 1)) * 7)) + 3)) (x1000.length : Int)) then (if (Int.tmod (wrap64 ((wrap64 ((wrap64 (x1001 - 1)) * 7)) + 3)) (x1000.length : Int)) < (x1000.length : Int) then (if x1 = 0 then (none) else (some (Int.tmod (Go.bits .xor .i64 (wrap64 ((wrap64 ((wrap64 ((wrap64 ((wrap64 (rd x1000 (Int.tmod (wrap64 (x1001 - 1)) (x1000.length : Int)))) * 131)) + (wrap64 ((wrap64 (rd x1000 (Int.tmod (wrap64 ((wrap64 ((wrap64 (x1001 - 1)) * 7)) + 3)) (x1000.length : Int)))) * 1117)))) + (wrap64 ((wrap64 (x1001 - 1)) * 29)))) + (wrap64 ((wrap64 (Int.tdiv (wrap64 (x1001 - 1)) (x1000.length : Int))) * 53)))) (wrap64 (Int.tdiv (wrap64 ((wrap64 ((wrap64 ((wrap64 ((wrap64 (rd x1000 (Int.tmod (wrap64 (x1001 - 1)) (x1000.length : Int)))) * 131)) + (wrap64 ((wrap64 (rd x1000 (Int.tmod (wrap64 ((wrap64 ((wrap64 (x1001 - 1)) * 7)) + 3)) (x1000.length : Int)))) * 1117)))) + (wrap64 ((wrap64 (x1001 - 1)) * 29)))) + (wrap64 ((wrap64 (Int.tdiv (wrap64 (x1001 - 1)) (x1000.length : Int))) * 53)))) 64))) x1, x1001))) else (none)) else (none)) else (none)) else (none))))
def spec_l6Rd_pick.f (k : Nat) (s0_0 : List Int) (s0_1 : Int) (a1 : Int) : Option (Int × Int) := if a1 < 1 then (spec_l6Rd_pick.j0 k a1 true s0_0 (wrap64 (s0_1 + 1))) else (spec_l6Rd_pick.j0 k a1 ((s0_0.length : Int) == 0) s0_0 (wrap64 (s0_1 + 1)))
theorem spec_l6Rd_pick.mono_l : ∀ k, (∀ y0 y1 y2 y3, LeO (spec_l6Rd_pick.j0 k y0 y1 y2 y3) (spec_l6Rd_pick.j0 (k + 1) y0 y1 y2 y3))
 | 0 => fun _ _ _ _ r h => by simp [spec_l6Rd_pick.j0] at h
 | k + 1 => by
  have ih0 := spec_l6Rd_pick.mono_l k
  ·intro y0 y1 y2 y3
   unfold spec_l6Rd_pick.j0
   repeat' first
   | (with_reducible exact ih0 _ _ _ _)
   | (with_reducible exact LeO.refl _)
   | (with_reducible exact LeO.none _)
   | (with_reducible refine LeO.ite ?_ ?_)
   | (with_reducible refine LeO.bind ?_ (fun _ => ?_))
   | exact ih0 _ _ _ _
   | exact LeO.none _
   | refine LeO.ite ?_ ?_
   | refine LeO.bind ?_ (fun _ => ?_)
theorem spec_l6Rd_pick.mono : ∀ a0 a1 a2 k, LeO (spec_l6Rd_pick.f k a0 a1 a2) (spec_l6Rd_pick.f (k + 1) a0 a1 a2) := by
 intro a0 a1 a2 k
 have ih0 := spec_l6Rd_pick.mono_l k
 unfold spec_l6Rd_pick.f
 repeat' first
   | (with_reducible exact ih0 _ _ _ _)
   | (with_reducible exact LeO.refl _)
   | (with_reducible exact LeO.none _)
   | (with_reducible refine LeO.ite ?_ ?_)
   | (with_reducible refine LeO.bind ?_ (fun _ => ?_))
   | exact ih0 _ _ _ _
   | exact LeO.none _
   | refine LeO.ite ?_ ?_
   | refine LeO.bind ?_ (fun _ => ?_)
set_option maxHeartbeats 8000000 in
set_option maxRecDepth 100000 in
theorem spec_l6Rd_pick.calls (k : Nat) (g : Nat) (s0_0 : List Int) (s0_1 : Int) (a1 : Int) (r1 : Int) (r2 : Int) (w0 w : World) (hI : IsS75 w0 w g s0_0 s0_1) (hB : Below w0.heap.size w0 w) (h : spec_l6Rd_pick.f k s0_0 s0_1 a1 = some (r1, r2)) :
  Calls Try.prog 32 #[.pointer (some ⟨g, 0, none⟩), .int .i64 a1] w fun e w' => e = .returned (.int .i64 r1) ∧ IsS75 w0 w' g s0_0 r2 ∧ Below w0.heap.size w0 w' ∧ KeepBut w w' g none := by
 have HI0 := Aside0.mk hI
 have HK := Aside0.mk (KeepBut.refl w g none)
 have HL := Aside0.mk hB.size
 clear hI
 have HW0 := Aside0.mk hB.size
 have HB := Aside0.mk hB
 clear hB
 have H : (if a1 < 1 then (spec_l6Rd_pick.j0 k a1 true s0_0 (wrap64 (s0_1 + 1))) else (spec_l6Rd_pick.j0 k a1 ((s0_0.length : Int) == 0) s0_0 (wrap64 (s0_1 + 1)))) = some (r1, r2) := h
 clear h
 have HC3 := Aside0.mk H
 clear H
 obtain ⟨ASz4_0, cSz4_0, HGz4, hgz4, HSz4_0⟩ := HI0.out
 have hcz4_0 := cellS75_0 HGz4
 have hcz4_1 := cellS75_1 HGz4
 have hfz4_1 := blk_frozen HGz4 1
 clear HGz4 hgz4
 go_enter Try.func32, Try.ntmps32
 go_upto_region 2 with (fail)
 repeat (go_quiet (fail); go_upto_region 2 with (fail))
 go_cut [24] (fun v24 wc => ∃ (kq : Nat) (x24_2 : Bool), v24 = .bool x24_2 ∧ Aside0 (spec_l6Rd_pick.j0 kq a1 x24_2 s0_0 (wrap64 (s0_1 + 1)) = some (r1, r2)) ∧ Aside0 (kq ≤ k) ∧ Aside0 (IsS75 w0 wc g s0_0 (wrap64 (s0_1 + 1))) ∧ Aside0 (KeepBut w wc g none) ∧ Aside0 (Below w0.heap.size w0 wc))
 case first =>
  have H := HC3.out
  clear HC3
  by_cases c5 : a1 < 1
  ·rw [if_pos c5] at H
   have c5b0 : decide (a1 < 1) = true := decide_eq_true c5
   clear c5
   (first | rw [c5b0] | (simp only [i64_w, i32_w]; rw [c5b0]) | skip)
   have H' := Aside0.mk H
   clear H
   go_wp2
   repeat (go_quiet (fail); try go_wp2)
   go_meet
   case rel => exact ⟨_, (true), y29, H', ⟨y50⟩, ⟨(y47 HI0.out)⟩, ⟨(y40 HK.out)⟩, ⟨(y46 HB.out HI0.out)⟩⟩
  ·rw [if_neg c5] at H
   have c5b0 : decide (a1 < 1) = false := decide_eq_false c5
   clear c5
   (first | rw [c5b0] | (simp only [i64_w, i32_w]; rw [c5b0]) | skip)
   have H' := Aside0.mk H
   clear H
   obtain ⟨ASz6_0, cSz6_0, HGz6, hgz6, HSz6_0⟩ := HI0.out
   have hcz6_0 := cellS75_0 HGz6
   have hcz6_1 := cellS75_1 HGz6
   have hfz6_1 := blk_frozen HGz6 1
   clear HGz6 hgz6
   go_wp2
   repeat (go_quiet (fail); try go_wp2)
   go_meet
   case rel => exact ⟨_, (((s0_0.length : Int) == 0)), y29, H', ⟨y50⟩, ⟨(y47 HI0.out)⟩, ⟨(y40 HK.out)⟩, ⟨(y46 HB.out HI0.out)⟩⟩
 case rest =>
  clear HC3
  try clear p2
  try clear c3
  try clear c5
  try clear c5b0
  try clear p6
  try clear hcz4_0
  try clear hcz4_1
  try clear hcz6_0
  try clear hcz6_1
  try clear hfz4_1
  try clear hfz6_1
  obtain ⟨kq, x24_2, rfl, HA, HJ2, HI0, HK, HB⟩ := hcut
  cases kq with
  | zero => exact absurd HA.out (by simp [spec_l6Rd_pick.j0])
  | succ kj2 =>
   have H := HA.out
   clear HA
   simp only [spec_l6Rd_pick.j0] at H
   by_cases c7 : x24_2 = true
   ·subst c7
    rw [if_pos rfl] at H
    simp only [Option.some.injEq, Prod.mk.injEq] at H
    obtain ⟨rfl, rfl⟩ := H
    go_wp2
    repeat (go_quiet (fail); try go_wp2)
    go_ret
    exact ⟨y15, (y47 HI0.out), (y46 HB.out HI0.out), (y40 HK.out)⟩
   ·replace c7 := Bool.eq_false_iff.mpr c7
    subst c7
    rw [if_neg (show ¬ (false = true) by decide)] at H
    by_cases c8 : (wrap64 ((wrap64 (s0_1 + 1)) - 1)) < (s0_0.length : Int)
    ·rw [if_pos c8] at H
     have c8b0 : decide ((wrap64 ((wrap64 (s0_1 + 1)) - 1)) < (s0_0.length : Int)) = true := decide_eq_true c8
     clear c8
     obtain ⟨ji9, hji9⟩ : ∃ j_ : Int, (wrap64 ((wrap64 (s0_1 + 1)) - 1)) = j_ := ⟨_, rfl⟩
     replace H : (if 0 ≤ (ji9) then (if a1 = 0 then (none) else (some (Int.tmod (wrap64 (rd s0_0 (ji9))) a1, (wrap64 (s0_1 + 1))))) else (none)) = some (r1, r2) := by first | (rw [hji9] at H; exact H) | (simp only [hji9] at H ⊢; exact H)
     (try rw [hji9] at c8b0)
     have hji9w : (IntKind.i64.wrap ((wrap64 (s0_1 + 1)) - 1)) = ji9 := (i64_w _).trans hji9
     by_cases c10 : 0 ≤ (ji9)
     ·rw [if_pos c10] at H
      have c10b0 : decide (0 ≤ (ji9)) = true := decide_eq_true c10
      clear c10
      by_cases c11 : a1 = 0
      ·rw [if_pos c11] at H
       exact absurd H (by simp)
      ·rw [if_neg c11] at H
       have c11b0 : (a1 == 0) = false := beq_eq_false_iff_ne.mpr c11
       have c11b1 : (a1 != 0) = true := bne_iff_ne.mpr c11
       simp only [Option.some.injEq, Prod.mk.injEq] at H
       obtain ⟨rfl, rfl⟩ := H
       obtain ⟨ASz12_0, cSz12_0, HGz12, hgz12, HSz12_0⟩ := HI0.out
       have hcz12_0 := cellS75_0 HGz12
       have hcz12_1 := cellS75_1 HGz12
       have hfz12_1 := blk_frozen HGz12 1
       clear HGz12 hgz12
       have p106 : 0 ≤ ((ji9) : Int) := of_decide_eq_true y23
       have q106 : (ji9) < (s0_0.length : Int) := of_decide_eq_true y23
       obtain ⟨ad106, e106, hx106_0⟩ := Kd.at_int HSz12_0 (ji9) p106 q106
       cases e106
       replace hx106_0 := pw_cell_below HB.out hx106_0
       replace p106 := eq_true p106
       replace q106 := eq_true q106
       go_wp2
       repeat (go_quiet (fail); try go_wp2)
       go_ret
       exact ⟨(by first | rfl | (simp [errW_none, errW_some] <;> rfl) | (simp only [← hji9]; first | rfl | (simp [errW_none, errW_some] <;> rfl)) | (simp [*, errW_none, errW_some] <;> rfl)), (y47 HI0.out), (y46 HB.out HI0.out), (y40 HK.out)⟩
     ·rw [if_neg c10] at H
      exact absurd H (by simp)
    ·rw [if_neg c8] at H
     have c8b0 : decide ((wrap64 ((wrap64 (s0_1 + 1)) - 1)) < (s0_0.length : Int)) = false := decide_eq_false c8
     clear c8
     by_cases c13 : (s0_0.length : Int) = 0
     ·rw [if_pos c13] at H
      exact absurd H (by simp)
     ·rw [if_neg c13] at H
      have c13b0 : ((s0_0.length : Int) == 0) = false := beq_eq_false_iff_ne.mpr c13
      have c13b1 : ((s0_0.length : Int) != 0) = true := bne_iff_ne.mpr c13
      have c13b2 : ¬ (s0_0 = []) := fun h_ => c13 (by rw [h_]; rfl)
      obtain ⟨ji14, hji14⟩ : ∃ j_ : Int, (Int.tmod (wrap64 ((wrap64 (s0_1 + 1)) - 1)) (s0_0.length : Int)) = j_ := ⟨_, rfl⟩
      replace H : (if 0 ≤ (ji14) then (if (ji14) < (s0_0.length : Int) then (if 0 ≤ (Int.tmod (wrap64 ((wrap64 ((wrap64 ((wrap64 (s0_1 + 1)) - 1)) * 7)) + 3)) (s0_0.length : Int)) then (if (Int.tmod (wrap64 ((wrap64 ((wrap64 ((wrap64 (s0_1 + 1)) - 1)) * 7)) + 3)) (s0_0.length : Int)) < (s0_0.length : Int) then (if a1 = 0 then (none) else (some (Int.tmod (Go.bits .xor .i64 (wrap64 ((wrap64 ((wrap64 ((wrap64 ((wrap64 (rd s0_0 (ji14))) * 131)) + (wrap64 ((wrap64 (rd s0_0 (Int.tmod (wrap64 ((wrap64 ((wrap64 ((wrap64 (s0_1 + 1)) - 1)) * 7)) + 3)) (s0_0.length : Int)))) * 1117)))) + (wrap64 ((wrap64 ((wrap64 (s0_1 + 1)) - 1)) * 29)))) + (wrap64 ((wrap64 (Int.tdiv (wrap64 ((wrap64 (s0_1 + 1)) - 1)) (s0_0.length : Int))) * 53)))) (wrap64 (Int.tdiv (wrap64 ((wrap64 ((wrap64 ((wrap64 ((wrap64 (rd s0_0 (ji14))) * 131)) + (wrap64 ((wrap64 (rd s0_0 (Int.tmod (wrap64 ((wrap64 ((wrap64 ((wrap64 (s0_1 + 1)) - 1)) * 7)) + 3)) (s0_0.length : Int)))) * 1117)))) + (wrap64 ((wrap64 ((wrap64 (s0_1 + 1)) - 1)) * 29)))) + (wrap64 ((wrap64 (Int.tdiv (wrap64 ((wrap64 (s0_1 + 1)) - 1)) (s0_0.length : Int))) * 53)))) 64))) a1, (wrap64 (s0_1 + 1))))) else (none)) else (none)) else (none)) else (none)) = some (r1, r2) := by first | (rw [hji14] at H; exact H) | (simp only [hji14] at H ⊢; exact H)
      by_cases c15 : 0 ≤ (ji14)
      ·rw [if_pos c15] at H
       have c15b0 : decide (0 ≤ (ji14)) = true := decide_eq_true c15
       clear c15
       by_cases c16 : (ji14) < (s0_0.length : Int)
       ·rw [if_pos c16] at H
        have c16b0 : decide ((ji14) < (s0_0.length : Int)) = true := decide_eq_true c16
        clear c16
        obtain ⟨ji17, hji17⟩ : ∃ j_ : Int, (Int.tmod (wrap64 ((wrap64 ((wrap64 ((wrap64 (s0_1 + 1)) - 1)) * 7)) + 3)) (s0_0.length : Int)) = j_ := ⟨_, rfl⟩
        replace H : (if 0 ≤ (ji17) then (if (ji17) < (s0_0.length : Int) then (if a1 = 0 then (none) else (some (Int.tmod (Go.bits .xor .i64 (wrap64 ((wrap64 ((wrap64 ((wrap64 ((wrap64 (rd s0_0 (ji14))) * 131)) + (wrap64 ((wrap64 (rd s0_0 (ji17))) * 1117)))) + (wrap64 ((wrap64 ((wrap64 (s0_1 + 1)) - 1)) * 29)))) + (wrap64 ((wrap64 (Int.tdiv (wrap64 ((wrap64 (s0_1 + 1)) - 1)) (s0_0.length : Int))) * 53)))) (wrap64 (Int.tdiv (wrap64 ((wrap64 ((wrap64 ((wrap64 ((wrap64 (rd s0_0 (ji14))) * 131)) + (wrap64 ((wrap64 (rd s0_0 (ji17))) * 1117)))) + (wrap64 ((wrap64 ((wrap64 (s0_1 + 1)) - 1)) * 29)))) + (wrap64 ((wrap64 (Int.tdiv (wrap64 ((wrap64 (s0_1 + 1)) - 1)) (s0_0.length : Int))) * 53)))) 64))) a1, (wrap64 (s0_1 + 1))))) else (none)) else (none)) = some (r1, r2) := by first | (rw [hji17] at H; exact H) | (simp only [hji17] at H ⊢; exact H)
        by_cases c18 : 0 ≤ (ji17)
        ·rw [if_pos c18] at H
         have c18b0 : decide (0 ≤ (ji17)) = true := decide_eq_true c18
         clear c18
         by_cases c19 : (ji17) < (s0_0.length : Int)
         ·rw [if_pos c19] at H
          have c19b0 : decide ((ji17) < (s0_0.length : Int)) = true := decide_eq_true c19
          clear c19
          by_cases c20 : a1 = 0
          ·rw [if_pos c20] at H
           exact absurd H (by simp)
          ·rw [if_neg c20] at H
           have c20b0 : (a1 == 0) = false := beq_eq_false_iff_ne.mpr c20
           have c20b1 : (a1 != 0) = true := bne_iff_ne.mpr c20
           simp only [Option.some.injEq, Prod.mk.injEq] at H
           obtain ⟨rfl, rfl⟩ := H
           obtain ⟨ASz21_0, cSz21_0, HGz21, hgz21, HSz21_0⟩ := HI0.out
           have hcz21_0 := cellS75_0 HGz21
           have hcz21_1 := cellS75_1 HGz21
           have hfz21_1 := blk_frozen HGz21 1
           clear HGz21 hgz21
           have p107 : 0 ≤ ((ji14) : Int) := of_decide_eq_true y23
           have q107 : (ji14) < (s0_0.length : Int) := of_decide_eq_true y23
           obtain ⟨ad107, e107, hx107_0⟩ := Kd.at_int HSz21_0 (ji14) p107 q107
           cases e107
           replace hx107_0 := pw_cell_below HB.out hx107_0
           replace p107 := eq_true p107
           replace q107 := eq_true q107
           have p108 : 0 ≤ ((ji17) : Int) := of_decide_eq_true y23
           have q108 : (ji17) < (s0_0.length : Int) := of_decide_eq_true y23
           obtain ⟨ad108, e108, hx108_0⟩ := Kd.at_int HSz21_0 (ji17) p108 q108
           obtain rfl : ad107 = ad108 := (by injection e108)
           replace hx108_0 := pw_cell_below HB.out hx108_0
           replace p108 := eq_true p108
           replace q108 := eq_true q108
           go_wp2
           repeat (go_quiet (fail); try go_wp2)
           go_ret
           exact ⟨(by first | rfl | (simp [errW_none, errW_some] <;> rfl) | (simp only [← hji14, ← hji17]; first | rfl | (simp [errW_none, errW_some] <;> rfl)) | (simp [*, errW_none, errW_some] <;> rfl)), (y47 HI0.out), (y46 HB.out HI0.out), (y40 HK.out)⟩
         ·rw [if_neg c19] at H
          exact absurd H (by simp)
        ·rw [if_neg c18] at H
         exact absurd H (by simp)
       ·rw [if_neg c16] at H
        exact absurd H (by simp)
      ·rw [if_neg c15] at H
       exact absurd H (by simp)
end Go.Proofs.Ythfflieeifakdaa.PA
end
section
namespace Go.Proofs.Ythfflieeifakdaa.PA
open Go.RowKit Go.Proofs.YthfflieeifakdaaW.PrintWords Go.Proofs.YthfflieeifakdaaW.PrintLast Go.Proofs.YthfflieeifakdaaW.PrintMore
attribute [local go_sem] max2_int min2_int max_two min_two max_three min_three max_four min_four
set_option linter.unusedVariables false
set_option linter.unusedSimpArgs false
mutual
def spec_l71Type.j0 : Nat → Int → Bool → List Int → Int → Option ((List (S50)) × Int)
 | 0, _, _, _, _ => none
 | k + 1, x1, x11, x1000, x1001 => if x11 = true then (some (([] : List (S50)), x1001)) else ((spec_l71Type.f k x1000 x1001 (wrap64 (x1 - 1))).bind fun bt112 => ((spec_l71Type.f k x1000 bt112.2 (wrap64 (x1 - 1))).bind fun bt116 => (some ((([(⟨bt112.1⟩ : S50), (⟨bt116.1⟩ : S50)] : List (S50))), bt116.2))))
def spec_l71Type.f : Nat → List Int → Int → Int → Option ((List (S50)) × Int)
 | 0, _, _, _ => none
 | k + 1, s0_0, s0_1, a1 => if a1 < 2 then (spec_l71Type.j0 k a1 true s0_0 s0_1) else ((spec_l6Rd_pick.f k s0_0 s0_1 3).bind fun bt110 => (spec_l71Type.j0 k a1 (decide (bt110.1 > 0)) s0_0 bt110.2))
end
theorem spec_l71Type.mono_l : ∀ k, (∀ y0 y1 y2, LeO (spec_l71Type.f k y0 y1 y2) (spec_l71Type.f (k + 1) y0 y1 y2)) ∧ (∀ y0 y1 y2 y3, LeO (spec_l71Type.j0 k y0 y1 y2 y3) (spec_l71Type.j0 (k + 1) y0 y1 y2 y3))
 | 0 => ⟨fun _ _ _ r h => by simp [spec_l71Type.f] at h, fun _ _ _ _ r h => by simp [spec_l71Type.j0] at h⟩
 | k + 1 => by
  obtain ⟨ih0, ih1⟩ := spec_l71Type.mono_l k
  refine ⟨?_, ?_⟩
  ·intro y0 y1 y2
   unfold spec_l71Type.f
   repeat' first
   | (with_reducible exact ih0 _ _ _)
   | (with_reducible exact ih1 _ _ _ _)
   | (with_reducible exact spec_l6Rd_pick.mono _ _ _ _)
   | (with_reducible exact LeO.refl _)
   | (with_reducible exact LeO.none _)
   | (with_reducible refine LeO.ite ?_ ?_)
   | (with_reducible refine LeO.bind ?_ (fun _ => ?_))
   | exact ih0 _ _ _
   | exact ih1 _ _ _ _
   | exact spec_l6Rd_pick.mono _ _ _ _
   | exact LeO.none _
   | refine LeO.ite ?_ ?_
   | refine LeO.bind ?_ (fun _ => ?_)
  ·intro y0 y1 y2 y3
   unfold spec_l71Type.j0
   repeat' first
   | (with_reducible exact ih0 _ _ _)
   | (with_reducible exact ih1 _ _ _ _)
   | (with_reducible exact spec_l6Rd_pick.mono _ _ _ _)
   | (with_reducible exact LeO.refl _)
   | (with_reducible exact LeO.none _)
   | (with_reducible refine LeO.ite ?_ ?_)
   | (with_reducible refine LeO.bind ?_ (fun _ => ?_))
   | exact ih0 _ _ _
   | exact ih1 _ _ _ _
   | exact spec_l6Rd_pick.mono _ _ _ _
   | exact LeO.none _
   | refine LeO.ite ?_ ?_
   | refine LeO.bind ?_ (fun _ => ?_)
theorem spec_l71Type.mono : ∀ a0 a1 a2 k, LeO (spec_l71Type.f k a0 a1 a2) (spec_l71Type.f (k + 1) a0 a1 a2) := by
 intro a0 a1 a2 k
 obtain ⟨ih0, ih1⟩ := spec_l71Type.mono_l k
 exact ih0 a0 a1 a2
set_option maxHeartbeats 8000000 in
set_option maxRecDepth 100000 in
theorem spec_l71Type.calls (k : Nat) : ∀ (g : Nat) (s0_0 : List Int) (s0_1 : Int) (a1 : Int) (r1 : List (S50)) (r2 : Int) (w0 w : World) (hI : IsS75 w0 w g s0_0 s0_1) (hB : Below w0.heap.size w0 w) (h : spec_l71Type.f k s0_0 s0_1 a1 = some (r1, r2)),
  Calls Try.prog 31 #[.pointer (some ⟨g, 0, none⟩), .int .i64 a1] w fun e w' => ∃ v0_ : Value, e = .returned (.agg #[v0_]) ∧ Kd.N k50 50 w' w.heap.size (fun k_ => (w.heap.size ≤ k_)) v0_ r1 ∧ IsS75 w0 w' g s0_0 r2 ∧ Below w0.heap.size w0 w' ∧ KeepBut w w' g none := by
 induction k using Nat.strongRecOn with
 | _ k ih =>
 intro g s0_0 s0_1 a1 r1 r2 w0 w hI hB h
 cases k with
 | zero => exact absurd h (by simp [spec_l71Type.f])
 | succ k =>
 simp only [spec_l71Type.f] at h
 have hu50 := Try.underlying50
 have HI0 := Aside0.mk hI
 have HK := Aside0.mk (KeepBut.refl w g none)
 have HL := Aside0.mk hB.size
 clear hI
 have HW0 := Aside0.mk hB.size
 have HB := Aside0.mk hB
 clear hB
 have H : (if a1 < 2 then (spec_l71Type.j0 k a1 true s0_0 s0_1) else ((spec_l6Rd_pick.f k s0_0 s0_1 3).bind fun bt110 => (spec_l71Type.j0 k a1 (decide (bt110.1 > 0)) s0_0 bt110.2))) = some (r1, r2) := h
 clear h
 have HC3 := Aside0.mk H
 clear H
 go_enter Try.func31, Try.ntmps31
 go_upto_region 1 with (first | ((with_reducible refine gate_dst (N := 4) rfl ?_); refine zbx 4 #[.slice none 0 0] 50 ?_; intro gb109 hg w4 hbox hb; replace HB := Aside0.mk (below_step (y46 HB.out HI0.out) hb); have BK109 := Aside0.mk hbox; have GW109 := Aside0.mk ((by rw [hg]; exact (keep_size (w := w) (g := g) (row := none) (y40 HK.out)) : w.heap.size ≤ gb109)); have GE109 := Aside0.mk ((Nat.le_trans HW0.out (by rw [hg]; exact (keep_size (w := w) (g := g) (row := none) (y40 HK.out)) : w.heap.size ≤ gb109) : w0.heap.size ≤ gb109)); replace HK := Aside0.mk (KeepBut.trans (y40 HK.out) (KeepBut.of_below hb g none) (.inl rfl)); have NB0_109 := Aside0.mk ((by rw [hg]; exact Nat.ne_of_lt (IsS75.lt (show IsS75 w0 _ g s0_0 s0_1 from by repeat (first | (with_reducible first | exact HI0.out | apply IsS75.alloc | apply IsS75.drewN | apply IsS75.drew | apply IsS75.set_1) | exact HI0.out))) : g ≠ gb109)); have NB109_0 := Aside0.mk ((by rw [hg]; exact Nat.ne_of_gt (IsS75.lt (show IsS75 w0 _ g s0_0 s0_1 from by repeat (first | (with_reducible first | exact HI0.out | apply IsS75.alloc | apply IsS75.drewN | apply IsS75.drew | apply IsS75.set_1) | exact HI0.out))) : gb109 ≠ g)); replace HI0 := Aside0.mk (IsS75.below (y47 HI0.out) hb); clear hb hbox hg))
 (try simp only [Act.put, List.setIfInBounds_toArray, List.set_cons_zero, List.set_cons_succ])
 go_cut [11] (fun v11 wc => ∃ (kq : Nat) (x11_2 : Bool) (x1001_2 : Int), v11 = .bool x11_2 ∧ Aside0 (spec_l71Type.j0 kq a1 x11_2 s0_0 x1001_2 = some (r1, r2)) ∧ Aside0 (kq ≤ k) ∧ Aside0 (wc.heap[gb109]? = some (.cells #[(.slice none 0 0)] 50 (0, 0))) ∧ Aside0 (IsS75 w0 wc g s0_0 x1001_2) ∧ Aside0 (KeepBut w wc g none) ∧ Aside0 (Below w0.heap.size w0 wc))
 case first =>
  have H := HC3.out
  clear HC3
  by_cases c5 : a1 < 2
  ·rw [if_pos c5] at H
   have c5b0 : decide (a1 < 2) = true := decide_eq_true c5
   clear c5
   (first | rw [c5b0] | (simp only [i64_w, i32_w]; rw [c5b0]) | skip)
   have H' := Aside0.mk H
   clear H
   go_wp2
   go_meet
   case rel => exact ⟨_, (true), (s0_1), y29, H', ⟨y50⟩, ⟨(y0 BK109.out)⟩, ⟨(y35 HI0.out NB0_109.out)⟩, ⟨(y28 HK.out GW109.out)⟩, ⟨(y31 HB.out HI0.out GE109.out)⟩⟩
  ·rw [if_neg c5] at H
   have c5b0 : decide (a1 < 2) = false := decide_eq_false c5
   clear c5
   (first | rw [c5b0] | (simp only [i64_w, i32_w]; rw [c5b0]) | skip)
   obtain ⟨⟨t110, t111⟩, A60, H⟩ := ob H
   have A6 := Aside0.mk A60
   clear A60
   have H' := Aside0.mk H
   clear H
   go_wp2_with (first | (go_at_call 32; (with_reducible refine (spec_l6Rd_pick.calls k g s0_0 s0_1 3 t110 t111 w0 _ ?side1 ?side2 A6.out).mono ?_); (case side1 => exact y35 HI0.out NB0_109.out); (case side2 => exact y31 HB.out HI0.out GE109.out); rintro e w7 ⟨rfl, hi, hb, hk⟩; replace BK109 := Aside0.mk (KeepBut.blk hk (g' := gb109) (o := .cells #[.slice none 0 0] 50 (0, 0)) (y0 BK109.out) NB109_0.out (by simp)); replace HK := Aside0.mk (KeepBut.trans (y28 HK.out GW109.out) hk (.inl rfl)); replace HB := Aside0.mk (hb); replace HI0 := Aside0.mk (hi); (try clear hb); (try clear hb2); (try clear hk); (try clear hi)))
   go_meet
   case rel => exact ⟨_, (decide (t110 > 0)), (t111), y29, H', ⟨y50⟩, ⟨(y0 BK109.out)⟩, ⟨(y35 HI0.out NB0_109.out)⟩, ⟨(y28 HK.out GW109.out)⟩, ⟨(y31 HB.out HI0.out GE109.out)⟩⟩
 case rest =>
  clear HC3
  try clear p2
  try clear c3
  try clear c5
  try clear c5b0
  obtain ⟨kq, x11_2, x1001_2, rfl, HA, HJ2, BK109, HI0, HK, HB⟩ := hcut
  cases kq with
  | zero => exact absurd HA.out (by simp [spec_l71Type.j0])
  | succ kj2 =>
   have H := HA.out
   clear HA
   simp only [spec_l71Type.j0] at H
   by_cases c8 : x11_2 = true
   ·subst c8
    rw [if_pos rfl] at H
    simp only [Option.some.injEq, Prod.mk.injEq] at H
    obtain ⟨rfl, rfl⟩ := H
    have hnb9 := NB109_0.out
    have hnc9 := NB0_109.out
    have hcz10_0 := zh BK109
    have hfz10_0 := zfr BK109 0
    go_wp2
    refine bodyPost_ret (results_cell_row rfl _ _ gb109 50 #[.slice none 0 0] (0, 0) _ rfl (by (with_reducible repeat (first | refine blk_drewN ?_ _ | refine blk_drew ?_ | refine blk_alloc ?_ _)); apply blk_put (i := 0); (case h => exact y0 BK109.out); (case e => rfl)) Try.underlying50 rfl (by kernel_rfl)) rfl ?_
    exact ⟨_, y15, y38, (y35 HI0.out NB0_109.out), (y31 HB.out HI0.out GE109.out), (y28 HK.out GW109.out)⟩
   ·replace c8 := Bool.eq_false_iff.mpr c8
    subst c8
    rw [if_neg (show ¬ (false = true) by decide)] at H
    obtain ⟨⟨t112, t115⟩, A110, H⟩ := ob H
    have A11 := Aside0.mk A110
    clear A110
    obtain ⟨⟨t116, t119⟩, A120, H⟩ := ob H
    have A12 := Aside0.mk A120
    clear A120
    obtain ⟨y120, hy120⟩ : ∃ y_ : List (S50), y_ = (([(⟨t112⟩ : S50), (⟨t116⟩ : S50)] : List (S50))) := ⟨_, rfl⟩
    replace H : (some (y120, t119)) = some (r1, r2) := by first | (rw [hy120]; with_reducible exact H) | (have H2_ := (Option.bind_some _ _).symm.trans H; rw [hy120]; with_reducible exact H2_) | (have H2_ := (Option.bind_some _ _).symm.trans H; with_reducible exact H2_) | with_reducible exact H | (rw [hy120]; exact H) | exact H
    have Ny120 := Aside0.mk hy120
    clear hy120
    simp only [Option.some.injEq, Prod.mk.injEq] at H
    obtain ⟨rfl, rfl⟩ := H
    go_wp2_with (first | ((with_reducible refine gate_callee (f := 31) rfl ?_); refine goesL_ (some 16) rfl rfl Try.func31 (by kernel_rfl) rfl #[.pointer (some ⟨g, 0, none⟩), .int .i64 (wrap64 (a1 - 1))] rfl y9 ?_; (with_reducible refine (ih kj2 (y69 HJ2.out) g s0_0 x1001_2 (wrap64 (a1 - 1)) t112 t115 w0 _ ?side1 ?side2 A11.out).mono ?_); (case side1 => exact y35 HI0.out NB0_109.out); (case side2 => exact y31 HB.out HI0.out GE109.out); rintro e w13 ⟨v113, rfl, ho0, hi, hb, hk⟩; refine ⟨_, rfl, ?_⟩; have HO114 := Aside0.mk (Kd.N_lower (Kd.N_mono (ok' := fun k_ => (w.heap.size ≤ k_) ∧ k_ ≠ gb109 ∧ k_ ≠ g) ho0 (fun k_ hk_ => ⟨(Nat.le_trans (keep_size (w := w) (g := g) (row := none) (y28 HK.out GW109.out)) hk_), (Kd.freshB (g := gb109) (o := .cells #[.slice none 0 0] 50 (0, 0)) (y0 BK109.out) k_ hk_), (IsS75.fresh (y35 HI0.out NB0_109.out) k_ hk_)⟩)) (keep_size (w := w) (g := g) (row := none) (y28 HK.out GW109.out))); replace BK109 := Aside0.mk (KeepBut.blk hk (g' := gb109) (o := .cells #[.slice none 0 0] 50 (0, 0)) (y0 BK109.out) NB109_0.out (by simp)); replace HK := Aside0.mk (KeepBut.trans (y28 HK.out GW109.out) hk (.inl rfl)); replace HB := Aside0.mk (hb); replace HI0 := Aside0.mk (hi); (try clear hb); (try clear hb2); (try clear hk); (try clear hi); (try clear ho0)) | ((with_reducible refine gate_callee (f := 31) rfl ?_); refine goesL_ (some 20) rfl rfl Try.func31 (by kernel_rfl) rfl #[.pointer (some ⟨g, 0, none⟩), .int .i64 (wrap64 (a1 - 1))] rfl y9 ?_; (with_reducible refine (ih kj2 (y69 HJ2.out) g s0_0 t115 (wrap64 (a1 - 1)) t116 t119 w0 _ ?side1 ?side2 A12.out).mono ?_); (case side1 => exact y35 HI0.out NB0_109.out); (case side2 => exact y31 HB.out HI0.out GE109.out); rintro e w14 ⟨v117, rfl, ho0, hi, hb, hk⟩; refine ⟨_, rfl, ?_⟩; have HO118 := Aside0.mk (Kd.N_lower (Kd.N_mono (ok' := fun k_ => (w.heap.size ≤ k_) ∧ some k_ ≠ (v113 : Value).ownBlock ∧ k_ ≠ gb109 ∧ k_ ≠ g) ho0 (fun k_ hk_ => ⟨(Nat.le_trans (keep_size (w := w) (g := g) (row := none) (y28 HK.out GW109.out)) hk_), (Kd.fresh' (Kd.N_lt (y2 HO114.out)) k_ hk_), (Kd.freshB (g := gb109) (o := .cells #[.slice none 0 0] 50 (0, 0)) (y0 BK109.out) k_ hk_), (IsS75.fresh (y35 HI0.out NB0_109.out) k_ hk_)⟩)) (keep_size (w := w) (g := g) (row := none) (y28 HK.out GW109.out))); replace BK109 := Aside0.mk (KeepBut.blk hk (g' := gb109) (o := .cells #[.slice none 0 0] 50 (0, 0)) (y0 BK109.out) NB109_0.out (by simp)); replace HO114 := Aside0.mk (Kd.N_mono (Kd.N_told (Kd.N_oldK (Kd.N_mono (ok := fun k_ => (((w.heap.size ≤ k_)) ∧ (k_ ≠ gb109 ∧ k_ ≠ g))) (y2 HO114.out) (fun k_ hk_ => (⟨hk_, hk_.2.2⟩ : _ ∧ k_ ≠ g))) hk) (Kd.N_base ho0)) (fun _ h_ => h_.1)); replace HK := Aside0.mk (KeepBut.trans (y28 HK.out GW109.out) hk (.inl rfl)); replace HB := Aside0.mk (hb); replace HI0 := Aside0.mk (hi); (try clear hb); (try clear hb2); (try clear hk); (try clear hi); (try clear ho0); obtain ⟨Ao15, co15, eo15⟩ := Kd.N_slice HO114.out; subst eo15; obtain ⟨Ao16, co16, eo16⟩ := Kd.N_slice HO118.out; subst eo16) | ((with_reducible refine gate_dst (N := 21) rfl ?_); refine Kd.N_lit k50 _ 50 ?hg (N' := 21) ?hd (xs := ([(⟨t112⟩ : S50), (⟨t116⟩ : S50)] : List (S50))) (inner := [.slice Ao15 t112.length co15, .slice Ao16 t116.length co16]) (ok := (fun k_ => (w.heap.size ≤ k_) ∧ k_ ≠ gb109 ∧ k_ ≠ g)) (okp := (fun k_ => (w.heap.size ≤ k_) ∧ k_ ≠ gb109 ∧ k_ ≠ g)) ?hr ?hp (fun _ hk => hk) ((show ∀ k_, w14.heap.size ≤ k_ → (fun k_ => (w.heap.size ≤ k_) ∧ k_ ≠ gb109 ∧ k_ ≠ g) k_ from fun k_ hk => ⟨(Nat.le_trans (keep_size (w := w) (g := g) (row := none) (y28 HK.out GW109.out)) hk), Kd.freshB (g := gb109) (o := .cells #[.slice none 0 0] 50 (0, 0)) (y0 BK109.out) k_ hk, IsS75.fresh (y35 HI0.out NB0_109.out) k_ hk⟩) _ (Nat.le_refl _)) (Below.refl _ _) (Nat.le_refl _) (by simp) ?_; (case hd => rfl); (case hg => rfl); (case hr => first | (go_simp; done) | (go_simp; rfl)); (case hp => exact (Reps.one (show Kd.FK k50 _ _ (⟨t112⟩ : S50) [.slice Ao15 t112.length co15] from (k50_mkF _ _ (⟨t112⟩ : S50) (Kd.N_reads' (Kd.N_mono (ok' := (fun k_ => (w.heap.size ≤ k_) ∧ k_ ≠ gb109 ∧ k_ ≠ g)) (HO114.out) (fun k_ hk => ⟨hk.1.1, ⟨hk.1.2.1, hk.1.2.2⟩⟩))).2.1 (Kd.N_F (Kd.N_mono (ok' := (fun k_ => (w.heap.size ≤ k_) ∧ k_ ≠ gb109 ∧ k_ ≠ g)) (HO114.out) (fun k_ hk => ⟨hk.1.1, ⟨hk.1.2.1, hk.1.2.2⟩⟩))))) (Reps.one (show Kd.FK k50 _ _ (⟨t116⟩ : S50) [.slice Ao16 t116.length co16] from (k50_mkF _ _ (⟨t116⟩ : S50) (Kd.N_reads' (Kd.N_mono (ok' := (fun k_ => (w.heap.size ≤ k_) ∧ k_ ≠ gb109 ∧ k_ ≠ g)) (HO118.out) (fun k_ hk => ⟨hk.1, ⟨hk.2.2.1, hk.2.2.2⟩⟩))).2.1 (Kd.N_F (Kd.N_mono (ok' := (fun k_ => (w.heap.size ≤ k_) ∧ k_ ≠ gb109 ∧ k_ ≠ g)) (HO118.out) (fun k_ hk => ⟨hk.1, ⟨hk.2.2.1, hk.2.2.2⟩⟩))))) (Reps.none _ _)))); intro v121 w17 ho18 hb hg_ hnew_; clear hg_ hnew_; (first | rw [← Ny120.out] at ho18 | (simp only [Int.reduceToNat] at ho18; rw [← Ny120.out] at ho18)); have HO122 := Aside0.mk (Kd.N_lower ho18 (keep_size (w := w) (g := g) (row := none) (y28 HK.out GW109.out))); replace BK109 := zbb BK109 hb; replace HK := Aside0.mk (KeepBut.trans (y28 HK.out GW109.out) (KeepBut.of_below hb g none) (.inl rfl)); replace HB := Aside0.mk (below_step (y31 HB.out HI0.out GE109.out) hb); replace HI0 := Aside0.mk (IsS75.below (y35 HI0.out NB0_109.out) hb); clear HO114 HO118; clear hb ho18; obtain ⟨Ao19, co19, eo19⟩ := Kd.N_slice HO122.out; subst eo19; have hnb20 := NB109_0.out; have hnc20 := NB0_109.out; have hcz21_0 := zh BK109; have hfz21_0 := zfr BK109 0))
    refine bodyPost_ret (results_cell_row rfl _ _ gb109 50 #[.slice Ao19 y120.length co19] (0, 0) _ rfl (by (with_reducible repeat (first | refine blk_drewN ?_ _ | refine blk_drew ?_ | refine blk_alloc ?_ _)); apply blk_put (i := 0); (case h => exact y0 BK109.out); (case e => rfl)) Try.underlying50 rfl (by kernel_rfl)) rfl ?_
    exact ⟨_, y15, (by (with_reducible repeat (first | apply Kd.N_alloc | apply Kd.N_drewN | apply Kd.N_drew)); exact Kd.N_mono (Kd.N_far (p := ⟨gb109, 0, none⟩) (Kd.N_mono HO122.out (fun k_ hk => (⟨hk, hk.2.1⟩ : _ ∧ k_ ≠ gb109))) (fun _ hk => hk.2) (.slice Ao19 y120.length co19)) (fun _ hk => hk.1.1)), (y35 HI0.out NB0_109.out), (y31 HB.out HI0.out GE109.out), (y28 HK.out GW109.out)⟩
end Go.Proofs.Ythfflieeifakdaa.PA
end
section
namespace Go.Proofs.Ythfflieeifakdaa.PA
open Go.RowKit Go.Proofs.YthfflieeifakdaaW.PrintWords Go.Proofs.YthfflieeifakdaaW.PrintLast Go.Proofs.YthfflieeifakdaaW.PrintMore
attribute [local go_sem] max2_int min2_int max_two min_two max_three min_three max_four min_four
set_option linter.unusedVariables false
set_option linter.unusedSimpArgs false
def spec_l71Val.f : Nat → List Int → Int → List (S50) → Option (Int × (List (S25)) × Int)
 | 0, _, _, _ => none
 | k + 1, s0_0, s0_1, l1_0 => if (l1_0.length : Int) = 0 then ((some (([0, 1, 2, 3, 7, 50, 9999] : List Int) : List Int)).bind fun y125 => ((spec_l6Rd_pick.f k s0_0 s0_1 7).bind fun bt128 => (if 0 ≤ bt128.1 then (if bt128.1 < (y125.length : Int) then (some (rd y125 bt128.1, ([] : List (S25)), bt128.2)) else (none)) else (none)))) else (if 0 < (l1_0.length : Int) then ((spec_l71Val.f k s0_0 s0_1 ((rd_T50 l1_0 0).f0)).bind fun bt132 => (if 1 < (l1_0.length : Int) then ((spec_l71Val.f k s0_0 bt132.2.2 ((rd_T50 l1_0 1).f0)).bind fun bt138 => (some (0, (([(⟨bt132.1, bt132.2.1⟩ : S25), (⟨bt138.1, bt138.2.1⟩ : S25)] : List (S25))), bt138.2.2))) else (none))) else (none))
theorem spec_l71Val.mono_l : ∀ k, (∀ y0 y1 y2, LeO (spec_l71Val.f k y0 y1 y2) (spec_l71Val.f (k + 1) y0 y1 y2))
 | 0 => fun _ _ _ r h => by simp [spec_l71Val.f] at h
 | k + 1 => by
  have ih0 := spec_l71Val.mono_l k
  ·intro y0 y1 y2
   unfold spec_l71Val.f
   repeat' first
   | (with_reducible exact ih0 _ _ _)
   | (with_reducible exact spec_l6Rd_pick.mono _ _ _ _)
   | (with_reducible exact LeO.refl _)
   | (with_reducible exact LeO.none _)
   | (with_reducible refine LeO.ite ?_ ?_)
   | (with_reducible refine LeO.bind ?_ (fun _ => ?_))
   | exact ih0 _ _ _
   | exact spec_l6Rd_pick.mono _ _ _ _
   | exact LeO.none _
   | refine LeO.ite ?_ ?_
   | refine LeO.bind ?_ (fun _ => ?_)
theorem spec_l71Val.mono : ∀ a0 a1 a2 k, LeO (spec_l71Val.f k a0 a1 a2) (spec_l71Val.f (k + 1) a0 a1 a2) := by
 intro a0 a1 a2 k
 have ih0 := spec_l71Val.mono_l k
 exact ih0 a0 a1 a2
def spec_l71Val.T3 : Bool × List (List Nat × List Nat) := (true, [([], []), ([], []), ([1], [1]), ([2], [2]), ([3], [3]), ([0, 4], [0, 4]), ([], []), ([], []), ([7], [7]), ([8], [8]), ([9], [9]), ([6, 10, 5], [6, 10]), ([5, 11], [5, 11]), ([12], [12]), ([13, 11, 0, 1, 2, 3, 4, 5, 6, 7, 8, 9, 10, 11, 12, 13], [13])])
def spec_l71Val.B3 : List Nat := [0, 0, 2, 6, 14, 31, 0, 0, 128, 384, 896, 2047, 4095, 8191, 16383]
theorem spec_l71Val.tab3 : rtab .any (opsOf Try.f55 3) = spec_l71Val.T3 := by kernel_rfl
theorem spec_l71Val.bits3 : waitsOk spec_l71Val.T3.2 spec_l71Val.B3 = true := by kernel_rfl
set_option maxHeartbeats 8000000 in
set_option maxRecDepth 100000 in
theorem spec_l71Val.calls (k : Nat) : ∀ (g : Nat) (s0_0 : List Int) (s0_1 : Int) (P1_0_ : Nat → Prop) (A1_0 : Option Addr) (c1_0 : Nat) (l1_0 : List (S50)) (r1 : Int) (r2 : List (S25)) (r3 : Int) (w0 w : World) (hI : IsS75 w0 w g s0_0 s0_1) (hB : Below w0.heap.size w0 w) (hs1_0 : Kd.V k50 50 w w.heap.size (fun k_ => P1_0_ k_ ∧ k_ ≠ g) (.slice A1_0 l1_0.length c1_0) l1_0) (h : spec_l71Val.f k s0_0 s0_1 l1_0 = some (r1, r2, r3)),
  Calls Try.prog 55 #[.pointer (some ⟨g, 0, none⟩), .agg #[.slice A1_0 l1_0.length c1_0]] w fun e w' => ∃ v1_ : Value, e = .returned (.agg #[.int .i64 r1, v1_]) ∧ Kd.N k25 25 w' w.heap.size (fun k_ => (P1_0_ k_ ∨ w.heap.size ≤ k_)) v1_ r2 ∧ IsS75 w0 w' g s0_0 r3 ∧ Below w0.heap.size w0 w' ∧ KeepBut w w' g none := by
 induction k using Nat.strongRecOn with
 | _ k ih =>
 intro g s0_0 s0_1 P1_0_ A1_0 c1_0 l1_0 r1 r2 r3 w0 w hI hB hs1_0 h
 cases k with
 | zero => exact absurd h (by simp [spec_l71Val.f])
 | succ k =>
 simp only [spec_l71Val.f] at h
 have hu50 := Try.underlying50
 have hu25 := Try.underlying25
 have HO1_0 := Aside0.mk (show Kd.V k50 50 w w.heap.size (fun k_ => (P1_0_ k_ ∨ w.heap.size ≤ k_) ∧ k_ ≠ g) (.slice A1_0 l1_0.length c1_0) l1_0 from Kd.V_mono hs1_0 (fun k_ hk => ⟨.inl hk.1, hk.2⟩))
 have HI0 := Aside0.mk hI
 have HK := Aside0.mk (KeepBut.refl w g none)
 have HL := Aside0.mk hB.size
 clear hI
 have HW0 := Aside0.mk hB.size
 have HB := Aside0.mk hB
 clear hB
 have H : (if (l1_0.length : Int) = 0 then ((some (([0, 1, 2, 3, 7, 50, 9999] : List Int) : List Int)).bind fun y125 => ((spec_l6Rd_pick.f k s0_0 s0_1 7).bind fun bt128 => (if 0 ≤ bt128.1 then (if bt128.1 < (y125.length : Int) then (some (rd y125 bt128.1, ([] : List (S25)), bt128.2)) else (none)) else (none)))) else (if 0 < (l1_0.length : Int) then ((spec_l71Val.f k s0_0 s0_1 ((rd_T50 l1_0 0).f0)).bind fun bt132 => (if 1 < (l1_0.length : Int) then ((spec_l71Val.f k s0_0 bt132.2.2 ((rd_T50 l1_0 1).f0)).bind fun bt138 => (some (0, (([(⟨bt132.1, bt132.2.1⟩ : S25), (⟨bt138.1, bt138.2.1⟩ : S25)] : List (S25))), bt138.2.2))) else (none))) else (none))) = some (r1, r2, r3) := h
 clear h
 have HZ3 := Aside0.mk H
 clear H
 go_enter Try.func55, Try.ntmps55
 go_upto_if 8 with (first | ((with_reducible refine gate_dst (N := 3) rfl ?_); refine zbx 3 #[.slice A1_0 l1_0.length c1_0] 50 ?_; intro gb123 hg w4 hbox hb; replace HO1_0 := Aside0.mk (Kd.V_below (Kd.V_elderB (y11 HO1_0.out) gb123 (Nat.le_of_eq hg.symm)) hb); replace HB := Aside0.mk (below_step (y46 HB.out HI0.out) hb); have BK123 := Aside0.mk hbox; have GW123 := Aside0.mk ((by rw [hg]; exact (keep_size (w := w) (g := g) (row := none) (y40 HK.out)) : w.heap.size ≤ gb123)); have GE123 := Aside0.mk ((Nat.le_trans HW0.out (by rw [hg]; exact (keep_size (w := w) (g := g) (row := none) (y40 HK.out)) : w.heap.size ≤ gb123) : w0.heap.size ≤ gb123)); replace HK := Aside0.mk (KeepBut.trans (y40 HK.out) (KeepBut.of_below hb g none) (.inl rfl)); have NB0_123 := Aside0.mk ((by rw [hg]; exact Nat.ne_of_lt (IsS75.lt (show IsS75 w0 _ g s0_0 s0_1 from by repeat (first | (with_reducible first | exact HI0.out | apply IsS75.alloc | apply IsS75.drewN | apply IsS75.drew | apply IsS75.set_1) | exact HI0.out))) : g ≠ gb123)); have NB123_0 := Aside0.mk ((by rw [hg]; exact Nat.ne_of_gt (IsS75.lt (show IsS75 w0 _ g s0_0 s0_1 from by repeat (first | (with_reducible first | exact HI0.out | apply IsS75.alloc | apply IsS75.drewN | apply IsS75.drew | apply IsS75.set_1) | exact HI0.out))) : gb123 ≠ g)); replace HI0 := Aside0.mk (IsS75.below (y47 HI0.out) hb); clear hb hbox hg) | ((with_reducible refine gate_dst (N := 4) rfl ?_); refine zbx 4 #[.int .i64 0, .slice none 0 0] 25 ?_; intro gb124 hg w5 hbox hb; replace HO1_0 := Aside0.mk (Kd.V_below (Kd.V_elderB (y11 HO1_0.out) gb124 (Nat.le_of_eq hg.symm)) hb); replace HB := Aside0.mk (below_step (y31 HB.out HI0.out GE123.out) hb); have BK124 := Aside0.mk hbox; have GW124 := Aside0.mk ((by rw [hg]; exact (keep_size (w := w) (g := g) (row := none) (y28 HK.out GW123.out)) : w.heap.size ≤ gb124)); have GE124 := Aside0.mk ((Nat.le_trans HW0.out (by rw [hg]; exact (keep_size (w := w) (g := g) (row := none) (y28 HK.out GW123.out)) : w.heap.size ≤ gb124) : w0.heap.size ≤ gb124)); replace HK := Aside0.mk (KeepBut.trans (y28 HK.out GW123.out) (KeepBut.of_below hb g none) (.inl rfl)); have NB123_124 := zltn hg BK123; have NB124_123 := zgtn hg BK123; replace BK123 := zbb BK123 hb; have NB0_124 := Aside0.mk ((by rw [hg]; exact Nat.ne_of_lt (IsS75.lt (show IsS75 w0 _ g s0_0 s0_1 from by repeat (first | (with_reducible first | exact HI0.out | apply IsS75.alloc | apply IsS75.drewN | apply IsS75.drew | apply IsS75.set_1 | refine IsS75.far ?_ NB0_123.out _) | exact HI0.out))) : g ≠ gb124)); have NB124_0 := Aside0.mk ((by rw [hg]; exact Nat.ne_of_gt (IsS75.lt (show IsS75 w0 _ g s0_0 s0_1 from by repeat (first | (with_reducible first | exact HI0.out | apply IsS75.alloc | apply IsS75.drewN | apply IsS75.drew | apply IsS75.set_1 | refine IsS75.far ?_ NB0_123.out _) | exact HI0.out))) : gb124 ≠ g)); replace HI0 := Aside0.mk (IsS75.below (y35 HI0.out NB0_123.out) hb); clear hb hbox hg; have hnb6 := NB123_124.out; have hnc6 := NB124_123.out; have hnb7 := NB123_0.out; have hnc7 := NB0_123.out; have hcz8_0 := zh BK123; have hfz8_0 := zfr BK123 0))
 (try simp only [Act.put, List.setIfInBounds_toArray, List.set_cons_zero, List.set_cons_succ])
 have H := HZ3.out
 clear HZ3
 by_cases c9 : (l1_0.length : Int) = 0
 ·rw [if_pos c9] at H
  have c9b0 : ((l1_0.length : Int) == 0) = true := beq_iff_eq.mpr c9
  have c9b1 : ((l1_0.length : Int) != 0) = false := bne_eq_false_iff_eq.mpr c9
  clear c9
  (first | rw [c9b0] | (simp only [i64_w, i32_w]; rw [c9b0]) | skip)
  obtain ⟨y125, hy125⟩ : ∃ y_ : List Int, y_ = (([0, 1, 2, 3, 7, 50, 9999] : List Int)) := ⟨_, rfl⟩
  replace H : ((spec_l6Rd_pick.f k s0_0 s0_1 7).bind fun bt128 => (if 0 ≤ bt128.1 then (if bt128.1 < (y125.length : Int) then (some (rd y125 bt128.1, ([] : List (S25)), bt128.2)) else (none)) else (none))) = some (r1, r2, r3) := by first | (rw [hy125]; with_reducible exact H) | (have H2_ := (Option.bind_some _ _).symm.trans H; rw [hy125]; with_reducible exact H2_) | (have H2_ := (Option.bind_some _ _).symm.trans H; with_reducible exact H2_) | with_reducible exact H | (rw [hy125]; exact H) | exact H
  have Ny125 := Aside0.mk hy125
  clear hy125
  obtain ⟨⟨t128, t129⟩, A100, H⟩ := ob H
  have A10 := Aside0.mk A100
  clear A100
  by_cases c11 : 0 ≤ t128
  ·rw [if_pos c11] at H
   have c11b0 : decide (0 ≤ t128) = true := decide_eq_true c11
   clear c11
   by_cases c12 : t128 < (y125.length : Int)
   ·rw [if_pos c12] at H
    have c12b0 : decide (t128 < (y125.length : Int)) = true := decide_eq_true c12
    clear c12
    simp only [Option.some.injEq, Prod.mk.injEq] at H
    obtain ⟨rfl, rfl, rfl⟩ := H
    go_wp2_with (first | ((with_reducible refine gate_dst (N := 9) rfl ?_); refine Kd.R_lit (Kd.int .i64) _ 3 ?hg (N := 9) ?hd (xs := ([0, 1, 2, 3, 7, 50, 9999] : List Int)) (inner := [.int .i64 0, .int .i64 1, .int .i64 2, .int .i64 3, .int .i64 7, .int .i64 50, .int .i64 9999]) (ok := fun _ => True) (okp := fun _ => True) ?hr ?hp (fun _ hk => hk) trivial (Below.refl _ _) (Nat.le_refl _) (by simp) ?_; (case hd => rfl); (case hg => rfl); (case hr => first | (go_simp; done) | (go_simp; rfl)); (case hp => exact (Reps.one (show Kd.M (Kd.int .i64) _ _ _ 0 [.int .i64 0] from rfl) (Reps.one (show Kd.M (Kd.int .i64) _ _ _ 1 [.int .i64 1] from rfl) (Reps.one (show Kd.M (Kd.int .i64) _ _ _ 2 [.int .i64 2] from rfl) (Reps.one (show Kd.M (Kd.int .i64) _ _ _ 3 [.int .i64 3] from rfl) (Reps.one (show Kd.M (Kd.int .i64) _ _ _ 7 [.int .i64 7] from rfl) (Reps.one (show Kd.M (Kd.int .i64) _ _ _ 50 [.int .i64 50] from rfl) (Reps.one (show Kd.M (Kd.int .i64) _ _ _ 9999 [.int .i64 9999] from rfl) (Reps.none _ _))))))))); intro v126 w13 ho14 hb hg_ hnew_; clear hg_ hnew_; (first | rw [← Ny125.out] at ho14 | (simp only [Int.reduceToNat] at ho14; rw [← Ny125.out] at ho14)); replace HO1_0 := Aside0.mk (Kd.V_elder' (y11 HO1_0.out) (Kd.R_base ho14) hb); have HO127 := Aside0.mk (Kd.R_lower (Kd.R_newM (M := fun k_ => (w.heap.size ≤ k_)) ho14 (keep_size (w := w) (g := g) (row := none) (y22 HK.out GW123.out GW124.out)) (fun k_ h_ => h_)) (keep_size (w := w) (g := g) (row := none) (y22 HK.out GW123.out GW124.out))); replace BK123 := zbb BK123 hb; replace BK124 := zbb BK124 hb; replace HK := Aside0.mk (KeepBut.trans (y22 HK.out GW123.out GW124.out) (KeepBut.of_below hb g none) (.inl rfl)); replace HB := Aside0.mk (below_step (y19 HB.out HI0.out GE123.out GE124.out) hb); replace HI0 := Aside0.mk (IsS75.below (y24 HI0.out NB0_123.out NB0_124.out) hb); clear hb ho14) | ((with_reducible refine gate_callee (f := 32) rfl ?_); refine goesL_ (some 11) rfl rfl Try.func32 (by kernel_rfl) rfl #[.pointer (some ⟨g, 0, none⟩), .int .i64 7] rfl y9 ?_; (with_reducible refine (spec_l6Rd_pick.calls k g s0_0 s0_1 7 t128 t129 w0 _ ?side1 ?side2 A10.out).mono ?_); (case side1 => exact y24 HI0.out NB0_123.out NB0_124.out); (case side2 => exact y19 HB.out HI0.out GE123.out GE124.out); rintro e w15 ⟨rfl, hi, hb, hk⟩; refine ⟨_, rfl, ?_⟩; replace HO1_0 := Aside0.mk (Kd.V_mono (Kd.V_keep (Kd.V_mono (ok := fun k_ => ((((((P1_0_ k_ ∨ w.heap.size ≤ k_)) ∧ k_ ≠ g) ∧ k_ ≠ gb123) ∧ k_ ≠ gb124) ∧ some k_ ≠ (v126 : Value).ownBlock)) (y11 HO1_0.out) (fun k_ hk_ => (⟨hk_, hk_.1.1.1.2⟩ : _ ∧ k_ ≠ g))) hk (fun _ h => h.2)) (fun _ h => h.1)); replace BK123 := Aside0.mk (KeepBut.blk hk (g' := gb123) (o := .cells #[.slice A1_0 l1_0.length c1_0] 50 (0, 0)) (y0 BK123.out) NB123_0.out (by simp)); replace BK124 := Aside0.mk (KeepBut.blk hk (g' := gb124) (o := .cells #[.int .i64 0, .slice none 0 0] 25 (0, 0)) (y0 BK124.out) NB124_0.out (by simp)); replace HO127 := Aside0.mk (Kd.R_mono (Kd.R_keep (IsS75.apart (show IsS75 w0 _ g s0_0 s0_1 from by repeat (first | (with_reducible first | exact HI0.out | apply IsS75.alloc | apply IsS75.drewN | apply IsS75.drew | apply IsS75.set_1 | refine IsS75.far ?_ NB0_123.out _ | refine IsS75.far ?_ NB0_124.out _) | exact HI0.out)) (y8 HO127.out) (by decide)) hk (fun _ h => h.2)) (fun _ h => h.1)); replace HK := Aside0.mk (KeepBut.trans (y22 HK.out GW123.out GW124.out) hk (.inl rfl)); replace HB := Aside0.mk (hb); replace HI0 := Aside0.mk (hi); (try clear hb); (try clear hb2); (try clear hk); (try clear hi); obtain ⟨Ao16, co16, eo16⟩ := Kd.R_slice HO127.out; subst eo16; have p130 : 0 ≤ (t128 : Int) := of_decide_eq_true y23; have q130 : t128 < (y125.length : Int) := of_decide_eq_true y23; obtain ⟨ad130, e130, hx130_0⟩ := Kd.at_int (Kd.R_reads' HO127.out).2.2 t128 p130 q130; cases e130; replace p130 := eq_true p130; replace q130 := eq_true q130; have hnb17 := NB124_123.out; have hnc17 := NB123_124.out; have hnb18 := NB124_0.out; have hnc18 := NB0_124.out; have hcz19_0 := zh BK124; have hcz19_1 := zh1 BK124; have hfz19_0 := zfr BK124 0; have hfz19_1 := zfr BK124 1))
    refine bodyPost_ret (results_cell_row rfl _ _ gb124 25 #[.int .i64 (rd y125 t128), .slice none 0 0] (0, 0) _ rfl (by (with_reducible repeat (first | refine blk_drewN ?_ _ | refine blk_drew ?_ | refine blk_alloc ?_ _)); refine blk_put (cs := #[.int .i64 (rd y125 t128), .slice none 0 0]) ?_ 1 _ rfl; (with_reducible repeat (first | refine blk_drewN ?_ _ | refine blk_drew ?_ | refine blk_alloc ?_ _)); apply blk_put (i := 0); (case h => exact y0 BK124.out); (case e => rfl)) Try.underlying25 rfl (by kernel_rfl)) rfl ?_
    exact ⟨_, y15, y38, (y24 HI0.out NB0_123.out NB0_124.out), (y19 HB.out HI0.out GE123.out GE124.out), (y22 HK.out GW123.out GW124.out)⟩
   ·rw [if_neg c12] at H
    exact absurd H (by simp)
  ·rw [if_neg c11] at H
   exact absurd H (by simp)
 ·rw [if_neg c9] at H
  have c9b0 : ((l1_0.length : Int) == 0) = false := beq_eq_false_iff_ne.mpr c9
  have c9b1 : ((l1_0.length : Int) != 0) = true := bne_iff_ne.mpr c9
  have c9b2 : ¬ (l1_0 = []) := fun h_ => c9 (by rw [h_]; rfl)
  (first | rw [c9b0] | (simp only [i64_w, i32_w]; rw [c9b0]) | skip)
  by_cases c20 : 0 < (l1_0.length : Int)
  ·rw [if_pos c20] at H
   have c20b0 : decide (0 < (l1_0.length : Int)) = true := decide_eq_true c20
   have c20b1 : decide (0 < l1_0.length) = true := decide_eq_true (by omega)
   clear c20
   obtain ⟨⟨t132, t133, t136⟩, A210, H⟩ := ob H
   have A21 := Aside0.mk A210
   clear A210
   by_cases c22 : 1 < (l1_0.length : Int)
   ·rw [if_pos c22] at H
    have c22b0 : decide (1 < (l1_0.length : Int)) = true := decide_eq_true c22
    have c22b1 : decide (1 < l1_0.length) = true := decide_eq_true (by omega)
    clear c22
    obtain ⟨⟨t138, t139, t142⟩, A230, H⟩ := ob H
    have A23 := Aside0.mk A230
    clear A230
    obtain ⟨y143, hy143⟩ : ∃ y_ : List (S25), y_ = (([(⟨t132, t133⟩ : S25), (⟨t138, t139⟩ : S25)] : List (S25))) := ⟨_, rfl⟩
    replace H : (some (0, y143, t142)) = some (r1, r2, r3) := by first | (rw [hy143]; with_reducible exact H) | (have H2_ := (Option.bind_some _ _).symm.trans H; rw [hy143]; with_reducible exact H2_) | (have H2_ := (Option.bind_some _ _).symm.trans H; with_reducible exact H2_) | with_reducible exact H | (rw [hy143]; exact H) | exact H
    have Ny143 := Aside0.mk hy143
    clear hy143
    simp only [Option.some.injEq, Prod.mk.injEq] at H
    obtain ⟨rfl, rfl, rfl⟩ := H
    try go_wp2
    replace HO1_0 := Aside0.mk (Kd.V_drew HO1_0.out)
    replace BK123 := Aside0.mk (blk_drew BK123.out)
    replace BK124 := Aside0.mk (blk_drew BK124.out)
    replace HI0 := Aside0.mk (IsS75.drew HI0.out)
    replace HK := Aside0.mk (keep_drew HK.out)
    replace HB := Aside0.mk (below_drew1 HB.out)
    have p131 : 0 ≤ (0 : Int) := (by omega)
    have q131 : 0 < (l1_0.length : Int) := of_decide_eq_true y23
    obtain ⟨ad131, A131_0, c131_0, e131, hx131_0, hl131_0, hi131_0⟩ := at_T50 (Kd.V_reads' HO1_0.out).2.2 0 p131 q131
    cases e131
    obtain ⟨ce131, hce131, hMe131, hcc131⟩ := Kd.V_get HO1_0.out z50 0 p131 (by first | exact q131 | exact of_decide_eq_true y23 | (have e_ := (Kd.V_reads' HO1_0.out).1; omega))
    obtain ⟨ua131_0, uc131_0, rfl, ul131_0, ge131_0⟩ := k50_openF hMe131
    have hv131_0 := hcc131 0 _ rfl
    rw [Nat.add_zero, show (k50).sz = 1 from rfl, Nat.mul_one] at hv131_0
    replace hv131_0 := Option.some.inj (hv131_0.symm.trans hx131_0)
    injection hv131_0 with hva_ hvn_ hvc_
    rw [hva_] at ge131_0
    rw [hvc_] at ul131_0
    have HL131_0 := Aside0.mk (show Kd.V k50 50 _ w.heap.size _ _ ((rd_T50 l1_0 0).f0) from Kd.V_mk ul131_0 ge131_0)
    clear hva_ hvn_ hvc_ ge131_0 ul131_0
    clear hcc131 hce131
    have qi131 : (0 < l1_0.length) = True := eq_true (by omega)
    (try rw [show ((0 : Int)).toNat = 0 from rfl] at hx131_0)
    (try rw [Addr.add_zero'] at hx131_0)
    have HR131_0 := Aside0.mk hi131_0
    have HC131_0 := Aside0.mk hl131_0
    clear hi131_0 hl131_0
    replace p131 := eq_true p131
    replace q131 := eq_true q131
    have p137 : 0 ≤ (1 : Int) := (by omega)
    have q137 : 1 < (l1_0.length : Int) := of_decide_eq_true y23
    obtain ⟨ad137, A137_0, c137_0, e137, hx137_0, hl137_0, hi137_0⟩ := at_T50 (Kd.V_reads' HO1_0.out).2.2 1 p137 q137
    obtain rfl : ad131 = ad137 := (by injection e137)
    obtain ⟨ce137, hce137, hMe137, hcc137⟩ := Kd.V_get HO1_0.out z50 1 p137 (by first | exact q137 | exact of_decide_eq_true y23 | (have e_ := (Kd.V_reads' HO1_0.out).1; omega))
    obtain ⟨ua137_0, uc137_0, rfl, ul137_0, ge137_0⟩ := k50_openF hMe137
    have hv137_0 := hcc137 0 _ rfl
    rw [Nat.add_zero, show (k50).sz = 1 from rfl, Nat.mul_one] at hv137_0
    replace hv137_0 := Option.some.inj (hv137_0.symm.trans hx137_0)
    injection hv137_0 with hva_ hvn_ hvc_
    rw [hva_] at ge137_0
    rw [hvc_] at ul137_0
    have HL137_0 := Aside0.mk (show Kd.V k50 50 _ w.heap.size _ _ ((rd_T50 l1_0 1).f0) from Kd.V_mk ul137_0 ge137_0)
    clear hva_ hvn_ hvc_ ge137_0 ul137_0
    clear hcc137 hce137
    (try simp only [show (1 : Int).toNat = 1 from rfl, Nat.reduceMul, Nat.reduceEqDiff, Go.Addr.add, ↓reduceIte] at hx137_0)
    have qi137 : (1 < l1_0.length) = True := eq_true (by omega)
    (try rw [show ((1 : Int)).toNat = 1 from rfl] at hx137_0)
    have HR137_0 := Aside0.mk hi137_0
    have HC137_0 := Aside0.mk hl137_0
    clear hi137_0 hl137_0
    replace p137 := eq_true p137
    replace q137 := eq_true q137
    refine start_ (n := 15) (S := fun w' => w'.cell? ⟨gb123, 0, none⟩ = some (.slice (some ad131) l1_0.length c1_0) ∧ w'.cell? ad131 = some (.slice A131_0 ((rd_T50 l1_0 0).f0).length c131_0) ∧ w'.cell? ⟨ad131.block, ad131.off + 1, none⟩ = some (.slice A137_0 ((rd_T50 l1_0 1).f0).length c137_0)) (ds := []) #[false, false, false, false, false, false, false, false, false, false, false, false, false, false, false] (by kernel_rfl) rfl rfl ⟨(blk_cell BK123.out 0).trans rfl, hx131_0, hx137_0⟩ (fun hHeld => ?_); refine with_tabW spec_l71Val.tab3 spec_l71Val.bits3 (fun HT_ HW_ => ?_)
    generalize w5.drew = w24 at HO1_0 BK123 BK124 HI0 HK HB HL131_0 HL137_0 HR131_0 HR137_0 hx131_0 hx137_0 hHeld ⊢
    refine zp 0 (some 15) HT_ ?_
    refine zp 1 (some 16) HT_ ?_
    refine zp 6 (some 21) HT_ ?_
    refine zp 7 (some 22) HT_ ?_
    refine zt3 2 (some 17) HT_ HW_ hHeld ?_
    refine zp 3 (some 18) HT_ ?_
    refine zt3 4 (some 19) HT_ HW_ hHeld ?_
    refine zt3 8 (some 23) HT_ HW_ hHeld ?_
    refine zp 9 (some 24) HT_ ?_
    refine zt3 10 (some 25) HT_ HW_ hHeld ?_
    refine one_ (i := 5) (N := some 20) #[true, true, true, true, true, true, true, true, true, true, true, false, false, false, false] rfl rfl (one_of HT_.out (by kernel_rfl)) (by decide) (fun K hK => ?_)
    refine goes_ Try.func55 (by kernel_rfl) rfl #[.pointer (some ⟨g, 0, none⟩), .agg #[.slice A131_0 ((rd_T50 l1_0 0).f0).length c131_0]] (by rfl) rfl rfl y9 ?_
    with_reducible refine (ih k (by omega) g s0_0 s0_1 (fun k_ => ((((P1_0_ k_ ∨ w.heap.size ≤ k_) ∧ k_ ≠ g) ∧ k_ ≠ gb123) ∧ k_ ≠ gb124)) _ _ ((rd_T50 l1_0 0).f0) t132 t133 t136 w0 _ ?side1 ?side2 ?side3 A21.out).mono ?_
    (case side1 => exact y24 HI0.out NB0_123.out NB0_124.out)
    (case side2 => exact y19 HB.out HI0.out GE123.out GE124.out)
    (case side3 => exact Kd.V_mono (HL131_0.out) (fun k_ hk_ => ⟨hk_, hk_.1.1.2⟩))
    rintro e w25 ⟨v134, rfl, ho0, hi, hb, hk⟩
    have HS1_ := keep_cell hk (hHeld.2.1) (by first | (rw [add_block]; exact (show _ from by have h_ := hf_V_in HO1_0.out (by have h0_ : (0 : Int) < (l1_0.length : Int) := (by first | exact of_eq_true (by assumption) | exact Int.lt_trans (by decide : (0 : Int) < 1) (of_eq_true (by assumption))); omega) (by decide); first | exact h_ | exact h_.1 | exact h_.2 | exact h_.1.1 | exact h_.1.2 | exact h_.2.1 | exact h_.2.2 | exact h_.1.1.1 | exact h_.1.1.2 | exact h_.1.2.1 | exact h_.1.2.2 | exact h_.2.1.1 | exact h_.2.1.2 | exact h_.2.2.1 | exact h_.2.2.2 | exact h_.1.1.1.1 | exact h_.1.1.1.2 | exact h_.1.1.2.1 | exact h_.1.1.2.2 | exact h_.1.2.1.1 | exact h_.1.2.1.2 | exact h_.1.2.2.1 | exact h_.1.2.2.2 | exact h_.2.1.1.1 | exact h_.2.1.1.2 | exact h_.2.1.2.1 | exact h_.2.1.2.2 | exact h_.2.2.1.1 | exact h_.2.2.1.2 | exact h_.2.2.2.1 | exact h_.2.2.2.2 | exact h_.1.1.1.1.1 | exact h_.1.1.1.1.2 | exact h_.1.1.1.2.1 | exact h_.1.1.1.2.2 | exact h_.1.1.2.1.1 | exact h_.1.1.2.1.2 | exact h_.1.1.2.2.1 | exact h_.1.1.2.2.2 | exact h_.1.2.1.1.1 | exact h_.1.2.1.1.2 | exact h_.1.2.1.2.1 | exact h_.1.2.1.2.2 | exact h_.1.2.2.1.1 | exact h_.1.2.2.1.2 | exact h_.1.2.2.2.1 | exact h_.1.2.2.2.2 | exact h_.2.1.1.1.1 | exact h_.2.1.1.1.2 | exact h_.2.1.1.2.1 | exact h_.2.1.1.2.2 | exact h_.2.1.2.1.1 | exact h_.2.1.2.1.2 | exact h_.2.1.2.2.1 | exact h_.2.1.2.2.2 | exact h_.2.2.1.1.1 | exact h_.2.2.1.1.2 | exact h_.2.2.1.2.1 | exact h_.2.2.1.2.2 | exact h_.2.2.2.1.1 | exact h_.2.2.2.1.2 | exact h_.2.2.2.2.1 | exact h_.2.2.2.2.2)) | (show (Addr.add _ _).block ≠ _; rw [add_block]; exact (show _ from by have h_ := hf_V_in HO1_0.out (by have h0_ : (0 : Int) < (l1_0.length : Int) := (by first | exact of_eq_true (by assumption) | exact Int.lt_trans (by decide : (0 : Int) < 1) (of_eq_true (by assumption))); omega) (by decide); first | exact h_ | exact h_.1 | exact h_.2 | exact h_.1.1 | exact h_.1.2 | exact h_.2.1 | exact h_.2.2 | exact h_.1.1.1 | exact h_.1.1.2 | exact h_.1.2.1 | exact h_.1.2.2 | exact h_.2.1.1 | exact h_.2.1.2 | exact h_.2.2.1 | exact h_.2.2.2 | exact h_.1.1.1.1 | exact h_.1.1.1.2 | exact h_.1.1.2.1 | exact h_.1.1.2.2 | exact h_.1.2.1.1 | exact h_.1.2.1.2 | exact h_.1.2.2.1 | exact h_.1.2.2.2 | exact h_.2.1.1.1 | exact h_.2.1.1.2 | exact h_.2.1.2.1 | exact h_.2.1.2.2 | exact h_.2.2.1.1 | exact h_.2.2.1.2 | exact h_.2.2.2.1 | exact h_.2.2.2.2 | exact h_.1.1.1.1.1 | exact h_.1.1.1.1.2 | exact h_.1.1.1.2.1 | exact h_.1.1.1.2.2 | exact h_.1.1.2.1.1 | exact h_.1.1.2.1.2 | exact h_.1.1.2.2.1 | exact h_.1.1.2.2.2 | exact h_.1.2.1.1.1 | exact h_.1.2.1.1.2 | exact h_.1.2.1.2.1 | exact h_.1.2.1.2.2 | exact h_.1.2.2.1.1 | exact h_.1.2.2.1.2 | exact h_.1.2.2.2.1 | exact h_.1.2.2.2.2 | exact h_.2.1.1.1.1 | exact h_.2.1.1.1.2 | exact h_.2.1.1.2.1 | exact h_.2.1.1.2.2 | exact h_.2.1.2.1.1 | exact h_.2.1.2.1.2 | exact h_.2.1.2.2.1 | exact h_.2.1.2.2.2 | exact h_.2.2.1.1.1 | exact h_.2.2.1.1.2 | exact h_.2.2.1.2.1 | exact h_.2.2.1.2.2 | exact h_.2.2.2.1.1 | exact h_.2.2.2.1.2 | exact h_.2.2.2.2.1 | exact h_.2.2.2.2.2)) | exact (show _ from by have h_ := hf_V_in HO1_0.out (by have h0_ : (0 : Int) < (l1_0.length : Int) := (by first | exact of_eq_true (by assumption) | exact Int.lt_trans (by decide : (0 : Int) < 1) (of_eq_true (by assumption))); omega) (by decide); first | exact h_ | exact h_.1 | exact h_.2 | exact h_.1.1 | exact h_.1.2 | exact h_.2.1 | exact h_.2.2 | exact h_.1.1.1 | exact h_.1.1.2 | exact h_.1.2.1 | exact h_.1.2.2 | exact h_.2.1.1 | exact h_.2.1.2 | exact h_.2.2.1 | exact h_.2.2.2 | exact h_.1.1.1.1 | exact h_.1.1.1.2 | exact h_.1.1.2.1 | exact h_.1.1.2.2 | exact h_.1.2.1.1 | exact h_.1.2.1.2 | exact h_.1.2.2.1 | exact h_.1.2.2.2 | exact h_.2.1.1.1 | exact h_.2.1.1.2 | exact h_.2.1.2.1 | exact h_.2.1.2.2 | exact h_.2.2.1.1 | exact h_.2.2.1.2 | exact h_.2.2.2.1 | exact h_.2.2.2.2 | exact h_.1.1.1.1.1 | exact h_.1.1.1.1.2 | exact h_.1.1.1.2.1 | exact h_.1.1.1.2.2 | exact h_.1.1.2.1.1 | exact h_.1.1.2.1.2 | exact h_.1.1.2.2.1 | exact h_.1.1.2.2.2 | exact h_.1.2.1.1.1 | exact h_.1.2.1.1.2 | exact h_.1.2.1.2.1 | exact h_.1.2.1.2.2 | exact h_.1.2.2.1.1 | exact h_.1.2.2.1.2 | exact h_.1.2.2.2.1 | exact h_.1.2.2.2.2 | exact h_.2.1.1.1.1 | exact h_.2.1.1.1.2 | exact h_.2.1.1.2.1 | exact h_.2.1.1.2.2 | exact h_.2.1.2.1.1 | exact h_.2.1.2.1.2 | exact h_.2.1.2.2.1 | exact h_.2.1.2.2.2 | exact h_.2.2.1.1.1 | exact h_.2.2.1.1.2 | exact h_.2.2.1.2.1 | exact h_.2.2.1.2.2 | exact h_.2.2.2.1.1 | exact h_.2.2.2.1.2 | exact h_.2.2.2.2.1 | exact h_.2.2.2.2.2))
    have HS2_ := keep_cell hk (hHeld.2.2) (by first | (rw [add_block]; exact (show _ from by have h_ := hf_V_in HO1_0.out (by have h0_ : (0 : Int) < (l1_0.length : Int) := (by first | exact of_eq_true (by assumption) | exact Int.lt_trans (by decide : (0 : Int) < 1) (of_eq_true (by assumption))); omega) (by decide); first | exact h_ | exact h_.1 | exact h_.2 | exact h_.1.1 | exact h_.1.2 | exact h_.2.1 | exact h_.2.2 | exact h_.1.1.1 | exact h_.1.1.2 | exact h_.1.2.1 | exact h_.1.2.2 | exact h_.2.1.1 | exact h_.2.1.2 | exact h_.2.2.1 | exact h_.2.2.2 | exact h_.1.1.1.1 | exact h_.1.1.1.2 | exact h_.1.1.2.1 | exact h_.1.1.2.2 | exact h_.1.2.1.1 | exact h_.1.2.1.2 | exact h_.1.2.2.1 | exact h_.1.2.2.2 | exact h_.2.1.1.1 | exact h_.2.1.1.2 | exact h_.2.1.2.1 | exact h_.2.1.2.2 | exact h_.2.2.1.1 | exact h_.2.2.1.2 | exact h_.2.2.2.1 | exact h_.2.2.2.2 | exact h_.1.1.1.1.1 | exact h_.1.1.1.1.2 | exact h_.1.1.1.2.1 | exact h_.1.1.1.2.2 | exact h_.1.1.2.1.1 | exact h_.1.1.2.1.2 | exact h_.1.1.2.2.1 | exact h_.1.1.2.2.2 | exact h_.1.2.1.1.1 | exact h_.1.2.1.1.2 | exact h_.1.2.1.2.1 | exact h_.1.2.1.2.2 | exact h_.1.2.2.1.1 | exact h_.1.2.2.1.2 | exact h_.1.2.2.2.1 | exact h_.1.2.2.2.2 | exact h_.2.1.1.1.1 | exact h_.2.1.1.1.2 | exact h_.2.1.1.2.1 | exact h_.2.1.1.2.2 | exact h_.2.1.2.1.1 | exact h_.2.1.2.1.2 | exact h_.2.1.2.2.1 | exact h_.2.1.2.2.2 | exact h_.2.2.1.1.1 | exact h_.2.2.1.1.2 | exact h_.2.2.1.2.1 | exact h_.2.2.1.2.2 | exact h_.2.2.2.1.1 | exact h_.2.2.2.1.2 | exact h_.2.2.2.2.1 | exact h_.2.2.2.2.2)) | (show (Addr.add _ _).block ≠ _; rw [add_block]; exact (show _ from by have h_ := hf_V_in HO1_0.out (by have h0_ : (0 : Int) < (l1_0.length : Int) := (by first | exact of_eq_true (by assumption) | exact Int.lt_trans (by decide : (0 : Int) < 1) (of_eq_true (by assumption))); omega) (by decide); first | exact h_ | exact h_.1 | exact h_.2 | exact h_.1.1 | exact h_.1.2 | exact h_.2.1 | exact h_.2.2 | exact h_.1.1.1 | exact h_.1.1.2 | exact h_.1.2.1 | exact h_.1.2.2 | exact h_.2.1.1 | exact h_.2.1.2 | exact h_.2.2.1 | exact h_.2.2.2 | exact h_.1.1.1.1 | exact h_.1.1.1.2 | exact h_.1.1.2.1 | exact h_.1.1.2.2 | exact h_.1.2.1.1 | exact h_.1.2.1.2 | exact h_.1.2.2.1 | exact h_.1.2.2.2 | exact h_.2.1.1.1 | exact h_.2.1.1.2 | exact h_.2.1.2.1 | exact h_.2.1.2.2 | exact h_.2.2.1.1 | exact h_.2.2.1.2 | exact h_.2.2.2.1 | exact h_.2.2.2.2 | exact h_.1.1.1.1.1 | exact h_.1.1.1.1.2 | exact h_.1.1.1.2.1 | exact h_.1.1.1.2.2 | exact h_.1.1.2.1.1 | exact h_.1.1.2.1.2 | exact h_.1.1.2.2.1 | exact h_.1.1.2.2.2 | exact h_.1.2.1.1.1 | exact h_.1.2.1.1.2 | exact h_.1.2.1.2.1 | exact h_.1.2.1.2.2 | exact h_.1.2.2.1.1 | exact h_.1.2.2.1.2 | exact h_.1.2.2.2.1 | exact h_.1.2.2.2.2 | exact h_.2.1.1.1.1 | exact h_.2.1.1.1.2 | exact h_.2.1.1.2.1 | exact h_.2.1.1.2.2 | exact h_.2.1.2.1.1 | exact h_.2.1.2.1.2 | exact h_.2.1.2.2.1 | exact h_.2.1.2.2.2 | exact h_.2.2.1.1.1 | exact h_.2.2.1.1.2 | exact h_.2.2.1.2.1 | exact h_.2.2.1.2.2 | exact h_.2.2.2.1.1 | exact h_.2.2.2.1.2 | exact h_.2.2.2.2.1 | exact h_.2.2.2.2.2)) | exact (show _ from by have h_ := hf_V_in HO1_0.out (by have h0_ : (0 : Int) < (l1_0.length : Int) := (by first | exact of_eq_true (by assumption) | exact Int.lt_trans (by decide : (0 : Int) < 1) (of_eq_true (by assumption))); omega) (by decide); first | exact h_ | exact h_.1 | exact h_.2 | exact h_.1.1 | exact h_.1.2 | exact h_.2.1 | exact h_.2.2 | exact h_.1.1.1 | exact h_.1.1.2 | exact h_.1.2.1 | exact h_.1.2.2 | exact h_.2.1.1 | exact h_.2.1.2 | exact h_.2.2.1 | exact h_.2.2.2 | exact h_.1.1.1.1 | exact h_.1.1.1.2 | exact h_.1.1.2.1 | exact h_.1.1.2.2 | exact h_.1.2.1.1 | exact h_.1.2.1.2 | exact h_.1.2.2.1 | exact h_.1.2.2.2 | exact h_.2.1.1.1 | exact h_.2.1.1.2 | exact h_.2.1.2.1 | exact h_.2.1.2.2 | exact h_.2.2.1.1 | exact h_.2.2.1.2 | exact h_.2.2.2.1 | exact h_.2.2.2.2 | exact h_.1.1.1.1.1 | exact h_.1.1.1.1.2 | exact h_.1.1.1.2.1 | exact h_.1.1.1.2.2 | exact h_.1.1.2.1.1 | exact h_.1.1.2.1.2 | exact h_.1.1.2.2.1 | exact h_.1.1.2.2.2 | exact h_.1.2.1.1.1 | exact h_.1.2.1.1.2 | exact h_.1.2.1.2.1 | exact h_.1.2.1.2.2 | exact h_.1.2.2.1.1 | exact h_.1.2.2.1.2 | exact h_.1.2.2.2.1 | exact h_.1.2.2.2.2 | exact h_.2.1.1.1.1 | exact h_.2.1.1.1.2 | exact h_.2.1.1.2.1 | exact h_.2.1.1.2.2 | exact h_.2.1.2.1.1 | exact h_.2.1.2.1.2 | exact h_.2.1.2.2.1 | exact h_.2.1.2.2.2 | exact h_.2.2.1.1.1 | exact h_.2.2.1.1.2 | exact h_.2.2.1.2.1 | exact h_.2.2.1.2.2 | exact h_.2.2.2.1.1 | exact h_.2.2.2.1.2 | exact h_.2.2.2.2.1 | exact h_.2.2.2.2.2))
    refine ⟨_, rfl, ?_⟩
    replace HO1_0 := Aside0.mk (Kd.V_mono (Kd.V_told (Kd.V_oldK (Kd.V_mono (ok := fun k_ => (((((P1_0_ k_ ∨ w.heap.size ≤ k_)) ∧ k_ ≠ g) ∧ k_ ≠ gb123) ∧ k_ ≠ gb124)) (y11 HO1_0.out) (fun k_ hk_ => (⟨hk_, hk_.1.1.2⟩ : _ ∧ k_ ≠ g))) hk) (Kd.N_base ho0)) (fun _ h_ => h_.1))
    replace HL131_0 := Aside0.mk (Kd.V_mono (Kd.V_told (Kd.V_oldK (Kd.V_mono (ok := fun k_ => (((((P1_0_ k_ ∨ w.heap.size ≤ k_)) ∧ k_ ≠ g) ∧ k_ ≠ gb123) ∧ k_ ≠ gb124)) (y11 HL131_0.out) (fun k_ hk_ => (⟨hk_, hk_.1.1.2⟩ : _ ∧ k_ ≠ g))) hk) (Kd.N_base ho0)) (fun _ h_ => h_.1))
    replace HL137_0 := Aside0.mk (Kd.V_mono (Kd.V_told (Kd.V_oldK (Kd.V_mono (ok := fun k_ => (((((P1_0_ k_ ∨ w.heap.size ≤ k_)) ∧ k_ ≠ g) ∧ k_ ≠ gb123) ∧ k_ ≠ gb124)) (y11 HL137_0.out) (fun k_ hk_ => (⟨hk_, hk_.1.1.2⟩ : _ ∧ k_ ≠ g))) hk) (Kd.N_base ho0)) (fun _ h_ => h_.1))
    have HO135 := Aside0.mk (Kd.N_lower (Kd.N_mono (ok' := fun k_ => (P1_0_ k_ ∨ w.heap.size ≤ k_) ∧ k_ ≠ gb123 ∧ k_ ≠ gb124 ∧ k_ ≠ g) ho0 (fun k_ hk_ => ⟨Or.elim hk_ (fun hs_ => hs_.1.1.1) (fun hn_ => (.inr (Nat.le_trans (keep_size (w := w) (g := g) (row := none) (y22 HK.out GW123.out GW124.out)) hn_))), Or.elim hk_ (fun hs_ => hs_.1.2) (fun hn_ => (Kd.freshB (g := gb123) (o := .cells #[.slice (some ad131) l1_0.length c1_0] 50 (0, 0)) (y0 BK123.out) k_ hn_)), Or.elim hk_ (fun hs_ => hs_.2) (fun hn_ => (Kd.freshB (g := gb124) (o := .cells #[.int .i64 0, .slice none 0 0] 25 (0, 0)) (y0 BK124.out) k_ hn_)), Or.elim hk_ (fun hs_ => hs_.1.1.2) (fun hn_ => (IsS75.fresh (y24 HI0.out NB0_123.out NB0_124.out) k_ hn_))⟩)) (keep_size (w := w) (g := g) (row := none) (y22 HK.out GW123.out GW124.out)))
    replace BK123 := Aside0.mk (KeepBut.blk hk (g' := gb123) (o := .cells #[.slice (some ad131) l1_0.length c1_0] 50 (0, 0)) (y0 BK123.out) NB123_0.out (by simp))
    replace BK124 := Aside0.mk (KeepBut.blk hk (g' := gb124) (o := .cells #[.int .i64 0, .slice none 0 0] 25 (0, 0)) (y0 BK124.out) NB124_0.out (by simp))
    replace HK := Aside0.mk (KeepBut.trans (y22 HK.out GW123.out GW124.out) hk (.inl rfl))
    replace HB := Aside0.mk (hb)
    replace HI0 := Aside0.mk (hi)
    (try clear hb)
    (try clear hb2)
    (try clear hk)
    (try clear hi)
    (try clear ho0)
    refine hK.out _ _ ⟨(blk_cell BK123.out 0).trans rfl, HS1_, HS2_⟩ (fun hHeld => ?_)
    clear hK K
    refine norm_ (a' := ?_) ?_ ?_
    rotate_left
    ·show Act.put _ (some 20) _ = _
     simp only [Act.put, List.setIfInBounds_toArray, List.set_cons_zero, List.set_cons_succ, i64_w, i32_w]
     rfl
    refine one_ (i := 11) (N := some 26) #[true, true, true, true, true, true, true, true, true, true, true, true, false, false, false] rfl rfl (one_of HT_.out (by kernel_rfl)) (by decide) (fun K hK => ?_)
    refine goes_ Try.func55 (by kernel_rfl) rfl #[.pointer (some ⟨g, 0, none⟩), .agg #[.slice A137_0 ((rd_T50 l1_0 1).f0).length c137_0]] (by rfl) rfl rfl y9 ?_
    with_reducible refine (ih k (by omega) g s0_0 t136 (fun k_ => (((((P1_0_ k_ ∨ w.heap.size ≤ k_) ∧ k_ ≠ g) ∧ k_ ≠ gb123) ∧ k_ ≠ gb124) ∧ some k_ ≠ (v134 : Value).ownBlock)) _ _ ((rd_T50 l1_0 1).f0) t138 t139 t142 w0 _ ?side1 ?side2 ?side3 A23.out).mono ?_
    (case side1 => exact y24 HI0.out NB0_123.out NB0_124.out)
    (case side2 => exact y19 HB.out HI0.out GE123.out GE124.out)
    (case side3 => exact Kd.V_mono (HL137_0.out) (fun k_ hk_ => ⟨hk_, hk_.1.1.1.2⟩))
    rintro e w26 ⟨v140, rfl, ho0, hi, hb, hk⟩
    have HS1_ := keep_cell hk (hHeld.2.1) (by first | (rw [add_block]; exact (show _ from by have h_ := hf_V_in HO1_0.out (by have h0_ : (0 : Int) < (l1_0.length : Int) := (by first | exact of_eq_true (by assumption) | exact Int.lt_trans (by decide : (0 : Int) < 1) (of_eq_true (by assumption))); omega) (by decide); first | exact h_ | exact h_.1 | exact h_.2 | exact h_.1.1 | exact h_.1.2 | exact h_.2.1 | exact h_.2.2 | exact h_.1.1.1 | exact h_.1.1.2 | exact h_.1.2.1 | exact h_.1.2.2 | exact h_.2.1.1 | exact h_.2.1.2 | exact h_.2.2.1 | exact h_.2.2.2 | exact h_.1.1.1.1 | exact h_.1.1.1.2 | exact h_.1.1.2.1 | exact h_.1.1.2.2 | exact h_.1.2.1.1 | exact h_.1.2.1.2 | exact h_.1.2.2.1 | exact h_.1.2.2.2 | exact h_.2.1.1.1 | exact h_.2.1.1.2 | exact h_.2.1.2.1 | exact h_.2.1.2.2 | exact h_.2.2.1.1 | exact h_.2.2.1.2 | exact h_.2.2.2.1 | exact h_.2.2.2.2 | exact h_.1.1.1.1.1 | exact h_.1.1.1.1.2 | exact h_.1.1.1.2.1 | exact h_.1.1.1.2.2 | exact h_.1.1.2.1.1 | exact h_.1.1.2.1.2 | exact h_.1.1.2.2.1 | exact h_.1.1.2.2.2 | exact h_.1.2.1.1.1 | exact h_.1.2.1.1.2 | exact h_.1.2.1.2.1 | exact h_.1.2.1.2.2 | exact h_.1.2.2.1.1 | exact h_.1.2.2.1.2 | exact h_.1.2.2.2.1 | exact h_.1.2.2.2.2 | exact h_.2.1.1.1.1 | exact h_.2.1.1.1.2 | exact h_.2.1.1.2.1 | exact h_.2.1.1.2.2 | exact h_.2.1.2.1.1 | exact h_.2.1.2.1.2 | exact h_.2.1.2.2.1 | exact h_.2.1.2.2.2 | exact h_.2.2.1.1.1 | exact h_.2.2.1.1.2 | exact h_.2.2.1.2.1 | exact h_.2.2.1.2.2 | exact h_.2.2.2.1.1 | exact h_.2.2.2.1.2 | exact h_.2.2.2.2.1 | exact h_.2.2.2.2.2)) | (show (Addr.add _ _).block ≠ _; rw [add_block]; exact (show _ from by have h_ := hf_V_in HO1_0.out (by have h0_ : (0 : Int) < (l1_0.length : Int) := (by first | exact of_eq_true (by assumption) | exact Int.lt_trans (by decide : (0 : Int) < 1) (of_eq_true (by assumption))); omega) (by decide); first | exact h_ | exact h_.1 | exact h_.2 | exact h_.1.1 | exact h_.1.2 | exact h_.2.1 | exact h_.2.2 | exact h_.1.1.1 | exact h_.1.1.2 | exact h_.1.2.1 | exact h_.1.2.2 | exact h_.2.1.1 | exact h_.2.1.2 | exact h_.2.2.1 | exact h_.2.2.2 | exact h_.1.1.1.1 | exact h_.1.1.1.2 | exact h_.1.1.2.1 | exact h_.1.1.2.2 | exact h_.1.2.1.1 | exact h_.1.2.1.2 | exact h_.1.2.2.1 | exact h_.1.2.2.2 | exact h_.2.1.1.1 | exact h_.2.1.1.2 | exact h_.2.1.2.1 | exact h_.2.1.2.2 | exact h_.2.2.1.1 | exact h_.2.2.1.2 | exact h_.2.2.2.1 | exact h_.2.2.2.2 | exact h_.1.1.1.1.1 | exact h_.1.1.1.1.2 | exact h_.1.1.1.2.1 | exact h_.1.1.1.2.2 | exact h_.1.1.2.1.1 | exact h_.1.1.2.1.2 | exact h_.1.1.2.2.1 | exact h_.1.1.2.2.2 | exact h_.1.2.1.1.1 | exact h_.1.2.1.1.2 | exact h_.1.2.1.2.1 | exact h_.1.2.1.2.2 | exact h_.1.2.2.1.1 | exact h_.1.2.2.1.2 | exact h_.1.2.2.2.1 | exact h_.1.2.2.2.2 | exact h_.2.1.1.1.1 | exact h_.2.1.1.1.2 | exact h_.2.1.1.2.1 | exact h_.2.1.1.2.2 | exact h_.2.1.2.1.1 | exact h_.2.1.2.1.2 | exact h_.2.1.2.2.1 | exact h_.2.1.2.2.2 | exact h_.2.2.1.1.1 | exact h_.2.2.1.1.2 | exact h_.2.2.1.2.1 | exact h_.2.2.1.2.2 | exact h_.2.2.2.1.1 | exact h_.2.2.2.1.2 | exact h_.2.2.2.2.1 | exact h_.2.2.2.2.2)) | exact (show _ from by have h_ := hf_V_in HO1_0.out (by have h0_ : (0 : Int) < (l1_0.length : Int) := (by first | exact of_eq_true (by assumption) | exact Int.lt_trans (by decide : (0 : Int) < 1) (of_eq_true (by assumption))); omega) (by decide); first | exact h_ | exact h_.1 | exact h_.2 | exact h_.1.1 | exact h_.1.2 | exact h_.2.1 | exact h_.2.2 | exact h_.1.1.1 | exact h_.1.1.2 | exact h_.1.2.1 | exact h_.1.2.2 | exact h_.2.1.1 | exact h_.2.1.2 | exact h_.2.2.1 | exact h_.2.2.2 | exact h_.1.1.1.1 | exact h_.1.1.1.2 | exact h_.1.1.2.1 | exact h_.1.1.2.2 | exact h_.1.2.1.1 | exact h_.1.2.1.2 | exact h_.1.2.2.1 | exact h_.1.2.2.2 | exact h_.2.1.1.1 | exact h_.2.1.1.2 | exact h_.2.1.2.1 | exact h_.2.1.2.2 | exact h_.2.2.1.1 | exact h_.2.2.1.2 | exact h_.2.2.2.1 | exact h_.2.2.2.2 | exact h_.1.1.1.1.1 | exact h_.1.1.1.1.2 | exact h_.1.1.1.2.1 | exact h_.1.1.1.2.2 | exact h_.1.1.2.1.1 | exact h_.1.1.2.1.2 | exact h_.1.1.2.2.1 | exact h_.1.1.2.2.2 | exact h_.1.2.1.1.1 | exact h_.1.2.1.1.2 | exact h_.1.2.1.2.1 | exact h_.1.2.1.2.2 | exact h_.1.2.2.1.1 | exact h_.1.2.2.1.2 | exact h_.1.2.2.2.1 | exact h_.1.2.2.2.2 | exact h_.2.1.1.1.1 | exact h_.2.1.1.1.2 | exact h_.2.1.1.2.1 | exact h_.2.1.1.2.2 | exact h_.2.1.2.1.1 | exact h_.2.1.2.1.2 | exact h_.2.1.2.2.1 | exact h_.2.1.2.2.2 | exact h_.2.2.1.1.1 | exact h_.2.2.1.1.2 | exact h_.2.2.1.2.1 | exact h_.2.2.1.2.2 | exact h_.2.2.2.1.1 | exact h_.2.2.2.1.2 | exact h_.2.2.2.2.1 | exact h_.2.2.2.2.2))
    have HS2_ := keep_cell hk (hHeld.2.2) (by first | (rw [add_block]; exact (show _ from by have h_ := hf_V_in HO1_0.out (by have h0_ : (0 : Int) < (l1_0.length : Int) := (by first | exact of_eq_true (by assumption) | exact Int.lt_trans (by decide : (0 : Int) < 1) (of_eq_true (by assumption))); omega) (by decide); first | exact h_ | exact h_.1 | exact h_.2 | exact h_.1.1 | exact h_.1.2 | exact h_.2.1 | exact h_.2.2 | exact h_.1.1.1 | exact h_.1.1.2 | exact h_.1.2.1 | exact h_.1.2.2 | exact h_.2.1.1 | exact h_.2.1.2 | exact h_.2.2.1 | exact h_.2.2.2 | exact h_.1.1.1.1 | exact h_.1.1.1.2 | exact h_.1.1.2.1 | exact h_.1.1.2.2 | exact h_.1.2.1.1 | exact h_.1.2.1.2 | exact h_.1.2.2.1 | exact h_.1.2.2.2 | exact h_.2.1.1.1 | exact h_.2.1.1.2 | exact h_.2.1.2.1 | exact h_.2.1.2.2 | exact h_.2.2.1.1 | exact h_.2.2.1.2 | exact h_.2.2.2.1 | exact h_.2.2.2.2 | exact h_.1.1.1.1.1 | exact h_.1.1.1.1.2 | exact h_.1.1.1.2.1 | exact h_.1.1.1.2.2 | exact h_.1.1.2.1.1 | exact h_.1.1.2.1.2 | exact h_.1.1.2.2.1 | exact h_.1.1.2.2.2 | exact h_.1.2.1.1.1 | exact h_.1.2.1.1.2 | exact h_.1.2.1.2.1 | exact h_.1.2.1.2.2 | exact h_.1.2.2.1.1 | exact h_.1.2.2.1.2 | exact h_.1.2.2.2.1 | exact h_.1.2.2.2.2 | exact h_.2.1.1.1.1 | exact h_.2.1.1.1.2 | exact h_.2.1.1.2.1 | exact h_.2.1.1.2.2 | exact h_.2.1.2.1.1 | exact h_.2.1.2.1.2 | exact h_.2.1.2.2.1 | exact h_.2.1.2.2.2 | exact h_.2.2.1.1.1 | exact h_.2.2.1.1.2 | exact h_.2.2.1.2.1 | exact h_.2.2.1.2.2 | exact h_.2.2.2.1.1 | exact h_.2.2.2.1.2 | exact h_.2.2.2.2.1 | exact h_.2.2.2.2.2)) | (show (Addr.add _ _).block ≠ _; rw [add_block]; exact (show _ from by have h_ := hf_V_in HO1_0.out (by have h0_ : (0 : Int) < (l1_0.length : Int) := (by first | exact of_eq_true (by assumption) | exact Int.lt_trans (by decide : (0 : Int) < 1) (of_eq_true (by assumption))); omega) (by decide); first | exact h_ | exact h_.1 | exact h_.2 | exact h_.1.1 | exact h_.1.2 | exact h_.2.1 | exact h_.2.2 | exact h_.1.1.1 | exact h_.1.1.2 | exact h_.1.2.1 | exact h_.1.2.2 | exact h_.2.1.1 | exact h_.2.1.2 | exact h_.2.2.1 | exact h_.2.2.2 | exact h_.1.1.1.1 | exact h_.1.1.1.2 | exact h_.1.1.2.1 | exact h_.1.1.2.2 | exact h_.1.2.1.1 | exact h_.1.2.1.2 | exact h_.1.2.2.1 | exact h_.1.2.2.2 | exact h_.2.1.1.1 | exact h_.2.1.1.2 | exact h_.2.1.2.1 | exact h_.2.1.2.2 | exact h_.2.2.1.1 | exact h_.2.2.1.2 | exact h_.2.2.2.1 | exact h_.2.2.2.2 | exact h_.1.1.1.1.1 | exact h_.1.1.1.1.2 | exact h_.1.1.1.2.1 | exact h_.1.1.1.2.2 | exact h_.1.1.2.1.1 | exact h_.1.1.2.1.2 | exact h_.1.1.2.2.1 | exact h_.1.1.2.2.2 | exact h_.1.2.1.1.1 | exact h_.1.2.1.1.2 | exact h_.1.2.1.2.1 | exact h_.1.2.1.2.2 | exact h_.1.2.2.1.1 | exact h_.1.2.2.1.2 | exact h_.1.2.2.2.1 | exact h_.1.2.2.2.2 | exact h_.2.1.1.1.1 | exact h_.2.1.1.1.2 | exact h_.2.1.1.2.1 | exact h_.2.1.1.2.2 | exact h_.2.1.2.1.1 | exact h_.2.1.2.1.2 | exact h_.2.1.2.2.1 | exact h_.2.1.2.2.2 | exact h_.2.2.1.1.1 | exact h_.2.2.1.1.2 | exact h_.2.2.1.2.1 | exact h_.2.2.1.2.2 | exact h_.2.2.2.1.1 | exact h_.2.2.2.1.2 | exact h_.2.2.2.2.1 | exact h_.2.2.2.2.2)) | exact (show _ from by have h_ := hf_V_in HO1_0.out (by have h0_ : (0 : Int) < (l1_0.length : Int) := (by first | exact of_eq_true (by assumption) | exact Int.lt_trans (by decide : (0 : Int) < 1) (of_eq_true (by assumption))); omega) (by decide); first | exact h_ | exact h_.1 | exact h_.2 | exact h_.1.1 | exact h_.1.2 | exact h_.2.1 | exact h_.2.2 | exact h_.1.1.1 | exact h_.1.1.2 | exact h_.1.2.1 | exact h_.1.2.2 | exact h_.2.1.1 | exact h_.2.1.2 | exact h_.2.2.1 | exact h_.2.2.2 | exact h_.1.1.1.1 | exact h_.1.1.1.2 | exact h_.1.1.2.1 | exact h_.1.1.2.2 | exact h_.1.2.1.1 | exact h_.1.2.1.2 | exact h_.1.2.2.1 | exact h_.1.2.2.2 | exact h_.2.1.1.1 | exact h_.2.1.1.2 | exact h_.2.1.2.1 | exact h_.2.1.2.2 | exact h_.2.2.1.1 | exact h_.2.2.1.2 | exact h_.2.2.2.1 | exact h_.2.2.2.2 | exact h_.1.1.1.1.1 | exact h_.1.1.1.1.2 | exact h_.1.1.1.2.1 | exact h_.1.1.1.2.2 | exact h_.1.1.2.1.1 | exact h_.1.1.2.1.2 | exact h_.1.1.2.2.1 | exact h_.1.1.2.2.2 | exact h_.1.2.1.1.1 | exact h_.1.2.1.1.2 | exact h_.1.2.1.2.1 | exact h_.1.2.1.2.2 | exact h_.1.2.2.1.1 | exact h_.1.2.2.1.2 | exact h_.1.2.2.2.1 | exact h_.1.2.2.2.2 | exact h_.2.1.1.1.1 | exact h_.2.1.1.1.2 | exact h_.2.1.1.2.1 | exact h_.2.1.1.2.2 | exact h_.2.1.2.1.1 | exact h_.2.1.2.1.2 | exact h_.2.1.2.2.1 | exact h_.2.1.2.2.2 | exact h_.2.2.1.1.1 | exact h_.2.2.1.1.2 | exact h_.2.2.1.2.1 | exact h_.2.2.1.2.2 | exact h_.2.2.2.1.1 | exact h_.2.2.2.1.2 | exact h_.2.2.2.2.1 | exact h_.2.2.2.2.2))
    refine ⟨_, rfl, ?_⟩
    replace HO1_0 := Aside0.mk (Kd.V_mono (Kd.V_told (Kd.V_oldK (Kd.V_mono (ok := fun k_ => ((((((P1_0_ k_ ∨ w.heap.size ≤ k_)) ∧ k_ ≠ g) ∧ k_ ≠ gb123) ∧ k_ ≠ gb124) ∧ some k_ ≠ (v134 : Value).ownBlock)) (y11 HO1_0.out) (fun k_ hk_ => (⟨hk_, hk_.1.1.1.2⟩ : _ ∧ k_ ≠ g))) hk) (Kd.N_base ho0)) (fun _ h_ => h_.1))
    replace HL131_0 := Aside0.mk (Kd.V_mono (Kd.V_told (Kd.V_oldK (Kd.V_mono (ok := fun k_ => ((((((P1_0_ k_ ∨ w.heap.size ≤ k_)) ∧ k_ ≠ g) ∧ k_ ≠ gb123) ∧ k_ ≠ gb124) ∧ some k_ ≠ (v134 : Value).ownBlock)) (y11 HL131_0.out) (fun k_ hk_ => (⟨hk_, hk_.1.1.1.2⟩ : _ ∧ k_ ≠ g))) hk) (Kd.N_base ho0)) (fun _ h_ => h_.1))
    replace HL137_0 := Aside0.mk (Kd.V_mono (Kd.V_told (Kd.V_oldK (Kd.V_mono (ok := fun k_ => ((((((P1_0_ k_ ∨ w.heap.size ≤ k_)) ∧ k_ ≠ g) ∧ k_ ≠ gb123) ∧ k_ ≠ gb124) ∧ some k_ ≠ (v134 : Value).ownBlock)) (y11 HL137_0.out) (fun k_ hk_ => (⟨hk_, hk_.1.1.1.2⟩ : _ ∧ k_ ≠ g))) hk) (Kd.N_base ho0)) (fun _ h_ => h_.1))
    have HO141 := Aside0.mk (Kd.N_lower (Kd.N_mono (ok' := fun k_ => (P1_0_ k_ ∨ w.heap.size ≤ k_) ∧ some k_ ≠ (v134 : Value).ownBlock ∧ k_ ≠ gb123 ∧ k_ ≠ gb124 ∧ k_ ≠ g) ho0 (fun k_ hk_ => ⟨Or.elim hk_ (fun hs_ => hs_.1.1.1.1) (fun hn_ => (.inr (Nat.le_trans (keep_size (w := w) (g := g) (row := none) (y22 HK.out GW123.out GW124.out)) hn_))), Or.elim hk_ (fun hs_ => hs_.2) (fun hn_ => (Kd.fresh' (Kd.N_lt (y2 HO135.out)) k_ hn_)), Or.elim hk_ (fun hs_ => hs_.1.1.2) (fun hn_ => (Kd.freshB (g := gb123) (o := .cells #[.slice (some ad131) l1_0.length c1_0] 50 (0, 0)) (y0 BK123.out) k_ hn_)), Or.elim hk_ (fun hs_ => hs_.1.2) (fun hn_ => (Kd.freshB (g := gb124) (o := .cells #[.int .i64 0, .slice none 0 0] 25 (0, 0)) (y0 BK124.out) k_ hn_)), Or.elim hk_ (fun hs_ => hs_.1.1.1.2) (fun hn_ => (IsS75.fresh (y24 HI0.out NB0_123.out NB0_124.out) k_ hn_))⟩)) (keep_size (w := w) (g := g) (row := none) (y22 HK.out GW123.out GW124.out)))
    replace BK123 := Aside0.mk (KeepBut.blk hk (g' := gb123) (o := .cells #[.slice (some ad131) l1_0.length c1_0] 50 (0, 0)) (y0 BK123.out) NB123_0.out (by simp))
    replace BK124 := Aside0.mk (KeepBut.blk hk (g' := gb124) (o := .cells #[.int .i64 0, .slice none 0 0] 25 (0, 0)) (y0 BK124.out) NB124_0.out (by simp))
    replace HO135 := Aside0.mk (Kd.N_mono (Kd.N_told (Kd.N_oldK (Kd.N_mono (ok := fun k_ => (((P1_0_ k_ ∨ w.heap.size ≤ k_)) ∧ (k_ ≠ gb123 ∧ (k_ ≠ gb124 ∧ k_ ≠ g)))) (y2 HO135.out) (fun k_ hk_ => (⟨hk_, hk_.2.2.2⟩ : _ ∧ k_ ≠ g))) hk) (Kd.N_base ho0)) (fun _ h_ => h_.1))
    replace HK := Aside0.mk (KeepBut.trans (y22 HK.out GW123.out GW124.out) hk (.inl rfl))
    replace HB := Aside0.mk (hb)
    replace HI0 := Aside0.mk (hi)
    (try clear hb)
    (try clear hb2)
    (try clear hk)
    (try clear hi)
    (try clear ho0)
    obtain ⟨Ao27, co27, eo27⟩ := Kd.N_slice HO135.out
    (first | subst eo27 | (injection eo27 with f1_ f2_ f3_; have f4_ := f1_.symm; have f5_ := f3_.symm; clear f1_ f2_ f3_; subst f4_; subst f5_))
    obtain ⟨Ao28, co28, eo28⟩ := Kd.N_slice HO141.out
    (first | subst eo28 | (injection eo28 with f1_ f2_ f3_; have f4_ := f1_.symm; have f5_ := f3_.symm; clear f1_ f2_ f3_; subst f4_; subst f5_))
    refine hK.out _ _ ⟨(blk_cell BK123.out 0).trans rfl, HS1_, HS2_⟩ (fun hHeld => ?_)
    clear hK K
    refine norm_ (a' := ?_) ?_ ?_
    rotate_left
    ·show Act.put _ (some 26) _ = _
     simp only [Act.put, List.setIfInBounds_toArray, List.set_cons_zero, List.set_cons_succ, i64_w, i32_w]
     rfl
    refine one_ (i := 12) (N := some 27) #[true, true, true, true, true, true, true, true, true, true, true, true, true, false, false] rfl rfl (one_of HT_.out (by kernel_rfl)) (by decide) (fun K hK => ?_)
    refine Kd.N_lit_step k25 _ 25 ?hg (N' := 27) ?hd (xs := ([(⟨t132, t133⟩ : S25), (⟨t138, t139⟩ : S25)] : List (S25))) (inner := [.int .i64 t132, .slice Ao27 t133.length co27, .int .i64 t138, .slice Ao28 t139.length co28]) (ok := (fun k_ => (P1_0_ k_ ∨ w.heap.size ≤ k_) ∧ k_ ≠ gb123 ∧ k_ ≠ gb124 ∧ k_ ≠ g)) (okp := (fun k_ => (P1_0_ k_ ∨ w.heap.size ≤ k_) ∧ k_ ≠ gb123 ∧ k_ ≠ gb124 ∧ k_ ≠ g)) ?hr ?hp (fun _ hk => hk) ((show ∀ k_, w26.heap.size ≤ k_ → (fun k_ => (P1_0_ k_ ∨ w.heap.size ≤ k_) ∧ k_ ≠ gb123 ∧ k_ ≠ gb124 ∧ k_ ≠ g) k_ from fun k_ hk => ⟨(.inr (Nat.le_trans (keep_size (w := w) (g := g) (row := none) (y22 HK.out GW123.out GW124.out)) hk)), Kd.freshB (g := gb123) (o := .cells #[.slice (some ad131) l1_0.length c1_0] 50 (0, 0)) (y0 BK123.out) k_ hk, Kd.freshB (g := gb124) (o := .cells #[.int .i64 0, .slice none 0 0] 25 (0, 0)) (y0 BK124.out) k_ hk, IsS75.fresh (y24 HI0.out NB0_123.out NB0_124.out) k_ hk⟩) _ (Nat.le_refl _)) (Below.refl _ _) (Nat.le_refl _) (by simp) ?_; (case hd => rfl); (case hg => rfl); (case hr => first | (go_simp; done) | (go_simp; rfl)); (case hp => exact (Reps.c2 (show Kd.FK k25 _ _ (⟨t132, t133⟩ : S25) [.int .i64 t132, .slice Ao27 t133.length co27] from (k25_mkF _ _ (⟨t132, t133⟩ : S25) (Kd.N_reads' (Kd.N_mono (ok' := (fun k_ => (P1_0_ k_ ∨ w.heap.size ≤ k_) ∧ k_ ≠ gb123 ∧ k_ ≠ gb124 ∧ k_ ≠ g)) (HO135.out) (fun k_ hk => ⟨hk.1.1, ⟨hk.1.2.1, ⟨hk.1.2.2.1, hk.1.2.2.2⟩⟩⟩))).2.1 (Kd.N_F (Kd.N_mono (ok' := (fun k_ => (P1_0_ k_ ∨ w.heap.size ≤ k_) ∧ k_ ≠ gb123 ∧ k_ ≠ gb124 ∧ k_ ≠ g)) (HO135.out) (fun k_ hk => ⟨hk.1.1, ⟨hk.1.2.1, ⟨hk.1.2.2.1, hk.1.2.2.2⟩⟩⟩))))) (Reps.c2 (show Kd.FK k25 _ _ (⟨t138, t139⟩ : S25) [.int .i64 t138, .slice Ao28 t139.length co28] from (k25_mkF _ _ (⟨t138, t139⟩ : S25) (Kd.N_reads' (Kd.N_mono (ok' := (fun k_ => (P1_0_ k_ ∨ w.heap.size ≤ k_) ∧ k_ ≠ gb123 ∧ k_ ≠ gb124 ∧ k_ ≠ g)) (HO141.out) (fun k_ hk => ⟨hk.1, ⟨hk.2.2.1, ⟨hk.2.2.2.1, hk.2.2.2.2⟩⟩⟩))).2.1 (Kd.N_F (Kd.N_mono (ok' := (fun k_ => (P1_0_ k_ ∨ w.heap.size ≤ k_) ∧ k_ ≠ gb123 ∧ k_ ≠ gb124 ∧ k_ ≠ g)) (HO141.out) (fun k_ hk => ⟨hk.1, ⟨hk.2.2.1, ⟨hk.2.2.2.1, hk.2.2.2.2⟩⟩⟩))))) (Reps.none _ _))))
    intro v144 w29 ho30 hb hg_ hnew_
    have HS1_ := (hb.cell (World.block_lt_of_cell? _ _ (hHeld.2.1))).trans (hHeld.2.1)
    have HS2_ := (hb.cell (World.block_lt_of_cell? _ _ (hHeld.2.2))).trans (hHeld.2.2)
    clear hg_ hnew_
    (first | rw [← Ny143.out] at ho30 | (simp only [Int.reduceToNat] at ho30; rw [← Ny143.out] at ho30))
    replace HO1_0 := Aside0.mk (Kd.V_elder' (y11 HO1_0.out) (Kd.N_base ho30) hb)
    replace HL131_0 := Aside0.mk (Kd.V_elder' (y11 HL131_0.out) (Kd.N_base ho30) hb)
    replace HL137_0 := Aside0.mk (Kd.V_elder' (y11 HL137_0.out) (Kd.N_base ho30) hb)
    have HO145 := Aside0.mk (Kd.N_lower ho30 (keep_size (w := w) (g := g) (row := none) (y22 HK.out GW123.out GW124.out)))
    replace BK123 := zbb BK123 hb
    replace BK124 := zbb BK124 hb
    replace HK := Aside0.mk (KeepBut.trans (y22 HK.out GW123.out GW124.out) (KeepBut.of_below hb g none) (.inl rfl))
    replace HB := Aside0.mk (below_step (y19 HB.out HI0.out GE123.out GE124.out) hb)
    replace HI0 := Aside0.mk (IsS75.below (y24 HI0.out NB0_123.out NB0_124.out) hb)
    clear HO135 HO141
    clear hb ho30
    obtain ⟨Ao31, co31, eo31⟩ := Kd.N_slice HO145.out
    (first | subst eo31 | (injection eo31 with f1_ f2_ f3_; have f4_ := f1_.symm; have f5_ := f3_.symm; clear f1_ f2_ f3_; subst f4_; subst f5_))
    refine hK.out _ _ ⟨(blk_cell BK123.out 0).trans rfl, HS1_, HS2_⟩ (fun hHeld => ?_)
    clear hK K
    refine norm_ (a' := ?_) ?_ ?_
    rotate_left
    ·show Act.put _ (some 27) _ = _
     simp only [Act.put, List.setIfInBounds_toArray, List.set_cons_zero, List.set_cons_succ, i64_w, i32_w]
     rfl
    refine zp 13 (some 28) HT_ ?_
    refine one_ (i := 14) (N := none) #[true, true, true, true, true, true, true, true, true, true, true, true, true, true, true] rfl rfl (one_of HT_.out (by kernel_rfl)) (by decide) (fun K hK => ?_)
    have hs32 : w29.cell? ⟨gb124, 0, none⟩ = some (.int .i64 0) := (blk_cell BK124.out 0).trans rfl
    have hfs32 := zfr BK124 0
    have hns32_0 := NB123_124.out
    have hms32_0 := NB124_123.out
    have hs33 : w29.cell? ⟨gb124, 1, none⟩ = some (.slice none 0 0) := (blk_cell BK124.out 1).trans rfl
    have hfs33 := zfr BK124 1
    have hns33_0 := NB123_124.out
    have hms33_0 := NB124_123.out
    refine skip_ (w1 := ?_) (by rfl) rfl ?_ ?_
    rotate_left
    ·go_simp
     rfl
    refine hK.out _ _ ⟨((cell_far (p := ⟨gb124, _, none⟩) NB123_124.out _).trans (((cell_far (p := ⟨gb124, _, none⟩) NB123_124.out _).trans (hHeld.1)))), ((cell_far (p := ⟨gb124, _, none⟩) (by first | exact (hf_V_away HO1_0.out (by first | exact Int.ofNat_lt.1 (of_eq_true (by assumption)) | exact Int.ofNat_lt.1 (Int.lt_trans (by decide : (0 : Int) < 1) (of_eq_true (by assumption)))) (by decide) (fun _ hk => hk.1.1.1.2)) | (rw [add_block]; exact (hf_V_away HO1_0.out (by first | exact Int.ofNat_lt.1 (of_eq_true (by assumption)) | exact Int.ofNat_lt.1 (Int.lt_trans (by decide : (0 : Int) < 1) (of_eq_true (by assumption)))) (by decide) (fun _ hk => hk.1.1.1.2))) | (show (Addr.add _ _).block ≠ _; rw [add_block]; exact (hf_V_away HO1_0.out (by first | exact Int.ofNat_lt.1 (of_eq_true (by assumption)) | exact Int.ofNat_lt.1 (Int.lt_trans (by decide : (0 : Int) < 1) (of_eq_true (by assumption)))) (by decide) (fun _ hk => hk.1.1.1.2))) | (dsimp only; exact (hf_V_away HO1_0.out (by first | exact Int.ofNat_lt.1 (of_eq_true (by assumption)) | exact Int.ofNat_lt.1 (Int.lt_trans (by decide : (0 : Int) < 1) (of_eq_true (by assumption)))) (by decide) (fun _ hk => hk.1.1.1.2)))) _).trans (((cell_far (p := ⟨gb124, _, none⟩) (by first | exact (hf_V_away HO1_0.out (by first | exact Int.ofNat_lt.1 (of_eq_true (by assumption)) | exact Int.ofNat_lt.1 (Int.lt_trans (by decide : (0 : Int) < 1) (of_eq_true (by assumption)))) (by decide) (fun _ hk => hk.1.1.1.2)) | (rw [add_block]; exact (hf_V_away HO1_0.out (by first | exact Int.ofNat_lt.1 (of_eq_true (by assumption)) | exact Int.ofNat_lt.1 (Int.lt_trans (by decide : (0 : Int) < 1) (of_eq_true (by assumption)))) (by decide) (fun _ hk => hk.1.1.1.2))) | (show (Addr.add _ _).block ≠ _; rw [add_block]; exact (hf_V_away HO1_0.out (by first | exact Int.ofNat_lt.1 (of_eq_true (by assumption)) | exact Int.ofNat_lt.1 (Int.lt_trans (by decide : (0 : Int) < 1) (of_eq_true (by assumption)))) (by decide) (fun _ hk => hk.1.1.1.2))) | (dsimp only; exact (hf_V_away HO1_0.out (by first | exact Int.ofNat_lt.1 (of_eq_true (by assumption)) | exact Int.ofNat_lt.1 (Int.lt_trans (by decide : (0 : Int) < 1) (of_eq_true (by assumption)))) (by decide) (fun _ hk => hk.1.1.1.2)))) _).trans (hHeld.2.1)))), ((cell_far (p := ⟨gb124, _, none⟩) (by first | exact (hf_V_away HO1_0.out (by first | exact Int.ofNat_lt.1 (of_eq_true (by assumption)) | exact Int.ofNat_lt.1 (Int.lt_trans (by decide : (0 : Int) < 1) (of_eq_true (by assumption)))) (by decide) (fun _ hk => hk.1.1.1.2)) | (rw [add_block]; exact (hf_V_away HO1_0.out (by first | exact Int.ofNat_lt.1 (of_eq_true (by assumption)) | exact Int.ofNat_lt.1 (Int.lt_trans (by decide : (0 : Int) < 1) (of_eq_true (by assumption)))) (by decide) (fun _ hk => hk.1.1.1.2))) | (show (Addr.add _ _).block ≠ _; rw [add_block]; exact (hf_V_away HO1_0.out (by first | exact Int.ofNat_lt.1 (of_eq_true (by assumption)) | exact Int.ofNat_lt.1 (Int.lt_trans (by decide : (0 : Int) < 1) (of_eq_true (by assumption)))) (by decide) (fun _ hk => hk.1.1.1.2))) | (dsimp only; exact (hf_V_away HO1_0.out (by first | exact Int.ofNat_lt.1 (of_eq_true (by assumption)) | exact Int.ofNat_lt.1 (Int.lt_trans (by decide : (0 : Int) < 1) (of_eq_true (by assumption)))) (by decide) (fun _ hk => hk.1.1.1.2)))) _).trans (((cell_far (p := ⟨gb124, _, none⟩) (by first | exact (hf_V_away HO1_0.out (by first | exact Int.ofNat_lt.1 (of_eq_true (by assumption)) | exact Int.ofNat_lt.1 (Int.lt_trans (by decide : (0 : Int) < 1) (of_eq_true (by assumption)))) (by decide) (fun _ hk => hk.1.1.1.2)) | (rw [add_block]; exact (hf_V_away HO1_0.out (by first | exact Int.ofNat_lt.1 (of_eq_true (by assumption)) | exact Int.ofNat_lt.1 (Int.lt_trans (by decide : (0 : Int) < 1) (of_eq_true (by assumption)))) (by decide) (fun _ hk => hk.1.1.1.2))) | (show (Addr.add _ _).block ≠ _; rw [add_block]; exact (hf_V_away HO1_0.out (by first | exact Int.ofNat_lt.1 (of_eq_true (by assumption)) | exact Int.ofNat_lt.1 (Int.lt_trans (by decide : (0 : Int) < 1) (of_eq_true (by assumption)))) (by decide) (fun _ hk => hk.1.1.1.2))) | (dsimp only; exact (hf_V_away HO1_0.out (by first | exact Int.ofNat_lt.1 (of_eq_true (by assumption)) | exact Int.ofNat_lt.1 (Int.lt_trans (by decide : (0 : Int) < 1) (of_eq_true (by assumption)))) (by decide) (fun _ hk => hk.1.1.1.2)))) _).trans (hHeld.2.2))))⟩ (fun hHeld => ?_)
    clear hK K
    refine done_ (done_of HT_.out (by kernel_rfl)) ?_
    try go_wp2
    refine bodyPost_ret (results_cell_row rfl _ _ gb124 25 #[.int .i64 0, .slice Ao31 y143.length co31] (0, 0) _ rfl (by (with_reducible repeat (first | refine blk_drewN ?_ _ | refine blk_drew ?_ | refine blk_alloc ?_ _)); refine blk_put (cs := #[.int .i64 0, .slice none 0 0]) ?_ 1 _ rfl; (with_reducible repeat (first | refine blk_drewN ?_ _ | refine blk_drew ?_ | refine blk_alloc ?_ _)); apply blk_put (i := 0); (case h => exact y0 BK124.out); (case e => rfl)) Try.underlying25 rfl (by kernel_rfl)) rfl ?_
    exact ⟨_, y15, (by (with_reducible repeat (first | apply Kd.N_alloc | apply Kd.N_drewN | apply Kd.N_drew)); exact Kd.N_mono (Kd.N_far (p := ⟨gb124, 1, none⟩) (Kd.N_far (p := ⟨gb124, 0, none⟩) (Kd.N_mono HO145.out (fun k_ hk => (⟨hk, hk.2.2.1⟩ : _ ∧ k_ ≠ gb124))) (fun _ hk => hk.2) (.int .i64 0)) (fun _ hk => hk.2) (.slice Ao31 y143.length co31)) (fun _ hk => hk.1.1)), (y24 HI0.out NB0_123.out NB0_124.out), (y19 HB.out HI0.out GE123.out GE124.out), (y22 HK.out GW123.out GW124.out)⟩
   ·rw [if_neg c22] at H
    exact absurd H (by simp)
  ·rw [if_neg c20] at H
   exact absurd H (by simp)
end Go.Proofs.Ythfflieeifakdaa.PA
end
section
namespace Go.Proofs.Ythfflieeifakdaa.PA
open Go.RowKit Go.Proofs.YthfflieeifakdaaW.PrintWords Go.Proofs.YthfflieeifakdaaW.PrintLast Go.Proofs.YthfflieeifakdaaW.PrintMore
attribute [local go_sem] max2_int min2_int max_two min_two max_three min_three max_four min_four
set_option linter.unusedVariables false
set_option linter.unusedSimpArgs false
def spec_l71Bad.l0 : Nat → Int → List Int → Int → Int → List (S25) → Option (Int × (List (S25)) × Int)
 | 0, _, _, _, _, _ => none
 | k + 1, x6, x1000, x1001, x154000, x154001 => if x6 < 5 then (spec_l71Bad.l0 k (wrap64 (x6 + 1)) x1000 x1001 0 (([(⟨x154000, x154001⟩ : S25), (⟨0, ([] : List (S25))⟩ : S25)] : List (S25)))) else (some (x154000, x154001, x1001))
def spec_l71Bad.f (k : Nat) (s0_0 : List Int) (s0_1 : Int) (l1_0 : List (S50)) : Option (Int × (List (S25)) × Int) := (spec_l71Val.f k s0_0 s0_1 l1_0).bind fun bt148 => ((spec_l6Rd_pick.f k s0_0 bt148.2.2 12).bind fun bt154 => (if bt154.1 = 0 then ((some (([(-1), 1, 9999, 10000] : List Int) : List Int)).bind fun y156 => ((spec_l6Rd_pick.f k s0_0 bt154.2 4).bind fun bt159 => (if 0 ≤ bt159.1 then (if bt159.1 < (y156.length : Int) then (some (rd y156 bt159.1, bt148.2.1, bt159.2)) else (none)) else (none)))) else (if bt154.1 = 1 then (if bt148.2.1.length < 4398046511104 then (some (bt148.1, (bt148.2.1 ++ [(⟨0, ([] : List (S25))⟩ : S25)]), bt154.2)) else (none)) else (if bt154.1 = 2 then (spec_l71Bad.l0 k 0 s0_0 bt154.2 bt148.1 bt148.2.1) else (some (bt148.1, bt148.2.1, bt154.2))))))
theorem spec_l71Bad.mono_l : ∀ k, (∀ y0 y1 y2 y3 y4, LeO (spec_l71Bad.l0 k y0 y1 y2 y3 y4) (spec_l71Bad.l0 (k + 1) y0 y1 y2 y3 y4))
 | 0 => fun _ _ _ _ _ r h => by simp [spec_l71Bad.l0] at h
 | k + 1 => by
  have ih0 := spec_l71Bad.mono_l k
  ·intro y0 y1 y2 y3 y4
   unfold spec_l71Bad.l0
   repeat' first
   | (with_reducible exact ih0 _ _ _ _ _)
   | (with_reducible exact spec_l6Rd_pick.mono _ _ _ _)
   | (with_reducible exact spec_l71Val.mono _ _ _ _)
   | (with_reducible exact LeO.refl _)
   | (with_reducible exact LeO.none _)
   | (with_reducible refine LeO.ite ?_ ?_)
   | (with_reducible refine LeO.bind ?_ (fun _ => ?_))
   | exact ih0 _ _ _ _ _
   | exact spec_l6Rd_pick.mono _ _ _ _
   | exact spec_l71Val.mono _ _ _ _
   | exact LeO.none _
   | refine LeO.ite ?_ ?_
   | refine LeO.bind ?_ (fun _ => ?_)
theorem spec_l71Bad.mono : ∀ a0 a1 a2 k, LeO (spec_l71Bad.f k a0 a1 a2) (spec_l71Bad.f (k + 1) a0 a1 a2) := by
 intro a0 a1 a2 k
 have ih0 := spec_l71Bad.mono_l k
 unfold spec_l71Bad.f
 repeat' first
   | (with_reducible exact ih0 _ _ _ _ _)
   | (with_reducible exact spec_l6Rd_pick.mono _ _ _ _)
   | (with_reducible exact spec_l71Val.mono _ _ _ _)
   | (with_reducible exact LeO.refl _)
   | (with_reducible exact LeO.none _)
   | (with_reducible refine LeO.ite ?_ ?_)
   | (with_reducible refine LeO.bind ?_ (fun _ => ?_))
   | exact ih0 _ _ _ _ _
   | exact spec_l6Rd_pick.mono _ _ _ _
   | exact spec_l71Val.mono _ _ _ _
   | exact LeO.none _
   | refine LeO.ite ?_ ?_
   | refine LeO.bind ?_ (fun _ => ?_)
set_option maxHeartbeats 8000000 in
set_option maxRecDepth 100000 in
theorem spec_l71Bad.calls (k : Nat) (g : Nat) (s0_0 : List Int) (s0_1 : Int) (P1_0_ : Nat → Prop) (A1_0 : Option Addr) (c1_0 : Nat) (l1_0 : List (S50)) (r1 : Int) (r2 : List (S25)) (r3 : Int) (w0 w : World) (hI : IsS75 w0 w g s0_0 s0_1) (hB : Below w0.heap.size w0 w) (hs1_0 : Kd.V k50 50 w w.heap.size (fun k_ => P1_0_ k_ ∧ k_ ≠ g) (.slice A1_0 l1_0.length c1_0) l1_0) (h : spec_l71Bad.f k s0_0 s0_1 l1_0 = some (r1, r2, r3)) :
  Calls Try.prog 33 #[.pointer (some ⟨g, 0, none⟩), .agg #[.slice A1_0 l1_0.length c1_0]] w fun e w' => ∃ v1_ : Value, e = .returned (.agg #[.int .i64 r1, v1_]) ∧ Kd.N k25 25 w' w.heap.size (fun k_ => (P1_0_ k_ ∨ w.heap.size ≤ k_)) v1_ r2 ∧ IsS75 w0 w' g s0_0 r3 ∧ Below w0.heap.size w0 w' ∧ KeepBut w w' g none := by
 have hu50 := Try.underlying50
 have hu25 := Try.underlying25
 have HO1_0 := Aside0.mk (show Kd.V k50 50 w w.heap.size (fun k_ => (P1_0_ k_ ∨ w.heap.size ≤ k_) ∧ k_ ≠ g) (.slice A1_0 l1_0.length c1_0) l1_0 from Kd.V_mono hs1_0 (fun k_ hk => ⟨.inl hk.1, hk.2⟩))
 have HI0 := Aside0.mk hI
 have HK := Aside0.mk (KeepBut.refl w g none)
 have HL := Aside0.mk hB.size
 clear hI
 have HW0 := Aside0.mk hB.size
 have HB := Aside0.mk hB
 clear hB
 have H : ((spec_l71Val.f k s0_0 s0_1 l1_0).bind fun bt148 => ((spec_l6Rd_pick.f k s0_0 bt148.2.2 12).bind fun bt154 => (if bt154.1 = 0 then ((some (([(-1), 1, 9999, 10000] : List Int) : List Int)).bind fun y156 => ((spec_l6Rd_pick.f k s0_0 bt154.2 4).bind fun bt159 => (if 0 ≤ bt159.1 then (if bt159.1 < (y156.length : Int) then (some (rd y156 bt159.1, bt148.2.1, bt159.2)) else (none)) else (none)))) else (if bt154.1 = 1 then (if bt148.2.1.length < 4398046511104 then (some (bt148.1, (bt148.2.1 ++ [(⟨0, ([] : List (S25))⟩ : S25)]), bt154.2)) else (none)) else (if bt154.1 = 2 then (spec_l71Bad.l0 k 0 s0_0 bt154.2 bt148.1 bt148.2.1) else (some (bt148.1, bt148.2.1, bt154.2))))))) = some (r1, r2, r3) := h
 clear h
 obtain ⟨⟨t148, t149, t152⟩, A30, H⟩ := ob H
 have A3 := Aside0.mk A30
 clear A30
 obtain ⟨⟨t154, t155⟩, A40, H⟩ := ob H
 have A4 := Aside0.mk A40
 clear A40
 have HZ5 := Aside0.mk H
 clear H
 go_enter Try.func33, Try.ntmps33
 go_upto_if 12 with (first | ((with_reducible refine gate_dst (N := 3) rfl ?_); refine zbx 3 #[.slice A1_0 l1_0.length c1_0] 50 ?_; intro gb146 hg w6 hbox hb; replace HO1_0 := Aside0.mk (Kd.V_below (Kd.V_elderB (y11 HO1_0.out) gb146 (Nat.le_of_eq hg.symm)) hb); replace HB := Aside0.mk (below_step (y46 HB.out HI0.out) hb); have BK146 := Aside0.mk hbox; have GW146 := Aside0.mk ((by rw [hg]; exact (keep_size (w := w) (g := g) (row := none) (y40 HK.out)) : w.heap.size ≤ gb146)); have GE146 := Aside0.mk ((Nat.le_trans HW0.out (by rw [hg]; exact (keep_size (w := w) (g := g) (row := none) (y40 HK.out)) : w.heap.size ≤ gb146) : w0.heap.size ≤ gb146)); replace HK := Aside0.mk (KeepBut.trans (y40 HK.out) (KeepBut.of_below hb g none) (.inl rfl)); have NB0_146 := Aside0.mk ((by rw [hg]; exact Nat.ne_of_lt (IsS75.lt (show IsS75 w0 _ g s0_0 s0_1 from by repeat (first | (with_reducible first | exact HI0.out | apply IsS75.alloc | apply IsS75.drewN | apply IsS75.drew | apply IsS75.set_1) | exact HI0.out))) : g ≠ gb146)); have NB146_0 := Aside0.mk ((by rw [hg]; exact Nat.ne_of_gt (IsS75.lt (show IsS75 w0 _ g s0_0 s0_1 from by repeat (first | (with_reducible first | exact HI0.out | apply IsS75.alloc | apply IsS75.drewN | apply IsS75.drew | apply IsS75.set_1) | exact HI0.out))) : gb146 ≠ g)); replace HI0 := Aside0.mk (IsS75.below (y47 HI0.out) hb); clear hb hbox hg) | ((with_reducible refine gate_dst (N := 4) rfl ?_); refine zbx 4 #[.int .i64 0, .slice none 0 0] 25 ?_; intro gb147 hg w7 hbox hb; replace HO1_0 := Aside0.mk (Kd.V_below (Kd.V_elderB (y11 HO1_0.out) gb147 (Nat.le_of_eq hg.symm)) hb); replace HB := Aside0.mk (below_step (y31 HB.out HI0.out GE146.out) hb); have BK147 := Aside0.mk hbox; have GW147 := Aside0.mk ((by rw [hg]; exact (keep_size (w := w) (g := g) (row := none) (y28 HK.out GW146.out)) : w.heap.size ≤ gb147)); have GE147 := Aside0.mk ((Nat.le_trans HW0.out (by rw [hg]; exact (keep_size (w := w) (g := g) (row := none) (y28 HK.out GW146.out)) : w.heap.size ≤ gb147) : w0.heap.size ≤ gb147)); replace HK := Aside0.mk (KeepBut.trans (y28 HK.out GW146.out) (KeepBut.of_below hb g none) (.inl rfl)); have NB146_147 := zltn hg BK146; have NB147_146 := zgtn hg BK146; replace BK146 := zbb BK146 hb; have NB0_147 := Aside0.mk ((by rw [hg]; exact Nat.ne_of_lt (IsS75.lt (show IsS75 w0 _ g s0_0 s0_1 from by repeat (first | (with_reducible first | exact HI0.out | apply IsS75.alloc | apply IsS75.drewN | apply IsS75.drew | apply IsS75.set_1 | refine IsS75.far ?_ NB0_146.out _) | exact HI0.out))) : g ≠ gb147)); have NB147_0 := Aside0.mk ((by rw [hg]; exact Nat.ne_of_gt (IsS75.lt (show IsS75 w0 _ g s0_0 s0_1 from by repeat (first | (with_reducible first | exact HI0.out | apply IsS75.alloc | apply IsS75.drewN | apply IsS75.drew | apply IsS75.set_1 | refine IsS75.far ?_ NB0_146.out _) | exact HI0.out))) : gb147 ≠ g)); replace HI0 := Aside0.mk (IsS75.below (y35 HI0.out NB0_146.out) hb); clear hb hbox hg; have hnb8 := NB146_147.out; have hnc8 := NB147_146.out; have hnb9 := NB146_0.out; have hnc9 := NB0_146.out; have hcz10_0 := zh BK146; have hfz10_0 := zfr BK146 0) | ((with_reducible refine gate_callee (f := 55) rfl ?_); refine goesL_ (some 9) rfl rfl Try.func55 (by kernel_rfl) rfl #[.pointer (some ⟨g, 0, none⟩), .agg #[.slice A1_0 l1_0.length c1_0]] rfl y9 ?_; (with_reducible refine (spec_l71Val.calls k g s0_0 s0_1 (fun k_ => ((((P1_0_ k_ ∨ w.heap.size ≤ k_) ∧ k_ ≠ g) ∧ k_ ≠ gb146) ∧ k_ ≠ gb147)) _ _ l1_0 t148 t149 t152 w0 _ ?side1 ?side2 ?side3 A3.out).mono ?_); (case side1 => exact y24 HI0.out NB0_146.out NB0_147.out); (case side2 => exact y19 HB.out HI0.out GE146.out GE147.out); (case side3 => exact Kd.V_mono (HO1_0.out) (fun k_ hk_ => ⟨hk_, hk_.1.1.2⟩)); rintro e w11 ⟨v150, rfl, ho0, hi, hb, hk⟩; refine ⟨_, rfl, ?_⟩; replace HO1_0 := Aside0.mk (Kd.V_mono (Kd.V_told (Kd.V_oldK (Kd.V_mono (ok := fun k_ => (((((P1_0_ k_ ∨ w.heap.size ≤ k_)) ∧ k_ ≠ g) ∧ k_ ≠ gb146) ∧ k_ ≠ gb147)) (y11 HO1_0.out) (fun k_ hk_ => (⟨hk_, hk_.1.1.2⟩ : _ ∧ k_ ≠ g))) hk) (Kd.N_base ho0)) (fun _ h_ => h_.1)); have HO151 := Aside0.mk (Kd.N_lower (Kd.N_mono (ok' := fun k_ => (P1_0_ k_ ∨ w.heap.size ≤ k_) ∧ k_ ≠ gb146 ∧ k_ ≠ gb147 ∧ k_ ≠ g) ho0 (fun k_ hk_ => ⟨Or.elim hk_ (fun hs_ => hs_.1.1.1) (fun hn_ => (.inr (Nat.le_trans (keep_size (w := w) (g := g) (row := none) (y22 HK.out GW146.out GW147.out)) hn_))), Or.elim hk_ (fun hs_ => hs_.1.2) (fun hn_ => (Kd.freshB (g := gb146) (o := .cells #[.slice A1_0 l1_0.length c1_0] 50 (0, 0)) (y0 BK146.out) k_ hn_)), Or.elim hk_ (fun hs_ => hs_.2) (fun hn_ => (Kd.freshB (g := gb147) (o := .cells #[.int .i64 0, .slice none 0 0] 25 (0, 0)) (y0 BK147.out) k_ hn_)), Or.elim hk_ (fun hs_ => hs_.1.1.2) (fun hn_ => (IsS75.fresh (y24 HI0.out NB0_146.out NB0_147.out) k_ hn_))⟩)) (keep_size (w := w) (g := g) (row := none) (y22 HK.out GW146.out GW147.out))); replace BK146 := Aside0.mk (KeepBut.blk hk (g' := gb146) (o := .cells #[.slice A1_0 l1_0.length c1_0] 50 (0, 0)) (y0 BK146.out) NB146_0.out (by simp)); replace BK147 := Aside0.mk (KeepBut.blk hk (g' := gb147) (o := .cells #[.int .i64 0, .slice none 0 0] 25 (0, 0)) (y0 BK147.out) NB147_0.out (by simp)); replace HK := Aside0.mk (KeepBut.trans (y22 HK.out GW146.out GW147.out) hk (.inl rfl)); replace HB := Aside0.mk (hb); replace HI0 := Aside0.mk (hi); (try clear hb); (try clear hb2); (try clear hk); (try clear hi); (try clear ho0)) | ((with_reducible refine gate_dst (N := 5) rfl ?_); refine zbx 5 #[.int .i64 0, .slice none 0 0] 25 ?_; intro gb153 hg w12 hbox hb; replace HO1_0 := Aside0.mk (Kd.V_below (Kd.V_elderB (y11 HO1_0.out) gb153 (Nat.le_of_eq hg.symm)) hb); replace HO151 := Aside0.mk (Kd.N_below (Kd.N_elderB (y2 HO151.out) gb153 (Nat.le_of_eq hg.symm)) hb); replace HB := Aside0.mk (below_step (y19 HB.out HI0.out GE146.out GE147.out) hb); have BK153 := Aside0.mk hbox; have GW153 := Aside0.mk ((by rw [hg]; exact (keep_size (w := w) (g := g) (row := none) (y22 HK.out GW146.out GW147.out)) : w.heap.size ≤ gb153)); have GE153 := Aside0.mk ((Nat.le_trans HW0.out (by rw [hg]; exact (keep_size (w := w) (g := g) (row := none) (y22 HK.out GW146.out GW147.out)) : w.heap.size ≤ gb153) : w0.heap.size ≤ gb153)); replace HK := Aside0.mk (KeepBut.trans (y22 HK.out GW146.out GW147.out) (KeepBut.of_below hb g none) (.inl rfl)); have NB146_153 := zltn hg BK146; have NB153_146 := zgtn hg BK146; replace BK146 := zbb BK146 hb; have NB147_153 := zltn hg BK147; have NB153_147 := zgtn hg BK147; replace BK147 := zbb BK147 hb; have NB0_153 := Aside0.mk ((by rw [hg]; exact Nat.ne_of_lt (IsS75.lt (show IsS75 w0 _ g s0_0 t152 from by repeat (first | (with_reducible first | exact HI0.out | apply IsS75.alloc | apply IsS75.drewN | apply IsS75.drew | apply IsS75.set_1 | refine IsS75.far ?_ NB0_146.out _ | refine IsS75.far ?_ NB0_147.out _) | exact HI0.out))) : g ≠ gb153)); have NB153_0 := Aside0.mk ((by rw [hg]; exact Nat.ne_of_gt (IsS75.lt (show IsS75 w0 _ g s0_0 t152 from by repeat (first | (with_reducible first | exact HI0.out | apply IsS75.alloc | apply IsS75.drewN | apply IsS75.drew | apply IsS75.set_1 | refine IsS75.far ?_ NB0_146.out _ | refine IsS75.far ?_ NB0_147.out _) | exact HI0.out))) : gb153 ≠ g)); replace HI0 := Aside0.mk (IsS75.below (y24 HI0.out NB0_146.out NB0_147.out) hb); clear hb hbox hg; have hnb13 := NB153_146.out; have hnc13 := NB146_153.out; have hnb14 := NB153_147.out; have hnc14 := NB147_153.out; have hnb15 := NB153_0.out; have hnc15 := NB0_153.out; have hcz16_0 := zh BK153; have hcz16_1 := zh1 BK153; have hfz16_0 := zfr BK153 0; have hfz16_1 := zfr BK153 1; obtain ⟨Ao17, co17, eo17⟩ := Kd.N_slice HO151.out; subst eo17) | ((with_reducible refine gate_callee (f := 32) rfl ?_); refine goesL_ (some 11) rfl rfl Try.func32 (by kernel_rfl) rfl #[.pointer (some ⟨g, 0, none⟩), .int .i64 12] rfl y9 ?_; (with_reducible refine (spec_l6Rd_pick.calls k g s0_0 t152 12 t154 t155 w0 _ ?side1 ?side2 A4.out).mono ?_); (case side1 => exact y25 HI0.out NB0_146.out NB0_147.out NB0_153.out); (case side2 => exact y21 HB.out HI0.out GE146.out GE147.out GE153.out); rintro e w18 ⟨rfl, hi, hb, hk⟩; refine ⟨_, rfl, ?_⟩; replace HO1_0 := Aside0.mk (Kd.V_mono (Kd.V_keep (Kd.V_mono (ok := fun k_ => (((((((P1_0_ k_ ∨ w.heap.size ≤ k_)) ∧ k_ ≠ g) ∧ k_ ≠ gb146) ∧ k_ ≠ gb147) ∧ some k_ ≠ (.slice Ao17 t149.length co17 : Value).ownBlock) ∧ k_ ≠ gb153)) (by (with_reducible repeat (first | apply Kd.V_alloc | apply Kd.V_drewN | apply Kd.V_drew)); exact (Kd.V_mono (Kd.V_far (p := ⟨gb153, 1, none⟩) (Kd.V_far (p := ⟨gb153, 0, none⟩) (Kd.V_mono HO1_0.out (fun k_ hk => (⟨hk, hk.2⟩ : _ ∧ k_ ≠ gb153))) (fun _ hk => hk.2) (.int .i64 t148)) (fun _ hk => hk.2) (.slice Ao17 t149.length co17)) (fun _ h_ => h_.1))) (fun k_ hk_ => (⟨hk_, hk_.1.1.1.1.2⟩ : _ ∧ k_ ≠ g))) hk (fun _ h => h.2)) (fun _ h => h.1)); replace BK146 := Aside0.mk (KeepBut.blk hk (g' := gb146) (o := .cells #[.slice A1_0 l1_0.length c1_0] 50 (0, 0)) (y1 NB146_153.out BK146.out) NB146_0.out (by simp)); replace BK147 := Aside0.mk (KeepBut.blk hk (g' := gb147) (o := .cells #[.int .i64 0, .slice none 0 0] 25 (0, 0)) (y1 NB147_153.out BK147.out) NB147_0.out (by simp)); replace HO151 := Aside0.mk (Kd.N_mono (Kd.N_keep (Kd.N_mono (ok := fun k_ => ((((P1_0_ k_ ∨ w.heap.size ≤ k_)) ∧ (k_ ≠ gb146 ∧ (k_ ≠ gb147 ∧ k_ ≠ g))) ∧ k_ ≠ gb153)) (by (with_reducible repeat (first | apply Kd.N_alloc | apply Kd.N_drewN | apply Kd.N_drew)); exact (Kd.N_mono (Kd.N_far (p := ⟨gb153, 1, none⟩) (Kd.N_far (p := ⟨gb153, 0, none⟩) (Kd.N_mono HO151.out (fun k_ hk => (⟨hk, hk.2⟩ : _ ∧ k_ ≠ gb153))) (fun _ hk => hk.2) (.int .i64 t148)) (fun _ hk => hk.2) (.slice Ao17 t149.length co17)) (fun _ h_ => h_.1))) (fun k_ hk_ => (⟨hk_, hk_.1.2.2.2⟩ : _ ∧ k_ ≠ g))) hk (fun _ h => h.2)) (fun _ h => h.1)); replace BK153 := Aside0.mk (KeepBut.blk hk (g' := gb153) (o := .cells #[.int .i64 t148, .slice Ao17 t149.length co17] 25 (0, 0)) (by (with_reducible repeat (first | refine blk_drewN ?_ _ | refine blk_drew ?_ | refine blk_alloc ?_ _)); refine blk_put (cs := #[.int .i64 t148, .slice none 0 0]) ?_ 1 _ rfl; (with_reducible repeat (first | refine blk_drewN ?_ _ | refine blk_drew ?_ | refine blk_alloc ?_ _)); apply blk_put (i := 0); (case h => exact y0 BK153.out); (case e => rfl)) NB153_0.out (by simp)); replace HK := Aside0.mk (KeepBut.trans (y32 HK.out GW146.out GW147.out GW153.out) hk (.inl rfl)); replace HB := Aside0.mk (hb); replace HI0 := Aside0.mk (hi); (try clear hb); (try clear hb2); (try clear hk); (try clear hi)))
 (try simp only [Act.put, List.setIfInBounds_toArray, List.set_cons_zero, List.set_cons_succ])
 have H := HZ5.out
 clear HZ5
 by_cases c19 : t154 = 0
 ·rw [if_pos c19] at H
  have c19b0 : (t154 == 0) = true := beq_iff_eq.mpr c19
  have c19b1 : (t154 != 0) = false := bne_eq_false_iff_eq.mpr c19
  clear c19
  (first | rw [c19b0] | (simp only [i64_w, i32_w]; rw [c19b0]) | skip)
  obtain ⟨y156, hy156⟩ : ∃ y_ : List Int, y_ = (([(-1), 1, 9999, 10000] : List Int)) := ⟨_, rfl⟩
  replace H : ((spec_l6Rd_pick.f k s0_0 t155 4).bind fun bt159 => (if 0 ≤ bt159.1 then (if bt159.1 < (y156.length : Int) then (some (rd y156 bt159.1, t149, bt159.2)) else (none)) else (none))) = some (r1, r2, r3) := by first | (rw [hy156]; with_reducible exact H) | (have H2_ := (Option.bind_some _ _).symm.trans H; rw [hy156]; with_reducible exact H2_) | (have H2_ := (Option.bind_some _ _).symm.trans H; with_reducible exact H2_) | with_reducible exact H | (rw [hy156]; exact H) | exact H
  have Ny156 := Aside0.mk hy156
  clear hy156
  obtain ⟨⟨t159, t160⟩, A200, H⟩ := ob H
  have A20 := Aside0.mk A200
  clear A200
  by_cases c21 : 0 ≤ t159
  ·rw [if_pos c21] at H
   have c21b0 : decide (0 ≤ t159) = true := decide_eq_true c21
   clear c21
   by_cases c22 : t159 < (y156.length : Int)
   ·rw [if_pos c22] at H
    have c22b0 : decide (t159 < (y156.length : Int)) = true := decide_eq_true c22
    clear c22
    simp only [Option.some.injEq, Prod.mk.injEq] at H
    obtain ⟨rfl, rfl, rfl⟩ := H
    go_wp2_with (first | ((with_reducible refine gate_dst (N := 14) rfl ?_); refine Kd.R_lit (Kd.int .i64) _ 3 ?hg (N := 14) ?hd (xs := ([(-1), 1, 9999, 10000] : List Int)) (inner := [.int .i64 (-1), .int .i64 1, .int .i64 9999, .int .i64 10000]) (ok := fun _ => True) (okp := fun _ => True) ?hr ?hp (fun _ hk => hk) trivial (Below.refl _ _) (Nat.le_refl _) (by simp) ?_; (case hd => rfl); (case hg => rfl); (case hr => first | (go_simp; done) | (go_simp; rfl)); (case hp => exact (Reps.one (show Kd.M (Kd.int .i64) _ _ _ (-1) [.int .i64 (-1)] from rfl) (Reps.one (show Kd.M (Kd.int .i64) _ _ _ 1 [.int .i64 1] from rfl) (Reps.one (show Kd.M (Kd.int .i64) _ _ _ 9999 [.int .i64 9999] from rfl) (Reps.one (show Kd.M (Kd.int .i64) _ _ _ 10000 [.int .i64 10000] from rfl) (Reps.none _ _)))))); intro v157 w23 ho24 hb hg_ hnew_; clear hg_ hnew_; (first | rw [← Ny156.out] at ho24 | (simp only [Int.reduceToNat] at ho24; rw [← Ny156.out] at ho24)); replace HO1_0 := Aside0.mk (Kd.V_elder' (y11 HO1_0.out) (Kd.R_base ho24) hb); replace HO151 := Aside0.mk (Kd.N_elder' (y2 HO151.out) (Kd.R_base ho24) hb); have HO158 := Aside0.mk (Kd.R_lower (Kd.R_newM (M := fun k_ => (w.heap.size ≤ k_)) ho24 (keep_size (w := w) (g := g) (row := none) (y32 HK.out GW146.out GW147.out GW153.out)) (fun k_ h_ => h_)) (keep_size (w := w) (g := g) (row := none) (y32 HK.out GW146.out GW147.out GW153.out))); replace BK146 := zbb BK146 hb; replace BK147 := zbb BK147 hb; replace BK153 := zbb BK153 hb; replace HK := Aside0.mk (KeepBut.trans (y32 HK.out GW146.out GW147.out GW153.out) (KeepBut.of_below hb g none) (.inl rfl)); replace HB := Aside0.mk (below_step (y21 HB.out HI0.out GE146.out GE147.out GE153.out) hb); replace HI0 := Aside0.mk (IsS75.below (y25 HI0.out NB0_146.out NB0_147.out NB0_153.out) hb); clear hb ho24) | ((with_reducible refine gate_callee (f := 32) rfl ?_); refine goesL_ (some 16) rfl rfl Try.func32 (by kernel_rfl) rfl #[.pointer (some ⟨g, 0, none⟩), .int .i64 4] rfl y9 ?_; (with_reducible refine (spec_l6Rd_pick.calls k g s0_0 t155 4 t159 t160 w0 _ ?side1 ?side2 A20.out).mono ?_); (case side1 => exact y25 HI0.out NB0_146.out NB0_147.out NB0_153.out); (case side2 => exact y21 HB.out HI0.out GE146.out GE147.out GE153.out); rintro e w25 ⟨rfl, hi, hb, hk⟩; refine ⟨_, rfl, ?_⟩; replace HO1_0 := Aside0.mk (Kd.V_mono (Kd.V_keep (Kd.V_mono (ok := fun k_ => ((((((((P1_0_ k_ ∨ w.heap.size ≤ k_)) ∧ k_ ≠ g) ∧ k_ ≠ gb146) ∧ k_ ≠ gb147) ∧ some k_ ≠ (.slice Ao17 t149.length co17 : Value).ownBlock) ∧ k_ ≠ gb153) ∧ some k_ ≠ (v157 : Value).ownBlock)) (y11 HO1_0.out) (fun k_ hk_ => (⟨hk_, hk_.1.1.1.1.1.2⟩ : _ ∧ k_ ≠ g))) hk (fun _ h => h.2)) (fun _ h => h.1)); replace BK146 := Aside0.mk (KeepBut.blk hk (g' := gb146) (o := .cells #[.slice A1_0 l1_0.length c1_0] 50 (0, 0)) (y0 BK146.out) NB146_0.out (by simp)); replace BK147 := Aside0.mk (KeepBut.blk hk (g' := gb147) (o := .cells #[.int .i64 0, .slice none 0 0] 25 (0, 0)) (y0 BK147.out) NB147_0.out (by simp)); replace HO151 := Aside0.mk (Kd.N_mono (Kd.N_keep (Kd.N_mono (ok := fun k_ => (((((P1_0_ k_ ∨ w.heap.size ≤ k_)) ∧ (k_ ≠ gb146 ∧ (k_ ≠ gb147 ∧ k_ ≠ g))) ∧ k_ ≠ gb153) ∧ some k_ ≠ (v157 : Value).ownBlock)) (y2 HO151.out) (fun k_ hk_ => (⟨hk_, hk_.1.1.2.2.2⟩ : _ ∧ k_ ≠ g))) hk (fun _ h => h.2)) (fun _ h => h.1)); replace BK153 := Aside0.mk (KeepBut.blk hk (g' := gb153) (o := .cells #[.int .i64 t148, .slice Ao17 t149.length co17] 25 (0, 0)) (y0 BK153.out) NB153_0.out (by simp)); replace HO158 := Aside0.mk (Kd.R_mono (Kd.R_keep (IsS75.apart (show IsS75 w0 _ g s0_0 t155 from by repeat (first | (with_reducible first | exact HI0.out | apply IsS75.alloc | apply IsS75.drewN | apply IsS75.drew | apply IsS75.set_1 | refine IsS75.far ?_ NB0_146.out _ | refine IsS75.far ?_ NB0_147.out _ | refine IsS75.far ?_ NB0_153.out _) | exact HI0.out)) (y8 HO158.out) (by decide)) hk (fun _ h => h.2)) (fun _ h => h.1)); replace HK := Aside0.mk (KeepBut.trans (y32 HK.out GW146.out GW147.out GW153.out) hk (.inl rfl)); replace HB := Aside0.mk (hb); replace HI0 := Aside0.mk (hi); (try clear hb); (try clear hb2); (try clear hk); (try clear hi); obtain ⟨Ao26, co26, eo26⟩ := Kd.R_slice HO158.out; subst eo26; have p161 : 0 ≤ (t159 : Int) := of_decide_eq_true y23; have q161 : t159 < (y156.length : Int) := of_decide_eq_true y23; obtain ⟨ad161, e161, hx161_0⟩ := Kd.at_int (Kd.R_reads' HO158.out).2.2 t159 p161 q161; cases e161; replace p161 := eq_true p161; replace q161 := eq_true q161; have hnb27 := NB153_146.out; have hnc27 := NB146_153.out; have hnb28 := NB153_147.out; have hnc28 := NB147_153.out; have hnb29 := NB153_0.out; have hnc29 := NB0_153.out; have hcz30_0 := zh BK153; have hcz30_1 := zh1 BK153; have hfz30_0 := zfr BK153 0; have hfz30_1 := zfr BK153 1; have hnb31 := NB147_146.out; have hnc31 := NB146_147.out; have hnb32 := NB147_0.out; have hnc32 := NB0_147.out; have hcz33_0 := zh BK147; have hcz33_1 := zh1 BK147; have hfz33_0 := zfr BK147 0; have hfz33_1 := zfr BK147 1))
    refine bodyPost_ret (results_cell_row rfl _ _ gb147 25 #[.int .i64 (rd y156 t159), .slice Ao17 t149.length co17] (0, 0) _ rfl (by (with_reducible repeat (first | refine blk_drewN ?_ _ | refine blk_drew ?_ | refine blk_alloc ?_ _)); refine blk_put (cs := #[.int .i64 (rd y156 t159), .slice none 0 0]) ?_ 1 _ rfl; (with_reducible repeat (first | refine blk_drewN ?_ _ | refine blk_drew ?_ | refine blk_alloc ?_ _)); refine blk_put (cs := #[.int .i64 0, .slice none 0 0]) ?_ 0 _ rfl; (with_reducible repeat (first | refine blk_drewN ?_ _ | refine blk_drew ?_ | refine blk_alloc ?_ _)); refine blk_far ?_ NB147_153.out _; (with_reducible repeat (first | refine blk_drewN ?_ _ | refine blk_drew ?_ | refine blk_alloc ?_ _)); exact BK147.out) Try.underlying25 rfl (by kernel_rfl)) rfl ?_
    exact ⟨_, y15, (by (with_reducible repeat (first | apply Kd.N_alloc | apply Kd.N_drewN | apply Kd.N_drew)); exact Kd.N_mono (Kd.N_far (p := ⟨gb147, 1, none⟩) (Kd.N_far (p := ⟨gb147, 0, none⟩) (Kd.N_far (p := ⟨gb153, 0, none⟩) (Kd.N_mono (Kd.N_mono HO151.out (fun k_ hk => (⟨hk, hk.1.2⟩ : _ ∧ k_ ≠ gb153))) (fun k_ hk => (⟨hk, hk.1.1.1.2.2.1⟩ : _ ∧ k_ ≠ gb147))) (fun _ hk => hk.1.2) (.int .i64 (rd y156 t159))) (fun _ hk => hk.2) (.int .i64 (rd y156 t159))) (fun _ hk => hk.2) (.slice Ao17 t149.length co17)) (fun _ hk => hk.1.1.1.1.1)), (y25 HI0.out NB0_146.out NB0_147.out NB0_153.out), (y21 HB.out HI0.out GE146.out GE147.out GE153.out), (y32 HK.out GW146.out GW147.out GW153.out)⟩
   ·rw [if_neg c22] at H
    exact absurd H (by simp)
  ·rw [if_neg c21] at H
   exact absurd H (by simp)
 ·rw [if_neg c19] at H
  have c19b0 : (t154 == 0) = false := beq_eq_false_iff_ne.mpr c19
  have c19b1 : (t154 != 0) = true := bne_iff_ne.mpr c19
  (first | rw [c19b0] | (simp only [i64_w, i32_w]; rw [c19b0]) | skip)
  by_cases c34 : t154 = 1
  ·rw [if_pos c34] at H
   have c34b0 : (t154 == 1) = true := beq_iff_eq.mpr c34
   have c34b1 : (t154 != 1) = false := bne_eq_false_iff_eq.mpr c34
   clear c34
   by_cases c35 : t149.length < 4398046511104
   ·rw [if_pos c35] at H
    have LMc35 := Aside0.mk c35
    clear c35
    obtain ⟨y162, hy162⟩ : ∃ y_ : List (S25), y_ = (t149 ++ [(⟨0, ([] : List (S25))⟩ : S25)]) := ⟨_, rfl⟩
    replace H : (some (t148, y162, t155)) = some (r1, r2, r3) := by first | (rw [hy162]; with_reducible exact H) | (have H2_ := (Option.bind_some _ _).symm.trans H; rw [hy162]; with_reducible exact H2_) | (have H2_ := (Option.bind_some _ _).symm.trans H; with_reducible exact H2_) | with_reducible exact H | (rw [hy162]; exact H) | exact H
    have Ny162 := Aside0.mk hy162
    clear hy162
    simp only [Option.some.injEq, Prod.mk.injEq] at H
    obtain ⟨rfl, rfl, rfl⟩ := H
    have hnb36 := NB153_146.out
    have hnc36 := NB146_153.out
    have hnb37 := NB153_147.out
    have hnc37 := NB147_153.out
    have hnb38 := NB153_0.out
    have hnc38 := NB0_153.out
    have hcz39_0 := zh BK153
    have hcz39_1 := zh1 BK153
    have hfz39_0 := zfr BK153 0
    have hfz39_1 := zfr BK153 1
    go_wp2_with (first | ((with_reducible refine gate_builtin (b := .append) (xs := #[.tmp 23, .tmp 25]) rfl ?_); at_builtin; refine Kd.N_append k25 w.heap.size rfl (.tmp 23) (.tmp 25) 23 25 (.agg #[(.int .i64 0), (.slice none 0 0)]) 32 rfl Try.underlying23 info25 rfl (by decide) (by omega) (.slice Ao17 t149.length co17) t149 (⟨0, ([] : List (S25))⟩ : S25) [.int .i64 0, .slice none 0 0] (fun k_ => (P1_0_ k_ ∨ w.heap.size ≤ k_) ∧ k_ ≠ gb146 ∧ k_ ≠ gb147 ∧ k_ ≠ gb153 ∧ k_ ≠ g) (fun k_ => ((fun k_ => (P1_0_ k_ ∨ w.heap.size ≤ k_) ∧ k_ ≠ gb146 ∧ k_ ≠ gb147 ∧ k_ ≠ gb153 ∧ k_ ≠ g)) k_ ∧ some k_ ≠ (.slice Ao17 t149.length co17 : Value).ownBlock) rfl rfl ?aP (fun _ hk => hk) ?aF ?aO (Below.refl _ _) ?aS ?aL ?_; (case aP => exact (k25_mkF _ _ (⟨0, ([] : List (S25))⟩ : S25) (Nat.le_refl _) (Kd.F_nil _ _ _))); (case aF => exact (fun k_ hk => ⟨(.inr (Nat.le_trans (keep_size (w := w) (g := g) (row := none) (y32 HK.out GW146.out GW147.out GW153.out)) hk)), Kd.freshB (g := gb146) (o := .cells #[.slice A1_0 l1_0.length c1_0] 50 (0, 0)) (y0 BK146.out) k_ hk, Kd.freshB (g := gb147) (o := .cells #[.int .i64 0, .slice none 0 0] 25 (0, 0)) (y0 BK147.out) k_ hk, Kd.freshB (g := gb153) (o := .cells #[.int .i64 t148, .slice Ao17 t149.length co17] 25 (0, 0)) (y0 BK153.out) k_ hk, IsS75.fresh (y25 HI0.out NB0_146.out NB0_147.out NB0_153.out) k_ hk⟩)); (case aO => exact (y96 HO151.out)); (case aS => exact (keep_size (w := w) (g := g) (row := none) (y32 HK.out GW146.out GW147.out GW153.out))); (case aL => exact y69 LMc35.out); intro v163 w40 ho hb hg hat; rw [← Ny162.out] at ho; replace HO1_0 := Aside0.mk (Kd.V_afterv (ok := (fun k_ => (P1_0_ k_ ∨ w.heap.size ≤ k_) ∧ k_ ≠ g ∧ k_ ≠ gb146 ∧ k_ ≠ gb147 ∧ k_ ≠ gb153)) (by (with_reducible repeat (first | apply Kd.V_alloc | apply Kd.V_drewN | apply Kd.V_drew)); exact Kd.V_mono HO1_0.out (fun _ hk => ⟨⟨hk.1.1.1.1.1, ⟨hk.1.1.1.1.2, ⟨hk.1.1.1.2, ⟨hk.1.1.2, hk.2⟩⟩⟩⟩, hk.1.2⟩)) hg hat); replace BK146 := Aside0.mk (blk_grown (g := gb146) (o := .cells #[.slice A1_0 l1_0.length c1_0] 50 (0, 0)) (y0 BK146.out) hg (Kd.N_ne HO151.out BK146.out (by decide))); replace BK147 := Aside0.mk (blk_grown (g := gb147) (o := .cells #[.int .i64 0, .slice none 0 0] 25 (0, 0)) (y0 BK147.out) hg (Kd.N_away HO151.out (fun _ hk => hk.1.2.2.1))); replace BK153 := Aside0.mk (blk_grown (g := gb153) (o := .cells #[.int .i64 t148, .slice Ao17 t149.length co17] 25 (0, 0)) (y0 BK153.out) hg (Kd.N_away HO151.out (fun _ hk => hk.2))); replace HB := Aside0.mk (below_weaken (y21 HB.out HI0.out GE146.out GE147.out GE153.out) HL.out hb); replace HI0 := Aside0.mk (IsS75.grown (y25 HI0.out NB0_146.out NB0_147.out NB0_153.out) hg (IsS75.own_neN HI0.out HO151.out (by decide))); replace HK := Aside0.mk (KeepBut.trans (y32 HK.out GW146.out GW147.out GW153.out) (KeepBut.of_grown hg g) (Kd.N_base2 HO151.out)); have HO164 := Aside0.mk (ho); clear HO151; clear ho hb hg hat; obtain ⟨Ao41, co41, eo41⟩ := Kd.N_slice HO164.out; subst eo41; have hcz42_0 := zh BK153; have hcz42_1 := zh1 BK153; have hfz42_0 := zfr BK153 0; have hfz42_1 := zfr BK153 1; have hnb43 := NB147_146.out; have hnc43 := NB146_147.out; have hnb44 := NB147_0.out; have hnc44 := NB0_147.out; have hcz45_0 := zh BK147; have hcz45_1 := zh1 BK147; have hfz45_0 := zfr BK147 0; have hfz45_1 := zfr BK147 1))
    refine bodyPost_ret (results_cell_row rfl _ _ gb147 25 #[.int .i64 t148, .slice Ao41 y162.length co41] (0, 0) _ rfl (by (with_reducible repeat (first | refine blk_drewN ?_ _ | refine blk_drew ?_ | refine blk_alloc ?_ _)); refine blk_put (cs := #[.int .i64 t148, .slice none 0 0]) ?_ 1 _ rfl; (with_reducible repeat (first | refine blk_drewN ?_ _ | refine blk_drew ?_ | refine blk_alloc ?_ _)); refine blk_put (cs := #[.int .i64 0, .slice none 0 0]) ?_ 0 _ rfl; (with_reducible repeat (first | refine blk_drewN ?_ _ | refine blk_drew ?_ | refine blk_alloc ?_ _)); refine blk_far ?_ NB147_153.out _; (with_reducible repeat (first | refine blk_drewN ?_ _ | refine blk_drew ?_ | refine blk_alloc ?_ _)); exact BK147.out) Try.underlying25 rfl (by kernel_rfl)) rfl ?_
    exact ⟨_, y15, (by (with_reducible repeat (first | apply Kd.N_alloc | apply Kd.N_drewN | apply Kd.N_drew)); exact Kd.N_mono (Kd.N_far (p := ⟨gb147, 1, none⟩) (Kd.N_far (p := ⟨gb147, 0, none⟩) (Kd.N_far (p := ⟨gb153, 1, none⟩) (Kd.N_mono (Kd.N_mono HO164.out (fun k_ hk => (⟨hk, hk.2.2.2.1⟩ : _ ∧ k_ ≠ gb153))) (fun k_ hk => (⟨hk, hk.1.2.2.1⟩ : _ ∧ k_ ≠ gb147))) (fun _ hk => hk.1.2) (.slice Ao41 y162.length co41)) (fun _ hk => hk.2) (.int .i64 t148)) (fun _ hk => hk.2) (.slice Ao41 y162.length co41)) (fun _ hk => hk.1.1.1)), (y25 HI0.out NB0_146.out NB0_147.out NB0_153.out), (y21 HB.out HI0.out GE146.out GE147.out GE153.out), (y32 HK.out GW146.out GW147.out GW153.out)⟩
   ·rw [if_neg c35] at H
    exact absurd H (by simp)
  ·rw [if_neg c34] at H
   have c34b0 : (t154 == 1) = false := beq_eq_false_iff_ne.mpr c34
   have c34b1 : (t154 != 1) = true := bne_iff_ne.mpr c34
   by_cases c46 : t154 = 2
   ·rw [if_pos c46] at H
    have c46b0 : (t154 == 2) = true := beq_iff_eq.mpr c46
    have c46b1 : (t154 != 2) = false := bne_eq_false_iff_eq.mpr c46
    clear c46
    have H' := Aside0.mk H
    clear H
    go_wp2
    go_loopg [6] k (fun kq v6 w' => ∃ (x6_1 : Int) (x154000_1 : Int) (x154001_1 : List (S25)) (u154001 : Value), v6 = .int .i64 x6_1 ∧ Aside0 (spec_l71Bad.l0 kq x6_1 s0_0 t155 x154000_1 x154001_1 = some (r1, r2, r3)) ∧ Aside0 (kq ≤ k) ∧ Aside0 (Kd.V k50 50 w' w.heap.size (fun k_ => (P1_0_ k_ ∨ w.heap.size ≤ k_) ∧ some k_ ≠ (u154001 : Value).ownBlock ∧ k_ ≠ gb146 ∧ k_ ≠ gb147 ∧ k_ ≠ gb153 ∧ k_ ≠ g) (.slice A1_0 l1_0.length c1_0) l1_0) ∧ Aside0 (Kd.N k25 25 w' w.heap.size (fun k_ => (P1_0_ k_ ∨ w.heap.size ≤ k_) ∧ k_ ≠ gb146 ∧ k_ ≠ gb147 ∧ k_ ≠ gb153 ∧ k_ ≠ g) u154001 x154001_1) ∧ Aside0 (w'.heap[gb146]? = some (.cells #[(.slice A1_0 l1_0.length c1_0)] 50 (0, 0))) ∧ Aside0 (w'.heap[gb147]? = some (.cells #[.int .i64 0, (.slice none 0 0)] 25 (0, 0))) ∧ Aside0 (w'.heap[gb153]? = some (.cells #[.int .i64 x154000_1, u154001] 25 (0, 0))) ∧ Aside0 (IsS75 w0 w' g s0_0 t155) ∧ Aside0 (KeepBut w w' g none) ∧ Aside0 (Below w0.heap.size w0 w'))
    case atStart => exact ⟨(0), (t148), (t149), (.slice Ao17 t149.length co17), y29, H', ⟨Nat.le_refl _⟩, ⟨(by (with_reducible repeat (first | apply Kd.V_alloc | apply Kd.V_drewN | apply Kd.V_drew)); exact Kd.V_mono HO1_0.out (fun _ hk => ⟨hk.1.1.1.1.1, ⟨hk.1.2, ⟨hk.1.1.1.2, ⟨hk.1.1.2, ⟨hk.2, hk.1.1.1.1.2⟩⟩⟩⟩⟩))⟩, ⟨(y96 HO151.out)⟩, ⟨(y0 BK146.out)⟩, ⟨(y0 BK147.out)⟩, ⟨(y0 BK153.out)⟩, ⟨(y25 HI0.out NB0_146.out NB0_147.out NB0_153.out)⟩, ⟨(y32 HK.out GW146.out GW147.out GW153.out)⟩, ⟨(y21 HB.out HI0.out GE146.out GE147.out GE153.out)⟩⟩
    case round =>
     clear H'
     try clear c1
     try clear p1
     try clear q1
     try clear hx1
     try clear c2
     try clear p2
     try clear c3
     try clear c4
     try clear c5
     try clear c8
     try clear c9
     try clear c13
     try clear c14
     try clear c15
     try clear p16
     try clear q16
     try clear hx16
     try clear c19
     try clear c19b0
     try clear c19b1
     try clear c21
     try clear c21b0
     try clear c22
     try clear c22b0
     try clear c27
     try clear c28
     try clear c29
     try clear c31
     try clear c32
     try clear c33
     try clear c34
     try clear c34b0
     try clear c34b1
     try clear c35
     try clear c36
     try clear c37
     try clear c38
     try clear c43
     try clear c44
     try clear c46
     try clear c46b0
     try clear c46b1
     try clear hcz10_0
     try clear hcz16_0
     try clear hcz16_1
     try clear hcz30_0
     try clear hcz30_1
     try clear hcz33_0
     try clear hcz33_1
     try clear hcz39_0
     try clear hcz39_1
     try clear hcz42_0
     try clear hcz42_1
     try clear hcz45_0
     try clear hcz45_1
     try clear hfz10_0
     try clear hfz16_0
     try clear hfz16_1
     try clear hfz30_0
     try clear hfz30_1
     try clear hfz33_0
     try clear hfz33_1
     try clear hfz39_0
     try clear hfz39_1
     try clear hfz42_0
     try clear hfz42_1
     try clear hfz45_0
     try clear hfz45_1
     try clear hx161_0
     try clear p161
     try clear q161
     (try clear BK146); (try clear BK147); (try clear BK153)
     obtain ⟨x6_1, x154000_1, x154001_1, u154001, rfl, HA, HK1, HO_147000, HO_154001, BK146, BK147, BK153, HI0, HK, HB⟩ := hrel
     cases gk with
     | zero => exact absurd HA.out (by simp [spec_l71Bad.l0])
     | succ k1 =>
      have H := HA.out
      clear HA
      simp only [spec_l71Bad.l0] at H
      by_cases c47 : x6_1 < 5
      ·rw [if_pos c47] at H
       have c47b0 : decide (x6_1 < 5) = true := decide_eq_true c47
       clear c47
       obtain ⟨y165, hy165⟩ : ∃ y_ : List (S25), y_ = (([(⟨x154000_1, x154001_1⟩ : S25), (⟨0, ([] : List (S25))⟩ : S25)] : List (S25))) := ⟨_, rfl⟩
       replace H : (spec_l71Bad.l0 k1 (wrap64 (x6_1 + 1)) s0_0 t155 0 y165) = some (r1, r2, r3) := by first | (rw [hy165]; with_reducible exact H) | (have H2_ := (Option.bind_some _ _).symm.trans H; rw [hy165]; with_reducible exact H2_) | (have H2_ := (Option.bind_some _ _).symm.trans H; with_reducible exact H2_) | with_reducible exact H | (rw [hy165]; exact H) | exact H
       have Ny165 := Aside0.mk hy165
       clear hy165
       have H' := Aside0.mk H
       clear H
       have hnb48 := NB153_146.out
       have hnc48 := NB146_153.out
       have hnb49 := NB153_147.out
       have hnc49 := NB147_153.out
       have hnb50 := NB153_0.out
       have hnc50 := NB0_153.out
       have hcz51_0 := zh BK153
       have hcz51_1 := zh1 BK153
       have hfz51_0 := zfr BK153 0
       have hfz51_1 := zfr BK153 1
       obtain ⟨Ao52, co52, eo52⟩ := Kd.N_slice HO_154001.out
       subst eo52
       go_wp2_with (first | ((with_reducible refine gate_dst (N := 36) rfl ?_); refine Kd.N_lit k25 _ 25 ?hg (N' := 36) ?hd (xs := ([(⟨x154000_1, x154001_1⟩ : S25), (⟨0, ([] : List (S25))⟩ : S25)] : List (S25))) (inner := [.int .i64 x154000_1, .slice Ao52 x154001_1.length co52, .int .i64 0, .slice none 0 0]) (ok := (fun k_ => (P1_0_ k_ ∨ w.heap.size ≤ k_) ∧ k_ ≠ gb146 ∧ k_ ≠ gb147 ∧ k_ ≠ gb153 ∧ k_ ≠ g)) (okp := (fun k_ => (P1_0_ k_ ∨ w.heap.size ≤ k_) ∧ k_ ≠ gb146 ∧ k_ ≠ gb147 ∧ k_ ≠ gb153 ∧ k_ ≠ g)) ?hr ?hp (fun _ hk => hk) ((show ∀ k_, wr.heap.size ≤ k_ → (fun k_ => (P1_0_ k_ ∨ w.heap.size ≤ k_) ∧ k_ ≠ gb146 ∧ k_ ≠ gb147 ∧ k_ ≠ gb153 ∧ k_ ≠ g) k_ from fun k_ hk => ⟨(.inr (Nat.le_trans (keep_size (w := w) (g := g) (row := none) (y32 HK.out GW146.out GW147.out GW153.out)) hk)), Kd.freshB (g := gb146) (o := .cells #[.slice A1_0 l1_0.length c1_0] 50 (0, 0)) (y0 BK146.out) k_ hk, Kd.freshB (g := gb147) (o := .cells #[.int .i64 0, .slice none 0 0] 25 (0, 0)) (y0 BK147.out) k_ hk, Kd.freshB (g := gb153) (o := .cells #[.int .i64 x154000_1, .slice Ao52 x154001_1.length co52] 25 (0, 0)) (y0 BK153.out) k_ hk, IsS75.fresh (y25 HI0.out NB0_146.out NB0_147.out NB0_153.out) k_ hk⟩) _ (Nat.le_refl _)) (Below.refl _ _) (Nat.le_refl _) (by simp) ?_; (case hd => rfl); (case hg => rfl); (case hr => first | (go_simp; done) | (go_simp; rfl)); (case hp => exact (Reps.c2 (show Kd.FK k25 _ _ (⟨x154000_1, x154001_1⟩ : S25) [.int .i64 x154000_1, .slice Ao52 x154001_1.length co52] from (k25_mkF _ _ (⟨x154000_1, x154001_1⟩ : S25) (Kd.N_reads' (Kd.N_mono (ok' := (fun k_ => (P1_0_ k_ ∨ w.heap.size ≤ k_) ∧ k_ ≠ gb146 ∧ k_ ≠ gb147 ∧ k_ ≠ gb153 ∧ k_ ≠ g)) (HO_154001.out) (fun k_ hk => ⟨hk.1, ⟨hk.2.1, ⟨hk.2.2.1, ⟨hk.2.2.2.1, hk.2.2.2.2⟩⟩⟩⟩))).2.1 (Kd.N_F (Kd.N_mono (ok' := (fun k_ => (P1_0_ k_ ∨ w.heap.size ≤ k_) ∧ k_ ≠ gb146 ∧ k_ ≠ gb147 ∧ k_ ≠ gb153 ∧ k_ ≠ g)) (HO_154001.out) (fun k_ hk => ⟨hk.1, ⟨hk.2.1, ⟨hk.2.2.1, ⟨hk.2.2.2.1, hk.2.2.2.2⟩⟩⟩⟩))))) (Reps.c2 (show Kd.FK k25 _ _ (⟨0, ([] : List (S25))⟩ : S25) [.int .i64 0, .slice none 0 0] from (k25_mkF _ _ (⟨0, ([] : List (S25))⟩ : S25) (Nat.le_refl _) (Kd.F_nil _ _ _))) (Reps.none _ _)))); intro v166 w53 ho54 hb hg_ hnew_; clear hg_ hnew_; (first | rw [← Ny165.out] at ho54 | (simp only [Int.reduceToNat] at ho54; rw [← Ny165.out] at ho54)); replace HO_147000 := Aside0.mk (Kd.V_elder' (y11 HO_147000.out) (Kd.N_base ho54) hb); have HO167 := Aside0.mk (Kd.N_lower ho54 (keep_size (w := w) (g := g) (row := none) (y32 HK.out GW146.out GW147.out GW153.out))); replace BK146 := zbb BK146 hb; replace BK147 := zbb BK147 hb; replace BK153 := zbb BK153 hb; replace HK := Aside0.mk (KeepBut.trans (y32 HK.out GW146.out GW147.out GW153.out) (KeepBut.of_below hb g none) (.inl rfl)); replace HB := Aside0.mk (below_step (y21 HB.out HI0.out GE146.out GE147.out GE153.out) hb); replace HI0 := Aside0.mk (IsS75.below (y25 HI0.out NB0_146.out NB0_147.out NB0_153.out) hb); clear HO_154001; clear hb ho54; obtain ⟨Ao55, co55, eo55⟩ := Kd.N_slice HO167.out; subst eo55; have hcz56_0 := zh BK153; have hcz56_1 := zh1 BK153; have hfz56_0 := zfr BK153 0; have hfz56_1 := zfr BK153 1))
       go_roundg k1
       case measure => have := HK1.out; omega
       case rel => exact ⟨(wrap64 (x6_1 + 1)), (0), (y165), (.slice Ao55 y165.length co55), y29, H', ⟨(y69 HK1.out)⟩, ⟨(by (with_reducible repeat (first | apply Kd.V_alloc | apply Kd.V_drewN | apply Kd.V_drew)); exact Kd.V_mono (Kd.V_far (p := ⟨gb153, 1, none⟩) (Kd.V_far (p := ⟨gb153, 0, none⟩) (Kd.V_mono HO_147000.out (fun k_ hk => (⟨hk, hk.1.2.2.2.2.1⟩ : _ ∧ k_ ≠ gb153))) (fun _ hk => hk.2) (.int .i64 0)) (fun _ hk => hk.2) (.slice Ao55 y165.length co55)) (fun _ hk => ⟨hk.1.1.1, ⟨hk.1.2, ⟨hk.1.1.2.2.1, ⟨hk.1.1.2.2.2.1, ⟨hk.1.1.2.2.2.2.1, hk.1.1.2.2.2.2.2⟩⟩⟩⟩⟩))⟩, ⟨(by (with_reducible repeat (first | apply Kd.N_alloc | apply Kd.N_drewN | apply Kd.N_drew)); exact Kd.N_mono (Kd.N_far (p := ⟨gb153, 1, none⟩) (Kd.N_far (p := ⟨gb153, 0, none⟩) (Kd.N_mono HO167.out (fun k_ hk => (⟨hk, hk.2.2.2.1⟩ : _ ∧ k_ ≠ gb153))) (fun _ hk => hk.2) (.int .i64 0)) (fun _ hk => hk.2) (.slice Ao55 y165.length co55)) (fun _ hk => ⟨hk.1.1, ⟨hk.1.2.1, ⟨hk.1.2.2.1, ⟨hk.1.2.2.2.1, hk.1.2.2.2.2⟩⟩⟩⟩))⟩, ⟨(y1 NB146_153.out BK146.out)⟩, ⟨(y1 NB147_153.out BK147.out)⟩, ⟨(by (with_reducible repeat (first | refine blk_drewN ?_ _ | refine blk_drew ?_ | refine blk_alloc ?_ _)); refine blk_put (cs := #[.int .i64 0, .slice Ao52 x154001_1.length co52]) ?_ 1 _ rfl; (with_reducible repeat (first | refine blk_drewN ?_ _ | refine blk_drew ?_ | refine blk_alloc ?_ _)); refine blk_put (cs := #[.int .i64 x154000_1, .slice Ao52 x154001_1.length co52]) ?_ 0 _ rfl; (with_reducible repeat (first | refine blk_drewN ?_ _ | refine blk_drew ?_ | refine blk_alloc ?_ _)); exact BK153.out)⟩, ⟨(y25 HI0.out NB0_146.out NB0_147.out NB0_153.out)⟩, ⟨(y32 HK.out GW146.out GW147.out GW153.out)⟩, ⟨(y21 HB.out HI0.out GE146.out GE147.out GE153.out)⟩⟩
      ·rw [if_neg c47] at H
       have c47b0 : decide (x6_1 < 5) = false := decide_eq_false c47
       clear c47
       simp only [Option.some.injEq, Prod.mk.injEq] at H
       obtain ⟨rfl, rfl, rfl⟩ := H
       have hnb57 := NB153_146.out
       have hnc57 := NB146_153.out
       have hnb58 := NB153_147.out
       have hnc58 := NB147_153.out
       have hnb59 := NB153_0.out
       have hnc59 := NB0_153.out
       have hcz60_0 := zh BK153
       have hcz60_1 := zh1 BK153
       have hfz60_0 := zfr BK153 0
       have hfz60_1 := zfr BK153 1
       have hnb61 := NB147_146.out
       have hnc61 := NB146_147.out
       have hnb62 := NB147_0.out
       have hnc62 := NB0_147.out
       have hcz63_0 := zh BK147
       have hcz63_1 := zh1 BK147
       have hfz63_0 := zfr BK147 0
       have hfz63_1 := zfr BK147 1
       obtain ⟨Ao64, co64, eo64⟩ := Kd.N_slice HO_154001.out
       subst eo64
       go_wp2
       refine bodyPost_ret (results_cell_row rfl _ _ gb147 25 #[.int .i64 x154000_1, .slice Ao64 x154001_1.length co64] (0, 0) _ rfl (by (with_reducible repeat (first | refine blk_drewN ?_ _ | refine blk_drew ?_ | refine blk_alloc ?_ _)); refine blk_put (cs := #[.int .i64 x154000_1, .slice none 0 0]) ?_ 1 _ rfl; (with_reducible repeat (first | refine blk_drewN ?_ _ | refine blk_drew ?_ | refine blk_alloc ?_ _)); apply blk_put (i := 0); (case h => exact y0 BK147.out); (case e => rfl)) Try.underlying25 rfl (by kernel_rfl)) rfl ?_
       exact ⟨_, y15, (by (with_reducible repeat (first | apply Kd.N_alloc | apply Kd.N_drewN | apply Kd.N_drew)); exact Kd.N_mono (Kd.N_far (p := ⟨gb147, 1, none⟩) (Kd.N_far (p := ⟨gb147, 0, none⟩) (Kd.N_mono HO_154001.out (fun k_ hk => (⟨hk, hk.2.2.1⟩ : _ ∧ k_ ≠ gb147))) (fun _ hk => hk.2) (.int .i64 x154000_1)) (fun _ hk => hk.2) (.slice Ao64 x154001_1.length co64)) (fun _ hk => hk.1.1)), (y25 HI0.out NB0_146.out NB0_147.out NB0_153.out), (y21 HB.out HI0.out GE146.out GE147.out GE153.out), (y32 HK.out GW146.out GW147.out GW153.out)⟩
   ·rw [if_neg c46] at H
    have c46b0 : (t154 == 2) = false := beq_eq_false_iff_ne.mpr c46
    have c46b1 : (t154 != 2) = true := bne_iff_ne.mpr c46
    simp only [Option.some.injEq, Prod.mk.injEq] at H
    obtain ⟨rfl, rfl, rfl⟩ := H
    have hnb65 := NB153_146.out
    have hnc65 := NB146_153.out
    have hnb66 := NB153_147.out
    have hnc66 := NB147_153.out
    have hnb67 := NB153_0.out
    have hnc67 := NB0_153.out
    have hcz68_0 := zh BK153
    have hcz68_1 := zh1 BK153
    have hfz68_0 := zfr BK153 0
    have hfz68_1 := zfr BK153 1
    have hnb69 := NB147_146.out
    have hnc69 := NB146_147.out
    have hnb70 := NB147_0.out
    have hnc70 := NB0_147.out
    have hcz71_0 := zh BK147
    have hcz71_1 := zh1 BK147
    have hfz71_0 := zfr BK147 0
    have hfz71_1 := zfr BK147 1
    go_wp2
    refine bodyPost_ret (results_cell_row rfl _ _ gb147 25 #[.int .i64 t148, .slice Ao17 t149.length co17] (0, 0) _ rfl (by (with_reducible repeat (first | refine blk_drewN ?_ _ | refine blk_drew ?_ | refine blk_alloc ?_ _)); refine blk_put (cs := #[.int .i64 t148, .slice none 0 0]) ?_ 1 _ rfl; (with_reducible repeat (first | refine blk_drewN ?_ _ | refine blk_drew ?_ | refine blk_alloc ?_ _)); apply blk_put (i := 0); (case h => exact y0 BK147.out); (case e => rfl)) Try.underlying25 rfl (by kernel_rfl)) rfl ?_
    exact ⟨_, y15, (by (with_reducible repeat (first | apply Kd.N_alloc | apply Kd.N_drewN | apply Kd.N_drew)); exact Kd.N_mono (Kd.N_far (p := ⟨gb147, 1, none⟩) (Kd.N_far (p := ⟨gb147, 0, none⟩) (Kd.N_mono HO151.out (fun k_ hk => (⟨hk, hk.1.2.2.1⟩ : _ ∧ k_ ≠ gb147))) (fun _ hk => hk.2) (.int .i64 t148)) (fun _ hk => hk.2) (.slice Ao17 t149.length co17)) (fun _ hk => hk.1.1.1)), (y25 HI0.out NB0_146.out NB0_147.out NB0_153.out), (y21 HB.out HI0.out GE146.out GE147.out GE153.out), (y32 HK.out GW146.out GW147.out GW153.out)⟩
end Go.Proofs.Ythfflieeifakdaa.PA
end
section
namespace Go.Proofs.Ythfflieeifakdaa.PA
open Go.RowKit Go.Proofs.YthfflieeifakdaaW.PrintWords Go.Proofs.YthfflieeifakdaaW.PrintLast Go.Proofs.YthfflieeifakdaaW.PrintMore
attribute [local go_sem] max2_int min2_int max_two min_two max_three min_three max_four min_four
set_option linter.unusedVariables false
set_option linter.unusedSimpArgs false
def spec_l71Path.l0 : Nat → List Int → List Int → Int → List (S50) → Option (List Int × (List (S50)) × Int)
 | 0, _, _, _, _ => none
 | k + 1, x6, x1000, x1001, x169000 => if (x169000.length : Int) > 0 then ((spec_l6Rd_pick.f k x1000 x1001 3).bind fun bt173 => (if bt173.1 > 0 then ((spec_l6Rd_pick.f k x1000 bt173.2 (x169000.length : Int)).bind fun bt175 => (if x6.length < 17592186044416 then (if 0 ≤ bt175.1 then (if bt175.1 < (x169000.length : Int) then (spec_l71Path.l0 k (x6 ++ [bt175.1]) x1000 bt175.2 ((rd_T50 x169000 bt175.1).f0)) else (none)) else (none)) else (none))) else (some (x6, x169000, bt173.2)))) else (some (x6, x169000, x1001))
def spec_l71Path.f (k : Nat) (s0_0 : List Int) (s0_1 : Int) (l1_0 : List (S50)) : Option (List Int × (List (S50)) × Int) := spec_l71Path.l0 k (([] : List Int)) s0_0 s0_1 l1_0
theorem spec_l71Path.mono_l : ∀ k, (∀ y0 y1 y2 y3, LeO (spec_l71Path.l0 k y0 y1 y2 y3) (spec_l71Path.l0 (k + 1) y0 y1 y2 y3))
 | 0 => fun _ _ _ _ r h => by simp [spec_l71Path.l0] at h
 | k + 1 => by
  have ih0 := spec_l71Path.mono_l k
  ·intro y0 y1 y2 y3
   unfold spec_l71Path.l0
   repeat' first
   | (with_reducible exact ih0 _ _ _ _)
   | (with_reducible exact spec_l6Rd_pick.mono _ _ _ _)
   | (with_reducible exact LeO.refl _)
   | (with_reducible exact LeO.none _)
   | (with_reducible refine LeO.ite ?_ ?_)
   | (with_reducible refine LeO.bind ?_ (fun _ => ?_))
   | exact ih0 _ _ _ _
   | exact spec_l6Rd_pick.mono _ _ _ _
   | exact LeO.none _
   | refine LeO.ite ?_ ?_
   | refine LeO.bind ?_ (fun _ => ?_)
theorem spec_l71Path.mono : ∀ a0 a1 a2 k, LeO (spec_l71Path.f k a0 a1 a2) (spec_l71Path.f (k + 1) a0 a1 a2) := by
 intro a0 a1 a2 k
 have ih0 := spec_l71Path.mono_l k
 unfold spec_l71Path.f
 repeat' first
   | (with_reducible exact ih0 _ _ _ _)
   | (with_reducible exact spec_l6Rd_pick.mono _ _ _ _)
   | (with_reducible exact LeO.refl _)
   | (with_reducible exact LeO.none _)
   | (with_reducible refine LeO.ite ?_ ?_)
   | (with_reducible refine LeO.bind ?_ (fun _ => ?_))
   | exact ih0 _ _ _ _
   | exact spec_l6Rd_pick.mono _ _ _ _
   | exact LeO.none _
   | refine LeO.ite ?_ ?_
   | refine LeO.bind ?_ (fun _ => ?_)
set_option maxHeartbeats 8000000 in
set_option maxRecDepth 100000 in
theorem spec_l71Path.calls (k : Nat) (g : Nat) (s0_0 : List Int) (s0_1 : Int) (P1_0_ : Nat → Prop) (A1_0 : Option Addr) (c1_0 : Nat) (l1_0 : List (S50)) (r1 : List Int) (r2 : List (S50)) (r3 : Int) (w0 w : World) (hI : IsS75 w0 w g s0_0 s0_1) (hB : Below w0.heap.size w0 w) (hs1_0 : Kd.V k50 50 w w.heap.size (fun k_ => P1_0_ k_ ∧ k_ ≠ g) (.slice A1_0 l1_0.length c1_0) l1_0) (h : spec_l71Path.f k s0_0 s0_1 l1_0 = some (r1, r2, r3)) :
  Calls Try.prog 56 #[.pointer (some ⟨g, 0, none⟩), .agg #[.slice A1_0 l1_0.length c1_0]] w fun e w' => ∃ v0_ v1_ : Value, e = .returned (.tuple #[v0_, .agg #[v1_]]) ∧ Kd.R (Kd.int .i64) 3 w' w.heap.size (fun k_ => (w.heap.size ≤ k_)) v0_ r1 ∧ Kd.V k50 50 w' w.heap.size (fun k_ => (P1_0_ k_ ∨ w.heap.size ≤ k_) ∧ some k_ ≠ (v0_ : Value).ownBlock) v1_ r2 ∧ IsS75 w0 w' g s0_0 r3 ∧ Below w0.heap.size w0 w' ∧ KeepBut w w' g none := by
 have hu50 := Try.underlying50
 have HO1_0 := Aside0.mk (show Kd.V k50 50 w w.heap.size (fun k_ => (P1_0_ k_ ∨ w.heap.size ≤ k_) ∧ k_ ≠ g) (.slice A1_0 l1_0.length c1_0) l1_0 from Kd.V_mono hs1_0 (fun k_ hk => ⟨.inl hk.1, hk.2⟩))
 have HI0 := Aside0.mk hI
 have HK := Aside0.mk (KeepBut.refl w g none)
 have HL := Aside0.mk hB.size
 clear hI
 have HW0 := Aside0.mk hB.size
 have HB := Aside0.mk hB
 clear hB
 have H : (spec_l71Path.l0 k (([] : List Int)) s0_0 s0_1 l1_0) = some (r1, r2, r3) := h
 clear h
 obtain ⟨y170, hy170⟩ : ∃ y_ : List Int, y_ = (([] : List Int)) := ⟨_, rfl⟩
 replace H : (spec_l71Path.l0 k y170 s0_0 s0_1 l1_0) = some (r1, r2, r3) := by first | (rw [hy170]; with_reducible exact H) | (have H2_ := (Option.bind_some _ _).symm.trans H; rw [hy170]; with_reducible exact H2_) | (have H2_ := (Option.bind_some _ _).symm.trans H; with_reducible exact H2_) | with_reducible exact H | (rw [hy170]; exact H) | exact H
 have Ny170 := Aside0.mk hy170
 clear hy170
 have H' := Aside0.mk H
 clear H
 go_enter Try.func56, Try.ntmps56
 go_wp2_with (first | ((with_reducible refine gate_dst (N := 3) rfl ?_); refine zbx 3 #[.slice A1_0 l1_0.length c1_0] 50 ?_; intro gb168 hg w3 hbox hb; replace HO1_0 := Aside0.mk (Kd.V_below (Kd.V_elderB (y11 HO1_0.out) gb168 (Nat.le_of_eq hg.symm)) hb); replace HB := Aside0.mk (below_step (y46 HB.out HI0.out) hb); have BK168 := Aside0.mk hbox; have GW168 := Aside0.mk ((by rw [hg]; exact (keep_size (w := w) (g := g) (row := none) (y40 HK.out)) : w.heap.size ≤ gb168)); have GE168 := Aside0.mk ((Nat.le_trans HW0.out (by rw [hg]; exact (keep_size (w := w) (g := g) (row := none) (y40 HK.out)) : w.heap.size ≤ gb168) : w0.heap.size ≤ gb168)); replace HK := Aside0.mk (KeepBut.trans (y40 HK.out) (KeepBut.of_below hb g none) (.inl rfl)); have NB0_168 := Aside0.mk ((by rw [hg]; exact Nat.ne_of_lt (IsS75.lt (show IsS75 w0 _ g s0_0 s0_1 from by repeat (first | (with_reducible first | exact HI0.out | apply IsS75.alloc | apply IsS75.drewN | apply IsS75.drew | apply IsS75.set_1) | exact HI0.out))) : g ≠ gb168)); have NB168_0 := Aside0.mk ((by rw [hg]; exact Nat.ne_of_gt (IsS75.lt (show IsS75 w0 _ g s0_0 s0_1 from by repeat (first | (with_reducible first | exact HI0.out | apply IsS75.alloc | apply IsS75.drewN | apply IsS75.drew | apply IsS75.set_1) | exact HI0.out))) : gb168 ≠ g)); replace HI0 := Aside0.mk (IsS75.below (y47 HI0.out) hb); clear hb hbox hg) | ((with_reducible refine gate_dst (N := 5) rfl ?_); refine zbx 5 #[.slice none 0 0] 50 ?_; intro gb169 hg w4 hbox hb; replace HO1_0 := Aside0.mk (Kd.V_below (Kd.V_elderB (y11 HO1_0.out) gb169 (Nat.le_of_eq hg.symm)) hb); replace HB := Aside0.mk (below_step (y31 HB.out HI0.out GE168.out) hb); have BK169 := Aside0.mk hbox; have GW169 := Aside0.mk ((by rw [hg]; exact (keep_size (w := w) (g := g) (row := none) (y28 HK.out GW168.out)) : w.heap.size ≤ gb169)); have GE169 := Aside0.mk ((Nat.le_trans HW0.out (by rw [hg]; exact (keep_size (w := w) (g := g) (row := none) (y28 HK.out GW168.out)) : w.heap.size ≤ gb169) : w0.heap.size ≤ gb169)); replace HK := Aside0.mk (KeepBut.trans (y28 HK.out GW168.out) (KeepBut.of_below hb g none) (.inl rfl)); have NB168_169 := zltn hg BK168; have NB169_168 := zgtn hg BK168; replace BK168 := zbb BK168 hb; have NB0_169 := Aside0.mk ((by rw [hg]; exact Nat.ne_of_lt (IsS75.lt (show IsS75 w0 _ g s0_0 s0_1 from by repeat (first | (with_reducible first | exact HI0.out | apply IsS75.alloc | apply IsS75.drewN | apply IsS75.drew | apply IsS75.set_1 | refine IsS75.far ?_ NB0_168.out _) | exact HI0.out))) : g ≠ gb169)); have NB169_0 := Aside0.mk ((by rw [hg]; exact Nat.ne_of_gt (IsS75.lt (show IsS75 w0 _ g s0_0 s0_1 from by repeat (first | (with_reducible first | exact HI0.out | apply IsS75.alloc | apply IsS75.drewN | apply IsS75.drew | apply IsS75.set_1 | refine IsS75.far ?_ NB0_168.out _) | exact HI0.out))) : gb169 ≠ g)); replace HI0 := Aside0.mk (IsS75.below (y35 HI0.out NB0_168.out) hb); clear hb hbox hg) | ((with_reducible refine gate_dst (N := 8) rfl ?_); refine Kd.R_lit (Kd.int .i64) _ 3 ?hg (N := 8) ?hd (xs := ([] : List Int)) (inner := []) (ok := fun _ => True) (okp := fun _ => True) ?hr ?hp (fun _ hk => hk) trivial (Below.refl _ _) (Nat.le_refl _) (by simp) ?_; (case hd => rfl); (case hg => rfl); (case hr => first | (go_simp; done) | (go_simp; rfl)); (case hp => exact (Reps.none _ _)); intro v171 w5 ho6 hb hg_ hnew_; clear hg_ hnew_; (first | rw [← Ny170.out] at ho6 | (simp only [Int.reduceToNat] at ho6; rw [← Ny170.out] at ho6)); replace HO1_0 := Aside0.mk (Kd.V_elder' (y11 HO1_0.out) (Kd.R_base ho6) hb); have HO172 := Aside0.mk (Kd.R_lower (Kd.R_newM (M := fun k_ => (w.heap.size ≤ k_)) ho6 (keep_size (w := w) (g := g) (row := none) (y22 HK.out GW168.out GW169.out)) (fun k_ h_ => h_)) (keep_size (w := w) (g := g) (row := none) (y22 HK.out GW168.out GW169.out))); replace BK168 := zbb BK168 hb; replace BK169 := zbb BK169 hb; replace HK := Aside0.mk (KeepBut.trans (y22 HK.out GW168.out GW169.out) (KeepBut.of_below hb g none) (.inl rfl)); replace HB := Aside0.mk (below_step (y19 HB.out HI0.out GE168.out GE169.out) hb); replace HI0 := Aside0.mk (IsS75.below (y24 HI0.out NB0_168.out NB0_169.out) hb); clear hb ho6))
 go_loopg [6] k (fun kq v6 w' => ∃ (x6_1 : List Int) (x1001_1 : Int) (x169000_1 : List (S50)) (u169000 : Value), Aside0 (spec_l71Path.l0 kq x6_1 s0_0 x1001_1 x169000_1 = some (r1, r2, r3)) ∧ Aside0 (kq ≤ k) ∧ Aside0 (Kd.R (Kd.int .i64) 3 w' w.heap.size (fun k_ => (w.heap.size ≤ k_)) v6 x6_1) ∧ Aside0 (Kd.V k50 50 w' w.heap.size (fun k_ => (P1_0_ k_ ∨ w.heap.size ≤ k_) ∧ some k_ ≠ (v6 : Value).ownBlock ∧ k_ ≠ gb168 ∧ k_ ≠ gb169 ∧ k_ ≠ g) u169000 x169000_1) ∧ Aside0 (w'.heap[gb168]? = some (.cells #[u169000] 50 (0, 0))) ∧ Aside0 (w'.heap[gb169]? = some (.cells #[(.slice none 0 0)] 50 (0, 0))) ∧ Aside0 (IsS75 w0 w' g s0_0 x1001_1) ∧ Aside0 (KeepBut w w' g none) ∧ Aside0 (Below w0.heap.size w0 w'))
 case atStart => exact ⟨(y170), (s0_1), (l1_0), (.slice A1_0 l1_0.length c1_0), H', ⟨Nat.le_refl _⟩, ⟨(y83 HO172.out)⟩, ⟨(by (with_reducible repeat (first | apply Kd.V_alloc | apply Kd.V_drewN | apply Kd.V_drew)); exact Kd.V_mono HO1_0.out (fun _ hk => ⟨hk.1.1.1.1, ⟨hk.2, ⟨hk.1.1.2, ⟨hk.1.2, hk.1.1.1.2⟩⟩⟩⟩))⟩, ⟨(y0 BK168.out)⟩, ⟨(y0 BK169.out)⟩, ⟨(y24 HI0.out NB0_168.out NB0_169.out)⟩, ⟨(y22 HK.out GW168.out GW169.out)⟩, ⟨(y19 HB.out HI0.out GE168.out GE169.out)⟩⟩
 case round =>
  clear H'
  try clear c1
  try clear p2
  try clear c5
  (try clear BK168); (try clear BK169)
  obtain ⟨x6_1, x1001_1, x169000_1, u169000, HA, HK1, HO_6, HO_169000, BK168, BK169, HI0, HK, HB⟩ := hrel
  cases gk with
  | zero => exact absurd HA.out (by simp [spec_l71Path.l0])
  | succ k1 =>
   have H := HA.out
   clear HA
   simp only [spec_l71Path.l0] at H
   by_cases c7 : (x169000_1.length : Int) > 0
   ·rw [if_pos c7] at H
    have c7b0 : decide (0 < (x169000_1.length : Int)) = true := decide_eq_true c7
    have c7b1 : decide (0 < x169000_1.length) = true := decide_eq_true (by omega)
    clear c7
    obtain ⟨⟨t173, t174⟩, A80, H⟩ := ob H
    have A8 := Aside0.mk A80
    clear A80
    have HZ9 := Aside0.mk H
    clear H
    have hnb10 := NB168_169.out
    have hnc10 := NB169_168.out
    have hnb11 := NB168_0.out
    have hnc11 := NB0_168.out
    have hcz12_0 := zh BK168
    have hfz12_0 := zfr BK168 0
    obtain ⟨Ao13, co13, eo13⟩ := Kd.V_slice HO_169000.out
    subst eo13
    go_upto_if 17 with (first | (go_at_call 32; (with_reducible refine (spec_l6Rd_pick.calls k1 g s0_0 x1001_1 3 t173 t174 w0 _ ?side1 ?side2 A8.out).mono ?_); (case side1 => exact y24 HI0.out NB0_168.out NB0_169.out); (case side2 => exact y19 HB.out HI0.out GE168.out GE169.out); rintro e w14 ⟨rfl, hi, hb, hk⟩; replace HO_6 := Aside0.mk (Kd.R_mono (Kd.R_keep (IsS75.apart (show IsS75 w0 _ g s0_0 x1001_1 from by repeat (first | (with_reducible first | exact HI0.out | apply IsS75.alloc | apply IsS75.drewN | apply IsS75.drew | apply IsS75.set_1 | refine IsS75.far ?_ NB0_168.out _ | refine IsS75.far ?_ NB0_169.out _) | exact HI0.out)) (y8 HO_6.out) (by decide)) hk (fun _ h => h.2)) (fun _ h => h.1)); replace HO_169000 := Aside0.mk (Kd.V_mono (Kd.V_keep (Kd.V_mono (ok := fun k_ => (((P1_0_ k_ ∨ w.heap.size ≤ k_)) ∧ (some k_ ≠ (u6 : Value).ownBlock ∧ (k_ ≠ gb168 ∧ (k_ ≠ gb169 ∧ k_ ≠ g))))) (y11 HO_169000.out) (fun k_ hk_ => (⟨hk_, hk_.2.2.2.2⟩ : _ ∧ k_ ≠ g))) hk (fun _ h => h.2)) (fun _ h => h.1)); replace BK168 := Aside0.mk (KeepBut.blk hk (g' := gb168) (o := .cells #[.slice Ao13 x169000_1.length co13] 50 (0, 0)) (y0 BK168.out) NB168_0.out (by simp)); replace BK169 := Aside0.mk (KeepBut.blk hk (g' := gb169) (o := .cells #[.slice none 0 0] 50 (0, 0)) (y0 BK169.out) NB169_0.out (by simp)); replace HK := Aside0.mk (KeepBut.trans (y22 HK.out GW168.out GW169.out) hk (.inl rfl)); replace HB := Aside0.mk (hb); replace HI0 := Aside0.mk (hi); (try clear hb); (try clear hb2); (try clear hk); (try clear hi)))
    (try simp only [Act.put, List.setIfInBounds_toArray, List.set_cons_zero, List.set_cons_succ])
    have H := HZ9.out
    clear HZ9
    by_cases c15 : t173 > 0
    ·rw [if_pos c15] at H
     have c15b0 : decide (0 < t173) = true := decide_eq_true c15
     clear c15
     (first | rw [c15b0] | (simp only [i64_w, i32_w]; rw [c15b0]) | skip)
     obtain ⟨⟨t175, t176⟩, A160, H⟩ := ob H
     have A16 := Aside0.mk A160
     clear A160
     by_cases c17 : x6_1.length < 17592186044416
     ·rw [if_pos c17] at H
      have LMc17 := Aside0.mk c17
      clear c17
      obtain ⟨y177, hy177⟩ : ∃ y_ : List Int, y_ = (x6_1 ++ [t175]) := ⟨_, rfl⟩
      replace H : (if 0 ≤ t175 then (if t175 < (x169000_1.length : Int) then (spec_l71Path.l0 k1 y177 s0_0 t176 ((rd_T50 x169000_1 t175).f0)) else (none)) else (none)) = some (r1, r2, r3) := by first | (rw [hy177]; with_reducible exact H) | (have H2_ := (Option.bind_some _ _).symm.trans H; rw [hy177]; with_reducible exact H2_) | (have H2_ := (Option.bind_some _ _).symm.trans H; with_reducible exact H2_) | with_reducible exact H | (rw [hy177]; exact H) | exact H
      have Ny177 := Aside0.mk hy177
      clear hy177
      by_cases c18 : 0 ≤ t175
      ·rw [if_pos c18] at H
       have c18b0 : decide (0 ≤ t175) = true := decide_eq_true c18
       clear c18
       by_cases c19 : t175 < (x169000_1.length : Int)
       ·rw [if_pos c19] at H
        have c19b0 : decide (t175 < (x169000_1.length : Int)) = true := decide_eq_true c19
        clear c19
        have H' := Aside0.mk H
        clear H
        have hnb20 := NB168_169.out
        have hnc20 := NB169_168.out
        have hnb21 := NB168_0.out
        have hnc21 := NB0_168.out
        have hcz22_0 := zh BK168
        have hfz22_0 := zfr BK168 0
        go_wp2_with (first | ((with_reducible refine gate_callee (f := 32) rfl ?_); refine goesL_ (some 22) rfl rfl Try.func32 (by kernel_rfl) rfl #[.pointer (some ⟨g, 0, none⟩), .int .i64 (x169000_1.length : Int)] rfl y9 ?_; (with_reducible refine (spec_l6Rd_pick.calls k1 g s0_0 t174 (x169000_1.length : Int) t175 t176 w0 _ ?side1 ?side2 A16.out).mono ?_); (case side1 => exact y24 HI0.out NB0_168.out NB0_169.out); (case side2 => exact y19 HB.out HI0.out GE168.out GE169.out); rintro e w23 ⟨rfl, hi, hb, hk⟩; refine ⟨_, rfl, ?_⟩; replace HO_6 := Aside0.mk (Kd.R_mono (Kd.R_keep (IsS75.apart (show IsS75 w0 _ g s0_0 t174 from by repeat (first | (with_reducible first | exact HI0.out | apply IsS75.alloc | apply IsS75.drewN | apply IsS75.drew | apply IsS75.set_1 | refine IsS75.far ?_ NB0_168.out _ | refine IsS75.far ?_ NB0_169.out _) | exact HI0.out)) (y8 HO_6.out) (by decide)) hk (fun _ h => h.2)) (fun _ h => h.1)); replace HO_169000 := Aside0.mk (Kd.V_mono (Kd.V_keep (Kd.V_mono (ok := fun k_ => (((P1_0_ k_ ∨ w.heap.size ≤ k_)) ∧ (some k_ ≠ (u6 : Value).ownBlock ∧ (k_ ≠ gb168 ∧ (k_ ≠ gb169 ∧ k_ ≠ g))))) (y11 HO_169000.out) (fun k_ hk_ => (⟨hk_, hk_.2.2.2.2⟩ : _ ∧ k_ ≠ g))) hk (fun _ h => h.2)) (fun _ h => h.1)); replace BK168 := Aside0.mk (KeepBut.blk hk (g' := gb168) (o := .cells #[.slice Ao13 x169000_1.length co13] 50 (0, 0)) (y0 BK168.out) NB168_0.out (by simp)); replace BK169 := Aside0.mk (KeepBut.blk hk (g' := gb169) (o := .cells #[.slice none 0 0] 50 (0, 0)) (y0 BK169.out) NB169_0.out (by simp)); replace HK := Aside0.mk (KeepBut.trans (y22 HK.out GW168.out GW169.out) hk (.inl rfl)); replace HB := Aside0.mk (hb); replace HI0 := Aside0.mk (hi); (try clear hb); (try clear hb2); (try clear hk); (try clear hi)) | ((with_reducible refine gate_builtin (b := .append) (xs := #[.tmp 23, .tmp 25]) rfl ?_); at_builtin; refine Kd.R_append (Kd.int .i64) w.heap.size rfl (.tmp 23) (.tmp 25) 26 3 (.int .i64 0) 8 rfl Try.underlying26 info3 rfl (by decide) (by omega) u6 x6_1 t175 [.int .i64 t175] (fun k_ => (w.heap.size ≤ k_)) (fun _ => False) rfl rfl ?aP (fun _ hk => hk.elim) ?aF ?aO (Below.refl _ _) ?aS ?aL ?_; (case aP => exact rfl); (case aF => exact (fun k_ hk => (Nat.le_trans (keep_size (w := w) (g := g) (row := none) (y22 HK.out GW168.out GW169.out)) hk))); (case aO => exact (y8 HO_6.out)); (case aS => exact (keep_size (w := w) (g := g) (row := none) (y22 HK.out GW168.out GW169.out))); (case aL => exact y69 LMc17.out); intro v178 w24 ho hb hg hat; rw [← Ny177.out] at ho; replace HO_169000 := Aside0.mk (Kd.V_afterv (ok := (fun k_ => (P1_0_ k_ ∨ w.heap.size ≤ k_) ∧ k_ ≠ gb168 ∧ k_ ≠ gb169 ∧ k_ ≠ g)) (by (with_reducible repeat (first | apply Kd.V_alloc | apply Kd.V_drewN | apply Kd.V_drew)); exact Kd.V_mono HO_169000.out (fun _ hk => ⟨⟨hk.1, ⟨hk.2.2.1, ⟨hk.2.2.2.1, hk.2.2.2.2⟩⟩⟩, hk.2.1⟩)) hg hat); replace BK168 := Aside0.mk (blk_grown (g := gb168) (o := .cells #[.slice Ao13 x169000_1.length co13] 50 (0, 0)) (y0 BK168.out) hg (Kd.R_ne HO_6.out BK168.out (by decide))); replace BK169 := Aside0.mk (blk_grown (g := gb169) (o := .cells #[.slice none 0 0] 50 (0, 0)) (y0 BK169.out) hg (Kd.R_ne HO_6.out BK169.out (by decide))); replace HB := Aside0.mk (below_weaken (y19 HB.out HI0.out GE168.out GE169.out) HL.out hb); replace HI0 := Aside0.mk (IsS75.grown (y24 HI0.out NB0_168.out NB0_169.out) hg (IsS75.own_ne HI0.out HO_6.out (by decide))); replace HK := Aside0.mk (KeepBut.trans (y22 HK.out GW168.out GW169.out) (KeepBut.of_grown hg g) (Kd.R_base2 HO_6.out)); have HO179 := Aside0.mk (ho); clear HO_6; clear ho hb hg hat; have hcz25_0 := zh BK168; have hfz25_0 := zfr BK168 0; have p180 : 0 ≤ (t175 : Int) := of_decide_eq_true y23; have q180 : t175 < (x169000_1.length : Int) := of_decide_eq_true y23; obtain ⟨ad180, A180_0, c180_0, e180, hx180_0, hl180_0, hi180_0⟩ := at_T50 (Kd.V_reads' HO_169000.out).2.2 t175 p180 q180; cases e180; obtain ⟨ce180, hce180, hMe180, hcc180⟩ := Kd.V_get HO_169000.out z50 t175 p180 (by first | exact q180 | exact of_decide_eq_true y23 | (have e_ := (Kd.V_reads' HO_169000.out).1; omega)); obtain ⟨ua180_0, uc180_0, rfl, ul180_0, ge180_0⟩ := k50_openF hMe180; have hv180_0 := hcc180 0 _ rfl; rw [Nat.add_zero, show (k50).sz = 1 from rfl, Nat.mul_one] at hv180_0; replace hv180_0 := Option.some.inj (hv180_0.symm.trans hx180_0); injection hv180_0 with hva_ hvn_ hvc_; rw [hva_] at ge180_0; rw [hvc_] at ul180_0; have HL180_0 := Aside0.mk (show Kd.V k50 50 _ w.heap.size _ _ ((rd_T50 x169000_1 t175).f0) from Kd.V_mk ul180_0 ge180_0); clear hva_ hvn_ hvc_ ge180_0 ul180_0; clear hcc180 hce180; have HR180_0 := Aside0.mk hi180_0; have HC180_0 := Aside0.mk hl180_0; clear hi180_0 hl180_0; replace p180 := eq_true p180; replace q180 := eq_true q180))
        go_roundg k1
        case measure => have := HK1.out; omega
        case rel => exact ⟨(y177), (t176), ((rd_T50 x169000_1 t175).f0), (.slice A180_0 ((rd_T50 x169000_1 t175).f0).length c180_0), H', ⟨(y69 HK1.out)⟩, ⟨(by (with_reducible repeat (first | apply Kd.R_alloc | apply Kd.R_drewN | apply Kd.R_drew)); exact Kd.R_mono (Kd.R_far (p := ⟨gb168, 0, none⟩) (Kd.R_types HO179.out BK168.out (by decide)) (fun _ hk => hk.2) (.slice A180_0 ((rd_T50 x169000_1 t175).f0).length c180_0)) (fun _ hk => hk.1))⟩, ⟨(by (with_reducible repeat (first | apply Kd.V_alloc | apply Kd.V_drewN | apply Kd.V_drew)); exact Kd.V_mono (Kd.V_far (p := ⟨gb168, 0, none⟩) (Kd.V_mono HL180_0.out (fun k_ hk => (⟨hk, hk.1.2.1⟩ : _ ∧ k_ ≠ gb168))) (fun _ hk => hk.2) (.slice A180_0 ((rd_T50 x169000_1 t175).f0).length c180_0)) (fun _ hk => ⟨hk.1.1.1, ⟨hk.1.2, ⟨hk.1.1.2.1, ⟨hk.1.1.2.2.1, hk.1.1.2.2.2⟩⟩⟩⟩))⟩, ⟨(by (with_reducible repeat (first | refine blk_drewN ?_ _ | refine blk_drew ?_ | refine blk_alloc ?_ _)); refine blk_put (cs := #[.slice (some ad180) x169000_1.length co13]) ?_ 0 _ rfl; (with_reducible repeat (first | refine blk_drewN ?_ _ | refine blk_drew ?_ | refine blk_alloc ?_ _)); exact BK168.out)⟩, ⟨(y13 NB169_168.out BK169.out)⟩, ⟨(y24 HI0.out NB0_168.out NB0_169.out)⟩, ⟨(y22 HK.out GW168.out GW169.out)⟩, ⟨(y19 HB.out HI0.out GE168.out GE169.out)⟩⟩
       ·rw [if_neg c19] at H
        exact absurd H (by simp)
      ·rw [if_neg c18] at H
       exact absurd H (by simp)
     ·rw [if_neg c17] at H
      exact absurd H (by simp)
    ·rw [if_neg c15] at H
     have c15b0 : decide (0 < t173) = false := decide_eq_false c15
     clear c15
     (first | rw [c15b0] | (simp only [i64_w, i32_w]; rw [c15b0]) | skip)
     simp only [Option.some.injEq, Prod.mk.injEq] at H
     obtain ⟨rfl, rfl, rfl⟩ := H
     try go_wp2
     replace HO_6 := Aside0.mk (Kd.R_drew HO_6.out)
     replace HO_169000 := Aside0.mk (Kd.V_drew HO_169000.out)
     replace BK168 := Aside0.mk (blk_drew BK168.out)
     replace BK169 := Aside0.mk (blk_drew BK169.out)
     replace HI0 := Aside0.mk (IsS75.drew HI0.out)
     replace HK := Aside0.mk (keep_drew HK.out)
     replace HB := Aside0.mk (below_drew1 HB.out)
     refine start_ (n := 4) (S := fun w' => w'.cell? ⟨gb168, 0, none⟩ = some (.slice Ao13 x169000_1.length co13)) (ds := []) #[false, false, false, false] (by kernel_rfl) rfl rfl ((blk_cell BK168.out 0).trans rfl) (fun hHeld => ?_)
     generalize w14.drew = w26 at HO_6 HO_169000 BK168 BK169 HI0 HK HB hHeld ⊢
     refine pure_ (i := 0) (N := some 32) (v := ?_) (a' := ?_) #[true, false, false, false] rfl rfl (by kernel_rfl) (fun _ _ _ h => h) (Or.inl ⟨(by rfl), ?_⟩) ?_ ?_
     rotate_left
     ·intro w'
      go_simp
      with_reducible rfl
     rotate_left
     ·simp only [Act.put, List.setIfInBounds_toArray, List.set_cons_zero, List.set_cons_succ, i64_w, i32_w]
      rfl
     refine pure_ (i := 2) (N := some 4) (v := ?_) (a' := ?_) #[true, false, true, false] rfl rfl (by kernel_rfl) (fun _ _ _ h => h) (Or.inl ⟨(by rfl), ?_⟩) ?_ ?_
     rotate_left
     ·intro w'
      go_simp
      with_reducible rfl
     rotate_left
     ·simp only [Act.put, List.setIfInBounds_toArray, List.set_cons_zero, List.set_cons_succ, i64_w, i32_w]
      rfl
     refine take_ (i := 1) (N := some 33) (v := ?_) (a' := ?_) #[true, true, true, false] rfl rfl (by kernel_rfl) (fun _ _ _ h => h) (Or.inl ⟨(by rfl), ?_⟩) hHeld ?_ ?_
     rotate_left
     ·intro w' s0
      go_simp
      with_reducible rfl
     rotate_left
     ·simp only [Act.put, List.setIfInBounds_toArray, List.set_cons_zero, List.set_cons_succ, i64_w, i32_w]
      rfl
     refine one_ (i := 3) (N := none) #[true, true, true, true] rfl rfl (by kernel_rfl) (by decide) (fun K hK => ?_)
     have hs27 : w26.cell? ⟨gb169, 0, none⟩ = some (.slice none 0 0) := (blk_cell BK169.out 0).trans rfl
     have hfs27 := zfr BK169 0
     have hns27_0 := NB168_169.out
     have hms27_0 := NB169_168.out
     refine skip_ (w1 := ?_) (by rfl) rfl ?_ ?_
     rotate_left
     ·go_simp
      rfl
     refine hK.out _ _ (((cell_far (p := ⟨gb169, _, none⟩) NB168_169.out _).trans (hHeld))) (fun hHeld => ?_)
     clear hK K
     refine done_ (by kernel_rfl) ?_
     try go_wp2
     refine bodyPost_ret (results_tc rfl _ _ gb169 50 #[.slice Ao13 x169000_1.length co13] (0, 0) _ rfl (by (with_reducible repeat (first | refine blk_drewN ?_ _ | refine blk_drew ?_ | refine blk_alloc ?_ _)); apply blk_put (i := 0); (case h => exact y0 BK169.out); (case e => rfl)) Try.underlying50 rfl (by kernel_rfl)) rfl ?_
     exact ⟨_, _, y15, (by (with_reducible repeat (first | apply Kd.R_alloc | apply Kd.R_drewN | apply Kd.R_drew)); exact Kd.R_mono (Kd.R_far (p := ⟨gb169, 0, none⟩) (Kd.R_types HO_6.out BK169.out (by decide)) (fun _ hk => hk.2) (.slice Ao13 x169000_1.length co13)) (fun _ hk => hk.1)), (by (with_reducible repeat (first | apply Kd.V_alloc | apply Kd.V_drewN | apply Kd.V_drew)); exact Kd.V_mono (Kd.V_far (p := ⟨gb169, 0, none⟩) (Kd.V_mono HO_169000.out (fun k_ hk => (⟨hk, hk.2.2.2.1⟩ : _ ∧ k_ ≠ gb169))) (fun _ hk => hk.2) (.slice Ao13 x169000_1.length co13)) (fun _ hk => ⟨hk.1.1, hk.1.2.1⟩)), (y24 HI0.out NB0_168.out NB0_169.out), (y19 HB.out HI0.out GE168.out GE169.out), (y22 HK.out GW168.out GW169.out)⟩
   ·rw [if_neg c7] at H
    have c7b0 : decide (0 < (x169000_1.length : Int)) = false := decide_eq_false c7
    have c7b1 : decide (0 < x169000_1.length) = false := decide_eq_false (by omega)
    clear c7
    simp only [Option.some.injEq, Prod.mk.injEq] at H
    obtain ⟨rfl, rfl, rfl⟩ := H
    have hnb28 := NB168_169.out
    have hnc28 := NB169_168.out
    have hnb29 := NB168_0.out
    have hnc29 := NB0_168.out
    have hcz30_0 := zh BK168
    have hfz30_0 := zfr BK168 0
    obtain ⟨Ao31, co31, eo31⟩ := Kd.V_slice HO_169000.out
    subst eo31
    try go_wp2
    replace HO_6 := Aside0.mk (Kd.R_drew HO_6.out)
    replace HO_169000 := Aside0.mk (Kd.V_drew HO_169000.out)
    replace BK168 := Aside0.mk (blk_drew BK168.out)
    replace BK169 := Aside0.mk (blk_drew BK169.out)
    replace HI0 := Aside0.mk (IsS75.drew HI0.out)
    replace HK := Aside0.mk (keep_drew HK.out)
    replace HB := Aside0.mk (below_drew1 HB.out)
    refine start_ (n := 4) (S := fun w' => w'.cell? ⟨gb168, 0, none⟩ = some (.slice Ao31 x169000_1.length co31)) (ds := []) #[false, false, false, false] (by kernel_rfl) rfl rfl ((blk_cell BK168.out 0).trans rfl) (fun hHeld => ?_)
    generalize wr.drew = w32 at HO_6 HO_169000 BK168 BK169 HI0 HK HB hHeld ⊢
    refine pure_ (i := 0) (N := some 32) (v := ?_) (a' := ?_) #[true, false, false, false] rfl rfl (by kernel_rfl) (fun _ _ _ h => h) (Or.inl ⟨(by rfl), ?_⟩) ?_ ?_
    rotate_left
    ·intro w'
     go_simp
     with_reducible rfl
    rotate_left
    ·simp only [Act.put, List.setIfInBounds_toArray, List.set_cons_zero, List.set_cons_succ, i64_w, i32_w]
     rfl
    refine pure_ (i := 2) (N := some 4) (v := ?_) (a' := ?_) #[true, false, true, false] rfl rfl (by kernel_rfl) (fun _ _ _ h => h) (Or.inl ⟨(by rfl), ?_⟩) ?_ ?_
    rotate_left
    ·intro w'
     go_simp
     with_reducible rfl
    rotate_left
    ·simp only [Act.put, List.setIfInBounds_toArray, List.set_cons_zero, List.set_cons_succ, i64_w, i32_w]
     rfl
    refine take_ (i := 1) (N := some 33) (v := ?_) (a' := ?_) #[true, true, true, false] rfl rfl (by kernel_rfl) (fun _ _ _ h => h) (Or.inl ⟨(by rfl), ?_⟩) hHeld ?_ ?_
    rotate_left
    ·intro w' s0
     go_simp
     with_reducible rfl
    rotate_left
    ·simp only [Act.put, List.setIfInBounds_toArray, List.set_cons_zero, List.set_cons_succ, i64_w, i32_w]
     rfl
    refine one_ (i := 3) (N := none) #[true, true, true, true] rfl rfl (by kernel_rfl) (by decide) (fun K hK => ?_)
    have hs33 : w32.cell? ⟨gb169, 0, none⟩ = some (.slice none 0 0) := (blk_cell BK169.out 0).trans rfl
    have hfs33 := zfr BK169 0
    have hns33_0 := NB168_169.out
    have hms33_0 := NB169_168.out
    refine skip_ (w1 := ?_) (by rfl) rfl ?_ ?_
    rotate_left
    ·go_simp
     rfl
    refine hK.out _ _ (((cell_far (p := ⟨gb169, _, none⟩) NB168_169.out _).trans (hHeld))) (fun hHeld => ?_)
    clear hK K
    refine done_ (by kernel_rfl) ?_
    try go_wp2
    refine bodyPost_ret (results_tc rfl _ _ gb169 50 #[.slice Ao31 x169000_1.length co31] (0, 0) _ rfl (by (with_reducible repeat (first | refine blk_drewN ?_ _ | refine blk_drew ?_ | refine blk_alloc ?_ _)); apply blk_put (i := 0); (case h => exact y0 BK169.out); (case e => rfl)) Try.underlying50 rfl (by kernel_rfl)) rfl ?_
    exact ⟨_, _, y15, (by (with_reducible repeat (first | apply Kd.R_alloc | apply Kd.R_drewN | apply Kd.R_drew)); exact Kd.R_mono (Kd.R_far (p := ⟨gb169, 0, none⟩) (Kd.R_types HO_6.out BK169.out (by decide)) (fun _ hk => hk.2) (.slice Ao31 x169000_1.length co31)) (fun _ hk => hk.1)), (by (with_reducible repeat (first | apply Kd.V_alloc | apply Kd.V_drewN | apply Kd.V_drew)); exact Kd.V_mono (Kd.V_far (p := ⟨gb169, 0, none⟩) (Kd.V_mono HO_169000.out (fun k_ hk => (⟨hk, hk.2.2.2.1⟩ : _ ∧ k_ ≠ gb169))) (fun _ hk => hk.2) (.slice Ao31 x169000_1.length co31)) (fun _ hk => ⟨hk.1.1, hk.1.2.1⟩)), (y24 HI0.out NB0_168.out NB0_169.out), (y19 HB.out HI0.out GE168.out GE169.out), (y22 HK.out GW168.out GW169.out)⟩
end Go.Proofs.Ythfflieeifakdaa.PA
end
section
namespace Go.Proofs.Ythfflieeifakdaa.PA
open Go.RowKit Go.Proofs.YthfflieeifakdaaW.PrintWords Go.Proofs.YthfflieeifakdaaW.PrintLast Go.Proofs.YthfflieeifakdaaW.PrintMore
attribute [local go_sem] max2_int min2_int max_two min_two max_three min_three max_four min_four
set_option linter.unusedVariables false
set_option linter.unusedSimpArgs false
def spec_l71Any.f (k : Nat) (s0_0 : List Int) (s0_1 : Int) (l1_0 : List (S50)) : Option (List Int × Int) := (spec_l71Path.f k s0_0 s0_1 l1_0).bind fun bt182 => ((spec_l6Rd_pick.f k s0_0 bt182.2.2 6).bind fun bt190 => (if bt190.1 = 0 then ((spec_l6Rd_pick.f k s0_0 bt190.2 4).bind fun bt192 => (if bt182.1.length < 17592186044416 then (some ((bt182.1 ++ [wrap64 (bt192.1 - 1)]), bt192.2)) else (none))) else (some (bt182.1, bt190.2))))
theorem spec_l71Any.mono : ∀ a0 a1 a2 k, LeO (spec_l71Any.f k a0 a1 a2) (spec_l71Any.f (k + 1) a0 a1 a2) := by
 intro a0 a1 a2 k
 unfold spec_l71Any.f
 repeat' first
   | (with_reducible exact spec_l6Rd_pick.mono _ _ _ _)
   | (with_reducible exact spec_l71Path.mono _ _ _ _)
   | (with_reducible exact LeO.refl _)
   | (with_reducible exact LeO.none _)
   | (with_reducible refine LeO.ite ?_ ?_)
   | (with_reducible refine LeO.bind ?_ (fun _ => ?_))
   | exact spec_l6Rd_pick.mono _ _ _ _
   | exact spec_l71Path.mono _ _ _ _
   | exact LeO.none _
   | refine LeO.ite ?_ ?_
   | refine LeO.bind ?_ (fun _ => ?_)
set_option maxHeartbeats 8000000 in
set_option maxRecDepth 100000 in
theorem spec_l71Any.calls (k : Nat) (g : Nat) (s0_0 : List Int) (s0_1 : Int) (P1_0_ : Nat → Prop) (A1_0 : Option Addr) (c1_0 : Nat) (l1_0 : List (S50)) (r1 : List Int) (r2 : Int) (w0 w : World) (hI : IsS75 w0 w g s0_0 s0_1) (hB : Below w0.heap.size w0 w) (hs1_0 : Kd.V k50 50 w w.heap.size (fun k_ => P1_0_ k_ ∧ k_ ≠ g) (.slice A1_0 l1_0.length c1_0) l1_0) (h : spec_l71Any.f k s0_0 s0_1 l1_0 = some (r1, r2)) :
  Calls Try.prog 34 #[.pointer (some ⟨g, 0, none⟩), .agg #[.slice A1_0 l1_0.length c1_0]] w fun e w' => ∃ v0_ : Value, e = .returned (v0_) ∧ Kd.R (Kd.int .i64) 3 w' w.heap.size (fun k_ => (w.heap.size ≤ k_)) v0_ r1 ∧ IsS75 w0 w' g s0_0 r2 ∧ Below w0.heap.size w0 w' ∧ KeepBut w w' g none := by
 have hu50 := Try.underlying50
 have HO1_0 := Aside0.mk (show Kd.V k50 50 w w.heap.size (fun k_ => (P1_0_ k_ ∨ w.heap.size ≤ k_) ∧ k_ ≠ g) (.slice A1_0 l1_0.length c1_0) l1_0 from Kd.V_mono hs1_0 (fun k_ hk => ⟨.inl hk.1, hk.2⟩))
 have HI0 := Aside0.mk hI
 have HK := Aside0.mk (KeepBut.refl w g none)
 have HL := Aside0.mk hB.size
 clear hI
 have HW0 := Aside0.mk hB.size
 have HB := Aside0.mk hB
 clear hB
 have H : ((spec_l71Path.f k s0_0 s0_1 l1_0).bind fun bt182 => ((spec_l6Rd_pick.f k s0_0 bt182.2.2 6).bind fun bt190 => (if bt190.1 = 0 then ((spec_l6Rd_pick.f k s0_0 bt190.2 4).bind fun bt192 => (if bt182.1.length < 17592186044416 then (some ((bt182.1 ++ [wrap64 (bt192.1 - 1)]), bt192.2)) else (none))) else (some (bt182.1, bt190.2))))) = some (r1, r2) := h
 clear h
 obtain ⟨⟨t182, t185, t188⟩, A30, H⟩ := ob H
 have A3 := Aside0.mk A30
 clear A30
 obtain ⟨⟨t190, t191⟩, A40, H⟩ := ob H
 have A4 := Aside0.mk A40
 clear A40
 have HZ5 := Aside0.mk H
 clear H
 go_enter Try.func34, Try.ntmps34
 go_upto_if 15 with (first | ((with_reducible refine gate_dst (N := 3) rfl ?_); refine zbx 3 #[.slice A1_0 l1_0.length c1_0] 50 ?_; intro gb181 hg w6 hbox hb; replace HO1_0 := Aside0.mk (Kd.V_below (Kd.V_elderB (y11 HO1_0.out) gb181 (Nat.le_of_eq hg.symm)) hb); replace HB := Aside0.mk (below_step (y46 HB.out HI0.out) hb); have BK181 := Aside0.mk hbox; have GW181 := Aside0.mk ((by rw [hg]; exact (keep_size (w := w) (g := g) (row := none) (y40 HK.out)) : w.heap.size ≤ gb181)); have GE181 := Aside0.mk ((Nat.le_trans HW0.out (by rw [hg]; exact (keep_size (w := w) (g := g) (row := none) (y40 HK.out)) : w.heap.size ≤ gb181) : w0.heap.size ≤ gb181)); replace HK := Aside0.mk (KeepBut.trans (y40 HK.out) (KeepBut.of_below hb g none) (.inl rfl)); have NB0_181 := Aside0.mk ((by rw [hg]; exact Nat.ne_of_lt (IsS75.lt (show IsS75 w0 _ g s0_0 s0_1 from by repeat (first | (with_reducible first | exact HI0.out | apply IsS75.alloc | apply IsS75.drewN | apply IsS75.drew | apply IsS75.set_1) | exact HI0.out))) : g ≠ gb181)); have NB181_0 := Aside0.mk ((by rw [hg]; exact Nat.ne_of_gt (IsS75.lt (show IsS75 w0 _ g s0_0 s0_1 from by repeat (first | (with_reducible first | exact HI0.out | apply IsS75.alloc | apply IsS75.drewN | apply IsS75.drew | apply IsS75.set_1) | exact HI0.out))) : gb181 ≠ g)); replace HI0 := Aside0.mk (IsS75.below (y47 HI0.out) hb); clear hb hbox hg; have hnb7 := NB181_0.out; have hnc7 := NB0_181.out; have hcz8_0 := zh BK181; have hfz8_0 := zfr BK181 0) | ((with_reducible refine gate_callee (f := 56) rfl ?_); refine goesL_ (some 10) rfl rfl Try.func56 (by kernel_rfl) rfl #[.pointer (some ⟨g, 0, none⟩), .agg #[.slice A1_0 l1_0.length c1_0]] rfl y9 ?_; (with_reducible refine (spec_l71Path.calls k g s0_0 s0_1 (fun k_ => (((P1_0_ k_ ∨ w.heap.size ≤ k_) ∧ k_ ≠ g) ∧ k_ ≠ gb181)) _ _ l1_0 t182 t185 t188 w0 _ ?side1 ?side2 ?side3 A3.out).mono ?_); (case side1 => exact y35 HI0.out NB0_181.out); (case side2 => exact y31 HB.out HI0.out GE181.out); (case side3 => exact Kd.V_mono (HO1_0.out) (fun k_ hk_ => ⟨hk_, hk_.1.2⟩)); rintro e w9 ⟨v183, v186, rfl, ho0, ho1, hi, hb, hk⟩; refine ⟨_, rfl, ?_⟩; replace HO1_0 := Aside0.mk (Kd.V_mono (Kd.V_told (Kd.V_oldK (Kd.V_mono (ok := fun k_ => ((((P1_0_ k_ ∨ w.heap.size ≤ k_)) ∧ k_ ≠ g) ∧ k_ ≠ gb181)) (y11 HO1_0.out) (fun k_ hk_ => (⟨hk_, hk_.1.2⟩ : _ ∧ k_ ≠ g))) hk) (Kd.R_base ho0)) (fun _ h_ => h_.1)); have HO184 := Aside0.mk (Kd.R_lower (Kd.R_newM (M := fun k_ => (w.heap.size ≤ k_)) (Kd.R_mono (ok' := fun k_ => True) ho0 (fun _ _ => trivial)) (keep_size (w := w) (g := g) (row := none) (y28 HK.out GW181.out)) (fun k_ h_ => h_)) (keep_size (w := w) (g := g) (row := none) (y28 HK.out GW181.out))); have HO187 := Aside0.mk (Kd.V_lower (Kd.V_mono (ok' := fun k_ => (P1_0_ k_ ∨ w.heap.size ≤ k_) ∧ some k_ ≠ (v183 : Value).ownBlock ∧ k_ ≠ gb181 ∧ k_ ≠ g) ho1 (fun k_ hk_ => ⟨Or.elim hk_.1 (fun hs_ => hs_.1.1) (fun hn_ => (.inr (Nat.le_trans (keep_size (w := w) (g := g) (row := none) (y28 HK.out GW181.out)) hn_))), hk_.2, Or.elim hk_.1 (fun hs_ => hs_.2) (fun hn_ => (Kd.freshB (g := gb181) (o := .cells #[.slice A1_0 l1_0.length c1_0] 50 (0, 0)) (y0 BK181.out) k_ hn_)), Or.elim hk_.1 (fun hs_ => hs_.1.2) (fun hn_ => (IsS75.fresh (y35 HI0.out NB0_181.out) k_ hn_))⟩)) (keep_size (w := w) (g := g) (row := none) (y28 HK.out GW181.out))); replace BK181 := Aside0.mk (KeepBut.blk hk (g' := gb181) (o := .cells #[.slice A1_0 l1_0.length c1_0] 50 (0, 0)) (y0 BK181.out) NB181_0.out (by simp)); replace HK := Aside0.mk (KeepBut.trans (y28 HK.out GW181.out) hk (.inl rfl)); replace HB := Aside0.mk (hb); replace HI0 := Aside0.mk (hi); (try clear hb); (try clear hb2); (try clear hk); (try clear hi); (try clear ho0); (try clear ho1)) | ((with_reducible refine gate_dst (N := 6) rfl ?_); refine zbx 6 #[.slice none 0 0] 50 ?_; intro gb189 hg w10 hbox hb; replace HO1_0 := Aside0.mk (Kd.V_below (Kd.V_elderB (y11 HO1_0.out) gb189 (Nat.le_of_eq hg.symm)) hb); replace HO184 := Aside0.mk (Kd.R_below (y8 HO184.out) hb); replace HO187 := Aside0.mk (Kd.V_below (Kd.V_elderB (y11 HO187.out) gb189 (Nat.le_of_eq hg.symm)) hb); replace HB := Aside0.mk (below_step (y31 HB.out HI0.out GE181.out) hb); have BK189 := Aside0.mk hbox; have GW189 := Aside0.mk ((by rw [hg]; exact (keep_size (w := w) (g := g) (row := none) (y28 HK.out GW181.out)) : w.heap.size ≤ gb189)); have GE189 := Aside0.mk ((Nat.le_trans HW0.out (by rw [hg]; exact (keep_size (w := w) (g := g) (row := none) (y28 HK.out GW181.out)) : w.heap.size ≤ gb189) : w0.heap.size ≤ gb189)); replace HK := Aside0.mk (KeepBut.trans (y28 HK.out GW181.out) (KeepBut.of_below hb g none) (.inl rfl)); have NB181_189 := zltn hg BK181; have NB189_181 := zgtn hg BK181; replace BK181 := zbb BK181 hb; have NB0_189 := Aside0.mk ((by rw [hg]; exact Nat.ne_of_lt (IsS75.lt (show IsS75 w0 _ g s0_0 t188 from by repeat (first | (with_reducible first | exact HI0.out | apply IsS75.alloc | apply IsS75.drewN | apply IsS75.drew | apply IsS75.set_1 | refine IsS75.far ?_ NB0_181.out _) | exact HI0.out))) : g ≠ gb189)); have NB189_0 := Aside0.mk ((by rw [hg]; exact Nat.ne_of_gt (IsS75.lt (show IsS75 w0 _ g s0_0 t188 from by repeat (first | (with_reducible first | exact HI0.out | apply IsS75.alloc | apply IsS75.drewN | apply IsS75.drew | apply IsS75.set_1 | refine IsS75.far ?_ NB0_181.out _) | exact HI0.out))) : gb189 ≠ g)); replace HI0 := Aside0.mk (IsS75.below (y35 HI0.out NB0_181.out) hb); clear hb hbox hg; obtain ⟨Ao11, co11, eo11⟩ := Kd.V_slice HO187.out; subst eo11; have hnb12 := NB189_181.out; have hnc12 := NB181_189.out; have hnb13 := NB189_0.out; have hnc13 := NB0_189.out; have hcz14_0 := zh BK189; have hfz14_0 := zfr BK189 0) | ((with_reducible refine gate_callee (f := 32) rfl ?_); refine goesL_ (some 14) rfl rfl Try.func32 (by kernel_rfl) rfl #[.pointer (some ⟨g, 0, none⟩), .int .i64 6] rfl y9 ?_; (with_reducible refine (spec_l6Rd_pick.calls k g s0_0 t188 6 t190 t191 w0 _ ?side1 ?side2 A4.out).mono ?_); (case side1 => exact y24 HI0.out NB0_181.out NB0_189.out); (case side2 => exact y19 HB.out HI0.out GE181.out GE189.out); rintro e w15 ⟨rfl, hi, hb, hk⟩; refine ⟨_, rfl, ?_⟩; replace HO1_0 := Aside0.mk (Kd.V_mono (Kd.V_keep (Kd.V_mono (ok := fun k_ => ((((((P1_0_ k_ ∨ w.heap.size ≤ k_)) ∧ k_ ≠ g) ∧ k_ ≠ gb181) ∧ some k_ ≠ (v183 : Value).ownBlock) ∧ k_ ≠ gb189)) (by (with_reducible repeat (first | apply Kd.V_alloc | apply Kd.V_drewN | apply Kd.V_drew)); exact (Kd.V_mono (Kd.V_far (p := ⟨gb189, 0, none⟩) (Kd.V_mono HO1_0.out (fun k_ hk => (⟨hk, hk.2⟩ : _ ∧ k_ ≠ gb189))) (fun _ hk => hk.2) (.slice Ao11 t185.length co11)) (fun _ h_ => h_.1))) (fun k_ hk_ => (⟨hk_, hk_.1.1.1.2⟩ : _ ∧ k_ ≠ g))) hk (fun _ h => h.2)) (fun _ h => h.1)); replace BK181 := Aside0.mk (KeepBut.blk hk (g' := gb181) (o := .cells #[.slice A1_0 l1_0.length c1_0] 50 (0, 0)) (y13 NB181_189.out BK181.out) NB181_0.out (by simp)); replace HO184 := Aside0.mk (Kd.R_mono (Kd.R_keep (IsS75.apart (show IsS75 w0 _ g s0_0 t188 from by repeat (first | (with_reducible first | exact HI0.out | apply IsS75.alloc | apply IsS75.drewN | apply IsS75.drew | apply IsS75.set_1 | refine IsS75.far ?_ NB0_181.out _ | refine IsS75.far ?_ NB0_189.out _) | exact HI0.out)) (by (with_reducible repeat (first | apply Kd.R_alloc | apply Kd.R_drewN | apply Kd.R_drew)); exact (Kd.R_mono (Kd.R_far (p := ⟨gb189, 0, none⟩) (Kd.R_types HO184.out BK189.out (by decide)) (fun _ hk => hk.2) (.slice Ao11 t185.length co11)) (fun _ h_ => h_.1))) (by decide)) hk (fun _ h => h.2)) (fun _ h => h.1)); replace HO187 := Aside0.mk (Kd.V_mono (Kd.V_keep (Kd.V_mono (ok := fun k_ => ((((P1_0_ k_ ∨ w.heap.size ≤ k_)) ∧ (some k_ ≠ (v183 : Value).ownBlock ∧ (k_ ≠ gb181 ∧ k_ ≠ g))) ∧ k_ ≠ gb189)) (by (with_reducible repeat (first | apply Kd.V_alloc | apply Kd.V_drewN | apply Kd.V_drew)); exact (Kd.V_mono (Kd.V_far (p := ⟨gb189, 0, none⟩) (Kd.V_mono HO187.out (fun k_ hk => (⟨hk, hk.2⟩ : _ ∧ k_ ≠ gb189))) (fun _ hk => hk.2) (.slice Ao11 t185.length co11)) (fun _ h_ => h_.1))) (fun k_ hk_ => (⟨hk_, hk_.1.2.2.2⟩ : _ ∧ k_ ≠ g))) hk (fun _ h => h.2)) (fun _ h => h.1)); replace BK189 := Aside0.mk (KeepBut.blk hk (g' := gb189) (o := .cells #[.slice Ao11 t185.length co11] 50 (0, 0)) (by (with_reducible repeat (first | refine blk_drewN ?_ _ | refine blk_drew ?_ | refine blk_alloc ?_ _)); apply blk_put (i := 0); (case h => exact y0 BK189.out); (case e => rfl)) NB189_0.out (by simp)); replace HK := Aside0.mk (KeepBut.trans (y22 HK.out GW181.out GW189.out) hk (.inl rfl)); replace HB := Aside0.mk (hb); replace HI0 := Aside0.mk (hi); (try clear hb); (try clear hb2); (try clear hk); (try clear hi)))
 (try simp only [Act.put, List.setIfInBounds_toArray, List.set_cons_zero, List.set_cons_succ])
 have H := HZ5.out
 clear HZ5
 by_cases c16 : t190 = 0
 ·rw [if_pos c16] at H
  have c16b0 : (t190 == 0) = true := beq_iff_eq.mpr c16
  have c16b1 : (t190 != 0) = false := bne_eq_false_iff_eq.mpr c16
  clear c16
  (first | rw [c16b0] | (simp only [i64_w, i32_w]; rw [c16b0]) | skip)
  obtain ⟨⟨t192, t193⟩, A170, H⟩ := ob H
  have A17 := Aside0.mk A170
  clear A170
  by_cases c18 : t182.length < 17592186044416
  ·rw [if_pos c18] at H
   have LMc18 := Aside0.mk c18
   clear c18
   obtain ⟨y194, hy194⟩ : ∃ y_ : List Int, y_ = (t182 ++ [wrap64 (t192 - 1)]) := ⟨_, rfl⟩
   replace H : (some (y194, t193)) = some (r1, r2) := by first | (rw [hy194]; with_reducible exact H) | (have H2_ := (Option.bind_some _ _).symm.trans H; rw [hy194]; with_reducible exact H2_) | (have H2_ := (Option.bind_some _ _).symm.trans H; with_reducible exact H2_) | with_reducible exact H | (rw [hy194]; exact H) | exact H
   have Ny194 := Aside0.mk hy194
   clear hy194
   simp only [Option.some.injEq, Prod.mk.injEq] at H
   obtain ⟨rfl, rfl⟩ := H
   go_wp2_with (first | ((with_reducible refine gate_callee (f := 32) rfl ?_); refine goesL_ (some 18) rfl rfl Try.func32 (by kernel_rfl) rfl #[.pointer (some ⟨g, 0, none⟩), .int .i64 4] rfl y9 ?_; (with_reducible refine (spec_l6Rd_pick.calls k g s0_0 t191 4 t192 t193 w0 _ ?side1 ?side2 A17.out).mono ?_); (case side1 => exact y24 HI0.out NB0_181.out NB0_189.out); (case side2 => exact y19 HB.out HI0.out GE181.out GE189.out); rintro e w19 ⟨rfl, hi, hb, hk⟩; refine ⟨_, rfl, ?_⟩; replace HO1_0 := Aside0.mk (Kd.V_mono (Kd.V_keep (Kd.V_mono (ok := fun k_ => ((((((P1_0_ k_ ∨ w.heap.size ≤ k_)) ∧ k_ ≠ g) ∧ k_ ≠ gb181) ∧ some k_ ≠ (v183 : Value).ownBlock) ∧ k_ ≠ gb189)) (y11 HO1_0.out) (fun k_ hk_ => (⟨hk_, hk_.1.1.1.2⟩ : _ ∧ k_ ≠ g))) hk (fun _ h => h.2)) (fun _ h => h.1)); replace BK181 := Aside0.mk (KeepBut.blk hk (g' := gb181) (o := .cells #[.slice A1_0 l1_0.length c1_0] 50 (0, 0)) (y0 BK181.out) NB181_0.out (by simp)); replace HO184 := Aside0.mk (Kd.R_mono (Kd.R_keep (IsS75.apart (show IsS75 w0 _ g s0_0 t191 from by repeat (first | (with_reducible first | exact HI0.out | apply IsS75.alloc | apply IsS75.drewN | apply IsS75.drew | apply IsS75.set_1 | refine IsS75.far ?_ NB0_181.out _ | refine IsS75.far ?_ NB0_189.out _) | exact HI0.out)) (y8 HO184.out) (by decide)) hk (fun _ h => h.2)) (fun _ h => h.1)); replace HO187 := Aside0.mk (Kd.V_mono (Kd.V_keep (Kd.V_mono (ok := fun k_ => ((((P1_0_ k_ ∨ w.heap.size ≤ k_)) ∧ (some k_ ≠ (v183 : Value).ownBlock ∧ (k_ ≠ gb181 ∧ k_ ≠ g))) ∧ k_ ≠ gb189)) (y11 HO187.out) (fun k_ hk_ => (⟨hk_, hk_.1.2.2.2⟩ : _ ∧ k_ ≠ g))) hk (fun _ h => h.2)) (fun _ h => h.1)); replace BK189 := Aside0.mk (KeepBut.blk hk (g' := gb189) (o := .cells #[.slice Ao11 t185.length co11] 50 (0, 0)) (y0 BK189.out) NB189_0.out (by simp)); replace HK := Aside0.mk (KeepBut.trans (y22 HK.out GW181.out GW189.out) hk (.inl rfl)); replace HB := Aside0.mk (hb); replace HI0 := Aside0.mk (hi); (try clear hb); (try clear hb2); (try clear hk); (try clear hi)) | ((with_reducible refine gate_builtin (b := .append) (xs := #[.tmp 16, .tmp 20]) rfl ?_); at_builtin; refine Kd.R_append (Kd.int .i64) w.heap.size rfl (.tmp 16) (.tmp 20) 26 3 (.int .i64 0) 8 rfl Try.underlying26 info3 rfl (by decide) (by omega) v183 t182 (wrap64 (t192 - 1)) [.int .i64 (wrap64 (t192 - 1))] (fun k_ => (w.heap.size ≤ k_)) (fun _ => False) rfl rfl ?aP (fun _ hk => hk.elim) ?aF ?aO (Below.refl _ _) ?aS ?aL ?_; (case aP => exact rfl); (case aF => exact (fun k_ hk => (Nat.le_trans (keep_size (w := w) (g := g) (row := none) (y22 HK.out GW181.out GW189.out)) hk))); (case aO => exact (y83 HO184.out)); (case aS => exact (keep_size (w := w) (g := g) (row := none) (y22 HK.out GW181.out GW189.out))); (case aL => exact y69 LMc18.out); intro v195 w20 ho hb hg hat; rw [← Ny194.out] at ho; replace HO1_0 := Aside0.mk (Kd.V_afterv (ok := (fun k_ => (P1_0_ k_ ∨ w.heap.size ≤ k_) ∧ k_ ≠ g ∧ k_ ≠ gb181 ∧ k_ ≠ gb189)) (by (with_reducible repeat (first | apply Kd.V_alloc | apply Kd.V_drewN | apply Kd.V_drew)); exact Kd.V_mono HO1_0.out (fun _ hk => ⟨⟨hk.1.1.1.1, ⟨hk.1.1.1.2, ⟨hk.1.1.2, hk.2⟩⟩⟩, hk.1.2⟩)) hg hat); replace BK181 := Aside0.mk (blk_grown (g := gb181) (o := .cells #[.slice A1_0 l1_0.length c1_0] 50 (0, 0)) (y0 BK181.out) hg (Kd.R_ne HO184.out BK181.out (by decide))); replace HO187 := Aside0.mk (Kd.V_afterv (ok := (fun k_ => (P1_0_ k_ ∨ w.heap.size ≤ k_) ∧ k_ ≠ gb181 ∧ k_ ≠ g ∧ k_ ≠ gb189)) (by (with_reducible repeat (first | apply Kd.V_alloc | apply Kd.V_drewN | apply Kd.V_drew)); exact Kd.V_mono HO187.out (fun _ hk => ⟨⟨hk.1.1, ⟨hk.1.2.2.1, ⟨hk.1.2.2.2, hk.2⟩⟩⟩, hk.1.2.1⟩)) hg hat); replace BK189 := Aside0.mk (blk_grown (g := gb189) (o := .cells #[.slice Ao11 t185.length co11] 50 (0, 0)) (y0 BK189.out) hg (Kd.R_ne HO184.out BK189.out (by decide))); replace HB := Aside0.mk (below_weaken (y19 HB.out HI0.out GE181.out GE189.out) HL.out hb); replace HI0 := Aside0.mk (IsS75.grown (y24 HI0.out NB0_181.out NB0_189.out) hg (IsS75.own_ne HI0.out HO184.out (by decide))); replace HK := Aside0.mk (KeepBut.trans (y22 HK.out GW181.out GW189.out) (KeepBut.of_grown hg g) (Kd.R_base2 HO184.out)); have HO196 := Aside0.mk (ho); clear HO184; clear ho hb hg hat))
   go_ret
   exact ⟨_, y15, (y8 HO196.out), (y24 HI0.out NB0_181.out NB0_189.out), (y19 HB.out HI0.out GE181.out GE189.out), (y22 HK.out GW181.out GW189.out)⟩
  ·rw [if_neg c18] at H
   exact absurd H (by simp)
 ·rw [if_neg c16] at H
  have c16b0 : (t190 == 0) = false := beq_eq_false_iff_ne.mpr c16
  have c16b1 : (t190 != 0) = true := bne_iff_ne.mpr c16
  (first | rw [c16b0] | (simp only [i64_w, i32_w]; rw [c16b0]) | skip)
  simp only [Option.some.injEq, Prod.mk.injEq] at H
  obtain ⟨rfl, rfl⟩ := H
  go_wp2
  go_ret
  exact ⟨_, y15, (y83 HO184.out), (y24 HI0.out NB0_181.out NB0_189.out), (y19 HB.out HI0.out GE181.out GE189.out), (y22 HK.out GW181.out GW189.out)⟩
end Go.Proofs.Ythfflieeifakdaa.PA
end
section
namespace Go.Proofs.Ythfflieeifakdaa.PA
open Go.RowKit Go.Proofs.YthfflieeifakdaaW.PrintWords Go.Proofs.YthfflieeifakdaaW.PrintLast Go.Proofs.YthfflieeifakdaaW.PrintMore
attribute [local go_sem] max2_int min2_int max_two min_two max_three min_three max_four min_four
set_option linter.unusedVariables false
set_option linter.unusedSimpArgs false
mutual
def spec_l1Deep.j0 : Nat → Int → Bool → List (S50) → Option (Bool)
 | 0, _, _, _ => none
 | k + 1, x1, x19, x218000 => if x19 = true then (some false) else (spec_l1Deep.l0 k x1 0 x218000)
def spec_l1Deep.l0 : Nat → Int → Int → List (S50) → Option (Bool)
 | 0, _, _, _ => none
 | k + 1, x1, x5, x218000 => if x5 < (x218000.length : Int) then (if 0 ≤ x5 then ((spec_l1Deep.f k ((rd_T50 x218000 x5).f0) (wrap64 (x1 - 1))).bind fun t219 => (if t219 = true then (spec_l1Deep.l0 k x1 (wrap64 (x5 + 1)) x218000) else (some false))) else (none)) else (some true)
def spec_l1Deep.f : Nat → List (S50) → Int → Option (Bool)
 | 0, _, _ => none
 | k + 1, l0_0, a1 => if a1 < 1 then (spec_l1Deep.j0 k a1 true l0_0) else (if (l0_0.length : Int) = 0 then (spec_l1Deep.j0 k a1 false l0_0) else (spec_l1Deep.j0 k a1 ((l0_0.length : Int) != 2) l0_0))
end
theorem spec_l1Deep.mono_l : ∀ k, (∀ y0 y1, LeO (spec_l1Deep.f k y0 y1) (spec_l1Deep.f (k + 1) y0 y1)) ∧ (∀ y0 y1 y2, LeO (spec_l1Deep.j0 k y0 y1 y2) (spec_l1Deep.j0 (k + 1) y0 y1 y2)) ∧ (∀ y0 y1 y2, LeO (spec_l1Deep.l0 k y0 y1 y2) (spec_l1Deep.l0 (k + 1) y0 y1 y2))
 | 0 => ⟨fun _ _ r h => by simp [spec_l1Deep.f] at h, fun _ _ _ r h => by simp [spec_l1Deep.j0] at h, fun _ _ _ r h => by simp [spec_l1Deep.l0] at h⟩
 | k + 1 => by
  obtain ⟨ih0, ih1, ih2⟩ := spec_l1Deep.mono_l k
  refine ⟨?_, ?_, ?_⟩
  ·intro y0 y1
   unfold spec_l1Deep.f
   repeat' first
   | (with_reducible exact ih0 _ _)
   | (with_reducible exact ih1 _ _ _)
   | (with_reducible exact ih2 _ _ _)
   | (with_reducible exact LeO.refl _)
   | (with_reducible exact LeO.none _)
   | (with_reducible refine LeO.ite ?_ ?_)
   | (with_reducible refine LeO.bind ?_ (fun _ => ?_))
   | exact ih0 _ _
   | exact ih1 _ _ _
   | exact ih2 _ _ _
   | exact LeO.none _
   | refine LeO.ite ?_ ?_
   | refine LeO.bind ?_ (fun _ => ?_)
  ·intro y0 y1 y2
   unfold spec_l1Deep.j0
   repeat' first
   | (with_reducible exact ih0 _ _)
   | (with_reducible exact ih1 _ _ _)
   | (with_reducible exact ih2 _ _ _)
   | (with_reducible exact LeO.refl _)
   | (with_reducible exact LeO.none _)
   | (with_reducible refine LeO.ite ?_ ?_)
   | (with_reducible refine LeO.bind ?_ (fun _ => ?_))
   | exact ih0 _ _
   | exact ih1 _ _ _
   | exact ih2 _ _ _
   | exact LeO.none _
   | refine LeO.ite ?_ ?_
   | refine LeO.bind ?_ (fun _ => ?_)
  ·intro y0 y1 y2
   unfold spec_l1Deep.l0
   repeat' first
   | (with_reducible exact ih0 _ _)
   | (with_reducible exact ih1 _ _ _)
   | (with_reducible exact ih2 _ _ _)
   | (with_reducible exact LeO.refl _)
   | (with_reducible exact LeO.none _)
   | (with_reducible refine LeO.ite ?_ ?_)
   | (with_reducible refine LeO.bind ?_ (fun _ => ?_))
   | exact ih0 _ _
   | exact ih1 _ _ _
   | exact ih2 _ _ _
   | exact LeO.none _
   | refine LeO.ite ?_ ?_
   | refine LeO.bind ?_ (fun _ => ?_)
theorem spec_l1Deep.mono : ∀ a0 a1 k, LeO (spec_l1Deep.f k a0 a1) (spec_l1Deep.f (k + 1) a0 a1) := by
 intro a0 a1 k
 obtain ⟨ih0, ih1, ih2⟩ := spec_l1Deep.mono_l k
 exact ih0 a0 a1
set_option maxHeartbeats 8000000 in
set_option maxRecDepth 100000 in
theorem spec_l1Deep.calls (k : Nat) : ∀ (A0_0 : Option Addr) (c0_0 : Nat) (l0_0 : List (S50)) (a1 : Int) (r : Bool) (w : World) (hr0_0 : Kd.C k50 w A0_0 l0_0.length l0_0) (hc0_0 : l0_0.length ≤ c0_0) (h : spec_l1Deep.f k l0_0 a1 = some r),
  Calls Try.prog 60 #[.agg #[.slice A0_0 l0_0.length c0_0], .int .i64 a1] w fun e w' => e = .returned (.bool r) ∧ Below w.heap.size w w' := by
 induction k using Nat.strongRecOn with
 | _ k ih =>
 intro A0_0 c0_0 l0_0 a1 r w hr0_0 hc0_0 h
 cases k with
 | zero => exact absurd h (by simp [spec_l1Deep.f])
 | succ k =>
 simp only [spec_l1Deep.f] at h
 have hu50 := Try.underlying50
 have HR0_0 := Aside0.mk hr0_0
 have HC0_0 := Aside0.mk hc0_0
 clear hr0_0 hc0_0
 have HB := Aside0.mk (Below.refl w.heap.size w)
 have H : (if a1 < 1 then (spec_l1Deep.j0 k a1 true l0_0) else (if (l0_0.length : Int) = 0 then (spec_l1Deep.j0 k a1 false l0_0) else (spec_l1Deep.j0 k a1 ((l0_0.length : Int) != 2) l0_0))) = some r := h
 clear h
 have HC3 := Aside0.mk H
 clear H
 go_enter Try.func60, Try.ntmps60
 go_upto_region 1 with (first | ((with_reducible refine gate_dst (N := 2) rfl ?_); (try (refine gate_guard (by rfl) ?_; dsimp only)); refine zbx 2 #[.slice A0_0 l0_0.length c0_0] 50 ?_; intro gb217 hg w4 hbox hb; have BK217 := Aside0.mk hbox; have GW217 := Aside0.mk ((y10 hg HB.out : w.heap.size ≤ gb217)); have GE217 := Aside0.mk ((y10 hg HB.out : w.heap.size ≤ gb217)); replace HB := Aside0.mk (below_step (y6 HB.out) hb); clear hb hbox hg))
 (try simp only [Act.put, List.setIfInBounds_toArray, List.set_cons_zero, List.set_cons_succ])
 go_cut [19] (fun v19 wc => ∃ (kq : Nat) (x19_2 : Bool), v19 = .bool x19_2 ∧ Aside0 (spec_l1Deep.j0 kq a1 x19_2 l0_0 = some r) ∧ Aside0 (kq ≤ k) ∧ Aside0 (wc.heap[gb217]? = some (.cells #[(.slice A0_0 l0_0.length c0_0)] 50 (0, 0))) ∧ Aside0 (Below w.heap.size w wc))
 case first =>
  have H := HC3.out
  clear HC3
  by_cases c5 : a1 < 1
  ·rw [if_pos c5] at H
   have c5b0 : decide (a1 < 1) = true := decide_eq_true c5
   clear c5
   (first | rw [c5b0] | (simp only [i64_w, i32_w]; rw [c5b0]) | skip)
   have H' := Aside0.mk H
   clear H
   go_wp2
   go_meet
   case rel => exact ⟨_, (true), y29, H', ⟨y50⟩, ⟨(y0 BK217.out)⟩, ⟨(y7 HB.out GE217.out)⟩⟩
  ·rw [if_neg c5] at H
   have c5b0 : decide (a1 < 1) = false := decide_eq_false c5
   clear c5
   (first | rw [c5b0] | (simp only [i64_w, i32_w]; rw [c5b0]) | skip)
   by_cases c6 : (l0_0.length : Int) = 0
   ·rw [if_pos c6] at H
    have c6b0 : ((l0_0.length : Int) == 0) = true := beq_iff_eq.mpr c6
    have c6b1 : ((l0_0.length : Int) != 0) = false := bne_eq_false_iff_eq.mpr c6
    clear c6
    have H' := Aside0.mk H
    clear H
    have hcz7_0 := zh BK217
    have hfz7_0 := zfr BK217 0
    go_wp2
    go_meet
    case rel => exact ⟨_, (false), y29, H', ⟨y50⟩, ⟨(y0 BK217.out)⟩, ⟨(y7 HB.out GE217.out)⟩⟩
   ·rw [if_neg c6] at H
    have c6b0 : ((l0_0.length : Int) == 0) = false := beq_eq_false_iff_ne.mpr c6
    have c6b1 : ((l0_0.length : Int) != 0) = true := bne_iff_ne.mpr c6
    have c6b2 : ¬ (l0_0 = []) := fun h_ => c6 (by rw [h_]; rfl)
    have H' := Aside0.mk H
    clear H
    have hcz8_0 := zh BK217
    have hfz8_0 := zfr BK217 0
    go_wp2
    go_meet
    case rel => exact ⟨_, (((l0_0.length : Int) != 2)), y29, H', ⟨y50⟩, ⟨(y0 BK217.out)⟩, ⟨(y7 HB.out GE217.out)⟩⟩
 case rest =>
  clear HC3
  try clear p2
  try clear c5
  try clear c5b0
  try clear c6
  try clear c6b0
  try clear c6b1
  try clear c6b2
  try clear hcz7_0
  try clear hcz8_0
  try clear hfz7_0
  try clear hfz8_0
  obtain ⟨kq, x19_2, rfl, HA, HJ2, BK217, HB⟩ := hcut
  cases kq with
  | zero => exact absurd HA.out (by simp [spec_l1Deep.j0])
  | succ kj2 =>
   have H := HA.out
   clear HA
   simp only [spec_l1Deep.j0] at H
   by_cases c9 : x19_2 = true
   ·subst c9
    rw [if_pos rfl] at H
    obtain rfl := Option.some.inj H
    go_wp2
    go_ret
    exact ⟨y15, (y7 HB.out GE217.out)⟩
   ·replace c9 := Bool.eq_false_iff.mpr c9
    subst c9
    rw [if_neg (show ¬ (false = true) by decide)] at H
    have H' := Aside0.mk H
    clear H
    go_wp2
    go_loopg [5] kj2 (fun kq v5 w' => ∃ (x5_2 : Int), v5 = .int .i64 x5_2 ∧ Aside0 (spec_l1Deep.l0 kq a1 x5_2 l0_0 = some r) ∧ Aside0 (kq ≤ kj2) ∧ Aside0 (w'.heap[gb217]? = some (.cells #[(.slice A0_0 l0_0.length c0_0)] 50 (0, 0))) ∧ Aside0 (Below w.heap.size w w'))
    case atStart => exact ⟨(0), y29, H', ⟨Nat.le_refl _⟩, ⟨(y0 BK217.out)⟩, ⟨(y7 HB.out GE217.out)⟩⟩
    case round =>
     clear H'
     try clear p2
     try clear c5
     try clear c5b0
     try clear c6
     try clear c6b0
     try clear c6b1
     try clear c6b2
     try clear c9
     try clear hcz7_0
     try clear hcz8_0
     try clear hfz7_0
     try clear hfz8_0
     try clear p2
     (try clear BK217)
     obtain ⟨x5_2, rfl, HA, HK2, BK217, HB⟩ := hrel
     cases gk with
     | zero => exact absurd HA.out (by simp [spec_l1Deep.l0])
     | succ k2 =>
      have H := HA.out
      clear HA
      simp only [spec_l1Deep.l0] at H
      by_cases c10 : x5_2 < (l0_0.length : Int)
      ·rw [if_pos c10] at H
       have c10b0 : decide (x5_2 < (l0_0.length : Int)) = true := decide_eq_true c10
       clear c10
       by_cases c11 : 0 ≤ x5_2
       ·rw [if_pos c11] at H
        have c11b0 : decide (0 ≤ x5_2) = true := decide_eq_true c11
        clear c11
        obtain ⟨t219, A120, H⟩ := ob H
        have A12 := Aside0.mk A120
        clear A120
        have HZ13 := Aside0.mk H
        clear H
        have hcz14_0 := zh BK217
        have hfz14_0 := zfr BK217 0
        have p218 : 0 ≤ (x5_2 : Int) := of_decide_eq_true y23
        have q218 : x5_2 < (l0_0.length : Int) := of_decide_eq_true y23
        obtain ⟨ad218, A218_0, c218_0, e218, hx218_0, hl218_0, hi218_0⟩ := at_T50 HR0_0.out x5_2 p218 q218
        cases e218
        replace hx218_0 := (HB.out.cell (World.block_lt_of_cell? w _ hx218_0)).trans hx218_0
        have HR218_0 := Aside0.mk hi218_0
        have HC218_0 := Aside0.mk hl218_0
        clear hi218_0 hl218_0
        replace p218 := eq_true p218
        replace q218 := eq_true q218
        go_upto_if 35 with (first | ((with_reducible refine gate_callee (f := 60) rfl ?_); refine goesL_ (some 34) rfl rfl Try.func60 (by kernel_rfl) rfl #[.agg #[.slice A218_0 ((rd_T50 l0_0 x5_2).f0).length c218_0], .int .i64 (wrap64 (a1 - 1))] rfl y9 ?_; (with_reducible refine (ih k2 (y108 HJ2.out HK2.out) _ _ ((rd_T50 l0_0 x5_2).f0) (wrap64 (a1 - 1)) t219 _ ?side1 ?side2 A12.out).mono ?_); (case side1 => exact y18 HR218_0.out HB.out); (case side2 => exact HC218_0.out); rintro e w15 ⟨rfl, hb⟩; refine ⟨_, rfl, ?_⟩; replace BK217 := zbb BK217 hb; replace HB := Aside0.mk (below_step (y7 HB.out GE217.out) hb); (try clear hb); (try clear hb2); (try clear hk); (try clear hi)))
        (try simp only [Act.put, List.setIfInBounds_toArray, List.set_cons_zero, List.set_cons_succ])
        have H := HZ13.out
        clear HZ13
        by_cases c16 : t219 = true
        ·subst c16
         rw [if_pos rfl] at H
         have H' := Aside0.mk H
         clear H
         go_wp2
         go_roundg k2
         case measure => have := HJ2.out; have := HK2.out; omega
         case rel => exact ⟨(wrap64 (x5_2 + 1)), y29, H', ⟨(y108 HJ2.out HK2.out)⟩, ⟨(y0 BK217.out)⟩, ⟨(y7 HB.out GE217.out)⟩⟩
        ·replace c16 := Bool.eq_false_iff.mpr c16
         subst c16
         rw [if_neg (show ¬ (false = true) by decide)] at H
         obtain rfl := Option.some.inj H
         go_wp2
         go_ret
         exact ⟨y15, (y7 HB.out GE217.out)⟩
       ·rw [if_neg c11] at H
        exact absurd H (by simp)
      ·rw [if_neg c10] at H
       have c10b0 : decide (x5_2 < (l0_0.length : Int)) = false := decide_eq_false c10
       clear c10
       obtain rfl := Option.some.inj H
       have hcz17_0 := zh BK217
       have hfz17_0 := zfr BK217 0
       go_wp2
       go_ret
       exact ⟨y15, (y7 HB.out GE217.out)⟩
end Go.Proofs.Ythfflieeifakdaa.PA
end
section
namespace Go.Proofs.Ythfflieeifakdaa.PA
open Go.RowKit Go.Proofs.YthfflieeifakdaaW.PrintWords Go.Proofs.YthfflieeifakdaaW.PrintLast Go.Proofs.YthfflieeifakdaaW.PrintMore
attribute [local go_sem] max2_int min2_int max_two min_two max_three min_three max_four min_four
set_option linter.unusedVariables false
set_option linter.unusedSimpArgs false
def spec_TypeOk.f (k : Nat) (l0_0 : List (S50)) : Option (Bool) := (spec_l1Deep.f k l0_0 4).bind fun t221 => (some t221)
theorem spec_TypeOk.mono : ∀ a0 k, LeO (spec_TypeOk.f k a0) (spec_TypeOk.f (k + 1) a0) := by
 intro a0 k
 unfold spec_TypeOk.f
 repeat' first
   | (with_reducible exact spec_l1Deep.mono _ _ _)
   | (with_reducible exact LeO.refl _)
   | (with_reducible exact LeO.none _)
   | (with_reducible refine LeO.ite ?_ ?_)
   | (with_reducible refine LeO.bind ?_ (fun _ => ?_))
   | exact spec_l1Deep.mono _ _ _
   | exact LeO.none _
   | refine LeO.ite ?_ ?_
   | refine LeO.bind ?_ (fun _ => ?_)
set_option maxHeartbeats 8000000 in
set_option maxRecDepth 100000 in
theorem spec_TypeOk.calls (k : Nat) (A0_0 : Option Addr) (c0_0 : Nat) (l0_0 : List (S50)) (r : Bool) (w : World) (hr0_0 : Kd.C k50 w A0_0 l0_0.length l0_0) (hc0_0 : l0_0.length ≤ c0_0) (h : spec_TypeOk.f k l0_0 = some r) :
  Calls Try.prog 53 #[.agg #[.slice A0_0 l0_0.length c0_0]] w fun e w' => e = .returned (.bool r) ∧ Below w.heap.size w w' := by
 have hu50 := Try.underlying50
 have HR0_0 := Aside0.mk hr0_0
 have HC0_0 := Aside0.mk hc0_0
 clear hr0_0 hc0_0
 have HB := Aside0.mk (Below.refl w.heap.size w)
 have H : ((spec_l1Deep.f k l0_0 4).bind fun t221 => (some t221)) = some r := h
 clear h
 obtain ⟨t221, A20, H⟩ := ob H
 have A2 := Aside0.mk A20
 clear A20
 obtain rfl := Option.some.inj H
 go_enter Try.func53, Try.ntmps53
 go_wp2_with (first | ((with_reducible refine gate_dst (N := 1) rfl ?_); refine zbx 1 #[.slice A0_0 l0_0.length c0_0] 50 ?_; intro gb220 hg w3 hbox hb; have BK220 := Aside0.mk hbox; have GW220 := Aside0.mk ((y10 hg HB.out : w.heap.size ≤ gb220)); have GE220 := Aside0.mk ((y10 hg HB.out : w.heap.size ≤ gb220)); replace HB := Aside0.mk (below_step (y6 HB.out) hb); clear hb hbox hg; have hcz4_0 := zh BK220; have hfz4_0 := zfr BK220 0) | ((with_reducible refine gate_callee (f := 60) rfl ?_); refine goesL_ (some 4) rfl rfl Try.func60 (by kernel_rfl) rfl #[.agg #[.slice A0_0 l0_0.length c0_0], .int .i64 4] rfl y9 ?_; (with_reducible refine (spec_l1Deep.calls k _ _ l0_0 4 t221 _ ?side1 ?side2 A2.out).mono ?_); (case side1 => exact y18 HR0_0.out HB.out); (case side2 => exact HC0_0.out); rintro e w5 ⟨rfl, hb⟩; refine ⟨_, rfl, ?_⟩; replace BK220 := zbb BK220 hb; replace HB := Aside0.mk (below_step (y7 HB.out GE220.out) hb); (try clear hb); (try clear hb2); (try clear hk); (try clear hi)))
 go_ret
 exact ⟨y15, (y7 HB.out GE220.out)⟩
end Go.Proofs.Ythfflieeifakdaa.PA
end
section
namespace Go.Proofs.Ythfflieeifakdaa.PA
open Go.RowKit Go.Proofs.YthfflieeifakdaaW.PrintWords Go.Proofs.YthfflieeifakdaaW.PrintLast Go.Proofs.YthfflieeifakdaaW.PrintMore
attribute [local go_sem] max2_int min2_int max_two min_two max_three min_three max_four min_four
set_option linter.unusedVariables false
set_option linter.unusedSimpArgs false
def spec_l6In.f (a0 : Int) (a1 : Int) (a2 : Int) : Option (Bool) := if a0 ≥ a1 then (some (decide (a0 ≤ a2))) else (some false)
set_option maxHeartbeats 8000000 in
set_option maxRecDepth 100000 in
theorem spec_l6In.calls (a0 : Int) (a1 : Int) (a2 : Int) (r : Bool) (w : World) (h : spec_l6In.f a0 a1 a2 = some r) :
  Calls Try.prog 36 #[.int .i64 a0, .int .i64 a1, .int .i64 a2] w fun e w' => e = .returned (.bool r) ∧ Drawn0 w w' := by
 have H : (if a0 ≥ a1 then (some (decide (a0 ≤ a2))) else (some false)) = some r := h
 clear h
 by_cases c4 : a0 ≥ a1
 ·rw [if_pos c4] at H
  have c4b0 : decide (a1 ≤ a0) = true := decide_eq_true c4
  clear c4
  obtain rfl := Option.some.inj H
  go_enter Try.func36, Try.ntmps36
  go_wp2
  go_ret
  exact ⟨y29, y73⟩
 ·rw [if_neg c4] at H
  have c4b0 : decide (a1 ≤ a0) = false := decide_eq_false c4
  clear c4
  obtain rfl := Option.some.inj H
  go_enter Try.func36, Try.ntmps36
  go_wp2
  go_ret
  exact ⟨y29, y73⟩
end Go.Proofs.Ythfflieeifakdaa.PA
end
section
namespace Go.Proofs.Ythfflieeifakdaa.PA
open Go.RowKit Go.Proofs.YthfflieeifakdaaW.PrintWords Go.Proofs.YthfflieeifakdaaW.PrintLast Go.Proofs.YthfflieeifakdaaW.PrintMore
attribute [local go_sem] max2_int min2_int max_two min_two max_three min_three max_four min_four
set_option linter.unusedVariables false
set_option linter.unusedSimpArgs false
mutual
def spec_l1Copy.l0 : Nat → Int → List (S50) → List (S50) → Option ((List (S50)))
 | 0, _, _, _ => none
 | k + 1, x4, x649000, x651000 => if x4 < (x649000.length : Int) then (if 0 ≤ x4 then ((spec_l1Copy.f k ((rd_T50 x649000 x4).f0)).bind fun t652 => (if x651000.length < 5864062014805 then (spec_l1Copy.l0 k (wrap64 (x4 + 1)) x649000 (x651000 ++ [(⟨t652⟩ : S50)])) else (none))) else (none)) else (some x651000)
def spec_l1Copy.f : Nat → List (S50) → Option ((List (S50)))
 | 0, _ => none
 | k + 1, l0_0 => spec_l1Copy.l0 k 0 l0_0 ([] : List (S50))
end
theorem spec_l1Copy.mono_l : ∀ k, (∀ y0, LeO (spec_l1Copy.f k y0) (spec_l1Copy.f (k + 1) y0)) ∧ (∀ y0 y1 y2, LeO (spec_l1Copy.l0 k y0 y1 y2) (spec_l1Copy.l0 (k + 1) y0 y1 y2))
 | 0 => ⟨fun _ r h => by simp [spec_l1Copy.f] at h, fun _ _ _ r h => by simp [spec_l1Copy.l0] at h⟩
 | k + 1 => by
  obtain ⟨ih0, ih1⟩ := spec_l1Copy.mono_l k
  refine ⟨?_, ?_⟩
  ·intro y0
   unfold spec_l1Copy.f
   repeat' first
   | (with_reducible exact ih0 _)
   | (with_reducible exact ih1 _ _ _)
   | (with_reducible exact LeO.refl _)
   | (with_reducible exact LeO.none _)
   | (with_reducible refine LeO.ite ?_ ?_)
   | (with_reducible refine LeO.bind ?_ (fun _ => ?_))
   | exact ih0 _
   | exact ih1 _ _ _
   | exact LeO.none _
   | refine LeO.ite ?_ ?_
   | refine LeO.bind ?_ (fun _ => ?_)
  ·intro y0 y1 y2
   unfold spec_l1Copy.l0
   repeat' first
   | (with_reducible exact ih0 _)
   | (with_reducible exact ih1 _ _ _)
   | (with_reducible exact LeO.refl _)
   | (with_reducible exact LeO.none _)
   | (with_reducible refine LeO.ite ?_ ?_)
   | (with_reducible refine LeO.bind ?_ (fun _ => ?_))
   | exact ih0 _
   | exact ih1 _ _ _
   | exact LeO.none _
   | refine LeO.ite ?_ ?_
   | refine LeO.bind ?_ (fun _ => ?_)
theorem spec_l1Copy.mono : ∀ a0 k, LeO (spec_l1Copy.f k a0) (spec_l1Copy.f (k + 1) a0) := by
 intro a0 k
 obtain ⟨ih0, ih1⟩ := spec_l1Copy.mono_l k
 exact ih0 a0
def spec_l1Copy.T5 : Bool × List (List Nat × List Nat) := (true, [([], []), ([0], [0]), ([], []), ([2], [2]), ([], []), ([3, 4], [3, 4]), ([5], [5]), ([6], [6]), ([7], [7]), ([1, 8, 7], [1, 8]), ([0, 1, 2, 3, 4, 5, 6, 7, 8, 9], []), ([10, 9, 9, 0, 1, 2, 3, 4, 5, 6, 7, 8, 9], [9, 10])])
def spec_l1Copy.B5 : List Nat := [0, 1, 0, 4, 0, 28, 60, 124, 252, 511, 1023, 2047]
theorem spec_l1Copy.tab5 : rtab .any (opsOf Try.f58 5) = spec_l1Copy.T5 := by kernel_rfl
theorem spec_l1Copy.bits5 : waitsOk spec_l1Copy.T5.2 spec_l1Copy.B5 = true := by kernel_rfl
set_option maxHeartbeats 8000000 in
set_option maxRecDepth 100000 in
theorem spec_l1Copy.calls (k : Nat) : ∀ (A0_0 : Option Addr) (c0_0 : Nat) (l0_0 : List (S50)) (r : List (S50)) (w : World) (hr0_0 : Kd.C k50 w A0_0 l0_0.length l0_0) (hc0_0 : l0_0.length ≤ c0_0) (h : spec_l1Copy.f k l0_0 = some r),
  Calls Try.prog 58 #[.agg #[.slice A0_0 l0_0.length c0_0]] w fun e w' => ∃ v0_ : Value, e = .returned (.agg #[v0_]) ∧ Kd.R k50 50 w' w.heap.size (fun _ => True) v0_ r ∧ Below w.heap.size w w' := by
 induction k using Nat.strongRecOn with
 | _ k ih =>
 intro A0_0 c0_0 l0_0 r w hr0_0 hc0_0 h
 cases k with
 | zero => exact absurd h (by simp [spec_l1Copy.f])
 | succ k =>
 simp only [spec_l1Copy.f] at h
 have hu50 := Try.underlying50
 have HR0_0 := Aside0.mk hr0_0
 have HC0_0 := Aside0.mk hc0_0
 clear hr0_0 hc0_0
 have HB := Aside0.mk (Below.refl w.heap.size w)
 have H : (spec_l1Copy.l0 k 0 l0_0 ([] : List (S50))) = some r := h
 clear h
 have H' := Aside0.mk H
 clear H
 go_enter Try.func58, Try.ntmps58
 go_wp2_with (first | ((with_reducible refine gate_dst (N := 1) rfl ?_); refine zbx 1 #[.slice A0_0 l0_0.length c0_0] 50 ?_; intro gb648 hg w2 hbox hb; have BK648 := Aside0.mk hbox; have GW648 := Aside0.mk ((y10 hg HB.out : w.heap.size ≤ gb648)); have GE648 := Aside0.mk ((y10 hg HB.out : w.heap.size ≤ gb648)); replace HB := Aside0.mk (below_step (y6 HB.out) hb); clear hb hbox hg) | ((with_reducible refine gate_dst (N := 2) rfl ?_); refine zbx 2 #[.slice none 0 0] 50 ?_; intro gb649 hg w3 hbox hb; have BK649 := Aside0.mk hbox; have GW649 := Aside0.mk ((y12 hg HB.out GE648.out : w.heap.size ≤ gb649)); have GE649 := Aside0.mk ((y12 hg HB.out GE648.out : w.heap.size ≤ gb649)); replace HB := Aside0.mk (below_step (y7 HB.out GE648.out) hb); have NB648_649 := zltn hg BK648; have NB649_648 := zgtn hg BK648; replace BK648 := zbb BK648 hb; clear hb hbox hg) | ((with_reducible refine gate_dst (N := 3) rfl ?_); refine zbx 3 #[.slice none 0 0] 50 ?_; intro gb650 hg w4 hbox hb; have BK650 := Aside0.mk hbox; have GW650 := Aside0.mk ((y16 hg HB.out GE648.out GE649.out : w.heap.size ≤ gb650)); have GE650 := Aside0.mk ((y16 hg HB.out GE648.out GE649.out : w.heap.size ≤ gb650)); replace HB := Aside0.mk (below_step (y3 HB.out GE648.out GE649.out) hb); have NB648_650 := zltn hg BK648; have NB650_648 := zgtn hg BK648; replace BK648 := zbb BK648 hb; have NB649_650 := zltn hg BK649; have NB650_649 := zgtn hg BK649; replace BK649 := zbb BK649 hb; clear hb hbox hg; have hnb5 := NB650_648.out; have hnc5 := NB648_650.out; have hnb6 := NB650_649.out; have hnc6 := NB649_650.out; have hcz7_0 := zh BK650; have hfz7_0 := zfr BK650 0))
 go_loopg [4] k (fun kq v4 w' => ∃ (x4_1 : Int) (x651000_1 : List (S50)) (u651000 : Value), v4 = .int .i64 x4_1 ∧ Aside0 (spec_l1Copy.l0 kq x4_1 l0_0 x651000_1 = some r) ∧ Aside0 (kq ≤ k) ∧ Aside0 (Kd.R k50 50 w' w.heap.size (fun k_ => k_ ≠ gb648 ∧ k_ ≠ gb649 ∧ k_ ≠ gb650) u651000 x651000_1) ∧ Aside0 (w'.heap[gb648]? = some (.cells #[(.slice A0_0 l0_0.length c0_0)] 50 (0, 0))) ∧ Aside0 (w'.heap[gb649]? = some (.cells #[(.slice none 0 0)] 50 (0, 0))) ∧ Aside0 (w'.heap[gb650]? = some (.cells #[u651000] 50 (0, 0))) ∧ Aside0 (Below w.heap.size w w'))
 case atStart => exact ⟨(0), (([] : List (S50))), (.slice none 0 0), y29, H', ⟨Nat.le_refl _⟩, ⟨y38⟩, ⟨(y13 NB648_650.out BK648.out)⟩, ⟨(y13 NB649_650.out BK649.out)⟩, ⟨(by (with_reducible repeat (first | refine blk_drewN ?_ _ | refine blk_drew ?_ | refine blk_alloc ?_ _)); refine blk_put (cs := #[.slice none 0 0]) ?_ 0 _ rfl; (with_reducible repeat (first | refine blk_drewN ?_ _ | refine blk_drew ?_ | refine blk_alloc ?_ _)); exact BK650.out)⟩, ⟨(y4 HB.out GE648.out GE649.out GE650.out)⟩⟩
 case round =>
  clear H'
  try clear p2
  try clear c5
  try clear c6
  try clear hcz7_0
  try clear hfz7_0
  (try clear BK648); (try clear BK649); (try clear BK650)
  obtain ⟨x4_1, x651000_1, u651000, rfl, HA, HK1, HO_651000, BK648, BK649, BK650, HB⟩ := hrel
  cases gk with
  | zero => exact absurd HA.out (by simp [spec_l1Copy.l0])
  | succ k1 =>
   have H := HA.out
   clear HA
   simp only [spec_l1Copy.l0] at H
   by_cases c8 : x4_1 < (l0_0.length : Int)
   ·rw [if_pos c8] at H
    have c8b0 : decide (x4_1 < (l0_0.length : Int)) = true := decide_eq_true c8
    clear c8
    by_cases c9 : 0 ≤ x4_1
    ·rw [if_pos c9] at H
     have c9b0 : decide (0 ≤ x4_1) = true := decide_eq_true c9
     clear c9
     obtain ⟨t652, A100, H⟩ := ob H
     have A10 := Aside0.mk A100
     clear A100
     by_cases c11 : x651000_1.length < 5864062014805
     ·rw [if_pos c11] at H
      have LMc11 := Aside0.mk c11
      clear c11
      obtain ⟨y655, hy655⟩ : ∃ y_ : List (S50), y_ = (x651000_1 ++ [(⟨t652⟩ : S50)]) := ⟨_, rfl⟩
      replace H : (spec_l1Copy.l0 k1 (wrap64 (x4_1 + 1)) l0_0 y655) = some r := by first | (rw [hy655]; with_reducible exact H) | (have H2_ := (Option.bind_some _ _).symm.trans H; rw [hy655]; with_reducible exact H2_) | (have H2_ := (Option.bind_some _ _).symm.trans H; with_reducible exact H2_) | with_reducible exact H | (rw [hy655]; exact H) | exact H
      have Ny655 := Aside0.mk hy655
      clear hy655
      have H' := Aside0.mk H
      clear H
      have hnb12 := NB648_649.out
      have hnc12 := NB649_648.out
      have hnb13 := NB648_650.out
      have hnc13 := NB650_648.out
      have hcz14_0 := zh BK648
      have hfz14_0 := zfr BK648 0
      try go_wp2
      replace HO_651000 := Aside0.mk (Kd.R_drew HO_651000.out)
      replace BK648 := Aside0.mk (blk_drew BK648.out)
      replace BK649 := Aside0.mk (blk_drew BK649.out)
      replace BK650 := Aside0.mk (blk_drew BK650.out)
      replace HB := Aside0.mk (below_drew1 HB.out)
      have p651 : 0 ≤ (x4_1 : Int) := of_decide_eq_true y23
      have q651 : x4_1 < (l0_0.length : Int) := of_decide_eq_true y23
      obtain ⟨ad651, A651_0, c651_0, e651, hx651_0, hl651_0, hi651_0⟩ := at_T50 HR0_0.out x4_1 p651 q651
      have hw651_0 := hx651_0
      cases e651
      replace hx651_0 := (HB.out.cell (World.block_lt_of_cell? w _ hx651_0)).trans hx651_0
      have HR651_0 := Aside0.mk hi651_0
      have HC651_0 := Aside0.mk hl651_0
      clear hi651_0 hl651_0
      replace p651 := eq_true p651
      replace q651 := eq_true q651
      refine start_ (n := 12) (S := fun w' => w'.cell? ⟨gb650, 0, none⟩ = some (u651000) ∧ w'.cell? ⟨gb648, 0, none⟩ = some (.slice (some ad651) l0_0.length c0_0) ∧ w'.cell? (ad651.add (x4_1).toNat) = some (.slice A651_0 ((rd_T50 l0_0 x4_1).f0).length c651_0)) (ds := [11]) #[false, false, false, false, false, false, false, false, false, false, false, false] (by kernel_rfl) rfl rfl ⟨(blk_cell BK650.out 0).trans rfl, (blk_cell BK648.out 0).trans rfl, ((HB.out.cell (World.block_lt_of_cell? w _ hw651_0)).trans hw651_0)⟩ (fun hHeld => ?_); refine with_tabW spec_l1Copy.tab5 spec_l1Copy.bits5 (fun HT_ HW_ => ?_)
      generalize wr.drew = w15 at HO_651000 BK648 BK649 BK650 HB HR651_0 hx651_0 hHeld ⊢
      refine zp 0 (some 13) HT_ ?_
      refine zp 2 (some 15) HT_ ?_
      refine zp 4 (some 17) HT_ ?_
      refine zt3 1 (some 14) HT_ HW_ hHeld ?_
      refine zt3 3 (some 16) HT_ HW_ hHeld ?_
      refine zp 5 (some 18) HT_ ?_
      refine zt3 6 (some 19) HT_ HW_ hHeld ?_
      refine one_ (i := 7) (N := some 20) #[true, true, true, true, true, true, true, true, false, false, false, false] rfl rfl (one_of HT_.out (by kernel_rfl)) (by decide) (fun K hK => ?_)
      refine goes_ Try.func58 (by kernel_rfl) rfl #[.agg #[.slice A651_0 ((rd_T50 l0_0 x4_1).f0).length c651_0]] (by rfl) rfl rfl y9 ?_
      with_reducible refine (ih k1 (y69 HK1.out) _ _ ((rd_T50 l0_0 x4_1).f0) t652 _ ?side1 ?side2 A10.out).mono ?_
      (case side1 => exact y18 HR651_0.out HB.out)
      (case side2 => exact HC651_0.out)
      rintro e w16 ⟨v653, rfl, ho0, hb⟩
      refine ⟨_, rfl, ?_⟩
      have HO654 := Aside0.mk (Kd.R_lower (Kd.R_newB (Kd.R_newB (Kd.R_newB (Kd.R_new' ho0 (Kd.R_lt (y8 HO_651000.out))) (g := gb648) (o := .cells #[.slice (some ad651) l0_0.length c0_0] 50 (0, 0)) (y0 BK648.out)) (g := gb649) (o := .cells #[.slice none 0 0] 50 (0, 0)) (y0 BK649.out)) (g := gb650) (o := .cells #[u651000] 50 (0, 0)) (y0 BK650.out)) (below_size (y4 HB.out GE648.out GE649.out GE650.out)))
      replace HO_651000 := Aside0.mk (Kd.R_elder' (y8 HO_651000.out) (Kd.R_base ho0) hb)
      replace BK648 := zbb BK648 hb
      replace BK649 := zbb BK649 hb
      replace BK650 := zbb BK650 hb
      replace HB := Aside0.mk (below_step (y4 HB.out GE648.out GE649.out GE650.out) hb)
      (try clear hb)
      (try clear hb2)
      (try clear hk)
      (try clear hi)
      (try clear ho0)
      obtain ⟨Ao18, co18, eo18⟩ := Kd.R_slice HO654.out
      (first | subst eo18 | (injection eo18 with f1_ f2_ f3_; have f4_ := f1_.symm; have f5_ := f3_.symm; clear f1_ f2_ f3_; subst f4_; subst f5_))
      refine hK.out _ _ ⟨(blk_cell BK650.out 0).trans rfl, (blk_cell BK648.out 0).trans rfl, ((HB.out.cell (World.block_lt_of_cell? w _ hw651_0)).trans hw651_0)⟩ (fun hHeld => ?_)
      clear hK K
      refine norm_ (a' := ?_) ?_ ?_
      rotate_left
      ·show Act.put _ (some 20) _ = _
       simp only [Act.put, List.setIfInBounds_toArray, List.set_cons_zero, List.set_cons_succ, i64_w, i32_w]
       rfl
      refine one_ (i := 8) (N := some 21) #[true, true, true, true, true, true, true, true, true, false, false, false] rfl rfl (one_of HT_.out (by kernel_rfl)) (by decide) (fun K hK => ?_)
      refine value_ (w1 := ?_) (v := ?_) (by rfl) rfl ?_ ?_
      rotate_left 2
      ·go_simp
       constructor
       ·rfl
       ·rfl
      refine hK.out _ _ ⟨(blk_cell (blk_alloc BK650.out _) 0).trans rfl, (blk_cell (blk_alloc BK648.out _) 0).trans rfl, (World.cell?_alloc_lt _ _ _ (World.block_lt_of_cell? _ _ (((HB.out.cell (World.block_lt_of_cell? w _ hw651_0)).trans hw651_0)))).trans (((HB.out.cell (World.block_lt_of_cell? w _ hw651_0)).trans hw651_0))⟩ (fun hHeld => ?_)
      clear hK K
      refine norm_ (a' := ?_) ?_ ?_
      rotate_left
      ·show Act.put _ (some 21) _ = _
       simp only [Act.put, List.setIfInBounds_toArray, List.set_cons_zero, List.set_cons_succ, i64_w, i32_w]
       rfl
      refine one_ (i := 9) (N := some 22) #[true, true, true, true, true, true, true, true, true, true, false, false] rfl rfl (one_of HT_.out (by kernel_rfl)) (by decide) (fun K hK => ?_)
      refine Kd.R_append_step k50 (w0 := w) w.heap.size (by rfl) (.tmp 14) (.tmp 21) 48 50 (.agg #[(.slice none 0 0)]) 24 rfl Try.underlying48 info50 rfl (by decide) (by omega) u651000 x651000_1 (⟨t652⟩ : S50) [.slice Ao18 t652.length co18] (fun k_ => k_ ≠ gb648 ∧ k_ ≠ gb649 ∧ k_ ≠ gb650) (fun k_ => ((fun k_ => k_ ≠ gb648 ∧ k_ ≠ gb649 ∧ k_ ≠ gb650)) k_ ∧ some k_ ≠ (u651000 : Value).ownBlock) rfl rfl ?aP (fun _ hk => hk) ?aF ?aO ?aB ?aS ?aL ?_
      (case aP => exact k50_mkM _ _ _ (⟨t652⟩ : S50) (Kd.R_mono (HO654.out) (fun k_ hk => ⟨⟨hk.1.1.2, ⟨hk.1.2, hk.2⟩⟩, hk.1.1.1.2⟩)))
      (case aB => exact y91 HB.out GE648.out GE649.out GE650.out)
      (case aF => exact (fun k_ hk => ⟨Kd.freshB (g := gb648) (o := .cells #[.slice (some ad651) l0_0.length c0_0] 50 (0, 0)) (y0 BK648.out) k_ hk, Kd.freshB (g := gb649) (o := .cells #[.slice none 0 0] 50 (0, 0)) (y0 BK649.out) k_ hk, Kd.freshB (g := gb650) (o := .cells #[u651000] 50 (0, 0)) (y0 BK650.out) k_ hk⟩))
      (case aO => exact y102 HO_651000.out)
      (case aS => exact y86 HB.out GE648.out GE649.out GE650.out)
      (case aL => exact y69 LMc11.out)
      intro v656 w17 ho hb hg hat
      rw [← Ny655.out] at ho
      replace BK648 := Aside0.mk (blk_grown (g := gb648) (o := .cells #[.slice (some ad651) l0_0.length c0_0] 50 (0, 0)) (y0 BK648.out) hg (Kd.R_away HO_651000.out (fun _ hk => hk.1.1)))
      replace BK649 := Aside0.mk (blk_grown (g := gb649) (o := .cells #[.slice none 0 0] 50 (0, 0)) (y0 BK649.out) hg (Kd.R_away HO_651000.out (fun _ hk => hk.1.2.1)))
      replace BK650 := Aside0.mk (blk_grown (g := gb650) (o := .cells #[u651000] 50 (0, 0)) (y0 BK650.out) hg (Kd.R_away HO_651000.out (fun _ hk => hk.1.2.2)))
      replace HB := Aside0.mk (hb)
      have HO657 := Aside0.mk (ho)
      clear HO654 HO_651000
      clear ho hb hg hat
      obtain ⟨Ao19, co19, eo19⟩ := Kd.R_slice HO657.out
      (first | subst eo19 | (injection eo19 with f1_ f2_ f3_; have f4_ := f1_.symm; have f5_ := f3_.symm; clear f1_ f2_ f3_; subst f4_; subst f5_))
      refine hK.out _ _ ⟨(blk_cell BK650.out 0).trans rfl, (blk_cell BK648.out 0).trans rfl, ((HB.out.cell (World.block_lt_of_cell? w _ hw651_0)).trans hw651_0)⟩ (fun hHeld => ?_)
      clear hK K
      refine norm_ (a' := ?_) ?_ ?_
      rotate_left
      ·show Act.put _ (some 22) _ = _
       simp only [Act.put, List.setIfInBounds_toArray, List.set_cons_zero, List.set_cons_succ, i64_w, i32_w]
       rfl
      refine zp 10 (some 23) HT_ ?_
      refine last_ (i := 11) (N := none) #[true, true, true, true, true, true, true, true, true, true, true, true] rfl rfl (one_of HT_.out (by kernel_rfl)) (by decide) (fun K hK => ?_)
      have hs20 : w17.cell? ⟨gb650, 0, none⟩ = some (u651000) := (blk_cell BK650.out 0).trans rfl
      have hfs20 := zfr BK650 0
      have hns20_0 := NB648_650.out
      have hns20_1 := NB649_650.out
      have hms20_0 := NB650_648.out
      have hms20_1 := NB650_649.out
      refine skip_ (w1 := ?_) (by rfl) rfl ?_ ?_
      rotate_left
      ·go_simp
       rfl
      refine hK.out _ _ ?_
      clear hK K
      refine done_ (done_of HT_.out (by kernel_rfl)) ?_
      try go_wp2
      go_roundg k1
      case measure => have := HK1.out; omega
      case rel => exact ⟨(wrap64 (x4_1 + 1)), (y655), (.slice Ao19 y655.length co19), y29, H', ⟨(y69 HK1.out)⟩, ⟨(by (with_reducible repeat (first | apply Kd.R_alloc | apply Kd.R_drewN | apply Kd.R_drew)); exact Kd.R_mono (Kd.R_far (p := ⟨gb650, 0, none⟩) (Kd.R_mono HO657.out (fun k_ hk => (⟨hk, hk.2.2⟩ : _ ∧ k_ ≠ gb650))) (fun _ hk => hk.2) (.slice Ao19 y655.length co19)) (fun _ hk => ⟨hk.1.1, ⟨hk.1.2.1, hk.1.2.2⟩⟩))⟩, ⟨(y13 NB648_650.out BK648.out)⟩, ⟨(y13 NB649_650.out BK649.out)⟩, ⟨(by (with_reducible repeat (first | refine blk_drewN ?_ _ | refine blk_drew ?_ | refine blk_alloc ?_ _)); refine blk_put (cs := #[u651000]) ?_ 0 _ rfl; (with_reducible repeat (first | refine blk_drewN ?_ _ | refine blk_drew ?_ | refine blk_alloc ?_ _)); exact BK650.out)⟩, ⟨(y4 HB.out GE648.out GE649.out GE650.out)⟩⟩
     ·rw [if_neg c11] at H
      exact absurd H (by simp)
    ·rw [if_neg c9] at H
     exact absurd H (by simp)
   ·rw [if_neg c8] at H
    have c8b0 : decide (x4_1 < (l0_0.length : Int)) = false := decide_eq_false c8
    clear c8
    obtain rfl := Option.some.inj H
    have hnb21 := NB648_649.out
    have hnc21 := NB649_648.out
    have hnb22 := NB648_650.out
    have hnc22 := NB650_648.out
    have hcz23_0 := zh BK648
    have hfz23_0 := zfr BK648 0
    have hnb24 := NB650_649.out
    have hnc24 := NB649_650.out
    have hcz25_0 := zh BK650
    have hfz25_0 := zfr BK650 0
    obtain ⟨Ao26, co26, eo26⟩ := Kd.R_slice HO_651000.out
    subst eo26
    have hcz27_0 := zh BK649
    have hfz27_0 := zfr BK649 0
    go_wp2
    refine bodyPost_ret (results_cell_row rfl _ _ gb649 50 #[.slice Ao26 x651000_1.length co26] (0, 0) _ rfl (by (with_reducible repeat (first | refine blk_drewN ?_ _ | refine blk_drew ?_ | refine blk_alloc ?_ _)); apply blk_put (i := 0); (case h => exact y0 BK649.out); (case e => rfl)) Try.underlying50 rfl (by kernel_rfl)) rfl ?_
    exact ⟨_, y15, (by (with_reducible repeat (first | apply Kd.R_alloc | apply Kd.R_drewN | apply Kd.R_drew)); exact Kd.R_mono (Kd.R_far (p := ⟨gb649, 0, none⟩) (Kd.R_mono HO_651000.out (fun k_ hk => (⟨hk, hk.2.1⟩ : _ ∧ k_ ≠ gb649))) (fun _ hk => hk.2) (.slice Ao26 x651000_1.length co26)) (fun _ hk => trivial)), (y4 HB.out GE648.out GE649.out GE650.out)⟩
end Go.Proofs.Ythfflieeifakdaa.PA
end
