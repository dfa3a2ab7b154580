-- Written by this session's own program (hfprint) out of the translation. Not trusted: Lean checks it.
import Derived.Test.YtjhbhihfifhljaaPAz
import Derived.Test.YtjhbhihfifhljaaPAx1
namespace Go.Proofs.Ytjhbhihfifhljaa.PA
open Go.RowKit Go.Proofs.YtjhbhihfifhljaaW.PrintWords Go.Proofs.YtjhbhihfifhljaaW.PrintLast Go.Proofs.YtjhbhihfifhljaaW.PrintMore
attribute [local go_sem] max2_int min2_int max_two min_two max_three min_three max_four min_four   -- for this text's walks alone
set_option linter.unusedVariables false
set_option linter.unusedSimpArgs false

/-! ### impl_Type: function 53 -/
def impl_Type.l0 : Nat → List Int → Int → Int → List (S30) → Option ((List (S30)) × Bool)
 | 0, _, _, _, _ => none
 | k + 1, x10, x11, x12, x223000 => if x12 < x11 then (if 0 ≤ x12 then (if x12 < (x10.length : Int) then ((impl_Type_parts.f x223000).bind fun t225 => (if (t225.length : Int) = 2 then (if (rd x10 x12) < 0 then (some (([] : List (S30)), false)) else (if (rd x10 x12) > 1 then (some (([] : List (S30)), false)) else (if 0 ≤ (rd x10 x12) then (if (rd x10 x12) < (t225.length : Int) then (impl_Type.l0 k x10 x11 (wrap64 (x12 + 1)) ((rd_T30 t225 (rd x10 x12)).f0)) else (none)) else (none)))) else (some (([] : List (S30)), false)))) else (none)) else (none)) else (some (x223000, true))
def impl_Type.f (k : Nat) (l0_0 : List (S30)) (l1 : List Int) : Option ((List (S30)) × Bool) := impl_Type.l0 k l1 (l1.length : Int) 0 l0_0
theorem impl_Type.mono_l : ∀ k, (∀ y0 y1 y2 y3, LeO (impl_Type.l0 k y0 y1 y2 y3) (impl_Type.l0 (k + 1) y0 y1 y2 y3))
 | 0 => fun _ _ _ _ r h => by simp [impl_Type.l0] at h
 | k + 1 => by
  have ih0 := impl_Type.mono_l k
  ·intro y0 y1 y2 y3
   unfold impl_Type.l0
   repeat' first
   | (with_reducible exact ih0 _ _ _ _)
   | (with_reducible exact LeO.refl _)
   | (with_reducible exact LeO.none _)
   | (with_reducible refine LeO.ite ?_ ?_)
   | (with_reducible refine LeO.bind ?_ (fun _ => ?_))
   | exact ih0 _ _ _ _
   | exact LeO.none _
   | refine LeO.ite ?_ ?_
   | refine LeO.bind ?_ (fun _ => ?_)
theorem impl_Type.mono : ∀ a0 a1 k, LeO (impl_Type.f k a0 a1) (impl_Type.f (k + 1) a0 a1) := by
 intro a0 a1 k
 have ih0 := impl_Type.mono_l k
 unfold impl_Type.f
 repeat' first
   | (with_reducible exact ih0 _ _ _ _)
   | (with_reducible exact LeO.refl _)
   | (with_reducible exact LeO.none _)
   | (with_reducible refine LeO.ite ?_ ?_)
   | (with_reducible refine LeO.bind ?_ (fun _ => ?_))
   | exact ih0 _ _ _ _
   | exact LeO.none _
   | refine LeO.ite ?_ ?_
   | refine LeO.bind ?_ (fun _ => ?_)
set_option maxHeartbeats 8000000 in
set_option maxRecDepth 100000 in
theorem impl_Type.calls (k : Nat) (P0_0_ : Nat → Prop) (A0_0 : Option Addr) (c0_0 : Nat) (l0_0 : List (S30)) (A1 : Option Addr) (c1 : Nat) (l1 : List Int) (r1 : List (S30)) (r2 : Bool) (w : World) (hs0_0 : Kd.V k30 30 w w.heap.size (fun k_ => P0_0_ k_) (.slice A0_0 l0_0.length c0_0) l0_0) (hr1 : Kd.C (Kd.int .i64) w A1 l1.length l1) (hc1 : l1.length ≤ c1) (h : impl_Type.f k l0_0 l1 = some (r1, r2)) :
  Calls Try.prog 53 #[.agg #[.slice A0_0 l0_0.length c0_0], .slice A1 l1.length c1] w fun e w' => ∃ v0_ : Value, e = .returned (.tuple #[.agg #[v0_], .bool r2]) ∧ Kd.V k30 30 w' w.heap.size (fun k_ => (P0_0_ k_ ∨ w.heap.size ≤ k_)) v0_ r1 ∧ Below w.heap.size w w' := by
 have hu30 := Try.underlying30
 have hna30 : ∀ (v : Value) (W : World), (nilAhead 223 30 v "loop.example/handfast/impl.parts").run Try.prog W = .ok (some false) W := fun _ _ => by kernel_rfl
 have hme30 : ∀ (v : Value) (W : World), (method 223 30 v "loop.example/handfast/impl.parts").run Try.prog W = .ok (104, v) W := fun _ _ => by kernel_rfl
 have HO0_0 := Aside0.mk (show Kd.V k30 30 w w.heap.size (fun k_ => (P0_0_ k_ ∨ w.heap.size ≤ k_)) (.slice A0_0 l0_0.length c0_0) l0_0 from Kd.V_mono hs0_0 (fun k_ hk => .inl hk))
 have HR1 := Aside0.mk hr1
 have HC1 := Aside0.mk hc1
 clear hr1 hc1
 have HB := Aside0.mk (Below.refl w.heap.size w)
 have H : (impl_Type.l0 k l1 (l1.length : Int) 0 l0_0) = some (r1, r2) := h
 clear h
 have H' := Aside0.mk H
 clear H
 go_enter Try.func53, Try.ntmps53
 go_wp2_with (first | ((with_reducible refine gate_dst (N := 2) rfl ?_); refine box_event ?hg (N := 2) ?hd (cs := #[.slice A0_0 l0_0.length c0_0]) (t := 30) ?hr ?_; (case hd => rfl); (case hg => rfl); (case hr => first | (go_simp; done) | (go_simp; rfl)); intro gb222 hg w3 hbox hb; have n0_ := Aside0.mk (Kd.V_below (Kd.V_elderB (y10 HO0_0.out) gb222 (Nat.le_of_eq hg.symm)) hb); have n1_ := Aside0.mk (below_step (y0 HB.out) hb); have n2_ := Aside0.mk (hbox); have n3_ := Aside0.mk ((y3 hg HB.out : w.heap.size ≤ gb222)); have n4_ := Aside0.mk ((y3 hg HB.out : w.heap.size ≤ gb222)); clear HO0_0; clear HB; have HO0_0 := n0_; have HB := n1_; have BK222 := n2_; have GW222 := n3_; have GE222 := n4_; clear n0_ n1_ n2_ n3_ n4_; clear hb hbox hg) | ((with_reducible refine gate_dst (N := 4) rfl ?_); refine box_event ?hg (N := 4) ?hd (cs := #[.slice none 0 0]) (t := 30) ?hr ?_; (case hd => rfl); (case hg => rfl); (case hr => first | (go_simp; done) | (go_simp; rfl)); intro gb223 hg w4 hbox hb; have n0_ := Aside0.mk (Kd.V_below (Kd.V_elderB (y10 HO0_0.out) gb223 (Nat.le_of_eq hg.symm)) hb); have n1_ := Aside0.mk (zbb BK222.out hb); have n2_ := Aside0.mk (below_step (y1 HB.out GE222.out) hb); have n3_ := Aside0.mk (hbox); have n4_ := Aside0.mk ((y5 hg HB.out GE222.out : w.heap.size ≤ gb223)); have n5_ := Aside0.mk ((y5 hg HB.out GE222.out : w.heap.size ≤ gb223)); have n6_ := Aside0.mk (zltn hg BK222.out); have n7_ := Aside0.mk (zgtn hg BK222.out); clear HO0_0; clear BK222; clear HB; have HO0_0 := n0_; have BK222 := n1_; have HB := n2_; have BK223 := n3_; have GW223 := n4_; have GE223 := n5_; have NB222_223 := n6_; have NB223_222 := n7_; clear n0_ n1_ n2_ n3_ n4_ n5_ n6_ n7_; clear hb hbox hg))
 go_loopg [12] k (fun kq v12 w' => ∃ (x12_1 : Int) (x223000_1 : List (S30)) (u223000 : Value), v12 = .int .i64 x12_1 ∧ Aside0 (impl_Type.l0 kq l1 (l1.length : Int) x12_1 x223000_1 = some (r1, r2)) ∧ Aside0 (kq ≤ k) ∧ Aside0 (Kd.V k30 30 w' w.heap.size (fun k_ => (P0_0_ k_ ∨ w.heap.size ≤ k_) ∧ k_ ≠ gb222 ∧ k_ ≠ gb223) u223000 x223000_1) ∧ Aside0 (w'.heap[gb222]? = some (.cells #[u223000] 30 (0, 0))) ∧ Aside0 (w'.heap[gb223]? = some (.cells #[(.slice none 0 0)] 30 (0, 0))) ∧ Aside0 (Below w.heap.size w w'))
 case atStart => exact ⟨(0), (l0_0), (.slice A0_0 l0_0.length c0_0), (by first | rfl | (simp; done) | (simp [*]; done)), H', ⟨Nat.le_refl _⟩, ⟨by (with_reducible repeat (first | apply Kd.V_alloc | apply Kd.V_drewN | apply Kd.V_drew)); exact Kd.V_mono HO0_0.out (fun _ hk => ⟨hk.1.1, ⟨hk.1.2, hk.2⟩⟩)⟩, ⟨by (with_reducible repeat (first | refine blk_drewN ?_ _ | refine blk_drew ?_ | refine blk_alloc ?_ _)); exact BK222.out⟩, ⟨by (with_reducible repeat (first | refine blk_drewN ?_ _ | refine blk_drew ?_ | refine blk_alloc ?_ _)); exact BK223.out⟩, ⟨by repeat (first | (with_reducible first | exact HB.out | apply below_alloc | apply pw_below_drewN | apply below_drew1 | refine below_set ?_ GE222.out | refine below_set ?_ GE223.out) | exact HB.out)⟩⟩
 case round =>
  clear H'
  try clear c1
  try clear p2
  obtain ⟨x12_1, x223000_1, u223000, rfl, HA, HK1, HO_223000, BK222, BK223, HB⟩ := hrel
  cases gk with
  | zero => exact absurd HA.out (by simp [impl_Type.l0])
  | succ k1 =>
   have H := HA.out
   clear HA
   simp only [impl_Type.l0] at H
   by_cases c5 : x12_1 < (l1.length : Int)
   ·rw [if_pos c5] at H
    have c5b0 : decide (x12_1 < (l1.length : Int)) = true := decide_eq_true c5
    clear c5
    by_cases c6 : 0 ≤ x12_1
    ·rw [if_pos c6] at H
     have c6b0 : decide (0 ≤ x12_1) = true := decide_eq_true c6
     clear c6
     by_cases c7 : x12_1 < (l1.length : Int)
     ·rw [if_pos c7] at H
      have c7b0 : decide (x12_1 < (l1.length : Int)) = true := decide_eq_true c7
      clear c7
      replace H := Option.bind_eq_some_iff.mp H
      obtain ⟨t225, A80, H⟩ := H
      replace H : (if (t225.length : Int) = 2 then (if (rd l1 x12_1) < 0 then (some (([] : List (S30)), false)) else (if (rd l1 x12_1) > 1 then (some (([] : List (S30)), false)) else (if 0 ≤ (rd l1 x12_1) then (if (rd l1 x12_1) < (t225.length : Int) then (impl_Type.l0 k1 l1 (l1.length : Int) (wrap64 (x12_1 + 1)) ((rd_T30 t225 (rd l1 x12_1)).f0)) else (none)) else (none)))) else (some (([] : List (S30)), false))) = some (r1, r2) := H
      have A8 := Aside0.mk A80
      clear A80
      by_cases c9 : (t225.length : Int) = 2
      ·rw [if_pos c9] at H
       have c9b0 : ((t225.length : Int) == 2) = true := beq_iff_eq.mpr c9
       have c9b1 : ((t225.length : Int) != 2) = false := bne_eq_false_iff_eq.mpr c9
       clear c9
       by_cases c10 : (rd l1 x12_1) < 0
       ·rw [if_pos c10] at H
        have c10b0 : decide ((rd l1 x12_1) < 0) = true := decide_eq_true c10
        clear c10
        simp only [Option.some.injEq, Prod.mk.injEq] at H
        obtain ⟨rfl, rfl⟩ := H
        have p224 : 0 ≤ (x12_1 : Int) := of_decide_eq_true (by first | (with_reducible assumption) | assumption)
        have q224 : x12_1 < (l1.length : Int) := of_decide_eq_true (by first | (with_reducible assumption) | assumption)
        obtain ⟨ad224, e224, hx224_0⟩ := Kd.at_int HR1.out x12_1 p224 q224
        cases e224
        replace hx224_0 := (HB.out.cell (World.block_lt_of_cell? w _ hx224_0)).trans hx224_0
        replace p224 := eq_true p224
        replace q224 := eq_true q224
        have hnb11 := NB222_223.out
        have hnc11 := NB223_222.out
        have hcz12_0 : wr.cell? ⟨gb222, 0, none⟩ = some (u223000) := (blk_cell BK222.out 0).trans rfl
        have hfz12_0 := blk_frozen BK222.out 0
        obtain ⟨Ao13, co13, eo13⟩ := Kd.V_slice HO_223000.out
        subst eo13
        go_wp2_with (first | (go_at_call 104; (with_reducible refine (impl_Type_parts.calls (fun k_ => ((P0_0_ k_ ∨ w.heap.size ≤ k_) ∧ (k_ ≠ gb222 ∧ k_ ≠ gb223))) _ _ x223000_1 t225 _ ?side1 A8.out).mono ?_); (case side1 => exact HO_223000.out); rintro e w14 ⟨v226, rfl, ho0, hb⟩; replace HO_223000 := Aside0.mk (Kd.V_below (y10 HO_223000.out) hb); have HO227 := Aside0.mk (Kd.V_lower (Kd.V_mono (ok' := fun k_ => (P0_0_ k_ ∨ w.heap.size ≤ k_) ∧ k_ ≠ gb222 ∧ k_ ≠ gb223) ho0 (fun k_ hk_ => ⟨Or.elim hk_ (fun hs_ => hs_.1) (fun hn_ => (.inr (Nat.le_trans (below_size (y2 HB.out GE222.out GE223.out)) hn_))), Or.elim hk_ (fun hs_ => hs_.2.1) (fun hn_ => (Kd.freshB (g := gb222) (o := .cells #[.slice Ao13 x223000_1.length co13] 30 (0, 0)) (y4 BK222.out) k_ hn_)), Or.elim hk_ (fun hs_ => hs_.2.2) (fun hn_ => (Kd.freshB (g := gb223) (o := .cells #[.slice none 0 0] 30 (0, 0)) (y4 BK223.out) k_ hn_))⟩)) (below_size (y2 HB.out GE222.out GE223.out))); replace BK222 := Aside0.mk (zbb BK222.out hb); replace BK223 := Aside0.mk (zbb BK223.out hb); replace HB := Aside0.mk (below_step (y2 HB.out GE222.out GE223.out) hb); (try clear hb); (try clear hb2); (try clear hk); (try clear hi); (try clear ho0); obtain ⟨Ao15, co15, eo15⟩ := Kd.V_slice HO227.out; subst eo15) | ((with_reducible refine gate_dst (N := 9) rfl ?_); refine box_event ?hg (N := 9) ?hd (cs := #[.slice none 0 0]) (t := 30) ?hr ?_; (case hd => rfl); (case hg => rfl); (case hr => first | (go_simp; done) | (go_simp; rfl)); intro gb228 hg w16 hbox hb; have n0_ := Aside0.mk (Kd.V_below (Kd.V_elderB (y10 HO_223000.out) gb228 (Nat.le_of_eq hg.symm)) hb); have n1_ := Aside0.mk (Kd.V_below (Kd.V_elderB (y10 HO227.out) gb228 (Nat.le_of_eq hg.symm)) hb); have n2_ := Aside0.mk (zbb BK222.out hb); have n3_ := Aside0.mk (zbb BK223.out hb); have n4_ := Aside0.mk (below_step (y2 HB.out GE222.out GE223.out) hb); have n5_ := Aside0.mk (hbox); have n6_ := Aside0.mk ((y17 hg HB.out GE222.out GE223.out : w.heap.size ≤ gb228)); have n7_ := Aside0.mk ((y17 hg HB.out GE222.out GE223.out : w.heap.size ≤ gb228)); have n8_ := Aside0.mk (zltn hg BK222.out); have n9_ := Aside0.mk (zgtn hg BK222.out); have n10_ := Aside0.mk (zltn hg BK223.out); have n11_ := Aside0.mk (zgtn hg BK223.out); clear HO_223000; clear HO227; clear BK222; clear BK223; clear HB; have HO_223000 := n0_; have HO227 := n1_; have BK222 := n2_; have BK223 := n3_; have HB := n4_; have BK228 := n5_; have GW228 := n6_; have GE228 := n7_; have NB222_228 := n8_; have NB228_222 := n9_; have NB223_228 := n10_; have NB228_223 := n11_; clear n0_ n1_ n2_ n3_ n4_ n5_ n6_ n7_ n8_ n9_ n10_ n11_; clear hb hbox hg; have hnb17 := NB228_222.out; have hnc17 := NB222_228.out; have hnb18 := NB228_223.out; have hnc18 := NB223_228.out; have hcz19_0 : w16.cell? ⟨gb228, 0, none⟩ = some (.slice none 0 0) := (blk_cell BK228.out 0).trans rfl; have hfz19_0 := blk_frozen BK228.out 0; have hcz20_0 : w16.cell? ⟨gb223, 0, none⟩ = some (.slice none 0 0) := (blk_cell BK223.out 0).trans rfl; have hfz20_0 := blk_frozen BK223.out 0))
        refine bodyPost_ret (results_ct rfl _ _ gb223 30 #[.slice none 0 0] (0, 0) _ rfl (by (with_reducible repeat (first | refine blk_drewN ?_ _ | refine blk_drew ?_ | refine blk_alloc ?_ _)); refine blk_put (cs := #[.slice none 0 0]) ?_ 0 _ rfl; (with_reducible repeat (first | refine blk_drewN ?_ _ | refine blk_drew ?_ | refine blk_alloc ?_ _)); exact BK223.out) Try.underlying30 rfl (by kernel_rfl)) rfl ?_
        exact ⟨_, by first | rfl | (simp [errW_none, errW_some] <;> rfl) | (simp [*, errW_none, errW_some] <;> rfl), Kd.V_nil _ _ _ _ _, by repeat (first | (with_reducible first | exact HB.out | apply below_alloc | apply pw_below_drewN | apply below_drew1 | refine below_set ?_ GE222.out | refine below_set ?_ GE223.out | refine below_set ?_ GE228.out) | exact HB.out)⟩
       ·rw [if_neg c10] at H
        have c10b0 : decide ((rd l1 x12_1) < 0) = false := decide_eq_false c10
        clear c10
        by_cases c21 : (rd l1 x12_1) > 1
        ·rw [if_pos c21] at H
         have c21b0 : decide (1 < (rd l1 x12_1)) = true := decide_eq_true c21
         clear c21
         simp only [Option.some.injEq, Prod.mk.injEq] at H
         obtain ⟨rfl, rfl⟩ := H
         have p224 : 0 ≤ (x12_1 : Int) := of_decide_eq_true (by first | (with_reducible assumption) | assumption)
         have q224 : x12_1 < (l1.length : Int) := of_decide_eq_true (by first | (with_reducible assumption) | assumption)
         obtain ⟨ad224, e224, hx224_0⟩ := Kd.at_int HR1.out x12_1 p224 q224
         cases e224
         replace hx224_0 := (HB.out.cell (World.block_lt_of_cell? w _ hx224_0)).trans hx224_0
         replace p224 := eq_true p224
         replace q224 := eq_true q224
         have hnb22 := NB222_223.out
         have hnc22 := NB223_222.out
         have hcz23_0 : wr.cell? ⟨gb222, 0, none⟩ = some (u223000) := (blk_cell BK222.out 0).trans rfl
         have hfz23_0 := blk_frozen BK222.out 0
         obtain ⟨Ao24, co24, eo24⟩ := Kd.V_slice HO_223000.out
         subst eo24
         go_wp2_with (first | (go_at_call 104; (with_reducible refine (impl_Type_parts.calls (fun k_ => ((P0_0_ k_ ∨ w.heap.size ≤ k_) ∧ (k_ ≠ gb222 ∧ k_ ≠ gb223))) _ _ x223000_1 t225 _ ?side1 A8.out).mono ?_); (case side1 => exact HO_223000.out); rintro e w25 ⟨v226, rfl, ho0, hb⟩; replace HO_223000 := Aside0.mk (Kd.V_below (y10 HO_223000.out) hb); have HO227 := Aside0.mk (Kd.V_lower (Kd.V_mono (ok' := fun k_ => (P0_0_ k_ ∨ w.heap.size ≤ k_) ∧ k_ ≠ gb222 ∧ k_ ≠ gb223) ho0 (fun k_ hk_ => ⟨Or.elim hk_ (fun hs_ => hs_.1) (fun hn_ => (.inr (Nat.le_trans (below_size (y2 HB.out GE222.out GE223.out)) hn_))), Or.elim hk_ (fun hs_ => hs_.2.1) (fun hn_ => (Kd.freshB (g := gb222) (o := .cells #[.slice Ao24 x223000_1.length co24] 30 (0, 0)) (y4 BK222.out) k_ hn_)), Or.elim hk_ (fun hs_ => hs_.2.2) (fun hn_ => (Kd.freshB (g := gb223) (o := .cells #[.slice none 0 0] 30 (0, 0)) (y4 BK223.out) k_ hn_))⟩)) (below_size (y2 HB.out GE222.out GE223.out))); replace BK222 := Aside0.mk (zbb BK222.out hb); replace BK223 := Aside0.mk (zbb BK223.out hb); replace HB := Aside0.mk (below_step (y2 HB.out GE222.out GE223.out) hb); (try clear hb); (try clear hb2); (try clear hk); (try clear hi); (try clear ho0); obtain ⟨Ao26, co26, eo26⟩ := Kd.V_slice HO227.out; subst eo26) | ((with_reducible refine gate_dst (N := 9) rfl ?_); refine box_event ?hg (N := 9) ?hd (cs := #[.slice none 0 0]) (t := 30) ?hr ?_; (case hd => rfl); (case hg => rfl); (case hr => first | (go_simp; done) | (go_simp; rfl)); intro gb229 hg w27 hbox hb; have n0_ := Aside0.mk (Kd.V_below (Kd.V_elderB (y10 HO_223000.out) gb229 (Nat.le_of_eq hg.symm)) hb); have n1_ := Aside0.mk (Kd.V_below (Kd.V_elderB (y10 HO227.out) gb229 (Nat.le_of_eq hg.symm)) hb); have n2_ := Aside0.mk (zbb BK222.out hb); have n3_ := Aside0.mk (zbb BK223.out hb); have n4_ := Aside0.mk (below_step (y2 HB.out GE222.out GE223.out) hb); have n5_ := Aside0.mk (hbox); have n6_ := Aside0.mk ((y17 hg HB.out GE222.out GE223.out : w.heap.size ≤ gb229)); have n7_ := Aside0.mk ((y17 hg HB.out GE222.out GE223.out : w.heap.size ≤ gb229)); have n8_ := Aside0.mk (zltn hg BK222.out); have n9_ := Aside0.mk (zgtn hg BK222.out); have n10_ := Aside0.mk (zltn hg BK223.out); have n11_ := Aside0.mk (zgtn hg BK223.out); clear HO_223000; clear HO227; clear BK222; clear BK223; clear HB; have HO_223000 := n0_; have HO227 := n1_; have BK222 := n2_; have BK223 := n3_; have HB := n4_; have BK229 := n5_; have GW229 := n6_; have GE229 := n7_; have NB222_229 := n8_; have NB229_222 := n9_; have NB223_229 := n10_; have NB229_223 := n11_; clear n0_ n1_ n2_ n3_ n4_ n5_ n6_ n7_ n8_ n9_ n10_ n11_; clear hb hbox hg; have hnb28 := NB229_222.out; have hnc28 := NB222_229.out; have hnb29 := NB229_223.out; have hnc29 := NB223_229.out; have hcz30_0 : w27.cell? ⟨gb229, 0, none⟩ = some (.slice none 0 0) := (blk_cell BK229.out 0).trans rfl; have hfz30_0 := blk_frozen BK229.out 0; have hcz31_0 : w27.cell? ⟨gb223, 0, none⟩ = some (.slice none 0 0) := (blk_cell BK223.out 0).trans rfl; have hfz31_0 := blk_frozen BK223.out 0))
         refine bodyPost_ret (results_ct rfl _ _ gb223 30 #[.slice none 0 0] (0, 0) _ rfl (by (with_reducible repeat (first | refine blk_drewN ?_ _ | refine blk_drew ?_ | refine blk_alloc ?_ _)); refine blk_put (cs := #[.slice none 0 0]) ?_ 0 _ rfl; (with_reducible repeat (first | refine blk_drewN ?_ _ | refine blk_drew ?_ | refine blk_alloc ?_ _)); exact BK223.out) Try.underlying30 rfl (by kernel_rfl)) rfl ?_
         exact ⟨_, by first | rfl | (simp [errW_none, errW_some] <;> rfl) | (simp [*, errW_none, errW_some] <;> rfl), Kd.V_nil _ _ _ _ _, by repeat (first | (with_reducible first | exact HB.out | apply below_alloc | apply pw_below_drewN | apply below_drew1 | refine below_set ?_ GE222.out | refine below_set ?_ GE223.out | refine below_set ?_ GE229.out) | exact HB.out)⟩
        ·rw [if_neg c21] at H
         have c21b0 : decide (1 < (rd l1 x12_1)) = false := decide_eq_false c21
         clear c21
         by_cases c32 : 0 ≤ (rd l1 x12_1)
         ·rw [if_pos c32] at H
          have c32b0 : decide (0 ≤ (rd l1 x12_1)) = true := decide_eq_true c32
          clear c32
          by_cases c33 : (rd l1 x12_1) < (t225.length : Int)
          ·rw [if_pos c33] at H
           have c33b0 : decide ((rd l1 x12_1) < (t225.length : Int)) = true := decide_eq_true c33
           clear c33
           have H' := Aside0.mk H
           clear H
           have p224 : 0 ≤ (x12_1 : Int) := of_decide_eq_true (by first | (with_reducible assumption) | assumption)
           have q224 : x12_1 < (l1.length : Int) := of_decide_eq_true (by first | (with_reducible assumption) | assumption)
           obtain ⟨ad224, e224, hx224_0⟩ := Kd.at_int HR1.out x12_1 p224 q224
           cases e224
           replace hx224_0 := (HB.out.cell (World.block_lt_of_cell? w _ hx224_0)).trans hx224_0
           replace p224 := eq_true p224
           replace q224 := eq_true q224
           have hnb34 := NB222_223.out
           have hnc34 := NB223_222.out
           have hcz35_0 : wr.cell? ⟨gb222, 0, none⟩ = some (u223000) := (blk_cell BK222.out 0).trans rfl
           have hfz35_0 := blk_frozen BK222.out 0
           obtain ⟨Ao36, co36, eo36⟩ := Kd.V_slice HO_223000.out
           subst eo36
           go_wp2_with (first | (go_at_call 104; (with_reducible refine (impl_Type_parts.calls (fun k_ => ((P0_0_ k_ ∨ w.heap.size ≤ k_) ∧ (k_ ≠ gb222 ∧ k_ ≠ gb223))) _ _ x223000_1 t225 _ ?side1 A8.out).mono ?_); (case side1 => exact HO_223000.out); rintro e w37 ⟨v226, rfl, ho0, hb⟩; replace HO_223000 := Aside0.mk (Kd.V_below (y10 HO_223000.out) hb); have HO227 := Aside0.mk (Kd.V_lower (Kd.V_mono (ok' := fun k_ => (P0_0_ k_ ∨ w.heap.size ≤ k_) ∧ k_ ≠ gb222 ∧ k_ ≠ gb223) ho0 (fun k_ hk_ => ⟨Or.elim hk_ (fun hs_ => hs_.1) (fun hn_ => (.inr (Nat.le_trans (below_size (y2 HB.out GE222.out GE223.out)) hn_))), Or.elim hk_ (fun hs_ => hs_.2.1) (fun hn_ => (Kd.freshB (g := gb222) (o := .cells #[.slice Ao36 x223000_1.length co36] 30 (0, 0)) (y4 BK222.out) k_ hn_)), Or.elim hk_ (fun hs_ => hs_.2.2) (fun hn_ => (Kd.freshB (g := gb223) (o := .cells #[.slice none 0 0] 30 (0, 0)) (y4 BK223.out) k_ hn_))⟩)) (below_size (y2 HB.out GE222.out GE223.out))); replace BK222 := Aside0.mk (zbb BK222.out hb); replace BK223 := Aside0.mk (zbb BK223.out hb); replace HB := Aside0.mk (below_step (y2 HB.out GE222.out GE223.out) hb); (try clear hb); (try clear hb2); (try clear hk); (try clear hi); (try clear ho0); obtain ⟨Ao38, co38, eo38⟩ := Kd.V_slice HO227.out; subst eo38; have p230 : 0 ≤ ((rd l1 x12_1) : Int) := of_decide_eq_true (by first | (with_reducible assumption) | assumption); have q230 : (rd l1 x12_1) < (t225.length : Int) := of_decide_eq_true (by first | (with_reducible assumption) | assumption); obtain ⟨ad230, A230_0, c230_0, e230, hx230_0, hl230_0, hi230_0⟩ := at_T30 (Kd.V_reads' HO227.out).2.2 (rd l1 x12_1) p230 q230; cases e230; obtain ⟨ce230, hce230, hMe230, hcc230⟩ := Kd.V_get HO227.out z30 (rd l1 x12_1) p230 (by first | exact q230 | exact of_decide_eq_true (by first | (with_reducible assumption) | assumption) | (have e_ := (Kd.V_reads' HO227.out).1; omega)); obtain ⟨ua230_0, uc230_0, rfl, ul230_0, ge230_0⟩ := k30_openF hMe230; have hv230_0 := hcc230 0 _ rfl; rw [Nat.add_zero, show (k30).sz = 1 from rfl, Nat.mul_one] at hv230_0; replace hv230_0 := Option.some.inj (hv230_0.symm.trans hx230_0); injection hv230_0 with hva_ hvn_ hvc_; rw [hva_] at ge230_0; rw [hvc_] at ul230_0; have HL230_0 := Aside0.mk (show Kd.V k30 30 _ w.heap.size _ _ ((rd_T30 t225 (rd l1 x12_1)).f0) from Kd.V_mk ul230_0 ge230_0); clear hva_ hvn_ hvc_ ge230_0 ul230_0; clear hcc230 hce230; have HR230_0 := Aside0.mk hi230_0; have HC230_0 := Aside0.mk hl230_0; clear hi230_0 hl230_0; replace p230 := eq_true p230; replace q230 := eq_true q230; have hcz39_0 : w37.cell? ⟨gb222, 0, none⟩ = some (.slice Ao36 x223000_1.length co36) := (blk_cell BK222.out 0).trans rfl; have hfz39_0 := blk_frozen BK222.out 0))
           go_roundg k1
           case measure => have := HK1.out; omega
           case rel => exact ⟨(wrap64 (x12_1 + 1)), ((rd_T30 t225 (rd l1 x12_1)).f0), (.slice A230_0 ((rd_T30 t225 (rd l1 x12_1)).f0).length c230_0), (by first | rfl | (simp; done) | (simp [*]; done)), H', ⟨by have := HK1.out; omega⟩, ⟨by (with_reducible repeat (first | apply Kd.V_alloc | apply Kd.V_drewN | apply Kd.V_drew)); exact Kd.V_mono (Kd.V_far (p := ⟨gb222, 0, none⟩) (Kd.V_mono HL230_0.out (fun k_ hk => (⟨hk, hk.2.1⟩ : _ ∧ k_ ≠ gb222))) (fun _ hk => hk.2) (.slice A230_0 ((rd_T30 t225 (rd l1 x12_1)).f0).length c230_0)) (fun _ hk => ⟨hk.1.1, ⟨hk.1.2.1, hk.1.2.2⟩⟩)⟩, ⟨by (with_reducible repeat (first | refine blk_drewN ?_ _ | refine blk_drew ?_ | refine blk_alloc ?_ _)); refine blk_put (cs := #[.slice Ao36 x223000_1.length co36]) ?_ 0 _ rfl; (with_reducible repeat (first | refine blk_drewN ?_ _ | refine blk_drew ?_ | refine blk_alloc ?_ _)); exact BK222.out⟩, ⟨by (with_reducible repeat (first | refine blk_drewN ?_ _ | refine blk_drew ?_ | refine blk_alloc ?_ _)); refine blk_far ?_ NB223_222.out _; (with_reducible repeat (first | refine blk_drewN ?_ _ | refine blk_drew ?_ | refine blk_alloc ?_ _)); exact BK223.out⟩, ⟨by repeat (first | (with_reducible first | exact HB.out | apply below_alloc | apply pw_below_drewN | apply below_drew1 | refine below_set ?_ GE222.out | refine below_set ?_ GE223.out) | exact HB.out)⟩⟩
          ·rw [if_neg c33] at H
           exact absurd H (by simp)
         ·rw [if_neg c32] at H
          exact absurd H (by simp)
      ·rw [if_neg c9] at H
       have c9b0 : ((t225.length : Int) == 2) = false := beq_eq_false_iff_ne.mpr c9
       have c9b1 : ((t225.length : Int) != 2) = true := bne_iff_ne.mpr c9
       simp only [Option.some.injEq, Prod.mk.injEq] at H
       obtain ⟨rfl, rfl⟩ := H
       have p224 : 0 ≤ (x12_1 : Int) := of_decide_eq_true (by first | (with_reducible assumption) | assumption)
       have q224 : x12_1 < (l1.length : Int) := of_decide_eq_true (by first | (with_reducible assumption) | assumption)
       obtain ⟨ad224, e224, hx224_0⟩ := Kd.at_int HR1.out x12_1 p224 q224
       cases e224
       replace hx224_0 := (HB.out.cell (World.block_lt_of_cell? w _ hx224_0)).trans hx224_0
       replace p224 := eq_true p224
       replace q224 := eq_true q224
       have hnb40 := NB222_223.out
       have hnc40 := NB223_222.out
       have hcz41_0 : wr.cell? ⟨gb222, 0, none⟩ = some (u223000) := (blk_cell BK222.out 0).trans rfl
       have hfz41_0 := blk_frozen BK222.out 0
       obtain ⟨Ao42, co42, eo42⟩ := Kd.V_slice HO_223000.out
       subst eo42
       go_wp2_with (first | (go_at_call 104; (with_reducible refine (impl_Type_parts.calls (fun k_ => ((P0_0_ k_ ∨ w.heap.size ≤ k_) ∧ (k_ ≠ gb222 ∧ k_ ≠ gb223))) _ _ x223000_1 t225 _ ?side1 A8.out).mono ?_); (case side1 => exact HO_223000.out); rintro e w43 ⟨v226, rfl, ho0, hb⟩; replace HO_223000 := Aside0.mk (Kd.V_below (y10 HO_223000.out) hb); have HO227 := Aside0.mk (Kd.V_lower (Kd.V_mono (ok' := fun k_ => (P0_0_ k_ ∨ w.heap.size ≤ k_) ∧ k_ ≠ gb222 ∧ k_ ≠ gb223) ho0 (fun k_ hk_ => ⟨Or.elim hk_ (fun hs_ => hs_.1) (fun hn_ => (.inr (Nat.le_trans (below_size (y2 HB.out GE222.out GE223.out)) hn_))), Or.elim hk_ (fun hs_ => hs_.2.1) (fun hn_ => (Kd.freshB (g := gb222) (o := .cells #[.slice Ao42 x223000_1.length co42] 30 (0, 0)) (y4 BK222.out) k_ hn_)), Or.elim hk_ (fun hs_ => hs_.2.2) (fun hn_ => (Kd.freshB (g := gb223) (o := .cells #[.slice none 0 0] 30 (0, 0)) (y4 BK223.out) k_ hn_))⟩)) (below_size (y2 HB.out GE222.out GE223.out))); replace BK222 := Aside0.mk (zbb BK222.out hb); replace BK223 := Aside0.mk (zbb BK223.out hb); replace HB := Aside0.mk (below_step (y2 HB.out GE222.out GE223.out) hb); (try clear hb); (try clear hb2); (try clear hk); (try clear hi); (try clear ho0); obtain ⟨Ao44, co44, eo44⟩ := Kd.V_slice HO227.out; subst eo44) | ((with_reducible refine gate_dst (N := 9) rfl ?_); refine box_event ?hg (N := 9) ?hd (cs := #[.slice none 0 0]) (t := 30) ?hr ?_; (case hd => rfl); (case hg => rfl); (case hr => first | (go_simp; done) | (go_simp; rfl)); intro gb231 hg w45 hbox hb; have n0_ := Aside0.mk (Kd.V_below (Kd.V_elderB (y10 HO_223000.out) gb231 (Nat.le_of_eq hg.symm)) hb); have n1_ := Aside0.mk (Kd.V_below (Kd.V_elderB (y10 HO227.out) gb231 (Nat.le_of_eq hg.symm)) hb); have n2_ := Aside0.mk (zbb BK222.out hb); have n3_ := Aside0.mk (zbb BK223.out hb); have n4_ := Aside0.mk (below_step (y2 HB.out GE222.out GE223.out) hb); have n5_ := Aside0.mk (hbox); have n6_ := Aside0.mk ((y17 hg HB.out GE222.out GE223.out : w.heap.size ≤ gb231)); have n7_ := Aside0.mk ((y17 hg HB.out GE222.out GE223.out : w.heap.size ≤ gb231)); have n8_ := Aside0.mk (zltn hg BK222.out); have n9_ := Aside0.mk (zgtn hg BK222.out); have n10_ := Aside0.mk (zltn hg BK223.out); have n11_ := Aside0.mk (zgtn hg BK223.out); clear HO_223000; clear HO227; clear BK222; clear BK223; clear HB; have HO_223000 := n0_; have HO227 := n1_; have BK222 := n2_; have BK223 := n3_; have HB := n4_; have BK231 := n5_; have GW231 := n6_; have GE231 := n7_; have NB222_231 := n8_; have NB231_222 := n9_; have NB223_231 := n10_; have NB231_223 := n11_; clear n0_ n1_ n2_ n3_ n4_ n5_ n6_ n7_ n8_ n9_ n10_ n11_; clear hb hbox hg; have hnb46 := NB231_222.out; have hnc46 := NB222_231.out; have hnb47 := NB231_223.out; have hnc47 := NB223_231.out; have hcz48_0 : w45.cell? ⟨gb231, 0, none⟩ = some (.slice none 0 0) := (blk_cell BK231.out 0).trans rfl; have hfz48_0 := blk_frozen BK231.out 0; have hcz49_0 : w45.cell? ⟨gb223, 0, none⟩ = some (.slice none 0 0) := (blk_cell BK223.out 0).trans rfl; have hfz49_0 := blk_frozen BK223.out 0))
       refine bodyPost_ret (results_ct rfl _ _ gb223 30 #[.slice none 0 0] (0, 0) _ rfl (by (with_reducible repeat (first | refine blk_drewN ?_ _ | refine blk_drew ?_ | refine blk_alloc ?_ _)); refine blk_put (cs := #[.slice none 0 0]) ?_ 0 _ rfl; (with_reducible repeat (first | refine blk_drewN ?_ _ | refine blk_drew ?_ | refine blk_alloc ?_ _)); exact BK223.out) Try.underlying30 rfl (by kernel_rfl)) rfl ?_
       exact ⟨_, by first | rfl | (simp [errW_none, errW_some] <;> rfl) | (simp [*, errW_none, errW_some] <;> rfl), Kd.V_nil _ _ _ _ _, by repeat (first | (with_reducible first | exact HB.out | apply below_alloc | apply pw_below_drewN | apply below_drew1 | refine below_set ?_ GE222.out | refine below_set ?_ GE223.out | refine below_set ?_ GE231.out) | exact HB.out)⟩
     ·rw [if_neg c7] at H
      exact absurd H (by simp)
    ·rw [if_neg c6] at H
     exact absurd H (by simp)
   ·rw [if_neg c5] at H
    have c5b0 : decide (x12_1 < (l1.length : Int)) = false := decide_eq_false c5
    clear c5
    simp only [Option.some.injEq, Prod.mk.injEq] at H
    obtain ⟨rfl, rfl⟩ := H
    have hnb50 := NB222_223.out
    have hnc50 := NB223_222.out
    have hcz51_0 : wr.cell? ⟨gb222, 0, none⟩ = some (u223000) := (blk_cell BK222.out 0).trans rfl
    have hfz51_0 := blk_frozen BK222.out 0
    obtain ⟨Ao52, co52, eo52⟩ := Kd.V_slice HO_223000.out
    subst eo52
    have hcz53_0 : wr.cell? ⟨gb223, 0, none⟩ = some (.slice none 0 0) := (blk_cell BK223.out 0).trans rfl
    have hfz53_0 := blk_frozen BK223.out 0
    go_wp2
    refine bodyPost_ret (results_ct rfl _ _ gb223 30 #[.slice Ao52 x223000_1.length co52] (0, 0) _ rfl (by (with_reducible repeat (first | refine blk_drewN ?_ _ | refine blk_drew ?_ | refine blk_alloc ?_ _)); refine blk_put (cs := #[.slice none 0 0]) ?_ 0 _ rfl; (with_reducible repeat (first | refine blk_drewN ?_ _ | refine blk_drew ?_ | refine blk_alloc ?_ _)); exact BK223.out) Try.underlying30 rfl (by kernel_rfl)) rfl ?_
    exact ⟨_, by first | rfl | (simp [errW_none, errW_some] <;> rfl) | (simp [*, errW_none, errW_some] <;> rfl), by (with_reducible repeat (first | apply Kd.V_alloc | apply Kd.V_drewN | apply Kd.V_drew)); exact Kd.V_mono (Kd.V_far (p := ⟨gb223, 0, none⟩) (Kd.V_mono HO_223000.out (fun k_ hk => (⟨hk, hk.2.2⟩ : _ ∧ k_ ≠ gb223))) (fun _ hk => hk.2) (.slice Ao52 x223000_1.length co52)) (fun _ hk => hk.1.1), by repeat (first | (with_reducible first | exact HB.out | apply below_alloc | apply pw_below_drewN | apply below_drew1 | refine below_set ?_ GE222.out | refine below_set ?_ GE223.out) | exact HB.out)⟩

end Go.Proofs.Ytjhbhihfifhljaa.PA
