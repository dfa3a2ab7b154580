-- Ytdgpegkgelciaaa's texts for the statement FnExactSimpSize, one behind the other (merge.py).
import Derived.Test.YtdgpegkgelciaaaQFnExactSimpSize0
section
namespace Go.Proofs.Ytdgpegkgelciaaa.PA
open Go.RowKit Go.Proofs.YtdgpegkgelciaaaW.PrintWords Go.Proofs.YtdgpegkgelciaaaW.PrintLast Go.Proofs.YtdgpegkgelciaaaW.PrintMore
attribute [local go_sem] max2_int min2_int max_two min_two max_three min_three max_four min_four
set_option linter.unusedVariables false
set_option linter.unusedSimpArgs false
def laws_szTerm.F (rec_ : List (S96) → Int → Option (Int)) (k : Nat) (a0_0 : Int) (a0_1 : Int) (a0_2 : ByteArray) (l0_3 : List Int) (l0_4 : List (S96)) (a1 : Int) : Option (Int) := if (wrap64 (a1 - (a0_2.size : Int))) < 0 then (some (-1)) else ((laws_szIntS.f l0_3 (wrap64 (a1 - (a0_2.size : Int)))).bind fun t108 => (if t108 < 0 then (some (-1)) else ((rec_ l0_4 t108).bind fun t109 => (if t109 < 0 then (some (-1)) else (some t109)))))
mutual
def laws_szTermS.l0 : Nat → List (S96) → Int → Int → Option (Int)
 | 0, _, _, _ => none
 | k + 1, x0, x1, x5 => if x5 < (x0.length : Int) then (if 0 ≤ x5 then ((laws_szTerm.F (laws_szTermS.f k) k ((rd_T96 x0 x5).f0) ((rd_T96 x0 x5).f1) ((rd_T96 x0 x5).f2) ((rd_T96 x0 x5).f3) ((rd_T96 x0 x5).f4) x1).bind fun t111 => (if t111 < 0 then (some (-1)) else (laws_szTermS.l0 k x0 t111 (wrap64 (x5 + 1))))) else (none)) else (some x1)
def laws_szTermS.f : Nat → List (S96) → Int → Option (Int)
 | 0, _, _ => none
 | k + 1, l0, a1 => if (wrap64 (a1 - (l0.length : Int))) < 0 then (some (-1)) else (laws_szTermS.l0 k l0 (wrap64 (a1 - (l0.length : Int))) 0)
end
theorem laws_szTerm.Fmono {rec_ rec2_ : List (S96) → Int → Option (Int)} (hrec : (∀ y0 y1, LeO (rec_ y0 y1) (rec2_ y0 y1))) : ∀ a0 a1 a2 a3 a4 a5 k, LeO (laws_szTerm.F rec_ k a0 a1 a2 a3 a4 a5) (laws_szTerm.F rec2_ (k + 1) a0 a1 a2 a3 a4 a5) := by
 intro a0 a1 a2 a3 a4 a5 k
 unfold laws_szTerm.F
 repeat' first
   | (with_reducible exact hrec _ _)
   | (with_reducible exact LeO.refl _)
   | (with_reducible exact LeO.none _)
   | (with_reducible refine LeO.ite ?_ ?_)
   | (with_reducible refine LeO.bind ?_ (fun _ => ?_))
   | exact hrec _ _
   | exact LeO.none _
   | refine LeO.ite ?_ ?_
   | refine LeO.bind ?_ (fun _ => ?_)
theorem laws_szTermS.mono_l : ∀ k, (∀ y0 y1, LeO (laws_szTermS.f k y0 y1) (laws_szTermS.f (k + 1) y0 y1)) ∧ (∀ y0 y1 y2, LeO (laws_szTermS.l0 k y0 y1 y2) (laws_szTermS.l0 (k + 1) y0 y1 y2))
 | 0 => ⟨fun _ _ r h => by simp [laws_szTermS.f] at h, fun _ _ _ r h => by simp [laws_szTermS.l0] at h⟩
 | k + 1 => by
  obtain ⟨ih0, ih1⟩ := laws_szTermS.mono_l k
  refine ⟨?_, ?_⟩
  ·intro y0 y1
   unfold laws_szTermS.f
   repeat' first
   | (with_reducible exact ih0 _ _)
   | (with_reducible exact ih1 _ _ _)
   | (with_reducible exact laws_szTerm.Fmono ih0 _ _ _ _ _ _ _)
   | (with_reducible exact LeO.refl _)
   | (with_reducible exact LeO.none _)
   | (with_reducible refine LeO.ite ?_ ?_)
   | (with_reducible refine LeO.bind ?_ (fun _ => ?_))
   | exact ih0 _ _
   | exact ih1 _ _ _
   | exact laws_szTerm.Fmono ih0 _ _ _ _ _ _ _
   | exact LeO.none _
   | refine LeO.ite ?_ ?_
   | refine LeO.bind ?_ (fun _ => ?_)
  ·intro y0 y1 y2
   unfold laws_szTermS.l0
   repeat' first
   | (with_reducible exact ih0 _ _)
   | (with_reducible exact ih1 _ _ _)
   | (with_reducible exact laws_szTerm.Fmono ih0 _ _ _ _ _ _ _)
   | (with_reducible exact LeO.refl _)
   | (with_reducible exact LeO.none _)
   | (with_reducible refine LeO.ite ?_ ?_)
   | (with_reducible refine LeO.bind ?_ (fun _ => ?_))
   | exact ih0 _ _
   | exact ih1 _ _ _
   | exact laws_szTerm.Fmono ih0 _ _ _ _ _ _ _
   | exact LeO.none _
   | refine LeO.ite ?_ ?_
   | refine LeO.bind ?_ (fun _ => ?_)
theorem laws_szTermS.mono : ∀ a0 a1 k, LeO (laws_szTermS.f k a0 a1) (laws_szTermS.f (k + 1) a0 a1) := by
 intro a0 a1 k
 obtain ⟨ih0, ih1⟩ := laws_szTermS.mono_l k
 exact ih0 a0 a1
set_option maxHeartbeats 8000000 in
set_option maxRecDepth 100000 in
theorem laws_szTerm.Fcalls (rec_ : List (S96) → Int → Option (Int)) (IH : ∀ (A0 : Option Addr) (c0 : Nat) (l0 : List (S96)) (a1 : Int) (r : Int) (w : World) (hr0 : Kd.C k96 w A0 l0.length l0) (hc0 : l0.length ≤ c0) (h : rec_ l0 a1 = some r),
  Calls Try.prog 48 #[.slice A0 l0.length c0, .int .i64 a1] w fun e w' => e = .returned (.int .i64 r) ∧ Below w.heap.size w w') (k : Nat) (a0_0 : Int) (a0_1 : Int) (a0_2 : ByteArray) (A0_3 : Option Addr) (c0_3 : Nat) (l0_3 : List Int) (A0_4 : Option Addr) (c0_4 : Nat) (l0_4 : List (S96)) (a1 : Int) (r : Int) (w : World) (hr0_3 : Kd.C (Kd.int .i64) w A0_3 l0_3.length l0_3) (hc0_3 : l0_3.length ≤ c0_3) (hr0_4 : Kd.C k96 w A0_4 l0_4.length l0_4) (hc0_4 : l0_4.length ≤ c0_4) (h : laws_szTerm.F rec_ k a0_0 a0_1 a0_2 l0_3 l0_4 a1 = some r) :
  Calls Try.prog 60 #[.agg #[.int .i64 a0_0, .int .i64 a0_1, .string a0_2, .slice A0_3 l0_3.length c0_3, .slice A0_4 l0_4.length c0_4], .int .i64 a1] w fun e w' => e = .returned (.int .i64 r) ∧ Below w.heap.size w w' := by
 have hu96 := Try.underlying96
 have HR0_3 := Aside0.mk hr0_3
 have HC0_3 := Aside0.mk hc0_3
 clear hr0_3 hc0_3
 have HR0_4 := Aside0.mk hr0_4
 have HC0_4 := Aside0.mk hc0_4
 clear hr0_4 hc0_4
 have HB := Aside0.mk (Below.refl w.heap.size w)
 have H : (if (wrap64 (a1 - (a0_2.size : Int))) < 0 then (some (-1)) else ((laws_szIntS.f l0_3 (wrap64 (a1 - (a0_2.size : Int)))).bind fun t108 => (if t108 < 0 then (some (-1)) else ((rec_ l0_4 t108).bind fun t109 => (if t109 < 0 then (some (-1)) else (some t109)))))) = some r := h
 clear h
 have HZ3 := Aside0.mk H
 clear H
 go_enter Try.func60, Try.ntmps60
 go_upto_if 11 with (first | ((with_reducible refine gate_dst (N := 2) rfl ?_); refine zbx 2 #[.int .i64 a0_0, .int .i64 a0_1, .string a0_2, .slice A0_3 l0_3.length c0_3, .slice A0_4 l0_4.length c0_4] 96 ?_; intro gb107 hg w4 hbox hb; have BK107 := Aside0.mk hbox; have GW107 := Aside0.mk ((y9 hg HB.out : w.heap.size ≤ gb107)); have GE107 := Aside0.mk ((y9 hg HB.out : w.heap.size ≤ gb107)); replace HB := Aside0.mk (below_step (y1 HB.out) hb); clear hb hbox hg; have hcz5_0 := zh BK107; have hcz5_1 := zh1 BK107; have hcz5_2 := zh2 BK107; have hcz5_3 : w4.cell? ⟨gb107, 3, none⟩ = some (.slice A0_3 l0_3.length c0_3) := (blk_cell BK107.out 3).trans rfl; have hcz5_4 : w4.cell? ⟨gb107, 4, none⟩ = some (.slice A0_4 l0_4.length c0_4) := (blk_cell BK107.out 4).trans rfl; have hfz5_0 := zfr BK107 0; have hfz5_1 := zfr BK107 1; have hfz5_2 := zfr BK107 2; have hfz5_3 := zfr BK107 3; have hfz5_4 := zfr BK107 4))
 (try simp only [Act.put, List.setIfInBounds_toArray, List.set_cons_zero, List.set_cons_succ])
 have H := HZ3.out
 clear HZ3
 by_cases c6 : (wrap64 (a1 - (a0_2.size : Int))) < 0
 ·rw [if_pos c6] at H
  have c6b0 : decide ((wrap64 (a1 - (a0_2.size : Int))) < 0) = true := decide_eq_true c6
  clear c6
  (first | rw [c6b0] | (simp only [i64_w, i32_w]; rw [c6b0]) | skip)
  obtain rfl := Option.some.inj H
  go_wp2
  go_ret
  exact ⟨y6, (y2 HB.out GE107.out)⟩
 ·rw [if_neg c6] at H
  have c6b0 : decide ((wrap64 (a1 - (a0_2.size : Int))) < 0) = false := decide_eq_false c6
  clear c6
  (first | rw [c6b0] | (simp only [i64_w, i32_w]; rw [c6b0]) | skip)
  obtain ⟨t108, A70, H⟩ := ob H
  have A7 := Aside0.mk A70
  clear A70
  have HZ8 := Aside0.mk H
  clear H
  have hcz9_0 := zh BK107
  have hcz9_1 := zh1 BK107
  have hcz9_2 := zh2 BK107
  have hcz9_3 : w4.cell? ⟨gb107, 3, none⟩ = some (.slice A0_3 l0_3.length c0_3) := (blk_cell BK107.out 3).trans rfl
  have hcz9_4 : w4.cell? ⟨gb107, 4, none⟩ = some (.slice A0_4 l0_4.length c0_4) := (blk_cell BK107.out 4).trans rfl
  have hfz9_0 := zfr BK107 0
  have hfz9_1 := zfr BK107 1
  have hfz9_2 := zfr BK107 2
  have hfz9_3 := zfr BK107 3
  have hfz9_4 := zfr BK107 4
  go_upto_if 17 with (first | ((with_reducible refine gate_callee (f := 67) rfl ?_); refine goesL_ (some 15) rfl rfl Try.func67 (by kernel_rfl) rfl #[.slice A0_3 l0_3.length c0_3, .int .i64 (wrap64 (a1 - (a0_2.size : Int)))] rfl y3 ?_; (with_reducible refine (laws_szIntS.calls _ _ l0_3 (wrap64 (a1 - (a0_2.size : Int))) t108 _ ?side1 ?side2 A7.out).mono ?_); (case side1 => exact y0 HR0_3.out HB.out); (case side2 => exact HC0_3.out); rintro e w' ⟨rfl, ⟨nd, rfl⟩⟩; refine ⟨_, rfl, ?_⟩))
  (try simp only [Act.put, List.setIfInBounds_toArray, List.set_cons_zero, List.set_cons_succ])
  have H := HZ8.out
  clear HZ8
  by_cases c10 : t108 < 0
  ·rw [if_pos c10] at H
   have c10b0 : decide (t108 < 0) = true := decide_eq_true c10
   clear c10
   (first | rw [c10b0] | (simp only [i64_w, i32_w]; rw [c10b0]) | skip)
   obtain rfl := Option.some.inj H
   go_wp2
   go_ret
   exact ⟨y6, (y2 HB.out GE107.out)⟩
  ·rw [if_neg c10] at H
   have c10b0 : decide (t108 < 0) = false := decide_eq_false c10
   clear c10
   (first | rw [c10b0] | (simp only [i64_w, i32_w]; rw [c10b0]) | skip)
   obtain ⟨t109, A110, H⟩ := ob H
   have A11 := Aside0.mk A110
   clear A110
   have HZ12 := Aside0.mk H
   clear H
   have hcz13_0 := zh BK107
   have hcz13_1 := zh1 BK107
   have hcz13_2 := zh2 BK107
   have hcz13_3 : w4.cell? ⟨gb107, 3, none⟩ = some (.slice A0_3 l0_3.length c0_3) := (blk_cell BK107.out 3).trans rfl
   have hcz13_4 : w4.cell? ⟨gb107, 4, none⟩ = some (.slice A0_4 l0_4.length c0_4) := (blk_cell BK107.out 4).trans rfl
   have hfz13_0 := zfr BK107 0
   have hfz13_1 := zfr BK107 1
   have hfz13_2 := zfr BK107 2
   have hfz13_3 := zfr BK107 3
   have hfz13_4 := zfr BK107 4
   go_upto_if 23 with (first | ((with_reducible refine gate_callee (f := 48) rfl ?_); refine goesL_ (some 21) rfl rfl Try.func48 (by kernel_rfl) rfl #[.slice A0_4 l0_4.length c0_4, .int .i64 t108] rfl y3 ?_; (with_reducible refine (IH  _ _ l0_4 t108 t109 _ ?side1 ?side2 A11.out).mono ?_); (case side1 => exact y20 HR0_4.out HB.out GE107.out); (case side2 => exact HC0_4.out); rintro e w14 ⟨rfl, hb⟩; refine ⟨_, rfl, ?_⟩; replace BK107 := zbb BK107 hb; replace HB := Aside0.mk (below_step (y2 HB.out GE107.out) hb); (try clear hb); (try clear hb2); (try clear hk); (try clear hi)))
   (try simp only [Act.put, List.setIfInBounds_toArray, List.set_cons_zero, List.set_cons_succ])
   have H := HZ12.out
   clear HZ12
   by_cases c15 : t109 < 0
   ·rw [if_pos c15] at H
    have c15b0 : decide (t109 < 0) = true := decide_eq_true c15
    clear c15
    (first | rw [c15b0] | (simp only [i64_w, i32_w]; rw [c15b0]) | skip)
    obtain rfl := Option.some.inj H
    go_wp2
    go_ret
    exact ⟨y6, (y2 HB.out GE107.out)⟩
   ·rw [if_neg c15] at H
    have c15b0 : decide (t109 < 0) = false := decide_eq_false c15
    clear c15
    (first | rw [c15b0] | (simp only [i64_w, i32_w]; rw [c15b0]) | skip)
    obtain rfl := Option.some.inj H
    go_wp2
    go_ret
    exact ⟨y6, (y2 HB.out GE107.out)⟩
set_option maxHeartbeats 8000000 in
set_option maxRecDepth 100000 in
theorem laws_szTermS.calls (k : Nat) : ∀ (A0 : Option Addr) (c0 : Nat) (l0 : List (S96)) (a1 : Int) (r : Int) (w : World) (hr0 : Kd.C k96 w A0 l0.length l0) (hc0 : l0.length ≤ c0) (h : laws_szTermS.f k l0 a1 = some r),
  Calls Try.prog 48 #[.slice A0 l0.length c0, .int .i64 a1] w fun e w' => e = .returned (.int .i64 r) ∧ Below w.heap.size w w' := by
 induction k using Nat.strongRecOn with
 | _ k ih =>
 intro A0 c0 l0 a1 r w hr0 hc0 h
 cases k with
 | zero => exact absurd h (by simp [laws_szTermS.f])
 | succ k =>
 simp only [laws_szTermS.f] at h
 have hu96 := Try.underlying96
 have HR0 := Aside0.mk hr0
 have HC0 := Aside0.mk hc0
 clear hr0 hc0
 have HB := Aside0.mk (Below.refl w.heap.size w)
 have H : (if (wrap64 (a1 - (l0.length : Int))) < 0 then (some (-1)) else (laws_szTermS.l0 k l0 (wrap64 (a1 - (l0.length : Int))) 0)) = some r := h
 clear h
 by_cases c3 : (wrap64 (a1 - (l0.length : Int))) < 0
 ·rw [if_pos c3] at H
  have c3b0 : decide ((wrap64 (a1 - (l0.length : Int))) < 0) = true := decide_eq_true c3
  clear c3
  obtain rfl := Option.some.inj H
  go_enter Try.func48, Try.ntmps48
  go_wp2
  go_ret
  exact ⟨y6, (y1 HB.out)⟩
 ·rw [if_neg c3] at H
  have c3b0 : decide ((wrap64 (a1 - (l0.length : Int))) < 0) = false := decide_eq_false c3
  clear c3
  have H' := Aside0.mk H
  clear H
  go_enter Try.func48, Try.ntmps48
  go_wp2
  go_loopg [1, 5] k (fun kq v1 v5 w' => ∃ (x1_1 : Int) (x5_1 : Int), v1 = .int .i64 x1_1 ∧ v5 = .int .i64 x5_1 ∧ Aside0 (laws_szTermS.l0 kq l0 x1_1 x5_1 = some r) ∧ Aside0 (kq ≤ k) ∧ Aside0 (Below w.heap.size w w'))
  case atStart => exact ⟨(wrap64 (a1 - (l0.length : Int))), (0), y7, y7, H', ⟨Nat.le_refl _⟩, ⟨(y1 HB.out)⟩⟩
  case round =>
   clear H'
   try clear p2
   try clear c3
   try clear c3b0
   obtain ⟨x1_1, x5_1, rfl, rfl, HA, HK1, HB⟩ := hrel
   cases gk with
   | zero => exact absurd HA.out (by simp [laws_szTermS.l0])
   | succ k1 =>
    have H := HA.out
    clear HA
    simp only [laws_szTermS.l0] at H
    by_cases c4 : x5_1 < (l0.length : Int)
    ·rw [if_pos c4] at H
     have c4b0 : decide (x5_1 < (l0.length : Int)) = true := decide_eq_true c4
     clear c4
     by_cases c5 : 0 ≤ x5_1
     ·rw [if_pos c5] at H
      have c5b0 : decide (0 ≤ x5_1) = true := decide_eq_true c5
      clear c5
      obtain ⟨t111, A60, H⟩ := ob H
      have A6 := Aside0.mk A60
      clear A60
      have HZ7 := Aside0.mk H
      clear H
      have p110 : 0 ≤ (x5_1 : Int) := of_decide_eq_true y4
      have q110 : x5_1 < (l0.length : Int) := of_decide_eq_true y4
      obtain ⟨ad110, A110_3, c110_3, A110_4, c110_4, e110, hx110_0, hx110_1, hx110_2, hx110_3, hx110_4, hl110_3, hi110_3, hl110_4, hi110_4⟩ := at_T96 HR0.out x5_1 p110 q110
      cases e110
      replace hx110_0 := (HB.out.cell (World.block_lt_of_cell? w _ hx110_0)).trans hx110_0
      replace hx110_1 := (HB.out.cell (World.block_lt_of_cell? w _ hx110_1)).trans hx110_1
      replace hx110_2 := (HB.out.cell (World.block_lt_of_cell? w _ hx110_2)).trans hx110_2
      replace hx110_3 := (HB.out.cell (World.block_lt_of_cell? w _ hx110_3)).trans hx110_3
      replace hx110_4 := (HB.out.cell (World.block_lt_of_cell? w _ hx110_4)).trans hx110_4
      have HR110_3 := Aside0.mk hi110_3
      have HC110_3 := Aside0.mk hl110_3
      clear hi110_3 hl110_3
      have HR110_4 := Aside0.mk hi110_4
      have HC110_4 := Aside0.mk hl110_4
      clear hi110_4 hl110_4
      replace p110 := eq_true p110
      replace q110 := eq_true q110
      go_upto_if 25 with (first | ((with_reducible refine gate_callee (f := 60) rfl ?_); refine goesL_ (some 23) rfl rfl Try.func60 (by kernel_rfl) rfl #[.agg #[.int .i64 ((rd_T96 l0 x5_1).f0), .int .i64 ((rd_T96 l0 x5_1).f1), .string ((rd_T96 l0 x5_1).f2), .slice A110_3 ((rd_T96 l0 x5_1).f3).length c110_3, .slice A110_4 ((rd_T96 l0 x5_1).f4).length c110_4], .int .i64 x1_1] rfl y3 ?_; (with_reducible refine (laws_szTerm.Fcalls (laws_szTermS.f k1) (ih k1 (y30 HK1.out)) k1 ((rd_T96 l0 x5_1).f0) ((rd_T96 l0 x5_1).f1) ((rd_T96 l0 x5_1).f2) _ _ ((rd_T96 l0 x5_1).f3) _ _ ((rd_T96 l0 x5_1).f4) x1_1 t111 _ ?side1 ?side2 ?side3 ?side4 A6.out).mono ?_); (case side1 => exact y0 HR110_3.out HB.out); (case side2 => exact HC110_3.out); (case side3 => exact y0 HR110_4.out HB.out); (case side4 => exact HC110_4.out); rintro e w8 ⟨rfl, hb⟩; refine ⟨_, rfl, ?_⟩; replace HB := Aside0.mk (below_step (y1 HB.out) hb); (try clear hb); (try clear hb2); (try clear hk); (try clear hi)))
      (try simp only [Act.put, List.setIfInBounds_toArray, List.set_cons_zero, List.set_cons_succ])
      have H := HZ7.out
      clear HZ7
      by_cases c9 : t111 < 0
      ·rw [if_pos c9] at H
       have c9b0 : decide (t111 < 0) = true := decide_eq_true c9
       clear c9
       (first | rw [c9b0] | (simp only [i64_w, i32_w]; rw [c9b0]) | skip)
       obtain rfl := Option.some.inj H
       go_wp2
       go_ret
       exact ⟨y6, (y1 HB.out)⟩
      ·rw [if_neg c9] at H
       have c9b0 : decide (t111 < 0) = false := decide_eq_false c9
       clear c9
       (first | rw [c9b0] | (simp only [i64_w, i32_w]; rw [c9b0]) | skip)
       have H' := Aside0.mk H
       clear H
       go_wp2
       go_roundg k1
       case measure => have := HK1.out; omega
       case rel => exact ⟨(t111), (wrap64 (x5_1 + 1)), y7, y7, H', ⟨(y30 HK1.out)⟩, ⟨(y1 HB.out)⟩⟩
     ·rw [if_neg c5] at H
      exact absurd H (by simp)
    ·rw [if_neg c4] at H
     have c4b0 : decide (x5_1 < (l0.length : Int)) = false := decide_eq_false c4
     clear c4
     obtain rfl := Option.some.inj H
     go_wp2
     go_ret
     exact ⟨y6, (y1 HB.out)⟩
def laws_szTerm.f (k : Nat) (a0_0 : Int) (a0_1 : Int) (a0_2 : ByteArray) (l0_3 : List Int) (l0_4 : List (S96)) (a1 : Int) : Option (Int) := laws_szTerm.F (laws_szTermS.f k) k a0_0 a0_1 a0_2 l0_3 l0_4 a1
theorem laws_szTerm.mono : ∀ a0 a1 a2 a3 a4 a5 k, LeO (laws_szTerm.f k a0 a1 a2 a3 a4 a5) (laws_szTerm.f (k + 1) a0 a1 a2 a3 a4 a5) := fun a0 a1 a2 a3 a4 a5 k => laws_szTerm.Fmono (fun y0 y1 => laws_szTermS.mono y0 y1 k) a0 a1 a2 a3 a4 a5 k
theorem laws_szTerm.calls (k : Nat) (a0_0 : Int) (a0_1 : Int) (a0_2 : ByteArray) (A0_3 : Option Addr) (c0_3 : Nat) (l0_3 : List Int) (A0_4 : Option Addr) (c0_4 : Nat) (l0_4 : List (S96)) (a1 : Int) (r : Int) (w : World) (hr0_3 : Kd.C (Kd.int .i64) w A0_3 l0_3.length l0_3) (hc0_3 : l0_3.length ≤ c0_3) (hr0_4 : Kd.C k96 w A0_4 l0_4.length l0_4) (hc0_4 : l0_4.length ≤ c0_4) (h : laws_szTerm.f k a0_0 a0_1 a0_2 l0_3 l0_4 a1 = some r) :
  Calls Try.prog 60 #[.agg #[.int .i64 a0_0, .int .i64 a0_1, .string a0_2, .slice A0_3 l0_3.length c0_3, .slice A0_4 l0_4.length c0_4], .int .i64 a1] w fun e w' => e = .returned (.int .i64 r) ∧ Below w.heap.size w w' := laws_szTerm.Fcalls (laws_szTermS.f k) (laws_szTermS.calls k) k a0_0 a0_1 a0_2 A0_3 c0_3 l0_3 A0_4 c0_4 l0_4 a1 r w hr0_3 hc0_3 hr0_4 hc0_4 h
end Go.Proofs.Ytdgpegkgelciaaa.PA
end
section
namespace Go.Proofs.Ytdgpegkgelciaaa.PA
open Go.RowKit Go.Proofs.YtdgpegkgelciaaaW.PrintWords Go.Proofs.YtdgpegkgelciaaaW.PrintLast Go.Proofs.YtdgpegkgelciaaaW.PrintMore
attribute [local go_sem] max2_int min2_int max_two min_two max_three min_three max_four min_four
set_option linter.unusedVariables false
set_option linter.unusedSimpArgs false
def laws_szBody.F (rec_ : List (S93) → Int → Option (Int)) (k : Nat) (l0_0 : List (S93)) (l0_1 : List (S96)) (a1 : Int) : Option (Int) := (rec_ l0_0 a1).bind fun t123 => (if t123 < 0 then (some (-1)) else ((laws_szTermS.f k l0_1 t123).bind fun t124 => (if t124 < 0 then (some (-1)) else (some t124))))
def laws_szBind.F (rec_ : List (S93) → Int → Option (Int)) (k : Nat) (a0_0 : Int) (l0_1 : List ByteArray) (a0_2 : ByteArray) (l0_3 : List (S96)) (l0_4 : List (S93)) (l0_5 : List (S96)) (l0_6 : List (S93)) (l0_7 : List (S96)) (a1 : Int) : Option (Int) := (laws_szStringS.f k l0_1 a1).bind fun t126 => (if t126 < 0 then (some (-1)) else (if (wrap64 (t126 - (a0_2.size : Int))) < 0 then (some (-1)) else ((laws_szTermS.f k l0_3 (wrap64 (t126 - (a0_2.size : Int)))).bind fun t127 => (if t127 < 0 then (some (-1)) else ((laws_szBody.F rec_ k l0_4 l0_5 t127).bind fun t128 => (if t128 < 0 then (some (-1)) else ((laws_szBody.F rec_ k l0_6 l0_7 t128).bind fun t129 => (if t129 < 0 then (some (-1)) else (some t129)))))))))
mutual
def laws_szBindS.l0 : Nat → List (S93) → Int → Int → Option (Int)
 | 0, _, _, _ => none
 | k + 1, x0, x1, x5 => if x5 < (x0.length : Int) then (if 0 ≤ x5 then ((laws_szBind.F (laws_szBindS.f k) k ((rd_T93 x0 x5).f0) ((rd_T93 x0 x5).f1) ((rd_T93 x0 x5).f2) ((rd_T93 x0 x5).f3) ((rd_T93 x0 x5).f4.f0) ((rd_T93 x0 x5).f4.f1) ((rd_T93 x0 x5).f5.f0) ((rd_T93 x0 x5).f5.f1) x1).bind fun t131 => (if t131 < 0 then (some (-1)) else (laws_szBindS.l0 k x0 t131 (wrap64 (x5 + 1))))) else (none)) else (some x1)
def laws_szBindS.f : Nat → List (S93) → Int → Option (Int)
 | 0, _, _ => none
 | k + 1, l0, a1 => if (wrap64 (a1 - (l0.length : Int))) < 0 then (some (-1)) else (laws_szBindS.l0 k l0 (wrap64 (a1 - (l0.length : Int))) 0)
end
theorem laws_szBody.Fmono {rec_ rec2_ : List (S93) → Int → Option (Int)} (hrec : (∀ y0 y1, LeO (rec_ y0 y1) (rec2_ y0 y1))) : ∀ a0 a1 a2 k, LeO (laws_szBody.F rec_ k a0 a1 a2) (laws_szBody.F rec2_ (k + 1) a0 a1 a2) := by
 intro a0 a1 a2 k
 unfold laws_szBody.F
 repeat' first
   | (with_reducible exact hrec _ _)
   | (with_reducible exact laws_szTermS.mono _ _ _)
   | (with_reducible exact LeO.refl _)
   | (with_reducible exact LeO.none _)
   | (with_reducible refine LeO.ite ?_ ?_)
   | (with_reducible refine LeO.bind ?_ (fun _ => ?_))
   | exact hrec _ _
   | exact laws_szTermS.mono _ _ _
   | exact LeO.none _
   | refine LeO.ite ?_ ?_
   | refine LeO.bind ?_ (fun _ => ?_)
theorem laws_szBind.Fmono {rec_ rec2_ : List (S93) → Int → Option (Int)} (hrec : (∀ y0 y1, LeO (rec_ y0 y1) (rec2_ y0 y1))) : ∀ a0 a1 a2 a3 a4 a5 a6 a7 a8 k, LeO (laws_szBind.F rec_ k a0 a1 a2 a3 a4 a5 a6 a7 a8) (laws_szBind.F rec2_ (k + 1) a0 a1 a2 a3 a4 a5 a6 a7 a8) := by
 intro a0 a1 a2 a3 a4 a5 a6 a7 a8 k
 unfold laws_szBind.F
 repeat' first
   | (with_reducible exact laws_szBody.Fmono hrec _ _ _ _)
   | (with_reducible exact laws_szStringS.mono _ _ _)
   | (with_reducible exact laws_szTermS.mono _ _ _)
   | (with_reducible exact LeO.refl _)
   | (with_reducible exact LeO.none _)
   | (with_reducible refine LeO.ite ?_ ?_)
   | (with_reducible refine LeO.bind ?_ (fun _ => ?_))
   | exact laws_szBody.Fmono hrec _ _ _ _
   | exact laws_szStringS.mono _ _ _
   | exact laws_szTermS.mono _ _ _
   | exact LeO.none _
   | refine LeO.ite ?_ ?_
   | refine LeO.bind ?_ (fun _ => ?_)
theorem laws_szBindS.mono_l : ∀ k, (∀ y0 y1, LeO (laws_szBindS.f k y0 y1) (laws_szBindS.f (k + 1) y0 y1)) ∧ (∀ y0 y1 y2, LeO (laws_szBindS.l0 k y0 y1 y2) (laws_szBindS.l0 (k + 1) y0 y1 y2))
 | 0 => ⟨fun _ _ r h => by simp [laws_szBindS.f] at h, fun _ _ _ r h => by simp [laws_szBindS.l0] at h⟩
 | k + 1 => by
  obtain ⟨ih0, ih1⟩ := laws_szBindS.mono_l k
  refine ⟨?_, ?_⟩
  ·intro y0 y1
   unfold laws_szBindS.f
   repeat' first
   | (with_reducible exact ih0 _ _)
   | (with_reducible exact ih1 _ _ _)
   | (with_reducible exact laws_szBind.Fmono ih0 _ _ _ _ _ _ _ _ _ _)
   | (with_reducible exact LeO.refl _)
   | (with_reducible exact LeO.none _)
   | (with_reducible refine LeO.ite ?_ ?_)
   | (with_reducible refine LeO.bind ?_ (fun _ => ?_))
   | exact ih0 _ _
   | exact ih1 _ _ _
   | exact laws_szBind.Fmono ih0 _ _ _ _ _ _ _ _ _ _
   | exact LeO.none _
   | refine LeO.ite ?_ ?_
   | refine LeO.bind ?_ (fun _ => ?_)
  ·intro y0 y1 y2
   unfold laws_szBindS.l0
   repeat' first
   | (with_reducible exact ih0 _ _)
   | (with_reducible exact ih1 _ _ _)
   | (with_reducible exact laws_szBind.Fmono ih0 _ _ _ _ _ _ _ _ _ _)
   | (with_reducible exact LeO.refl _)
   | (with_reducible exact LeO.none _)
   | (with_reducible refine LeO.ite ?_ ?_)
   | (with_reducible refine LeO.bind ?_ (fun _ => ?_))
   | exact ih0 _ _
   | exact ih1 _ _ _
   | exact laws_szBind.Fmono ih0 _ _ _ _ _ _ _ _ _ _
   | exact LeO.none _
   | refine LeO.ite ?_ ?_
   | refine LeO.bind ?_ (fun _ => ?_)
theorem laws_szBindS.mono : ∀ a0 a1 k, LeO (laws_szBindS.f k a0 a1) (laws_szBindS.f (k + 1) a0 a1) := by
 intro a0 a1 k
 obtain ⟨ih0, ih1⟩ := laws_szBindS.mono_l k
 exact ih0 a0 a1
set_option maxHeartbeats 8000000 in
set_option maxRecDepth 100000 in
theorem laws_szBody.Fcalls (rec_ : List (S93) → Int → Option (Int)) (IH : ∀ (A0 : Option Addr) (c0 : Nat) (l0 : List (S93)) (a1 : Int) (r : Int) (w : World) (hr0 : Kd.C k93 w A0 l0.length l0) (hc0 : l0.length ≤ c0) (h : rec_ l0 a1 = some r),
  Calls Try.prog 47 #[.slice A0 l0.length c0, .int .i64 a1] w fun e w' => e = .returned (.int .i64 r) ∧ Below w.heap.size w w') (k : Nat) (A0_0 : Option Addr) (c0_0 : Nat) (l0_0 : List (S93)) (A0_1 : Option Addr) (c0_1 : Nat) (l0_1 : List (S96)) (a1 : Int) (r : Int) (w : World) (hr0_0 : Kd.C k93 w A0_0 l0_0.length l0_0) (hc0_0 : l0_0.length ≤ c0_0) (hr0_1 : Kd.C k96 w A0_1 l0_1.length l0_1) (hc0_1 : l0_1.length ≤ c0_1) (h : laws_szBody.F rec_ k l0_0 l0_1 a1 = some r) :
  Calls Try.prog 32 #[.agg #[.slice A0_0 l0_0.length c0_0, .slice A0_1 l0_1.length c0_1], .int .i64 a1] w fun e w' => e = .returned (.int .i64 r) ∧ Below w.heap.size w w' := by
 have hu35 := Try.underlying35
 have HR0_0 := Aside0.mk hr0_0
 have HC0_0 := Aside0.mk hc0_0
 clear hr0_0 hc0_0
 have HR0_1 := Aside0.mk hr0_1
 have HC0_1 := Aside0.mk hc0_1
 clear hr0_1 hc0_1
 have HB := Aside0.mk (Below.refl w.heap.size w)
 have H : ((rec_ l0_0 a1).bind fun t123 => (if t123 < 0 then (some (-1)) else ((laws_szTermS.f k l0_1 t123).bind fun t124 => (if t124 < 0 then (some (-1)) else (some t124))))) = some r := h
 clear h
 obtain ⟨t123, A30, H⟩ := ob H
 have A3 := Aside0.mk A30
 clear A30
 have HZ4 := Aside0.mk H
 clear H
 go_enter Try.func32, Try.ntmps32
 go_upto_if 10 with (first | ((with_reducible refine gate_dst (N := 2) rfl ?_); refine zbx 2 #[.slice A0_0 l0_0.length c0_0, .slice A0_1 l0_1.length c0_1] 35 ?_; intro gb122 hg w5 hbox hb; have BK122 := Aside0.mk hbox; have GW122 := Aside0.mk ((y9 hg HB.out : w.heap.size ≤ gb122)); have GE122 := Aside0.mk ((y9 hg HB.out : w.heap.size ≤ gb122)); replace HB := Aside0.mk (below_step (y1 HB.out) hb); clear hb hbox hg; have hcz6_0 := zh BK122; have hcz6_1 := zh1 BK122; have hfz6_0 := zfr BK122 0; have hfz6_1 := zfr BK122 1) | ((with_reducible refine gate_callee (f := 47) rfl ?_); refine goesL_ (some 8) rfl rfl Try.func47 (by kernel_rfl) rfl #[.slice A0_0 l0_0.length c0_0, .int .i64 a1] rfl y3 ?_; (with_reducible refine (IH  _ _ l0_0 a1 t123 _ ?side1 ?side2 A3.out).mono ?_); (case side1 => exact y0 HR0_0.out HB.out); (case side2 => exact HC0_0.out); rintro e w7 ⟨rfl, hb⟩; refine ⟨_, rfl, ?_⟩; replace BK122 := zbb BK122 hb; replace HB := Aside0.mk (below_step (y2 HB.out GE122.out) hb); (try clear hb); (try clear hb2); (try clear hk); (try clear hi)))
 (try simp only [Act.put, List.setIfInBounds_toArray, List.set_cons_zero, List.set_cons_succ])
 have H := HZ4.out
 clear HZ4
 by_cases c8 : t123 < 0
 ·rw [if_pos c8] at H
  have c8b0 : decide (t123 < 0) = true := decide_eq_true c8
  clear c8
  (first | rw [c8b0] | (simp only [i64_w, i32_w]; rw [c8b0]) | skip)
  obtain rfl := Option.some.inj H
  go_wp2
  go_ret
  exact ⟨y6, (y2 HB.out GE122.out)⟩
 ·rw [if_neg c8] at H
  have c8b0 : decide (t123 < 0) = false := decide_eq_false c8
  clear c8
  (first | rw [c8b0] | (simp only [i64_w, i32_w]; rw [c8b0]) | skip)
  obtain ⟨t124, A90, H⟩ := ob H
  have A9 := Aside0.mk A90
  clear A90
  have HZ10 := Aside0.mk H
  clear H
  have hcz11_0 := zh BK122
  have hcz11_1 := zh1 BK122
  have hfz11_0 := zfr BK122 0
  have hfz11_1 := zfr BK122 1
  go_upto_if 16 with (first | ((with_reducible refine gate_callee (f := 48) rfl ?_); refine goesL_ (some 14) rfl rfl Try.func48 (by kernel_rfl) rfl #[.slice A0_1 l0_1.length c0_1, .int .i64 t123] rfl y3 ?_; (with_reducible refine (laws_szTermS.calls k _ _ l0_1 t123 t124 _ ?side1 ?side2 A9.out).mono ?_); (case side1 => exact y0 HR0_1.out HB.out); (case side2 => exact HC0_1.out); rintro e w12 ⟨rfl, hb⟩; refine ⟨_, rfl, ?_⟩; replace BK122 := zbb BK122 hb; replace HB := Aside0.mk (below_step (y2 HB.out GE122.out) hb); (try clear hb); (try clear hb2); (try clear hk); (try clear hi)))
  (try simp only [Act.put, List.setIfInBounds_toArray, List.set_cons_zero, List.set_cons_succ])
  have H := HZ10.out
  clear HZ10
  by_cases c13 : t124 < 0
  ·rw [if_pos c13] at H
   have c13b0 : decide (t124 < 0) = true := decide_eq_true c13
   clear c13
   (first | rw [c13b0] | (simp only [i64_w, i32_w]; rw [c13b0]) | skip)
   obtain rfl := Option.some.inj H
   go_wp2
   go_ret
   exact ⟨y6, (y2 HB.out GE122.out)⟩
  ·rw [if_neg c13] at H
   have c13b0 : decide (t124 < 0) = false := decide_eq_false c13
   clear c13
   (first | rw [c13b0] | (simp only [i64_w, i32_w]; rw [c13b0]) | skip)
   obtain rfl := Option.some.inj H
   go_wp2
   go_ret
   exact ⟨y6, (y2 HB.out GE122.out)⟩
set_option maxHeartbeats 8000000 in
set_option maxRecDepth 100000 in
theorem laws_szBind.Fcalls (rec_ : List (S93) → Int → Option (Int)) (IH : ∀ (A0 : Option Addr) (c0 : Nat) (l0 : List (S93)) (a1 : Int) (r : Int) (w : World) (hr0 : Kd.C k93 w A0 l0.length l0) (hc0 : l0.length ≤ c0) (h : rec_ l0 a1 = some r),
  Calls Try.prog 47 #[.slice A0 l0.length c0, .int .i64 a1] w fun e w' => e = .returned (.int .i64 r) ∧ Below w.heap.size w w') (k : Nat) (a0_0 : Int) (A0_1 : Option Addr) (c0_1 : Nat) (l0_1 : List ByteArray) (a0_2 : ByteArray) (A0_3 : Option Addr) (c0_3 : Nat) (l0_3 : List (S96)) (A0_4 : Option Addr) (c0_4 : Nat) (l0_4 : List (S93)) (A0_5 : Option Addr) (c0_5 : Nat) (l0_5 : List (S96)) (A0_6 : Option Addr) (c0_6 : Nat) (l0_6 : List (S93)) (A0_7 : Option Addr) (c0_7 : Nat) (l0_7 : List (S96)) (a1 : Int) (r : Int) (w : World) (hr0_1 : Kd.C Kd.string w A0_1 l0_1.length l0_1) (hc0_1 : l0_1.length ≤ c0_1) (hr0_3 : Kd.C k96 w A0_3 l0_3.length l0_3) (hc0_3 : l0_3.length ≤ c0_3) (hr0_4 : Kd.C k93 w A0_4 l0_4.length l0_4) (hc0_4 : l0_4.length ≤ c0_4) (hr0_5 : Kd.C k96 w A0_5 l0_5.length l0_5) (hc0_5 : l0_5.length ≤ c0_5) (hr0_6 : Kd.C k93 w A0_6 l0_6.length l0_6) (hc0_6 : l0_6.length ≤ c0_6) (hr0_7 : Kd.C k96 w A0_7 l0_7.length l0_7) (hc0_7 : l0_7.length ≤ c0_7) (h : laws_szBind.F rec_ k a0_0 l0_1 a0_2 l0_3 l0_4 l0_5 l0_6 l0_7 a1 = some r) :
  Calls Try.prog 59 #[.agg #[.int .i64 a0_0, .slice A0_1 l0_1.length c0_1, .string a0_2, .slice A0_3 l0_3.length c0_3, .slice A0_4 l0_4.length c0_4, .slice A0_5 l0_5.length c0_5, .slice A0_6 l0_6.length c0_6, .slice A0_7 l0_7.length c0_7], .int .i64 a1] w fun e w' => e = .returned (.int .i64 r) ∧ Below w.heap.size w w' := by
 have hu93 := Try.underlying93
 have hu35 := Try.underlying35
 have HR0_1 := Aside0.mk hr0_1
 have HC0_1 := Aside0.mk hc0_1
 clear hr0_1 hc0_1
 have HR0_3 := Aside0.mk hr0_3
 have HC0_3 := Aside0.mk hc0_3
 clear hr0_3 hc0_3
 have HR0_4 := Aside0.mk hr0_4
 have HC0_4 := Aside0.mk hc0_4
 clear hr0_4 hc0_4
 have HR0_5 := Aside0.mk hr0_5
 have HC0_5 := Aside0.mk hc0_5
 clear hr0_5 hc0_5
 have HR0_6 := Aside0.mk hr0_6
 have HC0_6 := Aside0.mk hc0_6
 clear hr0_6 hc0_6
 have HR0_7 := Aside0.mk hr0_7
 have HC0_7 := Aside0.mk hc0_7
 clear hr0_7 hc0_7
 have HB := Aside0.mk (Below.refl w.heap.size w)
 have H : ((laws_szStringS.f k l0_1 a1).bind fun t126 => (if t126 < 0 then (some (-1)) else (if (wrap64 (t126 - (a0_2.size : Int))) < 0 then (some (-1)) else ((laws_szTermS.f k l0_3 (wrap64 (t126 - (a0_2.size : Int)))).bind fun t127 => (if t127 < 0 then (some (-1)) else ((laws_szBody.F rec_ k l0_4 l0_5 t127).bind fun t128 => (if t128 < 0 then (some (-1)) else ((laws_szBody.F rec_ k l0_6 l0_7 t128).bind fun t129 => (if t129 < 0 then (some (-1)) else (some t129)))))))))) = some r := h
 clear h
 obtain ⟨t126, A30, H⟩ := ob H
 have A3 := Aside0.mk A30
 clear A30
 have HZ4 := Aside0.mk H
 clear H
 go_enter Try.func59, Try.ntmps59
 go_upto_if 10 with (first | ((with_reducible refine gate_dst (N := 2) rfl ?_); refine zbx 2 #[.int .i64 a0_0, .slice A0_1 l0_1.length c0_1, .string a0_2, .slice A0_3 l0_3.length c0_3, .slice A0_4 l0_4.length c0_4, .slice A0_5 l0_5.length c0_5, .slice A0_6 l0_6.length c0_6, .slice A0_7 l0_7.length c0_7] 93 ?_; intro gb125 hg w5 hbox hb; have BK125 := Aside0.mk hbox; have GW125 := Aside0.mk ((y9 hg HB.out : w.heap.size ≤ gb125)); have GE125 := Aside0.mk ((y9 hg HB.out : w.heap.size ≤ gb125)); replace HB := Aside0.mk (below_step (y1 HB.out) hb); clear hb hbox hg; have hcz6_0 := zh BK125; have hcz6_1 := zh1 BK125; have hcz6_2 := zh2 BK125; have hcz6_3 : w5.cell? ⟨gb125, 3, none⟩ = some (.slice A0_3 l0_3.length c0_3) := (blk_cell BK125.out 3).trans rfl; have hcz6_4 : w5.cell? ⟨gb125, 4, none⟩ = some (.slice A0_4 l0_4.length c0_4) := (blk_cell BK125.out 4).trans rfl; have hcz6_5 : w5.cell? ⟨gb125, 5, none⟩ = some (.slice A0_5 l0_5.length c0_5) := (blk_cell BK125.out 5).trans rfl; have hcz6_6 : w5.cell? ⟨gb125, 6, none⟩ = some (.slice A0_6 l0_6.length c0_6) := (blk_cell BK125.out 6).trans rfl; have hcz6_7 : w5.cell? ⟨gb125, 7, none⟩ = some (.slice A0_7 l0_7.length c0_7) := (blk_cell BK125.out 7).trans rfl; have hfz6_0 := zfr BK125 0; have hfz6_1 := zfr BK125 1; have hfz6_2 := zfr BK125 2; have hfz6_3 := zfr BK125 3; have hfz6_4 := zfr BK125 4; have hfz6_5 := zfr BK125 5; have hfz6_6 := zfr BK125 6; have hfz6_7 := zfr BK125 7) | ((with_reducible refine gate_callee (f := 31) rfl ?_); refine goesL_ (some 8) rfl rfl Try.func31 (by kernel_rfl) rfl #[.slice A0_1 l0_1.length c0_1, .int .i64 a1] rfl y3 ?_; (with_reducible refine (laws_szStringS.calls k _ _ l0_1 a1 t126 _ ?side1 ?side2 A3.out).mono ?_); (case side1 => exact y0 HR0_1.out HB.out); (case side2 => exact HC0_1.out); rintro e w' ⟨rfl, ⟨nd, rfl⟩⟩; refine ⟨_, rfl, ?_⟩))
 (try simp only [Act.put, List.setIfInBounds_toArray, List.set_cons_zero, List.set_cons_succ])
 have H := HZ4.out
 clear HZ4
 by_cases c7 : t126 < 0
 ·rw [if_pos c7] at H
  have c7b0 : decide (t126 < 0) = true := decide_eq_true c7
  clear c7
  (first | rw [c7b0] | (simp only [i64_w, i32_w]; rw [c7b0]) | skip)
  obtain rfl := Option.some.inj H
  go_wp2
  go_ret
  exact ⟨y6, (y2 HB.out GE125.out)⟩
 ·rw [if_neg c7] at H
  have c7b0 : decide (t126 < 0) = false := decide_eq_false c7
  clear c7
  (first | rw [c7b0] | (simp only [i64_w, i32_w]; rw [c7b0]) | skip)
  by_cases c8 : (wrap64 (t126 - (a0_2.size : Int))) < 0
  ·rw [if_pos c8] at H
   have c8b0 : decide ((wrap64 (t126 - (a0_2.size : Int))) < 0) = true := decide_eq_true c8
   clear c8
   obtain rfl := Option.some.inj H
   have hcz9_0 := zh BK125
   have hcz9_1 := zh1 BK125
   have hcz9_2 := zh2 BK125
   have hcz9_3 : w5.cell? ⟨gb125, 3, none⟩ = some (.slice A0_3 l0_3.length c0_3) := (blk_cell BK125.out 3).trans rfl
   have hcz9_4 : w5.cell? ⟨gb125, 4, none⟩ = some (.slice A0_4 l0_4.length c0_4) := (blk_cell BK125.out 4).trans rfl
   have hcz9_5 : w5.cell? ⟨gb125, 5, none⟩ = some (.slice A0_5 l0_5.length c0_5) := (blk_cell BK125.out 5).trans rfl
   have hcz9_6 : w5.cell? ⟨gb125, 6, none⟩ = some (.slice A0_6 l0_6.length c0_6) := (blk_cell BK125.out 6).trans rfl
   have hcz9_7 : w5.cell? ⟨gb125, 7, none⟩ = some (.slice A0_7 l0_7.length c0_7) := (blk_cell BK125.out 7).trans rfl
   have hfz9_0 := zfr BK125 0
   have hfz9_1 := zfr BK125 1
   have hfz9_2 := zfr BK125 2
   have hfz9_3 := zfr BK125 3
   have hfz9_4 := zfr BK125 4
   have hfz9_5 := zfr BK125 5
   have hfz9_6 := zfr BK125 6
   have hfz9_7 := zfr BK125 7
   go_wp2
   go_ret
   exact ⟨y6, (y2 HB.out GE125.out)⟩
  ·rw [if_neg c8] at H
   have c8b0 : decide ((wrap64 (t126 - (a0_2.size : Int))) < 0) = false := decide_eq_false c8
   clear c8
   obtain ⟨t127, A100, H⟩ := ob H
   have A10 := Aside0.mk A100
   clear A100
   have HZ11 := Aside0.mk H
   clear H
   have hcz12_0 := zh BK125
   have hcz12_1 := zh1 BK125
   have hcz12_2 := zh2 BK125
   have hcz12_3 : w5.cell? ⟨gb125, 3, none⟩ = some (.slice A0_3 l0_3.length c0_3) := (blk_cell BK125.out 3).trans rfl
   have hcz12_4 : w5.cell? ⟨gb125, 4, none⟩ = some (.slice A0_4 l0_4.length c0_4) := (blk_cell BK125.out 4).trans rfl
   have hcz12_5 : w5.cell? ⟨gb125, 5, none⟩ = some (.slice A0_5 l0_5.length c0_5) := (blk_cell BK125.out 5).trans rfl
   have hcz12_6 : w5.cell? ⟨gb125, 6, none⟩ = some (.slice A0_6 l0_6.length c0_6) := (blk_cell BK125.out 6).trans rfl
   have hcz12_7 : w5.cell? ⟨gb125, 7, none⟩ = some (.slice A0_7 l0_7.length c0_7) := (blk_cell BK125.out 7).trans rfl
   have hfz12_0 := zfr BK125 0
   have hfz12_1 := zfr BK125 1
   have hfz12_2 := zfr BK125 2
   have hfz12_3 := zfr BK125 3
   have hfz12_4 := zfr BK125 4
   have hfz12_5 := zfr BK125 5
   have hfz12_6 := zfr BK125 6
   have hfz12_7 := zfr BK125 7
   go_upto_if 23 with (first | ((with_reducible refine gate_callee (f := 48) rfl ?_); refine goesL_ (some 21) rfl rfl Try.func48 (by kernel_rfl) rfl #[.slice A0_3 l0_3.length c0_3, .int .i64 (wrap64 (t126 - (a0_2.size : Int)))] rfl y3 ?_; (with_reducible refine (laws_szTermS.calls k _ _ l0_3 (wrap64 (t126 - (a0_2.size : Int))) t127 _ ?side1 ?side2 A10.out).mono ?_); (case side1 => exact y20 HR0_3.out HB.out GE125.out); (case side2 => exact HC0_3.out); rintro e w13 ⟨rfl, hb⟩; refine ⟨_, rfl, ?_⟩; replace BK125 := zbb BK125 hb; replace HB := Aside0.mk (below_step (y2 HB.out GE125.out) hb); (try clear hb); (try clear hb2); (try clear hk); (try clear hi)))
   (try simp only [Act.put, List.setIfInBounds_toArray, List.set_cons_zero, List.set_cons_succ])
   have H := HZ11.out
   clear HZ11
   by_cases c14 : t127 < 0
   ·rw [if_pos c14] at H
    have c14b0 : decide (t127 < 0) = true := decide_eq_true c14
    clear c14
    (first | rw [c14b0] | (simp only [i64_w, i32_w]; rw [c14b0]) | skip)
    obtain rfl := Option.some.inj H
    go_wp2
    go_ret
    exact ⟨y6, (y2 HB.out GE125.out)⟩
   ·rw [if_neg c14] at H
    have c14b0 : decide (t127 < 0) = false := decide_eq_false c14
    clear c14
    (first | rw [c14b0] | (simp only [i64_w, i32_w]; rw [c14b0]) | skip)
    obtain ⟨t128, A150, H⟩ := ob H
    have A15 := Aside0.mk A150
    clear A150
    have HZ16 := Aside0.mk H
    clear H
    have hcz17_0 := zh BK125
    have hcz17_1 := zh1 BK125
    have hcz17_2 := zh2 BK125
    have hcz17_3 : w13.cell? ⟨gb125, 3, none⟩ = some (.slice A0_3 l0_3.length c0_3) := (blk_cell BK125.out 3).trans rfl
    have hcz17_4 : w13.cell? ⟨gb125, 4, none⟩ = some (.slice A0_4 l0_4.length c0_4) := (blk_cell BK125.out 4).trans rfl
    have hcz17_5 : w13.cell? ⟨gb125, 5, none⟩ = some (.slice A0_5 l0_5.length c0_5) := (blk_cell BK125.out 5).trans rfl
    have hcz17_6 : w13.cell? ⟨gb125, 6, none⟩ = some (.slice A0_6 l0_6.length c0_6) := (blk_cell BK125.out 6).trans rfl
    have hcz17_7 : w13.cell? ⟨gb125, 7, none⟩ = some (.slice A0_7 l0_7.length c0_7) := (blk_cell BK125.out 7).trans rfl
    have hfz17_0 := zfr BK125 0
    have hfz17_1 := zfr BK125 1
    have hfz17_2 := zfr BK125 2
    have hfz17_3 := zfr BK125 3
    have hfz17_4 := zfr BK125 4
    have hfz17_5 := zfr BK125 5
    have hfz17_6 := zfr BK125 6
    have hfz17_7 := zfr BK125 7
    go_upto_if 29 with (first | ((with_reducible refine gate_callee (f := 32) rfl ?_); refine goesL_ (some 27) rfl rfl Try.func32 (by kernel_rfl) rfl #[.agg #[.slice A0_4 l0_4.length c0_4, .slice A0_5 l0_5.length c0_5], .int .i64 t127] rfl y3 ?_; (with_reducible refine (laws_szBody.Fcalls rec_ IH k _ _ l0_4 _ _ l0_5 t127 t128 _ ?side1 ?side2 ?side3 ?side4 A15.out).mono ?_); (case side1 => exact y0 HR0_4.out HB.out); (case side2 => exact HC0_4.out); (case side3 => exact y0 HR0_5.out HB.out); (case side4 => exact HC0_5.out); rintro e w18 ⟨rfl, hb⟩; refine ⟨_, rfl, ?_⟩; replace BK125 := zbb BK125 hb; replace HB := Aside0.mk (below_step (y2 HB.out GE125.out) hb); (try clear hb); (try clear hb2); (try clear hk); (try clear hi)))
    (try simp only [Act.put, List.setIfInBounds_toArray, List.set_cons_zero, List.set_cons_succ])
    have H := HZ16.out
    clear HZ16
    by_cases c19 : t128 < 0
    ·rw [if_pos c19] at H
     have c19b0 : decide (t128 < 0) = true := decide_eq_true c19
     clear c19
     (first | rw [c19b0] | (simp only [i64_w, i32_w]; rw [c19b0]) | skip)
     obtain rfl := Option.some.inj H
     go_wp2
     go_ret
     exact ⟨y6, (y2 HB.out GE125.out)⟩
    ·rw [if_neg c19] at H
     have c19b0 : decide (t128 < 0) = false := decide_eq_false c19
     clear c19
     (first | rw [c19b0] | (simp only [i64_w, i32_w]; rw [c19b0]) | skip)
     obtain ⟨t129, A200, H⟩ := ob H
     have A20 := Aside0.mk A200
     clear A200
     have HZ21 := Aside0.mk H
     clear H
     have hcz22_0 := zh BK125
     have hcz22_1 := zh1 BK125
     have hcz22_2 := zh2 BK125
     have hcz22_3 : w18.cell? ⟨gb125, 3, none⟩ = some (.slice A0_3 l0_3.length c0_3) := (blk_cell BK125.out 3).trans rfl
     have hcz22_4 : w18.cell? ⟨gb125, 4, none⟩ = some (.slice A0_4 l0_4.length c0_4) := (blk_cell BK125.out 4).trans rfl
     have hcz22_5 : w18.cell? ⟨gb125, 5, none⟩ = some (.slice A0_5 l0_5.length c0_5) := (blk_cell BK125.out 5).trans rfl
     have hcz22_6 : w18.cell? ⟨gb125, 6, none⟩ = some (.slice A0_6 l0_6.length c0_6) := (blk_cell BK125.out 6).trans rfl
     have hcz22_7 : w18.cell? ⟨gb125, 7, none⟩ = some (.slice A0_7 l0_7.length c0_7) := (blk_cell BK125.out 7).trans rfl
     have hfz22_0 := zfr BK125 0
     have hfz22_1 := zfr BK125 1
     have hfz22_2 := zfr BK125 2
     have hfz22_3 := zfr BK125 3
     have hfz22_4 := zfr BK125 4
     have hfz22_5 := zfr BK125 5
     have hfz22_6 := zfr BK125 6
     have hfz22_7 := zfr BK125 7
     go_upto_if 35 with (first | ((with_reducible refine gate_callee (f := 32) rfl ?_); refine goesL_ (some 33) rfl rfl Try.func32 (by kernel_rfl) rfl #[.agg #[.slice A0_6 l0_6.length c0_6, .slice A0_7 l0_7.length c0_7], .int .i64 t128] rfl y3 ?_; (with_reducible refine (laws_szBody.Fcalls rec_ IH k _ _ l0_6 _ _ l0_7 t128 t129 _ ?side1 ?side2 ?side3 ?side4 A20.out).mono ?_); (case side1 => exact y0 HR0_6.out HB.out); (case side2 => exact HC0_6.out); (case side3 => exact y0 HR0_7.out HB.out); (case side4 => exact HC0_7.out); rintro e w23 ⟨rfl, hb⟩; refine ⟨_, rfl, ?_⟩; replace BK125 := zbb BK125 hb; replace HB := Aside0.mk (below_step (y2 HB.out GE125.out) hb); (try clear hb); (try clear hb2); (try clear hk); (try clear hi)))
     (try simp only [Act.put, List.setIfInBounds_toArray, List.set_cons_zero, List.set_cons_succ])
     have H := HZ21.out
     clear HZ21
     by_cases c24 : t129 < 0
     ·rw [if_pos c24] at H
      have c24b0 : decide (t129 < 0) = true := decide_eq_true c24
      clear c24
      (first | rw [c24b0] | (simp only [i64_w, i32_w]; rw [c24b0]) | skip)
      obtain rfl := Option.some.inj H
      go_wp2
      go_ret
      exact ⟨y6, (y2 HB.out GE125.out)⟩
     ·rw [if_neg c24] at H
      have c24b0 : decide (t129 < 0) = false := decide_eq_false c24
      clear c24
      (first | rw [c24b0] | (simp only [i64_w, i32_w]; rw [c24b0]) | skip)
      obtain rfl := Option.some.inj H
      go_wp2
      go_ret
      exact ⟨y6, (y2 HB.out GE125.out)⟩
set_option maxHeartbeats 8000000 in
set_option maxRecDepth 100000 in
theorem laws_szBindS.calls (k : Nat) : ∀ (A0 : Option Addr) (c0 : Nat) (l0 : List (S93)) (a1 : Int) (r : Int) (w : World) (hr0 : Kd.C k93 w A0 l0.length l0) (hc0 : l0.length ≤ c0) (h : laws_szBindS.f k l0 a1 = some r),
  Calls Try.prog 47 #[.slice A0 l0.length c0, .int .i64 a1] w fun e w' => e = .returned (.int .i64 r) ∧ Below w.heap.size w w' := by
 induction k using Nat.strongRecOn with
 | _ k ih =>
 intro A0 c0 l0 a1 r w hr0 hc0 h
 cases k with
 | zero => exact absurd h (by simp [laws_szBindS.f])
 | succ k =>
 simp only [laws_szBindS.f] at h
 have hu93 := Try.underlying93
 have HR0 := Aside0.mk hr0
 have HC0 := Aside0.mk hc0
 clear hr0 hc0
 have HB := Aside0.mk (Below.refl w.heap.size w)
 have H : (if (wrap64 (a1 - (l0.length : Int))) < 0 then (some (-1)) else (laws_szBindS.l0 k l0 (wrap64 (a1 - (l0.length : Int))) 0)) = some r := h
 clear h
 by_cases c3 : (wrap64 (a1 - (l0.length : Int))) < 0
 ·rw [if_pos c3] at H
  have c3b0 : decide ((wrap64 (a1 - (l0.length : Int))) < 0) = true := decide_eq_true c3
  clear c3
  obtain rfl := Option.some.inj H
  go_enter Try.func47, Try.ntmps47
  go_wp2
  go_ret
  exact ⟨y6, (y1 HB.out)⟩
 ·rw [if_neg c3] at H
  have c3b0 : decide ((wrap64 (a1 - (l0.length : Int))) < 0) = false := decide_eq_false c3
  clear c3
  have H' := Aside0.mk H
  clear H
  go_enter Try.func47, Try.ntmps47
  go_wp2
  go_loopg [1, 5] k (fun kq v1 v5 w' => ∃ (x1_1 : Int) (x5_1 : Int), v1 = .int .i64 x1_1 ∧ v5 = .int .i64 x5_1 ∧ Aside0 (laws_szBindS.l0 kq l0 x1_1 x5_1 = some r) ∧ Aside0 (kq ≤ k) ∧ Aside0 (Below w.heap.size w w'))
  case atStart => exact ⟨(wrap64 (a1 - (l0.length : Int))), (0), y7, y7, H', ⟨Nat.le_refl _⟩, ⟨(y1 HB.out)⟩⟩
  case round =>
   clear H'
   try clear p2
   try clear c3
   try clear c3b0
   obtain ⟨x1_1, x5_1, rfl, rfl, HA, HK1, HB⟩ := hrel
   cases gk with
   | zero => exact absurd HA.out (by simp [laws_szBindS.l0])
   | succ k1 =>
    have H := HA.out
    clear HA
    simp only [laws_szBindS.l0] at H
    by_cases c4 : x5_1 < (l0.length : Int)
    ·rw [if_pos c4] at H
     have c4b0 : decide (x5_1 < (l0.length : Int)) = true := decide_eq_true c4
     clear c4
     by_cases c5 : 0 ≤ x5_1
     ·rw [if_pos c5] at H
      have c5b0 : decide (0 ≤ x5_1) = true := decide_eq_true c5
      clear c5
      obtain ⟨t131, A60, H⟩ := ob H
      have A6 := Aside0.mk A60
      clear A60
      have HZ7 := Aside0.mk H
      clear H
      have p130 : 0 ≤ (x5_1 : Int) := of_decide_eq_true y4
      have q130 : x5_1 < (l0.length : Int) := of_decide_eq_true y4
      obtain ⟨ad130, A130_1, c130_1, A130_3, c130_3, A130_4, c130_4, A130_5, c130_5, A130_6, c130_6, A130_7, c130_7, e130, hx130_0, hx130_1, hx130_2, hx130_3, hx130_4, hx130_5, hx130_6, hx130_7, hl130_1, hi130_1, hl130_3, hi130_3, hl130_4, hi130_4, hl130_5, hi130_5, hl130_6, hi130_6, hl130_7, hi130_7⟩ := at_T93 HR0.out x5_1 p130 q130
      cases e130
      replace hx130_0 := (HB.out.cell (World.block_lt_of_cell? w _ hx130_0)).trans hx130_0
      replace hx130_1 := (HB.out.cell (World.block_lt_of_cell? w _ hx130_1)).trans hx130_1
      replace hx130_2 := (HB.out.cell (World.block_lt_of_cell? w _ hx130_2)).trans hx130_2
      replace hx130_3 := (HB.out.cell (World.block_lt_of_cell? w _ hx130_3)).trans hx130_3
      replace hx130_4 := (HB.out.cell (World.block_lt_of_cell? w _ hx130_4)).trans hx130_4
      replace hx130_5 := (HB.out.cell (World.block_lt_of_cell? w _ hx130_5)).trans hx130_5
      replace hx130_6 := (HB.out.cell (World.block_lt_of_cell? w _ hx130_6)).trans hx130_6
      replace hx130_7 := (HB.out.cell (World.block_lt_of_cell? w _ hx130_7)).trans hx130_7
      have HR130_1 := Aside0.mk hi130_1
      have HC130_1 := Aside0.mk hl130_1
      clear hi130_1 hl130_1
      have HR130_3 := Aside0.mk hi130_3
      have HC130_3 := Aside0.mk hl130_3
      clear hi130_3 hl130_3
      have HR130_4 := Aside0.mk hi130_4
      have HC130_4 := Aside0.mk hl130_4
      clear hi130_4 hl130_4
      have HR130_5 := Aside0.mk hi130_5
      have HC130_5 := Aside0.mk hl130_5
      clear hi130_5 hl130_5
      have HR130_6 := Aside0.mk hi130_6
      have HC130_6 := Aside0.mk hl130_6
      clear hi130_6 hl130_6
      have HR130_7 := Aside0.mk hi130_7
      have HC130_7 := Aside0.mk hl130_7
      clear hi130_7 hl130_7
      replace p130 := eq_true p130
      replace q130 := eq_true q130
      go_upto_if 25 with (first | ((with_reducible refine gate_callee (f := 59) rfl ?_); refine goesL_ (some 23) rfl rfl Try.func59 (by kernel_rfl) rfl #[.agg #[.int .i64 ((rd_T93 l0 x5_1).f0), .slice A130_1 ((rd_T93 l0 x5_1).f1).length c130_1, .string ((rd_T93 l0 x5_1).f2), .slice A130_3 ((rd_T93 l0 x5_1).f3).length c130_3, .slice A130_4 ((rd_T93 l0 x5_1).f4.f0).length c130_4, .slice A130_5 ((rd_T93 l0 x5_1).f4.f1).length c130_5, .slice A130_6 ((rd_T93 l0 x5_1).f5.f0).length c130_6, .slice A130_7 ((rd_T93 l0 x5_1).f5.f1).length c130_7], .int .i64 x1_1] rfl y3 ?_; (with_reducible refine (laws_szBind.Fcalls (laws_szBindS.f k1) (ih k1 (y30 HK1.out)) k1 ((rd_T93 l0 x5_1).f0) _ _ ((rd_T93 l0 x5_1).f1) ((rd_T93 l0 x5_1).f2) _ _ ((rd_T93 l0 x5_1).f3) _ _ ((rd_T93 l0 x5_1).f4.f0) _ _ ((rd_T93 l0 x5_1).f4.f1) _ _ ((rd_T93 l0 x5_1).f5.f0) _ _ ((rd_T93 l0 x5_1).f5.f1) x1_1 t131 _ ?side1 ?side2 ?side3 ?side4 ?side5 ?side6 ?side7 ?side8 ?side9 ?side10 ?side11 ?side12 A6.out).mono ?_); (case side1 => exact y0 HR130_1.out HB.out); (case side2 => exact HC130_1.out); (case side3 => exact y0 HR130_3.out HB.out); (case side4 => exact HC130_3.out); (case side5 => exact y0 HR130_4.out HB.out); (case side6 => exact HC130_4.out); (case side7 => exact y0 HR130_5.out HB.out); (case side8 => exact HC130_5.out); (case side9 => exact y0 HR130_6.out HB.out); (case side10 => exact HC130_6.out); (case side11 => exact y0 HR130_7.out HB.out); (case side12 => exact HC130_7.out); rintro e w8 ⟨rfl, hb⟩; refine ⟨_, rfl, ?_⟩; replace HB := Aside0.mk (below_step (y1 HB.out) hb); (try clear hb); (try clear hb2); (try clear hk); (try clear hi)))
      (try simp only [Act.put, List.setIfInBounds_toArray, List.set_cons_zero, List.set_cons_succ])
      have H := HZ7.out
      clear HZ7
      by_cases c9 : t131 < 0
      ·rw [if_pos c9] at H
       have c9b0 : decide (t131 < 0) = true := decide_eq_true c9
       clear c9
       (first | rw [c9b0] | (simp only [i64_w, i32_w]; rw [c9b0]) | skip)
       obtain rfl := Option.some.inj H
       go_wp2
       go_ret
       exact ⟨y6, (y1 HB.out)⟩
      ·rw [if_neg c9] at H
       have c9b0 : decide (t131 < 0) = false := decide_eq_false c9
       clear c9
       (first | rw [c9b0] | (simp only [i64_w, i32_w]; rw [c9b0]) | skip)
       have H' := Aside0.mk H
       clear H
       go_wp2
       go_roundg k1
       case measure => have := HK1.out; omega
       case rel => exact ⟨(t131), (wrap64 (x5_1 + 1)), y7, y7, H', ⟨(y30 HK1.out)⟩, ⟨(y1 HB.out)⟩⟩
     ·rw [if_neg c5] at H
      exact absurd H (by simp)
    ·rw [if_neg c4] at H
     have c4b0 : decide (x5_1 < (l0.length : Int)) = false := decide_eq_false c4
     clear c4
     obtain rfl := Option.some.inj H
     go_wp2
     go_ret
     exact ⟨y6, (y1 HB.out)⟩
def laws_szBody.f (k : Nat) (l0_0 : List (S93)) (l0_1 : List (S96)) (a1 : Int) : Option (Int) := laws_szBody.F (laws_szBindS.f k) k l0_0 l0_1 a1
theorem laws_szBody.mono : ∀ a0 a1 a2 k, LeO (laws_szBody.f k a0 a1 a2) (laws_szBody.f (k + 1) a0 a1 a2) := fun a0 a1 a2 k => laws_szBody.Fmono (fun y0 y1 => laws_szBindS.mono y0 y1 k) a0 a1 a2 k
theorem laws_szBody.calls (k : Nat) (A0_0 : Option Addr) (c0_0 : Nat) (l0_0 : List (S93)) (A0_1 : Option Addr) (c0_1 : Nat) (l0_1 : List (S96)) (a1 : Int) (r : Int) (w : World) (hr0_0 : Kd.C k93 w A0_0 l0_0.length l0_0) (hc0_0 : l0_0.length ≤ c0_0) (hr0_1 : Kd.C k96 w A0_1 l0_1.length l0_1) (hc0_1 : l0_1.length ≤ c0_1) (h : laws_szBody.f k l0_0 l0_1 a1 = some r) :
  Calls Try.prog 32 #[.agg #[.slice A0_0 l0_0.length c0_0, .slice A0_1 l0_1.length c0_1], .int .i64 a1] w fun e w' => e = .returned (.int .i64 r) ∧ Below w.heap.size w w' := laws_szBody.Fcalls (laws_szBindS.f k) (laws_szBindS.calls k) k A0_0 c0_0 l0_0 A0_1 c0_1 l0_1 a1 r w hr0_0 hc0_0 hr0_1 hc0_1 h
def laws_szBind.f (k : Nat) (a0_0 : Int) (l0_1 : List ByteArray) (a0_2 : ByteArray) (l0_3 : List (S96)) (l0_4 : List (S93)) (l0_5 : List (S96)) (l0_6 : List (S93)) (l0_7 : List (S96)) (a1 : Int) : Option (Int) := laws_szBind.F (laws_szBindS.f k) k a0_0 l0_1 a0_2 l0_3 l0_4 l0_5 l0_6 l0_7 a1
theorem laws_szBind.mono : ∀ a0 a1 a2 a3 a4 a5 a6 a7 a8 k, LeO (laws_szBind.f k a0 a1 a2 a3 a4 a5 a6 a7 a8) (laws_szBind.f (k + 1) a0 a1 a2 a3 a4 a5 a6 a7 a8) := fun a0 a1 a2 a3 a4 a5 a6 a7 a8 k => laws_szBind.Fmono (fun y0 y1 => laws_szBindS.mono y0 y1 k) a0 a1 a2 a3 a4 a5 a6 a7 a8 k
theorem laws_szBind.calls (k : Nat) (a0_0 : Int) (A0_1 : Option Addr) (c0_1 : Nat) (l0_1 : List ByteArray) (a0_2 : ByteArray) (A0_3 : Option Addr) (c0_3 : Nat) (l0_3 : List (S96)) (A0_4 : Option Addr) (c0_4 : Nat) (l0_4 : List (S93)) (A0_5 : Option Addr) (c0_5 : Nat) (l0_5 : List (S96)) (A0_6 : Option Addr) (c0_6 : Nat) (l0_6 : List (S93)) (A0_7 : Option Addr) (c0_7 : Nat) (l0_7 : List (S96)) (a1 : Int) (r : Int) (w : World) (hr0_1 : Kd.C Kd.string w A0_1 l0_1.length l0_1) (hc0_1 : l0_1.length ≤ c0_1) (hr0_3 : Kd.C k96 w A0_3 l0_3.length l0_3) (hc0_3 : l0_3.length ≤ c0_3) (hr0_4 : Kd.C k93 w A0_4 l0_4.length l0_4) (hc0_4 : l0_4.length ≤ c0_4) (hr0_5 : Kd.C k96 w A0_5 l0_5.length l0_5) (hc0_5 : l0_5.length ≤ c0_5) (hr0_6 : Kd.C k93 w A0_6 l0_6.length l0_6) (hc0_6 : l0_6.length ≤ c0_6) (hr0_7 : Kd.C k96 w A0_7 l0_7.length l0_7) (hc0_7 : l0_7.length ≤ c0_7) (h : laws_szBind.f k a0_0 l0_1 a0_2 l0_3 l0_4 l0_5 l0_6 l0_7 a1 = some r) :
  Calls Try.prog 59 #[.agg #[.int .i64 a0_0, .slice A0_1 l0_1.length c0_1, .string a0_2, .slice A0_3 l0_3.length c0_3, .slice A0_4 l0_4.length c0_4, .slice A0_5 l0_5.length c0_5, .slice A0_6 l0_6.length c0_6, .slice A0_7 l0_7.length c0_7], .int .i64 a1] w fun e w' => e = .returned (.int .i64 r) ∧ Below w.heap.size w w' := laws_szBind.Fcalls (laws_szBindS.f k) (laws_szBindS.calls k) k a0_0 A0_1 c0_1 l0_1 a0_2 A0_3 c0_3 l0_3 A0_4 c0_4 l0_4 A0_5 c0_5 l0_5 A0_6 c0_6 l0_6 A0_7 c0_7 l0_7 a1 r w hr0_1 hc0_1 hr0_3 hc0_3 hr0_4 hc0_4 hr0_5 hc0_5 hr0_6 hc0_6 hr0_7 hc0_7 h
end Go.Proofs.Ytdgpegkgelciaaa.PA
end
section
namespace Go.Proofs.Ytdgpegkgelciaaa.PA
open Go.RowKit Go.Proofs.YtdgpegkgelciaaaW.PrintWords Go.Proofs.YtdgpegkgelciaaaW.PrintLast Go.Proofs.YtdgpegkgelciaaaW.PrintMore
attribute [local go_sem] max2_int min2_int max_two min_two max_three min_three max_four min_four
set_option linter.unusedVariables false
set_option linter.unusedSimpArgs false
def laws_szPure.f (k : Nat) (a0_0 : ByteArray) (l0_1 : List ByteArray) (l0_2 : List (S93)) (l0_3 : List (S96)) (a1 : Int) : Option (Int) := if (wrap64 (a1 - (a0_0.size : Int))) < 0 then (some (-1)) else ((laws_szStringS.f k l0_1 (wrap64 (a1 - (a0_0.size : Int)))).bind fun t133 => (if t133 < 0 then (some (-1)) else ((laws_szBody.f k l0_2 l0_3 t133).bind fun t134 => (if t134 < 0 then (some (-1)) else (some t134)))))
theorem laws_szPure.mono : ∀ a0 a1 a2 a3 a4 k, LeO (laws_szPure.f k a0 a1 a2 a3 a4) (laws_szPure.f (k + 1) a0 a1 a2 a3 a4) := by
 intro a0 a1 a2 a3 a4 k
 unfold laws_szPure.f
 repeat' first
   | (with_reducible exact laws_szBody.mono _ _ _ _)
   | (with_reducible exact laws_szStringS.mono _ _ _)
   | (with_reducible exact LeO.refl _)
   | (with_reducible exact LeO.none _)
   | (with_reducible refine LeO.ite ?_ ?_)
   | (with_reducible refine LeO.bind ?_ (fun _ => ?_))
   | exact laws_szBody.mono _ _ _ _
   | exact laws_szStringS.mono _ _ _
   | exact LeO.none _
   | refine LeO.ite ?_ ?_
   | refine LeO.bind ?_ (fun _ => ?_)
set_option maxHeartbeats 8000000 in
set_option maxRecDepth 100000 in
theorem laws_szPure.calls (k : Nat) (a0_0 : ByteArray) (A0_1 : Option Addr) (c0_1 : Nat) (l0_1 : List ByteArray) (A0_2 : Option Addr) (c0_2 : Nat) (l0_2 : List (S93)) (A0_3 : Option Addr) (c0_3 : Nat) (l0_3 : List (S96)) (a1 : Int) (r : Int) (w : World) (hr0_1 : Kd.C Kd.string w A0_1 l0_1.length l0_1) (hc0_1 : l0_1.length ≤ c0_1) (hr0_2 : Kd.C k93 w A0_2 l0_2.length l0_2) (hc0_2 : l0_2.length ≤ c0_2) (hr0_3 : Kd.C k96 w A0_3 l0_3.length l0_3) (hc0_3 : l0_3.length ≤ c0_3) (h : laws_szPure.f k a0_0 l0_1 l0_2 l0_3 a1 = some r) :
  Calls Try.prog 15 #[.agg #[.string a0_0, .slice A0_1 l0_1.length c0_1, .slice A0_2 l0_2.length c0_2, .slice A0_3 l0_3.length c0_3], .int .i64 a1] w fun e w' => e = .returned (.int .i64 r) ∧ Below w.heap.size w w' := by
 have hu37 := Try.underlying37
 have hu35 := Try.underlying35
 have HR0_1 := Aside0.mk hr0_1
 have HC0_1 := Aside0.mk hc0_1
 clear hr0_1 hc0_1
 have HR0_2 := Aside0.mk hr0_2
 have HC0_2 := Aside0.mk hc0_2
 clear hr0_2 hc0_2
 have HR0_3 := Aside0.mk hr0_3
 have HC0_3 := Aside0.mk hc0_3
 clear hr0_3 hc0_3
 have HB := Aside0.mk (Below.refl w.heap.size w)
 have H : (if (wrap64 (a1 - (a0_0.size : Int))) < 0 then (some (-1)) else ((laws_szStringS.f k l0_1 (wrap64 (a1 - (a0_0.size : Int)))).bind fun t133 => (if t133 < 0 then (some (-1)) else ((laws_szBody.f k l0_2 l0_3 t133).bind fun t134 => (if t134 < 0 then (some (-1)) else (some t134)))))) = some r := h
 clear h
 have HZ3 := Aside0.mk H
 clear H
 go_enter Try.func15, Try.ntmps15
 go_upto_if 11 with (first | ((with_reducible refine gate_dst (N := 2) rfl ?_); refine zbx 2 #[.string a0_0, .slice A0_1 l0_1.length c0_1, .slice A0_2 l0_2.length c0_2, .slice A0_3 l0_3.length c0_3] 37 ?_; intro gb132 hg w4 hbox hb; have BK132 := Aside0.mk hbox; have GW132 := Aside0.mk ((y9 hg HB.out : w.heap.size ≤ gb132)); have GE132 := Aside0.mk ((y9 hg HB.out : w.heap.size ≤ gb132)); replace HB := Aside0.mk (below_step (y1 HB.out) hb); clear hb hbox hg; have hcz5_0 := zh BK132; have hcz5_1 := zh1 BK132; have hcz5_2 := zh2 BK132; have hcz5_3 : w4.cell? ⟨gb132, 3, none⟩ = some (.slice A0_3 l0_3.length c0_3) := (blk_cell BK132.out 3).trans rfl; have hfz5_0 := zfr BK132 0; have hfz5_1 := zfr BK132 1; have hfz5_2 := zfr BK132 2; have hfz5_3 := zfr BK132 3))
 (try simp only [Act.put, List.setIfInBounds_toArray, List.set_cons_zero, List.set_cons_succ])
 have H := HZ3.out
 clear HZ3
 by_cases c6 : (wrap64 (a1 - (a0_0.size : Int))) < 0
 ·rw [if_pos c6] at H
  have c6b0 : decide ((wrap64 (a1 - (a0_0.size : Int))) < 0) = true := decide_eq_true c6
  clear c6
  (first | rw [c6b0] | (simp only [i64_w, i32_w]; rw [c6b0]) | skip)
  obtain rfl := Option.some.inj H
  go_wp2
  go_ret
  exact ⟨y6, (y2 HB.out GE132.out)⟩
 ·rw [if_neg c6] at H
  have c6b0 : decide ((wrap64 (a1 - (a0_0.size : Int))) < 0) = false := decide_eq_false c6
  clear c6
  (first | rw [c6b0] | (simp only [i64_w, i32_w]; rw [c6b0]) | skip)
  obtain ⟨t133, A70, H⟩ := ob H
  have A7 := Aside0.mk A70
  clear A70
  have HZ8 := Aside0.mk H
  clear H
  have hcz9_0 := zh BK132
  have hcz9_1 := zh1 BK132
  have hcz9_2 := zh2 BK132
  have hcz9_3 : w4.cell? ⟨gb132, 3, none⟩ = some (.slice A0_3 l0_3.length c0_3) := (blk_cell BK132.out 3).trans rfl
  have hfz9_0 := zfr BK132 0
  have hfz9_1 := zfr BK132 1
  have hfz9_2 := zfr BK132 2
  have hfz9_3 := zfr BK132 3
  go_upto_if 17 with (first | ((with_reducible refine gate_callee (f := 31) rfl ?_); refine goesL_ (some 15) rfl rfl Try.func31 (by kernel_rfl) rfl #[.slice A0_1 l0_1.length c0_1, .int .i64 (wrap64 (a1 - (a0_0.size : Int)))] rfl y3 ?_; (with_reducible refine (laws_szStringS.calls k _ _ l0_1 (wrap64 (a1 - (a0_0.size : Int))) t133 _ ?side1 ?side2 A7.out).mono ?_); (case side1 => exact y0 HR0_1.out HB.out); (case side2 => exact HC0_1.out); rintro e w' ⟨rfl, ⟨nd, rfl⟩⟩; refine ⟨_, rfl, ?_⟩))
  (try simp only [Act.put, List.setIfInBounds_toArray, List.set_cons_zero, List.set_cons_succ])
  have H := HZ8.out
  clear HZ8
  by_cases c10 : t133 < 0
  ·rw [if_pos c10] at H
   have c10b0 : decide (t133 < 0) = true := decide_eq_true c10
   clear c10
   (first | rw [c10b0] | (simp only [i64_w, i32_w]; rw [c10b0]) | skip)
   obtain rfl := Option.some.inj H
   go_wp2
   go_ret
   exact ⟨y6, (y2 HB.out GE132.out)⟩
  ·rw [if_neg c10] at H
   have c10b0 : decide (t133 < 0) = false := decide_eq_false c10
   clear c10
   (first | rw [c10b0] | (simp only [i64_w, i32_w]; rw [c10b0]) | skip)
   obtain ⟨t134, A110, H⟩ := ob H
   have A11 := Aside0.mk A110
   clear A110
   have HZ12 := Aside0.mk H
   clear H
   have hcz13_0 := zh BK132
   have hcz13_1 := zh1 BK132
   have hcz13_2 := zh2 BK132
   have hcz13_3 : w4.cell? ⟨gb132, 3, none⟩ = some (.slice A0_3 l0_3.length c0_3) := (blk_cell BK132.out 3).trans rfl
   have hfz13_0 := zfr BK132 0
   have hfz13_1 := zfr BK132 1
   have hfz13_2 := zfr BK132 2
   have hfz13_3 := zfr BK132 3
   go_upto_if 23 with (first | ((with_reducible refine gate_callee (f := 32) rfl ?_); refine goesL_ (some 21) rfl rfl Try.func32 (by kernel_rfl) rfl #[.agg #[.slice A0_2 l0_2.length c0_2, .slice A0_3 l0_3.length c0_3], .int .i64 t133] rfl y3 ?_; (with_reducible refine (laws_szBody.calls k _ _ l0_2 _ _ l0_3 t133 t134 _ ?side1 ?side2 ?side3 ?side4 A11.out).mono ?_); (case side1 => exact y20 HR0_2.out HB.out GE132.out); (case side2 => exact HC0_2.out); (case side3 => exact y20 HR0_3.out HB.out GE132.out); (case side4 => exact HC0_3.out); rintro e w14 ⟨rfl, hb⟩; refine ⟨_, rfl, ?_⟩; replace BK132 := zbb BK132 hb; replace HB := Aside0.mk (below_step (y2 HB.out GE132.out) hb); (try clear hb); (try clear hb2); (try clear hk); (try clear hi)))
   (try simp only [Act.put, List.setIfInBounds_toArray, List.set_cons_zero, List.set_cons_succ])
   have H := HZ12.out
   clear HZ12
   by_cases c15 : t134 < 0
   ·rw [if_pos c15] at H
    have c15b0 : decide (t134 < 0) = true := decide_eq_true c15
    clear c15
    (first | rw [c15b0] | (simp only [i64_w, i32_w]; rw [c15b0]) | skip)
    obtain rfl := Option.some.inj H
    go_wp2
    go_ret
    exact ⟨y6, (y2 HB.out GE132.out)⟩
   ·rw [if_neg c15] at H
    have c15b0 : decide (t134 < 0) = false := decide_eq_false c15
    clear c15
    (first | rw [c15b0] | (simp only [i64_w, i32_w]; rw [c15b0]) | skip)
    obtain rfl := Option.some.inj H
    go_wp2
    go_ret
    exact ⟨y6, (y2 HB.out GE132.out)⟩
end Go.Proofs.Ytdgpegkgelciaaa.PA
end
section
namespace Go.Proofs.Ytdgpegkgelciaaa.PA
open Go.RowKit Go.Proofs.YtdgpegkgelciaaaW.PrintWords Go.Proofs.YtdgpegkgelciaaaW.PrintLast Go.Proofs.YtdgpegkgelciaaaW.PrintMore
attribute [local go_sem] max2_int min2_int max_two min_two max_three min_three max_four min_four
set_option linter.unusedVariables false
set_option linter.unusedSimpArgs false
def laws_szPureS.l0 : Nat → List (S37) → Int → Int → Option (Int)
 | 0, _, _, _ => none
 | k + 1, x0, x1, x5 => if x5 < (x0.length : Int) then (if 0 ≤ x5 then ((laws_szPure.f k ((rd_T37 x0 x5).f0) ((rd_T37 x0 x5).f1) ((rd_T37 x0 x5).f2.f0) ((rd_T37 x0 x5).f2.f1) x1).bind fun t136 => (if t136 < 0 then (some (-1)) else (laws_szPureS.l0 k x0 t136 (wrap64 (x5 + 1))))) else (none)) else (some x1)
def laws_szPureS.f (k : Nat) (l0 : List (S37)) (a1 : Int) : Option (Int) := if (wrap64 (a1 - (l0.length : Int))) < 0 then (some (-1)) else (laws_szPureS.l0 k l0 (wrap64 (a1 - (l0.length : Int))) 0)
theorem laws_szPureS.mono_l : ∀ k, (∀ y0 y1 y2, LeO (laws_szPureS.l0 k y0 y1 y2) (laws_szPureS.l0 (k + 1) y0 y1 y2))
 | 0 => fun _ _ _ r h => by simp [laws_szPureS.l0] at h
 | k + 1 => by
  have ih0 := laws_szPureS.mono_l k
  ·intro y0 y1 y2
   unfold laws_szPureS.l0
   repeat' first
   | (with_reducible exact ih0 _ _ _)
   | (with_reducible exact laws_szPure.mono _ _ _ _ _ _)
   | (with_reducible exact LeO.refl _)
   | (with_reducible exact LeO.none _)
   | (with_reducible refine LeO.ite ?_ ?_)
   | (with_reducible refine LeO.bind ?_ (fun _ => ?_))
   | exact ih0 _ _ _
   | exact laws_szPure.mono _ _ _ _ _ _
   | exact LeO.none _
   | refine LeO.ite ?_ ?_
   | refine LeO.bind ?_ (fun _ => ?_)
theorem laws_szPureS.mono : ∀ a0 a1 k, LeO (laws_szPureS.f k a0 a1) (laws_szPureS.f (k + 1) a0 a1) := by
 intro a0 a1 k
 have ih0 := laws_szPureS.mono_l k
 unfold laws_szPureS.f
 repeat' first
   | (with_reducible exact ih0 _ _ _)
   | (with_reducible exact laws_szPure.mono _ _ _ _ _ _)
   | (with_reducible exact LeO.refl _)
   | (with_reducible exact LeO.none _)
   | (with_reducible refine LeO.ite ?_ ?_)
   | (with_reducible refine LeO.bind ?_ (fun _ => ?_))
   | exact ih0 _ _ _
   | exact laws_szPure.mono _ _ _ _ _ _
   | exact LeO.none _
   | refine LeO.ite ?_ ?_
   | refine LeO.bind ?_ (fun _ => ?_)
set_option maxHeartbeats 8000000 in
set_option maxRecDepth 100000 in
theorem laws_szPureS.calls (k : Nat) (A0 : Option Addr) (c0 : Nat) (l0 : List (S37)) (a1 : Int) (r : Int) (w : World) (hr0 : Kd.C k37 w A0 l0.length l0) (hc0 : l0.length ≤ c0) (h : laws_szPureS.f k l0 a1 = some r) :
  Calls Try.prog 6 #[.slice A0 l0.length c0, .int .i64 a1] w fun e w' => e = .returned (.int .i64 r) ∧ Below w.heap.size w w' := by
 have hu37 := Try.underlying37
 have HR0 := Aside0.mk hr0
 have HC0 := Aside0.mk hc0
 clear hr0 hc0
 have HB := Aside0.mk (Below.refl w.heap.size w)
 have H : (if (wrap64 (a1 - (l0.length : Int))) < 0 then (some (-1)) else (laws_szPureS.l0 k l0 (wrap64 (a1 - (l0.length : Int))) 0)) = some r := h
 clear h
 by_cases c3 : (wrap64 (a1 - (l0.length : Int))) < 0
 ·rw [if_pos c3] at H
  have c3b0 : decide ((wrap64 (a1 - (l0.length : Int))) < 0) = true := decide_eq_true c3
  clear c3
  obtain rfl := Option.some.inj H
  go_enter Try.func6, Try.ntmps6
  go_wp2
  go_ret
  exact ⟨y6, (y1 HB.out)⟩
 ·rw [if_neg c3] at H
  have c3b0 : decide ((wrap64 (a1 - (l0.length : Int))) < 0) = false := decide_eq_false c3
  clear c3
  have H' := Aside0.mk H
  clear H
  go_enter Try.func6, Try.ntmps6
  go_wp2
  go_loopg [1, 5] k (fun kq v1 v5 w' => ∃ (x1_1 : Int) (x5_1 : Int), v1 = .int .i64 x1_1 ∧ v5 = .int .i64 x5_1 ∧ Aside0 (laws_szPureS.l0 kq l0 x1_1 x5_1 = some r) ∧ Aside0 (kq ≤ k) ∧ Aside0 (Below w.heap.size w w'))
  case atStart => exact ⟨(wrap64 (a1 - (l0.length : Int))), (0), y7, y7, H', ⟨Nat.le_refl _⟩, ⟨(y1 HB.out)⟩⟩
  case round =>
   clear H'
   try clear p2
   try clear c3
   try clear c3b0
   obtain ⟨x1_1, x5_1, rfl, rfl, HA, HK1, HB⟩ := hrel
   cases gk with
   | zero => exact absurd HA.out (by simp [laws_szPureS.l0])
   | succ k1 =>
    have H := HA.out
    clear HA
    simp only [laws_szPureS.l0] at H
    by_cases c4 : x5_1 < (l0.length : Int)
    ·rw [if_pos c4] at H
     have c4b0 : decide (x5_1 < (l0.length : Int)) = true := decide_eq_true c4
     clear c4
     by_cases c5 : 0 ≤ x5_1
     ·rw [if_pos c5] at H
      have c5b0 : decide (0 ≤ x5_1) = true := decide_eq_true c5
      clear c5
      obtain ⟨t136, A60, H⟩ := ob H
      have A6 := Aside0.mk A60
      clear A60
      have HZ7 := Aside0.mk H
      clear H
      have p135 : 0 ≤ (x5_1 : Int) := of_decide_eq_true y4
      have q135 : x5_1 < (l0.length : Int) := of_decide_eq_true y4
      obtain ⟨ad135, A135_1, c135_1, A135_2, c135_2, A135_3, c135_3, e135, hx135_0, hx135_1, hx135_2, hx135_3, hl135_1, hi135_1, hl135_2, hi135_2, hl135_3, hi135_3⟩ := at_T37 HR0.out x5_1 p135 q135
      cases e135
      replace hx135_0 := (HB.out.cell (World.block_lt_of_cell? w _ hx135_0)).trans hx135_0
      replace hx135_1 := (HB.out.cell (World.block_lt_of_cell? w _ hx135_1)).trans hx135_1
      replace hx135_2 := (HB.out.cell (World.block_lt_of_cell? w _ hx135_2)).trans hx135_2
      replace hx135_3 := (HB.out.cell (World.block_lt_of_cell? w _ hx135_3)).trans hx135_3
      have HR135_1 := Aside0.mk hi135_1
      have HC135_1 := Aside0.mk hl135_1
      clear hi135_1 hl135_1
      have HR135_2 := Aside0.mk hi135_2
      have HC135_2 := Aside0.mk hl135_2
      clear hi135_2 hl135_2
      have HR135_3 := Aside0.mk hi135_3
      have HC135_3 := Aside0.mk hl135_3
      clear hi135_3 hl135_3
      replace p135 := eq_true p135
      replace q135 := eq_true q135
      go_upto_if 25 with (first | ((with_reducible refine gate_callee (f := 15) rfl ?_); refine goesL_ (some 23) rfl rfl Try.func15 (by kernel_rfl) rfl #[.agg #[.string ((rd_T37 l0 x5_1).f0), .slice A135_1 ((rd_T37 l0 x5_1).f1).length c135_1, .slice A135_2 ((rd_T37 l0 x5_1).f2.f0).length c135_2, .slice A135_3 ((rd_T37 l0 x5_1).f2.f1).length c135_3], .int .i64 x1_1] rfl y3 ?_; (with_reducible refine (laws_szPure.calls k1 ((rd_T37 l0 x5_1).f0) _ _ ((rd_T37 l0 x5_1).f1) _ _ ((rd_T37 l0 x5_1).f2.f0) _ _ ((rd_T37 l0 x5_1).f2.f1) x1_1 t136 _ ?side1 ?side2 ?side3 ?side4 ?side5 ?side6 A6.out).mono ?_); (case side1 => exact y0 HR135_1.out HB.out); (case side2 => exact HC135_1.out); (case side3 => exact y0 HR135_2.out HB.out); (case side4 => exact HC135_2.out); (case side5 => exact y0 HR135_3.out HB.out); (case side6 => exact HC135_3.out); rintro e w8 ⟨rfl, hb⟩; refine ⟨_, rfl, ?_⟩; replace HB := Aside0.mk (below_step (y1 HB.out) hb); (try clear hb); (try clear hb2); (try clear hk); (try clear hi)))
      (try simp only [Act.put, List.setIfInBounds_toArray, List.set_cons_zero, List.set_cons_succ])
      have H := HZ7.out
      clear HZ7
      by_cases c9 : t136 < 0
      ·rw [if_pos c9] at H
       have c9b0 : decide (t136 < 0) = true := decide_eq_true c9
       clear c9
       (first | rw [c9b0] | (simp only [i64_w, i32_w]; rw [c9b0]) | skip)
       obtain rfl := Option.some.inj H
       go_wp2
       go_ret
       exact ⟨y6, (y1 HB.out)⟩
      ·rw [if_neg c9] at H
       have c9b0 : decide (t136 < 0) = false := decide_eq_false c9
       clear c9
       (first | rw [c9b0] | (simp only [i64_w, i32_w]; rw [c9b0]) | skip)
       have H' := Aside0.mk H
       clear H
       go_wp2
       go_roundg k1
       case measure => have := HK1.out; omega
       case rel => exact ⟨(t136), (wrap64 (x5_1 + 1)), y7, y7, H', ⟨(y30 HK1.out)⟩, ⟨(y1 HB.out)⟩⟩
     ·rw [if_neg c5] at H
      exact absurd H (by simp)
    ·rw [if_neg c4] at H
     have c4b0 : decide (x5_1 < (l0.length : Int)) = false := decide_eq_false c4
     clear c4
     obtain rfl := Option.some.inj H
     go_wp2
     go_ret
     exact ⟨y6, (y1 HB.out)⟩
end Go.Proofs.Ytdgpegkgelciaaa.PA
end
section
namespace Go.Proofs.Ytdgpegkgelciaaa.PA
open Go.RowKit Go.Proofs.YtdgpegkgelciaaaW.PrintWords Go.Proofs.YtdgpegkgelciaaaW.PrintLast Go.Proofs.YtdgpegkgelciaaaW.PrintMore
attribute [local go_sem] max2_int min2_int max_two min_two max_three min_three max_four min_four
set_option linter.unusedVariables false
set_option linter.unusedSimpArgs false
def laws_toStringS.l0 : Nat → List ByteArray → List ByteArray → Int → Option (List ByteArray)
 | 0, _, _, _ => none
 | k + 1, x0, x3, x4 => if x4 < (x0.length : Int) then (if 0 ≤ x4 then (if x4 < (x3.length : Int) then (laws_toStringS.l0 k x0 (x3.set (x4 : Int).toNat (rdOf ByteArray.empty x0 x4)) (wrap64 (x4 + 1))) else (none)) else (none)) else (some x3)
def laws_toStringS.f (k : Nat) (l0 : List ByteArray) : Option (List ByteArray) := if 0 ≤ (l0.length : Int) then (if ((l0.length : Int) : Int).toNat ≤ 17592186044416 then (laws_toStringS.l0 k l0 (List.replicate ((l0.length : Int) : Int).toNat (⟨#[]⟩ : ByteArray)) 0) else (none)) else (none)
theorem laws_toStringS.mono_l : ∀ k, (∀ y0 y1 y2, LeO (laws_toStringS.l0 k y0 y1 y2) (laws_toStringS.l0 (k + 1) y0 y1 y2))
 | 0 => fun _ _ _ r h => by simp [laws_toStringS.l0] at h
 | k + 1 => by
  have ih0 := laws_toStringS.mono_l k
  ·intro y0 y1 y2
   unfold laws_toStringS.l0
   repeat' first
   | (with_reducible exact ih0 _ _ _)
   | (with_reducible exact LeO.refl _)
   | (with_reducible exact LeO.none _)
   | (with_reducible refine LeO.ite ?_ ?_)
   | (with_reducible refine LeO.bind ?_ (fun _ => ?_))
   | exact ih0 _ _ _
   | exact LeO.none _
   | refine LeO.ite ?_ ?_
   | refine LeO.bind ?_ (fun _ => ?_)
theorem laws_toStringS.mono : ∀ a0 k, LeO (laws_toStringS.f k a0) (laws_toStringS.f (k + 1) a0) := by
 intro a0 k
 have ih0 := laws_toStringS.mono_l k
 unfold laws_toStringS.f
 repeat' first
   | (with_reducible exact ih0 _ _ _)
   | (with_reducible exact LeO.refl _)
   | (with_reducible exact LeO.none _)
   | (with_reducible refine LeO.ite ?_ ?_)
   | (with_reducible refine LeO.bind ?_ (fun _ => ?_))
   | exact ih0 _ _ _
   | exact LeO.none _
   | refine LeO.ite ?_ ?_
   | refine LeO.bind ?_ (fun _ => ?_)
set_option maxHeartbeats 8000000 in
set_option maxRecDepth 100000 in
theorem laws_toStringS.calls (k : Nat) (A0 : Option Addr) (c0 : Nat) (l0 : List ByteArray) (r : List ByteArray) (w : World) (hr0 : Kd.C Kd.string w A0 l0.length l0) (hc0 : l0.length ≤ c0) (h : laws_toStringS.f k l0 = some r) :
  Calls Try.prog 35 #[.slice A0 l0.length c0] w fun e w' => ∃ v0_ : Value, e = .returned (v0_) ∧ Kd.R Kd.string 9 w' w.heap.size (fun _ => True) v0_ r ∧ Below w.heap.size w w' := by
 have HR0 := Aside0.mk hr0
 have HC0 := Aside0.mk hc0
 clear hr0 hc0
 have HB := Aside0.mk (Below.refl w.heap.size w)
 have H : (if 0 ≤ (l0.length : Int) then (if ((l0.length : Int) : Int).toNat ≤ 17592186044416 then (laws_toStringS.l0 k l0 (List.replicate ((l0.length : Int) : Int).toNat (⟨#[]⟩ : ByteArray)) 0) else (none)) else (none)) = some r := h
 clear h
 by_cases c2 : 0 ≤ (l0.length : Int)
 ·rw [if_pos c2] at H
  have c2b0 := eq_true c2
  have c2b1 : decide (0 ≤ (l0.length : Int)) = true := decide_eq_true c2
  clear c2
  by_cases c3 : ((l0.length : Int) : Int).toNat ≤ 17592186044416
  ·rw [if_pos c3] at H
   have c3b0 := eq_true c3
   have c3b1 : decide (((l0.length : Int) : Int).toNat ≤ 17592186044416) = true := decide_eq_true c3
   clear c3
   obtain ⟨y222, hy222⟩ : ∃ y_ : List ByteArray, y_ = (List.replicate ((l0.length : Int) : Int).toNat (⟨#[]⟩ : ByteArray)) := ⟨_, rfl⟩
   replace H : (laws_toStringS.l0 k l0 y222 0) = some r := by first | (rw [hy222]; with_reducible exact H) | (have H2_ := (Option.bind_some _ _).symm.trans H; rw [hy222]; with_reducible exact H2_) | (have H2_ := (Option.bind_some _ _).symm.trans H; with_reducible exact H2_) | with_reducible exact H | (rw [hy222]; exact H) | exact H
   have Ny222 := Aside0.mk hy222
   clear hy222
   have H' := Aside0.mk H
   clear H
   go_enter Try.func35, Try.ntmps35
   go_wp2_with (first | ((with_reducible refine gate_dst (N := 7) rfl ?_); refine Kd.R_make Kd.string _ 9 rfl (N := 7) rfl 31 _ _ rfl (l0.length : Int) rfl rfl Try.underlying31 (.string ⟨#[]⟩) 16 info9 rfl (by decide) (by omega) (⟨#[]⟩ : ByteArray) (ok := fun _ => True) (okp := fun _ => True) rfl (fun _ hk => hk) trivial (of_decide_eq_true y4) (Nat.le_trans (Nat.mul_le_mul_right _ (of_decide_eq_true y4 : (l0.length : Int).toNat ≤ 17592186044416)) (by omega)) (Below.refl _ _) (Nat.le_refl _) ?_; intro v223 w4 ho5 hb hg_ hnew_; clear hg_ hnew_; (first | rw [← Ny222.out] at ho5 | (simp only [Int.reduceToNat] at ho5; rw [← Ny222.out] at ho5)); have HO224 := Aside0.mk (Kd.R_lower ho5 (below_size (y1 HB.out))); replace HB := Aside0.mk (below_step (y1 HB.out) hb); clear hb ho5))
   go_loopg [4] k (fun kq v4 w' => ∃ (x3_1 : List ByteArray) (x4_1 : Int), v4 = .int .i64 x4_1 ∧ Aside0 (laws_toStringS.l0 kq l0 x3_1 x4_1 = some r) ∧ Aside0 (kq ≤ k) ∧ Aside0 (Kd.R Kd.string 9 w' w.heap.size (fun _ => True) v223 x3_1) ∧ Aside0 (Below w.heap.size w w'))
   case atStart => exact ⟨(y222), (0), y7, H', ⟨Nat.le_refl _⟩, ⟨(y11 HO224.out)⟩, ⟨(y1 HB.out)⟩⟩
   case round =>
    clear H'
    try clear c2
    try clear c2b0
    try clear c2b1
    try clear p2
    try clear c3
    try clear c3b0
    try clear c3b1
    obtain ⟨x3_1, x4_1, rfl, HA, HK1, HO_3, HB⟩ := hrel
    cases gk with
    | zero => exact absurd HA.out (by simp [laws_toStringS.l0])
    | succ k1 =>
     have H := HA.out
     clear HA
     simp only [laws_toStringS.l0] at H
     by_cases c6 : x4_1 < (l0.length : Int)
     ·rw [if_pos c6] at H
      have c6b0 : decide (x4_1 < (l0.length : Int)) = true := decide_eq_true c6
      clear c6
      by_cases c7 : 0 ≤ x4_1
      ·rw [if_pos c7] at H
       have c7b0 : decide (0 ≤ x4_1) = true := decide_eq_true c7
       clear c7
       by_cases c8 : x4_1 < (x3_1.length : Int)
       ·rw [if_pos c8] at H
        have c8b0 : decide (x4_1 < (x3_1.length : Int)) = true := decide_eq_true c8
        clear c8
        obtain ⟨y226, hy226⟩ : ∃ y_ : List ByteArray, y_ = (x3_1.set (x4_1 : Int).toNat (rdOf ByteArray.empty l0 x4_1)) := ⟨_, rfl⟩
        replace H : (laws_toStringS.l0 k1 l0 y226 (wrap64 (x4_1 + 1))) = some r := by first | (rw [hy226]; with_reducible exact H) | (have H2_ := (Option.bind_some _ _).symm.trans H; rw [hy226]; with_reducible exact H2_) | (have H2_ := (Option.bind_some _ _).symm.trans H; with_reducible exact H2_) | with_reducible exact H | (rw [hy226]; exact H) | exact H
        have Ny226 := Aside0.mk hy226
        clear hy226
        have H' := Aside0.mk H
        clear H
        have p225 : 0 ≤ (x4_1 : Int) := of_decide_eq_true y4
        have q225 : x4_1 < (l0.length : Int) := of_decide_eq_true y4
        obtain ⟨ad225, e225, hx225_0⟩ := Kd.at_string HR0.out x4_1 p225 q225
        cases e225
        replace hx225_0 := (HB.out.cell (World.block_lt_of_cell? w _ hx225_0)).trans hx225_0
        replace p225 := eq_true p225
        replace q225 := eq_true q225
        have p9 : 0 ≤ (x4_1 : Int) := of_decide_eq_true y4
        have q9 : (x4_1 : Int) < ((x3_1.length : Int) : Int) := of_decide_eq_true y4
        obtain ⟨go9, co9, eo9, gb9, gl9, cl9, HG9⟩ := Kd.R_form HO_3.out (by omega)
        (first | cases eo9 | (injection eo9 with ea_ en_ ec_; (first | subst ea_ | (injection ea_ with ea_; subst ea_)); subst ec_; clear en_))
        have GB9 := Aside0.mk gb9
        have GG9 := Aside0.mk HG9
        clear gb9 gl9 HG9
        obtain ⟨hx9_0, hf9_0⟩ := Kd.R_celln (⟨#[]⟩ : ByteArray) HO_3.out (x4_1 : Int) p9 q9
        replace p9 := eq_true p9
        replace q9 := eq_true q9
        have HP10 := Kd.R_putg HO_3.out (x4_1 : Int) (rdOf ByteArray.empty l0 x4_1)
        go_wp2_with (first | ((with_reducible refine gate_store (t := 9) (p := 20) rfl ?_); refine store_event (t := 9) (p := 20) (v := ?vo_w11) (w1 := (wr.setCell ⟨go9, (x4_1 : Int).toNat, none⟩ (.string (rdOf ByteArray.empty l0 x4_1)))) ?hg ?ho ?hn ?hr ?_; (case ho => rfl); (case hg => rfl); (case hn => rfl); (case hr => first | (go_simp; done) | (go_simp; rfl)); intro w11 hw; have hg : wr.grownBy w11 (some go9) := (by rw [hw]; exact HP10.2); have hp_ : Kd.R Kd.string 9 w11 w.heap.size (fun _ => True) (.slice (some ⟨go9, 0, none⟩) x3_1.length co9) y226 := (by rw [hw, Ny226.out]; exact HP10.1); clear HP10; replace HO_3 := Aside0.mk (hp_); replace HB := Aside0.mk ((by rw [hw]; exact below_set (HB.out) GB9.out : Below w.heap.size w w11)); clear hg hw hp_))
        go_roundg k1
        case measure => have := HK1.out; omega
        case rel => exact ⟨(y226), (wrap64 (x4_1 + 1)), y7, H', ⟨(y30 HK1.out)⟩, ⟨(y11 HO_3.out)⟩, ⟨(y1 HB.out)⟩⟩
       ·rw [if_neg c8] at H
        exact absurd H (by simp)
      ·rw [if_neg c7] at H
       exact absurd H (by simp)
     ·rw [if_neg c6] at H
      have c6b0 : decide (x4_1 < (l0.length : Int)) = false := decide_eq_false c6
      clear c6
      obtain rfl := Option.some.inj H
      go_wp2
      go_ret
      exact ⟨_, y6, (y11 HO_3.out), (y1 HB.out)⟩
  ·rw [if_neg c3] at H
   exact absurd H (by simp)
 ·rw [if_neg c2] at H
  exact absurd H (by simp)
end Go.Proofs.Ytdgpegkgelciaaa.PA
end
section
namespace Go.Proofs.Ytdgpegkgelciaaa.PA
open Go.RowKit Go.Proofs.YtdgpegkgelciaaaW.PrintWords Go.Proofs.YtdgpegkgelciaaaW.PrintLast Go.Proofs.YtdgpegkgelciaaaW.PrintMore
attribute [local go_sem] max2_int min2_int max_two min_two max_three min_three max_four min_four
set_option linter.unusedVariables false
set_option linter.unusedSimpArgs false
def laws_toIntS.l0 : Nat → List Int → List Int → Int → Option (List Int)
 | 0, _, _, _ => none
 | k + 1, x0, x3, x4 => if x4 < (x0.length : Int) then (if 0 ≤ x4 then (if x4 < (x3.length : Int) then (laws_toIntS.l0 k x0 (x3.set (x4 : Int).toNat (rd x0 x4)) (wrap64 (x4 + 1))) else (none)) else (none)) else (some x3)
def laws_toIntS.f (k : Nat) (l0 : List Int) : Option (List Int) := if 0 ≤ (l0.length : Int) then (if ((l0.length : Int) : Int).toNat ≤ 35184372088832 then (laws_toIntS.l0 k l0 (List.replicate ((l0.length : Int) : Int).toNat 0) 0) else (none)) else (none)
theorem laws_toIntS.mono_l : ∀ k, (∀ y0 y1 y2, LeO (laws_toIntS.l0 k y0 y1 y2) (laws_toIntS.l0 (k + 1) y0 y1 y2))
 | 0 => fun _ _ _ r h => by simp [laws_toIntS.l0] at h
 | k + 1 => by
  have ih0 := laws_toIntS.mono_l k
  ·intro y0 y1 y2
   unfold laws_toIntS.l0
   repeat' first
   | (with_reducible exact ih0 _ _ _)
   | (with_reducible exact LeO.refl _)
   | (with_reducible exact LeO.none _)
   | (with_reducible refine LeO.ite ?_ ?_)
   | (with_reducible refine LeO.bind ?_ (fun _ => ?_))
   | exact ih0 _ _ _
   | exact LeO.none _
   | refine LeO.ite ?_ ?_
   | refine LeO.bind ?_ (fun _ => ?_)
theorem laws_toIntS.mono : ∀ a0 k, LeO (laws_toIntS.f k a0) (laws_toIntS.f (k + 1) a0) := by
 intro a0 k
 have ih0 := laws_toIntS.mono_l k
 unfold laws_toIntS.f
 repeat' first
   | (with_reducible exact ih0 _ _ _)
   | (with_reducible exact LeO.refl _)
   | (with_reducible exact LeO.none _)
   | (with_reducible refine LeO.ite ?_ ?_)
   | (with_reducible refine LeO.bind ?_ (fun _ => ?_))
   | exact ih0 _ _ _
   | exact LeO.none _
   | refine LeO.ite ?_ ?_
   | refine LeO.bind ?_ (fun _ => ?_)
set_option maxHeartbeats 8000000 in
set_option maxRecDepth 100000 in
theorem laws_toIntS.calls (k : Nat) (A0 : Option Addr) (c0 : Nat) (l0 : List Int) (r : List Int) (w : World) (hr0 : Kd.C (Kd.int .i64) w A0 l0.length l0) (hc0 : l0.length ≤ c0) (h : laws_toIntS.f k l0 = some r) :
  Calls Try.prog 68 #[.slice A0 l0.length c0] w fun e w' => ∃ v0_ : Value, e = .returned (v0_) ∧ Kd.R (Kd.int .i64) 3 w' w.heap.size (fun _ => True) v0_ r ∧ Below w.heap.size w w' := by
 have HR0 := Aside0.mk hr0
 have HC0 := Aside0.mk hc0
 clear hr0 hc0
 have HB := Aside0.mk (Below.refl w.heap.size w)
 have H : (if 0 ≤ (l0.length : Int) then (if ((l0.length : Int) : Int).toNat ≤ 35184372088832 then (laws_toIntS.l0 k l0 (List.replicate ((l0.length : Int) : Int).toNat 0) 0) else (none)) else (none)) = some r := h
 clear h
 by_cases c2 : 0 ≤ (l0.length : Int)
 ·rw [if_pos c2] at H
  have c2b0 := eq_true c2
  have c2b1 : decide (0 ≤ (l0.length : Int)) = true := decide_eq_true c2
  clear c2
  by_cases c3 : ((l0.length : Int) : Int).toNat ≤ 35184372088832
  ·rw [if_pos c3] at H
   have c3b0 := eq_true c3
   have c3b1 : decide (((l0.length : Int) : Int).toNat ≤ 35184372088832) = true := decide_eq_true c3
   clear c3
   obtain ⟨y227, hy227⟩ : ∃ y_ : List Int, y_ = (List.replicate ((l0.length : Int) : Int).toNat 0) := ⟨_, rfl⟩
   replace H : (laws_toIntS.l0 k l0 y227 0) = some r := by first | (rw [hy227]; with_reducible exact H) | (have H2_ := (Option.bind_some _ _).symm.trans H; rw [hy227]; with_reducible exact H2_) | (have H2_ := (Option.bind_some _ _).symm.trans H; with_reducible exact H2_) | with_reducible exact H | (rw [hy227]; exact H) | exact H
   have Ny227 := Aside0.mk hy227
   clear hy227
   have H' := Aside0.mk H
   clear H
   go_enter Try.func68, Try.ntmps68
   go_wp2_with (first | ((with_reducible refine gate_dst (N := 7) rfl ?_); refine Kd.R_make (Kd.int .i64) _ 3 rfl (N := 7) rfl 76 _ _ rfl (l0.length : Int) rfl rfl Try.underlying76 (.int .i64 0) 8 info3 rfl (by decide) (by omega) 0 (ok := fun _ => True) (okp := fun _ => True) rfl (fun _ hk => hk) trivial (of_decide_eq_true y4) (Nat.le_trans (Nat.mul_le_mul_right _ (of_decide_eq_true y4 : (l0.length : Int).toNat ≤ 35184372088832)) (by omega)) (Below.refl _ _) (Nat.le_refl _) ?_; intro v228 w4 ho5 hb hg_ hnew_; clear hg_ hnew_; (first | rw [← Ny227.out] at ho5 | (simp only [Int.reduceToNat] at ho5; rw [← Ny227.out] at ho5)); have HO229 := Aside0.mk (Kd.R_lower ho5 (below_size (y1 HB.out))); replace HB := Aside0.mk (below_step (y1 HB.out) hb); clear hb ho5))
   go_loopg [4] k (fun kq v4 w' => ∃ (x3_1 : List Int) (x4_1 : Int), v4 = .int .i64 x4_1 ∧ Aside0 (laws_toIntS.l0 kq l0 x3_1 x4_1 = some r) ∧ Aside0 (kq ≤ k) ∧ Aside0 (Kd.R (Kd.int .i64) 3 w' w.heap.size (fun _ => True) v228 x3_1) ∧ Aside0 (Below w.heap.size w w'))
   case atStart => exact ⟨(y227), (0), y7, H', ⟨Nat.le_refl _⟩, ⟨(y11 HO229.out)⟩, ⟨(y1 HB.out)⟩⟩
   case round =>
    clear H'
    try clear c2
    try clear c2b0
    try clear c2b1
    try clear p2
    try clear c3
    try clear c3b0
    try clear c3b1
    obtain ⟨x3_1, x4_1, rfl, HA, HK1, HO_3, HB⟩ := hrel
    cases gk with
    | zero => exact absurd HA.out (by simp [laws_toIntS.l0])
    | succ k1 =>
     have H := HA.out
     clear HA
     simp only [laws_toIntS.l0] at H
     by_cases c6 : x4_1 < (l0.length : Int)
     ·rw [if_pos c6] at H
      have c6b0 : decide (x4_1 < (l0.length : Int)) = true := decide_eq_true c6
      clear c6
      by_cases c7 : 0 ≤ x4_1
      ·rw [if_pos c7] at H
       have c7b0 : decide (0 ≤ x4_1) = true := decide_eq_true c7
       clear c7
       by_cases c8 : x4_1 < (x3_1.length : Int)
       ·rw [if_pos c8] at H
        have c8b0 : decide (x4_1 < (x3_1.length : Int)) = true := decide_eq_true c8
        clear c8
        obtain ⟨y231, hy231⟩ : ∃ y_ : List Int, y_ = (x3_1.set (x4_1 : Int).toNat (rd l0 x4_1)) := ⟨_, rfl⟩
        replace H : (laws_toIntS.l0 k1 l0 y231 (wrap64 (x4_1 + 1))) = some r := by first | (rw [hy231]; with_reducible exact H) | (have H2_ := (Option.bind_some _ _).symm.trans H; rw [hy231]; with_reducible exact H2_) | (have H2_ := (Option.bind_some _ _).symm.trans H; with_reducible exact H2_) | with_reducible exact H | (rw [hy231]; exact H) | exact H
        have Ny231 := Aside0.mk hy231
        clear hy231
        have H' := Aside0.mk H
        clear H
        have p230 : 0 ≤ (x4_1 : Int) := of_decide_eq_true y4
        have q230 : x4_1 < (l0.length : Int) := of_decide_eq_true y4
        obtain ⟨ad230, e230, hx230_0⟩ := Kd.at_int HR0.out x4_1 p230 q230
        cases e230
        replace hx230_0 := (HB.out.cell (World.block_lt_of_cell? w _ hx230_0)).trans hx230_0
        replace p230 := eq_true p230
        replace q230 := eq_true q230
        have p9 : 0 ≤ (x4_1 : Int) := of_decide_eq_true y4
        have q9 : (x4_1 : Int) < ((x3_1.length : Int) : Int) := of_decide_eq_true y4
        obtain ⟨go9, co9, eo9, gb9, gl9, cl9, HG9⟩ := Kd.R_form HO_3.out (by omega)
        (first | cases eo9 | (injection eo9 with ea_ en_ ec_; (first | subst ea_ | (injection ea_ with ea_; subst ea_)); subst ec_; clear en_))
        have GB9 := Aside0.mk gb9
        have GG9 := Aside0.mk HG9
        clear gb9 gl9 HG9
        obtain ⟨hx9_0, hf9_0⟩ := Kd.R_celln 0 HO_3.out (x4_1 : Int) p9 q9
        replace p9 := eq_true p9
        replace q9 := eq_true q9
        have HP10 := Kd.R_putg HO_3.out (x4_1 : Int) (rd l0 x4_1)
        go_wp2_with (first | ((with_reducible refine gate_store (t := 3) (p := 20) rfl ?_); refine store_event (t := 3) (p := 20) (v := ?vo_w11) (w1 := (wr.setCell ⟨go9, (x4_1 : Int).toNat, none⟩ (.int .i64 (rd l0 x4_1)))) ?hg ?ho ?hn ?hr ?_; (case ho => rfl); (case hg => rfl); (case hn => rfl); (case hr => first | (go_simp; done) | (go_simp; rfl)); intro w11 hw; have hg : wr.grownBy w11 (some go9) := (by rw [hw]; exact HP10.2); have hp_ : Kd.R (Kd.int .i64) 3 w11 w.heap.size (fun _ => True) (.slice (some ⟨go9, 0, none⟩) x3_1.length co9) y231 := (by rw [hw, Ny231.out]; exact HP10.1); clear HP10; replace HO_3 := Aside0.mk (hp_); replace HB := Aside0.mk ((by rw [hw]; exact below_set (HB.out) GB9.out : Below w.heap.size w w11)); clear hg hw hp_))
        go_roundg k1
        case measure => have := HK1.out; omega
        case rel => exact ⟨(y231), (wrap64 (x4_1 + 1)), y7, H', ⟨(y30 HK1.out)⟩, ⟨(y11 HO_3.out)⟩, ⟨(y1 HB.out)⟩⟩
       ·rw [if_neg c8] at H
        exact absurd H (by simp)
      ·rw [if_neg c7] at H
       exact absurd H (by simp)
     ·rw [if_neg c6] at H
      have c6b0 : decide (x4_1 < (l0.length : Int)) = false := decide_eq_false c6
      clear c6
      obtain rfl := Option.some.inj H
      go_wp2
      go_ret
      exact ⟨_, y6, (y11 HO_3.out), (y1 HB.out)⟩
  ·rw [if_neg c3] at H
   exact absurd H (by simp)
 ·rw [if_neg c2] at H
  exact absurd H (by simp)
end Go.Proofs.Ytdgpegkgelciaaa.PA
end
section
namespace Go.Proofs.Ytdgpegkgelciaaa.PA
open Go.RowKit Go.Proofs.YtdgpegkgelciaaaW.PrintWords Go.Proofs.YtdgpegkgelciaaaW.PrintLast Go.Proofs.YtdgpegkgelciaaaW.PrintMore
attribute [local go_sem] max2_int min2_int max_two min_two max_three min_three max_four min_four
set_option linter.unusedVariables false
set_option linter.unusedSimpArgs false
def laws_toTerm.F (rec_ : List (S96) → Option ((List (S78)))) (k : Nat) (a0_0 : Int) (a0_1 : Int) (a0_2 : ByteArray) (l0_3 : List Int) (l0_4 : List (S96)) : Option (Int × Int × ByteArray × List Int × (List (S78))) := (laws_toIntS.f k l0_3).bind fun t258 => ((rec_ l0_4).bind fun t261 => (some (a0_0, a0_1, a0_2, t258, t261)))
mutual
def laws_toTermS.l0 : Nat → List (S96) → List (S78) → Int → Option ((List (S78)))
 | 0, _, _, _ => none
 | k + 1, x0, x3, x4 => if x4 < (x0.length : Int) then (if 0 ≤ x4 then ((laws_toTerm.F (laws_toTermS.f k) k ((rd_T96 x0 x4).f0) ((rd_T96 x0 x4).f1) ((rd_T96 x0 x4).f2) ((rd_T96 x0 x4).f3) ((rd_T96 x0 x4).f4)).bind fun bt268 => (if x4 < (x3.length : Int) then (laws_toTermS.l0 k x0 (x3.set (x4 : Int).toNat (⟨bt268.1, bt268.2.1, bt268.2.2.1, bt268.2.2.2.1, bt268.2.2.2.2⟩ : S78)) (wrap64 (x4 + 1))) else (none))) else (none)) else (some x3)
def laws_toTermS.f : Nat → List (S96) → Option ((List (S78)))
 | 0, _ => none
 | k + 1, l0 => if 0 ≤ (l0.length : Int) then (if ((l0.length : Int) : Int).toNat ≤ 3518437208883 then (laws_toTermS.l0 k l0 (List.replicate ((l0.length : Int) : Int).toNat z78) 0) else (none)) else (none)
end
theorem laws_toTerm.Fmono {rec_ rec2_ : List (S96) → Option ((List (S78)))} (hrec : (∀ y0, LeO (rec_ y0) (rec2_ y0))) : ∀ a0 a1 a2 a3 a4 k, LeO (laws_toTerm.F rec_ k a0 a1 a2 a3 a4) (laws_toTerm.F rec2_ (k + 1) a0 a1 a2 a3 a4) := by
 intro a0 a1 a2 a3 a4 k
 unfold laws_toTerm.F
 repeat' first
   | (with_reducible exact laws_toIntS.mono _ _)
   | (with_reducible exact hrec _)
   | (with_reducible exact LeO.refl _)
   | (with_reducible exact LeO.none _)
   | (with_reducible refine LeO.ite ?_ ?_)
   | (with_reducible refine LeO.bind ?_ (fun _ => ?_))
   | exact laws_toIntS.mono _ _
   | exact hrec _
   | exact LeO.none _
   | refine LeO.ite ?_ ?_
   | refine LeO.bind ?_ (fun _ => ?_)
theorem laws_toTermS.mono_l : ∀ k, (∀ y0, LeO (laws_toTermS.f k y0) (laws_toTermS.f (k + 1) y0)) ∧ (∀ y0 y1 y2, LeO (laws_toTermS.l0 k y0 y1 y2) (laws_toTermS.l0 (k + 1) y0 y1 y2))
 | 0 => ⟨fun _ r h => by simp [laws_toTermS.f] at h, fun _ _ _ r h => by simp [laws_toTermS.l0] at h⟩
 | k + 1 => by
  obtain ⟨ih0, ih1⟩ := laws_toTermS.mono_l k
  refine ⟨?_, ?_⟩
  ·intro y0
   unfold laws_toTermS.f
   repeat' first
   | (with_reducible exact ih0 _)
   | (with_reducible exact ih1 _ _ _)
   | (with_reducible exact laws_toTerm.Fmono ih0 _ _ _ _ _ _)
   | (with_reducible exact LeO.refl _)
   | (with_reducible exact LeO.none _)
   | (with_reducible refine LeO.ite ?_ ?_)
   | (with_reducible refine LeO.bind ?_ (fun _ => ?_))
   | exact ih0 _
   | exact ih1 _ _ _
   | exact laws_toTerm.Fmono ih0 _ _ _ _ _ _
   | exact LeO.none _
   | refine LeO.ite ?_ ?_
   | refine LeO.bind ?_ (fun _ => ?_)
  ·intro y0 y1 y2
   unfold laws_toTermS.l0
   repeat' first
   | (with_reducible exact ih0 _)
   | (with_reducible exact ih1 _ _ _)
   | (with_reducible exact laws_toTerm.Fmono ih0 _ _ _ _ _ _)
   | (with_reducible exact LeO.refl _)
   | (with_reducible exact LeO.none _)
   | (with_reducible refine LeO.ite ?_ ?_)
   | (with_reducible refine LeO.bind ?_ (fun _ => ?_))
   | exact ih0 _
   | exact ih1 _ _ _
   | exact laws_toTerm.Fmono ih0 _ _ _ _ _ _
   | exact LeO.none _
   | refine LeO.ite ?_ ?_
   | refine LeO.bind ?_ (fun _ => ?_)
theorem laws_toTermS.mono : ∀ a0 k, LeO (laws_toTermS.f k a0) (laws_toTermS.f (k + 1) a0) := by
 intro a0 k
 obtain ⟨ih0, ih1⟩ := laws_toTermS.mono_l k
 exact ih0 a0
set_option maxHeartbeats 8000000 in
set_option maxRecDepth 100000 in
theorem laws_toTerm.Fcalls (rec_ : List (S96) → Option ((List (S78)))) (IH : ∀ (A0 : Option Addr) (c0 : Nat) (l0 : List (S96)) (r : List (S78)) (w : World) (hr0 : Kd.C k96 w A0 l0.length l0) (hc0 : l0.length ≤ c0) (h : rec_ l0 = some r),
  Calls Try.prog 51 #[.slice A0 l0.length c0] w fun e w' => ∃ v0_ : Value, e = .returned (v0_) ∧ Kd.R k78 78 w' w.heap.size (fun _ => True) v0_ r ∧ Below w.heap.size w w') (k : Nat) (a0_0 : Int) (a0_1 : Int) (a0_2 : ByteArray) (A0_3 : Option Addr) (c0_3 : Nat) (l0_3 : List Int) (A0_4 : Option Addr) (c0_4 : Nat) (l0_4 : List (S96)) (r1 : Int) (r2 : Int) (r3 : ByteArray) (r4 : List Int) (r5 : List (S78)) (w : World) (hr0_3 : Kd.C (Kd.int .i64) w A0_3 l0_3.length l0_3) (hc0_3 : l0_3.length ≤ c0_3) (hr0_4 : Kd.C k96 w A0_4 l0_4.length l0_4) (hc0_4 : l0_4.length ≤ c0_4) (h : laws_toTerm.F rec_ k a0_0 a0_1 a0_2 l0_3 l0_4 = some (r1, r2, r3, r4, r5)) :
  Calls Try.prog 63 #[.agg #[.int .i64 a0_0, .int .i64 a0_1, .string a0_2, .slice A0_3 l0_3.length c0_3, .slice A0_4 l0_4.length c0_4]] w fun e w' => ∃ v3_ v4_ : Value, e = .returned (.agg #[.int .i64 r1, .int .i64 r2, .string r3, v3_, v4_]) ∧ Kd.R (Kd.int .i64) 3 w' w.heap.size (fun _ => True) v3_ r4 ∧ Kd.R k78 78 w' w.heap.size (fun k_ => some k_ ≠ (v3_ : Value).ownBlock) v4_ r5 ∧ Below w.heap.size w w' := by
 have hu96 := Try.underlying96
 have hu78 := Try.underlying78
 have HR0_3 := Aside0.mk hr0_3
 have HC0_3 := Aside0.mk hc0_3
 clear hr0_3 hc0_3
 have HR0_4 := Aside0.mk hr0_4
 have HC0_4 := Aside0.mk hc0_4
 clear hr0_4 hc0_4
 have HB := Aside0.mk (Below.refl w.heap.size w)
 have H : ((laws_toIntS.f k l0_3).bind fun t258 => ((rec_ l0_4).bind fun t261 => (some (a0_0, a0_1, a0_2, t258, t261)))) = some (r1, r2, r3, r4, r5) := h
 clear h
 obtain ⟨t258, A20, H⟩ := ob H
 have A2 := Aside0.mk A20
 clear A20
 obtain ⟨t261, A30, H⟩ := ob H
 have A3 := Aside0.mk A30
 clear A30
 simp only [Option.some.injEq, Prod.mk.injEq] at H
 obtain ⟨rfl, rfl, rfl, rfl, rfl⟩ := H
 go_enter Try.func63, Try.ntmps63
 go_wp2_with (first | ((with_reducible refine gate_dst (N := 1) rfl ?_); refine zbx 1 #[.int .i64 a0_0, .int .i64 a0_1, .string a0_2, .slice A0_3 l0_3.length c0_3, .slice A0_4 l0_4.length c0_4] 96 ?_; intro gb255 hg w4 hbox hb; have BK255 := Aside0.mk hbox; have GW255 := Aside0.mk ((y9 hg HB.out : w.heap.size ≤ gb255)); have GE255 := Aside0.mk ((y9 hg HB.out : w.heap.size ≤ gb255)); replace HB := Aside0.mk (below_step (y1 HB.out) hb); clear hb hbox hg) | ((with_reducible refine gate_dst (N := 2) rfl ?_); refine zbx 2 #[.int .i64 0, .int .i64 0, .string (⟨#[]⟩ : ByteArray), .slice none 0 0, .slice none 0 0] 78 ?_; intro gb256 hg w5 hbox hb; have BK256 := Aside0.mk hbox; have GW256 := Aside0.mk ((y15 hg HB.out GE255.out : w.heap.size ≤ gb256)); have GE256 := Aside0.mk ((y15 hg HB.out GE255.out : w.heap.size ≤ gb256)); replace HB := Aside0.mk (below_step (y2 HB.out GE255.out) hb); have NB255_256 := zltn hg BK255; have NB256_255 := zgtn hg BK255; replace BK255 := zbb BK255 hb; clear hb hbox hg) | ((with_reducible refine gate_dst (N := 3) rfl ?_); refine zbx 3 #[.int .i64 0, .int .i64 0, .string (⟨#[]⟩ : ByteArray), .slice none 0 0, .slice none 0 0] 78 ?_; intro gb257 hg w6 hbox hb; have BK257 := Aside0.mk hbox; have GW257 := Aside0.mk ((y21 hg HB.out GE255.out GE256.out : w.heap.size ≤ gb257)); have GE257 := Aside0.mk ((y21 hg HB.out GE255.out GE256.out : w.heap.size ≤ gb257)); replace HB := Aside0.mk (below_step (y5 HB.out GE255.out GE256.out) hb); have NB255_257 := zltn hg BK255; have NB257_255 := zgtn hg BK255; replace BK255 := zbb BK255 hb; have NB256_257 := zltn hg BK256; have NB257_256 := zgtn hg BK256; replace BK256 := zbb BK256 hb; clear hb hbox hg; have hnb7 := NB255_256.out; have hnc7 := NB256_255.out; have hnb8 := NB255_257.out; have hnc8 := NB257_255.out; have hcz9_0 := zh BK255; have hcz9_1 := zh1 BK255; have hcz9_2 := zh2 BK255; have hcz9_3 : w6.cell? ⟨gb255, 3, none⟩ = some (.slice A0_3 l0_3.length c0_3) := (blk_cell BK255.out 3).trans rfl; have hcz9_4 : w6.cell? ⟨gb255, 4, none⟩ = some (.slice A0_4 l0_4.length c0_4) := (blk_cell BK255.out 4).trans rfl; have hfz9_0 := zfr BK255 0; have hfz9_1 := zfr BK255 1; have hfz9_2 := zfr BK255 2; have hfz9_3 := zfr BK255 3; have hfz9_4 := zfr BK255 4; have hnb10 := NB257_256.out; have hnc10 := NB256_257.out; have hcz11_0 := zh BK257; have hcz11_1 := zh1 BK257; have hcz11_2 := zh2 BK257; have hcz11_3 : w6.cell? ⟨gb257, 3, none⟩ = some (.slice none 0 0) := (blk_cell BK257.out 3).trans rfl; have hcz11_4 : w6.cell? ⟨gb257, 4, none⟩ = some (.slice none 0 0) := (blk_cell BK257.out 4).trans rfl; have hfz11_0 := zfr BK257 0; have hfz11_1 := zfr BK257 1; have hfz11_2 := zfr BK257 2; have hfz11_3 := zfr BK257 3; have hfz11_4 := zfr BK257 4) | ((with_reducible refine gate_callee (f := 68) rfl ?_); refine goesL_ (some 15) rfl rfl Try.func68 (by kernel_rfl) rfl #[.slice A0_3 l0_3.length c0_3] rfl y3 ?_; (with_reducible refine (laws_toIntS.calls k _ _ l0_3 t258 _ ?side1 ?side2 A2.out).mono ?_); (case side1 => exact y17 HR0_3.out HB.out GE255.out GE256.out GE257.out); (case side2 => exact HC0_3.out); rintro e w12 ⟨v259, rfl, ho0, hb⟩; refine ⟨_, rfl, ?_⟩; have HO260 := Aside0.mk (Kd.R_lower ho0 (below_size (y10 HB.out GE255.out GE256.out GE257.out))); replace BK255 := Aside0.mk (blk_below (g := gb255) (o := .cells #[.int .i64 a0_0, .int .i64 a0_1, .string a0_2, .slice A0_3 l0_3.length c0_3, .slice A0_4 l0_4.length c0_4] 96 (0, 0)) (y26 NB255_257.out BK255.out) hb); replace BK256 := Aside0.mk (blk_below (g := gb256) (o := .cells #[.int .i64 0, .int .i64 0, .string (⟨#[]⟩ : ByteArray), .slice none 0 0, .slice none 0 0] 78 (0, 0)) (y26 NB256_257.out BK256.out) hb); replace BK257 := Aside0.mk (blk_below (g := gb257) (o := .cells #[.int .i64 a0_0, .int .i64 a0_1, .string a0_2, .slice none 0 0, .slice none 0 0] 78 (0, 0)) (by (with_reducible repeat (first | refine blk_drewN ?_ _ | refine blk_drew ?_ | refine blk_alloc ?_ _)); refine blk_put (cs := #[.int .i64 a0_0, .int .i64 a0_1, .string (⟨#[]⟩ : ByteArray), .slice none 0 0, .slice none 0 0]) ?_ 2 _ rfl; (with_reducible repeat (first | refine blk_drewN ?_ _ | refine blk_drew ?_ | refine blk_alloc ?_ _)); refine blk_put (cs := #[.int .i64 a0_0, .int .i64 0, .string (⟨#[]⟩ : ByteArray), .slice none 0 0, .slice none 0 0]) ?_ 1 _ rfl; (with_reducible repeat (first | refine blk_drewN ?_ _ | refine blk_drew ?_ | refine blk_alloc ?_ _)); apply blk_put (i := 0); (case h => exact y8 BK257.out); (case e => rfl)) hb); replace HB := Aside0.mk (below_step (y10 HB.out GE255.out GE256.out GE257.out) hb); (try clear hb); (try clear hb2); (try clear hk); (try clear hi); (try clear ho0); obtain ⟨Ao13, co13, eo13⟩ := Kd.R_slice HO260.out; subst eo13; have hcz14_0 := zh BK257; have hcz14_1 := zh1 BK257; have hcz14_2 := zh2 BK257; have hcz14_3 : w12.cell? ⟨gb257, 3, none⟩ = some (.slice none 0 0) := (blk_cell BK257.out 3).trans rfl; have hcz14_4 : w12.cell? ⟨gb257, 4, none⟩ = some (.slice none 0 0) := (blk_cell BK257.out 4).trans rfl; have hfz14_0 := zfr BK257 0; have hfz14_1 := zfr BK257 1; have hfz14_2 := zfr BK257 2; have hfz14_3 := zfr BK257 3; have hfz14_4 := zfr BK257 4; have hcz15_0 := zh BK255; have hcz15_1 := zh1 BK255; have hcz15_2 := zh2 BK255; have hcz15_3 : w12.cell? ⟨gb255, 3, none⟩ = some (.slice A0_3 l0_3.length c0_3) := (blk_cell BK255.out 3).trans rfl; have hcz15_4 : w12.cell? ⟨gb255, 4, none⟩ = some (.slice A0_4 l0_4.length c0_4) := (blk_cell BK255.out 4).trans rfl; have hfz15_0 := zfr BK255 0; have hfz15_1 := zfr BK255 1; have hfz15_2 := zfr BK255 2; have hfz15_3 := zfr BK255 3; have hfz15_4 := zfr BK255 4) | ((with_reducible refine gate_callee (f := 51) rfl ?_); refine goesL_ (some 19) rfl rfl Try.func51 (by kernel_rfl) rfl #[.slice A0_4 l0_4.length c0_4] rfl y3 ?_; (with_reducible refine (IH  _ _ l0_4 t261 _ ?side1 ?side2 A3.out).mono ?_); (case side1 => exact y17 HR0_4.out HB.out GE255.out GE256.out GE257.out); (case side2 => exact HC0_4.out); rintro e w16 ⟨v262, rfl, ho0, hb⟩; refine ⟨_, rfl, ?_⟩; have HO263 := Aside0.mk (Kd.R_lower (Kd.R_newB (Kd.R_newB (Kd.R_new' ho0 (Kd.R_lt (by (with_reducible repeat (first | apply Kd.R_alloc | apply Kd.R_drewN | apply Kd.R_drew)); exact (Kd.R_mono (Kd.R_far (p := ⟨gb257, 3, none⟩) (Kd.R_types HO260.out BK257.out (by decide)) (fun _ hk => hk.2) (.slice Ao13 t258.length co13)) (fun _ h_ => h_.1))))) (g := gb256) (o := .cells #[.int .i64 0, .int .i64 0, .string (⟨#[]⟩ : ByteArray), .slice none 0 0, .slice none 0 0] 78 (0, 0)) (y27 NB256_257.out BK256.out)) (g := gb257) (o := .cells #[.int .i64 a0_0, .int .i64 a0_1, .string a0_2, .slice Ao13 t258.length co13, .slice none 0 0] 78 (0, 0)) (by (with_reducible repeat (first | refine blk_drewN ?_ _ | refine blk_drew ?_ | refine blk_alloc ?_ _)); apply blk_put (i := 3); (case h => exact y8 BK257.out); (case e => rfl))) (below_size (y10 HB.out GE255.out GE256.out GE257.out))); replace HO260 := Aside0.mk (Kd.R_below (by (with_reducible repeat (first | apply Kd.R_alloc | apply Kd.R_drewN | apply Kd.R_drew)); exact (Kd.R_mono (Kd.R_far (p := ⟨gb257, 3, none⟩) (Kd.R_types HO260.out BK257.out (by decide)) (fun _ hk => hk.2) (.slice Ao13 t258.length co13)) (fun _ h_ => h_.1))) hb); replace BK255 := zbf BK255 NB255_257 hb; replace BK256 := zbf BK256 NB256_257 hb; replace BK257 := Aside0.mk (blk_below (g := gb257) (o := .cells #[.int .i64 a0_0, .int .i64 a0_1, .string a0_2, .slice Ao13 t258.length co13, .slice none 0 0] 78 (0, 0)) (by (with_reducible repeat (first | refine blk_drewN ?_ _ | refine blk_drew ?_ | refine blk_alloc ?_ _)); apply blk_put (i := 3); (case h => exact y8 BK257.out); (case e => rfl)) hb); replace HB := Aside0.mk (below_step (y10 HB.out GE255.out GE256.out GE257.out) hb); (try clear hb); (try clear hb2); (try clear hk); (try clear hi); (try clear ho0); obtain ⟨Ao17, co17, eo17⟩ := Kd.R_slice HO263.out; subst eo17; have hcz18_0 := zh BK257; have hcz18_1 := zh1 BK257; have hcz18_2 := zh2 BK257; have hcz18_3 : w16.cell? ⟨gb257, 3, none⟩ = some (.slice Ao13 t258.length co13) := (blk_cell BK257.out 3).trans rfl; have hcz18_4 : w16.cell? ⟨gb257, 4, none⟩ = some (.slice none 0 0) := (blk_cell BK257.out 4).trans rfl; have hfz18_0 := zfr BK257 0; have hfz18_1 := zfr BK257 1; have hfz18_2 := zfr BK257 2; have hfz18_3 := zfr BK257 3; have hfz18_4 := zfr BK257 4; have hcz19_0 := zh BK256; have hcz19_1 := zh1 BK256; have hcz19_2 := zh2 BK256; have hcz19_3 : w16.cell? ⟨gb256, 3, none⟩ = some (.slice none 0 0) := (blk_cell BK256.out 3).trans rfl; have hcz19_4 : w16.cell? ⟨gb256, 4, none⟩ = some (.slice none 0 0) := (blk_cell BK256.out 4).trans rfl; have hfz19_0 := zfr BK256 0; have hfz19_1 := zfr BK256 1; have hfz19_2 := zfr BK256 2; have hfz19_3 := zfr BK256 3; have hfz19_4 := zfr BK256 4))
 refine bodyPost_ret (results_cell_row rfl _ _ gb256 78 #[.int .i64 a0_0, .int .i64 a0_1, .string a0_2, .slice Ao13 t258.length co13, .slice Ao17 t261.length co17] (0, 0) _ rfl (by (with_reducible repeat (first | refine blk_drewN ?_ _ | refine blk_drew ?_ | refine blk_alloc ?_ _)); refine blk_put (cs := #[.int .i64 a0_0, .int .i64 a0_1, .string a0_2, .slice Ao13 t258.length co13, .slice none 0 0]) ?_ 4 _ rfl; (with_reducible repeat (first | refine blk_drewN ?_ _ | refine blk_drew ?_ | refine blk_alloc ?_ _)); refine blk_put (cs := #[.int .i64 a0_0, .int .i64 a0_1, .string a0_2, .slice none 0 0, .slice none 0 0]) ?_ 3 _ rfl; (with_reducible repeat (first | refine blk_drewN ?_ _ | refine blk_drew ?_ | refine blk_alloc ?_ _)); refine blk_put (cs := #[.int .i64 a0_0, .int .i64 a0_1, .string (⟨#[]⟩ : ByteArray), .slice none 0 0, .slice none 0 0]) ?_ 2 _ rfl; (with_reducible repeat (first | refine blk_drewN ?_ _ | refine blk_drew ?_ | refine blk_alloc ?_ _)); refine blk_put (cs := #[.int .i64 a0_0, .int .i64 0, .string (⟨#[]⟩ : ByteArray), .slice none 0 0, .slice none 0 0]) ?_ 1 _ rfl; (with_reducible repeat (first | refine blk_drewN ?_ _ | refine blk_drew ?_ | refine blk_alloc ?_ _)); refine blk_put (cs := #[.int .i64 0, .int .i64 0, .string (⟨#[]⟩ : ByteArray), .slice none 0 0, .slice none 0 0]) ?_ 0 _ rfl; (with_reducible repeat (first | refine blk_drewN ?_ _ | refine blk_drew ?_ | refine blk_alloc ?_ _)); refine blk_far ?_ NB256_257.out _; (with_reducible repeat (first | refine blk_drewN ?_ _ | refine blk_drew ?_ | refine blk_alloc ?_ _)); exact BK256.out) Try.underlying78 rfl (by kernel_rfl)) rfl ?_
 exact ⟨_, _, y6, (by (with_reducible repeat (first | apply Kd.R_alloc | apply Kd.R_drewN | apply Kd.R_drew)); exact Kd.R_mono (Kd.R_far (p := ⟨gb256, 4, none⟩) (Kd.R_far (p := ⟨gb256, 3, none⟩) (Kd.R_far (p := ⟨gb256, 2, none⟩) (Kd.R_far (p := ⟨gb256, 1, none⟩) (Kd.R_far (p := ⟨gb256, 0, none⟩) (Kd.R_far (p := ⟨gb257, 4, none⟩) (Kd.R_types (Kd.R_types HO260.out BK257.out (by decide)) BK256.out (by decide)) (fun _ hk => hk.1.2) (.slice Ao17 t261.length co17)) (fun _ hk => hk.2) (.int .i64 a0_0)) (fun _ hk => hk.2) (.int .i64 a0_1)) (fun _ hk => hk.2) (.string a0_2)) (fun _ hk => hk.2) (.slice Ao13 t258.length co13)) (fun _ hk => hk.2) (.slice Ao17 t261.length co17)) (fun _ hk => trivial)), (by (with_reducible repeat (first | apply Kd.R_alloc | apply Kd.R_drewN | apply Kd.R_drew)); exact Kd.R_mono (Kd.R_far (p := ⟨gb256, 4, none⟩) (Kd.R_far (p := ⟨gb256, 3, none⟩) (Kd.R_far (p := ⟨gb256, 2, none⟩) (Kd.R_far (p := ⟨gb256, 1, none⟩) (Kd.R_far (p := ⟨gb256, 0, none⟩) (Kd.R_far (p := ⟨gb257, 4, none⟩) (Kd.R_mono (Kd.R_mono HO263.out (fun k_ hk => (⟨hk, hk.2⟩ : _ ∧ k_ ≠ gb257))) (fun k_ hk => (⟨hk, hk.1.1.2⟩ : _ ∧ k_ ≠ gb256))) (fun _ hk => hk.1.2) (.slice Ao17 t261.length co17)) (fun _ hk => hk.2) (.int .i64 a0_0)) (fun _ hk => hk.2) (.int .i64 a0_1)) (fun _ hk => hk.2) (.string a0_2)) (fun _ hk => hk.2) (.slice Ao13 t258.length co13)) (fun _ hk => hk.2) (.slice Ao17 t261.length co17)) (fun _ hk => hk.1.1.1.1.2)), (y10 HB.out GE255.out GE256.out GE257.out)⟩
set_option maxHeartbeats 8000000 in
set_option maxRecDepth 100000 in
theorem laws_toTermS.calls (k : Nat) : ∀ (A0 : Option Addr) (c0 : Nat) (l0 : List (S96)) (r : List (S78)) (w : World) (hr0 : Kd.C k96 w A0 l0.length l0) (hc0 : l0.length ≤ c0) (h : laws_toTermS.f k l0 = some r),
  Calls Try.prog 51 #[.slice A0 l0.length c0] w fun e w' => ∃ v0_ : Value, e = .returned (v0_) ∧ Kd.R k78 78 w' w.heap.size (fun _ => True) v0_ r ∧ Below w.heap.size w w' := by
 induction k using Nat.strongRecOn with
 | _ k ih =>
 intro A0 c0 l0 r w hr0 hc0 h
 cases k with
 | zero => exact absurd h (by simp [laws_toTermS.f])
 | succ k =>
 simp only [laws_toTermS.f] at h
 have hu96 := Try.underlying96
 have hu78 := Try.underlying78
 have HR0 := Aside0.mk hr0
 have HC0 := Aside0.mk hc0
 clear hr0 hc0
 have HB := Aside0.mk (Below.refl w.heap.size w)
 have H : (if 0 ≤ (l0.length : Int) then (if ((l0.length : Int) : Int).toNat ≤ 3518437208883 then (laws_toTermS.l0 k l0 (List.replicate ((l0.length : Int) : Int).toNat z78) 0) else (none)) else (none)) = some r := h
 clear h
 by_cases c2 : 0 ≤ (l0.length : Int)
 ·rw [if_pos c2] at H
  have c2b0 := eq_true c2
  have c2b1 : decide (0 ≤ (l0.length : Int)) = true := decide_eq_true c2
  clear c2
  by_cases c3 : ((l0.length : Int) : Int).toNat ≤ 3518437208883
  ·rw [if_pos c3] at H
   have c3b0 := eq_true c3
   have c3b1 : decide (((l0.length : Int) : Int).toNat ≤ 3518437208883) = true := decide_eq_true c3
   clear c3
   obtain ⟨y264, hy264⟩ : ∃ y_ : List (S78), y_ = (List.replicate ((l0.length : Int) : Int).toNat z78) := ⟨_, rfl⟩
   replace H : (laws_toTermS.l0 k l0 y264 0) = some r := by first | (rw [hy264]; with_reducible exact H) | (have H2_ := (Option.bind_some _ _).symm.trans H; rw [hy264]; with_reducible exact H2_) | (have H2_ := (Option.bind_some _ _).symm.trans H; with_reducible exact H2_) | with_reducible exact H | (rw [hy264]; exact H) | exact H
   have Ny264 := Aside0.mk hy264
   clear hy264
   have H' := Aside0.mk H
   clear H
   go_enter Try.func51, Try.ntmps51
   go_wp2_with (first | ((with_reducible refine gate_dst (N := 7) rfl ?_); refine Kd.R_make k78 _ 78 rfl (N := 7) rfl 41 _ _ rfl (l0.length : Int) rfl rfl Try.underlying41 (.agg #[(.int .i64 0), (.int .i64 0), (.string ⟨#[]⟩), (.slice none 0 0), (.slice none 0 0)]) 80 info78 rfl (by decide) (by omega) z78 (ok := fun _ => True) (okp := fun _ => True) (k78_mkM _ _ _ z78 (Kd.R_nil _ _ _ _ _) (Kd.R_nil _ _ _ _ _)) (fun _ hk => hk) trivial (of_decide_eq_true y4) (Nat.le_trans (Nat.mul_le_mul_right _ (of_decide_eq_true y4 : (l0.length : Int).toNat ≤ 3518437208883)) (by omega)) (Below.refl _ _) (Nat.le_refl _) ?_; intro v265 w4 ho5 hb hg_ hnew_; clear hg_ hnew_; (first | rw [← Ny264.out] at ho5 | (simp only [Int.reduceToNat] at ho5; rw [← Ny264.out] at ho5)); have HO266 := Aside0.mk (Kd.R_lower ho5 (below_size (y1 HB.out))); replace HB := Aside0.mk (below_step (y1 HB.out) hb); clear hb ho5))
   go_loopg [4] k (fun kq v4 w' => ∃ (x3_1 : List (S78)) (x4_1 : Int), v4 = .int .i64 x4_1 ∧ Aside0 (laws_toTermS.l0 kq l0 x3_1 x4_1 = some r) ∧ Aside0 (kq ≤ k) ∧ Aside0 (Kd.R k78 78 w' w.heap.size (fun _ => True) v265 x3_1) ∧ Aside0 (Below w.heap.size w w'))
   case atStart => exact ⟨(y264), (0), y7, H', ⟨Nat.le_refl _⟩, ⟨(y11 HO266.out)⟩, ⟨(y1 HB.out)⟩⟩
   case round =>
    clear H'
    try clear c2
    try clear c2b0
    try clear c2b1
    try clear p2
    try clear c3
    try clear c3b0
    try clear c3b1
    try clear c5
    obtain ⟨x3_1, x4_1, rfl, HA, HK1, HO_3, HB⟩ := hrel
    cases gk with
    | zero => exact absurd HA.out (by simp [laws_toTermS.l0])
    | succ k1 =>
     have H := HA.out
     clear HA
     simp only [laws_toTermS.l0] at H
     by_cases c6 : x4_1 < (l0.length : Int)
     ·rw [if_pos c6] at H
      have c6b0 : decide (x4_1 < (l0.length : Int)) = true := decide_eq_true c6
      clear c6
      by_cases c7 : 0 ≤ x4_1
      ·rw [if_pos c7] at H
       have c7b0 : decide (0 ≤ x4_1) = true := decide_eq_true c7
       clear c7
       obtain ⟨⟨t268, t269, t270, t271, t274⟩, A80, H⟩ := ob H
       have A8 := Aside0.mk A80
       clear A80
       by_cases c9 : x4_1 < (x3_1.length : Int)
       ·rw [if_pos c9] at H
        have c9b0 : decide (x4_1 < (x3_1.length : Int)) = true := decide_eq_true c9
        clear c9
        obtain ⟨y277, hy277⟩ : ∃ y_ : List (S78), y_ = (x3_1.set (x4_1 : Int).toNat (⟨t268, t269, t270, t271, t274⟩ : S78)) := ⟨_, rfl⟩
        replace H : (laws_toTermS.l0 k1 l0 y277 (wrap64 (x4_1 + 1))) = some r := by first | (rw [hy277]; with_reducible exact H) | (have H2_ := (Option.bind_some _ _).symm.trans H; rw [hy277]; with_reducible exact H2_) | (have H2_ := (Option.bind_some _ _).symm.trans H; with_reducible exact H2_) | with_reducible exact H | (rw [hy277]; exact H) | exact H
        have Ny277 := Aside0.mk hy277
        clear hy277
        have H' := Aside0.mk H
        clear H
        have p267 : 0 ≤ (x4_1 : Int) := of_decide_eq_true y4
        have q267 : x4_1 < (l0.length : Int) := of_decide_eq_true y4
        obtain ⟨ad267, A267_3, c267_3, A267_4, c267_4, e267, hx267_0, hx267_1, hx267_2, hx267_3, hx267_4, hl267_3, hi267_3, hl267_4, hi267_4⟩ := at_T96 HR0.out x4_1 p267 q267
        cases e267
        replace hx267_0 := (HB.out.cell (World.block_lt_of_cell? w _ hx267_0)).trans hx267_0
        replace hx267_1 := (HB.out.cell (World.block_lt_of_cell? w _ hx267_1)).trans hx267_1
        replace hx267_2 := (HB.out.cell (World.block_lt_of_cell? w _ hx267_2)).trans hx267_2
        replace hx267_3 := (HB.out.cell (World.block_lt_of_cell? w _ hx267_3)).trans hx267_3
        replace hx267_4 := (HB.out.cell (World.block_lt_of_cell? w _ hx267_4)).trans hx267_4
        have HR267_3 := Aside0.mk hi267_3
        have HC267_3 := Aside0.mk hl267_3
        clear hi267_3 hl267_3
        have HR267_4 := Aside0.mk hi267_4
        have HC267_4 := Aside0.mk hl267_4
        clear hi267_4 hl267_4
        replace p267 := eq_true p267
        replace q267 := eq_true q267
        go_wp2_with (first | ((with_reducible refine gate_callee (f := 63) rfl ?_); refine goesL_ (some 20) rfl rfl Try.func63 (by kernel_rfl) rfl #[.agg #[.int .i64 ((rd_T96 l0 x4_1).f0), .int .i64 ((rd_T96 l0 x4_1).f1), .string ((rd_T96 l0 x4_1).f2), .slice A267_3 ((rd_T96 l0 x4_1).f3).length c267_3, .slice A267_4 ((rd_T96 l0 x4_1).f4).length c267_4]] rfl y3 ?_; (with_reducible refine (laws_toTerm.Fcalls (laws_toTermS.f k1) (ih k1 (y30 HK1.out)) k1 ((rd_T96 l0 x4_1).f0) ((rd_T96 l0 x4_1).f1) ((rd_T96 l0 x4_1).f2) _ _ ((rd_T96 l0 x4_1).f3) _ _ ((rd_T96 l0 x4_1).f4) t268 t269 t270 t271 t274 _ ?side1 ?side2 ?side3 ?side4 A8.out).mono ?_); (case side1 => exact y0 HR267_3.out HB.out); (case side2 => exact HC267_3.out); (case side3 => exact y0 HR267_4.out HB.out); (case side4 => exact HC267_4.out); rintro e w11 ⟨v272, v275, rfl, ho0, ho1, hb⟩; refine ⟨_, rfl, ?_⟩; have HO273 := Aside0.mk (Kd.R_lower ho0 (below_size (y1 HB.out))); have HO276 := Aside0.mk (Kd.R_lower (Kd.R_new' ho1 (Kd.R_lt (y11 HO_3.out))) (below_size (y1 HB.out))); replace HO_3 := Aside0.mk (Kd.R_mono (Kd.R_told (Kd.R_told (Kd.R_old (y11 HO_3.out) hb) (Kd.R_base ho0)) (Kd.R_base ho1)) (fun _ h_ => h_.1)); replace HB := Aside0.mk (below_step (y1 HB.out) hb); (try clear hb); (try clear hb2); (try clear hk); (try clear hi); (try clear ho0); (try clear ho1); have p10 : 0 ≤ (x4_1 : Int) := of_decide_eq_true y4; have q10 : (x4_1 : Int) < ((x3_1.length : Int) : Int) := of_decide_eq_true y4; obtain ⟨go10, co10, eo10, gb10, gl10, cl10, HG10⟩ := Kd.R_form HO_3.out (by omega); (first | cases eo10 | (injection eo10 with ea_ en_ ec_; (first | subst ea_ | (injection ea_ with ea_; subst ea_)); subst ec_; clear en_)); have GB10 := Aside0.mk gb10; have GG10 := Aside0.mk HG10; clear gb10 gl10 HG10; obtain ⟨ce10, hcl10, hM10, hcc10, hfr10⟩ := Kd.R_elem HO_3.out z78 (x4_1 : Int) p10 q10; obtain ⟨ve10_3, ve10_4, rfl, ge10_3, ge10_4⟩ := k78_openM hM10; have hx10_0 : w11.cell? ⟨go10, (x4_1 : Int).toNat * 5, none⟩ = some (.int .i64 ((rd_T78 x3_1 x4_1).f0)) := hcc10 0 _ rfl; have hx10_1 : w11.cell? ⟨go10, (x4_1 : Int).toNat * 5 + 1, none⟩ = some (.int .i64 ((rd_T78 x3_1 x4_1).f1)) := hcc10 1 _ rfl; have hx10_2 : w11.cell? ⟨go10, (x4_1 : Int).toNat * 5 + 2, none⟩ = some (.string ((rd_T78 x3_1 x4_1).f2)) := hcc10 2 _ rfl; have hx10_3 : w11.cell? ⟨go10, (x4_1 : Int).toNat * 5 + 3, none⟩ = some (ve10_3) := hcc10 3 _ rfl; have hx10_4 : w11.cell? ⟨go10, (x4_1 : Int).toNat * 5 + 4, none⟩ = some (ve10_4) := hcc10 4 _ rfl; have hf10_0 : w11.frozen? ⟨go10, (x4_1 : Int).toNat * 5, none⟩ = false := hfr10 0; have hf10_1 : w11.frozen? ⟨go10, (x4_1 : Int).toNat * 5 + 1, none⟩ = false := hfr10 1; have hf10_2 : w11.frozen? ⟨go10, (x4_1 : Int).toNat * 5 + 2, none⟩ = false := hfr10 2; have hf10_3 : w11.frozen? ⟨go10, (x4_1 : Int).toNat * 5 + 3, none⟩ = false := hfr10 3; have hf10_4 : w11.frozen? ⟨go10, (x4_1 : Int).toNat * 5 + 4, none⟩ = false := hfr10 4; clear hcl10 hcc10 hfr10 hM10; replace p10 := eq_true p10; replace q10 := eq_true q10; obtain ⟨Ao12, co12, eo12⟩ := Kd.R_slice HO276.out; subst eo12; obtain ⟨Ao13, co13, eo13⟩ := Kd.R_slice HO273.out; subst eo13; have n_ := Aside0.mk (Kd.R_mono (ok' := (fun k_ => some k_ ≠ (.slice Ao13 t271.length co13 : Value).ownBlock ∧ some k_ ≠ (.slice Ao12 t274.length co12 : Value).ownBlock)) HO_3.out (fun k_ hk => ⟨hk.1.2, hk.2⟩)); clear HO_3; have HO_3 := n_; clear n_; have HX14 := Aside0.mk (show Kd.R k78 78 w11 w.heap.size (fun _ => True) (.slice (some ⟨go10, 0, none⟩) x3_1.length co10) x3_1 from (by (with_reducible repeat (first | apply Kd.R_alloc | apply Kd.R_drewN | apply Kd.R_drew)); exact Kd.R_mono HO_3.out (fun _ hk => trivial))); obtain ⟨ce14, hcl14, hM14, hcc14, hfr14⟩ := Kd.R_elem HX14.out z78 (x4_1 : Int) (of_decide_eq_true y4) (by have h_ : (x4_1 : Int) < ((x3_1.length : Int) : Int) := of_decide_eq_true y4; first | exact h_ | (have e_ := (Kd.R_reads' HO_3.out).1; omega) | simpa using h_); obtain ⟨ve14_3, ve14_4, rfl, ge14_3, ge14_4⟩ := k78_openM hM14; have HP14 := Kd.R_seg HX14.out (x4_1 : Int) (of_decide_eq_true y4) (by have h_ : (x4_1 : Int) < ((x3_1.length : Int) : Int) := of_decide_eq_true y4; first | exact h_ | (have e_ := (Kd.R_reads' HO_3.out).1; omega) | simpa using h_) (seg := [.int .i64 t268, .int .i64 t269, .string t270, .slice Ao13 t271.length co13, .slice Ao12 t274.length co12]) (j := 0) hcl14 hcc14 (show 5 ≤ 5 from by decide) (x' := (⟨t268, t269, t270, t271, t274⟩ : S78)) (k78_mkM _ _ _ (⟨t268, t269, t270, t271, t274⟩ : S78) (Kd.R_mono (Kd.R_apart' (HO273.out) (Kd.R_typed HO_3.out) (by decide)) (fun k_ hk => ⟨trivial, fun e_ => (hk.2) (by rw [e_]; rfl)⟩)) (Kd.R_mono (HO276.out) (fun k_ hk => ⟨trivial, fun e_ => (hk.2) (by rw [e_]; rfl)⟩))) (fun _ hk => hk); have hx14_0 := hcc14 0 _ rfl; (try simp only [show (k78).sz = 5 from rfl, Nat.mul_one, Nat.add_zero] at hx14_0); have hf14_0 := hfr14 0; (try simp only [show (k78).sz = 5 from rfl, Nat.mul_one, Nat.add_zero] at hf14_0); have hx14_1 := hcc14 1 _ rfl; (try simp only [show (k78).sz = 5 from rfl, Nat.mul_one, Nat.add_zero] at hx14_1); have hf14_1 := hfr14 1; (try simp only [show (k78).sz = 5 from rfl, Nat.mul_one, Nat.add_zero] at hf14_1); have hx14_2 := hcc14 2 _ rfl; (try simp only [show (k78).sz = 5 from rfl, Nat.mul_one, Nat.add_zero] at hx14_2); have hf14_2 := hfr14 2; (try simp only [show (k78).sz = 5 from rfl, Nat.mul_one, Nat.add_zero] at hf14_2); have hx14_3 := hcc14 3 _ rfl; (try simp only [show (k78).sz = 5 from rfl, Nat.mul_one, Nat.add_zero] at hx14_3); have hf14_3 := hfr14 3; (try simp only [show (k78).sz = 5 from rfl, Nat.mul_one, Nat.add_zero] at hf14_3); have hx14_4 := hcc14 4 _ rfl; (try simp only [show (k78).sz = 5 from rfl, Nat.mul_one, Nat.add_zero] at hx14_4); have hf14_4 := hfr14 4; (try simp only [show (k78).sz = 5 from rfl, Nat.mul_one, Nat.add_zero] at hf14_4); clear hcl14 hcc14 hfr14 hM14) | ((with_reducible refine gate_store (t := 78) (p := 21) rfl ?_); refine store_event (t := 78) (p := 21) (v := ?vo_w15) (w1 := (((((w11.setCell ⟨go10, (x4_1 : Int).toNat * 5, none⟩ (.int .i64 t268)).setCell ⟨go10, (x4_1 : Int).toNat * 5 + 1, none⟩ (.int .i64 t269)).setCell ⟨go10, (x4_1 : Int).toNat * 5 + 2, none⟩ (.string t270)).setCell ⟨go10, (x4_1 : Int).toNat * 5 + 3, none⟩ (.slice Ao13 t271.length co13)).setCell ⟨go10, (x4_1 : Int).toNat * 5 + 4, none⟩ (.slice Ao12 t274.length co12))) ?hg ?ho ?hn ?hr ?_; (case ho => rfl); (case hg => rfl); (case hn => rfl); (case hr => first | (go_simp; done) | (go_simp; rfl)); intro w15 hw; have hg : w11.grownBy w15 (some go10) := (by rw [hw]; exact HP14.2); have hp_ : Kd.R k78 78 w15 w.heap.size (fun _ => True) (.slice (some ⟨go10, 0, none⟩) x3_1.length co10) y277 := (by rw [hw, Ny277.out]; exact HP14.1); clear HP14; replace HO_3 := Aside0.mk (hp_); replace HB := Aside0.mk ((by rw [hw]; exact below_set (below_set (below_set (below_set (below_set (HB.out) GB10.out) GB10.out) GB10.out) GB10.out) GB10.out : Below w.heap.size w w15)); clear HO273 HO276; clear hg hw hp_))
        go_roundg k1
        case measure => have := HK1.out; omega
        case rel => exact ⟨(y277), (wrap64 (x4_1 + 1)), y7, H', ⟨(y30 HK1.out)⟩, ⟨(y11 HO_3.out)⟩, ⟨(y1 HB.out)⟩⟩
       ·rw [if_neg c9] at H
        exact absurd H (by simp)
      ·rw [if_neg c7] at H
       exact absurd H (by simp)
     ·rw [if_neg c6] at H
      have c6b0 : decide (x4_1 < (l0.length : Int)) = false := decide_eq_false c6
      clear c6
      obtain rfl := Option.some.inj H
      go_wp2
      go_ret
      exact ⟨_, y6, (y11 HO_3.out), (y1 HB.out)⟩
  ·rw [if_neg c3] at H
   exact absurd H (by simp)
 ·rw [if_neg c2] at H
  exact absurd H (by simp)
def laws_toTerm.f (k : Nat) (a0_0 : Int) (a0_1 : Int) (a0_2 : ByteArray) (l0_3 : List Int) (l0_4 : List (S96)) : Option (Int × Int × ByteArray × List Int × (List (S78))) := laws_toTerm.F (laws_toTermS.f k) k a0_0 a0_1 a0_2 l0_3 l0_4
theorem laws_toTerm.mono : ∀ a0 a1 a2 a3 a4 k, LeO (laws_toTerm.f k a0 a1 a2 a3 a4) (laws_toTerm.f (k + 1) a0 a1 a2 a3 a4) := fun a0 a1 a2 a3 a4 k => laws_toTerm.Fmono (fun y0 => laws_toTermS.mono y0 k) a0 a1 a2 a3 a4 k
theorem laws_toTerm.calls (k : Nat) (a0_0 : Int) (a0_1 : Int) (a0_2 : ByteArray) (A0_3 : Option Addr) (c0_3 : Nat) (l0_3 : List Int) (A0_4 : Option Addr) (c0_4 : Nat) (l0_4 : List (S96)) (r1 : Int) (r2 : Int) (r3 : ByteArray) (r4 : List Int) (r5 : List (S78)) (w : World) (hr0_3 : Kd.C (Kd.int .i64) w A0_3 l0_3.length l0_3) (hc0_3 : l0_3.length ≤ c0_3) (hr0_4 : Kd.C k96 w A0_4 l0_4.length l0_4) (hc0_4 : l0_4.length ≤ c0_4) (h : laws_toTerm.f k a0_0 a0_1 a0_2 l0_3 l0_4 = some (r1, r2, r3, r4, r5)) :
  Calls Try.prog 63 #[.agg #[.int .i64 a0_0, .int .i64 a0_1, .string a0_2, .slice A0_3 l0_3.length c0_3, .slice A0_4 l0_4.length c0_4]] w fun e w' => ∃ v3_ v4_ : Value, e = .returned (.agg #[.int .i64 r1, .int .i64 r2, .string r3, v3_, v4_]) ∧ Kd.R (Kd.int .i64) 3 w' w.heap.size (fun _ => True) v3_ r4 ∧ Kd.R k78 78 w' w.heap.size (fun k_ => some k_ ≠ (v3_ : Value).ownBlock) v4_ r5 ∧ Below w.heap.size w w' := laws_toTerm.Fcalls (laws_toTermS.f k) (laws_toTermS.calls k) k a0_0 a0_1 a0_2 A0_3 c0_3 l0_3 A0_4 c0_4 l0_4 r1 r2 r3 r4 r5 w hr0_3 hc0_3 hr0_4 hc0_4 h
end Go.Proofs.Ytdgpegkgelciaaa.PA
end
section
namespace Go.Proofs.Ytdgpegkgelciaaa.PA
open Go.RowKit Go.Proofs.YtdgpegkgelciaaaW.PrintWords Go.Proofs.YtdgpegkgelciaaaW.PrintLast Go.Proofs.YtdgpegkgelciaaaW.PrintMore
attribute [local go_sem] max2_int min2_int max_two min_two max_three min_three max_four min_four
set_option linter.unusedVariables false
set_option linter.unusedSimpArgs false
def laws_toBody.F (rec_ : List (S93) → Option ((List (S64)))) (k : Nat) (l0_0 : List (S93)) (l0_1 : List (S96)) : Option ((List (S64)) × (List (S78))) := (rec_ l0_0).bind fun t336 => ((laws_toTermS.f k l0_1).bind fun t339 => (some (t336, t339)))
def laws_toBind.F (rec_ : List (S93) → Option ((List (S64)))) (k : Nat) (a0_0 : Int) (l0_1 : List ByteArray) (a0_2 : ByteArray) (l0_3 : List (S96)) (l0_4 : List (S93)) (l0_5 : List (S96)) (l0_6 : List (S93)) (l0_7 : List (S96)) : Option (Int × List ByteArray × ByteArray × (List (S78)) × (List (S64)) × (List (S78)) × (List (S64)) × (List (S78))) := (laws_toStringS.f k l0_1).bind fun t345 => ((laws_toTermS.f k l0_3).bind fun t348 => ((laws_toBody.F rec_ k l0_4 l0_5).bind fun bt351 => ((laws_toBody.F rec_ k l0_6 l0_7).bind fun bt357 => (some (a0_0, t345, a0_2, t348, bt351.1, bt351.2, bt357.1, bt357.2)))))
mutual
def laws_toBindS.l0 : Nat → List (S93) → List (S64) → Int → Option ((List (S64)))
 | 0, _, _, _ => none
 | k + 1, x0, x3, x4 => if x4 < (x0.length : Int) then (if 0 ≤ x4 then ((laws_toBind.F (laws_toBindS.f k) k ((rd_T93 x0 x4).f0) ((rd_T93 x0 x4).f1) ((rd_T93 x0 x4).f2) ((rd_T93 x0 x4).f3) ((rd_T93 x0 x4).f4.f0) ((rd_T93 x0 x4).f4.f1) ((rd_T93 x0 x4).f5.f0) ((rd_T93 x0 x4).f5.f1)).bind fun bt367 => (if x4 < (x3.length : Int) then (laws_toBindS.l0 k x0 (x3.set (x4 : Int).toNat (⟨bt367.1, bt367.2.1, bt367.2.2.1, bt367.2.2.2.1, (⟨bt367.2.2.2.2.1, bt367.2.2.2.2.2.1⟩ : S43), (⟨bt367.2.2.2.2.2.2.1, bt367.2.2.2.2.2.2.2⟩ : S43)⟩ : S64)) (wrap64 (x4 + 1))) else (none))) else (none)) else (some x3)
def laws_toBindS.f : Nat → List (S93) → Option ((List (S64)))
 | 0, _ => none
 | k + 1, l0 => if 0 ≤ (l0.length : Int) then (if ((l0.length : Int) : Int).toNat ≤ 1675446289944 then (laws_toBindS.l0 k l0 (List.replicate ((l0.length : Int) : Int).toNat z64) 0) else (none)) else (none)
end
theorem laws_toBody.Fmono {rec_ rec2_ : List (S93) → Option ((List (S64)))} (hrec : (∀ y0, LeO (rec_ y0) (rec2_ y0))) : ∀ a0 a1 k, LeO (laws_toBody.F rec_ k a0 a1) (laws_toBody.F rec2_ (k + 1) a0 a1) := by
 intro a0 a1 k
 unfold laws_toBody.F
 repeat' first
   | (with_reducible exact hrec _)
   | (with_reducible exact laws_toTermS.mono _ _)
   | (with_reducible exact LeO.refl _)
   | (with_reducible exact LeO.none _)
   | (with_reducible refine LeO.ite ?_ ?_)
   | (with_reducible refine LeO.bind ?_ (fun _ => ?_))
   | exact hrec _
   | exact laws_toTermS.mono _ _
   | exact LeO.none _
   | refine LeO.ite ?_ ?_
   | refine LeO.bind ?_ (fun _ => ?_)
theorem laws_toBind.Fmono {rec_ rec2_ : List (S93) → Option ((List (S64)))} (hrec : (∀ y0, LeO (rec_ y0) (rec2_ y0))) : ∀ a0 a1 a2 a3 a4 a5 a6 a7 k, LeO (laws_toBind.F rec_ k a0 a1 a2 a3 a4 a5 a6 a7) (laws_toBind.F rec2_ (k + 1) a0 a1 a2 a3 a4 a5 a6 a7) := by
 intro a0 a1 a2 a3 a4 a5 a6 a7 k
 unfold laws_toBind.F
 repeat' first
   | (with_reducible exact laws_toBody.Fmono hrec _ _ _)
   | (with_reducible exact laws_toStringS.mono _ _)
   | (with_reducible exact laws_toTermS.mono _ _)
   | (with_reducible exact LeO.refl _)
   | (with_reducible exact LeO.none _)
   | (with_reducible refine LeO.ite ?_ ?_)
   | (with_reducible refine LeO.bind ?_ (fun _ => ?_))
   | exact laws_toBody.Fmono hrec _ _ _
   | exact laws_toStringS.mono _ _
   | exact laws_toTermS.mono _ _
   | exact LeO.none _
   | refine LeO.ite ?_ ?_
   | refine LeO.bind ?_ (fun _ => ?_)
theorem laws_toBindS.mono_l : ∀ k, (∀ y0, LeO (laws_toBindS.f k y0) (laws_toBindS.f (k + 1) y0)) ∧ (∀ y0 y1 y2, LeO (laws_toBindS.l0 k y0 y1 y2) (laws_toBindS.l0 (k + 1) y0 y1 y2))
 | 0 => ⟨fun _ r h => by simp [laws_toBindS.f] at h, fun _ _ _ r h => by simp [laws_toBindS.l0] at h⟩
 | k + 1 => by
  obtain ⟨ih0, ih1⟩ := laws_toBindS.mono_l k
  refine ⟨?_, ?_⟩
  ·intro y0
   unfold laws_toBindS.f
   repeat' first
   | (with_reducible exact ih0 _)
   | (with_reducible exact ih1 _ _ _)
   | (with_reducible exact laws_toBind.Fmono ih0 _ _ _ _ _ _ _ _ _)
   | (with_reducible exact LeO.refl _)
   | (with_reducible exact LeO.none _)
   | (with_reducible refine LeO.ite ?_ ?_)
   | (with_reducible refine LeO.bind ?_ (fun _ => ?_))
   | exact ih0 _
   | exact ih1 _ _ _
   | exact laws_toBind.Fmono ih0 _ _ _ _ _ _ _ _ _
   | exact LeO.none _
   | refine LeO.ite ?_ ?_
   | refine LeO.bind ?_ (fun _ => ?_)
  ·intro y0 y1 y2
   unfold laws_toBindS.l0
   repeat' first
   | (with_reducible exact ih0 _)
   | (with_reducible exact ih1 _ _ _)
   | (with_reducible exact laws_toBind.Fmono ih0 _ _ _ _ _ _ _ _ _)
   | (with_reducible exact LeO.refl _)
   | (with_reducible exact LeO.none _)
   | (with_reducible refine LeO.ite ?_ ?_)
   | (with_reducible refine LeO.bind ?_ (fun _ => ?_))
   | exact ih0 _
   | exact ih1 _ _ _
   | exact laws_toBind.Fmono ih0 _ _ _ _ _ _ _ _ _
   | exact LeO.none _
   | refine LeO.ite ?_ ?_
   | refine LeO.bind ?_ (fun _ => ?_)
theorem laws_toBindS.mono : ∀ a0 k, LeO (laws_toBindS.f k a0) (laws_toBindS.f (k + 1) a0) := by
 intro a0 k
 obtain ⟨ih0, ih1⟩ := laws_toBindS.mono_l k
 exact ih0 a0
set_option maxHeartbeats 8000000 in
set_option maxRecDepth 100000 in
theorem laws_toBody.Fcalls (rec_ : List (S93) → Option ((List (S64)))) (IH : ∀ (A0 : Option Addr) (c0 : Nat) (l0 : List (S93)) (r : List (S64)) (w : World) (hr0 : Kd.C k93 w A0 l0.length l0) (hc0 : l0.length ≤ c0) (h : rec_ l0 = some r),
  Calls Try.prog 50 #[.slice A0 l0.length c0] w fun e w' => ∃ v0_ : Value, e = .returned (v0_) ∧ Kd.R k64 64 w' w.heap.size (fun _ => True) v0_ r ∧ Below w.heap.size w w') (k : Nat) (A0_0 : Option Addr) (c0_0 : Nat) (l0_0 : List (S93)) (A0_1 : Option Addr) (c0_1 : Nat) (l0_1 : List (S96)) (r1 : List (S64)) (r2 : List (S78)) (w : World) (hr0_0 : Kd.C k93 w A0_0 l0_0.length l0_0) (hc0_0 : l0_0.length ≤ c0_0) (hr0_1 : Kd.C k96 w A0_1 l0_1.length l0_1) (hc0_1 : l0_1.length ≤ c0_1) (h : laws_toBody.F rec_ k l0_0 l0_1 = some (r1, r2)) :
  Calls Try.prog 36 #[.agg #[.slice A0_0 l0_0.length c0_0, .slice A0_1 l0_1.length c0_1]] w fun e w' => ∃ v0_ v1_ : Value, e = .returned (.agg #[v0_, v1_]) ∧ Kd.R k64 64 w' w.heap.size (fun k_ => some k_ ≠ (v1_ : Value).ownBlock) v0_ r1 ∧ Kd.R k78 78 w' w.heap.size (fun _ => True) v1_ r2 ∧ Below w.heap.size w w' := by
 have hu35 := Try.underlying35
 have hu43 := Try.underlying43
 have HR0_0 := Aside0.mk hr0_0
 have HC0_0 := Aside0.mk hc0_0
 clear hr0_0 hc0_0
 have HR0_1 := Aside0.mk hr0_1
 have HC0_1 := Aside0.mk hc0_1
 clear hr0_1 hc0_1
 have HB := Aside0.mk (Below.refl w.heap.size w)
 have H : ((rec_ l0_0).bind fun t336 => ((laws_toTermS.f k l0_1).bind fun t339 => (some (t336, t339)))) = some (r1, r2) := h
 clear h
 obtain ⟨t336, A20, H⟩ := ob H
 have A2 := Aside0.mk A20
 clear A20
 obtain ⟨t339, A30, H⟩ := ob H
 have A3 := Aside0.mk A30
 clear A30
 simp only [Option.some.injEq, Prod.mk.injEq] at H
 obtain ⟨rfl, rfl⟩ := H
 go_enter Try.func36, Try.ntmps36
 go_wp2_with (first | ((with_reducible refine gate_dst (N := 1) rfl ?_); refine zbx 1 #[.slice A0_0 l0_0.length c0_0, .slice A0_1 l0_1.length c0_1] 35 ?_; intro gb333 hg w4 hbox hb; have BK333 := Aside0.mk hbox; have GW333 := Aside0.mk ((y9 hg HB.out : w.heap.size ≤ gb333)); have GE333 := Aside0.mk ((y9 hg HB.out : w.heap.size ≤ gb333)); replace HB := Aside0.mk (below_step (y1 HB.out) hb); clear hb hbox hg) | ((with_reducible refine gate_dst (N := 2) rfl ?_); refine zbx 2 #[.slice none 0 0, .slice none 0 0] 43 ?_; intro gb334 hg w5 hbox hb; have BK334 := Aside0.mk hbox; have GW334 := Aside0.mk ((y15 hg HB.out GE333.out : w.heap.size ≤ gb334)); have GE334 := Aside0.mk ((y15 hg HB.out GE333.out : w.heap.size ≤ gb334)); replace HB := Aside0.mk (below_step (y2 HB.out GE333.out) hb); have NB333_334 := zltn hg BK333; have NB334_333 := zgtn hg BK333; replace BK333 := zbb BK333 hb; clear hb hbox hg) | ((with_reducible refine gate_dst (N := 3) rfl ?_); refine zbx 3 #[.slice none 0 0, .slice none 0 0] 43 ?_; intro gb335 hg w6 hbox hb; have BK335 := Aside0.mk hbox; have GW335 := Aside0.mk ((y21 hg HB.out GE333.out GE334.out : w.heap.size ≤ gb335)); have GE335 := Aside0.mk ((y21 hg HB.out GE333.out GE334.out : w.heap.size ≤ gb335)); replace HB := Aside0.mk (below_step (y5 HB.out GE333.out GE334.out) hb); have NB333_335 := zltn hg BK333; have NB335_333 := zgtn hg BK333; replace BK333 := zbb BK333 hb; have NB334_335 := zltn hg BK334; have NB335_334 := zgtn hg BK334; replace BK334 := zbb BK334 hb; clear hb hbox hg; have hnb7 := NB333_334.out; have hnc7 := NB334_333.out; have hnb8 := NB333_335.out; have hnc8 := NB335_333.out; have hcz9_0 := zh BK333; have hcz9_1 := zh1 BK333; have hfz9_0 := zfr BK333 0; have hfz9_1 := zfr BK333 1) | ((with_reducible refine gate_callee (f := 50) rfl ?_); refine goesL_ (some 6) rfl rfl Try.func50 (by kernel_rfl) rfl #[.slice A0_0 l0_0.length c0_0] rfl y3 ?_; (with_reducible refine (IH  _ _ l0_0 t336 _ ?side1 ?side2 A2.out).mono ?_); (case side1 => exact y0 HR0_0.out HB.out); (case side2 => exact HC0_0.out); rintro e w10 ⟨v337, rfl, ho0, hb⟩; refine ⟨_, rfl, ?_⟩; have HO338 := Aside0.mk (Kd.R_lower ho0 (below_size (y10 HB.out GE333.out GE334.out GE335.out))); replace BK333 := zbb BK333 hb; replace BK334 := zbb BK334 hb; replace BK335 := zbb BK335 hb; replace HB := Aside0.mk (below_step (y10 HB.out GE333.out GE334.out GE335.out) hb); (try clear hb); (try clear hb2); (try clear hk); (try clear hi); (try clear ho0); obtain ⟨Ao11, co11, eo11⟩ := Kd.R_slice HO338.out; subst eo11; have hnb12 := NB335_334.out; have hnc12 := NB334_335.out; have hcz13_0 := zh BK335; have hcz13_1 := zh1 BK335; have hfz13_0 := zfr BK335 0; have hfz13_1 := zfr BK335 1; have hcz14_0 := zh BK333; have hcz14_1 := zh1 BK333; have hfz14_0 := zfr BK333 0; have hfz14_1 := zfr BK333 1) | ((with_reducible refine gate_callee (f := 51) rfl ?_); refine goesL_ (some 10) rfl rfl Try.func51 (by kernel_rfl) rfl #[.slice A0_1 l0_1.length c0_1] rfl y3 ?_; (with_reducible refine (laws_toTermS.calls k _ _ l0_1 t339 _ ?side1 ?side2 A3.out).mono ?_); (case side1 => exact y17 HR0_1.out HB.out GE333.out GE334.out GE335.out); (case side2 => exact HC0_1.out); rintro e w15 ⟨v340, rfl, ho0, hb⟩; refine ⟨_, rfl, ?_⟩; replace HO338 := Aside0.mk (Kd.R_elder' (by (with_reducible repeat (first | apply Kd.R_alloc | apply Kd.R_drewN | apply Kd.R_drew)); exact (Kd.R_mono (Kd.R_far (p := ⟨gb335, 0, none⟩) (Kd.R_types HO338.out BK335.out (by decide)) (fun _ hk => hk.2) (.slice Ao11 t336.length co11)) (fun _ h_ => h_.1))) (Kd.R_base ho0) hb); have HO341 := Aside0.mk (Kd.R_lower ho0 (below_size (y10 HB.out GE333.out GE334.out GE335.out))); replace BK333 := zbf BK333 NB333_335 hb; replace BK334 := zbf BK334 NB334_335 hb; replace BK335 := Aside0.mk (blk_below (g := gb335) (o := .cells #[.slice Ao11 t336.length co11, .slice none 0 0] 43 (0, 0)) (by (with_reducible repeat (first | refine blk_drewN ?_ _ | refine blk_drew ?_ | refine blk_alloc ?_ _)); apply blk_put (i := 0); (case h => exact y8 BK335.out); (case e => rfl)) hb); replace HB := Aside0.mk (below_step (y10 HB.out GE333.out GE334.out GE335.out) hb); (try clear hb); (try clear hb2); (try clear hk); (try clear hi); (try clear ho0); obtain ⟨Ao16, co16, eo16⟩ := Kd.R_slice HO341.out; subst eo16; have hcz17_0 := zh BK335; have hcz17_1 := zh1 BK335; have hfz17_0 := zfr BK335 0; have hfz17_1 := zfr BK335 1; have hcz18_0 := zh BK334; have hcz18_1 := zh1 BK334; have hfz18_0 := zfr BK334 0; have hfz18_1 := zfr BK334 1))
 refine bodyPost_ret (results_cell_row rfl _ _ gb334 43 #[.slice Ao11 t336.length co11, .slice Ao16 t339.length co16] (0, 0) _ rfl (by (with_reducible repeat (first | refine blk_drewN ?_ _ | refine blk_drew ?_ | refine blk_alloc ?_ _)); refine blk_put (cs := #[.slice Ao11 t336.length co11, .slice none 0 0]) ?_ 1 _ rfl; (with_reducible repeat (first | refine blk_drewN ?_ _ | refine blk_drew ?_ | refine blk_alloc ?_ _)); refine blk_put (cs := #[.slice none 0 0, .slice none 0 0]) ?_ 0 _ rfl; (with_reducible repeat (first | refine blk_drewN ?_ _ | refine blk_drew ?_ | refine blk_alloc ?_ _)); refine blk_far ?_ NB334_335.out _; (with_reducible repeat (first | refine blk_drewN ?_ _ | refine blk_drew ?_ | refine blk_alloc ?_ _)); exact BK334.out) Try.underlying43 rfl (by kernel_rfl)) rfl ?_
 exact ⟨_, _, y6, (by (with_reducible repeat (first | apply Kd.R_alloc | apply Kd.R_drewN | apply Kd.R_drew)); exact Kd.R_mono (Kd.R_far (p := ⟨gb334, 1, none⟩) (Kd.R_far (p := ⟨gb334, 0, none⟩) (Kd.R_far (p := ⟨gb335, 1, none⟩) (Kd.R_types (Kd.R_types HO338.out BK335.out (by decide)) BK334.out (by decide)) (fun _ hk => hk.1.2) (.slice Ao16 t339.length co16)) (fun _ hk => hk.2) (.slice Ao11 t336.length co11)) (fun _ hk => hk.2) (.slice Ao16 t339.length co16)) (fun _ hk => hk.1.1.2)), (by (with_reducible repeat (first | apply Kd.R_alloc | apply Kd.R_drewN | apply Kd.R_drew)); exact Kd.R_mono (Kd.R_far (p := ⟨gb334, 1, none⟩) (Kd.R_far (p := ⟨gb334, 0, none⟩) (Kd.R_far (p := ⟨gb335, 1, none⟩) (Kd.R_types (Kd.R_types HO341.out BK335.out (by decide)) BK334.out (by decide)) (fun _ hk => hk.1.2) (.slice Ao16 t339.length co16)) (fun _ hk => hk.2) (.slice Ao11 t336.length co11)) (fun _ hk => hk.2) (.slice Ao16 t339.length co16)) (fun _ hk => trivial)), (y10 HB.out GE333.out GE334.out GE335.out)⟩
set_option maxHeartbeats 8000000 in
set_option maxRecDepth 100000 in
theorem laws_toBind.Fcalls (rec_ : List (S93) → Option ((List (S64)))) (IH : ∀ (A0 : Option Addr) (c0 : Nat) (l0 : List (S93)) (r : List (S64)) (w : World) (hr0 : Kd.C k93 w A0 l0.length l0) (hc0 : l0.length ≤ c0) (h : rec_ l0 = some r),
  Calls Try.prog 50 #[.slice A0 l0.length c0] w fun e w' => ∃ v0_ : Value, e = .returned (v0_) ∧ Kd.R k64 64 w' w.heap.size (fun _ => True) v0_ r ∧ Below w.heap.size w w') (k : Nat) (a0_0 : Int) (A0_1 : Option Addr) (c0_1 : Nat) (l0_1 : List ByteArray) (a0_2 : ByteArray) (A0_3 : Option Addr) (c0_3 : Nat) (l0_3 : List (S96)) (A0_4 : Option Addr) (c0_4 : Nat) (l0_4 : List (S93)) (A0_5 : Option Addr) (c0_5 : Nat) (l0_5 : List (S96)) (A0_6 : Option Addr) (c0_6 : Nat) (l0_6 : List (S93)) (A0_7 : Option Addr) (c0_7 : Nat) (l0_7 : List (S96)) (r1 : Int) (r2 : List ByteArray) (r3 : ByteArray) (r4 : List (S78)) (r5 : List (S64)) (r6 : List (S78)) (r7 : List (S64)) (r8 : List (S78)) (w : World) (hr0_1 : Kd.C Kd.string w A0_1 l0_1.length l0_1) (hc0_1 : l0_1.length ≤ c0_1) (hr0_3 : Kd.C k96 w A0_3 l0_3.length l0_3) (hc0_3 : l0_3.length ≤ c0_3) (hr0_4 : Kd.C k93 w A0_4 l0_4.length l0_4) (hc0_4 : l0_4.length ≤ c0_4) (hr0_5 : Kd.C k96 w A0_5 l0_5.length l0_5) (hc0_5 : l0_5.length ≤ c0_5) (hr0_6 : Kd.C k93 w A0_6 l0_6.length l0_6) (hc0_6 : l0_6.length ≤ c0_6) (hr0_7 : Kd.C k96 w A0_7 l0_7.length l0_7) (hc0_7 : l0_7.length ≤ c0_7) (h : laws_toBind.F rec_ k a0_0 l0_1 a0_2 l0_3 l0_4 l0_5 l0_6 l0_7 = some (r1, r2, r3, r4, r5, r6, r7, r8)) :
  Calls Try.prog 62 #[.agg #[.int .i64 a0_0, .slice A0_1 l0_1.length c0_1, .string a0_2, .slice A0_3 l0_3.length c0_3, .slice A0_4 l0_4.length c0_4, .slice A0_5 l0_5.length c0_5, .slice A0_6 l0_6.length c0_6, .slice A0_7 l0_7.length c0_7]] w fun e w' => ∃ v1_ v3_ v4_ v5_ v6_ v7_ : Value, e = .returned (.agg #[.int .i64 r1, v1_, .string r3, v3_, v4_, v5_, v6_, v7_]) ∧ Kd.R Kd.string 9 w' w.heap.size (fun _ => True) v1_ r2 ∧ Kd.R k78 78 w' w.heap.size (fun k_ => some k_ ≠ (v5_ : Value).ownBlock ∧ some k_ ≠ (v7_ : Value).ownBlock) v3_ r4 ∧ Kd.R k64 64 w' w.heap.size (fun k_ => some k_ ≠ (v1_ : Value).ownBlock ∧ some k_ ≠ (v3_ : Value).ownBlock ∧ some k_ ≠ (v5_ : Value).ownBlock ∧ some k_ ≠ (v6_ : Value).ownBlock ∧ some k_ ≠ (v7_ : Value).ownBlock) v4_ r5 ∧ Kd.R k78 78 w' w.heap.size (fun k_ => some k_ ≠ (v3_ : Value).ownBlock ∧ some k_ ≠ (v7_ : Value).ownBlock) v5_ r6 ∧ Kd.R k64 64 w' w.heap.size (fun k_ => some k_ ≠ (v1_ : Value).ownBlock ∧ some k_ ≠ (v3_ : Value).ownBlock ∧ some k_ ≠ (v4_ : Value).ownBlock ∧ some k_ ≠ (v5_ : Value).ownBlock ∧ some k_ ≠ (v7_ : Value).ownBlock) v6_ r7 ∧ Kd.R k78 78 w' w.heap.size (fun k_ => some k_ ≠ (v3_ : Value).ownBlock ∧ some k_ ≠ (v5_ : Value).ownBlock) v7_ r8 ∧ Below w.heap.size w w' := by
 have hu93 := Try.underlying93
 have hu64 := Try.underlying64
 have hu35 := Try.underlying35
 have hu43 := Try.underlying43
 have HR0_1 := Aside0.mk hr0_1
 have HC0_1 := Aside0.mk hc0_1
 clear hr0_1 hc0_1
 have HR0_3 := Aside0.mk hr0_3
 have HC0_3 := Aside0.mk hc0_3
 clear hr0_3 hc0_3
 have HR0_4 := Aside0.mk hr0_4
 have HC0_4 := Aside0.mk hc0_4
 clear hr0_4 hc0_4
 have HR0_5 := Aside0.mk hr0_5
 have HC0_5 := Aside0.mk hc0_5
 clear hr0_5 hc0_5
 have HR0_6 := Aside0.mk hr0_6
 have HC0_6 := Aside0.mk hc0_6
 clear hr0_6 hc0_6
 have HR0_7 := Aside0.mk hr0_7
 have HC0_7 := Aside0.mk hc0_7
 clear hr0_7 hc0_7
 have HB := Aside0.mk (Below.refl w.heap.size w)
 have H : ((laws_toStringS.f k l0_1).bind fun t345 => ((laws_toTermS.f k l0_3).bind fun t348 => ((laws_toBody.F rec_ k l0_4 l0_5).bind fun bt351 => ((laws_toBody.F rec_ k l0_6 l0_7).bind fun bt357 => (some (a0_0, t345, a0_2, t348, bt351.1, bt351.2, bt357.1, bt357.2)))))) = some (r1, r2, r3, r4, r5, r6, r7, r8) := h
 clear h
 obtain ⟨t345, A20, H⟩ := ob H
 have A2 := Aside0.mk A20
 clear A20
 obtain ⟨t348, A30, H⟩ := ob H
 have A3 := Aside0.mk A30
 clear A30
 obtain ⟨⟨t351, t354⟩, A40, H⟩ := ob H
 have A4 := Aside0.mk A40
 clear A40
 obtain ⟨⟨t357, t360⟩, A50, H⟩ := ob H
 have A5 := Aside0.mk A50
 clear A50
 simp only [Option.some.injEq, Prod.mk.injEq] at H
 obtain ⟨rfl, rfl, rfl, rfl, rfl, rfl, rfl, rfl⟩ := H
 go_enter Try.func62, Try.ntmps62
 go_wp2_with (first | ((with_reducible refine gate_dst (N := 1) rfl ?_); refine zbx 1 #[.int .i64 a0_0, .slice A0_1 l0_1.length c0_1, .string a0_2, .slice A0_3 l0_3.length c0_3, .slice A0_4 l0_4.length c0_4, .slice A0_5 l0_5.length c0_5, .slice A0_6 l0_6.length c0_6, .slice A0_7 l0_7.length c0_7] 93 ?_; intro gb342 hg w6 hbox hb; have BK342 := Aside0.mk hbox; have GW342 := Aside0.mk ((y9 hg HB.out : w.heap.size ≤ gb342)); have GE342 := Aside0.mk ((y9 hg HB.out : w.heap.size ≤ gb342)); replace HB := Aside0.mk (below_step (y1 HB.out) hb); clear hb hbox hg) | ((with_reducible refine gate_dst (N := 2) rfl ?_); refine zbx 2 #[.int .i64 0, .slice none 0 0, .string (⟨#[]⟩ : ByteArray), .slice none 0 0, .slice none 0 0, .slice none 0 0, .slice none 0 0, .slice none 0 0] 64 ?_; intro gb343 hg w7 hbox hb; have BK343 := Aside0.mk hbox; have GW343 := Aside0.mk ((y15 hg HB.out GE342.out : w.heap.size ≤ gb343)); have GE343 := Aside0.mk ((y15 hg HB.out GE342.out : w.heap.size ≤ gb343)); replace HB := Aside0.mk (below_step (y2 HB.out GE342.out) hb); have NB342_343 := zltn hg BK342; have NB343_342 := zgtn hg BK342; replace BK342 := zbb BK342 hb; clear hb hbox hg) | ((with_reducible refine gate_dst (N := 3) rfl ?_); refine zbx 3 #[.int .i64 0, .slice none 0 0, .string (⟨#[]⟩ : ByteArray), .slice none 0 0, .slice none 0 0, .slice none 0 0, .slice none 0 0, .slice none 0 0] 64 ?_; intro gb344 hg w8 hbox hb; have BK344 := Aside0.mk hbox; have GW344 := Aside0.mk ((y21 hg HB.out GE342.out GE343.out : w.heap.size ≤ gb344)); have GE344 := Aside0.mk ((y21 hg HB.out GE342.out GE343.out : w.heap.size ≤ gb344)); replace HB := Aside0.mk (below_step (y5 HB.out GE342.out GE343.out) hb); have NB342_344 := zltn hg BK342; have NB344_342 := zgtn hg BK342; replace BK342 := zbb BK342 hb; have NB343_344 := zltn hg BK343; have NB344_343 := zgtn hg BK343; replace BK343 := zbb BK343 hb; clear hb hbox hg; have hnb9 := NB342_343.out; have hnc9 := NB343_342.out; have hnb10 := NB342_344.out; have hnc10 := NB344_342.out; have hcz11_0 := zh BK342; have hcz11_1 := zh1 BK342; have hcz11_2 := zh2 BK342; have hcz11_3 : w8.cell? ⟨gb342, 3, none⟩ = some (.slice A0_3 l0_3.length c0_3) := (blk_cell BK342.out 3).trans rfl; have hcz11_4 : w8.cell? ⟨gb342, 4, none⟩ = some (.slice A0_4 l0_4.length c0_4) := (blk_cell BK342.out 4).trans rfl; have hcz11_5 : w8.cell? ⟨gb342, 5, none⟩ = some (.slice A0_5 l0_5.length c0_5) := (blk_cell BK342.out 5).trans rfl; have hcz11_6 : w8.cell? ⟨gb342, 6, none⟩ = some (.slice A0_6 l0_6.length c0_6) := (blk_cell BK342.out 6).trans rfl; have hcz11_7 : w8.cell? ⟨gb342, 7, none⟩ = some (.slice A0_7 l0_7.length c0_7) := (blk_cell BK342.out 7).trans rfl; have hfz11_0 := zfr BK342 0; have hfz11_1 := zfr BK342 1; have hfz11_2 := zfr BK342 2; have hfz11_3 := zfr BK342 3; have hfz11_4 := zfr BK342 4; have hfz11_5 := zfr BK342 5; have hfz11_6 := zfr BK342 6; have hfz11_7 := zfr BK342 7; have hnb12 := NB344_343.out; have hnc12 := NB343_344.out; have hcz13_0 := zh BK344; have hcz13_1 := zh1 BK344; have hcz13_2 := zh2 BK344; have hcz13_3 : w8.cell? ⟨gb344, 3, none⟩ = some (.slice none 0 0) := (blk_cell BK344.out 3).trans rfl; have hcz13_4 : w8.cell? ⟨gb344, 4, none⟩ = some (.slice none 0 0) := (blk_cell BK344.out 4).trans rfl; have hcz13_5 : w8.cell? ⟨gb344, 5, none⟩ = some (.slice none 0 0) := (blk_cell BK344.out 5).trans rfl; have hcz13_6 : w8.cell? ⟨gb344, 6, none⟩ = some (.slice none 0 0) := (blk_cell BK344.out 6).trans rfl; have hcz13_7 : w8.cell? ⟨gb344, 7, none⟩ = some (.slice none 0 0) := (blk_cell BK344.out 7).trans rfl; have hfz13_0 := zfr BK344 0; have hfz13_1 := zfr BK344 1; have hfz13_2 := zfr BK344 2; have hfz13_3 := zfr BK344 3; have hfz13_4 := zfr BK344 4; have hfz13_5 := zfr BK344 5; have hfz13_6 := zfr BK344 6; have hfz13_7 := zfr BK344 7) | ((with_reducible refine gate_callee (f := 35) rfl ?_); refine goesL_ (some 9) rfl rfl Try.func35 (by kernel_rfl) rfl #[.slice A0_1 l0_1.length c0_1] rfl y3 ?_; (with_reducible refine (laws_toStringS.calls k _ _ l0_1 t345 _ ?side1 ?side2 A2.out).mono ?_); (case side1 => exact y17 HR0_1.out HB.out GE342.out GE343.out GE344.out); (case side2 => exact HC0_1.out); rintro e w14 ⟨v346, rfl, ho0, hb⟩; refine ⟨_, rfl, ?_⟩; have HO347 := Aside0.mk (Kd.R_lower ho0 (below_size (y10 HB.out GE342.out GE343.out GE344.out))); replace BK342 := zbf BK342 NB342_344 hb; replace BK343 := zbf BK343 NB343_344 hb; replace BK344 := Aside0.mk (blk_below (g := gb344) (o := .cells #[.int .i64 a0_0, .slice none 0 0, .string (⟨#[]⟩ : ByteArray), .slice none 0 0, .slice none 0 0, .slice none 0 0, .slice none 0 0, .slice none 0 0] 64 (0, 0)) (by (with_reducible repeat (first | refine blk_drewN ?_ _ | refine blk_drew ?_ | refine blk_alloc ?_ _)); apply blk_put (i := 0); (case h => exact y8 BK344.out); (case e => rfl)) hb); replace HB := Aside0.mk (below_step (y10 HB.out GE342.out GE343.out GE344.out) hb); (try clear hb); (try clear hb2); (try clear hk); (try clear hi); (try clear ho0); obtain ⟨Ao15, co15, eo15⟩ := Kd.R_slice HO347.out; subst eo15; have hcz16_0 := zh BK344; have hcz16_1 := zh1 BK344; have hcz16_2 := zh2 BK344; have hcz16_3 : w14.cell? ⟨gb344, 3, none⟩ = some (.slice none 0 0) := (blk_cell BK344.out 3).trans rfl; have hcz16_4 : w14.cell? ⟨gb344, 4, none⟩ = some (.slice none 0 0) := (blk_cell BK344.out 4).trans rfl; have hcz16_5 : w14.cell? ⟨gb344, 5, none⟩ = some (.slice none 0 0) := (blk_cell BK344.out 5).trans rfl; have hcz16_6 : w14.cell? ⟨gb344, 6, none⟩ = some (.slice none 0 0) := (blk_cell BK344.out 6).trans rfl; have hcz16_7 : w14.cell? ⟨gb344, 7, none⟩ = some (.slice none 0 0) := (blk_cell BK344.out 7).trans rfl; have hfz16_0 := zfr BK344 0; have hfz16_1 := zfr BK344 1; have hfz16_2 := zfr BK344 2; have hfz16_3 := zfr BK344 3; have hfz16_4 := zfr BK344 4; have hfz16_5 := zfr BK344 5; have hfz16_6 := zfr BK344 6; have hfz16_7 := zfr BK344 7; have hcz17_0 := zh BK342; have hcz17_1 := zh1 BK342; have hcz17_2 := zh2 BK342; have hcz17_3 : w14.cell? ⟨gb342, 3, none⟩ = some (.slice A0_3 l0_3.length c0_3) := (blk_cell BK342.out 3).trans rfl; have hcz17_4 : w14.cell? ⟨gb342, 4, none⟩ = some (.slice A0_4 l0_4.length c0_4) := (blk_cell BK342.out 4).trans rfl; have hcz17_5 : w14.cell? ⟨gb342, 5, none⟩ = some (.slice A0_5 l0_5.length c0_5) := (blk_cell BK342.out 5).trans rfl; have hcz17_6 : w14.cell? ⟨gb342, 6, none⟩ = some (.slice A0_6 l0_6.length c0_6) := (blk_cell BK342.out 6).trans rfl; have hcz17_7 : w14.cell? ⟨gb342, 7, none⟩ = some (.slice A0_7 l0_7.length c0_7) := (blk_cell BK342.out 7).trans rfl; have hfz17_0 := zfr BK342 0; have hfz17_1 := zfr BK342 1; have hfz17_2 := zfr BK342 2; have hfz17_3 := zfr BK342 3; have hfz17_4 := zfr BK342 4; have hfz17_5 := zfr BK342 5; have hfz17_6 := zfr BK342 6; have hfz17_7 := zfr BK342 7) | ((with_reducible refine gate_callee (f := 51) rfl ?_); refine goesL_ (some 16) rfl rfl Try.func51 (by kernel_rfl) rfl #[.slice A0_3 l0_3.length c0_3] rfl y3 ?_; (with_reducible refine (laws_toTermS.calls k _ _ l0_3 t348 _ ?side1 ?side2 A3.out).mono ?_); (case side1 => exact y17 HR0_3.out HB.out GE342.out GE343.out GE344.out); (case side2 => exact HC0_3.out); rintro e w18 ⟨v349, rfl, ho0, hb⟩; refine ⟨_, rfl, ?_⟩; replace HO347 := Aside0.mk (Kd.R_below (by (with_reducible repeat (first | apply Kd.R_alloc | apply Kd.R_drewN | apply Kd.R_drew)); exact (Kd.R_mono (Kd.R_far (p := ⟨gb344, 2, none⟩) (Kd.R_far (p := ⟨gb344, 1, none⟩) (Kd.R_types HO347.out BK344.out (by decide)) (fun _ hk => hk.2) (.slice Ao15 t345.length co15)) (fun _ hk => hk.2) (.string a0_2)) (fun _ h_ => h_.1))) hb); have HO350 := Aside0.mk (Kd.R_lower ho0 (below_size (y10 HB.out GE342.out GE343.out GE344.out))); replace BK342 := Aside0.mk (blk_below (g := gb342) (o := .cells #[.int .i64 a0_0, .slice A0_1 l0_1.length c0_1, .string a0_2, .slice A0_3 l0_3.length c0_3, .slice A0_4 l0_4.length c0_4, .slice A0_5 l0_5.length c0_5, .slice A0_6 l0_6.length c0_6, .slice A0_7 l0_7.length c0_7] 93 (0, 0)) (y22 NB342_344.out BK342.out) hb); replace BK343 := Aside0.mk (blk_below (g := gb343) (o := .cells #[.int .i64 0, .slice none 0 0, .string (⟨#[]⟩ : ByteArray), .slice none 0 0, .slice none 0 0, .slice none 0 0, .slice none 0 0, .slice none 0 0] 64 (0, 0)) (y22 NB343_344.out BK343.out) hb); replace BK344 := Aside0.mk (blk_below (g := gb344) (o := .cells #[.int .i64 a0_0, .slice Ao15 t345.length co15, .string a0_2, .slice none 0 0, .slice none 0 0, .slice none 0 0, .slice none 0 0, .slice none 0 0] 64 (0, 0)) (by (with_reducible repeat (first | refine blk_drewN ?_ _ | refine blk_drew ?_ | refine blk_alloc ?_ _)); refine blk_put (cs := #[.int .i64 a0_0, .slice Ao15 t345.length co15, .string (⟨#[]⟩ : ByteArray), .slice none 0 0, .slice none 0 0, .slice none 0 0, .slice none 0 0, .slice none 0 0]) ?_ 2 _ rfl; (with_reducible repeat (first | refine blk_drewN ?_ _ | refine blk_drew ?_ | refine blk_alloc ?_ _)); apply blk_put (i := 1); (case h => exact y8 BK344.out); (case e => rfl)) hb); replace HB := Aside0.mk (below_step (y10 HB.out GE342.out GE343.out GE344.out) hb); (try clear hb); (try clear hb2); (try clear hk); (try clear hi); (try clear ho0); obtain ⟨Ao19, co19, eo19⟩ := Kd.R_slice HO350.out; subst eo19; have hcz20_0 := zh BK344; have hcz20_1 := zh1 BK344; have hcz20_2 := zh2 BK344; have hcz20_3 : w18.cell? ⟨gb344, 3, none⟩ = some (.slice none 0 0) := (blk_cell BK344.out 3).trans rfl; have hcz20_4 : w18.cell? ⟨gb344, 4, none⟩ = some (.slice none 0 0) := (blk_cell BK344.out 4).trans rfl; have hcz20_5 : w18.cell? ⟨gb344, 5, none⟩ = some (.slice none 0 0) := (blk_cell BK344.out 5).trans rfl; have hcz20_6 : w18.cell? ⟨gb344, 6, none⟩ = some (.slice none 0 0) := (blk_cell BK344.out 6).trans rfl; have hcz20_7 : w18.cell? ⟨gb344, 7, none⟩ = some (.slice none 0 0) := (blk_cell BK344.out 7).trans rfl; have hfz20_0 := zfr BK344 0; have hfz20_1 := zfr BK344 1; have hfz20_2 := zfr BK344 2; have hfz20_3 := zfr BK344 3; have hfz20_4 := zfr BK344 4; have hfz20_5 := zfr BK344 5; have hfz20_6 := zfr BK344 6; have hfz20_7 := zfr BK344 7; have hcz21_0 := zh BK342; have hcz21_1 := zh1 BK342; have hcz21_2 := zh2 BK342; have hcz21_3 : w18.cell? ⟨gb342, 3, none⟩ = some (.slice A0_3 l0_3.length c0_3) := (blk_cell BK342.out 3).trans rfl; have hcz21_4 : w18.cell? ⟨gb342, 4, none⟩ = some (.slice A0_4 l0_4.length c0_4) := (blk_cell BK342.out 4).trans rfl; have hcz21_5 : w18.cell? ⟨gb342, 5, none⟩ = some (.slice A0_5 l0_5.length c0_5) := (blk_cell BK342.out 5).trans rfl; have hcz21_6 : w18.cell? ⟨gb342, 6, none⟩ = some (.slice A0_6 l0_6.length c0_6) := (blk_cell BK342.out 6).trans rfl; have hcz21_7 : w18.cell? ⟨gb342, 7, none⟩ = some (.slice A0_7 l0_7.length c0_7) := (blk_cell BK342.out 7).trans rfl; have hfz21_0 := zfr BK342 0; have hfz21_1 := zfr BK342 1; have hfz21_2 := zfr BK342 2; have hfz21_3 := zfr BK342 3; have hfz21_4 := zfr BK342 4; have hfz21_5 := zfr BK342 5; have hfz21_6 := zfr BK342 6; have hfz21_7 := zfr BK342 7) | ((with_reducible refine gate_callee (f := 36) rfl ?_); refine goesL_ (some 20) rfl rfl Try.func36 (by kernel_rfl) rfl #[.agg #[.slice A0_4 l0_4.length c0_4, .slice A0_5 l0_5.length c0_5]] rfl y3 ?_; (with_reducible refine (laws_toBody.Fcalls rec_ IH k _ _ l0_4 _ _ l0_5 t351 t354 _ ?side1 ?side2 ?side3 ?side4 A4.out).mono ?_); (case side1 => exact y17 HR0_4.out HB.out GE342.out GE343.out GE344.out); (case side2 => exact HC0_4.out); (case side3 => exact y17 HR0_5.out HB.out GE342.out GE343.out GE344.out); (case side4 => exact HC0_5.out); rintro e w22 ⟨v352, v355, rfl, ho0, ho1, hb⟩; refine ⟨_, rfl, ?_⟩; have HO353 := Aside0.mk (Kd.R_lower (Kd.R_newB (Kd.R_newB (Kd.R_new' (Kd.R_new' ho0 (Kd.R_lt (by (with_reducible repeat (first | apply Kd.R_alloc | apply Kd.R_drewN | apply Kd.R_drew)); exact (Kd.R_mono (Kd.R_far (p := ⟨gb344, 3, none⟩) (Kd.R_types HO347.out BK344.out (by decide)) (fun _ hk => hk.2) (.slice Ao19 t348.length co19)) (fun _ h_ => h_.1))))) (Kd.R_lt (by (with_reducible repeat (first | apply Kd.R_alloc | apply Kd.R_drewN | apply Kd.R_drew)); exact (Kd.R_mono (Kd.R_far (p := ⟨gb344, 3, none⟩) (Kd.R_types HO350.out BK344.out (by decide)) (fun _ hk => hk.2) (.slice Ao19 t348.length co19)) (fun _ h_ => h_.1))))) (g := gb343) (o := .cells #[.int .i64 0, .slice none 0 0, .string (⟨#[]⟩ : ByteArray), .slice none 0 0, .slice none 0 0, .slice none 0 0, .slice none 0 0, .slice none 0 0] 64 (0, 0)) (y27 NB343_344.out BK343.out)) (g := gb344) (o := .cells #[.int .i64 a0_0, .slice Ao15 t345.length co15, .string a0_2, .slice Ao19 t348.length co19, .slice none 0 0, .slice none 0 0, .slice none 0 0, .slice none 0 0] 64 (0, 0)) (by (with_reducible repeat (first | refine blk_drewN ?_ _ | refine blk_drew ?_ | refine blk_alloc ?_ _)); apply blk_put (i := 3); (case h => exact y8 BK344.out); (case e => rfl))) (below_size (y10 HB.out GE342.out GE343.out GE344.out))); replace HO347 := Aside0.mk (Kd.R_below (by (with_reducible repeat (first | apply Kd.R_alloc | apply Kd.R_drewN | apply Kd.R_drew)); exact (Kd.R_mono (Kd.R_far (p := ⟨gb344, 3, none⟩) (Kd.R_types HO347.out BK344.out (by decide)) (fun _ hk => hk.2) (.slice Ao19 t348.length co19)) (fun _ h_ => h_.1))) hb); have HO356 := Aside0.mk (Kd.R_lower (Kd.R_new' ho1 (Kd.R_lt (by (with_reducible repeat (first | apply Kd.R_alloc | apply Kd.R_drewN | apply Kd.R_drew)); exact (Kd.R_mono (Kd.R_far (p := ⟨gb344, 3, none⟩) (Kd.R_types HO350.out BK344.out (by decide)) (fun _ hk => hk.2) (.slice Ao19 t348.length co19)) (fun _ h_ => h_.1))))) (below_size (y10 HB.out GE342.out GE343.out GE344.out))); replace HO350 := Aside0.mk (Kd.R_elder' (by (with_reducible repeat (first | apply Kd.R_alloc | apply Kd.R_drewN | apply Kd.R_drew)); exact (Kd.R_mono (Kd.R_far (p := ⟨gb344, 3, none⟩) (Kd.R_types HO350.out BK344.out (by decide)) (fun _ hk => hk.2) (.slice Ao19 t348.length co19)) (fun _ h_ => h_.1))) (Kd.R_base ho1) hb); replace BK342 := zbf BK342 NB342_344 hb; replace BK343 := zbf BK343 NB343_344 hb; replace BK344 := Aside0.mk (blk_below (g := gb344) (o := .cells #[.int .i64 a0_0, .slice Ao15 t345.length co15, .string a0_2, .slice Ao19 t348.length co19, .slice none 0 0, .slice none 0 0, .slice none 0 0, .slice none 0 0] 64 (0, 0)) (by (with_reducible repeat (first | refine blk_drewN ?_ _ | refine blk_drew ?_ | refine blk_alloc ?_ _)); apply blk_put (i := 3); (case h => exact y8 BK344.out); (case e => rfl)) hb); replace HB := Aside0.mk (below_step (y10 HB.out GE342.out GE343.out GE344.out) hb); (try clear hb); (try clear hb2); (try clear hk); (try clear hi); (try clear ho0); (try clear ho1); obtain ⟨Ao23, co23, eo23⟩ := Kd.R_slice HO353.out; subst eo23; have hcz24_0 := zh BK344; have hcz24_1 := zh1 BK344; have hcz24_2 := zh2 BK344; have hcz24_3 : w22.cell? ⟨gb344, 3, none⟩ = some (.slice Ao19 t348.length co19) := (blk_cell BK344.out 3).trans rfl; have hcz24_4 : w22.cell? ⟨gb344, 4, none⟩ = some (.slice none 0 0) := (blk_cell BK344.out 4).trans rfl; have hcz24_5 : w22.cell? ⟨gb344, 5, none⟩ = some (.slice none 0 0) := (blk_cell BK344.out 5).trans rfl; have hcz24_6 : w22.cell? ⟨gb344, 6, none⟩ = some (.slice none 0 0) := (blk_cell BK344.out 6).trans rfl; have hcz24_7 : w22.cell? ⟨gb344, 7, none⟩ = some (.slice none 0 0) := (blk_cell BK344.out 7).trans rfl; have hfz24_0 := zfr BK344 0; have hfz24_1 := zfr BK344 1; have hfz24_2 := zfr BK344 2; have hfz24_3 := zfr BK344 3; have hfz24_4 := zfr BK344 4; have hfz24_5 := zfr BK344 5; have hfz24_6 := zfr BK344 6; have hfz24_7 := zfr BK344 7; obtain ⟨Ao25, co25, eo25⟩ := Kd.R_slice HO356.out; subst eo25; have hcz26_0 := zh BK342; have hcz26_1 := zh1 BK342; have hcz26_2 := zh2 BK342; have hcz26_3 : w22.cell? ⟨gb342, 3, none⟩ = some (.slice A0_3 l0_3.length c0_3) := (blk_cell BK342.out 3).trans rfl; have hcz26_4 : w22.cell? ⟨gb342, 4, none⟩ = some (.slice A0_4 l0_4.length c0_4) := (blk_cell BK342.out 4).trans rfl; have hcz26_5 : w22.cell? ⟨gb342, 5, none⟩ = some (.slice A0_5 l0_5.length c0_5) := (blk_cell BK342.out 5).trans rfl; have hcz26_6 : w22.cell? ⟨gb342, 6, none⟩ = some (.slice A0_6 l0_6.length c0_6) := (blk_cell BK342.out 6).trans rfl; have hcz26_7 : w22.cell? ⟨gb342, 7, none⟩ = some (.slice A0_7 l0_7.length c0_7) := (blk_cell BK342.out 7).trans rfl; have hfz26_0 := zfr BK342 0; have hfz26_1 := zfr BK342 1; have hfz26_2 := zfr BK342 2; have hfz26_3 := zfr BK342 3; have hfz26_4 := zfr BK342 4; have hfz26_5 := zfr BK342 5; have hfz26_6 := zfr BK342 6; have hfz26_7 := zfr BK342 7) | ((with_reducible refine gate_callee (f := 36) rfl ?_); refine goesL_ (some 24) rfl rfl Try.func36 (by kernel_rfl) rfl #[.agg #[.slice A0_6 l0_6.length c0_6, .slice A0_7 l0_7.length c0_7]] rfl y3 ?_; (with_reducible refine (laws_toBody.Fcalls rec_ IH k _ _ l0_6 _ _ l0_7 t357 t360 _ ?side1 ?side2 ?side3 ?side4 A5.out).mono ?_); (case side1 => exact y17 HR0_6.out HB.out GE342.out GE343.out GE344.out); (case side2 => exact HC0_6.out); (case side3 => exact y17 HR0_7.out HB.out GE342.out GE343.out GE344.out); (case side4 => exact HC0_7.out); rintro e w27 ⟨v358, v361, rfl, ho0, ho1, hb⟩; refine ⟨_, rfl, ?_⟩; have HO359 := Aside0.mk (Kd.R_lower (Kd.R_newB (Kd.R_newB (Kd.R_new' (Kd.R_new' (Kd.R_new' (Kd.R_new' ho0 (Kd.R_lt (by (with_reducible repeat (first | apply Kd.R_alloc | apply Kd.R_drewN | apply Kd.R_drew)); exact (Kd.R_mono (Kd.R_far (p := ⟨gb344, 5, none⟩) (Kd.R_far (p := ⟨gb344, 4, none⟩) (Kd.R_types HO347.out BK344.out (by decide)) (fun _ hk => hk.2) (.slice Ao23 t351.length co23)) (fun _ hk => hk.2) (.slice Ao25 t354.length co25)) (fun _ h_ => h_.1))))) (Kd.R_lt (by (with_reducible repeat (first | apply Kd.R_alloc | apply Kd.R_drewN | apply Kd.R_drew)); exact (Kd.R_mono (Kd.R_far (p := ⟨gb344, 5, none⟩) (Kd.R_far (p := ⟨gb344, 4, none⟩) (Kd.R_types HO350.out BK344.out (by decide)) (fun _ hk => hk.2) (.slice Ao23 t351.length co23)) (fun _ hk => hk.2) (.slice Ao25 t354.length co25)) (fun _ h_ => h_.1))))) (Kd.R_lt (by (with_reducible repeat (first | apply Kd.R_alloc | apply Kd.R_drewN | apply Kd.R_drew)); exact (Kd.R_mono (Kd.R_far (p := ⟨gb344, 5, none⟩) (Kd.R_far (p := ⟨gb344, 4, none⟩) (Kd.R_mono HO353.out (fun k_ hk => (⟨hk, hk.2⟩ : _ ∧ k_ ≠ gb344))) (fun _ hk => hk.2) (.slice Ao23 t351.length co23)) (fun _ hk => hk.2) (.slice Ao25 t354.length co25)) (fun _ h_ => h_.1))))) (Kd.R_lt (by (with_reducible repeat (first | apply Kd.R_alloc | apply Kd.R_drewN | apply Kd.R_drew)); exact (Kd.R_mono (Kd.R_far (p := ⟨gb344, 5, none⟩) (Kd.R_far (p := ⟨gb344, 4, none⟩) (Kd.R_types HO356.out BK344.out (by decide)) (fun _ hk => hk.2) (.slice Ao23 t351.length co23)) (fun _ hk => hk.2) (.slice Ao25 t354.length co25)) (fun _ h_ => h_.1))))) (g := gb343) (o := .cells #[.int .i64 0, .slice none 0 0, .string (⟨#[]⟩ : ByteArray), .slice none 0 0, .slice none 0 0, .slice none 0 0, .slice none 0 0, .slice none 0 0] 64 (0, 0)) (y22 NB343_344.out BK343.out)) (g := gb344) (o := .cells #[.int .i64 a0_0, .slice Ao15 t345.length co15, .string a0_2, .slice Ao19 t348.length co19, .slice Ao23 t351.length co23, .slice Ao25 t354.length co25, .slice none 0 0, .slice none 0 0] 64 (0, 0)) (by (with_reducible repeat (first | refine blk_drewN ?_ _ | refine blk_drew ?_ | refine blk_alloc ?_ _)); refine blk_put (cs := #[.int .i64 a0_0, .slice Ao15 t345.length co15, .string a0_2, .slice Ao19 t348.length co19, .slice Ao23 t351.length co23, .slice none 0 0, .slice none 0 0, .slice none 0 0]) ?_ 5 _ rfl; (with_reducible repeat (first | refine blk_drewN ?_ _ | refine blk_drew ?_ | refine blk_alloc ?_ _)); apply blk_put (i := 4); (case h => exact y8 BK344.out); (case e => rfl))) (below_size (y10 HB.out GE342.out GE343.out GE344.out))); replace HO347 := Aside0.mk (Kd.R_below (by (with_reducible repeat (first | apply Kd.R_alloc | apply Kd.R_drewN | apply Kd.R_drew)); exact (Kd.R_mono (Kd.R_far (p := ⟨gb344, 5, none⟩) (Kd.R_far (p := ⟨gb344, 4, none⟩) (Kd.R_types HO347.out BK344.out (by decide)) (fun _ hk => hk.2) (.slice Ao23 t351.length co23)) (fun _ hk => hk.2) (.slice Ao25 t354.length co25)) (fun _ h_ => h_.1))) hb); replace HO353 := Aside0.mk (Kd.R_mono (Kd.R_told (Kd.R_told (Kd.R_old (by (with_reducible repeat (first | apply Kd.R_alloc | apply Kd.R_drewN | apply Kd.R_drew)); exact (Kd.R_mono (Kd.R_far (p := ⟨gb344, 5, none⟩) (Kd.R_far (p := ⟨gb344, 4, none⟩) (Kd.R_mono HO353.out (fun k_ hk => (⟨hk, hk.2⟩ : _ ∧ k_ ≠ gb344))) (fun _ hk => hk.2) (.slice Ao23 t351.length co23)) (fun _ hk => hk.2) (.slice Ao25 t354.length co25)) (fun _ h_ => h_.1))) hb) (Kd.R_base ho0)) (Kd.R_base ho1)) (fun _ h_ => h_.1)); have HO362 := Aside0.mk (Kd.R_lower (Kd.R_new' (Kd.R_new' ho1 (Kd.R_lt (by (with_reducible repeat (first | apply Kd.R_alloc | apply Kd.R_drewN | apply Kd.R_drew)); exact (Kd.R_mono (Kd.R_far (p := ⟨gb344, 5, none⟩) (Kd.R_far (p := ⟨gb344, 4, none⟩) (Kd.R_types HO350.out BK344.out (by decide)) (fun _ hk => hk.2) (.slice Ao23 t351.length co23)) (fun _ hk => hk.2) (.slice Ao25 t354.length co25)) (fun _ h_ => h_.1))))) (Kd.R_lt (by (with_reducible repeat (first | apply Kd.R_alloc | apply Kd.R_drewN | apply Kd.R_drew)); exact (Kd.R_mono (Kd.R_far (p := ⟨gb344, 5, none⟩) (Kd.R_far (p := ⟨gb344, 4, none⟩) (Kd.R_types HO356.out BK344.out (by decide)) (fun _ hk => hk.2) (.slice Ao23 t351.length co23)) (fun _ hk => hk.2) (.slice Ao25 t354.length co25)) (fun _ h_ => h_.1))))) (below_size (y10 HB.out GE342.out GE343.out GE344.out))); replace HO350 := Aside0.mk (Kd.R_elder' (by (with_reducible repeat (first | apply Kd.R_alloc | apply Kd.R_drewN | apply Kd.R_drew)); exact (Kd.R_mono (Kd.R_far (p := ⟨gb344, 5, none⟩) (Kd.R_far (p := ⟨gb344, 4, none⟩) (Kd.R_types HO350.out BK344.out (by decide)) (fun _ hk => hk.2) (.slice Ao23 t351.length co23)) (fun _ hk => hk.2) (.slice Ao25 t354.length co25)) (fun _ h_ => h_.1))) (Kd.R_base ho1) hb); replace HO356 := Aside0.mk (Kd.R_elder' (by (with_reducible repeat (first | apply Kd.R_alloc | apply Kd.R_drewN | apply Kd.R_drew)); exact (Kd.R_mono (Kd.R_far (p := ⟨gb344, 5, none⟩) (Kd.R_far (p := ⟨gb344, 4, none⟩) (Kd.R_types HO356.out BK344.out (by decide)) (fun _ hk => hk.2) (.slice Ao23 t351.length co23)) (fun _ hk => hk.2) (.slice Ao25 t354.length co25)) (fun _ h_ => h_.1))) (Kd.R_base ho1) hb); replace BK342 := Aside0.mk (blk_below (g := gb342) (o := .cells #[.int .i64 a0_0, .slice A0_1 l0_1.length c0_1, .string a0_2, .slice A0_3 l0_3.length c0_3, .slice A0_4 l0_4.length c0_4, .slice A0_5 l0_5.length c0_5, .slice A0_6 l0_6.length c0_6, .slice A0_7 l0_7.length c0_7] 93 (0, 0)) (y22 NB342_344.out BK342.out) hb); replace BK343 := Aside0.mk (blk_below (g := gb343) (o := .cells #[.int .i64 0, .slice none 0 0, .string (⟨#[]⟩ : ByteArray), .slice none 0 0, .slice none 0 0, .slice none 0 0, .slice none 0 0, .slice none 0 0] 64 (0, 0)) (y22 NB343_344.out BK343.out) hb); replace BK344 := Aside0.mk (blk_below (g := gb344) (o := .cells #[.int .i64 a0_0, .slice Ao15 t345.length co15, .string a0_2, .slice Ao19 t348.length co19, .slice Ao23 t351.length co23, .slice Ao25 t354.length co25, .slice none 0 0, .slice none 0 0] 64 (0, 0)) (by (with_reducible repeat (first | refine blk_drewN ?_ _ | refine blk_drew ?_ | refine blk_alloc ?_ _)); refine blk_put (cs := #[.int .i64 a0_0, .slice Ao15 t345.length co15, .string a0_2, .slice Ao19 t348.length co19, .slice Ao23 t351.length co23, .slice none 0 0, .slice none 0 0, .slice none 0 0]) ?_ 5 _ rfl; (with_reducible repeat (first | refine blk_drewN ?_ _ | refine blk_drew ?_ | refine blk_alloc ?_ _)); apply blk_put (i := 4); (case h => exact y8 BK344.out); (case e => rfl)) hb); replace HB := Aside0.mk (below_step (y10 HB.out GE342.out GE343.out GE344.out) hb); (try clear hb); (try clear hb2); (try clear hk); (try clear hi); (try clear ho0); (try clear ho1); obtain ⟨Ao28, co28, eo28⟩ := Kd.R_slice HO359.out; subst eo28; have hcz29_0 := zh BK344; have hcz29_1 := zh1 BK344; have hcz29_2 := zh2 BK344; have hcz29_3 : w27.cell? ⟨gb344, 3, none⟩ = some (.slice Ao19 t348.length co19) := (blk_cell BK344.out 3).trans rfl; have hcz29_4 : w27.cell? ⟨gb344, 4, none⟩ = some (.slice Ao23 t351.length co23) := (blk_cell BK344.out 4).trans rfl; have hcz29_5 : w27.cell? ⟨gb344, 5, none⟩ = some (.slice Ao25 t354.length co25) := (blk_cell BK344.out 5).trans rfl; have hcz29_6 : w27.cell? ⟨gb344, 6, none⟩ = some (.slice none 0 0) := (blk_cell BK344.out 6).trans rfl; have hcz29_7 : w27.cell? ⟨gb344, 7, none⟩ = some (.slice none 0 0) := (blk_cell BK344.out 7).trans rfl; have hfz29_0 := zfr BK344 0; have hfz29_1 := zfr BK344 1; have hfz29_2 := zfr BK344 2; have hfz29_3 := zfr BK344 3; have hfz29_4 := zfr BK344 4; have hfz29_5 := zfr BK344 5; have hfz29_6 := zfr BK344 6; have hfz29_7 := zfr BK344 7; obtain ⟨Ao30, co30, eo30⟩ := Kd.R_slice HO362.out; subst eo30; have hcz31_0 := zh BK343; have hcz31_1 := zh1 BK343; have hcz31_2 := zh2 BK343; have hcz31_3 : w27.cell? ⟨gb343, 3, none⟩ = some (.slice none 0 0) := (blk_cell BK343.out 3).trans rfl; have hcz31_4 : w27.cell? ⟨gb343, 4, none⟩ = some (.slice none 0 0) := (blk_cell BK343.out 4).trans rfl; have hcz31_5 : w27.cell? ⟨gb343, 5, none⟩ = some (.slice none 0 0) := (blk_cell BK343.out 5).trans rfl; have hcz31_6 : w27.cell? ⟨gb343, 6, none⟩ = some (.slice none 0 0) := (blk_cell BK343.out 6).trans rfl; have hcz31_7 : w27.cell? ⟨gb343, 7, none⟩ = some (.slice none 0 0) := (blk_cell BK343.out 7).trans rfl; have hfz31_0 := zfr BK343 0; have hfz31_1 := zfr BK343 1; have hfz31_2 := zfr BK343 2; have hfz31_3 := zfr BK343 3; have hfz31_4 := zfr BK343 4; have hfz31_5 := zfr BK343 5; have hfz31_6 := zfr BK343 6; have hfz31_7 := zfr BK343 7))
 refine bodyPost_ret (results_cell_row rfl _ _ gb343 64 #[.int .i64 a0_0, .slice Ao15 t345.length co15, .string a0_2, .slice Ao19 t348.length co19, .slice Ao23 t351.length co23, .slice Ao25 t354.length co25, .slice Ao28 t357.length co28, .slice Ao30 t360.length co30] (0, 0) _ rfl (by (with_reducible repeat (first | refine blk_drewN ?_ _ | refine blk_drew ?_ | refine blk_alloc ?_ _)); refine blk_put (cs := #[.int .i64 a0_0, .slice Ao15 t345.length co15, .string a0_2, .slice Ao19 t348.length co19, .slice Ao23 t351.length co23, .slice Ao25 t354.length co25, .slice Ao28 t357.length co28, .slice none 0 0]) ?_ 7 _ rfl; (with_reducible repeat (first | refine blk_drewN ?_ _ | refine blk_drew ?_ | refine blk_alloc ?_ _)); refine blk_put (cs := #[.int .i64 a0_0, .slice Ao15 t345.length co15, .string a0_2, .slice Ao19 t348.length co19, .slice Ao23 t351.length co23, .slice Ao25 t354.length co25, .slice none 0 0, .slice none 0 0]) ?_ 6 _ rfl; (with_reducible repeat (first | refine blk_drewN ?_ _ | refine blk_drew ?_ | refine blk_alloc ?_ _)); refine blk_put (cs := #[.int .i64 a0_0, .slice Ao15 t345.length co15, .string a0_2, .slice Ao19 t348.length co19, .slice Ao23 t351.length co23, .slice none 0 0, .slice none 0 0, .slice none 0 0]) ?_ 5 _ rfl; (with_reducible repeat (first | refine blk_drewN ?_ _ | refine blk_drew ?_ | refine blk_alloc ?_ _)); refine blk_put (cs := #[.int .i64 a0_0, .slice Ao15 t345.length co15, .string a0_2, .slice Ao19 t348.length co19, .slice none 0 0, .slice none 0 0, .slice none 0 0, .slice none 0 0]) ?_ 4 _ rfl; (with_reducible repeat (first | refine blk_drewN ?_ _ | refine blk_drew ?_ | refine blk_alloc ?_ _)); refine blk_put (cs := #[.int .i64 a0_0, .slice Ao15 t345.length co15, .string a0_2, .slice none 0 0, .slice none 0 0, .slice none 0 0, .slice none 0 0, .slice none 0 0]) ?_ 3 _ rfl; (with_reducible repeat (first | refine blk_drewN ?_ _ | refine blk_drew ?_ | refine blk_alloc ?_ _)); refine blk_put (cs := #[.int .i64 a0_0, .slice Ao15 t345.length co15, .string (⟨#[]⟩ : ByteArray), .slice none 0 0, .slice none 0 0, .slice none 0 0, .slice none 0 0, .slice none 0 0]) ?_ 2 _ rfl; (with_reducible repeat (first | refine blk_drewN ?_ _ | refine blk_drew ?_ | refine blk_alloc ?_ _)); refine blk_put (cs := #[.int .i64 a0_0, .slice none 0 0, .string (⟨#[]⟩ : ByteArray), .slice none 0 0, .slice none 0 0, .slice none 0 0, .slice none 0 0, .slice none 0 0]) ?_ 1 _ rfl; (with_reducible repeat (first | refine blk_drewN ?_ _ | refine blk_drew ?_ | refine blk_alloc ?_ _)); refine blk_put (cs := #[.int .i64 0, .slice none 0 0, .string (⟨#[]⟩ : ByteArray), .slice none 0 0, .slice none 0 0, .slice none 0 0, .slice none 0 0, .slice none 0 0]) ?_ 0 _ rfl; (with_reducible repeat (first | refine blk_drewN ?_ _ | refine blk_drew ?_ | refine blk_alloc ?_ _)); refine blk_far ?_ NB343_344.out _; (with_reducible repeat (first | refine blk_drewN ?_ _ | refine blk_drew ?_ | refine blk_alloc ?_ _)); refine blk_far ?_ NB343_344.out _; (with_reducible repeat (first | refine blk_drewN ?_ _ | refine blk_drew ?_ | refine blk_alloc ?_ _)); exact BK343.out) Try.underlying64 rfl (by kernel_rfl)) rfl ?_
 exact ⟨_, _, _, _, _, _, y6, (by (with_reducible repeat (first | apply Kd.R_alloc | apply Kd.R_drewN | apply Kd.R_drew)); exact Kd.R_mono (Kd.R_far (p := ⟨gb343, 7, none⟩) (Kd.R_far (p := ⟨gb343, 6, none⟩) (Kd.R_far (p := ⟨gb343, 5, none⟩) (Kd.R_far (p := ⟨gb343, 4, none⟩) (Kd.R_far (p := ⟨gb343, 3, none⟩) (Kd.R_far (p := ⟨gb343, 2, none⟩) (Kd.R_far (p := ⟨gb343, 1, none⟩) (Kd.R_far (p := ⟨gb343, 0, none⟩) (Kd.R_far (p := ⟨gb344, 7, none⟩) (Kd.R_far (p := ⟨gb344, 6, none⟩) (Kd.R_types (Kd.R_types HO347.out BK344.out (by decide)) BK343.out (by decide)) (fun _ hk => hk.1.2) (.slice Ao28 t357.length co28)) (fun _ hk => hk.1.2) (.slice Ao30 t360.length co30)) (fun _ hk => hk.2) (.int .i64 a0_0)) (fun _ hk => hk.2) (.slice Ao15 t345.length co15)) (fun _ hk => hk.2) (.string a0_2)) (fun _ hk => hk.2) (.slice Ao19 t348.length co19)) (fun _ hk => hk.2) (.slice Ao23 t351.length co23)) (fun _ hk => hk.2) (.slice Ao25 t354.length co25)) (fun _ hk => hk.2) (.slice Ao28 t357.length co28)) (fun _ hk => hk.2) (.slice Ao30 t360.length co30)) (fun _ hk => trivial)), (by (with_reducible repeat (first | apply Kd.R_alloc | apply Kd.R_drewN | apply Kd.R_drew)); exact Kd.R_mono (Kd.R_far (p := ⟨gb343, 7, none⟩) (Kd.R_far (p := ⟨gb343, 6, none⟩) (Kd.R_far (p := ⟨gb343, 5, none⟩) (Kd.R_far (p := ⟨gb343, 4, none⟩) (Kd.R_far (p := ⟨gb343, 3, none⟩) (Kd.R_far (p := ⟨gb343, 2, none⟩) (Kd.R_far (p := ⟨gb343, 1, none⟩) (Kd.R_far (p := ⟨gb343, 0, none⟩) (Kd.R_far (p := ⟨gb344, 7, none⟩) (Kd.R_far (p := ⟨gb344, 6, none⟩) (Kd.R_types (Kd.R_types HO350.out BK344.out (by decide)) BK343.out (by decide)) (fun _ hk => hk.1.2) (.slice Ao28 t357.length co28)) (fun _ hk => hk.1.2) (.slice Ao30 t360.length co30)) (fun _ hk => hk.2) (.int .i64 a0_0)) (fun _ hk => hk.2) (.slice Ao15 t345.length co15)) (fun _ hk => hk.2) (.string a0_2)) (fun _ hk => hk.2) (.slice Ao19 t348.length co19)) (fun _ hk => hk.2) (.slice Ao23 t351.length co23)) (fun _ hk => hk.2) (.slice Ao25 t354.length co25)) (fun _ hk => hk.2) (.slice Ao28 t357.length co28)) (fun _ hk => hk.2) (.slice Ao30 t360.length co30)) (fun _ hk => ⟨hk.1.1.1.2, hk.1.1.2⟩)), (by (with_reducible repeat (first | apply Kd.R_alloc | apply Kd.R_drewN | apply Kd.R_drew)); exact Kd.R_mono (Kd.R_far (p := ⟨gb343, 7, none⟩) (Kd.R_far (p := ⟨gb343, 6, none⟩) (Kd.R_far (p := ⟨gb343, 5, none⟩) (Kd.R_far (p := ⟨gb343, 4, none⟩) (Kd.R_far (p := ⟨gb343, 3, none⟩) (Kd.R_far (p := ⟨gb343, 2, none⟩) (Kd.R_far (p := ⟨gb343, 1, none⟩) (Kd.R_far (p := ⟨gb343, 0, none⟩) (Kd.R_far (p := ⟨gb344, 7, none⟩) (Kd.R_far (p := ⟨gb344, 6, none⟩) (Kd.R_mono (Kd.R_mono HO353.out (fun k_ hk => (⟨hk, hk.1.1.2⟩ : _ ∧ k_ ≠ gb344))) (fun k_ hk => (⟨hk, hk.1.1.1.1.2⟩ : _ ∧ k_ ≠ gb343))) (fun _ hk => hk.1.2) (.slice Ao28 t357.length co28)) (fun _ hk => hk.1.2) (.slice Ao30 t360.length co30)) (fun _ hk => hk.2) (.int .i64 a0_0)) (fun _ hk => hk.2) (.slice Ao15 t345.length co15)) (fun _ hk => hk.2) (.string a0_2)) (fun _ hk => hk.2) (.slice Ao19 t348.length co19)) (fun _ hk => hk.2) (.slice Ao23 t351.length co23)) (fun _ hk => hk.2) (.slice Ao25 t354.length co25)) (fun _ hk => hk.2) (.slice Ao28 t357.length co28)) (fun _ hk => hk.2) (.slice Ao30 t360.length co30)) (fun _ hk => ⟨hk.1.1.1.1.1.1.1.2, ⟨hk.1.1.1.1.1.1.2, ⟨hk.1.1.1.1.1.1.1.1, ⟨hk.1.1.1.2, hk.1.1.2⟩⟩⟩⟩)), (by (with_reducible repeat (first | apply Kd.R_alloc | apply Kd.R_drewN | apply Kd.R_drew)); exact Kd.R_mono (Kd.R_far (p := ⟨gb343, 7, none⟩) (Kd.R_far (p := ⟨gb343, 6, none⟩) (Kd.R_far (p := ⟨gb343, 5, none⟩) (Kd.R_far (p := ⟨gb343, 4, none⟩) (Kd.R_far (p := ⟨gb343, 3, none⟩) (Kd.R_far (p := ⟨gb343, 2, none⟩) (Kd.R_far (p := ⟨gb343, 1, none⟩) (Kd.R_far (p := ⟨gb343, 0, none⟩) (Kd.R_far (p := ⟨gb344, 7, none⟩) (Kd.R_far (p := ⟨gb344, 6, none⟩) (Kd.R_types (Kd.R_types HO356.out BK344.out (by decide)) BK343.out (by decide)) (fun _ hk => hk.1.2) (.slice Ao28 t357.length co28)) (fun _ hk => hk.1.2) (.slice Ao30 t360.length co30)) (fun _ hk => hk.2) (.int .i64 a0_0)) (fun _ hk => hk.2) (.slice Ao15 t345.length co15)) (fun _ hk => hk.2) (.string a0_2)) (fun _ hk => hk.2) (.slice Ao19 t348.length co19)) (fun _ hk => hk.2) (.slice Ao23 t351.length co23)) (fun _ hk => hk.2) (.slice Ao25 t354.length co25)) (fun _ hk => hk.2) (.slice Ao28 t357.length co28)) (fun _ hk => hk.2) (.slice Ao30 t360.length co30)) (fun _ hk => ⟨hk.1.1.1.2, hk.1.1.2⟩)), (by (with_reducible repeat (first | apply Kd.R_alloc | apply Kd.R_drewN | apply Kd.R_drew)); exact Kd.R_mono (Kd.R_far (p := ⟨gb343, 7, none⟩) (Kd.R_far (p := ⟨gb343, 6, none⟩) (Kd.R_far (p := ⟨gb343, 5, none⟩) (Kd.R_far (p := ⟨gb343, 4, none⟩) (Kd.R_far (p := ⟨gb343, 3, none⟩) (Kd.R_far (p := ⟨gb343, 2, none⟩) (Kd.R_far (p := ⟨gb343, 1, none⟩) (Kd.R_far (p := ⟨gb343, 0, none⟩) (Kd.R_far (p := ⟨gb344, 7, none⟩) (Kd.R_far (p := ⟨gb344, 6, none⟩) (Kd.R_mono (Kd.R_mono HO359.out (fun k_ hk => (⟨hk, hk.2⟩ : _ ∧ k_ ≠ gb344))) (fun k_ hk => (⟨hk, hk.1.1.2⟩ : _ ∧ k_ ≠ gb343))) (fun _ hk => hk.1.2) (.slice Ao28 t357.length co28)) (fun _ hk => hk.1.2) (.slice Ao30 t360.length co30)) (fun _ hk => hk.2) (.int .i64 a0_0)) (fun _ hk => hk.2) (.slice Ao15 t345.length co15)) (fun _ hk => hk.2) (.string a0_2)) (fun _ hk => hk.2) (.slice Ao19 t348.length co19)) (fun _ hk => hk.2) (.slice Ao23 t351.length co23)) (fun _ hk => hk.2) (.slice Ao25 t354.length co25)) (fun _ hk => hk.2) (.slice Ao28 t357.length co28)) (fun _ hk => hk.2) (.slice Ao30 t360.length co30)) (fun _ hk => ⟨hk.1.1.1.1.1.1.1.2, ⟨hk.1.1.1.1.1.1.2, ⟨hk.1.1.1.1.1.2, ⟨hk.1.1.1.1.2, hk.1.1.1.1.1.1.1.1⟩⟩⟩⟩)), (by (with_reducible repeat (first | apply Kd.R_alloc | apply Kd.R_drewN | apply Kd.R_drew)); exact Kd.R_mono (Kd.R_far (p := ⟨gb343, 7, none⟩) (Kd.R_far (p := ⟨gb343, 6, none⟩) (Kd.R_far (p := ⟨gb343, 5, none⟩) (Kd.R_far (p := ⟨gb343, 4, none⟩) (Kd.R_far (p := ⟨gb343, 3, none⟩) (Kd.R_far (p := ⟨gb343, 2, none⟩) (Kd.R_far (p := ⟨gb343, 1, none⟩) (Kd.R_far (p := ⟨gb343, 0, none⟩) (Kd.R_far (p := ⟨gb344, 7, none⟩) (Kd.R_far (p := ⟨gb344, 6, none⟩) (Kd.R_types (Kd.R_types HO362.out BK344.out (by decide)) BK343.out (by decide)) (fun _ hk => hk.1.2) (.slice Ao28 t357.length co28)) (fun _ hk => hk.1.2) (.slice Ao30 t360.length co30)) (fun _ hk => hk.2) (.int .i64 a0_0)) (fun _ hk => hk.2) (.slice Ao15 t345.length co15)) (fun _ hk => hk.2) (.string a0_2)) (fun _ hk => hk.2) (.slice Ao19 t348.length co19)) (fun _ hk => hk.2) (.slice Ao23 t351.length co23)) (fun _ hk => hk.2) (.slice Ao25 t354.length co25)) (fun _ hk => hk.2) (.slice Ao28 t357.length co28)) (fun _ hk => hk.2) (.slice Ao30 t360.length co30)) (fun _ hk => ⟨hk.1.1.1.2, hk.1.1.2⟩)), (y10 HB.out GE342.out GE343.out GE344.out)⟩
set_option maxHeartbeats 8000000 in
set_option maxRecDepth 100000 in
theorem laws_toBindS.calls (k : Nat) : ∀ (A0 : Option Addr) (c0 : Nat) (l0 : List (S93)) (r : List (S64)) (w : World) (hr0 : Kd.C k93 w A0 l0.length l0) (hc0 : l0.length ≤ c0) (h : laws_toBindS.f k l0 = some r),
  Calls Try.prog 50 #[.slice A0 l0.length c0] w fun e w' => ∃ v0_ : Value, e = .returned (v0_) ∧ Kd.R k64 64 w' w.heap.size (fun _ => True) v0_ r ∧ Below w.heap.size w w' := by
 induction k using Nat.strongRecOn with
 | _ k ih =>
 intro A0 c0 l0 r w hr0 hc0 h
 cases k with
 | zero => exact absurd h (by simp [laws_toBindS.f])
 | succ k =>
 simp only [laws_toBindS.f] at h
 have hu93 := Try.underlying93
 have hu64 := Try.underlying64
 have HR0 := Aside0.mk hr0
 have HC0 := Aside0.mk hc0
 clear hr0 hc0
 have HB := Aside0.mk (Below.refl w.heap.size w)
 have H : (if 0 ≤ (l0.length : Int) then (if ((l0.length : Int) : Int).toNat ≤ 1675446289944 then (laws_toBindS.l0 k l0 (List.replicate ((l0.length : Int) : Int).toNat z64) 0) else (none)) else (none)) = some r := h
 clear h
 by_cases c2 : 0 ≤ (l0.length : Int)
 ·rw [if_pos c2] at H
  have c2b0 := eq_true c2
  have c2b1 : decide (0 ≤ (l0.length : Int)) = true := decide_eq_true c2
  clear c2
  by_cases c3 : ((l0.length : Int) : Int).toNat ≤ 1675446289944
  ·rw [if_pos c3] at H
   have c3b0 := eq_true c3
   have c3b1 : decide (((l0.length : Int) : Int).toNat ≤ 1675446289944) = true := decide_eq_true c3
   clear c3
   obtain ⟨y363, hy363⟩ : ∃ y_ : List (S64), y_ = (List.replicate ((l0.length : Int) : Int).toNat z64) := ⟨_, rfl⟩
   replace H : (laws_toBindS.l0 k l0 y363 0) = some r := by first | (rw [hy363]; with_reducible exact H) | (have H2_ := (Option.bind_some _ _).symm.trans H; rw [hy363]; with_reducible exact H2_) | (have H2_ := (Option.bind_some _ _).symm.trans H; with_reducible exact H2_) | with_reducible exact H | (rw [hy363]; exact H) | exact H
   have Ny363 := Aside0.mk hy363
   clear hy363
   have H' := Aside0.mk H
   clear H
   go_enter Try.func50, Try.ntmps50
   go_wp2_with (first | ((with_reducible refine gate_dst (N := 7) rfl ?_); refine Kd.R_make k64 _ 64 rfl (N := 7) rfl 40 _ _ rfl (l0.length : Int) rfl rfl Try.underlying40 (.agg #[(.int .i64 0), (.slice none 0 0), (.string ⟨#[]⟩), (.slice none 0 0), (.slice none 0 0), (.slice none 0 0), (.slice none 0 0), (.slice none 0 0)]) 168 info64 rfl (by decide) (by omega) z64 (ok := fun _ => True) (okp := fun _ => True) (k64_mkM _ _ _ z64 (Kd.R_nil _ _ _ _ _) (Kd.R_nil _ _ _ _ _) (Kd.R_nil _ _ _ _ _) (Kd.R_nil _ _ _ _ _) (Kd.R_nil _ _ _ _ _) (Kd.R_nil _ _ _ _ _)) (fun _ hk => hk) trivial (of_decide_eq_true y4) (Nat.le_trans (Nat.mul_le_mul_right _ (of_decide_eq_true y4 : (l0.length : Int).toNat ≤ 1675446289944)) (by omega)) (Below.refl _ _) (Nat.le_refl _) ?_; intro v364 w4 ho5 hb hg_ hnew_; clear hg_ hnew_; (first | rw [← Ny363.out] at ho5 | (simp only [Int.reduceToNat] at ho5; rw [← Ny363.out] at ho5)); have HO365 := Aside0.mk (Kd.R_lower ho5 (below_size (y1 HB.out))); replace HB := Aside0.mk (below_step (y1 HB.out) hb); clear hb ho5))
   go_loopg [4] k (fun kq v4 w' => ∃ (x3_1 : List (S64)) (x4_1 : Int), v4 = .int .i64 x4_1 ∧ Aside0 (laws_toBindS.l0 kq l0 x3_1 x4_1 = some r) ∧ Aside0 (kq ≤ k) ∧ Aside0 (Kd.R k64 64 w' w.heap.size (fun _ => True) v364 x3_1) ∧ Aside0 (Below w.heap.size w w'))
   case atStart => exact ⟨(y363), (0), y7, H', ⟨Nat.le_refl _⟩, ⟨(y11 HO365.out)⟩, ⟨(y1 HB.out)⟩⟩
   case round =>
    clear H'
    try clear c2
    try clear c2b0
    try clear c2b1
    try clear p2
    try clear c3
    try clear c3b0
    try clear c3b1
    try clear c5
    obtain ⟨x3_1, x4_1, rfl, HA, HK1, HO_3, HB⟩ := hrel
    cases gk with
    | zero => exact absurd HA.out (by simp [laws_toBindS.l0])
    | succ k1 =>
     have H := HA.out
     clear HA
     simp only [laws_toBindS.l0] at H
     by_cases c6 : x4_1 < (l0.length : Int)
     ·rw [if_pos c6] at H
      have c6b0 : decide (x4_1 < (l0.length : Int)) = true := decide_eq_true c6
      clear c6
      by_cases c7 : 0 ≤ x4_1
      ·rw [if_pos c7] at H
       have c7b0 : decide (0 ≤ x4_1) = true := decide_eq_true c7
       clear c7
       obtain ⟨⟨t367, t368, t371, t372, t375, t378, t381, t384⟩, A80, H⟩ := ob H
       have A8 := Aside0.mk A80
       clear A80
       by_cases c9 : x4_1 < (x3_1.length : Int)
       ·rw [if_pos c9] at H
        have c9b0 : decide (x4_1 < (x3_1.length : Int)) = true := decide_eq_true c9
        clear c9
        obtain ⟨y387, hy387⟩ : ∃ y_ : List (S64), y_ = (x3_1.set (x4_1 : Int).toNat (⟨t367, t368, t371, t372, (⟨t375, t378⟩ : S43), (⟨t381, t384⟩ : S43)⟩ : S64)) := ⟨_, rfl⟩
        replace H : (laws_toBindS.l0 k1 l0 y387 (wrap64 (x4_1 + 1))) = some r := by first | (rw [hy387]; with_reducible exact H) | (have H2_ := (Option.bind_some _ _).symm.trans H; rw [hy387]; with_reducible exact H2_) | (have H2_ := (Option.bind_some _ _).symm.trans H; with_reducible exact H2_) | with_reducible exact H | (rw [hy387]; exact H) | exact H
        have Ny387 := Aside0.mk hy387
        clear hy387
        have H' := Aside0.mk H
        clear H
        have p366 : 0 ≤ (x4_1 : Int) := of_decide_eq_true y4
        have q366 : x4_1 < (l0.length : Int) := of_decide_eq_true y4
        obtain ⟨ad366, A366_1, c366_1, A366_3, c366_3, A366_4, c366_4, A366_5, c366_5, A366_6, c366_6, A366_7, c366_7, e366, hx366_0, hx366_1, hx366_2, hx366_3, hx366_4, hx366_5, hx366_6, hx366_7, hl366_1, hi366_1, hl366_3, hi366_3, hl366_4, hi366_4, hl366_5, hi366_5, hl366_6, hi366_6, hl366_7, hi366_7⟩ := at_T93 HR0.out x4_1 p366 q366
        cases e366
        replace hx366_0 := (HB.out.cell (World.block_lt_of_cell? w _ hx366_0)).trans hx366_0
        replace hx366_1 := (HB.out.cell (World.block_lt_of_cell? w _ hx366_1)).trans hx366_1
        replace hx366_2 := (HB.out.cell (World.block_lt_of_cell? w _ hx366_2)).trans hx366_2
        replace hx366_3 := (HB.out.cell (World.block_lt_of_cell? w _ hx366_3)).trans hx366_3
        replace hx366_4 := (HB.out.cell (World.block_lt_of_cell? w _ hx366_4)).trans hx366_4
        replace hx366_5 := (HB.out.cell (World.block_lt_of_cell? w _ hx366_5)).trans hx366_5
        replace hx366_6 := (HB.out.cell (World.block_lt_of_cell? w _ hx366_6)).trans hx366_6
        replace hx366_7 := (HB.out.cell (World.block_lt_of_cell? w _ hx366_7)).trans hx366_7
        have HR366_1 := Aside0.mk hi366_1
        have HC366_1 := Aside0.mk hl366_1
        clear hi366_1 hl366_1
        have HR366_3 := Aside0.mk hi366_3
        have HC366_3 := Aside0.mk hl366_3
        clear hi366_3 hl366_3
        have HR366_4 := Aside0.mk hi366_4
        have HC366_4 := Aside0.mk hl366_4
        clear hi366_4 hl366_4
        have HR366_5 := Aside0.mk hi366_5
        have HC366_5 := Aside0.mk hl366_5
        clear hi366_5 hl366_5
        have HR366_6 := Aside0.mk hi366_6
        have HC366_6 := Aside0.mk hl366_6
        clear hi366_6 hl366_6
        have HR366_7 := Aside0.mk hi366_7
        have HC366_7 := Aside0.mk hl366_7
        clear hi366_7 hl366_7
        replace p366 := eq_true p366
        replace q366 := eq_true q366
        go_wp2_with (first | ((with_reducible refine gate_callee (f := 62) rfl ?_); refine goesL_ (some 20) rfl rfl Try.func62 (by kernel_rfl) rfl #[.agg #[.int .i64 ((rd_T93 l0 x4_1).f0), .slice A366_1 ((rd_T93 l0 x4_1).f1).length c366_1, .string ((rd_T93 l0 x4_1).f2), .slice A366_3 ((rd_T93 l0 x4_1).f3).length c366_3, .slice A366_4 ((rd_T93 l0 x4_1).f4.f0).length c366_4, .slice A366_5 ((rd_T93 l0 x4_1).f4.f1).length c366_5, .slice A366_6 ((rd_T93 l0 x4_1).f5.f0).length c366_6, .slice A366_7 ((rd_T93 l0 x4_1).f5.f1).length c366_7]] rfl y3 ?_; (with_reducible refine (laws_toBind.Fcalls (laws_toBindS.f k1) (ih k1 (y30 HK1.out)) k1 ((rd_T93 l0 x4_1).f0) _ _ ((rd_T93 l0 x4_1).f1) ((rd_T93 l0 x4_1).f2) _ _ ((rd_T93 l0 x4_1).f3) _ _ ((rd_T93 l0 x4_1).f4.f0) _ _ ((rd_T93 l0 x4_1).f4.f1) _ _ ((rd_T93 l0 x4_1).f5.f0) _ _ ((rd_T93 l0 x4_1).f5.f1) t367 t368 t371 t372 t375 t378 t381 t384 _ ?side1 ?side2 ?side3 ?side4 ?side5 ?side6 ?side7 ?side8 ?side9 ?side10 ?side11 ?side12 A8.out).mono ?_); (case side1 => exact y0 HR366_1.out HB.out); (case side2 => exact HC366_1.out); (case side3 => exact y0 HR366_3.out HB.out); (case side4 => exact HC366_3.out); (case side5 => exact y0 HR366_4.out HB.out); (case side6 => exact HC366_4.out); (case side7 => exact y0 HR366_5.out HB.out); (case side8 => exact HC366_5.out); (case side9 => exact y0 HR366_6.out HB.out); (case side10 => exact HC366_6.out); (case side11 => exact y0 HR366_7.out HB.out); (case side12 => exact HC366_7.out); rintro e w11 ⟨v369, v373, v376, v379, v382, v385, rfl, ho0, ho1, ho2, ho3, ho4, ho5, hb⟩; refine ⟨_, rfl, ?_⟩; have HO370 := Aside0.mk (Kd.R_lower ho0 (below_size (y1 HB.out))); have HO374 := Aside0.mk (Kd.R_lower ho1 (below_size (y1 HB.out))); have HO377 := Aside0.mk (Kd.R_lower (Kd.R_new' ho2 (Kd.R_lt (y11 HO_3.out))) (below_size (y1 HB.out))); have HO380 := Aside0.mk (Kd.R_lower ho3 (below_size (y1 HB.out))); have HO383 := Aside0.mk (Kd.R_lower (Kd.R_new' ho4 (Kd.R_lt (y11 HO_3.out))) (below_size (y1 HB.out))); replace HO_3 := Aside0.mk (Kd.R_mono (Kd.R_told (Kd.R_told (Kd.R_told (Kd.R_told (Kd.R_told (Kd.R_told (Kd.R_old (y11 HO_3.out) hb) (Kd.R_base ho0)) (Kd.R_base ho1)) (Kd.R_base ho2)) (Kd.R_base ho3)) (Kd.R_base ho4)) (Kd.R_base ho5)) (fun _ h_ => h_.1)); have HO386 := Aside0.mk (Kd.R_lower ho5 (below_size (y1 HB.out))); replace HB := Aside0.mk (below_step (y1 HB.out) hb); (try clear hb); (try clear hb2); (try clear hk); (try clear hi); (try clear ho0); (try clear ho1); (try clear ho2); (try clear ho3); (try clear ho4); (try clear ho5); have p10 : 0 ≤ (x4_1 : Int) := of_decide_eq_true y4; have q10 : (x4_1 : Int) < ((x3_1.length : Int) : Int) := of_decide_eq_true y4; obtain ⟨go10, co10, eo10, gb10, gl10, cl10, HG10⟩ := Kd.R_form HO_3.out (by omega); (first | cases eo10 | (injection eo10 with ea_ en_ ec_; (first | subst ea_ | (injection ea_ with ea_; subst ea_)); subst ec_; clear en_)); have GB10 := Aside0.mk gb10; have GG10 := Aside0.mk HG10; clear gb10 gl10 HG10; obtain ⟨ce10, hcl10, hM10, hcc10, hfr10⟩ := Kd.R_elem HO_3.out z64 (x4_1 : Int) p10 q10; obtain ⟨ve10_1, ve10_3, ve10_4, ve10_5, ve10_6, ve10_7, rfl, ge10_1, ge10_3, ge10_4, ge10_5, ge10_6, ge10_7⟩ := k64_openM hM10; have hx10_0 : w11.cell? ⟨go10, (x4_1 : Int).toNat * 8, none⟩ = some (.int .i64 ((rd_T64 x3_1 x4_1).f0)) := hcc10 0 _ rfl; have hx10_1 : w11.cell? ⟨go10, (x4_1 : Int).toNat * 8 + 1, none⟩ = some (ve10_1) := hcc10 1 _ rfl; have hx10_2 : w11.cell? ⟨go10, (x4_1 : Int).toNat * 8 + 2, none⟩ = some (.string ((rd_T64 x3_1 x4_1).f2)) := hcc10 2 _ rfl; have hx10_3 : w11.cell? ⟨go10, (x4_1 : Int).toNat * 8 + 3, none⟩ = some (ve10_3) := hcc10 3 _ rfl; have hx10_4 : w11.cell? ⟨go10, (x4_1 : Int).toNat * 8 + 4, none⟩ = some (ve10_4) := hcc10 4 _ rfl; have hx10_5 : w11.cell? ⟨go10, (x4_1 : Int).toNat * 8 + 5, none⟩ = some (ve10_5) := hcc10 5 _ rfl; have hx10_6 : w11.cell? ⟨go10, (x4_1 : Int).toNat * 8 + 6, none⟩ = some (ve10_6) := hcc10 6 _ rfl; have hx10_7 : w11.cell? ⟨go10, (x4_1 : Int).toNat * 8 + 7, none⟩ = some (ve10_7) := hcc10 7 _ rfl; have hf10_0 : w11.frozen? ⟨go10, (x4_1 : Int).toNat * 8, none⟩ = false := hfr10 0; have hf10_1 : w11.frozen? ⟨go10, (x4_1 : Int).toNat * 8 + 1, none⟩ = false := hfr10 1; have hf10_2 : w11.frozen? ⟨go10, (x4_1 : Int).toNat * 8 + 2, none⟩ = false := hfr10 2; have hf10_3 : w11.frozen? ⟨go10, (x4_1 : Int).toNat * 8 + 3, none⟩ = false := hfr10 3; have hf10_4 : w11.frozen? ⟨go10, (x4_1 : Int).toNat * 8 + 4, none⟩ = false := hfr10 4; have hf10_5 : w11.frozen? ⟨go10, (x4_1 : Int).toNat * 8 + 5, none⟩ = false := hfr10 5; have hf10_6 : w11.frozen? ⟨go10, (x4_1 : Int).toNat * 8 + 6, none⟩ = false := hfr10 6; have hf10_7 : w11.frozen? ⟨go10, (x4_1 : Int).toNat * 8 + 7, none⟩ = false := hfr10 7; clear hcl10 hcc10 hfr10 hM10; replace p10 := eq_true p10; replace q10 := eq_true q10; obtain ⟨Ao12, co12, eo12⟩ := Kd.R_slice HO386.out; subst eo12; obtain ⟨Ao13, co13, eo13⟩ := Kd.R_slice HO383.out; subst eo13; obtain ⟨Ao14, co14, eo14⟩ := Kd.R_slice HO380.out; subst eo14; obtain ⟨Ao15, co15, eo15⟩ := Kd.R_slice HO377.out; subst eo15; obtain ⟨Ao16, co16, eo16⟩ := Kd.R_slice HO374.out; subst eo16; obtain ⟨Ao17, co17, eo17⟩ := Kd.R_slice HO370.out; subst eo17; have n_ := Aside0.mk (Kd.R_mono (ok' := (fun k_ => some k_ ≠ (.slice Ao17 t368.length co17 : Value).ownBlock ∧ some k_ ≠ (.slice Ao16 t372.length co16 : Value).ownBlock ∧ some k_ ≠ (.slice Ao15 t375.length co15 : Value).ownBlock ∧ some k_ ≠ (.slice Ao14 t378.length co14 : Value).ownBlock ∧ some k_ ≠ (.slice Ao13 t381.length co13 : Value).ownBlock ∧ some k_ ≠ (.slice Ao12 t384.length co12 : Value).ownBlock)) HO_3.out (fun k_ hk => ⟨hk.1.1.1.1.1.2, ⟨hk.1.1.1.1.2, ⟨hk.1.1.1.2, ⟨hk.1.1.2, ⟨hk.1.2, hk.2⟩⟩⟩⟩⟩)); clear HO_3; have HO_3 := n_; clear n_; have HX18 := Aside0.mk (show Kd.R k64 64 w11 w.heap.size (fun _ => True) (.slice (some ⟨go10, 0, none⟩) x3_1.length co10) x3_1 from (by (with_reducible repeat (first | apply Kd.R_alloc | apply Kd.R_drewN | apply Kd.R_drew)); exact Kd.R_mono HO_3.out (fun _ hk => trivial))); obtain ⟨ce18, hcl18, hM18, hcc18, hfr18⟩ := Kd.R_elem HX18.out z64 (x4_1 : Int) (of_decide_eq_true y4) (by have h_ : (x4_1 : Int) < ((x3_1.length : Int) : Int) := of_decide_eq_true y4; first | exact h_ | (have e_ := (Kd.R_reads' HO_3.out).1; omega) | simpa using h_); obtain ⟨ve18_1, ve18_3, ve18_4, ve18_5, ve18_6, ve18_7, rfl, ge18_1, ge18_3, ge18_4, ge18_5, ge18_6, ge18_7⟩ := k64_openM hM18; have HP18 := Kd.R_seg HX18.out (x4_1 : Int) (of_decide_eq_true y4) (by have h_ : (x4_1 : Int) < ((x3_1.length : Int) : Int) := of_decide_eq_true y4; first | exact h_ | (have e_ := (Kd.R_reads' HO_3.out).1; omega) | simpa using h_) (seg := [.int .i64 t367, .slice Ao17 t368.length co17, .string t371, .slice Ao16 t372.length co16, .slice Ao15 t375.length co15, .slice Ao14 t378.length co14, .slice Ao13 t381.length co13, .slice Ao12 t384.length co12]) (j := 0) hcl18 hcc18 (show 8 ≤ 8 from by decide) (x' := (⟨t367, t368, t371, t372, (⟨t375, t378⟩ : S43), (⟨t381, t384⟩ : S43)⟩ : S64)) (k64_mkM _ _ _ (⟨t367, t368, t371, t372, (⟨t375, t378⟩ : S43), (⟨t381, t384⟩ : S43)⟩ : S64) (Kd.R_mono (Kd.R_apart' (HO370.out) (Kd.R_typed HO_3.out) (by decide)) (fun k_ hk => ⟨trivial, fun e_ => (hk.2) (by rw [e_]; rfl)⟩)) (Kd.R_mono (Kd.R_apart' (HO374.out) (Kd.R_typed HO_3.out) (by decide)) (fun k_ hk => ⟨trivial, fun e_ => (hk.2) (by rw [e_]; rfl)⟩)) (Kd.R_mono (HO377.out) (fun k_ hk => ⟨trivial, fun e_ => (hk.2) (by rw [e_]; rfl)⟩)) (Kd.R_mono (Kd.R_apart' (HO380.out) (Kd.R_typed HO_3.out) (by decide)) (fun k_ hk => ⟨trivial, fun e_ => (hk.2) (by rw [e_]; rfl)⟩)) (Kd.R_mono (HO383.out) (fun k_ hk => ⟨trivial, fun e_ => (hk.2) (by rw [e_]; rfl)⟩)) (Kd.R_mono (Kd.R_apart' (HO386.out) (Kd.R_typed HO_3.out) (by decide)) (fun k_ hk => ⟨trivial, fun e_ => (hk.2) (by rw [e_]; rfl)⟩))) (fun _ hk => hk); have hx18_0 := hcc18 0 _ rfl; (try simp only [show (k64).sz = 8 from rfl, Nat.mul_one, Nat.add_zero] at hx18_0); have hf18_0 := hfr18 0; (try simp only [show (k64).sz = 8 from rfl, Nat.mul_one, Nat.add_zero] at hf18_0); have hx18_1 := hcc18 1 _ rfl; (try simp only [show (k64).sz = 8 from rfl, Nat.mul_one, Nat.add_zero] at hx18_1); have hf18_1 := hfr18 1; (try simp only [show (k64).sz = 8 from rfl, Nat.mul_one, Nat.add_zero] at hf18_1); have hx18_2 := hcc18 2 _ rfl; (try simp only [show (k64).sz = 8 from rfl, Nat.mul_one, Nat.add_zero] at hx18_2); have hf18_2 := hfr18 2; (try simp only [show (k64).sz = 8 from rfl, Nat.mul_one, Nat.add_zero] at hf18_2); have hx18_3 := hcc18 3 _ rfl; (try simp only [show (k64).sz = 8 from rfl, Nat.mul_one, Nat.add_zero] at hx18_3); have hf18_3 := hfr18 3; (try simp only [show (k64).sz = 8 from rfl, Nat.mul_one, Nat.add_zero] at hf18_3); have hx18_4 := hcc18 4 _ rfl; (try simp only [show (k64).sz = 8 from rfl, Nat.mul_one, Nat.add_zero] at hx18_4); have hf18_4 := hfr18 4; (try simp only [show (k64).sz = 8 from rfl, Nat.mul_one, Nat.add_zero] at hf18_4); have hx18_5 := hcc18 5 _ rfl; (try simp only [show (k64).sz = 8 from rfl, Nat.mul_one, Nat.add_zero] at hx18_5); have hf18_5 := hfr18 5; (try simp only [show (k64).sz = 8 from rfl, Nat.mul_one, Nat.add_zero] at hf18_5); have hx18_6 := hcc18 6 _ rfl; (try simp only [show (k64).sz = 8 from rfl, Nat.mul_one, Nat.add_zero] at hx18_6); have hf18_6 := hfr18 6; (try simp only [show (k64).sz = 8 from rfl, Nat.mul_one, Nat.add_zero] at hf18_6); have hx18_7 := hcc18 7 _ rfl; (try simp only [show (k64).sz = 8 from rfl, Nat.mul_one, Nat.add_zero] at hx18_7); have hf18_7 := hfr18 7; (try simp only [show (k64).sz = 8 from rfl, Nat.mul_one, Nat.add_zero] at hf18_7); clear hcl18 hcc18 hfr18 hM18) | ((with_reducible refine gate_store (t := 64) (p := 21) rfl ?_); refine store_event (t := 64) (p := 21) (v := ?vo_w19) (w1 := ((((((((w11.setCell ⟨go10, (x4_1 : Int).toNat * 8, none⟩ (.int .i64 t367)).setCell ⟨go10, (x4_1 : Int).toNat * 8 + 1, none⟩ (.slice Ao17 t368.length co17)).setCell ⟨go10, (x4_1 : Int).toNat * 8 + 2, none⟩ (.string t371)).setCell ⟨go10, (x4_1 : Int).toNat * 8 + 3, none⟩ (.slice Ao16 t372.length co16)).setCell ⟨go10, (x4_1 : Int).toNat * 8 + 4, none⟩ (.slice Ao15 t375.length co15)).setCell ⟨go10, (x4_1 : Int).toNat * 8 + 5, none⟩ (.slice Ao14 t378.length co14)).setCell ⟨go10, (x4_1 : Int).toNat * 8 + 6, none⟩ (.slice Ao13 t381.length co13)).setCell ⟨go10, (x4_1 : Int).toNat * 8 + 7, none⟩ (.slice Ao12 t384.length co12))) ?hg ?ho ?hn ?hr ?_; (case ho => rfl); (case hg => rfl); (case hn => rfl); (case hr => first | (go_simp; done) | (go_simp; rfl)); intro w19 hw; have hg : w11.grownBy w19 (some go10) := (by rw [hw]; exact HP18.2); have hp_ : Kd.R k64 64 w19 w.heap.size (fun _ => True) (.slice (some ⟨go10, 0, none⟩) x3_1.length co10) y387 := (by rw [hw, Ny387.out]; exact HP18.1); clear HP18; replace HO_3 := Aside0.mk (hp_); replace HB := Aside0.mk ((by rw [hw]; exact below_set (below_set (below_set (below_set (below_set (below_set (below_set (below_set (HB.out) GB10.out) GB10.out) GB10.out) GB10.out) GB10.out) GB10.out) GB10.out) GB10.out : Below w.heap.size w w19)); clear HO370 HO374 HO377 HO380 HO383 HO386; clear hg hw hp_))
        go_roundg k1
        case measure => have := HK1.out; omega
        case rel => exact ⟨(y387), (wrap64 (x4_1 + 1)), y7, H', ⟨(y30 HK1.out)⟩, ⟨(y11 HO_3.out)⟩, ⟨(y1 HB.out)⟩⟩
       ·rw [if_neg c9] at H
        exact absurd H (by simp)
      ·rw [if_neg c7] at H
       exact absurd H (by simp)
     ·rw [if_neg c6] at H
      have c6b0 : decide (x4_1 < (l0.length : Int)) = false := decide_eq_false c6
      clear c6
      obtain rfl := Option.some.inj H
      go_wp2
      go_ret
      exact ⟨_, y6, (y11 HO_3.out), (y1 HB.out)⟩
  ·rw [if_neg c3] at H
   exact absurd H (by simp)
 ·rw [if_neg c2] at H
  exact absurd H (by simp)
def laws_toBody.f (k : Nat) (l0_0 : List (S93)) (l0_1 : List (S96)) : Option ((List (S64)) × (List (S78))) := laws_toBody.F (laws_toBindS.f k) k l0_0 l0_1
theorem laws_toBody.mono : ∀ a0 a1 k, LeO (laws_toBody.f k a0 a1) (laws_toBody.f (k + 1) a0 a1) := fun a0 a1 k => laws_toBody.Fmono (fun y0 => laws_toBindS.mono y0 k) a0 a1 k
theorem laws_toBody.calls (k : Nat) (A0_0 : Option Addr) (c0_0 : Nat) (l0_0 : List (S93)) (A0_1 : Option Addr) (c0_1 : Nat) (l0_1 : List (S96)) (r1 : List (S64)) (r2 : List (S78)) (w : World) (hr0_0 : Kd.C k93 w A0_0 l0_0.length l0_0) (hc0_0 : l0_0.length ≤ c0_0) (hr0_1 : Kd.C k96 w A0_1 l0_1.length l0_1) (hc0_1 : l0_1.length ≤ c0_1) (h : laws_toBody.f k l0_0 l0_1 = some (r1, r2)) :
  Calls Try.prog 36 #[.agg #[.slice A0_0 l0_0.length c0_0, .slice A0_1 l0_1.length c0_1]] w fun e w' => ∃ v0_ v1_ : Value, e = .returned (.agg #[v0_, v1_]) ∧ Kd.R k64 64 w' w.heap.size (fun k_ => some k_ ≠ (v1_ : Value).ownBlock) v0_ r1 ∧ Kd.R k78 78 w' w.heap.size (fun _ => True) v1_ r2 ∧ Below w.heap.size w w' := laws_toBody.Fcalls (laws_toBindS.f k) (laws_toBindS.calls k) k A0_0 c0_0 l0_0 A0_1 c0_1 l0_1 r1 r2 w hr0_0 hc0_0 hr0_1 hc0_1 h
def laws_toBind.f (k : Nat) (a0_0 : Int) (l0_1 : List ByteArray) (a0_2 : ByteArray) (l0_3 : List (S96)) (l0_4 : List (S93)) (l0_5 : List (S96)) (l0_6 : List (S93)) (l0_7 : List (S96)) : Option (Int × List ByteArray × ByteArray × (List (S78)) × (List (S64)) × (List (S78)) × (List (S64)) × (List (S78))) := laws_toBind.F (laws_toBindS.f k) k a0_0 l0_1 a0_2 l0_3 l0_4 l0_5 l0_6 l0_7
theorem laws_toBind.mono : ∀ a0 a1 a2 a3 a4 a5 a6 a7 k, LeO (laws_toBind.f k a0 a1 a2 a3 a4 a5 a6 a7) (laws_toBind.f (k + 1) a0 a1 a2 a3 a4 a5 a6 a7) := fun a0 a1 a2 a3 a4 a5 a6 a7 k => laws_toBind.Fmono (fun y0 => laws_toBindS.mono y0 k) a0 a1 a2 a3 a4 a5 a6 a7 k
theorem laws_toBind.calls (k : Nat) (a0_0 : Int) (A0_1 : Option Addr) (c0_1 : Nat) (l0_1 : List ByteArray) (a0_2 : ByteArray) (A0_3 : Option Addr) (c0_3 : Nat) (l0_3 : List (S96)) (A0_4 : Option Addr) (c0_4 : Nat) (l0_4 : List (S93)) (A0_5 : Option Addr) (c0_5 : Nat) (l0_5 : List (S96)) (A0_6 : Option Addr) (c0_6 : Nat) (l0_6 : List (S93)) (A0_7 : Option Addr) (c0_7 : Nat) (l0_7 : List (S96)) (r1 : Int) (r2 : List ByteArray) (r3 : ByteArray) (r4 : List (S78)) (r5 : List (S64)) (r6 : List (S78)) (r7 : List (S64)) (r8 : List (S78)) (w : World) (hr0_1 : Kd.C Kd.string w A0_1 l0_1.length l0_1) (hc0_1 : l0_1.length ≤ c0_1) (hr0_3 : Kd.C k96 w A0_3 l0_3.length l0_3) (hc0_3 : l0_3.length ≤ c0_3) (hr0_4 : Kd.C k93 w A0_4 l0_4.length l0_4) (hc0_4 : l0_4.length ≤ c0_4) (hr0_5 : Kd.C k96 w A0_5 l0_5.length l0_5) (hc0_5 : l0_5.length ≤ c0_5) (hr0_6 : Kd.C k93 w A0_6 l0_6.length l0_6) (hc0_6 : l0_6.length ≤ c0_6) (hr0_7 : Kd.C k96 w A0_7 l0_7.length l0_7) (hc0_7 : l0_7.length ≤ c0_7) (h : laws_toBind.f k a0_0 l0_1 a0_2 l0_3 l0_4 l0_5 l0_6 l0_7 = some (r1, r2, r3, r4, r5, r6, r7, r8)) :
  Calls Try.prog 62 #[.agg #[.int .i64 a0_0, .slice A0_1 l0_1.length c0_1, .string a0_2, .slice A0_3 l0_3.length c0_3, .slice A0_4 l0_4.length c0_4, .slice A0_5 l0_5.length c0_5, .slice A0_6 l0_6.length c0_6, .slice A0_7 l0_7.length c0_7]] w fun e w' => ∃ v1_ v3_ v4_ v5_ v6_ v7_ : Value, e = .returned (.agg #[.int .i64 r1, v1_, .string r3, v3_, v4_, v5_, v6_, v7_]) ∧ Kd.R Kd.string 9 w' w.heap.size (fun _ => True) v1_ r2 ∧ Kd.R k78 78 w' w.heap.size (fun k_ => some k_ ≠ (v5_ : Value).ownBlock ∧ some k_ ≠ (v7_ : Value).ownBlock) v3_ r4 ∧ Kd.R k64 64 w' w.heap.size (fun k_ => some k_ ≠ (v1_ : Value).ownBlock ∧ some k_ ≠ (v3_ : Value).ownBlock ∧ some k_ ≠ (v5_ : Value).ownBlock ∧ some k_ ≠ (v6_ : Value).ownBlock ∧ some k_ ≠ (v7_ : Value).ownBlock) v4_ r5 ∧ Kd.R k78 78 w' w.heap.size (fun k_ => some k_ ≠ (v3_ : Value).ownBlock ∧ some k_ ≠ (v7_ : Value).ownBlock) v5_ r6 ∧ Kd.R k64 64 w' w.heap.size (fun k_ => some k_ ≠ (v1_ : Value).ownBlock ∧ some k_ ≠ (v3_ : Value).ownBlock ∧ some k_ ≠ (v4_ : Value).ownBlock ∧ some k_ ≠ (v5_ : Value).ownBlock ∧ some k_ ≠ (v7_ : Value).ownBlock) v6_ r7 ∧ Kd.R k78 78 w' w.heap.size (fun k_ => some k_ ≠ (v3_ : Value).ownBlock ∧ some k_ ≠ (v5_ : Value).ownBlock) v7_ r8 ∧ Below w.heap.size w w' := laws_toBind.Fcalls (laws_toBindS.f k) (laws_toBindS.calls k) k a0_0 A0_1 c0_1 l0_1 a0_2 A0_3 c0_3 l0_3 A0_4 c0_4 l0_4 A0_5 c0_5 l0_5 A0_6 c0_6 l0_6 A0_7 c0_7 l0_7 r1 r2 r3 r4 r5 r6 r7 r8 w hr0_1 hc0_1 hr0_3 hc0_3 hr0_4 hc0_4 hr0_5 hc0_5 hr0_6 hc0_6 hr0_7 hc0_7 h
end Go.Proofs.Ytdgpegkgelciaaa.PA
end
section
namespace Go.Proofs.Ytdgpegkgelciaaa.PA
open Go.RowKit Go.Proofs.YtdgpegkgelciaaaW.PrintWords Go.Proofs.YtdgpegkgelciaaaW.PrintLast Go.Proofs.YtdgpegkgelciaaaW.PrintMore
attribute [local go_sem] max2_int min2_int max_two min_two max_three min_three max_four min_four
set_option linter.unusedVariables false
set_option linter.unusedSimpArgs false
def laws_toPure.f (k : Nat) (a0_0 : ByteArray) (l0_1 : List ByteArray) (l0_2 : List (S93)) (l0_3 : List (S96)) : Option (ByteArray × List ByteArray × (List (S64)) × (List (S78))) := (laws_toStringS.f k l0_1).bind fun t391 => ((laws_toBody.f k l0_2 l0_3).bind fun bt394 => (some (a0_0, t391, bt394.1, bt394.2)))
theorem laws_toPure.mono : ∀ a0 a1 a2 a3 k, LeO (laws_toPure.f k a0 a1 a2 a3) (laws_toPure.f (k + 1) a0 a1 a2 a3) := by
 intro a0 a1 a2 a3 k
 unfold laws_toPure.f
 repeat' first
   | (with_reducible exact laws_toBody.mono _ _ _)
   | (with_reducible exact laws_toStringS.mono _ _)
   | (with_reducible exact LeO.refl _)
   | (with_reducible exact LeO.none _)
   | (with_reducible refine LeO.ite ?_ ?_)
   | (with_reducible refine LeO.bind ?_ (fun _ => ?_))
   | exact laws_toBody.mono _ _ _
   | exact laws_toStringS.mono _ _
   | exact LeO.none _
   | refine LeO.ite ?_ ?_
   | refine LeO.bind ?_ (fun _ => ?_)
set_option maxHeartbeats 8000000 in
set_option maxRecDepth 100000 in
theorem laws_toPure.calls (k : Nat) (a0_0 : ByteArray) (A0_1 : Option Addr) (c0_1 : Nat) (l0_1 : List ByteArray) (A0_2 : Option Addr) (c0_2 : Nat) (l0_2 : List (S93)) (A0_3 : Option Addr) (c0_3 : Nat) (l0_3 : List (S96)) (r1 : ByteArray) (r2 : List ByteArray) (r3 : List (S64)) (r4 : List (S78)) (w : World) (hr0_1 : Kd.C Kd.string w A0_1 l0_1.length l0_1) (hc0_1 : l0_1.length ≤ c0_1) (hr0_2 : Kd.C k93 w A0_2 l0_2.length l0_2) (hc0_2 : l0_2.length ≤ c0_2) (hr0_3 : Kd.C k96 w A0_3 l0_3.length l0_3) (hc0_3 : l0_3.length ≤ c0_3) (h : laws_toPure.f k a0_0 l0_1 l0_2 l0_3 = some (r1, r2, r3, r4)) :
  Calls Try.prog 20 #[.agg #[.string a0_0, .slice A0_1 l0_1.length c0_1, .slice A0_2 l0_2.length c0_2, .slice A0_3 l0_3.length c0_3]] w fun e w' => ∃ v1_ v2_ v3_ : Value, e = .returned (.agg #[.string r1, v1_, v2_, v3_]) ∧ Kd.R Kd.string 9 w' w.heap.size (fun _ => True) v1_ r2 ∧ Kd.R k64 64 w' w.heap.size (fun k_ => some k_ ≠ (v1_ : Value).ownBlock ∧ some k_ ≠ (v3_ : Value).ownBlock) v2_ r3 ∧ Kd.R k78 78 w' w.heap.size (fun _ => True) v3_ r4 ∧ Below w.heap.size w w' := by
 have hu37 := Try.underlying37
 have hu45 := Try.underlying45
 have hu35 := Try.underlying35
 have hu43 := Try.underlying43
 have HR0_1 := Aside0.mk hr0_1
 have HC0_1 := Aside0.mk hc0_1
 clear hr0_1 hc0_1
 have HR0_2 := Aside0.mk hr0_2
 have HC0_2 := Aside0.mk hc0_2
 clear hr0_2 hc0_2
 have HR0_3 := Aside0.mk hr0_3
 have HC0_3 := Aside0.mk hc0_3
 clear hr0_3 hc0_3
 have HB := Aside0.mk (Below.refl w.heap.size w)
 have H : ((laws_toStringS.f k l0_1).bind fun t391 => ((laws_toBody.f k l0_2 l0_3).bind fun bt394 => (some (a0_0, t391, bt394.1, bt394.2)))) = some (r1, r2, r3, r4) := h
 clear h
 obtain ⟨t391, A20, H⟩ := ob H
 have A2 := Aside0.mk A20
 clear A20
 obtain ⟨⟨t394, t397⟩, A30, H⟩ := ob H
 have A3 := Aside0.mk A30
 clear A30
 simp only [Option.some.injEq, Prod.mk.injEq] at H
 obtain ⟨rfl, rfl, rfl, rfl⟩ := H
 go_enter Try.func20, Try.ntmps20
 go_wp2_with (first | ((with_reducible refine gate_dst (N := 1) rfl ?_); refine zbx 1 #[.string a0_0, .slice A0_1 l0_1.length c0_1, .slice A0_2 l0_2.length c0_2, .slice A0_3 l0_3.length c0_3] 37 ?_; intro gb388 hg w4 hbox hb; have BK388 := Aside0.mk hbox; have GW388 := Aside0.mk ((y9 hg HB.out : w.heap.size ≤ gb388)); have GE388 := Aside0.mk ((y9 hg HB.out : w.heap.size ≤ gb388)); replace HB := Aside0.mk (below_step (y1 HB.out) hb); clear hb hbox hg) | ((with_reducible refine gate_dst (N := 2) rfl ?_); refine zbx 2 #[.string (⟨#[]⟩ : ByteArray), .slice none 0 0, .slice none 0 0, .slice none 0 0] 45 ?_; intro gb389 hg w5 hbox hb; have BK389 := Aside0.mk hbox; have GW389 := Aside0.mk ((y15 hg HB.out GE388.out : w.heap.size ≤ gb389)); have GE389 := Aside0.mk ((y15 hg HB.out GE388.out : w.heap.size ≤ gb389)); replace HB := Aside0.mk (below_step (y2 HB.out GE388.out) hb); have NB388_389 := zltn hg BK388; have NB389_388 := zgtn hg BK388; replace BK388 := zbb BK388 hb; clear hb hbox hg) | ((with_reducible refine gate_dst (N := 3) rfl ?_); refine zbx 3 #[.string (⟨#[]⟩ : ByteArray), .slice none 0 0, .slice none 0 0, .slice none 0 0] 45 ?_; intro gb390 hg w6 hbox hb; have BK390 := Aside0.mk hbox; have GW390 := Aside0.mk ((y21 hg HB.out GE388.out GE389.out : w.heap.size ≤ gb390)); have GE390 := Aside0.mk ((y21 hg HB.out GE388.out GE389.out : w.heap.size ≤ gb390)); replace HB := Aside0.mk (below_step (y5 HB.out GE388.out GE389.out) hb); have NB388_390 := zltn hg BK388; have NB390_388 := zgtn hg BK388; replace BK388 := zbb BK388 hb; have NB389_390 := zltn hg BK389; have NB390_389 := zgtn hg BK389; replace BK389 := zbb BK389 hb; clear hb hbox hg; have hnb7 := NB388_389.out; have hnc7 := NB389_388.out; have hnb8 := NB388_390.out; have hnc8 := NB390_388.out; have hcz9_0 := zh BK388; have hcz9_1 := zh1 BK388; have hcz9_2 := zh2 BK388; have hcz9_3 : w6.cell? ⟨gb388, 3, none⟩ = some (.slice A0_3 l0_3.length c0_3) := (blk_cell BK388.out 3).trans rfl; have hfz9_0 := zfr BK388 0; have hfz9_1 := zfr BK388 1; have hfz9_2 := zfr BK388 2; have hfz9_3 := zfr BK388 3; have hnb10 := NB390_389.out; have hnc10 := NB389_390.out; have hcz11_0 := zh BK390; have hcz11_1 := zh1 BK390; have hcz11_2 := zh2 BK390; have hcz11_3 : w6.cell? ⟨gb390, 3, none⟩ = some (.slice none 0 0) := (blk_cell BK390.out 3).trans rfl; have hfz11_0 := zfr BK390 0; have hfz11_1 := zfr BK390 1; have hfz11_2 := zfr BK390 2; have hfz11_3 := zfr BK390 3) | ((with_reducible refine gate_callee (f := 35) rfl ?_); refine goesL_ (some 9) rfl rfl Try.func35 (by kernel_rfl) rfl #[.slice A0_1 l0_1.length c0_1] rfl y3 ?_; (with_reducible refine (laws_toStringS.calls k _ _ l0_1 t391 _ ?side1 ?side2 A2.out).mono ?_); (case side1 => exact y17 HR0_1.out HB.out GE388.out GE389.out GE390.out); (case side2 => exact HC0_1.out); rintro e w12 ⟨v392, rfl, ho0, hb⟩; refine ⟨_, rfl, ?_⟩; have HO393 := Aside0.mk (Kd.R_lower ho0 (below_size (y10 HB.out GE388.out GE389.out GE390.out))); replace BK388 := zbf BK388 NB388_390 hb; replace BK389 := zbf BK389 NB389_390 hb; replace BK390 := Aside0.mk (blk_below (g := gb390) (o := .cells #[.string a0_0, .slice none 0 0, .slice none 0 0, .slice none 0 0] 45 (0, 0)) (by (with_reducible repeat (first | refine blk_drewN ?_ _ | refine blk_drew ?_ | refine blk_alloc ?_ _)); apply blk_put (i := 0); (case h => exact y8 BK390.out); (case e => rfl)) hb); replace HB := Aside0.mk (below_step (y10 HB.out GE388.out GE389.out GE390.out) hb); (try clear hb); (try clear hb2); (try clear hk); (try clear hi); (try clear ho0); obtain ⟨Ao13, co13, eo13⟩ := Kd.R_slice HO393.out; subst eo13; have hcz14_0 := zh BK390; have hcz14_1 := zh1 BK390; have hcz14_2 := zh2 BK390; have hcz14_3 : w12.cell? ⟨gb390, 3, none⟩ = some (.slice none 0 0) := (blk_cell BK390.out 3).trans rfl; have hfz14_0 := zfr BK390 0; have hfz14_1 := zfr BK390 1; have hfz14_2 := zfr BK390 2; have hfz14_3 := zfr BK390 3; have hcz15_0 := zh BK388; have hcz15_1 := zh1 BK388; have hcz15_2 := zh2 BK388; have hcz15_3 : w12.cell? ⟨gb388, 3, none⟩ = some (.slice A0_3 l0_3.length c0_3) := (blk_cell BK388.out 3).trans rfl; have hfz15_0 := zfr BK388 0; have hfz15_1 := zfr BK388 1; have hfz15_2 := zfr BK388 2; have hfz15_3 := zfr BK388 3) | ((with_reducible refine gate_callee (f := 36) rfl ?_); refine goesL_ (some 13) rfl rfl Try.func36 (by kernel_rfl) rfl #[.agg #[.slice A0_2 l0_2.length c0_2, .slice A0_3 l0_3.length c0_3]] rfl y3 ?_; (with_reducible refine (laws_toBody.calls k _ _ l0_2 _ _ l0_3 t394 t397 _ ?side1 ?side2 ?side3 ?side4 A3.out).mono ?_); (case side1 => exact y17 HR0_2.out HB.out GE388.out GE389.out GE390.out); (case side2 => exact HC0_2.out); (case side3 => exact y17 HR0_3.out HB.out GE388.out GE389.out GE390.out); (case side4 => exact HC0_3.out); rintro e w16 ⟨v395, v398, rfl, ho0, ho1, hb⟩; refine ⟨_, rfl, ?_⟩; have HO396 := Aside0.mk (Kd.R_lower (Kd.R_new' ho0 (Kd.R_lt (by (with_reducible repeat (first | apply Kd.R_alloc | apply Kd.R_drewN | apply Kd.R_drew)); exact (Kd.R_mono (Kd.R_far (p := ⟨gb390, 1, none⟩) (Kd.R_types HO393.out BK390.out (by decide)) (fun _ hk => hk.2) (.slice Ao13 t391.length co13)) (fun _ h_ => h_.1))))) (below_size (y10 HB.out GE388.out GE389.out GE390.out))); replace HO393 := Aside0.mk (Kd.R_below (by (with_reducible repeat (first | apply Kd.R_alloc | apply Kd.R_drewN | apply Kd.R_drew)); exact (Kd.R_mono (Kd.R_far (p := ⟨gb390, 1, none⟩) (Kd.R_types HO393.out BK390.out (by decide)) (fun _ hk => hk.2) (.slice Ao13 t391.length co13)) (fun _ h_ => h_.1))) hb); have HO399 := Aside0.mk (Kd.R_lower ho1 (below_size (y10 HB.out GE388.out GE389.out GE390.out))); replace BK388 := zbf BK388 NB388_390 hb; replace BK389 := zbf BK389 NB389_390 hb; replace BK390 := Aside0.mk (blk_below (g := gb390) (o := .cells #[.string a0_0, .slice Ao13 t391.length co13, .slice none 0 0, .slice none 0 0] 45 (0, 0)) (by (with_reducible repeat (first | refine blk_drewN ?_ _ | refine blk_drew ?_ | refine blk_alloc ?_ _)); apply blk_put (i := 1); (case h => exact y8 BK390.out); (case e => rfl)) hb); replace HB := Aside0.mk (below_step (y10 HB.out GE388.out GE389.out GE390.out) hb); (try clear hb); (try clear hb2); (try clear hk); (try clear hi); (try clear ho0); (try clear ho1); obtain ⟨Ao17, co17, eo17⟩ := Kd.R_slice HO396.out; subst eo17; have hcz18_0 := zh BK390; have hcz18_1 := zh1 BK390; have hcz18_2 := zh2 BK390; have hcz18_3 : w16.cell? ⟨gb390, 3, none⟩ = some (.slice none 0 0) := (blk_cell BK390.out 3).trans rfl; have hfz18_0 := zfr BK390 0; have hfz18_1 := zfr BK390 1; have hfz18_2 := zfr BK390 2; have hfz18_3 := zfr BK390 3; obtain ⟨Ao19, co19, eo19⟩ := Kd.R_slice HO399.out; subst eo19; have hcz20_0 := zh BK389; have hcz20_1 := zh1 BK389; have hcz20_2 := zh2 BK389; have hcz20_3 : w16.cell? ⟨gb389, 3, none⟩ = some (.slice none 0 0) := (blk_cell BK389.out 3).trans rfl; have hfz20_0 := zfr BK389 0; have hfz20_1 := zfr BK389 1; have hfz20_2 := zfr BK389 2; have hfz20_3 := zfr BK389 3))
 refine bodyPost_ret (results_cell_row rfl _ _ gb389 45 #[.string a0_0, .slice Ao13 t391.length co13, .slice Ao17 t394.length co17, .slice Ao19 t397.length co19] (0, 0) _ rfl (by (with_reducible repeat (first | refine blk_drewN ?_ _ | refine blk_drew ?_ | refine blk_alloc ?_ _)); refine blk_put (cs := #[.string a0_0, .slice Ao13 t391.length co13, .slice Ao17 t394.length co17, .slice none 0 0]) ?_ 3 _ rfl; (with_reducible repeat (first | refine blk_drewN ?_ _ | refine blk_drew ?_ | refine blk_alloc ?_ _)); refine blk_put (cs := #[.string a0_0, .slice Ao13 t391.length co13, .slice none 0 0, .slice none 0 0]) ?_ 2 _ rfl; (with_reducible repeat (first | refine blk_drewN ?_ _ | refine blk_drew ?_ | refine blk_alloc ?_ _)); refine blk_put (cs := #[.string a0_0, .slice none 0 0, .slice none 0 0, .slice none 0 0]) ?_ 1 _ rfl; (with_reducible repeat (first | refine blk_drewN ?_ _ | refine blk_drew ?_ | refine blk_alloc ?_ _)); refine blk_put (cs := #[.string (⟨#[]⟩ : ByteArray), .slice none 0 0, .slice none 0 0, .slice none 0 0]) ?_ 0 _ rfl; (with_reducible repeat (first | refine blk_drewN ?_ _ | refine blk_drew ?_ | refine blk_alloc ?_ _)); refine blk_far ?_ NB389_390.out _; (with_reducible repeat (first | refine blk_drewN ?_ _ | refine blk_drew ?_ | refine blk_alloc ?_ _)); refine blk_far ?_ NB389_390.out _; (with_reducible repeat (first | refine blk_drewN ?_ _ | refine blk_drew ?_ | refine blk_alloc ?_ _)); exact BK389.out) Try.underlying45 rfl (by kernel_rfl)) rfl ?_
 exact ⟨_, _, _, y6, (by (with_reducible repeat (first | apply Kd.R_alloc | apply Kd.R_drewN | apply Kd.R_drew)); exact Kd.R_mono (Kd.R_far (p := ⟨gb389, 3, none⟩) (Kd.R_far (p := ⟨gb389, 2, none⟩) (Kd.R_far (p := ⟨gb389, 1, none⟩) (Kd.R_far (p := ⟨gb389, 0, none⟩) (Kd.R_far (p := ⟨gb390, 3, none⟩) (Kd.R_far (p := ⟨gb390, 2, none⟩) (Kd.R_types (Kd.R_types HO393.out BK390.out (by decide)) BK389.out (by decide)) (fun _ hk => hk.1.2) (.slice Ao17 t394.length co17)) (fun _ hk => hk.1.2) (.slice Ao19 t397.length co19)) (fun _ hk => hk.2) (.string a0_0)) (fun _ hk => hk.2) (.slice Ao13 t391.length co13)) (fun _ hk => hk.2) (.slice Ao17 t394.length co17)) (fun _ hk => hk.2) (.slice Ao19 t397.length co19)) (fun _ hk => trivial)), (by (with_reducible repeat (first | apply Kd.R_alloc | apply Kd.R_drewN | apply Kd.R_drew)); exact Kd.R_mono (Kd.R_far (p := ⟨gb389, 3, none⟩) (Kd.R_far (p := ⟨gb389, 2, none⟩) (Kd.R_far (p := ⟨gb389, 1, none⟩) (Kd.R_far (p := ⟨gb389, 0, none⟩) (Kd.R_far (p := ⟨gb390, 3, none⟩) (Kd.R_far (p := ⟨gb390, 2, none⟩) (Kd.R_types (Kd.R_types HO396.out BK390.out (by decide)) BK389.out (by decide)) (fun _ hk => hk.1.2) (.slice Ao17 t394.length co17)) (fun _ hk => hk.1.2) (.slice Ao19 t397.length co19)) (fun _ hk => hk.2) (.string a0_0)) (fun _ hk => hk.2) (.slice Ao13 t391.length co13)) (fun _ hk => hk.2) (.slice Ao17 t394.length co17)) (fun _ hk => hk.2) (.slice Ao19 t397.length co19)) (fun _ hk => ⟨hk.1.1.2, hk.1.1.1⟩)), (by (with_reducible repeat (first | apply Kd.R_alloc | apply Kd.R_drewN | apply Kd.R_drew)); exact Kd.R_mono (Kd.R_far (p := ⟨gb389, 3, none⟩) (Kd.R_far (p := ⟨gb389, 2, none⟩) (Kd.R_far (p := ⟨gb389, 1, none⟩) (Kd.R_far (p := ⟨gb389, 0, none⟩) (Kd.R_far (p := ⟨gb390, 3, none⟩) (Kd.R_far (p := ⟨gb390, 2, none⟩) (Kd.R_types (Kd.R_types HO399.out BK390.out (by decide)) BK389.out (by decide)) (fun _ hk => hk.1.2) (.slice Ao17 t394.length co17)) (fun _ hk => hk.1.2) (.slice Ao19 t397.length co19)) (fun _ hk => hk.2) (.string a0_0)) (fun _ hk => hk.2) (.slice Ao13 t391.length co13)) (fun _ hk => hk.2) (.slice Ao17 t394.length co17)) (fun _ hk => hk.2) (.slice Ao19 t397.length co19)) (fun _ hk => trivial)), (y10 HB.out GE388.out GE389.out GE390.out)⟩
end Go.Proofs.Ytdgpegkgelciaaa.PA
end
section
namespace Go.Proofs.Ytdgpegkgelciaaa.PA
open Go.RowKit Go.Proofs.YtdgpegkgelciaaaW.PrintWords Go.Proofs.YtdgpegkgelciaaaW.PrintLast Go.Proofs.YtdgpegkgelciaaaW.PrintMore
attribute [local go_sem] max2_int min2_int max_two min_two max_three min_three max_four min_four
set_option linter.unusedVariables false
set_option linter.unusedSimpArgs false
def laws_toPureS.l0 : Nat → List (S37) → List (S45) → Int → Option ((List (S45)))
 | 0, _, _, _ => none
 | k + 1, x0, x3, x4 => if x4 < (x0.length : Int) then (if 0 ≤ x4 then ((laws_toPure.f k ((rd_T37 x0 x4).f0) ((rd_T37 x0 x4).f1) ((rd_T37 x0 x4).f2.f0) ((rd_T37 x0 x4).f2.f1)).bind fun bt404 => (if x4 < (x3.length : Int) then (laws_toPureS.l0 k x0 (x3.set (x4 : Int).toNat (⟨bt404.1, bt404.2.1, (⟨bt404.2.2.1, bt404.2.2.2⟩ : S43)⟩ : S45)) (wrap64 (x4 + 1))) else (none))) else (none)) else (some x3)
def laws_toPureS.f (k : Nat) (l0 : List (S37)) : Option ((List (S45))) := if 0 ≤ (l0.length : Int) then (if ((l0.length : Int) : Int).toNat ≤ 3198579280802 then (laws_toPureS.l0 k l0 (List.replicate ((l0.length : Int) : Int).toNat z45) 0) else (none)) else (none)
theorem laws_toPureS.mono_l : ∀ k, (∀ y0 y1 y2, LeO (laws_toPureS.l0 k y0 y1 y2) (laws_toPureS.l0 (k + 1) y0 y1 y2))
 | 0 => fun _ _ _ r h => by simp [laws_toPureS.l0] at h
 | k + 1 => by
  have ih0 := laws_toPureS.mono_l k
  ·intro y0 y1 y2
   unfold laws_toPureS.l0
   repeat' first
   | (with_reducible exact ih0 _ _ _)
   | (with_reducible exact laws_toPure.mono _ _ _ _ _)
   | (with_reducible exact LeO.refl _)
   | (with_reducible exact LeO.none _)
   | (with_reducible refine LeO.ite ?_ ?_)
   | (with_reducible refine LeO.bind ?_ (fun _ => ?_))
   | exact ih0 _ _ _
   | exact laws_toPure.mono _ _ _ _ _
   | exact LeO.none _
   | refine LeO.ite ?_ ?_
   | refine LeO.bind ?_ (fun _ => ?_)
theorem laws_toPureS.mono : ∀ a0 k, LeO (laws_toPureS.f k a0) (laws_toPureS.f (k + 1) a0) := by
 intro a0 k
 have ih0 := laws_toPureS.mono_l k
 unfold laws_toPureS.f
 repeat' first
   | (with_reducible exact ih0 _ _ _)
   | (with_reducible exact laws_toPure.mono _ _ _ _ _)
   | (with_reducible exact LeO.refl _)
   | (with_reducible exact LeO.none _)
   | (with_reducible refine LeO.ite ?_ ?_)
   | (with_reducible refine LeO.bind ?_ (fun _ => ?_))
   | exact ih0 _ _ _
   | exact laws_toPure.mono _ _ _ _ _
   | exact LeO.none _
   | refine LeO.ite ?_ ?_
   | refine LeO.bind ?_ (fun _ => ?_)
set_option maxHeartbeats 8000000 in
set_option maxRecDepth 100000 in
theorem laws_toPureS.calls (k : Nat) (A0 : Option Addr) (c0 : Nat) (l0 : List (S37)) (r : List (S45)) (w : World) (hr0 : Kd.C k37 w A0 l0.length l0) (hc0 : l0.length ≤ c0) (h : laws_toPureS.f k l0 = some r) :
  Calls Try.prog 8 #[.slice A0 l0.length c0] w fun e w' => ∃ v0_ : Value, e = .returned (v0_) ∧ Kd.R k45 45 w' w.heap.size (fun _ => True) v0_ r ∧ Below w.heap.size w w' := by
 have hu37 := Try.underlying37
 have hu45 := Try.underlying45
 have HR0 := Aside0.mk hr0
 have HC0 := Aside0.mk hc0
 clear hr0 hc0
 have HB := Aside0.mk (Below.refl w.heap.size w)
 have H : (if 0 ≤ (l0.length : Int) then (if ((l0.length : Int) : Int).toNat ≤ 3198579280802 then (laws_toPureS.l0 k l0 (List.replicate ((l0.length : Int) : Int).toNat z45) 0) else (none)) else (none)) = some r := h
 clear h
 by_cases c2 : 0 ≤ (l0.length : Int)
 ·rw [if_pos c2] at H
  have c2b0 := eq_true c2
  have c2b1 : decide (0 ≤ (l0.length : Int)) = true := decide_eq_true c2
  clear c2
  by_cases c3 : ((l0.length : Int) : Int).toNat ≤ 3198579280802
  ·rw [if_pos c3] at H
   have c3b0 := eq_true c3
   have c3b1 : decide (((l0.length : Int) : Int).toNat ≤ 3198579280802) = true := decide_eq_true c3
   clear c3
   obtain ⟨y400, hy400⟩ : ∃ y_ : List (S45), y_ = (List.replicate ((l0.length : Int) : Int).toNat z45) := ⟨_, rfl⟩
   replace H : (laws_toPureS.l0 k l0 y400 0) = some r := by first | (rw [hy400]; with_reducible exact H) | (have H2_ := (Option.bind_some _ _).symm.trans H; rw [hy400]; with_reducible exact H2_) | (have H2_ := (Option.bind_some _ _).symm.trans H; with_reducible exact H2_) | with_reducible exact H | (rw [hy400]; exact H) | exact H
   have Ny400 := Aside0.mk hy400
   clear hy400
   have H' := Aside0.mk H
   clear H
   go_enter Try.func8, Try.ntmps8
   go_wp2_with (first | ((with_reducible refine gate_dst (N := 7) rfl ?_); refine Kd.R_make k45 _ 45 rfl (N := 7) rfl 25 _ _ rfl (l0.length : Int) rfl rfl Try.underlying25 (.agg #[(.string ⟨#[]⟩), (.slice none 0 0), (.slice none 0 0), (.slice none 0 0)]) 88 info45 rfl (by decide) (by omega) z45 (ok := fun _ => True) (okp := fun _ => True) (k45_mkM _ _ _ z45 (Kd.R_nil _ _ _ _ _) (Kd.R_nil _ _ _ _ _) (Kd.R_nil _ _ _ _ _)) (fun _ hk => hk) trivial (of_decide_eq_true y4) (Nat.le_trans (Nat.mul_le_mul_right _ (of_decide_eq_true y4 : (l0.length : Int).toNat ≤ 3198579280802)) (by omega)) (Below.refl _ _) (Nat.le_refl _) ?_; intro v401 w4 ho5 hb hg_ hnew_; clear hg_ hnew_; (first | rw [← Ny400.out] at ho5 | (simp only [Int.reduceToNat] at ho5; rw [← Ny400.out] at ho5)); have HO402 := Aside0.mk (Kd.R_lower ho5 (below_size (y1 HB.out))); replace HB := Aside0.mk (below_step (y1 HB.out) hb); clear hb ho5))
   go_loopg [4] k (fun kq v4 w' => ∃ (x3_1 : List (S45)) (x4_1 : Int), v4 = .int .i64 x4_1 ∧ Aside0 (laws_toPureS.l0 kq l0 x3_1 x4_1 = some r) ∧ Aside0 (kq ≤ k) ∧ Aside0 (Kd.R k45 45 w' w.heap.size (fun _ => True) v401 x3_1) ∧ Aside0 (Below w.heap.size w w'))
   case atStart => exact ⟨(y400), (0), y7, H', ⟨Nat.le_refl _⟩, ⟨(y11 HO402.out)⟩, ⟨(y1 HB.out)⟩⟩
   case round =>
    clear H'
    try clear c2
    try clear c2b0
    try clear c2b1
    try clear p2
    try clear c3
    try clear c3b0
    try clear c3b1
    obtain ⟨x3_1, x4_1, rfl, HA, HK1, HO_3, HB⟩ := hrel
    cases gk with
    | zero => exact absurd HA.out (by simp [laws_toPureS.l0])
    | succ k1 =>
     have H := HA.out
     clear HA
     simp only [laws_toPureS.l0] at H
     by_cases c6 : x4_1 < (l0.length : Int)
     ·rw [if_pos c6] at H
      have c6b0 : decide (x4_1 < (l0.length : Int)) = true := decide_eq_true c6
      clear c6
      by_cases c7 : 0 ≤ x4_1
      ·rw [if_pos c7] at H
       have c7b0 : decide (0 ≤ x4_1) = true := decide_eq_true c7
       clear c7
       obtain ⟨⟨t404, t405, t408, t411⟩, A80, H⟩ := ob H
       have A8 := Aside0.mk A80
       clear A80
       by_cases c9 : x4_1 < (x3_1.length : Int)
       ·rw [if_pos c9] at H
        have c9b0 : decide (x4_1 < (x3_1.length : Int)) = true := decide_eq_true c9
        clear c9
        obtain ⟨y414, hy414⟩ : ∃ y_ : List (S45), y_ = (x3_1.set (x4_1 : Int).toNat (⟨t404, t405, (⟨t408, t411⟩ : S43)⟩ : S45)) := ⟨_, rfl⟩
        replace H : (laws_toPureS.l0 k1 l0 y414 (wrap64 (x4_1 + 1))) = some r := by first | (rw [hy414]; with_reducible exact H) | (have H2_ := (Option.bind_some _ _).symm.trans H; rw [hy414]; with_reducible exact H2_) | (have H2_ := (Option.bind_some _ _).symm.trans H; with_reducible exact H2_) | with_reducible exact H | (rw [hy414]; exact H) | exact H
        have Ny414 := Aside0.mk hy414
        clear hy414
        have H' := Aside0.mk H
        clear H
        have p403 : 0 ≤ (x4_1 : Int) := of_decide_eq_true y4
        have q403 : x4_1 < (l0.length : Int) := of_decide_eq_true y4
        obtain ⟨ad403, A403_1, c403_1, A403_2, c403_2, A403_3, c403_3, e403, hx403_0, hx403_1, hx403_2, hx403_3, hl403_1, hi403_1, hl403_2, hi403_2, hl403_3, hi403_3⟩ := at_T37 HR0.out x4_1 p403 q403
        cases e403
        replace hx403_0 := (HB.out.cell (World.block_lt_of_cell? w _ hx403_0)).trans hx403_0
        replace hx403_1 := (HB.out.cell (World.block_lt_of_cell? w _ hx403_1)).trans hx403_1
        replace hx403_2 := (HB.out.cell (World.block_lt_of_cell? w _ hx403_2)).trans hx403_2
        replace hx403_3 := (HB.out.cell (World.block_lt_of_cell? w _ hx403_3)).trans hx403_3
        have HR403_1 := Aside0.mk hi403_1
        have HC403_1 := Aside0.mk hl403_1
        clear hi403_1 hl403_1
        have HR403_2 := Aside0.mk hi403_2
        have HC403_2 := Aside0.mk hl403_2
        clear hi403_2 hl403_2
        have HR403_3 := Aside0.mk hi403_3
        have HC403_3 := Aside0.mk hl403_3
        clear hi403_3 hl403_3
        replace p403 := eq_true p403
        replace q403 := eq_true q403
        go_wp2_with (first | ((with_reducible refine gate_callee (f := 20) rfl ?_); refine goesL_ (some 20) rfl rfl Try.func20 (by kernel_rfl) rfl #[.agg #[.string ((rd_T37 l0 x4_1).f0), .slice A403_1 ((rd_T37 l0 x4_1).f1).length c403_1, .slice A403_2 ((rd_T37 l0 x4_1).f2.f0).length c403_2, .slice A403_3 ((rd_T37 l0 x4_1).f2.f1).length c403_3]] rfl y3 ?_; (with_reducible refine (laws_toPure.calls k1 ((rd_T37 l0 x4_1).f0) _ _ ((rd_T37 l0 x4_1).f1) _ _ ((rd_T37 l0 x4_1).f2.f0) _ _ ((rd_T37 l0 x4_1).f2.f1) t404 t405 t408 t411 _ ?side1 ?side2 ?side3 ?side4 ?side5 ?side6 A8.out).mono ?_); (case side1 => exact y0 HR403_1.out HB.out); (case side2 => exact HC403_1.out); (case side3 => exact y0 HR403_2.out HB.out); (case side4 => exact HC403_2.out); (case side5 => exact y0 HR403_3.out HB.out); (case side6 => exact HC403_3.out); rintro e w11 ⟨v406, v409, v412, rfl, ho0, ho1, ho2, hb⟩; refine ⟨_, rfl, ?_⟩; replace HO_3 := Aside0.mk (Kd.R_mono (Kd.R_told (Kd.R_told (Kd.R_told (Kd.R_old (y11 HO_3.out) hb) (Kd.R_base ho0)) (Kd.R_base ho1)) (Kd.R_base ho2)) (fun _ h_ => h_.1)); have HO407 := Aside0.mk (Kd.R_lower ho0 (below_size (y1 HB.out))); have HO410 := Aside0.mk (Kd.R_lower ho1 (below_size (y1 HB.out))); have HO413 := Aside0.mk (Kd.R_lower ho2 (below_size (y1 HB.out))); replace HB := Aside0.mk (below_step (y1 HB.out) hb); (try clear hb); (try clear hb2); (try clear hk); (try clear hi); (try clear ho0); (try clear ho1); (try clear ho2); have p10 : 0 ≤ (x4_1 : Int) := of_decide_eq_true y4; have q10 : (x4_1 : Int) < ((x3_1.length : Int) : Int) := of_decide_eq_true y4; obtain ⟨go10, co10, eo10, gb10, gl10, cl10, HG10⟩ := Kd.R_form HO_3.out (by omega); (first | cases eo10 | (injection eo10 with ea_ en_ ec_; (first | subst ea_ | (injection ea_ with ea_; subst ea_)); subst ec_; clear en_)); have GB10 := Aside0.mk gb10; have GG10 := Aside0.mk HG10; clear gb10 gl10 HG10; obtain ⟨ce10, hcl10, hM10, hcc10, hfr10⟩ := Kd.R_elem HO_3.out z45 (x4_1 : Int) p10 q10; obtain ⟨ve10_1, ve10_2, ve10_3, rfl, ge10_1, ge10_2, ge10_3⟩ := k45_openM hM10; have hx10_0 : w11.cell? ⟨go10, (x4_1 : Int).toNat * 4, none⟩ = some (.string ((rd_T45 x3_1 x4_1).f0)) := hcc10 0 _ rfl; have hx10_1 : w11.cell? ⟨go10, (x4_1 : Int).toNat * 4 + 1, none⟩ = some (ve10_1) := hcc10 1 _ rfl; have hx10_2 : w11.cell? ⟨go10, (x4_1 : Int).toNat * 4 + 2, none⟩ = some (ve10_2) := hcc10 2 _ rfl; have hx10_3 : w11.cell? ⟨go10, (x4_1 : Int).toNat * 4 + 3, none⟩ = some (ve10_3) := hcc10 3 _ rfl; have hf10_0 : w11.frozen? ⟨go10, (x4_1 : Int).toNat * 4, none⟩ = false := hfr10 0; have hf10_1 : w11.frozen? ⟨go10, (x4_1 : Int).toNat * 4 + 1, none⟩ = false := hfr10 1; have hf10_2 : w11.frozen? ⟨go10, (x4_1 : Int).toNat * 4 + 2, none⟩ = false := hfr10 2; have hf10_3 : w11.frozen? ⟨go10, (x4_1 : Int).toNat * 4 + 3, none⟩ = false := hfr10 3; clear hcl10 hcc10 hfr10 hM10; replace p10 := eq_true p10; replace q10 := eq_true q10; obtain ⟨Ao12, co12, eo12⟩ := Kd.R_slice HO413.out; subst eo12; obtain ⟨Ao13, co13, eo13⟩ := Kd.R_slice HO410.out; subst eo13; obtain ⟨Ao14, co14, eo14⟩ := Kd.R_slice HO407.out; subst eo14; have n_ := Aside0.mk (Kd.R_mono (ok' := (fun k_ => some k_ ≠ (.slice Ao14 t405.length co14 : Value).ownBlock ∧ some k_ ≠ (.slice Ao13 t408.length co13 : Value).ownBlock ∧ some k_ ≠ (.slice Ao12 t411.length co12 : Value).ownBlock)) HO_3.out (fun k_ hk => ⟨hk.1.1.2, ⟨hk.1.2, hk.2⟩⟩)); clear HO_3; have HO_3 := n_; clear n_; have HX15 := Aside0.mk (show Kd.R k45 45 w11 w.heap.size (fun _ => True) (.slice (some ⟨go10, 0, none⟩) x3_1.length co10) x3_1 from (by (with_reducible repeat (first | apply Kd.R_alloc | apply Kd.R_drewN | apply Kd.R_drew)); exact Kd.R_mono HO_3.out (fun _ hk => trivial))); obtain ⟨ce15, hcl15, hM15, hcc15, hfr15⟩ := Kd.R_elem HX15.out z45 (x4_1 : Int) (of_decide_eq_true y4) (by have h_ : (x4_1 : Int) < ((x3_1.length : Int) : Int) := of_decide_eq_true y4; first | exact h_ | (have e_ := (Kd.R_reads' HO_3.out).1; omega) | simpa using h_); obtain ⟨ve15_1, ve15_2, ve15_3, rfl, ge15_1, ge15_2, ge15_3⟩ := k45_openM hM15; have HP15 := Kd.R_seg HX15.out (x4_1 : Int) (of_decide_eq_true y4) (by have h_ : (x4_1 : Int) < ((x3_1.length : Int) : Int) := of_decide_eq_true y4; first | exact h_ | (have e_ := (Kd.R_reads' HO_3.out).1; omega) | simpa using h_) (seg := [.string t404, .slice Ao14 t405.length co14, .slice Ao13 t408.length co13, .slice Ao12 t411.length co12]) (j := 0) hcl15 hcc15 (show 4 ≤ 4 from by decide) (x' := (⟨t404, t405, (⟨t408, t411⟩ : S43)⟩ : S45)) (k45_mkM _ _ _ (⟨t404, t405, (⟨t408, t411⟩ : S43)⟩ : S45) (Kd.R_mono (Kd.R_apart' (HO407.out) (Kd.R_typed HO_3.out) (by decide)) (fun k_ hk => ⟨trivial, fun e_ => (hk.2) (by rw [e_]; rfl)⟩)) (Kd.R_mono (Kd.R_apart' (HO410.out) (Kd.R_typed HO_3.out) (by decide)) (fun k_ hk => ⟨trivial, fun e_ => (hk.2) (by rw [e_]; rfl)⟩)) (Kd.R_mono (Kd.R_apart' (HO413.out) (Kd.R_typed HO_3.out) (by decide)) (fun k_ hk => ⟨trivial, fun e_ => (hk.2) (by rw [e_]; rfl)⟩))) (fun _ hk => hk); have hx15_0 := hcc15 0 _ rfl; (try simp only [show (k45).sz = 4 from rfl, Nat.mul_one, Nat.add_zero] at hx15_0); have hf15_0 := hfr15 0; (try simp only [show (k45).sz = 4 from rfl, Nat.mul_one, Nat.add_zero] at hf15_0); have hx15_1 := hcc15 1 _ rfl; (try simp only [show (k45).sz = 4 from rfl, Nat.mul_one, Nat.add_zero] at hx15_1); have hf15_1 := hfr15 1; (try simp only [show (k45).sz = 4 from rfl, Nat.mul_one, Nat.add_zero] at hf15_1); have hx15_2 := hcc15 2 _ rfl; (try simp only [show (k45).sz = 4 from rfl, Nat.mul_one, Nat.add_zero] at hx15_2); have hf15_2 := hfr15 2; (try simp only [show (k45).sz = 4 from rfl, Nat.mul_one, Nat.add_zero] at hf15_2); have hx15_3 := hcc15 3 _ rfl; (try simp only [show (k45).sz = 4 from rfl, Nat.mul_one, Nat.add_zero] at hx15_3); have hf15_3 := hfr15 3; (try simp only [show (k45).sz = 4 from rfl, Nat.mul_one, Nat.add_zero] at hf15_3); clear hcl15 hcc15 hfr15 hM15) | ((with_reducible refine gate_store (t := 45) (p := 21) rfl ?_); refine store_event (t := 45) (p := 21) (v := ?vo_w16) (w1 := ((((w11.setCell ⟨go10, (x4_1 : Int).toNat * 4, none⟩ (.string t404)).setCell ⟨go10, (x4_1 : Int).toNat * 4 + 1, none⟩ (.slice Ao14 t405.length co14)).setCell ⟨go10, (x4_1 : Int).toNat * 4 + 2, none⟩ (.slice Ao13 t408.length co13)).setCell ⟨go10, (x4_1 : Int).toNat * 4 + 3, none⟩ (.slice Ao12 t411.length co12))) ?hg ?ho ?hn ?hr ?_; (case ho => rfl); (case hg => rfl); (case hn => rfl); (case hr => first | (go_simp; done) | (go_simp; rfl)); intro w16 hw; have hg : w11.grownBy w16 (some go10) := (by rw [hw]; exact HP15.2); have hp_ : Kd.R k45 45 w16 w.heap.size (fun _ => True) (.slice (some ⟨go10, 0, none⟩) x3_1.length co10) y414 := (by rw [hw, Ny414.out]; exact HP15.1); clear HP15; replace HO_3 := Aside0.mk (hp_); replace HB := Aside0.mk ((by rw [hw]; exact below_set (below_set (below_set (below_set (HB.out) GB10.out) GB10.out) GB10.out) GB10.out : Below w.heap.size w w16)); clear HO407 HO410 HO413; clear hg hw hp_))
        go_roundg k1
        case measure => have := HK1.out; omega
        case rel => exact ⟨(y414), (wrap64 (x4_1 + 1)), y7, H', ⟨(y30 HK1.out)⟩, ⟨(y11 HO_3.out)⟩, ⟨(y1 HB.out)⟩⟩
       ·rw [if_neg c9] at H
        exact absurd H (by simp)
      ·rw [if_neg c7] at H
       exact absurd H (by simp)
     ·rw [if_neg c6] at H
      have c6b0 : decide (x4_1 < (l0.length : Int)) = false := decide_eq_false c6
      clear c6
      obtain rfl := Option.some.inj H
      go_wp2
      go_ret
      exact ⟨_, y6, (y11 HO_3.out), (y1 HB.out)⟩
  ·rw [if_neg c3] at H
   exact absurd H (by simp)
 ·rw [if_neg c2] at H
  exact absurd H (by simp)
end Go.Proofs.Ytdgpegkgelciaaa.PA
end
section
namespace Go.Proofs.Ytdgpegkgelciaaa.PA
open Go.RowKit Go.Proofs.YtdgpegkgelciaaaW.PrintWords Go.Proofs.YtdgpegkgelciaaaW.PrintLast Go.Proofs.YtdgpegkgelciaaaW.PrintMore
attribute [local go_sem] max2_int min2_int max_two min_two max_three min_three max_four min_four
set_option linter.unusedVariables false
set_option linter.unusedSimpArgs false
def laws_eqStringS.l0 : Nat → List ByteArray → List ByteArray → Int → Option (Bool)
 | 0, _, _, _ => none
 | k + 1, x0, x1, x5 => if x5 < (x0.length : Int) then (if 0 ≤ x5 then (if x5 < (x1.length : Int) then (if (rdOf ByteArray.empty x0 x5).toList = (rdOf ByteArray.empty x1 x5).toList then (laws_eqStringS.l0 k x0 x1 (wrap64 (x5 + 1))) else (some false)) else (none)) else (none)) else (some true)
def laws_eqStringS.f (k : Nat) (l0 : List ByteArray) (l1 : List ByteArray) : Option (Bool) := if (l0.length : Int) = (l1.length : Int) then (laws_eqStringS.l0 k l0 l1 0) else (some false)
theorem laws_eqStringS.mono_l : ∀ k, (∀ y0 y1 y2, LeO (laws_eqStringS.l0 k y0 y1 y2) (laws_eqStringS.l0 (k + 1) y0 y1 y2))
 | 0 => fun _ _ _ r h => by simp [laws_eqStringS.l0] at h
 | k + 1 => by
  have ih0 := laws_eqStringS.mono_l k
  ·intro y0 y1 y2
   unfold laws_eqStringS.l0
   repeat' first
   | (with_reducible exact ih0 _ _ _)
   | (with_reducible exact LeO.refl _)
   | (with_reducible exact LeO.none _)
   | (with_reducible refine LeO.ite ?_ ?_)
   | (with_reducible refine LeO.bind ?_ (fun _ => ?_))
   | exact ih0 _ _ _
   | exact LeO.none _
   | refine LeO.ite ?_ ?_
   | refine LeO.bind ?_ (fun _ => ?_)
theorem laws_eqStringS.mono : ∀ a0 a1 k, LeO (laws_eqStringS.f k a0 a1) (laws_eqStringS.f (k + 1) a0 a1) := by
 intro a0 a1 k
 have ih0 := laws_eqStringS.mono_l k
 unfold laws_eqStringS.f
 repeat' first
   | (with_reducible exact ih0 _ _ _)
   | (with_reducible exact LeO.refl _)
   | (with_reducible exact LeO.none _)
   | (with_reducible refine LeO.ite ?_ ?_)
   | (with_reducible refine LeO.bind ?_ (fun _ => ?_))
   | exact ih0 _ _ _
   | exact LeO.none _
   | refine LeO.ite ?_ ?_
   | refine LeO.bind ?_ (fun _ => ?_)
set_option maxHeartbeats 8000000 in
set_option maxRecDepth 100000 in
theorem laws_eqStringS.calls (k : Nat) (A0 : Option Addr) (c0 : Nat) (l0 : List ByteArray) (A1 : Option Addr) (c1 : Nat) (l1 : List ByteArray) (r : Bool) (w : World) (hr0 : Kd.C Kd.string w A0 l0.length l0) (hc0 : l0.length ≤ c0) (hr1 : Kd.C Kd.string w A1 l1.length l1) (hc1 : l1.length ≤ c1) (h : laws_eqStringS.f k l0 l1 = some r) :
  Calls Try.prog 43 #[.slice A0 l0.length c0, .slice A1 l1.length c1] w fun e w' => e = .returned (.bool r) ∧ Drawn0 w w' := by
 have HR0 := Aside0.mk hr0
 have HC0 := Aside0.mk hc0
 clear hr0 hc0
 have HR1 := Aside0.mk hr1
 have HC1 := Aside0.mk hc1
 clear hr1 hc1
 have H : (if (l0.length : Int) = (l1.length : Int) then (laws_eqStringS.l0 k l0 l1 0) else (some false)) = some r := h
 clear h
 by_cases c3 : (l0.length : Int) = (l1.length : Int)
 ·rw [if_pos c3] at H
  have c3b0 : ((l0.length : Int) == (l1.length : Int)) = true := beq_iff_eq.mpr c3
  have c3b1 : ((l0.length : Int) != (l1.length : Int)) = false := bne_eq_false_iff_eq.mpr c3
  have c3b2 : (l0.length == l1.length) = true := by first | simpa using c3 | (simp at c3 ⊢; omega)
  clear c3
  have H' := Aside0.mk H
  clear H
  go_enter Try.func43, Try.ntmps43
  go_wp2
  repeat (go_quiet (fail); try go_wp2)
  go_loopg [5] k (fun kq v5 w' => ∃ (x5_1 : Int), v5 = .int .i64 x5_1 ∧ Aside0 (laws_eqStringS.l0 kq l0 l1 x5_1 = some r) ∧ Aside0 (kq ≤ k) ∧ Drawn0 w w')
  case atStart => exact ⟨(0), y7, H', ⟨Nat.le_refl _⟩, y12⟩
  case round =>
   clear H'
   try clear c1
   try clear p2
   try clear c3
   try clear c3b0
   try clear c3b1
   try clear c3b2
   obtain ⟨x5_1, rfl, HA, HK1, ⟨m1, rfl⟩⟩ := hrel
   cases gk with
   | zero => exact absurd HA.out (by simp [laws_eqStringS.l0])
   | succ k1 =>
    have H := HA.out
    clear HA
    simp only [laws_eqStringS.l0] at H
    by_cases c4 : x5_1 < (l0.length : Int)
    ·rw [if_pos c4] at H
     have c4b0 : decide (x5_1 < (l0.length : Int)) = true := decide_eq_true c4
     clear c4
     by_cases c5 : 0 ≤ x5_1
     ·rw [if_pos c5] at H
      have c5b0 : decide (0 ≤ x5_1) = true := decide_eq_true c5
      clear c5
      by_cases c6 : x5_1 < (l1.length : Int)
      ·rw [if_pos c6] at H
       have c6b0 : decide (x5_1 < (l1.length : Int)) = true := decide_eq_true c6
       clear c6
       by_cases c7 : (rdOf ByteArray.empty l0 x5_1).toList = (rdOf ByteArray.empty l1 x5_1).toList
       ·rw [if_pos c7] at H
        have c7b0 : ((rdOf ByteArray.empty l0 x5_1).toList == (rdOf ByteArray.empty l1 x5_1).toList) = true := beq_iff_eq.mpr c7
        have c7b1 : ((rdOf ByteArray.empty l0 x5_1).toList != (rdOf ByteArray.empty l1 x5_1).toList) = false := bne_eq_false_iff_eq.mpr c7
        clear c7
        have H' := Aside0.mk H
        clear H
        have p449 : 0 ≤ (x5_1 : Int) := of_decide_eq_true y4
        have q449 : x5_1 < (l0.length : Int) := of_decide_eq_true y4
        obtain ⟨ad449, e449, hx449_0⟩ := Kd.at_string HR0.out x5_1 p449 q449
        cases e449
        replace p449 := eq_true p449
        replace q449 := eq_true q449
        have p450 : 0 ≤ (x5_1 : Int) := of_decide_eq_true y4
        have q450 : x5_1 < (l1.length : Int) := of_decide_eq_true y4
        obtain ⟨ad450, e450, hx450_0⟩ := Kd.at_string HR1.out x5_1 p450 q450
        cases e450
        replace p450 := eq_true p450
        replace q450 := eq_true q450
        go_wp2
        repeat (go_quiet (fail); try go_wp2)
        go_roundg k1
        case measure => have := HK1.out; omega
        case rel => exact ⟨(wrap64 (x5_1 + 1)), y7, H', ⟨(y30 HK1.out)⟩, y12⟩
       ·rw [if_neg c7] at H
        have c7b0 : ((rdOf ByteArray.empty l0 x5_1).toList == (rdOf ByteArray.empty l1 x5_1).toList) = false := beq_eq_false_iff_ne.mpr c7
        have c7b1 : ((rdOf ByteArray.empty l0 x5_1).toList != (rdOf ByteArray.empty l1 x5_1).toList) = true := bne_iff_ne.mpr c7
        obtain rfl := Option.some.inj H
        have p449 : 0 ≤ (x5_1 : Int) := of_decide_eq_true y4
        have q449 : x5_1 < (l0.length : Int) := of_decide_eq_true y4
        obtain ⟨ad449, e449, hx449_0⟩ := Kd.at_string HR0.out x5_1 p449 q449
        cases e449
        replace p449 := eq_true p449
        replace q449 := eq_true q449
        have p450 : 0 ≤ (x5_1 : Int) := of_decide_eq_true y4
        have q450 : x5_1 < (l1.length : Int) := of_decide_eq_true y4
        obtain ⟨ad450, e450, hx450_0⟩ := Kd.at_string HR1.out x5_1 p450 q450
        cases e450
        replace p450 := eq_true p450
        replace q450 := eq_true q450
        go_wp2
        repeat (go_quiet (fail); try go_wp2)
        go_ret
        exact ⟨y7, y12⟩
      ·rw [if_neg c6] at H
       exact absurd H (by simp)
     ·rw [if_neg c5] at H
      exact absurd H (by simp)
    ·rw [if_neg c4] at H
     have c4b0 : decide (x5_1 < (l0.length : Int)) = false := decide_eq_false c4
     clear c4
     obtain rfl := Option.some.inj H
     go_wp2
     repeat (go_quiet (fail); try go_wp2)
     go_ret
     exact ⟨y7, y12⟩
 ·rw [if_neg c3] at H
  have c3b0 : ((l0.length : Int) == (l1.length : Int)) = false := beq_eq_false_iff_ne.mpr c3
  have c3b1 : ((l0.length : Int) != (l1.length : Int)) = true := bne_iff_ne.mpr c3
  have c3b2 : (l0.length == l1.length) = false := by first | simpa using c3 | (simp at c3 ⊢; omega)
  obtain rfl := Option.some.inj H
  go_enter Try.func43, Try.ntmps43
  go_wp2
  repeat (go_quiet (fail); try go_wp2)
  go_ret
  exact ⟨y7, y12⟩
end Go.Proofs.Ytdgpegkgelciaaa.PA
end
section
namespace Go.Proofs.Ytdgpegkgelciaaa.PA
open Go.RowKit Go.Proofs.YtdgpegkgelciaaaW.PrintWords Go.Proofs.YtdgpegkgelciaaaW.PrintLast Go.Proofs.YtdgpegkgelciaaaW.PrintMore
attribute [local go_sem] max2_int min2_int max_two min_two max_three min_three max_four min_four
set_option linter.unusedVariables false
set_option linter.unusedSimpArgs false
def laws_eqIntS.l0 : Nat → List Int → List Int → Int → Option (Bool)
 | 0, _, _, _ => none
 | k + 1, x0, x1, x5 => if x5 < (x0.length : Int) then (if 0 ≤ x5 then (if x5 < (x1.length : Int) then (if (rd x0 x5) = (rd x1 x5) then (laws_eqIntS.l0 k x0 x1 (wrap64 (x5 + 1))) else (some false)) else (none)) else (none)) else (some true)
def laws_eqIntS.f (k : Nat) (l0 : List Int) (l1 : List Int) : Option (Bool) := if (l0.length : Int) = (l1.length : Int) then (laws_eqIntS.l0 k l0 l1 0) else (some false)
theorem laws_eqIntS.mono_l : ∀ k, (∀ y0 y1 y2, LeO (laws_eqIntS.l0 k y0 y1 y2) (laws_eqIntS.l0 (k + 1) y0 y1 y2))
 | 0 => fun _ _ _ r h => by simp [laws_eqIntS.l0] at h
 | k + 1 => by
  have ih0 := laws_eqIntS.mono_l k
  ·intro y0 y1 y2
   unfold laws_eqIntS.l0
   repeat' first
   | (with_reducible exact ih0 _ _ _)
   | (with_reducible exact LeO.refl _)
   | (with_reducible exact LeO.none _)
   | (with_reducible refine LeO.ite ?_ ?_)
   | (with_reducible refine LeO.bind ?_ (fun _ => ?_))
   | exact ih0 _ _ _
   | exact LeO.none _
   | refine LeO.ite ?_ ?_
   | refine LeO.bind ?_ (fun _ => ?_)
theorem laws_eqIntS.mono : ∀ a0 a1 k, LeO (laws_eqIntS.f k a0 a1) (laws_eqIntS.f (k + 1) a0 a1) := by
 intro a0 a1 k
 have ih0 := laws_eqIntS.mono_l k
 unfold laws_eqIntS.f
 repeat' first
   | (with_reducible exact ih0 _ _ _)
   | (with_reducible exact LeO.refl _)
   | (with_reducible exact LeO.none _)
   | (with_reducible refine LeO.ite ?_ ?_)
   | (with_reducible refine LeO.bind ?_ (fun _ => ?_))
   | exact ih0 _ _ _
   | exact LeO.none _
   | refine LeO.ite ?_ ?_
   | refine LeO.bind ?_ (fun _ => ?_)
set_option maxHeartbeats 8000000 in
set_option maxRecDepth 100000 in
theorem laws_eqIntS.calls (k : Nat) (A0 : Option Addr) (c0 : Nat) (l0 : List Int) (A1 : Option Addr) (c1 : Nat) (l1 : List Int) (r : Bool) (w : World) (hr0 : Kd.C (Kd.int .i64) w A0 l0.length l0) (hc0 : l0.length ≤ c0) (hr1 : Kd.C (Kd.int .i64) w A1 l1.length l1) (hc1 : l1.length ≤ c1) (h : laws_eqIntS.f k l0 l1 = some r) :
  Calls Try.prog 69 #[.slice A0 l0.length c0, .slice A1 l1.length c1] w fun e w' => e = .returned (.bool r) ∧ Drawn0 w w' := by
 have HR0 := Aside0.mk hr0
 have HC0 := Aside0.mk hc0
 clear hr0 hc0
 have HR1 := Aside0.mk hr1
 have HC1 := Aside0.mk hc1
 clear hr1 hc1
 have H : (if (l0.length : Int) = (l1.length : Int) then (laws_eqIntS.l0 k l0 l1 0) else (some false)) = some r := h
 clear h
 by_cases c3 : (l0.length : Int) = (l1.length : Int)
 ·rw [if_pos c3] at H
  have c3b0 : ((l0.length : Int) == (l1.length : Int)) = true := beq_iff_eq.mpr c3
  have c3b1 : ((l0.length : Int) != (l1.length : Int)) = false := bne_eq_false_iff_eq.mpr c3
  have c3b2 : (l0.length == l1.length) = true := by first | simpa using c3 | (simp at c3 ⊢; omega)
  clear c3
  have H' := Aside0.mk H
  clear H
  go_enter Try.func69, Try.ntmps69
  go_wp2
  repeat (go_quiet (fail); try go_wp2)
  go_loopg [5] k (fun kq v5 w' => ∃ (x5_1 : Int), v5 = .int .i64 x5_1 ∧ Aside0 (laws_eqIntS.l0 kq l0 l1 x5_1 = some r) ∧ Aside0 (kq ≤ k) ∧ Drawn0 w w')
  case atStart => exact ⟨(0), y7, H', ⟨Nat.le_refl _⟩, y12⟩
  case round =>
   clear H'
   try clear c1
   try clear p2
   try clear c3
   try clear c3b0
   try clear c3b1
   try clear c3b2
   obtain ⟨x5_1, rfl, HA, HK1, ⟨m1, rfl⟩⟩ := hrel
   cases gk with
   | zero => exact absurd HA.out (by simp [laws_eqIntS.l0])
   | succ k1 =>
    have H := HA.out
    clear HA
    simp only [laws_eqIntS.l0] at H
    by_cases c4 : x5_1 < (l0.length : Int)
    ·rw [if_pos c4] at H
     have c4b0 : decide (x5_1 < (l0.length : Int)) = true := decide_eq_true c4
     clear c4
     by_cases c5 : 0 ≤ x5_1
     ·rw [if_pos c5] at H
      have c5b0 : decide (0 ≤ x5_1) = true := decide_eq_true c5
      clear c5
      by_cases c6 : x5_1 < (l1.length : Int)
      ·rw [if_pos c6] at H
       have c6b0 : decide (x5_1 < (l1.length : Int)) = true := decide_eq_true c6
       clear c6
       by_cases c7 : (rd l0 x5_1) = (rd l1 x5_1)
       ·rw [if_pos c7] at H
        have c7b0 : ((rd l0 x5_1) == (rd l1 x5_1)) = true := beq_iff_eq.mpr c7
        have c7b1 : ((rd l0 x5_1) != (rd l1 x5_1)) = false := bne_eq_false_iff_eq.mpr c7
        clear c7
        have H' := Aside0.mk H
        clear H
        have p451 : 0 ≤ (x5_1 : Int) := of_decide_eq_true y4
        have q451 : x5_1 < (l0.length : Int) := of_decide_eq_true y4
        obtain ⟨ad451, e451, hx451_0⟩ := Kd.at_int HR0.out x5_1 p451 q451
        cases e451
        replace p451 := eq_true p451
        replace q451 := eq_true q451
        have p452 : 0 ≤ (x5_1 : Int) := of_decide_eq_true y4
        have q452 : x5_1 < (l1.length : Int) := of_decide_eq_true y4
        obtain ⟨ad452, e452, hx452_0⟩ := Kd.at_int HR1.out x5_1 p452 q452
        cases e452
        replace p452 := eq_true p452
        replace q452 := eq_true q452
        go_wp2
        repeat (go_quiet (fail); try go_wp2)
        go_roundg k1
        case measure => have := HK1.out; omega
        case rel => exact ⟨(wrap64 (x5_1 + 1)), y7, H', ⟨(y30 HK1.out)⟩, y12⟩
       ·rw [if_neg c7] at H
        have c7b0 : ((rd l0 x5_1) == (rd l1 x5_1)) = false := beq_eq_false_iff_ne.mpr c7
        have c7b1 : ((rd l0 x5_1) != (rd l1 x5_1)) = true := bne_iff_ne.mpr c7
        obtain rfl := Option.some.inj H
        have p451 : 0 ≤ (x5_1 : Int) := of_decide_eq_true y4
        have q451 : x5_1 < (l0.length : Int) := of_decide_eq_true y4
        obtain ⟨ad451, e451, hx451_0⟩ := Kd.at_int HR0.out x5_1 p451 q451
        cases e451
        replace p451 := eq_true p451
        replace q451 := eq_true q451
        have p452 : 0 ≤ (x5_1 : Int) := of_decide_eq_true y4
        have q452 : x5_1 < (l1.length : Int) := of_decide_eq_true y4
        obtain ⟨ad452, e452, hx452_0⟩ := Kd.at_int HR1.out x5_1 p452 q452
        cases e452
        replace p452 := eq_true p452
        replace q452 := eq_true q452
        go_wp2
        repeat (go_quiet (fail); try go_wp2)
        go_ret
        exact ⟨y7, y12⟩
      ·rw [if_neg c6] at H
       exact absurd H (by simp)
     ·rw [if_neg c5] at H
      exact absurd H (by simp)
    ·rw [if_neg c4] at H
     have c4b0 : decide (x5_1 < (l0.length : Int)) = false := decide_eq_false c4
     clear c4
     obtain rfl := Option.some.inj H
     go_wp2
     repeat (go_quiet (fail); try go_wp2)
     go_ret
     exact ⟨y7, y12⟩
 ·rw [if_neg c3] at H
  have c3b0 : ((l0.length : Int) == (l1.length : Int)) = false := beq_eq_false_iff_ne.mpr c3
  have c3b1 : ((l0.length : Int) != (l1.length : Int)) = true := bne_iff_ne.mpr c3
  have c3b2 : (l0.length == l1.length) = false := by first | simpa using c3 | (simp at c3 ⊢; omega)
  obtain rfl := Option.some.inj H
  go_enter Try.func69, Try.ntmps69
  go_wp2
  repeat (go_quiet (fail); try go_wp2)
  go_ret
  exact ⟨y7, y12⟩
end Go.Proofs.Ytdgpegkgelciaaa.PA
end
section
namespace Go.Proofs.Ytdgpegkgelciaaa.PA
open Go.RowKit Go.Proofs.YtdgpegkgelciaaaW.PrintWords Go.Proofs.YtdgpegkgelciaaaW.PrintLast Go.Proofs.YtdgpegkgelciaaaW.PrintMore
attribute [local go_sem] max2_int min2_int max_two min_two max_three min_three max_four min_four
set_option linter.unusedVariables false
set_option linter.unusedSimpArgs false
def laws_eqTerm.F (rec_ : List (S78) → List (S78) → Option (Bool)) (k : Nat) (a0_0 : Int) (a0_1 : Int) (a0_2 : ByteArray) (l0_3 : List Int) (l0_4 : List (S78)) (a1_0 : Int) (a1_1 : Int) (a1_2 : ByteArray) (l1_3 : List Int) (l1_4 : List (S78)) : Option (Bool) := if a0_0 = a1_0 then (if a0_1 = a1_1 then (if a0_2.toList = a1_2.toList then ((laws_eqIntS.f k l0_3 l1_3).bind fun t462 => (if t462 = true then ((rec_ l0_4 l1_4).bind fun t463 => (if t463 = true then (some true) else (some false))) else (some false))) else (some false)) else (some false)) else (some false)
mutual
def laws_eqTermS.l0 : Nat → List (S78) → List (S78) → Int → Option (Bool)
 | 0, _, _, _ => none
 | k + 1, x0, x1, x5 => if x5 < (x0.length : Int) then (if 0 ≤ x5 then (if x5 < (x1.length : Int) then ((laws_eqTerm.F (laws_eqTermS.f k) k ((rd_T78 x0 x5).f0) ((rd_T78 x0 x5).f1) ((rd_T78 x0 x5).f2) ((rd_T78 x0 x5).f3) ((rd_T78 x0 x5).f4) ((rd_T78 x1 x5).f0) ((rd_T78 x1 x5).f1) ((rd_T78 x1 x5).f2) ((rd_T78 x1 x5).f3) ((rd_T78 x1 x5).f4)).bind fun t466 => (if t466 = true then (laws_eqTermS.l0 k x0 x1 (wrap64 (x5 + 1))) else (some false))) else (none)) else (none)) else (some true)
def laws_eqTermS.f : Nat → List (S78) → List (S78) → Option (Bool)
 | 0, _, _ => none
 | k + 1, l0, l1 => if (l0.length : Int) = (l1.length : Int) then (laws_eqTermS.l0 k l0 l1 0) else (some false)
end
theorem laws_eqTerm.Fmono {rec_ rec2_ : List (S78) → List (S78) → Option (Bool)} (hrec : (∀ y0 y1, LeO (rec_ y0 y1) (rec2_ y0 y1))) : ∀ a0 a1 a2 a3 a4 a5 a6 a7 a8 a9 k, LeO (laws_eqTerm.F rec_ k a0 a1 a2 a3 a4 a5 a6 a7 a8 a9) (laws_eqTerm.F rec2_ (k + 1) a0 a1 a2 a3 a4 a5 a6 a7 a8 a9) := by
 intro a0 a1 a2 a3 a4 a5 a6 a7 a8 a9 k
 unfold laws_eqTerm.F
 repeat' first
   | (with_reducible exact laws_eqIntS.mono _ _ _)
   | (with_reducible exact hrec _ _)
   | (with_reducible exact LeO.refl _)
   | (with_reducible exact LeO.none _)
   | (with_reducible refine LeO.ite ?_ ?_)
   | (with_reducible refine LeO.bind ?_ (fun _ => ?_))
   | exact laws_eqIntS.mono _ _ _
   | exact hrec _ _
   | exact LeO.none _
   | refine LeO.ite ?_ ?_
   | refine LeO.bind ?_ (fun _ => ?_)
theorem laws_eqTermS.mono_l : ∀ k, (∀ y0 y1, LeO (laws_eqTermS.f k y0 y1) (laws_eqTermS.f (k + 1) y0 y1)) ∧ (∀ y0 y1 y2, LeO (laws_eqTermS.l0 k y0 y1 y2) (laws_eqTermS.l0 (k + 1) y0 y1 y2))
 | 0 => ⟨fun _ _ r h => by simp [laws_eqTermS.f] at h, fun _ _ _ r h => by simp [laws_eqTermS.l0] at h⟩
 | k + 1 => by
  obtain ⟨ih0, ih1⟩ := laws_eqTermS.mono_l k
  refine ⟨?_, ?_⟩
  ·intro y0 y1
   unfold laws_eqTermS.f
   repeat' first
   | (with_reducible exact ih0 _ _)
   | (with_reducible exact ih1 _ _ _)
   | (with_reducible exact laws_eqTerm.Fmono ih0 _ _ _ _ _ _ _ _ _ _ _)
   | (with_reducible exact LeO.refl _)
   | (with_reducible exact LeO.none _)
   | (with_reducible refine LeO.ite ?_ ?_)
   | (with_reducible refine LeO.bind ?_ (fun _ => ?_))
   | exact ih0 _ _
   | exact ih1 _ _ _
   | exact laws_eqTerm.Fmono ih0 _ _ _ _ _ _ _ _ _ _ _
   | exact LeO.none _
   | refine LeO.ite ?_ ?_
   | refine LeO.bind ?_ (fun _ => ?_)
  ·intro y0 y1 y2
   unfold laws_eqTermS.l0
   repeat' first
   | (with_reducible exact ih0 _ _)
   | (with_reducible exact ih1 _ _ _)
   | (with_reducible exact laws_eqTerm.Fmono ih0 _ _ _ _ _ _ _ _ _ _ _)
   | (with_reducible exact LeO.refl _)
   | (with_reducible exact LeO.none _)
   | (with_reducible refine LeO.ite ?_ ?_)
   | (with_reducible refine LeO.bind ?_ (fun _ => ?_))
   | exact ih0 _ _
   | exact ih1 _ _ _
   | exact laws_eqTerm.Fmono ih0 _ _ _ _ _ _ _ _ _ _ _
   | exact LeO.none _
   | refine LeO.ite ?_ ?_
   | refine LeO.bind ?_ (fun _ => ?_)
theorem laws_eqTermS.mono : ∀ a0 a1 k, LeO (laws_eqTermS.f k a0 a1) (laws_eqTermS.f (k + 1) a0 a1) := by
 intro a0 a1 k
 obtain ⟨ih0, ih1⟩ := laws_eqTermS.mono_l k
 exact ih0 a0 a1
set_option maxHeartbeats 8000000 in
set_option maxRecDepth 100000 in
theorem laws_eqTerm.Fcalls (rec_ : List (S78) → List (S78) → Option (Bool)) (IH : ∀ (A0 : Option Addr) (c0 : Nat) (l0 : List (S78)) (A1 : Option Addr) (c1 : Nat) (l1 : List (S78)) (r : Bool) (w : World) (hr0 : Kd.C k78 w A0 l0.length l0) (hc0 : l0.length ≤ c0) (hr1 : Kd.C k78 w A1 l1.length l1) (hc1 : l1.length ≤ c1) (h : rec_ l0 l1 = some r),
  Calls Try.prog 58 #[.slice A0 l0.length c0, .slice A1 l1.length c1] w fun e w' => e = .returned (.bool r) ∧ Below w.heap.size w w') (k : Nat) (a0_0 : Int) (a0_1 : Int) (a0_2 : ByteArray) (A0_3 : Option Addr) (c0_3 : Nat) (l0_3 : List Int) (A0_4 : Option Addr) (c0_4 : Nat) (l0_4 : List (S78)) (a1_0 : Int) (a1_1 : Int) (a1_2 : ByteArray) (A1_3 : Option Addr) (c1_3 : Nat) (l1_3 : List Int) (A1_4 : Option Addr) (c1_4 : Nat) (l1_4 : List (S78)) (r : Bool) (w : World) (hr0_3 : Kd.C (Kd.int .i64) w A0_3 l0_3.length l0_3) (hc0_3 : l0_3.length ≤ c0_3) (hr0_4 : Kd.C k78 w A0_4 l0_4.length l0_4) (hc0_4 : l0_4.length ≤ c0_4) (hr1_3 : Kd.C (Kd.int .i64) w A1_3 l1_3.length l1_3) (hc1_3 : l1_3.length ≤ c1_3) (hr1_4 : Kd.C k78 w A1_4 l1_4.length l1_4) (hc1_4 : l1_4.length ≤ c1_4) (h : laws_eqTerm.F rec_ k a0_0 a0_1 a0_2 l0_3 l0_4 a1_0 a1_1 a1_2 l1_3 l1_4 = some r) :
  Calls Try.prog 66 #[.agg #[.int .i64 a0_0, .int .i64 a0_1, .string a0_2, .slice A0_3 l0_3.length c0_3, .slice A0_4 l0_4.length c0_4], .agg #[.int .i64 a1_0, .int .i64 a1_1, .string a1_2, .slice A1_3 l1_3.length c1_3, .slice A1_4 l1_4.length c1_4]] w fun e w' => e = .returned (.bool r) ∧ Below w.heap.size w w' := by
 have hu78 := Try.underlying78
 have HR0_3 := Aside0.mk hr0_3
 have HC0_3 := Aside0.mk hc0_3
 clear hr0_3 hc0_3
 have HR0_4 := Aside0.mk hr0_4
 have HC0_4 := Aside0.mk hc0_4
 clear hr0_4 hc0_4
 have HR1_3 := Aside0.mk hr1_3
 have HC1_3 := Aside0.mk hc1_3
 clear hr1_3 hc1_3
 have HR1_4 := Aside0.mk hr1_4
 have HC1_4 := Aside0.mk hc1_4
 clear hr1_4 hc1_4
 have HB := Aside0.mk (Below.refl w.heap.size w)
 have H : (if a0_0 = a1_0 then (if a0_1 = a1_1 then (if a0_2.toList = a1_2.toList then ((laws_eqIntS.f k l0_3 l1_3).bind fun t462 => (if t462 = true then ((rec_ l0_4 l1_4).bind fun t463 => (if t463 = true then (some true) else (some false))) else (some false))) else (some false)) else (some false)) else (some false)) = some r := h
 clear h
 have HZ3 := Aside0.mk H
 clear H
 go_enter Try.func66, Try.ntmps66
 go_upto_if 9 with (first | ((with_reducible refine gate_dst (N := 2) rfl ?_); refine zbx 2 #[.int .i64 a0_0, .int .i64 a0_1, .string a0_2, .slice A0_3 l0_3.length c0_3, .slice A0_4 l0_4.length c0_4] 78 ?_; intro gb460 hg w4 hbox hb; have BK460 := Aside0.mk hbox; have GW460 := Aside0.mk ((y9 hg HB.out : w.heap.size ≤ gb460)); have GE460 := Aside0.mk ((y9 hg HB.out : w.heap.size ≤ gb460)); replace HB := Aside0.mk (below_step (y1 HB.out) hb); clear hb hbox hg) | ((with_reducible refine gate_dst (N := 3) rfl ?_); refine zbx 3 #[.int .i64 a1_0, .int .i64 a1_1, .string a1_2, .slice A1_3 l1_3.length c1_3, .slice A1_4 l1_4.length c1_4] 78 ?_; intro gb461 hg w5 hbox hb; have BK461 := Aside0.mk hbox; have GW461 := Aside0.mk ((y15 hg HB.out GE460.out : w.heap.size ≤ gb461)); have GE461 := Aside0.mk ((y15 hg HB.out GE460.out : w.heap.size ≤ gb461)); replace HB := Aside0.mk (below_step (y2 HB.out GE460.out) hb); have NB460_461 := zltn hg BK460; have NB461_460 := zgtn hg BK460; replace BK460 := zbb BK460 hb; clear hb hbox hg; have hnb6 := NB460_461.out; have hnc6 := NB461_460.out; have hcz7_0 := zh BK460; have hcz7_1 := zh1 BK460; have hcz7_2 := zh2 BK460; have hcz7_3 : w5.cell? ⟨gb460, 3, none⟩ = some (.slice A0_3 l0_3.length c0_3) := (blk_cell BK460.out 3).trans rfl; have hcz7_4 : w5.cell? ⟨gb460, 4, none⟩ = some (.slice A0_4 l0_4.length c0_4) := (blk_cell BK460.out 4).trans rfl; have hfz7_0 := zfr BK460 0; have hfz7_1 := zfr BK460 1; have hfz7_2 := zfr BK460 2; have hfz7_3 := zfr BK460 3; have hfz7_4 := zfr BK460 4; have hcz8_0 := zh BK461; have hcz8_1 := zh1 BK461; have hcz8_2 := zh2 BK461; have hcz8_3 : w5.cell? ⟨gb461, 3, none⟩ = some (.slice A1_3 l1_3.length c1_3) := (blk_cell BK461.out 3).trans rfl; have hcz8_4 : w5.cell? ⟨gb461, 4, none⟩ = some (.slice A1_4 l1_4.length c1_4) := (blk_cell BK461.out 4).trans rfl; have hfz8_0 := zfr BK461 0; have hfz8_1 := zfr BK461 1; have hfz8_2 := zfr BK461 2; have hfz8_3 := zfr BK461 3; have hfz8_4 := zfr BK461 4))
 (try simp only [Act.put, List.setIfInBounds_toArray, List.set_cons_zero, List.set_cons_succ])
 have H := HZ3.out
 clear HZ3
 by_cases c9 : a0_0 = a1_0
 ·rw [if_pos c9] at H
  have c9b0 : (a0_0 == a1_0) = true := beq_iff_eq.mpr c9
  have c9b1 : (a0_0 != a1_0) = false := bne_eq_false_iff_eq.mpr c9
  clear c9
  (first | rw [c9b0] | (simp only [i64_w, i32_w]; rw [c9b0]) | skip)
  by_cases c10 : a0_1 = a1_1
  ·rw [if_pos c10] at H
   have c10b0 : (a0_1 == a1_1) = true := beq_iff_eq.mpr c10
   have c10b1 : (a0_1 != a1_1) = false := bne_eq_false_iff_eq.mpr c10
   clear c10
   by_cases c11 : a0_2.toList = a1_2.toList
   ·rw [if_pos c11] at H
    have c11b0 : (a0_2.toList == a1_2.toList) = true := beq_iff_eq.mpr c11
    have c11b1 : (a0_2.toList != a1_2.toList) = false := bne_eq_false_iff_eq.mpr c11
    clear c11
    obtain ⟨t462, A120, H⟩ := ob H
    have A12 := Aside0.mk A120
    clear A120
    have HZ13 := Aside0.mk H
    clear H
    have hnb14 := NB460_461.out
    have hnc14 := NB461_460.out
    have hcz15_0 := zh BK460
    have hcz15_1 := zh1 BK460
    have hcz15_2 := zh2 BK460
    have hcz15_3 : w5.cell? ⟨gb460, 3, none⟩ = some (.slice A0_3 l0_3.length c0_3) := (blk_cell BK460.out 3).trans rfl
    have hcz15_4 : w5.cell? ⟨gb460, 4, none⟩ = some (.slice A0_4 l0_4.length c0_4) := (blk_cell BK460.out 4).trans rfl
    have hfz15_0 := zfr BK460 0
    have hfz15_1 := zfr BK460 1
    have hfz15_2 := zfr BK460 2
    have hfz15_3 := zfr BK460 3
    have hfz15_4 := zfr BK460 4
    have hcz16_0 := zh BK461
    have hcz16_1 := zh1 BK461
    have hcz16_2 := zh2 BK461
    have hcz16_3 : w5.cell? ⟨gb461, 3, none⟩ = some (.slice A1_3 l1_3.length c1_3) := (blk_cell BK461.out 3).trans rfl
    have hcz16_4 : w5.cell? ⟨gb461, 4, none⟩ = some (.slice A1_4 l1_4.length c1_4) := (blk_cell BK461.out 4).trans rfl
    have hfz16_0 := zfr BK461 0
    have hfz16_1 := zfr BK461 1
    have hfz16_2 := zfr BK461 2
    have hfz16_3 := zfr BK461 3
    have hfz16_4 := zfr BK461 4
    go_upto_if 25 with (first | ((with_reducible refine gate_callee (f := 69) rfl ?_); refine goesL_ (some 24) rfl rfl Try.func69 (by kernel_rfl) rfl #[.slice A0_3 l0_3.length c0_3, .slice A1_3 l1_3.length c1_3] rfl y3 ?_; (with_reducible refine (laws_eqIntS.calls k _ _ l0_3 _ _ l1_3 t462 _ ?side1 ?side2 ?side3 ?side4 A12.out).mono ?_); (case side1 => exact y0 HR0_3.out HB.out); (case side2 => exact HC0_3.out); (case side3 => exact y0 HR1_3.out HB.out); (case side4 => exact HC1_3.out); rintro e w' ⟨rfl, ⟨nd, rfl⟩⟩; refine ⟨_, rfl, ?_⟩))
    (try simp only [Act.put, List.setIfInBounds_toArray, List.set_cons_zero, List.set_cons_succ])
    have H := HZ13.out
    clear HZ13
    by_cases c17 : t462 = true
    ·subst c17
     rw [if_pos rfl] at H
     obtain ⟨t463, A180, H⟩ := ob H
     have A18 := Aside0.mk A180
     clear A180
     have HZ19 := Aside0.mk H
     clear H
     have hnb20 := NB460_461.out
     have hnc20 := NB461_460.out
     have hcz21_0 := zh BK460
     have hcz21_1 := zh1 BK460
     have hcz21_2 := zh2 BK460
     have hcz21_3 : w5.cell? ⟨gb460, 3, none⟩ = some (.slice A0_3 l0_3.length c0_3) := (blk_cell BK460.out 3).trans rfl
     have hcz21_4 : w5.cell? ⟨gb460, 4, none⟩ = some (.slice A0_4 l0_4.length c0_4) := (blk_cell BK460.out 4).trans rfl
     have hfz21_0 := zfr BK460 0
     have hfz21_1 := zfr BK460 1
     have hfz21_2 := zfr BK460 2
     have hfz21_3 := zfr BK460 3
     have hfz21_4 := zfr BK460 4
     have hcz22_0 := zh BK461
     have hcz22_1 := zh1 BK461
     have hcz22_2 := zh2 BK461
     have hcz22_3 : w5.cell? ⟨gb461, 3, none⟩ = some (.slice A1_3 l1_3.length c1_3) := (blk_cell BK461.out 3).trans rfl
     have hcz22_4 : w5.cell? ⟨gb461, 4, none⟩ = some (.slice A1_4 l1_4.length c1_4) := (blk_cell BK461.out 4).trans rfl
     have hfz22_0 := zfr BK461 0
     have hfz22_1 := zfr BK461 1
     have hfz22_2 := zfr BK461 2
     have hfz22_3 := zfr BK461 3
     have hfz22_4 := zfr BK461 4
     go_upto_if 31 with (first | ((with_reducible refine gate_callee (f := 58) rfl ?_); refine goesL_ (some 30) rfl rfl Try.func58 (by kernel_rfl) rfl #[.slice A0_4 l0_4.length c0_4, .slice A1_4 l1_4.length c1_4] rfl y3 ?_; (with_reducible refine (IH  _ _ l0_4 _ _ l1_4 t463 _ ?side1 ?side2 ?side3 ?side4 A18.out).mono ?_); (case side1 => exact y16 HR0_4.out HB.out GE460.out GE461.out); (case side2 => exact HC0_4.out); (case side3 => exact y16 HR1_4.out HB.out GE460.out GE461.out); (case side4 => exact HC1_4.out); rintro e w23 ⟨rfl, hb⟩; refine ⟨_, rfl, ?_⟩; replace BK460 := zbb BK460 hb; replace BK461 := zbb BK461 hb; replace HB := Aside0.mk (below_step (y5 HB.out GE460.out GE461.out) hb); (try clear hb); (try clear hb2); (try clear hk); (try clear hi)))
     (try simp only [Act.put, List.setIfInBounds_toArray, List.set_cons_zero, List.set_cons_succ])
     have H := HZ19.out
     clear HZ19
     by_cases c24 : t463 = true
     ·subst c24
      rw [if_pos rfl] at H
      obtain rfl := Option.some.inj H
      go_wp2
      go_ret
      exact ⟨y6, (y5 HB.out GE460.out GE461.out)⟩
     ·replace c24 := Bool.eq_false_iff.mpr c24
      subst c24
      rw [if_neg (show ¬ (false = true) by decide)] at H
      obtain rfl := Option.some.inj H
      go_wp2
      go_ret
      exact ⟨y6, (y5 HB.out GE460.out GE461.out)⟩
    ·replace c17 := Bool.eq_false_iff.mpr c17
     subst c17
     rw [if_neg (show ¬ (false = true) by decide)] at H
     obtain rfl := Option.some.inj H
     go_wp2
     go_ret
     exact ⟨y6, (y5 HB.out GE460.out GE461.out)⟩
   ·rw [if_neg c11] at H
    have c11b0 : (a0_2.toList == a1_2.toList) = false := beq_eq_false_iff_ne.mpr c11
    have c11b1 : (a0_2.toList != a1_2.toList) = true := bne_iff_ne.mpr c11
    obtain rfl := Option.some.inj H
    have hnb25 := NB460_461.out
    have hnc25 := NB461_460.out
    have hcz26_0 := zh BK460
    have hcz26_1 := zh1 BK460
    have hcz26_2 := zh2 BK460
    have hcz26_3 : w5.cell? ⟨gb460, 3, none⟩ = some (.slice A0_3 l0_3.length c0_3) := (blk_cell BK460.out 3).trans rfl
    have hcz26_4 : w5.cell? ⟨gb460, 4, none⟩ = some (.slice A0_4 l0_4.length c0_4) := (blk_cell BK460.out 4).trans rfl
    have hfz26_0 := zfr BK460 0
    have hfz26_1 := zfr BK460 1
    have hfz26_2 := zfr BK460 2
    have hfz26_3 := zfr BK460 3
    have hfz26_4 := zfr BK460 4
    have hcz27_0 := zh BK461
    have hcz27_1 := zh1 BK461
    have hcz27_2 := zh2 BK461
    have hcz27_3 : w5.cell? ⟨gb461, 3, none⟩ = some (.slice A1_3 l1_3.length c1_3) := (blk_cell BK461.out 3).trans rfl
    have hcz27_4 : w5.cell? ⟨gb461, 4, none⟩ = some (.slice A1_4 l1_4.length c1_4) := (blk_cell BK461.out 4).trans rfl
    have hfz27_0 := zfr BK461 0
    have hfz27_1 := zfr BK461 1
    have hfz27_2 := zfr BK461 2
    have hfz27_3 := zfr BK461 3
    have hfz27_4 := zfr BK461 4
    go_wp2
    go_ret
    exact ⟨y6, (y5 HB.out GE460.out GE461.out)⟩
  ·rw [if_neg c10] at H
   have c10b0 : (a0_1 == a1_1) = false := beq_eq_false_iff_ne.mpr c10
   have c10b1 : (a0_1 != a1_1) = true := bne_iff_ne.mpr c10
   obtain rfl := Option.some.inj H
   have hnb28 := NB460_461.out
   have hnc28 := NB461_460.out
   have hcz29_0 := zh BK460
   have hcz29_1 := zh1 BK460
   have hcz29_2 := zh2 BK460
   have hcz29_3 : w5.cell? ⟨gb460, 3, none⟩ = some (.slice A0_3 l0_3.length c0_3) := (blk_cell BK460.out 3).trans rfl
   have hcz29_4 : w5.cell? ⟨gb460, 4, none⟩ = some (.slice A0_4 l0_4.length c0_4) := (blk_cell BK460.out 4).trans rfl
   have hfz29_0 := zfr BK460 0
   have hfz29_1 := zfr BK460 1
   have hfz29_2 := zfr BK460 2
   have hfz29_3 := zfr BK460 3
   have hfz29_4 := zfr BK460 4
   have hcz30_0 := zh BK461
   have hcz30_1 := zh1 BK461
   have hcz30_2 := zh2 BK461
   have hcz30_3 : w5.cell? ⟨gb461, 3, none⟩ = some (.slice A1_3 l1_3.length c1_3) := (blk_cell BK461.out 3).trans rfl
   have hcz30_4 : w5.cell? ⟨gb461, 4, none⟩ = some (.slice A1_4 l1_4.length c1_4) := (blk_cell BK461.out 4).trans rfl
   have hfz30_0 := zfr BK461 0
   have hfz30_1 := zfr BK461 1
   have hfz30_2 := zfr BK461 2
   have hfz30_3 := zfr BK461 3
   have hfz30_4 := zfr BK461 4
   go_wp2
   go_ret
   exact ⟨y6, (y5 HB.out GE460.out GE461.out)⟩
 ·rw [if_neg c9] at H
  have c9b0 : (a0_0 == a1_0) = false := beq_eq_false_iff_ne.mpr c9
  have c9b1 : (a0_0 != a1_0) = true := bne_iff_ne.mpr c9
  (first | rw [c9b0] | (simp only [i64_w, i32_w]; rw [c9b0]) | skip)
  obtain rfl := Option.some.inj H
  go_wp2
  go_ret
  exact ⟨y6, (y5 HB.out GE460.out GE461.out)⟩
def laws_eqTermS.T6 : Bool × List (List Nat × List Nat) := (true, [([], []), ([], []), ([0, 1], [0, 1]), ([2], [2]), ([], []), ([], []), ([4, 5], [4, 5]), ([6], [6]), ([3, 7], [3, 7]), ([8], [8])])
def laws_eqTermS.B6 : List Nat := [0, 0, 3, 7, 0, 0, 48, 112, 255, 511]
theorem laws_eqTermS.tab6 : rtab .any (opsOf Try.f58 6) = laws_eqTermS.T6 := by kernel_rfl
theorem laws_eqTermS.bits6 : waitsOk laws_eqTermS.T6.2 laws_eqTermS.B6 = true := by kernel_rfl
set_option maxHeartbeats 8000000 in
set_option maxRecDepth 100000 in
theorem laws_eqTermS.calls (k : Nat) : ∀ (A0 : Option Addr) (c0 : Nat) (l0 : List (S78)) (A1 : Option Addr) (c1 : Nat) (l1 : List (S78)) (r : Bool) (w : World) (hr0 : Kd.C k78 w A0 l0.length l0) (hc0 : l0.length ≤ c0) (hr1 : Kd.C k78 w A1 l1.length l1) (hc1 : l1.length ≤ c1) (h : laws_eqTermS.f k l0 l1 = some r),
  Calls Try.prog 58 #[.slice A0 l0.length c0, .slice A1 l1.length c1] w fun e w' => e = .returned (.bool r) ∧ Below w.heap.size w w' := by
 induction k using Nat.strongRecOn with
 | _ k ih =>
 intro A0 c0 l0 A1 c1 l1 r w hr0 hc0 hr1 hc1 h
 cases k with
 | zero => exact absurd h (by simp [laws_eqTermS.f])
 | succ k =>
 simp only [laws_eqTermS.f] at h
 have hu78 := Try.underlying78
 have HR0 := Aside0.mk hr0
 have HC0 := Aside0.mk hc0
 clear hr0 hc0
 have HR1 := Aside0.mk hr1
 have HC1 := Aside0.mk hc1
 clear hr1 hc1
 have HB := Aside0.mk (Below.refl w.heap.size w)
 have H : (if (l0.length : Int) = (l1.length : Int) then (laws_eqTermS.l0 k l0 l1 0) else (some false)) = some r := h
 clear h
 by_cases c3 : (l0.length : Int) = (l1.length : Int)
 ·rw [if_pos c3] at H
  have c3b0 : ((l0.length : Int) == (l1.length : Int)) = true := beq_iff_eq.mpr c3
  have c3b1 : ((l0.length : Int) != (l1.length : Int)) = false := bne_eq_false_iff_eq.mpr c3
  have c3b2 : (l0.length == l1.length) = true := by first | simpa using c3 | (simp at c3 ⊢; omega)
  clear c3
  have H' := Aside0.mk H
  clear H
  go_enter Try.func58, Try.ntmps58
  go_wp2
  go_loopg [5] k (fun kq v5 w' => ∃ (x5_1 : Int), v5 = .int .i64 x5_1 ∧ Aside0 (laws_eqTermS.l0 kq l0 l1 x5_1 = some r) ∧ Aside0 (kq ≤ k) ∧ Aside0 (Below w.heap.size w w'))
  case atStart => exact ⟨(0), y7, H', ⟨Nat.le_refl _⟩, ⟨(y1 HB.out)⟩⟩
  case round =>
   clear H'
   try clear c1
   try clear p2
   try clear c3
   try clear c3b0
   try clear c3b1
   try clear c3b2
   obtain ⟨x5_1, rfl, HA, HK1, HB⟩ := hrel
   cases gk with
   | zero => exact absurd HA.out (by simp [laws_eqTermS.l0])
   | succ k1 =>
    have H := HA.out
    clear HA
    simp only [laws_eqTermS.l0] at H
    by_cases c4 : x5_1 < (l0.length : Int)
    ·rw [if_pos c4] at H
     have c4b0 : decide (x5_1 < (l0.length : Int)) = true := decide_eq_true c4
     clear c4
     by_cases c5 : 0 ≤ x5_1
     ·rw [if_pos c5] at H
      have c5b0 : decide (0 ≤ x5_1) = true := decide_eq_true c5
      clear c5
      by_cases c6 : x5_1 < (l1.length : Int)
      ·rw [if_pos c6] at H
       have c6b0 : decide (x5_1 < (l1.length : Int)) = true := decide_eq_true c6
       clear c6
       obtain ⟨t466, A70, H⟩ := ob H
       have A7 := Aside0.mk A70
       clear A70
       have HZ8 := Aside0.mk H
       clear H
       try go_wp2
       replace HB := Aside0.mk (below_drew1 HB.out)
       have p464 : 0 ≤ (x5_1 : Int) := of_decide_eq_true y4
       have q464 : x5_1 < (l0.length : Int) := of_decide_eq_true y4
       obtain ⟨ad464, A464_3, c464_3, A464_4, c464_4, e464, hx464_0, hx464_1, hx464_2, hx464_3, hx464_4, hl464_3, hi464_3, hl464_4, hi464_4⟩ := at_T78 HR0.out x5_1 p464 q464
       have hw464_4 := hx464_4
       have hw464_3 := hx464_3
       have hw464_2 := hx464_2
       have hw464_1 := hx464_1
       have hw464_0 := hx464_0
       cases e464
       replace hx464_0 := (HB.out.cell (World.block_lt_of_cell? w _ hx464_0)).trans hx464_0
       replace hx464_1 := (HB.out.cell (World.block_lt_of_cell? w _ hx464_1)).trans hx464_1
       replace hx464_2 := (HB.out.cell (World.block_lt_of_cell? w _ hx464_2)).trans hx464_2
       replace hx464_3 := (HB.out.cell (World.block_lt_of_cell? w _ hx464_3)).trans hx464_3
       replace hx464_4 := (HB.out.cell (World.block_lt_of_cell? w _ hx464_4)).trans hx464_4
       have HR464_3 := Aside0.mk hi464_3
       have HC464_3 := Aside0.mk hl464_3
       clear hi464_3 hl464_3
       have HR464_4 := Aside0.mk hi464_4
       have HC464_4 := Aside0.mk hl464_4
       clear hi464_4 hl464_4
       replace p464 := eq_true p464
       replace q464 := eq_true q464
       have p465 : 0 ≤ (x5_1 : Int) := of_decide_eq_true y4
       have q465 : x5_1 < (l1.length : Int) := of_decide_eq_true y4
       obtain ⟨ad465, A465_3, c465_3, A465_4, c465_4, e465, hx465_0, hx465_1, hx465_2, hx465_3, hx465_4, hl465_3, hi465_3, hl465_4, hi465_4⟩ := at_T78 HR1.out x5_1 p465 q465
       have hw465_4 := hx465_4
       have hw465_3 := hx465_3
       have hw465_2 := hx465_2
       have hw465_1 := hx465_1
       have hw465_0 := hx465_0
       cases e465
       replace hx465_0 := (HB.out.cell (World.block_lt_of_cell? w _ hx465_0)).trans hx465_0
       replace hx465_1 := (HB.out.cell (World.block_lt_of_cell? w _ hx465_1)).trans hx465_1
       replace hx465_2 := (HB.out.cell (World.block_lt_of_cell? w _ hx465_2)).trans hx465_2
       replace hx465_3 := (HB.out.cell (World.block_lt_of_cell? w _ hx465_3)).trans hx465_3
       replace hx465_4 := (HB.out.cell (World.block_lt_of_cell? w _ hx465_4)).trans hx465_4
       have HR465_3 := Aside0.mk hi465_3
       have HC465_3 := Aside0.mk hl465_3
       clear hi465_3 hl465_3
       have HR465_4 := Aside0.mk hi465_4
       have HC465_4 := Aside0.mk hl465_4
       clear hi465_4 hl465_4
       replace p465 := eq_true p465
       replace q465 := eq_true q465
       refine start_ (n := 10) (S := fun w' => w'.cell? (ad464.add ((x5_1).toNat * 5)) = some (.int .i64 ((rd_T78 l0 x5_1).f0)) ∧ w'.cell? ⟨(ad464.add ((x5_1).toNat * 5)).block, (ad464.add ((x5_1).toNat * 5)).off + 1, none⟩ = some (.int .i64 ((rd_T78 l0 x5_1).f1)) ∧ w'.cell? ⟨(ad464.add ((x5_1).toNat * 5)).block, (ad464.add ((x5_1).toNat * 5)).off + 2, none⟩ = some (.string ((rd_T78 l0 x5_1).f2)) ∧ w'.cell? ⟨(ad464.add ((x5_1).toNat * 5)).block, (ad464.add ((x5_1).toNat * 5)).off + 3, none⟩ = some (.slice A464_3 ((rd_T78 l0 x5_1).f3).length c464_3) ∧ w'.cell? ⟨(ad464.add ((x5_1).toNat * 5)).block, (ad464.add ((x5_1).toNat * 5)).off + 4, none⟩ = some (.slice A464_4 ((rd_T78 l0 x5_1).f4).length c464_4) ∧ w'.cell? (ad465.add ((x5_1).toNat * 5)) = some (.int .i64 ((rd_T78 l1 x5_1).f0)) ∧ w'.cell? ⟨(ad465.add ((x5_1).toNat * 5)).block, (ad465.add ((x5_1).toNat * 5)).off + 1, none⟩ = some (.int .i64 ((rd_T78 l1 x5_1).f1)) ∧ w'.cell? ⟨(ad465.add ((x5_1).toNat * 5)).block, (ad465.add ((x5_1).toNat * 5)).off + 2, none⟩ = some (.string ((rd_T78 l1 x5_1).f2)) ∧ w'.cell? ⟨(ad465.add ((x5_1).toNat * 5)).block, (ad465.add ((x5_1).toNat * 5)).off + 3, none⟩ = some (.slice A465_3 ((rd_T78 l1 x5_1).f3).length c465_3) ∧ w'.cell? ⟨(ad465.add ((x5_1).toNat * 5)).block, (ad465.add ((x5_1).toNat * 5)).off + 4, none⟩ = some (.slice A465_4 ((rd_T78 l1 x5_1).f4).length c465_4)) (ds := []) #[false, false, false, false, false, false, false, false, false, false] (by kernel_rfl) rfl rfl ⟨((HB.out.cell (World.block_lt_of_cell? w _ hw464_0)).trans hw464_0), ((HB.out.cell (World.block_lt_of_cell? w _ hw464_1)).trans hw464_1), ((HB.out.cell (World.block_lt_of_cell? w _ hw464_2)).trans hw464_2), ((HB.out.cell (World.block_lt_of_cell? w _ hw464_3)).trans hw464_3), ((HB.out.cell (World.block_lt_of_cell? w _ hw464_4)).trans hw464_4), ((HB.out.cell (World.block_lt_of_cell? w _ hw465_0)).trans hw465_0), ((HB.out.cell (World.block_lt_of_cell? w _ hw465_1)).trans hw465_1), ((HB.out.cell (World.block_lt_of_cell? w _ hw465_2)).trans hw465_2), ((HB.out.cell (World.block_lt_of_cell? w _ hw465_3)).trans hw465_3), ((HB.out.cell (World.block_lt_of_cell? w _ hw465_4)).trans hw465_4)⟩ (fun hHeld => ?_); refine with_tabW laws_eqTermS.tab6 laws_eqTermS.bits6 (fun HT_ HW_ => ?_)
       generalize wr.drew = w9 at HB HR464_3 HR464_4 HR465_3 HR465_4 hx464_0 hx464_1 hx464_2 hx464_3 hx464_4 hx465_0 hx465_1 hx465_2 hx465_3 hx465_4 hHeld ⊢
       refine zp 0 (some 17) HT_ ?_
       refine zp 1 (some 18) HT_ ?_
       refine zp 2 (some 19) HT_ ?_
       refine zp 4 (some 21) HT_ ?_
       refine zp 5 (some 22) HT_ ?_
       refine zp 6 (some 23) HT_ ?_
       refine zt10 3 (some 20) HT_ HW_ hHeld ?_
       refine zt10 7 (some 24) HT_ HW_ hHeld ?_
       refine one_ (i := 8) (N := some 25) #[true, true, true, true, true, true, true, true, true, false] rfl rfl (one_of HT_.out (by kernel_rfl)) (by decide) (fun K hK => ?_)
       refine goes_ Try.func66 (by kernel_rfl) rfl #[.agg #[.int .i64 ((rd_T78 l0 x5_1).f0), .int .i64 ((rd_T78 l0 x5_1).f1), .string ((rd_T78 l0 x5_1).f2), .slice A464_3 ((rd_T78 l0 x5_1).f3).length c464_3, .slice A464_4 ((rd_T78 l0 x5_1).f4).length c464_4], .agg #[.int .i64 ((rd_T78 l1 x5_1).f0), .int .i64 ((rd_T78 l1 x5_1).f1), .string ((rd_T78 l1 x5_1).f2), .slice A465_3 ((rd_T78 l1 x5_1).f3).length c465_3, .slice A465_4 ((rd_T78 l1 x5_1).f4).length c465_4]] (by rfl) rfl rfl y3 ?_
       with_reducible refine (laws_eqTerm.Fcalls (laws_eqTermS.f k1) (ih k1 (y30 HK1.out)) k1 ((rd_T78 l0 x5_1).f0) ((rd_T78 l0 x5_1).f1) ((rd_T78 l0 x5_1).f2) _ _ ((rd_T78 l0 x5_1).f3) _ _ ((rd_T78 l0 x5_1).f4) ((rd_T78 l1 x5_1).f0) ((rd_T78 l1 x5_1).f1) ((rd_T78 l1 x5_1).f2) _ _ ((rd_T78 l1 x5_1).f3) _ _ ((rd_T78 l1 x5_1).f4) t466 _ ?side1 ?side2 ?side3 ?side4 ?side5 ?side6 ?side7 ?side8 A7.out).mono ?_
       (case side1 => exact y0 HR464_3.out HB.out)
       (case side2 => exact HC464_3.out)
       (case side3 => exact y0 HR464_4.out HB.out)
       (case side4 => exact HC464_4.out)
       (case side5 => exact y0 HR465_3.out HB.out)
       (case side6 => exact HC465_3.out)
       (case side7 => exact y0 HR465_4.out HB.out)
       (case side8 => exact HC465_4.out)
       rintro e w10 ⟨rfl, hb⟩
       refine ⟨_, rfl, ?_⟩
       replace HB := Aside0.mk (below_step (y1 HB.out) hb)
       (try clear hb)
       (try clear hb2)
       (try clear hk)
       (try clear hi)
       refine hK.out _ _ ⟨((HB.out.cell (World.block_lt_of_cell? w _ hw464_0)).trans hw464_0), ((HB.out.cell (World.block_lt_of_cell? w _ hw464_1)).trans hw464_1), ((HB.out.cell (World.block_lt_of_cell? w _ hw464_2)).trans hw464_2), ((HB.out.cell (World.block_lt_of_cell? w _ hw464_3)).trans hw464_3), ((HB.out.cell (World.block_lt_of_cell? w _ hw464_4)).trans hw464_4), ((HB.out.cell (World.block_lt_of_cell? w _ hw465_0)).trans hw465_0), ((HB.out.cell (World.block_lt_of_cell? w _ hw465_1)).trans hw465_1), ((HB.out.cell (World.block_lt_of_cell? w _ hw465_2)).trans hw465_2), ((HB.out.cell (World.block_lt_of_cell? w _ hw465_3)).trans hw465_3), ((HB.out.cell (World.block_lt_of_cell? w _ hw465_4)).trans hw465_4)⟩ (fun hHeld => ?_)
       clear hK K
       refine norm_ (a' := ?_) ?_ ?_
       rotate_left
       ·show Act.put _ (some 25) _ = _
        simp only [Act.put, List.setIfInBounds_toArray, List.set_cons_zero, List.set_cons_succ, i64_w, i32_w]
        rfl
       refine zp 9 (some 26) HT_ ?_
       refine done_ (done_of HT_.out (by kernel_rfl)) ?_
       have H := HZ8.out
       clear HZ8
       by_cases c11 : t466 = true
       ·subst c11
        rw [if_pos rfl] at H
        have H' := Aside0.mk H
        clear H
        go_wp2
        go_roundg k1
        case measure => have := HK1.out; omega
        case rel => exact ⟨(wrap64 (x5_1 + 1)), y7, H', ⟨(y30 HK1.out)⟩, ⟨(y1 HB.out)⟩⟩
       ·replace c11 := Bool.eq_false_iff.mpr c11
        subst c11
        rw [if_neg (show ¬ (false = true) by decide)] at H
        obtain rfl := Option.some.inj H
        go_wp2
        go_ret
        exact ⟨y6, (y1 HB.out)⟩
      ·rw [if_neg c6] at H
       exact absurd H (by simp)
     ·rw [if_neg c5] at H
      exact absurd H (by simp)
    ·rw [if_neg c4] at H
     have c4b0 : decide (x5_1 < (l0.length : Int)) = false := decide_eq_false c4
     clear c4
     obtain rfl := Option.some.inj H
     go_wp2
     go_ret
     exact ⟨y6, (y1 HB.out)⟩
 ·rw [if_neg c3] at H
  have c3b0 : ((l0.length : Int) == (l1.length : Int)) = false := beq_eq_false_iff_ne.mpr c3
  have c3b1 : ((l0.length : Int) != (l1.length : Int)) = true := bne_iff_ne.mpr c3
  have c3b2 : (l0.length == l1.length) = false := by first | simpa using c3 | (simp at c3 ⊢; omega)
  obtain rfl := Option.some.inj H
  go_enter Try.func58, Try.ntmps58
  go_wp2
  go_ret
  exact ⟨y6, (y1 HB.out)⟩
def laws_eqTerm.f (k : Nat) (a0_0 : Int) (a0_1 : Int) (a0_2 : ByteArray) (l0_3 : List Int) (l0_4 : List (S78)) (a1_0 : Int) (a1_1 : Int) (a1_2 : ByteArray) (l1_3 : List Int) (l1_4 : List (S78)) : Option (Bool) := laws_eqTerm.F (laws_eqTermS.f k) k a0_0 a0_1 a0_2 l0_3 l0_4 a1_0 a1_1 a1_2 l1_3 l1_4
theorem laws_eqTerm.mono : ∀ a0 a1 a2 a3 a4 a5 a6 a7 a8 a9 k, LeO (laws_eqTerm.f k a0 a1 a2 a3 a4 a5 a6 a7 a8 a9) (laws_eqTerm.f (k + 1) a0 a1 a2 a3 a4 a5 a6 a7 a8 a9) := fun a0 a1 a2 a3 a4 a5 a6 a7 a8 a9 k => laws_eqTerm.Fmono (fun y0 y1 => laws_eqTermS.mono y0 y1 k) a0 a1 a2 a3 a4 a5 a6 a7 a8 a9 k
theorem laws_eqTerm.calls (k : Nat) (a0_0 : Int) (a0_1 : Int) (a0_2 : ByteArray) (A0_3 : Option Addr) (c0_3 : Nat) (l0_3 : List Int) (A0_4 : Option Addr) (c0_4 : Nat) (l0_4 : List (S78)) (a1_0 : Int) (a1_1 : Int) (a1_2 : ByteArray) (A1_3 : Option Addr) (c1_3 : Nat) (l1_3 : List Int) (A1_4 : Option Addr) (c1_4 : Nat) (l1_4 : List (S78)) (r : Bool) (w : World) (hr0_3 : Kd.C (Kd.int .i64) w A0_3 l0_3.length l0_3) (hc0_3 : l0_3.length ≤ c0_3) (hr0_4 : Kd.C k78 w A0_4 l0_4.length l0_4) (hc0_4 : l0_4.length ≤ c0_4) (hr1_3 : Kd.C (Kd.int .i64) w A1_3 l1_3.length l1_3) (hc1_3 : l1_3.length ≤ c1_3) (hr1_4 : Kd.C k78 w A1_4 l1_4.length l1_4) (hc1_4 : l1_4.length ≤ c1_4) (h : laws_eqTerm.f k a0_0 a0_1 a0_2 l0_3 l0_4 a1_0 a1_1 a1_2 l1_3 l1_4 = some r) :
  Calls Try.prog 66 #[.agg #[.int .i64 a0_0, .int .i64 a0_1, .string a0_2, .slice A0_3 l0_3.length c0_3, .slice A0_4 l0_4.length c0_4], .agg #[.int .i64 a1_0, .int .i64 a1_1, .string a1_2, .slice A1_3 l1_3.length c1_3, .slice A1_4 l1_4.length c1_4]] w fun e w' => e = .returned (.bool r) ∧ Below w.heap.size w w' := laws_eqTerm.Fcalls (laws_eqTermS.f k) (laws_eqTermS.calls k) k a0_0 a0_1 a0_2 A0_3 c0_3 l0_3 A0_4 c0_4 l0_4 a1_0 a1_1 a1_2 A1_3 c1_3 l1_3 A1_4 c1_4 l1_4 r w hr0_3 hc0_3 hr0_4 hc0_4 hr1_3 hc1_3 hr1_4 hc1_4 h
end Go.Proofs.Ytdgpegkgelciaaa.PA
end
