-- Ytdgpegkgelciaaa's texts for the statement FnExactPureOk, one behind the other (merge.py).
import Derived.Test.YtdgpegkgelciaaaQFnExactPureOk0
section
namespace Go.Proofs.Ytdgpegkgelciaaa.PA
open Go.RowKit Go.Proofs.YtdgpegkgelciaaaW.PrintWords Go.Proofs.YtdgpegkgelciaaaW.PrintLast Go.Proofs.YtdgpegkgelciaaaW.PrintMore
attribute [local go_sem] max2_int min2_int max_two min_two max_three min_three max_four min_four
set_option linter.unusedVariables false
set_option linter.unusedSimpArgs false
def laws_szTerm.F (rec_ : List (S96) → Int → Option (Int)) (k : Nat) (a0_0 : Int) (a0_1 : Int) (a0_2 : ByteArray) (l0_3 : List Int) (l0_4 : List (S96)) (a1 : Int) : Option (Int) := if (wrap64 (a1 - (a0_2.size : Int))) < 0 then (some (-1)) else ((laws_szIntS.f l0_3 (wrap64 (a1 - (a0_2.size : Int)))).bind fun t108 => (if t108 < 0 then (some (-1)) else ((rec_ l0_4 t108).bind fun t109 => (if t109 < 0 then (some (-1)) else (some t109)))))
mutual
def laws_szTermS.l0 : Nat → List (S96) → Int → Int → Option (Int)
 | 0, _, _, _ => none
 | k + 1, x0, x1, x5 => if x5 < (x0.length : Int) then (if 0 ≤ x5 then ((laws_szTerm.F (laws_szTermS.f k) k ((rd_T96 x0 x5).f0) ((rd_T96 x0 x5).f1) ((rd_T96 x0 x5).f2) ((rd_T96 x0 x5).f3) ((rd_T96 x0 x5).f4) x1).bind fun t111 => (if t111 < 0 then (some (-1)) else (laws_szTermS.l0 k x0 t111 (wrap64 (x5 + 1))))) else (none)) else (some x1)
def laws_szTermS.f : Nat → List (S96) → Int → Option (Int)
 | 0, _, _ => none
 | k + 1, l0, a1 => if (wrap64 (a1 - (l0.length : Int))) < 0 then (some (-1)) else (laws_szTermS.l0 k l0 (wrap64 (a1 - (l0.length : Int))) 0)
end
theorem laws_szTerm.Fmono {rec_ rec2_ : List (S96) → Int → Option (Int)} (hrec : (∀ y0 y1, LeO (rec_ y0 y1) (rec2_ y0 y1))) : ∀ a0 a1 a2 a3 a4 a5 k, LeO (laws_szTerm.F rec_ k a0 a1 a2 a3 a4 a5) (laws_szTerm.F rec2_ (k + 1) a0 a1 a2 a3 a4 a5) := by
 intro a0 a1 a2 a3 a4 a5 k
 unfold laws_szTerm.F
 repeat' first
   | (with_reducible exact hrec _ _)
   | (with_reducible exact LeO.refl _)
   | (with_reducible exact LeO.none _)
   | (with_reducible refine LeO.ite ?_ ?_)
   | (with_reducible refine LeO.bind ?_ (fun _ => ?_))
   | exact hrec _ _
   | exact LeO.none _
   | refine LeO.ite ?_ ?_
   | refine LeO.bind ?_ (fun _ => ?_)
theorem laws_szTermS.mono_l : ∀ k, (∀ y0 y1, LeO (laws_szTermS.f k y0 y1) (laws_szTermS.f (k + 1) y0 y1)) ∧ (∀ y0 y1 y2, LeO (laws_szTermS.l0 k y0 y1 y2) (laws_szTermS.l0 (k + 1) y0 y1 y2))
 | 0 => ⟨fun _ _ r h => by simp [laws_szTermS.f] at h, fun _ _ _ r h => by simp [laws_szTermS.l0] at h⟩
 | k + 1 => by
  obtain ⟨ih0, ih1⟩ := laws_szTermS.mono_l k
  refine ⟨?_, ?_⟩
  ·intro y0 y1
   unfold laws_szTermS.f
   repeat' first
   | (with_reducible exact ih0 _ _)
   | (with_reducible exact ih1 _ _ _)
   | (with_reducible exact laws_szTerm.Fmono ih0 _ _ _ _ _ _ _)
   | (with_reducible exact LeO.refl _)
   | (with_reducible exact LeO.none _)
   | (with_reducible refine LeO.ite ?_ ?_)
   | (with_reducible refine LeO.bind ?_ (fun _ => ?_))
   | exact ih0 _ _
   | exact ih1 _ _ _
   | exact laws_szTerm.Fmono ih0 _ _ _ _ _ _ _
   | exact LeO.none _
   | refine LeO.ite ?_ ?_
   | refine LeO.bind ?_ (fun _ => ?_)
  ·intro y0 y1 y2
   unfold laws_szTermS.l0
   repeat' first
   | (with_reducible exact ih0 _ _)
   | (with_reducible exact ih1 _ _ _)
   | (with_reducible exact laws_szTerm.Fmono ih0 _ _ _ _ _ _ _)
   | (with_reducible exact LeO.refl _)
   | (with_reducible exact LeO.none _)
   | (with_reducible refine LeO.ite ?_ ?_)
   | (with_reducible refine LeO.bind ?_ (fun _ => ?_))
   | exact ih0 _ _
   | exact ih1 _ _ _
   | exact laws_szTerm.Fmono ih0 _ _ _ _ _ _ _
   | exact LeO.none _
   | refine LeO.ite ?_ ?_
   | refine LeO.bind ?_ (fun _ => ?_)
theorem laws_szTermS.mono : ∀ a0 a1 k, LeO (laws_szTermS.f k a0 a1) (laws_szTermS.f (k + 1) a0 a1) := by
 intro a0 a1 k
 obtain ⟨ih0, ih1⟩ := laws_szTermS.mono_l k
 exact ih0 a0 a1
set_option maxHeartbeats 8000000 in
set_option maxRecDepth 100000 in
theorem laws_szTerm.Fcalls (rec_ : List (S96) → Int → Option (Int)) (IH : ∀ (A0 : Option Addr) (c0 : Nat) (l0 : List (S96)) (a1 : Int) (r : Int) (w : World) (hr0 : Kd.C k96 w A0 l0.length l0) (hc0 : l0.length ≤ c0) (h : rec_ l0 a1 = some r),
  Calls Try.prog 48 #[.slice A0 l0.length c0, .int .i64 a1] w fun e w' => e = .returned (.int .i64 r) ∧ Below w.heap.size w w') (k : Nat) (a0_0 : Int) (a0_1 : Int) (a0_2 : ByteArray) (A0_3 : Option Addr) (c0_3 : Nat) (l0_3 : List Int) (A0_4 : Option Addr) (c0_4 : Nat) (l0_4 : List (S96)) (a1 : Int) (r : Int) (w : World) (hr0_3 : Kd.C (Kd.int .i64) w A0_3 l0_3.length l0_3) (hc0_3 : l0_3.length ≤ c0_3) (hr0_4 : Kd.C k96 w A0_4 l0_4.length l0_4) (hc0_4 : l0_4.length ≤ c0_4) (h : laws_szTerm.F rec_ k a0_0 a0_1 a0_2 l0_3 l0_4 a1 = some r) :
  Calls Try.prog 60 #[.agg #[.int .i64 a0_0, .int .i64 a0_1, .string a0_2, .slice A0_3 l0_3.length c0_3, .slice A0_4 l0_4.length c0_4], .int .i64 a1] w fun e w' => e = .returned (.int .i64 r) ∧ Below w.heap.size w w' := by
 have hu96 := Try.underlying96
 have HR0_3 := Aside0.mk hr0_3
 have HC0_3 := Aside0.mk hc0_3
 clear hr0_3 hc0_3
 have HR0_4 := Aside0.mk hr0_4
 have HC0_4 := Aside0.mk hc0_4
 clear hr0_4 hc0_4
 have HB := Aside0.mk (Below.refl w.heap.size w)
 have H : (if (wrap64 (a1 - (a0_2.size : Int))) < 0 then (some (-1)) else ((laws_szIntS.f l0_3 (wrap64 (a1 - (a0_2.size : Int)))).bind fun t108 => (if t108 < 0 then (some (-1)) else ((rec_ l0_4 t108).bind fun t109 => (if t109 < 0 then (some (-1)) else (some t109)))))) = some r := h
 clear h
 have HZ3 := Aside0.mk H
 clear H
 go_enter Try.func60, Try.ntmps60
 go_upto_if 11 with (first | ((with_reducible refine gate_dst (N := 2) rfl ?_); refine zbx 2 #[.int .i64 a0_0, .int .i64 a0_1, .string a0_2, .slice A0_3 l0_3.length c0_3, .slice A0_4 l0_4.length c0_4] 96 ?_; intro gb107 hg w4 hbox hb; have BK107 := Aside0.mk hbox; have GW107 := Aside0.mk ((y9 hg HB.out : w.heap.size ≤ gb107)); have GE107 := Aside0.mk ((y9 hg HB.out : w.heap.size ≤ gb107)); replace HB := Aside0.mk (below_step (y1 HB.out) hb); clear hb hbox hg; have hcz5_0 := zh BK107; have hcz5_1 := zh1 BK107; have hcz5_2 := zh2 BK107; have hcz5_3 : w4.cell? ⟨gb107, 3, none⟩ = some (.slice A0_3 l0_3.length c0_3) := (blk_cell BK107.out 3).trans rfl; have hcz5_4 : w4.cell? ⟨gb107, 4, none⟩ = some (.slice A0_4 l0_4.length c0_4) := (blk_cell BK107.out 4).trans rfl; have hfz5_0 := zfr BK107 0; have hfz5_1 := zfr BK107 1; have hfz5_2 := zfr BK107 2; have hfz5_3 := zfr BK107 3; have hfz5_4 := zfr BK107 4))
 (try simp only [Act.put, List.setIfInBounds_toArray, List.set_cons_zero, List.set_cons_succ])
 have H := HZ3.out
 clear HZ3
 by_cases c6 : (wrap64 (a1 - (a0_2.size : Int))) < 0
 ·rw [if_pos c6] at H
  have c6b0 : decide ((wrap64 (a1 - (a0_2.size : Int))) < 0) = true := decide_eq_true c6
  clear c6
  (first | rw [c6b0] | (simp only [i64_w, i32_w]; rw [c6b0]) | skip)
  obtain rfl := Option.some.inj H
  go_wp2
  go_ret
  exact ⟨y6, (y2 HB.out GE107.out)⟩
 ·rw [if_neg c6] at H
  have c6b0 : decide ((wrap64 (a1 - (a0_2.size : Int))) < 0) = false := decide_eq_false c6
  clear c6
  (first | rw [c6b0] | (simp only [i64_w, i32_w]; rw [c6b0]) | skip)
  obtain ⟨t108, A70, H⟩ := ob H
  have A7 := Aside0.mk A70
  clear A70
  have HZ8 := Aside0.mk H
  clear H
  have hcz9_0 := zh BK107
  have hcz9_1 := zh1 BK107
  have hcz9_2 := zh2 BK107
  have hcz9_3 : w4.cell? ⟨gb107, 3, none⟩ = some (.slice A0_3 l0_3.length c0_3) := (blk_cell BK107.out 3).trans rfl
  have hcz9_4 : w4.cell? ⟨gb107, 4, none⟩ = some (.slice A0_4 l0_4.length c0_4) := (blk_cell BK107.out 4).trans rfl
  have hfz9_0 := zfr BK107 0
  have hfz9_1 := zfr BK107 1
  have hfz9_2 := zfr BK107 2
  have hfz9_3 := zfr BK107 3
  have hfz9_4 := zfr BK107 4
  go_upto_if 17 with (first | ((with_reducible refine gate_callee (f := 67) rfl ?_); refine goesL_ (some 15) rfl rfl Try.func67 (by kernel_rfl) rfl #[.slice A0_3 l0_3.length c0_3, .int .i64 (wrap64 (a1 - (a0_2.size : Int)))] rfl y3 ?_; (with_reducible refine (laws_szIntS.calls _ _ l0_3 (wrap64 (a1 - (a0_2.size : Int))) t108 _ ?side1 ?side2 A7.out).mono ?_); (case side1 => exact y0 HR0_3.out HB.out); (case side2 => exact HC0_3.out); rintro e w' ⟨rfl, ⟨nd, rfl⟩⟩; refine ⟨_, rfl, ?_⟩))
  (try simp only [Act.put, List.setIfInBounds_toArray, List.set_cons_zero, List.set_cons_succ])
  have H := HZ8.out
  clear HZ8
  by_cases c10 : t108 < 0
  ·rw [if_pos c10] at H
   have c10b0 : decide (t108 < 0) = true := decide_eq_true c10
   clear c10
   (first | rw [c10b0] | (simp only [i64_w, i32_w]; rw [c10b0]) | skip)
   obtain rfl := Option.some.inj H
   go_wp2
   go_ret
   exact ⟨y6, (y2 HB.out GE107.out)⟩
  ·rw [if_neg c10] at H
   have c10b0 : decide (t108 < 0) = false := decide_eq_false c10
   clear c10
   (first | rw [c10b0] | (simp only [i64_w, i32_w]; rw [c10b0]) | skip)
   obtain ⟨t109, A110, H⟩ := ob H
   have A11 := Aside0.mk A110
   clear A110
   have HZ12 := Aside0.mk H
   clear H
   have hcz13_0 := zh BK107
   have hcz13_1 := zh1 BK107
   have hcz13_2 := zh2 BK107
   have hcz13_3 : w4.cell? ⟨gb107, 3, none⟩ = some (.slice A0_3 l0_3.length c0_3) := (blk_cell BK107.out 3).trans rfl
   have hcz13_4 : w4.cell? ⟨gb107, 4, none⟩ = some (.slice A0_4 l0_4.length c0_4) := (blk_cell BK107.out 4).trans rfl
   have hfz13_0 := zfr BK107 0
   have hfz13_1 := zfr BK107 1
   have hfz13_2 := zfr BK107 2
   have hfz13_3 := zfr BK107 3
   have hfz13_4 := zfr BK107 4
   go_upto_if 23 with (first | ((with_reducible refine gate_callee (f := 48) rfl ?_); refine goesL_ (some 21) rfl rfl Try.func48 (by kernel_rfl) rfl #[.slice A0_4 l0_4.length c0_4, .int .i64 t108] rfl y3 ?_; (with_reducible refine (IH  _ _ l0_4 t108 t109 _ ?side1 ?side2 A11.out).mono ?_); (case side1 => exact y20 HR0_4.out HB.out GE107.out); (case side2 => exact HC0_4.out); rintro e w14 ⟨rfl, hb⟩; refine ⟨_, rfl, ?_⟩; replace BK107 := zbb BK107 hb; replace HB := Aside0.mk (below_step (y2 HB.out GE107.out) hb); (try clear hb); (try clear hb2); (try clear hk); (try clear hi)))
   (try simp only [Act.put, List.setIfInBounds_toArray, List.set_cons_zero, List.set_cons_succ])
   have H := HZ12.out
   clear HZ12
   by_cases c15 : t109 < 0
   ·rw [if_pos c15] at H
    have c15b0 : decide (t109 < 0) = true := decide_eq_true c15
    clear c15
    (first | rw [c15b0] | (simp only [i64_w, i32_w]; rw [c15b0]) | skip)
    obtain rfl := Option.some.inj H
    go_wp2
    go_ret
    exact ⟨y6, (y2 HB.out GE107.out)⟩
   ·rw [if_neg c15] at H
    have c15b0 : decide (t109 < 0) = false := decide_eq_false c15
    clear c15
    (first | rw [c15b0] | (simp only [i64_w, i32_w]; rw [c15b0]) | skip)
    obtain rfl := Option.some.inj H
    go_wp2
    go_ret
    exact ⟨y6, (y2 HB.out GE107.out)⟩
set_option maxHeartbeats 8000000 in
set_option maxRecDepth 100000 in
theorem laws_szTermS.calls (k : Nat) : ∀ (A0 : Option Addr) (c0 : Nat) (l0 : List (S96)) (a1 : Int) (r : Int) (w : World) (hr0 : Kd.C k96 w A0 l0.length l0) (hc0 : l0.length ≤ c0) (h : laws_szTermS.f k l0 a1 = some r),
  Calls Try.prog 48 #[.slice A0 l0.length c0, .int .i64 a1] w fun e w' => e = .returned (.int .i64 r) ∧ Below w.heap.size w w' := by
 induction k using Nat.strongRecOn with
 | _ k ih =>
 intro A0 c0 l0 a1 r w hr0 hc0 h
 cases k with
 | zero => exact absurd h (by simp [laws_szTermS.f])
 | succ k =>
 simp only [laws_szTermS.f] at h
 have hu96 := Try.underlying96
 have HR0 := Aside0.mk hr0
 have HC0 := Aside0.mk hc0
 clear hr0 hc0
 have HB := Aside0.mk (Below.refl w.heap.size w)
 have H : (if (wrap64 (a1 - (l0.length : Int))) < 0 then (some (-1)) else (laws_szTermS.l0 k l0 (wrap64 (a1 - (l0.length : Int))) 0)) = some r := h
 clear h
 by_cases c3 : (wrap64 (a1 - (l0.length : Int))) < 0
 ·rw [if_pos c3] at H
  have c3b0 : decide ((wrap64 (a1 - (l0.length : Int))) < 0) = true := decide_eq_true c3
  clear c3
  obtain rfl := Option.some.inj H
  go_enter Try.func48, Try.ntmps48
  go_wp2
  go_ret
  exact ⟨y6, (y1 HB.out)⟩
 ·rw [if_neg c3] at H
  have c3b0 : decide ((wrap64 (a1 - (l0.length : Int))) < 0) = false := decide_eq_false c3
  clear c3
  have H' := Aside0.mk H
  clear H
  go_enter Try.func48, Try.ntmps48
  go_wp2
  go_loopg [1, 5] k (fun kq v1 v5 w' => ∃ (x1_1 : Int) (x5_1 : Int), v1 = .int .i64 x1_1 ∧ v5 = .int .i64 x5_1 ∧ Aside0 (laws_szTermS.l0 kq l0 x1_1 x5_1 = some r) ∧ Aside0 (kq ≤ k) ∧ Aside0 (Below w.heap.size w w'))
  case atStart => exact ⟨(wrap64 (a1 - (l0.length : Int))), (0), y7, y7, H', ⟨Nat.le_refl _⟩, ⟨(y1 HB.out)⟩⟩
  case round =>
   clear H'
   try clear p2
   try clear c3
   try clear c3b0
   obtain ⟨x1_1, x5_1, rfl, rfl, HA, HK1, HB⟩ := hrel
   cases gk with
   | zero => exact absurd HA.out (by simp [laws_szTermS.l0])
   | succ k1 =>
    have H := HA.out
    clear HA
    simp only [laws_szTermS.l0] at H
    by_cases c4 : x5_1 < (l0.length : Int)
    ·rw [if_pos c4] at H
     have c4b0 : decide (x5_1 < (l0.length : Int)) = true := decide_eq_true c4
     clear c4
     by_cases c5 : 0 ≤ x5_1
     ·rw [if_pos c5] at H
      have c5b0 : decide (0 ≤ x5_1) = true := decide_eq_true c5
      clear c5
      obtain ⟨t111, A60, H⟩ := ob H
      have A6 := Aside0.mk A60
      clear A60
      have HZ7 := Aside0.mk H
      clear H
      have p110 : 0 ≤ (x5_1 : Int) := of_decide_eq_true y4
      have q110 : x5_1 < (l0.length : Int) := of_decide_eq_true y4
      obtain ⟨ad110, A110_3, c110_3, A110_4, c110_4, e110, hx110_0, hx110_1, hx110_2, hx110_3, hx110_4, hl110_3, hi110_3, hl110_4, hi110_4⟩ := at_T96 HR0.out x5_1 p110 q110
      cases e110
      replace hx110_0 := (HB.out.cell (World.block_lt_of_cell? w _ hx110_0)).trans hx110_0
      replace hx110_1 := (HB.out.cell (World.block_lt_of_cell? w _ hx110_1)).trans hx110_1
      replace hx110_2 := (HB.out.cell (World.block_lt_of_cell? w _ hx110_2)).trans hx110_2
      replace hx110_3 := (HB.out.cell (World.block_lt_of_cell? w _ hx110_3)).trans hx110_3
      replace hx110_4 := (HB.out.cell (World.block_lt_of_cell? w _ hx110_4)).trans hx110_4
      have HR110_3 := Aside0.mk hi110_3
      have HC110_3 := Aside0.mk hl110_3
      clear hi110_3 hl110_3
      have HR110_4 := Aside0.mk hi110_4
      have HC110_4 := Aside0.mk hl110_4
      clear hi110_4 hl110_4
      replace p110 := eq_true p110
      replace q110 := eq_true q110
      go_upto_if 25 with (first | ((with_reducible refine gate_callee (f := 60) rfl ?_); refine goesL_ (some 23) rfl rfl Try.func60 (by kernel_rfl) rfl #[.agg #[.int .i64 ((rd_T96 l0 x5_1).f0), .int .i64 ((rd_T96 l0 x5_1).f1), .string ((rd_T96 l0 x5_1).f2), .slice A110_3 ((rd_T96 l0 x5_1).f3).length c110_3, .slice A110_4 ((rd_T96 l0 x5_1).f4).length c110_4], .int .i64 x1_1] rfl y3 ?_; (with_reducible refine (laws_szTerm.Fcalls (laws_szTermS.f k1) (ih k1 (y30 HK1.out)) k1 ((rd_T96 l0 x5_1).f0) ((rd_T96 l0 x5_1).f1) ((rd_T96 l0 x5_1).f2) _ _ ((rd_T96 l0 x5_1).f3) _ _ ((rd_T96 l0 x5_1).f4) x1_1 t111 _ ?side1 ?side2 ?side3 ?side4 A6.out).mono ?_); (case side1 => exact y0 HR110_3.out HB.out); (case side2 => exact HC110_3.out); (case side3 => exact y0 HR110_4.out HB.out); (case side4 => exact HC110_4.out); rintro e w8 ⟨rfl, hb⟩; refine ⟨_, rfl, ?_⟩; replace HB := Aside0.mk (below_step (y1 HB.out) hb); (try clear hb); (try clear hb2); (try clear hk); (try clear hi)))
      (try simp only [Act.put, List.setIfInBounds_toArray, List.set_cons_zero, List.set_cons_succ])
      have H := HZ7.out
      clear HZ7
      by_cases c9 : t111 < 0
      ·rw [if_pos c9] at H
       have c9b0 : decide (t111 < 0) = true := decide_eq_true c9
       clear c9
       (first | rw [c9b0] | (simp only [i64_w, i32_w]; rw [c9b0]) | skip)
       obtain rfl := Option.some.inj H
       go_wp2
       go_ret
       exact ⟨y6, (y1 HB.out)⟩
      ·rw [if_neg c9] at H
       have c9b0 : decide (t111 < 0) = false := decide_eq_false c9
       clear c9
       (first | rw [c9b0] | (simp only [i64_w, i32_w]; rw [c9b0]) | skip)
       have H' := Aside0.mk H
       clear H
       go_wp2
       go_roundg k1
       case measure => have := HK1.out; omega
       case rel => exact ⟨(t111), (wrap64 (x5_1 + 1)), y7, y7, H', ⟨(y30 HK1.out)⟩, ⟨(y1 HB.out)⟩⟩
     ·rw [if_neg c5] at H
      exact absurd H (by simp)
    ·rw [if_neg c4] at H
     have c4b0 : decide (x5_1 < (l0.length : Int)) = false := decide_eq_false c4
     clear c4
     obtain rfl := Option.some.inj H
     go_wp2
     go_ret
     exact ⟨y6, (y1 HB.out)⟩
def laws_szTerm.f (k : Nat) (a0_0 : Int) (a0_1 : Int) (a0_2 : ByteArray) (l0_3 : List Int) (l0_4 : List (S96)) (a1 : Int) : Option (Int) := laws_szTerm.F (laws_szTermS.f k) k a0_0 a0_1 a0_2 l0_3 l0_4 a1
theorem laws_szTerm.mono : ∀ a0 a1 a2 a3 a4 a5 k, LeO (laws_szTerm.f k a0 a1 a2 a3 a4 a5) (laws_szTerm.f (k + 1) a0 a1 a2 a3 a4 a5) := fun a0 a1 a2 a3 a4 a5 k => laws_szTerm.Fmono (fun y0 y1 => laws_szTermS.mono y0 y1 k) a0 a1 a2 a3 a4 a5 k
theorem laws_szTerm.calls (k : Nat) (a0_0 : Int) (a0_1 : Int) (a0_2 : ByteArray) (A0_3 : Option Addr) (c0_3 : Nat) (l0_3 : List Int) (A0_4 : Option Addr) (c0_4 : Nat) (l0_4 : List (S96)) (a1 : Int) (r : Int) (w : World) (hr0_3 : Kd.C (Kd.int .i64) w A0_3 l0_3.length l0_3) (hc0_3 : l0_3.length ≤ c0_3) (hr0_4 : Kd.C k96 w A0_4 l0_4.length l0_4) (hc0_4 : l0_4.length ≤ c0_4) (h : laws_szTerm.f k a0_0 a0_1 a0_2 l0_3 l0_4 a1 = some r) :
  Calls Try.prog 60 #[.agg #[.int .i64 a0_0, .int .i64 a0_1, .string a0_2, .slice A0_3 l0_3.length c0_3, .slice A0_4 l0_4.length c0_4], .int .i64 a1] w fun e w' => e = .returned (.int .i64 r) ∧ Below w.heap.size w w' := laws_szTerm.Fcalls (laws_szTermS.f k) (laws_szTermS.calls k) k a0_0 a0_1 a0_2 A0_3 c0_3 l0_3 A0_4 c0_4 l0_4 a1 r w hr0_3 hc0_3 hr0_4 hc0_4 h
end Go.Proofs.Ytdgpegkgelciaaa.PA
end
section
namespace Go.Proofs.Ytdgpegkgelciaaa.PA
open Go.RowKit Go.Proofs.YtdgpegkgelciaaaW.PrintWords Go.Proofs.YtdgpegkgelciaaaW.PrintLast Go.Proofs.YtdgpegkgelciaaaW.PrintMore
attribute [local go_sem] max2_int min2_int max_two min_two max_three min_three max_four min_four
set_option linter.unusedVariables false
set_option linter.unusedSimpArgs false
def laws_szBody.F (rec_ : List (S93) → Int → Option (Int)) (k : Nat) (l0_0 : List (S93)) (l0_1 : List (S96)) (a1 : Int) : Option (Int) := (rec_ l0_0 a1).bind fun t123 => (if t123 < 0 then (some (-1)) else ((laws_szTermS.f k l0_1 t123).bind fun t124 => (if t124 < 0 then (some (-1)) else (some t124))))
def laws_szBind.F (rec_ : List (S93) → Int → Option (Int)) (k : Nat) (a0_0 : Int) (l0_1 : List ByteArray) (a0_2 : ByteArray) (l0_3 : List (S96)) (l0_4 : List (S93)) (l0_5 : List (S96)) (l0_6 : List (S93)) (l0_7 : List (S96)) (a1 : Int) : Option (Int) := (laws_szStringS.f k l0_1 a1).bind fun t126 => (if t126 < 0 then (some (-1)) else (if (wrap64 (t126 - (a0_2.size : Int))) < 0 then (some (-1)) else ((laws_szTermS.f k l0_3 (wrap64 (t126 - (a0_2.size : Int)))).bind fun t127 => (if t127 < 0 then (some (-1)) else ((laws_szBody.F rec_ k l0_4 l0_5 t127).bind fun t128 => (if t128 < 0 then (some (-1)) else ((laws_szBody.F rec_ k l0_6 l0_7 t128).bind fun t129 => (if t129 < 0 then (some (-1)) else (some t129)))))))))
mutual
def laws_szBindS.l0 : Nat → List (S93) → Int → Int → Option (Int)
 | 0, _, _, _ => none
 | k + 1, x0, x1, x5 => if x5 < (x0.length : Int) then (if 0 ≤ x5 then ((laws_szBind.F (laws_szBindS.f k) k ((rd_T93 x0 x5).f0) ((rd_T93 x0 x5).f1) ((rd_T93 x0 x5).f2) ((rd_T93 x0 x5).f3) ((rd_T93 x0 x5).f4.f0) ((rd_T93 x0 x5).f4.f1) ((rd_T93 x0 x5).f5.f0) ((rd_T93 x0 x5).f5.f1) x1).bind fun t131 => (if t131 < 0 then (some (-1)) else (laws_szBindS.l0 k x0 t131 (wrap64 (x5 + 1))))) else (none)) else (some x1)
def laws_szBindS.f : Nat → List (S93) → Int → Option (Int)
 | 0, _, _ => none
 | k + 1, l0, a1 => if (wrap64 (a1 - (l0.length : Int))) < 0 then (some (-1)) else (laws_szBindS.l0 k l0 (wrap64 (a1 - (l0.length : Int))) 0)
end
theorem laws_szBody.Fmono {rec_ rec2_ : List (S93) → Int → Option (Int)} (hrec : (∀ y0 y1, LeO (rec_ y0 y1) (rec2_ y0 y1))) : ∀ a0 a1 a2 k, LeO (laws_szBody.F rec_ k a0 a1 a2) (laws_szBody.F rec2_ (k + 1) a0 a1 a2) := by
 intro a0 a1 a2 k
 unfold laws_szBody.F
 repeat' first
   | (with_reducible exact hrec _ _)
   | (with_reducible exact laws_szTermS.mono _ _ _)
   | (with_reducible exact LeO.refl _)
   | (with_reducible exact LeO.none _)
   | (with_reducible refine LeO.ite ?_ ?_)
   | (with_reducible refine LeO.bind ?_ (fun _ => ?_))
   | exact hrec _ _
   | exact laws_szTermS.mono _ _ _
   | exact LeO.none _
   | refine LeO.ite ?_ ?_
   | refine LeO.bind ?_ (fun _ => ?_)
theorem laws_szBind.Fmono {rec_ rec2_ : List (S93) → Int → Option (Int)} (hrec : (∀ y0 y1, LeO (rec_ y0 y1) (rec2_ y0 y1))) : ∀ a0 a1 a2 a3 a4 a5 a6 a7 a8 k, LeO (laws_szBind.F rec_ k a0 a1 a2 a3 a4 a5 a6 a7 a8) (laws_szBind.F rec2_ (k + 1) a0 a1 a2 a3 a4 a5 a6 a7 a8) := by
 intro a0 a1 a2 a3 a4 a5 a6 a7 a8 k
 unfold laws_szBind.F
 repeat' first
   | (with_reducible exact laws_szBody.Fmono hrec _ _ _ _)
   | (with_reducible exact laws_szStringS.mono _ _ _)
   | (with_reducible exact laws_szTermS.mono _ _ _)
   | (with_reducible exact LeO.refl _)
   | (with_reducible exact LeO.none _)
   | (with_reducible refine LeO.ite ?_ ?_)
   | (with_reducible refine LeO.bind ?_ (fun _ => ?_))
   | exact laws_szBody.Fmono hrec _ _ _ _
   | exact laws_szStringS.mono _ _ _
   | exact laws_szTermS.mono _ _ _
   | exact LeO.none _
   | refine LeO.ite ?_ ?_
   | refine LeO.bind ?_ (fun _ => ?_)
theorem laws_szBindS.mono_l : ∀ k, (∀ y0 y1, LeO (laws_szBindS.f k y0 y1) (laws_szBindS.f (k + 1) y0 y1)) ∧ (∀ y0 y1 y2, LeO (laws_szBindS.l0 k y0 y1 y2) (laws_szBindS.l0 (k + 1) y0 y1 y2))
 | 0 => ⟨fun _ _ r h => by simp [laws_szBindS.f] at h, fun _ _ _ r h => by simp [laws_szBindS.l0] at h⟩
 | k + 1 => by
  obtain ⟨ih0, ih1⟩ := laws_szBindS.mono_l k
  refine ⟨?_, ?_⟩
  ·intro y0 y1
   unfold laws_szBindS.f
   repeat' first
   | (with_reducible exact ih0 _ _)
   | (with_reducible exact ih1 _ _ _)
   | (with_reducible exact laws_szBind.Fmono ih0 _ _ _ _ _ _ _ _ _ _)
   | (with_reducible exact LeO.refl _)
   | (with_reducible exact LeO.none _)
   | (with_reducible refine LeO.ite ?_ ?_)
   | (with_reducible refine LeO.bind ?_ (fun _ => ?_))
   | exact ih0 _ _
   | exact ih1 _ _ _
   | exact laws_szBind.Fmono ih0 _ _ _ _ _ _ _ _ _ _
   | exact LeO.none _
   | refine LeO.ite ?_ ?_
   | refine LeO.bind ?_ (fun _ => ?_)
  ·intro y0 y1 y2
   unfold laws_szBindS.l0
   repeat' first
   | (with_reducible exact ih0 _ _)
   | (with_reducible exact ih1 _ _ _)
   | (with_reducible exact laws_szBind.Fmono ih0 _ _ _ _ _ _ _ _ _ _)
   | (with_reducible exact LeO.refl _)
   | (with_reducible exact LeO.none _)
   | (with_reducible refine LeO.ite ?_ ?_)
   | (with_reducible refine LeO.bind ?_ (fun _ => ?_))
   | exact ih0 _ _
   | exact ih1 _ _ _
   | exact laws_szBind.Fmono ih0 _ _ _ _ _ _ _ _ _ _
   | exact LeO.none _
   | refine LeO.ite ?_ ?_
   | refine LeO.bind ?_ (fun _ => ?_)
theorem laws_szBindS.mono : ∀ a0 a1 k, LeO (laws_szBindS.f k a0 a1) (laws_szBindS.f (k + 1) a0 a1) := by
 intro a0 a1 k
 obtain ⟨ih0, ih1⟩ := laws_szBindS.mono_l k
 exact ih0 a0 a1
set_option maxHeartbeats 8000000 in
set_option maxRecDepth 100000 in
theorem laws_szBody.Fcalls (rec_ : List (S93) → Int → Option (Int)) (IH : ∀ (A0 : Option Addr) (c0 : Nat) (l0 : List (S93)) (a1 : Int) (r : Int) (w : World) (hr0 : Kd.C k93 w A0 l0.length l0) (hc0 : l0.length ≤ c0) (h : rec_ l0 a1 = some r),
  Calls Try.prog 47 #[.slice A0 l0.length c0, .int .i64 a1] w fun e w' => e = .returned (.int .i64 r) ∧ Below w.heap.size w w') (k : Nat) (A0_0 : Option Addr) (c0_0 : Nat) (l0_0 : List (S93)) (A0_1 : Option Addr) (c0_1 : Nat) (l0_1 : List (S96)) (a1 : Int) (r : Int) (w : World) (hr0_0 : Kd.C k93 w A0_0 l0_0.length l0_0) (hc0_0 : l0_0.length ≤ c0_0) (hr0_1 : Kd.C k96 w A0_1 l0_1.length l0_1) (hc0_1 : l0_1.length ≤ c0_1) (h : laws_szBody.F rec_ k l0_0 l0_1 a1 = some r) :
  Calls Try.prog 32 #[.agg #[.slice A0_0 l0_0.length c0_0, .slice A0_1 l0_1.length c0_1], .int .i64 a1] w fun e w' => e = .returned (.int .i64 r) ∧ Below w.heap.size w w' := by
 have hu35 := Try.underlying35
 have HR0_0 := Aside0.mk hr0_0
 have HC0_0 := Aside0.mk hc0_0
 clear hr0_0 hc0_0
 have HR0_1 := Aside0.mk hr0_1
 have HC0_1 := Aside0.mk hc0_1
 clear hr0_1 hc0_1
 have HB := Aside0.mk (Below.refl w.heap.size w)
 have H : ((rec_ l0_0 a1).bind fun t123 => (if t123 < 0 then (some (-1)) else ((laws_szTermS.f k l0_1 t123).bind fun t124 => (if t124 < 0 then (some (-1)) else (some t124))))) = some r := h
 clear h
 obtain ⟨t123, A30, H⟩ := ob H
 have A3 := Aside0.mk A30
 clear A30
 have HZ4 := Aside0.mk H
 clear H
 go_enter Try.func32, Try.ntmps32
 go_upto_if 10 with (first | ((with_reducible refine gate_dst (N := 2) rfl ?_); refine zbx 2 #[.slice A0_0 l0_0.length c0_0, .slice A0_1 l0_1.length c0_1] 35 ?_; intro gb122 hg w5 hbox hb; have BK122 := Aside0.mk hbox; have GW122 := Aside0.mk ((y9 hg HB.out : w.heap.size ≤ gb122)); have GE122 := Aside0.mk ((y9 hg HB.out : w.heap.size ≤ gb122)); replace HB := Aside0.mk (below_step (y1 HB.out) hb); clear hb hbox hg; have hcz6_0 := zh BK122; have hcz6_1 := zh1 BK122; have hfz6_0 := zfr BK122 0; have hfz6_1 := zfr BK122 1) | ((with_reducible refine gate_callee (f := 47) rfl ?_); refine goesL_ (some 8) rfl rfl Try.func47 (by kernel_rfl) rfl #[.slice A0_0 l0_0.length c0_0, .int .i64 a1] rfl y3 ?_; (with_reducible refine (IH  _ _ l0_0 a1 t123 _ ?side1 ?side2 A3.out).mono ?_); (case side1 => exact y0 HR0_0.out HB.out); (case side2 => exact HC0_0.out); rintro e w7 ⟨rfl, hb⟩; refine ⟨_, rfl, ?_⟩; replace BK122 := zbb BK122 hb; replace HB := Aside0.mk (below_step (y2 HB.out GE122.out) hb); (try clear hb); (try clear hb2); (try clear hk); (try clear hi)))
 (try simp only [Act.put, List.setIfInBounds_toArray, List.set_cons_zero, List.set_cons_succ])
 have H := HZ4.out
 clear HZ4
 by_cases c8 : t123 < 0
 ·rw [if_pos c8] at H
  have c8b0 : decide (t123 < 0) = true := decide_eq_true c8
  clear c8
  (first | rw [c8b0] | (simp only [i64_w, i32_w]; rw [c8b0]) | skip)
  obtain rfl := Option.some.inj H
  go_wp2
  go_ret
  exact ⟨y6, (y2 HB.out GE122.out)⟩
 ·rw [if_neg c8] at H
  have c8b0 : decide (t123 < 0) = false := decide_eq_false c8
  clear c8
  (first | rw [c8b0] | (simp only [i64_w, i32_w]; rw [c8b0]) | skip)
  obtain ⟨t124, A90, H⟩ := ob H
  have A9 := Aside0.mk A90
  clear A90
  have HZ10 := Aside0.mk H
  clear H
  have hcz11_0 := zh BK122
  have hcz11_1 := zh1 BK122
  have hfz11_0 := zfr BK122 0
  have hfz11_1 := zfr BK122 1
  go_upto_if 16 with (first | ((with_reducible refine gate_callee (f := 48) rfl ?_); refine goesL_ (some 14) rfl rfl Try.func48 (by kernel_rfl) rfl #[.slice A0_1 l0_1.length c0_1, .int .i64 t123] rfl y3 ?_; (with_reducible refine (laws_szTermS.calls k _ _ l0_1 t123 t124 _ ?side1 ?side2 A9.out).mono ?_); (case side1 => exact y0 HR0_1.out HB.out); (case side2 => exact HC0_1.out); rintro e w12 ⟨rfl, hb⟩; refine ⟨_, rfl, ?_⟩; replace BK122 := zbb BK122 hb; replace HB := Aside0.mk (below_step (y2 HB.out GE122.out) hb); (try clear hb); (try clear hb2); (try clear hk); (try clear hi)))
  (try simp only [Act.put, List.setIfInBounds_toArray, List.set_cons_zero, List.set_cons_succ])
  have H := HZ10.out
  clear HZ10
  by_cases c13 : t124 < 0
  ·rw [if_pos c13] at H
   have c13b0 : decide (t124 < 0) = true := decide_eq_true c13
   clear c13
   (first | rw [c13b0] | (simp only [i64_w, i32_w]; rw [c13b0]) | skip)
   obtain rfl := Option.some.inj H
   go_wp2
   go_ret
   exact ⟨y6, (y2 HB.out GE122.out)⟩
  ·rw [if_neg c13] at H
   have c13b0 : decide (t124 < 0) = false := decide_eq_false c13
   clear c13
   (first | rw [c13b0] | (simp only [i64_w, i32_w]; rw [c13b0]) | skip)
   obtain rfl := Option.some.inj H
   go_wp2
   go_ret
   exact ⟨y6, (y2 HB.out GE122.out)⟩
set_option maxHeartbeats 8000000 in
set_option maxRecDepth 100000 in
theorem laws_szBind.Fcalls (rec_ : List (S93) → Int → Option (Int)) (IH : ∀ (A0 : Option Addr) (c0 : Nat) (l0 : List (S93)) (a1 : Int) (r : Int) (w : World) (hr0 : Kd.C k93 w A0 l0.length l0) (hc0 : l0.length ≤ c0) (h : rec_ l0 a1 = some r),
  Calls Try.prog 47 #[.slice A0 l0.length c0, .int .i64 a1] w fun e w' => e = .returned (.int .i64 r) ∧ Below w.heap.size w w') (k : Nat) (a0_0 : Int) (A0_1 : Option Addr) (c0_1 : Nat) (l0_1 : List ByteArray) (a0_2 : ByteArray) (A0_3 : Option Addr) (c0_3 : Nat) (l0_3 : List (S96)) (A0_4 : Option Addr) (c0_4 : Nat) (l0_4 : List (S93)) (A0_5 : Option Addr) (c0_5 : Nat) (l0_5 : List (S96)) (A0_6 : Option Addr) (c0_6 : Nat) (l0_6 : List (S93)) (A0_7 : Option Addr) (c0_7 : Nat) (l0_7 : List (S96)) (a1 : Int) (r : Int) (w : World) (hr0_1 : Kd.C Kd.string w A0_1 l0_1.length l0_1) (hc0_1 : l0_1.length ≤ c0_1) (hr0_3 : Kd.C k96 w A0_3 l0_3.length l0_3) (hc0_3 : l0_3.length ≤ c0_3) (hr0_4 : Kd.C k93 w A0_4 l0_4.length l0_4) (hc0_4 : l0_4.length ≤ c0_4) (hr0_5 : Kd.C k96 w A0_5 l0_5.length l0_5) (hc0_5 : l0_5.length ≤ c0_5) (hr0_6 : Kd.C k93 w A0_6 l0_6.length l0_6) (hc0_6 : l0_6.length ≤ c0_6) (hr0_7 : Kd.C k96 w A0_7 l0_7.length l0_7) (hc0_7 : l0_7.length ≤ c0_7) (h : laws_szBind.F rec_ k a0_0 l0_1 a0_2 l0_3 l0_4 l0_5 l0_6 l0_7 a1 = some r) :
  Calls Try.prog 59 #[.agg #[.int .i64 a0_0, .slice A0_1 l0_1.length c0_1, .string a0_2, .slice A0_3 l0_3.length c0_3, .slice A0_4 l0_4.length c0_4, .slice A0_5 l0_5.length c0_5, .slice A0_6 l0_6.length c0_6, .slice A0_7 l0_7.length c0_7], .int .i64 a1] w fun e w' => e = .returned (.int .i64 r) ∧ Below w.heap.size w w' := by
 have hu93 := Try.underlying93
 have hu35 := Try.underlying35
 have HR0_1 := Aside0.mk hr0_1
 have HC0_1 := Aside0.mk hc0_1
 clear hr0_1 hc0_1
 have HR0_3 := Aside0.mk hr0_3
 have HC0_3 := Aside0.mk hc0_3
 clear hr0_3 hc0_3
 have HR0_4 := Aside0.mk hr0_4
 have HC0_4 := Aside0.mk hc0_4
 clear hr0_4 hc0_4
 have HR0_5 := Aside0.mk hr0_5
 have HC0_5 := Aside0.mk hc0_5
 clear hr0_5 hc0_5
 have HR0_6 := Aside0.mk hr0_6
 have HC0_6 := Aside0.mk hc0_6
 clear hr0_6 hc0_6
 have HR0_7 := Aside0.mk hr0_7
 have HC0_7 := Aside0.mk hc0_7
 clear hr0_7 hc0_7
 have HB := Aside0.mk (Below.refl w.heap.size w)
 have H : ((laws_szStringS.f k l0_1 a1).bind fun t126 => (if t126 < 0 then (some (-1)) else (if (wrap64 (t126 - (a0_2.size : Int))) < 0 then (some (-1)) else ((laws_szTermS.f k l0_3 (wrap64 (t126 - (a0_2.size : Int)))).bind fun t127 => (if t127 < 0 then (some (-1)) else ((laws_szBody.F rec_ k l0_4 l0_5 t127).bind fun t128 => (if t128 < 0 then (some (-1)) else ((laws_szBody.F rec_ k l0_6 l0_7 t128).bind fun t129 => (if t129 < 0 then (some (-1)) else (some t129)))))))))) = some r := h
 clear h
 obtain ⟨t126, A30, H⟩ := ob H
 have A3 := Aside0.mk A30
 clear A30
 have HZ4 := Aside0.mk H
 clear H
 go_enter Try.func59, Try.ntmps59
 go_upto_if 10 with (first | ((with_reducible refine gate_dst (N := 2) rfl ?_); refine zbx 2 #[.int .i64 a0_0, .slice A0_1 l0_1.length c0_1, .string a0_2, .slice A0_3 l0_3.length c0_3, .slice A0_4 l0_4.length c0_4, .slice A0_5 l0_5.length c0_5, .slice A0_6 l0_6.length c0_6, .slice A0_7 l0_7.length c0_7] 93 ?_; intro gb125 hg w5 hbox hb; have BK125 := Aside0.mk hbox; have GW125 := Aside0.mk ((y9 hg HB.out : w.heap.size ≤ gb125)); have GE125 := Aside0.mk ((y9 hg HB.out : w.heap.size ≤ gb125)); replace HB := Aside0.mk (below_step (y1 HB.out) hb); clear hb hbox hg; have hcz6_0 := zh BK125; have hcz6_1 := zh1 BK125; have hcz6_2 := zh2 BK125; have hcz6_3 : w5.cell? ⟨gb125, 3, none⟩ = some (.slice A0_3 l0_3.length c0_3) := (blk_cell BK125.out 3).trans rfl; have hcz6_4 : w5.cell? ⟨gb125, 4, none⟩ = some (.slice A0_4 l0_4.length c0_4) := (blk_cell BK125.out 4).trans rfl; have hcz6_5 : w5.cell? ⟨gb125, 5, none⟩ = some (.slice A0_5 l0_5.length c0_5) := (blk_cell BK125.out 5).trans rfl; have hcz6_6 : w5.cell? ⟨gb125, 6, none⟩ = some (.slice A0_6 l0_6.length c0_6) := (blk_cell BK125.out 6).trans rfl; have hcz6_7 : w5.cell? ⟨gb125, 7, none⟩ = some (.slice A0_7 l0_7.length c0_7) := (blk_cell BK125.out 7).trans rfl; have hfz6_0 := zfr BK125 0; have hfz6_1 := zfr BK125 1; have hfz6_2 := zfr BK125 2; have hfz6_3 := zfr BK125 3; have hfz6_4 := zfr BK125 4; have hfz6_5 := zfr BK125 5; have hfz6_6 := zfr BK125 6; have hfz6_7 := zfr BK125 7) | ((with_reducible refine gate_callee (f := 31) rfl ?_); refine goesL_ (some 8) rfl rfl Try.func31 (by kernel_rfl) rfl #[.slice A0_1 l0_1.length c0_1, .int .i64 a1] rfl y3 ?_; (with_reducible refine (laws_szStringS.calls k _ _ l0_1 a1 t126 _ ?side1 ?side2 A3.out).mono ?_); (case side1 => exact y0 HR0_1.out HB.out); (case side2 => exact HC0_1.out); rintro e w' ⟨rfl, ⟨nd, rfl⟩⟩; refine ⟨_, rfl, ?_⟩))
 (try simp only [Act.put, List.setIfInBounds_toArray, List.set_cons_zero, List.set_cons_succ])
 have H := HZ4.out
 clear HZ4
 by_cases c7 : t126 < 0
 ·rw [if_pos c7] at H
  have c7b0 : decide (t126 < 0) = true := decide_eq_true c7
  clear c7
  (first | rw [c7b0] | (simp only [i64_w, i32_w]; rw [c7b0]) | skip)
  obtain rfl := Option.some.inj H
  go_wp2
  go_ret
  exact ⟨y6, (y2 HB.out GE125.out)⟩
 ·rw [if_neg c7] at H
  have c7b0 : decide (t126 < 0) = false := decide_eq_false c7
  clear c7
  (first | rw [c7b0] | (simp only [i64_w, i32_w]; rw [c7b0]) | skip)
  by_cases c8 : (wrap64 (t126 - (a0_2.size : Int))) < 0
  ·rw [if_pos c8] at H
   have c8b0 : decide ((wrap64 (t126 - (a0_2.size : Int))) < 0) = true := decide_eq_true c8
   clear c8
   obtain rfl := Option.some.inj H
   have hcz9_0 := zh BK125
   have hcz9_1 := zh1 BK125
   have hcz9_2 := zh2 BK125
   have hcz9_3 : w5.cell? ⟨gb125, 3, none⟩ = some (.slice A0_3 l0_3.length c0_3) := (blk_cell BK125.out 3).trans rfl
   have hcz9_4 : w5.cell? ⟨gb125, 4, none⟩ = some (.slice A0_4 l0_4.length c0_4) := (blk_cell BK125.out 4).trans rfl
   have hcz9_5 : w5.cell? ⟨gb125, 5, none⟩ = some (.slice A0_5 l0_5.length c0_5) := (blk_cell BK125.out 5).trans rfl
   have hcz9_6 : w5.cell? ⟨gb125, 6, none⟩ = some (.slice A0_6 l0_6.length c0_6) := (blk_cell BK125.out 6).trans rfl
   have hcz9_7 : w5.cell? ⟨gb125, 7, none⟩ = some (.slice A0_7 l0_7.length c0_7) := (blk_cell BK125.out 7).trans rfl
   have hfz9_0 := zfr BK125 0
   have hfz9_1 := zfr BK125 1
   have hfz9_2 := zfr BK125 2
   have hfz9_3 := zfr BK125 3
   have hfz9_4 := zfr BK125 4
   have hfz9_5 := zfr BK125 5
   have hfz9_6 := zfr BK125 6
   have hfz9_7 := zfr BK125 7
   go_wp2
   go_ret
   exact ⟨y6, (y2 HB.out GE125.out)⟩
  ·rw [if_neg c8] at H
   have c8b0 : decide ((wrap64 (t126 - (a0_2.size : Int))) < 0) = false := decide_eq_false c8
   clear c8
   obtain ⟨t127, A100, H⟩ := ob H
   have A10 := Aside0.mk A100
   clear A100
   have HZ11 := Aside0.mk H
   clear H
   have hcz12_0 := zh BK125
   have hcz12_1 := zh1 BK125
   have hcz12_2 := zh2 BK125
   have hcz12_3 : w5.cell? ⟨gb125, 3, none⟩ = some (.slice A0_3 l0_3.length c0_3) := (blk_cell BK125.out 3).trans rfl
   have hcz12_4 : w5.cell? ⟨gb125, 4, none⟩ = some (.slice A0_4 l0_4.length c0_4) := (blk_cell BK125.out 4).trans rfl
   have hcz12_5 : w5.cell? ⟨gb125, 5, none⟩ = some (.slice A0_5 l0_5.length c0_5) := (blk_cell BK125.out 5).trans rfl
   have hcz12_6 : w5.cell? ⟨gb125, 6, none⟩ = some (.slice A0_6 l0_6.length c0_6) := (blk_cell BK125.out 6).trans rfl
   have hcz12_7 : w5.cell? ⟨gb125, 7, none⟩ = some (.slice A0_7 l0_7.length c0_7) := (blk_cell BK125.out 7).trans rfl
   have hfz12_0 := zfr BK125 0
   have hfz12_1 := zfr BK125 1
   have hfz12_2 := zfr BK125 2
   have hfz12_3 := zfr BK125 3
   have hfz12_4 := zfr BK125 4
   have hfz12_5 := zfr BK125 5
   have hfz12_6 := zfr BK125 6
   have hfz12_7 := zfr BK125 7
   go_upto_if 23 with (first | ((with_reducible refine gate_callee (f := 48) rfl ?_); refine goesL_ (some 21) rfl rfl Try.func48 (by kernel_rfl) rfl #[.slice A0_3 l0_3.length c0_3, .int .i64 (wrap64 (t126 - (a0_2.size : Int)))] rfl y3 ?_; (with_reducible refine (laws_szTermS.calls k _ _ l0_3 (wrap64 (t126 - (a0_2.size : Int))) t127 _ ?side1 ?side2 A10.out).mono ?_); (case side1 => exact y20 HR0_3.out HB.out GE125.out); (case side2 => exact HC0_3.out); rintro e w13 ⟨rfl, hb⟩; refine ⟨_, rfl, ?_⟩; replace BK125 := zbb BK125 hb; replace HB := Aside0.mk (below_step (y2 HB.out GE125.out) hb); (try clear hb); (try clear hb2); (try clear hk); (try clear hi)))
   (try simp only [Act.put, List.setIfInBounds_toArray, List.set_cons_zero, List.set_cons_succ])
   have H := HZ11.out
   clear HZ11
   by_cases c14 : t127 < 0
   ·rw [if_pos c14] at H
    have c14b0 : decide (t127 < 0) = true := decide_eq_true c14
    clear c14
    (first | rw [c14b0] | (simp only [i64_w, i32_w]; rw [c14b0]) | skip)
    obtain rfl := Option.some.inj H
    go_wp2
    go_ret
    exact ⟨y6, (y2 HB.out GE125.out)⟩
   ·rw [if_neg c14] at H
    have c14b0 : decide (t127 < 0) = false := decide_eq_false c14
    clear c14
    (first | rw [c14b0] | (simp only [i64_w, i32_w]; rw [c14b0]) | skip)
    obtain ⟨t128, A150, H⟩ := ob H
    have A15 := Aside0.mk A150
    clear A150
    have HZ16 := Aside0.mk H
    clear H
    have hcz17_0 := zh BK125
    have hcz17_1 := zh1 BK125
    have hcz17_2 := zh2 BK125
    have hcz17_3 : w13.cell? ⟨gb125, 3, none⟩ = some (.slice A0_3 l0_3.length c0_3) := (blk_cell BK125.out 3).trans rfl
    have hcz17_4 : w13.cell? ⟨gb125, 4, none⟩ = some (.slice A0_4 l0_4.length c0_4) := (blk_cell BK125.out 4).trans rfl
    have hcz17_5 : w13.cell? ⟨gb125, 5, none⟩ = some (.slice A0_5 l0_5.length c0_5) := (blk_cell BK125.out 5).trans rfl
    have hcz17_6 : w13.cell? ⟨gb125, 6, none⟩ = some (.slice A0_6 l0_6.length c0_6) := (blk_cell BK125.out 6).trans rfl
    have hcz17_7 : w13.cell? ⟨gb125, 7, none⟩ = some (.slice A0_7 l0_7.length c0_7) := (blk_cell BK125.out 7).trans rfl
    have hfz17_0 := zfr BK125 0
    have hfz17_1 := zfr BK125 1
    have hfz17_2 := zfr BK125 2
    have hfz17_3 := zfr BK125 3
    have hfz17_4 := zfr BK125 4
    have hfz17_5 := zfr BK125 5
    have hfz17_6 := zfr BK125 6
    have hfz17_7 := zfr BK125 7
    go_upto_if 29 with (first | ((with_reducible refine gate_callee (f := 32) rfl ?_); refine goesL_ (some 27) rfl rfl Try.func32 (by kernel_rfl) rfl #[.agg #[.slice A0_4 l0_4.length c0_4, .slice A0_5 l0_5.length c0_5], .int .i64 t127] rfl y3 ?_; (with_reducible refine (laws_szBody.Fcalls rec_ IH k _ _ l0_4 _ _ l0_5 t127 t128 _ ?side1 ?side2 ?side3 ?side4 A15.out).mono ?_); (case side1 => exact y0 HR0_4.out HB.out); (case side2 => exact HC0_4.out); (case side3 => exact y0 HR0_5.out HB.out); (case side4 => exact HC0_5.out); rintro e w18 ⟨rfl, hb⟩; refine ⟨_, rfl, ?_⟩; replace BK125 := zbb BK125 hb; replace HB := Aside0.mk (below_step (y2 HB.out GE125.out) hb); (try clear hb); (try clear hb2); (try clear hk); (try clear hi)))
    (try simp only [Act.put, List.setIfInBounds_toArray, List.set_cons_zero, List.set_cons_succ])
    have H := HZ16.out
    clear HZ16
    by_cases c19 : t128 < 0
    ·rw [if_pos c19] at H
     have c19b0 : decide (t128 < 0) = true := decide_eq_true c19
     clear c19
     (first | rw [c19b0] | (simp only [i64_w, i32_w]; rw [c19b0]) | skip)
     obtain rfl := Option.some.inj H
     go_wp2
     go_ret
     exact ⟨y6, (y2 HB.out GE125.out)⟩
    ·rw [if_neg c19] at H
     have c19b0 : decide (t128 < 0) = false := decide_eq_false c19
     clear c19
     (first | rw [c19b0] | (simp only [i64_w, i32_w]; rw [c19b0]) | skip)
     obtain ⟨t129, A200, H⟩ := ob H
     have A20 := Aside0.mk A200
     clear A200
     have HZ21 := Aside0.mk H
     clear H
     have hcz22_0 := zh BK125
     have hcz22_1 := zh1 BK125
     have hcz22_2 := zh2 BK125
     have hcz22_3 : w18.cell? ⟨gb125, 3, none⟩ = some (.slice A0_3 l0_3.length c0_3) := (blk_cell BK125.out 3).trans rfl
     have hcz22_4 : w18.cell? ⟨gb125, 4, none⟩ = some (.slice A0_4 l0_4.length c0_4) := (blk_cell BK125.out 4).trans rfl
     have hcz22_5 : w18.cell? ⟨gb125, 5, none⟩ = some (.slice A0_5 l0_5.length c0_5) := (blk_cell BK125.out 5).trans rfl
     have hcz22_6 : w18.cell? ⟨gb125, 6, none⟩ = some (.slice A0_6 l0_6.length c0_6) := (blk_cell BK125.out 6).trans rfl
     have hcz22_7 : w18.cell? ⟨gb125, 7, none⟩ = some (.slice A0_7 l0_7.length c0_7) := (blk_cell BK125.out 7).trans rfl
     have hfz22_0 := zfr BK125 0
     have hfz22_1 := zfr BK125 1
     have hfz22_2 := zfr BK125 2
     have hfz22_3 := zfr BK125 3
     have hfz22_4 := zfr BK125 4
     have hfz22_5 := zfr BK125 5
     have hfz22_6 := zfr BK125 6
     have hfz22_7 := zfr BK125 7
     go_upto_if 35 with (first | ((with_reducible refine gate_callee (f := 32) rfl ?_); refine goesL_ (some 33) rfl rfl Try.func32 (by kernel_rfl) rfl #[.agg #[.slice A0_6 l0_6.length c0_6, .slice A0_7 l0_7.length c0_7], .int .i64 t128] rfl y3 ?_; (with_reducible refine (laws_szBody.Fcalls rec_ IH k _ _ l0_6 _ _ l0_7 t128 t129 _ ?side1 ?side2 ?side3 ?side4 A20.out).mono ?_); (case side1 => exact y0 HR0_6.out HB.out); (case side2 => exact HC0_6.out); (case side3 => exact y0 HR0_7.out HB.out); (case side4 => exact HC0_7.out); rintro e w23 ⟨rfl, hb⟩; refine ⟨_, rfl, ?_⟩; replace BK125 := zbb BK125 hb; replace HB := Aside0.mk (below_step (y2 HB.out GE125.out) hb); (try clear hb); (try clear hb2); (try clear hk); (try clear hi)))
     (try simp only [Act.put, List.setIfInBounds_toArray, List.set_cons_zero, List.set_cons_succ])
     have H := HZ21.out
     clear HZ21
     by_cases c24 : t129 < 0
     ·rw [if_pos c24] at H
      have c24b0 : decide (t129 < 0) = true := decide_eq_true c24
      clear c24
      (first | rw [c24b0] | (simp only [i64_w, i32_w]; rw [c24b0]) | skip)
      obtain rfl := Option.some.inj H
      go_wp2
      go_ret
      exact ⟨y6, (y2 HB.out GE125.out)⟩
     ·rw [if_neg c24] at H
      have c24b0 : decide (t129 < 0) = false := decide_eq_false c24
      clear c24
      (first | rw [c24b0] | (simp only [i64_w, i32_w]; rw [c24b0]) | skip)
      obtain rfl := Option.some.inj H
      go_wp2
      go_ret
      exact ⟨y6, (y2 HB.out GE125.out)⟩
set_option maxHeartbeats 8000000 in
set_option maxRecDepth 100000 in
theorem laws_szBindS.calls (k : Nat) : ∀ (A0 : Option Addr) (c0 : Nat) (l0 : List (S93)) (a1 : Int) (r : Int) (w : World) (hr0 : Kd.C k93 w A0 l0.length l0) (hc0 : l0.length ≤ c0) (h : laws_szBindS.f k l0 a1 = some r),
  Calls Try.prog 47 #[.slice A0 l0.length c0, .int .i64 a1] w fun e w' => e = .returned (.int .i64 r) ∧ Below w.heap.size w w' := by
 induction k using Nat.strongRecOn with
 | _ k ih =>
 intro A0 c0 l0 a1 r w hr0 hc0 h
 cases k with
 | zero => exact absurd h (by simp [laws_szBindS.f])
 | succ k =>
 simp only [laws_szBindS.f] at h
 have hu93 := Try.underlying93
 have HR0 := Aside0.mk hr0
 have HC0 := Aside0.mk hc0
 clear hr0 hc0
 have HB := Aside0.mk (Below.refl w.heap.size w)
 have H : (if (wrap64 (a1 - (l0.length : Int))) < 0 then (some (-1)) else (laws_szBindS.l0 k l0 (wrap64 (a1 - (l0.length : Int))) 0)) = some r := h
 clear h
 by_cases c3 : (wrap64 (a1 - (l0.length : Int))) < 0
 ·rw [if_pos c3] at H
  have c3b0 : decide ((wrap64 (a1 - (l0.length : Int))) < 0) = true := decide_eq_true c3
  clear c3
  obtain rfl := Option.some.inj H
  go_enter Try.func47, Try.ntmps47
  go_wp2
  go_ret
  exact ⟨y6, (y1 HB.out)⟩
 ·rw [if_neg c3] at H
  have c3b0 : decide ((wrap64 (a1 - (l0.length : Int))) < 0) = false := decide_eq_false c3
  clear c3
  have H' := Aside0.mk H
  clear H
  go_enter Try.func47, Try.ntmps47
  go_wp2
  go_loopg [1, 5] k (fun kq v1 v5 w' => ∃ (x1_1 : Int) (x5_1 : Int), v1 = .int .i64 x1_1 ∧ v5 = .int .i64 x5_1 ∧ Aside0 (laws_szBindS.l0 kq l0 x1_1 x5_1 = some r) ∧ Aside0 (kq ≤ k) ∧ Aside0 (Below w.heap.size w w'))
  case atStart => exact ⟨(wrap64 (a1 - (l0.length : Int))), (0), y7, y7, H', ⟨Nat.le_refl _⟩, ⟨(y1 HB.out)⟩⟩
  case round =>
   clear H'
   try clear p2
   try clear c3
   try clear c3b0
   obtain ⟨x1_1, x5_1, rfl, rfl, HA, HK1, HB⟩ := hrel
   cases gk with
   | zero => exact absurd HA.out (by simp [laws_szBindS.l0])
   | succ k1 =>
    have H := HA.out
    clear HA
    simp only [laws_szBindS.l0] at H
    by_cases c4 : x5_1 < (l0.length : Int)
    ·rw [if_pos c4] at H
     have c4b0 : decide (x5_1 < (l0.length : Int)) = true := decide_eq_true c4
     clear c4
     by_cases c5 : 0 ≤ x5_1
     ·rw [if_pos c5] at H
      have c5b0 : decide (0 ≤ x5_1) = true := decide_eq_true c5
      clear c5
      obtain ⟨t131, A60, H⟩ := ob H
      have A6 := Aside0.mk A60
      clear A60
      have HZ7 := Aside0.mk H
      clear H
      have p130 : 0 ≤ (x5_1 : Int) := of_decide_eq_true y4
      have q130 : x5_1 < (l0.length : Int) := of_decide_eq_true y4
      obtain ⟨ad130, A130_1, c130_1, A130_3, c130_3, A130_4, c130_4, A130_5, c130_5, A130_6, c130_6, A130_7, c130_7, e130, hx130_0, hx130_1, hx130_2, hx130_3, hx130_4, hx130_5, hx130_6, hx130_7, hl130_1, hi130_1, hl130_3, hi130_3, hl130_4, hi130_4, hl130_5, hi130_5, hl130_6, hi130_6, hl130_7, hi130_7⟩ := at_T93 HR0.out x5_1 p130 q130
      cases e130
      replace hx130_0 := (HB.out.cell (World.block_lt_of_cell? w _ hx130_0)).trans hx130_0
      replace hx130_1 := (HB.out.cell (World.block_lt_of_cell? w _ hx130_1)).trans hx130_1
      replace hx130_2 := (HB.out.cell (World.block_lt_of_cell? w _ hx130_2)).trans hx130_2
      replace hx130_3 := (HB.out.cell (World.block_lt_of_cell? w _ hx130_3)).trans hx130_3
      replace hx130_4 := (HB.out.cell (World.block_lt_of_cell? w _ hx130_4)).trans hx130_4
      replace hx130_5 := (HB.out.cell (World.block_lt_of_cell? w _ hx130_5)).trans hx130_5
      replace hx130_6 := (HB.out.cell (World.block_lt_of_cell? w _ hx130_6)).trans hx130_6
      replace hx130_7 := (HB.out.cell (World.block_lt_of_cell? w _ hx130_7)).trans hx130_7
      have HR130_1 := Aside0.mk hi130_1
      have HC130_1 := Aside0.mk hl130_1
      clear hi130_1 hl130_1
      have HR130_3 := Aside0.mk hi130_3
      have HC130_3 := Aside0.mk hl130_3
      clear hi130_3 hl130_3
      have HR130_4 := Aside0.mk hi130_4
      have HC130_4 := Aside0.mk hl130_4
      clear hi130_4 hl130_4
      have HR130_5 := Aside0.mk hi130_5
      have HC130_5 := Aside0.mk hl130_5
      clear hi130_5 hl130_5
      have HR130_6 := Aside0.mk hi130_6
      have HC130_6 := Aside0.mk hl130_6
      clear hi130_6 hl130_6
      have HR130_7 := Aside0.mk hi130_7
      have HC130_7 := Aside0.mk hl130_7
      clear hi130_7 hl130_7
      replace p130 := eq_true p130
      replace q130 := eq_true q130
      go_upto_if 25 with (first | ((with_reducible refine gate_callee (f := 59) rfl ?_); refine goesL_ (some 23) rfl rfl Try.func59 (by kernel_rfl) rfl #[.agg #[.int .i64 ((rd_T93 l0 x5_1).f0), .slice A130_1 ((rd_T93 l0 x5_1).f1).length c130_1, .string ((rd_T93 l0 x5_1).f2), .slice A130_3 ((rd_T93 l0 x5_1).f3).length c130_3, .slice A130_4 ((rd_T93 l0 x5_1).f4.f0).length c130_4, .slice A130_5 ((rd_T93 l0 x5_1).f4.f1).length c130_5, .slice A130_6 ((rd_T93 l0 x5_1).f5.f0).length c130_6, .slice A130_7 ((rd_T93 l0 x5_1).f5.f1).length c130_7], .int .i64 x1_1] rfl y3 ?_; (with_reducible refine (laws_szBind.Fcalls (laws_szBindS.f k1) (ih k1 (y30 HK1.out)) k1 ((rd_T93 l0 x5_1).f0) _ _ ((rd_T93 l0 x5_1).f1) ((rd_T93 l0 x5_1).f2) _ _ ((rd_T93 l0 x5_1).f3) _ _ ((rd_T93 l0 x5_1).f4.f0) _ _ ((rd_T93 l0 x5_1).f4.f1) _ _ ((rd_T93 l0 x5_1).f5.f0) _ _ ((rd_T93 l0 x5_1).f5.f1) x1_1 t131 _ ?side1 ?side2 ?side3 ?side4 ?side5 ?side6 ?side7 ?side8 ?side9 ?side10 ?side11 ?side12 A6.out).mono ?_); (case side1 => exact y0 HR130_1.out HB.out); (case side2 => exact HC130_1.out); (case side3 => exact y0 HR130_3.out HB.out); (case side4 => exact HC130_3.out); (case side5 => exact y0 HR130_4.out HB.out); (case side6 => exact HC130_4.out); (case side7 => exact y0 HR130_5.out HB.out); (case side8 => exact HC130_5.out); (case side9 => exact y0 HR130_6.out HB.out); (case side10 => exact HC130_6.out); (case side11 => exact y0 HR130_7.out HB.out); (case side12 => exact HC130_7.out); rintro e w8 ⟨rfl, hb⟩; refine ⟨_, rfl, ?_⟩; replace HB := Aside0.mk (below_step (y1 HB.out) hb); (try clear hb); (try clear hb2); (try clear hk); (try clear hi)))
      (try simp only [Act.put, List.setIfInBounds_toArray, List.set_cons_zero, List.set_cons_succ])
      have H := HZ7.out
      clear HZ7
      by_cases c9 : t131 < 0
      ·rw [if_pos c9] at H
       have c9b0 : decide (t131 < 0) = true := decide_eq_true c9
       clear c9
       (first | rw [c9b0] | (simp only [i64_w, i32_w]; rw [c9b0]) | skip)
       obtain rfl := Option.some.inj H
       go_wp2
       go_ret
       exact ⟨y6, (y1 HB.out)⟩
      ·rw [if_neg c9] at H
       have c9b0 : decide (t131 < 0) = false := decide_eq_false c9
       clear c9
       (first | rw [c9b0] | (simp only [i64_w, i32_w]; rw [c9b0]) | skip)
       have H' := Aside0.mk H
       clear H
       go_wp2
       go_roundg k1
       case measure => have := HK1.out; omega
       case rel => exact ⟨(t131), (wrap64 (x5_1 + 1)), y7, y7, H', ⟨(y30 HK1.out)⟩, ⟨(y1 HB.out)⟩⟩
     ·rw [if_neg c5] at H
      exact absurd H (by simp)
    ·rw [if_neg c4] at H
     have c4b0 : decide (x5_1 < (l0.length : Int)) = false := decide_eq_false c4
     clear c4
     obtain rfl := Option.some.inj H
     go_wp2
     go_ret
     exact ⟨y6, (y1 HB.out)⟩
def laws_szBody.f (k : Nat) (l0_0 : List (S93)) (l0_1 : List (S96)) (a1 : Int) : Option (Int) := laws_szBody.F (laws_szBindS.f k) k l0_0 l0_1 a1
theorem laws_szBody.mono : ∀ a0 a1 a2 k, LeO (laws_szBody.f k a0 a1 a2) (laws_szBody.f (k + 1) a0 a1 a2) := fun a0 a1 a2 k => laws_szBody.Fmono (fun y0 y1 => laws_szBindS.mono y0 y1 k) a0 a1 a2 k
theorem laws_szBody.calls (k : Nat) (A0_0 : Option Addr) (c0_0 : Nat) (l0_0 : List (S93)) (A0_1 : Option Addr) (c0_1 : Nat) (l0_1 : List (S96)) (a1 : Int) (r : Int) (w : World) (hr0_0 : Kd.C k93 w A0_0 l0_0.length l0_0) (hc0_0 : l0_0.length ≤ c0_0) (hr0_1 : Kd.C k96 w A0_1 l0_1.length l0_1) (hc0_1 : l0_1.length ≤ c0_1) (h : laws_szBody.f k l0_0 l0_1 a1 = some r) :
  Calls Try.prog 32 #[.agg #[.slice A0_0 l0_0.length c0_0, .slice A0_1 l0_1.length c0_1], .int .i64 a1] w fun e w' => e = .returned (.int .i64 r) ∧ Below w.heap.size w w' := laws_szBody.Fcalls (laws_szBindS.f k) (laws_szBindS.calls k) k A0_0 c0_0 l0_0 A0_1 c0_1 l0_1 a1 r w hr0_0 hc0_0 hr0_1 hc0_1 h
def laws_szBind.f (k : Nat) (a0_0 : Int) (l0_1 : List ByteArray) (a0_2 : ByteArray) (l0_3 : List (S96)) (l0_4 : List (S93)) (l0_5 : List (S96)) (l0_6 : List (S93)) (l0_7 : List (S96)) (a1 : Int) : Option (Int) := laws_szBind.F (laws_szBindS.f k) k a0_0 l0_1 a0_2 l0_3 l0_4 l0_5 l0_6 l0_7 a1
theorem laws_szBind.mono : ∀ a0 a1 a2 a3 a4 a5 a6 a7 a8 k, LeO (laws_szBind.f k a0 a1 a2 a3 a4 a5 a6 a7 a8) (laws_szBind.f (k + 1) a0 a1 a2 a3 a4 a5 a6 a7 a8) := fun a0 a1 a2 a3 a4 a5 a6 a7 a8 k => laws_szBind.Fmono (fun y0 y1 => laws_szBindS.mono y0 y1 k) a0 a1 a2 a3 a4 a5 a6 a7 a8 k
theorem laws_szBind.calls (k : Nat) (a0_0 : Int) (A0_1 : Option Addr) (c0_1 : Nat) (l0_1 : List ByteArray) (a0_2 : ByteArray) (A0_3 : Option Addr) (c0_3 : Nat) (l0_3 : List (S96)) (A0_4 : Option Addr) (c0_4 : Nat) (l0_4 : List (S93)) (A0_5 : Option Addr) (c0_5 : Nat) (l0_5 : List (S96)) (A0_6 : Option Addr) (c0_6 : Nat) (l0_6 : List (S93)) (A0_7 : Option Addr) (c0_7 : Nat) (l0_7 : List (S96)) (a1 : Int) (r : Int) (w : World) (hr0_1 : Kd.C Kd.string w A0_1 l0_1.length l0_1) (hc0_1 : l0_1.length ≤ c0_1) (hr0_3 : Kd.C k96 w A0_3 l0_3.length l0_3) (hc0_3 : l0_3.length ≤ c0_3) (hr0_4 : Kd.C k93 w A0_4 l0_4.length l0_4) (hc0_4 : l0_4.length ≤ c0_4) (hr0_5 : Kd.C k96 w A0_5 l0_5.length l0_5) (hc0_5 : l0_5.length ≤ c0_5) (hr0_6 : Kd.C k93 w A0_6 l0_6.length l0_6) (hc0_6 : l0_6.length ≤ c0_6) (hr0_7 : Kd.C k96 w A0_7 l0_7.length l0_7) (hc0_7 : l0_7.length ≤ c0_7) (h : laws_szBind.f k a0_0 l0_1 a0_2 l0_3 l0_4 l0_5 l0_6 l0_7 a1 = some r) :
  Calls Try.prog 59 #[.agg #[.int .i64 a0_0, .slice A0_1 l0_1.length c0_1, .string a0_2, .slice A0_3 l0_3.length c0_3, .slice A0_4 l0_4.length c0_4, .slice A0_5 l0_5.length c0_5, .slice A0_6 l0_6.length c0_6, .slice A0_7 l0_7.length c0_7], .int .i64 a1] w fun e w' => e = .returned (.int .i64 r) ∧ Below w.heap.size w w' := laws_szBind.Fcalls (laws_szBindS.f k) (laws_szBindS.calls k) k a0_0 A0_1 c0_1 l0_1 a0_2 A0_3 c0_3 l0_3 A0_4 c0_4 l0_4 A0_5 c0_5 l0_5 A0_6 c0_6 l0_6 A0_7 c0_7 l0_7 a1 r w hr0_1 hc0_1 hr0_3 hc0_3 hr0_4 hc0_4 hr0_5 hc0_5 hr0_6 hc0_6 hr0_7 hc0_7 h
end Go.Proofs.Ytdgpegkgelciaaa.PA
end
section
namespace Go.Proofs.Ytdgpegkgelciaaa.PA
open Go.RowKit Go.Proofs.YtdgpegkgelciaaaW.PrintWords Go.Proofs.YtdgpegkgelciaaaW.PrintLast Go.Proofs.YtdgpegkgelciaaaW.PrintMore
attribute [local go_sem] max2_int min2_int max_two min_two max_three min_three max_four min_four
set_option linter.unusedVariables false
set_option linter.unusedSimpArgs false
def laws_szPure.f (k : Nat) (a0_0 : ByteArray) (l0_1 : List ByteArray) (l0_2 : List (S93)) (l0_3 : List (S96)) (a1 : Int) : Option (Int) := if (wrap64 (a1 - (a0_0.size : Int))) < 0 then (some (-1)) else ((laws_szStringS.f k l0_1 (wrap64 (a1 - (a0_0.size : Int)))).bind fun t133 => (if t133 < 0 then (some (-1)) else ((laws_szBody.f k l0_2 l0_3 t133).bind fun t134 => (if t134 < 0 then (some (-1)) else (some t134)))))
theorem laws_szPure.mono : ∀ a0 a1 a2 a3 a4 k, LeO (laws_szPure.f k a0 a1 a2 a3 a4) (laws_szPure.f (k + 1) a0 a1 a2 a3 a4) := by
 intro a0 a1 a2 a3 a4 k
 unfold laws_szPure.f
 repeat' first
   | (with_reducible exact laws_szBody.mono _ _ _ _)
   | (with_reducible exact laws_szStringS.mono _ _ _)
   | (with_reducible exact LeO.refl _)
   | (with_reducible exact LeO.none _)
   | (with_reducible refine LeO.ite ?_ ?_)
   | (with_reducible refine LeO.bind ?_ (fun _ => ?_))
   | exact laws_szBody.mono _ _ _ _
   | exact laws_szStringS.mono _ _ _
   | exact LeO.none _
   | refine LeO.ite ?_ ?_
   | refine LeO.bind ?_ (fun _ => ?_)
set_option maxHeartbeats 8000000 in
set_option maxRecDepth 100000 in
theorem laws_szPure.calls (k : Nat) (a0_0 : ByteArray) (A0_1 : Option Addr) (c0_1 : Nat) (l0_1 : List ByteArray) (A0_2 : Option Addr) (c0_2 : Nat) (l0_2 : List (S93)) (A0_3 : Option Addr) (c0_3 : Nat) (l0_3 : List (S96)) (a1 : Int) (r : Int) (w : World) (hr0_1 : Kd.C Kd.string w A0_1 l0_1.length l0_1) (hc0_1 : l0_1.length ≤ c0_1) (hr0_2 : Kd.C k93 w A0_2 l0_2.length l0_2) (hc0_2 : l0_2.length ≤ c0_2) (hr0_3 : Kd.C k96 w A0_3 l0_3.length l0_3) (hc0_3 : l0_3.length ≤ c0_3) (h : laws_szPure.f k a0_0 l0_1 l0_2 l0_3 a1 = some r) :
  Calls Try.prog 15 #[.agg #[.string a0_0, .slice A0_1 l0_1.length c0_1, .slice A0_2 l0_2.length c0_2, .slice A0_3 l0_3.length c0_3], .int .i64 a1] w fun e w' => e = .returned (.int .i64 r) ∧ Below w.heap.size w w' := by
 have hu37 := Try.underlying37
 have hu35 := Try.underlying35
 have HR0_1 := Aside0.mk hr0_1
 have HC0_1 := Aside0.mk hc0_1
 clear hr0_1 hc0_1
 have HR0_2 := Aside0.mk hr0_2
 have HC0_2 := Aside0.mk hc0_2
 clear hr0_2 hc0_2
 have HR0_3 := Aside0.mk hr0_3
 have HC0_3 := Aside0.mk hc0_3
 clear hr0_3 hc0_3
 have HB := Aside0.mk (Below.refl w.heap.size w)
 have H : (if (wrap64 (a1 - (a0_0.size : Int))) < 0 then (some (-1)) else ((laws_szStringS.f k l0_1 (wrap64 (a1 - (a0_0.size : Int)))).bind fun t133 => (if t133 < 0 then (some (-1)) else ((laws_szBody.f k l0_2 l0_3 t133).bind fun t134 => (if t134 < 0 then (some (-1)) else (some t134)))))) = some r := h
 clear h
 have HZ3 := Aside0.mk H
 clear H
 go_enter Try.func15, Try.ntmps15
 go_upto_if 11 with (first | ((with_reducible refine gate_dst (N := 2) rfl ?_); refine zbx 2 #[.string a0_0, .slice A0_1 l0_1.length c0_1, .slice A0_2 l0_2.length c0_2, .slice A0_3 l0_3.length c0_3] 37 ?_; intro gb132 hg w4 hbox hb; have BK132 := Aside0.mk hbox; have GW132 := Aside0.mk ((y9 hg HB.out : w.heap.size ≤ gb132)); have GE132 := Aside0.mk ((y9 hg HB.out : w.heap.size ≤ gb132)); replace HB := Aside0.mk (below_step (y1 HB.out) hb); clear hb hbox hg; have hcz5_0 := zh BK132; have hcz5_1 := zh1 BK132; have hcz5_2 := zh2 BK132; have hcz5_3 : w4.cell? ⟨gb132, 3, none⟩ = some (.slice A0_3 l0_3.length c0_3) := (blk_cell BK132.out 3).trans rfl; have hfz5_0 := zfr BK132 0; have hfz5_1 := zfr BK132 1; have hfz5_2 := zfr BK132 2; have hfz5_3 := zfr BK132 3))
 (try simp only [Act.put, List.setIfInBounds_toArray, List.set_cons_zero, List.set_cons_succ])
 have H := HZ3.out
 clear HZ3
 by_cases c6 : (wrap64 (a1 - (a0_0.size : Int))) < 0
 ·rw [if_pos c6] at H
  have c6b0 : decide ((wrap64 (a1 - (a0_0.size : Int))) < 0) = true := decide_eq_true c6
  clear c6
  (first | rw [c6b0] | (simp only [i64_w, i32_w]; rw [c6b0]) | skip)
  obtain rfl := Option.some.inj H
  go_wp2
  go_ret
  exact ⟨y6, (y2 HB.out GE132.out)⟩
 ·rw [if_neg c6] at H
  have c6b0 : decide ((wrap64 (a1 - (a0_0.size : Int))) < 0) = false := decide_eq_false c6
  clear c6
  (first | rw [c6b0] | (simp only [i64_w, i32_w]; rw [c6b0]) | skip)
  obtain ⟨t133, A70, H⟩ := ob H
  have A7 := Aside0.mk A70
  clear A70
  have HZ8 := Aside0.mk H
  clear H
  have hcz9_0 := zh BK132
  have hcz9_1 := zh1 BK132
  have hcz9_2 := zh2 BK132
  have hcz9_3 : w4.cell? ⟨gb132, 3, none⟩ = some (.slice A0_3 l0_3.length c0_3) := (blk_cell BK132.out 3).trans rfl
  have hfz9_0 := zfr BK132 0
  have hfz9_1 := zfr BK132 1
  have hfz9_2 := zfr BK132 2
  have hfz9_3 := zfr BK132 3
  go_upto_if 17 with (first | ((with_reducible refine gate_callee (f := 31) rfl ?_); refine goesL_ (some 15) rfl rfl Try.func31 (by kernel_rfl) rfl #[.slice A0_1 l0_1.length c0_1, .int .i64 (wrap64 (a1 - (a0_0.size : Int)))] rfl y3 ?_; (with_reducible refine (laws_szStringS.calls k _ _ l0_1 (wrap64 (a1 - (a0_0.size : Int))) t133 _ ?side1 ?side2 A7.out).mono ?_); (case side1 => exact y0 HR0_1.out HB.out); (case side2 => exact HC0_1.out); rintro e w' ⟨rfl, ⟨nd, rfl⟩⟩; refine ⟨_, rfl, ?_⟩))
  (try simp only [Act.put, List.setIfInBounds_toArray, List.set_cons_zero, List.set_cons_succ])
  have H := HZ8.out
  clear HZ8
  by_cases c10 : t133 < 0
  ·rw [if_pos c10] at H
   have c10b0 : decide (t133 < 0) = true := decide_eq_true c10
   clear c10
   (first | rw [c10b0] | (simp only [i64_w, i32_w]; rw [c10b0]) | skip)
   obtain rfl := Option.some.inj H
   go_wp2
   go_ret
   exact ⟨y6, (y2 HB.out GE132.out)⟩
  ·rw [if_neg c10] at H
   have c10b0 : decide (t133 < 0) = false := decide_eq_false c10
   clear c10
   (first | rw [c10b0] | (simp only [i64_w, i32_w]; rw [c10b0]) | skip)
   obtain ⟨t134, A110, H⟩ := ob H
   have A11 := Aside0.mk A110
   clear A110
   have HZ12 := Aside0.mk H
   clear H
   have hcz13_0 := zh BK132
   have hcz13_1 := zh1 BK132
   have hcz13_2 := zh2 BK132
   have hcz13_3 : w4.cell? ⟨gb132, 3, none⟩ = some (.slice A0_3 l0_3.length c0_3) := (blk_cell BK132.out 3).trans rfl
   have hfz13_0 := zfr BK132 0
   have hfz13_1 := zfr BK132 1
   have hfz13_2 := zfr BK132 2
   have hfz13_3 := zfr BK132 3
   go_upto_if 23 with (first | ((with_reducible refine gate_callee (f := 32) rfl ?_); refine goesL_ (some 21) rfl rfl Try.func32 (by kernel_rfl) rfl #[.agg #[.slice A0_2 l0_2.length c0_2, .slice A0_3 l0_3.length c0_3], .int .i64 t133] rfl y3 ?_; (with_reducible refine (laws_szBody.calls k _ _ l0_2 _ _ l0_3 t133 t134 _ ?side1 ?side2 ?side3 ?side4 A11.out).mono ?_); (case side1 => exact y20 HR0_2.out HB.out GE132.out); (case side2 => exact HC0_2.out); (case side3 => exact y20 HR0_3.out HB.out GE132.out); (case side4 => exact HC0_3.out); rintro e w14 ⟨rfl, hb⟩; refine ⟨_, rfl, ?_⟩; replace BK132 := zbb BK132 hb; replace HB := Aside0.mk (below_step (y2 HB.out GE132.out) hb); (try clear hb); (try clear hb2); (try clear hk); (try clear hi)))
   (try simp only [Act.put, List.setIfInBounds_toArray, List.set_cons_zero, List.set_cons_succ])
   have H := HZ12.out
   clear HZ12
   by_cases c15 : t134 < 0
   ·rw [if_pos c15] at H
    have c15b0 : decide (t134 < 0) = true := decide_eq_true c15
    clear c15
    (first | rw [c15b0] | (simp only [i64_w, i32_w]; rw [c15b0]) | skip)
    obtain rfl := Option.some.inj H
    go_wp2
    go_ret
    exact ⟨y6, (y2 HB.out GE132.out)⟩
   ·rw [if_neg c15] at H
    have c15b0 : decide (t134 < 0) = false := decide_eq_false c15
    clear c15
    (first | rw [c15b0] | (simp only [i64_w, i32_w]; rw [c15b0]) | skip)
    obtain rfl := Option.some.inj H
    go_wp2
    go_ret
    exact ⟨y6, (y2 HB.out GE132.out)⟩
end Go.Proofs.Ytdgpegkgelciaaa.PA
end
section
namespace Go.Proofs.Ytdgpegkgelciaaa.PA
open Go.RowKit Go.Proofs.YtdgpegkgelciaaaW.PrintWords Go.Proofs.YtdgpegkgelciaaaW.PrintLast Go.Proofs.YtdgpegkgelciaaaW.PrintMore
attribute [local go_sem] max2_int min2_int max_two min_two max_three min_three max_four min_four
set_option linter.unusedVariables false
set_option linter.unusedSimpArgs false
def laws_szPureS.l0 : Nat → List (S37) → Int → Int → Option (Int)
 | 0, _, _, _ => none
 | k + 1, x0, x1, x5 => if x5 < (x0.length : Int) then (if 0 ≤ x5 then ((laws_szPure.f k ((rd_T37 x0 x5).f0) ((rd_T37 x0 x5).f1) ((rd_T37 x0 x5).f2.f0) ((rd_T37 x0 x5).f2.f1) x1).bind fun t136 => (if t136 < 0 then (some (-1)) else (laws_szPureS.l0 k x0 t136 (wrap64 (x5 + 1))))) else (none)) else (some x1)
def laws_szPureS.f (k : Nat) (l0 : List (S37)) (a1 : Int) : Option (Int) := if (wrap64 (a1 - (l0.length : Int))) < 0 then (some (-1)) else (laws_szPureS.l0 k l0 (wrap64 (a1 - (l0.length : Int))) 0)
theorem laws_szPureS.mono_l : ∀ k, (∀ y0 y1 y2, LeO (laws_szPureS.l0 k y0 y1 y2) (laws_szPureS.l0 (k + 1) y0 y1 y2))
 | 0 => fun _ _ _ r h => by simp [laws_szPureS.l0] at h
 | k + 1 => by
  have ih0 := laws_szPureS.mono_l k
  ·intro y0 y1 y2
   unfold laws_szPureS.l0
   repeat' first
   | (with_reducible exact ih0 _ _ _)
   | (with_reducible exact laws_szPure.mono _ _ _ _ _ _)
   | (with_reducible exact LeO.refl _)
   | (with_reducible exact LeO.none _)
   | (with_reducible refine LeO.ite ?_ ?_)
   | (with_reducible refine LeO.bind ?_ (fun _ => ?_))
   | exact ih0 _ _ _
   | exact laws_szPure.mono _ _ _ _ _ _
   | exact LeO.none _
   | refine LeO.ite ?_ ?_
   | refine LeO.bind ?_ (fun _ => ?_)
theorem laws_szPureS.mono : ∀ a0 a1 k, LeO (laws_szPureS.f k a0 a1) (laws_szPureS.f (k + 1) a0 a1) := by
 intro a0 a1 k
 have ih0 := laws_szPureS.mono_l k
 unfold laws_szPureS.f
 repeat' first
   | (with_reducible exact ih0 _ _ _)
   | (with_reducible exact laws_szPure.mono _ _ _ _ _ _)
   | (with_reducible exact LeO.refl _)
   | (with_reducible exact LeO.none _)
   | (with_reducible refine LeO.ite ?_ ?_)
   | (with_reducible refine LeO.bind ?_ (fun _ => ?_))
   | exact ih0 _ _ _
   | exact laws_szPure.mono _ _ _ _ _ _
   | exact LeO.none _
   | refine LeO.ite ?_ ?_
   | refine LeO.bind ?_ (fun _ => ?_)
set_option maxHeartbeats 8000000 in
set_option maxRecDepth 100000 in
theorem laws_szPureS.calls (k : Nat) (A0 : Option Addr) (c0 : Nat) (l0 : List (S37)) (a1 : Int) (r : Int) (w : World) (hr0 : Kd.C k37 w A0 l0.length l0) (hc0 : l0.length ≤ c0) (h : laws_szPureS.f k l0 a1 = some r) :
  Calls Try.prog 6 #[.slice A0 l0.length c0, .int .i64 a1] w fun e w' => e = .returned (.int .i64 r) ∧ Below w.heap.size w w' := by
 have hu37 := Try.underlying37
 have HR0 := Aside0.mk hr0
 have HC0 := Aside0.mk hc0
 clear hr0 hc0
 have HB := Aside0.mk (Below.refl w.heap.size w)
 have H : (if (wrap64 (a1 - (l0.length : Int))) < 0 then (some (-1)) else (laws_szPureS.l0 k l0 (wrap64 (a1 - (l0.length : Int))) 0)) = some r := h
 clear h
 by_cases c3 : (wrap64 (a1 - (l0.length : Int))) < 0
 ·rw [if_pos c3] at H
  have c3b0 : decide ((wrap64 (a1 - (l0.length : Int))) < 0) = true := decide_eq_true c3
  clear c3
  obtain rfl := Option.some.inj H
  go_enter Try.func6, Try.ntmps6
  go_wp2
  go_ret
  exact ⟨y6, (y1 HB.out)⟩
 ·rw [if_neg c3] at H
  have c3b0 : decide ((wrap64 (a1 - (l0.length : Int))) < 0) = false := decide_eq_false c3
  clear c3
  have H' := Aside0.mk H
  clear H
  go_enter Try.func6, Try.ntmps6
  go_wp2
  go_loopg [1, 5] k (fun kq v1 v5 w' => ∃ (x1_1 : Int) (x5_1 : Int), v1 = .int .i64 x1_1 ∧ v5 = .int .i64 x5_1 ∧ Aside0 (laws_szPureS.l0 kq l0 x1_1 x5_1 = some r) ∧ Aside0 (kq ≤ k) ∧ Aside0 (Below w.heap.size w w'))
  case atStart => exact ⟨(wrap64 (a1 - (l0.length : Int))), (0), y7, y7, H', ⟨Nat.le_refl _⟩, ⟨(y1 HB.out)⟩⟩
  case round =>
   clear H'
   try clear p2
   try clear c3
   try clear c3b0
   obtain ⟨x1_1, x5_1, rfl, rfl, HA, HK1, HB⟩ := hrel
   cases gk with
   | zero => exact absurd HA.out (by simp [laws_szPureS.l0])
   | succ k1 =>
    have H := HA.out
    clear HA
    simp only [laws_szPureS.l0] at H
    by_cases c4 : x5_1 < (l0.length : Int)
    ·rw [if_pos c4] at H
     have c4b0 : decide (x5_1 < (l0.length : Int)) = true := decide_eq_true c4
     clear c4
     by_cases c5 : 0 ≤ x5_1
     ·rw [if_pos c5] at H
      have c5b0 : decide (0 ≤ x5_1) = true := decide_eq_true c5
      clear c5
      obtain ⟨t136, A60, H⟩ := ob H
      have A6 := Aside0.mk A60
      clear A60
      have HZ7 := Aside0.mk H
      clear H
      have p135 : 0 ≤ (x5_1 : Int) := of_decide_eq_true y4
      have q135 : x5_1 < (l0.length : Int) := of_decide_eq_true y4
      obtain ⟨ad135, A135_1, c135_1, A135_2, c135_2, A135_3, c135_3, e135, hx135_0, hx135_1, hx135_2, hx135_3, hl135_1, hi135_1, hl135_2, hi135_2, hl135_3, hi135_3⟩ := at_T37 HR0.out x5_1 p135 q135
      cases e135
      replace hx135_0 := (HB.out.cell (World.block_lt_of_cell? w _ hx135_0)).trans hx135_0
      replace hx135_1 := (HB.out.cell (World.block_lt_of_cell? w _ hx135_1)).trans hx135_1
      replace hx135_2 := (HB.out.cell (World.block_lt_of_cell? w _ hx135_2)).trans hx135_2
      replace hx135_3 := (HB.out.cell (World.block_lt_of_cell? w _ hx135_3)).trans hx135_3
      have HR135_1 := Aside0.mk hi135_1
      have HC135_1 := Aside0.mk hl135_1
      clear hi135_1 hl135_1
      have HR135_2 := Aside0.mk hi135_2
      have HC135_2 := Aside0.mk hl135_2
      clear hi135_2 hl135_2
      have HR135_3 := Aside0.mk hi135_3
      have HC135_3 := Aside0.mk hl135_3
      clear hi135_3 hl135_3
      replace p135 := eq_true p135
      replace q135 := eq_true q135
      go_upto_if 25 with (first | ((with_reducible refine gate_callee (f := 15) rfl ?_); refine goesL_ (some 23) rfl rfl Try.func15 (by kernel_rfl) rfl #[.agg #[.string ((rd_T37 l0 x5_1).f0), .slice A135_1 ((rd_T37 l0 x5_1).f1).length c135_1, .slice A135_2 ((rd_T37 l0 x5_1).f2.f0).length c135_2, .slice A135_3 ((rd_T37 l0 x5_1).f2.f1).length c135_3], .int .i64 x1_1] rfl y3 ?_; (with_reducible refine (laws_szPure.calls k1 ((rd_T37 l0 x5_1).f0) _ _ ((rd_T37 l0 x5_1).f1) _ _ ((rd_T37 l0 x5_1).f2.f0) _ _ ((rd_T37 l0 x5_1).f2.f1) x1_1 t136 _ ?side1 ?side2 ?side3 ?side4 ?side5 ?side6 A6.out).mono ?_); (case side1 => exact y0 HR135_1.out HB.out); (case side2 => exact HC135_1.out); (case side3 => exact y0 HR135_2.out HB.out); (case side4 => exact HC135_2.out); (case side5 => exact y0 HR135_3.out HB.out); (case side6 => exact HC135_3.out); rintro e w8 ⟨rfl, hb⟩; refine ⟨_, rfl, ?_⟩; replace HB := Aside0.mk (below_step (y1 HB.out) hb); (try clear hb); (try clear hb2); (try clear hk); (try clear hi)))
      (try simp only [Act.put, List.setIfInBounds_toArray, List.set_cons_zero, List.set_cons_succ])
      have H := HZ7.out
      clear HZ7
      by_cases c9 : t136 < 0
      ·rw [if_pos c9] at H
       have c9b0 : decide (t136 < 0) = true := decide_eq_true c9
       clear c9
       (first | rw [c9b0] | (simp only [i64_w, i32_w]; rw [c9b0]) | skip)
       obtain rfl := Option.some.inj H
       go_wp2
       go_ret
       exact ⟨y6, (y1 HB.out)⟩
      ·rw [if_neg c9] at H
       have c9b0 : decide (t136 < 0) = false := decide_eq_false c9
       clear c9
       (first | rw [c9b0] | (simp only [i64_w, i32_w]; rw [c9b0]) | skip)
       have H' := Aside0.mk H
       clear H
       go_wp2
       go_roundg k1
       case measure => have := HK1.out; omega
       case rel => exact ⟨(t136), (wrap64 (x5_1 + 1)), y7, y7, H', ⟨(y30 HK1.out)⟩, ⟨(y1 HB.out)⟩⟩
     ·rw [if_neg c5] at H
      exact absurd H (by simp)
    ·rw [if_neg c4] at H
     have c4b0 : decide (x5_1 < (l0.length : Int)) = false := decide_eq_false c4
     clear c4
     obtain rfl := Option.some.inj H
     go_wp2
     go_ret
     exact ⟨y6, (y1 HB.out)⟩
end Go.Proofs.Ytdgpegkgelciaaa.PA
end
section
namespace Go.Proofs.Ytdgpegkgelciaaa.PA
open Go.RowKit Go.Proofs.YtdgpegkgelciaaaW.PrintWords Go.Proofs.YtdgpegkgelciaaaW.PrintLast Go.Proofs.YtdgpegkgelciaaaW.PrintMore
attribute [local go_sem] max2_int min2_int max_two min_two max_three min_three max_four min_four
set_option linter.unusedVariables false
set_option linter.unusedSimpArgs false
def spec_l12Arity.l0 : Nat → List (S45) → Int → ByteArray → Int → Option (Int × Int × Bool)
 | 0, _, _, _, _ => none
 | k + 1, x0, x1, x2, x9 => if x9 < x1 then (if 0 ≤ x9 then (if x9 < (x0.length : Int) then (if ((rd_T45 x0 x9).f0).toList = x2.toList then (some ((((rd_T45 x0 x9).f1).length : Int), (((rd_T45 x0 x9).f2.f1).length : Int), true)) else (spec_l12Arity.l0 k x0 x1 x2 (wrap64 (x9 + 1)))) else (none)) else (none)) else (some (0, 0, false))
def spec_l12Arity.f (k : Nat) (l0 : List (S45)) (a1 : Int) (a2 : ByteArray) : Option (Int × Int × Bool) := spec_l12Arity.l0 k l0 a1 a2 0
theorem spec_l12Arity.mono_l : ∀ k, (∀ y0 y1 y2 y3, LeO (spec_l12Arity.l0 k y0 y1 y2 y3) (spec_l12Arity.l0 (k + 1) y0 y1 y2 y3))
 | 0 => fun _ _ _ _ r h => by simp [spec_l12Arity.l0] at h
 | k + 1 => by
  have ih0 := spec_l12Arity.mono_l k
  ·intro y0 y1 y2 y3
   unfold spec_l12Arity.l0
   repeat' first
   | (with_reducible exact ih0 _ _ _ _)
   | (with_reducible exact LeO.refl _)
   | (with_reducible exact LeO.none _)
   | (with_reducible refine LeO.ite ?_ ?_)
   | (with_reducible refine LeO.bind ?_ (fun _ => ?_))
   | exact ih0 _ _ _ _
   | exact LeO.none _
   | refine LeO.ite ?_ ?_
   | refine LeO.bind ?_ (fun _ => ?_)
theorem spec_l12Arity.mono : ∀ a0 a1 a2 k, LeO (spec_l12Arity.f k a0 a1 a2) (spec_l12Arity.f (k + 1) a0 a1 a2) := by
 intro a0 a1 a2 k
 have ih0 := spec_l12Arity.mono_l k
 unfold spec_l12Arity.f
 repeat' first
   | (with_reducible exact ih0 _ _ _ _)
   | (with_reducible exact LeO.refl _)
   | (with_reducible exact LeO.none _)
   | (with_reducible refine LeO.ite ?_ ?_)
   | (with_reducible refine LeO.bind ?_ (fun _ => ?_))
   | exact ih0 _ _ _ _
   | exact LeO.none _
   | refine LeO.ite ?_ ?_
   | refine LeO.bind ?_ (fun _ => ?_)
set_option maxHeartbeats 8000000 in
set_option maxRecDepth 100000 in
theorem spec_l12Arity.calls (k : Nat) (A0 : Option Addr) (c0 : Nat) (l0 : List (S45)) (a1 : Int) (a2 : ByteArray) (r1 : Int) (r2 : Int) (r3 : Bool) (w : World) (hr0 : Kd.C k45 w A0 l0.length l0) (hc0 : l0.length ≤ c0) (h : spec_l12Arity.f k l0 a1 a2 = some (r1, r2, r3)) :
  Calls Try.prog 16 #[.slice A0 l0.length c0, .int .i64 a1, .string a2] w fun e w' => e = .returned (.tuple #[.int .i64 r1, .int .i64 r2, .bool r3]) ∧ Drawn0 w w' := by
 have HR0 := Aside0.mk hr0
 have HC0 := Aside0.mk hc0
 clear hr0 hc0
 have H : (spec_l12Arity.l0 k l0 a1 a2 0) = some (r1, r2, r3) := h
 clear h
 have H' := Aside0.mk H
 clear H
 go_enter Try.func16, Try.ntmps16
 go_wp2
 repeat (go_quiet (fail); try go_wp2)
 go_loopg [9] k (fun kq v9 w' => ∃ (x9_1 : Int), v9 = .int .i64 x9_1 ∧ Aside0 (spec_l12Arity.l0 kq l0 a1 a2 x9_1 = some (r1, r2, r3)) ∧ Aside0 (kq ≤ k) ∧ Drawn0 w w')
 case atStart => exact ⟨(0), y7, H', ⟨Nat.le_refl _⟩, y12⟩
 case round =>
  clear H'
  try clear c1
  try clear p2
  obtain ⟨x9_1, rfl, HA, HK1, ⟨m1, rfl⟩⟩ := hrel
  cases gk with
  | zero => exact absurd HA.out (by simp [spec_l12Arity.l0])
  | succ k1 =>
   have H := HA.out
   clear HA
   simp only [spec_l12Arity.l0] at H
   by_cases c4 : x9_1 < a1
   ·rw [if_pos c4] at H
    have c4b0 : decide (x9_1 < a1) = true := decide_eq_true c4
    clear c4
    by_cases c5 : 0 ≤ x9_1
    ·rw [if_pos c5] at H
     have c5b0 : decide (0 ≤ x9_1) = true := decide_eq_true c5
     clear c5
     by_cases c6 : x9_1 < (l0.length : Int)
     ·rw [if_pos c6] at H
      have c6b0 : decide (x9_1 < (l0.length : Int)) = true := decide_eq_true c6
      clear c6
      by_cases c7 : ((rd_T45 l0 x9_1).f0).toList = a2.toList
      ·rw [if_pos c7] at H
       have c7b0 : (((rd_T45 l0 x9_1).f0).toList == a2.toList) = true := beq_iff_eq.mpr c7
       have c7b1 : (((rd_T45 l0 x9_1).f0).toList != a2.toList) = false := bne_eq_false_iff_eq.mpr c7
       clear c7
       simp only [Option.some.injEq, Prod.mk.injEq] at H
       obtain ⟨rfl, rfl, rfl⟩ := H
       have p137 : 0 ≤ (x9_1 : Int) := of_decide_eq_true y4
       have q137 : x9_1 < (l0.length : Int) := of_decide_eq_true y4
       obtain ⟨ad137, A137_1, c137_1, A137_2, c137_2, A137_3, c137_3, e137, hx137_0, hx137_1, hx137_2, hx137_3, hl137_1, hi137_1, hl137_2, hi137_2, hl137_3, hi137_3⟩ := at_T45 HR0.out x9_1 p137 q137
       cases e137
       have HR137_1 := Aside0.mk hi137_1
       have HC137_1 := Aside0.mk hl137_1
       clear hi137_1 hl137_1
       have HR137_2 := Aside0.mk hi137_2
       have HC137_2 := Aside0.mk hl137_2
       clear hi137_2 hl137_2
       have HR137_3 := Aside0.mk hi137_3
       have HC137_3 := Aside0.mk hl137_3
       clear hi137_3 hl137_3
       replace p137 := eq_true p137
       replace q137 := eq_true q137
       have p138 : 0 ≤ (x9_1 : Int) := of_decide_eq_true y4
       have q138 : x9_1 < (l0.length : Int) := of_decide_eq_true y4
       obtain ⟨ad138, A138_1, c138_1, A138_2, c138_2, A138_3, c138_3, e138, hx138_0, hx138_1, hx138_2, hx138_3, hl138_1, hi138_1, hl138_2, hi138_2, hl138_3, hi138_3⟩ := at_T45 HR0.out x9_1 p138 q138
       obtain rfl : ad137 = ad138 := (by injection e138)
       have HR138_1 := Aside0.mk hi138_1
       have HC138_1 := Aside0.mk hl138_1
       clear hi138_1 hl138_1
       have HR138_2 := Aside0.mk hi138_2
       have HC138_2 := Aside0.mk hl138_2
       clear hi138_2 hl138_2
       have HR138_3 := Aside0.mk hi138_3
       have HC138_3 := Aside0.mk hl138_3
       clear hi138_3 hl138_3
       replace p138 := eq_true p138
       replace q138 := eq_true q138
       have ea_ := Option.some.inj (hx137_1.symm.trans hx138_1)
       injection ea_ with ea_ en_ ec_
       subst ea_
       subst ec_
       clear en_
       have ea_ := Option.some.inj (hx137_2.symm.trans hx138_2)
       injection ea_ with ea_ en_ ec_
       subst ea_
       subst ec_
       clear en_
       have ea_ := Option.some.inj (hx137_3.symm.trans hx138_3)
       injection ea_ with ea_ en_ ec_
       subst ea_
       subst ec_
       clear en_
       have p139 : 0 ≤ (x9_1 : Int) := of_decide_eq_true y4
       have q139 : x9_1 < (l0.length : Int) := of_decide_eq_true y4
       obtain ⟨ad139, A139_1, c139_1, A139_2, c139_2, A139_3, c139_3, e139, hx139_0, hx139_1, hx139_2, hx139_3, hl139_1, hi139_1, hl139_2, hi139_2, hl139_3, hi139_3⟩ := at_T45 HR0.out x9_1 p139 q139
       obtain rfl : ad137 = ad139 := (by injection e139)
       have HR139_1 := Aside0.mk hi139_1
       have HC139_1 := Aside0.mk hl139_1
       clear hi139_1 hl139_1
       have HR139_2 := Aside0.mk hi139_2
       have HC139_2 := Aside0.mk hl139_2
       clear hi139_2 hl139_2
       have HR139_3 := Aside0.mk hi139_3
       have HC139_3 := Aside0.mk hl139_3
       clear hi139_3 hl139_3
       replace p139 := eq_true p139
       replace q139 := eq_true q139
       have ea_ := Option.some.inj (hx137_1.symm.trans hx139_1)
       injection ea_ with ea_ en_ ec_
       subst ea_
       subst ec_
       clear en_
       have ea_ := Option.some.inj (hx137_2.symm.trans hx139_2)
       injection ea_ with ea_ en_ ec_
       subst ea_
       subst ec_
       clear en_
       have ea_ := Option.some.inj (hx137_3.symm.trans hx139_3)
       injection ea_ with ea_ en_ ec_
       subst ea_
       subst ec_
       clear en_
       go_wp2
       repeat (go_quiet (fail); try go_wp2)
       go_ret3
       exact ⟨y7, y12⟩
      ·rw [if_neg c7] at H
       have c7b0 : (((rd_T45 l0 x9_1).f0).toList == a2.toList) = false := beq_eq_false_iff_ne.mpr c7
       have c7b1 : (((rd_T45 l0 x9_1).f0).toList != a2.toList) = true := bne_iff_ne.mpr c7
       have H' := Aside0.mk H
       clear H
       have p137 : 0 ≤ (x9_1 : Int) := of_decide_eq_true y4
       have q137 : x9_1 < (l0.length : Int) := of_decide_eq_true y4
       obtain ⟨ad137, A137_1, c137_1, A137_2, c137_2, A137_3, c137_3, e137, hx137_0, hx137_1, hx137_2, hx137_3, hl137_1, hi137_1, hl137_2, hi137_2, hl137_3, hi137_3⟩ := at_T45 HR0.out x9_1 p137 q137
       cases e137
       have HR137_1 := Aside0.mk hi137_1
       have HC137_1 := Aside0.mk hl137_1
       clear hi137_1 hl137_1
       have HR137_2 := Aside0.mk hi137_2
       have HC137_2 := Aside0.mk hl137_2
       clear hi137_2 hl137_2
       have HR137_3 := Aside0.mk hi137_3
       have HC137_3 := Aside0.mk hl137_3
       clear hi137_3 hl137_3
       replace p137 := eq_true p137
       replace q137 := eq_true q137
       go_wp2
       repeat (go_quiet (fail); try go_wp2)
       go_roundg k1
       case measure => have := HK1.out; omega
       case rel => exact ⟨(wrap64 (x9_1 + 1)), y7, H', ⟨(y30 HK1.out)⟩, y12⟩
     ·rw [if_neg c6] at H
      exact absurd H (by simp)
    ·rw [if_neg c5] at H
     exact absurd H (by simp)
   ·rw [if_neg c4] at H
    have c4b0 : decide (x9_1 < a1) = false := decide_eq_false c4
    clear c4
    simp only [Option.some.injEq, Prod.mk.injEq] at H
    obtain ⟨rfl, rfl, rfl⟩ := H
    go_wp2
    repeat (go_quiet (fail); try go_wp2)
    go_ret3
    exact ⟨y7, y12⟩
end Go.Proofs.Ytdgpegkgelciaaa.PA
end
section
namespace Go.Proofs.Ytdgpegkgelciaaa.PA
open Go.RowKit Go.Proofs.YtdgpegkgelciaaaW.PrintWords Go.Proofs.YtdgpegkgelciaaaW.PrintLast Go.Proofs.YtdgpegkgelciaaaW.PrintMore
attribute [local go_sem] max2_int min2_int max_two min_two max_three min_three max_four min_four
set_option linter.unusedVariables false
set_option linter.unusedSimpArgs false
mutual
def spec_l12Word.j0 : Nat → ByteArray → Bool → Option (Bool)
 | 0, _, _ => none
 | k + 1, x0, x12 => if x12 = true then (some false) else (spec_l12Word.l0 k x0 0)
def spec_l12Word.l0 : Nat → ByteArray → Int → Option (Bool)
 | 0, _, _ => none
 | k + 1, x0, x3 => if x3 < (x0.size : Int) then (if 0 ≤ x3 then (if (bt x0 x3) < 97 then (if (bt x0 x3) < 65 then (if (bt x0 x3) < 48 then (if (bt x0 x3) = 95 then (spec_l12Word.l0 k x0 (wrap64 (x3 + 1))) else (some false)) else (if (bt x0 x3) > 57 then (if (bt x0 x3) = 95 then (spec_l12Word.l0 k x0 (wrap64 (x3 + 1))) else (some false)) else (spec_l12Word.l0 k x0 (wrap64 (x3 + 1))))) else (if (bt x0 x3) > 90 then (if (bt x0 x3) < 48 then (if (bt x0 x3) = 95 then (spec_l12Word.l0 k x0 (wrap64 (x3 + 1))) else (some false)) else (if (bt x0 x3) > 57 then (if (bt x0 x3) = 95 then (spec_l12Word.l0 k x0 (wrap64 (x3 + 1))) else (some false)) else (spec_l12Word.l0 k x0 (wrap64 (x3 + 1))))) else (spec_l12Word.l0 k x0 (wrap64 (x3 + 1))))) else (if (bt x0 x3) > 122 then (if (bt x0 x3) < 65 then (if (bt x0 x3) < 48 then (if (bt x0 x3) = 95 then (spec_l12Word.l0 k x0 (wrap64 (x3 + 1))) else (some false)) else (if (bt x0 x3) > 57 then (if (bt x0 x3) = 95 then (spec_l12Word.l0 k x0 (wrap64 (x3 + 1))) else (some false)) else (spec_l12Word.l0 k x0 (wrap64 (x3 + 1))))) else (if (bt x0 x3) > 90 then (if (bt x0 x3) < 48 then (if (bt x0 x3) = 95 then (spec_l12Word.l0 k x0 (wrap64 (x3 + 1))) else (some false)) else (if (bt x0 x3) > 57 then (if (bt x0 x3) = 95 then (spec_l12Word.l0 k x0 (wrap64 (x3 + 1))) else (some false)) else (spec_l12Word.l0 k x0 (wrap64 (x3 + 1))))) else (spec_l12Word.l0 k x0 (wrap64 (x3 + 1))))) else (spec_l12Word.l0 k x0 (wrap64 (x3 + 1))))) else (none)) else (some true)
end
def spec_l12Word.f (k : Nat) (a0 : ByteArray) : Option (Bool) := if (a0.size : Int) < 1 then (spec_l12Word.j0 k a0 true) else (spec_l12Word.j0 k a0 (decide ((a0.size : Int) > 12)))
theorem spec_l12Word.mono_l : ∀ k, (∀ y0 y1, LeO (spec_l12Word.j0 k y0 y1) (spec_l12Word.j0 (k + 1) y0 y1)) ∧ (∀ y0 y1, LeO (spec_l12Word.l0 k y0 y1) (spec_l12Word.l0 (k + 1) y0 y1))
 | 0 => ⟨fun _ _ r h => by simp [spec_l12Word.j0] at h, fun _ _ r h => by simp [spec_l12Word.l0] at h⟩
 | k + 1 => by
  obtain ⟨ih0, ih1⟩ := spec_l12Word.mono_l k
  refine ⟨?_, ?_⟩
  ·intro y0 y1
   unfold spec_l12Word.j0
   repeat' first
   | (with_reducible exact ih0 _ _)
   | (with_reducible exact ih1 _ _)
   | (with_reducible exact LeO.refl _)
   | (with_reducible exact LeO.none _)
   | (with_reducible refine LeO.ite ?_ ?_)
   | (with_reducible refine LeO.bind ?_ (fun _ => ?_))
   | exact ih0 _ _
   | exact ih1 _ _
   | exact LeO.none _
   | refine LeO.ite ?_ ?_
   | refine LeO.bind ?_ (fun _ => ?_)
  ·intro y0 y1
   unfold spec_l12Word.l0
   repeat' first
   | (with_reducible exact ih0 _ _)
   | (with_reducible exact ih1 _ _)
   | (with_reducible exact LeO.refl _)
   | (with_reducible exact LeO.none _)
   | (with_reducible refine LeO.ite ?_ ?_)
   | (with_reducible refine LeO.bind ?_ (fun _ => ?_))
   | exact ih0 _ _
   | exact ih1 _ _
   | exact LeO.none _
   | refine LeO.ite ?_ ?_
   | refine LeO.bind ?_ (fun _ => ?_)
theorem spec_l12Word.mono : ∀ a0 k, LeO (spec_l12Word.f k a0) (spec_l12Word.f (k + 1) a0) := by
 intro a0 k
 obtain ⟨ih0, ih1⟩ := spec_l12Word.mono_l k
 unfold spec_l12Word.f
 repeat' first
   | (with_reducible exact ih0 _ _)
   | (with_reducible exact ih1 _ _)
   | (with_reducible exact LeO.refl _)
   | (with_reducible exact LeO.none _)
   | (with_reducible refine LeO.ite ?_ ?_)
   | (with_reducible refine LeO.bind ?_ (fun _ => ?_))
   | exact ih0 _ _
   | exact ih1 _ _
   | exact LeO.none _
   | refine LeO.ite ?_ ?_
   | refine LeO.bind ?_ (fun _ => ?_)
set_option maxHeartbeats 8000000 in
set_option maxRecDepth 100000 in
theorem spec_l12Word.calls (k : Nat) (a0 : ByteArray) (r : Bool) (w : World) (h : spec_l12Word.f k a0 = some r) :
  Calls Try.prog 17 #[.string a0] w fun e w' => e = .returned (.bool r) ∧ Drawn0 w w' := by
 have H : (if (a0.size : Int) < 1 then (spec_l12Word.j0 k a0 true) else (spec_l12Word.j0 k a0 (decide ((a0.size : Int) > 12)))) = some r := h
 clear h
 have HC2 := Aside0.mk H
 clear H
 go_enter Try.func17, Try.ntmps17
 go_upto_region 1 with (fail)
 go_cut [12] (fun v12 wc => ∃ (kq : Nat) (x12_1 : Bool), v12 = .bool x12_1 ∧ Aside0 (spec_l12Word.j0 kq a0 x12_1 = some r) ∧ Aside0 (kq ≤ k) ∧ Drawn0 w wc)
 case first =>
  have H := HC2.out
  clear HC2
  by_cases c3 : (a0.size : Int) < 1
  ·rw [if_pos c3] at H
   have c3b0 : decide ((a0.size : Int) < 1) = true := decide_eq_true c3
   have c3b1 : decide (a0.size < 1) = true := decide_eq_true (by omega)
   clear c3
   (first | rw [c3b0] | (simp only [i64_w, i32_w]; rw [c3b0]) | skip)
   have H' := Aside0.mk H
   clear H
   go_wp2
   go_meet
   case rel => exact ⟨_, (true), y7, H', ⟨y33⟩, y12⟩
  ·rw [if_neg c3] at H
   have c3b0 : decide ((a0.size : Int) < 1) = false := decide_eq_false c3
   have c3b1 : decide (a0.size < 1) = false := decide_eq_false (by omega)
   clear c3
   (first | rw [c3b0] | (simp only [i64_w, i32_w]; rw [c3b0]) | skip)
   have H' := Aside0.mk H
   clear H
   go_wp2
   go_meet
   case rel => exact ⟨_, (decide ((a0.size : Int) > 12)), y7, H', ⟨y33⟩, y12⟩
 case rest =>
  clear HC2
  try clear c1
  try clear p2
  try clear c3
  try clear c3b0
  try clear c3b1
  obtain ⟨kq, x12_1, rfl, HA, HJ1, ⟨mc1, rfl⟩⟩ := hcut
  cases kq with
  | zero => exact absurd HA.out (by simp [spec_l12Word.j0])
  | succ kj1 =>
   have H := HA.out
   clear HA
   simp only [spec_l12Word.j0] at H
   by_cases c4 : x12_1 = true
   ·subst c4
    rw [if_pos rfl] at H
    obtain rfl := Option.some.inj H
    go_wp2
    go_ret
    exact ⟨y7, y12⟩
   ·replace c4 := Bool.eq_false_iff.mpr c4
    subst c4
    rw [if_neg (show ¬ (false = true) by decide)] at H
    have H' := Aside0.mk H
    clear H
    go_wp2
    go_loopg [3] kj1 (fun kq v3 w' => ∃ (x3_2 : Int), v3 = .int .i64 x3_2 ∧ Aside0 (spec_l12Word.l0 kq a0 x3_2 = some r) ∧ Aside0 (kq ≤ kj1) ∧ Drawn0 w w')
    case atStart => exact ⟨(0), y7, H', ⟨Nat.le_refl _⟩, y12⟩
    case round =>
     clear H'
     try clear c1
     try clear p2
     try clear c3
     try clear c3b0
     try clear c3b1
     try clear c4
     try clear p2
     obtain ⟨x3_2, rfl, HA, HK2, ⟨m2, rfl⟩⟩ := hrel
     cases gk with
     | zero => exact absurd HA.out (by simp [spec_l12Word.l0])
     | succ k2 =>
      have H := HA.out
      clear HA
      simp only [spec_l12Word.l0] at H
      by_cases c5 : x3_2 < (a0.size : Int)
      ·rw [if_pos c5] at H
       have c5b0 : decide (x3_2 < (a0.size : Int)) = true := decide_eq_true c5
       clear c5
       by_cases c6 : 0 ≤ x3_2
       ·rw [if_pos c6] at H
        have c6b0 : decide (0 ≤ x3_2) = true := decide_eq_true c6
        clear c6
        by_cases c8 : (bt a0 x3_2) < 97
        ·rw [if_pos c8] at H
         have c8b0 : decide ((bt a0 x3_2) < 97) = true := decide_eq_true c8
         clear c8
         by_cases c9 : (bt a0 x3_2) < 65
         ·rw [if_pos c9] at H
          have c9b0 : decide ((bt a0 x3_2) < 65) = true := decide_eq_true c9
          clear c9
          by_cases c10 : (bt a0 x3_2) < 48
          ·rw [if_pos c10] at H
           have c10b0 : decide ((bt a0 x3_2) < 48) = true := decide_eq_true c10
           clear c10
           by_cases c11 : (bt a0 x3_2) = 95
           ·rw [if_pos c11] at H
            have c11b0 : ((bt a0 x3_2) == 95) = true := beq_iff_eq.mpr c11
            have c11b1 : ((bt a0 x3_2) != 95) = false := bne_eq_false_iff_eq.mpr c11
            clear c11
            have H' := Aside0.mk H
            clear H
            have p7 : 0 ≤ (x3_2 : Int) := of_decide_eq_true y4
            have q7 : x3_2 < (a0.size : Int) := of_decide_eq_true y4
            have hx7 := bt_at a0 x3_2
            replace p7 := eq_true p7
            replace q7 := eq_true q7
            go_wp2
            go_roundg k2
            case measure => have := HJ1.out; have := HK2.out; omega
            case rel => exact ⟨(wrap64 (x3_2 + 1)), y7, H', ⟨(y25 HJ1.out HK2.out)⟩, y12⟩
           ·rw [if_neg c11] at H
            have c11b0 : ((bt a0 x3_2) == 95) = false := beq_eq_false_iff_ne.mpr c11
            have c11b1 : ((bt a0 x3_2) != 95) = true := bne_iff_ne.mpr c11
            obtain rfl := Option.some.inj H
            have p7 : 0 ≤ (x3_2 : Int) := of_decide_eq_true y4
            have q7 : x3_2 < (a0.size : Int) := of_decide_eq_true y4
            have hx7 := bt_at a0 x3_2
            replace p7 := eq_true p7
            replace q7 := eq_true q7
            go_wp2
            go_ret
            exact ⟨y7, y12⟩
          ·rw [if_neg c10] at H
           have c10b0 : decide ((bt a0 x3_2) < 48) = false := decide_eq_false c10
           clear c10
           by_cases c12 : (bt a0 x3_2) > 57
           ·rw [if_pos c12] at H
            have c12b0 : decide (57 < (bt a0 x3_2)) = true := decide_eq_true c12
            clear c12
            by_cases c13 : (bt a0 x3_2) = 95
            ·rw [if_pos c13] at H
             have c13b0 : ((bt a0 x3_2) == 95) = true := beq_iff_eq.mpr c13
             have c13b1 : ((bt a0 x3_2) != 95) = false := bne_eq_false_iff_eq.mpr c13
             clear c13
             have H' := Aside0.mk H
             clear H
             have p7 : 0 ≤ (x3_2 : Int) := of_decide_eq_true y4
             have q7 : x3_2 < (a0.size : Int) := of_decide_eq_true y4
             have hx7 := bt_at a0 x3_2
             replace p7 := eq_true p7
             replace q7 := eq_true q7
             go_wp2
             go_roundg k2
             case measure => have := HJ1.out; have := HK2.out; omega
             case rel => exact ⟨(wrap64 (x3_2 + 1)), y7, H', ⟨(y25 HJ1.out HK2.out)⟩, y12⟩
            ·rw [if_neg c13] at H
             have c13b0 : ((bt a0 x3_2) == 95) = false := beq_eq_false_iff_ne.mpr c13
             have c13b1 : ((bt a0 x3_2) != 95) = true := bne_iff_ne.mpr c13
             obtain rfl := Option.some.inj H
             have p7 : 0 ≤ (x3_2 : Int) := of_decide_eq_true y4
             have q7 : x3_2 < (a0.size : Int) := of_decide_eq_true y4
             have hx7 := bt_at a0 x3_2
             replace p7 := eq_true p7
             replace q7 := eq_true q7
             go_wp2
             go_ret
             exact ⟨y7, y12⟩
           ·rw [if_neg c12] at H
            have c12b0 : decide (57 < (bt a0 x3_2)) = false := decide_eq_false c12
            clear c12
            have H' := Aside0.mk H
            clear H
            have p7 : 0 ≤ (x3_2 : Int) := of_decide_eq_true y4
            have q7 : x3_2 < (a0.size : Int) := of_decide_eq_true y4
            have hx7 := bt_at a0 x3_2
            replace p7 := eq_true p7
            replace q7 := eq_true q7
            go_wp2
            go_roundg k2
            case measure => have := HJ1.out; have := HK2.out; omega
            case rel => exact ⟨(wrap64 (x3_2 + 1)), y7, H', ⟨(y25 HJ1.out HK2.out)⟩, y12⟩
         ·rw [if_neg c9] at H
          have c9b0 : decide ((bt a0 x3_2) < 65) = false := decide_eq_false c9
          clear c9
          by_cases c14 : (bt a0 x3_2) > 90
          ·rw [if_pos c14] at H
           have c14b0 : decide (90 < (bt a0 x3_2)) = true := decide_eq_true c14
           clear c14
           by_cases c15 : (bt a0 x3_2) < 48
           ·rw [if_pos c15] at H
            have c15b0 : decide ((bt a0 x3_2) < 48) = true := decide_eq_true c15
            clear c15
            by_cases c16 : (bt a0 x3_2) = 95
            ·rw [if_pos c16] at H
             have c16b0 : ((bt a0 x3_2) == 95) = true := beq_iff_eq.mpr c16
             have c16b1 : ((bt a0 x3_2) != 95) = false := bne_eq_false_iff_eq.mpr c16
             clear c16
             have H' := Aside0.mk H
             clear H
             have p7 : 0 ≤ (x3_2 : Int) := of_decide_eq_true y4
             have q7 : x3_2 < (a0.size : Int) := of_decide_eq_true y4
             have hx7 := bt_at a0 x3_2
             replace p7 := eq_true p7
             replace q7 := eq_true q7
             go_wp2
             go_roundg k2
             case measure => have := HJ1.out; have := HK2.out; omega
             case rel => exact ⟨(wrap64 (x3_2 + 1)), y7, H', ⟨(y25 HJ1.out HK2.out)⟩, y12⟩
            ·rw [if_neg c16] at H
             have c16b0 : ((bt a0 x3_2) == 95) = false := beq_eq_false_iff_ne.mpr c16
             have c16b1 : ((bt a0 x3_2) != 95) = true := bne_iff_ne.mpr c16
             obtain rfl := Option.some.inj H
             have p7 : 0 ≤ (x3_2 : Int) := of_decide_eq_true y4
             have q7 : x3_2 < (a0.size : Int) := of_decide_eq_true y4
             have hx7 := bt_at a0 x3_2
             replace p7 := eq_true p7
             replace q7 := eq_true q7
             go_wp2
             go_ret
             exact ⟨y7, y12⟩
           ·rw [if_neg c15] at H
            have c15b0 : decide ((bt a0 x3_2) < 48) = false := decide_eq_false c15
            clear c15
            by_cases c17 : (bt a0 x3_2) > 57
            ·rw [if_pos c17] at H
             have c17b0 : decide (57 < (bt a0 x3_2)) = true := decide_eq_true c17
             clear c17
             by_cases c18 : (bt a0 x3_2) = 95
             ·rw [if_pos c18] at H
              have c18b0 : ((bt a0 x3_2) == 95) = true := beq_iff_eq.mpr c18
              have c18b1 : ((bt a0 x3_2) != 95) = false := bne_eq_false_iff_eq.mpr c18
              clear c18
              have H' := Aside0.mk H
              clear H
              have p7 : 0 ≤ (x3_2 : Int) := of_decide_eq_true y4
              have q7 : x3_2 < (a0.size : Int) := of_decide_eq_true y4
              have hx7 := bt_at a0 x3_2
              replace p7 := eq_true p7
              replace q7 := eq_true q7
              go_wp2
              go_roundg k2
              case measure => have := HJ1.out; have := HK2.out; omega
              case rel => exact ⟨(wrap64 (x3_2 + 1)), y7, H', ⟨(y25 HJ1.out HK2.out)⟩, y12⟩
             ·rw [if_neg c18] at H
              have c18b0 : ((bt a0 x3_2) == 95) = false := beq_eq_false_iff_ne.mpr c18
              have c18b1 : ((bt a0 x3_2) != 95) = true := bne_iff_ne.mpr c18
              obtain rfl := Option.some.inj H
              have p7 : 0 ≤ (x3_2 : Int) := of_decide_eq_true y4
              have q7 : x3_2 < (a0.size : Int) := of_decide_eq_true y4
              have hx7 := bt_at a0 x3_2
              replace p7 := eq_true p7
              replace q7 := eq_true q7
              go_wp2
              go_ret
              exact ⟨y7, y12⟩
            ·rw [if_neg c17] at H
             have c17b0 : decide (57 < (bt a0 x3_2)) = false := decide_eq_false c17
             clear c17
             have H' := Aside0.mk H
             clear H
             have p7 : 0 ≤ (x3_2 : Int) := of_decide_eq_true y4
             have q7 : x3_2 < (a0.size : Int) := of_decide_eq_true y4
             have hx7 := bt_at a0 x3_2
             replace p7 := eq_true p7
             replace q7 := eq_true q7
             go_wp2
             go_roundg k2
             case measure => have := HJ1.out; have := HK2.out; omega
             case rel => exact ⟨(wrap64 (x3_2 + 1)), y7, H', ⟨(y25 HJ1.out HK2.out)⟩, y12⟩
          ·rw [if_neg c14] at H
           have c14b0 : decide (90 < (bt a0 x3_2)) = false := decide_eq_false c14
           clear c14
           have H' := Aside0.mk H
           clear H
           have p7 : 0 ≤ (x3_2 : Int) := of_decide_eq_true y4
           have q7 : x3_2 < (a0.size : Int) := of_decide_eq_true y4
           have hx7 := bt_at a0 x3_2
           replace p7 := eq_true p7
           replace q7 := eq_true q7
           go_wp2
           go_roundg k2
           case measure => have := HJ1.out; have := HK2.out; omega
           case rel => exact ⟨(wrap64 (x3_2 + 1)), y7, H', ⟨(y25 HJ1.out HK2.out)⟩, y12⟩
        ·rw [if_neg c8] at H
         have c8b0 : decide ((bt a0 x3_2) < 97) = false := decide_eq_false c8
         clear c8
         by_cases c19 : (bt a0 x3_2) > 122
         ·rw [if_pos c19] at H
          have c19b0 : decide (122 < (bt a0 x3_2)) = true := decide_eq_true c19
          clear c19
          by_cases c20 : (bt a0 x3_2) < 65
          ·rw [if_pos c20] at H
           have c20b0 : decide ((bt a0 x3_2) < 65) = true := decide_eq_true c20
           clear c20
           by_cases c21 : (bt a0 x3_2) < 48
           ·rw [if_pos c21] at H
            have c21b0 : decide ((bt a0 x3_2) < 48) = true := decide_eq_true c21
            clear c21
            by_cases c22 : (bt a0 x3_2) = 95
            ·rw [if_pos c22] at H
             have c22b0 : ((bt a0 x3_2) == 95) = true := beq_iff_eq.mpr c22
             have c22b1 : ((bt a0 x3_2) != 95) = false := bne_eq_false_iff_eq.mpr c22
             clear c22
             have H' := Aside0.mk H
             clear H
             have p7 : 0 ≤ (x3_2 : Int) := of_decide_eq_true y4
             have q7 : x3_2 < (a0.size : Int) := of_decide_eq_true y4
             have hx7 := bt_at a0 x3_2
             replace p7 := eq_true p7
             replace q7 := eq_true q7
             go_wp2
             go_roundg k2
             case measure => have := HJ1.out; have := HK2.out; omega
             case rel => exact ⟨(wrap64 (x3_2 + 1)), y7, H', ⟨(y25 HJ1.out HK2.out)⟩, y12⟩
            ·rw [if_neg c22] at H
             have c22b0 : ((bt a0 x3_2) == 95) = false := beq_eq_false_iff_ne.mpr c22
             have c22b1 : ((bt a0 x3_2) != 95) = true := bne_iff_ne.mpr c22
             obtain rfl := Option.some.inj H
             have p7 : 0 ≤ (x3_2 : Int) := of_decide_eq_true y4
             have q7 : x3_2 < (a0.size : Int) := of_decide_eq_true y4
             have hx7 := bt_at a0 x3_2
             replace p7 := eq_true p7
             replace q7 := eq_true q7
             go_wp2
             go_ret
             exact ⟨y7, y12⟩
           ·rw [if_neg c21] at H
            have c21b0 : decide ((bt a0 x3_2) < 48) = false := decide_eq_false c21
            clear c21
            by_cases c23 : (bt a0 x3_2) > 57
            ·rw [if_pos c23] at H
             have c23b0 : decide (57 < (bt a0 x3_2)) = true := decide_eq_true c23
             clear c23
             by_cases c24 : (bt a0 x3_2) = 95
             ·rw [if_pos c24] at H
              have c24b0 : ((bt a0 x3_2) == 95) = true := beq_iff_eq.mpr c24
              have c24b1 : ((bt a0 x3_2) != 95) = false := bne_eq_false_iff_eq.mpr c24
              clear c24
              have H' := Aside0.mk H
              clear H
              have p7 : 0 ≤ (x3_2 : Int) := of_decide_eq_true y4
              have q7 : x3_2 < (a0.size : Int) := of_decide_eq_true y4
              have hx7 := bt_at a0 x3_2
              replace p7 := eq_true p7
              replace q7 := eq_true q7
              go_wp2
              go_roundg k2
              case measure => have := HJ1.out; have := HK2.out; omega
              case rel => exact ⟨(wrap64 (x3_2 + 1)), y7, H', ⟨(y25 HJ1.out HK2.out)⟩, y12⟩
             ·rw [if_neg c24] at H
              have c24b0 : ((bt a0 x3_2) == 95) = false := beq_eq_false_iff_ne.mpr c24
              have c24b1 : ((bt a0 x3_2) != 95) = true := bne_iff_ne.mpr c24
              obtain rfl := Option.some.inj H
              have p7 : 0 ≤ (x3_2 : Int) := of_decide_eq_true y4
              have q7 : x3_2 < (a0.size : Int) := of_decide_eq_true y4
              have hx7 := bt_at a0 x3_2
              replace p7 := eq_true p7
              replace q7 := eq_true q7
              go_wp2
              go_ret
              exact ⟨y7, y12⟩
            ·rw [if_neg c23] at H
             have c23b0 : decide (57 < (bt a0 x3_2)) = false := decide_eq_false c23
             clear c23
             have H' := Aside0.mk H
             clear H
             have p7 : 0 ≤ (x3_2 : Int) := of_decide_eq_true y4
             have q7 : x3_2 < (a0.size : Int) := of_decide_eq_true y4
             have hx7 := bt_at a0 x3_2
             replace p7 := eq_true p7
             replace q7 := eq_true q7
             go_wp2
             go_roundg k2
             case measure => have := HJ1.out; have := HK2.out; omega
             case rel => exact ⟨(wrap64 (x3_2 + 1)), y7, H', ⟨(y25 HJ1.out HK2.out)⟩, y12⟩
          ·rw [if_neg c20] at H
           have c20b0 : decide ((bt a0 x3_2) < 65) = false := decide_eq_false c20
           clear c20
           by_cases c25 : (bt a0 x3_2) > 90
           ·rw [if_pos c25] at H
            have c25b0 : decide (90 < (bt a0 x3_2)) = true := decide_eq_true c25
            clear c25
            by_cases c26 : (bt a0 x3_2) < 48
            ·rw [if_pos c26] at H
             have c26b0 : decide ((bt a0 x3_2) < 48) = true := decide_eq_true c26
             clear c26
             by_cases c27 : (bt a0 x3_2) = 95
             ·rw [if_pos c27] at H
              have c27b0 : ((bt a0 x3_2) == 95) = true := beq_iff_eq.mpr c27
              have c27b1 : ((bt a0 x3_2) != 95) = false := bne_eq_false_iff_eq.mpr c27
              clear c27
              have H' := Aside0.mk H
              clear H
              have p7 : 0 ≤ (x3_2 : Int) := of_decide_eq_true y4
              have q7 : x3_2 < (a0.size : Int) := of_decide_eq_true y4
              have hx7 := bt_at a0 x3_2
              replace p7 := eq_true p7
              replace q7 := eq_true q7
              go_wp2
              go_roundg k2
              case measure => have := HJ1.out; have := HK2.out; omega
              case rel => exact ⟨(wrap64 (x3_2 + 1)), y7, H', ⟨(y25 HJ1.out HK2.out)⟩, y12⟩
             ·rw [if_neg c27] at H
              have c27b0 : ((bt a0 x3_2) == 95) = false := beq_eq_false_iff_ne.mpr c27
              have c27b1 : ((bt a0 x3_2) != 95) = true := bne_iff_ne.mpr c27
              obtain rfl := Option.some.inj H
              have p7 : 0 ≤ (x3_2 : Int) := of_decide_eq_true y4
              have q7 : x3_2 < (a0.size : Int) := of_decide_eq_true y4
              have hx7 := bt_at a0 x3_2
              replace p7 := eq_true p7
              replace q7 := eq_true q7
              go_wp2
              go_ret
              exact ⟨y7, y12⟩
            ·rw [if_neg c26] at H
             have c26b0 : decide ((bt a0 x3_2) < 48) = false := decide_eq_false c26
             clear c26
             by_cases c28 : (bt a0 x3_2) > 57
             ·rw [if_pos c28] at H
              have c28b0 : decide (57 < (bt a0 x3_2)) = true := decide_eq_true c28
              clear c28
              by_cases c29 : (bt a0 x3_2) = 95
              ·rw [if_pos c29] at H
               have c29b0 : ((bt a0 x3_2) == 95) = true := beq_iff_eq.mpr c29
               have c29b1 : ((bt a0 x3_2) != 95) = false := bne_eq_false_iff_eq.mpr c29
               clear c29
               have H' := Aside0.mk H
               clear H
               have p7 : 0 ≤ (x3_2 : Int) := of_decide_eq_true y4
               have q7 : x3_2 < (a0.size : Int) := of_decide_eq_true y4
               have hx7 := bt_at a0 x3_2
               replace p7 := eq_true p7
               replace q7 := eq_true q7
               go_wp2
               go_roundg k2
               case measure => have := HJ1.out; have := HK2.out; omega
               case rel => exact ⟨(wrap64 (x3_2 + 1)), y7, H', ⟨(y25 HJ1.out HK2.out)⟩, y12⟩
              ·rw [if_neg c29] at H
               have c29b0 : ((bt a0 x3_2) == 95) = false := beq_eq_false_iff_ne.mpr c29
               have c29b1 : ((bt a0 x3_2) != 95) = true := bne_iff_ne.mpr c29
               obtain rfl := Option.some.inj H
               have p7 : 0 ≤ (x3_2 : Int) := of_decide_eq_true y4
               have q7 : x3_2 < (a0.size : Int) := of_decide_eq_true y4
               have hx7 := bt_at a0 x3_2
               replace p7 := eq_true p7
               replace q7 := eq_true q7
               go_wp2
               go_ret
               exact ⟨y7, y12⟩
             ·rw [if_neg c28] at H
              have c28b0 : decide (57 < (bt a0 x3_2)) = false := decide_eq_false c28
              clear c28
              have H' := Aside0.mk H
              clear H
              have p7 : 0 ≤ (x3_2 : Int) := of_decide_eq_true y4
              have q7 : x3_2 < (a0.size : Int) := of_decide_eq_true y4
              have hx7 := bt_at a0 x3_2
              replace p7 := eq_true p7
              replace q7 := eq_true q7
              go_wp2
              go_roundg k2
              case measure => have := HJ1.out; have := HK2.out; omega
              case rel => exact ⟨(wrap64 (x3_2 + 1)), y7, H', ⟨(y25 HJ1.out HK2.out)⟩, y12⟩
           ·rw [if_neg c25] at H
            have c25b0 : decide (90 < (bt a0 x3_2)) = false := decide_eq_false c25
            clear c25
            have H' := Aside0.mk H
            clear H
            have p7 : 0 ≤ (x3_2 : Int) := of_decide_eq_true y4
            have q7 : x3_2 < (a0.size : Int) := of_decide_eq_true y4
            have hx7 := bt_at a0 x3_2
            replace p7 := eq_true p7
            replace q7 := eq_true q7
            go_wp2
            go_roundg k2
            case measure => have := HJ1.out; have := HK2.out; omega
            case rel => exact ⟨(wrap64 (x3_2 + 1)), y7, H', ⟨(y25 HJ1.out HK2.out)⟩, y12⟩
         ·rw [if_neg c19] at H
          have c19b0 : decide (122 < (bt a0 x3_2)) = false := decide_eq_false c19
          clear c19
          have H' := Aside0.mk H
          clear H
          have p7 : 0 ≤ (x3_2 : Int) := of_decide_eq_true y4
          have q7 : x3_2 < (a0.size : Int) := of_decide_eq_true y4
          have hx7 := bt_at a0 x3_2
          replace p7 := eq_true p7
          replace q7 := eq_true q7
          go_wp2
          go_roundg k2
          case measure => have := HJ1.out; have := HK2.out; omega
          case rel => exact ⟨(wrap64 (x3_2 + 1)), y7, H', ⟨(y25 HJ1.out HK2.out)⟩, y12⟩
       ·rw [if_neg c6] at H
        exact absurd H (by simp)
      ·rw [if_neg c5] at H
       have c5b0 : decide (x3_2 < (a0.size : Int)) = false := decide_eq_false c5
       clear c5
       obtain rfl := Option.some.inj H
       go_wp2
       go_ret
       exact ⟨y7, y12⟩
end Go.Proofs.Ytdgpegkgelciaaa.PA
end
section
namespace Go.Proofs.Ytdgpegkgelciaaa.PA
open Go.RowKit Go.Proofs.YtdgpegkgelciaaaW.PrintWords Go.Proofs.YtdgpegkgelciaaaW.PrintLast Go.Proofs.YtdgpegkgelciaaaW.PrintMore
attribute [local go_sem] max2_int min2_int max_two min_two max_three min_three max_four min_four
set_option linter.unusedVariables false
set_option linter.unusedSimpArgs false
def spec_l12Has.l0 : Nat → List ByteArray → ByteArray → Int → Option (Bool)
 | 0, _, _, _ => none
 | k + 1, x0, x1, x5 => if x5 < (x0.length : Int) then (if 0 ≤ x5 then (if (rdOf ByteArray.empty x0 x5).toList = x1.toList then (some true) else (spec_l12Has.l0 k x0 x1 (wrap64 (x5 + 1)))) else (none)) else (some false)
def spec_l12Has.f (k : Nat) (l0 : List ByteArray) (a1 : ByteArray) : Option (Bool) := spec_l12Has.l0 k l0 a1 0
theorem spec_l12Has.mono_l : ∀ k, (∀ y0 y1 y2, LeO (spec_l12Has.l0 k y0 y1 y2) (spec_l12Has.l0 (k + 1) y0 y1 y2))
 | 0 => fun _ _ _ r h => by simp [spec_l12Has.l0] at h
 | k + 1 => by
  have ih0 := spec_l12Has.mono_l k
  ·intro y0 y1 y2
   unfold spec_l12Has.l0
   repeat' first
   | (with_reducible exact ih0 _ _ _)
   | (with_reducible exact LeO.refl _)
   | (with_reducible exact LeO.none _)
   | (with_reducible refine LeO.ite ?_ ?_)
   | (with_reducible refine LeO.bind ?_ (fun _ => ?_))
   | exact ih0 _ _ _
   | exact LeO.none _
   | refine LeO.ite ?_ ?_
   | refine LeO.bind ?_ (fun _ => ?_)
theorem spec_l12Has.mono : ∀ a0 a1 k, LeO (spec_l12Has.f k a0 a1) (spec_l12Has.f (k + 1) a0 a1) := by
 intro a0 a1 k
 have ih0 := spec_l12Has.mono_l k
 unfold spec_l12Has.f
 repeat' first
   | (with_reducible exact ih0 _ _ _)
   | (with_reducible exact LeO.refl _)
   | (with_reducible exact LeO.none _)
   | (with_reducible refine LeO.ite ?_ ?_)
   | (with_reducible refine LeO.bind ?_ (fun _ => ?_))
   | exact ih0 _ _ _
   | exact LeO.none _
   | refine LeO.ite ?_ ?_
   | refine LeO.bind ?_ (fun _ => ?_)
set_option maxHeartbeats 8000000 in
set_option maxRecDepth 100000 in
theorem spec_l12Has.calls (k : Nat) (A0 : Option Addr) (c0 : Nat) (l0 : List ByteArray) (a1 : ByteArray) (r : Bool) (w : World) (hr0 : Kd.C Kd.string w A0 l0.length l0) (hc0 : l0.length ≤ c0) (h : spec_l12Has.f k l0 a1 = some r) :
  Calls Try.prog 19 #[.slice A0 l0.length c0, .string a1] w fun e w' => e = .returned (.bool r) ∧ Drawn0 w w' := by
 have HR0 := Aside0.mk hr0
 have HC0 := Aside0.mk hc0
 clear hr0 hc0
 have H : (spec_l12Has.l0 k l0 a1 0) = some r := h
 clear h
 have H' := Aside0.mk H
 clear H
 go_enter Try.func19, Try.ntmps19
 go_wp2
 go_loopg [5] k (fun kq v5 w' => ∃ (x5_1 : Int), v5 = .int .i64 x5_1 ∧ Aside0 (spec_l12Has.l0 kq l0 a1 x5_1 = some r) ∧ Aside0 (kq ≤ k) ∧ Drawn0 w w')
 case atStart => exact ⟨(0), y7, H', ⟨Nat.le_refl _⟩, y12⟩
 case round =>
  clear H'
  try clear c1
  try clear p2
  obtain ⟨x5_1, rfl, HA, HK1, ⟨m1, rfl⟩⟩ := hrel
  cases gk with
  | zero => exact absurd HA.out (by simp [spec_l12Has.l0])
  | succ k1 =>
   have H := HA.out
   clear HA
   simp only [spec_l12Has.l0] at H
   by_cases c3 : x5_1 < (l0.length : Int)
   ·rw [if_pos c3] at H
    have c3b0 : decide (x5_1 < (l0.length : Int)) = true := decide_eq_true c3
    clear c3
    by_cases c4 : 0 ≤ x5_1
    ·rw [if_pos c4] at H
     have c4b0 : decide (0 ≤ x5_1) = true := decide_eq_true c4
     clear c4
     by_cases c5 : (rdOf ByteArray.empty l0 x5_1).toList = a1.toList
     ·rw [if_pos c5] at H
      have c5b0 : ((rdOf ByteArray.empty l0 x5_1).toList == a1.toList) = true := beq_iff_eq.mpr c5
      have c5b1 : ((rdOf ByteArray.empty l0 x5_1).toList != a1.toList) = false := bne_eq_false_iff_eq.mpr c5
      clear c5
      obtain rfl := Option.some.inj H
      have p140 : 0 ≤ (x5_1 : Int) := of_decide_eq_true y4
      have q140 : x5_1 < (l0.length : Int) := of_decide_eq_true y4
      obtain ⟨ad140, e140, hx140_0⟩ := Kd.at_string HR0.out x5_1 p140 q140
      cases e140
      replace p140 := eq_true p140
      replace q140 := eq_true q140
      go_wp2
      go_ret
      exact ⟨y7, y12⟩
     ·rw [if_neg c5] at H
      have c5b0 : ((rdOf ByteArray.empty l0 x5_1).toList == a1.toList) = false := beq_eq_false_iff_ne.mpr c5
      have c5b1 : ((rdOf ByteArray.empty l0 x5_1).toList != a1.toList) = true := bne_iff_ne.mpr c5
      have H' := Aside0.mk H
      clear H
      have p140 : 0 ≤ (x5_1 : Int) := of_decide_eq_true y4
      have q140 : x5_1 < (l0.length : Int) := of_decide_eq_true y4
      obtain ⟨ad140, e140, hx140_0⟩ := Kd.at_string HR0.out x5_1 p140 q140
      cases e140
      replace p140 := eq_true p140
      replace q140 := eq_true q140
      go_wp2
      go_roundg k1
      case measure => have := HK1.out; omega
      case rel => exact ⟨(wrap64 (x5_1 + 1)), y7, H', ⟨(y30 HK1.out)⟩, y12⟩
    ·rw [if_neg c4] at H
     exact absurd H (by simp)
   ·rw [if_neg c3] at H
    have c3b0 : decide (x5_1 < (l0.length : Int)) = false := decide_eq_false c3
    clear c3
    obtain rfl := Option.some.inj H
    go_wp2
    go_ret
    exact ⟨y7, y12⟩
end Go.Proofs.Ytdgpegkgelciaaa.PA
end
section
namespace Go.Proofs.Ytdgpegkgelciaaa.PA
open Go.RowKit Go.Proofs.YtdgpegkgelciaaaW.PrintWords Go.Proofs.YtdgpegkgelciaaaW.PrintLast Go.Proofs.YtdgpegkgelciaaaW.PrintMore
attribute [local go_sem] max2_int min2_int max_two min_two max_three min_three max_four min_four
set_option linter.unusedVariables false
set_option linter.unusedSimpArgs false
def spec_l6In.f (a0 : Int) (a1 : Int) (a2 : Int) : Option (Bool) := if a0 ≥ a1 then (some (decide (a0 ≤ a2))) else (some false)
set_option maxHeartbeats 8000000 in
set_option maxRecDepth 100000 in
theorem spec_l6In.calls (a0 : Int) (a1 : Int) (a2 : Int) (r : Bool) (w : World) (h : spec_l6In.f a0 a1 a2 = some r) :
  Calls Try.prog 61 #[.int .i64 a0, .int .i64 a1, .int .i64 a2] w fun e w' => e = .returned (.bool r) ∧ Drawn0 w w' := by
 have H : (if a0 ≥ a1 then (some (decide (a0 ≤ a2))) else (some false)) = some r := h
 clear h
 by_cases c4 : a0 ≥ a1
 ·rw [if_pos c4] at H
  have c4b0 : decide (a1 ≤ a0) = true := decide_eq_true c4
  clear c4
  obtain rfl := Option.some.inj H
  go_enter Try.func61, Try.ntmps61
  go_wp2
  go_ret
  exact ⟨y7, y12⟩
 ·rw [if_neg c4] at H
  have c4b0 : decide (a1 ≤ a0) = false := decide_eq_false c4
  clear c4
  obtain rfl := Option.some.inj H
  go_enter Try.func61, Try.ntmps61
  go_wp2
  go_ret
  exact ⟨y7, y12⟩
end Go.Proofs.Ytdgpegkgelciaaa.PA
end
section
namespace Go.Proofs.Ytdgpegkgelciaaa.PA
open Go.RowKit Go.Proofs.YtdgpegkgelciaaaW.PrintWords Go.Proofs.YtdgpegkgelciaaaW.PrintLast Go.Proofs.YtdgpegkgelciaaaW.PrintMore
attribute [local go_sem] max2_int min2_int max_two min_two max_three min_three max_four min_four
set_option linter.unusedVariables false
set_option linter.unusedSimpArgs false
mutual
def spec_l12Term.j0 : Nat → List ByteArray → Int → Bool → Int → Int → ByteArray → List Int → List (S78) → Option (Bool)
 | 0, _, _, _, _, _, _, _, _ => none
 | k + 1, x0, x2, x23, x142000, x142001, x142002, x142003, x142004 => if x23 = true then (some false) else (spec_l12Term.l0 k x0 x2 0 x142000 x142001 x142002 x142003 x142004)
def spec_l12Term.l0 : Nat → List ByteArray → Int → Int → Int → Int → ByteArray → List Int → List (S78) → Option (Bool)
 | 0, _, _, _, _, _, _, _, _ => none
 | k + 1, x0, x2, x7, x142000, x142001, x142002, x142003, x142004 => if x7 < (x142004.length : Int) then (if 0 ≤ x7 then ((spec_l12Term.f k x0 ((rd_T78 x142004 x7).f0) ((rd_T78 x142004 x7).f1) ((rd_T78 x142004 x7).f2) ((rd_T78 x142004 x7).f3) ((rd_T78 x142004 x7).f4) (wrap64 (x2 - 1))).bind fun t143 => (if t143 = true then (spec_l12Term.l0 k x0 x2 (wrap64 (x7 + 1)) x142000 x142001 x142002 x142003 x142004) else (some false))) else (none)) else (spec_l12Term.l1 k x0 0 x142000 x142001 x142002 x142003 x142004)
def spec_l12Term.l1 : Nat → List ByteArray → Int → Int → Int → ByteArray → List Int → List (S78) → Option (Bool)
 | 0, _, _, _, _, _, _, _ => none
 | k + 1, x0, x8, x142000, x142001, x142002, x142003, x142004 => if x8 < (x142003.length : Int) then (if 0 ≤ x8 then ((spec_l6In.f (rd x142003 x8) 0 1).bind fun t145 => (if t145 = true then (spec_l12Term.l1 k x0 (wrap64 (x8 + 1)) x142000 x142001 x142002 x142003 x142004) else (some false))) else (none)) else (if x142000 = 7 then (spec_l12Term.j3 k x0 true x142000 x142001 x142002 x142003 x142004) else (spec_l12Term.j3 k x0 (x142000 == 8) x142000 x142001 x142002 x142003 x142004))
def spec_l12Term.j3 : Nat → List ByteArray → Bool → Int → Int → ByteArray → List Int → List (S78) → Option (Bool)
 | 0, _, _, _, _, _, _, _ => none
 | k + 1, x0, x9, x142000, x142001, x142002, x142003, x142004 => if x142000 = 1 then (if x142000 = 2 then (if x9 = true then (spec_l12Term.j4 k x0 false x142000 x142001 x142002 x142003 x142004) else (spec_l12Term.j4 k x0 (decide ((x142003.length : Int) > 0)) x142000 x142001 x142002 x142003 x142004)) else (if x142002.toList = ([] : List UInt8) then (if x9 = true then (spec_l12Term.j4 k x0 false x142000 x142001 x142002 x142003 x142004) else (spec_l12Term.j4 k x0 (decide ((x142003.length : Int) > 0)) x142000 x142001 x142002 x142003 x142004)) else (spec_l12Term.j4 k x0 true x142000 x142001 x142002 x142003 x142004))) else (if x142001 = 0 then (if x142000 = 2 then (if x9 = true then (spec_l12Term.j4 k x0 false x142000 x142001 x142002 x142003 x142004) else (spec_l12Term.j4 k x0 (decide ((x142003.length : Int) > 0)) x142000 x142001 x142002 x142003 x142004)) else (if x142002.toList = ([] : List UInt8) then (if x9 = true then (spec_l12Term.j4 k x0 false x142000 x142001 x142002 x142003 x142004) else (spec_l12Term.j4 k x0 (decide ((x142003.length : Int) > 0)) x142000 x142001 x142002 x142003 x142004)) else (spec_l12Term.j4 k x0 true x142000 x142001 x142002 x142003 x142004))) else (spec_l12Term.j4 k x0 true x142000 x142001 x142002 x142003 x142004))
def spec_l12Term.j4 : Nat → List ByteArray → Bool → Int → Int → ByteArray → List Int → List (S78) → Option (Bool)
 | 0, _, _, _, _, _, _, _ => none
 | k + 1, x0, x90, x142000, x142001, x142002, x142003, x142004 => if x90 = true then (some false) else (if x142000 = 1 then ((spec_l6In.f x142001 0 9999).bind fun t146 => (if t146 = true then (some ((x142004.length : Int) == 0)) else (some false))) else (if x142000 = 2 then ((spec_l12Has.f k x0 x142002).bind fun t147 => (if t147 = true then (some ((x142004.length : Int) == 0)) else (some false))) else (if x142000 = 7 then (some ((x142004.length : Int) == 1)) else ((spec_l6In.f x142000 3 8).bind fun t148 => (if t148 = true then (some ((x142004.length : Int) == 2)) else (some false))))))
def spec_l12Term.f : Nat → List ByteArray → Int → Int → ByteArray → List Int → List (S78) → Int → Option (Bool)
 | 0, _, _, _, _, _, _, _ => none
 | k + 1, l0, a1_0, a1_1, a1_2, l1_3, l1_4, a2 => if a2 < 1 then (spec_l12Term.j0 k l0 a2 true a1_0 a1_1 a1_2 l1_3 l1_4) else (if (l1_4.length : Int) > 2 then (spec_l12Term.j0 k l0 a2 true a1_0 a1_1 a1_2 l1_3 l1_4) else (spec_l12Term.j0 k l0 a2 (decide ((l1_3.length : Int) > 4)) a1_0 a1_1 a1_2 l1_3 l1_4))
end
theorem spec_l12Term.mono_l : ∀ k, (∀ y0 y1 y2 y3 y4 y5 y6, LeO (spec_l12Term.f k y0 y1 y2 y3 y4 y5 y6) (spec_l12Term.f (k + 1) y0 y1 y2 y3 y4 y5 y6)) ∧ (∀ y0 y1 y2 y3 y4 y5 y6 y7, LeO (spec_l12Term.j0 k y0 y1 y2 y3 y4 y5 y6 y7) (spec_l12Term.j0 (k + 1) y0 y1 y2 y3 y4 y5 y6 y7)) ∧ (∀ y0 y1 y2 y3 y4 y5 y6 y7, LeO (spec_l12Term.l0 k y0 y1 y2 y3 y4 y5 y6 y7) (spec_l12Term.l0 (k + 1) y0 y1 y2 y3 y4 y5 y6 y7)) ∧ (∀ y0 y1 y2 y3 y4 y5 y6, LeO (spec_l12Term.l1 k y0 y1 y2 y3 y4 y5 y6) (spec_l12Term.l1 (k + 1) y0 y1 y2 y3 y4 y5 y6)) ∧ (∀ y0 y1 y2 y3 y4 y5 y6, LeO (spec_l12Term.j3 k y0 y1 y2 y3 y4 y5 y6) (spec_l12Term.j3 (k + 1) y0 y1 y2 y3 y4 y5 y6)) ∧ (∀ y0 y1 y2 y3 y4 y5 y6, LeO (spec_l12Term.j4 k y0 y1 y2 y3 y4 y5 y6) (spec_l12Term.j4 (k + 1) y0 y1 y2 y3 y4 y5 y6))
 | 0 => ⟨fun _ _ _ _ _ _ _ r h => by simp [spec_l12Term.f] at h, fun _ _ _ _ _ _ _ _ r h => by simp [spec_l12Term.j0] at h, fun _ _ _ _ _ _ _ _ r h => by simp [spec_l12Term.l0] at h, fun _ _ _ _ _ _ _ r h => by simp [spec_l12Term.l1] at h, fun _ _ _ _ _ _ _ r h => by simp [spec_l12Term.j3] at h, fun _ _ _ _ _ _ _ r h => by simp [spec_l12Term.j4] at h⟩
 | k + 1 => by
  obtain ⟨ih0, ih1, ih2, ih3, ih4, ih5⟩ := spec_l12Term.mono_l k
  refine ⟨?_, ?_, ?_, ?_, ?_, ?_⟩
  ·intro y0 y1 y2 y3 y4 y5 y6
   unfold spec_l12Term.f
   repeat' first
   | (with_reducible exact ih0 _ _ _ _ _ _ _)
   | (with_reducible exact ih1 _ _ _ _ _ _ _ _)
   | (with_reducible exact ih2 _ _ _ _ _ _ _ _)
   | (with_reducible exact ih3 _ _ _ _ _ _ _)
   | (with_reducible exact ih4 _ _ _ _ _ _ _)
   | (with_reducible exact ih5 _ _ _ _ _ _ _)
   | (with_reducible exact spec_l12Has.mono _ _ _)
   | (with_reducible exact LeO.refl _)
   | (with_reducible exact LeO.none _)
   | (with_reducible refine LeO.ite ?_ ?_)
   | (with_reducible refine LeO.bind ?_ (fun _ => ?_))
   | exact ih0 _ _ _ _ _ _ _
   | exact ih1 _ _ _ _ _ _ _ _
   | exact ih2 _ _ _ _ _ _ _ _
   | exact ih3 _ _ _ _ _ _ _
   | exact ih4 _ _ _ _ _ _ _
   | exact ih5 _ _ _ _ _ _ _
   | exact spec_l12Has.mono _ _ _
   | exact LeO.none _
   | refine LeO.ite ?_ ?_
   | refine LeO.bind ?_ (fun _ => ?_)
  ·intro y0 y1 y2 y3 y4 y5 y6 y7
   unfold spec_l12Term.j0
   repeat' first
   | (with_reducible exact ih0 _ _ _ _ _ _ _)
   | (with_reducible exact ih1 _ _ _ _ _ _ _ _)
   | (with_reducible exact ih2 _ _ _ _ _ _ _ _)
   | (with_reducible exact ih3 _ _ _ _ _ _ _)
   | (with_reducible exact ih4 _ _ _ _ _ _ _)
   | (with_reducible exact ih5 _ _ _ _ _ _ _)
   | (with_reducible exact spec_l12Has.mono _ _ _)
   | (with_reducible exact LeO.refl _)
   | (with_reducible exact LeO.none _)
   | (with_reducible refine LeO.ite ?_ ?_)
   | (with_reducible refine LeO.bind ?_ (fun _ => ?_))
   | exact ih0 _ _ _ _ _ _ _
   | exact ih1 _ _ _ _ _ _ _ _
   | exact ih2 _ _ _ _ _ _ _ _
   | exact ih3 _ _ _ _ _ _ _
   | exact ih4 _ _ _ _ _ _ _
   | exact ih5 _ _ _ _ _ _ _
   | exact spec_l12Has.mono _ _ _
   | exact LeO.none _
   | refine LeO.ite ?_ ?_
   | refine LeO.bind ?_ (fun _ => ?_)
  ·intro y0 y1 y2 y3 y4 y5 y6 y7
   unfold spec_l12Term.l0
   repeat' first
   | (with_reducible exact ih0 _ _ _ _ _ _ _)
   | (with_reducible exact ih1 _ _ _ _ _ _ _ _)
   | (with_reducible exact ih2 _ _ _ _ _ _ _ _)
   | (with_reducible exact ih3 _ _ _ _ _ _ _)
   | (with_reducible exact ih4 _ _ _ _ _ _ _)
   | (with_reducible exact ih5 _ _ _ _ _ _ _)
   | (with_reducible exact spec_l12Has.mono _ _ _)
   | (with_reducible exact LeO.refl _)
   | (with_reducible exact LeO.none _)
   | (with_reducible refine LeO.ite ?_ ?_)
   | (with_reducible refine LeO.bind ?_ (fun _ => ?_))
   | exact ih0 _ _ _ _ _ _ _
   | exact ih1 _ _ _ _ _ _ _ _
   | exact ih2 _ _ _ _ _ _ _ _
   | exact ih3 _ _ _ _ _ _ _
   | exact ih4 _ _ _ _ _ _ _
   | exact ih5 _ _ _ _ _ _ _
   | exact spec_l12Has.mono _ _ _
   | exact LeO.none _
   | refine LeO.ite ?_ ?_
   | refine LeO.bind ?_ (fun _ => ?_)
  ·intro y0 y1 y2 y3 y4 y5 y6
   unfold spec_l12Term.l1
   repeat' first
   | (with_reducible exact ih0 _ _ _ _ _ _ _)
   | (with_reducible exact ih1 _ _ _ _ _ _ _ _)
   | (with_reducible exact ih2 _ _ _ _ _ _ _ _)
   | (with_reducible exact ih3 _ _ _ _ _ _ _)
   | (with_reducible exact ih4 _ _ _ _ _ _ _)
   | (with_reducible exact ih5 _ _ _ _ _ _ _)
   | (with_reducible exact spec_l12Has.mono _ _ _)
   | (with_reducible exact LeO.refl _)
   | (with_reducible exact LeO.none _)
   | (with_reducible refine LeO.ite ?_ ?_)
   | (with_reducible refine LeO.bind ?_ (fun _ => ?_))
   | exact ih0 _ _ _ _ _ _ _
   | exact ih1 _ _ _ _ _ _ _ _
   | exact ih2 _ _ _ _ _ _ _ _
   | exact ih3 _ _ _ _ _ _ _
   | exact ih4 _ _ _ _ _ _ _
   | exact ih5 _ _ _ _ _ _ _
   | exact spec_l12Has.mono _ _ _
   | exact LeO.none _
   | refine LeO.ite ?_ ?_
   | refine LeO.bind ?_ (fun _ => ?_)
  ·intro y0 y1 y2 y3 y4 y5 y6
   unfold spec_l12Term.j3
   repeat' first
   | (with_reducible exact ih0 _ _ _ _ _ _ _)
   | (with_reducible exact ih1 _ _ _ _ _ _ _ _)
   | (with_reducible exact ih2 _ _ _ _ _ _ _ _)
   | (with_reducible exact ih3 _ _ _ _ _ _ _)
   | (with_reducible exact ih4 _ _ _ _ _ _ _)
   | (with_reducible exact ih5 _ _ _ _ _ _ _)
   | (with_reducible exact spec_l12Has.mono _ _ _)
   | (with_reducible exact LeO.refl _)
   | (with_reducible exact LeO.none _)
   | (with_reducible refine LeO.ite ?_ ?_)
   | (with_reducible refine LeO.bind ?_ (fun _ => ?_))
   | exact ih0 _ _ _ _ _ _ _
   | exact ih1 _ _ _ _ _ _ _ _
   | exact ih2 _ _ _ _ _ _ _ _
   | exact ih3 _ _ _ _ _ _ _
   | exact ih4 _ _ _ _ _ _ _
   | exact ih5 _ _ _ _ _ _ _
   | exact spec_l12Has.mono _ _ _
   | exact LeO.none _
   | refine LeO.ite ?_ ?_
   | refine LeO.bind ?_ (fun _ => ?_)
  ·intro y0 y1 y2 y3 y4 y5 y6
   unfold spec_l12Term.j4
   repeat' first
   | (with_reducible exact ih0 _ _ _ _ _ _ _)
   | (with_reducible exact ih1 _ _ _ _ _ _ _ _)
   | (with_reducible exact ih2 _ _ _ _ _ _ _ _)
   | (with_reducible exact ih3 _ _ _ _ _ _ _)
   | (with_reducible exact ih4 _ _ _ _ _ _ _)
   | (with_reducible exact ih5 _ _ _ _ _ _ _)
   | (with_reducible exact spec_l12Has.mono _ _ _)
   | (with_reducible exact LeO.refl _)
   | (with_reducible exact LeO.none _)
   | (with_reducible refine LeO.ite ?_ ?_)
   | (with_reducible refine LeO.bind ?_ (fun _ => ?_))
   | exact ih0 _ _ _ _ _ _ _
   | exact ih1 _ _ _ _ _ _ _ _
   | exact ih2 _ _ _ _ _ _ _ _
   | exact ih3 _ _ _ _ _ _ _
   | exact ih4 _ _ _ _ _ _ _
   | exact ih5 _ _ _ _ _ _ _
   | exact spec_l12Has.mono _ _ _
   | exact LeO.none _
   | refine LeO.ite ?_ ?_
   | refine LeO.bind ?_ (fun _ => ?_)
theorem spec_l12Term.mono : ∀ a0 a1 a2 a3 a4 a5 a6 k, LeO (spec_l12Term.f k a0 a1 a2 a3 a4 a5 a6) (spec_l12Term.f (k + 1) a0 a1 a2 a3 a4 a5 a6) := by
 intro a0 a1 a2 a3 a4 a5 a6 k
 obtain ⟨ih0, ih1, ih2, ih3, ih4, ih5⟩ := spec_l12Term.mono_l k
 exact ih0 a0 a1 a2 a3 a4 a5 a6
set_option maxHeartbeats 8000000 in
set_option maxRecDepth 100000 in
theorem spec_l12Term.calls (k : Nat) : ∀ (A0 : Option Addr) (c0 : Nat) (l0 : List ByteArray) (a1_0 : Int) (a1_1 : Int) (a1_2 : ByteArray) (A1_3 : Option Addr) (c1_3 : Nat) (l1_3 : List Int) (A1_4 : Option Addr) (c1_4 : Nat) (l1_4 : List (S78)) (a2 : Int) (r : Bool) (w : World) (hr0 : Kd.C Kd.string w A0 l0.length l0) (hc0 : l0.length ≤ c0) (hr1_3 : Kd.C (Kd.int .i64) w A1_3 l1_3.length l1_3) (hc1_3 : l1_3.length ≤ c1_3) (hr1_4 : Kd.C k78 w A1_4 l1_4.length l1_4) (hc1_4 : l1_4.length ≤ c1_4) (h : spec_l12Term.f k l0 a1_0 a1_1 a1_2 l1_3 l1_4 a2 = some r),
  Calls Try.prog 49 #[.slice A0 l0.length c0, .agg #[.int .i64 a1_0, .int .i64 a1_1, .string a1_2, .slice A1_3 l1_3.length c1_3, .slice A1_4 l1_4.length c1_4], .int .i64 a2] w fun e w' => e = .returned (.bool r) ∧ Below w.heap.size w w' := by
 induction k using Nat.strongRecOn with
 | _ k ih =>
 intro A0 c0 l0 a1_0 a1_1 a1_2 A1_3 c1_3 l1_3 A1_4 c1_4 l1_4 a2 r w hr0 hc0 hr1_3 hc1_3 hr1_4 hc1_4 h
 cases k with
 | zero => exact absurd h (by simp [spec_l12Term.f])
 | succ k =>
 simp only [spec_l12Term.f] at h
 have hu78 := Try.underlying78
 have HR0 := Aside0.mk hr0
 have HC0 := Aside0.mk hc0
 clear hr0 hc0
 have HR1_3 := Aside0.mk hr1_3
 have HC1_3 := Aside0.mk hc1_3
 clear hr1_3 hc1_3
 have HR1_4 := Aside0.mk hr1_4
 have HC1_4 := Aside0.mk hc1_4
 clear hr1_4 hc1_4
 have HB := Aside0.mk (Below.refl w.heap.size w)
 have H : (if a2 < 1 then (spec_l12Term.j0 k l0 a2 true a1_0 a1_1 a1_2 l1_3 l1_4) else (if (l1_4.length : Int) > 2 then (spec_l12Term.j0 k l0 a2 true a1_0 a1_1 a1_2 l1_3 l1_4) else (spec_l12Term.j0 k l0 a2 (decide ((l1_3.length : Int) > 4)) a1_0 a1_1 a1_2 l1_3 l1_4))) = some r := h
 clear h
 have HC4 := Aside0.mk H
 clear H
 go_enter Try.func49, Try.ntmps49
 go_upto_region 1 with (first | ((with_reducible refine gate_dst (N := 4) rfl ?_); (try (refine gate_guard (by rfl) ?_; dsimp only)); refine zbx 4 #[.int .i64 a1_0, .int .i64 a1_1, .string a1_2, .slice A1_3 l1_3.length c1_3, .slice A1_4 l1_4.length c1_4] 78 ?_; intro gb141 hg w5 hbox hb; have BK141 := Aside0.mk hbox; have GW141 := Aside0.mk ((y9 hg HB.out : w.heap.size ≤ gb141)); have GE141 := Aside0.mk ((y9 hg HB.out : w.heap.size ≤ gb141)); replace HB := Aside0.mk (below_step (y1 HB.out) hb); clear hb hbox hg))
 (try simp only [Act.put, List.setIfInBounds_toArray, List.set_cons_zero, List.set_cons_succ])
 go_cut [23] (fun v23 wc => ∃ (kq : Nat) (x23_3 : Bool), v23 = .bool x23_3 ∧ Aside0 (spec_l12Term.j0 kq l0 a2 x23_3 a1_0 a1_1 a1_2 l1_3 l1_4 = some r) ∧ Aside0 (kq ≤ k) ∧ Aside0 (wc.heap[gb141]? = some (.cells #[.int .i64 a1_0, .int .i64 a1_1, .string a1_2, (.slice A1_3 l1_3.length c1_3), (.slice A1_4 l1_4.length c1_4)] 78 (0, 0))) ∧ Aside0 (Below w.heap.size w wc))
 case first =>
  have H := HC4.out
  clear HC4
  by_cases c6 : a2 < 1
  ·rw [if_pos c6] at H
   have c6b0 : decide (a2 < 1) = true := decide_eq_true c6
   clear c6
   (first | rw [c6b0] | (simp only [i64_w, i32_w]; rw [c6b0]) | skip)
   have H' := Aside0.mk H
   clear H
   go_wp2
   go_meet
   case rel => exact ⟨_, (true), y7, H', ⟨y33⟩, ⟨(y8 BK141.out)⟩, ⟨(y2 HB.out GE141.out)⟩⟩
  ·rw [if_neg c6] at H
   have c6b0 : decide (a2 < 1) = false := decide_eq_false c6
   clear c6
   (first | rw [c6b0] | (simp only [i64_w, i32_w]; rw [c6b0]) | skip)
   by_cases c7 : (l1_4.length : Int) > 2
   ·rw [if_pos c7] at H
    have c7b0 : decide (2 < (l1_4.length : Int)) = true := decide_eq_true c7
    have c7b1 : decide (2 < l1_4.length) = true := decide_eq_true (by omega)
    clear c7
    have H' := Aside0.mk H
    clear H
    have hcz8_0 := zh BK141
    have hcz8_1 := zh1 BK141
    have hcz8_2 := zh2 BK141
    have hcz8_3 : w5.cell? ⟨gb141, 3, none⟩ = some (.slice A1_3 l1_3.length c1_3) := (blk_cell BK141.out 3).trans rfl
    have hcz8_4 : w5.cell? ⟨gb141, 4, none⟩ = some (.slice A1_4 l1_4.length c1_4) := (blk_cell BK141.out 4).trans rfl
    have hfz8_0 := zfr BK141 0
    have hfz8_1 := zfr BK141 1
    have hfz8_2 := zfr BK141 2
    have hfz8_3 := zfr BK141 3
    have hfz8_4 := zfr BK141 4
    go_wp2
    go_meet
    case rel => exact ⟨_, (true), y7, H', ⟨y33⟩, ⟨(y8 BK141.out)⟩, ⟨(y2 HB.out GE141.out)⟩⟩
   ·rw [if_neg c7] at H
    have c7b0 : decide (2 < (l1_4.length : Int)) = false := decide_eq_false c7
    have c7b1 : decide (2 < l1_4.length) = false := decide_eq_false (by omega)
    clear c7
    have H' := Aside0.mk H
    clear H
    have hcz9_0 := zh BK141
    have hcz9_1 := zh1 BK141
    have hcz9_2 := zh2 BK141
    have hcz9_3 : w5.cell? ⟨gb141, 3, none⟩ = some (.slice A1_3 l1_3.length c1_3) := (blk_cell BK141.out 3).trans rfl
    have hcz9_4 : w5.cell? ⟨gb141, 4, none⟩ = some (.slice A1_4 l1_4.length c1_4) := (blk_cell BK141.out 4).trans rfl
    have hfz9_0 := zfr BK141 0
    have hfz9_1 := zfr BK141 1
    have hfz9_2 := zfr BK141 2
    have hfz9_3 := zfr BK141 3
    have hfz9_4 := zfr BK141 4
    go_wp2
    go_meet
    case rel => exact ⟨_, (decide ((l1_3.length : Int) > 4)), y7, H', ⟨y33⟩, ⟨(y8 BK141.out)⟩, ⟨(y2 HB.out GE141.out)⟩⟩
 case rest =>
  clear HC4
  try clear c1
  try clear p2
  try clear c4
  try clear c6
  try clear c6b0
  try clear c7
  try clear c7b0
  try clear c7b1
  try clear hcz8_0
  try clear hcz8_1
  try clear hcz8_2
  try clear hcz8_3
  try clear hcz8_4
  try clear hcz9_0
  try clear hcz9_1
  try clear hcz9_2
  try clear hcz9_3
  try clear hcz9_4
  try clear hfz8_0
  try clear hfz8_1
  try clear hfz8_2
  try clear hfz8_3
  try clear hfz8_4
  try clear hfz9_0
  try clear hfz9_1
  try clear hfz9_2
  try clear hfz9_3
  try clear hfz9_4
  obtain ⟨kq, x23_3, rfl, HA, HJ3, BK141, HB⟩ := hcut
  cases kq with
  | zero => exact absurd HA.out (by simp [spec_l12Term.j0])
  | succ kj3 =>
   have H := HA.out
   clear HA
   simp only [spec_l12Term.j0] at H
   by_cases c10 : x23_3 = true
   ·subst c10
    rw [if_pos rfl] at H
    obtain rfl := Option.some.inj H
    go_wp2
    go_ret
    exact ⟨y6, (y2 HB.out GE141.out)⟩
   ·replace c10 := Bool.eq_false_iff.mpr c10
    subst c10
    rw [if_neg (show ¬ (false = true) by decide)] at H
    have H' := Aside0.mk H
    clear H
    go_wp2
    go_loopg [7] kj3 (fun kq v7 w' => ∃ (x7_2 : Int), v7 = .int .i64 x7_2 ∧ Aside0 (spec_l12Term.l0 kq l0 a2 x7_2 a1_0 a1_1 a1_2 l1_3 l1_4 = some r) ∧ Aside0 (kq ≤ kj3) ∧ Aside0 (w'.heap[gb141]? = some (.cells #[.int .i64 a1_0, .int .i64 a1_1, .string a1_2, (.slice A1_3 l1_3.length c1_3), (.slice A1_4 l1_4.length c1_4)] 78 (0, 0))) ∧ Aside0 (Below w.heap.size w w'))
    case atStart => exact ⟨(0), y7, H', ⟨Nat.le_refl _⟩, ⟨(y8 BK141.out)⟩, ⟨(y2 HB.out GE141.out)⟩⟩
    case round =>
     clear H'
     try clear c1
     try clear p2
     try clear c4
     try clear c6
     try clear c6b0
     try clear c7
     try clear c7b0
     try clear c7b1
     try clear c10
     try clear hcz8_0
     try clear hcz8_1
     try clear hcz8_2
     try clear hcz8_3
     try clear hcz8_4
     try clear hcz9_0
     try clear hcz9_1
     try clear hcz9_2
     try clear hcz9_3
     try clear hcz9_4
     try clear hfz8_0
     try clear hfz8_1
     try clear hfz8_2
     try clear hfz8_3
     try clear hfz8_4
     try clear hfz9_0
     try clear hfz9_1
     try clear hfz9_2
     try clear hfz9_3
     try clear hfz9_4
     try clear p2
     (try clear BK141)
     obtain ⟨x7_2, rfl, HA, HK2, BK141, HB⟩ := hrel
     cases gk with
     | zero => exact absurd HA.out (by simp [spec_l12Term.l0])
     | succ k2 =>
      have H := HA.out
      clear HA
      simp only [spec_l12Term.l0] at H
      by_cases c11 : x7_2 < (l1_4.length : Int)
      ·rw [if_pos c11] at H
       have c11b0 : decide (x7_2 < (l1_4.length : Int)) = true := decide_eq_true c11
       clear c11
       by_cases c12 : 0 ≤ x7_2
       ·rw [if_pos c12] at H
        have c12b0 : decide (0 ≤ x7_2) = true := decide_eq_true c12
        clear c12
        obtain ⟨t143, A130, H⟩ := ob H
        have A13 := Aside0.mk A130
        clear A130
        have HZ14 := Aside0.mk H
        clear H
        have hcz15_0 := zh BK141
        have hcz15_1 := zh1 BK141
        have hcz15_2 := zh2 BK141
        have hcz15_3 : wr.cell? ⟨gb141, 3, none⟩ = some (.slice A1_3 l1_3.length c1_3) := (blk_cell BK141.out 3).trans rfl
        have hcz15_4 : wr.cell? ⟨gb141, 4, none⟩ = some (.slice A1_4 l1_4.length c1_4) := (blk_cell BK141.out 4).trans rfl
        have hfz15_0 := zfr BK141 0
        have hfz15_1 := zfr BK141 1
        have hfz15_2 := zfr BK141 2
        have hfz15_3 := zfr BK141 3
        have hfz15_4 := zfr BK141 4
        have p142 : 0 ≤ (x7_2 : Int) := of_decide_eq_true y4
        have q142 : x7_2 < (l1_4.length : Int) := of_decide_eq_true y4
        obtain ⟨ad142, A142_3, c142_3, A142_4, c142_4, e142, hx142_0, hx142_1, hx142_2, hx142_3, hx142_4, hl142_3, hi142_3, hl142_4, hi142_4⟩ := at_T78 HR1_4.out x7_2 p142 q142
        cases e142
        replace hx142_0 := (HB.out.cell (World.block_lt_of_cell? w _ hx142_0)).trans hx142_0
        replace hx142_1 := (HB.out.cell (World.block_lt_of_cell? w _ hx142_1)).trans hx142_1
        replace hx142_2 := (HB.out.cell (World.block_lt_of_cell? w _ hx142_2)).trans hx142_2
        replace hx142_3 := (HB.out.cell (World.block_lt_of_cell? w _ hx142_3)).trans hx142_3
        replace hx142_4 := (HB.out.cell (World.block_lt_of_cell? w _ hx142_4)).trans hx142_4
        have HR142_3 := Aside0.mk hi142_3
        have HC142_3 := Aside0.mk hl142_3
        clear hi142_3 hl142_3
        have HR142_4 := Aside0.mk hi142_4
        have HC142_4 := Aside0.mk hl142_4
        clear hi142_4 hl142_4
        replace p142 := eq_true p142
        replace q142 := eq_true q142
        go_upto_if 40 with (first | ((with_reducible refine gate_callee (f := 49) rfl ?_); refine goesL_ (some 39) rfl rfl Try.func49 (by kernel_rfl) rfl #[.slice A0 l0.length c0, .agg #[.int .i64 ((rd_T78 l1_4 x7_2).f0), .int .i64 ((rd_T78 l1_4 x7_2).f1), .string ((rd_T78 l1_4 x7_2).f2), .slice A142_3 ((rd_T78 l1_4 x7_2).f3).length c142_3, .slice A142_4 ((rd_T78 l1_4 x7_2).f4).length c142_4], .int .i64 (wrap64 (a2 - 1))] rfl y3 ?_; (with_reducible refine (ih k2 (y25 HJ3.out HK2.out) _ _ l0 ((rd_T78 l1_4 x7_2).f0) ((rd_T78 l1_4 x7_2).f1) ((rd_T78 l1_4 x7_2).f2) _ _ ((rd_T78 l1_4 x7_2).f3) _ _ ((rd_T78 l1_4 x7_2).f4) (wrap64 (a2 - 1)) t143 _ ?side1 ?side2 ?side3 ?side4 ?side5 ?side6 A13.out).mono ?_); (case side1 => exact y0 HR0.out HB.out); (case side2 => exact HC0.out); (case side3 => exact y0 HR142_3.out HB.out); (case side4 => exact HC142_3.out); (case side5 => exact y0 HR142_4.out HB.out); (case side6 => exact HC142_4.out); rintro e w16 ⟨rfl, hb⟩; refine ⟨_, rfl, ?_⟩; replace BK141 := zbb BK141 hb; replace HB := Aside0.mk (below_step (y2 HB.out GE141.out) hb); (try clear hb); (try clear hb2); (try clear hk); (try clear hi)))
        (try simp only [Act.put, List.setIfInBounds_toArray, List.set_cons_zero, List.set_cons_succ])
        have H := HZ14.out
        clear HZ14
        by_cases c17 : t143 = true
        ·subst c17
         rw [if_pos rfl] at H
         have H' := Aside0.mk H
         clear H
         go_wp2
         go_roundg k2
         case measure => have := HJ3.out; have := HK2.out; omega
         case rel => exact ⟨(wrap64 (x7_2 + 1)), y7, H', ⟨(y25 HJ3.out HK2.out)⟩, ⟨(y8 BK141.out)⟩, ⟨(y2 HB.out GE141.out)⟩⟩
        ·replace c17 := Bool.eq_false_iff.mpr c17
         subst c17
         rw [if_neg (show ¬ (false = true) by decide)] at H
         obtain rfl := Option.some.inj H
         go_wp2
         go_ret
         exact ⟨y6, (y2 HB.out GE141.out)⟩
       ·rw [if_neg c12] at H
        exact absurd H (by simp)
      ·rw [if_neg c11] at H
       have c11b0 : decide (x7_2 < (l1_4.length : Int)) = false := decide_eq_false c11
       clear c11
       have H' := Aside0.mk H
       clear H
       have hcz18_0 := zh BK141
       have hcz18_1 := zh1 BK141
       have hcz18_2 := zh2 BK141
       have hcz18_3 : wr.cell? ⟨gb141, 3, none⟩ = some (.slice A1_3 l1_3.length c1_3) := (blk_cell BK141.out 3).trans rfl
       have hcz18_4 : wr.cell? ⟨gb141, 4, none⟩ = some (.slice A1_4 l1_4.length c1_4) := (blk_cell BK141.out 4).trans rfl
       have hfz18_0 := zfr BK141 0
       have hfz18_1 := zfr BK141 1
       have hfz18_2 := zfr BK141 2
       have hfz18_3 := zfr BK141 3
       have hfz18_4 := zfr BK141 4
       go_wp2
       go_loopg [8] k2 (fun kq v8 w' => ∃ (x8_3 : Int), v8 = .int .i64 x8_3 ∧ Aside0 (spec_l12Term.l1 kq l0 x8_3 a1_0 a1_1 a1_2 l1_3 l1_4 = some r) ∧ Aside0 (kq ≤ k2) ∧ Aside0 (w'.heap[gb141]? = some (.cells #[.int .i64 a1_0, .int .i64 a1_1, .string a1_2, (.slice A1_3 l1_3.length c1_3), (.slice A1_4 l1_4.length c1_4)] 78 (0, 0))) ∧ Aside0 (Below w.heap.size w w'))
       case atStart => exact ⟨(0), y7, H', ⟨Nat.le_refl _⟩, ⟨(y8 BK141.out)⟩, ⟨(y2 HB.out GE141.out)⟩⟩
       case round =>
        clear H'
        try clear c1
        try clear p1
        try clear q1
        try clear hx1
        try clear p2
        try clear c4
        try clear c6
        try clear c6b0
        try clear p6
        try clear c7
        try clear c7b0
        try clear c7b1
        try clear c10
        try clear c11
        try clear c11b0
        try clear c12
        try clear c12b0
        try clear c14
        try clear p14
        try clear q14
        try clear hx14
        try clear c17
        try clear hcz15_0
        try clear hcz15_1
        try clear hcz15_2
        try clear hcz15_3
        try clear hcz15_4
        try clear hcz18_0
        try clear hcz18_1
        try clear hcz18_2
        try clear hcz18_3
        try clear hcz18_4
        try clear hcz8_0
        try clear hcz8_1
        try clear hcz8_2
        try clear hcz8_3
        try clear hcz8_4
        try clear hcz9_0
        try clear hcz9_1
        try clear hcz9_2
        try clear hcz9_3
        try clear hcz9_4
        try clear hfz15_0
        try clear hfz15_1
        try clear hfz15_2
        try clear hfz15_3
        try clear hfz15_4
        try clear hfz18_0
        try clear hfz18_1
        try clear hfz18_2
        try clear hfz18_3
        try clear hfz18_4
        try clear hfz8_0
        try clear hfz8_1
        try clear hfz8_2
        try clear hfz8_3
        try clear hfz8_4
        try clear hfz9_0
        try clear hfz9_1
        try clear hfz9_2
        try clear hfz9_3
        try clear hfz9_4
        try clear hx142_0
        try clear hx142_1
        try clear hx142_2
        try clear hx142_3
        try clear hx142_4
        try clear p142
        try clear p2
        try clear q142
        (try clear BK141)
        obtain ⟨x8_3, rfl, HA, HK3, BK141, HB⟩ := hrel
        cases gk with
        | zero => exact absurd HA.out (by simp [spec_l12Term.l1])
        | succ k3 =>
         have H := HA.out
         clear HA
         simp only [spec_l12Term.l1] at H
         by_cases c19 : x8_3 < (l1_3.length : Int)
         ·rw [if_pos c19] at H
          have c19b0 : decide (x8_3 < (l1_3.length : Int)) = true := decide_eq_true c19
          clear c19
          by_cases c20 : 0 ≤ x8_3
          ·rw [if_pos c20] at H
           have c20b0 : decide (0 ≤ x8_3) = true := decide_eq_true c20
           clear c20
           obtain ⟨t145, A210, H⟩ := ob H
           have A21 := Aside0.mk A210
           clear A210
           have HZ22 := Aside0.mk H
           clear H
           have hcz23_0 := zh BK141
           have hcz23_1 := zh1 BK141
           have hcz23_2 := zh2 BK141
           have hcz23_3 : wr.cell? ⟨gb141, 3, none⟩ = some (.slice A1_3 l1_3.length c1_3) := (blk_cell BK141.out 3).trans rfl
           have hcz23_4 : wr.cell? ⟨gb141, 4, none⟩ = some (.slice A1_4 l1_4.length c1_4) := (blk_cell BK141.out 4).trans rfl
           have hfz23_0 := zfr BK141 0
           have hfz23_1 := zfr BK141 1
           have hfz23_2 := zfr BK141 2
           have hfz23_3 := zfr BK141 3
           have hfz23_4 := zfr BK141 4
           have p144 : 0 ≤ (x8_3 : Int) := of_decide_eq_true y4
           have q144 : x8_3 < (l1_3.length : Int) := of_decide_eq_true y4
           obtain ⟨ad144, e144, hx144_0⟩ := Kd.at_int HR1_3.out x8_3 p144 q144
           cases e144
           replace hx144_0 := (HB.out.cell (World.block_lt_of_cell? w _ hx144_0)).trans hx144_0
           replace p144 := eq_true p144
           replace q144 := eq_true q144
           go_upto_if 54 with (first | ((with_reducible refine gate_callee (f := 61) rfl ?_); refine goesL_ (some 53) rfl rfl Try.func61 (by kernel_rfl) rfl #[.int .i64 (rd l1_3 x8_3), .int .i64 0, .int .i64 1] rfl y3 ?_; (with_reducible refine (spec_l6In.calls (rd l1_3 x8_3) 0 1 t145 _ A21.out).mono ?_); rintro e w' ⟨rfl, ⟨nd, rfl⟩⟩; refine ⟨_, rfl, ?_⟩))
           (try simp only [Act.put, List.setIfInBounds_toArray, List.set_cons_zero, List.set_cons_succ])
           have H := HZ22.out
           clear HZ22
           by_cases c24 : t145 = true
           ·subst c24
            rw [if_pos rfl] at H
            have H' := Aside0.mk H
            clear H
            go_wp2
            go_roundg k3
            case measure => have := HJ3.out; have := HK2.out; have := HK3.out; omega
            case rel => exact ⟨(wrap64 (x8_3 + 1)), y7, H', ⟨(y35 HJ3.out HK2.out HK3.out)⟩, ⟨(y8 BK141.out)⟩, ⟨(y2 HB.out GE141.out)⟩⟩
           ·replace c24 := Bool.eq_false_iff.mpr c24
            subst c24
            rw [if_neg (show ¬ (false = true) by decide)] at H
            obtain rfl := Option.some.inj H
            go_wp2
            go_ret
            exact ⟨y6, (y2 HB.out GE141.out)⟩
          ·rw [if_neg c20] at H
           exact absurd H (by simp)
         ·rw [if_neg c19] at H
          have c19b0 : decide (x8_3 < (l1_3.length : Int)) = false := decide_eq_false c19
          clear c19
          have HC25 := Aside0.mk H
          clear H
          have hcz26_0 := zh BK141
          have hcz26_1 := zh1 BK141
          have hcz26_2 := zh2 BK141
          have hcz26_3 : wr.cell? ⟨gb141, 3, none⟩ = some (.slice A1_3 l1_3.length c1_3) := (blk_cell BK141.out 3).trans rfl
          have hcz26_4 : wr.cell? ⟨gb141, 4, none⟩ = some (.slice A1_4 l1_4.length c1_4) := (blk_cell BK141.out 4).trans rfl
          have hfz26_0 := zfr BK141 0
          have hfz26_1 := zfr BK141 1
          have hfz26_2 := zfr BK141 2
          have hfz26_3 := zfr BK141 3
          have hfz26_4 := zfr BK141 4
          go_upto_region 13 with (fail)
          go_cut [9] (fun v9 wc => ∃ (kq : Nat) (x9_24 : Bool), v9 = .bool x9_24 ∧ Aside0 (spec_l12Term.j3 kq l0 x9_24 a1_0 a1_1 a1_2 l1_3 l1_4 = some r) ∧ Aside0 (kq ≤ k3) ∧ Aside0 (wc.heap[gb141]? = some (.cells #[.int .i64 a1_0, .int .i64 a1_1, .string a1_2, (.slice A1_3 l1_3.length c1_3), (.slice A1_4 l1_4.length c1_4)] 78 (0, 0))) ∧ Aside0 (Below w.heap.size w wc))
          case first =>
           have H := HC25.out
           clear HC25
           by_cases c27 : a1_0 = 7
           ·rw [if_pos c27] at H
            have c27b0 : (a1_0 == 7) = true := beq_iff_eq.mpr c27
            have c27b1 : (a1_0 != 7) = false := bne_eq_false_iff_eq.mpr c27
            clear c27
            (first | rw [c27b0] | (simp only [i64_w, i32_w]; rw [c27b0]) | skip)
            have H' := Aside0.mk H
            clear H
            have hcz28_0 := zh BK141
            have hcz28_1 := zh1 BK141
            have hcz28_2 := zh2 BK141
            have hcz28_3 : wr.cell? ⟨gb141, 3, none⟩ = some (.slice A1_3 l1_3.length c1_3) := (blk_cell BK141.out 3).trans rfl
            have hcz28_4 : wr.cell? ⟨gb141, 4, none⟩ = some (.slice A1_4 l1_4.length c1_4) := (blk_cell BK141.out 4).trans rfl
            have hfz28_0 := zfr BK141 0
            have hfz28_1 := zfr BK141 1
            have hfz28_2 := zfr BK141 2
            have hfz28_3 := zfr BK141 3
            have hfz28_4 := zfr BK141 4
            go_wp2
            go_meet
            case rel => exact ⟨_, (true), y7, H', ⟨(by have := HJ3.out; have := HK2.out; have := HK3.out; first | omega | exact Nat.le_refl _)⟩, ⟨(y8 BK141.out)⟩, ⟨(y2 HB.out GE141.out)⟩⟩
           ·rw [if_neg c27] at H
            have c27b0 : (a1_0 == 7) = false := beq_eq_false_iff_ne.mpr c27
            have c27b1 : (a1_0 != 7) = true := bne_iff_ne.mpr c27
            (first | rw [c27b0] | (simp only [i64_w, i32_w]; rw [c27b0]) | skip)
            have H' := Aside0.mk H
            clear H
            have hcz29_0 := zh BK141
            have hcz29_1 := zh1 BK141
            have hcz29_2 := zh2 BK141
            have hcz29_3 : wr.cell? ⟨gb141, 3, none⟩ = some (.slice A1_3 l1_3.length c1_3) := (blk_cell BK141.out 3).trans rfl
            have hcz29_4 : wr.cell? ⟨gb141, 4, none⟩ = some (.slice A1_4 l1_4.length c1_4) := (blk_cell BK141.out 4).trans rfl
            have hfz29_0 := zfr BK141 0
            have hfz29_1 := zfr BK141 1
            have hfz29_2 := zfr BK141 2
            have hfz29_3 := zfr BK141 3
            have hfz29_4 := zfr BK141 4
            go_wp2
            go_meet
            case rel => exact ⟨_, ((a1_0 == 8)), y7, H', ⟨(by have := HJ3.out; have := HK2.out; have := HK3.out; first | omega | exact Nat.le_refl _)⟩, ⟨(y8 BK141.out)⟩, ⟨(y2 HB.out GE141.out)⟩⟩
          case rest =>
           clear HC25
           try clear c1
           try clear p1
           try clear q1
           try clear hx1
           try clear c2
           try clear p2
           try clear c4
           try clear c6
           try clear c6b0
           try clear p6
           try clear c7
           try clear c7b0
           try clear c7b1
           try clear c10
           try clear c11
           try clear c11b0
           try clear c12
           try clear c12b0
           try clear c14
           try clear p14
           try clear q14
           try clear hx14
           try clear c17
           try clear c19
           try clear c19b0
           try clear c20
           try clear c20b0
           try clear c24
           try clear c27
           try clear c27b0
           try clear c27b1
           try clear hcz15_0
           try clear hcz15_1
           try clear hcz15_2
           try clear hcz15_3
           try clear hcz15_4
           try clear hcz18_0
           try clear hcz18_1
           try clear hcz18_2
           try clear hcz18_3
           try clear hcz18_4
           try clear hcz23_0
           try clear hcz23_1
           try clear hcz23_2
           try clear hcz23_3
           try clear hcz23_4
           try clear hcz26_0
           try clear hcz26_1
           try clear hcz26_2
           try clear hcz26_3
           try clear hcz26_4
           try clear hcz28_0
           try clear hcz28_1
           try clear hcz28_2
           try clear hcz28_3
           try clear hcz28_4
           try clear hcz29_0
           try clear hcz29_1
           try clear hcz29_2
           try clear hcz29_3
           try clear hcz29_4
           try clear hcz8_0
           try clear hcz8_1
           try clear hcz8_2
           try clear hcz8_3
           try clear hcz8_4
           try clear hcz9_0
           try clear hcz9_1
           try clear hcz9_2
           try clear hcz9_3
           try clear hcz9_4
           try clear hfz15_0
           try clear hfz15_1
           try clear hfz15_2
           try clear hfz15_3
           try clear hfz15_4
           try clear hfz18_0
           try clear hfz18_1
           try clear hfz18_2
           try clear hfz18_3
           try clear hfz18_4
           try clear hfz23_0
           try clear hfz23_1
           try clear hfz23_2
           try clear hfz23_3
           try clear hfz23_4
           try clear hfz26_0
           try clear hfz26_1
           try clear hfz26_2
           try clear hfz26_3
           try clear hfz26_4
           try clear hfz28_0
           try clear hfz28_1
           try clear hfz28_2
           try clear hfz28_3
           try clear hfz28_4
           try clear hfz29_0
           try clear hfz29_1
           try clear hfz29_2
           try clear hfz29_3
           try clear hfz29_4
           try clear hfz8_0
           try clear hfz8_1
           try clear hfz8_2
           try clear hfz8_3
           try clear hfz8_4
           try clear hfz9_0
           try clear hfz9_1
           try clear hfz9_2
           try clear hfz9_3
           try clear hfz9_4
           try clear hx142_0
           try clear hx142_1
           try clear hx142_2
           try clear hx142_3
           try clear hx142_4
           try clear hx144_0
           try clear p1
           try clear p14
           try clear p142
           try clear p144
           try clear p2
           try clear p6
           try clear q1
           try clear q14
           try clear q142
           try clear q144
           obtain ⟨kq, x9_24, rfl, HA, HJ24, BK141, HB⟩ := hcut
           cases kq with
           | zero => exact absurd HA.out (by simp [spec_l12Term.j3])
           | succ kj24 =>
            have H := HA.out
            clear HA
            simp only [spec_l12Term.j3] at H
            have HC30 := Aside0.mk H
            clear H
            go_upto_region 14 with (fail)
            go_cut [90] (fun v90 wc => ∃ (kq : Nat) (x90_29 : Bool), v90 = .bool x90_29 ∧ Aside0 (spec_l12Term.j4 kq l0 x90_29 a1_0 a1_1 a1_2 l1_3 l1_4 = some r) ∧ Aside0 (kq ≤ kj24) ∧ Aside0 (wc.heap[gb141]? = some (.cells #[.int .i64 a1_0, .int .i64 a1_1, .string a1_2, (.slice A1_3 l1_3.length c1_3), (.slice A1_4 l1_4.length c1_4)] 78 (0, 0))) ∧ Aside0 (Below w.heap.size w wc))
            case first =>
             have H := HC30.out
             clear HC30
             by_cases c31 : a1_0 = 1
             ·rw [if_pos c31] at H
              have c31b0 : (a1_0 == 1) = true := beq_iff_eq.mpr c31
              have c31b1 : (a1_0 != 1) = false := bne_eq_false_iff_eq.mpr c31
              clear c31
              (first | rw [c31b0] | (simp only [i64_w, i32_w]; rw [c31b0]) | skip)
              by_cases c32 : a1_0 = 2
              ·rw [if_pos c32] at H
               have c32b0 : (a1_0 == 2) = true := beq_iff_eq.mpr c32
               have c32b1 : (a1_0 != 2) = false := bne_eq_false_iff_eq.mpr c32
               clear c32
               by_cases c33 : x9_24 = true
               ·subst c33
                rw [if_pos rfl] at H
                have H' := Aside0.mk H
                clear H
                have hcz34_0 := zh BK141
                have hcz34_1 := zh1 BK141
                have hcz34_2 := zh2 BK141
                have hcz34_3 : wc.cell? ⟨gb141, 3, none⟩ = some (.slice A1_3 l1_3.length c1_3) := (blk_cell BK141.out 3).trans rfl
                have hcz34_4 : wc.cell? ⟨gb141, 4, none⟩ = some (.slice A1_4 l1_4.length c1_4) := (blk_cell BK141.out 4).trans rfl
                have hfz34_0 := zfr BK141 0
                have hfz34_1 := zfr BK141 1
                have hfz34_2 := zfr BK141 2
                have hfz34_3 := zfr BK141 3
                have hfz34_4 := zfr BK141 4
                go_wp2
                go_meet
                case rel => exact ⟨_, (false), y7, H', ⟨(y28 HJ3.out HK2.out HK3.out HJ24.out)⟩, ⟨(y8 BK141.out)⟩, ⟨(y2 HB.out GE141.out)⟩⟩
               ·replace c33 := Bool.eq_false_iff.mpr c33
                subst c33
                rw [if_neg (show ¬ (false = true) by decide)] at H
                have H' := Aside0.mk H
                clear H
                have hcz35_0 := zh BK141
                have hcz35_1 := zh1 BK141
                have hcz35_2 := zh2 BK141
                have hcz35_3 : wc.cell? ⟨gb141, 3, none⟩ = some (.slice A1_3 l1_3.length c1_3) := (blk_cell BK141.out 3).trans rfl
                have hcz35_4 : wc.cell? ⟨gb141, 4, none⟩ = some (.slice A1_4 l1_4.length c1_4) := (blk_cell BK141.out 4).trans rfl
                have hfz35_0 := zfr BK141 0
                have hfz35_1 := zfr BK141 1
                have hfz35_2 := zfr BK141 2
                have hfz35_3 := zfr BK141 3
                have hfz35_4 := zfr BK141 4
                go_wp2
                go_meet
                case rel => exact ⟨_, (decide ((l1_3.length : Int) > 0)), y7, H', ⟨(y28 HJ3.out HK2.out HK3.out HJ24.out)⟩, ⟨(y8 BK141.out)⟩, ⟨(y2 HB.out GE141.out)⟩⟩
              ·rw [if_neg c32] at H
               have c32b0 : (a1_0 == 2) = false := beq_eq_false_iff_ne.mpr c32
               have c32b1 : (a1_0 != 2) = true := bne_iff_ne.mpr c32
               by_cases c36 : a1_2.toList = ([] : List UInt8)
               ·rw [if_pos c36] at H
                have c36b0 : (a1_2.toList == ([] : List UInt8)) = true := beq_iff_eq.mpr c36
                have c36b1 : (a1_2.toList != ([] : List UInt8)) = false := bne_eq_false_iff_eq.mpr c36
                clear c36
                by_cases c37 : x9_24 = true
                ·subst c37
                 rw [if_pos rfl] at H
                 have H' := Aside0.mk H
                 clear H
                 have hcz38_0 := zh BK141
                 have hcz38_1 := zh1 BK141
                 have hcz38_2 := zh2 BK141
                 have hcz38_3 : wc.cell? ⟨gb141, 3, none⟩ = some (.slice A1_3 l1_3.length c1_3) := (blk_cell BK141.out 3).trans rfl
                 have hcz38_4 : wc.cell? ⟨gb141, 4, none⟩ = some (.slice A1_4 l1_4.length c1_4) := (blk_cell BK141.out 4).trans rfl
                 have hfz38_0 := zfr BK141 0
                 have hfz38_1 := zfr BK141 1
                 have hfz38_2 := zfr BK141 2
                 have hfz38_3 := zfr BK141 3
                 have hfz38_4 := zfr BK141 4
                 go_wp2
                 go_meet
                 case rel => exact ⟨_, (false), y7, H', ⟨(y28 HJ3.out HK2.out HK3.out HJ24.out)⟩, ⟨(y8 BK141.out)⟩, ⟨(y2 HB.out GE141.out)⟩⟩
                ·replace c37 := Bool.eq_false_iff.mpr c37
                 subst c37
                 rw [if_neg (show ¬ (false = true) by decide)] at H
                 have H' := Aside0.mk H
                 clear H
                 have hcz39_0 := zh BK141
                 have hcz39_1 := zh1 BK141
                 have hcz39_2 := zh2 BK141
                 have hcz39_3 : wc.cell? ⟨gb141, 3, none⟩ = some (.slice A1_3 l1_3.length c1_3) := (blk_cell BK141.out 3).trans rfl
                 have hcz39_4 : wc.cell? ⟨gb141, 4, none⟩ = some (.slice A1_4 l1_4.length c1_4) := (blk_cell BK141.out 4).trans rfl
                 have hfz39_0 := zfr BK141 0
                 have hfz39_1 := zfr BK141 1
                 have hfz39_2 := zfr BK141 2
                 have hfz39_3 := zfr BK141 3
                 have hfz39_4 := zfr BK141 4
                 go_wp2
                 go_meet
                 case rel => exact ⟨_, (decide ((l1_3.length : Int) > 0)), y7, H', ⟨(y28 HJ3.out HK2.out HK3.out HJ24.out)⟩, ⟨(y8 BK141.out)⟩, ⟨(y2 HB.out GE141.out)⟩⟩
               ·rw [if_neg c36] at H
                have c36b0 : (a1_2.toList == ([] : List UInt8)) = false := beq_eq_false_iff_ne.mpr c36
                have c36b1 : (a1_2.toList != ([] : List UInt8)) = true := bne_iff_ne.mpr c36
                have H' := Aside0.mk H
                clear H
                have hcz40_0 := zh BK141
                have hcz40_1 := zh1 BK141
                have hcz40_2 := zh2 BK141
                have hcz40_3 : wc.cell? ⟨gb141, 3, none⟩ = some (.slice A1_3 l1_3.length c1_3) := (blk_cell BK141.out 3).trans rfl
                have hcz40_4 : wc.cell? ⟨gb141, 4, none⟩ = some (.slice A1_4 l1_4.length c1_4) := (blk_cell BK141.out 4).trans rfl
                have hfz40_0 := zfr BK141 0
                have hfz40_1 := zfr BK141 1
                have hfz40_2 := zfr BK141 2
                have hfz40_3 := zfr BK141 3
                have hfz40_4 := zfr BK141 4
                go_wp2
                go_meet
                case rel => exact ⟨_, (true), y7, H', ⟨(y28 HJ3.out HK2.out HK3.out HJ24.out)⟩, ⟨(y8 BK141.out)⟩, ⟨(y2 HB.out GE141.out)⟩⟩
             ·rw [if_neg c31] at H
              have c31b0 : (a1_0 == 1) = false := beq_eq_false_iff_ne.mpr c31
              have c31b1 : (a1_0 != 1) = true := bne_iff_ne.mpr c31
              (first | rw [c31b0] | (simp only [i64_w, i32_w]; rw [c31b0]) | skip)
              by_cases c41 : a1_1 = 0
              ·rw [if_pos c41] at H
               have c41b0 : (a1_1 == 0) = true := beq_iff_eq.mpr c41
               have c41b1 : (a1_1 != 0) = false := bne_eq_false_iff_eq.mpr c41
               clear c41
               by_cases c42 : a1_0 = 2
               ·rw [if_pos c42] at H
                have c42b0 : (a1_0 == 2) = true := beq_iff_eq.mpr c42
                have c42b1 : (a1_0 != 2) = false := bne_eq_false_iff_eq.mpr c42
                clear c42
                by_cases c43 : x9_24 = true
                ·subst c43
                 rw [if_pos rfl] at H
                 have H' := Aside0.mk H
                 clear H
                 have hcz44_0 := zh BK141
                 have hcz44_1 := zh1 BK141
                 have hcz44_2 := zh2 BK141
                 have hcz44_3 : wc.cell? ⟨gb141, 3, none⟩ = some (.slice A1_3 l1_3.length c1_3) := (blk_cell BK141.out 3).trans rfl
                 have hcz44_4 : wc.cell? ⟨gb141, 4, none⟩ = some (.slice A1_4 l1_4.length c1_4) := (blk_cell BK141.out 4).trans rfl
                 have hfz44_0 := zfr BK141 0
                 have hfz44_1 := zfr BK141 1
                 have hfz44_2 := zfr BK141 2
                 have hfz44_3 := zfr BK141 3
                 have hfz44_4 := zfr BK141 4
                 go_wp2
                 go_meet
                 case rel => exact ⟨_, (false), y7, H', ⟨(y28 HJ3.out HK2.out HK3.out HJ24.out)⟩, ⟨(y8 BK141.out)⟩, ⟨(y2 HB.out GE141.out)⟩⟩
                ·replace c43 := Bool.eq_false_iff.mpr c43
                 subst c43
                 rw [if_neg (show ¬ (false = true) by decide)] at H
                 have H' := Aside0.mk H
                 clear H
                 have hcz45_0 := zh BK141
                 have hcz45_1 := zh1 BK141
                 have hcz45_2 := zh2 BK141
                 have hcz45_3 : wc.cell? ⟨gb141, 3, none⟩ = some (.slice A1_3 l1_3.length c1_3) := (blk_cell BK141.out 3).trans rfl
                 have hcz45_4 : wc.cell? ⟨gb141, 4, none⟩ = some (.slice A1_4 l1_4.length c1_4) := (blk_cell BK141.out 4).trans rfl
                 have hfz45_0 := zfr BK141 0
                 have hfz45_1 := zfr BK141 1
                 have hfz45_2 := zfr BK141 2
                 have hfz45_3 := zfr BK141 3
                 have hfz45_4 := zfr BK141 4
                 go_wp2
                 go_meet
                 case rel => exact ⟨_, (decide ((l1_3.length : Int) > 0)), y7, H', ⟨(y28 HJ3.out HK2.out HK3.out HJ24.out)⟩, ⟨(y8 BK141.out)⟩, ⟨(y2 HB.out GE141.out)⟩⟩
               ·rw [if_neg c42] at H
                have c42b0 : (a1_0 == 2) = false := beq_eq_false_iff_ne.mpr c42
                have c42b1 : (a1_0 != 2) = true := bne_iff_ne.mpr c42
                by_cases c46 : a1_2.toList = ([] : List UInt8)
                ·rw [if_pos c46] at H
                 have c46b0 : (a1_2.toList == ([] : List UInt8)) = true := beq_iff_eq.mpr c46
                 have c46b1 : (a1_2.toList != ([] : List UInt8)) = false := bne_eq_false_iff_eq.mpr c46
                 clear c46
                 by_cases c47 : x9_24 = true
                 ·subst c47
                  rw [if_pos rfl] at H
                  have H' := Aside0.mk H
                  clear H
                  have hcz48_0 := zh BK141
                  have hcz48_1 := zh1 BK141
                  have hcz48_2 := zh2 BK141
                  have hcz48_3 : wc.cell? ⟨gb141, 3, none⟩ = some (.slice A1_3 l1_3.length c1_3) := (blk_cell BK141.out 3).trans rfl
                  have hcz48_4 : wc.cell? ⟨gb141, 4, none⟩ = some (.slice A1_4 l1_4.length c1_4) := (blk_cell BK141.out 4).trans rfl
                  have hfz48_0 := zfr BK141 0
                  have hfz48_1 := zfr BK141 1
                  have hfz48_2 := zfr BK141 2
                  have hfz48_3 := zfr BK141 3
                  have hfz48_4 := zfr BK141 4
                  go_wp2
                  go_meet
                  case rel => exact ⟨_, (false), y7, H', ⟨(y28 HJ3.out HK2.out HK3.out HJ24.out)⟩, ⟨(y8 BK141.out)⟩, ⟨(y2 HB.out GE141.out)⟩⟩
                 ·replace c47 := Bool.eq_false_iff.mpr c47
                  subst c47
                  rw [if_neg (show ¬ (false = true) by decide)] at H
                  have H' := Aside0.mk H
                  clear H
                  have hcz49_0 := zh BK141
                  have hcz49_1 := zh1 BK141
                  have hcz49_2 := zh2 BK141
                  have hcz49_3 : wc.cell? ⟨gb141, 3, none⟩ = some (.slice A1_3 l1_3.length c1_3) := (blk_cell BK141.out 3).trans rfl
                  have hcz49_4 : wc.cell? ⟨gb141, 4, none⟩ = some (.slice A1_4 l1_4.length c1_4) := (blk_cell BK141.out 4).trans rfl
                  have hfz49_0 := zfr BK141 0
                  have hfz49_1 := zfr BK141 1
                  have hfz49_2 := zfr BK141 2
                  have hfz49_3 := zfr BK141 3
                  have hfz49_4 := zfr BK141 4
                  go_wp2
                  go_meet
                  case rel => exact ⟨_, (decide ((l1_3.length : Int) > 0)), y7, H', ⟨(y28 HJ3.out HK2.out HK3.out HJ24.out)⟩, ⟨(y8 BK141.out)⟩, ⟨(y2 HB.out GE141.out)⟩⟩
                ·rw [if_neg c46] at H
                 have c46b0 : (a1_2.toList == ([] : List UInt8)) = false := beq_eq_false_iff_ne.mpr c46
                 have c46b1 : (a1_2.toList != ([] : List UInt8)) = true := bne_iff_ne.mpr c46
                 have H' := Aside0.mk H
                 clear H
                 have hcz50_0 := zh BK141
                 have hcz50_1 := zh1 BK141
                 have hcz50_2 := zh2 BK141
                 have hcz50_3 : wc.cell? ⟨gb141, 3, none⟩ = some (.slice A1_3 l1_3.length c1_3) := (blk_cell BK141.out 3).trans rfl
                 have hcz50_4 : wc.cell? ⟨gb141, 4, none⟩ = some (.slice A1_4 l1_4.length c1_4) := (blk_cell BK141.out 4).trans rfl
                 have hfz50_0 := zfr BK141 0
                 have hfz50_1 := zfr BK141 1
                 have hfz50_2 := zfr BK141 2
                 have hfz50_3 := zfr BK141 3
                 have hfz50_4 := zfr BK141 4
                 go_wp2
                 go_meet
                 case rel => exact ⟨_, (true), y7, H', ⟨(y28 HJ3.out HK2.out HK3.out HJ24.out)⟩, ⟨(y8 BK141.out)⟩, ⟨(y2 HB.out GE141.out)⟩⟩
              ·rw [if_neg c41] at H
               have c41b0 : (a1_1 == 0) = false := beq_eq_false_iff_ne.mpr c41
               have c41b1 : (a1_1 != 0) = true := bne_iff_ne.mpr c41
               have H' := Aside0.mk H
               clear H
               have hcz51_0 := zh BK141
               have hcz51_1 := zh1 BK141
               have hcz51_2 := zh2 BK141
               have hcz51_3 : wc.cell? ⟨gb141, 3, none⟩ = some (.slice A1_3 l1_3.length c1_3) := (blk_cell BK141.out 3).trans rfl
               have hcz51_4 : wc.cell? ⟨gb141, 4, none⟩ = some (.slice A1_4 l1_4.length c1_4) := (blk_cell BK141.out 4).trans rfl
               have hfz51_0 := zfr BK141 0
               have hfz51_1 := zfr BK141 1
               have hfz51_2 := zfr BK141 2
               have hfz51_3 := zfr BK141 3
               have hfz51_4 := zfr BK141 4
               go_wp2
               go_meet
               case rel => exact ⟨_, (true), y7, H', ⟨(y28 HJ3.out HK2.out HK3.out HJ24.out)⟩, ⟨(y8 BK141.out)⟩, ⟨(y2 HB.out GE141.out)⟩⟩
            case rest =>
             clear HC30
             try clear c1
             try clear p1
             try clear q1
             try clear hx1
             try clear c2
             try clear p2
             try clear c3
             try clear c4
             try clear c6
             try clear c6b0
             try clear p6
             try clear c7
             try clear c7b0
             try clear c7b1
             try clear c10
             try clear c11
             try clear c11b0
             try clear c12
             try clear c12b0
             try clear c14
             try clear p14
             try clear q14
             try clear hx14
             try clear c17
             try clear c19
             try clear c19b0
             try clear c20
             try clear c20b0
             try clear c24
             try clear c27
             try clear c27b0
             try clear c27b1
             try clear c31
             try clear c31b0
             try clear c31b1
             try clear c32
             try clear c32b0
             try clear c32b1
             try clear c33
             try clear c36
             try clear c36b0
             try clear c36b1
             try clear c37
             try clear c41
             try clear c41b0
             try clear c41b1
             try clear c42
             try clear c42b0
             try clear c42b1
             try clear c43
             try clear c46
             try clear c46b0
             try clear c46b1
             try clear c47
             try clear hcz15_0
             try clear hcz15_1
             try clear hcz15_2
             try clear hcz15_3
             try clear hcz15_4
             try clear hcz18_0
             try clear hcz18_1
             try clear hcz18_2
             try clear hcz18_3
             try clear hcz18_4
             try clear hcz23_0
             try clear hcz23_1
             try clear hcz23_2
             try clear hcz23_3
             try clear hcz23_4
             try clear hcz26_0
             try clear hcz26_1
             try clear hcz26_2
             try clear hcz26_3
             try clear hcz26_4
             try clear hcz28_0
             try clear hcz28_1
             try clear hcz28_2
             try clear hcz28_3
             try clear hcz28_4
             try clear hcz29_0
             try clear hcz29_1
             try clear hcz29_2
             try clear hcz29_3
             try clear hcz29_4
             try clear hcz34_0
             try clear hcz34_1
             try clear hcz34_2
             try clear hcz34_3
             try clear hcz34_4
             try clear hcz35_0
             try clear hcz35_1
             try clear hcz35_2
             try clear hcz35_3
             try clear hcz35_4
             try clear hcz38_0
             try clear hcz38_1
             try clear hcz38_2
             try clear hcz38_3
             try clear hcz38_4
             try clear hcz39_0
             try clear hcz39_1
             try clear hcz39_2
             try clear hcz39_3
             try clear hcz39_4
             try clear hcz40_0
             try clear hcz40_1
             try clear hcz40_2
             try clear hcz40_3
             try clear hcz40_4
             try clear hcz44_0
             try clear hcz44_1
             try clear hcz44_2
             try clear hcz44_3
             try clear hcz44_4
             try clear hcz45_0
             try clear hcz45_1
             try clear hcz45_2
             try clear hcz45_3
             try clear hcz45_4
             try clear hcz48_0
             try clear hcz48_1
             try clear hcz48_2
             try clear hcz48_3
             try clear hcz48_4
             try clear hcz49_0
             try clear hcz49_1
             try clear hcz49_2
             try clear hcz49_3
             try clear hcz49_4
             try clear hcz50_0
             try clear hcz50_1
             try clear hcz50_2
             try clear hcz50_3
             try clear hcz50_4
             try clear hcz51_0
             try clear hcz51_1
             try clear hcz51_2
             try clear hcz51_3
             try clear hcz51_4
             try clear hcz8_0
             try clear hcz8_1
             try clear hcz8_2
             try clear hcz8_3
             try clear hcz8_4
             try clear hcz9_0
             try clear hcz9_1
             try clear hcz9_2
             try clear hcz9_3
             try clear hcz9_4
             try clear hfz15_0
             try clear hfz15_1
             try clear hfz15_2
             try clear hfz15_3
             try clear hfz15_4
             try clear hfz18_0
             try clear hfz18_1
             try clear hfz18_2
             try clear hfz18_3
             try clear hfz18_4
             try clear hfz23_0
             try clear hfz23_1
             try clear hfz23_2
             try clear hfz23_3
             try clear hfz23_4
             try clear hfz26_0
             try clear hfz26_1
             try clear hfz26_2
             try clear hfz26_3
             try clear hfz26_4
             try clear hfz28_0
             try clear hfz28_1
             try clear hfz28_2
             try clear hfz28_3
             try clear hfz28_4
             try clear hfz29_0
             try clear hfz29_1
             try clear hfz29_2
             try clear hfz29_3
             try clear hfz29_4
             try clear hfz34_0
             try clear hfz34_1
             try clear hfz34_2
             try clear hfz34_3
             try clear hfz34_4
             try clear hfz35_0
             try clear hfz35_1
             try clear hfz35_2
             try clear hfz35_3
             try clear hfz35_4
             try clear hfz38_0
             try clear hfz38_1
             try clear hfz38_2
             try clear hfz38_3
             try clear hfz38_4
             try clear hfz39_0
             try clear hfz39_1
             try clear hfz39_2
             try clear hfz39_3
             try clear hfz39_4
             try clear hfz40_0
             try clear hfz40_1
             try clear hfz40_2
             try clear hfz40_3
             try clear hfz40_4
             try clear hfz44_0
             try clear hfz44_1
             try clear hfz44_2
             try clear hfz44_3
             try clear hfz44_4
             try clear hfz45_0
             try clear hfz45_1
             try clear hfz45_2
             try clear hfz45_3
             try clear hfz45_4
             try clear hfz48_0
             try clear hfz48_1
             try clear hfz48_2
             try clear hfz48_3
             try clear hfz48_4
             try clear hfz49_0
             try clear hfz49_1
             try clear hfz49_2
             try clear hfz49_3
             try clear hfz49_4
             try clear hfz50_0
             try clear hfz50_1
             try clear hfz50_2
             try clear hfz50_3
             try clear hfz50_4
             try clear hfz51_0
             try clear hfz51_1
             try clear hfz51_2
             try clear hfz51_3
             try clear hfz51_4
             try clear hfz8_0
             try clear hfz8_1
             try clear hfz8_2
             try clear hfz8_3
             try clear hfz8_4
             try clear hfz9_0
             try clear hfz9_1
             try clear hfz9_2
             try clear hfz9_3
             try clear hfz9_4
             try clear hx142_0
             try clear hx142_1
             try clear hx142_2
             try clear hx142_3
             try clear hx142_4
             try clear hx144_0
             try clear p1
             try clear p14
             try clear p142
             try clear p144
             try clear p2
             try clear p6
             try clear q1
             try clear q14
             try clear q142
             try clear q144
             obtain ⟨kq, x90_29, rfl, HA, HJ29, BK141, HB⟩ := hcut
             cases kq with
             | zero => exact absurd HA.out (by simp [spec_l12Term.j4])
             | succ kj29 =>
              have H := HA.out
              clear HA
              simp only [spec_l12Term.j4] at H
              by_cases c52 : x90_29 = true
              ·subst c52
               rw [if_pos rfl] at H
               obtain rfl := Option.some.inj H
               go_wp2
               go_ret
               exact ⟨y6, (y2 HB.out GE141.out)⟩
              ·replace c52 := Bool.eq_false_iff.mpr c52
               subst c52
               rw [if_neg (show ¬ (false = true) by decide)] at H
               by_cases c53 : a1_0 = 1
               ·rw [if_pos c53] at H
                have c53b0 : (a1_0 == 1) = true := beq_iff_eq.mpr c53
                have c53b1 : (a1_0 != 1) = false := bne_eq_false_iff_eq.mpr c53
                clear c53
                obtain ⟨t146, A540, H⟩ := ob H
                have A54 := Aside0.mk A540
                clear A540
                by_cases c55 : t146 = true
                ·subst c55
                 rw [if_pos rfl] at H
                 obtain rfl := Option.some.inj H
                 have hcz56_0 := zh BK141
                 have hcz56_1 := zh1 BK141
                 have hcz56_2 := zh2 BK141
                 have hcz56_3 : wc.cell? ⟨gb141, 3, none⟩ = some (.slice A1_3 l1_3.length c1_3) := (blk_cell BK141.out 3).trans rfl
                 have hcz56_4 : wc.cell? ⟨gb141, 4, none⟩ = some (.slice A1_4 l1_4.length c1_4) := (blk_cell BK141.out 4).trans rfl
                 have hfz56_0 := zfr BK141 0
                 have hfz56_1 := zfr BK141 1
                 have hfz56_2 := zfr BK141 2
                 have hfz56_3 := zfr BK141 3
                 have hfz56_4 := zfr BK141 4
                 go_wp2_with (first | ((with_reducible refine gate_callee (f := 61) rfl ?_); refine goesL_ (some 97) rfl rfl Try.func61 (by kernel_rfl) rfl #[.int .i64 a1_1, .int .i64 0, .int .i64 9999] rfl y3 ?_; (with_reducible refine (spec_l6In.calls a1_1 0 9999 true _ A54.out).mono ?_); rintro e w' ⟨rfl, ⟨nd, rfl⟩⟩; refine ⟨_, rfl, ?_⟩))
                 go_ret
                 exact ⟨y6, (y2 HB.out GE141.out)⟩
                ·replace c55 := Bool.eq_false_iff.mpr c55
                 subst c55
                 rw [if_neg (show ¬ (false = true) by decide)] at H
                 obtain rfl := Option.some.inj H
                 have hcz57_0 := zh BK141
                 have hcz57_1 := zh1 BK141
                 have hcz57_2 := zh2 BK141
                 have hcz57_3 : wc.cell? ⟨gb141, 3, none⟩ = some (.slice A1_3 l1_3.length c1_3) := (blk_cell BK141.out 3).trans rfl
                 have hcz57_4 : wc.cell? ⟨gb141, 4, none⟩ = some (.slice A1_4 l1_4.length c1_4) := (blk_cell BK141.out 4).trans rfl
                 have hfz57_0 := zfr BK141 0
                 have hfz57_1 := zfr BK141 1
                 have hfz57_2 := zfr BK141 2
                 have hfz57_3 := zfr BK141 3
                 have hfz57_4 := zfr BK141 4
                 go_wp2_with (first | ((with_reducible refine gate_callee (f := 61) rfl ?_); refine goesL_ (some 97) rfl rfl Try.func61 (by kernel_rfl) rfl #[.int .i64 a1_1, .int .i64 0, .int .i64 9999] rfl y3 ?_; (with_reducible refine (spec_l6In.calls a1_1 0 9999 false _ A54.out).mono ?_); rintro e w' ⟨rfl, ⟨nd, rfl⟩⟩; refine ⟨_, rfl, ?_⟩))
                 go_ret
                 exact ⟨y6, (y2 HB.out GE141.out)⟩
               ·rw [if_neg c53] at H
                have c53b0 : (a1_0 == 1) = false := beq_eq_false_iff_ne.mpr c53
                have c53b1 : (a1_0 != 1) = true := bne_iff_ne.mpr c53
                by_cases c58 : a1_0 = 2
                ·rw [if_pos c58] at H
                 have c58b0 : (a1_0 == 2) = true := beq_iff_eq.mpr c58
                 have c58b1 : (a1_0 != 2) = false := bne_eq_false_iff_eq.mpr c58
                 clear c58
                 obtain ⟨t147, A590, H⟩ := ob H
                 have A59 := Aside0.mk A590
                 clear A590
                 by_cases c60 : t147 = true
                 ·subst c60
                  rw [if_pos rfl] at H
                  obtain rfl := Option.some.inj H
                  have hcz61_0 := zh BK141
                  have hcz61_1 := zh1 BK141
                  have hcz61_2 := zh2 BK141
                  have hcz61_3 : wc.cell? ⟨gb141, 3, none⟩ = some (.slice A1_3 l1_3.length c1_3) := (blk_cell BK141.out 3).trans rfl
                  have hcz61_4 : wc.cell? ⟨gb141, 4, none⟩ = some (.slice A1_4 l1_4.length c1_4) := (blk_cell BK141.out 4).trans rfl
                  have hfz61_0 := zfr BK141 0
                  have hfz61_1 := zfr BK141 1
                  have hfz61_2 := zfr BK141 2
                  have hfz61_3 := zfr BK141 3
                  have hfz61_4 := zfr BK141 4
                  go_wp2_with (first | ((with_reducible refine gate_callee (f := 19) rfl ?_); refine goesL_ (some 109) rfl rfl Try.func19 (by kernel_rfl) rfl #[.slice A0 l0.length c0, .string a1_2] rfl y3 ?_; (with_reducible refine (spec_l12Has.calls kj29 _ _ l0 a1_2 true _ ?side1 ?side2 A59.out).mono ?_); (case side1 => exact y0 HR0.out HB.out); (case side2 => exact HC0.out); rintro e w' ⟨rfl, ⟨nd, rfl⟩⟩; refine ⟨_, rfl, ?_⟩))
                  go_ret
                  exact ⟨y6, (y2 HB.out GE141.out)⟩
                 ·replace c60 := Bool.eq_false_iff.mpr c60
                  subst c60
                  rw [if_neg (show ¬ (false = true) by decide)] at H
                  obtain rfl := Option.some.inj H
                  have hcz62_0 := zh BK141
                  have hcz62_1 := zh1 BK141
                  have hcz62_2 := zh2 BK141
                  have hcz62_3 : wc.cell? ⟨gb141, 3, none⟩ = some (.slice A1_3 l1_3.length c1_3) := (blk_cell BK141.out 3).trans rfl
                  have hcz62_4 : wc.cell? ⟨gb141, 4, none⟩ = some (.slice A1_4 l1_4.length c1_4) := (blk_cell BK141.out 4).trans rfl
                  have hfz62_0 := zfr BK141 0
                  have hfz62_1 := zfr BK141 1
                  have hfz62_2 := zfr BK141 2
                  have hfz62_3 := zfr BK141 3
                  have hfz62_4 := zfr BK141 4
                  go_wp2_with (first | ((with_reducible refine gate_callee (f := 19) rfl ?_); refine goesL_ (some 109) rfl rfl Try.func19 (by kernel_rfl) rfl #[.slice A0 l0.length c0, .string a1_2] rfl y3 ?_; (with_reducible refine (spec_l12Has.calls kj29 _ _ l0 a1_2 false _ ?side1 ?side2 A59.out).mono ?_); (case side1 => exact y0 HR0.out HB.out); (case side2 => exact HC0.out); rintro e w' ⟨rfl, ⟨nd, rfl⟩⟩; refine ⟨_, rfl, ?_⟩))
                  go_ret
                  exact ⟨y6, (y2 HB.out GE141.out)⟩
                ·rw [if_neg c58] at H
                 have c58b0 : (a1_0 == 2) = false := beq_eq_false_iff_ne.mpr c58
                 have c58b1 : (a1_0 != 2) = true := bne_iff_ne.mpr c58
                 by_cases c63 : a1_0 = 7
                 ·rw [if_pos c63] at H
                  have c63b0 : (a1_0 == 7) = true := beq_iff_eq.mpr c63
                  have c63b1 : (a1_0 != 7) = false := bne_eq_false_iff_eq.mpr c63
                  clear c63
                  obtain rfl := Option.some.inj H
                  have hcz64_0 := zh BK141
                  have hcz64_1 := zh1 BK141
                  have hcz64_2 := zh2 BK141
                  have hcz64_3 : wc.cell? ⟨gb141, 3, none⟩ = some (.slice A1_3 l1_3.length c1_3) := (blk_cell BK141.out 3).trans rfl
                  have hcz64_4 : wc.cell? ⟨gb141, 4, none⟩ = some (.slice A1_4 l1_4.length c1_4) := (blk_cell BK141.out 4).trans rfl
                  have hfz64_0 := zfr BK141 0
                  have hfz64_1 := zfr BK141 1
                  have hfz64_2 := zfr BK141 2
                  have hfz64_3 := zfr BK141 3
                  have hfz64_4 := zfr BK141 4
                  go_wp2
                  go_ret
                  exact ⟨y6, (y2 HB.out GE141.out)⟩
                 ·rw [if_neg c63] at H
                  have c63b0 : (a1_0 == 7) = false := beq_eq_false_iff_ne.mpr c63
                  have c63b1 : (a1_0 != 7) = true := bne_iff_ne.mpr c63
                  obtain ⟨t148, A650, H⟩ := ob H
                  have A65 := Aside0.mk A650
                  clear A650
                  by_cases c66 : t148 = true
                  ·subst c66
                   rw [if_pos rfl] at H
                   obtain rfl := Option.some.inj H
                   have hcz67_0 := zh BK141
                   have hcz67_1 := zh1 BK141
                   have hcz67_2 := zh2 BK141
                   have hcz67_3 : wc.cell? ⟨gb141, 3, none⟩ = some (.slice A1_3 l1_3.length c1_3) := (blk_cell BK141.out 3).trans rfl
                   have hcz67_4 : wc.cell? ⟨gb141, 4, none⟩ = some (.slice A1_4 l1_4.length c1_4) := (blk_cell BK141.out 4).trans rfl
                   have hfz67_0 := zfr BK141 0
                   have hfz67_1 := zfr BK141 1
                   have hfz67_2 := zfr BK141 2
                   have hfz67_3 := zfr BK141 3
                   have hfz67_4 := zfr BK141 4
                   go_wp2_with (first | ((with_reducible refine gate_callee (f := 61) rfl ?_); refine goesL_ (some 124) rfl rfl Try.func61 (by kernel_rfl) rfl #[.int .i64 a1_0, .int .i64 3, .int .i64 8] rfl y3 ?_; (with_reducible refine (spec_l6In.calls a1_0 3 8 true _ A65.out).mono ?_); rintro e w' ⟨rfl, ⟨nd, rfl⟩⟩; refine ⟨_, rfl, ?_⟩))
                   go_ret
                   exact ⟨y6, (y2 HB.out GE141.out)⟩
                  ·replace c66 := Bool.eq_false_iff.mpr c66
                   subst c66
                   rw [if_neg (show ¬ (false = true) by decide)] at H
                   obtain rfl := Option.some.inj H
                   have hcz68_0 := zh BK141
                   have hcz68_1 := zh1 BK141
                   have hcz68_2 := zh2 BK141
                   have hcz68_3 : wc.cell? ⟨gb141, 3, none⟩ = some (.slice A1_3 l1_3.length c1_3) := (blk_cell BK141.out 3).trans rfl
                   have hcz68_4 : wc.cell? ⟨gb141, 4, none⟩ = some (.slice A1_4 l1_4.length c1_4) := (blk_cell BK141.out 4).trans rfl
                   have hfz68_0 := zfr BK141 0
                   have hfz68_1 := zfr BK141 1
                   have hfz68_2 := zfr BK141 2
                   have hfz68_3 := zfr BK141 3
                   have hfz68_4 := zfr BK141 4
                   go_wp2_with (first | ((with_reducible refine gate_callee (f := 61) rfl ?_); refine goesL_ (some 124) rfl rfl Try.func61 (by kernel_rfl) rfl #[.int .i64 a1_0, .int .i64 3, .int .i64 8] rfl y3 ?_; (with_reducible refine (spec_l6In.calls a1_0 3 8 false _ A65.out).mono ?_); rintro e w' ⟨rfl, ⟨nd, rfl⟩⟩; refine ⟨_, rfl, ?_⟩))
                   go_ret
                   exact ⟨y6, (y2 HB.out GE141.out)⟩
end Go.Proofs.Ytdgpegkgelciaaa.PA
end
section
namespace Go.Proofs.Ytdgpegkgelciaaa.PA
open Go.RowKit Go.Proofs.YtdgpegkgelciaaaW.PrintWords Go.Proofs.YtdgpegkgelciaaaW.PrintLast Go.Proofs.YtdgpegkgelciaaaW.PrintMore
attribute [local go_sem] max2_int min2_int max_two min_two max_three min_three max_four min_four
set_option linter.unusedVariables false
set_option linter.unusedSimpArgs false
def spec_l12Terms.l0 : Nat → List ByteArray → List (S78) → Int → Option (Bool)
 | 0, _, _, _ => none
 | k + 1, x0, x1, x5 => if x5 < (x1.length : Int) then (if 0 ≤ x5 then ((spec_l12Term.f k x0 ((rd_T78 x1 x5).f0) ((rd_T78 x1 x5).f1) ((rd_T78 x1 x5).f2) ((rd_T78 x1 x5).f3) ((rd_T78 x1 x5).f4) 8).bind fun t150 => (if t150 = true then (spec_l12Terms.l0 k x0 x1 (wrap64 (x5 + 1))) else (some false))) else (none)) else (some true)
def spec_l12Terms.f (k : Nat) (l0 : List ByteArray) (l1 : List (S78)) : Option (Bool) := if (l1.length : Int) > 60 then (some false) else (spec_l12Terms.l0 k l0 l1 0)
theorem spec_l12Terms.mono_l : ∀ k, (∀ y0 y1 y2, LeO (spec_l12Terms.l0 k y0 y1 y2) (spec_l12Terms.l0 (k + 1) y0 y1 y2))
 | 0 => fun _ _ _ r h => by simp [spec_l12Terms.l0] at h
 | k + 1 => by
  have ih0 := spec_l12Terms.mono_l k
  ·intro y0 y1 y2
   unfold spec_l12Terms.l0
   repeat' first
   | (with_reducible exact ih0 _ _ _)
   | (with_reducible exact spec_l12Term.mono _ _ _ _ _ _ _ _)
   | (with_reducible exact LeO.refl _)
   | (with_reducible exact LeO.none _)
   | (with_reducible refine LeO.ite ?_ ?_)
   | (with_reducible refine LeO.bind ?_ (fun _ => ?_))
   | exact ih0 _ _ _
   | exact spec_l12Term.mono _ _ _ _ _ _ _ _
   | exact LeO.none _
   | refine LeO.ite ?_ ?_
   | refine LeO.bind ?_ (fun _ => ?_)
theorem spec_l12Terms.mono : ∀ a0 a1 k, LeO (spec_l12Terms.f k a0 a1) (spec_l12Terms.f (k + 1) a0 a1) := by
 intro a0 a1 k
 have ih0 := spec_l12Terms.mono_l k
 unfold spec_l12Terms.f
 repeat' first
   | (with_reducible exact ih0 _ _ _)
   | (with_reducible exact spec_l12Term.mono _ _ _ _ _ _ _ _)
   | (with_reducible exact LeO.refl _)
   | (with_reducible exact LeO.none _)
   | (with_reducible refine LeO.ite ?_ ?_)
   | (with_reducible refine LeO.bind ?_ (fun _ => ?_))
   | exact ih0 _ _ _
   | exact spec_l12Term.mono _ _ _ _ _ _ _ _
   | exact LeO.none _
   | refine LeO.ite ?_ ?_
   | refine LeO.bind ?_ (fun _ => ?_)
set_option maxHeartbeats 8000000 in
set_option maxRecDepth 100000 in
theorem spec_l12Terms.calls (k : Nat) (A0 : Option Addr) (c0 : Nat) (l0 : List ByteArray) (A1 : Option Addr) (c1 : Nat) (l1 : List (S78)) (r : Bool) (w : World) (hr0 : Kd.C Kd.string w A0 l0.length l0) (hc0 : l0.length ≤ c0) (hr1 : Kd.C k78 w A1 l1.length l1) (hc1 : l1.length ≤ c1) (h : spec_l12Terms.f k l0 l1 = some r) :
  Calls Try.prog 34 #[.slice A0 l0.length c0, .slice A1 l1.length c1] w fun e w' => e = .returned (.bool r) ∧ Below w.heap.size w w' := by
 have hu78 := Try.underlying78
 have HR0 := Aside0.mk hr0
 have HC0 := Aside0.mk hc0
 clear hr0 hc0
 have HR1 := Aside0.mk hr1
 have HC1 := Aside0.mk hc1
 clear hr1 hc1
 have HB := Aside0.mk (Below.refl w.heap.size w)
 have H : (if (l1.length : Int) > 60 then (some false) else (spec_l12Terms.l0 k l0 l1 0)) = some r := h
 clear h
 by_cases c3 : (l1.length : Int) > 60
 ·rw [if_pos c3] at H
  have c3b0 : decide (60 < (l1.length : Int)) = true := decide_eq_true c3
  have c3b1 : decide (60 < l1.length) = true := decide_eq_true (by omega)
  clear c3
  obtain rfl := Option.some.inj H
  go_enter Try.func34, Try.ntmps34
  go_wp2
  go_ret
  exact ⟨y6, (y1 HB.out)⟩
 ·rw [if_neg c3] at H
  have c3b0 : decide (60 < (l1.length : Int)) = false := decide_eq_false c3
  have c3b1 : decide (60 < l1.length) = false := decide_eq_false (by omega)
  clear c3
  have H' := Aside0.mk H
  clear H
  go_enter Try.func34, Try.ntmps34
  go_wp2
  go_loopg [5] k (fun kq v5 w' => ∃ (x5_1 : Int), v5 = .int .i64 x5_1 ∧ Aside0 (spec_l12Terms.l0 kq l0 l1 x5_1 = some r) ∧ Aside0 (kq ≤ k) ∧ Aside0 (Below w.heap.size w w'))
  case atStart => exact ⟨(0), y7, H', ⟨Nat.le_refl _⟩, ⟨(y1 HB.out)⟩⟩
  case round =>
   clear H'
   try clear c1
   try clear p2
   try clear c3
   try clear c3b0
   try clear c3b1
   obtain ⟨x5_1, rfl, HA, HK1, HB⟩ := hrel
   cases gk with
   | zero => exact absurd HA.out (by simp [spec_l12Terms.l0])
   | succ k1 =>
    have H := HA.out
    clear HA
    simp only [spec_l12Terms.l0] at H
    by_cases c4 : x5_1 < (l1.length : Int)
    ·rw [if_pos c4] at H
     have c4b0 : decide (x5_1 < (l1.length : Int)) = true := decide_eq_true c4
     clear c4
     by_cases c5 : 0 ≤ x5_1
     ·rw [if_pos c5] at H
      have c5b0 : decide (0 ≤ x5_1) = true := decide_eq_true c5
      clear c5
      obtain ⟨t150, A60, H⟩ := ob H
      have A6 := Aside0.mk A60
      clear A60
      have HZ7 := Aside0.mk H
      clear H
      have p149 : 0 ≤ (x5_1 : Int) := of_decide_eq_true y4
      have q149 : x5_1 < (l1.length : Int) := of_decide_eq_true y4
      obtain ⟨ad149, A149_3, c149_3, A149_4, c149_4, e149, hx149_0, hx149_1, hx149_2, hx149_3, hx149_4, hl149_3, hi149_3, hl149_4, hi149_4⟩ := at_T78 HR1.out x5_1 p149 q149
      cases e149
      replace hx149_0 := (HB.out.cell (World.block_lt_of_cell? w _ hx149_0)).trans hx149_0
      replace hx149_1 := (HB.out.cell (World.block_lt_of_cell? w _ hx149_1)).trans hx149_1
      replace hx149_2 := (HB.out.cell (World.block_lt_of_cell? w _ hx149_2)).trans hx149_2
      replace hx149_3 := (HB.out.cell (World.block_lt_of_cell? w _ hx149_3)).trans hx149_3
      replace hx149_4 := (HB.out.cell (World.block_lt_of_cell? w _ hx149_4)).trans hx149_4
      have HR149_3 := Aside0.mk hi149_3
      have HC149_3 := Aside0.mk hl149_3
      clear hi149_3 hl149_3
      have HR149_4 := Aside0.mk hi149_4
      have HC149_4 := Aside0.mk hl149_4
      clear hi149_4 hl149_4
      replace p149 := eq_true p149
      replace q149 := eq_true q149
      go_upto_if 21 with (first | ((with_reducible refine gate_callee (f := 49) rfl ?_); refine goesL_ (some 20) rfl rfl Try.func49 (by kernel_rfl) rfl #[.slice A0 l0.length c0, .agg #[.int .i64 ((rd_T78 l1 x5_1).f0), .int .i64 ((rd_T78 l1 x5_1).f1), .string ((rd_T78 l1 x5_1).f2), .slice A149_3 ((rd_T78 l1 x5_1).f3).length c149_3, .slice A149_4 ((rd_T78 l1 x5_1).f4).length c149_4], .int .i64 8] rfl y3 ?_; (with_reducible refine (spec_l12Term.calls k1 _ _ l0 ((rd_T78 l1 x5_1).f0) ((rd_T78 l1 x5_1).f1) ((rd_T78 l1 x5_1).f2) _ _ ((rd_T78 l1 x5_1).f3) _ _ ((rd_T78 l1 x5_1).f4) 8 t150 _ ?side1 ?side2 ?side3 ?side4 ?side5 ?side6 A6.out).mono ?_); (case side1 => exact y0 HR0.out HB.out); (case side2 => exact HC0.out); (case side3 => exact y0 HR149_3.out HB.out); (case side4 => exact HC149_3.out); (case side5 => exact y0 HR149_4.out HB.out); (case side6 => exact HC149_4.out); rintro e w8 ⟨rfl, hb⟩; refine ⟨_, rfl, ?_⟩; replace HB := Aside0.mk (below_step (y1 HB.out) hb); (try clear hb); (try clear hb2); (try clear hk); (try clear hi)))
      (try simp only [Act.put, List.setIfInBounds_toArray, List.set_cons_zero, List.set_cons_succ])
      have H := HZ7.out
      clear HZ7
      by_cases c9 : t150 = true
      ·subst c9
       rw [if_pos rfl] at H
       have H' := Aside0.mk H
       clear H
       go_wp2
       go_roundg k1
       case measure => have := HK1.out; omega
       case rel => exact ⟨(wrap64 (x5_1 + 1)), y7, H', ⟨(y30 HK1.out)⟩, ⟨(y1 HB.out)⟩⟩
      ·replace c9 := Bool.eq_false_iff.mpr c9
       subst c9
       rw [if_neg (show ¬ (false = true) by decide)] at H
       obtain rfl := Option.some.inj H
       go_wp2
       go_ret
       exact ⟨y6, (y1 HB.out)⟩
     ·rw [if_neg c5] at H
      exact absurd H (by simp)
    ·rw [if_neg c4] at H
     have c4b0 : decide (x5_1 < (l1.length : Int)) = false := decide_eq_false c4
     clear c4
     obtain rfl := Option.some.inj H
     go_wp2
     go_ret
     exact ⟨y6, (y1 HB.out)⟩
end Go.Proofs.Ytdgpegkgelciaaa.PA
end
