-- Ytdgpegkgelciaaa's texts for the statement FnExactSimpSize, one behind the other (merge.py).
import Derived.Test.YtdgpegkgelciaaaQFnExactSimpSize0
import Derived.Test.YtdgpegkgelciaaaQFnExactSimpSize1
section
namespace Go.Proofs.Ytdgpegkgelciaaa.PA
open Go.RowKit Go.Proofs.YtdgpegkgelciaaaW.PrintWords Go.Proofs.YtdgpegkgelciaaaW.PrintLast Go.Proofs.YtdgpegkgelciaaaW.PrintMore
attribute [local go_sem] max2_int min2_int max_two min_two max_three min_three max_four min_four
set_option linter.unusedVariables false
set_option linter.unusedSimpArgs false
def laws_eqBody.F (rec_ : List (S64) → List (S64) → Option (Bool)) (k : Nat) (l0_0 : List (S64)) (l0_1 : List (S78)) (l1_0 : List (S64)) (l1_1 : List (S78)) : Option (Bool) := (rec_ l0_0 l1_0).bind fun t482 => (if t482 = true then ((laws_eqTermS.f k l0_1 l1_1).bind fun t483 => (if t483 = true then (some true) else (some false))) else (some false))
def laws_eqBind.F (rec_ : List (S64) → List (S64) → Option (Bool)) (k : Nat) (a0_0 : Int) (l0_1 : List ByteArray) (a0_2 : ByteArray) (l0_3 : List (S78)) (l0_4 : List (S64)) (l0_5 : List (S78)) (l0_6 : List (S64)) (l0_7 : List (S78)) (a1_0 : Int) (l1_1 : List ByteArray) (a1_2 : ByteArray) (l1_3 : List (S78)) (l1_4 : List (S64)) (l1_5 : List (S78)) (l1_6 : List (S64)) (l1_7 : List (S78)) : Option (Bool) := if a0_0 = a1_0 then ((laws_eqStringS.f k l0_1 l1_1).bind fun t486 => (if t486 = true then (if a0_2.toList = a1_2.toList then ((laws_eqTermS.f k l0_3 l1_3).bind fun t487 => (if t487 = true then ((laws_eqBody.F rec_ k l0_4 l0_5 l1_4 l1_5).bind fun t488 => (if t488 = true then ((laws_eqBody.F rec_ k l0_6 l0_7 l1_6 l1_7).bind fun t489 => (if t489 = true then (some true) else (some false))) else (some false))) else (some false))) else (some false)) else (some false))) else (some false)
mutual
def laws_eqBindS.l0 : Nat → List (S64) → List (S64) → Int → Option (Bool)
 | 0, _, _, _ => none
 | k + 1, x0, x1, x5 => if x5 < (x0.length : Int) then (if 0 ≤ x5 then (if x5 < (x1.length : Int) then ((laws_eqBind.F (laws_eqBindS.f k) k ((rd_T64 x0 x5).f0) ((rd_T64 x0 x5).f1) ((rd_T64 x0 x5).f2) ((rd_T64 x0 x5).f3) ((rd_T64 x0 x5).f4.f0) ((rd_T64 x0 x5).f4.f1) ((rd_T64 x0 x5).f5.f0) ((rd_T64 x0 x5).f5.f1) ((rd_T64 x1 x5).f0) ((rd_T64 x1 x5).f1) ((rd_T64 x1 x5).f2) ((rd_T64 x1 x5).f3) ((rd_T64 x1 x5).f4.f0) ((rd_T64 x1 x5).f4.f1) ((rd_T64 x1 x5).f5.f0) ((rd_T64 x1 x5).f5.f1)).bind fun t492 => (if t492 = true then (laws_eqBindS.l0 k x0 x1 (wrap64 (x5 + 1))) else (some false))) else (none)) else (none)) else (some true)
def laws_eqBindS.f : Nat → List (S64) → List (S64) → Option (Bool)
 | 0, _, _ => none
 | k + 1, l0, l1 => if (l0.length : Int) = (l1.length : Int) then (laws_eqBindS.l0 k l0 l1 0) else (some false)
end
theorem laws_eqBody.Fmono {rec_ rec2_ : List (S64) → List (S64) → Option (Bool)} (hrec : (∀ y0 y1, LeO (rec_ y0 y1) (rec2_ y0 y1))) : ∀ a0 a1 a2 a3 k, LeO (laws_eqBody.F rec_ k a0 a1 a2 a3) (laws_eqBody.F rec2_ (k + 1) a0 a1 a2 a3) := by
 intro a0 a1 a2 a3 k
 unfold laws_eqBody.F
 repeat' first
   | (with_reducible exact hrec _ _)
   | (with_reducible exact laws_eqTermS.mono _ _ _)
   | (with_reducible exact LeO.refl _)
   | (with_reducible exact LeO.none _)
   | (with_reducible refine LeO.ite ?_ ?_)
   | (with_reducible refine LeO.bind ?_ (fun _ => ?_))
   | exact hrec _ _
   | exact laws_eqTermS.mono _ _ _
   | exact LeO.none _
   | refine LeO.ite ?_ ?_
   | refine LeO.bind ?_ (fun _ => ?_)
theorem laws_eqBind.Fmono {rec_ rec2_ : List (S64) → List (S64) → Option (Bool)} (hrec : (∀ y0 y1, LeO (rec_ y0 y1) (rec2_ y0 y1))) : ∀ a0 a1 a2 a3 a4 a5 a6 a7 a8 a9 a10 a11 a12 a13 a14 a15 k, LeO (laws_eqBind.F rec_ k a0 a1 a2 a3 a4 a5 a6 a7 a8 a9 a10 a11 a12 a13 a14 a15) (laws_eqBind.F rec2_ (k + 1) a0 a1 a2 a3 a4 a5 a6 a7 a8 a9 a10 a11 a12 a13 a14 a15) := by
 intro a0 a1 a2 a3 a4 a5 a6 a7 a8 a9 a10 a11 a12 a13 a14 a15 k
 unfold laws_eqBind.F
 repeat' first
   | (with_reducible exact laws_eqBody.Fmono hrec _ _ _ _ _)
   | (with_reducible exact laws_eqStringS.mono _ _ _)
   | (with_reducible exact laws_eqTermS.mono _ _ _)
   | (with_reducible exact LeO.refl _)
   | (with_reducible exact LeO.none _)
   | (with_reducible refine LeO.ite ?_ ?_)
   | (with_reducible refine LeO.bind ?_ (fun _ => ?_))
   | exact laws_eqBody.Fmono hrec _ _ _ _ _
   | exact laws_eqStringS.mono _ _ _
   | exact laws_eqTermS.mono _ _ _
   | exact LeO.none _
   | refine LeO.ite ?_ ?_
   | refine LeO.bind ?_ (fun _ => ?_)
theorem laws_eqBindS.mono_l : ∀ k, (∀ y0 y1, LeO (laws_eqBindS.f k y0 y1) (laws_eqBindS.f (k + 1) y0 y1)) ∧ (∀ y0 y1 y2, LeO (laws_eqBindS.l0 k y0 y1 y2) (laws_eqBindS.l0 (k + 1) y0 y1 y2))
 | 0 => ⟨fun _ _ r h => by simp [laws_eqBindS.f] at h, fun _ _ _ r h => by simp [laws_eqBindS.l0] at h⟩
 | k + 1 => by
  obtain ⟨ih0, ih1⟩ := laws_eqBindS.mono_l k
  refine ⟨?_, ?_⟩
  ·intro y0 y1
   unfold laws_eqBindS.f
   repeat' first
   | (with_reducible exact ih0 _ _)
   | (with_reducible exact ih1 _ _ _)
   | (with_reducible exact laws_eqBind.Fmono ih0 _ _ _ _ _ _ _ _ _ _ _ _ _ _ _ _ _)
   | (with_reducible exact LeO.refl _)
   | (with_reducible exact LeO.none _)
   | (with_reducible refine LeO.ite ?_ ?_)
   | (with_reducible refine LeO.bind ?_ (fun _ => ?_))
   | exact ih0 _ _
   | exact ih1 _ _ _
   | exact laws_eqBind.Fmono ih0 _ _ _ _ _ _ _ _ _ _ _ _ _ _ _ _ _
   | exact LeO.none _
   | refine LeO.ite ?_ ?_
   | refine LeO.bind ?_ (fun _ => ?_)
  ·intro y0 y1 y2
   unfold laws_eqBindS.l0
   repeat' first
   | (with_reducible exact ih0 _ _)
   | (with_reducible exact ih1 _ _ _)
   | (with_reducible exact laws_eqBind.Fmono ih0 _ _ _ _ _ _ _ _ _ _ _ _ _ _ _ _ _)
   | (with_reducible exact LeO.refl _)
   | (with_reducible exact LeO.none _)
   | (with_reducible refine LeO.ite ?_ ?_)
   | (with_reducible refine LeO.bind ?_ (fun _ => ?_))
   | exact ih0 _ _
   | exact ih1 _ _ _
   | exact laws_eqBind.Fmono ih0 _ _ _ _ _ _ _ _ _ _ _ _ _ _ _ _ _
   | exact LeO.none _
   | refine LeO.ite ?_ ?_
   | refine LeO.bind ?_ (fun _ => ?_)
theorem laws_eqBindS.mono : ∀ a0 a1 k, LeO (laws_eqBindS.f k a0 a1) (laws_eqBindS.f (k + 1) a0 a1) := by
 intro a0 a1 k
 obtain ⟨ih0, ih1⟩ := laws_eqBindS.mono_l k
 exact ih0 a0 a1
set_option maxHeartbeats 8000000 in
set_option maxRecDepth 100000 in
theorem laws_eqBody.Fcalls (rec_ : List (S64) → List (S64) → Option (Bool)) (IH : ∀ (A0 : Option Addr) (c0 : Nat) (l0 : List (S64)) (A1 : Option Addr) (c1 : Nat) (l1 : List (S64)) (r : Bool) (w : World) (hr0 : Kd.C k64 w A0 l0.length l0) (hc0 : l0.length ≤ c0) (hr1 : Kd.C k64 w A1 l1.length l1) (hc1 : l1.length ≤ c1) (h : rec_ l0 l1 = some r),
  Calls Try.prog 57 #[.slice A0 l0.length c0, .slice A1 l1.length c1] w fun e w' => e = .returned (.bool r) ∧ Below w.heap.size w w') (k : Nat) (A0_0 : Option Addr) (c0_0 : Nat) (l0_0 : List (S64)) (A0_1 : Option Addr) (c0_1 : Nat) (l0_1 : List (S78)) (A1_0 : Option Addr) (c1_0 : Nat) (l1_0 : List (S64)) (A1_1 : Option Addr) (c1_1 : Nat) (l1_1 : List (S78)) (r : Bool) (w : World) (hr0_0 : Kd.C k64 w A0_0 l0_0.length l0_0) (hc0_0 : l0_0.length ≤ c0_0) (hr0_1 : Kd.C k78 w A0_1 l0_1.length l0_1) (hc0_1 : l0_1.length ≤ c0_1) (hr1_0 : Kd.C k64 w A1_0 l1_0.length l1_0) (hc1_0 : l1_0.length ≤ c1_0) (hr1_1 : Kd.C k78 w A1_1 l1_1.length l1_1) (hc1_1 : l1_1.length ≤ c1_1) (h : laws_eqBody.F rec_ k l0_0 l0_1 l1_0 l1_1 = some r) :
  Calls Try.prog 44 #[.agg #[.slice A0_0 l0_0.length c0_0, .slice A0_1 l0_1.length c0_1], .agg #[.slice A1_0 l1_0.length c1_0, .slice A1_1 l1_1.length c1_1]] w fun e w' => e = .returned (.bool r) ∧ Below w.heap.size w w' := by
 have hu43 := Try.underlying43
 have HR0_0 := Aside0.mk hr0_0
 have HC0_0 := Aside0.mk hc0_0
 clear hr0_0 hc0_0
 have HR0_1 := Aside0.mk hr0_1
 have HC0_1 := Aside0.mk hc0_1
 clear hr0_1 hc0_1
 have HR1_0 := Aside0.mk hr1_0
 have HC1_0 := Aside0.mk hc1_0
 clear hr1_0 hc1_0
 have HR1_1 := Aside0.mk hr1_1
 have HC1_1 := Aside0.mk hc1_1
 clear hr1_1 hc1_1
 have HB := Aside0.mk (Below.refl w.heap.size w)
 have H : ((rec_ l0_0 l1_0).bind fun t482 => (if t482 = true then ((laws_eqTermS.f k l0_1 l1_1).bind fun t483 => (if t483 = true then (some true) else (some false))) else (some false))) = some r := h
 clear h
 obtain ⟨t482, A30, H⟩ := ob H
 have A3 := Aside0.mk A30
 clear A30
 have HZ4 := Aside0.mk H
 clear H
 go_enter Try.func44, Try.ntmps44
 go_upto_if 10 with (first | ((with_reducible refine gate_dst (N := 2) rfl ?_); refine zbx 2 #[.slice A0_0 l0_0.length c0_0, .slice A0_1 l0_1.length c0_1] 43 ?_; intro gb480 hg w5 hbox hb; have BK480 := Aside0.mk hbox; have GW480 := Aside0.mk ((y9 hg HB.out : w.heap.size ≤ gb480)); have GE480 := Aside0.mk ((y9 hg HB.out : w.heap.size ≤ gb480)); replace HB := Aside0.mk (below_step (y1 HB.out) hb); clear hb hbox hg) | ((with_reducible refine gate_dst (N := 3) rfl ?_); refine zbx 3 #[.slice A1_0 l1_0.length c1_0, .slice A1_1 l1_1.length c1_1] 43 ?_; intro gb481 hg w6 hbox hb; have BK481 := Aside0.mk hbox; have GW481 := Aside0.mk ((y15 hg HB.out GE480.out : w.heap.size ≤ gb481)); have GE481 := Aside0.mk ((y15 hg HB.out GE480.out : w.heap.size ≤ gb481)); replace HB := Aside0.mk (below_step (y2 HB.out GE480.out) hb); have NB480_481 := zltn hg BK480; have NB481_480 := zgtn hg BK480; replace BK480 := zbb BK480 hb; clear hb hbox hg; have hnb7 := NB480_481.out; have hnc7 := NB481_480.out; have hcz8_0 := zh BK480; have hcz8_1 := zh1 BK480; have hfz8_0 := zfr BK480 0; have hfz8_1 := zfr BK480 1; have hcz9_0 := zh BK481; have hcz9_1 := zh1 BK481; have hfz9_0 := zfr BK481 0; have hfz9_1 := zfr BK481 1) | ((with_reducible refine gate_callee (f := 57) rfl ?_); refine goesL_ (some 9) rfl rfl Try.func57 (by kernel_rfl) rfl #[.slice A0_0 l0_0.length c0_0, .slice A1_0 l1_0.length c1_0] rfl y3 ?_; (with_reducible refine (IH  _ _ l0_0 _ _ l1_0 t482 _ ?side1 ?side2 ?side3 ?side4 A3.out).mono ?_); (case side1 => exact y0 HR0_0.out HB.out); (case side2 => exact HC0_0.out); (case side3 => exact y0 HR1_0.out HB.out); (case side4 => exact HC1_0.out); rintro e w10 ⟨rfl, hb⟩; refine ⟨_, rfl, ?_⟩; replace BK480 := zbb BK480 hb; replace BK481 := zbb BK481 hb; replace HB := Aside0.mk (below_step (y5 HB.out GE480.out GE481.out) hb); (try clear hb); (try clear hb2); (try clear hk); (try clear hi)))
 (try simp only [Act.put, List.setIfInBounds_toArray, List.set_cons_zero, List.set_cons_succ])
 have H := HZ4.out
 clear HZ4
 by_cases c11 : t482 = true
 ·subst c11
  rw [if_pos rfl] at H
  obtain ⟨t483, A120, H⟩ := ob H
  have A12 := Aside0.mk A120
  clear A120
  have HZ13 := Aside0.mk H
  clear H
  have hnb14 := NB480_481.out
  have hnc14 := NB481_480.out
  have hcz15_0 := zh BK480
  have hcz15_1 := zh1 BK480
  have hfz15_0 := zfr BK480 0
  have hfz15_1 := zfr BK480 1
  have hcz16_0 := zh BK481
  have hcz16_1 := zh1 BK481
  have hfz16_0 := zfr BK481 0
  have hfz16_1 := zfr BK481 1
  go_upto_if 16 with (first | ((with_reducible refine gate_callee (f := 58) rfl ?_); refine goesL_ (some 15) rfl rfl Try.func58 (by kernel_rfl) rfl #[.slice A0_1 l0_1.length c0_1, .slice A1_1 l1_1.length c1_1] rfl y3 ?_; (with_reducible refine (laws_eqTermS.calls k _ _ l0_1 _ _ l1_1 t483 _ ?side1 ?side2 ?side3 ?side4 A12.out).mono ?_); (case side1 => exact y0 HR0_1.out HB.out); (case side2 => exact HC0_1.out); (case side3 => exact y0 HR1_1.out HB.out); (case side4 => exact HC1_1.out); rintro e w17 ⟨rfl, hb⟩; refine ⟨_, rfl, ?_⟩; replace BK480 := zbb BK480 hb; replace BK481 := zbb BK481 hb; replace HB := Aside0.mk (below_step (y5 HB.out GE480.out GE481.out) hb); (try clear hb); (try clear hb2); (try clear hk); (try clear hi)))
  (try simp only [Act.put, List.setIfInBounds_toArray, List.set_cons_zero, List.set_cons_succ])
  have H := HZ13.out
  clear HZ13
  by_cases c18 : t483 = true
  ·subst c18
   rw [if_pos rfl] at H
   obtain rfl := Option.some.inj H
   go_wp2
   go_ret
   exact ⟨y6, (y5 HB.out GE480.out GE481.out)⟩
  ·replace c18 := Bool.eq_false_iff.mpr c18
   subst c18
   rw [if_neg (show ¬ (false = true) by decide)] at H
   obtain rfl := Option.some.inj H
   go_wp2
   go_ret
   exact ⟨y6, (y5 HB.out GE480.out GE481.out)⟩
 ·replace c11 := Bool.eq_false_iff.mpr c11
  subst c11
  rw [if_neg (show ¬ (false = true) by decide)] at H
  obtain rfl := Option.some.inj H
  go_wp2
  go_ret
  exact ⟨y6, (y5 HB.out GE480.out GE481.out)⟩
set_option maxHeartbeats 8000000 in
set_option maxRecDepth 100000 in
theorem laws_eqBind.Fcalls (rec_ : List (S64) → List (S64) → Option (Bool)) (IH : ∀ (A0 : Option Addr) (c0 : Nat) (l0 : List (S64)) (A1 : Option Addr) (c1 : Nat) (l1 : List (S64)) (r : Bool) (w : World) (hr0 : Kd.C k64 w A0 l0.length l0) (hc0 : l0.length ≤ c0) (hr1 : Kd.C k64 w A1 l1.length l1) (hc1 : l1.length ≤ c1) (h : rec_ l0 l1 = some r),
  Calls Try.prog 57 #[.slice A0 l0.length c0, .slice A1 l1.length c1] w fun e w' => e = .returned (.bool r) ∧ Below w.heap.size w w') (k : Nat) (a0_0 : Int) (A0_1 : Option Addr) (c0_1 : Nat) (l0_1 : List ByteArray) (a0_2 : ByteArray) (A0_3 : Option Addr) (c0_3 : Nat) (l0_3 : List (S78)) (A0_4 : Option Addr) (c0_4 : Nat) (l0_4 : List (S64)) (A0_5 : Option Addr) (c0_5 : Nat) (l0_5 : List (S78)) (A0_6 : Option Addr) (c0_6 : Nat) (l0_6 : List (S64)) (A0_7 : Option Addr) (c0_7 : Nat) (l0_7 : List (S78)) (a1_0 : Int) (A1_1 : Option Addr) (c1_1 : Nat) (l1_1 : List ByteArray) (a1_2 : ByteArray) (A1_3 : Option Addr) (c1_3 : Nat) (l1_3 : List (S78)) (A1_4 : Option Addr) (c1_4 : Nat) (l1_4 : List (S64)) (A1_5 : Option Addr) (c1_5 : Nat) (l1_5 : List (S78)) (A1_6 : Option Addr) (c1_6 : Nat) (l1_6 : List (S64)) (A1_7 : Option Addr) (c1_7 : Nat) (l1_7 : List (S78)) (r : Bool) (w : World) (hr0_1 : Kd.C Kd.string w A0_1 l0_1.length l0_1) (hc0_1 : l0_1.length ≤ c0_1) (hr0_3 : Kd.C k78 w A0_3 l0_3.length l0_3) (hc0_3 : l0_3.length ≤ c0_3) (hr0_4 : Kd.C k64 w A0_4 l0_4.length l0_4) (hc0_4 : l0_4.length ≤ c0_4) (hr0_5 : Kd.C k78 w A0_5 l0_5.length l0_5) (hc0_5 : l0_5.length ≤ c0_5) (hr0_6 : Kd.C k64 w A0_6 l0_6.length l0_6) (hc0_6 : l0_6.length ≤ c0_6) (hr0_7 : Kd.C k78 w A0_7 l0_7.length l0_7) (hc0_7 : l0_7.length ≤ c0_7) (hr1_1 : Kd.C Kd.string w A1_1 l1_1.length l1_1) (hc1_1 : l1_1.length ≤ c1_1) (hr1_3 : Kd.C k78 w A1_3 l1_3.length l1_3) (hc1_3 : l1_3.length ≤ c1_3) (hr1_4 : Kd.C k64 w A1_4 l1_4.length l1_4) (hc1_4 : l1_4.length ≤ c1_4) (hr1_5 : Kd.C k78 w A1_5 l1_5.length l1_5) (hc1_5 : l1_5.length ≤ c1_5) (hr1_6 : Kd.C k64 w A1_6 l1_6.length l1_6) (hc1_6 : l1_6.length ≤ c1_6) (hr1_7 : Kd.C k78 w A1_7 l1_7.length l1_7) (hc1_7 : l1_7.length ≤ c1_7) (h : laws_eqBind.F rec_ k a0_0 l0_1 a0_2 l0_3 l0_4 l0_5 l0_6 l0_7 a1_0 l1_1 a1_2 l1_3 l1_4 l1_5 l1_6 l1_7 = some r) :
  Calls Try.prog 65 #[.agg #[.int .i64 a0_0, .slice A0_1 l0_1.length c0_1, .string a0_2, .slice A0_3 l0_3.length c0_3, .slice A0_4 l0_4.length c0_4, .slice A0_5 l0_5.length c0_5, .slice A0_6 l0_6.length c0_6, .slice A0_7 l0_7.length c0_7], .agg #[.int .i64 a1_0, .slice A1_1 l1_1.length c1_1, .string a1_2, .slice A1_3 l1_3.length c1_3, .slice A1_4 l1_4.length c1_4, .slice A1_5 l1_5.length c1_5, .slice A1_6 l1_6.length c1_6, .slice A1_7 l1_7.length c1_7]] w fun e w' => e = .returned (.bool r) ∧ Below w.heap.size w w' := by
 have hu64 := Try.underlying64
 have hu43 := Try.underlying43
 have HR0_1 := Aside0.mk hr0_1
 have HC0_1 := Aside0.mk hc0_1
 clear hr0_1 hc0_1
 have HR0_3 := Aside0.mk hr0_3
 have HC0_3 := Aside0.mk hc0_3
 clear hr0_3 hc0_3
 have HR0_4 := Aside0.mk hr0_4
 have HC0_4 := Aside0.mk hc0_4
 clear hr0_4 hc0_4
 have HR0_5 := Aside0.mk hr0_5
 have HC0_5 := Aside0.mk hc0_5
 clear hr0_5 hc0_5
 have HR0_6 := Aside0.mk hr0_6
 have HC0_6 := Aside0.mk hc0_6
 clear hr0_6 hc0_6
 have HR0_7 := Aside0.mk hr0_7
 have HC0_7 := Aside0.mk hc0_7
 clear hr0_7 hc0_7
 have HR1_1 := Aside0.mk hr1_1
 have HC1_1 := Aside0.mk hc1_1
 clear hr1_1 hc1_1
 have HR1_3 := Aside0.mk hr1_3
 have HC1_3 := Aside0.mk hc1_3
 clear hr1_3 hc1_3
 have HR1_4 := Aside0.mk hr1_4
 have HC1_4 := Aside0.mk hc1_4
 clear hr1_4 hc1_4
 have HR1_5 := Aside0.mk hr1_5
 have HC1_5 := Aside0.mk hc1_5
 clear hr1_5 hc1_5
 have HR1_6 := Aside0.mk hr1_6
 have HC1_6 := Aside0.mk hc1_6
 clear hr1_6 hc1_6
 have HR1_7 := Aside0.mk hr1_7
 have HC1_7 := Aside0.mk hc1_7
 clear hr1_7 hc1_7
 have HB := Aside0.mk (Below.refl w.heap.size w)
 have H : (if a0_0 = a1_0 then ((laws_eqStringS.f k l0_1 l1_1).bind fun t486 => (if t486 = true then (if a0_2.toList = a1_2.toList then ((laws_eqTermS.f k l0_3 l1_3).bind fun t487 => (if t487 = true then ((laws_eqBody.F rec_ k l0_4 l0_5 l1_4 l1_5).bind fun t488 => (if t488 = true then ((laws_eqBody.F rec_ k l0_6 l0_7 l1_6 l1_7).bind fun t489 => (if t489 = true then (some true) else (some false))) else (some false))) else (some false))) else (some false)) else (some false))) else (some false)) = some r := h
 clear h
 have HZ3 := Aside0.mk H
 clear H
 go_enter Try.func65, Try.ntmps65
 go_upto_if 9 with (first | ((with_reducible refine gate_dst (N := 2) rfl ?_); refine zbx 2 #[.int .i64 a0_0, .slice A0_1 l0_1.length c0_1, .string a0_2, .slice A0_3 l0_3.length c0_3, .slice A0_4 l0_4.length c0_4, .slice A0_5 l0_5.length c0_5, .slice A0_6 l0_6.length c0_6, .slice A0_7 l0_7.length c0_7] 64 ?_; intro gb484 hg w4 hbox hb; have BK484 := Aside0.mk hbox; have GW484 := Aside0.mk ((y9 hg HB.out : w.heap.size ≤ gb484)); have GE484 := Aside0.mk ((y9 hg HB.out : w.heap.size ≤ gb484)); replace HB := Aside0.mk (below_step (y1 HB.out) hb); clear hb hbox hg) | ((with_reducible refine gate_dst (N := 3) rfl ?_); refine zbx 3 #[.int .i64 a1_0, .slice A1_1 l1_1.length c1_1, .string a1_2, .slice A1_3 l1_3.length c1_3, .slice A1_4 l1_4.length c1_4, .slice A1_5 l1_5.length c1_5, .slice A1_6 l1_6.length c1_6, .slice A1_7 l1_7.length c1_7] 64 ?_; intro gb485 hg w5 hbox hb; have BK485 := Aside0.mk hbox; have GW485 := Aside0.mk ((y15 hg HB.out GE484.out : w.heap.size ≤ gb485)); have GE485 := Aside0.mk ((y15 hg HB.out GE484.out : w.heap.size ≤ gb485)); replace HB := Aside0.mk (below_step (y2 HB.out GE484.out) hb); have NB484_485 := zltn hg BK484; have NB485_484 := zgtn hg BK484; replace BK484 := zbb BK484 hb; clear hb hbox hg; have hnb6 := NB484_485.out; have hnc6 := NB485_484.out; have hcz7_0 := zh BK484; have hcz7_1 := zh1 BK484; have hcz7_2 := zh2 BK484; have hcz7_3 : w5.cell? ⟨gb484, 3, none⟩ = some (.slice A0_3 l0_3.length c0_3) := (blk_cell BK484.out 3).trans rfl; have hcz7_4 : w5.cell? ⟨gb484, 4, none⟩ = some (.slice A0_4 l0_4.length c0_4) := (blk_cell BK484.out 4).trans rfl; have hcz7_5 : w5.cell? ⟨gb484, 5, none⟩ = some (.slice A0_5 l0_5.length c0_5) := (blk_cell BK484.out 5).trans rfl; have hcz7_6 : w5.cell? ⟨gb484, 6, none⟩ = some (.slice A0_6 l0_6.length c0_6) := (blk_cell BK484.out 6).trans rfl; have hcz7_7 : w5.cell? ⟨gb484, 7, none⟩ = some (.slice A0_7 l0_7.length c0_7) := (blk_cell BK484.out 7).trans rfl; have hfz7_0 := zfr BK484 0; have hfz7_1 := zfr BK484 1; have hfz7_2 := zfr BK484 2; have hfz7_3 := zfr BK484 3; have hfz7_4 := zfr BK484 4; have hfz7_5 := zfr BK484 5; have hfz7_6 := zfr BK484 6; have hfz7_7 := zfr BK484 7; have hcz8_0 := zh BK485; have hcz8_1 := zh1 BK485; have hcz8_2 := zh2 BK485; have hcz8_3 : w5.cell? ⟨gb485, 3, none⟩ = some (.slice A1_3 l1_3.length c1_3) := (blk_cell BK485.out 3).trans rfl; have hcz8_4 : w5.cell? ⟨gb485, 4, none⟩ = some (.slice A1_4 l1_4.length c1_4) := (blk_cell BK485.out 4).trans rfl; have hcz8_5 : w5.cell? ⟨gb485, 5, none⟩ = some (.slice A1_5 l1_5.length c1_5) := (blk_cell BK485.out 5).trans rfl; have hcz8_6 : w5.cell? ⟨gb485, 6, none⟩ = some (.slice A1_6 l1_6.length c1_6) := (blk_cell BK485.out 6).trans rfl; have hcz8_7 : w5.cell? ⟨gb485, 7, none⟩ = some (.slice A1_7 l1_7.length c1_7) := (blk_cell BK485.out 7).trans rfl; have hfz8_0 := zfr BK485 0; have hfz8_1 := zfr BK485 1; have hfz8_2 := zfr BK485 2; have hfz8_3 := zfr BK485 3; have hfz8_4 := zfr BK485 4; have hfz8_5 := zfr BK485 5; have hfz8_6 := zfr BK485 6; have hfz8_7 := zfr BK485 7))
 (try simp only [Act.put, List.setIfInBounds_toArray, List.set_cons_zero, List.set_cons_succ])
 have H := HZ3.out
 clear HZ3
 by_cases c9 : a0_0 = a1_0
 ·rw [if_pos c9] at H
  have c9b0 : (a0_0 == a1_0) = true := beq_iff_eq.mpr c9
  have c9b1 : (a0_0 != a1_0) = false := bne_eq_false_iff_eq.mpr c9
  clear c9
  (first | rw [c9b0] | (simp only [i64_w, i32_w]; rw [c9b0]) | skip)
  obtain ⟨t486, A100, H⟩ := ob H
  have A10 := Aside0.mk A100
  clear A100
  have HZ11 := Aside0.mk H
  clear H
  have hnb12 := NB484_485.out
  have hnc12 := NB485_484.out
  have hcz13_0 := zh BK484
  have hcz13_1 := zh1 BK484
  have hcz13_2 := zh2 BK484
  have hcz13_3 : w5.cell? ⟨gb484, 3, none⟩ = some (.slice A0_3 l0_3.length c0_3) := (blk_cell BK484.out 3).trans rfl
  have hcz13_4 : w5.cell? ⟨gb484, 4, none⟩ = some (.slice A0_4 l0_4.length c0_4) := (blk_cell BK484.out 4).trans rfl
  have hcz13_5 : w5.cell? ⟨gb484, 5, none⟩ = some (.slice A0_5 l0_5.length c0_5) := (blk_cell BK484.out 5).trans rfl
  have hcz13_6 : w5.cell? ⟨gb484, 6, none⟩ = some (.slice A0_6 l0_6.length c0_6) := (blk_cell BK484.out 6).trans rfl
  have hcz13_7 : w5.cell? ⟨gb484, 7, none⟩ = some (.slice A0_7 l0_7.length c0_7) := (blk_cell BK484.out 7).trans rfl
  have hfz13_0 := zfr BK484 0
  have hfz13_1 := zfr BK484 1
  have hfz13_2 := zfr BK484 2
  have hfz13_3 := zfr BK484 3
  have hfz13_4 := zfr BK484 4
  have hfz13_5 := zfr BK484 5
  have hfz13_6 := zfr BK484 6
  have hfz13_7 := zfr BK484 7
  have hcz14_0 := zh BK485
  have hcz14_1 := zh1 BK485
  have hcz14_2 := zh2 BK485
  have hcz14_3 : w5.cell? ⟨gb485, 3, none⟩ = some (.slice A1_3 l1_3.length c1_3) := (blk_cell BK485.out 3).trans rfl
  have hcz14_4 : w5.cell? ⟨gb485, 4, none⟩ = some (.slice A1_4 l1_4.length c1_4) := (blk_cell BK485.out 4).trans rfl
  have hcz14_5 : w5.cell? ⟨gb485, 5, none⟩ = some (.slice A1_5 l1_5.length c1_5) := (blk_cell BK485.out 5).trans rfl
  have hcz14_6 : w5.cell? ⟨gb485, 6, none⟩ = some (.slice A1_6 l1_6.length c1_6) := (blk_cell BK485.out 6).trans rfl
  have hcz14_7 : w5.cell? ⟨gb485, 7, none⟩ = some (.slice A1_7 l1_7.length c1_7) := (blk_cell BK485.out 7).trans rfl
  have hfz14_0 := zfr BK485 0
  have hfz14_1 := zfr BK485 1
  have hfz14_2 := zfr BK485 2
  have hfz14_3 := zfr BK485 3
  have hfz14_4 := zfr BK485 4
  have hfz14_5 := zfr BK485 5
  have hfz14_6 := zfr BK485 6
  have hfz14_7 := zfr BK485 7
  go_upto_if 15 with (first | ((with_reducible refine gate_callee (f := 43) rfl ?_); refine goesL_ (some 14) rfl rfl Try.func43 (by kernel_rfl) rfl #[.slice A0_1 l0_1.length c0_1, .slice A1_1 l1_1.length c1_1] rfl y3 ?_; (with_reducible refine (laws_eqStringS.calls k _ _ l0_1 _ _ l1_1 t486 _ ?side1 ?side2 ?side3 ?side4 A10.out).mono ?_); (case side1 => exact y0 HR0_1.out HB.out); (case side2 => exact HC0_1.out); (case side3 => exact y0 HR1_1.out HB.out); (case side4 => exact HC1_1.out); rintro e w' ⟨rfl, ⟨nd, rfl⟩⟩; refine ⟨_, rfl, ?_⟩))
  (try simp only [Act.put, List.setIfInBounds_toArray, List.set_cons_zero, List.set_cons_succ])
  have H := HZ11.out
  clear HZ11
  by_cases c15 : t486 = true
  ·subst c15
   rw [if_pos rfl] at H
   by_cases c16 : a0_2.toList = a1_2.toList
   ·rw [if_pos c16] at H
    have c16b0 : (a0_2.toList == a1_2.toList) = true := beq_iff_eq.mpr c16
    have c16b1 : (a0_2.toList != a1_2.toList) = false := bne_eq_false_iff_eq.mpr c16
    clear c16
    (first | rw [c16b0] | (simp only [i64_w, i32_w]; rw [c16b0]) | skip)
    obtain ⟨t487, A170, H⟩ := ob H
    have A17 := Aside0.mk A170
    clear A170
    have HZ18 := Aside0.mk H
    clear H
    have hnb19 := NB484_485.out
    have hnc19 := NB485_484.out
    have hcz20_0 := zh BK484
    have hcz20_1 := zh1 BK484
    have hcz20_2 := zh2 BK484
    have hcz20_3 : w5.cell? ⟨gb484, 3, none⟩ = some (.slice A0_3 l0_3.length c0_3) := (blk_cell BK484.out 3).trans rfl
    have hcz20_4 : w5.cell? ⟨gb484, 4, none⟩ = some (.slice A0_4 l0_4.length c0_4) := (blk_cell BK484.out 4).trans rfl
    have hcz20_5 : w5.cell? ⟨gb484, 5, none⟩ = some (.slice A0_5 l0_5.length c0_5) := (blk_cell BK484.out 5).trans rfl
    have hcz20_6 : w5.cell? ⟨gb484, 6, none⟩ = some (.slice A0_6 l0_6.length c0_6) := (blk_cell BK484.out 6).trans rfl
    have hcz20_7 : w5.cell? ⟨gb484, 7, none⟩ = some (.slice A0_7 l0_7.length c0_7) := (blk_cell BK484.out 7).trans rfl
    have hfz20_0 := zfr BK484 0
    have hfz20_1 := zfr BK484 1
    have hfz20_2 := zfr BK484 2
    have hfz20_3 := zfr BK484 3
    have hfz20_4 := zfr BK484 4
    have hfz20_5 := zfr BK484 5
    have hfz20_6 := zfr BK484 6
    have hfz20_7 := zfr BK484 7
    have hcz21_0 := zh BK485
    have hcz21_1 := zh1 BK485
    have hcz21_2 := zh2 BK485
    have hcz21_3 : w5.cell? ⟨gb485, 3, none⟩ = some (.slice A1_3 l1_3.length c1_3) := (blk_cell BK485.out 3).trans rfl
    have hcz21_4 : w5.cell? ⟨gb485, 4, none⟩ = some (.slice A1_4 l1_4.length c1_4) := (blk_cell BK485.out 4).trans rfl
    have hcz21_5 : w5.cell? ⟨gb485, 5, none⟩ = some (.slice A1_5 l1_5.length c1_5) := (blk_cell BK485.out 5).trans rfl
    have hcz21_6 : w5.cell? ⟨gb485, 6, none⟩ = some (.slice A1_6 l1_6.length c1_6) := (blk_cell BK485.out 6).trans rfl
    have hcz21_7 : w5.cell? ⟨gb485, 7, none⟩ = some (.slice A1_7 l1_7.length c1_7) := (blk_cell BK485.out 7).trans rfl
    have hfz21_0 := zfr BK485 0
    have hfz21_1 := zfr BK485 1
    have hfz21_2 := zfr BK485 2
    have hfz21_3 := zfr BK485 3
    have hfz21_4 := zfr BK485 4
    have hfz21_5 := zfr BK485 5
    have hfz21_6 := zfr BK485 6
    have hfz21_7 := zfr BK485 7
    go_upto_if 26 with (first | ((with_reducible refine gate_callee (f := 58) rfl ?_); refine goesL_ (some 25) rfl rfl Try.func58 (by kernel_rfl) rfl #[.slice A0_3 l0_3.length c0_3, .slice A1_3 l1_3.length c1_3] rfl y3 ?_; (with_reducible refine (laws_eqTermS.calls k _ _ l0_3 _ _ l1_3 t487 _ ?side1 ?side2 ?side3 ?side4 A17.out).mono ?_); (case side1 => exact y16 HR0_3.out HB.out GE484.out GE485.out); (case side2 => exact HC0_3.out); (case side3 => exact y16 HR1_3.out HB.out GE484.out GE485.out); (case side4 => exact HC1_3.out); rintro e w22 ⟨rfl, hb⟩; refine ⟨_, rfl, ?_⟩; replace BK484 := zbb BK484 hb; replace BK485 := zbb BK485 hb; replace HB := Aside0.mk (below_step (y5 HB.out GE484.out GE485.out) hb); (try clear hb); (try clear hb2); (try clear hk); (try clear hi)))
    (try simp only [Act.put, List.setIfInBounds_toArray, List.set_cons_zero, List.set_cons_succ])
    have H := HZ18.out
    clear HZ18
    by_cases c23 : t487 = true
    ·subst c23
     rw [if_pos rfl] at H
     obtain ⟨t488, A240, H⟩ := ob H
     have A24 := Aside0.mk A240
     clear A240
     have HZ25 := Aside0.mk H
     clear H
     have hnb26 := NB484_485.out
     have hnc26 := NB485_484.out
     have hcz27_0 := zh BK484
     have hcz27_1 := zh1 BK484
     have hcz27_2 := zh2 BK484
     have hcz27_3 : w22.cell? ⟨gb484, 3, none⟩ = some (.slice A0_3 l0_3.length c0_3) := (blk_cell BK484.out 3).trans rfl
     have hcz27_4 : w22.cell? ⟨gb484, 4, none⟩ = some (.slice A0_4 l0_4.length c0_4) := (blk_cell BK484.out 4).trans rfl
     have hcz27_5 : w22.cell? ⟨gb484, 5, none⟩ = some (.slice A0_5 l0_5.length c0_5) := (blk_cell BK484.out 5).trans rfl
     have hcz27_6 : w22.cell? ⟨gb484, 6, none⟩ = some (.slice A0_6 l0_6.length c0_6) := (blk_cell BK484.out 6).trans rfl
     have hcz27_7 : w22.cell? ⟨gb484, 7, none⟩ = some (.slice A0_7 l0_7.length c0_7) := (blk_cell BK484.out 7).trans rfl
     have hfz27_0 := zfr BK484 0
     have hfz27_1 := zfr BK484 1
     have hfz27_2 := zfr BK484 2
     have hfz27_3 := zfr BK484 3
     have hfz27_4 := zfr BK484 4
     have hfz27_5 := zfr BK484 5
     have hfz27_6 := zfr BK484 6
     have hfz27_7 := zfr BK484 7
     have hcz28_0 := zh BK485
     have hcz28_1 := zh1 BK485
     have hcz28_2 := zh2 BK485
     have hcz28_3 : w22.cell? ⟨gb485, 3, none⟩ = some (.slice A1_3 l1_3.length c1_3) := (blk_cell BK485.out 3).trans rfl
     have hcz28_4 : w22.cell? ⟨gb485, 4, none⟩ = some (.slice A1_4 l1_4.length c1_4) := (blk_cell BK485.out 4).trans rfl
     have hcz28_5 : w22.cell? ⟨gb485, 5, none⟩ = some (.slice A1_5 l1_5.length c1_5) := (blk_cell BK485.out 5).trans rfl
     have hcz28_6 : w22.cell? ⟨gb485, 6, none⟩ = some (.slice A1_6 l1_6.length c1_6) := (blk_cell BK485.out 6).trans rfl
     have hcz28_7 : w22.cell? ⟨gb485, 7, none⟩ = some (.slice A1_7 l1_7.length c1_7) := (blk_cell BK485.out 7).trans rfl
     have hfz28_0 := zfr BK485 0
     have hfz28_1 := zfr BK485 1
     have hfz28_2 := zfr BK485 2
     have hfz28_3 := zfr BK485 3
     have hfz28_4 := zfr BK485 4
     have hfz28_5 := zfr BK485 5
     have hfz28_6 := zfr BK485 6
     have hfz28_7 := zfr BK485 7
     go_upto_if 32 with (first | ((with_reducible refine gate_callee (f := 44) rfl ?_); refine goesL_ (some 31) rfl rfl Try.func44 (by kernel_rfl) rfl #[.agg #[.slice A0_4 l0_4.length c0_4, .slice A0_5 l0_5.length c0_5], .agg #[.slice A1_4 l1_4.length c1_4, .slice A1_5 l1_5.length c1_5]] rfl y3 ?_; (with_reducible refine (laws_eqBody.Fcalls rec_ IH k _ _ l0_4 _ _ l0_5 _ _ l1_4 _ _ l1_5 t488 _ ?side1 ?side2 ?side3 ?side4 ?side5 ?side6 ?side7 ?side8 A24.out).mono ?_); (case side1 => exact y0 HR0_4.out HB.out); (case side2 => exact HC0_4.out); (case side3 => exact y0 HR0_5.out HB.out); (case side4 => exact HC0_5.out); (case side5 => exact y0 HR1_4.out HB.out); (case side6 => exact HC1_4.out); (case side7 => exact y0 HR1_5.out HB.out); (case side8 => exact HC1_5.out); rintro e w29 ⟨rfl, hb⟩; refine ⟨_, rfl, ?_⟩; replace BK484 := zbb BK484 hb; replace BK485 := zbb BK485 hb; replace HB := Aside0.mk (below_step (y5 HB.out GE484.out GE485.out) hb); (try clear hb); (try clear hb2); (try clear hk); (try clear hi)))
     (try simp only [Act.put, List.setIfInBounds_toArray, List.set_cons_zero, List.set_cons_succ])
     have H := HZ25.out
     clear HZ25
     by_cases c30 : t488 = true
     ·subst c30
      rw [if_pos rfl] at H
      obtain ⟨t489, A310, H⟩ := ob H
      have A31 := Aside0.mk A310
      clear A310
      have HZ32 := Aside0.mk H
      clear H
      have hnb33 := NB484_485.out
      have hnc33 := NB485_484.out
      have hcz34_0 := zh BK484
      have hcz34_1 := zh1 BK484
      have hcz34_2 := zh2 BK484
      have hcz34_3 : w29.cell? ⟨gb484, 3, none⟩ = some (.slice A0_3 l0_3.length c0_3) := (blk_cell BK484.out 3).trans rfl
      have hcz34_4 : w29.cell? ⟨gb484, 4, none⟩ = some (.slice A0_4 l0_4.length c0_4) := (blk_cell BK484.out 4).trans rfl
      have hcz34_5 : w29.cell? ⟨gb484, 5, none⟩ = some (.slice A0_5 l0_5.length c0_5) := (blk_cell BK484.out 5).trans rfl
      have hcz34_6 : w29.cell? ⟨gb484, 6, none⟩ = some (.slice A0_6 l0_6.length c0_6) := (blk_cell BK484.out 6).trans rfl
      have hcz34_7 : w29.cell? ⟨gb484, 7, none⟩ = some (.slice A0_7 l0_7.length c0_7) := (blk_cell BK484.out 7).trans rfl
      have hfz34_0 := zfr BK484 0
      have hfz34_1 := zfr BK484 1
      have hfz34_2 := zfr BK484 2
      have hfz34_3 := zfr BK484 3
      have hfz34_4 := zfr BK484 4
      have hfz34_5 := zfr BK484 5
      have hfz34_6 := zfr BK484 6
      have hfz34_7 := zfr BK484 7
      have hcz35_0 := zh BK485
      have hcz35_1 := zh1 BK485
      have hcz35_2 := zh2 BK485
      have hcz35_3 : w29.cell? ⟨gb485, 3, none⟩ = some (.slice A1_3 l1_3.length c1_3) := (blk_cell BK485.out 3).trans rfl
      have hcz35_4 : w29.cell? ⟨gb485, 4, none⟩ = some (.slice A1_4 l1_4.length c1_4) := (blk_cell BK485.out 4).trans rfl
      have hcz35_5 : w29.cell? ⟨gb485, 5, none⟩ = some (.slice A1_5 l1_5.length c1_5) := (blk_cell BK485.out 5).trans rfl
      have hcz35_6 : w29.cell? ⟨gb485, 6, none⟩ = some (.slice A1_6 l1_6.length c1_6) := (blk_cell BK485.out 6).trans rfl
      have hcz35_7 : w29.cell? ⟨gb485, 7, none⟩ = some (.slice A1_7 l1_7.length c1_7) := (blk_cell BK485.out 7).trans rfl
      have hfz35_0 := zfr BK485 0
      have hfz35_1 := zfr BK485 1
      have hfz35_2 := zfr BK485 2
      have hfz35_3 := zfr BK485 3
      have hfz35_4 := zfr BK485 4
      have hfz35_5 := zfr BK485 5
      have hfz35_6 := zfr BK485 6
      have hfz35_7 := zfr BK485 7
      go_upto_if 38 with (first | ((with_reducible refine gate_callee (f := 44) rfl ?_); refine goesL_ (some 37) rfl rfl Try.func44 (by kernel_rfl) rfl #[.agg #[.slice A0_6 l0_6.length c0_6, .slice A0_7 l0_7.length c0_7], .agg #[.slice A1_6 l1_6.length c1_6, .slice A1_7 l1_7.length c1_7]] rfl y3 ?_; (with_reducible refine (laws_eqBody.Fcalls rec_ IH k _ _ l0_6 _ _ l0_7 _ _ l1_6 _ _ l1_7 t489 _ ?side1 ?side2 ?side3 ?side4 ?side5 ?side6 ?side7 ?side8 A31.out).mono ?_); (case side1 => exact y0 HR0_6.out HB.out); (case side2 => exact HC0_6.out); (case side3 => exact y0 HR0_7.out HB.out); (case side4 => exact HC0_7.out); (case side5 => exact y0 HR1_6.out HB.out); (case side6 => exact HC1_6.out); (case side7 => exact y0 HR1_7.out HB.out); (case side8 => exact HC1_7.out); rintro e w36 ⟨rfl, hb⟩; refine ⟨_, rfl, ?_⟩; replace BK484 := zbb BK484 hb; replace BK485 := zbb BK485 hb; replace HB := Aside0.mk (below_step (y5 HB.out GE484.out GE485.out) hb); (try clear hb); (try clear hb2); (try clear hk); (try clear hi)))
      (try simp only [Act.put, List.setIfInBounds_toArray, List.set_cons_zero, List.set_cons_succ])
      have H := HZ32.out
      clear HZ32
      by_cases c37 : t489 = true
      ·subst c37
       rw [if_pos rfl] at H
       obtain rfl := Option.some.inj H
       go_wp2
       go_ret
       exact ⟨y6, (y5 HB.out GE484.out GE485.out)⟩
      ·replace c37 := Bool.eq_false_iff.mpr c37
       subst c37
       rw [if_neg (show ¬ (false = true) by decide)] at H
       obtain rfl := Option.some.inj H
       go_wp2
       go_ret
       exact ⟨y6, (y5 HB.out GE484.out GE485.out)⟩
     ·replace c30 := Bool.eq_false_iff.mpr c30
      subst c30
      rw [if_neg (show ¬ (false = true) by decide)] at H
      obtain rfl := Option.some.inj H
      go_wp2
      go_ret
      exact ⟨y6, (y5 HB.out GE484.out GE485.out)⟩
    ·replace c23 := Bool.eq_false_iff.mpr c23
     subst c23
     rw [if_neg (show ¬ (false = true) by decide)] at H
     obtain rfl := Option.some.inj H
     go_wp2
     go_ret
     exact ⟨y6, (y5 HB.out GE484.out GE485.out)⟩
   ·rw [if_neg c16] at H
    have c16b0 : (a0_2.toList == a1_2.toList) = false := beq_eq_false_iff_ne.mpr c16
    have c16b1 : (a0_2.toList != a1_2.toList) = true := bne_iff_ne.mpr c16
    (first | rw [c16b0] | (simp only [i64_w, i32_w]; rw [c16b0]) | skip)
    obtain rfl := Option.some.inj H
    have hnb38 := NB484_485.out
    have hnc38 := NB485_484.out
    have hcz39_0 := zh BK484
    have hcz39_1 := zh1 BK484
    have hcz39_2 := zh2 BK484
    have hcz39_3 : w5.cell? ⟨gb484, 3, none⟩ = some (.slice A0_3 l0_3.length c0_3) := (blk_cell BK484.out 3).trans rfl
    have hcz39_4 : w5.cell? ⟨gb484, 4, none⟩ = some (.slice A0_4 l0_4.length c0_4) := (blk_cell BK484.out 4).trans rfl
    have hcz39_5 : w5.cell? ⟨gb484, 5, none⟩ = some (.slice A0_5 l0_5.length c0_5) := (blk_cell BK484.out 5).trans rfl
    have hcz39_6 : w5.cell? ⟨gb484, 6, none⟩ = some (.slice A0_6 l0_6.length c0_6) := (blk_cell BK484.out 6).trans rfl
    have hcz39_7 : w5.cell? ⟨gb484, 7, none⟩ = some (.slice A0_7 l0_7.length c0_7) := (blk_cell BK484.out 7).trans rfl
    have hfz39_0 := zfr BK484 0
    have hfz39_1 := zfr BK484 1
    have hfz39_2 := zfr BK484 2
    have hfz39_3 := zfr BK484 3
    have hfz39_4 := zfr BK484 4
    have hfz39_5 := zfr BK484 5
    have hfz39_6 := zfr BK484 6
    have hfz39_7 := zfr BK484 7
    have hcz40_0 := zh BK485
    have hcz40_1 := zh1 BK485
    have hcz40_2 := zh2 BK485
    have hcz40_3 : w5.cell? ⟨gb485, 3, none⟩ = some (.slice A1_3 l1_3.length c1_3) := (blk_cell BK485.out 3).trans rfl
    have hcz40_4 : w5.cell? ⟨gb485, 4, none⟩ = some (.slice A1_4 l1_4.length c1_4) := (blk_cell BK485.out 4).trans rfl
    have hcz40_5 : w5.cell? ⟨gb485, 5, none⟩ = some (.slice A1_5 l1_5.length c1_5) := (blk_cell BK485.out 5).trans rfl
    have hcz40_6 : w5.cell? ⟨gb485, 6, none⟩ = some (.slice A1_6 l1_6.length c1_6) := (blk_cell BK485.out 6).trans rfl
    have hcz40_7 : w5.cell? ⟨gb485, 7, none⟩ = some (.slice A1_7 l1_7.length c1_7) := (blk_cell BK485.out 7).trans rfl
    have hfz40_0 := zfr BK485 0
    have hfz40_1 := zfr BK485 1
    have hfz40_2 := zfr BK485 2
    have hfz40_3 := zfr BK485 3
    have hfz40_4 := zfr BK485 4
    have hfz40_5 := zfr BK485 5
    have hfz40_6 := zfr BK485 6
    have hfz40_7 := zfr BK485 7
    go_wp2
    go_ret
    exact ⟨y6, (y5 HB.out GE484.out GE485.out)⟩
  ·replace c15 := Bool.eq_false_iff.mpr c15
   subst c15
   rw [if_neg (show ¬ (false = true) by decide)] at H
   obtain rfl := Option.some.inj H
   go_wp2
   go_ret
   exact ⟨y6, (y5 HB.out GE484.out GE485.out)⟩
 ·rw [if_neg c9] at H
  have c9b0 : (a0_0 == a1_0) = false := beq_eq_false_iff_ne.mpr c9
  have c9b1 : (a0_0 != a1_0) = true := bne_iff_ne.mpr c9
  (first | rw [c9b0] | (simp only [i64_w, i32_w]; rw [c9b0]) | skip)
  obtain rfl := Option.some.inj H
  go_wp2
  go_ret
  exact ⟨y6, (y5 HB.out GE484.out GE485.out)⟩
def laws_eqBindS.T6 : Bool × List (List Nat × List Nat) := (true, [([], []), ([], []), ([0, 1], [0, 1]), ([2], [2]), ([], []), ([], []), ([4, 5], [4, 5]), ([6], [6]), ([3, 7], [3, 7]), ([8], [8])])
def laws_eqBindS.B6 : List Nat := [0, 0, 3, 7, 0, 0, 48, 112, 255, 511]
theorem laws_eqBindS.tab6 : rtab .any (opsOf Try.f57 6) = laws_eqBindS.T6 := by kernel_rfl
theorem laws_eqBindS.bits6 : waitsOk laws_eqBindS.T6.2 laws_eqBindS.B6 = true := by kernel_rfl
set_option maxHeartbeats 8000000 in
set_option maxRecDepth 100000 in
theorem laws_eqBindS.calls (k : Nat) : ∀ (A0 : Option Addr) (c0 : Nat) (l0 : List (S64)) (A1 : Option Addr) (c1 : Nat) (l1 : List (S64)) (r : Bool) (w : World) (hr0 : Kd.C k64 w A0 l0.length l0) (hc0 : l0.length ≤ c0) (hr1 : Kd.C k64 w A1 l1.length l1) (hc1 : l1.length ≤ c1) (h : laws_eqBindS.f k l0 l1 = some r),
  Calls Try.prog 57 #[.slice A0 l0.length c0, .slice A1 l1.length c1] w fun e w' => e = .returned (.bool r) ∧ Below w.heap.size w w' := by
 induction k using Nat.strongRecOn with
 | _ k ih =>
 intro A0 c0 l0 A1 c1 l1 r w hr0 hc0 hr1 hc1 h
 cases k with
 | zero => exact absurd h (by simp [laws_eqBindS.f])
 | succ k =>
 simp only [laws_eqBindS.f] at h
 have hu64 := Try.underlying64
 have HR0 := Aside0.mk hr0
 have HC0 := Aside0.mk hc0
 clear hr0 hc0
 have HR1 := Aside0.mk hr1
 have HC1 := Aside0.mk hc1
 clear hr1 hc1
 have HB := Aside0.mk (Below.refl w.heap.size w)
 have H : (if (l0.length : Int) = (l1.length : Int) then (laws_eqBindS.l0 k l0 l1 0) else (some false)) = some r := h
 clear h
 by_cases c3 : (l0.length : Int) = (l1.length : Int)
 ·rw [if_pos c3] at H
  have c3b0 : ((l0.length : Int) == (l1.length : Int)) = true := beq_iff_eq.mpr c3
  have c3b1 : ((l0.length : Int) != (l1.length : Int)) = false := bne_eq_false_iff_eq.mpr c3
  have c3b2 : (l0.length == l1.length) = true := by first | simpa using c3 | (simp at c3 ⊢; omega)
  clear c3
  have H' := Aside0.mk H
  clear H
  go_enter Try.func57, Try.ntmps57
  go_wp2
  go_loopg [5] k (fun kq v5 w' => ∃ (x5_1 : Int), v5 = .int .i64 x5_1 ∧ Aside0 (laws_eqBindS.l0 kq l0 l1 x5_1 = some r) ∧ Aside0 (kq ≤ k) ∧ Aside0 (Below w.heap.size w w'))
  case atStart => exact ⟨(0), y7, H', ⟨Nat.le_refl _⟩, ⟨(y1 HB.out)⟩⟩
  case round =>
   clear H'
   try clear c1
   try clear p2
   try clear c3
   try clear c3b0
   try clear c3b1
   try clear c3b2
   obtain ⟨x5_1, rfl, HA, HK1, HB⟩ := hrel
   cases gk with
   | zero => exact absurd HA.out (by simp [laws_eqBindS.l0])
   | succ k1 =>
    have H := HA.out
    clear HA
    simp only [laws_eqBindS.l0] at H
    by_cases c4 : x5_1 < (l0.length : Int)
    ·rw [if_pos c4] at H
     have c4b0 : decide (x5_1 < (l0.length : Int)) = true := decide_eq_true c4
     clear c4
     by_cases c5 : 0 ≤ x5_1
     ·rw [if_pos c5] at H
      have c5b0 : decide (0 ≤ x5_1) = true := decide_eq_true c5
      clear c5
      by_cases c6 : x5_1 < (l1.length : Int)
      ·rw [if_pos c6] at H
       have c6b0 : decide (x5_1 < (l1.length : Int)) = true := decide_eq_true c6
       clear c6
       obtain ⟨t492, A70, H⟩ := ob H
       have A7 := Aside0.mk A70
       clear A70
       have HZ8 := Aside0.mk H
       clear H
       try go_wp2
       replace HB := Aside0.mk (below_drew1 HB.out)
       have p490 : 0 ≤ (x5_1 : Int) := of_decide_eq_true y4
       have q490 : x5_1 < (l0.length : Int) := of_decide_eq_true y4
       obtain ⟨ad490, A490_1, c490_1, A490_3, c490_3, A490_4, c490_4, A490_5, c490_5, A490_6, c490_6, A490_7, c490_7, e490, hx490_0, hx490_1, hx490_2, hx490_3, hx490_4, hx490_5, hx490_6, hx490_7, hl490_1, hi490_1, hl490_3, hi490_3, hl490_4, hi490_4, hl490_5, hi490_5, hl490_6, hi490_6, hl490_7, hi490_7⟩ := at_T64 HR0.out x5_1 p490 q490
       have hw490_7 := hx490_7
       have hw490_6 := hx490_6
       have hw490_5 := hx490_5
       have hw490_4 := hx490_4
       have hw490_3 := hx490_3
       have hw490_2 := hx490_2
       have hw490_1 := hx490_1
       have hw490_0 := hx490_0
       cases e490
       replace hx490_0 := (HB.out.cell (World.block_lt_of_cell? w _ hx490_0)).trans hx490_0
       replace hx490_1 := (HB.out.cell (World.block_lt_of_cell? w _ hx490_1)).trans hx490_1
       replace hx490_2 := (HB.out.cell (World.block_lt_of_cell? w _ hx490_2)).trans hx490_2
       replace hx490_3 := (HB.out.cell (World.block_lt_of_cell? w _ hx490_3)).trans hx490_3
       replace hx490_4 := (HB.out.cell (World.block_lt_of_cell? w _ hx490_4)).trans hx490_4
       replace hx490_5 := (HB.out.cell (World.block_lt_of_cell? w _ hx490_5)).trans hx490_5
       replace hx490_6 := (HB.out.cell (World.block_lt_of_cell? w _ hx490_6)).trans hx490_6
       replace hx490_7 := (HB.out.cell (World.block_lt_of_cell? w _ hx490_7)).trans hx490_7
       have HR490_1 := Aside0.mk hi490_1
       have HC490_1 := Aside0.mk hl490_1
       clear hi490_1 hl490_1
       have HR490_3 := Aside0.mk hi490_3
       have HC490_3 := Aside0.mk hl490_3
       clear hi490_3 hl490_3
       have HR490_4 := Aside0.mk hi490_4
       have HC490_4 := Aside0.mk hl490_4
       clear hi490_4 hl490_4
       have HR490_5 := Aside0.mk hi490_5
       have HC490_5 := Aside0.mk hl490_5
       clear hi490_5 hl490_5
       have HR490_6 := Aside0.mk hi490_6
       have HC490_6 := Aside0.mk hl490_6
       clear hi490_6 hl490_6
       have HR490_7 := Aside0.mk hi490_7
       have HC490_7 := Aside0.mk hl490_7
       clear hi490_7 hl490_7
       replace p490 := eq_true p490
       replace q490 := eq_true q490
       have p491 : 0 ≤ (x5_1 : Int) := of_decide_eq_true y4
       have q491 : x5_1 < (l1.length : Int) := of_decide_eq_true y4
       obtain ⟨ad491, A491_1, c491_1, A491_3, c491_3, A491_4, c491_4, A491_5, c491_5, A491_6, c491_6, A491_7, c491_7, e491, hx491_0, hx491_1, hx491_2, hx491_3, hx491_4, hx491_5, hx491_6, hx491_7, hl491_1, hi491_1, hl491_3, hi491_3, hl491_4, hi491_4, hl491_5, hi491_5, hl491_6, hi491_6, hl491_7, hi491_7⟩ := at_T64 HR1.out x5_1 p491 q491
       have hw491_7 := hx491_7
       have hw491_6 := hx491_6
       have hw491_5 := hx491_5
       have hw491_4 := hx491_4
       have hw491_3 := hx491_3
       have hw491_2 := hx491_2
       have hw491_1 := hx491_1
       have hw491_0 := hx491_0
       cases e491
       replace hx491_0 := (HB.out.cell (World.block_lt_of_cell? w _ hx491_0)).trans hx491_0
       replace hx491_1 := (HB.out.cell (World.block_lt_of_cell? w _ hx491_1)).trans hx491_1
       replace hx491_2 := (HB.out.cell (World.block_lt_of_cell? w _ hx491_2)).trans hx491_2
       replace hx491_3 := (HB.out.cell (World.block_lt_of_cell? w _ hx491_3)).trans hx491_3
       replace hx491_4 := (HB.out.cell (World.block_lt_of_cell? w _ hx491_4)).trans hx491_4
       replace hx491_5 := (HB.out.cell (World.block_lt_of_cell? w _ hx491_5)).trans hx491_5
       replace hx491_6 := (HB.out.cell (World.block_lt_of_cell? w _ hx491_6)).trans hx491_6
       replace hx491_7 := (HB.out.cell (World.block_lt_of_cell? w _ hx491_7)).trans hx491_7
       have HR491_1 := Aside0.mk hi491_1
       have HC491_1 := Aside0.mk hl491_1
       clear hi491_1 hl491_1
       have HR491_3 := Aside0.mk hi491_3
       have HC491_3 := Aside0.mk hl491_3
       clear hi491_3 hl491_3
       have HR491_4 := Aside0.mk hi491_4
       have HC491_4 := Aside0.mk hl491_4
       clear hi491_4 hl491_4
       have HR491_5 := Aside0.mk hi491_5
       have HC491_5 := Aside0.mk hl491_5
       clear hi491_5 hl491_5
       have HR491_6 := Aside0.mk hi491_6
       have HC491_6 := Aside0.mk hl491_6
       clear hi491_6 hl491_6
       have HR491_7 := Aside0.mk hi491_7
       have HC491_7 := Aside0.mk hl491_7
       clear hi491_7 hl491_7
       replace p491 := eq_true p491
       replace q491 := eq_true q491
       refine start_ (n := 10) (S := fun w' => w'.cell? (ad490.add ((x5_1).toNat * 8)) = some (.int .i64 ((rd_T64 l0 x5_1).f0)) ∧ w'.cell? ⟨(ad490.add ((x5_1).toNat * 8)).block, (ad490.add ((x5_1).toNat * 8)).off + 1, none⟩ = some (.slice A490_1 ((rd_T64 l0 x5_1).f1).length c490_1) ∧ w'.cell? ⟨(ad490.add ((x5_1).toNat * 8)).block, (ad490.add ((x5_1).toNat * 8)).off + 2, none⟩ = some (.string ((rd_T64 l0 x5_1).f2)) ∧ w'.cell? ⟨(ad490.add ((x5_1).toNat * 8)).block, (ad490.add ((x5_1).toNat * 8)).off + 3, none⟩ = some (.slice A490_3 ((rd_T64 l0 x5_1).f3).length c490_3) ∧ w'.cell? ⟨(ad490.add ((x5_1).toNat * 8)).block, (ad490.add ((x5_1).toNat * 8)).off + 4, none⟩ = some (.slice A490_4 ((rd_T64 l0 x5_1).f4.f0).length c490_4) ∧ w'.cell? ⟨(ad490.add ((x5_1).toNat * 8)).block, (ad490.add ((x5_1).toNat * 8)).off + 5, none⟩ = some (.slice A490_5 ((rd_T64 l0 x5_1).f4.f1).length c490_5) ∧ w'.cell? ⟨(ad490.add ((x5_1).toNat * 8)).block, (ad490.add ((x5_1).toNat * 8)).off + 6, none⟩ = some (.slice A490_6 ((rd_T64 l0 x5_1).f5.f0).length c490_6) ∧ w'.cell? ⟨(ad490.add ((x5_1).toNat * 8)).block, (ad490.add ((x5_1).toNat * 8)).off + 7, none⟩ = some (.slice A490_7 ((rd_T64 l0 x5_1).f5.f1).length c490_7) ∧ w'.cell? (ad491.add ((x5_1).toNat * 8)) = some (.int .i64 ((rd_T64 l1 x5_1).f0)) ∧ w'.cell? ⟨(ad491.add ((x5_1).toNat * 8)).block, (ad491.add ((x5_1).toNat * 8)).off + 1, none⟩ = some (.slice A491_1 ((rd_T64 l1 x5_1).f1).length c491_1) ∧ w'.cell? ⟨(ad491.add ((x5_1).toNat * 8)).block, (ad491.add ((x5_1).toNat * 8)).off + 2, none⟩ = some (.string ((rd_T64 l1 x5_1).f2)) ∧ w'.cell? ⟨(ad491.add ((x5_1).toNat * 8)).block, (ad491.add ((x5_1).toNat * 8)).off + 3, none⟩ = some (.slice A491_3 ((rd_T64 l1 x5_1).f3).length c491_3) ∧ w'.cell? ⟨(ad491.add ((x5_1).toNat * 8)).block, (ad491.add ((x5_1).toNat * 8)).off + 4, none⟩ = some (.slice A491_4 ((rd_T64 l1 x5_1).f4.f0).length c491_4) ∧ w'.cell? ⟨(ad491.add ((x5_1).toNat * 8)).block, (ad491.add ((x5_1).toNat * 8)).off + 5, none⟩ = some (.slice A491_5 ((rd_T64 l1 x5_1).f4.f1).length c491_5) ∧ w'.cell? ⟨(ad491.add ((x5_1).toNat * 8)).block, (ad491.add ((x5_1).toNat * 8)).off + 6, none⟩ = some (.slice A491_6 ((rd_T64 l1 x5_1).f5.f0).length c491_6) ∧ w'.cell? ⟨(ad491.add ((x5_1).toNat * 8)).block, (ad491.add ((x5_1).toNat * 8)).off + 7, none⟩ = some (.slice A491_7 ((rd_T64 l1 x5_1).f5.f1).length c491_7)) (ds := []) #[false, false, false, false, false, false, false, false, false, false] (by kernel_rfl) rfl rfl ⟨((HB.out.cell (World.block_lt_of_cell? w _ hw490_0)).trans hw490_0), ((HB.out.cell (World.block_lt_of_cell? w _ hw490_1)).trans hw490_1), ((HB.out.cell (World.block_lt_of_cell? w _ hw490_2)).trans hw490_2), ((HB.out.cell (World.block_lt_of_cell? w _ hw490_3)).trans hw490_3), ((HB.out.cell (World.block_lt_of_cell? w _ hw490_4)).trans hw490_4), ((HB.out.cell (World.block_lt_of_cell? w _ hw490_5)).trans hw490_5), ((HB.out.cell (World.block_lt_of_cell? w _ hw490_6)).trans hw490_6), ((HB.out.cell (World.block_lt_of_cell? w _ hw490_7)).trans hw490_7), ((HB.out.cell (World.block_lt_of_cell? w _ hw491_0)).trans hw491_0), ((HB.out.cell (World.block_lt_of_cell? w _ hw491_1)).trans hw491_1), ((HB.out.cell (World.block_lt_of_cell? w _ hw491_2)).trans hw491_2), ((HB.out.cell (World.block_lt_of_cell? w _ hw491_3)).trans hw491_3), ((HB.out.cell (World.block_lt_of_cell? w _ hw491_4)).trans hw491_4), ((HB.out.cell (World.block_lt_of_cell? w _ hw491_5)).trans hw491_5), ((HB.out.cell (World.block_lt_of_cell? w _ hw491_6)).trans hw491_6), ((HB.out.cell (World.block_lt_of_cell? w _ hw491_7)).trans hw491_7)⟩ (fun hHeld => ?_); refine with_tabW laws_eqBindS.tab6 laws_eqBindS.bits6 (fun HT_ HW_ => ?_)
       generalize wr.drew = w9 at HB HR490_1 HR490_3 HR490_4 HR490_5 HR490_6 HR490_7 HR491_1 HR491_3 HR491_4 HR491_5 HR491_6 HR491_7 hx490_0 hx490_1 hx490_2 hx490_3 hx490_4 hx490_5 hx490_6 hx490_7 hx491_0 hx491_1 hx491_2 hx491_3 hx491_4 hx491_5 hx491_6 hx491_7 hHeld ⊢
       refine zp 0 (some 17) HT_ ?_
       refine zp 1 (some 18) HT_ ?_
       refine zp 2 (some 19) HT_ ?_
       refine zp 4 (some 21) HT_ ?_
       refine zp 5 (some 22) HT_ ?_
       refine zp 6 (some 23) HT_ ?_
       refine zt16 3 (some 20) HT_ HW_ hHeld ?_
       refine zt16 7 (some 24) HT_ HW_ hHeld ?_
       refine one_ (i := 8) (N := some 25) #[true, true, true, true, true, true, true, true, true, false] rfl rfl (one_of HT_.out (by kernel_rfl)) (by decide) (fun K hK => ?_)
       refine goes_ Try.func65 (by kernel_rfl) rfl #[.agg #[.int .i64 ((rd_T64 l0 x5_1).f0), .slice A490_1 ((rd_T64 l0 x5_1).f1).length c490_1, .string ((rd_T64 l0 x5_1).f2), .slice A490_3 ((rd_T64 l0 x5_1).f3).length c490_3, .slice A490_4 ((rd_T64 l0 x5_1).f4.f0).length c490_4, .slice A490_5 ((rd_T64 l0 x5_1).f4.f1).length c490_5, .slice A490_6 ((rd_T64 l0 x5_1).f5.f0).length c490_6, .slice A490_7 ((rd_T64 l0 x5_1).f5.f1).length c490_7], .agg #[.int .i64 ((rd_T64 l1 x5_1).f0), .slice A491_1 ((rd_T64 l1 x5_1).f1).length c491_1, .string ((rd_T64 l1 x5_1).f2), .slice A491_3 ((rd_T64 l1 x5_1).f3).length c491_3, .slice A491_4 ((rd_T64 l1 x5_1).f4.f0).length c491_4, .slice A491_5 ((rd_T64 l1 x5_1).f4.f1).length c491_5, .slice A491_6 ((rd_T64 l1 x5_1).f5.f0).length c491_6, .slice A491_7 ((rd_T64 l1 x5_1).f5.f1).length c491_7]] (by rfl) rfl rfl y3 ?_
       with_reducible refine (laws_eqBind.Fcalls (laws_eqBindS.f k1) (ih k1 (y30 HK1.out)) k1 ((rd_T64 l0 x5_1).f0) _ _ ((rd_T64 l0 x5_1).f1) ((rd_T64 l0 x5_1).f2) _ _ ((rd_T64 l0 x5_1).f3) _ _ ((rd_T64 l0 x5_1).f4.f0) _ _ ((rd_T64 l0 x5_1).f4.f1) _ _ ((rd_T64 l0 x5_1).f5.f0) _ _ ((rd_T64 l0 x5_1).f5.f1) ((rd_T64 l1 x5_1).f0) _ _ ((rd_T64 l1 x5_1).f1) ((rd_T64 l1 x5_1).f2) _ _ ((rd_T64 l1 x5_1).f3) _ _ ((rd_T64 l1 x5_1).f4.f0) _ _ ((rd_T64 l1 x5_1).f4.f1) _ _ ((rd_T64 l1 x5_1).f5.f0) _ _ ((rd_T64 l1 x5_1).f5.f1) t492 _ ?side1 ?side2 ?side3 ?side4 ?side5 ?side6 ?side7 ?side8 ?side9 ?side10 ?side11 ?side12 ?side13 ?side14 ?side15 ?side16 ?side17 ?side18 ?side19 ?side20 ?side21 ?side22 ?side23 ?side24 A7.out).mono ?_
       (case side1 => exact y0 HR490_1.out HB.out)
       (case side2 => exact HC490_1.out)
       (case side3 => exact y0 HR490_3.out HB.out)
       (case side4 => exact HC490_3.out)
       (case side5 => exact y0 HR490_4.out HB.out)
       (case side6 => exact HC490_4.out)
       (case side7 => exact y0 HR490_5.out HB.out)
       (case side8 => exact HC490_5.out)
       (case side9 => exact y0 HR490_6.out HB.out)
       (case side10 => exact HC490_6.out)
       (case side11 => exact y0 HR490_7.out HB.out)
       (case side12 => exact HC490_7.out)
       (case side13 => exact y0 HR491_1.out HB.out)
       (case side14 => exact HC491_1.out)
       (case side15 => exact y0 HR491_3.out HB.out)
       (case side16 => exact HC491_3.out)
       (case side17 => exact y0 HR491_4.out HB.out)
       (case side18 => exact HC491_4.out)
       (case side19 => exact y0 HR491_5.out HB.out)
       (case side20 => exact HC491_5.out)
       (case side21 => exact y0 HR491_6.out HB.out)
       (case side22 => exact HC491_6.out)
       (case side23 => exact y0 HR491_7.out HB.out)
       (case side24 => exact HC491_7.out)
       rintro e w10 ⟨rfl, hb⟩
       refine ⟨_, rfl, ?_⟩
       replace HB := Aside0.mk (below_step (y1 HB.out) hb)
       (try clear hb)
       (try clear hb2)
       (try clear hk)
       (try clear hi)
       refine hK.out _ _ ⟨((HB.out.cell (World.block_lt_of_cell? w _ hw490_0)).trans hw490_0), ((HB.out.cell (World.block_lt_of_cell? w _ hw490_1)).trans hw490_1), ((HB.out.cell (World.block_lt_of_cell? w _ hw490_2)).trans hw490_2), ((HB.out.cell (World.block_lt_of_cell? w _ hw490_3)).trans hw490_3), ((HB.out.cell (World.block_lt_of_cell? w _ hw490_4)).trans hw490_4), ((HB.out.cell (World.block_lt_of_cell? w _ hw490_5)).trans hw490_5), ((HB.out.cell (World.block_lt_of_cell? w _ hw490_6)).trans hw490_6), ((HB.out.cell (World.block_lt_of_cell? w _ hw490_7)).trans hw490_7), ((HB.out.cell (World.block_lt_of_cell? w _ hw491_0)).trans hw491_0), ((HB.out.cell (World.block_lt_of_cell? w _ hw491_1)).trans hw491_1), ((HB.out.cell (World.block_lt_of_cell? w _ hw491_2)).trans hw491_2), ((HB.out.cell (World.block_lt_of_cell? w _ hw491_3)).trans hw491_3), ((HB.out.cell (World.block_lt_of_cell? w _ hw491_4)).trans hw491_4), ((HB.out.cell (World.block_lt_of_cell? w _ hw491_5)).trans hw491_5), ((HB.out.cell (World.block_lt_of_cell? w _ hw491_6)).trans hw491_6), ((HB.out.cell (World.block_lt_of_cell? w _ hw491_7)).trans hw491_7)⟩ (fun hHeld => ?_)
       clear hK K
       refine norm_ (a' := ?_) ?_ ?_
       rotate_left
       ·show Act.put _ (some 25) _ = _
        simp only [Act.put, List.setIfInBounds_toArray, List.set_cons_zero, List.set_cons_succ, i64_w, i32_w]
        rfl
       refine zp 9 (some 26) HT_ ?_
       refine done_ (done_of HT_.out (by kernel_rfl)) ?_
       have H := HZ8.out
       clear HZ8
       by_cases c11 : t492 = true
       ·subst c11
        rw [if_pos rfl] at H
        have H' := Aside0.mk H
        clear H
        go_wp2
        go_roundg k1
        case measure => have := HK1.out; omega
        case rel => exact ⟨(wrap64 (x5_1 + 1)), y7, H', ⟨(y30 HK1.out)⟩, ⟨(y1 HB.out)⟩⟩
       ·replace c11 := Bool.eq_false_iff.mpr c11
        subst c11
        rw [if_neg (show ¬ (false = true) by decide)] at H
        obtain rfl := Option.some.inj H
        go_wp2
        go_ret
        exact ⟨y6, (y1 HB.out)⟩
      ·rw [if_neg c6] at H
       exact absurd H (by simp)
     ·rw [if_neg c5] at H
      exact absurd H (by simp)
    ·rw [if_neg c4] at H
     have c4b0 : decide (x5_1 < (l0.length : Int)) = false := decide_eq_false c4
     clear c4
     obtain rfl := Option.some.inj H
     go_wp2
     go_ret
     exact ⟨y6, (y1 HB.out)⟩
 ·rw [if_neg c3] at H
  have c3b0 : ((l0.length : Int) == (l1.length : Int)) = false := beq_eq_false_iff_ne.mpr c3
  have c3b1 : ((l0.length : Int) != (l1.length : Int)) = true := bne_iff_ne.mpr c3
  have c3b2 : (l0.length == l1.length) = false := by first | simpa using c3 | (simp at c3 ⊢; omega)
  obtain rfl := Option.some.inj H
  go_enter Try.func57, Try.ntmps57
  go_wp2
  go_ret
  exact ⟨y6, (y1 HB.out)⟩
def laws_eqBody.f (k : Nat) (l0_0 : List (S64)) (l0_1 : List (S78)) (l1_0 : List (S64)) (l1_1 : List (S78)) : Option (Bool) := laws_eqBody.F (laws_eqBindS.f k) k l0_0 l0_1 l1_0 l1_1
theorem laws_eqBody.mono : ∀ a0 a1 a2 a3 k, LeO (laws_eqBody.f k a0 a1 a2 a3) (laws_eqBody.f (k + 1) a0 a1 a2 a3) := fun a0 a1 a2 a3 k => laws_eqBody.Fmono (fun y0 y1 => laws_eqBindS.mono y0 y1 k) a0 a1 a2 a3 k
theorem laws_eqBody.calls (k : Nat) (A0_0 : Option Addr) (c0_0 : Nat) (l0_0 : List (S64)) (A0_1 : Option Addr) (c0_1 : Nat) (l0_1 : List (S78)) (A1_0 : Option Addr) (c1_0 : Nat) (l1_0 : List (S64)) (A1_1 : Option Addr) (c1_1 : Nat) (l1_1 : List (S78)) (r : Bool) (w : World) (hr0_0 : Kd.C k64 w A0_0 l0_0.length l0_0) (hc0_0 : l0_0.length ≤ c0_0) (hr0_1 : Kd.C k78 w A0_1 l0_1.length l0_1) (hc0_1 : l0_1.length ≤ c0_1) (hr1_0 : Kd.C k64 w A1_0 l1_0.length l1_0) (hc1_0 : l1_0.length ≤ c1_0) (hr1_1 : Kd.C k78 w A1_1 l1_1.length l1_1) (hc1_1 : l1_1.length ≤ c1_1) (h : laws_eqBody.f k l0_0 l0_1 l1_0 l1_1 = some r) :
  Calls Try.prog 44 #[.agg #[.slice A0_0 l0_0.length c0_0, .slice A0_1 l0_1.length c0_1], .agg #[.slice A1_0 l1_0.length c1_0, .slice A1_1 l1_1.length c1_1]] w fun e w' => e = .returned (.bool r) ∧ Below w.heap.size w w' := laws_eqBody.Fcalls (laws_eqBindS.f k) (laws_eqBindS.calls k) k A0_0 c0_0 l0_0 A0_1 c0_1 l0_1 A1_0 c1_0 l1_0 A1_1 c1_1 l1_1 r w hr0_0 hc0_0 hr0_1 hc0_1 hr1_0 hc1_0 hr1_1 hc1_1 h
def laws_eqBind.f (k : Nat) (a0_0 : Int) (l0_1 : List ByteArray) (a0_2 : ByteArray) (l0_3 : List (S78)) (l0_4 : List (S64)) (l0_5 : List (S78)) (l0_6 : List (S64)) (l0_7 : List (S78)) (a1_0 : Int) (l1_1 : List ByteArray) (a1_2 : ByteArray) (l1_3 : List (S78)) (l1_4 : List (S64)) (l1_5 : List (S78)) (l1_6 : List (S64)) (l1_7 : List (S78)) : Option (Bool) := laws_eqBind.F (laws_eqBindS.f k) k a0_0 l0_1 a0_2 l0_3 l0_4 l0_5 l0_6 l0_7 a1_0 l1_1 a1_2 l1_3 l1_4 l1_5 l1_6 l1_7
theorem laws_eqBind.mono : ∀ a0 a1 a2 a3 a4 a5 a6 a7 a8 a9 a10 a11 a12 a13 a14 a15 k, LeO (laws_eqBind.f k a0 a1 a2 a3 a4 a5 a6 a7 a8 a9 a10 a11 a12 a13 a14 a15) (laws_eqBind.f (k + 1) a0 a1 a2 a3 a4 a5 a6 a7 a8 a9 a10 a11 a12 a13 a14 a15) := fun a0 a1 a2 a3 a4 a5 a6 a7 a8 a9 a10 a11 a12 a13 a14 a15 k => laws_eqBind.Fmono (fun y0 y1 => laws_eqBindS.mono y0 y1 k) a0 a1 a2 a3 a4 a5 a6 a7 a8 a9 a10 a11 a12 a13 a14 a15 k
theorem laws_eqBind.calls (k : Nat) (a0_0 : Int) (A0_1 : Option Addr) (c0_1 : Nat) (l0_1 : List ByteArray) (a0_2 : ByteArray) (A0_3 : Option Addr) (c0_3 : Nat) (l0_3 : List (S78)) (A0_4 : Option Addr) (c0_4 : Nat) (l0_4 : List (S64)) (A0_5 : Option Addr) (c0_5 : Nat) (l0_5 : List (S78)) (A0_6 : Option Addr) (c0_6 : Nat) (l0_6 : List (S64)) (A0_7 : Option Addr) (c0_7 : Nat) (l0_7 : List (S78)) (a1_0 : Int) (A1_1 : Option Addr) (c1_1 : Nat) (l1_1 : List ByteArray) (a1_2 : ByteArray) (A1_3 : Option Addr) (c1_3 : Nat) (l1_3 : List (S78)) (A1_4 : Option Addr) (c1_4 : Nat) (l1_4 : List (S64)) (A1_5 : Option Addr) (c1_5 : Nat) (l1_5 : List (S78)) (A1_6 : Option Addr) (c1_6 : Nat) (l1_6 : List (S64)) (A1_7 : Option Addr) (c1_7 : Nat) (l1_7 : List (S78)) (r : Bool) (w : World) (hr0_1 : Kd.C Kd.string w A0_1 l0_1.length l0_1) (hc0_1 : l0_1.length ≤ c0_1) (hr0_3 : Kd.C k78 w A0_3 l0_3.length l0_3) (hc0_3 : l0_3.length ≤ c0_3) (hr0_4 : Kd.C k64 w A0_4 l0_4.length l0_4) (hc0_4 : l0_4.length ≤ c0_4) (hr0_5 : Kd.C k78 w A0_5 l0_5.length l0_5) (hc0_5 : l0_5.length ≤ c0_5) (hr0_6 : Kd.C k64 w A0_6 l0_6.length l0_6) (hc0_6 : l0_6.length ≤ c0_6) (hr0_7 : Kd.C k78 w A0_7 l0_7.length l0_7) (hc0_7 : l0_7.length ≤ c0_7) (hr1_1 : Kd.C Kd.string w A1_1 l1_1.length l1_1) (hc1_1 : l1_1.length ≤ c1_1) (hr1_3 : Kd.C k78 w A1_3 l1_3.length l1_3) (hc1_3 : l1_3.length ≤ c1_3) (hr1_4 : Kd.C k64 w A1_4 l1_4.length l1_4) (hc1_4 : l1_4.length ≤ c1_4) (hr1_5 : Kd.C k78 w A1_5 l1_5.length l1_5) (hc1_5 : l1_5.length ≤ c1_5) (hr1_6 : Kd.C k64 w A1_6 l1_6.length l1_6) (hc1_6 : l1_6.length ≤ c1_6) (hr1_7 : Kd.C k78 w A1_7 l1_7.length l1_7) (hc1_7 : l1_7.length ≤ c1_7) (h : laws_eqBind.f k a0_0 l0_1 a0_2 l0_3 l0_4 l0_5 l0_6 l0_7 a1_0 l1_1 a1_2 l1_3 l1_4 l1_5 l1_6 l1_7 = some r) :
  Calls Try.prog 65 #[.agg #[.int .i64 a0_0, .slice A0_1 l0_1.length c0_1, .string a0_2, .slice A0_3 l0_3.length c0_3, .slice A0_4 l0_4.length c0_4, .slice A0_5 l0_5.length c0_5, .slice A0_6 l0_6.length c0_6, .slice A0_7 l0_7.length c0_7], .agg #[.int .i64 a1_0, .slice A1_1 l1_1.length c1_1, .string a1_2, .slice A1_3 l1_3.length c1_3, .slice A1_4 l1_4.length c1_4, .slice A1_5 l1_5.length c1_5, .slice A1_6 l1_6.length c1_6, .slice A1_7 l1_7.length c1_7]] w fun e w' => e = .returned (.bool r) ∧ Below w.heap.size w w' := laws_eqBind.Fcalls (laws_eqBindS.f k) (laws_eqBindS.calls k) k a0_0 A0_1 c0_1 l0_1 a0_2 A0_3 c0_3 l0_3 A0_4 c0_4 l0_4 A0_5 c0_5 l0_5 A0_6 c0_6 l0_6 A0_7 c0_7 l0_7 a1_0 A1_1 c1_1 l1_1 a1_2 A1_3 c1_3 l1_3 A1_4 c1_4 l1_4 A1_5 c1_5 l1_5 A1_6 c1_6 l1_6 A1_7 c1_7 l1_7 r w hr0_1 hc0_1 hr0_3 hc0_3 hr0_4 hc0_4 hr0_5 hc0_5 hr0_6 hc0_6 hr0_7 hc0_7 hr1_1 hc1_1 hr1_3 hc1_3 hr1_4 hc1_4 hr1_5 hc1_5 hr1_6 hc1_6 hr1_7 hc1_7 h
end Go.Proofs.Ytdgpegkgelciaaa.PA
end
section
namespace Go.Proofs.Ytdgpegkgelciaaa.PA
open Go.RowKit Go.Proofs.YtdgpegkgelciaaaW.PrintWords Go.Proofs.YtdgpegkgelciaaaW.PrintLast Go.Proofs.YtdgpegkgelciaaaW.PrintMore
attribute [local go_sem] max2_int min2_int max_two min_two max_three min_three max_four min_four
set_option linter.unusedVariables false
set_option linter.unusedSimpArgs false
def laws_eqPure.f (k : Nat) (a0_0 : ByteArray) (l0_1 : List ByteArray) (l0_2 : List (S64)) (l0_3 : List (S78)) (a1_0 : ByteArray) (l1_1 : List ByteArray) (l1_2 : List (S64)) (l1_3 : List (S78)) : Option (Bool) := if a0_0.toList = a1_0.toList then ((laws_eqStringS.f k l0_1 l1_1).bind fun t495 => (if t495 = true then ((laws_eqBody.f k l0_2 l0_3 l1_2 l1_3).bind fun t496 => (if t496 = true then (some true) else (some false))) else (some false))) else (some false)
theorem laws_eqPure.mono : ∀ a0 a1 a2 a3 a4 a5 a6 a7 k, LeO (laws_eqPure.f k a0 a1 a2 a3 a4 a5 a6 a7) (laws_eqPure.f (k + 1) a0 a1 a2 a3 a4 a5 a6 a7) := by
 intro a0 a1 a2 a3 a4 a5 a6 a7 k
 unfold laws_eqPure.f
 repeat' first
   | (with_reducible exact laws_eqBody.mono _ _ _ _ _)
   | (with_reducible exact laws_eqStringS.mono _ _ _)
   | (with_reducible exact LeO.refl _)
   | (with_reducible exact LeO.none _)
   | (with_reducible refine LeO.ite ?_ ?_)
   | (with_reducible refine LeO.bind ?_ (fun _ => ?_))
   | exact laws_eqBody.mono _ _ _ _ _
   | exact laws_eqStringS.mono _ _ _
   | exact LeO.none _
   | refine LeO.ite ?_ ?_
   | refine LeO.bind ?_ (fun _ => ?_)
set_option maxHeartbeats 8000000 in
set_option maxRecDepth 100000 in
theorem laws_eqPure.calls (k : Nat) (a0_0 : ByteArray) (A0_1 : Option Addr) (c0_1 : Nat) (l0_1 : List ByteArray) (A0_2 : Option Addr) (c0_2 : Nat) (l0_2 : List (S64)) (A0_3 : Option Addr) (c0_3 : Nat) (l0_3 : List (S78)) (a1_0 : ByteArray) (A1_1 : Option Addr) (c1_1 : Nat) (l1_1 : List ByteArray) (A1_2 : Option Addr) (c1_2 : Nat) (l1_2 : List (S64)) (A1_3 : Option Addr) (c1_3 : Nat) (l1_3 : List (S78)) (r : Bool) (w : World) (hr0_1 : Kd.C Kd.string w A0_1 l0_1.length l0_1) (hc0_1 : l0_1.length ≤ c0_1) (hr0_2 : Kd.C k64 w A0_2 l0_2.length l0_2) (hc0_2 : l0_2.length ≤ c0_2) (hr0_3 : Kd.C k78 w A0_3 l0_3.length l0_3) (hc0_3 : l0_3.length ≤ c0_3) (hr1_1 : Kd.C Kd.string w A1_1 l1_1.length l1_1) (hc1_1 : l1_1.length ≤ c1_1) (hr1_2 : Kd.C k64 w A1_2 l1_2.length l1_2) (hc1_2 : l1_2.length ≤ c1_2) (hr1_3 : Kd.C k78 w A1_3 l1_3.length l1_3) (hc1_3 : l1_3.length ≤ c1_3) (h : laws_eqPure.f k a0_0 l0_1 l0_2 l0_3 a1_0 l1_1 l1_2 l1_3 = some r) :
  Calls Try.prog 26 #[.agg #[.string a0_0, .slice A0_1 l0_1.length c0_1, .slice A0_2 l0_2.length c0_2, .slice A0_3 l0_3.length c0_3], .agg #[.string a1_0, .slice A1_1 l1_1.length c1_1, .slice A1_2 l1_2.length c1_2, .slice A1_3 l1_3.length c1_3]] w fun e w' => e = .returned (.bool r) ∧ Below w.heap.size w w' := by
 have hu45 := Try.underlying45
 have hu43 := Try.underlying43
 have HR0_1 := Aside0.mk hr0_1
 have HC0_1 := Aside0.mk hc0_1
 clear hr0_1 hc0_1
 have HR0_2 := Aside0.mk hr0_2
 have HC0_2 := Aside0.mk hc0_2
 clear hr0_2 hc0_2
 have HR0_3 := Aside0.mk hr0_3
 have HC0_3 := Aside0.mk hc0_3
 clear hr0_3 hc0_3
 have HR1_1 := Aside0.mk hr1_1
 have HC1_1 := Aside0.mk hc1_1
 clear hr1_1 hc1_1
 have HR1_2 := Aside0.mk hr1_2
 have HC1_2 := Aside0.mk hc1_2
 clear hr1_2 hc1_2
 have HR1_3 := Aside0.mk hr1_3
 have HC1_3 := Aside0.mk hc1_3
 clear hr1_3 hc1_3
 have HB := Aside0.mk (Below.refl w.heap.size w)
 have H : (if a0_0.toList = a1_0.toList then ((laws_eqStringS.f k l0_1 l1_1).bind fun t495 => (if t495 = true then ((laws_eqBody.f k l0_2 l0_3 l1_2 l1_3).bind fun t496 => (if t496 = true then (some true) else (some false))) else (some false))) else (some false)) = some r := h
 clear h
 have HZ3 := Aside0.mk H
 clear H
 go_enter Try.func26, Try.ntmps26
 go_upto_if 9 with (first | ((with_reducible refine gate_dst (N := 2) rfl ?_); refine zbx 2 #[.string a0_0, .slice A0_1 l0_1.length c0_1, .slice A0_2 l0_2.length c0_2, .slice A0_3 l0_3.length c0_3] 45 ?_; intro gb493 hg w4 hbox hb; have BK493 := Aside0.mk hbox; have GW493 := Aside0.mk ((y9 hg HB.out : w.heap.size ≤ gb493)); have GE493 := Aside0.mk ((y9 hg HB.out : w.heap.size ≤ gb493)); replace HB := Aside0.mk (below_step (y1 HB.out) hb); clear hb hbox hg) | ((with_reducible refine gate_dst (N := 3) rfl ?_); refine zbx 3 #[.string a1_0, .slice A1_1 l1_1.length c1_1, .slice A1_2 l1_2.length c1_2, .slice A1_3 l1_3.length c1_3] 45 ?_; intro gb494 hg w5 hbox hb; have BK494 := Aside0.mk hbox; have GW494 := Aside0.mk ((y15 hg HB.out GE493.out : w.heap.size ≤ gb494)); have GE494 := Aside0.mk ((y15 hg HB.out GE493.out : w.heap.size ≤ gb494)); replace HB := Aside0.mk (below_step (y2 HB.out GE493.out) hb); have NB493_494 := zltn hg BK493; have NB494_493 := zgtn hg BK493; replace BK493 := zbb BK493 hb; clear hb hbox hg; have hnb6 := NB493_494.out; have hnc6 := NB494_493.out; have hcz7_0 := zh BK493; have hcz7_1 := zh1 BK493; have hcz7_2 := zh2 BK493; have hcz7_3 : w5.cell? ⟨gb493, 3, none⟩ = some (.slice A0_3 l0_3.length c0_3) := (blk_cell BK493.out 3).trans rfl; have hfz7_0 := zfr BK493 0; have hfz7_1 := zfr BK493 1; have hfz7_2 := zfr BK493 2; have hfz7_3 := zfr BK493 3; have hcz8_0 := zh BK494; have hcz8_1 := zh1 BK494; have hcz8_2 := zh2 BK494; have hcz8_3 : w5.cell? ⟨gb494, 3, none⟩ = some (.slice A1_3 l1_3.length c1_3) := (blk_cell BK494.out 3).trans rfl; have hfz8_0 := zfr BK494 0; have hfz8_1 := zfr BK494 1; have hfz8_2 := zfr BK494 2; have hfz8_3 := zfr BK494 3))
 (try simp only [Act.put, List.setIfInBounds_toArray, List.set_cons_zero, List.set_cons_succ])
 have H := HZ3.out
 clear HZ3
 by_cases c9 : a0_0.toList = a1_0.toList
 ·rw [if_pos c9] at H
  have c9b0 : (a0_0.toList == a1_0.toList) = true := beq_iff_eq.mpr c9
  have c9b1 : (a0_0.toList != a1_0.toList) = false := bne_eq_false_iff_eq.mpr c9
  clear c9
  (first | rw [c9b0] | (simp only [i64_w, i32_w]; rw [c9b0]) | skip)
  obtain ⟨t495, A100, H⟩ := ob H
  have A10 := Aside0.mk A100
  clear A100
  have HZ11 := Aside0.mk H
  clear H
  have hnb12 := NB493_494.out
  have hnc12 := NB494_493.out
  have hcz13_0 := zh BK493
  have hcz13_1 := zh1 BK493
  have hcz13_2 := zh2 BK493
  have hcz13_3 : w5.cell? ⟨gb493, 3, none⟩ = some (.slice A0_3 l0_3.length c0_3) := (blk_cell BK493.out 3).trans rfl
  have hfz13_0 := zfr BK493 0
  have hfz13_1 := zfr BK493 1
  have hfz13_2 := zfr BK493 2
  have hfz13_3 := zfr BK493 3
  have hcz14_0 := zh BK494
  have hcz14_1 := zh1 BK494
  have hcz14_2 := zh2 BK494
  have hcz14_3 : w5.cell? ⟨gb494, 3, none⟩ = some (.slice A1_3 l1_3.length c1_3) := (blk_cell BK494.out 3).trans rfl
  have hfz14_0 := zfr BK494 0
  have hfz14_1 := zfr BK494 1
  have hfz14_2 := zfr BK494 2
  have hfz14_3 := zfr BK494 3
  go_upto_if 15 with (first | ((with_reducible refine gate_callee (f := 43) rfl ?_); refine goesL_ (some 14) rfl rfl Try.func43 (by kernel_rfl) rfl #[.slice A0_1 l0_1.length c0_1, .slice A1_1 l1_1.length c1_1] rfl y3 ?_; (with_reducible refine (laws_eqStringS.calls k _ _ l0_1 _ _ l1_1 t495 _ ?side1 ?side2 ?side3 ?side4 A10.out).mono ?_); (case side1 => exact y0 HR0_1.out HB.out); (case side2 => exact HC0_1.out); (case side3 => exact y0 HR1_1.out HB.out); (case side4 => exact HC1_1.out); rintro e w' ⟨rfl, ⟨nd, rfl⟩⟩; refine ⟨_, rfl, ?_⟩))
  (try simp only [Act.put, List.setIfInBounds_toArray, List.set_cons_zero, List.set_cons_succ])
  have H := HZ11.out
  clear HZ11
  by_cases c15 : t495 = true
  ·subst c15
   rw [if_pos rfl] at H
   obtain ⟨t496, A160, H⟩ := ob H
   have A16 := Aside0.mk A160
   clear A160
   have HZ17 := Aside0.mk H
   clear H
   have hnb18 := NB493_494.out
   have hnc18 := NB494_493.out
   have hcz19_0 := zh BK493
   have hcz19_1 := zh1 BK493
   have hcz19_2 := zh2 BK493
   have hcz19_3 : w5.cell? ⟨gb493, 3, none⟩ = some (.slice A0_3 l0_3.length c0_3) := (blk_cell BK493.out 3).trans rfl
   have hfz19_0 := zfr BK493 0
   have hfz19_1 := zfr BK493 1
   have hfz19_2 := zfr BK493 2
   have hfz19_3 := zfr BK493 3
   have hcz20_0 := zh BK494
   have hcz20_1 := zh1 BK494
   have hcz20_2 := zh2 BK494
   have hcz20_3 : w5.cell? ⟨gb494, 3, none⟩ = some (.slice A1_3 l1_3.length c1_3) := (blk_cell BK494.out 3).trans rfl
   have hfz20_0 := zfr BK494 0
   have hfz20_1 := zfr BK494 1
   have hfz20_2 := zfr BK494 2
   have hfz20_3 := zfr BK494 3
   go_upto_if 21 with (first | ((with_reducible refine gate_callee (f := 44) rfl ?_); refine goesL_ (some 20) rfl rfl Try.func44 (by kernel_rfl) rfl #[.agg #[.slice A0_2 l0_2.length c0_2, .slice A0_3 l0_3.length c0_3], .agg #[.slice A1_2 l1_2.length c1_2, .slice A1_3 l1_3.length c1_3]] rfl y3 ?_; (with_reducible refine (laws_eqBody.calls k _ _ l0_2 _ _ l0_3 _ _ l1_2 _ _ l1_3 t496 _ ?side1 ?side2 ?side3 ?side4 ?side5 ?side6 ?side7 ?side8 A16.out).mono ?_); (case side1 => exact y16 HR0_2.out HB.out GE493.out GE494.out); (case side2 => exact HC0_2.out); (case side3 => exact y16 HR0_3.out HB.out GE493.out GE494.out); (case side4 => exact HC0_3.out); (case side5 => exact y16 HR1_2.out HB.out GE493.out GE494.out); (case side6 => exact HC1_2.out); (case side7 => exact y16 HR1_3.out HB.out GE493.out GE494.out); (case side8 => exact HC1_3.out); rintro e w21 ⟨rfl, hb⟩; refine ⟨_, rfl, ?_⟩; replace BK493 := zbb BK493 hb; replace BK494 := zbb BK494 hb; replace HB := Aside0.mk (below_step (y5 HB.out GE493.out GE494.out) hb); (try clear hb); (try clear hb2); (try clear hk); (try clear hi)))
   (try simp only [Act.put, List.setIfInBounds_toArray, List.set_cons_zero, List.set_cons_succ])
   have H := HZ17.out
   clear HZ17
   by_cases c22 : t496 = true
   ·subst c22
    rw [if_pos rfl] at H
    obtain rfl := Option.some.inj H
    go_wp2
    go_ret
    exact ⟨y6, (y5 HB.out GE493.out GE494.out)⟩
   ·replace c22 := Bool.eq_false_iff.mpr c22
    subst c22
    rw [if_neg (show ¬ (false = true) by decide)] at H
    obtain rfl := Option.some.inj H
    go_wp2
    go_ret
    exact ⟨y6, (y5 HB.out GE493.out GE494.out)⟩
  ·replace c15 := Bool.eq_false_iff.mpr c15
   subst c15
   rw [if_neg (show ¬ (false = true) by decide)] at H
   obtain rfl := Option.some.inj H
   go_wp2
   go_ret
   exact ⟨y6, (y5 HB.out GE493.out GE494.out)⟩
 ·rw [if_neg c9] at H
  have c9b0 : (a0_0.toList == a1_0.toList) = false := beq_eq_false_iff_ne.mpr c9
  have c9b1 : (a0_0.toList != a1_0.toList) = true := bne_iff_ne.mpr c9
  (first | rw [c9b0] | (simp only [i64_w, i32_w]; rw [c9b0]) | skip)
  obtain rfl := Option.some.inj H
  go_wp2
  go_ret
  exact ⟨y6, (y5 HB.out GE493.out GE494.out)⟩
end Go.Proofs.Ytdgpegkgelciaaa.PA
end
section
namespace Go.Proofs.Ytdgpegkgelciaaa.PA
open Go.RowKit Go.Proofs.YtdgpegkgelciaaaW.PrintWords Go.Proofs.YtdgpegkgelciaaaW.PrintLast Go.Proofs.YtdgpegkgelciaaaW.PrintMore
attribute [local go_sem] max2_int min2_int max_two min_two max_three min_three max_four min_four
set_option linter.unusedVariables false
set_option linter.unusedSimpArgs false
def laws_eqPureS.l0 : Nat → List (S45) → List (S45) → Int → Option (Bool)
 | 0, _, _, _ => none
 | k + 1, x0, x1, x5 => if x5 < (x0.length : Int) then (if 0 ≤ x5 then (if x5 < (x1.length : Int) then ((laws_eqPure.f k ((rd_T45 x0 x5).f0) ((rd_T45 x0 x5).f1) ((rd_T45 x0 x5).f2.f0) ((rd_T45 x0 x5).f2.f1) ((rd_T45 x1 x5).f0) ((rd_T45 x1 x5).f1) ((rd_T45 x1 x5).f2.f0) ((rd_T45 x1 x5).f2.f1)).bind fun t499 => (if t499 = true then (laws_eqPureS.l0 k x0 x1 (wrap64 (x5 + 1))) else (some false))) else (none)) else (none)) else (some true)
def laws_eqPureS.f (k : Nat) (l0 : List (S45)) (l1 : List (S45)) : Option (Bool) := if (l0.length : Int) = (l1.length : Int) then (laws_eqPureS.l0 k l0 l1 0) else (some false)
theorem laws_eqPureS.mono_l : ∀ k, (∀ y0 y1 y2, LeO (laws_eqPureS.l0 k y0 y1 y2) (laws_eqPureS.l0 (k + 1) y0 y1 y2))
 | 0 => fun _ _ _ r h => by simp [laws_eqPureS.l0] at h
 | k + 1 => by
  have ih0 := laws_eqPureS.mono_l k
  ·intro y0 y1 y2
   unfold laws_eqPureS.l0
   repeat' first
   | (with_reducible exact ih0 _ _ _)
   | (with_reducible exact laws_eqPure.mono _ _ _ _ _ _ _ _ _)
   | (with_reducible exact LeO.refl _)
   | (with_reducible exact LeO.none _)
   | (with_reducible refine LeO.ite ?_ ?_)
   | (with_reducible refine LeO.bind ?_ (fun _ => ?_))
   | exact ih0 _ _ _
   | exact laws_eqPure.mono _ _ _ _ _ _ _ _ _
   | exact LeO.none _
   | refine LeO.ite ?_ ?_
   | refine LeO.bind ?_ (fun _ => ?_)
theorem laws_eqPureS.mono : ∀ a0 a1 k, LeO (laws_eqPureS.f k a0 a1) (laws_eqPureS.f (k + 1) a0 a1) := by
 intro a0 a1 k
 have ih0 := laws_eqPureS.mono_l k
 unfold laws_eqPureS.f
 repeat' first
   | (with_reducible exact ih0 _ _ _)
   | (with_reducible exact laws_eqPure.mono _ _ _ _ _ _ _ _ _)
   | (with_reducible exact LeO.refl _)
   | (with_reducible exact LeO.none _)
   | (with_reducible refine LeO.ite ?_ ?_)
   | (with_reducible refine LeO.bind ?_ (fun _ => ?_))
   | exact ih0 _ _ _
   | exact laws_eqPure.mono _ _ _ _ _ _ _ _ _
   | exact LeO.none _
   | refine LeO.ite ?_ ?_
   | refine LeO.bind ?_ (fun _ => ?_)
def laws_eqPureS.T6 : Bool × List (List Nat × List Nat) := (true, [([], []), ([], []), ([0, 1], [0, 1]), ([2], [2]), ([], []), ([], []), ([4, 5], [4, 5]), ([6], [6]), ([3, 7], [3, 7]), ([8], [8])])
def laws_eqPureS.B6 : List Nat := [0, 0, 3, 7, 0, 0, 48, 112, 255, 511]
theorem laws_eqPureS.tab6 : rtab .any (opsOf Try.f10 6) = laws_eqPureS.T6 := by kernel_rfl
theorem laws_eqPureS.bits6 : waitsOk laws_eqPureS.T6.2 laws_eqPureS.B6 = true := by kernel_rfl
set_option maxHeartbeats 8000000 in
set_option maxRecDepth 100000 in
theorem laws_eqPureS.calls (k : Nat) (A0 : Option Addr) (c0 : Nat) (l0 : List (S45)) (A1 : Option Addr) (c1 : Nat) (l1 : List (S45)) (r : Bool) (w : World) (hr0 : Kd.C k45 w A0 l0.length l0) (hc0 : l0.length ≤ c0) (hr1 : Kd.C k45 w A1 l1.length l1) (hc1 : l1.length ≤ c1) (h : laws_eqPureS.f k l0 l1 = some r) :
  Calls Try.prog 10 #[.slice A0 l0.length c0, .slice A1 l1.length c1] w fun e w' => e = .returned (.bool r) ∧ Below w.heap.size w w' := by
 have hu45 := Try.underlying45
 have HR0 := Aside0.mk hr0
 have HC0 := Aside0.mk hc0
 clear hr0 hc0
 have HR1 := Aside0.mk hr1
 have HC1 := Aside0.mk hc1
 clear hr1 hc1
 have HB := Aside0.mk (Below.refl w.heap.size w)
 have H : (if (l0.length : Int) = (l1.length : Int) then (laws_eqPureS.l0 k l0 l1 0) else (some false)) = some r := h
 clear h
 by_cases c3 : (l0.length : Int) = (l1.length : Int)
 ·rw [if_pos c3] at H
  have c3b0 : ((l0.length : Int) == (l1.length : Int)) = true := beq_iff_eq.mpr c3
  have c3b1 : ((l0.length : Int) != (l1.length : Int)) = false := bne_eq_false_iff_eq.mpr c3
  have c3b2 : (l0.length == l1.length) = true := by first | simpa using c3 | (simp at c3 ⊢; omega)
  clear c3
  have H' := Aside0.mk H
  clear H
  go_enter Try.func10, Try.ntmps10
  go_wp2
  go_loopg [5] k (fun kq v5 w' => ∃ (x5_1 : Int), v5 = .int .i64 x5_1 ∧ Aside0 (laws_eqPureS.l0 kq l0 l1 x5_1 = some r) ∧ Aside0 (kq ≤ k) ∧ Aside0 (Below w.heap.size w w'))
  case atStart => exact ⟨(0), y7, H', ⟨Nat.le_refl _⟩, ⟨(y1 HB.out)⟩⟩
  case round =>
   clear H'
   try clear c1
   try clear p2
   try clear c3
   try clear c3b0
   try clear c3b1
   try clear c3b2
   obtain ⟨x5_1, rfl, HA, HK1, HB⟩ := hrel
   cases gk with
   | zero => exact absurd HA.out (by simp [laws_eqPureS.l0])
   | succ k1 =>
    have H := HA.out
    clear HA
    simp only [laws_eqPureS.l0] at H
    by_cases c4 : x5_1 < (l0.length : Int)
    ·rw [if_pos c4] at H
     have c4b0 : decide (x5_1 < (l0.length : Int)) = true := decide_eq_true c4
     clear c4
     by_cases c5 : 0 ≤ x5_1
     ·rw [if_pos c5] at H
      have c5b0 : decide (0 ≤ x5_1) = true := decide_eq_true c5
      clear c5
      by_cases c6 : x5_1 < (l1.length : Int)
      ·rw [if_pos c6] at H
       have c6b0 : decide (x5_1 < (l1.length : Int)) = true := decide_eq_true c6
       clear c6
       obtain ⟨t499, A70, H⟩ := ob H
       have A7 := Aside0.mk A70
       clear A70
       have HZ8 := Aside0.mk H
       clear H
       try go_wp2
       replace HB := Aside0.mk (below_drew1 HB.out)
       have p497 : 0 ≤ (x5_1 : Int) := of_decide_eq_true y4
       have q497 : x5_1 < (l0.length : Int) := of_decide_eq_true y4
       obtain ⟨ad497, A497_1, c497_1, A497_2, c497_2, A497_3, c497_3, e497, hx497_0, hx497_1, hx497_2, hx497_3, hl497_1, hi497_1, hl497_2, hi497_2, hl497_3, hi497_3⟩ := at_T45 HR0.out x5_1 p497 q497
       have hw497_3 := hx497_3
       have hw497_2 := hx497_2
       have hw497_1 := hx497_1
       have hw497_0 := hx497_0
       cases e497
       replace hx497_0 := (HB.out.cell (World.block_lt_of_cell? w _ hx497_0)).trans hx497_0
       replace hx497_1 := (HB.out.cell (World.block_lt_of_cell? w _ hx497_1)).trans hx497_1
       replace hx497_2 := (HB.out.cell (World.block_lt_of_cell? w _ hx497_2)).trans hx497_2
       replace hx497_3 := (HB.out.cell (World.block_lt_of_cell? w _ hx497_3)).trans hx497_3
       have HR497_1 := Aside0.mk hi497_1
       have HC497_1 := Aside0.mk hl497_1
       clear hi497_1 hl497_1
       have HR497_2 := Aside0.mk hi497_2
       have HC497_2 := Aside0.mk hl497_2
       clear hi497_2 hl497_2
       have HR497_3 := Aside0.mk hi497_3
       have HC497_3 := Aside0.mk hl497_3
       clear hi497_3 hl497_3
       replace p497 := eq_true p497
       replace q497 := eq_true q497
       have p498 : 0 ≤ (x5_1 : Int) := of_decide_eq_true y4
       have q498 : x5_1 < (l1.length : Int) := of_decide_eq_true y4
       obtain ⟨ad498, A498_1, c498_1, A498_2, c498_2, A498_3, c498_3, e498, hx498_0, hx498_1, hx498_2, hx498_3, hl498_1, hi498_1, hl498_2, hi498_2, hl498_3, hi498_3⟩ := at_T45 HR1.out x5_1 p498 q498
       have hw498_3 := hx498_3
       have hw498_2 := hx498_2
       have hw498_1 := hx498_1
       have hw498_0 := hx498_0
       cases e498
       replace hx498_0 := (HB.out.cell (World.block_lt_of_cell? w _ hx498_0)).trans hx498_0
       replace hx498_1 := (HB.out.cell (World.block_lt_of_cell? w _ hx498_1)).trans hx498_1
       replace hx498_2 := (HB.out.cell (World.block_lt_of_cell? w _ hx498_2)).trans hx498_2
       replace hx498_3 := (HB.out.cell (World.block_lt_of_cell? w _ hx498_3)).trans hx498_3
       have HR498_1 := Aside0.mk hi498_1
       have HC498_1 := Aside0.mk hl498_1
       clear hi498_1 hl498_1
       have HR498_2 := Aside0.mk hi498_2
       have HC498_2 := Aside0.mk hl498_2
       clear hi498_2 hl498_2
       have HR498_3 := Aside0.mk hi498_3
       have HC498_3 := Aside0.mk hl498_3
       clear hi498_3 hl498_3
       replace p498 := eq_true p498
       replace q498 := eq_true q498
       refine start_ (n := 10) (S := fun w' => w'.cell? (ad497.add ((x5_1).toNat * 4)) = some (.string ((rd_T45 l0 x5_1).f0)) ∧ w'.cell? ⟨(ad497.add ((x5_1).toNat * 4)).block, (ad497.add ((x5_1).toNat * 4)).off + 1, none⟩ = some (.slice A497_1 ((rd_T45 l0 x5_1).f1).length c497_1) ∧ w'.cell? ⟨(ad497.add ((x5_1).toNat * 4)).block, (ad497.add ((x5_1).toNat * 4)).off + 2, none⟩ = some (.slice A497_2 ((rd_T45 l0 x5_1).f2.f0).length c497_2) ∧ w'.cell? ⟨(ad497.add ((x5_1).toNat * 4)).block, (ad497.add ((x5_1).toNat * 4)).off + 3, none⟩ = some (.slice A497_3 ((rd_T45 l0 x5_1).f2.f1).length c497_3) ∧ w'.cell? (ad498.add ((x5_1).toNat * 4)) = some (.string ((rd_T45 l1 x5_1).f0)) ∧ w'.cell? ⟨(ad498.add ((x5_1).toNat * 4)).block, (ad498.add ((x5_1).toNat * 4)).off + 1, none⟩ = some (.slice A498_1 ((rd_T45 l1 x5_1).f1).length c498_1) ∧ w'.cell? ⟨(ad498.add ((x5_1).toNat * 4)).block, (ad498.add ((x5_1).toNat * 4)).off + 2, none⟩ = some (.slice A498_2 ((rd_T45 l1 x5_1).f2.f0).length c498_2) ∧ w'.cell? ⟨(ad498.add ((x5_1).toNat * 4)).block, (ad498.add ((x5_1).toNat * 4)).off + 3, none⟩ = some (.slice A498_3 ((rd_T45 l1 x5_1).f2.f1).length c498_3)) (ds := []) #[false, false, false, false, false, false, false, false, false, false] (by kernel_rfl) rfl rfl ⟨((HB.out.cell (World.block_lt_of_cell? w _ hw497_0)).trans hw497_0), ((HB.out.cell (World.block_lt_of_cell? w _ hw497_1)).trans hw497_1), ((HB.out.cell (World.block_lt_of_cell? w _ hw497_2)).trans hw497_2), ((HB.out.cell (World.block_lt_of_cell? w _ hw497_3)).trans hw497_3), ((HB.out.cell (World.block_lt_of_cell? w _ hw498_0)).trans hw498_0), ((HB.out.cell (World.block_lt_of_cell? w _ hw498_1)).trans hw498_1), ((HB.out.cell (World.block_lt_of_cell? w _ hw498_2)).trans hw498_2), ((HB.out.cell (World.block_lt_of_cell? w _ hw498_3)).trans hw498_3)⟩ (fun hHeld => ?_); refine with_tabW laws_eqPureS.tab6 laws_eqPureS.bits6 (fun HT_ HW_ => ?_)
       generalize wr.drew = w9 at HB HR497_1 HR497_2 HR497_3 HR498_1 HR498_2 HR498_3 hx497_0 hx497_1 hx497_2 hx497_3 hx498_0 hx498_1 hx498_2 hx498_3 hHeld ⊢
       refine zp 0 (some 17) HT_ ?_
       refine zp 1 (some 18) HT_ ?_
       refine zp 2 (some 19) HT_ ?_
       refine zp 4 (some 21) HT_ ?_
       refine zp 5 (some 22) HT_ ?_
       refine zp 6 (some 23) HT_ ?_
       refine zt8 3 (some 20) HT_ HW_ hHeld ?_
       refine zt8 7 (some 24) HT_ HW_ hHeld ?_
       refine one_ (i := 8) (N := some 25) #[true, true, true, true, true, true, true, true, true, false] rfl rfl (one_of HT_.out (by kernel_rfl)) (by decide) (fun K hK => ?_)
       refine goes_ Try.func26 (by kernel_rfl) rfl #[.agg #[.string ((rd_T45 l0 x5_1).f0), .slice A497_1 ((rd_T45 l0 x5_1).f1).length c497_1, .slice A497_2 ((rd_T45 l0 x5_1).f2.f0).length c497_2, .slice A497_3 ((rd_T45 l0 x5_1).f2.f1).length c497_3], .agg #[.string ((rd_T45 l1 x5_1).f0), .slice A498_1 ((rd_T45 l1 x5_1).f1).length c498_1, .slice A498_2 ((rd_T45 l1 x5_1).f2.f0).length c498_2, .slice A498_3 ((rd_T45 l1 x5_1).f2.f1).length c498_3]] (by rfl) rfl rfl y3 ?_
       with_reducible refine (laws_eqPure.calls k1 ((rd_T45 l0 x5_1).f0) _ _ ((rd_T45 l0 x5_1).f1) _ _ ((rd_T45 l0 x5_1).f2.f0) _ _ ((rd_T45 l0 x5_1).f2.f1) ((rd_T45 l1 x5_1).f0) _ _ ((rd_T45 l1 x5_1).f1) _ _ ((rd_T45 l1 x5_1).f2.f0) _ _ ((rd_T45 l1 x5_1).f2.f1) t499 _ ?side1 ?side2 ?side3 ?side4 ?side5 ?side6 ?side7 ?side8 ?side9 ?side10 ?side11 ?side12 A7.out).mono ?_
       (case side1 => exact y0 HR497_1.out HB.out)
       (case side2 => exact HC497_1.out)
       (case side3 => exact y0 HR497_2.out HB.out)
       (case side4 => exact HC497_2.out)
       (case side5 => exact y0 HR497_3.out HB.out)
       (case side6 => exact HC497_3.out)
       (case side7 => exact y0 HR498_1.out HB.out)
       (case side8 => exact HC498_1.out)
       (case side9 => exact y0 HR498_2.out HB.out)
       (case side10 => exact HC498_2.out)
       (case side11 => exact y0 HR498_3.out HB.out)
       (case side12 => exact HC498_3.out)
       rintro e w10 ⟨rfl, hb⟩
       refine ⟨_, rfl, ?_⟩
       replace HB := Aside0.mk (below_step (y1 HB.out) hb)
       (try clear hb)
       (try clear hb2)
       (try clear hk)
       (try clear hi)
       refine hK.out _ _ ⟨((HB.out.cell (World.block_lt_of_cell? w _ hw497_0)).trans hw497_0), ((HB.out.cell (World.block_lt_of_cell? w _ hw497_1)).trans hw497_1), ((HB.out.cell (World.block_lt_of_cell? w _ hw497_2)).trans hw497_2), ((HB.out.cell (World.block_lt_of_cell? w _ hw497_3)).trans hw497_3), ((HB.out.cell (World.block_lt_of_cell? w _ hw498_0)).trans hw498_0), ((HB.out.cell (World.block_lt_of_cell? w _ hw498_1)).trans hw498_1), ((HB.out.cell (World.block_lt_of_cell? w _ hw498_2)).trans hw498_2), ((HB.out.cell (World.block_lt_of_cell? w _ hw498_3)).trans hw498_3)⟩ (fun hHeld => ?_)
       clear hK K
       refine norm_ (a' := ?_) ?_ ?_
       rotate_left
       ·show Act.put _ (some 25) _ = _
        simp only [Act.put, List.setIfInBounds_toArray, List.set_cons_zero, List.set_cons_succ, i64_w, i32_w]
        rfl
       refine zp 9 (some 26) HT_ ?_
       refine done_ (done_of HT_.out (by kernel_rfl)) ?_
       have H := HZ8.out
       clear HZ8
       by_cases c11 : t499 = true
       ·subst c11
        rw [if_pos rfl] at H
        have H' := Aside0.mk H
        clear H
        go_wp2
        go_roundg k1
        case measure => have := HK1.out; omega
        case rel => exact ⟨(wrap64 (x5_1 + 1)), y7, H', ⟨(y30 HK1.out)⟩, ⟨(y1 HB.out)⟩⟩
       ·replace c11 := Bool.eq_false_iff.mpr c11
        subst c11
        rw [if_neg (show ¬ (false = true) by decide)] at H
        obtain rfl := Option.some.inj H
        go_wp2
        go_ret
        exact ⟨y6, (y1 HB.out)⟩
      ·rw [if_neg c6] at H
       exact absurd H (by simp)
     ·rw [if_neg c5] at H
      exact absurd H (by simp)
    ·rw [if_neg c4] at H
     have c4b0 : decide (x5_1 < (l0.length : Int)) = false := decide_eq_false c4
     clear c4
     obtain rfl := Option.some.inj H
     go_wp2
     go_ret
     exact ⟨y6, (y1 HB.out)⟩
 ·rw [if_neg c3] at H
  have c3b0 : ((l0.length : Int) == (l1.length : Int)) = false := beq_eq_false_iff_ne.mpr c3
  have c3b1 : ((l0.length : Int) != (l1.length : Int)) = true := bne_iff_ne.mpr c3
  have c3b2 : (l0.length == l1.length) = false := by first | simpa using c3 | (simp at c3 ⊢; omega)
  obtain rfl := Option.some.inj H
  go_enter Try.func10, Try.ntmps10
  go_wp2
  go_ret
  exact ⟨y6, (y1 HB.out)⟩
end Go.Proofs.Ytdgpegkgelciaaa.PA
end
section
namespace Go.Proofs.Ytdgpegkgelciaaa.PA
open Go.RowKit Go.Proofs.YtdgpegkgelciaaaW.PrintWords Go.Proofs.YtdgpegkgelciaaaW.PrintLast Go.Proofs.YtdgpegkgelciaaaW.PrintMore
attribute [local go_sem] max2_int min2_int max_two min_two max_three min_three max_four min_four
set_option linter.unusedVariables false
set_option linter.unusedSimpArgs false
def spec_l12Arity.l0 : Nat → List (S45) → Int → ByteArray → Int → Option (Int × Int × Bool)
 | 0, _, _, _, _ => none
 | k + 1, x0, x1, x2, x9 => if x9 < x1 then (if 0 ≤ x9 then (if x9 < (x0.length : Int) then (if ((rd_T45 x0 x9).f0).toList = x2.toList then (some ((((rd_T45 x0 x9).f1).length : Int), (((rd_T45 x0 x9).f2.f1).length : Int), true)) else (spec_l12Arity.l0 k x0 x1 x2 (wrap64 (x9 + 1)))) else (none)) else (none)) else (some (0, 0, false))
def spec_l12Arity.f (k : Nat) (l0 : List (S45)) (a1 : Int) (a2 : ByteArray) : Option (Int × Int × Bool) := spec_l12Arity.l0 k l0 a1 a2 0
theorem spec_l12Arity.mono_l : ∀ k, (∀ y0 y1 y2 y3, LeO (spec_l12Arity.l0 k y0 y1 y2 y3) (spec_l12Arity.l0 (k + 1) y0 y1 y2 y3))
 | 0 => fun _ _ _ _ r h => by simp [spec_l12Arity.l0] at h
 | k + 1 => by
  have ih0 := spec_l12Arity.mono_l k
  ·intro y0 y1 y2 y3
   unfold spec_l12Arity.l0
   repeat' first
   | (with_reducible exact ih0 _ _ _ _)
   | (with_reducible exact LeO.refl _)
   | (with_reducible exact LeO.none _)
   | (with_reducible refine LeO.ite ?_ ?_)
   | (with_reducible refine LeO.bind ?_ (fun _ => ?_))
   | exact ih0 _ _ _ _
   | exact LeO.none _
   | refine LeO.ite ?_ ?_
   | refine LeO.bind ?_ (fun _ => ?_)
theorem spec_l12Arity.mono : ∀ a0 a1 a2 k, LeO (spec_l12Arity.f k a0 a1 a2) (spec_l12Arity.f (k + 1) a0 a1 a2) := by
 intro a0 a1 a2 k
 have ih0 := spec_l12Arity.mono_l k
 unfold spec_l12Arity.f
 repeat' first
   | (with_reducible exact ih0 _ _ _ _)
   | (with_reducible exact LeO.refl _)
   | (with_reducible exact LeO.none _)
   | (with_reducible refine LeO.ite ?_ ?_)
   | (with_reducible refine LeO.bind ?_ (fun _ => ?_))
   | exact ih0 _ _ _ _
   | exact LeO.none _
   | refine LeO.ite ?_ ?_
   | refine LeO.bind ?_ (fun _ => ?_)
set_option maxHeartbeats 8000000 in
set_option maxRecDepth 100000 in
theorem spec_l12Arity.calls (k : Nat) (A0 : Option Addr) (c0 : Nat) (l0 : List (S45)) (a1 : Int) (a2 : ByteArray) (r1 : Int) (r2 : Int) (r3 : Bool) (w : World) (hr0 : Kd.C k45 w A0 l0.length l0) (hc0 : l0.length ≤ c0) (h : spec_l12Arity.f k l0 a1 a2 = some (r1, r2, r3)) :
  Calls Try.prog 16 #[.slice A0 l0.length c0, .int .i64 a1, .string a2] w fun e w' => e = .returned (.tuple #[.int .i64 r1, .int .i64 r2, .bool r3]) ∧ Drawn0 w w' := by
 have HR0 := Aside0.mk hr0
 have HC0 := Aside0.mk hc0
 clear hr0 hc0
 have H : (spec_l12Arity.l0 k l0 a1 a2 0) = some (r1, r2, r3) := h
 clear h
 have H' := Aside0.mk H
 clear H
 go_enter Try.func16, Try.ntmps16
 go_wp2
 repeat (go_quiet (fail); try go_wp2)
 go_loopg [9] k (fun kq v9 w' => ∃ (x9_1 : Int), v9 = .int .i64 x9_1 ∧ Aside0 (spec_l12Arity.l0 kq l0 a1 a2 x9_1 = some (r1, r2, r3)) ∧ Aside0 (kq ≤ k) ∧ Drawn0 w w')
 case atStart => exact ⟨(0), y7, H', ⟨Nat.le_refl _⟩, y12⟩
 case round =>
  clear H'
  try clear c1
  try clear p2
  obtain ⟨x9_1, rfl, HA, HK1, ⟨m1, rfl⟩⟩ := hrel
  cases gk with
  | zero => exact absurd HA.out (by simp [spec_l12Arity.l0])
  | succ k1 =>
   have H := HA.out
   clear HA
   simp only [spec_l12Arity.l0] at H
   by_cases c4 : x9_1 < a1
   ·rw [if_pos c4] at H
    have c4b0 : decide (x9_1 < a1) = true := decide_eq_true c4
    clear c4
    by_cases c5 : 0 ≤ x9_1
    ·rw [if_pos c5] at H
     have c5b0 : decide (0 ≤ x9_1) = true := decide_eq_true c5
     clear c5
     by_cases c6 : x9_1 < (l0.length : Int)
     ·rw [if_pos c6] at H
      have c6b0 : decide (x9_1 < (l0.length : Int)) = true := decide_eq_true c6
      clear c6
      by_cases c7 : ((rd_T45 l0 x9_1).f0).toList = a2.toList
      ·rw [if_pos c7] at H
       have c7b0 : (((rd_T45 l0 x9_1).f0).toList == a2.toList) = true := beq_iff_eq.mpr c7
       have c7b1 : (((rd_T45 l0 x9_1).f0).toList != a2.toList) = false := bne_eq_false_iff_eq.mpr c7
       clear c7
       simp only [Option.some.injEq, Prod.mk.injEq] at H
       obtain ⟨rfl, rfl, rfl⟩ := H
       have p137 : 0 ≤ (x9_1 : Int) := of_decide_eq_true y4
       have q137 : x9_1 < (l0.length : Int) := of_decide_eq_true y4
       obtain ⟨ad137, A137_1, c137_1, A137_2, c137_2, A137_3, c137_3, e137, hx137_0, hx137_1, hx137_2, hx137_3, hl137_1, hi137_1, hl137_2, hi137_2, hl137_3, hi137_3⟩ := at_T45 HR0.out x9_1 p137 q137
       cases e137
       have HR137_1 := Aside0.mk hi137_1
       have HC137_1 := Aside0.mk hl137_1
       clear hi137_1 hl137_1
       have HR137_2 := Aside0.mk hi137_2
       have HC137_2 := Aside0.mk hl137_2
       clear hi137_2 hl137_2
       have HR137_3 := Aside0.mk hi137_3
       have HC137_3 := Aside0.mk hl137_3
       clear hi137_3 hl137_3
       replace p137 := eq_true p137
       replace q137 := eq_true q137
       have p138 : 0 ≤ (x9_1 : Int) := of_decide_eq_true y4
       have q138 : x9_1 < (l0.length : Int) := of_decide_eq_true y4
       obtain ⟨ad138, A138_1, c138_1, A138_2, c138_2, A138_3, c138_3, e138, hx138_0, hx138_1, hx138_2, hx138_3, hl138_1, hi138_1, hl138_2, hi138_2, hl138_3, hi138_3⟩ := at_T45 HR0.out x9_1 p138 q138
       obtain rfl : ad137 = ad138 := (by injection e138)
       have HR138_1 := Aside0.mk hi138_1
       have HC138_1 := Aside0.mk hl138_1
       clear hi138_1 hl138_1
       have HR138_2 := Aside0.mk hi138_2
       have HC138_2 := Aside0.mk hl138_2
       clear hi138_2 hl138_2
       have HR138_3 := Aside0.mk hi138_3
       have HC138_3 := Aside0.mk hl138_3
       clear hi138_3 hl138_3
       replace p138 := eq_true p138
       replace q138 := eq_true q138
       have ea_ := Option.some.inj (hx137_1.symm.trans hx138_1)
       injection ea_ with ea_ en_ ec_
       subst ea_
       subst ec_
       clear en_
       have ea_ := Option.some.inj (hx137_2.symm.trans hx138_2)
       injection ea_ with ea_ en_ ec_
       subst ea_
       subst ec_
       clear en_
       have ea_ := Option.some.inj (hx137_3.symm.trans hx138_3)
       injection ea_ with ea_ en_ ec_
       subst ea_
       subst ec_
       clear en_
       have p139 : 0 ≤ (x9_1 : Int) := of_decide_eq_true y4
       have q139 : x9_1 < (l0.length : Int) := of_decide_eq_true y4
       obtain ⟨ad139, A139_1, c139_1, A139_2, c139_2, A139_3, c139_3, e139, hx139_0, hx139_1, hx139_2, hx139_3, hl139_1, hi139_1, hl139_2, hi139_2, hl139_3, hi139_3⟩ := at_T45 HR0.out x9_1 p139 q139
       obtain rfl : ad137 = ad139 := (by injection e139)
       have HR139_1 := Aside0.mk hi139_1
       have HC139_1 := Aside0.mk hl139_1
       clear hi139_1 hl139_1
       have HR139_2 := Aside0.mk hi139_2
       have HC139_2 := Aside0.mk hl139_2
       clear hi139_2 hl139_2
       have HR139_3 := Aside0.mk hi139_3
       have HC139_3 := Aside0.mk hl139_3
       clear hi139_3 hl139_3
       replace p139 := eq_true p139
       replace q139 := eq_true q139
       have ea_ := Option.some.inj (hx137_1.symm.trans hx139_1)
       injection ea_ with ea_ en_ ec_
       subst ea_
       subst ec_
       clear en_
       have ea_ := Option.some.inj (hx137_2.symm.trans hx139_2)
       injection ea_ with ea_ en_ ec_
       subst ea_
       subst ec_
       clear en_
       have ea_ := Option.some.inj (hx137_3.symm.trans hx139_3)
       injection ea_ with ea_ en_ ec_
       subst ea_
       subst ec_
       clear en_
       go_wp2
       repeat (go_quiet (fail); try go_wp2)
       go_ret3
       exact ⟨y7, y12⟩
      ·rw [if_neg c7] at H
       have c7b0 : (((rd_T45 l0 x9_1).f0).toList == a2.toList) = false := beq_eq_false_iff_ne.mpr c7
       have c7b1 : (((rd_T45 l0 x9_1).f0).toList != a2.toList) = true := bne_iff_ne.mpr c7
       have H' := Aside0.mk H
       clear H
       have p137 : 0 ≤ (x9_1 : Int) := of_decide_eq_true y4
       have q137 : x9_1 < (l0.length : Int) := of_decide_eq_true y4
       obtain ⟨ad137, A137_1, c137_1, A137_2, c137_2, A137_3, c137_3, e137, hx137_0, hx137_1, hx137_2, hx137_3, hl137_1, hi137_1, hl137_2, hi137_2, hl137_3, hi137_3⟩ := at_T45 HR0.out x9_1 p137 q137
       cases e137
       have HR137_1 := Aside0.mk hi137_1
       have HC137_1 := Aside0.mk hl137_1
       clear hi137_1 hl137_1
       have HR137_2 := Aside0.mk hi137_2
       have HC137_2 := Aside0.mk hl137_2
       clear hi137_2 hl137_2
       have HR137_3 := Aside0.mk hi137_3
       have HC137_3 := Aside0.mk hl137_3
       clear hi137_3 hl137_3
       replace p137 := eq_true p137
       replace q137 := eq_true q137
       go_wp2
       repeat (go_quiet (fail); try go_wp2)
       go_roundg k1
       case measure => have := HK1.out; omega
       case rel => exact ⟨(wrap64 (x9_1 + 1)), y7, H', ⟨(y30 HK1.out)⟩, y12⟩
     ·rw [if_neg c6] at H
      exact absurd H (by simp)
    ·rw [if_neg c5] at H
     exact absurd H (by simp)
   ·rw [if_neg c4] at H
    have c4b0 : decide (x9_1 < a1) = false := decide_eq_false c4
    clear c4
    simp only [Option.some.injEq, Prod.mk.injEq] at H
    obtain ⟨rfl, rfl, rfl⟩ := H
    go_wp2
    repeat (go_quiet (fail); try go_wp2)
    go_ret3
    exact ⟨y7, y12⟩
end Go.Proofs.Ytdgpegkgelciaaa.PA
end
section
namespace Go.Proofs.Ytdgpegkgelciaaa.PA
open Go.RowKit Go.Proofs.YtdgpegkgelciaaaW.PrintWords Go.Proofs.YtdgpegkgelciaaaW.PrintLast Go.Proofs.YtdgpegkgelciaaaW.PrintMore
attribute [local go_sem] max2_int min2_int max_two min_two max_three min_three max_four min_four
set_option linter.unusedVariables false
set_option linter.unusedSimpArgs false
mutual
def spec_l12Word.j0 : Nat → ByteArray → Bool → Option (Bool)
 | 0, _, _ => none
 | k + 1, x0, x12 => if x12 = true then (some false) else (spec_l12Word.l0 k x0 0)
def spec_l12Word.l0 : Nat → ByteArray → Int → Option (Bool)
 | 0, _, _ => none
 | k + 1, x0, x3 => if x3 < (x0.size : Int) then (if 0 ≤ x3 then (if (bt x0 x3) < 97 then (if (bt x0 x3) < 65 then (if (bt x0 x3) < 48 then (if (bt x0 x3) = 95 then (spec_l12Word.l0 k x0 (wrap64 (x3 + 1))) else (some false)) else (if (bt x0 x3) > 57 then (if (bt x0 x3) = 95 then (spec_l12Word.l0 k x0 (wrap64 (x3 + 1))) else (some false)) else (spec_l12Word.l0 k x0 (wrap64 (x3 + 1))))) else (if (bt x0 x3) > 90 then (if (bt x0 x3) < 48 then (if (bt x0 x3) = 95 then (spec_l12Word.l0 k x0 (wrap64 (x3 + 1))) else (some false)) else (if (bt x0 x3) > 57 then (if (bt x0 x3) = 95 then (spec_l12Word.l0 k x0 (wrap64 (x3 + 1))) else (some false)) else (spec_l12Word.l0 k x0 (wrap64 (x3 + 1))))) else (spec_l12Word.l0 k x0 (wrap64 (x3 + 1))))) else (if (bt x0 x3) > 122 then (if (bt x0 x3) < 65 then (if (bt x0 x3) < 48 then (if (bt x0 x3) = 95 then (spec_l12Word.l0 k x0 (wrap64 (x3 + 1))) else (some false)) else (if (bt x0 x3) > 57 then (if (bt x0 x3) = 95 then (spec_l12Word.l0 k x0 (wrap64 (x3 + 1))) else (some false)) else (spec_l12Word.l0 k x0 (wrap64 (x3 + 1))))) else (if (bt x0 x3) > 90 then (if (bt x0 x3) < 48 then (if (bt x0 x3) = 95 then (spec_l12Word.l0 k x0 (wrap64 (x3 + 1))) else (some false)) else (if (bt x0 x3) > 57 then (if (bt x0 x3) = 95 then (spec_l12Word.l0 k x0 (wrap64 (x3 + 1))) else (some false)) else (spec_l12Word.l0 k x0 (wrap64 (x3 + 1))))) else (spec_l12Word.l0 k x0 (wrap64 (x3 + 1))))) else (spec_l12Word.l0 k x0 (wrap64 (x3 + 1))))) else (none)) else (some true)
end
def spec_l12Word.f (k : Nat) (a0 : ByteArray) : Option (Bool) := if (a0.size : Int) < 1 then (spec_l12Word.j0 k a0 true) else (spec_l12Word.j0 k a0 (decide ((a0.size : Int) > 12)))
theorem spec_l12Word.mono_l : ∀ k, (∀ y0 y1, LeO (spec_l12Word.j0 k y0 y1) (spec_l12Word.j0 (k + 1) y0 y1)) ∧ (∀ y0 y1, LeO (spec_l12Word.l0 k y0 y1) (spec_l12Word.l0 (k + 1) y0 y1))
 | 0 => ⟨fun _ _ r h => by simp [spec_l12Word.j0] at h, fun _ _ r h => by simp [spec_l12Word.l0] at h⟩
 | k + 1 => by
  obtain ⟨ih0, ih1⟩ := spec_l12Word.mono_l k
  refine ⟨?_, ?_⟩
  ·intro y0 y1
   unfold spec_l12Word.j0
   repeat' first
   | (with_reducible exact ih0 _ _)
   | (with_reducible exact ih1 _ _)
   | (with_reducible exact LeO.refl _)
   | (with_reducible exact LeO.none _)
   | (with_reducible refine LeO.ite ?_ ?_)
   | (with_reducible refine LeO.bind ?_ (fun _ => ?_))
   | exact ih0 _ _
   | exact ih1 _ _
   | exact LeO.none _
   | refine LeO.ite ?_ ?_
   | refine LeO.bind ?_ (fun _ => ?_)
  ·intro y0 y1
   unfold spec_l12Word.l0
   repeat' first
   | (with_reducible exact ih0 _ _)
   | (with_reducible exact ih1 _ _)
   | (with_reducible exact LeO.refl _)
   | (with_reducible exact LeO.none _)
   | (with_reducible refine LeO.ite ?_ ?_)
   | (with_reducible refine LeO.bind ?_ (fun _ => ?_))
   | exact ih0 _ _
   | exact ih1 _ _
   | exact LeO.none _
   | refine LeO.ite ?_ ?_
   | refine LeO.bind ?_ (fun _ => ?_)
theorem spec_l12Word.mono : ∀ a0 k, LeO (spec_l12Word.f k a0) (spec_l12Word.f (k + 1) a0) := by
 intro a0 k
 obtain ⟨ih0, ih1⟩ := spec_l12Word.mono_l k
 unfold spec_l12Word.f
 repeat' first
   | (with_reducible exact ih0 _ _)
   | (with_reducible exact ih1 _ _)
   | (with_reducible exact LeO.refl _)
   | (with_reducible exact LeO.none _)
   | (with_reducible refine LeO.ite ?_ ?_)
   | (with_reducible refine LeO.bind ?_ (fun _ => ?_))
   | exact ih0 _ _
   | exact ih1 _ _
   | exact LeO.none _
   | refine LeO.ite ?_ ?_
   | refine LeO.bind ?_ (fun _ => ?_)
set_option maxHeartbeats 8000000 in
set_option maxRecDepth 100000 in
theorem spec_l12Word.calls (k : Nat) (a0 : ByteArray) (r : Bool) (w : World) (h : spec_l12Word.f k a0 = some r) :
  Calls Try.prog 17 #[.string a0] w fun e w' => e = .returned (.bool r) ∧ Drawn0 w w' := by
 have H : (if (a0.size : Int) < 1 then (spec_l12Word.j0 k a0 true) else (spec_l12Word.j0 k a0 (decide ((a0.size : Int) > 12)))) = some r := h
 clear h
 have HC2 := Aside0.mk H
 clear H
 go_enter Try.func17, Try.ntmps17
 go_upto_region 1 with (fail)
 go_cut [12] (fun v12 wc => ∃ (kq : Nat) (x12_1 : Bool), v12 = .bool x12_1 ∧ Aside0 (spec_l12Word.j0 kq a0 x12_1 = some r) ∧ Aside0 (kq ≤ k) ∧ Drawn0 w wc)
 case first =>
  have H := HC2.out
  clear HC2
  by_cases c3 : (a0.size : Int) < 1
  ·rw [if_pos c3] at H
   have c3b0 : decide ((a0.size : Int) < 1) = true := decide_eq_true c3
   have c3b1 : decide (a0.size < 1) = true := decide_eq_true (by omega)
   clear c3
   (first | rw [c3b0] | (simp only [i64_w, i32_w]; rw [c3b0]) | skip)
   have H' := Aside0.mk H
   clear H
   go_wp2
   go_meet
   case rel => exact ⟨_, (true), y7, H', ⟨y33⟩, y12⟩
  ·rw [if_neg c3] at H
   have c3b0 : decide ((a0.size : Int) < 1) = false := decide_eq_false c3
   have c3b1 : decide (a0.size < 1) = false := decide_eq_false (by omega)
   clear c3
   (first | rw [c3b0] | (simp only [i64_w, i32_w]; rw [c3b0]) | skip)
   have H' := Aside0.mk H
   clear H
   go_wp2
   go_meet
   case rel => exact ⟨_, (decide ((a0.size : Int) > 12)), y7, H', ⟨y33⟩, y12⟩
 case rest =>
  clear HC2
  try clear c1
  try clear p2
  try clear c3
  try clear c3b0
  try clear c3b1
  obtain ⟨kq, x12_1, rfl, HA, HJ1, ⟨mc1, rfl⟩⟩ := hcut
  cases kq with
  | zero => exact absurd HA.out (by simp [spec_l12Word.j0])
  | succ kj1 =>
   have H := HA.out
   clear HA
   simp only [spec_l12Word.j0] at H
   by_cases c4 : x12_1 = true
   ·subst c4
    rw [if_pos rfl] at H
    obtain rfl := Option.some.inj H
    go_wp2
    go_ret
    exact ⟨y7, y12⟩
   ·replace c4 := Bool.eq_false_iff.mpr c4
    subst c4
    rw [if_neg (show ¬ (false = true) by decide)] at H
    have H' := Aside0.mk H
    clear H
    go_wp2
    go_loopg [3] kj1 (fun kq v3 w' => ∃ (x3_2 : Int), v3 = .int .i64 x3_2 ∧ Aside0 (spec_l12Word.l0 kq a0 x3_2 = some r) ∧ Aside0 (kq ≤ kj1) ∧ Drawn0 w w')
    case atStart => exact ⟨(0), y7, H', ⟨Nat.le_refl _⟩, y12⟩
    case round =>
     clear H'
     try clear c1
     try clear p2
     try clear c3
     try clear c3b0
     try clear c3b1
     try clear c4
     try clear p2
     obtain ⟨x3_2, rfl, HA, HK2, ⟨m2, rfl⟩⟩ := hrel
     cases gk with
     | zero => exact absurd HA.out (by simp [spec_l12Word.l0])
     | succ k2 =>
      have H := HA.out
      clear HA
      simp only [spec_l12Word.l0] at H
      by_cases c5 : x3_2 < (a0.size : Int)
      ·rw [if_pos c5] at H
       have c5b0 : decide (x3_2 < (a0.size : Int)) = true := decide_eq_true c5
       clear c5
       by_cases c6 : 0 ≤ x3_2
       ·rw [if_pos c6] at H
        have c6b0 : decide (0 ≤ x3_2) = true := decide_eq_true c6
        clear c6
        by_cases c8 : (bt a0 x3_2) < 97
        ·rw [if_pos c8] at H
         have c8b0 : decide ((bt a0 x3_2) < 97) = true := decide_eq_true c8
         clear c8
         by_cases c9 : (bt a0 x3_2) < 65
         ·rw [if_pos c9] at H
          have c9b0 : decide ((bt a0 x3_2) < 65) = true := decide_eq_true c9
          clear c9
          by_cases c10 : (bt a0 x3_2) < 48
          ·rw [if_pos c10] at H
           have c10b0 : decide ((bt a0 x3_2) < 48) = true := decide_eq_true c10
           clear c10
           by_cases c11 : (bt a0 x3_2) = 95
           ·rw [if_pos c11] at H
            have c11b0 : ((bt a0 x3_2) == 95) = true := beq_iff_eq.mpr c11
            have c11b1 : ((bt a0 x3_2) != 95) = false := bne_eq_false_iff_eq.mpr c11
            clear c11
            have H' := Aside0.mk H
            clear H
            have p7 : 0 ≤ (x3_2 : Int) := of_decide_eq_true y4
            have q7 : x3_2 < (a0.size : Int) := of_decide_eq_true y4
            have hx7 := bt_at a0 x3_2
            replace p7 := eq_true p7
            replace q7 := eq_true q7
            go_wp2
            go_roundg k2
            case measure => have := HJ1.out; have := HK2.out; omega
            case rel => exact ⟨(wrap64 (x3_2 + 1)), y7, H', ⟨(y25 HJ1.out HK2.out)⟩, y12⟩
           ·rw [if_neg c11] at H
            have c11b0 : ((bt a0 x3_2) == 95) = false := beq_eq_false_iff_ne.mpr c11
            have c11b1 : ((bt a0 x3_2) != 95) = true := bne_iff_ne.mpr c11
            obtain rfl := Option.some.inj H
            have p7 : 0 ≤ (x3_2 : Int) := of_decide_eq_true y4
            have q7 : x3_2 < (a0.size : Int) := of_decide_eq_true y4
            have hx7 := bt_at a0 x3_2
            replace p7 := eq_true p7
            replace q7 := eq_true q7
            go_wp2
            go_ret
            exact ⟨y7, y12⟩
          ·rw [if_neg c10] at H
           have c10b0 : decide ((bt a0 x3_2) < 48) = false := decide_eq_false c10
           clear c10
           by_cases c12 : (bt a0 x3_2) > 57
           ·rw [if_pos c12] at H
            have c12b0 : decide (57 < (bt a0 x3_2)) = true := decide_eq_true c12
            clear c12
            by_cases c13 : (bt a0 x3_2) = 95
            ·rw [if_pos c13] at H
             have c13b0 : ((bt a0 x3_2) == 95) = true := beq_iff_eq.mpr c13
             have c13b1 : ((bt a0 x3_2) != 95) = false := bne_eq_false_iff_eq.mpr c13
             clear c13
             have H' := Aside0.mk H
             clear H
             have p7 : 0 ≤ (x3_2 : Int) := of_decide_eq_true y4
             have q7 : x3_2 < (a0.size : Int) := of_decide_eq_true y4
             have hx7 := bt_at a0 x3_2
             replace p7 := eq_true p7
             replace q7 := eq_true q7
             go_wp2
             go_roundg k2
             case measure => have := HJ1.out; have := HK2.out; omega
             case rel => exact ⟨(wrap64 (x3_2 + 1)), y7, H', ⟨(y25 HJ1.out HK2.out)⟩, y12⟩
            ·rw [if_neg c13] at H
             have c13b0 : ((bt a0 x3_2) == 95) = false := beq_eq_false_iff_ne.mpr c13
             have c13b1 : ((bt a0 x3_2) != 95) = true := bne_iff_ne.mpr c13
             obtain rfl := Option.some.inj H
             have p7 : 0 ≤ (x3_2 : Int) := of_decide_eq_true y4
             have q7 : x3_2 < (a0.size : Int) := of_decide_eq_true y4
             have hx7 := bt_at a0 x3_2
             replace p7 := eq_true p7
             replace q7 := eq_true q7
             go_wp2
             go_ret
             exact ⟨y7, y12⟩
           ·rw [if_neg c12] at H
            have c12b0 : decide (57 < (bt a0 x3_2)) = false := decide_eq_false c12
            clear c12
            have H' := Aside0.mk H
            clear H
            have p7 : 0 ≤ (x3_2 : Int) := of_decide_eq_true y4
            have q7 : x3_2 < (a0.size : Int) := of_decide_eq_true y4
            have hx7 := bt_at a0 x3_2
            replace p7 := eq_true p7
            replace q7 := eq_true q7
            go_wp2
            go_roundg k2
            case measure => have := HJ1.out; have := HK2.out; omega
            case rel => exact ⟨(wrap64 (x3_2 + 1)), y7, H', ⟨(y25 HJ1.out HK2.out)⟩, y12⟩
         ·rw [if_neg c9] at H
          have c9b0 : decide ((bt a0 x3_2) < 65) = false := decide_eq_false c9
          clear c9
          by_cases c14 : (bt a0 x3_2) > 90
          ·rw [if_pos c14] at H
           have c14b0 : decide (90 < (bt a0 x3_2)) = true := decide_eq_true c14
           clear c14
           by_cases c15 : (bt a0 x3_2) < 48
           ·rw [if_pos c15] at H
            have c15b0 : decide ((bt a0 x3_2) < 48) = true := decide_eq_true c15
            clear c15
            by_cases c16 : (bt a0 x3_2) = 95
            ·rw [if_pos c16] at H
             have c16b0 : ((bt a0 x3_2) == 95) = true := beq_iff_eq.mpr c16
             have c16b1 : ((bt a0 x3_2) != 95) = false := bne_eq_false_iff_eq.mpr c16
             clear c16
             have H' := Aside0.mk H
             clear H
             have p7 : 0 ≤ (x3_2 : Int) := of_decide_eq_true y4
             have q7 : x3_2 < (a0.size : Int) := of_decide_eq_true y4
             have hx7 := bt_at a0 x3_2
             replace p7 := eq_true p7
             replace q7 := eq_true q7
             go_wp2
             go_roundg k2
             case measure => have := HJ1.out; have := HK2.out; omega
             case rel => exact ⟨(wrap64 (x3_2 + 1)), y7, H', ⟨(y25 HJ1.out HK2.out)⟩, y12⟩
            ·rw [if_neg c16] at H
             have c16b0 : ((bt a0 x3_2) == 95) = false := beq_eq_false_iff_ne.mpr c16
             have c16b1 : ((bt a0 x3_2) != 95) = true := bne_iff_ne.mpr c16
             obtain rfl := Option.some.inj H
             have p7 : 0 ≤ (x3_2 : Int) := of_decide_eq_true y4
             have q7 : x3_2 < (a0.size : Int) := of_decide_eq_true y4
             have hx7 := bt_at a0 x3_2
             replace p7 := eq_true p7
             replace q7 := eq_true q7
             go_wp2
             go_ret
             exact ⟨y7, y12⟩
           ·rw [if_neg c15] at H
            have c15b0 : decide ((bt a0 x3_2) < 48) = false := decide_eq_false c15
            clear c15
            by_cases c17 : (bt a0 x3_2) > 57
            ·rw [if_pos c17] at H
             have c17b0 : decide (57 < (bt a0 x3_2)) = true := decide_eq_true c17
             clear c17
             by_cases c18 : (bt a0 x3_2) = 95
             ·rw [if_pos c18] at H
              have c18b0 : ((bt a0 x3_2) == 95) = true := beq_iff_eq.mpr c18
              have c18b1 : ((bt a0 x3_2) != 95) = false := bne_eq_false_iff_eq.mpr c18
              clear c18
              have H' := Aside0.mk H
              clear H
              have p7 : 0 ≤ (x3_2 : Int) := of_decide_eq_true y4
              have q7 : x3_2 < (a0.size : Int) := of_decide_eq_true y4
              have hx7 := bt_at a0 x3_2
              replace p7 := eq_true p7
              replace q7 := eq_true q7
              go_wp2
              go_roundg k2
              case measure => have := HJ1.out; have := HK2.out; omega
              case rel => exact ⟨(wrap64 (x3_2 + 1)), y7, H', ⟨(y25 HJ1.out HK2.out)⟩, y12⟩
             ·rw [if_neg c18] at H
              have c18b0 : ((bt a0 x3_2) == 95) = false := beq_eq_false_iff_ne.mpr c18
              have c18b1 : ((bt a0 x3_2) != 95) = true := bne_iff_ne.mpr c18
              obtain rfl := Option.some.inj H
              have p7 : 0 ≤ (x3_2 : Int) := of_decide_eq_true y4
              have q7 : x3_2 < (a0.size : Int) := of_decide_eq_true y4
              have hx7 := bt_at a0 x3_2
              replace p7 := eq_true p7
              replace q7 := eq_true q7
              go_wp2
              go_ret
              exact ⟨y7, y12⟩
            ·rw [if_neg c17] at H
             have c17b0 : decide (57 < (bt a0 x3_2)) = false := decide_eq_false c17
             clear c17
             have H' := Aside0.mk H
             clear H
             have p7 : 0 ≤ (x3_2 : Int) := of_decide_eq_true y4
             have q7 : x3_2 < (a0.size : Int) := of_decide_eq_true y4
             have hx7 := bt_at a0 x3_2
             replace p7 := eq_true p7
             replace q7 := eq_true q7
             go_wp2
             go_roundg k2
             case measure => have := HJ1.out; have := HK2.out; omega
             case rel => exact ⟨(wrap64 (x3_2 + 1)), y7, H', ⟨(y25 HJ1.out HK2.out)⟩, y12⟩
          ·rw [if_neg c14] at H
           have c14b0 : decide (90 < (bt a0 x3_2)) = false := decide_eq_false c14
           clear c14
           have H' := Aside0.mk H
           clear H
           have p7 : 0 ≤ (x3_2 : Int) := of_decide_eq_true y4
           have q7 : x3_2 < (a0.size : Int) := of_decide_eq_true y4
           have hx7 := bt_at a0 x3_2
           replace p7 := eq_true p7
           replace q7 := eq_true q7
           go_wp2
           go_roundg k2
           case measure => have := HJ1.out; have := HK2.out; omega
           case rel => exact ⟨(wrap64 (x3_2 + 1)), y7, H', ⟨(y25 HJ1.out HK2.out)⟩, y12⟩
        ·rw [if_neg c8] at H
         have c8b0 : decide ((bt a0 x3_2) < 97) = false := decide_eq_false c8
         clear c8
         by_cases c19 : (bt a0 x3_2) > 122
         ·rw [if_pos c19] at H
          have c19b0 : decide (122 < (bt a0 x3_2)) = true := decide_eq_true c19
          clear c19
          by_cases c20 : (bt a0 x3_2) < 65
          ·rw [if_pos c20] at H
           have c20b0 : decide ((bt a0 x3_2) < 65) = true := decide_eq_true c20
           clear c20
           by_cases c21 : (bt a0 x3_2) < 48
           ·rw [if_pos c21] at H
            have c21b0 : decide ((bt a0 x3_2) < 48) = true := decide_eq_true c21
            clear c21
            by_cases c22 : (bt a0 x3_2) = 95
            ·rw [if_pos c22] at H
             have c22b0 : ((bt a0 x3_2) == 95) = true := beq_iff_eq.mpr c22
             have c22b1 : ((bt a0 x3_2) != 95) = false := bne_eq_false_iff_eq.mpr c22
             clear c22
             have H' := Aside0.mk H
             clear H
             have p7 : 0 ≤ (x3_2 : Int) := of_decide_eq_true y4
             have q7 : x3_2 < (a0.size : Int) := of_decide_eq_true y4
             have hx7 := bt_at a0 x3_2
             replace p7 := eq_true p7
             replace q7 := eq_true q7
             go_wp2
             go_roundg k2
             case measure => have := HJ1.out; have := HK2.out; omega
             case rel => exact ⟨(wrap64 (x3_2 + 1)), y7, H', ⟨(y25 HJ1.out HK2.out)⟩, y12⟩
            ·rw [if_neg c22] at H
             have c22b0 : ((bt a0 x3_2) == 95) = false := beq_eq_false_iff_ne.mpr c22
             have c22b1 : ((bt a0 x3_2) != 95) = true := bne_iff_ne.mpr c22
             obtain rfl := Option.some.inj H
             have p7 : 0 ≤ (x3_2 : Int) := of_decide_eq_true y4
             have q7 : x3_2 < (a0.size : Int) := of_decide_eq_true y4
             have hx7 := bt_at a0 x3_2
             replace p7 := eq_true p7
             replace q7 := eq_true q7
             go_wp2
             go_ret
             exact ⟨y7, y12⟩
           ·rw [if_neg c21] at H
            have c21b0 : decide ((bt a0 x3_2) < 48) = false := decide_eq_false c21
            clear c21
            by_cases c23 : (bt a0 x3_2) > 57
            ·rw [if_pos c23] at H
             have c23b0 : decide (57 < (bt a0 x3_2)) = true := decide_eq_true c23
             clear c23
             by_cases c24 : (bt a0 x3_2) = 95
             ·rw [if_pos c24] at H
              have c24b0 : ((bt a0 x3_2) == 95) = true := beq_iff_eq.mpr c24
              have c24b1 : ((bt a0 x3_2) != 95) = false := bne_eq_false_iff_eq.mpr c24
              clear c24
              have H' := Aside0.mk H
              clear H
              have p7 : 0 ≤ (x3_2 : Int) := of_decide_eq_true y4
              have q7 : x3_2 < (a0.size : Int) := of_decide_eq_true y4
              have hx7 := bt_at a0 x3_2
              replace p7 := eq_true p7
              replace q7 := eq_true q7
              go_wp2
              go_roundg k2
              case measure => have := HJ1.out; have := HK2.out; omega
              case rel => exact ⟨(wrap64 (x3_2 + 1)), y7, H', ⟨(y25 HJ1.out HK2.out)⟩, y12⟩
             ·rw [if_neg c24] at H
              have c24b0 : ((bt a0 x3_2) == 95) = false := beq_eq_false_iff_ne.mpr c24
              have c24b1 : ((bt a0 x3_2) != 95) = true := bne_iff_ne.mpr c24
              obtain rfl := Option.some.inj H
              have p7 : 0 ≤ (x3_2 : Int) := of_decide_eq_true y4
              have q7 : x3_2 < (a0.size : Int) := of_decide_eq_true y4
              have hx7 := bt_at a0 x3_2
              replace p7 := eq_true p7
              replace q7 := eq_true q7
              go_wp2
              go_ret
              exact ⟨y7, y12⟩
            ·rw [if_neg c23] at H
             have c23b0 : decide (57 < (bt a0 x3_2)) = false := decide_eq_false c23
             clear c23
             have H' := Aside0.mk H
             clear H
             have p7 : 0 ≤ (x3_2 : Int) := of_decide_eq_true y4
             have q7 : x3_2 < (a0.size : Int) := of_decide_eq_true y4
             have hx7 := bt_at a0 x3_2
             replace p7 := eq_true p7
             replace q7 := eq_true q7
             go_wp2
             go_roundg k2
             case measure => have := HJ1.out; have := HK2.out; omega
             case rel => exact ⟨(wrap64 (x3_2 + 1)), y7, H', ⟨(y25 HJ1.out HK2.out)⟩, y12⟩
          ·rw [if_neg c20] at H
           have c20b0 : decide ((bt a0 x3_2) < 65) = false := decide_eq_false c20
           clear c20
           by_cases c25 : (bt a0 x3_2) > 90
           ·rw [if_pos c25] at H
            have c25b0 : decide (90 < (bt a0 x3_2)) = true := decide_eq_true c25
            clear c25
            by_cases c26 : (bt a0 x3_2) < 48
            ·rw [if_pos c26] at H
             have c26b0 : decide ((bt a0 x3_2) < 48) = true := decide_eq_true c26
             clear c26
             by_cases c27 : (bt a0 x3_2) = 95
             ·rw [if_pos c27] at H
              have c27b0 : ((bt a0 x3_2) == 95) = true := beq_iff_eq.mpr c27
              have c27b1 : ((bt a0 x3_2) != 95) = false := bne_eq_false_iff_eq.mpr c27
              clear c27
              have H' := Aside0.mk H
              clear H
              have p7 : 0 ≤ (x3_2 : Int) := of_decide_eq_true y4
              have q7 : x3_2 < (a0.size : Int) := of_decide_eq_true y4
              have hx7 := bt_at a0 x3_2
              replace p7 := eq_true p7
              replace q7 := eq_true q7
              go_wp2
              go_roundg k2
              case measure => have := HJ1.out; have := HK2.out; omega
              case rel => exact ⟨(wrap64 (x3_2 + 1)), y7, H', ⟨(y25 HJ1.out HK2.out)⟩, y12⟩
             ·rw [if_neg c27] at H
              have c27b0 : ((bt a0 x3_2) == 95) = false := beq_eq_false_iff_ne.mpr c27
              have c27b1 : ((bt a0 x3_2) != 95) = true := bne_iff_ne.mpr c27
              obtain rfl := Option.some.inj H
              have p7 : 0 ≤ (x3_2 : Int) := of_decide_eq_true y4
              have q7 : x3_2 < (a0.size : Int) := of_decide_eq_true y4
              have hx7 := bt_at a0 x3_2
              replace p7 := eq_true p7
              replace q7 := eq_true q7
              go_wp2
              go_ret
              exact ⟨y7, y12⟩
            ·rw [if_neg c26] at H
             have c26b0 : decide ((bt a0 x3_2) < 48) = false := decide_eq_false c26
             clear c26
             by_cases c28 : (bt a0 x3_2) > 57
             ·rw [if_pos c28] at H
              have c28b0 : decide (57 < (bt a0 x3_2)) = true := decide_eq_true c28
              clear c28
              by_cases c29 : (bt a0 x3_2) = 95
              ·rw [if_pos c29] at H
               have c29b0 : ((bt a0 x3_2) == 95) = true := beq_iff_eq.mpr c29
               have c29b1 : ((bt a0 x3_2) != 95) = false := bne_eq_false_iff_eq.mpr c29
               clear c29
               have H' := Aside0.mk H
               clear H
               have p7 : 0 ≤ (x3_2 : Int) := of_decide_eq_true y4
               have q7 : x3_2 < (a0.size : Int) := of_decide_eq_true y4
               have hx7 := bt_at a0 x3_2
               replace p7 := eq_true p7
               replace q7 := eq_true q7
               go_wp2
               go_roundg k2
               case measure => have := HJ1.out; have := HK2.out; omega
               case rel => exact ⟨(wrap64 (x3_2 + 1)), y7, H', ⟨(y25 HJ1.out HK2.out)⟩, y12⟩
              ·rw [if_neg c29] at H
               have c29b0 : ((bt a0 x3_2) == 95) = false := beq_eq_false_iff_ne.mpr c29
               have c29b1 : ((bt a0 x3_2) != 95) = true := bne_iff_ne.mpr c29
               obtain rfl := Option.some.inj H
               have p7 : 0 ≤ (x3_2 : Int) := of_decide_eq_true y4
               have q7 : x3_2 < (a0.size : Int) := of_decide_eq_true y4
               have hx7 := bt_at a0 x3_2
               replace p7 := eq_true p7
               replace q7 := eq_true q7
               go_wp2
               go_ret
               exact ⟨y7, y12⟩
             ·rw [if_neg c28] at H
              have c28b0 : decide (57 < (bt a0 x3_2)) = false := decide_eq_false c28
              clear c28
              have H' := Aside0.mk H
              clear H
              have p7 : 0 ≤ (x3_2 : Int) := of_decide_eq_true y4
              have q7 : x3_2 < (a0.size : Int) := of_decide_eq_true y4
              have hx7 := bt_at a0 x3_2
              replace p7 := eq_true p7
              replace q7 := eq_true q7
              go_wp2
              go_roundg k2
              case measure => have := HJ1.out; have := HK2.out; omega
              case rel => exact ⟨(wrap64 (x3_2 + 1)), y7, H', ⟨(y25 HJ1.out HK2.out)⟩, y12⟩
           ·rw [if_neg c25] at H
            have c25b0 : decide (90 < (bt a0 x3_2)) = false := decide_eq_false c25
            clear c25
            have H' := Aside0.mk H
            clear H
            have p7 : 0 ≤ (x3_2 : Int) := of_decide_eq_true y4
            have q7 : x3_2 < (a0.size : Int) := of_decide_eq_true y4
            have hx7 := bt_at a0 x3_2
            replace p7 := eq_true p7
            replace q7 := eq_true q7
            go_wp2
            go_roundg k2
            case measure => have := HJ1.out; have := HK2.out; omega
            case rel => exact ⟨(wrap64 (x3_2 + 1)), y7, H', ⟨(y25 HJ1.out HK2.out)⟩, y12⟩
         ·rw [if_neg c19] at H
          have c19b0 : decide (122 < (bt a0 x3_2)) = false := decide_eq_false c19
          clear c19
          have H' := Aside0.mk H
          clear H
          have p7 : 0 ≤ (x3_2 : Int) := of_decide_eq_true y4
          have q7 : x3_2 < (a0.size : Int) := of_decide_eq_true y4
          have hx7 := bt_at a0 x3_2
          replace p7 := eq_true p7
          replace q7 := eq_true q7
          go_wp2
          go_roundg k2
          case measure => have := HJ1.out; have := HK2.out; omega
          case rel => exact ⟨(wrap64 (x3_2 + 1)), y7, H', ⟨(y25 HJ1.out HK2.out)⟩, y12⟩
       ·rw [if_neg c6] at H
        exact absurd H (by simp)
      ·rw [if_neg c5] at H
       have c5b0 : decide (x3_2 < (a0.size : Int)) = false := decide_eq_false c5
       clear c5
       obtain rfl := Option.some.inj H
       go_wp2
       go_ret
       exact ⟨y7, y12⟩
end Go.Proofs.Ytdgpegkgelciaaa.PA
end
section
namespace Go.Proofs.Ytdgpegkgelciaaa.PA
open Go.RowKit Go.Proofs.YtdgpegkgelciaaaW.PrintWords Go.Proofs.YtdgpegkgelciaaaW.PrintLast Go.Proofs.YtdgpegkgelciaaaW.PrintMore
attribute [local go_sem] max2_int min2_int max_two min_two max_three min_three max_four min_four
set_option linter.unusedVariables false
set_option linter.unusedSimpArgs false
def spec_l12Has.l0 : Nat → List ByteArray → ByteArray → Int → Option (Bool)
 | 0, _, _, _ => none
 | k + 1, x0, x1, x5 => if x5 < (x0.length : Int) then (if 0 ≤ x5 then (if (rdOf ByteArray.empty x0 x5).toList = x1.toList then (some true) else (spec_l12Has.l0 k x0 x1 (wrap64 (x5 + 1)))) else (none)) else (some false)
def spec_l12Has.f (k : Nat) (l0 : List ByteArray) (a1 : ByteArray) : Option (Bool) := spec_l12Has.l0 k l0 a1 0
theorem spec_l12Has.mono_l : ∀ k, (∀ y0 y1 y2, LeO (spec_l12Has.l0 k y0 y1 y2) (spec_l12Has.l0 (k + 1) y0 y1 y2))
 | 0 => fun _ _ _ r h => by simp [spec_l12Has.l0] at h
 | k + 1 => by
  have ih0 := spec_l12Has.mono_l k
  ·intro y0 y1 y2
   unfold spec_l12Has.l0
   repeat' first
   | (with_reducible exact ih0 _ _ _)
   | (with_reducible exact LeO.refl _)
   | (with_reducible exact LeO.none _)
   | (with_reducible refine LeO.ite ?_ ?_)
   | (with_reducible refine LeO.bind ?_ (fun _ => ?_))
   | exact ih0 _ _ _
   | exact LeO.none _
   | refine LeO.ite ?_ ?_
   | refine LeO.bind ?_ (fun _ => ?_)
theorem spec_l12Has.mono : ∀ a0 a1 k, LeO (spec_l12Has.f k a0 a1) (spec_l12Has.f (k + 1) a0 a1) := by
 intro a0 a1 k
 have ih0 := spec_l12Has.mono_l k
 unfold spec_l12Has.f
 repeat' first
   | (with_reducible exact ih0 _ _ _)
   | (with_reducible exact LeO.refl _)
   | (with_reducible exact LeO.none _)
   | (with_reducible refine LeO.ite ?_ ?_)
   | (with_reducible refine LeO.bind ?_ (fun _ => ?_))
   | exact ih0 _ _ _
   | exact LeO.none _
   | refine LeO.ite ?_ ?_
   | refine LeO.bind ?_ (fun _ => ?_)
set_option maxHeartbeats 8000000 in
set_option maxRecDepth 100000 in
theorem spec_l12Has.calls (k : Nat) (A0 : Option Addr) (c0 : Nat) (l0 : List ByteArray) (a1 : ByteArray) (r : Bool) (w : World) (hr0 : Kd.C Kd.string w A0 l0.length l0) (hc0 : l0.length ≤ c0) (h : spec_l12Has.f k l0 a1 = some r) :
  Calls Try.prog 19 #[.slice A0 l0.length c0, .string a1] w fun e w' => e = .returned (.bool r) ∧ Drawn0 w w' := by
 have HR0 := Aside0.mk hr0
 have HC0 := Aside0.mk hc0
 clear hr0 hc0
 have H : (spec_l12Has.l0 k l0 a1 0) = some r := h
 clear h
 have H' := Aside0.mk H
 clear H
 go_enter Try.func19, Try.ntmps19
 go_wp2
 go_loopg [5] k (fun kq v5 w' => ∃ (x5_1 : Int), v5 = .int .i64 x5_1 ∧ Aside0 (spec_l12Has.l0 kq l0 a1 x5_1 = some r) ∧ Aside0 (kq ≤ k) ∧ Drawn0 w w')
 case atStart => exact ⟨(0), y7, H', ⟨Nat.le_refl _⟩, y12⟩
 case round =>
  clear H'
  try clear c1
  try clear p2
  obtain ⟨x5_1, rfl, HA, HK1, ⟨m1, rfl⟩⟩ := hrel
  cases gk with
  | zero => exact absurd HA.out (by simp [spec_l12Has.l0])
  | succ k1 =>
   have H := HA.out
   clear HA
   simp only [spec_l12Has.l0] at H
   by_cases c3 : x5_1 < (l0.length : Int)
   ·rw [if_pos c3] at H
    have c3b0 : decide (x5_1 < (l0.length : Int)) = true := decide_eq_true c3
    clear c3
    by_cases c4 : 0 ≤ x5_1
    ·rw [if_pos c4] at H
     have c4b0 : decide (0 ≤ x5_1) = true := decide_eq_true c4
     clear c4
     by_cases c5 : (rdOf ByteArray.empty l0 x5_1).toList = a1.toList
     ·rw [if_pos c5] at H
      have c5b0 : ((rdOf ByteArray.empty l0 x5_1).toList == a1.toList) = true := beq_iff_eq.mpr c5
      have c5b1 : ((rdOf ByteArray.empty l0 x5_1).toList != a1.toList) = false := bne_eq_false_iff_eq.mpr c5
      clear c5
      obtain rfl := Option.some.inj H
      have p140 : 0 ≤ (x5_1 : Int) := of_decide_eq_true y4
      have q140 : x5_1 < (l0.length : Int) := of_decide_eq_true y4
      obtain ⟨ad140, e140, hx140_0⟩ := Kd.at_string HR0.out x5_1 p140 q140
      cases e140
      replace p140 := eq_true p140
      replace q140 := eq_true q140
      go_wp2
      go_ret
      exact ⟨y7, y12⟩
     ·rw [if_neg c5] at H
      have c5b0 : ((rdOf ByteArray.empty l0 x5_1).toList == a1.toList) = false := beq_eq_false_iff_ne.mpr c5
      have c5b1 : ((rdOf ByteArray.empty l0 x5_1).toList != a1.toList) = true := bne_iff_ne.mpr c5
      have H' := Aside0.mk H
      clear H
      have p140 : 0 ≤ (x5_1 : Int) := of_decide_eq_true y4
      have q140 : x5_1 < (l0.length : Int) := of_decide_eq_true y4
      obtain ⟨ad140, e140, hx140_0⟩ := Kd.at_string HR0.out x5_1 p140 q140
      cases e140
      replace p140 := eq_true p140
      replace q140 := eq_true q140
      go_wp2
      go_roundg k1
      case measure => have := HK1.out; omega
      case rel => exact ⟨(wrap64 (x5_1 + 1)), y7, H', ⟨(y30 HK1.out)⟩, y12⟩
    ·rw [if_neg c4] at H
     exact absurd H (by simp)
   ·rw [if_neg c3] at H
    have c3b0 : decide (x5_1 < (l0.length : Int)) = false := decide_eq_false c3
    clear c3
    obtain rfl := Option.some.inj H
    go_wp2
    go_ret
    exact ⟨y7, y12⟩
end Go.Proofs.Ytdgpegkgelciaaa.PA
end
section
namespace Go.Proofs.Ytdgpegkgelciaaa.PA
open Go.RowKit Go.Proofs.YtdgpegkgelciaaaW.PrintWords Go.Proofs.YtdgpegkgelciaaaW.PrintLast Go.Proofs.YtdgpegkgelciaaaW.PrintMore
attribute [local go_sem] max2_int min2_int max_two min_two max_three min_three max_four min_four
set_option linter.unusedVariables false
set_option linter.unusedSimpArgs false
def spec_l6In.f (a0 : Int) (a1 : Int) (a2 : Int) : Option (Bool) := if a0 ≥ a1 then (some (decide (a0 ≤ a2))) else (some false)
set_option maxHeartbeats 8000000 in
set_option maxRecDepth 100000 in
theorem spec_l6In.calls (a0 : Int) (a1 : Int) (a2 : Int) (r : Bool) (w : World) (h : spec_l6In.f a0 a1 a2 = some r) :
  Calls Try.prog 61 #[.int .i64 a0, .int .i64 a1, .int .i64 a2] w fun e w' => e = .returned (.bool r) ∧ Drawn0 w w' := by
 have H : (if a0 ≥ a1 then (some (decide (a0 ≤ a2))) else (some false)) = some r := h
 clear h
 by_cases c4 : a0 ≥ a1
 ·rw [if_pos c4] at H
  have c4b0 : decide (a1 ≤ a0) = true := decide_eq_true c4
  clear c4
  obtain rfl := Option.some.inj H
  go_enter Try.func61, Try.ntmps61
  go_wp2
  go_ret
  exact ⟨y7, y12⟩
 ·rw [if_neg c4] at H
  have c4b0 : decide (a1 ≤ a0) = false := decide_eq_false c4
  clear c4
  obtain rfl := Option.some.inj H
  go_enter Try.func61, Try.ntmps61
  go_wp2
  go_ret
  exact ⟨y7, y12⟩
end Go.Proofs.Ytdgpegkgelciaaa.PA
end
section
namespace Go.Proofs.Ytdgpegkgelciaaa.PA
open Go.RowKit Go.Proofs.YtdgpegkgelciaaaW.PrintWords Go.Proofs.YtdgpegkgelciaaaW.PrintLast Go.Proofs.YtdgpegkgelciaaaW.PrintMore
attribute [local go_sem] max2_int min2_int max_two min_two max_three min_three max_four min_four
set_option linter.unusedVariables false
set_option linter.unusedSimpArgs false
mutual
def spec_l12Term.j0 : Nat → List ByteArray → Int → Bool → Int → Int → ByteArray → List Int → List (S78) → Option (Bool)
 | 0, _, _, _, _, _, _, _, _ => none
 | k + 1, x0, x2, x23, x142000, x142001, x142002, x142003, x142004 => if x23 = true then (some false) else (spec_l12Term.l0 k x0 x2 0 x142000 x142001 x142002 x142003 x142004)
def spec_l12Term.l0 : Nat → List ByteArray → Int → Int → Int → Int → ByteArray → List Int → List (S78) → Option (Bool)
 | 0, _, _, _, _, _, _, _, _ => none
 | k + 1, x0, x2, x7, x142000, x142001, x142002, x142003, x142004 => if x7 < (x142004.length : Int) then (if 0 ≤ x7 then ((spec_l12Term.f k x0 ((rd_T78 x142004 x7).f0) ((rd_T78 x142004 x7).f1) ((rd_T78 x142004 x7).f2) ((rd_T78 x142004 x7).f3) ((rd_T78 x142004 x7).f4) (wrap64 (x2 - 1))).bind fun t143 => (if t143 = true then (spec_l12Term.l0 k x0 x2 (wrap64 (x7 + 1)) x142000 x142001 x142002 x142003 x142004) else (some false))) else (none)) else (spec_l12Term.l1 k x0 0 x142000 x142001 x142002 x142003 x142004)
def spec_l12Term.l1 : Nat → List ByteArray → Int → Int → Int → ByteArray → List Int → List (S78) → Option (Bool)
 | 0, _, _, _, _, _, _, _ => none
 | k + 1, x0, x8, x142000, x142001, x142002, x142003, x142004 => if x8 < (x142003.length : Int) then (if 0 ≤ x8 then ((spec_l6In.f (rd x142003 x8) 0 1).bind fun t145 => (if t145 = true then (spec_l12Term.l1 k x0 (wrap64 (x8 + 1)) x142000 x142001 x142002 x142003 x142004) else (some false))) else (none)) else (if x142000 = 7 then (spec_l12Term.j3 k x0 true x142000 x142001 x142002 x142003 x142004) else (spec_l12Term.j3 k x0 (x142000 == 8) x142000 x142001 x142002 x142003 x142004))
def spec_l12Term.j3 : Nat → List ByteArray → Bool → Int → Int → ByteArray → List Int → List (S78) → Option (Bool)
 | 0, _, _, _, _, _, _, _ => none
 | k + 1, x0, x9, x142000, x142001, x142002, x142003, x142004 => if x142000 = 1 then (if x142000 = 2 then (if x9 = true then (spec_l12Term.j4 k x0 false x142000 x142001 x142002 x142003 x142004) else (spec_l12Term.j4 k x0 (decide ((x142003.length : Int) > 0)) x142000 x142001 x142002 x142003 x142004)) else (if x142002.toList = ([] : List UInt8) then (if x9 = true then (spec_l12Term.j4 k x0 false x142000 x142001 x142002 x142003 x142004) else (spec_l12Term.j4 k x0 (decide ((x142003.length : Int) > 0)) x142000 x142001 x142002 x142003 x142004)) else (spec_l12Term.j4 k x0 true x142000 x142001 x142002 x142003 x142004))) else (if x142001 = 0 then (if x142000 = 2 then (if x9 = true then (spec_l12Term.j4 k x0 false x142000 x142001 x142002 x142003 x142004) else (spec_l12Term.j4 k x0 (decide ((x142003.length : Int) > 0)) x142000 x142001 x142002 x142003 x142004)) else (if x142002.toList = ([] : List UInt8) then (if x9 = true then (spec_l12Term.j4 k x0 false x142000 x142001 x142002 x142003 x142004) else (spec_l12Term.j4 k x0 (decide ((x142003.length : Int) > 0)) x142000 x142001 x142002 x142003 x142004)) else (spec_l12Term.j4 k x0 true x142000 x142001 x142002 x142003 x142004))) else (spec_l12Term.j4 k x0 true x142000 x142001 x142002 x142003 x142004))
def spec_l12Term.j4 : Nat → List ByteArray → Bool → Int → Int → ByteArray → List Int → List (S78) → Option (Bool)
 | 0, _, _, _, _, _, _, _ => none
 | k + 1, x0, x90, x142000, x142001, x142002, x142003, x142004 => if x90 = true then (some false) else (if x142000 = 1 then ((spec_l6In.f x142001 0 9999).bind fun t146 => (if t146 = true then (some ((x142004.length : Int) == 0)) else (some false))) else (if x142000 = 2 then ((spec_l12Has.f k x0 x142002).bind fun t147 => (if t147 = true then (some ((x142004.length : Int) == 0)) else (some false))) else (if x142000 = 7 then (some ((x142004.length : Int) == 1)) else ((spec_l6In.f x142000 3 8).bind fun t148 => (if t148 = true then (some ((x142004.length : Int) == 2)) else (some false))))))
def spec_l12Term.f : Nat → List ByteArray → Int → Int → ByteArray → List Int → List (S78) → Int → Option (Bool)
 | 0, _, _, _, _, _, _, _ => none
 | k + 1, l0, a1_0, a1_1, a1_2, l1_3, l1_4, a2 => if a2 < 1 then (spec_l12Term.j0 k l0 a2 true a1_0 a1_1 a1_2 l1_3 l1_4) else (if (l1_4.length : Int) > 2 then (spec_l12Term.j0 k l0 a2 true a1_0 a1_1 a1_2 l1_3 l1_4) else (spec_l12Term.j0 k l0 a2 (decide ((l1_3.length : Int) > 4)) a1_0 a1_1 a1_2 l1_3 l1_4))
end
theorem spec_l12Term.mono_l : ∀ k, (∀ y0 y1 y2 y3 y4 y5 y6, LeO (spec_l12Term.f k y0 y1 y2 y3 y4 y5 y6) (spec_l12Term.f (k + 1) y0 y1 y2 y3 y4 y5 y6)) ∧ (∀ y0 y1 y2 y3 y4 y5 y6 y7, LeO (spec_l12Term.j0 k y0 y1 y2 y3 y4 y5 y6 y7) (spec_l12Term.j0 (k + 1) y0 y1 y2 y3 y4 y5 y6 y7)) ∧ (∀ y0 y1 y2 y3 y4 y5 y6 y7, LeO (spec_l12Term.l0 k y0 y1 y2 y3 y4 y5 y6 y7) (spec_l12Term.l0 (k + 1) y0 y1 y2 y3 y4 y5 y6 y7)) ∧ (∀ y0 y1 y2 y3 y4 y5 y6, LeO (spec_l12Term.l1 k y0 y1 y2 y3 y4 y5 y6) (spec_l12Term.l1 (k + 1) y0 y1 y2 y3 y4 y5 y6)) ∧ (∀ y0 y1 y2 y3 y4 y5 y6, LeO (spec_l12Term.j3 k y0 y1 y2 y3 y4 y5 y6) (spec_l12Term.j3 (k + 1) y0 y1 y2 y3 y4 y5 y6)) ∧ (∀ y0 y1 y2 y3 y4 y5 y6, LeO (spec_l12Term.j4 k y0 y1 y2 y3 y4 y5 y6) (spec_l12Term.j4 (k + 1) y0 y1 y2 y3 y4 y5 y6))
 | 0 => ⟨fun _ _ _ _ _ _ _ r h => by simp [spec_l12Term.f] at h, fun _ _ _ _ _ _ _ _ r h => by simp [spec_l12Term.j0] at h, fun _ _ _ _ _ _ _ _ r h => by simp [spec_l12Term.l0] at h, fun _ _ _ _ _ _ _ r h => by simp [spec_l12Term.l1] at h, fun _ _ _ _ _ _ _ r h => by simp [spec_l12Term.j3] at h, fun _ _ _ _ _ _ _ r h => by simp [spec_l12Term.j4] at h⟩
 | k + 1 => by
  obtain ⟨ih0, ih1, ih2, ih3, ih4, ih5⟩ := spec_l12Term.mono_l k
  refine ⟨?_, ?_, ?_, ?_, ?_, ?_⟩
  ·intro y0 y1 y2 y3 y4 y5 y6
   unfold spec_l12Term.f
   repeat' first
   | (with_reducible exact ih0 _ _ _ _ _ _ _)
   | (with_reducible exact ih1 _ _ _ _ _ _ _ _)
   | (with_reducible exact ih2 _ _ _ _ _ _ _ _)
   | (with_reducible exact ih3 _ _ _ _ _ _ _)
   | (with_reducible exact ih4 _ _ _ _ _ _ _)
   | (with_reducible exact ih5 _ _ _ _ _ _ _)
   | (with_reducible exact spec_l12Has.mono _ _ _)
   | (with_reducible exact LeO.refl _)
   | (with_reducible exact LeO.none _)
   | (with_reducible refine LeO.ite ?_ ?_)
   | (with_reducible refine LeO.bind ?_ (fun _ => ?_))
   | exact ih0 _ _ _ _ _ _ _
   | exact ih1 _ _ _ _ _ _ _ _
   | exact ih2 _ _ _ _ _ _ _ _
   | exact ih3 _ _ _ _ _ _ _
   | exact ih4 _ _ _ _ _ _ _
   | exact ih5 _ _ _ _ _ _ _
   | exact spec_l12Has.mono _ _ _
   | exact LeO.none _
   | refine LeO.ite ?_ ?_
   | refine LeO.bind ?_ (fun _ => ?_)
  ·intro y0 y1 y2 y3 y4 y5 y6 y7
   unfold spec_l12Term.j0
   repeat' first
   | (with_reducible exact ih0 _ _ _ _ _ _ _)
   | (with_reducible exact ih1 _ _ _ _ _ _ _ _)
   | (with_reducible exact ih2 _ _ _ _ _ _ _ _)
   | (with_reducible exact ih3 _ _ _ _ _ _ _)
   | (with_reducible exact ih4 _ _ _ _ _ _ _)
   | (with_reducible exact ih5 _ _ _ _ _ _ _)
   | (with_reducible exact spec_l12Has.mono _ _ _)
   | (with_reducible exact LeO.refl _)
   | (with_reducible exact LeO.none _)
   | (with_reducible refine LeO.ite ?_ ?_)
   | (with_reducible refine LeO.bind ?_ (fun _ => ?_))
   | exact ih0 _ _ _ _ _ _ _
   | exact ih1 _ _ _ _ _ _ _ _
   | exact ih2 _ _ _ _ _ _ _ _
   | exact ih3 _ _ _ _ _ _ _
   | exact ih4 _ _ _ _ _ _ _
   | exact ih5 _ _ _ _ _ _ _
   | exact spec_l12Has.mono _ _ _
   | exact LeO.none _
   | refine LeO.ite ?_ ?_
   | refine LeO.bind ?_ (fun _ => ?_)
  ·intro y0 y1 y2 y3 y4 y5 y6 y7
   unfold spec_l12Term.l0
   repeat' first
   | (with_reducible exact ih0 _ _ _ _ _ _ _)
   | (with_reducible exact ih1 _ _ _ _ _ _ _ _)
   | (with_reducible exact ih2 _ _ _ _ _ _ _ _)
   | (with_reducible exact ih3 _ _ _ _ _ _ _)
   | (with_reducible exact ih4 _ _ _ _ _ _ _)
   | (with_reducible exact ih5 _ _ _ _ _ _ _)
   | (with_reducible exact spec_l12Has.mono _ _ _)
   | (with_reducible exact LeO.refl _)
   | (with_reducible exact LeO.none _)
   | (with_reducible refine LeO.ite ?_ ?_)
   | (with_reducible refine LeO.bind ?_ (fun _ => ?_))
   | exact ih0 _ _ _ _ _ _ _
   | exact ih1 _ _ _ _ _ _ _ _
   | exact ih2 _ _ _ _ _ _ _ _
   | exact ih3 _ _ _ _ _ _ _
   | exact ih4 _ _ _ _ _ _ _
   | exact ih5 _ _ _ _ _ _ _
   | exact spec_l12Has.mono _ _ _
   | exact LeO.none _
   | refine LeO.ite ?_ ?_
   | refine LeO.bind ?_ (fun _ => ?_)
  ·intro y0 y1 y2 y3 y4 y5 y6
   unfold spec_l12Term.l1
   repeat' first
   | (with_reducible exact ih0 _ _ _ _ _ _ _)
   | (with_reducible exact ih1 _ _ _ _ _ _ _ _)
   | (with_reducible exact ih2 _ _ _ _ _ _ _ _)
   | (with_reducible exact ih3 _ _ _ _ _ _ _)
   | (with_reducible exact ih4 _ _ _ _ _ _ _)
   | (with_reducible exact ih5 _ _ _ _ _ _ _)
   | (with_reducible exact spec_l12Has.mono _ _ _)
   | (with_reducible exact LeO.refl _)
   | (with_reducible exact LeO.none _)
   | (with_reducible refine LeO.ite ?_ ?_)
   | (with_reducible refine LeO.bind ?_ (fun _ => ?_))
   | exact ih0 _ _ _ _ _ _ _
   | exact ih1 _ _ _ _ _ _ _ _
   | exact ih2 _ _ _ _ _ _ _ _
   | exact ih3 _ _ _ _ _ _ _
   | exact ih4 _ _ _ _ _ _ _
   | exact ih5 _ _ _ _ _ _ _
   | exact spec_l12Has.mono _ _ _
   | exact LeO.none _
   | refine LeO.ite ?_ ?_
   | refine LeO.bind ?_ (fun _ => ?_)
  ·intro y0 y1 y2 y3 y4 y5 y6
   unfold spec_l12Term.j3
   repeat' first
   | (with_reducible exact ih0 _ _ _ _ _ _ _)
   | (with_reducible exact ih1 _ _ _ _ _ _ _ _)
   | (with_reducible exact ih2 _ _ _ _ _ _ _ _)
   | (with_reducible exact ih3 _ _ _ _ _ _ _)
   | (with_reducible exact ih4 _ _ _ _ _ _ _)
   | (with_reducible exact ih5 _ _ _ _ _ _ _)
   | (with_reducible exact spec_l12Has.mono _ _ _)
   | (with_reducible exact LeO.refl _)
   | (with_reducible exact LeO.none _)
   | (with_reducible refine LeO.ite ?_ ?_)
   | (with_reducible refine LeO.bind ?_ (fun _ => ?_))
   | exact ih0 _ _ _ _ _ _ _
   | exact ih1 _ _ _ _ _ _ _ _
   | exact ih2 _ _ _ _ _ _ _ _
   | exact ih3 _ _ _ _ _ _ _
   | exact ih4 _ _ _ _ _ _ _
   | exact ih5 _ _ _ _ _ _ _
   | exact spec_l12Has.mono _ _ _
   | exact LeO.none _
   | refine LeO.ite ?_ ?_
   | refine LeO.bind ?_ (fun _ => ?_)
  ·intro y0 y1 y2 y3 y4 y5 y6
   unfold spec_l12Term.j4
   repeat' first
   | (with_reducible exact ih0 _ _ _ _ _ _ _)
   | (with_reducible exact ih1 _ _ _ _ _ _ _ _)
   | (with_reducible exact ih2 _ _ _ _ _ _ _ _)
   | (with_reducible exact ih3 _ _ _ _ _ _ _)
   | (with_reducible exact ih4 _ _ _ _ _ _ _)
   | (with_reducible exact ih5 _ _ _ _ _ _ _)
   | (with_reducible exact spec_l12Has.mono _ _ _)
   | (with_reducible exact LeO.refl _)
   | (with_reducible exact LeO.none _)
   | (with_reducible refine LeO.ite ?_ ?_)
   | (with_reducible refine LeO.bind ?_ (fun _ => ?_))
   | exact ih0 _ _ _ _ _ _ _
   | exact ih1 _ _ _ _ _ _ _ _
   | exact ih2 _ _ _ _ _ _ _ _
   | exact ih3 _ _ _ _ _ _ _
   | exact ih4 _ _ _ _ _ _ _
   | exact ih5 _ _ _ _ _ _ _
   | exact spec_l12Has.mono _ _ _
   | exact LeO.none _
   | refine LeO.ite ?_ ?_
   | refine LeO.bind ?_ (fun _ => ?_)
theorem spec_l12Term.mono : ∀ a0 a1 a2 a3 a4 a5 a6 k, LeO (spec_l12Term.f k a0 a1 a2 a3 a4 a5 a6) (spec_l12Term.f (k + 1) a0 a1 a2 a3 a4 a5 a6) := by
 intro a0 a1 a2 a3 a4 a5 a6 k
 obtain ⟨ih0, ih1, ih2, ih3, ih4, ih5⟩ := spec_l12Term.mono_l k
 exact ih0 a0 a1 a2 a3 a4 a5 a6
set_option maxHeartbeats 8000000 in
set_option maxRecDepth 100000 in
theorem spec_l12Term.calls (k : Nat) : ∀ (A0 : Option Addr) (c0 : Nat) (l0 : List ByteArray) (a1_0 : Int) (a1_1 : Int) (a1_2 : ByteArray) (A1_3 : Option Addr) (c1_3 : Nat) (l1_3 : List Int) (A1_4 : Option Addr) (c1_4 : Nat) (l1_4 : List (S78)) (a2 : Int) (r : Bool) (w : World) (hr0 : Kd.C Kd.string w A0 l0.length l0) (hc0 : l0.length ≤ c0) (hr1_3 : Kd.C (Kd.int .i64) w A1_3 l1_3.length l1_3) (hc1_3 : l1_3.length ≤ c1_3) (hr1_4 : Kd.C k78 w A1_4 l1_4.length l1_4) (hc1_4 : l1_4.length ≤ c1_4) (h : spec_l12Term.f k l0 a1_0 a1_1 a1_2 l1_3 l1_4 a2 = some r),
  Calls Try.prog 49 #[.slice A0 l0.length c0, .agg #[.int .i64 a1_0, .int .i64 a1_1, .string a1_2, .slice A1_3 l1_3.length c1_3, .slice A1_4 l1_4.length c1_4], .int .i64 a2] w fun e w' => e = .returned (.bool r) ∧ Below w.heap.size w w' := by
 induction k using Nat.strongRecOn with
 | _ k ih =>
 intro A0 c0 l0 a1_0 a1_1 a1_2 A1_3 c1_3 l1_3 A1_4 c1_4 l1_4 a2 r w hr0 hc0 hr1_3 hc1_3 hr1_4 hc1_4 h
 cases k with
 | zero => exact absurd h (by simp [spec_l12Term.f])
 | succ k =>
 simp only [spec_l12Term.f] at h
 have hu78 := Try.underlying78
 have HR0 := Aside0.mk hr0
 have HC0 := Aside0.mk hc0
 clear hr0 hc0
 have HR1_3 := Aside0.mk hr1_3
 have HC1_3 := Aside0.mk hc1_3
 clear hr1_3 hc1_3
 have HR1_4 := Aside0.mk hr1_4
 have HC1_4 := Aside0.mk hc1_4
 clear hr1_4 hc1_4
 have HB := Aside0.mk (Below.refl w.heap.size w)
 have H : (if a2 < 1 then (spec_l12Term.j0 k l0 a2 true a1_0 a1_1 a1_2 l1_3 l1_4) else (if (l1_4.length : Int) > 2 then (spec_l12Term.j0 k l0 a2 true a1_0 a1_1 a1_2 l1_3 l1_4) else (spec_l12Term.j0 k l0 a2 (decide ((l1_3.length : Int) > 4)) a1_0 a1_1 a1_2 l1_3 l1_4))) = some r := h
 clear h
 have HC4 := Aside0.mk H
 clear H
 go_enter Try.func49, Try.ntmps49
 go_upto_region 1 with (first | ((with_reducible refine gate_dst (N := 4) rfl ?_); (try (refine gate_guard (by rfl) ?_; dsimp only)); refine zbx 4 #[.int .i64 a1_0, .int .i64 a1_1, .string a1_2, .slice A1_3 l1_3.length c1_3, .slice A1_4 l1_4.length c1_4] 78 ?_; intro gb141 hg w5 hbox hb; have BK141 := Aside0.mk hbox; have GW141 := Aside0.mk ((y9 hg HB.out : w.heap.size ≤ gb141)); have GE141 := Aside0.mk ((y9 hg HB.out : w.heap.size ≤ gb141)); replace HB := Aside0.mk (below_step (y1 HB.out) hb); clear hb hbox hg))
 (try simp only [Act.put, List.setIfInBounds_toArray, List.set_cons_zero, List.set_cons_succ])
 go_cut [23] (fun v23 wc => ∃ (kq : Nat) (x23_3 : Bool), v23 = .bool x23_3 ∧ Aside0 (spec_l12Term.j0 kq l0 a2 x23_3 a1_0 a1_1 a1_2 l1_3 l1_4 = some r) ∧ Aside0 (kq ≤ k) ∧ Aside0 (wc.heap[gb141]? = some (.cells #[.int .i64 a1_0, .int .i64 a1_1, .string a1_2, (.slice A1_3 l1_3.length c1_3), (.slice A1_4 l1_4.length c1_4)] 78 (0, 0))) ∧ Aside0 (Below w.heap.size w wc))
 case first =>
  have H := HC4.out
  clear HC4
  by_cases c6 : a2 < 1
  ·rw [if_pos c6] at H
   have c6b0 : decide (a2 < 1) = true := decide_eq_true c6
   clear c6
   (first | rw [c6b0] | (simp only [i64_w, i32_w]; rw [c6b0]) | skip)
   have H' := Aside0.mk H
   clear H
   go_wp2
   go_meet
   case rel => exact ⟨_, (true), y7, H', ⟨y33⟩, ⟨(y8 BK141.out)⟩, ⟨(y2 HB.out GE141.out)⟩⟩
  ·rw [if_neg c6] at H
   have c6b0 : decide (a2 < 1) = false := decide_eq_false c6
   clear c6
   (first | rw [c6b0] | (simp only [i64_w, i32_w]; rw [c6b0]) | skip)
   by_cases c7 : (l1_4.length : Int) > 2
   ·rw [if_pos c7] at H
    have c7b0 : decide (2 < (l1_4.length : Int)) = true := decide_eq_true c7
    have c7b1 : decide (2 < l1_4.length) = true := decide_eq_true (by omega)
    clear c7
    have H' := Aside0.mk H
    clear H
    have hcz8_0 := zh BK141
    have hcz8_1 := zh1 BK141
    have hcz8_2 := zh2 BK141
    have hcz8_3 : w5.cell? ⟨gb141, 3, none⟩ = some (.slice A1_3 l1_3.length c1_3) := (blk_cell BK141.out 3).trans rfl
    have hcz8_4 : w5.cell? ⟨gb141, 4, none⟩ = some (.slice A1_4 l1_4.length c1_4) := (blk_cell BK141.out 4).trans rfl
    have hfz8_0 := zfr BK141 0
    have hfz8_1 := zfr BK141 1
    have hfz8_2 := zfr BK141 2
    have hfz8_3 := zfr BK141 3
    have hfz8_4 := zfr BK141 4
    go_wp2
    go_meet
    case rel => exact ⟨_, (true), y7, H', ⟨y33⟩, ⟨(y8 BK141.out)⟩, ⟨(y2 HB.out GE141.out)⟩⟩
   ·rw [if_neg c7] at H
    have c7b0 : decide (2 < (l1_4.length : Int)) = false := decide_eq_false c7
    have c7b1 : decide (2 < l1_4.length) = false := decide_eq_false (by omega)
    clear c7
    have H' := Aside0.mk H
    clear H
    have hcz9_0 := zh BK141
    have hcz9_1 := zh1 BK141
    have hcz9_2 := zh2 BK141
    have hcz9_3 : w5.cell? ⟨gb141, 3, none⟩ = some (.slice A1_3 l1_3.length c1_3) := (blk_cell BK141.out 3).trans rfl
    have hcz9_4 : w5.cell? ⟨gb141, 4, none⟩ = some (.slice A1_4 l1_4.length c1_4) := (blk_cell BK141.out 4).trans rfl
    have hfz9_0 := zfr BK141 0
    have hfz9_1 := zfr BK141 1
    have hfz9_2 := zfr BK141 2
    have hfz9_3 := zfr BK141 3
    have hfz9_4 := zfr BK141 4
    go_wp2
    go_meet
    case rel => exact ⟨_, (decide ((l1_3.length : Int) > 4)), y7, H', ⟨y33⟩, ⟨(y8 BK141.out)⟩, ⟨(y2 HB.out GE141.out)⟩⟩
 case rest =>
  clear HC4
  try clear c1
  try clear p2
  try clear c4
  try clear c6
  try clear c6b0
  try clear c7
  try clear c7b0
  try clear c7b1
  try clear hcz8_0
  try clear hcz8_1
  try clear hcz8_2
  try clear hcz8_3
  try clear hcz8_4
  try clear hcz9_0
  try clear hcz9_1
  try clear hcz9_2
  try clear hcz9_3
  try clear hcz9_4
  try clear hfz8_0
  try clear hfz8_1
  try clear hfz8_2
  try clear hfz8_3
  try clear hfz8_4
  try clear hfz9_0
  try clear hfz9_1
  try clear hfz9_2
  try clear hfz9_3
  try clear hfz9_4
  obtain ⟨kq, x23_3, rfl, HA, HJ3, BK141, HB⟩ := hcut
  cases kq with
  | zero => exact absurd HA.out (by simp [spec_l12Term.j0])
  | succ kj3 =>
   have H := HA.out
   clear HA
   simp only [spec_l12Term.j0] at H
   by_cases c10 : x23_3 = true
   ·subst c10
    rw [if_pos rfl] at H
    obtain rfl := Option.some.inj H
    go_wp2
    go_ret
    exact ⟨y6, (y2 HB.out GE141.out)⟩
   ·replace c10 := Bool.eq_false_iff.mpr c10
    subst c10
    rw [if_neg (show ¬ (false = true) by decide)] at H
    have H' := Aside0.mk H
    clear H
    go_wp2
    go_loopg [7] kj3 (fun kq v7 w' => ∃ (x7_2 : Int), v7 = .int .i64 x7_2 ∧ Aside0 (spec_l12Term.l0 kq l0 a2 x7_2 a1_0 a1_1 a1_2 l1_3 l1_4 = some r) ∧ Aside0 (kq ≤ kj3) ∧ Aside0 (w'.heap[gb141]? = some (.cells #[.int .i64 a1_0, .int .i64 a1_1, .string a1_2, (.slice A1_3 l1_3.length c1_3), (.slice A1_4 l1_4.length c1_4)] 78 (0, 0))) ∧ Aside0 (Below w.heap.size w w'))
    case atStart => exact ⟨(0), y7, H', ⟨Nat.le_refl _⟩, ⟨(y8 BK141.out)⟩, ⟨(y2 HB.out GE141.out)⟩⟩
    case round =>
     clear H'
     try clear c1
     try clear p2
     try clear c4
     try clear c6
     try clear c6b0
     try clear c7
     try clear c7b0
     try clear c7b1
     try clear c10
     try clear hcz8_0
     try clear hcz8_1
     try clear hcz8_2
     try clear hcz8_3
     try clear hcz8_4
     try clear hcz9_0
     try clear hcz9_1
     try clear hcz9_2
     try clear hcz9_3
     try clear hcz9_4
     try clear hfz8_0
     try clear hfz8_1
     try clear hfz8_2
     try clear hfz8_3
     try clear hfz8_4
     try clear hfz9_0
     try clear hfz9_1
     try clear hfz9_2
     try clear hfz9_3
     try clear hfz9_4
     try clear p2
     (try clear BK141)
     obtain ⟨x7_2, rfl, HA, HK2, BK141, HB⟩ := hrel
     cases gk with
     | zero => exact absurd HA.out (by simp [spec_l12Term.l0])
     | succ k2 =>
      have H := HA.out
      clear HA
      simp only [spec_l12Term.l0] at H
      by_cases c11 : x7_2 < (l1_4.length : Int)
      ·rw [if_pos c11] at H
       have c11b0 : decide (x7_2 < (l1_4.length : Int)) = true := decide_eq_true c11
       clear c11
       by_cases c12 : 0 ≤ x7_2
       ·rw [if_pos c12] at H
        have c12b0 : decide (0 ≤ x7_2) = true := decide_eq_true c12
        clear c12
        obtain ⟨t143, A130, H⟩ := ob H
        have A13 := Aside0.mk A130
        clear A130
        have HZ14 := Aside0.mk H
        clear H
        have hcz15_0 := zh BK141
        have hcz15_1 := zh1 BK141
        have hcz15_2 := zh2 BK141
        have hcz15_3 : wr.cell? ⟨gb141, 3, none⟩ = some (.slice A1_3 l1_3.length c1_3) := (blk_cell BK141.out 3).trans rfl
        have hcz15_4 : wr.cell? ⟨gb141, 4, none⟩ = some (.slice A1_4 l1_4.length c1_4) := (blk_cell BK141.out 4).trans rfl
        have hfz15_0 := zfr BK141 0
        have hfz15_1 := zfr BK141 1
        have hfz15_2 := zfr BK141 2
        have hfz15_3 := zfr BK141 3
        have hfz15_4 := zfr BK141 4
        have p142 : 0 ≤ (x7_2 : Int) := of_decide_eq_true y4
        have q142 : x7_2 < (l1_4.length : Int) := of_decide_eq_true y4
        obtain ⟨ad142, A142_3, c142_3, A142_4, c142_4, e142, hx142_0, hx142_1, hx142_2, hx142_3, hx142_4, hl142_3, hi142_3, hl142_4, hi142_4⟩ := at_T78 HR1_4.out x7_2 p142 q142
        cases e142
        replace hx142_0 := (HB.out.cell (World.block_lt_of_cell? w _ hx142_0)).trans hx142_0
        replace hx142_1 := (HB.out.cell (World.block_lt_of_cell? w _ hx142_1)).trans hx142_1
        replace hx142_2 := (HB.out.cell (World.block_lt_of_cell? w _ hx142_2)).trans hx142_2
        replace hx142_3 := (HB.out.cell (World.block_lt_of_cell? w _ hx142_3)).trans hx142_3
        replace hx142_4 := (HB.out.cell (World.block_lt_of_cell? w _ hx142_4)).trans hx142_4
        have HR142_3 := Aside0.mk hi142_3
        have HC142_3 := Aside0.mk hl142_3
        clear hi142_3 hl142_3
        have HR142_4 := Aside0.mk hi142_4
        have HC142_4 := Aside0.mk hl142_4
        clear hi142_4 hl142_4
        replace p142 := eq_true p142
        replace q142 := eq_true q142
        go_upto_if 40 with (first | ((with_reducible refine gate_callee (f := 49) rfl ?_); refine goesL_ (some 39) rfl rfl Try.func49 (by kernel_rfl) rfl #[.slice A0 l0.length c0, .agg #[.int .i64 ((rd_T78 l1_4 x7_2).f0), .int .i64 ((rd_T78 l1_4 x7_2).f1), .string ((rd_T78 l1_4 x7_2).f2), .slice A142_3 ((rd_T78 l1_4 x7_2).f3).length c142_3, .slice A142_4 ((rd_T78 l1_4 x7_2).f4).length c142_4], .int .i64 (wrap64 (a2 - 1))] rfl y3 ?_; (with_reducible refine (ih k2 (y25 HJ3.out HK2.out) _ _ l0 ((rd_T78 l1_4 x7_2).f0) ((rd_T78 l1_4 x7_2).f1) ((rd_T78 l1_4 x7_2).f2) _ _ ((rd_T78 l1_4 x7_2).f3) _ _ ((rd_T78 l1_4 x7_2).f4) (wrap64 (a2 - 1)) t143 _ ?side1 ?side2 ?side3 ?side4 ?side5 ?side6 A13.out).mono ?_); (case side1 => exact y0 HR0.out HB.out); (case side2 => exact HC0.out); (case side3 => exact y0 HR142_3.out HB.out); (case side4 => exact HC142_3.out); (case side5 => exact y0 HR142_4.out HB.out); (case side6 => exact HC142_4.out); rintro e w16 ⟨rfl, hb⟩; refine ⟨_, rfl, ?_⟩; replace BK141 := zbb BK141 hb; replace HB := Aside0.mk (below_step (y2 HB.out GE141.out) hb); (try clear hb); (try clear hb2); (try clear hk); (try clear hi)))
        (try simp only [Act.put, List.setIfInBounds_toArray, List.set_cons_zero, List.set_cons_succ])
        have H := HZ14.out
        clear HZ14
        by_cases c17 : t143 = true
        ·subst c17
         rw [if_pos rfl] at H
         have H' := Aside0.mk H
         clear H
         go_wp2
         go_roundg k2
         case measure => have := HJ3.out; have := HK2.out; omega
         case rel => exact ⟨(wrap64 (x7_2 + 1)), y7, H', ⟨(y25 HJ3.out HK2.out)⟩, ⟨(y8 BK141.out)⟩, ⟨(y2 HB.out GE141.out)⟩⟩
        ·replace c17 := Bool.eq_false_iff.mpr c17
         subst c17
         rw [if_neg (show ¬ (false = true) by decide)] at H
         obtain rfl := Option.some.inj H
         go_wp2
         go_ret
         exact ⟨y6, (y2 HB.out GE141.out)⟩
       ·rw [if_neg c12] at H
        exact absurd H (by simp)
      ·rw [if_neg c11] at H
       have c11b0 : decide (x7_2 < (l1_4.length : Int)) = false := decide_eq_false c11
       clear c11
       have H' := Aside0.mk H
       clear H
       have hcz18_0 := zh BK141
       have hcz18_1 := zh1 BK141
       have hcz18_2 := zh2 BK141
       have hcz18_3 : wr.cell? ⟨gb141, 3, none⟩ = some (.slice A1_3 l1_3.length c1_3) := (blk_cell BK141.out 3).trans rfl
       have hcz18_4 : wr.cell? ⟨gb141, 4, none⟩ = some (.slice A1_4 l1_4.length c1_4) := (blk_cell BK141.out 4).trans rfl
       have hfz18_0 := zfr BK141 0
       have hfz18_1 := zfr BK141 1
       have hfz18_2 := zfr BK141 2
       have hfz18_3 := zfr BK141 3
       have hfz18_4 := zfr BK141 4
       go_wp2
       go_loopg [8] k2 (fun kq v8 w' => ∃ (x8_3 : Int), v8 = .int .i64 x8_3 ∧ Aside0 (spec_l12Term.l1 kq l0 x8_3 a1_0 a1_1 a1_2 l1_3 l1_4 = some r) ∧ Aside0 (kq ≤ k2) ∧ Aside0 (w'.heap[gb141]? = some (.cells #[.int .i64 a1_0, .int .i64 a1_1, .string a1_2, (.slice A1_3 l1_3.length c1_3), (.slice A1_4 l1_4.length c1_4)] 78 (0, 0))) ∧ Aside0 (Below w.heap.size w w'))
       case atStart => exact ⟨(0), y7, H', ⟨Nat.le_refl _⟩, ⟨(y8 BK141.out)⟩, ⟨(y2 HB.out GE141.out)⟩⟩
       case round =>
        clear H'
        try clear c1
        try clear p1
        try clear q1
        try clear hx1
        try clear p2
        try clear c4
        try clear c6
        try clear c6b0
        try clear p6
        try clear c7
        try clear c7b0
        try clear c7b1
        try clear c10
        try clear c11
        try clear c11b0
        try clear c12
        try clear c12b0
        try clear c14
        try clear p14
        try clear q14
        try clear hx14
        try clear c17
        try clear hcz15_0
        try clear hcz15_1
        try clear hcz15_2
        try clear hcz15_3
        try clear hcz15_4
        try clear hcz18_0
        try clear hcz18_1
        try clear hcz18_2
        try clear hcz18_3
        try clear hcz18_4
        try clear hcz8_0
        try clear hcz8_1
        try clear hcz8_2
        try clear hcz8_3
        try clear hcz8_4
        try clear hcz9_0
        try clear hcz9_1
        try clear hcz9_2
        try clear hcz9_3
        try clear hcz9_4
        try clear hfz15_0
        try clear hfz15_1
        try clear hfz15_2
        try clear hfz15_3
        try clear hfz15_4
        try clear hfz18_0
        try clear hfz18_1
        try clear hfz18_2
        try clear hfz18_3
        try clear hfz18_4
        try clear hfz8_0
        try clear hfz8_1
        try clear hfz8_2
        try clear hfz8_3
        try clear hfz8_4
        try clear hfz9_0
        try clear hfz9_1
        try clear hfz9_2
        try clear hfz9_3
        try clear hfz9_4
        try clear hx142_0
        try clear hx142_1
        try clear hx142_2
        try clear hx142_3
        try clear hx142_4
        try clear p142
        try clear p2
        try clear q142
        (try clear BK141)
        obtain ⟨x8_3, rfl, HA, HK3, BK141, HB⟩ := hrel
        cases gk with
        | zero => exact absurd HA.out (by simp [spec_l12Term.l1])
        | succ k3 =>
         have H := HA.out
         clear HA
         simp only [spec_l12Term.l1] at H
         by_cases c19 : x8_3 < (l1_3.length : Int)
         ·rw [if_pos c19] at H
          have c19b0 : decide (x8_3 < (l1_3.length : Int)) = true := decide_eq_true c19
          clear c19
          by_cases c20 : 0 ≤ x8_3
          ·rw [if_pos c20] at H
           have c20b0 : decide (0 ≤ x8_3) = true := decide_eq_true c20
           clear c20
           obtain ⟨t145, A210, H⟩ := ob H
           have A21 := Aside0.mk A210
           clear A210
           have HZ22 := Aside0.mk H
           clear H
           have hcz23_0 := zh BK141
           have hcz23_1 := zh1 BK141
           have hcz23_2 := zh2 BK141
           have hcz23_3 : wr.cell? ⟨gb141, 3, none⟩ = some (.slice A1_3 l1_3.length c1_3) := (blk_cell BK141.out 3).trans rfl
           have hcz23_4 : wr.cell? ⟨gb141, 4, none⟩ = some (.slice A1_4 l1_4.length c1_4) := (blk_cell BK141.out 4).trans rfl
           have hfz23_0 := zfr BK141 0
           have hfz23_1 := zfr BK141 1
           have hfz23_2 := zfr BK141 2
           have hfz23_3 := zfr BK141 3
           have hfz23_4 := zfr BK141 4
           have p144 : 0 ≤ (x8_3 : Int) := of_decide_eq_true y4
           have q144 : x8_3 < (l1_3.length : Int) := of_decide_eq_true y4
           obtain ⟨ad144, e144, hx144_0⟩ := Kd.at_int HR1_3.out x8_3 p144 q144
           cases e144
           replace hx144_0 := (HB.out.cell (World.block_lt_of_cell? w _ hx144_0)).trans hx144_0
           replace p144 := eq_true p144
           replace q144 := eq_true q144
           go_upto_if 54 with (first | ((with_reducible refine gate_callee (f := 61) rfl ?_); refine goesL_ (some 53) rfl rfl Try.func61 (by kernel_rfl) rfl #[.int .i64 (rd l1_3 x8_3), .int .i64 0, .int .i64 1] rfl y3 ?_; (with_reducible refine (spec_l6In.calls (rd l1_3 x8_3) 0 1 t145 _ A21.out).mono ?_); rintro e w' ⟨rfl, ⟨nd, rfl⟩⟩; refine ⟨_, rfl, ?_⟩))
           (try simp only [Act.put, List.setIfInBounds_toArray, List.set_cons_zero, List.set_cons_succ])
           have H := HZ22.out
           clear HZ22
           by_cases c24 : t145 = true
           ·subst c24
            rw [if_pos rfl] at H
            have H' := Aside0.mk H
            clear H
            go_wp2
            go_roundg k3
            case measure => have := HJ3.out; have := HK2.out; have := HK3.out; omega
            case rel => exact ⟨(wrap64 (x8_3 + 1)), y7, H', ⟨(y35 HJ3.out HK2.out HK3.out)⟩, ⟨(y8 BK141.out)⟩, ⟨(y2 HB.out GE141.out)⟩⟩
           ·replace c24 := Bool.eq_false_iff.mpr c24
            subst c24
            rw [if_neg (show ¬ (false = true) by decide)] at H
            obtain rfl := Option.some.inj H
            go_wp2
            go_ret
            exact ⟨y6, (y2 HB.out GE141.out)⟩
          ·rw [if_neg c20] at H
           exact absurd H (by simp)
         ·rw [if_neg c19] at H
          have c19b0 : decide (x8_3 < (l1_3.length : Int)) = false := decide_eq_false c19
          clear c19
          have HC25 := Aside0.mk H
          clear H
          have hcz26_0 := zh BK141
          have hcz26_1 := zh1 BK141
          have hcz26_2 := zh2 BK141
          have hcz26_3 : wr.cell? ⟨gb141, 3, none⟩ = some (.slice A1_3 l1_3.length c1_3) := (blk_cell BK141.out 3).trans rfl
          have hcz26_4 : wr.cell? ⟨gb141, 4, none⟩ = some (.slice A1_4 l1_4.length c1_4) := (blk_cell BK141.out 4).trans rfl
          have hfz26_0 := zfr BK141 0
          have hfz26_1 := zfr BK141 1
          have hfz26_2 := zfr BK141 2
          have hfz26_3 := zfr BK141 3
          have hfz26_4 := zfr BK141 4
          go_upto_region 13 with (fail)
          go_cut [9] (fun v9 wc => ∃ (kq : Nat) (x9_24 : Bool), v9 = .bool x9_24 ∧ Aside0 (spec_l12Term.j3 kq l0 x9_24 a1_0 a1_1 a1_2 l1_3 l1_4 = some r) ∧ Aside0 (kq ≤ k3) ∧ Aside0 (wc.heap[gb141]? = some (.cells #[.int .i64 a1_0, .int .i64 a1_1, .string a1_2, (.slice A1_3 l1_3.length c1_3), (.slice A1_4 l1_4.length c1_4)] 78 (0, 0))) ∧ Aside0 (Below w.heap.size w wc))
          case first =>
           have H := HC25.out
           clear HC25
           by_cases c27 : a1_0 = 7
           ·rw [if_pos c27] at H
            have c27b0 : (a1_0 == 7) = true := beq_iff_eq.mpr c27
            have c27b1 : (a1_0 != 7) = false := bne_eq_false_iff_eq.mpr c27
            clear c27
            (first | rw [c27b0] | (simp only [i64_w, i32_w]; rw [c27b0]) | skip)
            have H' := Aside0.mk H
            clear H
            have hcz28_0 := zh BK141
            have hcz28_1 := zh1 BK141
            have hcz28_2 := zh2 BK141
            have hcz28_3 : wr.cell? ⟨gb141, 3, none⟩ = some (.slice A1_3 l1_3.length c1_3) := (blk_cell BK141.out 3).trans rfl
            have hcz28_4 : wr.cell? ⟨gb141, 4, none⟩ = some (.slice A1_4 l1_4.length c1_4) := (blk_cell BK141.out 4).trans rfl
            have hfz28_0 := zfr BK141 0
            have hfz28_1 := zfr BK141 1
            have hfz28_2 := zfr BK141 2
            have hfz28_3 := zfr BK141 3
            have hfz28_4 := zfr BK141 4
            go_wp2
            go_meet
            case rel => exact ⟨_, (true), y7, H', ⟨(by have := HJ3.out; have := HK2.out; have := HK3.out; first | omega | exact Nat.le_refl _)⟩, ⟨(y8 BK141.out)⟩, ⟨(y2 HB.out GE141.out)⟩⟩
           ·rw [if_neg c27] at H
            have c27b0 : (a1_0 == 7) = false := beq_eq_false_iff_ne.mpr c27
            have c27b1 : (a1_0 != 7) = true := bne_iff_ne.mpr c27
            (first | rw [c27b0] | (simp only [i64_w, i32_w]; rw [c27b0]) | skip)
            have H' := Aside0.mk H
            clear H
            have hcz29_0 := zh BK141
            have hcz29_1 := zh1 BK141
            have hcz29_2 := zh2 BK141
            have hcz29_3 : wr.cell? ⟨gb141, 3, none⟩ = some (.slice A1_3 l1_3.length c1_3) := (blk_cell BK141.out 3).trans rfl
            have hcz29_4 : wr.cell? ⟨gb141, 4, none⟩ = some (.slice A1_4 l1_4.length c1_4) := (blk_cell BK141.out 4).trans rfl
            have hfz29_0 := zfr BK141 0
            have hfz29_1 := zfr BK141 1
            have hfz29_2 := zfr BK141 2
            have hfz29_3 := zfr BK141 3
            have hfz29_4 := zfr BK141 4
            go_wp2
            go_meet
            case rel => exact ⟨_, ((a1_0 == 8)), y7, H', ⟨(by have := HJ3.out; have := HK2.out; have := HK3.out; first | omega | exact Nat.le_refl _)⟩, ⟨(y8 BK141.out)⟩, ⟨(y2 HB.out GE141.out)⟩⟩
          case rest =>
           clear HC25
           try clear c1
           try clear p1
           try clear q1
           try clear hx1
           try clear c2
           try clear p2
           try clear c4
           try clear c6
           try clear c6b0
           try clear p6
           try clear c7
           try clear c7b0
           try clear c7b1
           try clear c10
           try clear c11
           try clear c11b0
           try clear c12
           try clear c12b0
           try clear c14
           try clear p14
           try clear q14
           try clear hx14
           try clear c17
           try clear c19
           try clear c19b0
           try clear c20
           try clear c20b0
           try clear c24
           try clear c27
           try clear c27b0
           try clear c27b1
           try clear hcz15_0
           try clear hcz15_1
           try clear hcz15_2
           try clear hcz15_3
           try clear hcz15_4
           try clear hcz18_0
           try clear hcz18_1
           try clear hcz18_2
           try clear hcz18_3
           try clear hcz18_4
           try clear hcz23_0
           try clear hcz23_1
           try clear hcz23_2
           try clear hcz23_3
           try clear hcz23_4
           try clear hcz26_0
           try clear hcz26_1
           try clear hcz26_2
           try clear hcz26_3
           try clear hcz26_4
           try clear hcz28_0
           try clear hcz28_1
           try clear hcz28_2
           try clear hcz28_3
           try clear hcz28_4
           try clear hcz29_0
           try clear hcz29_1
           try clear hcz29_2
           try clear hcz29_3
           try clear hcz29_4
           try clear hcz8_0
           try clear hcz8_1
           try clear hcz8_2
           try clear hcz8_3
           try clear hcz8_4
           try clear hcz9_0
           try clear hcz9_1
           try clear hcz9_2
           try clear hcz9_3
           try clear hcz9_4
           try clear hfz15_0
           try clear hfz15_1
           try clear hfz15_2
           try clear hfz15_3
           try clear hfz15_4
           try clear hfz18_0
           try clear hfz18_1
           try clear hfz18_2
           try clear hfz18_3
           try clear hfz18_4
           try clear hfz23_0
           try clear hfz23_1
           try clear hfz23_2
           try clear hfz23_3
           try clear hfz23_4
           try clear hfz26_0
           try clear hfz26_1
           try clear hfz26_2
           try clear hfz26_3
           try clear hfz26_4
           try clear hfz28_0
           try clear hfz28_1
           try clear hfz28_2
           try clear hfz28_3
           try clear hfz28_4
           try clear hfz29_0
           try clear hfz29_1
           try clear hfz29_2
           try clear hfz29_3
           try clear hfz29_4
           try clear hfz8_0
           try clear hfz8_1
           try clear hfz8_2
           try clear hfz8_3
           try clear hfz8_4
           try clear hfz9_0
           try clear hfz9_1
           try clear hfz9_2
           try clear hfz9_3
           try clear hfz9_4
           try clear hx142_0
           try clear hx142_1
           try clear hx142_2
           try clear hx142_3
           try clear hx142_4
           try clear hx144_0
           try clear p1
           try clear p14
           try clear p142
           try clear p144
           try clear p2
           try clear p6
           try clear q1
           try clear q14
           try clear q142
           try clear q144
           obtain ⟨kq, x9_24, rfl, HA, HJ24, BK141, HB⟩ := hcut
           cases kq with
           | zero => exact absurd HA.out (by simp [spec_l12Term.j3])
           | succ kj24 =>
            have H := HA.out
            clear HA
            simp only [spec_l12Term.j3] at H
            have HC30 := Aside0.mk H
            clear H
            go_upto_region 14 with (fail)
            go_cut [90] (fun v90 wc => ∃ (kq : Nat) (x90_29 : Bool), v90 = .bool x90_29 ∧ Aside0 (spec_l12Term.j4 kq l0 x90_29 a1_0 a1_1 a1_2 l1_3 l1_4 = some r) ∧ Aside0 (kq ≤ kj24) ∧ Aside0 (wc.heap[gb141]? = some (.cells #[.int .i64 a1_0, .int .i64 a1_1, .string a1_2, (.slice A1_3 l1_3.length c1_3), (.slice A1_4 l1_4.length c1_4)] 78 (0, 0))) ∧ Aside0 (Below w.heap.size w wc))
            case first =>
             have H := HC30.out
             clear HC30
             by_cases c31 : a1_0 = 1
             ·rw [if_pos c31] at H
              have c31b0 : (a1_0 == 1) = true := beq_iff_eq.mpr c31
              have c31b1 : (a1_0 != 1) = false := bne_eq_false_iff_eq.mpr c31
              clear c31
              (first | rw [c31b0] | (simp only [i64_w, i32_w]; rw [c31b0]) | skip)
              by_cases c32 : a1_0 = 2
              ·rw [if_pos c32] at H
               have c32b0 : (a1_0 == 2) = true := beq_iff_eq.mpr c32
               have c32b1 : (a1_0 != 2) = false := bne_eq_false_iff_eq.mpr c32
               clear c32
               by_cases c33 : x9_24 = true
               ·subst c33
                rw [if_pos rfl] at H
                have H' := Aside0.mk H
                clear H
                have hcz34_0 := zh BK141
                have hcz34_1 := zh1 BK141
                have hcz34_2 := zh2 BK141
                have hcz34_3 : wc.cell? ⟨gb141, 3, none⟩ = some (.slice A1_3 l1_3.length c1_3) := (blk_cell BK141.out 3).trans rfl
                have hcz34_4 : wc.cell? ⟨gb141, 4, none⟩ = some (.slice A1_4 l1_4.length c1_4) := (blk_cell BK141.out 4).trans rfl
                have hfz34_0 := zfr BK141 0
                have hfz34_1 := zfr BK141 1
                have hfz34_2 := zfr BK141 2
                have hfz34_3 := zfr BK141 3
                have hfz34_4 := zfr BK141 4
                go_wp2
                go_meet
                case rel => exact ⟨_, (false), y7, H', ⟨(y28 HJ3.out HK2.out HK3.out HJ24.out)⟩, ⟨(y8 BK141.out)⟩, ⟨(y2 HB.out GE141.out)⟩⟩
               ·replace c33 := Bool.eq_false_iff.mpr c33
                subst c33
                rw [if_neg (show ¬ (false = true) by decide)] at H
                have H' := Aside0.mk H
                clear H
                have hcz35_0 := zh BK141
                have hcz35_1 := zh1 BK141
                have hcz35_2 := zh2 BK141
                have hcz35_3 : wc.cell? ⟨gb141, 3, none⟩ = some (.slice A1_3 l1_3.length c1_3) := (blk_cell BK141.out 3).trans rfl
                have hcz35_4 : wc.cell? ⟨gb141, 4, none⟩ = some (.slice A1_4 l1_4.length c1_4) := (blk_cell BK141.out 4).trans rfl
                have hfz35_0 := zfr BK141 0
                have hfz35_1 := zfr BK141 1
                have hfz35_2 := zfr BK141 2
                have hfz35_3 := zfr BK141 3
                have hfz35_4 := zfr BK141 4
                go_wp2
                go_meet
                case rel => exact ⟨_, (decide ((l1_3.length : Int) > 0)), y7, H', ⟨(y28 HJ3.out HK2.out HK3.out HJ24.out)⟩, ⟨(y8 BK141.out)⟩, ⟨(y2 HB.out GE141.out)⟩⟩
              ·rw [if_neg c32] at H
               have c32b0 : (a1_0 == 2) = false := beq_eq_false_iff_ne.mpr c32
               have c32b1 : (a1_0 != 2) = true := bne_iff_ne.mpr c32
               by_cases c36 : a1_2.toList = ([] : List UInt8)
               ·rw [if_pos c36] at H
                have c36b0 : (a1_2.toList == ([] : List UInt8)) = true := beq_iff_eq.mpr c36
                have c36b1 : (a1_2.toList != ([] : List UInt8)) = false := bne_eq_false_iff_eq.mpr c36
                clear c36
                by_cases c37 : x9_24 = true
                ·subst c37
                 rw [if_pos rfl] at H
                 have H' := Aside0.mk H
                 clear H
                 have hcz38_0 := zh BK141
                 have hcz38_1 := zh1 BK141
                 have hcz38_2 := zh2 BK141
                 have hcz38_3 : wc.cell? ⟨gb141, 3, none⟩ = some (.slice A1_3 l1_3.length c1_3) := (blk_cell BK141.out 3).trans rfl
                 have hcz38_4 : wc.cell? ⟨gb141, 4, none⟩ = some (.slice A1_4 l1_4.length c1_4) := (blk_cell BK141.out 4).trans rfl
                 have hfz38_0 := zfr BK141 0
                 have hfz38_1 := zfr BK141 1
                 have hfz38_2 := zfr BK141 2
                 have hfz38_3 := zfr BK141 3
                 have hfz38_4 := zfr BK141 4
                 go_wp2
                 go_meet
                 case rel => exact ⟨_, (false), y7, H', ⟨(y28 HJ3.out HK2.out HK3.out HJ24.out)⟩, ⟨(y8 BK141.out)⟩, ⟨(y2 HB.out GE141.out)⟩⟩
                ·replace c37 := Bool.eq_false_iff.mpr c37
                 subst c37
                 rw [if_neg (show ¬ (false = true) by decide)] at H
                 have H' := Aside0.mk H
                 clear H
                 have hcz39_0 := zh BK141
                 have hcz39_1 := zh1 BK141
                 have hcz39_2 := zh2 BK141
                 have hcz39_3 : wc.cell? ⟨gb141, 3, none⟩ = some (.slice A1_3 l1_3.length c1_3) := (blk_cell BK141.out 3).trans rfl
                 have hcz39_4 : wc.cell? ⟨gb141, 4, none⟩ = some (.slice A1_4 l1_4.length c1_4) := (blk_cell BK141.out 4).trans rfl
                 have hfz39_0 := zfr BK141 0
                 have hfz39_1 := zfr BK141 1
                 have hfz39_2 := zfr BK141 2
                 have hfz39_3 := zfr BK141 3
                 have hfz39_4 := zfr BK141 4
                 go_wp2
                 go_meet
                 case rel => exact ⟨_, (decide ((l1_3.length : Int) > 0)), y7, H', ⟨(y28 HJ3.out HK2.out HK3.out HJ24.out)⟩, ⟨(y8 BK141.out)⟩, ⟨(y2 HB.out GE141.out)⟩⟩
               ·rw [if_neg c36] at H
                have c36b0 : (a1_2.toList == ([] : List UInt8)) = false := beq_eq_false_iff_ne.mpr c36
                have c36b1 : (a1_2.toList != ([] : List UInt8)) = true := bne_iff_ne.mpr c36
                have H' := Aside0.mk H
                clear H
                have hcz40_0 := zh BK141
                have hcz40_1 := zh1 BK141
                have hcz40_2 := zh2 BK141
                have hcz40_3 : wc.cell? ⟨gb141, 3, none⟩ = some (.slice A1_3 l1_3.length c1_3) := (blk_cell BK141.out 3).trans rfl
                have hcz40_4 : wc.cell? ⟨gb141, 4, none⟩ = some (.slice A1_4 l1_4.length c1_4) := (blk_cell BK141.out 4).trans rfl
                have hfz40_0 := zfr BK141 0
                have hfz40_1 := zfr BK141 1
                have hfz40_2 := zfr BK141 2
                have hfz40_3 := zfr BK141 3
                have hfz40_4 := zfr BK141 4
                go_wp2
                go_meet
                case rel => exact ⟨_, (true), y7, H', ⟨(y28 HJ3.out HK2.out HK3.out HJ24.out)⟩, ⟨(y8 BK141.out)⟩, ⟨(y2 HB.out GE141.out)⟩⟩
             ·rw [if_neg c31] at H
              have c31b0 : (a1_0 == 1) = false := beq_eq_false_iff_ne.mpr c31
              have c31b1 : (a1_0 != 1) = true := bne_iff_ne.mpr c31
              (first | rw [c31b0] | (simp only [i64_w, i32_w]; rw [c31b0]) | skip)
              by_cases c41 : a1_1 = 0
              ·rw [if_pos c41] at H
               have c41b0 : (a1_1 == 0) = true := beq_iff_eq.mpr c41
               have c41b1 : (a1_1 != 0) = false := bne_eq_false_iff_eq.mpr c41
               clear c41
               by_cases c42 : a1_0 = 2
               ·rw [if_pos c42] at H
                have c42b0 : (a1_0 == 2) = true := beq_iff_eq.mpr c42
                have c42b1 : (a1_0 != 2) = false := bne_eq_false_iff_eq.mpr c42
                clear c42
                by_cases c43 : x9_24 = true
                ·subst c43
                 rw [if_pos rfl] at H
                 have H' := Aside0.mk H
                 clear H
                 have hcz44_0 := zh BK141
                 have hcz44_1 := zh1 BK141
                 have hcz44_2 := zh2 BK141
                 have hcz44_3 : wc.cell? ⟨gb141, 3, none⟩ = some (.slice A1_3 l1_3.length c1_3) := (blk_cell BK141.out 3).trans rfl
                 have hcz44_4 : wc.cell? ⟨gb141, 4, none⟩ = some (.slice A1_4 l1_4.length c1_4) := (blk_cell BK141.out 4).trans rfl
                 have hfz44_0 := zfr BK141 0
                 have hfz44_1 := zfr BK141 1
                 have hfz44_2 := zfr BK141 2
                 have hfz44_3 := zfr BK141 3
                 have hfz44_4 := zfr BK141 4
                 go_wp2
                 go_meet
                 case rel => exact ⟨_, (false), y7, H', ⟨(y28 HJ3.out HK2.out HK3.out HJ24.out)⟩, ⟨(y8 BK141.out)⟩, ⟨(y2 HB.out GE141.out)⟩⟩
                ·replace c43 := Bool.eq_false_iff.mpr c43
                 subst c43
                 rw [if_neg (show ¬ (false = true) by decide)] at H
                 have H' := Aside0.mk H
                 clear H
                 have hcz45_0 := zh BK141
                 have hcz45_1 := zh1 BK141
                 have hcz45_2 := zh2 BK141
                 have hcz45_3 : wc.cell? ⟨gb141, 3, none⟩ = some (.slice A1_3 l1_3.length c1_3) := (blk_cell BK141.out 3).trans rfl
                 have hcz45_4 : wc.cell? ⟨gb141, 4, none⟩ = some (.slice A1_4 l1_4.length c1_4) := (blk_cell BK141.out 4).trans rfl
                 have hfz45_0 := zfr BK141 0
                 have hfz45_1 := zfr BK141 1
                 have hfz45_2 := zfr BK141 2
                 have hfz45_3 := zfr BK141 3
                 have hfz45_4 := zfr BK141 4
                 go_wp2
                 go_meet
                 case rel => exact ⟨_, (decide ((l1_3.length : Int) > 0)), y7, H', ⟨(y28 HJ3.out HK2.out HK3.out HJ24.out)⟩, ⟨(y8 BK141.out)⟩, ⟨(y2 HB.out GE141.out)⟩⟩
               ·rw [if_neg c42] at H
                have c42b0 : (a1_0 == 2) = false := beq_eq_false_iff_ne.mpr c42
                have c42b1 : (a1_0 != 2) = true := bne_iff_ne.mpr c42
                by_cases c46 : a1_2.toList = ([] : List UInt8)
                ·rw [if_pos c46] at H
                 have c46b0 : (a1_2.toList == ([] : List UInt8)) = true := beq_iff_eq.mpr c46
                 have c46b1 : (a1_2.toList != ([] : List UInt8)) = false := bne_eq_false_iff_eq.mpr c46
                 clear c46
                 by_cases c47 : x9_24 = true
                 ·subst c47
                  rw [if_pos rfl] at H
                  have H' := Aside0.mk H
                  clear H
                  have hcz48_0 := zh BK141
                  have hcz48_1 := zh1 BK141
                  have hcz48_2 := zh2 BK141
                  have hcz48_3 : wc.cell? ⟨gb141, 3, none⟩ = some (.slice A1_3 l1_3.length c1_3) := (blk_cell BK141.out 3).trans rfl
                  have hcz48_4 : wc.cell? ⟨gb141, 4, none⟩ = some (.slice A1_4 l1_4.length c1_4) := (blk_cell BK141.out 4).trans rfl
                  have hfz48_0 := zfr BK141 0
                  have hfz48_1 := zfr BK141 1
                  have hfz48_2 := zfr BK141 2
                  have hfz48_3 := zfr BK141 3
                  have hfz48_4 := zfr BK141 4
                  go_wp2
                  go_meet
                  case rel => exact ⟨_, (false), y7, H', ⟨(y28 HJ3.out HK2.out HK3.out HJ24.out)⟩, ⟨(y8 BK141.out)⟩, ⟨(y2 HB.out GE141.out)⟩⟩
                 ·replace c47 := Bool.eq_false_iff.mpr c47
                  subst c47
                  rw [if_neg (show ¬ (false = true) by decide)] at H
                  have H' := Aside0.mk H
                  clear H
                  have hcz49_0 := zh BK141
                  have hcz49_1 := zh1 BK141
                  have hcz49_2 := zh2 BK141
                  have hcz49_3 : wc.cell? ⟨gb141, 3, none⟩ = some (.slice A1_3 l1_3.length c1_3) := (blk_cell BK141.out 3).trans rfl
                  have hcz49_4 : wc.cell? ⟨gb141, 4, none⟩ = some (.slice A1_4 l1_4.length c1_4) := (blk_cell BK141.out 4).trans rfl
                  have hfz49_0 := zfr BK141 0
                  have hfz49_1 := zfr BK141 1
                  have hfz49_2 := zfr BK141 2
                  have hfz49_3 := zfr BK141 3
                  have hfz49_4 := zfr BK141 4
                  go_wp2
                  go_meet
                  case rel => exact ⟨_, (decide ((l1_3.length : Int) > 0)), y7, H', ⟨(y28 HJ3.out HK2.out HK3.out HJ24.out)⟩, ⟨(y8 BK141.out)⟩, ⟨(y2 HB.out GE141.out)⟩⟩
                ·rw [if_neg c46] at H
                 have c46b0 : (a1_2.toList == ([] : List UInt8)) = false := beq_eq_false_iff_ne.mpr c46
                 have c46b1 : (a1_2.toList != ([] : List UInt8)) = true := bne_iff_ne.mpr c46
                 have H' := Aside0.mk H
                 clear H
                 have hcz50_0 := zh BK141
                 have hcz50_1 := zh1 BK141
                 have hcz50_2 := zh2 BK141
                 have hcz50_3 : wc.cell? ⟨gb141, 3, none⟩ = some (.slice A1_3 l1_3.length c1_3) := (blk_cell BK141.out 3).trans rfl
                 have hcz50_4 : wc.cell? ⟨gb141, 4, none⟩ = some (.slice A1_4 l1_4.length c1_4) := (blk_cell BK141.out 4).trans rfl
                 have hfz50_0 := zfr BK141 0
                 have hfz50_1 := zfr BK141 1
                 have hfz50_2 := zfr BK141 2
                 have hfz50_3 := zfr BK141 3
                 have hfz50_4 := zfr BK141 4
                 go_wp2
                 go_meet
                 case rel => exact ⟨_, (true), y7, H', ⟨(y28 HJ3.out HK2.out HK3.out HJ24.out)⟩, ⟨(y8 BK141.out)⟩, ⟨(y2 HB.out GE141.out)⟩⟩
              ·rw [if_neg c41] at H
               have c41b0 : (a1_1 == 0) = false := beq_eq_false_iff_ne.mpr c41
               have c41b1 : (a1_1 != 0) = true := bne_iff_ne.mpr c41
               have H' := Aside0.mk H
               clear H
               have hcz51_0 := zh BK141
               have hcz51_1 := zh1 BK141
               have hcz51_2 := zh2 BK141
               have hcz51_3 : wc.cell? ⟨gb141, 3, none⟩ = some (.slice A1_3 l1_3.length c1_3) := (blk_cell BK141.out 3).trans rfl
               have hcz51_4 : wc.cell? ⟨gb141, 4, none⟩ = some (.slice A1_4 l1_4.length c1_4) := (blk_cell BK141.out 4).trans rfl
               have hfz51_0 := zfr BK141 0
               have hfz51_1 := zfr BK141 1
               have hfz51_2 := zfr BK141 2
               have hfz51_3 := zfr BK141 3
               have hfz51_4 := zfr BK141 4
               go_wp2
               go_meet
               case rel => exact ⟨_, (true), y7, H', ⟨(y28 HJ3.out HK2.out HK3.out HJ24.out)⟩, ⟨(y8 BK141.out)⟩, ⟨(y2 HB.out GE141.out)⟩⟩
            case rest =>
             clear HC30
             try clear c1
             try clear p1
             try clear q1
             try clear hx1
             try clear c2
             try clear p2
             try clear c3
             try clear c4
             try clear c6
             try clear c6b0
             try clear p6
             try clear c7
             try clear c7b0
             try clear c7b1
             try clear c10
             try clear c11
             try clear c11b0
             try clear c12
             try clear c12b0
             try clear c14
             try clear p14
             try clear q14
             try clear hx14
             try clear c17
             try clear c19
             try clear c19b0
             try clear c20
             try clear c20b0
             try clear c24
             try clear c27
             try clear c27b0
             try clear c27b1
             try clear c31
             try clear c31b0
             try clear c31b1
             try clear c32
             try clear c32b0
             try clear c32b1
             try clear c33
             try clear c36
             try clear c36b0
             try clear c36b1
             try clear c37
             try clear c41
             try clear c41b0
             try clear c41b1
             try clear c42
             try clear c42b0
             try clear c42b1
             try clear c43
             try clear c46
             try clear c46b0
             try clear c46b1
             try clear c47
             try clear hcz15_0
             try clear hcz15_1
             try clear hcz15_2
             try clear hcz15_3
             try clear hcz15_4
             try clear hcz18_0
             try clear hcz18_1
             try clear hcz18_2
             try clear hcz18_3
             try clear hcz18_4
             try clear hcz23_0
             try clear hcz23_1
             try clear hcz23_2
             try clear hcz23_3
             try clear hcz23_4
             try clear hcz26_0
             try clear hcz26_1
             try clear hcz26_2
             try clear hcz26_3
             try clear hcz26_4
             try clear hcz28_0
             try clear hcz28_1
             try clear hcz28_2
             try clear hcz28_3
             try clear hcz28_4
             try clear hcz29_0
             try clear hcz29_1
             try clear hcz29_2
             try clear hcz29_3
             try clear hcz29_4
             try clear hcz34_0
             try clear hcz34_1
             try clear hcz34_2
             try clear hcz34_3
             try clear hcz34_4
             try clear hcz35_0
             try clear hcz35_1
             try clear hcz35_2
             try clear hcz35_3
             try clear hcz35_4
             try clear hcz38_0
             try clear hcz38_1
             try clear hcz38_2
             try clear hcz38_3
             try clear hcz38_4
             try clear hcz39_0
             try clear hcz39_1
             try clear hcz39_2
             try clear hcz39_3
             try clear hcz39_4
             try clear hcz40_0
             try clear hcz40_1
             try clear hcz40_2
             try clear hcz40_3
             try clear hcz40_4
             try clear hcz44_0
             try clear hcz44_1
             try clear hcz44_2
             try clear hcz44_3
             try clear hcz44_4
             try clear hcz45_0
             try clear hcz45_1
             try clear hcz45_2
             try clear hcz45_3
             try clear hcz45_4
             try clear hcz48_0
             try clear hcz48_1
             try clear hcz48_2
             try clear hcz48_3
             try clear hcz48_4
             try clear hcz49_0
             try clear hcz49_1
             try clear hcz49_2
             try clear hcz49_3
             try clear hcz49_4
             try clear hcz50_0
             try clear hcz50_1
             try clear hcz50_2
             try clear hcz50_3
             try clear hcz50_4
             try clear hcz51_0
             try clear hcz51_1
             try clear hcz51_2
             try clear hcz51_3
             try clear hcz51_4
             try clear hcz8_0
             try clear hcz8_1
             try clear hcz8_2
             try clear hcz8_3
             try clear hcz8_4
             try clear hcz9_0
             try clear hcz9_1
             try clear hcz9_2
             try clear hcz9_3
             try clear hcz9_4
             try clear hfz15_0
             try clear hfz15_1
             try clear hfz15_2
             try clear hfz15_3
             try clear hfz15_4
             try clear hfz18_0
             try clear hfz18_1
             try clear hfz18_2
             try clear hfz18_3
             try clear hfz18_4
             try clear hfz23_0
             try clear hfz23_1
             try clear hfz23_2
             try clear hfz23_3
             try clear hfz23_4
             try clear hfz26_0
             try clear hfz26_1
             try clear hfz26_2
             try clear hfz26_3
             try clear hfz26_4
             try clear hfz28_0
             try clear hfz28_1
             try clear hfz28_2
             try clear hfz28_3
             try clear hfz28_4
             try clear hfz29_0
             try clear hfz29_1
             try clear hfz29_2
             try clear hfz29_3
             try clear hfz29_4
             try clear hfz34_0
             try clear hfz34_1
             try clear hfz34_2
             try clear hfz34_3
             try clear hfz34_4
             try clear hfz35_0
             try clear hfz35_1
             try clear hfz35_2
             try clear hfz35_3
             try clear hfz35_4
             try clear hfz38_0
             try clear hfz38_1
             try clear hfz38_2
             try clear hfz38_3
             try clear hfz38_4
             try clear hfz39_0
             try clear hfz39_1
             try clear hfz39_2
             try clear hfz39_3
             try clear hfz39_4
             try clear hfz40_0
             try clear hfz40_1
             try clear hfz40_2
             try clear hfz40_3
             try clear hfz40_4
             try clear hfz44_0
             try clear hfz44_1
             try clear hfz44_2
             try clear hfz44_3
             try clear hfz44_4
             try clear hfz45_0
             try clear hfz45_1
             try clear hfz45_2
             try clear hfz45_3
             try clear hfz45_4
             try clear hfz48_0
             try clear hfz48_1
             try clear hfz48_2
             try clear hfz48_3
             try clear hfz48_4
             try clear hfz49_0
             try clear hfz49_1
             try clear hfz49_2
             try clear hfz49_3
             try clear hfz49_4
             try clear hfz50_0
             try clear hfz50_1
             try clear hfz50_2
             try clear hfz50_3
             try clear hfz50_4
             try clear hfz51_0
             try clear hfz51_1
             try clear hfz51_2
             try clear hfz51_3
             try clear hfz51_4
             try clear hfz8_0
             try clear hfz8_1
             try clear hfz8_2
             try clear hfz8_3
             try clear hfz8_4
             try clear hfz9_0
             try clear hfz9_1
             try clear hfz9_2
             try clear hfz9_3
             try clear hfz9_4
             try clear hx142_0
             try clear hx142_1
             try clear hx142_2
             try clear hx142_3
             try clear hx142_4
             try clear hx144_0
             try clear p1
             try clear p14
             try clear p142
             try clear p144
             try clear p2
             try clear p6
             try clear q1
             try clear q14
             try clear q142
             try clear q144
             obtain ⟨kq, x90_29, rfl, HA, HJ29, BK141, HB⟩ := hcut
             cases kq with
             | zero => exact absurd HA.out (by simp [spec_l12Term.j4])
             | succ kj29 =>
              have H := HA.out
              clear HA
              simp only [spec_l12Term.j4] at H
              by_cases c52 : x90_29 = true
              ·subst c52
               rw [if_pos rfl] at H
               obtain rfl := Option.some.inj H
               go_wp2
               go_ret
               exact ⟨y6, (y2 HB.out GE141.out)⟩
              ·replace c52 := Bool.eq_false_iff.mpr c52
               subst c52
               rw [if_neg (show ¬ (false = true) by decide)] at H
               by_cases c53 : a1_0 = 1
               ·rw [if_pos c53] at H
                have c53b0 : (a1_0 == 1) = true := beq_iff_eq.mpr c53
                have c53b1 : (a1_0 != 1) = false := bne_eq_false_iff_eq.mpr c53
                clear c53
                obtain ⟨t146, A540, H⟩ := ob H
                have A54 := Aside0.mk A540
                clear A540
                by_cases c55 : t146 = true
                ·subst c55
                 rw [if_pos rfl] at H
                 obtain rfl := Option.some.inj H
                 have hcz56_0 := zh BK141
                 have hcz56_1 := zh1 BK141
                 have hcz56_2 := zh2 BK141
                 have hcz56_3 : wc.cell? ⟨gb141, 3, none⟩ = some (.slice A1_3 l1_3.length c1_3) := (blk_cell BK141.out 3).trans rfl
                 have hcz56_4 : wc.cell? ⟨gb141, 4, none⟩ = some (.slice A1_4 l1_4.length c1_4) := (blk_cell BK141.out 4).trans rfl
                 have hfz56_0 := zfr BK141 0
                 have hfz56_1 := zfr BK141 1
                 have hfz56_2 := zfr BK141 2
                 have hfz56_3 := zfr BK141 3
                 have hfz56_4 := zfr BK141 4
                 go_wp2_with (first | ((with_reducible refine gate_callee (f := 61) rfl ?_); refine goesL_ (some 97) rfl rfl Try.func61 (by kernel_rfl) rfl #[.int .i64 a1_1, .int .i64 0, .int .i64 9999] rfl y3 ?_; (with_reducible refine (spec_l6In.calls a1_1 0 9999 true _ A54.out).mono ?_); rintro e w' ⟨rfl, ⟨nd, rfl⟩⟩; refine ⟨_, rfl, ?_⟩))
                 go_ret
                 exact ⟨y6, (y2 HB.out GE141.out)⟩
                ·replace c55 := Bool.eq_false_iff.mpr c55
                 subst c55
                 rw [if_neg (show ¬ (false = true) by decide)] at H
                 obtain rfl := Option.some.inj H
                 have hcz57_0 := zh BK141
                 have hcz57_1 := zh1 BK141
                 have hcz57_2 := zh2 BK141
                 have hcz57_3 : wc.cell? ⟨gb141, 3, none⟩ = some (.slice A1_3 l1_3.length c1_3) := (blk_cell BK141.out 3).trans rfl
                 have hcz57_4 : wc.cell? ⟨gb141, 4, none⟩ = some (.slice A1_4 l1_4.length c1_4) := (blk_cell BK141.out 4).trans rfl
                 have hfz57_0 := zfr BK141 0
                 have hfz57_1 := zfr BK141 1
                 have hfz57_2 := zfr BK141 2
                 have hfz57_3 := zfr BK141 3
                 have hfz57_4 := zfr BK141 4
                 go_wp2_with (first | ((with_reducible refine gate_callee (f := 61) rfl ?_); refine goesL_ (some 97) rfl rfl Try.func61 (by kernel_rfl) rfl #[.int .i64 a1_1, .int .i64 0, .int .i64 9999] rfl y3 ?_; (with_reducible refine (spec_l6In.calls a1_1 0 9999 false _ A54.out).mono ?_); rintro e w' ⟨rfl, ⟨nd, rfl⟩⟩; refine ⟨_, rfl, ?_⟩))
                 go_ret
                 exact ⟨y6, (y2 HB.out GE141.out)⟩
               ·rw [if_neg c53] at H
                have c53b0 : (a1_0 == 1) = false := beq_eq_false_iff_ne.mpr c53
                have c53b1 : (a1_0 != 1) = true := bne_iff_ne.mpr c53
                by_cases c58 : a1_0 = 2
                ·rw [if_pos c58] at H
                 have c58b0 : (a1_0 == 2) = true := beq_iff_eq.mpr c58
                 have c58b1 : (a1_0 != 2) = false := bne_eq_false_iff_eq.mpr c58
                 clear c58
                 obtain ⟨t147, A590, H⟩ := ob H
                 have A59 := Aside0.mk A590
                 clear A590
                 by_cases c60 : t147 = true
                 ·subst c60
                  rw [if_pos rfl] at H
                  obtain rfl := Option.some.inj H
                  have hcz61_0 := zh BK141
                  have hcz61_1 := zh1 BK141
                  have hcz61_2 := zh2 BK141
                  have hcz61_3 : wc.cell? ⟨gb141, 3, none⟩ = some (.slice A1_3 l1_3.length c1_3) := (blk_cell BK141.out 3).trans rfl
                  have hcz61_4 : wc.cell? ⟨gb141, 4, none⟩ = some (.slice A1_4 l1_4.length c1_4) := (blk_cell BK141.out 4).trans rfl
                  have hfz61_0 := zfr BK141 0
                  have hfz61_1 := zfr BK141 1
                  have hfz61_2 := zfr BK141 2
                  have hfz61_3 := zfr BK141 3
                  have hfz61_4 := zfr BK141 4
                  go_wp2_with (first | ((with_reducible refine gate_callee (f := 19) rfl ?_); refine goesL_ (some 109) rfl rfl Try.func19 (by kernel_rfl) rfl #[.slice A0 l0.length c0, .string a1_2] rfl y3 ?_; (with_reducible refine (spec_l12Has.calls kj29 _ _ l0 a1_2 true _ ?side1 ?side2 A59.out).mono ?_); (case side1 => exact y0 HR0.out HB.out); (case side2 => exact HC0.out); rintro e w' ⟨rfl, ⟨nd, rfl⟩⟩; refine ⟨_, rfl, ?_⟩))
                  go_ret
                  exact ⟨y6, (y2 HB.out GE141.out)⟩
                 ·replace c60 := Bool.eq_false_iff.mpr c60
                  subst c60
                  rw [if_neg (show ¬ (false = true) by decide)] at H
                  obtain rfl := Option.some.inj H
                  have hcz62_0 := zh BK141
                  have hcz62_1 := zh1 BK141
                  have hcz62_2 := zh2 BK141
                  have hcz62_3 : wc.cell? ⟨gb141, 3, none⟩ = some (.slice A1_3 l1_3.length c1_3) := (blk_cell BK141.out 3).trans rfl
                  have hcz62_4 : wc.cell? ⟨gb141, 4, none⟩ = some (.slice A1_4 l1_4.length c1_4) := (blk_cell BK141.out 4).trans rfl
                  have hfz62_0 := zfr BK141 0
                  have hfz62_1 := zfr BK141 1
                  have hfz62_2 := zfr BK141 2
                  have hfz62_3 := zfr BK141 3
                  have hfz62_4 := zfr BK141 4
                  go_wp2_with (first | ((with_reducible refine gate_callee (f := 19) rfl ?_); refine goesL_ (some 109) rfl rfl Try.func19 (by kernel_rfl) rfl #[.slice A0 l0.length c0, .string a1_2] rfl y3 ?_; (with_reducible refine (spec_l12Has.calls kj29 _ _ l0 a1_2 false _ ?side1 ?side2 A59.out).mono ?_); (case side1 => exact y0 HR0.out HB.out); (case side2 => exact HC0.out); rintro e w' ⟨rfl, ⟨nd, rfl⟩⟩; refine ⟨_, rfl, ?_⟩))
                  go_ret
                  exact ⟨y6, (y2 HB.out GE141.out)⟩
                ·rw [if_neg c58] at H
                 have c58b0 : (a1_0 == 2) = false := beq_eq_false_iff_ne.mpr c58
                 have c58b1 : (a1_0 != 2) = true := bne_iff_ne.mpr c58
                 by_cases c63 : a1_0 = 7
                 ·rw [if_pos c63] at H
                  have c63b0 : (a1_0 == 7) = true := beq_iff_eq.mpr c63
                  have c63b1 : (a1_0 != 7) = false := bne_eq_false_iff_eq.mpr c63
                  clear c63
                  obtain rfl := Option.some.inj H
                  have hcz64_0 := zh BK141
                  have hcz64_1 := zh1 BK141
                  have hcz64_2 := zh2 BK141
                  have hcz64_3 : wc.cell? ⟨gb141, 3, none⟩ = some (.slice A1_3 l1_3.length c1_3) := (blk_cell BK141.out 3).trans rfl
                  have hcz64_4 : wc.cell? ⟨gb141, 4, none⟩ = some (.slice A1_4 l1_4.length c1_4) := (blk_cell BK141.out 4).trans rfl
                  have hfz64_0 := zfr BK141 0
                  have hfz64_1 := zfr BK141 1
                  have hfz64_2 := zfr BK141 2
                  have hfz64_3 := zfr BK141 3
                  have hfz64_4 := zfr BK141 4
                  go_wp2
                  go_ret
                  exact ⟨y6, (y2 HB.out GE141.out)⟩
                 ·rw [if_neg c63] at H
                  have c63b0 : (a1_0 == 7) = false := beq_eq_false_iff_ne.mpr c63
                  have c63b1 : (a1_0 != 7) = true := bne_iff_ne.mpr c63
                  obtain ⟨t148, A650, H⟩ := ob H
                  have A65 := Aside0.mk A650
                  clear A650
                  by_cases c66 : t148 = true
                  ·subst c66
                   rw [if_pos rfl] at H
                   obtain rfl := Option.some.inj H
                   have hcz67_0 := zh BK141
                   have hcz67_1 := zh1 BK141
                   have hcz67_2 := zh2 BK141
                   have hcz67_3 : wc.cell? ⟨gb141, 3, none⟩ = some (.slice A1_3 l1_3.length c1_3) := (blk_cell BK141.out 3).trans rfl
                   have hcz67_4 : wc.cell? ⟨gb141, 4, none⟩ = some (.slice A1_4 l1_4.length c1_4) := (blk_cell BK141.out 4).trans rfl
                   have hfz67_0 := zfr BK141 0
                   have hfz67_1 := zfr BK141 1
                   have hfz67_2 := zfr BK141 2
                   have hfz67_3 := zfr BK141 3
                   have hfz67_4 := zfr BK141 4
                   go_wp2_with (first | ((with_reducible refine gate_callee (f := 61) rfl ?_); refine goesL_ (some 124) rfl rfl Try.func61 (by kernel_rfl) rfl #[.int .i64 a1_0, .int .i64 3, .int .i64 8] rfl y3 ?_; (with_reducible refine (spec_l6In.calls a1_0 3 8 true _ A65.out).mono ?_); rintro e w' ⟨rfl, ⟨nd, rfl⟩⟩; refine ⟨_, rfl, ?_⟩))
                   go_ret
                   exact ⟨y6, (y2 HB.out GE141.out)⟩
                  ·replace c66 := Bool.eq_false_iff.mpr c66
                   subst c66
                   rw [if_neg (show ¬ (false = true) by decide)] at H
                   obtain rfl := Option.some.inj H
                   have hcz68_0 := zh BK141
                   have hcz68_1 := zh1 BK141
                   have hcz68_2 := zh2 BK141
                   have hcz68_3 : wc.cell? ⟨gb141, 3, none⟩ = some (.slice A1_3 l1_3.length c1_3) := (blk_cell BK141.out 3).trans rfl
                   have hcz68_4 : wc.cell? ⟨gb141, 4, none⟩ = some (.slice A1_4 l1_4.length c1_4) := (blk_cell BK141.out 4).trans rfl
                   have hfz68_0 := zfr BK141 0
                   have hfz68_1 := zfr BK141 1
                   have hfz68_2 := zfr BK141 2
                   have hfz68_3 := zfr BK141 3
                   have hfz68_4 := zfr BK141 4
                   go_wp2_with (first | ((with_reducible refine gate_callee (f := 61) rfl ?_); refine goesL_ (some 124) rfl rfl Try.func61 (by kernel_rfl) rfl #[.int .i64 a1_0, .int .i64 3, .int .i64 8] rfl y3 ?_; (with_reducible refine (spec_l6In.calls a1_0 3 8 false _ A65.out).mono ?_); rintro e w' ⟨rfl, ⟨nd, rfl⟩⟩; refine ⟨_, rfl, ?_⟩))
                   go_ret
                   exact ⟨y6, (y2 HB.out GE141.out)⟩
end Go.Proofs.Ytdgpegkgelciaaa.PA
end
section
namespace Go.Proofs.Ytdgpegkgelciaaa.PA
open Go.RowKit Go.Proofs.YtdgpegkgelciaaaW.PrintWords Go.Proofs.YtdgpegkgelciaaaW.PrintLast Go.Proofs.YtdgpegkgelciaaaW.PrintMore
attribute [local go_sem] max2_int min2_int max_two min_two max_three min_three max_four min_four
set_option linter.unusedVariables false
set_option linter.unusedSimpArgs false
def spec_l12Terms.l0 : Nat → List ByteArray → List (S78) → Int → Option (Bool)
 | 0, _, _, _ => none
 | k + 1, x0, x1, x5 => if x5 < (x1.length : Int) then (if 0 ≤ x5 then ((spec_l12Term.f k x0 ((rd_T78 x1 x5).f0) ((rd_T78 x1 x5).f1) ((rd_T78 x1 x5).f2) ((rd_T78 x1 x5).f3) ((rd_T78 x1 x5).f4) 8).bind fun t150 => (if t150 = true then (spec_l12Terms.l0 k x0 x1 (wrap64 (x5 + 1))) else (some false))) else (none)) else (some true)
def spec_l12Terms.f (k : Nat) (l0 : List ByteArray) (l1 : List (S78)) : Option (Bool) := if (l1.length : Int) > 60 then (some false) else (spec_l12Terms.l0 k l0 l1 0)
theorem spec_l12Terms.mono_l : ∀ k, (∀ y0 y1 y2, LeO (spec_l12Terms.l0 k y0 y1 y2) (spec_l12Terms.l0 (k + 1) y0 y1 y2))
 | 0 => fun _ _ _ r h => by simp [spec_l12Terms.l0] at h
 | k + 1 => by
  have ih0 := spec_l12Terms.mono_l k
  ·intro y0 y1 y2
   unfold spec_l12Terms.l0
   repeat' first
   | (with_reducible exact ih0 _ _ _)
   | (with_reducible exact spec_l12Term.mono _ _ _ _ _ _ _ _)
   | (with_reducible exact LeO.refl _)
   | (with_reducible exact LeO.none _)
   | (with_reducible refine LeO.ite ?_ ?_)
   | (with_reducible refine LeO.bind ?_ (fun _ => ?_))
   | exact ih0 _ _ _
   | exact spec_l12Term.mono _ _ _ _ _ _ _ _
   | exact LeO.none _
   | refine LeO.ite ?_ ?_
   | refine LeO.bind ?_ (fun _ => ?_)
theorem spec_l12Terms.mono : ∀ a0 a1 k, LeO (spec_l12Terms.f k a0 a1) (spec_l12Terms.f (k + 1) a0 a1) := by
 intro a0 a1 k
 have ih0 := spec_l12Terms.mono_l k
 unfold spec_l12Terms.f
 repeat' first
   | (with_reducible exact ih0 _ _ _)
   | (with_reducible exact spec_l12Term.mono _ _ _ _ _ _ _ _)
   | (with_reducible exact LeO.refl _)
   | (with_reducible exact LeO.none _)
   | (with_reducible refine LeO.ite ?_ ?_)
   | (with_reducible refine LeO.bind ?_ (fun _ => ?_))
   | exact ih0 _ _ _
   | exact spec_l12Term.mono _ _ _ _ _ _ _ _
   | exact LeO.none _
   | refine LeO.ite ?_ ?_
   | refine LeO.bind ?_ (fun _ => ?_)
set_option maxHeartbeats 8000000 in
set_option maxRecDepth 100000 in
theorem spec_l12Terms.calls (k : Nat) (A0 : Option Addr) (c0 : Nat) (l0 : List ByteArray) (A1 : Option Addr) (c1 : Nat) (l1 : List (S78)) (r : Bool) (w : World) (hr0 : Kd.C Kd.string w A0 l0.length l0) (hc0 : l0.length ≤ c0) (hr1 : Kd.C k78 w A1 l1.length l1) (hc1 : l1.length ≤ c1) (h : spec_l12Terms.f k l0 l1 = some r) :
  Calls Try.prog 34 #[.slice A0 l0.length c0, .slice A1 l1.length c1] w fun e w' => e = .returned (.bool r) ∧ Below w.heap.size w w' := by
 have hu78 := Try.underlying78
 have HR0 := Aside0.mk hr0
 have HC0 := Aside0.mk hc0
 clear hr0 hc0
 have HR1 := Aside0.mk hr1
 have HC1 := Aside0.mk hc1
 clear hr1 hc1
 have HB := Aside0.mk (Below.refl w.heap.size w)
 have H : (if (l1.length : Int) > 60 then (some false) else (spec_l12Terms.l0 k l0 l1 0)) = some r := h
 clear h
 by_cases c3 : (l1.length : Int) > 60
 ·rw [if_pos c3] at H
  have c3b0 : decide (60 < (l1.length : Int)) = true := decide_eq_true c3
  have c3b1 : decide (60 < l1.length) = true := decide_eq_true (by omega)
  clear c3
  obtain rfl := Option.some.inj H
  go_enter Try.func34, Try.ntmps34
  go_wp2
  go_ret
  exact ⟨y6, (y1 HB.out)⟩
 ·rw [if_neg c3] at H
  have c3b0 : decide (60 < (l1.length : Int)) = false := decide_eq_false c3
  have c3b1 : decide (60 < l1.length) = false := decide_eq_false (by omega)
  clear c3
  have H' := Aside0.mk H
  clear H
  go_enter Try.func34, Try.ntmps34
  go_wp2
  go_loopg [5] k (fun kq v5 w' => ∃ (x5_1 : Int), v5 = .int .i64 x5_1 ∧ Aside0 (spec_l12Terms.l0 kq l0 l1 x5_1 = some r) ∧ Aside0 (kq ≤ k) ∧ Aside0 (Below w.heap.size w w'))
  case atStart => exact ⟨(0), y7, H', ⟨Nat.le_refl _⟩, ⟨(y1 HB.out)⟩⟩
  case round =>
   clear H'
   try clear c1
   try clear p2
   try clear c3
   try clear c3b0
   try clear c3b1
   obtain ⟨x5_1, rfl, HA, HK1, HB⟩ := hrel
   cases gk with
   | zero => exact absurd HA.out (by simp [spec_l12Terms.l0])
   | succ k1 =>
    have H := HA.out
    clear HA
    simp only [spec_l12Terms.l0] at H
    by_cases c4 : x5_1 < (l1.length : Int)
    ·rw [if_pos c4] at H
     have c4b0 : decide (x5_1 < (l1.length : Int)) = true := decide_eq_true c4
     clear c4
     by_cases c5 : 0 ≤ x5_1
     ·rw [if_pos c5] at H
      have c5b0 : decide (0 ≤ x5_1) = true := decide_eq_true c5
      clear c5
      obtain ⟨t150, A60, H⟩ := ob H
      have A6 := Aside0.mk A60
      clear A60
      have HZ7 := Aside0.mk H
      clear H
      have p149 : 0 ≤ (x5_1 : Int) := of_decide_eq_true y4
      have q149 : x5_1 < (l1.length : Int) := of_decide_eq_true y4
      obtain ⟨ad149, A149_3, c149_3, A149_4, c149_4, e149, hx149_0, hx149_1, hx149_2, hx149_3, hx149_4, hl149_3, hi149_3, hl149_4, hi149_4⟩ := at_T78 HR1.out x5_1 p149 q149
      cases e149
      replace hx149_0 := (HB.out.cell (World.block_lt_of_cell? w _ hx149_0)).trans hx149_0
      replace hx149_1 := (HB.out.cell (World.block_lt_of_cell? w _ hx149_1)).trans hx149_1
      replace hx149_2 := (HB.out.cell (World.block_lt_of_cell? w _ hx149_2)).trans hx149_2
      replace hx149_3 := (HB.out.cell (World.block_lt_of_cell? w _ hx149_3)).trans hx149_3
      replace hx149_4 := (HB.out.cell (World.block_lt_of_cell? w _ hx149_4)).trans hx149_4
      have HR149_3 := Aside0.mk hi149_3
      have HC149_3 := Aside0.mk hl149_3
      clear hi149_3 hl149_3
      have HR149_4 := Aside0.mk hi149_4
      have HC149_4 := Aside0.mk hl149_4
      clear hi149_4 hl149_4
      replace p149 := eq_true p149
      replace q149 := eq_true q149
      go_upto_if 21 with (first | ((with_reducible refine gate_callee (f := 49) rfl ?_); refine goesL_ (some 20) rfl rfl Try.func49 (by kernel_rfl) rfl #[.slice A0 l0.length c0, .agg #[.int .i64 ((rd_T78 l1 x5_1).f0), .int .i64 ((rd_T78 l1 x5_1).f1), .string ((rd_T78 l1 x5_1).f2), .slice A149_3 ((rd_T78 l1 x5_1).f3).length c149_3, .slice A149_4 ((rd_T78 l1 x5_1).f4).length c149_4], .int .i64 8] rfl y3 ?_; (with_reducible refine (spec_l12Term.calls k1 _ _ l0 ((rd_T78 l1 x5_1).f0) ((rd_T78 l1 x5_1).f1) ((rd_T78 l1 x5_1).f2) _ _ ((rd_T78 l1 x5_1).f3) _ _ ((rd_T78 l1 x5_1).f4) 8 t150 _ ?side1 ?side2 ?side3 ?side4 ?side5 ?side6 A6.out).mono ?_); (case side1 => exact y0 HR0.out HB.out); (case side2 => exact HC0.out); (case side3 => exact y0 HR149_3.out HB.out); (case side4 => exact HC149_3.out); (case side5 => exact y0 HR149_4.out HB.out); (case side6 => exact HC149_4.out); rintro e w8 ⟨rfl, hb⟩; refine ⟨_, rfl, ?_⟩; replace HB := Aside0.mk (below_step (y1 HB.out) hb); (try clear hb); (try clear hb2); (try clear hk); (try clear hi)))
      (try simp only [Act.put, List.setIfInBounds_toArray, List.set_cons_zero, List.set_cons_succ])
      have H := HZ7.out
      clear HZ7
      by_cases c9 : t150 = true
      ·subst c9
       rw [if_pos rfl] at H
       have H' := Aside0.mk H
       clear H
       go_wp2
       go_roundg k1
       case measure => have := HK1.out; omega
       case rel => exact ⟨(wrap64 (x5_1 + 1)), y7, H', ⟨(y30 HK1.out)⟩, ⟨(y1 HB.out)⟩⟩
      ·replace c9 := Bool.eq_false_iff.mpr c9
       subst c9
       rw [if_neg (show ¬ (false = true) by decide)] at H
       obtain rfl := Option.some.inj H
       go_wp2
       go_ret
       exact ⟨y6, (y1 HB.out)⟩
     ·rw [if_neg c5] at H
      exact absurd H (by simp)
    ·rw [if_neg c4] at H
     have c4b0 : decide (x5_1 < (l1.length : Int)) = false := decide_eq_false c4
     clear c4
     obtain rfl := Option.some.inj H
     go_wp2
     go_ret
     exact ⟨y6, (y1 HB.out)⟩
end Go.Proofs.Ytdgpegkgelciaaa.PA
end
