-- Ytdgpegkgelciaaa's texts for the statement FnExactSimpSize, one behind the other (merge.py).
import Derived.Test.YtdgpegkgelciaaaQFnExactSimpSize0
import Derived.Test.YtdgpegkgelciaaaQFnExactSimpSize2
section
namespace Go.Proofs.Ytdgpegkgelciaaa.PA
open Go.RowKit Go.Proofs.YtdgpegkgelciaaaW.PrintWords Go.Proofs.YtdgpegkgelciaaaW.PrintLast Go.Proofs.YtdgpegkgelciaaaW.PrintMore
attribute [local go_sem] max2_int min2_int max_two min_two max_three min_three max_four min_four
set_option linter.unusedVariables false
set_option linter.unusedSimpArgs false
mutual
def spec_l12Bind.j0 (rec_ : List (S45) → Int → List ByteArray → List (S64) → List (S78) → Int → Option (Bool)) : Nat → List (S45) → Int → List ByteArray → Int → Bool → Int → List ByteArray → ByteArray → List (S78) → List (S64) → List (S78) → List (S64) → List (S78) → Option (Bool)
 | 0, _, _, _, _, _, _, _, _, _, _, _, _, _ => none
 | k + 1, x0, x1, x2, x4, x26, x178000, x178001, x178002, x178003, x178004, x178005, x178006, x178007 => if x26 = true then (some false) else (spec_l12Bind.l0 rec_ k x0 x1 x2 x4 0 x178000 x178001 x178002 x178003 x178004 x178005 x178006 x178007)
def spec_l12Bind.l0 (rec_ : List (S45) → Int → List ByteArray → List (S64) → List (S78) → Int → Option (Bool)) : Nat → List (S45) → Int → List ByteArray → Int → Int → Int → List ByteArray → ByteArray → List (S78) → List (S64) → List (S78) → List (S64) → List (S78) → Option (Bool)
 | 0, _, _, _, _, _, _, _, _, _, _, _, _, _ => none
 | k + 1, x0, x1, x2, x4, x11, x178000, x178001, x178002, x178003, x178004, x178005, x178006, x178007 => if x11 < (x178001.length : Int) then (if 0 ≤ x11 then ((spec_l12Word.f k (rdOf ByteArray.empty x178001 x11)).bind fun t180 => (if t180 = true then (if x11 ≤ (x178001.length : Int) then ((spec_l12Has.f k (x178001.take (x11 : Int).toNat) (rdOf ByteArray.empty x178001 x11)).bind fun t183 => (if t183 = true then (some false) else (spec_l12Bind.l0 rec_ k x0 x1 x2 x4 (wrap64 (x11 + 1)) x178000 x178001 x178002 x178003 x178004 x178005 x178006 x178007))) else (none)) else (some false))) else (none)) else (if x178000 = 1 then (if (wrap64 ((wrap64 ((wrap64 ((x178004.length : Int) + (x178005.length : Int))) + (x178006.length : Int))) + (x178007.length : Int))) = 0 then (if x178002.toList = ([] : List UInt8) then (if (x178001.length : Int) = 1 then (some ((x178003.length : Int) == 1)) else (some false)) else (some false)) else (some false)) else (if x178000 = 2 then ((spec_l12Arity.f k x0 x1 x178002).bind fun bt184 => (if (wrap64 ((wrap64 ((wrap64 ((x178004.length : Int) + (x178005.length : Int))) + (x178006.length : Int))) + (x178007.length : Int))) = 0 then (if bt184.2.2 = true then (if bt184.1 = (x178003.length : Int) then (some (bt184.2.1 == (x178001.length : Int))) else (some false)) else (some false)) else (some false))) else (if x178000 = 3 then (if x178002.toList = ([] : List UInt8) then (if (x178003.length : Int) = 1 then ((rec_ x0 x1 x2 x178004 x178005 (wrap64 (x4 - 1))).bind fun t187 => (if t187 = true then ((rec_ x0 x1 x2 x178006 x178007 (wrap64 (x4 - 1))).bind fun t188 => (if t188 = true then (if (x178005.length : Int) = (x178001.length : Int) then (some ((x178007.length : Int) == (x178001.length : Int))) else (some false)) else (some false))) else (some false))) else (some false)) else (some false)) else (some false))))
end
def spec_l12Bind.F (rec_ : List (S45) → Int → List ByteArray → List (S64) → List (S78) → Int → Option (Bool)) (k : Nat) (l0 : List (S45)) (a1 : Int) (l2 : List ByteArray) (a3_0 : Int) (l3_1 : List ByteArray) (a3_2 : ByteArray) (l3_3 : List (S78)) (l3_4 : List (S64)) (l3_5 : List (S78)) (l3_6 : List (S64)) (l3_7 : List (S78)) (a4 : Int) : Option (Bool) := if (l3_1.length : Int) > 60 then (spec_l12Bind.j0 rec_ k l0 a1 l2 a4 true a3_0 l3_1 a3_2 l3_3 l3_4 l3_5 l3_6 l3_7) else ((spec_l12Terms.f k l2 l3_3).bind fun t178 => (spec_l12Bind.j0 rec_ k l0 a1 l2 a4 (!t178) a3_0 l3_1 a3_2 l3_3 l3_4 l3_5 l3_6 l3_7))
mutual
def spec_l12Body.j0 : Nat → List (S45) → Int → List ByteArray → Int → Bool → List (S64) → List (S78) → Option (Bool)
 | 0, _, _, _, _, _, _, _ => none
 | k + 1, x0, x1, x2, x4, x19, x190000, x190001 => if x19 = true then (some false) else ((some (([] : List ByteArray) : List ByteArray)).bind fun y190 => (if y190.length + x2.length < 8796093022208 then (spec_l12Body.l0 k x0 x1 (y190 ++ x2) x4 0 x190000 x190001) else (none)))
def spec_l12Body.l0 : Nat → List (S45) → Int → List ByteArray → Int → Int → List (S64) → List (S78) → Option (Bool)
 | 0, _, _, _, _, _, _, _ => none
 | k + 1, x0, x1, x2, x4, x11, x190000, x190001 => if x11 < (x190000.length : Int) then (if 0 ≤ x11 then ((spec_l12Bind.F (spec_l12Body.f k) k x0 x1 x2 ((rd_T64 x190000 x11).f0) ((rd_T64 x190000 x11).f1) ((rd_T64 x190000 x11).f2) ((rd_T64 x190000 x11).f3) ((rd_T64 x190000 x11).f4.f0) ((rd_T64 x190000 x11).f4.f1) ((rd_T64 x190000 x11).f5.f0) ((rd_T64 x190000 x11).f5.f1) x4).bind fun t197 => (if t197 = true then (if x2.length + ((rd_T64 x190000 x11).f1).length < 8796093022208 then (spec_l12Body.l0 k x0 x1 (x2 ++ ((rd_T64 x190000 x11).f1)) x4 (wrap64 (x11 + 1)) x190000 x190001) else (none)) else (some false))) else (none)) else ((spec_l12Terms.f k x2 x190001).bind fun t202 => (some t202))
def spec_l12Body.f : Nat → List (S45) → Int → List ByteArray → List (S64) → List (S78) → Int → Option (Bool)
 | 0, _, _, _, _, _, _ => none
 | k + 1, l0, a1, l2, l3_0, l3_1, a4 => if a4 < 1 then (spec_l12Body.j0 k l0 a1 l2 a4 true l3_0 l3_1) else (spec_l12Body.j0 k l0 a1 l2 a4 (decide ((l3_0.length : Int) > 400)) l3_0 l3_1)
end
theorem spec_l12Bind.mono_l {rec_ rec2_ : List (S45) → Int → List ByteArray → List (S64) → List (S78) → Int → Option (Bool)} (hrec : (∀ y0 y1 y2 y3 y4 y5, LeO (rec_ y0 y1 y2 y3 y4 y5) (rec2_ y0 y1 y2 y3 y4 y5))) : ∀ k, (∀ y0 y1 y2 y3 y4 y5 y6 y7 y8 y9 y10 y11 y12, LeO (spec_l12Bind.j0 rec_ k y0 y1 y2 y3 y4 y5 y6 y7 y8 y9 y10 y11 y12) (spec_l12Bind.j0 rec2_ (k + 1) y0 y1 y2 y3 y4 y5 y6 y7 y8 y9 y10 y11 y12)) ∧ (∀ y0 y1 y2 y3 y4 y5 y6 y7 y8 y9 y10 y11 y12, LeO (spec_l12Bind.l0 rec_ k y0 y1 y2 y3 y4 y5 y6 y7 y8 y9 y10 y11 y12) (spec_l12Bind.l0 rec2_ (k + 1) y0 y1 y2 y3 y4 y5 y6 y7 y8 y9 y10 y11 y12))
 | 0 => ⟨fun _ _ _ _ _ _ _ _ _ _ _ _ _ r h => by simp [spec_l12Bind.j0] at h, fun _ _ _ _ _ _ _ _ _ _ _ _ _ r h => by simp [spec_l12Bind.l0] at h⟩
 | k + 1 => by
  obtain ⟨ih0, ih1⟩ := spec_l12Bind.mono_l hrec k
  refine ⟨?_, ?_⟩
  ·intro y0 y1 y2 y3 y4 y5 y6 y7 y8 y9 y10 y11 y12
   unfold spec_l12Bind.j0
   repeat' first
   | (with_reducible exact ih0 _ _ _ _ _ _ _ _ _ _ _ _ _)
   | (with_reducible exact ih1 _ _ _ _ _ _ _ _ _ _ _ _ _)
   | (with_reducible exact spec_l12Arity.mono _ _ _ _)
   | (with_reducible exact hrec _ _ _ _ _ _)
   | (with_reducible exact spec_l12Has.mono _ _ _)
   | (with_reducible exact spec_l12Terms.mono _ _ _)
   | (with_reducible exact spec_l12Word.mono _ _)
   | (with_reducible exact LeO.refl _)
   | (with_reducible exact LeO.none _)
   | (with_reducible refine LeO.ite ?_ ?_)
   | (with_reducible refine LeO.bind ?_ (fun _ => ?_))
   | exact ih0 _ _ _ _ _ _ _ _ _ _ _ _ _
   | exact ih1 _ _ _ _ _ _ _ _ _ _ _ _ _
   | exact spec_l12Arity.mono _ _ _ _
   | exact hrec _ _ _ _ _ _
   | exact spec_l12Has.mono _ _ _
   | exact spec_l12Terms.mono _ _ _
   | exact spec_l12Word.mono _ _
   | exact LeO.none _
   | refine LeO.ite ?_ ?_
   | refine LeO.bind ?_ (fun _ => ?_)
  ·intro y0 y1 y2 y3 y4 y5 y6 y7 y8 y9 y10 y11 y12
   unfold spec_l12Bind.l0
   repeat' first
   | (with_reducible exact ih0 _ _ _ _ _ _ _ _ _ _ _ _ _)
   | (with_reducible exact ih1 _ _ _ _ _ _ _ _ _ _ _ _ _)
   | (with_reducible exact spec_l12Arity.mono _ _ _ _)
   | (with_reducible exact hrec _ _ _ _ _ _)
   | (with_reducible exact spec_l12Has.mono _ _ _)
   | (with_reducible exact spec_l12Terms.mono _ _ _)
   | (with_reducible exact spec_l12Word.mono _ _)
   | (with_reducible exact LeO.refl _)
   | (with_reducible exact LeO.none _)
   | (with_reducible refine LeO.ite ?_ ?_)
   | (with_reducible refine LeO.bind ?_ (fun _ => ?_))
   | exact ih0 _ _ _ _ _ _ _ _ _ _ _ _ _
   | exact ih1 _ _ _ _ _ _ _ _ _ _ _ _ _
   | exact spec_l12Arity.mono _ _ _ _
   | exact hrec _ _ _ _ _ _
   | exact spec_l12Has.mono _ _ _
   | exact spec_l12Terms.mono _ _ _
   | exact spec_l12Word.mono _ _
   | exact LeO.none _
   | refine LeO.ite ?_ ?_
   | refine LeO.bind ?_ (fun _ => ?_)
theorem spec_l12Bind.Fmono {rec_ rec2_ : List (S45) → Int → List ByteArray → List (S64) → List (S78) → Int → Option (Bool)} (hrec : (∀ y0 y1 y2 y3 y4 y5, LeO (rec_ y0 y1 y2 y3 y4 y5) (rec2_ y0 y1 y2 y3 y4 y5))) : ∀ a0 a1 a2 a3 a4 a5 a6 a7 a8 a9 a10 a11 k, LeO (spec_l12Bind.F rec_ k a0 a1 a2 a3 a4 a5 a6 a7 a8 a9 a10 a11) (spec_l12Bind.F rec2_ (k + 1) a0 a1 a2 a3 a4 a5 a6 a7 a8 a9 a10 a11) := by
 intro a0 a1 a2 a3 a4 a5 a6 a7 a8 a9 a10 a11 k
 obtain ⟨ih0, ih1⟩ := spec_l12Bind.mono_l hrec k
 unfold spec_l12Bind.F
 repeat' first
   | (with_reducible exact ih0 _ _ _ _ _ _ _ _ _ _ _ _ _)
   | (with_reducible exact ih1 _ _ _ _ _ _ _ _ _ _ _ _ _)
   | (with_reducible exact spec_l12Arity.mono _ _ _ _)
   | (with_reducible exact hrec _ _ _ _ _ _)
   | (with_reducible exact spec_l12Has.mono _ _ _)
   | (with_reducible exact spec_l12Terms.mono _ _ _)
   | (with_reducible exact spec_l12Word.mono _ _)
   | (with_reducible exact LeO.refl _)
   | (with_reducible exact LeO.none _)
   | (with_reducible refine LeO.ite ?_ ?_)
   | (with_reducible refine LeO.bind ?_ (fun _ => ?_))
   | exact ih0 _ _ _ _ _ _ _ _ _ _ _ _ _
   | exact ih1 _ _ _ _ _ _ _ _ _ _ _ _ _
   | exact spec_l12Arity.mono _ _ _ _
   | exact hrec _ _ _ _ _ _
   | exact spec_l12Has.mono _ _ _
   | exact spec_l12Terms.mono _ _ _
   | exact spec_l12Word.mono _ _
   | exact LeO.none _
   | refine LeO.ite ?_ ?_
   | refine LeO.bind ?_ (fun _ => ?_)
theorem spec_l12Body.mono_l : ∀ k, (∀ y0 y1 y2 y3 y4 y5, LeO (spec_l12Body.f k y0 y1 y2 y3 y4 y5) (spec_l12Body.f (k + 1) y0 y1 y2 y3 y4 y5)) ∧ (∀ y0 y1 y2 y3 y4 y5 y6, LeO (spec_l12Body.j0 k y0 y1 y2 y3 y4 y5 y6) (spec_l12Body.j0 (k + 1) y0 y1 y2 y3 y4 y5 y6)) ∧ (∀ y0 y1 y2 y3 y4 y5 y6, LeO (spec_l12Body.l0 k y0 y1 y2 y3 y4 y5 y6) (spec_l12Body.l0 (k + 1) y0 y1 y2 y3 y4 y5 y6))
 | 0 => ⟨fun _ _ _ _ _ _ r h => by simp [spec_l12Body.f] at h, fun _ _ _ _ _ _ _ r h => by simp [spec_l12Body.j0] at h, fun _ _ _ _ _ _ _ r h => by simp [spec_l12Body.l0] at h⟩
 | k + 1 => by
  obtain ⟨ih0, ih1, ih2⟩ := spec_l12Body.mono_l k
  refine ⟨?_, ?_, ?_⟩
  ·intro y0 y1 y2 y3 y4 y5
   unfold spec_l12Body.f
   repeat' first
   | (with_reducible exact ih0 _ _ _ _ _ _)
   | (with_reducible exact ih1 _ _ _ _ _ _ _)
   | (with_reducible exact ih2 _ _ _ _ _ _ _)
   | (with_reducible exact spec_l12Bind.Fmono ih0 _ _ _ _ _ _ _ _ _ _ _ _ _)
   | (with_reducible exact spec_l12Terms.mono _ _ _)
   | (with_reducible exact LeO.refl _)
   | (with_reducible exact LeO.none _)
   | (with_reducible refine LeO.ite ?_ ?_)
   | (with_reducible refine LeO.bind ?_ (fun _ => ?_))
   | exact ih0 _ _ _ _ _ _
   | exact ih1 _ _ _ _ _ _ _
   | exact ih2 _ _ _ _ _ _ _
   | exact spec_l12Bind.Fmono ih0 _ _ _ _ _ _ _ _ _ _ _ _ _
   | exact spec_l12Terms.mono _ _ _
   | exact LeO.none _
   | refine LeO.ite ?_ ?_
   | refine LeO.bind ?_ (fun _ => ?_)
  ·intro y0 y1 y2 y3 y4 y5 y6
   unfold spec_l12Body.j0
   repeat' first
   | (with_reducible exact ih0 _ _ _ _ _ _)
   | (with_reducible exact ih1 _ _ _ _ _ _ _)
   | (with_reducible exact ih2 _ _ _ _ _ _ _)
   | (with_reducible exact spec_l12Bind.Fmono ih0 _ _ _ _ _ _ _ _ _ _ _ _ _)
   | (with_reducible exact spec_l12Terms.mono _ _ _)
   | (with_reducible exact LeO.refl _)
   | (with_reducible exact LeO.none _)
   | (with_reducible refine LeO.ite ?_ ?_)
   | (with_reducible refine LeO.bind ?_ (fun _ => ?_))
   | exact ih0 _ _ _ _ _ _
   | exact ih1 _ _ _ _ _ _ _
   | exact ih2 _ _ _ _ _ _ _
   | exact spec_l12Bind.Fmono ih0 _ _ _ _ _ _ _ _ _ _ _ _ _
   | exact spec_l12Terms.mono _ _ _
   | exact LeO.none _
   | refine LeO.ite ?_ ?_
   | refine LeO.bind ?_ (fun _ => ?_)
  ·intro y0 y1 y2 y3 y4 y5 y6
   unfold spec_l12Body.l0
   repeat' first
   | (with_reducible exact ih0 _ _ _ _ _ _)
   | (with_reducible exact ih1 _ _ _ _ _ _ _)
   | (with_reducible exact ih2 _ _ _ _ _ _ _)
   | (with_reducible exact spec_l12Bind.Fmono ih0 _ _ _ _ _ _ _ _ _ _ _ _ _)
   | (with_reducible exact spec_l12Terms.mono _ _ _)
   | (with_reducible exact LeO.refl _)
   | (with_reducible exact LeO.none _)
   | (with_reducible refine LeO.ite ?_ ?_)
   | (with_reducible refine LeO.bind ?_ (fun _ => ?_))
   | exact ih0 _ _ _ _ _ _
   | exact ih1 _ _ _ _ _ _ _
   | exact ih2 _ _ _ _ _ _ _
   | exact spec_l12Bind.Fmono ih0 _ _ _ _ _ _ _ _ _ _ _ _ _
   | exact spec_l12Terms.mono _ _ _
   | exact LeO.none _
   | refine LeO.ite ?_ ?_
   | refine LeO.bind ?_ (fun _ => ?_)
theorem spec_l12Body.mono : ∀ a0 a1 a2 a3 a4 a5 k, LeO (spec_l12Body.f k a0 a1 a2 a3 a4 a5) (spec_l12Body.f (k + 1) a0 a1 a2 a3 a4 a5) := by
 intro a0 a1 a2 a3 a4 a5 k
 obtain ⟨ih0, ih1, ih2⟩ := spec_l12Body.mono_l k
 exact ih0 a0 a1 a2 a3 a4 a5
set_option maxHeartbeats 8000000 in
set_option maxRecDepth 100000 in
theorem spec_l12Bind.Fcalls (rec_ : List (S45) → Int → List ByteArray → List (S64) → List (S78) → Int → Option (Bool)) (IH : ∀ (A0 : Option Addr) (c0 : Nat) (l0 : List (S45)) (a1 : Int) (A2 : Option Addr) (c2 : Nat) (l2 : List ByteArray) (A3_0 : Option Addr) (c3_0 : Nat) (l3_0 : List (S64)) (A3_1 : Option Addr) (c3_1 : Nat) (l3_1 : List (S78)) (a4 : Int) (r : Bool) (w : World) (hr0 : Kd.C k45 w A0 l0.length l0) (hc0 : l0.length ≤ c0) (hr2 : Kd.C Kd.string w A2 l2.length l2) (hc2 : l2.length ≤ c2) (hr3_0 : Kd.C k64 w A3_0 l3_0.length l3_0) (hc3_0 : l3_0.length ≤ c3_0) (hr3_1 : Kd.C k78 w A3_1 l3_1.length l3_1) (hc3_1 : l3_1.length ≤ c3_1) (h : rec_ l0 a1 l2 l3_0 l3_1 a4 = some r),
  Calls Try.prog 18 #[.slice A0 l0.length c0, .int .i64 a1, .slice A2 l2.length c2, .agg #[.slice A3_0 l3_0.length c3_0, .slice A3_1 l3_1.length c3_1], .int .i64 a4] w fun e w' => e = .returned (.bool r) ∧ Below w.heap.size w w') (k : Nat) (A0 : Option Addr) (c0 : Nat) (l0 : List (S45)) (a1 : Int) (A2 : Option Addr) (c2 : Nat) (l2 : List ByteArray) (a3_0 : Int) (A3_1 : Option Addr) (c3_1 : Nat) (l3_1 : List ByteArray) (a3_2 : ByteArray) (A3_3 : Option Addr) (c3_3 : Nat) (l3_3 : List (S78)) (A3_4 : Option Addr) (c3_4 : Nat) (l3_4 : List (S64)) (A3_5 : Option Addr) (c3_5 : Nat) (l3_5 : List (S78)) (A3_6 : Option Addr) (c3_6 : Nat) (l3_6 : List (S64)) (A3_7 : Option Addr) (c3_7 : Nat) (l3_7 : List (S78)) (a4 : Int) (r : Bool) (w : World) (hr0 : Kd.C k45 w A0 l0.length l0) (hc0 : l0.length ≤ c0) (hr2 : Kd.C Kd.string w A2 l2.length l2) (hc2 : l2.length ≤ c2) (hr3_1 : Kd.C Kd.string w A3_1 l3_1.length l3_1) (hc3_1 : l3_1.length ≤ c3_1) (hr3_3 : Kd.C k78 w A3_3 l3_3.length l3_3) (hc3_3 : l3_3.length ≤ c3_3) (hr3_4 : Kd.C k64 w A3_4 l3_4.length l3_4) (hc3_4 : l3_4.length ≤ c3_4) (hr3_5 : Kd.C k78 w A3_5 l3_5.length l3_5) (hc3_5 : l3_5.length ≤ c3_5) (hr3_6 : Kd.C k64 w A3_6 l3_6.length l3_6) (hc3_6 : l3_6.length ≤ c3_6) (hr3_7 : Kd.C k78 w A3_7 l3_7.length l3_7) (hc3_7 : l3_7.length ≤ c3_7) (h : spec_l12Bind.F rec_ k l0 a1 l2 a3_0 l3_1 a3_2 l3_3 l3_4 l3_5 l3_6 l3_7 a4 = some r) :
  Calls Try.prog 33 #[.slice A0 l0.length c0, .int .i64 a1, .slice A2 l2.length c2, .agg #[.int .i64 a3_0, .slice A3_1 l3_1.length c3_1, .string a3_2, .slice A3_3 l3_3.length c3_3, .slice A3_4 l3_4.length c3_4, .slice A3_5 l3_5.length c3_5, .slice A3_6 l3_6.length c3_6, .slice A3_7 l3_7.length c3_7], .int .i64 a4] w fun e w' => e = .returned (.bool r) ∧ Below w.heap.size w w' := by
 have hu64 := Try.underlying64
 have hu43 := Try.underlying43
 have HR0 := Aside0.mk hr0
 have HC0 := Aside0.mk hc0
 clear hr0 hc0
 have HR2 := Aside0.mk hr2
 have HC2 := Aside0.mk hc2
 clear hr2 hc2
 have HR3_1 := Aside0.mk hr3_1
 have HC3_1 := Aside0.mk hc3_1
 clear hr3_1 hc3_1
 have HR3_3 := Aside0.mk hr3_3
 have HC3_3 := Aside0.mk hc3_3
 clear hr3_3 hc3_3
 have HR3_4 := Aside0.mk hr3_4
 have HC3_4 := Aside0.mk hc3_4
 clear hr3_4 hc3_4
 have HR3_5 := Aside0.mk hr3_5
 have HC3_5 := Aside0.mk hc3_5
 clear hr3_5 hc3_5
 have HR3_6 := Aside0.mk hr3_6
 have HC3_6 := Aside0.mk hc3_6
 clear hr3_6 hc3_6
 have HR3_7 := Aside0.mk hr3_7
 have HC3_7 := Aside0.mk hc3_7
 clear hr3_7 hc3_7
 have HB := Aside0.mk (Below.refl w.heap.size w)
 have H : (if (l3_1.length : Int) > 60 then (spec_l12Bind.j0 rec_ k l0 a1 l2 a4 true a3_0 l3_1 a3_2 l3_3 l3_4 l3_5 l3_6 l3_7) else ((spec_l12Terms.f k l2 l3_3).bind fun t178 => (spec_l12Bind.j0 rec_ k l0 a1 l2 a4 (!t178) a3_0 l3_1 a3_2 l3_3 l3_4 l3_5 l3_6 l3_7))) = some r := h
 clear h
 have HC6 := Aside0.mk H
 clear H
 go_enter Try.func33, Try.ntmps33
 go_upto_region 1 with (first | ((with_reducible refine gate_dst (N := 8) rfl ?_); (try (refine gate_guard (by rfl) ?_; dsimp only)); refine zbx 8 #[.int .i64 a3_0, .slice A3_1 l3_1.length c3_1, .string a3_2, .slice A3_3 l3_3.length c3_3, .slice A3_4 l3_4.length c3_4, .slice A3_5 l3_5.length c3_5, .slice A3_6 l3_6.length c3_6, .slice A3_7 l3_7.length c3_7] 64 ?_; intro gb177 hg w7 hbox hb; have BK177 := Aside0.mk hbox; have GW177 := Aside0.mk ((y9 hg HB.out : w.heap.size ≤ gb177)); have GE177 := Aside0.mk ((y9 hg HB.out : w.heap.size ≤ gb177)); replace HB := Aside0.mk (below_step (y1 HB.out) hb); clear hb hbox hg))
 repeat (go_quiet (first | ((with_reducible refine gate_dst (N := 8) rfl ?_); (try (refine gate_guard (by rfl) ?_; dsimp only)); refine zbx 8 #[.int .i64 a3_0, .slice A3_1 l3_1.length c3_1, .string a3_2, .slice A3_3 l3_3.length c3_3, .slice A3_4 l3_4.length c3_4, .slice A3_5 l3_5.length c3_5, .slice A3_6 l3_6.length c3_6, .slice A3_7 l3_7.length c3_7] 64 ?_; intro gb177 hg w7 hbox hb; have BK177 := Aside0.mk hbox; have GW177 := Aside0.mk ((y9 hg HB.out : w.heap.size ≤ gb177)); have GE177 := Aside0.mk ((y9 hg HB.out : w.heap.size ≤ gb177)); replace HB := Aside0.mk (below_step (y1 HB.out) hb); clear hb hbox hg)); go_upto_region 1 with (first | ((with_reducible refine gate_dst (N := 8) rfl ?_); (try (refine gate_guard (by rfl) ?_; dsimp only)); refine zbx 8 #[.int .i64 a3_0, .slice A3_1 l3_1.length c3_1, .string a3_2, .slice A3_3 l3_3.length c3_3, .slice A3_4 l3_4.length c3_4, .slice A3_5 l3_5.length c3_5, .slice A3_6 l3_6.length c3_6, .slice A3_7 l3_7.length c3_7] 64 ?_; intro gb177 hg w7 hbox hb; have BK177 := Aside0.mk hbox; have GW177 := Aside0.mk ((y9 hg HB.out : w.heap.size ≤ gb177)); have GE177 := Aside0.mk ((y9 hg HB.out : w.heap.size ≤ gb177)); replace HB := Aside0.mk (below_step (y1 HB.out) hb); clear hb hbox hg)))
 (try simp only [Act.put, List.setIfInBounds_toArray, List.set_cons_zero, List.set_cons_succ])
 go_cut [26] (fun v26 wc => ∃ (kq : Nat) (x26_5 : Bool), v26 = .bool x26_5 ∧ Aside0 (spec_l12Bind.j0 rec_ kq l0 a1 l2 a4 x26_5 a3_0 l3_1 a3_2 l3_3 l3_4 l3_5 l3_6 l3_7 = some r) ∧ Aside0 (kq ≤ k) ∧ Aside0 (wc.heap[gb177]? = some (.cells #[.int .i64 a3_0, (.slice A3_1 l3_1.length c3_1), .string a3_2, (.slice A3_3 l3_3.length c3_3), (.slice A3_4 l3_4.length c3_4), (.slice A3_5 l3_5.length c3_5), (.slice A3_6 l3_6.length c3_6), (.slice A3_7 l3_7.length c3_7)] 64 (0, 0))) ∧ Aside0 (Below w.heap.size w wc))
 case first =>
  have H := HC6.out
  clear HC6
  by_cases c8 : (l3_1.length : Int) > 60
  ·rw [if_pos c8] at H
   have c8b0 : decide (60 < (l3_1.length : Int)) = true := decide_eq_true c8
   have c8b1 : decide (60 < l3_1.length) = true := decide_eq_true (by omega)
   clear c8
   (first | rw [c8b0] | (simp only [i64_w, i32_w]; rw [c8b0]) | skip)
   have H' := Aside0.mk H
   clear H
   have hcz9_0 := zh BK177
   have hcz9_1 := zh1 BK177
   have hcz9_2 := zh2 BK177
   have hcz9_3 : w7.cell? ⟨gb177, 3, none⟩ = some (.slice A3_3 l3_3.length c3_3) := (blk_cell BK177.out 3).trans rfl
   have hcz9_4 : w7.cell? ⟨gb177, 4, none⟩ = some (.slice A3_4 l3_4.length c3_4) := (blk_cell BK177.out 4).trans rfl
   have hcz9_5 : w7.cell? ⟨gb177, 5, none⟩ = some (.slice A3_5 l3_5.length c3_5) := (blk_cell BK177.out 5).trans rfl
   have hcz9_6 : w7.cell? ⟨gb177, 6, none⟩ = some (.slice A3_6 l3_6.length c3_6) := (blk_cell BK177.out 6).trans rfl
   have hcz9_7 : w7.cell? ⟨gb177, 7, none⟩ = some (.slice A3_7 l3_7.length c3_7) := (blk_cell BK177.out 7).trans rfl
   have hfz9_0 := zfr BK177 0
   have hfz9_1 := zfr BK177 1
   have hfz9_2 := zfr BK177 2
   have hfz9_3 := zfr BK177 3
   have hfz9_4 := zfr BK177 4
   have hfz9_5 := zfr BK177 5
   have hfz9_6 := zfr BK177 6
   have hfz9_7 := zfr BK177 7
   go_wp2
   repeat (go_quiet (fail); try go_wp2)
   go_meet
   case rel => exact ⟨_, (true), y7, H', ⟨y33⟩, ⟨(y8 BK177.out)⟩, ⟨(y2 HB.out GE177.out)⟩⟩
  ·rw [if_neg c8] at H
   have c8b0 : decide (60 < (l3_1.length : Int)) = false := decide_eq_false c8
   have c8b1 : decide (60 < l3_1.length) = false := decide_eq_false (by omega)
   clear c8
   (first | rw [c8b0] | (simp only [i64_w, i32_w]; rw [c8b0]) | skip)
   obtain ⟨t178, A100, H⟩ := ob H
   have A10 := Aside0.mk A100
   clear A100
   have H' := Aside0.mk H
   clear H
   have hcz11_0 := zh BK177
   have hcz11_1 := zh1 BK177
   have hcz11_2 := zh2 BK177
   have hcz11_3 : w7.cell? ⟨gb177, 3, none⟩ = some (.slice A3_3 l3_3.length c3_3) := (blk_cell BK177.out 3).trans rfl
   have hcz11_4 : w7.cell? ⟨gb177, 4, none⟩ = some (.slice A3_4 l3_4.length c3_4) := (blk_cell BK177.out 4).trans rfl
   have hcz11_5 : w7.cell? ⟨gb177, 5, none⟩ = some (.slice A3_5 l3_5.length c3_5) := (blk_cell BK177.out 5).trans rfl
   have hcz11_6 : w7.cell? ⟨gb177, 6, none⟩ = some (.slice A3_6 l3_6.length c3_6) := (blk_cell BK177.out 6).trans rfl
   have hcz11_7 : w7.cell? ⟨gb177, 7, none⟩ = some (.slice A3_7 l3_7.length c3_7) := (blk_cell BK177.out 7).trans rfl
   have hfz11_0 := zfr BK177 0
   have hfz11_1 := zfr BK177 1
   have hfz11_2 := zfr BK177 2
   have hfz11_3 := zfr BK177 3
   have hfz11_4 := zfr BK177 4
   have hfz11_5 := zfr BK177 5
   have hfz11_6 := zfr BK177 6
   have hfz11_7 := zfr BK177 7
   go_wp2_with (first | (go_at_call 34; (with_reducible refine (spec_l12Terms.calls k _ _ l2 _ _ l3_3 t178 _ ?side1 ?side2 ?side3 ?side4 A10.out).mono ?_); (case side1 => exact y0 HR2.out HB.out); (case side2 => exact HC2.out); (case side3 => exact y0 HR3_3.out HB.out); (case side4 => exact HC3_3.out); rintro e w12 ⟨rfl, hb⟩; replace BK177 := zbb BK177 hb; replace HB := Aside0.mk (below_step (y2 HB.out GE177.out) hb); (try clear hb); (try clear hb2); (try clear hk); (try clear hi)))
   repeat (go_quiet (first | (go_at_call 34; (with_reducible refine (spec_l12Terms.calls k _ _ l2 _ _ l3_3 t178 _ ?side1 ?side2 ?side3 ?side4 A10.out).mono ?_); (case side1 => exact y0 HR2.out HB.out); (case side2 => exact HC2.out); (case side3 => exact y0 HR3_3.out HB.out); (case side4 => exact HC3_3.out); rintro e w12 ⟨rfl, hb⟩; replace BK177 := zbb BK177 hb; replace HB := Aside0.mk (below_step (y2 HB.out GE177.out) hb); (try clear hb); (try clear hb2); (try clear hk); (try clear hi))); try go_wp2_with (first | (go_at_call 34; (with_reducible refine (spec_l12Terms.calls k _ _ l2 _ _ l3_3 t178 _ ?side1 ?side2 ?side3 ?side4 A10.out).mono ?_); (case side1 => exact y0 HR2.out HB.out); (case side2 => exact HC2.out); (case side3 => exact y0 HR3_3.out HB.out); (case side4 => exact HC3_3.out); rintro e w12 ⟨rfl, hb⟩; replace BK177 := zbb BK177 hb; replace HB := Aside0.mk (below_step (y2 HB.out GE177.out) hb); (try clear hb); (try clear hb2); (try clear hk); (try clear hi))))
   go_meet
   case rel => exact ⟨_, (!t178), y7, H', ⟨y33⟩, ⟨(y8 BK177.out)⟩, ⟨(y2 HB.out GE177.out)⟩⟩
 case rest =>
  clear HC6
  try clear c2
  try clear p2
  try clear c3
  try clear c8
  try clear c8b0
  try clear c8b1
  try clear hcz11_0
  try clear hcz11_1
  try clear hcz11_2
  try clear hcz11_3
  try clear hcz11_4
  try clear hcz11_5
  try clear hcz11_6
  try clear hcz11_7
  try clear hcz9_0
  try clear hcz9_1
  try clear hcz9_2
  try clear hcz9_3
  try clear hcz9_4
  try clear hcz9_5
  try clear hcz9_6
  try clear hcz9_7
  try clear hfz11_0
  try clear hfz11_1
  try clear hfz11_2
  try clear hfz11_3
  try clear hfz11_4
  try clear hfz11_5
  try clear hfz11_6
  try clear hfz11_7
  try clear hfz9_0
  try clear hfz9_1
  try clear hfz9_2
  try clear hfz9_3
  try clear hfz9_4
  try clear hfz9_5
  try clear hfz9_6
  try clear hfz9_7
  obtain ⟨kq, x26_5, rfl, HA, HJ5, BK177, HB⟩ := hcut
  cases kq with
  | zero => exact absurd HA.out (by simp [spec_l12Bind.j0])
  | succ kj5 =>
   have H := HA.out
   clear HA
   simp only [spec_l12Bind.j0] at H
   by_cases c13 : x26_5 = true
   ·subst c13
    rw [if_pos rfl] at H
    obtain rfl := Option.some.inj H
    go_wp2
    repeat (go_quiet (fail); try go_wp2)
    go_ret
    exact ⟨y6, (y2 HB.out GE177.out)⟩
   ·replace c13 := Bool.eq_false_iff.mpr c13
    subst c13
    rw [if_neg (show ¬ (false = true) by decide)] at H
    have H' := Aside0.mk H
    clear H
    go_wp2
    repeat (go_quiet (fail); try go_wp2)
    go_loopg [11] kj5 (fun kq v11 w' => ∃ (x11_2 : Int), v11 = .int .i64 x11_2 ∧ Aside0 (spec_l12Bind.l0 rec_ kq l0 a1 l2 a4 x11_2 a3_0 l3_1 a3_2 l3_3 l3_4 l3_5 l3_6 l3_7 = some r) ∧ Aside0 (kq ≤ kj5) ∧ Aside0 (w'.heap[gb177]? = some (.cells #[.int .i64 a3_0, (.slice A3_1 l3_1.length c3_1), .string a3_2, (.slice A3_3 l3_3.length c3_3), (.slice A3_4 l3_4.length c3_4), (.slice A3_5 l3_5.length c3_5), (.slice A3_6 l3_6.length c3_6), (.slice A3_7 l3_7.length c3_7)] 64 (0, 0))) ∧ Aside0 (Below w.heap.size w w'))
    case atStart => exact ⟨(0), y7, H', ⟨Nat.le_refl _⟩, ⟨(y8 BK177.out)⟩, ⟨(y2 HB.out GE177.out)⟩⟩
    case round =>
     clear H'
     try clear c1
     try clear c2
     try clear p2
     try clear c3
     try clear c8
     try clear c8b0
     try clear c8b1
     try clear c13
     try clear hcz11_0
     try clear hcz11_1
     try clear hcz11_2
     try clear hcz11_3
     try clear hcz11_4
     try clear hcz11_5
     try clear hcz11_6
     try clear hcz11_7
     try clear hcz9_0
     try clear hcz9_1
     try clear hcz9_2
     try clear hcz9_3
     try clear hcz9_4
     try clear hcz9_5
     try clear hcz9_6
     try clear hcz9_7
     try clear hfz11_0
     try clear hfz11_1
     try clear hfz11_2
     try clear hfz11_3
     try clear hfz11_4
     try clear hfz11_5
     try clear hfz11_6
     try clear hfz11_7
     try clear hfz9_0
     try clear hfz9_1
     try clear hfz9_2
     try clear hfz9_3
     try clear hfz9_4
     try clear hfz9_5
     try clear hfz9_6
     try clear hfz9_7
     try clear p2
     (try clear BK177)
     obtain ⟨x11_2, rfl, HA, HK2, BK177, HB⟩ := hrel
     cases gk with
     | zero => exact absurd HA.out (by simp [spec_l12Bind.l0])
     | succ k2 =>
      have H := HA.out
      clear HA
      simp only [spec_l12Bind.l0] at H
      by_cases c14 : x11_2 < (l3_1.length : Int)
      ·rw [if_pos c14] at H
       have c14b0 : decide (x11_2 < (l3_1.length : Int)) = true := decide_eq_true c14
       clear c14
       by_cases c15 : 0 ≤ x11_2
       ·rw [if_pos c15] at H
        have c15b0 : decide (0 ≤ x11_2) = true := decide_eq_true c15
        clear c15
        obtain ⟨t180, A160, H⟩ := ob H
        have A16 := Aside0.mk A160
        clear A160
        by_cases c17 : t180 = true
        ·subst c17
         rw [if_pos rfl] at H
         have c18b0 := eq_true (of_decide_eq_true y4 : 0 ≤ x11_2)
         by_cases c19 : x11_2 ≤ (l3_1.length : Int)
         ·rw [if_pos c19] at H
          have c19b0 := eq_true c19
          have c19b1 : decide (x11_2 ≤ (l3_1.length : Int)) = true := decide_eq_true c19
          clear c19
          obtain ⟨t183, A200, H⟩ := ob H
          have A20 := Aside0.mk A200
          clear A200
          have HZ21 := Aside0.mk H
          clear H
          have hcz22_0 := zh BK177
          have hcz22_1 := zh1 BK177
          have hcz22_2 := zh2 BK177
          have hcz22_3 : wr.cell? ⟨gb177, 3, none⟩ = some (.slice A3_3 l3_3.length c3_3) := (blk_cell BK177.out 3).trans rfl
          have hcz22_4 : wr.cell? ⟨gb177, 4, none⟩ = some (.slice A3_4 l3_4.length c3_4) := (blk_cell BK177.out 4).trans rfl
          have hcz22_5 : wr.cell? ⟨gb177, 5, none⟩ = some (.slice A3_5 l3_5.length c3_5) := (blk_cell BK177.out 5).trans rfl
          have hcz22_6 : wr.cell? ⟨gb177, 6, none⟩ = some (.slice A3_6 l3_6.length c3_6) := (blk_cell BK177.out 6).trans rfl
          have hcz22_7 : wr.cell? ⟨gb177, 7, none⟩ = some (.slice A3_7 l3_7.length c3_7) := (blk_cell BK177.out 7).trans rfl
          have hfz22_0 := zfr BK177 0
          have hfz22_1 := zfr BK177 1
          have hfz22_2 := zfr BK177 2
          have hfz22_3 := zfr BK177 3
          have hfz22_4 := zfr BK177 4
          have hfz22_5 := zfr BK177 5
          have hfz22_6 := zfr BK177 6
          have hfz22_7 := zfr BK177 7
          have p179 : 0 ≤ (x11_2 : Int) := of_decide_eq_true y4
          have q179 : x11_2 < (l3_1.length : Int) := of_decide_eq_true y4
          obtain ⟨ad179, e179, hx179_0⟩ := Kd.at_string HR3_1.out x11_2 p179 q179
          cases e179
          replace hx179_0 := (HB.out.cell (World.block_lt_of_cell? w _ hx179_0)).trans hx179_0
          replace p179 := eq_true p179
          replace q179 := eq_true q179
          go_upto_if 52 with (first | (go_at_call 17; (with_reducible refine (spec_l12Word.calls k2 (rdOf ByteArray.empty l3_1 x11_2) true _ A16.out).mono ?_); rintro e w' ⟨rfl, ⟨nd, rfl⟩⟩; (try first | exact ⟨rfl, _, World.drewN_drewN _ _ _⟩ | exact ⟨rfl, _, Eq.trans (World.drewN_drewN _ _ _) (congrArg (World.drewN _) (Nat.add_assoc _ _ _))⟩); obtain ⟨i023, hi023, _, hsz23, _⟩ := info_parts info9; obtain ⟨hcut23, hA23, hC23⟩ := print_take_of (P := Try.prog) Value.string (⟨#[]⟩ : ByteArray) 31 9 .i64 Try.underlying31 hi023 hsz23 (some ad179) c3_1 l3_1 x11_2 (of_decide_eq_true y4) (of_decide_eq_true y4) HC3_1.out; have HR181 := Aside0.mk (Kd.C_of_reads (h1 := fun _ => rfl) (hA23 _ (Kd.reads_of_C HR3_1.out))); have HC181 := Aside0.mk hC23; clear hA23 hC23 hi023 hsz23; have p182 : 0 ≤ (x11_2 : Int) := of_decide_eq_true y4; have q182 : x11_2 < (l3_1.length : Int) := of_decide_eq_true y4; obtain ⟨ad182, e182, hx182_0⟩ := Kd.at_string HR3_1.out x11_2 p182 q182; obtain rfl : ad179 = ad182 := (by injection e182); replace hx182_0 := (HB.out.cell (World.block_lt_of_cell? w _ hx182_0)).trans hx182_0; replace p182 := eq_true p182; replace q182 := eq_true q182) | (go_at_call 19; refine calls_of_args (args' := #[.slice (some ad179) (l3_1.take (x11_2 : Int).toNat).length c3_1, .string (rdOf ByteArray.empty l3_1 x11_2)]) (by first | (simp; done) | (simp; have h0_ : (x11_2 : Int) ≤ (l3_1.length : Int) := of_decide_eq_true y4; omega) | rfl) ?_; (with_reducible refine (spec_l12Has.calls k2 _ _ (l3_1.take (x11_2 : Int).toNat) (rdOf ByteArray.empty l3_1 x11_2) t183 _ ?side1 ?side2 A20.out).mono ?_); (case side1 => exact y20 HR181.out HB.out GE177.out); (case side2 => exact HC181.out); rintro e w' ⟨rfl, ⟨nd, rfl⟩⟩; (try first | exact ⟨rfl, _, World.drewN_drewN _ _ _⟩ | exact ⟨rfl, _, Eq.trans (World.drewN_drewN _ _ _) (congrArg (World.drewN _) (Nat.add_assoc _ _ _))⟩)))
          repeat (go_quiet (first | (go_at_call 17; (with_reducible refine (spec_l12Word.calls k2 (rdOf ByteArray.empty l3_1 x11_2) true _ A16.out).mono ?_); rintro e w' ⟨rfl, ⟨nd, rfl⟩⟩; (try first | exact ⟨rfl, _, World.drewN_drewN _ _ _⟩ | exact ⟨rfl, _, Eq.trans (World.drewN_drewN _ _ _) (congrArg (World.drewN _) (Nat.add_assoc _ _ _))⟩); obtain ⟨i023, hi023, _, hsz23, _⟩ := info_parts info9; obtain ⟨hcut23, hA23, hC23⟩ := print_take_of (P := Try.prog) Value.string (⟨#[]⟩ : ByteArray) 31 9 .i64 Try.underlying31 hi023 hsz23 (some ad179) c3_1 l3_1 x11_2 (of_decide_eq_true y4) (of_decide_eq_true y4) HC3_1.out; have HR181 := Aside0.mk (Kd.C_of_reads (h1 := fun _ => rfl) (hA23 _ (Kd.reads_of_C HR3_1.out))); have HC181 := Aside0.mk hC23; clear hA23 hC23 hi023 hsz23; have p182 : 0 ≤ (x11_2 : Int) := of_decide_eq_true y4; have q182 : x11_2 < (l3_1.length : Int) := of_decide_eq_true y4; obtain ⟨ad182, e182, hx182_0⟩ := Kd.at_string HR3_1.out x11_2 p182 q182; obtain rfl : ad179 = ad182 := (by injection e182); replace hx182_0 := (HB.out.cell (World.block_lt_of_cell? w _ hx182_0)).trans hx182_0; replace p182 := eq_true p182; replace q182 := eq_true q182) | (go_at_call 19; refine calls_of_args (args' := #[.slice (some ad179) (l3_1.take (x11_2 : Int).toNat).length c3_1, .string (rdOf ByteArray.empty l3_1 x11_2)]) (by first | (simp; done) | (simp; have h0_ : (x11_2 : Int) ≤ (l3_1.length : Int) := of_decide_eq_true y4; omega) | rfl) ?_; (with_reducible refine (spec_l12Has.calls k2 _ _ (l3_1.take (x11_2 : Int).toNat) (rdOf ByteArray.empty l3_1 x11_2) t183 _ ?side1 ?side2 A20.out).mono ?_); (case side1 => exact y20 HR181.out HB.out GE177.out); (case side2 => exact HC181.out); rintro e w' ⟨rfl, ⟨nd, rfl⟩⟩; (try first | exact ⟨rfl, _, World.drewN_drewN _ _ _⟩ | exact ⟨rfl, _, Eq.trans (World.drewN_drewN _ _ _) (congrArg (World.drewN _) (Nat.add_assoc _ _ _))⟩))); go_upto_if 52 with (first | (go_at_call 17; (with_reducible refine (spec_l12Word.calls k2 (rdOf ByteArray.empty l3_1 x11_2) true _ A16.out).mono ?_); rintro e w' ⟨rfl, ⟨nd, rfl⟩⟩; (try first | exact ⟨rfl, _, World.drewN_drewN _ _ _⟩ | exact ⟨rfl, _, Eq.trans (World.drewN_drewN _ _ _) (congrArg (World.drewN _) (Nat.add_assoc _ _ _))⟩); obtain ⟨i023, hi023, _, hsz23, _⟩ := info_parts info9; obtain ⟨hcut23, hA23, hC23⟩ := print_take_of (P := Try.prog) Value.string (⟨#[]⟩ : ByteArray) 31 9 .i64 Try.underlying31 hi023 hsz23 (some ad179) c3_1 l3_1 x11_2 (of_decide_eq_true y4) (of_decide_eq_true y4) HC3_1.out; have HR181 := Aside0.mk (Kd.C_of_reads (h1 := fun _ => rfl) (hA23 _ (Kd.reads_of_C HR3_1.out))); have HC181 := Aside0.mk hC23; clear hA23 hC23 hi023 hsz23; have p182 : 0 ≤ (x11_2 : Int) := of_decide_eq_true y4; have q182 : x11_2 < (l3_1.length : Int) := of_decide_eq_true y4; obtain ⟨ad182, e182, hx182_0⟩ := Kd.at_string HR3_1.out x11_2 p182 q182; obtain rfl : ad179 = ad182 := (by injection e182); replace hx182_0 := (HB.out.cell (World.block_lt_of_cell? w _ hx182_0)).trans hx182_0; replace p182 := eq_true p182; replace q182 := eq_true q182) | (go_at_call 19; refine calls_of_args (args' := #[.slice (some ad179) (l3_1.take (x11_2 : Int).toNat).length c3_1, .string (rdOf ByteArray.empty l3_1 x11_2)]) (by first | (simp; done) | (simp; have h0_ : (x11_2 : Int) ≤ (l3_1.length : Int) := of_decide_eq_true y4; omega) | rfl) ?_; (with_reducible refine (spec_l12Has.calls k2 _ _ (l3_1.take (x11_2 : Int).toNat) (rdOf ByteArray.empty l3_1 x11_2) t183 _ ?side1 ?side2 A20.out).mono ?_); (case side1 => exact y20 HR181.out HB.out GE177.out); (case side2 => exact HC181.out); rintro e w' ⟨rfl, ⟨nd, rfl⟩⟩; (try first | exact ⟨rfl, _, World.drewN_drewN _ _ _⟩ | exact ⟨rfl, _, Eq.trans (World.drewN_drewN _ _ _) (congrArg (World.drewN _) (Nat.add_assoc _ _ _))⟩))))
          (try simp only [Act.put, List.setIfInBounds_toArray, List.set_cons_zero, List.set_cons_succ])
          have H := HZ21.out
          clear HZ21
          by_cases c24 : t183 = true
          ·subst c24
           rw [if_pos rfl] at H
           obtain rfl := Option.some.inj H
           go_wp2
           repeat (go_quiet (fail); try go_wp2)
           go_ret
           exact ⟨y6, (y2 HB.out GE177.out)⟩
          ·replace c24 := Bool.eq_false_iff.mpr c24
           subst c24
           rw [if_neg (show ¬ (false = true) by decide)] at H
           have H' := Aside0.mk H
           clear H
           go_wp2
           repeat (go_quiet (fail); try go_wp2)
           go_roundg k2
           case measure => have := HJ5.out; have := HK2.out; omega
           case rel => exact ⟨(wrap64 (x11_2 + 1)), y7, H', ⟨(y25 HJ5.out HK2.out)⟩, ⟨(y8 BK177.out)⟩, ⟨(y2 HB.out GE177.out)⟩⟩
         ·rw [if_neg c19] at H
          exact absurd H (by simp)
        ·replace c17 := Bool.eq_false_iff.mpr c17
         subst c17
         rw [if_neg (show ¬ (false = true) by decide)] at H
         obtain rfl := Option.some.inj H
         have hcz25_0 := zh BK177
         have hcz25_1 := zh1 BK177
         have hcz25_2 := zh2 BK177
         have hcz25_3 : wr.cell? ⟨gb177, 3, none⟩ = some (.slice A3_3 l3_3.length c3_3) := (blk_cell BK177.out 3).trans rfl
         have hcz25_4 : wr.cell? ⟨gb177, 4, none⟩ = some (.slice A3_4 l3_4.length c3_4) := (blk_cell BK177.out 4).trans rfl
         have hcz25_5 : wr.cell? ⟨gb177, 5, none⟩ = some (.slice A3_5 l3_5.length c3_5) := (blk_cell BK177.out 5).trans rfl
         have hcz25_6 : wr.cell? ⟨gb177, 6, none⟩ = some (.slice A3_6 l3_6.length c3_6) := (blk_cell BK177.out 6).trans rfl
         have hcz25_7 : wr.cell? ⟨gb177, 7, none⟩ = some (.slice A3_7 l3_7.length c3_7) := (blk_cell BK177.out 7).trans rfl
         have hfz25_0 := zfr BK177 0
         have hfz25_1 := zfr BK177 1
         have hfz25_2 := zfr BK177 2
         have hfz25_3 := zfr BK177 3
         have hfz25_4 := zfr BK177 4
         have hfz25_5 := zfr BK177 5
         have hfz25_6 := zfr BK177 6
         have hfz25_7 := zfr BK177 7
         have p179 : 0 ≤ (x11_2 : Int) := of_decide_eq_true y4
         have q179 : x11_2 < (l3_1.length : Int) := of_decide_eq_true y4
         obtain ⟨ad179, e179, hx179_0⟩ := Kd.at_string HR3_1.out x11_2 p179 q179
         cases e179
         replace hx179_0 := (HB.out.cell (World.block_lt_of_cell? w _ hx179_0)).trans hx179_0
         replace p179 := eq_true p179
         replace q179 := eq_true q179
         go_wp2_with (first | (go_at_call 17; (with_reducible refine (spec_l12Word.calls k2 (rdOf ByteArray.empty l3_1 x11_2) false _ A16.out).mono ?_); rintro e w' ⟨rfl, ⟨nd, rfl⟩⟩; (try first | exact ⟨rfl, _, World.drewN_drewN _ _ _⟩ | exact ⟨rfl, _, Eq.trans (World.drewN_drewN _ _ _) (congrArg (World.drewN _) (Nat.add_assoc _ _ _))⟩)))
         repeat (go_quiet (first | (go_at_call 17; (with_reducible refine (spec_l12Word.calls k2 (rdOf ByteArray.empty l3_1 x11_2) false _ A16.out).mono ?_); rintro e w' ⟨rfl, ⟨nd, rfl⟩⟩; (try first | exact ⟨rfl, _, World.drewN_drewN _ _ _⟩ | exact ⟨rfl, _, Eq.trans (World.drewN_drewN _ _ _) (congrArg (World.drewN _) (Nat.add_assoc _ _ _))⟩))); try go_wp2_with (first | (go_at_call 17; (with_reducible refine (spec_l12Word.calls k2 (rdOf ByteArray.empty l3_1 x11_2) false _ A16.out).mono ?_); rintro e w' ⟨rfl, ⟨nd, rfl⟩⟩; (try first | exact ⟨rfl, _, World.drewN_drewN _ _ _⟩ | exact ⟨rfl, _, Eq.trans (World.drewN_drewN _ _ _) (congrArg (World.drewN _) (Nat.add_assoc _ _ _))⟩))))
         go_ret
         exact ⟨y6, (y2 HB.out GE177.out)⟩
       ·rw [if_neg c15] at H
        exact absurd H (by simp)
      ·rw [if_neg c14] at H
       have c14b0 : decide (x11_2 < (l3_1.length : Int)) = false := decide_eq_false c14
       clear c14
       by_cases c26 : a3_0 = 1
       ·rw [if_pos c26] at H
        have c26b0 : (a3_0 == 1) = true := beq_iff_eq.mpr c26
        have c26b1 : (a3_0 != 1) = false := bne_eq_false_iff_eq.mpr c26
        clear c26
        by_cases c27 : (wrap64 ((wrap64 ((wrap64 ((l3_4.length : Int) + (l3_5.length : Int))) + (l3_6.length : Int))) + (l3_7.length : Int))) = 0
        ·rw [if_pos c27] at H
         have c27b0 : ((wrap64 ((wrap64 ((wrap64 ((l3_4.length : Int) + (l3_5.length : Int))) + (l3_6.length : Int))) + (l3_7.length : Int))) == 0) = true := beq_iff_eq.mpr c27
         have c27b1 : ((wrap64 ((wrap64 ((wrap64 ((l3_4.length : Int) + (l3_5.length : Int))) + (l3_6.length : Int))) + (l3_7.length : Int))) != 0) = false := bne_eq_false_iff_eq.mpr c27
         clear c27
         by_cases c28 : a3_2.toList = ([] : List UInt8)
         ·rw [if_pos c28] at H
          have c28b0 : (a3_2.toList == ([] : List UInt8)) = true := beq_iff_eq.mpr c28
          have c28b1 : (a3_2.toList != ([] : List UInt8)) = false := bne_eq_false_iff_eq.mpr c28
          clear c28
          by_cases c29 : (l3_1.length : Int) = 1
          ·rw [if_pos c29] at H
           have c29b0 : ((l3_1.length : Int) == 1) = true := beq_iff_eq.mpr c29
           have c29b1 : ((l3_1.length : Int) != 1) = false := bne_eq_false_iff_eq.mpr c29
           clear c29
           obtain rfl := Option.some.inj H
           have hcz30_0 := zh BK177
           have hcz30_1 := zh1 BK177
           have hcz30_2 := zh2 BK177
           have hcz30_3 : wr.cell? ⟨gb177, 3, none⟩ = some (.slice A3_3 l3_3.length c3_3) := (blk_cell BK177.out 3).trans rfl
           have hcz30_4 : wr.cell? ⟨gb177, 4, none⟩ = some (.slice A3_4 l3_4.length c3_4) := (blk_cell BK177.out 4).trans rfl
           have hcz30_5 : wr.cell? ⟨gb177, 5, none⟩ = some (.slice A3_5 l3_5.length c3_5) := (blk_cell BK177.out 5).trans rfl
           have hcz30_6 : wr.cell? ⟨gb177, 6, none⟩ = some (.slice A3_6 l3_6.length c3_6) := (blk_cell BK177.out 6).trans rfl
           have hcz30_7 : wr.cell? ⟨gb177, 7, none⟩ = some (.slice A3_7 l3_7.length c3_7) := (blk_cell BK177.out 7).trans rfl
           have hfz30_0 := zfr BK177 0
           have hfz30_1 := zfr BK177 1
           have hfz30_2 := zfr BK177 2
           have hfz30_3 := zfr BK177 3
           have hfz30_4 := zfr BK177 4
           have hfz30_5 := zfr BK177 5
           have hfz30_6 := zfr BK177 6
           have hfz30_7 := zfr BK177 7
           go_wp2
           repeat (go_quiet (fail); try go_wp2)
           go_ret
           exact ⟨y6, (y2 HB.out GE177.out)⟩
          ·rw [if_neg c29] at H
           have c29b0 : ((l3_1.length : Int) == 1) = false := beq_eq_false_iff_ne.mpr c29
           have c29b1 : ((l3_1.length : Int) != 1) = true := bne_iff_ne.mpr c29
           obtain rfl := Option.some.inj H
           have hcz31_0 := zh BK177
           have hcz31_1 := zh1 BK177
           have hcz31_2 := zh2 BK177
           have hcz31_3 : wr.cell? ⟨gb177, 3, none⟩ = some (.slice A3_3 l3_3.length c3_3) := (blk_cell BK177.out 3).trans rfl
           have hcz31_4 : wr.cell? ⟨gb177, 4, none⟩ = some (.slice A3_4 l3_4.length c3_4) := (blk_cell BK177.out 4).trans rfl
           have hcz31_5 : wr.cell? ⟨gb177, 5, none⟩ = some (.slice A3_5 l3_5.length c3_5) := (blk_cell BK177.out 5).trans rfl
           have hcz31_6 : wr.cell? ⟨gb177, 6, none⟩ = some (.slice A3_6 l3_6.length c3_6) := (blk_cell BK177.out 6).trans rfl
           have hcz31_7 : wr.cell? ⟨gb177, 7, none⟩ = some (.slice A3_7 l3_7.length c3_7) := (blk_cell BK177.out 7).trans rfl
           have hfz31_0 := zfr BK177 0
           have hfz31_1 := zfr BK177 1
           have hfz31_2 := zfr BK177 2
           have hfz31_3 := zfr BK177 3
           have hfz31_4 := zfr BK177 4
           have hfz31_5 := zfr BK177 5
           have hfz31_6 := zfr BK177 6
           have hfz31_7 := zfr BK177 7
           go_wp2
           repeat (go_quiet (fail); try go_wp2)
           go_ret
           exact ⟨y6, (y2 HB.out GE177.out)⟩
         ·rw [if_neg c28] at H
          have c28b0 : (a3_2.toList == ([] : List UInt8)) = false := beq_eq_false_iff_ne.mpr c28
          have c28b1 : (a3_2.toList != ([] : List UInt8)) = true := bne_iff_ne.mpr c28
          obtain rfl := Option.some.inj H
          have hcz32_0 := zh BK177
          have hcz32_1 := zh1 BK177
          have hcz32_2 := zh2 BK177
          have hcz32_3 : wr.cell? ⟨gb177, 3, none⟩ = some (.slice A3_3 l3_3.length c3_3) := (blk_cell BK177.out 3).trans rfl
          have hcz32_4 : wr.cell? ⟨gb177, 4, none⟩ = some (.slice A3_4 l3_4.length c3_4) := (blk_cell BK177.out 4).trans rfl
          have hcz32_5 : wr.cell? ⟨gb177, 5, none⟩ = some (.slice A3_5 l3_5.length c3_5) := (blk_cell BK177.out 5).trans rfl
          have hcz32_6 : wr.cell? ⟨gb177, 6, none⟩ = some (.slice A3_6 l3_6.length c3_6) := (blk_cell BK177.out 6).trans rfl
          have hcz32_7 : wr.cell? ⟨gb177, 7, none⟩ = some (.slice A3_7 l3_7.length c3_7) := (blk_cell BK177.out 7).trans rfl
          have hfz32_0 := zfr BK177 0
          have hfz32_1 := zfr BK177 1
          have hfz32_2 := zfr BK177 2
          have hfz32_3 := zfr BK177 3
          have hfz32_4 := zfr BK177 4
          have hfz32_5 := zfr BK177 5
          have hfz32_6 := zfr BK177 6
          have hfz32_7 := zfr BK177 7
          go_wp2
          repeat (go_quiet (fail); try go_wp2)
          go_ret
          exact ⟨y6, (y2 HB.out GE177.out)⟩
        ·rw [if_neg c27] at H
         have c27b0 : ((wrap64 ((wrap64 ((wrap64 ((l3_4.length : Int) + (l3_5.length : Int))) + (l3_6.length : Int))) + (l3_7.length : Int))) == 0) = false := beq_eq_false_iff_ne.mpr c27
         have c27b1 : ((wrap64 ((wrap64 ((wrap64 ((l3_4.length : Int) + (l3_5.length : Int))) + (l3_6.length : Int))) + (l3_7.length : Int))) != 0) = true := bne_iff_ne.mpr c27
         obtain rfl := Option.some.inj H
         have hcz33_0 := zh BK177
         have hcz33_1 := zh1 BK177
         have hcz33_2 := zh2 BK177
         have hcz33_3 : wr.cell? ⟨gb177, 3, none⟩ = some (.slice A3_3 l3_3.length c3_3) := (blk_cell BK177.out 3).trans rfl
         have hcz33_4 : wr.cell? ⟨gb177, 4, none⟩ = some (.slice A3_4 l3_4.length c3_4) := (blk_cell BK177.out 4).trans rfl
         have hcz33_5 : wr.cell? ⟨gb177, 5, none⟩ = some (.slice A3_5 l3_5.length c3_5) := (blk_cell BK177.out 5).trans rfl
         have hcz33_6 : wr.cell? ⟨gb177, 6, none⟩ = some (.slice A3_6 l3_6.length c3_6) := (blk_cell BK177.out 6).trans rfl
         have hcz33_7 : wr.cell? ⟨gb177, 7, none⟩ = some (.slice A3_7 l3_7.length c3_7) := (blk_cell BK177.out 7).trans rfl
         have hfz33_0 := zfr BK177 0
         have hfz33_1 := zfr BK177 1
         have hfz33_2 := zfr BK177 2
         have hfz33_3 := zfr BK177 3
         have hfz33_4 := zfr BK177 4
         have hfz33_5 := zfr BK177 5
         have hfz33_6 := zfr BK177 6
         have hfz33_7 := zfr BK177 7
         go_wp2
         repeat (go_quiet (fail); try go_wp2)
         go_ret
         exact ⟨y6, (y2 HB.out GE177.out)⟩
       ·rw [if_neg c26] at H
        have c26b0 : (a3_0 == 1) = false := beq_eq_false_iff_ne.mpr c26
        have c26b1 : (a3_0 != 1) = true := bne_iff_ne.mpr c26
        by_cases c34 : a3_0 = 2
        ·rw [if_pos c34] at H
         have c34b0 : (a3_0 == 2) = true := beq_iff_eq.mpr c34
         have c34b1 : (a3_0 != 2) = false := bne_eq_false_iff_eq.mpr c34
         clear c34
         obtain ⟨⟨t184, t185, t186⟩, A350, H⟩ := ob H
         have A35 := Aside0.mk A350
         clear A350
         by_cases c36 : (wrap64 ((wrap64 ((wrap64 ((l3_4.length : Int) + (l3_5.length : Int))) + (l3_6.length : Int))) + (l3_7.length : Int))) = 0
         ·rw [if_pos c36] at H
          have c36b0 : ((wrap64 ((wrap64 ((wrap64 ((l3_4.length : Int) + (l3_5.length : Int))) + (l3_6.length : Int))) + (l3_7.length : Int))) == 0) = true := beq_iff_eq.mpr c36
          have c36b1 : ((wrap64 ((wrap64 ((wrap64 ((l3_4.length : Int) + (l3_5.length : Int))) + (l3_6.length : Int))) + (l3_7.length : Int))) != 0) = false := bne_eq_false_iff_eq.mpr c36
          clear c36
          by_cases c37 : t186 = true
          ·subst c37
           rw [if_pos rfl] at H
           by_cases c38 : t184 = (l3_3.length : Int)
           ·rw [if_pos c38] at H
            have c38b0 : (t184 == (l3_3.length : Int)) = true := beq_iff_eq.mpr c38
            have c38b1 : (t184 != (l3_3.length : Int)) = false := bne_eq_false_iff_eq.mpr c38
            clear c38
            obtain rfl := Option.some.inj H
            have hcz39_0 := zh BK177
            have hcz39_1 := zh1 BK177
            have hcz39_2 := zh2 BK177
            have hcz39_3 : wr.cell? ⟨gb177, 3, none⟩ = some (.slice A3_3 l3_3.length c3_3) := (blk_cell BK177.out 3).trans rfl
            have hcz39_4 : wr.cell? ⟨gb177, 4, none⟩ = some (.slice A3_4 l3_4.length c3_4) := (blk_cell BK177.out 4).trans rfl
            have hcz39_5 : wr.cell? ⟨gb177, 5, none⟩ = some (.slice A3_5 l3_5.length c3_5) := (blk_cell BK177.out 5).trans rfl
            have hcz39_6 : wr.cell? ⟨gb177, 6, none⟩ = some (.slice A3_6 l3_6.length c3_6) := (blk_cell BK177.out 6).trans rfl
            have hcz39_7 : wr.cell? ⟨gb177, 7, none⟩ = some (.slice A3_7 l3_7.length c3_7) := (blk_cell BK177.out 7).trans rfl
            have hfz39_0 := zfr BK177 0
            have hfz39_1 := zfr BK177 1
            have hfz39_2 := zfr BK177 2
            have hfz39_3 := zfr BK177 3
            have hfz39_4 := zfr BK177 4
            have hfz39_5 := zfr BK177 5
            have hfz39_6 := zfr BK177 6
            have hfz39_7 := zfr BK177 7
            go_wp2_with (first | (go_at_call 16; (with_reducible refine (spec_l12Arity.calls k2 _ _ l0 a1 a3_2 t184 t185 true _ ?side1 ?side2 A35.out).mono ?_); (case side1 => exact y0 HR0.out HB.out); (case side2 => exact HC0.out); rintro e w' ⟨rfl, ⟨nd, rfl⟩⟩; (try first | exact ⟨rfl, _, World.drewN_drewN _ _ _⟩ | exact ⟨rfl, _, Eq.trans (World.drewN_drewN _ _ _) (congrArg (World.drewN _) (Nat.add_assoc _ _ _))⟩)))
            repeat (go_quiet (first | (go_at_call 16; (with_reducible refine (spec_l12Arity.calls k2 _ _ l0 a1 a3_2 t184 t185 true _ ?side1 ?side2 A35.out).mono ?_); (case side1 => exact y0 HR0.out HB.out); (case side2 => exact HC0.out); rintro e w' ⟨rfl, ⟨nd, rfl⟩⟩; (try first | exact ⟨rfl, _, World.drewN_drewN _ _ _⟩ | exact ⟨rfl, _, Eq.trans (World.drewN_drewN _ _ _) (congrArg (World.drewN _) (Nat.add_assoc _ _ _))⟩))); try go_wp2_with (first | (go_at_call 16; (with_reducible refine (spec_l12Arity.calls k2 _ _ l0 a1 a3_2 t184 t185 true _ ?side1 ?side2 A35.out).mono ?_); (case side1 => exact y0 HR0.out HB.out); (case side2 => exact HC0.out); rintro e w' ⟨rfl, ⟨nd, rfl⟩⟩; (try first | exact ⟨rfl, _, World.drewN_drewN _ _ _⟩ | exact ⟨rfl, _, Eq.trans (World.drewN_drewN _ _ _) (congrArg (World.drewN _) (Nat.add_assoc _ _ _))⟩))))
            go_ret
            exact ⟨y6, (y2 HB.out GE177.out)⟩
           ·rw [if_neg c38] at H
            have c38b0 : (t184 == (l3_3.length : Int)) = false := beq_eq_false_iff_ne.mpr c38
            have c38b1 : (t184 != (l3_3.length : Int)) = true := bne_iff_ne.mpr c38
            obtain rfl := Option.some.inj H
            have hcz40_0 := zh BK177
            have hcz40_1 := zh1 BK177
            have hcz40_2 := zh2 BK177
            have hcz40_3 : wr.cell? ⟨gb177, 3, none⟩ = some (.slice A3_3 l3_3.length c3_3) := (blk_cell BK177.out 3).trans rfl
            have hcz40_4 : wr.cell? ⟨gb177, 4, none⟩ = some (.slice A3_4 l3_4.length c3_4) := (blk_cell BK177.out 4).trans rfl
            have hcz40_5 : wr.cell? ⟨gb177, 5, none⟩ = some (.slice A3_5 l3_5.length c3_5) := (blk_cell BK177.out 5).trans rfl
            have hcz40_6 : wr.cell? ⟨gb177, 6, none⟩ = some (.slice A3_6 l3_6.length c3_6) := (blk_cell BK177.out 6).trans rfl
            have hcz40_7 : wr.cell? ⟨gb177, 7, none⟩ = some (.slice A3_7 l3_7.length c3_7) := (blk_cell BK177.out 7).trans rfl
            have hfz40_0 := zfr BK177 0
            have hfz40_1 := zfr BK177 1
            have hfz40_2 := zfr BK177 2
            have hfz40_3 := zfr BK177 3
            have hfz40_4 := zfr BK177 4
            have hfz40_5 := zfr BK177 5
            have hfz40_6 := zfr BK177 6
            have hfz40_7 := zfr BK177 7
            go_wp2_with (first | (go_at_call 16; (with_reducible refine (spec_l12Arity.calls k2 _ _ l0 a1 a3_2 t184 t185 true _ ?side1 ?side2 A35.out).mono ?_); (case side1 => exact y0 HR0.out HB.out); (case side2 => exact HC0.out); rintro e w' ⟨rfl, ⟨nd, rfl⟩⟩; (try first | exact ⟨rfl, _, World.drewN_drewN _ _ _⟩ | exact ⟨rfl, _, Eq.trans (World.drewN_drewN _ _ _) (congrArg (World.drewN _) (Nat.add_assoc _ _ _))⟩)))
            repeat (go_quiet (first | (go_at_call 16; (with_reducible refine (spec_l12Arity.calls k2 _ _ l0 a1 a3_2 t184 t185 true _ ?side1 ?side2 A35.out).mono ?_); (case side1 => exact y0 HR0.out HB.out); (case side2 => exact HC0.out); rintro e w' ⟨rfl, ⟨nd, rfl⟩⟩; (try first | exact ⟨rfl, _, World.drewN_drewN _ _ _⟩ | exact ⟨rfl, _, Eq.trans (World.drewN_drewN _ _ _) (congrArg (World.drewN _) (Nat.add_assoc _ _ _))⟩))); try go_wp2_with (first | (go_at_call 16; (with_reducible refine (spec_l12Arity.calls k2 _ _ l0 a1 a3_2 t184 t185 true _ ?side1 ?side2 A35.out).mono ?_); (case side1 => exact y0 HR0.out HB.out); (case side2 => exact HC0.out); rintro e w' ⟨rfl, ⟨nd, rfl⟩⟩; (try first | exact ⟨rfl, _, World.drewN_drewN _ _ _⟩ | exact ⟨rfl, _, Eq.trans (World.drewN_drewN _ _ _) (congrArg (World.drewN _) (Nat.add_assoc _ _ _))⟩))))
            go_ret
            exact ⟨y6, (y2 HB.out GE177.out)⟩
          ·replace c37 := Bool.eq_false_iff.mpr c37
           subst c37
           rw [if_neg (show ¬ (false = true) by decide)] at H
           obtain rfl := Option.some.inj H
           have hcz41_0 := zh BK177
           have hcz41_1 := zh1 BK177
           have hcz41_2 := zh2 BK177
           have hcz41_3 : wr.cell? ⟨gb177, 3, none⟩ = some (.slice A3_3 l3_3.length c3_3) := (blk_cell BK177.out 3).trans rfl
           have hcz41_4 : wr.cell? ⟨gb177, 4, none⟩ = some (.slice A3_4 l3_4.length c3_4) := (blk_cell BK177.out 4).trans rfl
           have hcz41_5 : wr.cell? ⟨gb177, 5, none⟩ = some (.slice A3_5 l3_5.length c3_5) := (blk_cell BK177.out 5).trans rfl
           have hcz41_6 : wr.cell? ⟨gb177, 6, none⟩ = some (.slice A3_6 l3_6.length c3_6) := (blk_cell BK177.out 6).trans rfl
           have hcz41_7 : wr.cell? ⟨gb177, 7, none⟩ = some (.slice A3_7 l3_7.length c3_7) := (blk_cell BK177.out 7).trans rfl
           have hfz41_0 := zfr BK177 0
           have hfz41_1 := zfr BK177 1
           have hfz41_2 := zfr BK177 2
           have hfz41_3 := zfr BK177 3
           have hfz41_4 := zfr BK177 4
           have hfz41_5 := zfr BK177 5
           have hfz41_6 := zfr BK177 6
           have hfz41_7 := zfr BK177 7
           go_wp2_with (first | (go_at_call 16; (with_reducible refine (spec_l12Arity.calls k2 _ _ l0 a1 a3_2 t184 t185 false _ ?side1 ?side2 A35.out).mono ?_); (case side1 => exact y0 HR0.out HB.out); (case side2 => exact HC0.out); rintro e w' ⟨rfl, ⟨nd, rfl⟩⟩; (try first | exact ⟨rfl, _, World.drewN_drewN _ _ _⟩ | exact ⟨rfl, _, Eq.trans (World.drewN_drewN _ _ _) (congrArg (World.drewN _) (Nat.add_assoc _ _ _))⟩)))
           repeat (go_quiet (first | (go_at_call 16; (with_reducible refine (spec_l12Arity.calls k2 _ _ l0 a1 a3_2 t184 t185 false _ ?side1 ?side2 A35.out).mono ?_); (case side1 => exact y0 HR0.out HB.out); (case side2 => exact HC0.out); rintro e w' ⟨rfl, ⟨nd, rfl⟩⟩; (try first | exact ⟨rfl, _, World.drewN_drewN _ _ _⟩ | exact ⟨rfl, _, Eq.trans (World.drewN_drewN _ _ _) (congrArg (World.drewN _) (Nat.add_assoc _ _ _))⟩))); try go_wp2_with (first | (go_at_call 16; (with_reducible refine (spec_l12Arity.calls k2 _ _ l0 a1 a3_2 t184 t185 false _ ?side1 ?side2 A35.out).mono ?_); (case side1 => exact y0 HR0.out HB.out); (case side2 => exact HC0.out); rintro e w' ⟨rfl, ⟨nd, rfl⟩⟩; (try first | exact ⟨rfl, _, World.drewN_drewN _ _ _⟩ | exact ⟨rfl, _, Eq.trans (World.drewN_drewN _ _ _) (congrArg (World.drewN _) (Nat.add_assoc _ _ _))⟩))))
           go_ret
           exact ⟨y6, (y2 HB.out GE177.out)⟩
         ·rw [if_neg c36] at H
          have c36b0 : ((wrap64 ((wrap64 ((wrap64 ((l3_4.length : Int) + (l3_5.length : Int))) + (l3_6.length : Int))) + (l3_7.length : Int))) == 0) = false := beq_eq_false_iff_ne.mpr c36
          have c36b1 : ((wrap64 ((wrap64 ((wrap64 ((l3_4.length : Int) + (l3_5.length : Int))) + (l3_6.length : Int))) + (l3_7.length : Int))) != 0) = true := bne_iff_ne.mpr c36
          obtain rfl := Option.some.inj H
          have hcz42_0 := zh BK177
          have hcz42_1 := zh1 BK177
          have hcz42_2 := zh2 BK177
          have hcz42_3 : wr.cell? ⟨gb177, 3, none⟩ = some (.slice A3_3 l3_3.length c3_3) := (blk_cell BK177.out 3).trans rfl
          have hcz42_4 : wr.cell? ⟨gb177, 4, none⟩ = some (.slice A3_4 l3_4.length c3_4) := (blk_cell BK177.out 4).trans rfl
          have hcz42_5 : wr.cell? ⟨gb177, 5, none⟩ = some (.slice A3_5 l3_5.length c3_5) := (blk_cell BK177.out 5).trans rfl
          have hcz42_6 : wr.cell? ⟨gb177, 6, none⟩ = some (.slice A3_6 l3_6.length c3_6) := (blk_cell BK177.out 6).trans rfl
          have hcz42_7 : wr.cell? ⟨gb177, 7, none⟩ = some (.slice A3_7 l3_7.length c3_7) := (blk_cell BK177.out 7).trans rfl
          have hfz42_0 := zfr BK177 0
          have hfz42_1 := zfr BK177 1
          have hfz42_2 := zfr BK177 2
          have hfz42_3 := zfr BK177 3
          have hfz42_4 := zfr BK177 4
          have hfz42_5 := zfr BK177 5
          have hfz42_6 := zfr BK177 6
          have hfz42_7 := zfr BK177 7
          go_wp2_with (first | (go_at_call 16; (with_reducible refine (spec_l12Arity.calls k2 _ _ l0 a1 a3_2 t184 t185 t186 _ ?side1 ?side2 A35.out).mono ?_); (case side1 => exact y0 HR0.out HB.out); (case side2 => exact HC0.out); rintro e w' ⟨rfl, ⟨nd, rfl⟩⟩; (try first | exact ⟨rfl, _, World.drewN_drewN _ _ _⟩ | exact ⟨rfl, _, Eq.trans (World.drewN_drewN _ _ _) (congrArg (World.drewN _) (Nat.add_assoc _ _ _))⟩)))
          repeat (go_quiet (first | (go_at_call 16; (with_reducible refine (spec_l12Arity.calls k2 _ _ l0 a1 a3_2 t184 t185 t186 _ ?side1 ?side2 A35.out).mono ?_); (case side1 => exact y0 HR0.out HB.out); (case side2 => exact HC0.out); rintro e w' ⟨rfl, ⟨nd, rfl⟩⟩; (try first | exact ⟨rfl, _, World.drewN_drewN _ _ _⟩ | exact ⟨rfl, _, Eq.trans (World.drewN_drewN _ _ _) (congrArg (World.drewN _) (Nat.add_assoc _ _ _))⟩))); try go_wp2_with (first | (go_at_call 16; (with_reducible refine (spec_l12Arity.calls k2 _ _ l0 a1 a3_2 t184 t185 t186 _ ?side1 ?side2 A35.out).mono ?_); (case side1 => exact y0 HR0.out HB.out); (case side2 => exact HC0.out); rintro e w' ⟨rfl, ⟨nd, rfl⟩⟩; (try first | exact ⟨rfl, _, World.drewN_drewN _ _ _⟩ | exact ⟨rfl, _, Eq.trans (World.drewN_drewN _ _ _) (congrArg (World.drewN _) (Nat.add_assoc _ _ _))⟩))))
          go_ret
          exact ⟨y6, (y2 HB.out GE177.out)⟩
        ·rw [if_neg c34] at H
         have c34b0 : (a3_0 == 2) = false := beq_eq_false_iff_ne.mpr c34
         have c34b1 : (a3_0 != 2) = true := bne_iff_ne.mpr c34
         by_cases c43 : a3_0 = 3
         ·rw [if_pos c43] at H
          have c43b0 : (a3_0 == 3) = true := beq_iff_eq.mpr c43
          have c43b1 : (a3_0 != 3) = false := bne_eq_false_iff_eq.mpr c43
          clear c43
          by_cases c44 : a3_2.toList = ([] : List UInt8)
          ·rw [if_pos c44] at H
           have c44b0 : (a3_2.toList == ([] : List UInt8)) = true := beq_iff_eq.mpr c44
           have c44b1 : (a3_2.toList != ([] : List UInt8)) = false := bne_eq_false_iff_eq.mpr c44
           clear c44
           by_cases c45 : (l3_3.length : Int) = 1
           ·rw [if_pos c45] at H
            have c45b0 : ((l3_3.length : Int) == 1) = true := beq_iff_eq.mpr c45
            have c45b1 : ((l3_3.length : Int) != 1) = false := bne_eq_false_iff_eq.mpr c45
            clear c45
            obtain ⟨t187, A460, H⟩ := ob H
            have A46 := Aside0.mk A460
            clear A460
            by_cases c47 : t187 = true
            ·subst c47
             rw [if_pos rfl] at H
             obtain ⟨t188, A480, H⟩ := ob H
             have A48 := Aside0.mk A480
             clear A480
             by_cases c49 : t188 = true
             ·subst c49
              rw [if_pos rfl] at H
              by_cases c50 : (l3_5.length : Int) = (l3_1.length : Int)
              ·rw [if_pos c50] at H
               have c50b0 : ((l3_5.length : Int) == (l3_1.length : Int)) = true := beq_iff_eq.mpr c50
               have c50b1 : ((l3_5.length : Int) != (l3_1.length : Int)) = false := bne_eq_false_iff_eq.mpr c50
               have c50b2 : (l3_5.length == l3_1.length) = true := by first | simpa using c50 | (simp at c50 ⊢; omega)
               clear c50
               obtain rfl := Option.some.inj H
               have hcz51_0 := zh BK177
               have hcz51_1 := zh1 BK177
               have hcz51_2 := zh2 BK177
               have hcz51_3 : wr.cell? ⟨gb177, 3, none⟩ = some (.slice A3_3 l3_3.length c3_3) := (blk_cell BK177.out 3).trans rfl
               have hcz51_4 : wr.cell? ⟨gb177, 4, none⟩ = some (.slice A3_4 l3_4.length c3_4) := (blk_cell BK177.out 4).trans rfl
               have hcz51_5 : wr.cell? ⟨gb177, 5, none⟩ = some (.slice A3_5 l3_5.length c3_5) := (blk_cell BK177.out 5).trans rfl
               have hcz51_6 : wr.cell? ⟨gb177, 6, none⟩ = some (.slice A3_6 l3_6.length c3_6) := (blk_cell BK177.out 6).trans rfl
               have hcz51_7 : wr.cell? ⟨gb177, 7, none⟩ = some (.slice A3_7 l3_7.length c3_7) := (blk_cell BK177.out 7).trans rfl
               have hfz51_0 := zfr BK177 0
               have hfz51_1 := zfr BK177 1
               have hfz51_2 := zfr BK177 2
               have hfz51_3 := zfr BK177 3
               have hfz51_4 := zfr BK177 4
               have hfz51_5 := zfr BK177 5
               have hfz51_6 := zfr BK177 6
               have hfz51_7 := zfr BK177 7
               go_wp2_with (first | (go_at_call 18; (with_reducible refine (IH  _ _ l0 a1 _ _ l2 _ _ l3_4 _ _ l3_5 (wrap64 (a4 - 1)) true _ ?side1 ?side2 ?side3 ?side4 ?side5 ?side6 ?side7 ?side8 A46.out).mono ?_); (case side1 => exact y0 HR0.out HB.out); (case side2 => exact HC0.out); (case side3 => exact y0 HR2.out HB.out); (case side4 => exact HC2.out); (case side5 => exact y0 HR3_4.out HB.out); (case side6 => exact HC3_4.out); (case side7 => exact y0 HR3_5.out HB.out); (case side8 => exact HC3_5.out); rintro e w52 ⟨rfl, hb⟩; replace BK177 := zbb BK177 hb; replace HB := Aside0.mk (below_step (y2 HB.out GE177.out) hb); (try clear hb); (try clear hb2); (try clear hk); (try clear hi); have hcz53_0 := zh BK177; have hcz53_1 := zh1 BK177; have hcz53_2 := zh2 BK177; have hcz53_3 : w52.cell? ⟨gb177, 3, none⟩ = some (.slice A3_3 l3_3.length c3_3) := (blk_cell BK177.out 3).trans rfl; have hcz53_4 : w52.cell? ⟨gb177, 4, none⟩ = some (.slice A3_4 l3_4.length c3_4) := (blk_cell BK177.out 4).trans rfl; have hcz53_5 : w52.cell? ⟨gb177, 5, none⟩ = some (.slice A3_5 l3_5.length c3_5) := (blk_cell BK177.out 5).trans rfl; have hcz53_6 : w52.cell? ⟨gb177, 6, none⟩ = some (.slice A3_6 l3_6.length c3_6) := (blk_cell BK177.out 6).trans rfl; have hcz53_7 : w52.cell? ⟨gb177, 7, none⟩ = some (.slice A3_7 l3_7.length c3_7) := (blk_cell BK177.out 7).trans rfl; have hfz53_0 := zfr BK177 0; have hfz53_1 := zfr BK177 1; have hfz53_2 := zfr BK177 2; have hfz53_3 := zfr BK177 3; have hfz53_4 := zfr BK177 4; have hfz53_5 := zfr BK177 5; have hfz53_6 := zfr BK177 6; have hfz53_7 := zfr BK177 7) | (go_at_call 18; (with_reducible refine (IH  _ _ l0 a1 _ _ l2 _ _ l3_6 _ _ l3_7 (wrap64 (a4 - 1)) true _ ?side1 ?side2 ?side3 ?side4 ?side5 ?side6 ?side7 ?side8 A48.out).mono ?_); (case side1 => exact y0 HR0.out HB.out); (case side2 => exact HC0.out); (case side3 => exact y0 HR2.out HB.out); (case side4 => exact HC2.out); (case side5 => exact y0 HR3_6.out HB.out); (case side6 => exact HC3_6.out); (case side7 => exact y0 HR3_7.out HB.out); (case side8 => exact HC3_7.out); rintro e w54 ⟨rfl, hb⟩; replace BK177 := zbb BK177 hb; replace HB := Aside0.mk (below_step (y2 HB.out GE177.out) hb); (try clear hb); (try clear hb2); (try clear hk); (try clear hi); have hcz55_0 := zh BK177; have hcz55_1 := zh1 BK177; have hcz55_2 := zh2 BK177; have hcz55_3 : w54.cell? ⟨gb177, 3, none⟩ = some (.slice A3_3 l3_3.length c3_3) := (blk_cell BK177.out 3).trans rfl; have hcz55_4 : w54.cell? ⟨gb177, 4, none⟩ = some (.slice A3_4 l3_4.length c3_4) := (blk_cell BK177.out 4).trans rfl; have hcz55_5 : w54.cell? ⟨gb177, 5, none⟩ = some (.slice A3_5 l3_5.length c3_5) := (blk_cell BK177.out 5).trans rfl; have hcz55_6 : w54.cell? ⟨gb177, 6, none⟩ = some (.slice A3_6 l3_6.length c3_6) := (blk_cell BK177.out 6).trans rfl; have hcz55_7 : w54.cell? ⟨gb177, 7, none⟩ = some (.slice A3_7 l3_7.length c3_7) := (blk_cell BK177.out 7).trans rfl; have hfz55_0 := zfr BK177 0; have hfz55_1 := zfr BK177 1; have hfz55_2 := zfr BK177 2; have hfz55_3 := zfr BK177 3; have hfz55_4 := zfr BK177 4; have hfz55_5 := zfr BK177 5; have hfz55_6 := zfr BK177 6; have hfz55_7 := zfr BK177 7))
               repeat (go_quiet (first | (go_at_call 18; (with_reducible refine (IH  _ _ l0 a1 _ _ l2 _ _ l3_4 _ _ l3_5 (wrap64 (a4 - 1)) true _ ?side1 ?side2 ?side3 ?side4 ?side5 ?side6 ?side7 ?side8 A46.out).mono ?_); (case side1 => exact y0 HR0.out HB.out); (case side2 => exact HC0.out); (case side3 => exact y0 HR2.out HB.out); (case side4 => exact HC2.out); (case side5 => exact y0 HR3_4.out HB.out); (case side6 => exact HC3_4.out); (case side7 => exact y0 HR3_5.out HB.out); (case side8 => exact HC3_5.out); rintro e w52 ⟨rfl, hb⟩; replace BK177 := zbb BK177 hb; replace HB := Aside0.mk (below_step (y2 HB.out GE177.out) hb); (try clear hb); (try clear hb2); (try clear hk); (try clear hi); have hcz53_0 := zh BK177; have hcz53_1 := zh1 BK177; have hcz53_2 := zh2 BK177; have hcz53_3 : w52.cell? ⟨gb177, 3, none⟩ = some (.slice A3_3 l3_3.length c3_3) := (blk_cell BK177.out 3).trans rfl; have hcz53_4 : w52.cell? ⟨gb177, 4, none⟩ = some (.slice A3_4 l3_4.length c3_4) := (blk_cell BK177.out 4).trans rfl; have hcz53_5 : w52.cell? ⟨gb177, 5, none⟩ = some (.slice A3_5 l3_5.length c3_5) := (blk_cell BK177.out 5).trans rfl; have hcz53_6 : w52.cell? ⟨gb177, 6, none⟩ = some (.slice A3_6 l3_6.length c3_6) := (blk_cell BK177.out 6).trans rfl; have hcz53_7 : w52.cell? ⟨gb177, 7, none⟩ = some (.slice A3_7 l3_7.length c3_7) := (blk_cell BK177.out 7).trans rfl; have hfz53_0 := zfr BK177 0; have hfz53_1 := zfr BK177 1; have hfz53_2 := zfr BK177 2; have hfz53_3 := zfr BK177 3; have hfz53_4 := zfr BK177 4; have hfz53_5 := zfr BK177 5; have hfz53_6 := zfr BK177 6; have hfz53_7 := zfr BK177 7) | (go_at_call 18; (with_reducible refine (IH  _ _ l0 a1 _ _ l2 _ _ l3_6 _ _ l3_7 (wrap64 (a4 - 1)) true _ ?side1 ?side2 ?side3 ?side4 ?side5 ?side6 ?side7 ?side8 A48.out).mono ?_); (case side1 => exact y0 HR0.out HB.out); (case side2 => exact HC0.out); (case side3 => exact y0 HR2.out HB.out); (case side4 => exact HC2.out); (case side5 => exact y0 HR3_6.out HB.out); (case side6 => exact HC3_6.out); (case side7 => exact y0 HR3_7.out HB.out); (case side8 => exact HC3_7.out); rintro e w54 ⟨rfl, hb⟩; replace BK177 := zbb BK177 hb; replace HB := Aside0.mk (below_step (y2 HB.out GE177.out) hb); (try clear hb); (try clear hb2); (try clear hk); (try clear hi); have hcz55_0 := zh BK177; have hcz55_1 := zh1 BK177; have hcz55_2 := zh2 BK177; have hcz55_3 : w54.cell? ⟨gb177, 3, none⟩ = some (.slice A3_3 l3_3.length c3_3) := (blk_cell BK177.out 3).trans rfl; have hcz55_4 : w54.cell? ⟨gb177, 4, none⟩ = some (.slice A3_4 l3_4.length c3_4) := (blk_cell BK177.out 4).trans rfl; have hcz55_5 : w54.cell? ⟨gb177, 5, none⟩ = some (.slice A3_5 l3_5.length c3_5) := (blk_cell BK177.out 5).trans rfl; have hcz55_6 : w54.cell? ⟨gb177, 6, none⟩ = some (.slice A3_6 l3_6.length c3_6) := (blk_cell BK177.out 6).trans rfl; have hcz55_7 : w54.cell? ⟨gb177, 7, none⟩ = some (.slice A3_7 l3_7.length c3_7) := (blk_cell BK177.out 7).trans rfl; have hfz55_0 := zfr BK177 0; have hfz55_1 := zfr BK177 1; have hfz55_2 := zfr BK177 2; have hfz55_3 := zfr BK177 3; have hfz55_4 := zfr BK177 4; have hfz55_5 := zfr BK177 5; have hfz55_6 := zfr BK177 6; have hfz55_7 := zfr BK177 7)); try go_wp2_with (first | (go_at_call 18; (with_reducible refine (IH  _ _ l0 a1 _ _ l2 _ _ l3_4 _ _ l3_5 (wrap64 (a4 - 1)) true _ ?side1 ?side2 ?side3 ?side4 ?side5 ?side6 ?side7 ?side8 A46.out).mono ?_); (case side1 => exact y0 HR0.out HB.out); (case side2 => exact HC0.out); (case side3 => exact y0 HR2.out HB.out); (case side4 => exact HC2.out); (case side5 => exact y0 HR3_4.out HB.out); (case side6 => exact HC3_4.out); (case side7 => exact y0 HR3_5.out HB.out); (case side8 => exact HC3_5.out); rintro e w52 ⟨rfl, hb⟩; replace BK177 := zbb BK177 hb; replace HB := Aside0.mk (below_step (y2 HB.out GE177.out) hb); (try clear hb); (try clear hb2); (try clear hk); (try clear hi); have hcz53_0 := zh BK177; have hcz53_1 := zh1 BK177; have hcz53_2 := zh2 BK177; have hcz53_3 : w52.cell? ⟨gb177, 3, none⟩ = some (.slice A3_3 l3_3.length c3_3) := (blk_cell BK177.out 3).trans rfl; have hcz53_4 : w52.cell? ⟨gb177, 4, none⟩ = some (.slice A3_4 l3_4.length c3_4) := (blk_cell BK177.out 4).trans rfl; have hcz53_5 : w52.cell? ⟨gb177, 5, none⟩ = some (.slice A3_5 l3_5.length c3_5) := (blk_cell BK177.out 5).trans rfl; have hcz53_6 : w52.cell? ⟨gb177, 6, none⟩ = some (.slice A3_6 l3_6.length c3_6) := (blk_cell BK177.out 6).trans rfl; have hcz53_7 : w52.cell? ⟨gb177, 7, none⟩ = some (.slice A3_7 l3_7.length c3_7) := (blk_cell BK177.out 7).trans rfl; have hfz53_0 := zfr BK177 0; have hfz53_1 := zfr BK177 1; have hfz53_2 := zfr BK177 2; have hfz53_3 := zfr BK177 3; have hfz53_4 := zfr BK177 4; have hfz53_5 := zfr BK177 5; have hfz53_6 := zfr BK177 6; have hfz53_7 := zfr BK177 7) | (go_at_call 18; (with_reducible refine (IH  _ _ l0 a1 _ _ l2 _ _ l3_6 _ _ l3_7 (wrap64 (a4 - 1)) true _ ?side1 ?side2 ?side3 ?side4 ?side5 ?side6 ?side7 ?side8 A48.out).mono ?_); (case side1 => exact y0 HR0.out HB.out); (case side2 => exact HC0.out); (case side3 => exact y0 HR2.out HB.out); (case side4 => exact HC2.out); (case side5 => exact y0 HR3_6.out HB.out); (case side6 => exact HC3_6.out); (case side7 => exact y0 HR3_7.out HB.out); (case side8 => exact HC3_7.out); rintro e w54 ⟨rfl, hb⟩; replace BK177 := zbb BK177 hb; replace HB := Aside0.mk (below_step (y2 HB.out GE177.out) hb); (try clear hb); (try clear hb2); (try clear hk); (try clear hi); have hcz55_0 := zh BK177; have hcz55_1 := zh1 BK177; have hcz55_2 := zh2 BK177; have hcz55_3 : w54.cell? ⟨gb177, 3, none⟩ = some (.slice A3_3 l3_3.length c3_3) := (blk_cell BK177.out 3).trans rfl; have hcz55_4 : w54.cell? ⟨gb177, 4, none⟩ = some (.slice A3_4 l3_4.length c3_4) := (blk_cell BK177.out 4).trans rfl; have hcz55_5 : w54.cell? ⟨gb177, 5, none⟩ = some (.slice A3_5 l3_5.length c3_5) := (blk_cell BK177.out 5).trans rfl; have hcz55_6 : w54.cell? ⟨gb177, 6, none⟩ = some (.slice A3_6 l3_6.length c3_6) := (blk_cell BK177.out 6).trans rfl; have hcz55_7 : w54.cell? ⟨gb177, 7, none⟩ = some (.slice A3_7 l3_7.length c3_7) := (blk_cell BK177.out 7).trans rfl; have hfz55_0 := zfr BK177 0; have hfz55_1 := zfr BK177 1; have hfz55_2 := zfr BK177 2; have hfz55_3 := zfr BK177 3; have hfz55_4 := zfr BK177 4; have hfz55_5 := zfr BK177 5; have hfz55_6 := zfr BK177 6; have hfz55_7 := zfr BK177 7)))
               go_ret
               exact ⟨y6, (y2 HB.out GE177.out)⟩
              ·rw [if_neg c50] at H
               have c50b0 : ((l3_5.length : Int) == (l3_1.length : Int)) = false := beq_eq_false_iff_ne.mpr c50
               have c50b1 : ((l3_5.length : Int) != (l3_1.length : Int)) = true := bne_iff_ne.mpr c50
               have c50b2 : (l3_5.length == l3_1.length) = false := by first | simpa using c50 | (simp at c50 ⊢; omega)
               obtain rfl := Option.some.inj H
               have hcz56_0 := zh BK177
               have hcz56_1 := zh1 BK177
               have hcz56_2 := zh2 BK177
               have hcz56_3 : wr.cell? ⟨gb177, 3, none⟩ = some (.slice A3_3 l3_3.length c3_3) := (blk_cell BK177.out 3).trans rfl
               have hcz56_4 : wr.cell? ⟨gb177, 4, none⟩ = some (.slice A3_4 l3_4.length c3_4) := (blk_cell BK177.out 4).trans rfl
               have hcz56_5 : wr.cell? ⟨gb177, 5, none⟩ = some (.slice A3_5 l3_5.length c3_5) := (blk_cell BK177.out 5).trans rfl
               have hcz56_6 : wr.cell? ⟨gb177, 6, none⟩ = some (.slice A3_6 l3_6.length c3_6) := (blk_cell BK177.out 6).trans rfl
               have hcz56_7 : wr.cell? ⟨gb177, 7, none⟩ = some (.slice A3_7 l3_7.length c3_7) := (blk_cell BK177.out 7).trans rfl
               have hfz56_0 := zfr BK177 0
               have hfz56_1 := zfr BK177 1
               have hfz56_2 := zfr BK177 2
               have hfz56_3 := zfr BK177 3
               have hfz56_4 := zfr BK177 4
               have hfz56_5 := zfr BK177 5
               have hfz56_6 := zfr BK177 6
               have hfz56_7 := zfr BK177 7
               go_wp2_with (first | (go_at_call 18; (with_reducible refine (IH  _ _ l0 a1 _ _ l2 _ _ l3_4 _ _ l3_5 (wrap64 (a4 - 1)) true _ ?side1 ?side2 ?side3 ?side4 ?side5 ?side6 ?side7 ?side8 A46.out).mono ?_); (case side1 => exact y0 HR0.out HB.out); (case side2 => exact HC0.out); (case side3 => exact y0 HR2.out HB.out); (case side4 => exact HC2.out); (case side5 => exact y0 HR3_4.out HB.out); (case side6 => exact HC3_4.out); (case side7 => exact y0 HR3_5.out HB.out); (case side8 => exact HC3_5.out); rintro e w57 ⟨rfl, hb⟩; replace BK177 := zbb BK177 hb; replace HB := Aside0.mk (below_step (y2 HB.out GE177.out) hb); (try clear hb); (try clear hb2); (try clear hk); (try clear hi); have hcz58_0 := zh BK177; have hcz58_1 := zh1 BK177; have hcz58_2 := zh2 BK177; have hcz58_3 : w57.cell? ⟨gb177, 3, none⟩ = some (.slice A3_3 l3_3.length c3_3) := (blk_cell BK177.out 3).trans rfl; have hcz58_4 : w57.cell? ⟨gb177, 4, none⟩ = some (.slice A3_4 l3_4.length c3_4) := (blk_cell BK177.out 4).trans rfl; have hcz58_5 : w57.cell? ⟨gb177, 5, none⟩ = some (.slice A3_5 l3_5.length c3_5) := (blk_cell BK177.out 5).trans rfl; have hcz58_6 : w57.cell? ⟨gb177, 6, none⟩ = some (.slice A3_6 l3_6.length c3_6) := (blk_cell BK177.out 6).trans rfl; have hcz58_7 : w57.cell? ⟨gb177, 7, none⟩ = some (.slice A3_7 l3_7.length c3_7) := (blk_cell BK177.out 7).trans rfl; have hfz58_0 := zfr BK177 0; have hfz58_1 := zfr BK177 1; have hfz58_2 := zfr BK177 2; have hfz58_3 := zfr BK177 3; have hfz58_4 := zfr BK177 4; have hfz58_5 := zfr BK177 5; have hfz58_6 := zfr BK177 6; have hfz58_7 := zfr BK177 7) | (go_at_call 18; (with_reducible refine (IH  _ _ l0 a1 _ _ l2 _ _ l3_6 _ _ l3_7 (wrap64 (a4 - 1)) true _ ?side1 ?side2 ?side3 ?side4 ?side5 ?side6 ?side7 ?side8 A48.out).mono ?_); (case side1 => exact y0 HR0.out HB.out); (case side2 => exact HC0.out); (case side3 => exact y0 HR2.out HB.out); (case side4 => exact HC2.out); (case side5 => exact y0 HR3_6.out HB.out); (case side6 => exact HC3_6.out); (case side7 => exact y0 HR3_7.out HB.out); (case side8 => exact HC3_7.out); rintro e w59 ⟨rfl, hb⟩; replace BK177 := zbb BK177 hb; replace HB := Aside0.mk (below_step (y2 HB.out GE177.out) hb); (try clear hb); (try clear hb2); (try clear hk); (try clear hi); have hcz60_0 := zh BK177; have hcz60_1 := zh1 BK177; have hcz60_2 := zh2 BK177; have hcz60_3 : w59.cell? ⟨gb177, 3, none⟩ = some (.slice A3_3 l3_3.length c3_3) := (blk_cell BK177.out 3).trans rfl; have hcz60_4 : w59.cell? ⟨gb177, 4, none⟩ = some (.slice A3_4 l3_4.length c3_4) := (blk_cell BK177.out 4).trans rfl; have hcz60_5 : w59.cell? ⟨gb177, 5, none⟩ = some (.slice A3_5 l3_5.length c3_5) := (blk_cell BK177.out 5).trans rfl; have hcz60_6 : w59.cell? ⟨gb177, 6, none⟩ = some (.slice A3_6 l3_6.length c3_6) := (blk_cell BK177.out 6).trans rfl; have hcz60_7 : w59.cell? ⟨gb177, 7, none⟩ = some (.slice A3_7 l3_7.length c3_7) := (blk_cell BK177.out 7).trans rfl; have hfz60_0 := zfr BK177 0; have hfz60_1 := zfr BK177 1; have hfz60_2 := zfr BK177 2; have hfz60_3 := zfr BK177 3; have hfz60_4 := zfr BK177 4; have hfz60_5 := zfr BK177 5; have hfz60_6 := zfr BK177 6; have hfz60_7 := zfr BK177 7))
               repeat (go_quiet (first | (go_at_call 18; (with_reducible refine (IH  _ _ l0 a1 _ _ l2 _ _ l3_4 _ _ l3_5 (wrap64 (a4 - 1)) true _ ?side1 ?side2 ?side3 ?side4 ?side5 ?side6 ?side7 ?side8 A46.out).mono ?_); (case side1 => exact y0 HR0.out HB.out); (case side2 => exact HC0.out); (case side3 => exact y0 HR2.out HB.out); (case side4 => exact HC2.out); (case side5 => exact y0 HR3_4.out HB.out); (case side6 => exact HC3_4.out); (case side7 => exact y0 HR3_5.out HB.out); (case side8 => exact HC3_5.out); rintro e w57 ⟨rfl, hb⟩; replace BK177 := zbb BK177 hb; replace HB := Aside0.mk (below_step (y2 HB.out GE177.out) hb); (try clear hb); (try clear hb2); (try clear hk); (try clear hi); have hcz58_0 := zh BK177; have hcz58_1 := zh1 BK177; have hcz58_2 := zh2 BK177; have hcz58_3 : w57.cell? ⟨gb177, 3, none⟩ = some (.slice A3_3 l3_3.length c3_3) := (blk_cell BK177.out 3).trans rfl; have hcz58_4 : w57.cell? ⟨gb177, 4, none⟩ = some (.slice A3_4 l3_4.length c3_4) := (blk_cell BK177.out 4).trans rfl; have hcz58_5 : w57.cell? ⟨gb177, 5, none⟩ = some (.slice A3_5 l3_5.length c3_5) := (blk_cell BK177.out 5).trans rfl; have hcz58_6 : w57.cell? ⟨gb177, 6, none⟩ = some (.slice A3_6 l3_6.length c3_6) := (blk_cell BK177.out 6).trans rfl; have hcz58_7 : w57.cell? ⟨gb177, 7, none⟩ = some (.slice A3_7 l3_7.length c3_7) := (blk_cell BK177.out 7).trans rfl; have hfz58_0 := zfr BK177 0; have hfz58_1 := zfr BK177 1; have hfz58_2 := zfr BK177 2; have hfz58_3 := zfr BK177 3; have hfz58_4 := zfr BK177 4; have hfz58_5 := zfr BK177 5; have hfz58_6 := zfr BK177 6; have hfz58_7 := zfr BK177 7) | (go_at_call 18; (with_reducible refine (IH  _ _ l0 a1 _ _ l2 _ _ l3_6 _ _ l3_7 (wrap64 (a4 - 1)) true _ ?side1 ?side2 ?side3 ?side4 ?side5 ?side6 ?side7 ?side8 A48.out).mono ?_); (case side1 => exact y0 HR0.out HB.out); (case side2 => exact HC0.out); (case side3 => exact y0 HR2.out HB.out); (case side4 => exact HC2.out); (case side5 => exact y0 HR3_6.out HB.out); (case side6 => exact HC3_6.out); (case side7 => exact y0 HR3_7.out HB.out); (case side8 => exact HC3_7.out); rintro e w59 ⟨rfl, hb⟩; replace BK177 := zbb BK177 hb; replace HB := Aside0.mk (below_step (y2 HB.out GE177.out) hb); (try clear hb); (try clear hb2); (try clear hk); (try clear hi); have hcz60_0 := zh BK177; have hcz60_1 := zh1 BK177; have hcz60_2 := zh2 BK177; have hcz60_3 : w59.cell? ⟨gb177, 3, none⟩ = some (.slice A3_3 l3_3.length c3_3) := (blk_cell BK177.out 3).trans rfl; have hcz60_4 : w59.cell? ⟨gb177, 4, none⟩ = some (.slice A3_4 l3_4.length c3_4) := (blk_cell BK177.out 4).trans rfl; have hcz60_5 : w59.cell? ⟨gb177, 5, none⟩ = some (.slice A3_5 l3_5.length c3_5) := (blk_cell BK177.out 5).trans rfl; have hcz60_6 : w59.cell? ⟨gb177, 6, none⟩ = some (.slice A3_6 l3_6.length c3_6) := (blk_cell BK177.out 6).trans rfl; have hcz60_7 : w59.cell? ⟨gb177, 7, none⟩ = some (.slice A3_7 l3_7.length c3_7) := (blk_cell BK177.out 7).trans rfl; have hfz60_0 := zfr BK177 0; have hfz60_1 := zfr BK177 1; have hfz60_2 := zfr BK177 2; have hfz60_3 := zfr BK177 3; have hfz60_4 := zfr BK177 4; have hfz60_5 := zfr BK177 5; have hfz60_6 := zfr BK177 6; have hfz60_7 := zfr BK177 7)); try go_wp2_with (first | (go_at_call 18; (with_reducible refine (IH  _ _ l0 a1 _ _ l2 _ _ l3_4 _ _ l3_5 (wrap64 (a4 - 1)) true _ ?side1 ?side2 ?side3 ?side4 ?side5 ?side6 ?side7 ?side8 A46.out).mono ?_); (case side1 => exact y0 HR0.out HB.out); (case side2 => exact HC0.out); (case side3 => exact y0 HR2.out HB.out); (case side4 => exact HC2.out); (case side5 => exact y0 HR3_4.out HB.out); (case side6 => exact HC3_4.out); (case side7 => exact y0 HR3_5.out HB.out); (case side8 => exact HC3_5.out); rintro e w57 ⟨rfl, hb⟩; replace BK177 := zbb BK177 hb; replace HB := Aside0.mk (below_step (y2 HB.out GE177.out) hb); (try clear hb); (try clear hb2); (try clear hk); (try clear hi); have hcz58_0 := zh BK177; have hcz58_1 := zh1 BK177; have hcz58_2 := zh2 BK177; have hcz58_3 : w57.cell? ⟨gb177, 3, none⟩ = some (.slice A3_3 l3_3.length c3_3) := (blk_cell BK177.out 3).trans rfl; have hcz58_4 : w57.cell? ⟨gb177, 4, none⟩ = some (.slice A3_4 l3_4.length c3_4) := (blk_cell BK177.out 4).trans rfl; have hcz58_5 : w57.cell? ⟨gb177, 5, none⟩ = some (.slice A3_5 l3_5.length c3_5) := (blk_cell BK177.out 5).trans rfl; have hcz58_6 : w57.cell? ⟨gb177, 6, none⟩ = some (.slice A3_6 l3_6.length c3_6) := (blk_cell BK177.out 6).trans rfl; have hcz58_7 : w57.cell? ⟨gb177, 7, none⟩ = some (.slice A3_7 l3_7.length c3_7) := (blk_cell BK177.out 7).trans rfl; have hfz58_0 := zfr BK177 0; have hfz58_1 := zfr BK177 1; have hfz58_2 := zfr BK177 2; have hfz58_3 := zfr BK177 3; have hfz58_4 := zfr BK177 4; have hfz58_5 := zfr BK177 5; have hfz58_6 := zfr BK177 6; have hfz58_7 := zfr BK177 7) | (go_at_call 18; (with_reducible refine (IH  _ _ l0 a1 _ _ l2 _ _ l3_6 _ _ l3_7 (wrap64 (a4 - 1)) true _ ?side1 ?side2 ?side3 ?side4 ?side5 ?side6 ?side7 ?side8 A48.out).mono ?_); (case side1 => exact y0 HR0.out HB.out); (case side2 => exact HC0.out); (case side3 => exact y0 HR2.out HB.out); (case side4 => exact HC2.out); (case side5 => exact y0 HR3_6.out HB.out); (case side6 => exact HC3_6.out); (case side7 => exact y0 HR3_7.out HB.out); (case side8 => exact HC3_7.out); rintro e w59 ⟨rfl, hb⟩; replace BK177 := zbb BK177 hb; replace HB := Aside0.mk (below_step (y2 HB.out GE177.out) hb); (try clear hb); (try clear hb2); (try clear hk); (try clear hi); have hcz60_0 := zh BK177; have hcz60_1 := zh1 BK177; have hcz60_2 := zh2 BK177; have hcz60_3 : w59.cell? ⟨gb177, 3, none⟩ = some (.slice A3_3 l3_3.length c3_3) := (blk_cell BK177.out 3).trans rfl; have hcz60_4 : w59.cell? ⟨gb177, 4, none⟩ = some (.slice A3_4 l3_4.length c3_4) := (blk_cell BK177.out 4).trans rfl; have hcz60_5 : w59.cell? ⟨gb177, 5, none⟩ = some (.slice A3_5 l3_5.length c3_5) := (blk_cell BK177.out 5).trans rfl; have hcz60_6 : w59.cell? ⟨gb177, 6, none⟩ = some (.slice A3_6 l3_6.length c3_6) := (blk_cell BK177.out 6).trans rfl; have hcz60_7 : w59.cell? ⟨gb177, 7, none⟩ = some (.slice A3_7 l3_7.length c3_7) := (blk_cell BK177.out 7).trans rfl; have hfz60_0 := zfr BK177 0; have hfz60_1 := zfr BK177 1; have hfz60_2 := zfr BK177 2; have hfz60_3 := zfr BK177 3; have hfz60_4 := zfr BK177 4; have hfz60_5 := zfr BK177 5; have hfz60_6 := zfr BK177 6; have hfz60_7 := zfr BK177 7)))
               go_ret
               exact ⟨y6, (y2 HB.out GE177.out)⟩
             ·replace c49 := Bool.eq_false_iff.mpr c49
              subst c49
              rw [if_neg (show ¬ (false = true) by decide)] at H
              obtain rfl := Option.some.inj H
              have hcz61_0 := zh BK177
              have hcz61_1 := zh1 BK177
              have hcz61_2 := zh2 BK177
              have hcz61_3 : wr.cell? ⟨gb177, 3, none⟩ = some (.slice A3_3 l3_3.length c3_3) := (blk_cell BK177.out 3).trans rfl
              have hcz61_4 : wr.cell? ⟨gb177, 4, none⟩ = some (.slice A3_4 l3_4.length c3_4) := (blk_cell BK177.out 4).trans rfl
              have hcz61_5 : wr.cell? ⟨gb177, 5, none⟩ = some (.slice A3_5 l3_5.length c3_5) := (blk_cell BK177.out 5).trans rfl
              have hcz61_6 : wr.cell? ⟨gb177, 6, none⟩ = some (.slice A3_6 l3_6.length c3_6) := (blk_cell BK177.out 6).trans rfl
              have hcz61_7 : wr.cell? ⟨gb177, 7, none⟩ = some (.slice A3_7 l3_7.length c3_7) := (blk_cell BK177.out 7).trans rfl
              have hfz61_0 := zfr BK177 0
              have hfz61_1 := zfr BK177 1
              have hfz61_2 := zfr BK177 2
              have hfz61_3 := zfr BK177 3
              have hfz61_4 := zfr BK177 4
              have hfz61_5 := zfr BK177 5
              have hfz61_6 := zfr BK177 6
              have hfz61_7 := zfr BK177 7
              go_wp2_with (first | (go_at_call 18; (with_reducible refine (IH  _ _ l0 a1 _ _ l2 _ _ l3_4 _ _ l3_5 (wrap64 (a4 - 1)) true _ ?side1 ?side2 ?side3 ?side4 ?side5 ?side6 ?side7 ?side8 A46.out).mono ?_); (case side1 => exact y0 HR0.out HB.out); (case side2 => exact HC0.out); (case side3 => exact y0 HR2.out HB.out); (case side4 => exact HC2.out); (case side5 => exact y0 HR3_4.out HB.out); (case side6 => exact HC3_4.out); (case side7 => exact y0 HR3_5.out HB.out); (case side8 => exact HC3_5.out); rintro e w62 ⟨rfl, hb⟩; replace BK177 := zbb BK177 hb; replace HB := Aside0.mk (below_step (y2 HB.out GE177.out) hb); (try clear hb); (try clear hb2); (try clear hk); (try clear hi); have hcz63_0 := zh BK177; have hcz63_1 := zh1 BK177; have hcz63_2 := zh2 BK177; have hcz63_3 : w62.cell? ⟨gb177, 3, none⟩ = some (.slice A3_3 l3_3.length c3_3) := (blk_cell BK177.out 3).trans rfl; have hcz63_4 : w62.cell? ⟨gb177, 4, none⟩ = some (.slice A3_4 l3_4.length c3_4) := (blk_cell BK177.out 4).trans rfl; have hcz63_5 : w62.cell? ⟨gb177, 5, none⟩ = some (.slice A3_5 l3_5.length c3_5) := (blk_cell BK177.out 5).trans rfl; have hcz63_6 : w62.cell? ⟨gb177, 6, none⟩ = some (.slice A3_6 l3_6.length c3_6) := (blk_cell BK177.out 6).trans rfl; have hcz63_7 : w62.cell? ⟨gb177, 7, none⟩ = some (.slice A3_7 l3_7.length c3_7) := (blk_cell BK177.out 7).trans rfl; have hfz63_0 := zfr BK177 0; have hfz63_1 := zfr BK177 1; have hfz63_2 := zfr BK177 2; have hfz63_3 := zfr BK177 3; have hfz63_4 := zfr BK177 4; have hfz63_5 := zfr BK177 5; have hfz63_6 := zfr BK177 6; have hfz63_7 := zfr BK177 7) | (go_at_call 18; (with_reducible refine (IH  _ _ l0 a1 _ _ l2 _ _ l3_6 _ _ l3_7 (wrap64 (a4 - 1)) false _ ?side1 ?side2 ?side3 ?side4 ?side5 ?side6 ?side7 ?side8 A48.out).mono ?_); (case side1 => exact y0 HR0.out HB.out); (case side2 => exact HC0.out); (case side3 => exact y0 HR2.out HB.out); (case side4 => exact HC2.out); (case side5 => exact y0 HR3_6.out HB.out); (case side6 => exact HC3_6.out); (case side7 => exact y0 HR3_7.out HB.out); (case side8 => exact HC3_7.out); rintro e w64 ⟨rfl, hb⟩; replace BK177 := zbb BK177 hb; replace HB := Aside0.mk (below_step (y2 HB.out GE177.out) hb); (try clear hb); (try clear hb2); (try clear hk); (try clear hi)))
              repeat (go_quiet (first | (go_at_call 18; (with_reducible refine (IH  _ _ l0 a1 _ _ l2 _ _ l3_4 _ _ l3_5 (wrap64 (a4 - 1)) true _ ?side1 ?side2 ?side3 ?side4 ?side5 ?side6 ?side7 ?side8 A46.out).mono ?_); (case side1 => exact y0 HR0.out HB.out); (case side2 => exact HC0.out); (case side3 => exact y0 HR2.out HB.out); (case side4 => exact HC2.out); (case side5 => exact y0 HR3_4.out HB.out); (case side6 => exact HC3_4.out); (case side7 => exact y0 HR3_5.out HB.out); (case side8 => exact HC3_5.out); rintro e w62 ⟨rfl, hb⟩; replace BK177 := zbb BK177 hb; replace HB := Aside0.mk (below_step (y2 HB.out GE177.out) hb); (try clear hb); (try clear hb2); (try clear hk); (try clear hi); have hcz63_0 := zh BK177; have hcz63_1 := zh1 BK177; have hcz63_2 := zh2 BK177; have hcz63_3 : w62.cell? ⟨gb177, 3, none⟩ = some (.slice A3_3 l3_3.length c3_3) := (blk_cell BK177.out 3).trans rfl; have hcz63_4 : w62.cell? ⟨gb177, 4, none⟩ = some (.slice A3_4 l3_4.length c3_4) := (blk_cell BK177.out 4).trans rfl; have hcz63_5 : w62.cell? ⟨gb177, 5, none⟩ = some (.slice A3_5 l3_5.length c3_5) := (blk_cell BK177.out 5).trans rfl; have hcz63_6 : w62.cell? ⟨gb177, 6, none⟩ = some (.slice A3_6 l3_6.length c3_6) := (blk_cell BK177.out 6).trans rfl; have hcz63_7 : w62.cell? ⟨gb177, 7, none⟩ = some (.slice A3_7 l3_7.length c3_7) := (blk_cell BK177.out 7).trans rfl; have hfz63_0 := zfr BK177 0; have hfz63_1 := zfr BK177 1; have hfz63_2 := zfr BK177 2; have hfz63_3 := zfr BK177 3; have hfz63_4 := zfr BK177 4; have hfz63_5 := zfr BK177 5; have hfz63_6 := zfr BK177 6; have hfz63_7 := zfr BK177 7) | (go_at_call 18; (with_reducible refine (IH  _ _ l0 a1 _ _ l2 _ _ l3_6 _ _ l3_7 (wrap64 (a4 - 1)) false _ ?side1 ?side2 ?side3 ?side4 ?side5 ?side6 ?side7 ?side8 A48.out).mono ?_); (case side1 => exact y0 HR0.out HB.out); (case side2 => exact HC0.out); (case side3 => exact y0 HR2.out HB.out); (case side4 => exact HC2.out); (case side5 => exact y0 HR3_6.out HB.out); (case side6 => exact HC3_6.out); (case side7 => exact y0 HR3_7.out HB.out); (case side8 => exact HC3_7.out); rintro e w64 ⟨rfl, hb⟩; replace BK177 := zbb BK177 hb; replace HB := Aside0.mk (below_step (y2 HB.out GE177.out) hb); (try clear hb); (try clear hb2); (try clear hk); (try clear hi))); try go_wp2_with (first | (go_at_call 18; (with_reducible refine (IH  _ _ l0 a1 _ _ l2 _ _ l3_4 _ _ l3_5 (wrap64 (a4 - 1)) true _ ?side1 ?side2 ?side3 ?side4 ?side5 ?side6 ?side7 ?side8 A46.out).mono ?_); (case side1 => exact y0 HR0.out HB.out); (case side2 => exact HC0.out); (case side3 => exact y0 HR2.out HB.out); (case side4 => exact HC2.out); (case side5 => exact y0 HR3_4.out HB.out); (case side6 => exact HC3_4.out); (case side7 => exact y0 HR3_5.out HB.out); (case side8 => exact HC3_5.out); rintro e w62 ⟨rfl, hb⟩; replace BK177 := zbb BK177 hb; replace HB := Aside0.mk (below_step (y2 HB.out GE177.out) hb); (try clear hb); (try clear hb2); (try clear hk); (try clear hi); have hcz63_0 := zh BK177; have hcz63_1 := zh1 BK177; have hcz63_2 := zh2 BK177; have hcz63_3 : w62.cell? ⟨gb177, 3, none⟩ = some (.slice A3_3 l3_3.length c3_3) := (blk_cell BK177.out 3).trans rfl; have hcz63_4 : w62.cell? ⟨gb177, 4, none⟩ = some (.slice A3_4 l3_4.length c3_4) := (blk_cell BK177.out 4).trans rfl; have hcz63_5 : w62.cell? ⟨gb177, 5, none⟩ = some (.slice A3_5 l3_5.length c3_5) := (blk_cell BK177.out 5).trans rfl; have hcz63_6 : w62.cell? ⟨gb177, 6, none⟩ = some (.slice A3_6 l3_6.length c3_6) := (blk_cell BK177.out 6).trans rfl; have hcz63_7 : w62.cell? ⟨gb177, 7, none⟩ = some (.slice A3_7 l3_7.length c3_7) := (blk_cell BK177.out 7).trans rfl; have hfz63_0 := zfr BK177 0; have hfz63_1 := zfr BK177 1; have hfz63_2 := zfr BK177 2; have hfz63_3 := zfr BK177 3; have hfz63_4 := zfr BK177 4; have hfz63_5 := zfr BK177 5; have hfz63_6 := zfr BK177 6; have hfz63_7 := zfr BK177 7) | (go_at_call 18; (with_reducible refine (IH  _ _ l0 a1 _ _ l2 _ _ l3_6 _ _ l3_7 (wrap64 (a4 - 1)) false _ ?side1 ?side2 ?side3 ?side4 ?side5 ?side6 ?side7 ?side8 A48.out).mono ?_); (case side1 => exact y0 HR0.out HB.out); (case side2 => exact HC0.out); (case side3 => exact y0 HR2.out HB.out); (case side4 => exact HC2.out); (case side5 => exact y0 HR3_6.out HB.out); (case side6 => exact HC3_6.out); (case side7 => exact y0 HR3_7.out HB.out); (case side8 => exact HC3_7.out); rintro e w64 ⟨rfl, hb⟩; replace BK177 := zbb BK177 hb; replace HB := Aside0.mk (below_step (y2 HB.out GE177.out) hb); (try clear hb); (try clear hb2); (try clear hk); (try clear hi))))
              go_ret
              exact ⟨y6, (y2 HB.out GE177.out)⟩
            ·replace c47 := Bool.eq_false_iff.mpr c47
             subst c47
             rw [if_neg (show ¬ (false = true) by decide)] at H
             obtain rfl := Option.some.inj H
             have hcz65_0 := zh BK177
             have hcz65_1 := zh1 BK177
             have hcz65_2 := zh2 BK177
             have hcz65_3 : wr.cell? ⟨gb177, 3, none⟩ = some (.slice A3_3 l3_3.length c3_3) := (blk_cell BK177.out 3).trans rfl
             have hcz65_4 : wr.cell? ⟨gb177, 4, none⟩ = some (.slice A3_4 l3_4.length c3_4) := (blk_cell BK177.out 4).trans rfl
             have hcz65_5 : wr.cell? ⟨gb177, 5, none⟩ = some (.slice A3_5 l3_5.length c3_5) := (blk_cell BK177.out 5).trans rfl
             have hcz65_6 : wr.cell? ⟨gb177, 6, none⟩ = some (.slice A3_6 l3_6.length c3_6) := (blk_cell BK177.out 6).trans rfl
             have hcz65_7 : wr.cell? ⟨gb177, 7, none⟩ = some (.slice A3_7 l3_7.length c3_7) := (blk_cell BK177.out 7).trans rfl
             have hfz65_0 := zfr BK177 0
             have hfz65_1 := zfr BK177 1
             have hfz65_2 := zfr BK177 2
             have hfz65_3 := zfr BK177 3
             have hfz65_4 := zfr BK177 4
             have hfz65_5 := zfr BK177 5
             have hfz65_6 := zfr BK177 6
             have hfz65_7 := zfr BK177 7
             go_wp2_with (first | (go_at_call 18; (with_reducible refine (IH  _ _ l0 a1 _ _ l2 _ _ l3_4 _ _ l3_5 (wrap64 (a4 - 1)) false _ ?side1 ?side2 ?side3 ?side4 ?side5 ?side6 ?side7 ?side8 A46.out).mono ?_); (case side1 => exact y0 HR0.out HB.out); (case side2 => exact HC0.out); (case side3 => exact y0 HR2.out HB.out); (case side4 => exact HC2.out); (case side5 => exact y0 HR3_4.out HB.out); (case side6 => exact HC3_4.out); (case side7 => exact y0 HR3_5.out HB.out); (case side8 => exact HC3_5.out); rintro e w66 ⟨rfl, hb⟩; replace BK177 := zbb BK177 hb; replace HB := Aside0.mk (below_step (y2 HB.out GE177.out) hb); (try clear hb); (try clear hb2); (try clear hk); (try clear hi)))
             repeat (go_quiet (first | (go_at_call 18; (with_reducible refine (IH  _ _ l0 a1 _ _ l2 _ _ l3_4 _ _ l3_5 (wrap64 (a4 - 1)) false _ ?side1 ?side2 ?side3 ?side4 ?side5 ?side6 ?side7 ?side8 A46.out).mono ?_); (case side1 => exact y0 HR0.out HB.out); (case side2 => exact HC0.out); (case side3 => exact y0 HR2.out HB.out); (case side4 => exact HC2.out); (case side5 => exact y0 HR3_4.out HB.out); (case side6 => exact HC3_4.out); (case side7 => exact y0 HR3_5.out HB.out); (case side8 => exact HC3_5.out); rintro e w66 ⟨rfl, hb⟩; replace BK177 := zbb BK177 hb; replace HB := Aside0.mk (below_step (y2 HB.out GE177.out) hb); (try clear hb); (try clear hb2); (try clear hk); (try clear hi))); try go_wp2_with (first | (go_at_call 18; (with_reducible refine (IH  _ _ l0 a1 _ _ l2 _ _ l3_4 _ _ l3_5 (wrap64 (a4 - 1)) false _ ?side1 ?side2 ?side3 ?side4 ?side5 ?side6 ?side7 ?side8 A46.out).mono ?_); (case side1 => exact y0 HR0.out HB.out); (case side2 => exact HC0.out); (case side3 => exact y0 HR2.out HB.out); (case side4 => exact HC2.out); (case side5 => exact y0 HR3_4.out HB.out); (case side6 => exact HC3_4.out); (case side7 => exact y0 HR3_5.out HB.out); (case side8 => exact HC3_5.out); rintro e w66 ⟨rfl, hb⟩; replace BK177 := zbb BK177 hb; replace HB := Aside0.mk (below_step (y2 HB.out GE177.out) hb); (try clear hb); (try clear hb2); (try clear hk); (try clear hi))))
             go_ret
             exact ⟨y6, (y2 HB.out GE177.out)⟩
           ·rw [if_neg c45] at H
            have c45b0 : ((l3_3.length : Int) == 1) = false := beq_eq_false_iff_ne.mpr c45
            have c45b1 : ((l3_3.length : Int) != 1) = true := bne_iff_ne.mpr c45
            obtain rfl := Option.some.inj H
            have hcz67_0 := zh BK177
            have hcz67_1 := zh1 BK177
            have hcz67_2 := zh2 BK177
            have hcz67_3 : wr.cell? ⟨gb177, 3, none⟩ = some (.slice A3_3 l3_3.length c3_3) := (blk_cell BK177.out 3).trans rfl
            have hcz67_4 : wr.cell? ⟨gb177, 4, none⟩ = some (.slice A3_4 l3_4.length c3_4) := (blk_cell BK177.out 4).trans rfl
            have hcz67_5 : wr.cell? ⟨gb177, 5, none⟩ = some (.slice A3_5 l3_5.length c3_5) := (blk_cell BK177.out 5).trans rfl
            have hcz67_6 : wr.cell? ⟨gb177, 6, none⟩ = some (.slice A3_6 l3_6.length c3_6) := (blk_cell BK177.out 6).trans rfl
            have hcz67_7 : wr.cell? ⟨gb177, 7, none⟩ = some (.slice A3_7 l3_7.length c3_7) := (blk_cell BK177.out 7).trans rfl
            have hfz67_0 := zfr BK177 0
            have hfz67_1 := zfr BK177 1
            have hfz67_2 := zfr BK177 2
            have hfz67_3 := zfr BK177 3
            have hfz67_4 := zfr BK177 4
            have hfz67_5 := zfr BK177 5
            have hfz67_6 := zfr BK177 6
            have hfz67_7 := zfr BK177 7
            go_wp2
            repeat (go_quiet (fail); try go_wp2)
            go_ret
            exact ⟨y6, (y2 HB.out GE177.out)⟩
          ·rw [if_neg c44] at H
           have c44b0 : (a3_2.toList == ([] : List UInt8)) = false := beq_eq_false_iff_ne.mpr c44
           have c44b1 : (a3_2.toList != ([] : List UInt8)) = true := bne_iff_ne.mpr c44
           obtain rfl := Option.some.inj H
           have hcz68_0 := zh BK177
           have hcz68_1 := zh1 BK177
           have hcz68_2 := zh2 BK177
           have hcz68_3 : wr.cell? ⟨gb177, 3, none⟩ = some (.slice A3_3 l3_3.length c3_3) := (blk_cell BK177.out 3).trans rfl
           have hcz68_4 : wr.cell? ⟨gb177, 4, none⟩ = some (.slice A3_4 l3_4.length c3_4) := (blk_cell BK177.out 4).trans rfl
           have hcz68_5 : wr.cell? ⟨gb177, 5, none⟩ = some (.slice A3_5 l3_5.length c3_5) := (blk_cell BK177.out 5).trans rfl
           have hcz68_6 : wr.cell? ⟨gb177, 6, none⟩ = some (.slice A3_6 l3_6.length c3_6) := (blk_cell BK177.out 6).trans rfl
           have hcz68_7 : wr.cell? ⟨gb177, 7, none⟩ = some (.slice A3_7 l3_7.length c3_7) := (blk_cell BK177.out 7).trans rfl
           have hfz68_0 := zfr BK177 0
           have hfz68_1 := zfr BK177 1
           have hfz68_2 := zfr BK177 2
           have hfz68_3 := zfr BK177 3
           have hfz68_4 := zfr BK177 4
           have hfz68_5 := zfr BK177 5
           have hfz68_6 := zfr BK177 6
           have hfz68_7 := zfr BK177 7
           go_wp2
           repeat (go_quiet (fail); try go_wp2)
           go_ret
           exact ⟨y6, (y2 HB.out GE177.out)⟩
         ·rw [if_neg c43] at H
          have c43b0 : (a3_0 == 3) = false := beq_eq_false_iff_ne.mpr c43
          have c43b1 : (a3_0 != 3) = true := bne_iff_ne.mpr c43
          obtain rfl := Option.some.inj H
          have hcz69_0 := zh BK177
          have hcz69_1 := zh1 BK177
          have hcz69_2 := zh2 BK177
          have hcz69_3 : wr.cell? ⟨gb177, 3, none⟩ = some (.slice A3_3 l3_3.length c3_3) := (blk_cell BK177.out 3).trans rfl
          have hcz69_4 : wr.cell? ⟨gb177, 4, none⟩ = some (.slice A3_4 l3_4.length c3_4) := (blk_cell BK177.out 4).trans rfl
          have hcz69_5 : wr.cell? ⟨gb177, 5, none⟩ = some (.slice A3_5 l3_5.length c3_5) := (blk_cell BK177.out 5).trans rfl
          have hcz69_6 : wr.cell? ⟨gb177, 6, none⟩ = some (.slice A3_6 l3_6.length c3_6) := (blk_cell BK177.out 6).trans rfl
          have hcz69_7 : wr.cell? ⟨gb177, 7, none⟩ = some (.slice A3_7 l3_7.length c3_7) := (blk_cell BK177.out 7).trans rfl
          have hfz69_0 := zfr BK177 0
          have hfz69_1 := zfr BK177 1
          have hfz69_2 := zfr BK177 2
          have hfz69_3 := zfr BK177 3
          have hfz69_4 := zfr BK177 4
          have hfz69_5 := zfr BK177 5
          have hfz69_6 := zfr BK177 6
          have hfz69_7 := zfr BK177 7
          go_wp2
          repeat (go_quiet (fail); try go_wp2)
          go_ret
          exact ⟨y6, (y2 HB.out GE177.out)⟩
set_option maxHeartbeats 8000000 in
set_option maxRecDepth 100000 in
theorem spec_l12Body.calls (k : Nat) : ∀ (A0 : Option Addr) (c0 : Nat) (l0 : List (S45)) (a1 : Int) (A2 : Option Addr) (c2 : Nat) (l2 : List ByteArray) (A3_0 : Option Addr) (c3_0 : Nat) (l3_0 : List (S64)) (A3_1 : Option Addr) (c3_1 : Nat) (l3_1 : List (S78)) (a4 : Int) (r : Bool) (w : World) (hr0 : Kd.C k45 w A0 l0.length l0) (hc0 : l0.length ≤ c0) (hr2 : Kd.C Kd.string w A2 l2.length l2) (hc2 : l2.length ≤ c2) (hr3_0 : Kd.C k64 w A3_0 l3_0.length l3_0) (hc3_0 : l3_0.length ≤ c3_0) (hr3_1 : Kd.C k78 w A3_1 l3_1.length l3_1) (hc3_1 : l3_1.length ≤ c3_1) (h : spec_l12Body.f k l0 a1 l2 l3_0 l3_1 a4 = some r),
  Calls Try.prog 18 #[.slice A0 l0.length c0, .int .i64 a1, .slice A2 l2.length c2, .agg #[.slice A3_0 l3_0.length c3_0, .slice A3_1 l3_1.length c3_1], .int .i64 a4] w fun e w' => e = .returned (.bool r) ∧ Below w.heap.size w w' := by
 induction k using Nat.strongRecOn with
 | _ k ih =>
 intro A0 c0 l0 a1 A2 c2 l2 A3_0 c3_0 l3_0 A3_1 c3_1 l3_1 a4 r w hr0 hc0 hr2 hc2 hr3_0 hc3_0 hr3_1 hc3_1 h
 cases k with
 | zero => exact absurd h (by simp [spec_l12Body.f])
 | succ k =>
 simp only [spec_l12Body.f] at h
 have hu43 := Try.underlying43
 have hu64 := Try.underlying64
 have HR0 := Aside0.mk hr0
 have HC0 := Aside0.mk hc0
 clear hr0 hc0
 have HR2 := Aside0.mk hr2
 have HC2 := Aside0.mk hc2
 clear hr2 hc2
 have HR3_0 := Aside0.mk hr3_0
 have HC3_0 := Aside0.mk hc3_0
 clear hr3_0 hc3_0
 have HR3_1 := Aside0.mk hr3_1
 have HC3_1 := Aside0.mk hc3_1
 clear hr3_1 hc3_1
 have HB := Aside0.mk (Below.refl w.heap.size w)
 have H : (if a4 < 1 then (spec_l12Body.j0 k l0 a1 l2 a4 true l3_0 l3_1) else (spec_l12Body.j0 k l0 a1 l2 a4 (decide ((l3_0.length : Int) > 400)) l3_0 l3_1)) = some r := h
 clear h
 have HC6 := Aside0.mk H
 clear H
 go_enter Try.func18, Try.ntmps18
 go_upto_region 1 with (first | ((with_reducible refine gate_dst (N := 8) rfl ?_); (try (refine gate_guard (by rfl) ?_; dsimp only)); refine zbx 8 #[.slice A3_0 l3_0.length c3_0, .slice A3_1 l3_1.length c3_1] 43 ?_; intro gb189 hg w7 hbox hb; have BK189 := Aside0.mk hbox; have GW189 := Aside0.mk ((y9 hg HB.out : w.heap.size ≤ gb189)); have GE189 := Aside0.mk ((y9 hg HB.out : w.heap.size ≤ gb189)); replace HB := Aside0.mk (below_step (y1 HB.out) hb); clear hb hbox hg))
 (try simp only [Act.put, List.setIfInBounds_toArray, List.set_cons_zero, List.set_cons_succ])
 go_cut [19] (fun v19 wc => ∃ (kq : Nat) (x19_5 : Bool), v19 = .bool x19_5 ∧ Aside0 (spec_l12Body.j0 kq l0 a1 l2 a4 x19_5 l3_0 l3_1 = some r) ∧ Aside0 (kq ≤ k) ∧ Aside0 (wc.heap[gb189]? = some (.cells #[(.slice A3_0 l3_0.length c3_0), (.slice A3_1 l3_1.length c3_1)] 43 (0, 0))) ∧ Aside0 (Below w.heap.size w wc))
 case first =>
  have H := HC6.out
  clear HC6
  by_cases c8 : a4 < 1
  ·rw [if_pos c8] at H
   have c8b0 : decide (a4 < 1) = true := decide_eq_true c8
   clear c8
   (first | rw [c8b0] | (simp only [i64_w, i32_w]; rw [c8b0]) | skip)
   have H' := Aside0.mk H
   clear H
   go_wp2
   go_meet
   case rel => exact ⟨_, (true), y7, H', ⟨y33⟩, ⟨(y8 BK189.out)⟩, ⟨(y2 HB.out GE189.out)⟩⟩
  ·rw [if_neg c8] at H
   have c8b0 : decide (a4 < 1) = false := decide_eq_false c8
   clear c8
   (first | rw [c8b0] | (simp only [i64_w, i32_w]; rw [c8b0]) | skip)
   have H' := Aside0.mk H
   clear H
   have hcz9_0 := zh BK189
   have hcz9_1 := zh1 BK189
   have hfz9_0 := zfr BK189 0
   have hfz9_1 := zfr BK189 1
   go_wp2
   go_meet
   case rel => exact ⟨_, (decide ((l3_0.length : Int) > 400)), y7, H', ⟨y33⟩, ⟨(y8 BK189.out)⟩, ⟨(y2 HB.out GE189.out)⟩⟩
 case rest =>
  clear HC6
  try clear c1
  try clear c2
  try clear p2
  try clear c3
  try clear c8
  try clear c8b0
  try clear hcz9_0
  try clear hcz9_1
  try clear hfz9_0
  try clear hfz9_1
  obtain ⟨kq, x19_5, rfl, HA, HJ5, BK189, HB⟩ := hcut
  cases kq with
  | zero => exact absurd HA.out (by simp [spec_l12Body.j0])
  | succ kj5 =>
   have H := HA.out
   clear HA
   simp only [spec_l12Body.j0] at H
   by_cases c10 : x19_5 = true
   ·subst c10
    rw [if_pos rfl] at H
    obtain rfl := Option.some.inj H
    go_wp2
    go_ret
    exact ⟨y6, (y2 HB.out GE189.out)⟩
   ·replace c10 := Bool.eq_false_iff.mpr c10
    subst c10
    rw [if_neg (show ¬ (false = true) by decide)] at H
    obtain ⟨y190, hy190⟩ : ∃ y_ : List ByteArray, y_ = (([] : List ByteArray)) := ⟨_, rfl⟩
    replace H : (if y190.length + l2.length < 8796093022208 then (spec_l12Body.l0 kj5 l0 a1 (y190 ++ l2) a4 0 l3_0 l3_1) else (none)) = some r := by first | (rw [hy190]; with_reducible exact H) | (have H2_ := (Option.bind_some _ _).symm.trans H; rw [hy190]; with_reducible exact H2_) | (have H2_ := (Option.bind_some _ _).symm.trans H; with_reducible exact H2_) | with_reducible exact H | (rw [hy190]; exact H) | exact H
    have Ny190 := Aside0.mk hy190
    clear hy190
    by_cases c11 : y190.length + l2.length < 8796093022208
    ·rw [if_pos c11] at H
     have LMc11 := Aside0.mk c11
     clear c11
     obtain ⟨y193, hy193⟩ : ∃ y_ : List ByteArray, y_ = (y190 ++ l2) := ⟨_, rfl⟩
     replace H : (spec_l12Body.l0 kj5 l0 a1 y193 a4 0 l3_0 l3_1) = some r := by first | (rw [hy193]; with_reducible exact H) | (have H2_ := (Option.bind_some _ _).symm.trans H; rw [hy193]; with_reducible exact H2_) | (have H2_ := (Option.bind_some _ _).symm.trans H; with_reducible exact H2_) | with_reducible exact H | (rw [hy193]; exact H) | exact H
     have Ny193 := Aside0.mk hy193
     clear hy193
     have H' := Aside0.mk H
     clear H
     go_wp2_with (first | ((with_reducible refine gate_dst (N := 20) rfl ?_); (try (refine gate_guard (by rfl) ?_; dsimp only)); refine Kd.R_lit Kd.string _ 9 ?hg (N := 20) ?hd (xs := ([] : List ByteArray)) (inner := []) (ok := fun _ => True) (okp := fun _ => True) ?hr ?hp (fun _ hk => hk) trivial (Below.refl _ _) (Nat.le_refl _) (by simp) ?_; (case hd => rfl); (case hg => rfl); (case hr => first | (go_simp; done) | (go_simp; rfl)); (case hp => exact (Reps.none _ _)); intro v191 w12 ho13 hb hg_ hnew_; clear hg_ hnew_; (first | rw [← Ny190.out] at ho13 | (simp only [Int.reduceToNat] at ho13; rw [← Ny190.out] at ho13)); have HO192 := Aside0.mk (Kd.R_lower ho13 (below_size (y2 HB.out GE189.out))); replace BK189 := zbb BK189 hb; replace HB := Aside0.mk (below_step (y2 HB.out GE189.out) hb); clear hb ho13) | ((with_reducible refine gate_builtin (b := .append) (xs := #[.tmp 20, .tmp 21]) rfl ?_); (try (refine gate_guard (by rfl) ?_; dsimp only)); at_builtin; refine Kd.R_append_rows Kd.string (w0 := w) w.heap.size rfl (.tmp 20) (.tmp 21) 31 9 (.string ⟨#[]⟩) 16 rfl Try.underlying31 info9 rfl (by decide) (by omega) v191 y190 l2 _ _ _ (fun _ => True) (fun _ => False) rfl rfl ?aO ?aR (fun _ _ h => h) (fun _ h => h.elim) ?aF ?aB ?aS ?aL ?_; (case aR => exact y0 HR2.out HB.out); (case aB => exact y37 HB.out GE189.out); (case aF => exact (fun _ _ => trivial)); (case aO => exact (y11 HO192.out)); (case aS => exact y36 HB.out GE189.out); (case aL => exact y30 LMc11.out); intro v194 w14 ho hb hg hat; rw [← Ny193.out] at ho; replace BK189 := Aside0.mk (blk_grown (g := gb189) (o := .cells #[.slice A3_0 l3_0.length c3_0, .slice A3_1 l3_1.length c3_1] 43 (0, 0)) (y8 BK189.out) hg (Kd.R_ne HO192.out BK189.out (by decide))); replace HB := Aside0.mk (hb); have HO195 := Aside0.mk (ho); clear HO192; clear ho hb hg hat))
     go_loopg [2, 11] kj5 (fun kq v2 v11 w' => ∃ (x2_2 : List ByteArray) (x11_2 : Int), v11 = .int .i64 x11_2 ∧ Aside0 (spec_l12Body.l0 kq l0 a1 x2_2 a4 x11_2 l3_0 l3_1 = some r) ∧ Aside0 (kq ≤ kj5) ∧ Aside0 (Kd.R Kd.string 9 w' w.heap.size (fun _ => True) v2 x2_2) ∧ Aside0 (w'.heap[gb189]? = some (.cells #[(.slice A3_0 l3_0.length c3_0), (.slice A3_1 l3_1.length c3_1)] 43 (0, 0))) ∧ Aside0 (Below w.heap.size w w'))
     case atStart => exact ⟨(y193), (0), y7, H', ⟨Nat.le_refl _⟩, ⟨(y11 HO195.out)⟩, ⟨(y8 BK189.out)⟩, ⟨(y2 HB.out GE189.out)⟩⟩
     case round =>
      clear H'
      try clear c1
      try clear c2
      try clear p2
      try clear c3
      try clear c8
      try clear c8b0
      try clear c10
      try clear c11
      try clear hcz9_0
      try clear hcz9_1
      try clear hfz9_0
      try clear hfz9_1
      try clear p2
      (try clear BK189)
      obtain ⟨x2_2, x11_2, rfl, HA, HK2, HO_2, BK189, HB⟩ := hrel
      cases gk with
      | zero => exact absurd HA.out (by simp [spec_l12Body.l0])
      | succ k2 =>
       have H := HA.out
       clear HA
       simp only [spec_l12Body.l0] at H
       by_cases c15 : x11_2 < (l3_0.length : Int)
       ·rw [if_pos c15] at H
        have c15b0 : decide (x11_2 < (l3_0.length : Int)) = true := decide_eq_true c15
        clear c15
        by_cases c16 : 0 ≤ x11_2
        ·rw [if_pos c16] at H
         have c16b0 : decide (0 ≤ x11_2) = true := decide_eq_true c16
         clear c16
         obtain ⟨t197, A170, H⟩ := ob H
         have A17 := Aside0.mk A170
         clear A170
         have HZ18 := Aside0.mk H
         clear H
         have hcz19_0 := zh BK189
         have hcz19_1 := zh1 BK189
         have hfz19_0 := zfr BK189 0
         have hfz19_1 := zfr BK189 1
         have p196 : 0 ≤ (x11_2 : Int) := of_decide_eq_true y4
         have q196 : x11_2 < (l3_0.length : Int) := of_decide_eq_true y4
         obtain ⟨ad196, A196_1, c196_1, A196_3, c196_3, A196_4, c196_4, A196_5, c196_5, A196_6, c196_6, A196_7, c196_7, e196, hx196_0, hx196_1, hx196_2, hx196_3, hx196_4, hx196_5, hx196_6, hx196_7, hl196_1, hi196_1, hl196_3, hi196_3, hl196_4, hi196_4, hl196_5, hi196_5, hl196_6, hi196_6, hl196_7, hi196_7⟩ := at_T64 HR3_0.out x11_2 p196 q196
         cases e196
         replace hx196_0 := (HB.out.cell (World.block_lt_of_cell? w _ hx196_0)).trans hx196_0
         replace hx196_1 := (HB.out.cell (World.block_lt_of_cell? w _ hx196_1)).trans hx196_1
         replace hx196_2 := (HB.out.cell (World.block_lt_of_cell? w _ hx196_2)).trans hx196_2
         replace hx196_3 := (HB.out.cell (World.block_lt_of_cell? w _ hx196_3)).trans hx196_3
         replace hx196_4 := (HB.out.cell (World.block_lt_of_cell? w _ hx196_4)).trans hx196_4
         replace hx196_5 := (HB.out.cell (World.block_lt_of_cell? w _ hx196_5)).trans hx196_5
         replace hx196_6 := (HB.out.cell (World.block_lt_of_cell? w _ hx196_6)).trans hx196_6
         replace hx196_7 := (HB.out.cell (World.block_lt_of_cell? w _ hx196_7)).trans hx196_7
         have HR196_1 := Aside0.mk hi196_1
         have HC196_1 := Aside0.mk hl196_1
         clear hi196_1 hl196_1
         have HR196_3 := Aside0.mk hi196_3
         have HC196_3 := Aside0.mk hl196_3
         clear hi196_3 hl196_3
         have HR196_4 := Aside0.mk hi196_4
         have HC196_4 := Aside0.mk hl196_4
         clear hi196_4 hl196_4
         have HR196_5 := Aside0.mk hi196_5
         have HC196_5 := Aside0.mk hl196_5
         clear hi196_5 hl196_5
         have HR196_6 := Aside0.mk hi196_6
         have HC196_6 := Aside0.mk hl196_6
         clear hi196_6 hl196_6
         have HR196_7 := Aside0.mk hi196_7
         have HC196_7 := Aside0.mk hl196_7
         clear hi196_7 hl196_7
         replace p196 := eq_true p196
         replace q196 := eq_true q196
         obtain ⟨Ao20, co20, eo20⟩ := Kd.R_slice HO_2.out
         subst eo20
         go_upto_if 40 with (first | ((with_reducible refine gate_callee (f := 33) rfl ?_); refine goesL_ (some 39) rfl rfl Try.func33 (by kernel_rfl) rfl #[.slice A0 l0.length c0, .int .i64 a1, .slice Ao20 x2_2.length co20, .agg #[.int .i64 ((rd_T64 l3_0 x11_2).f0), .slice A196_1 ((rd_T64 l3_0 x11_2).f1).length c196_1, .string ((rd_T64 l3_0 x11_2).f2), .slice A196_3 ((rd_T64 l3_0 x11_2).f3).length c196_3, .slice A196_4 ((rd_T64 l3_0 x11_2).f4.f0).length c196_4, .slice A196_5 ((rd_T64 l3_0 x11_2).f4.f1).length c196_5, .slice A196_6 ((rd_T64 l3_0 x11_2).f5.f0).length c196_6, .slice A196_7 ((rd_T64 l3_0 x11_2).f5.f1).length c196_7], .int .i64 a4] rfl y3 ?_; (with_reducible refine (spec_l12Bind.Fcalls (spec_l12Body.f k2) (ih k2 (y25 HJ5.out HK2.out)) k2 _ _ l0 a1 _ _ x2_2 ((rd_T64 l3_0 x11_2).f0) _ _ ((rd_T64 l3_0 x11_2).f1) ((rd_T64 l3_0 x11_2).f2) _ _ ((rd_T64 l3_0 x11_2).f3) _ _ ((rd_T64 l3_0 x11_2).f4.f0) _ _ ((rd_T64 l3_0 x11_2).f4.f1) _ _ ((rd_T64 l3_0 x11_2).f5.f0) _ _ ((rd_T64 l3_0 x11_2).f5.f1) a4 t197 _ ?side1 ?side2 ?side3 ?side4 ?side5 ?side6 ?side7 ?side8 ?side9 ?side10 ?side11 ?side12 ?side13 ?side14 ?side15 ?side16 A17.out).mono ?_); (case side1 => exact y0 HR0.out HB.out); (case side2 => exact HC0.out); (case side3 => exact y18 HO_2.out); (case side4 => exact (Kd.R_reads' HO_2.out).2.1); (case side5 => exact y0 HR196_1.out HB.out); (case side6 => exact HC196_1.out); (case side7 => exact y0 HR196_3.out HB.out); (case side8 => exact HC196_3.out); (case side9 => exact y0 HR196_4.out HB.out); (case side10 => exact HC196_4.out); (case side11 => exact y0 HR196_5.out HB.out); (case side12 => exact HC196_5.out); (case side13 => exact y0 HR196_6.out HB.out); (case side14 => exact HC196_6.out); (case side15 => exact y0 HR196_7.out HB.out); (case side16 => exact HC196_7.out); rintro e w21 ⟨rfl, hb⟩; refine ⟨_, rfl, ?_⟩; replace HO_2 := Aside0.mk (Kd.R_below (y11 HO_2.out) hb); replace BK189 := zbb BK189 hb; replace HB := Aside0.mk (below_step (y2 HB.out GE189.out) hb); (try clear hb); (try clear hb2); (try clear hk); (try clear hi)))
         (try simp only [Act.put, List.setIfInBounds_toArray, List.set_cons_zero, List.set_cons_succ])
         have H := HZ18.out
         clear HZ18
         by_cases c22 : t197 = true
         ·subst c22
          rw [if_pos rfl] at H
          by_cases c23 : x2_2.length + ((rd_T64 l3_0 x11_2).f1).length < 8796093022208
          ·rw [if_pos c23] at H
           have LMc23 := Aside0.mk c23
           clear c23
           obtain ⟨y199, hy199⟩ : ∃ y_ : List ByteArray, y_ = (x2_2 ++ ((rd_T64 l3_0 x11_2).f1)) := ⟨_, rfl⟩
           replace H : (spec_l12Body.l0 k2 l0 a1 y199 a4 (wrap64 (x11_2 + 1)) l3_0 l3_1) = some r := by first | (rw [hy199]; with_reducible exact H) | (have H2_ := (Option.bind_some _ _).symm.trans H; rw [hy199]; with_reducible exact H2_) | (have H2_ := (Option.bind_some _ _).symm.trans H; with_reducible exact H2_) | with_reducible exact H | (rw [hy199]; exact H) | exact H
           have Ny199 := Aside0.mk hy199
           clear hy199
           have H' := Aside0.mk H
           clear H
           have hcz24_0 := zh BK189
           have hcz24_1 := zh1 BK189
           have hfz24_0 := zfr BK189 0
           have hfz24_1 := zfr BK189 1
           have p198 : 0 ≤ (x11_2 : Int) := of_decide_eq_true y4
           have q198 : x11_2 < (l3_0.length : Int) := of_decide_eq_true y4
           obtain ⟨ad198, A198_1, c198_1, A198_3, c198_3, A198_4, c198_4, A198_5, c198_5, A198_6, c198_6, A198_7, c198_7, e198, hx198_0, hx198_1, hx198_2, hx198_3, hx198_4, hx198_5, hx198_6, hx198_7, hl198_1, hi198_1, hl198_3, hi198_3, hl198_4, hi198_4, hl198_5, hi198_5, hl198_6, hi198_6, hl198_7, hi198_7⟩ := at_T64 HR3_0.out x11_2 p198 q198
           obtain rfl : ad196 = ad198 := (by injection e198)
           replace hx198_0 := (HB.out.cell (World.block_lt_of_cell? w _ hx198_0)).trans hx198_0
           replace hx198_1 := (HB.out.cell (World.block_lt_of_cell? w _ hx198_1)).trans hx198_1
           replace hx198_2 := (HB.out.cell (World.block_lt_of_cell? w _ hx198_2)).trans hx198_2
           replace hx198_3 := (HB.out.cell (World.block_lt_of_cell? w _ hx198_3)).trans hx198_3
           replace hx198_4 := (HB.out.cell (World.block_lt_of_cell? w _ hx198_4)).trans hx198_4
           replace hx198_5 := (HB.out.cell (World.block_lt_of_cell? w _ hx198_5)).trans hx198_5
           replace hx198_6 := (HB.out.cell (World.block_lt_of_cell? w _ hx198_6)).trans hx198_6
           replace hx198_7 := (HB.out.cell (World.block_lt_of_cell? w _ hx198_7)).trans hx198_7
           have HR198_1 := Aside0.mk hi198_1
           have HC198_1 := Aside0.mk hl198_1
           clear hi198_1 hl198_1
           have HR198_3 := Aside0.mk hi198_3
           have HC198_3 := Aside0.mk hl198_3
           clear hi198_3 hl198_3
           have HR198_4 := Aside0.mk hi198_4
           have HC198_4 := Aside0.mk hl198_4
           clear hi198_4 hl198_4
           have HR198_5 := Aside0.mk hi198_5
           have HC198_5 := Aside0.mk hl198_5
           clear hi198_5 hl198_5
           have HR198_6 := Aside0.mk hi198_6
           have HC198_6 := Aside0.mk hl198_6
           clear hi198_6 hl198_6
           have HR198_7 := Aside0.mk hi198_7
           have HC198_7 := Aside0.mk hl198_7
           clear hi198_7 hl198_7
           replace p198 := eq_true p198
           replace q198 := eq_true q198
           go_wp2_with (first | ((with_reducible refine gate_builtin (b := .append) (xs := #[.tmp 41, .tmp 47]) rfl ?_); (try (refine gate_guard (by rfl) ?_; dsimp only)); at_builtin; refine Kd.R_append_rows Kd.string (w0 := w) w.heap.size rfl (.tmp 41) (.tmp 47) 31 9 (.string ⟨#[]⟩) 16 rfl Try.underlying31 info9 rfl (by decide) (by omega) (.slice Ao20 x2_2.length co20) x2_2 ((rd_T64 l3_0 x11_2).f1) _ _ _ (fun _ => True) (fun _ => False) rfl rfl ?aO ?aR (fun _ _ h => h) (fun _ h => h.elim) ?aF ?aB ?aS ?aL ?_; (case aR => exact y0 HR198_1.out HB.out); (case aB => exact y37 HB.out GE189.out); (case aF => exact (fun _ _ => trivial)); (case aO => exact (y11 HO_2.out)); (case aS => exact y36 HB.out GE189.out); (case aL => exact y30 LMc23.out); intro v200 w25 ho hb hg hat; rw [← Ny199.out] at ho; replace BK189 := Aside0.mk (blk_grown (g := gb189) (o := .cells #[.slice (some ad196) l3_0.length c3_0, .slice A3_1 l3_1.length c3_1] 43 (0, 0)) (y8 BK189.out) hg (Kd.R_ne HO_2.out BK189.out (by decide))); replace HB := Aside0.mk (hb); have HO201 := Aside0.mk (ho); clear HO_2; clear ho hb hg hat))
           go_roundg k2
           case measure => have := HJ5.out; have := HK2.out; omega
           case rel => exact ⟨(y199), (wrap64 (x11_2 + 1)), y7, H', ⟨(y25 HJ5.out HK2.out)⟩, ⟨(y11 HO201.out)⟩, ⟨(y8 BK189.out)⟩, ⟨(y2 HB.out GE189.out)⟩⟩
          ·rw [if_neg c23] at H
           exact absurd H (by simp)
         ·replace c22 := Bool.eq_false_iff.mpr c22
          subst c22
          rw [if_neg (show ¬ (false = true) by decide)] at H
          obtain rfl := Option.some.inj H
          go_wp2
          go_ret
          exact ⟨y6, (y2 HB.out GE189.out)⟩
        ·rw [if_neg c16] at H
         exact absurd H (by simp)
       ·rw [if_neg c15] at H
        have c15b0 : decide (x11_2 < (l3_0.length : Int)) = false := decide_eq_false c15
        clear c15
        obtain ⟨t202, A260, H⟩ := ob H
        have A26 := Aside0.mk A260
        clear A260
        obtain rfl := Option.some.inj H
        have hcz27_0 := zh BK189
        have hcz27_1 := zh1 BK189
        have hfz27_0 := zfr BK189 0
        have hfz27_1 := zfr BK189 1
        obtain ⟨Ao28, co28, eo28⟩ := Kd.R_slice HO_2.out
        subst eo28
        go_wp2_with (first | ((with_reducible refine gate_callee (f := 34) rfl ?_); refine goesL_ (some 52) rfl rfl Try.func34 (by kernel_rfl) rfl #[.slice Ao28 x2_2.length co28, .slice A3_1 l3_1.length c3_1] rfl y3 ?_; (with_reducible refine (spec_l12Terms.calls k2 _ _ x2_2 _ _ l3_1 t202 _ ?side1 ?side2 ?side3 ?side4 A26.out).mono ?_); (case side1 => exact y18 HO_2.out); (case side2 => exact (Kd.R_reads' HO_2.out).2.1); (case side3 => exact y0 HR3_1.out HB.out); (case side4 => exact HC3_1.out); rintro e w29 ⟨rfl, hb⟩; refine ⟨_, rfl, ?_⟩; replace HO_2 := Aside0.mk (Kd.R_below (y11 HO_2.out) hb); replace BK189 := zbb BK189 hb; replace HB := Aside0.mk (below_step (y2 HB.out GE189.out) hb); (try clear hb); (try clear hb2); (try clear hk); (try clear hi)))
        go_ret
        exact ⟨y6, (y2 HB.out GE189.out)⟩
    ·rw [if_neg c11] at H
     exact absurd H (by simp)
def spec_l12Bind.f (k : Nat) (l0 : List (S45)) (a1 : Int) (l2 : List ByteArray) (a3_0 : Int) (l3_1 : List ByteArray) (a3_2 : ByteArray) (l3_3 : List (S78)) (l3_4 : List (S64)) (l3_5 : List (S78)) (l3_6 : List (S64)) (l3_7 : List (S78)) (a4 : Int) : Option (Bool) := spec_l12Bind.F (spec_l12Body.f k) k l0 a1 l2 a3_0 l3_1 a3_2 l3_3 l3_4 l3_5 l3_6 l3_7 a4
theorem spec_l12Bind.mono : ∀ a0 a1 a2 a3 a4 a5 a6 a7 a8 a9 a10 a11 k, LeO (spec_l12Bind.f k a0 a1 a2 a3 a4 a5 a6 a7 a8 a9 a10 a11) (spec_l12Bind.f (k + 1) a0 a1 a2 a3 a4 a5 a6 a7 a8 a9 a10 a11) := fun a0 a1 a2 a3 a4 a5 a6 a7 a8 a9 a10 a11 k => spec_l12Bind.Fmono (fun y0 y1 y2 y3 y4 y5 => spec_l12Body.mono y0 y1 y2 y3 y4 y5 k) a0 a1 a2 a3 a4 a5 a6 a7 a8 a9 a10 a11 k
theorem spec_l12Bind.calls (k : Nat) (A0 : Option Addr) (c0 : Nat) (l0 : List (S45)) (a1 : Int) (A2 : Option Addr) (c2 : Nat) (l2 : List ByteArray) (a3_0 : Int) (A3_1 : Option Addr) (c3_1 : Nat) (l3_1 : List ByteArray) (a3_2 : ByteArray) (A3_3 : Option Addr) (c3_3 : Nat) (l3_3 : List (S78)) (A3_4 : Option Addr) (c3_4 : Nat) (l3_4 : List (S64)) (A3_5 : Option Addr) (c3_5 : Nat) (l3_5 : List (S78)) (A3_6 : Option Addr) (c3_6 : Nat) (l3_6 : List (S64)) (A3_7 : Option Addr) (c3_7 : Nat) (l3_7 : List (S78)) (a4 : Int) (r : Bool) (w : World) (hr0 : Kd.C k45 w A0 l0.length l0) (hc0 : l0.length ≤ c0) (hr2 : Kd.C Kd.string w A2 l2.length l2) (hc2 : l2.length ≤ c2) (hr3_1 : Kd.C Kd.string w A3_1 l3_1.length l3_1) (hc3_1 : l3_1.length ≤ c3_1) (hr3_3 : Kd.C k78 w A3_3 l3_3.length l3_3) (hc3_3 : l3_3.length ≤ c3_3) (hr3_4 : Kd.C k64 w A3_4 l3_4.length l3_4) (hc3_4 : l3_4.length ≤ c3_4) (hr3_5 : Kd.C k78 w A3_5 l3_5.length l3_5) (hc3_5 : l3_5.length ≤ c3_5) (hr3_6 : Kd.C k64 w A3_6 l3_6.length l3_6) (hc3_6 : l3_6.length ≤ c3_6) (hr3_7 : Kd.C k78 w A3_7 l3_7.length l3_7) (hc3_7 : l3_7.length ≤ c3_7) (h : spec_l12Bind.f k l0 a1 l2 a3_0 l3_1 a3_2 l3_3 l3_4 l3_5 l3_6 l3_7 a4 = some r) :
  Calls Try.prog 33 #[.slice A0 l0.length c0, .int .i64 a1, .slice A2 l2.length c2, .agg #[.int .i64 a3_0, .slice A3_1 l3_1.length c3_1, .string a3_2, .slice A3_3 l3_3.length c3_3, .slice A3_4 l3_4.length c3_4, .slice A3_5 l3_5.length c3_5, .slice A3_6 l3_6.length c3_6, .slice A3_7 l3_7.length c3_7], .int .i64 a4] w fun e w' => e = .returned (.bool r) ∧ Below w.heap.size w w' := spec_l12Bind.Fcalls (spec_l12Body.f k) (spec_l12Body.calls k) k A0 c0 l0 a1 A2 c2 l2 a3_0 A3_1 c3_1 l3_1 a3_2 A3_3 c3_3 l3_3 A3_4 c3_4 l3_4 A3_5 c3_5 l3_5 A3_6 c3_6 l3_6 A3_7 c3_7 l3_7 a4 r w hr0 hc0 hr2 hc2 hr3_1 hc3_1 hr3_3 hc3_3 hr3_4 hc3_4 hr3_5 hc3_5 hr3_6 hc3_6 hr3_7 hc3_7 h
end Go.Proofs.Ytdgpegkgelciaaa.PA
end
section
namespace Go.Proofs.Ytdgpegkgelciaaa.PA
open Go.RowKit Go.Proofs.YtdgpegkgelciaaaW.PrintWords Go.Proofs.YtdgpegkgelciaaaW.PrintLast Go.Proofs.YtdgpegkgelciaaaW.PrintMore
attribute [local go_sem] max2_int min2_int max_two min_two max_three min_three max_four min_four
set_option linter.unusedVariables false
set_option linter.unusedSimpArgs false
mutual
def spec_PureOk.l0 : Nat → List (S45) → Int → Option (Bool)
 | 0, _, _ => none
 | k + 1, x0, x3 => if x3 < (x0.length : Int) then (if 0 ≤ x3 then ((spec_l12Arity.f k x0 x3 ((rd_T45 x0 x3).f0)).bind fun bt204 => (if bt204.2.2 = true then (spec_PureOk.j1 k x0 x3 true) else ((spec_l12Word.f k ((rd_T45 x0 x3).f0)).bind fun t208 => (if t208 = true then (if (((rd_T45 x0 x3).f1).length : Int) > 60 then (spec_PureOk.j1 k x0 x3 true) else ((spec_l12Body.f k x0 x3 ((rd_T45 x0 x3).f1) ((rd_T45 x0 x3).f2.f0) ((rd_T45 x0 x3).f2.f1) 6).bind fun t212 => (spec_PureOk.j1 k x0 x3 (!t212)))) else (spec_PureOk.j1 k x0 x3 true))))) else (none)) else (some true)
def spec_PureOk.j1 : Nat → List (S45) → Int → Bool → Option (Bool)
 | 0, _, _, _ => none
 | k + 1, x0, x3, x63 => if x63 = true then (some false) else (spec_PureOk.l1 k x0 x3 0)
def spec_PureOk.l1 : Nat → List (S45) → Int → Int → Option (Bool)
 | 0, _, _, _ => none
 | k + 1, x0, x3, x7 => if 0 ≤ x3 then (if x3 < (x0.length : Int) then (if x7 < (((rd_T45 x0 x3).f1).length : Int) then (if 0 ≤ x7 then ((spec_l12Word.f k (rdOf ByteArray.empty ((rd_T45 x0 x3).f1) x7)).bind fun t216 => (if t216 = true then (if x7 ≤ (((rd_T45 x0 x3).f1).length : Int) then ((spec_l12Has.f k (((rd_T45 x0 x3).f1).take (x7 : Int).toNat) (rdOf ByteArray.empty ((rd_T45 x0 x3).f1) x7)).bind fun t221 => (if t221 = true then (some false) else (spec_PureOk.l1 k x0 x3 (wrap64 (x7 + 1))))) else (none)) else (some false))) else (none)) else (spec_PureOk.l0 k x0 (wrap64 (x3 + 1)))) else (none)) else (none)
end
def spec_PureOk.f (k : Nat) (l0 : List (S45)) : Option (Bool) := if (l0.length : Int) > 10 then (some false) else (spec_PureOk.l0 k l0 0)
theorem spec_PureOk.mono_l : ∀ k, (∀ y0 y1, LeO (spec_PureOk.l0 k y0 y1) (spec_PureOk.l0 (k + 1) y0 y1)) ∧ (∀ y0 y1 y2, LeO (spec_PureOk.j1 k y0 y1 y2) (spec_PureOk.j1 (k + 1) y0 y1 y2)) ∧ (∀ y0 y1 y2, LeO (spec_PureOk.l1 k y0 y1 y2) (spec_PureOk.l1 (k + 1) y0 y1 y2))
 | 0 => ⟨fun _ _ r h => by simp [spec_PureOk.l0] at h, fun _ _ _ r h => by simp [spec_PureOk.j1] at h, fun _ _ _ r h => by simp [spec_PureOk.l1] at h⟩
 | k + 1 => by
  obtain ⟨ih0, ih1, ih2⟩ := spec_PureOk.mono_l k
  refine ⟨?_, ?_, ?_⟩
  ·intro y0 y1
   unfold spec_PureOk.l0
   repeat' first
   | (with_reducible exact ih0 _ _)
   | (with_reducible exact ih1 _ _ _)
   | (with_reducible exact ih2 _ _ _)
   | (with_reducible exact spec_l12Arity.mono _ _ _ _)
   | (with_reducible exact spec_l12Body.mono _ _ _ _ _ _ _)
   | (with_reducible exact spec_l12Has.mono _ _ _)
   | (with_reducible exact spec_l12Word.mono _ _)
   | (with_reducible exact LeO.refl _)
   | (with_reducible exact LeO.none _)
   | (with_reducible refine LeO.ite ?_ ?_)
   | (with_reducible refine LeO.bind ?_ (fun _ => ?_))
   | exact ih0 _ _
   | exact ih1 _ _ _
   | exact ih2 _ _ _
   | exact spec_l12Arity.mono _ _ _ _
   | exact spec_l12Body.mono _ _ _ _ _ _ _
   | exact spec_l12Has.mono _ _ _
   | exact spec_l12Word.mono _ _
   | exact LeO.none _
   | refine LeO.ite ?_ ?_
   | refine LeO.bind ?_ (fun _ => ?_)
  ·intro y0 y1 y2
   unfold spec_PureOk.j1
   repeat' first
   | (with_reducible exact ih0 _ _)
   | (with_reducible exact ih1 _ _ _)
   | (with_reducible exact ih2 _ _ _)
   | (with_reducible exact spec_l12Arity.mono _ _ _ _)
   | (with_reducible exact spec_l12Body.mono _ _ _ _ _ _ _)
   | (with_reducible exact spec_l12Has.mono _ _ _)
   | (with_reducible exact spec_l12Word.mono _ _)
   | (with_reducible exact LeO.refl _)
   | (with_reducible exact LeO.none _)
   | (with_reducible refine LeO.ite ?_ ?_)
   | (with_reducible refine LeO.bind ?_ (fun _ => ?_))
   | exact ih0 _ _
   | exact ih1 _ _ _
   | exact ih2 _ _ _
   | exact spec_l12Arity.mono _ _ _ _
   | exact spec_l12Body.mono _ _ _ _ _ _ _
   | exact spec_l12Has.mono _ _ _
   | exact spec_l12Word.mono _ _
   | exact LeO.none _
   | refine LeO.ite ?_ ?_
   | refine LeO.bind ?_ (fun _ => ?_)
  ·intro y0 y1 y2
   unfold spec_PureOk.l1
   repeat' first
   | (with_reducible exact ih0 _ _)
   | (with_reducible exact ih1 _ _ _)
   | (with_reducible exact ih2 _ _ _)
   | (with_reducible exact spec_l12Arity.mono _ _ _ _)
   | (with_reducible exact spec_l12Body.mono _ _ _ _ _ _ _)
   | (with_reducible exact spec_l12Has.mono _ _ _)
   | (with_reducible exact spec_l12Word.mono _ _)
   | (with_reducible exact LeO.refl _)
   | (with_reducible exact LeO.none _)
   | (with_reducible refine LeO.ite ?_ ?_)
   | (with_reducible refine LeO.bind ?_ (fun _ => ?_))
   | exact ih0 _ _
   | exact ih1 _ _ _
   | exact ih2 _ _ _
   | exact spec_l12Arity.mono _ _ _ _
   | exact spec_l12Body.mono _ _ _ _ _ _ _
   | exact spec_l12Has.mono _ _ _
   | exact spec_l12Word.mono _ _
   | exact LeO.none _
   | refine LeO.ite ?_ ?_
   | refine LeO.bind ?_ (fun _ => ?_)
theorem spec_PureOk.mono : ∀ a0 k, LeO (spec_PureOk.f k a0) (spec_PureOk.f (k + 1) a0) := by
 intro a0 k
 obtain ⟨ih0, ih1, ih2⟩ := spec_PureOk.mono_l k
 unfold spec_PureOk.f
 repeat' first
   | (with_reducible exact ih0 _ _)
   | (with_reducible exact ih1 _ _ _)
   | (with_reducible exact ih2 _ _ _)
   | (with_reducible exact spec_l12Arity.mono _ _ _ _)
   | (with_reducible exact spec_l12Body.mono _ _ _ _ _ _ _)
   | (with_reducible exact spec_l12Has.mono _ _ _)
   | (with_reducible exact spec_l12Word.mono _ _)
   | (with_reducible exact LeO.refl _)
   | (with_reducible exact LeO.none _)
   | (with_reducible refine LeO.ite ?_ ?_)
   | (with_reducible refine LeO.bind ?_ (fun _ => ?_))
   | exact ih0 _ _
   | exact ih1 _ _ _
   | exact ih2 _ _ _
   | exact spec_l12Arity.mono _ _ _ _
   | exact spec_l12Body.mono _ _ _ _ _ _ _
   | exact spec_l12Has.mono _ _ _
   | exact spec_l12Word.mono _ _
   | exact LeO.none _
   | refine LeO.ite ?_ ?_
   | refine LeO.bind ?_ (fun _ => ?_)
def spec_PureOk.T7 : Bool × List (List Nat × List Nat) := (true, [([], []), ([0], [0]), ([1], [1]), ([1], [1]), ([2, 3, 1], [1, 2, 3]), ([4, 1], [1, 4]), ([5, 1], [1, 5]), ([6, 1, 1], [1, 6]), ([7, 1], [1, 7]), ([1, 8], [1, 8]), ([9, 7], [9]), ([10], [10]), ([10], [10]), ([11, 12, 10], [10, 11, 12]), ([13, 10], [10, 13]), ([14, 10], [10, 14]), ([15, 10], [10, 15]), ([16, 10], [10, 16]), ([10, 17], [10, 17]), ([18, 10], [18]), ([19], [19]), ([19], [19]), ([19], [19]), ([19], [19]), ([22, 23, 19], [19, 22, 23]), ([24, 19], [19, 24]), ([25, 19], [19, 25]), ([19], [19]), ([19], [19]), ([27, 28, 19], [19, 27, 28]), ([29, 19], [19, 29]), ([30, 19], [19, 30]), ([20, 21, 26, 31, 19, 19], [19, 20, 21, 26, 31]), ([32, 19], [19, 32]), ([19, 33], [19, 33])])
def spec_PureOk.B7 : List Nat := [0, 1, 3, 3, 15, 31, 63, 127, 255, 511, 1023, 2047, 2047, 8191, 16383, 32767, 65535, 131071, 262143, 524287, 1048575, 1048575, 1048575, 1048575, 13631487, 30408703, 63963135, 1048575, 1048575, 403701759, 940572671, 2014314495, 4294967295, 8589934591, 17179869183]
theorem spec_PureOk.tab7 : rtab .any (opsOf Try.f7 7) = spec_PureOk.T7 := by kernel_rfl
theorem spec_PureOk.bits7 : waitsOk spec_PureOk.T7.2 spec_PureOk.B7 = true := by kernel_rfl
def spec_PureOk.T12 : Bool × List (List Nat × List Nat) := (true, [([], []), ([], []), ([0, 1], [0, 1]), ([2], [2]), ([3], [3]), ([], []), ([4, 5], [4, 5]), ([6], [6]), ([7], [7]), ([8], [8]), ([9, 8], [9]), ([10], [10]), ([10], [10]), ([11, 12, 10], [10, 11, 12]), ([13, 10], [10, 13]), ([14, 10], [10, 14]), ([10], [10]), ([15, 16, 10], [10, 15, 16]), ([10], [10]), ([10], [10]), ([18, 19, 10], [10, 18, 19]), ([20, 10], [10, 20]), ([21, 10], [10, 21]), ([10], [10]), ([22, 23, 10], [10, 22, 23]), ([24, 10], [10, 24]), ([17, 25, 10, 10], [10, 17, 25]), ([10, 26], [10, 26])])
def spec_PureOk.B12 : List Nat := [0, 0, 3, 7, 15, 0, 63, 127, 255, 511, 1023, 2047, 2047, 8191, 16383, 32767, 2047, 131071, 2047, 2047, 788479, 1837055, 3934207, 2047, 16517119, 33294335, 67108863, 134217727]
theorem spec_PureOk.tab12 : rtab .any (opsOf Try.f7 12) = spec_PureOk.T12 := by kernel_rfl
theorem spec_PureOk.bits12 : waitsOk spec_PureOk.T12.2 spec_PureOk.B12 = true := by kernel_rfl
set_option maxHeartbeats 8000000 in
set_option maxRecDepth 100000 in
theorem spec_PureOk.calls (k : Nat) (A0 : Option Addr) (c0 : Nat) (l0 : List (S45)) (r : Bool) (w : World) (hr0 : Kd.C k45 w A0 l0.length l0) (hc0 : l0.length ≤ c0) (h : spec_PureOk.f k l0 = some r) :
  Calls Try.prog 7 #[.slice A0 l0.length c0] w fun e w' => e = .returned (.bool r) ∧ Below w.heap.size w w' := by
 have hu43 := Try.underlying43
 have HR0 := Aside0.mk hr0
 have HC0 := Aside0.mk hc0
 clear hr0 hc0
 have HB := Aside0.mk (Below.refl w.heap.size w)
 have H : (if (l0.length : Int) > 10 then (some false) else (spec_PureOk.l0 k l0 0)) = some r := h
 clear h
 by_cases c2 : (l0.length : Int) > 10
 ·rw [if_pos c2] at H
  have c2b0 : decide (10 < (l0.length : Int)) = true := decide_eq_true c2
  have c2b1 : decide (10 < l0.length) = true := decide_eq_true (by omega)
  clear c2
  obtain rfl := Option.some.inj H
  go_enter Try.func7, Try.ntmps7
  go_wp2
  go_ret
  exact ⟨y6, (y1 HB.out)⟩
 ·rw [if_neg c2] at H
  have c2b0 : decide (10 < (l0.length : Int)) = false := decide_eq_false c2
  have c2b1 : decide (10 < l0.length) = false := decide_eq_false (by omega)
  clear c2
  have H' := Aside0.mk H
  clear H
  go_enter Try.func7, Try.ntmps7
  go_wp2
  go_loopg [3] k (fun kq v3 w' => ∃ (x3_1 : Int), v3 = .int .i64 x3_1 ∧ Aside0 (spec_PureOk.l0 kq l0 x3_1 = some r) ∧ Aside0 (kq ≤ k) ∧ Aside0 (Below w.heap.size w w'))
  case atStart => exact ⟨(0), y7, H', ⟨Nat.le_refl _⟩, ⟨(y1 HB.out)⟩⟩
  case round =>
   clear H'
   try clear c2
   try clear c2b0
   try clear c2b1
   try clear p2
   obtain ⟨x3_1, rfl, HA, HK1, HB⟩ := hrel
   cases gk with
   | zero => exact absurd HA.out (by simp [spec_PureOk.l0])
   | succ k1 =>
    have H := HA.out
    clear HA
    simp only [spec_PureOk.l0] at H
    by_cases c3 : x3_1 < (l0.length : Int)
    ·rw [if_pos c3] at H
     have c3b0 : decide (x3_1 < (l0.length : Int)) = true := decide_eq_true c3
     clear c3
     by_cases c4 : 0 ≤ x3_1
     ·rw [if_pos c4] at H
      have c4b0 : decide (0 ≤ x3_1) = true := decide_eq_true c4
      clear c4
      obtain ⟨⟨t204, t205, t206⟩, A50, H⟩ := ob H
      have A5 := Aside0.mk A50
      clear A50
      have HC6 := Aside0.mk H
      clear H
      have p203 : 0 ≤ (x3_1 : Int) := of_decide_eq_true y4
      have q203 : x3_1 < (l0.length : Int) := of_decide_eq_true y4
      obtain ⟨ad203, A203_1, c203_1, A203_2, c203_2, A203_3, c203_3, e203, hx203_0, hx203_1, hx203_2, hx203_3, hl203_1, hi203_1, hl203_2, hi203_2, hl203_3, hi203_3⟩ := at_T45 HR0.out x3_1 p203 q203
      cases e203
      replace hx203_0 := (HB.out.cell (World.block_lt_of_cell? w _ hx203_0)).trans hx203_0
      replace hx203_1 := (HB.out.cell (World.block_lt_of_cell? w _ hx203_1)).trans hx203_1
      replace hx203_2 := (HB.out.cell (World.block_lt_of_cell? w _ hx203_2)).trans hx203_2
      replace hx203_3 := (HB.out.cell (World.block_lt_of_cell? w _ hx203_3)).trans hx203_3
      have HR203_1 := Aside0.mk hi203_1
      have HC203_1 := Aside0.mk hl203_1
      clear hi203_1 hl203_1
      have HR203_2 := Aside0.mk hi203_2
      have HC203_2 := Aside0.mk hl203_2
      clear hi203_2 hl203_2
      have HR203_3 := Aside0.mk hi203_3
      have HC203_3 := Aside0.mk hl203_3
      clear hi203_3 hl203_3
      replace p203 := eq_true p203
      replace q203 := eq_true q203
      go_upto_region 7 with (first | ((with_reducible refine gate_callee (f := 16) rfl ?_); refine goesL_ (some 25) rfl rfl Try.func16 (by kernel_rfl) rfl #[.slice (some ad203) l0.length c0, .int .i64 x3_1, .string ((rd_T45 l0 x3_1).f0)] rfl y3 ?_; (with_reducible refine (spec_l12Arity.calls k1 _ _ l0 x3_1 ((rd_T45 l0 x3_1).f0) t204 t205 t206 _ ?side1 ?side2 A5.out).mono ?_); (case side1 => exact y0 HR0.out HB.out); (case side2 => exact HC0.out); rintro e w' ⟨rfl, ⟨nd, rfl⟩⟩; refine ⟨_, rfl, ?_⟩))
      (try simp only [Act.put, List.setIfInBounds_toArray, List.set_cons_zero, List.set_cons_succ])
      go_cut [63] (fun v63 wc => ∃ (kq : Nat) (x63_5 : Bool), v63 = .bool x63_5 ∧ Aside0 (spec_PureOk.j1 kq l0 x3_1 x63_5 = some r) ∧ Aside0 (kq ≤ k1) ∧ Aside0 (Below w.heap.size w wc))
      case first =>
       have H := HC6.out
       clear HC6
       by_cases c7 : t206 = true
       ·subst c7
        rw [if_pos rfl] at H
        have H' := Aside0.mk H
        clear H
        try go_wp2
        (try (rw [drewN_self wr]; generalize hq_ : World.drewN wr _ = wr; have n0_ : Aside0 (Below w.heap.size w wr) := ⟨(by rw [← hq_]; exact (y1 HB.out))⟩; clear HB hq_; have HB := n0_; clear n0_))
        replace HB := Aside0.mk (below_drew1 HB.out)
        refine start_ (n := 35) (S := fun w' => True) (ds := []) #[false, false, false, false, false, false, false, false, false, false, false, false, false, false, false, false, false, false, false, false, false, false, false, false, false, false, false, false, false, false, false, false, false, false, false] (by kernel_rfl) rfl rfl trivial (fun hHeld => ?_); refine with_tabW spec_PureOk.tab7 spec_PureOk.bits7 (fun HT_ HW_ => ?_)
        generalize wr.drew = w8 at HB hHeld ⊢
        refine zp 0 (some 29) HT_ ?_
        refine zp 1 (some 30) HT_ ?_
        refine pure_ (i := 2) (N := some 31) (v := undef) (a' := ?_) #[true, true, true, false, false, false, false, false, false, false, false, false, false, false, false, false, false, false, false, false, false, false, false, false, false, false, false, false, false, false, false, false, false, false, false] rfl rfl (any_of HT_.out (by kernel_rfl)) (fun _ _ _ h => h) (Or.inr ⟨(by rfl), rfl⟩) ?_ ?_
        rotate_left
        ·simp only [Act.put, List.setIfInBounds_toArray, List.set_cons_zero, List.set_cons_succ, i64_w, i32_w]
         rfl
        refine pure_ (i := 3) (N := some 32) (v := undef) (a' := ?_) #[true, true, true, true, false, false, false, false, false, false, false, false, false, false, false, false, false, false, false, false, false, false, false, false, false, false, false, false, false, false, false, false, false, false, false] rfl rfl (any_of HT_.out (by kernel_rfl)) (fun _ _ _ h => h) (Or.inr ⟨(by rfl), rfl⟩) ?_ ?_
        rotate_left
        ·simp only [Act.put, List.setIfInBounds_toArray, List.set_cons_zero, List.set_cons_succ, i64_w, i32_w]
         rfl
        refine pure_ (i := 4) (N := some 33) (v := undef) (a' := ?_) #[true, true, true, true, true, false, false, false, false, false, false, false, false, false, false, false, false, false, false, false, false, false, false, false, false, false, false, false, false, false, false, false, false, false, false] rfl rfl (any_of HT_.out (by kernel_rfl)) (fun _ _ _ h => h) (Or.inr ⟨(by rfl), rfl⟩) ?_ ?_
        rotate_left
        ·simp only [Act.put, List.setIfInBounds_toArray, List.set_cons_zero, List.set_cons_succ, i64_w, i32_w]
         rfl
        refine pure_ (i := 5) (N := some 34) (v := undef) (a' := ?_) #[true, true, true, true, true, true, false, false, false, false, false, false, false, false, false, false, false, false, false, false, false, false, false, false, false, false, false, false, false, false, false, false, false, false, false] rfl rfl (any_of HT_.out (by kernel_rfl)) (fun _ _ _ h => h) (Or.inr ⟨(by rfl), rfl⟩) ?_ ?_
        rotate_left
        ·simp only [Act.put, List.setIfInBounds_toArray, List.set_cons_zero, List.set_cons_succ, i64_w, i32_w]
         rfl
        refine pure_ (i := 6) (N := some 35) (v := undef) (a' := ?_) #[true, true, true, true, true, true, true, false, false, false, false, false, false, false, false, false, false, false, false, false, false, false, false, false, false, false, false, false, false, false, false, false, false, false, false] rfl rfl (any_of HT_.out (by kernel_rfl)) (fun _ _ _ h => h) (Or.inr ⟨(by rfl), rfl⟩) ?_ ?_
        rotate_left
        ·simp only [Act.put, List.setIfInBounds_toArray, List.set_cons_zero, List.set_cons_succ, i64_w, i32_w]
         rfl
        refine pure_ (i := 7) (N := some 36) (v := undef) (a' := ?_) #[true, true, true, true, true, true, true, true, false, false, false, false, false, false, false, false, false, false, false, false, false, false, false, false, false, false, false, false, false, false, false, false, false, false, false] rfl rfl (any_of HT_.out (by kernel_rfl)) (fun _ _ _ h => h) (Or.inr ⟨(by rfl), rfl⟩) ?_ ?_
        rotate_left
        ·simp only [Act.put, List.setIfInBounds_toArray, List.set_cons_zero, List.set_cons_succ, i64_w, i32_w]
         rfl
        refine pure_ (i := 8) (N := some 37) (v := undef) (a' := ?_) #[true, true, true, true, true, true, true, true, true, false, false, false, false, false, false, false, false, false, false, false, false, false, false, false, false, false, false, false, false, false, false, false, false, false, false] rfl rfl (any_of HT_.out (by kernel_rfl)) (fun _ _ _ h => h) (Or.inr ⟨(by rfl), rfl⟩) ?_ ?_
        rotate_left
        ·simp only [Act.put, List.setIfInBounds_toArray, List.set_cons_zero, List.set_cons_succ, i64_w, i32_w]
         rfl
        refine zp 9 (some 38) HT_ ?_
        refine zp 10 (some 39) HT_ ?_
        refine pure_ (i := 11) (N := some 40) (v := undef) (a' := ?_) #[true, true, true, true, true, true, true, true, true, true, true, true, false, false, false, false, false, false, false, false, false, false, false, false, false, false, false, false, false, false, false, false, false, false, false] rfl rfl (any_of HT_.out (by kernel_rfl)) (fun _ _ _ h => h) (Or.inr ⟨(by rfl), rfl⟩) ?_ ?_
        rotate_left
        ·simp only [Act.put, List.setIfInBounds_toArray, List.set_cons_zero, List.set_cons_succ, i64_w, i32_w]
         rfl
        refine pure_ (i := 12) (N := some 41) (v := undef) (a' := ?_) #[true, true, true, true, true, true, true, true, true, true, true, true, true, false, false, false, false, false, false, false, false, false, false, false, false, false, false, false, false, false, false, false, false, false, false] rfl rfl (any_of HT_.out (by kernel_rfl)) (fun _ _ _ h => h) (Or.inr ⟨(by rfl), rfl⟩) ?_ ?_
        rotate_left
        ·simp only [Act.put, List.setIfInBounds_toArray, List.set_cons_zero, List.set_cons_succ, i64_w, i32_w]
         rfl
        refine pure_ (i := 13) (N := some 42) (v := undef) (a' := ?_) #[true, true, true, true, true, true, true, true, true, true, true, true, true, true, false, false, false, false, false, false, false, false, false, false, false, false, false, false, false, false, false, false, false, false, false] rfl rfl (any_of HT_.out (by kernel_rfl)) (fun _ _ _ h => h) (Or.inr ⟨(by rfl), rfl⟩) ?_ ?_
        rotate_left
        ·simp only [Act.put, List.setIfInBounds_toArray, List.set_cons_zero, List.set_cons_succ, i64_w, i32_w]
         rfl
        refine pure_ (i := 14) (N := some 43) (v := undef) (a' := ?_) #[true, true, true, true, true, true, true, true, true, true, true, true, true, true, true, false, false, false, false, false, false, false, false, false, false, false, false, false, false, false, false, false, false, false, false] rfl rfl (any_of HT_.out (by kernel_rfl)) (fun _ _ _ h => h) (Or.inr ⟨(by rfl), rfl⟩) ?_ ?_
        rotate_left
        ·simp only [Act.put, List.setIfInBounds_toArray, List.set_cons_zero, List.set_cons_succ, i64_w, i32_w]
         rfl
        refine pure_ (i := 15) (N := some 44) (v := undef) (a' := ?_) #[true, true, true, true, true, true, true, true, true, true, true, true, true, true, true, true, false, false, false, false, false, false, false, false, false, false, false, false, false, false, false, false, false, false, false] rfl rfl (any_of HT_.out (by kernel_rfl)) (fun _ _ _ h => h) (Or.inr ⟨(by rfl), rfl⟩) ?_ ?_
        rotate_left
        ·simp only [Act.put, List.setIfInBounds_toArray, List.set_cons_zero, List.set_cons_succ, i64_w, i32_w]
         rfl
        refine pure_ (i := 16) (N := some 45) (v := undef) (a' := ?_) #[true, true, true, true, true, true, true, true, true, true, true, true, true, true, true, true, true, false, false, false, false, false, false, false, false, false, false, false, false, false, false, false, false, false, false] rfl rfl (any_of HT_.out (by kernel_rfl)) (fun _ _ _ h => h) (Or.inr ⟨(by rfl), rfl⟩) ?_ ?_
        rotate_left
        ·simp only [Act.put, List.setIfInBounds_toArray, List.set_cons_zero, List.set_cons_succ, i64_w, i32_w]
         rfl
        refine pure_ (i := 17) (N := some 46) (v := undef) (a' := ?_) #[true, true, true, true, true, true, true, true, true, true, true, true, true, true, true, true, true, true, false, false, false, false, false, false, false, false, false, false, false, false, false, false, false, false, false] rfl rfl (any_of HT_.out (by kernel_rfl)) (fun _ _ _ h => h) (Or.inr ⟨(by rfl), rfl⟩) ?_ ?_
        rotate_left
        ·simp only [Act.put, List.setIfInBounds_toArray, List.set_cons_zero, List.set_cons_succ, i64_w, i32_w]
         rfl
        refine zp 18 (some 47) HT_ ?_
        refine zp 19 (some 48) HT_ ?_
        refine pure_ (i := 20) (N := some 49) (v := undef) (a' := ?_) #[true, true, true, true, true, true, true, true, true, true, true, true, true, true, true, true, true, true, true, true, true, false, false, false, false, false, false, false, false, false, false, false, false, false, false] rfl rfl (any_of HT_.out (by kernel_rfl)) (fun _ _ _ h => h) (Or.inr ⟨(by rfl), rfl⟩) ?_ ?_
        rotate_left
        ·simp only [Act.put, List.setIfInBounds_toArray, List.set_cons_zero, List.set_cons_succ, i64_w, i32_w]
         rfl
        refine pure_ (i := 21) (N := some 50) (v := undef) (a' := ?_) #[true, true, true, true, true, true, true, true, true, true, true, true, true, true, true, true, true, true, true, true, true, true, false, false, false, false, false, false, false, false, false, false, false, false, false] rfl rfl (any_of HT_.out (by kernel_rfl)) (fun _ _ _ h => h) (Or.inr ⟨(by rfl), rfl⟩) ?_ ?_
        rotate_left
        ·simp only [Act.put, List.setIfInBounds_toArray, List.set_cons_zero, List.set_cons_succ, i64_w, i32_w]
         rfl
        refine pure_ (i := 22) (N := some 51) (v := undef) (a' := ?_) #[true, true, true, true, true, true, true, true, true, true, true, true, true, true, true, true, true, true, true, true, true, true, true, false, false, false, false, false, false, false, false, false, false, false, false] rfl rfl (any_of HT_.out (by kernel_rfl)) (fun _ _ _ h => h) (Or.inr ⟨(by rfl), rfl⟩) ?_ ?_
        rotate_left
        ·simp only [Act.put, List.setIfInBounds_toArray, List.set_cons_zero, List.set_cons_succ, i64_w, i32_w]
         rfl
        refine pure_ (i := 23) (N := some 52) (v := undef) (a' := ?_) #[true, true, true, true, true, true, true, true, true, true, true, true, true, true, true, true, true, true, true, true, true, true, true, true, false, false, false, false, false, false, false, false, false, false, false] rfl rfl (any_of HT_.out (by kernel_rfl)) (fun _ _ _ h => h) (Or.inr ⟨(by rfl), rfl⟩) ?_ ?_
        rotate_left
        ·simp only [Act.put, List.setIfInBounds_toArray, List.set_cons_zero, List.set_cons_succ, i64_w, i32_w]
         rfl
        refine pure_ (i := 24) (N := some 53) (v := undef) (a' := ?_) #[true, true, true, true, true, true, true, true, true, true, true, true, true, true, true, true, true, true, true, true, true, true, true, true, true, false, false, false, false, false, false, false, false, false, false] rfl rfl (any_of HT_.out (by kernel_rfl)) (fun _ _ _ h => h) (Or.inr ⟨(by rfl), rfl⟩) ?_ ?_
        rotate_left
        ·simp only [Act.put, List.setIfInBounds_toArray, List.set_cons_zero, List.set_cons_succ, i64_w, i32_w]
         rfl
        refine pure_ (i := 25) (N := some 54) (v := undef) (a' := ?_) #[true, true, true, true, true, true, true, true, true, true, true, true, true, true, true, true, true, true, true, true, true, true, true, true, true, true, false, false, false, false, false, false, false, false, false] rfl rfl (any_of HT_.out (by kernel_rfl)) (fun _ _ _ h => h) (Or.inr ⟨(by rfl), rfl⟩) ?_ ?_
        rotate_left
        ·simp only [Act.put, List.setIfInBounds_toArray, List.set_cons_zero, List.set_cons_succ, i64_w, i32_w]
         rfl
        refine pure_ (i := 26) (N := some 55) (v := undef) (a' := ?_) #[true, true, true, true, true, true, true, true, true, true, true, true, true, true, true, true, true, true, true, true, true, true, true, true, true, true, true, false, false, false, false, false, false, false, false] rfl rfl (any_of HT_.out (by kernel_rfl)) (fun _ _ _ h => h) (Or.inr ⟨(by rfl), rfl⟩) ?_ ?_
        rotate_left
        ·simp only [Act.put, List.setIfInBounds_toArray, List.set_cons_zero, List.set_cons_succ, i64_w, i32_w]
         rfl
        refine pure_ (i := 27) (N := some 56) (v := undef) (a' := ?_) #[true, true, true, true, true, true, true, true, true, true, true, true, true, true, true, true, true, true, true, true, true, true, true, true, true, true, true, true, false, false, false, false, false, false, false] rfl rfl (any_of HT_.out (by kernel_rfl)) (fun _ _ _ h => h) (Or.inr ⟨(by rfl), rfl⟩) ?_ ?_
        rotate_left
        ·simp only [Act.put, List.setIfInBounds_toArray, List.set_cons_zero, List.set_cons_succ, i64_w, i32_w]
         rfl
        refine pure_ (i := 28) (N := some 57) (v := undef) (a' := ?_) #[true, true, true, true, true, true, true, true, true, true, true, true, true, true, true, true, true, true, true, true, true, true, true, true, true, true, true, true, true, false, false, false, false, false, false] rfl rfl (any_of HT_.out (by kernel_rfl)) (fun _ _ _ h => h) (Or.inr ⟨(by rfl), rfl⟩) ?_ ?_
        rotate_left
        ·simp only [Act.put, List.setIfInBounds_toArray, List.set_cons_zero, List.set_cons_succ, i64_w, i32_w]
         rfl
        refine pure_ (i := 29) (N := some 58) (v := undef) (a' := ?_) #[true, true, true, true, true, true, true, true, true, true, true, true, true, true, true, true, true, true, true, true, true, true, true, true, true, true, true, true, true, true, false, false, false, false, false] rfl rfl (any_of HT_.out (by kernel_rfl)) (fun _ _ _ h => h) (Or.inr ⟨(by rfl), rfl⟩) ?_ ?_
        rotate_left
        ·simp only [Act.put, List.setIfInBounds_toArray, List.set_cons_zero, List.set_cons_succ, i64_w, i32_w]
         rfl
        refine pure_ (i := 30) (N := some 59) (v := undef) (a' := ?_) #[true, true, true, true, true, true, true, true, true, true, true, true, true, true, true, true, true, true, true, true, true, true, true, true, true, true, true, true, true, true, true, false, false, false, false] rfl rfl (any_of HT_.out (by kernel_rfl)) (fun _ _ _ h => h) (Or.inr ⟨(by rfl), rfl⟩) ?_ ?_
        rotate_left
        ·simp only [Act.put, List.setIfInBounds_toArray, List.set_cons_zero, List.set_cons_succ, i64_w, i32_w]
         rfl
        refine pure_ (i := 31) (N := some 60) (v := undef) (a' := ?_) #[true, true, true, true, true, true, true, true, true, true, true, true, true, true, true, true, true, true, true, true, true, true, true, true, true, true, true, true, true, true, true, true, false, false, false] rfl rfl (any_of HT_.out (by kernel_rfl)) (fun _ _ _ h => h) (Or.inr ⟨(by rfl), rfl⟩) ?_ ?_
        rotate_left
        ·simp only [Act.put, List.setIfInBounds_toArray, List.set_cons_zero, List.set_cons_succ, i64_w, i32_w]
         rfl
        refine pure_ (i := 32) (N := some 61) (v := undef) (a' := ?_) #[true, true, true, true, true, true, true, true, true, true, true, true, true, true, true, true, true, true, true, true, true, true, true, true, true, true, true, true, true, true, true, true, true, false, false] rfl rfl (any_of HT_.out (by kernel_rfl)) (fun _ _ _ h => h) (Or.inr ⟨(by rfl), rfl⟩) ?_ ?_
        rotate_left
        ·simp only [Act.put, List.setIfInBounds_toArray, List.set_cons_zero, List.set_cons_succ, i64_w, i32_w]
         rfl
        refine pure_ (i := 33) (N := some 62) (v := undef) (a' := ?_) #[true, true, true, true, true, true, true, true, true, true, true, true, true, true, true, true, true, true, true, true, true, true, true, true, true, true, true, true, true, true, true, true, true, true, false] rfl rfl (any_of HT_.out (by kernel_rfl)) (fun _ _ _ h => h) (Or.inr ⟨(by rfl), rfl⟩) ?_ ?_
        rotate_left
        ·simp only [Act.put, List.setIfInBounds_toArray, List.set_cons_zero, List.set_cons_succ, i64_w, i32_w]
         rfl
        refine zp 34 (some 63) HT_ ?_
        refine done_ (done_of HT_.out (by kernel_rfl)) ?_
        try go_wp2
        go_meet
        case rel => exact ⟨_, (true), y7, H', ⟨(y34 HK1.out)⟩, ⟨(y1 HB.out)⟩⟩
       ·replace c7 := Bool.eq_false_iff.mpr c7
        subst c7
        rw [if_neg (show ¬ (false = true) by decide)] at H
        obtain ⟨t208, A90, H⟩ := ob H
        have A9 := Aside0.mk A90
        clear A90
        by_cases c10 : t208 = true
        ·subst c10
         rw [if_pos rfl] at H
         by_cases c11 : (((rd_T45 l0 x3_1).f1).length : Int) > 60
         ·rw [if_pos c11] at H
          have c11b0 : decide (60 < (((rd_T45 l0 x3_1).f1).length : Int)) = true := decide_eq_true c11
          have c11b1 : decide (60 < ((rd_T45 l0 x3_1).f1).length) = true := decide_eq_true (by omega)
          clear c11
          (first | rw [c11b0] | (simp only [i64_w, i32_w]; rw [c11b0]) | skip)
          have H' := Aside0.mk H
          clear H
          try go_wp2
          (try (rw [drewN_self wr]; generalize hq_ : World.drewN wr _ = wr; have n0_ : Aside0 (Below w.heap.size w wr) := ⟨(by rw [← hq_]; exact (y1 HB.out))⟩; clear HB hq_; have HB := n0_; clear n0_))
          replace HB := Aside0.mk (below_drew1 HB.out)
          have p207 : 0 ≤ (x3_1 : Int) := of_decide_eq_true y4
          have q207 : x3_1 < (l0.length : Int) := of_decide_eq_true y4
          obtain ⟨ad207, A207_1, c207_1, A207_2, c207_2, A207_3, c207_3, e207, hx207_0, hx207_1, hx207_2, hx207_3, hl207_1, hi207_1, hl207_2, hi207_2, hl207_3, hi207_3⟩ := at_T45 HR0.out x3_1 p207 q207
          have hw207_3 := hx207_3
          have hw207_2 := hx207_2
          have hw207_1 := hx207_1
          have hw207_0 := hx207_0
          obtain rfl : ad203 = ad207 := (by injection e207)
          replace hx207_0 := (HB.out.cell (World.block_lt_of_cell? w _ hx207_0)).trans hx207_0
          replace hx207_1 := (HB.out.cell (World.block_lt_of_cell? w _ hx207_1)).trans hx207_1
          replace hx207_2 := (HB.out.cell (World.block_lt_of_cell? w _ hx207_2)).trans hx207_2
          replace hx207_3 := (HB.out.cell (World.block_lt_of_cell? w _ hx207_3)).trans hx207_3
          have HR207_1 := Aside0.mk hi207_1
          have HC207_1 := Aside0.mk hl207_1
          clear hi207_1 hl207_1
          have HR207_2 := Aside0.mk hi207_2
          have HC207_2 := Aside0.mk hl207_2
          clear hi207_2 hl207_2
          have HR207_3 := Aside0.mk hi207_3
          have HC207_3 := Aside0.mk hl207_3
          clear hi207_3 hl207_3
          replace p207 := eq_true p207
          replace q207 := eq_true q207
          have p209 : 0 ≤ (x3_1 : Int) := of_decide_eq_true y4
          have q209 : x3_1 < (l0.length : Int) := of_decide_eq_true y4
          obtain ⟨ad209, A209_1, c209_1, A209_2, c209_2, A209_3, c209_3, e209, hx209_0, hx209_1, hx209_2, hx209_3, hl209_1, hi209_1, hl209_2, hi209_2, hl209_3, hi209_3⟩ := at_T45 HR0.out x3_1 p209 q209
          have hw209_3 := hx209_3
          have hw209_2 := hx209_2
          have hw209_1 := hx209_1
          have hw209_0 := hx209_0
          obtain rfl : ad203 = ad209 := (by injection e209)
          replace hx209_0 := (HB.out.cell (World.block_lt_of_cell? w _ hx209_0)).trans hx209_0
          replace hx209_1 := (HB.out.cell (World.block_lt_of_cell? w _ hx209_1)).trans hx209_1
          replace hx209_2 := (HB.out.cell (World.block_lt_of_cell? w _ hx209_2)).trans hx209_2
          replace hx209_3 := (HB.out.cell (World.block_lt_of_cell? w _ hx209_3)).trans hx209_3
          have HR209_1 := Aside0.mk hi209_1
          have HC209_1 := Aside0.mk hl209_1
          clear hi209_1 hl209_1
          have HR209_2 := Aside0.mk hi209_2
          have HC209_2 := Aside0.mk hl209_2
          clear hi209_2 hl209_2
          have HR209_3 := Aside0.mk hi209_3
          have HC209_3 := Aside0.mk hl209_3
          clear hi209_3 hl209_3
          replace p209 := eq_true p209
          replace q209 := eq_true q209
          have ea_ := Option.some.inj (hx207_1.symm.trans hx209_1)
          injection ea_ with ea_ en_ ec_
          subst ea_
          subst ec_
          clear en_
          have ea_ := Option.some.inj (hx207_2.symm.trans hx209_2)
          injection ea_ with ea_ en_ ec_
          subst ea_
          subst ec_
          clear en_
          have ea_ := Option.some.inj (hx207_3.symm.trans hx209_3)
          injection ea_ with ea_ en_ ec_
          subst ea_
          subst ec_
          clear en_
          refine start_ (n := 35) (S := fun w' => w'.cell? (ad203.add ((x3_1).toNat * 4)) = some (.string ((rd_T45 l0 x3_1).f0)) ∧ w'.cell? ⟨(ad203.add ((x3_1).toNat * 4)).block, (ad203.add ((x3_1).toNat * 4)).off + 1, none⟩ = some (.slice A207_1 ((rd_T45 l0 x3_1).f1).length c207_1) ∧ w'.cell? ⟨(ad203.add ((x3_1).toNat * 4)).block, (ad203.add ((x3_1).toNat * 4)).off + 2, none⟩ = some (.slice A207_2 ((rd_T45 l0 x3_1).f2.f0).length c207_2) ∧ w'.cell? ⟨(ad203.add ((x3_1).toNat * 4)).block, (ad203.add ((x3_1).toNat * 4)).off + 3, none⟩ = some (.slice A207_3 ((rd_T45 l0 x3_1).f2.f1).length c207_3) ∧ w'.cell? (ad203.add ((x3_1).toNat * 4)) = some (.string ((rd_T45 l0 x3_1).f0)) ∧ w'.cell? ⟨(ad203.add ((x3_1).toNat * 4)).block, (ad203.add ((x3_1).toNat * 4)).off + 1, none⟩ = some (.slice A207_1 ((rd_T45 l0 x3_1).f1).length c207_1) ∧ w'.cell? ⟨(ad203.add ((x3_1).toNat * 4)).block, (ad203.add ((x3_1).toNat * 4)).off + 2, none⟩ = some (.slice A207_2 ((rd_T45 l0 x3_1).f2.f0).length c207_2) ∧ w'.cell? ⟨(ad203.add ((x3_1).toNat * 4)).block, (ad203.add ((x3_1).toNat * 4)).off + 3, none⟩ = some (.slice A207_3 ((rd_T45 l0 x3_1).f2.f1).length c207_3)) (ds := []) #[false, false, false, false, false, false, false, false, false, false, false, false, false, false, false, false, false, false, false, false, false, false, false, false, false, false, false, false, false, false, false, false, false, false, false] (by kernel_rfl) rfl rfl ⟨((HB.out.cell (World.block_lt_of_cell? w _ hw207_0)).trans hw207_0), ((HB.out.cell (World.block_lt_of_cell? w _ hw207_1)).trans hw207_1), ((HB.out.cell (World.block_lt_of_cell? w _ hw207_2)).trans hw207_2), ((HB.out.cell (World.block_lt_of_cell? w _ hw207_3)).trans hw207_3), ((HB.out.cell (World.block_lt_of_cell? w _ hw209_0)).trans hw209_0), ((HB.out.cell (World.block_lt_of_cell? w _ hw209_1)).trans hw209_1), ((HB.out.cell (World.block_lt_of_cell? w _ hw209_2)).trans hw209_2), ((HB.out.cell (World.block_lt_of_cell? w _ hw209_3)).trans hw209_3)⟩ (fun hHeld => ?_); refine with_tabW spec_PureOk.tab7 spec_PureOk.bits7 (fun HT_ HW_ => ?_)
          generalize wr.drew = w12 at HB HR207_1 HR207_2 HR207_3 HR209_1 HR209_2 HR209_3 hx207_0 hx207_1 hx207_2 hx207_3 hx209_0 hx209_1 hx209_2 hx209_3 hHeld ⊢
          refine zp 0 (some 29) HT_ ?_
          refine zp 1 (some 30) HT_ ?_
          refine zp 2 (some 31) HT_ ?_
          refine zp 3 (some 32) HT_ ?_
          refine zp 4 (some 33) HT_ ?_
          refine zp 5 (some 34) HT_ ?_
          refine zt8 6 (some 35) HT_ HW_ hHeld ?_
          refine one_ (i := 7) (N := some 36) #[true, true, true, true, true, true, true, true, false, false, false, false, false, false, false, false, false, false, false, false, false, false, false, false, false, false, false, false, false, false, false, false, false, false, false] rfl rfl (one_of HT_.out (by kernel_rfl)) (by decide) (fun K hK => ?_)
          refine goes_ Try.func17 (by kernel_rfl) rfl #[.string ((rd_T45 l0 x3_1).f0)] (by rfl) rfl rfl y3 ?_
          with_reducible refine (spec_l12Word.calls k1 ((rd_T45 l0 x3_1).f0) true _ A9.out).mono ?_
          rintro e w' ⟨rfl, ⟨nd, rfl⟩⟩
          refine ⟨_, rfl, ?_⟩
          refine hK.out _ _ ⟨((HB.out.cell (World.block_lt_of_cell? w _ hw207_0)).trans hw207_0), ((HB.out.cell (World.block_lt_of_cell? w _ hw207_1)).trans hw207_1), ((HB.out.cell (World.block_lt_of_cell? w _ hw207_2)).trans hw207_2), ((HB.out.cell (World.block_lt_of_cell? w _ hw207_3)).trans hw207_3), ((HB.out.cell (World.block_lt_of_cell? w _ hw209_0)).trans hw209_0), ((HB.out.cell (World.block_lt_of_cell? w _ hw209_1)).trans hw209_1), ((HB.out.cell (World.block_lt_of_cell? w _ hw209_2)).trans hw209_2), ((HB.out.cell (World.block_lt_of_cell? w _ hw209_3)).trans hw209_3)⟩ (fun hHeld => ?_)
          clear hK K
          refine norm_ (a' := ?_) ?_ ?_
          rotate_left
          ·show Act.put _ (some 36) _ = _
           simp only [Act.put, List.setIfInBounds_toArray, List.set_cons_zero, List.set_cons_succ, i64_w, i32_w]
           rfl
          refine zp 8 (some 37) HT_ ?_
          refine zp 9 (some 38) HT_ ?_
          refine zp 10 (some 39) HT_ ?_
          refine zp 11 (some 40) HT_ ?_
          refine zp 12 (some 41) HT_ ?_
          refine zp 13 (some 42) HT_ ?_
          refine zp 14 (some 43) HT_ ?_
          refine zt8 15 (some 44) HT_ HW_ hHeld ?_
          refine zp 16 (some 45) HT_ ?_
          refine zp 17 (some 46) HT_ ?_
          refine zp 18 (some 47) HT_ ?_
          refine zp 19 (some 48) HT_ ?_
          refine pure_ (i := 20) (N := some 49) (v := undef) (a' := ?_) #[true, true, true, true, true, true, true, true, true, true, true, true, true, true, true, true, true, true, true, true, true, false, false, false, false, false, false, false, false, false, false, false, false, false, false] rfl rfl (any_of HT_.out (by kernel_rfl)) (fun _ _ _ h => h) (Or.inr ⟨(by rfl), rfl⟩) ?_ ?_
          rotate_left
          ·simp only [Act.put, List.setIfInBounds_toArray, List.set_cons_zero, List.set_cons_succ, i64_w, i32_w]
           rfl
          refine pure_ (i := 21) (N := some 50) (v := undef) (a' := ?_) #[true, true, true, true, true, true, true, true, true, true, true, true, true, true, true, true, true, true, true, true, true, true, false, false, false, false, false, false, false, false, false, false, false, false, false] rfl rfl (any_of HT_.out (by kernel_rfl)) (fun _ _ _ h => h) (Or.inr ⟨(by rfl), rfl⟩) ?_ ?_
          rotate_left
          ·simp only [Act.put, List.setIfInBounds_toArray, List.set_cons_zero, List.set_cons_succ, i64_w, i32_w]
           rfl
          refine pure_ (i := 22) (N := some 51) (v := undef) (a' := ?_) #[true, true, true, true, true, true, true, true, true, true, true, true, true, true, true, true, true, true, true, true, true, true, true, false, false, false, false, false, false, false, false, false, false, false, false] rfl rfl (any_of HT_.out (by kernel_rfl)) (fun _ _ _ h => h) (Or.inr ⟨(by rfl), rfl⟩) ?_ ?_
          rotate_left
          ·simp only [Act.put, List.setIfInBounds_toArray, List.set_cons_zero, List.set_cons_succ, i64_w, i32_w]
           rfl
          refine pure_ (i := 23) (N := some 52) (v := undef) (a' := ?_) #[true, true, true, true, true, true, true, true, true, true, true, true, true, true, true, true, true, true, true, true, true, true, true, true, false, false, false, false, false, false, false, false, false, false, false] rfl rfl (any_of HT_.out (by kernel_rfl)) (fun _ _ _ h => h) (Or.inr ⟨(by rfl), rfl⟩) ?_ ?_
          rotate_left
          ·simp only [Act.put, List.setIfInBounds_toArray, List.set_cons_zero, List.set_cons_succ, i64_w, i32_w]
           rfl
          refine pure_ (i := 24) (N := some 53) (v := undef) (a' := ?_) #[true, true, true, true, true, true, true, true, true, true, true, true, true, true, true, true, true, true, true, true, true, true, true, true, true, false, false, false, false, false, false, false, false, false, false] rfl rfl (any_of HT_.out (by kernel_rfl)) (fun _ _ _ h => h) (Or.inr ⟨(by rfl), rfl⟩) ?_ ?_
          rotate_left
          ·simp only [Act.put, List.setIfInBounds_toArray, List.set_cons_zero, List.set_cons_succ, i64_w, i32_w]
           rfl
          refine pure_ (i := 25) (N := some 54) (v := undef) (a' := ?_) #[true, true, true, true, true, true, true, true, true, true, true, true, true, true, true, true, true, true, true, true, true, true, true, true, true, true, false, false, false, false, false, false, false, false, false] rfl rfl (any_of HT_.out (by kernel_rfl)) (fun _ _ _ h => h) (Or.inr ⟨(by rfl), rfl⟩) ?_ ?_
          rotate_left
          ·simp only [Act.put, List.setIfInBounds_toArray, List.set_cons_zero, List.set_cons_succ, i64_w, i32_w]
           rfl
          refine pure_ (i := 26) (N := some 55) (v := undef) (a' := ?_) #[true, true, true, true, true, true, true, true, true, true, true, true, true, true, true, true, true, true, true, true, true, true, true, true, true, true, true, false, false, false, false, false, false, false, false] rfl rfl (any_of HT_.out (by kernel_rfl)) (fun _ _ _ h => h) (Or.inr ⟨(by rfl), rfl⟩) ?_ ?_
          rotate_left
          ·simp only [Act.put, List.setIfInBounds_toArray, List.set_cons_zero, List.set_cons_succ, i64_w, i32_w]
           rfl
          refine pure_ (i := 27) (N := some 56) (v := undef) (a' := ?_) #[true, true, true, true, true, true, true, true, true, true, true, true, true, true, true, true, true, true, true, true, true, true, true, true, true, true, true, true, false, false, false, false, false, false, false] rfl rfl (any_of HT_.out (by kernel_rfl)) (fun _ _ _ h => h) (Or.inr ⟨(by rfl), rfl⟩) ?_ ?_
          rotate_left
          ·simp only [Act.put, List.setIfInBounds_toArray, List.set_cons_zero, List.set_cons_succ, i64_w, i32_w]
           rfl
          refine pure_ (i := 28) (N := some 57) (v := undef) (a' := ?_) #[true, true, true, true, true, true, true, true, true, true, true, true, true, true, true, true, true, true, true, true, true, true, true, true, true, true, true, true, true, false, false, false, false, false, false] rfl rfl (any_of HT_.out (by kernel_rfl)) (fun _ _ _ h => h) (Or.inr ⟨(by rfl), rfl⟩) ?_ ?_
          rotate_left
          ·simp only [Act.put, List.setIfInBounds_toArray, List.set_cons_zero, List.set_cons_succ, i64_w, i32_w]
           rfl
          refine pure_ (i := 29) (N := some 58) (v := undef) (a' := ?_) #[true, true, true, true, true, true, true, true, true, true, true, true, true, true, true, true, true, true, true, true, true, true, true, true, true, true, true, true, true, true, false, false, false, false, false] rfl rfl (any_of HT_.out (by kernel_rfl)) (fun _ _ _ h => h) (Or.inr ⟨(by rfl), rfl⟩) ?_ ?_
          rotate_left
          ·simp only [Act.put, List.setIfInBounds_toArray, List.set_cons_zero, List.set_cons_succ, i64_w, i32_w]
           rfl
          refine pure_ (i := 30) (N := some 59) (v := undef) (a' := ?_) #[true, true, true, true, true, true, true, true, true, true, true, true, true, true, true, true, true, true, true, true, true, true, true, true, true, true, true, true, true, true, true, false, false, false, false] rfl rfl (any_of HT_.out (by kernel_rfl)) (fun _ _ _ h => h) (Or.inr ⟨(by rfl), rfl⟩) ?_ ?_
          rotate_left
          ·simp only [Act.put, List.setIfInBounds_toArray, List.set_cons_zero, List.set_cons_succ, i64_w, i32_w]
           rfl
          refine pure_ (i := 31) (N := some 60) (v := undef) (a' := ?_) #[true, true, true, true, true, true, true, true, true, true, true, true, true, true, true, true, true, true, true, true, true, true, true, true, true, true, true, true, true, true, true, true, false, false, false] rfl rfl (any_of HT_.out (by kernel_rfl)) (fun _ _ _ h => h) (Or.inr ⟨(by rfl), rfl⟩) ?_ ?_
          rotate_left
          ·simp only [Act.put, List.setIfInBounds_toArray, List.set_cons_zero, List.set_cons_succ, i64_w, i32_w]
           rfl
          refine pure_ (i := 32) (N := some 61) (v := undef) (a' := ?_) #[true, true, true, true, true, true, true, true, true, true, true, true, true, true, true, true, true, true, true, true, true, true, true, true, true, true, true, true, true, true, true, true, true, false, false] rfl rfl (any_of HT_.out (by kernel_rfl)) (fun _ _ _ h => h) (Or.inr ⟨(by rfl), rfl⟩) ?_ ?_
          rotate_left
          ·simp only [Act.put, List.setIfInBounds_toArray, List.set_cons_zero, List.set_cons_succ, i64_w, i32_w]
           rfl
          refine pure_ (i := 33) (N := some 62) (v := undef) (a' := ?_) #[true, true, true, true, true, true, true, true, true, true, true, true, true, true, true, true, true, true, true, true, true, true, true, true, true, true, true, true, true, true, true, true, true, true, false] rfl rfl (any_of HT_.out (by kernel_rfl)) (fun _ _ _ h => h) (Or.inr ⟨(by rfl), rfl⟩) ?_ ?_
          rotate_left
          ·simp only [Act.put, List.setIfInBounds_toArray, List.set_cons_zero, List.set_cons_succ, i64_w, i32_w]
           rfl
          refine zp 34 (some 63) HT_ ?_
          refine done_ (done_of HT_.out (by kernel_rfl)) ?_
          try go_wp2
          go_meet
          case rel => exact ⟨_, (true), y7, H', ⟨(y34 HK1.out)⟩, ⟨(y1 HB.out)⟩⟩
         ·rw [if_neg c11] at H
          have c11b0 : decide (60 < (((rd_T45 l0 x3_1).f1).length : Int)) = false := decide_eq_false c11
          have c11b1 : decide (60 < ((rd_T45 l0 x3_1).f1).length) = false := decide_eq_false (by omega)
          clear c11
          (first | rw [c11b0] | (simp only [i64_w, i32_w]; rw [c11b0]) | skip)
          obtain ⟨t212, A130, H⟩ := ob H
          have A13 := Aside0.mk A130
          clear A130
          have H' := Aside0.mk H
          clear H
          try go_wp2
          (try (rw [drewN_self wr]; generalize hq_ : World.drewN wr _ = wr; have n0_ : Aside0 (Below w.heap.size w wr) := ⟨(by rw [← hq_]; exact (y1 HB.out))⟩; clear HB hq_; have HB := n0_; clear n0_))
          replace HB := Aside0.mk (below_drew1 HB.out)
          have p207 : 0 ≤ (x3_1 : Int) := of_decide_eq_true y4
          have q207 : x3_1 < (l0.length : Int) := of_decide_eq_true y4
          obtain ⟨ad207, A207_1, c207_1, A207_2, c207_2, A207_3, c207_3, e207, hx207_0, hx207_1, hx207_2, hx207_3, hl207_1, hi207_1, hl207_2, hi207_2, hl207_3, hi207_3⟩ := at_T45 HR0.out x3_1 p207 q207
          have hw207_3 := hx207_3
          have hw207_2 := hx207_2
          have hw207_1 := hx207_1
          have hw207_0 := hx207_0
          obtain rfl : ad203 = ad207 := (by injection e207)
          replace hx207_0 := (HB.out.cell (World.block_lt_of_cell? w _ hx207_0)).trans hx207_0
          replace hx207_1 := (HB.out.cell (World.block_lt_of_cell? w _ hx207_1)).trans hx207_1
          replace hx207_2 := (HB.out.cell (World.block_lt_of_cell? w _ hx207_2)).trans hx207_2
          replace hx207_3 := (HB.out.cell (World.block_lt_of_cell? w _ hx207_3)).trans hx207_3
          have HR207_1 := Aside0.mk hi207_1
          have HC207_1 := Aside0.mk hl207_1
          clear hi207_1 hl207_1
          have HR207_2 := Aside0.mk hi207_2
          have HC207_2 := Aside0.mk hl207_2
          clear hi207_2 hl207_2
          have HR207_3 := Aside0.mk hi207_3
          have HC207_3 := Aside0.mk hl207_3
          clear hi207_3 hl207_3
          replace p207 := eq_true p207
          replace q207 := eq_true q207
          have p209 : 0 ≤ (x3_1 : Int) := of_decide_eq_true y4
          have q209 : x3_1 < (l0.length : Int) := of_decide_eq_true y4
          obtain ⟨ad209, A209_1, c209_1, A209_2, c209_2, A209_3, c209_3, e209, hx209_0, hx209_1, hx209_2, hx209_3, hl209_1, hi209_1, hl209_2, hi209_2, hl209_3, hi209_3⟩ := at_T45 HR0.out x3_1 p209 q209
          have hw209_3 := hx209_3
          have hw209_2 := hx209_2
          have hw209_1 := hx209_1
          have hw209_0 := hx209_0
          obtain rfl : ad203 = ad209 := (by injection e209)
          replace hx209_0 := (HB.out.cell (World.block_lt_of_cell? w _ hx209_0)).trans hx209_0
          replace hx209_1 := (HB.out.cell (World.block_lt_of_cell? w _ hx209_1)).trans hx209_1
          replace hx209_2 := (HB.out.cell (World.block_lt_of_cell? w _ hx209_2)).trans hx209_2
          replace hx209_3 := (HB.out.cell (World.block_lt_of_cell? w _ hx209_3)).trans hx209_3
          have HR209_1 := Aside0.mk hi209_1
          have HC209_1 := Aside0.mk hl209_1
          clear hi209_1 hl209_1
          have HR209_2 := Aside0.mk hi209_2
          have HC209_2 := Aside0.mk hl209_2
          clear hi209_2 hl209_2
          have HR209_3 := Aside0.mk hi209_3
          have HC209_3 := Aside0.mk hl209_3
          clear hi209_3 hl209_3
          replace p209 := eq_true p209
          replace q209 := eq_true q209
          have ea_ := Option.some.inj (hx207_1.symm.trans hx209_1)
          injection ea_ with ea_ en_ ec_
          subst ea_
          subst ec_
          clear en_
          have ea_ := Option.some.inj (hx207_2.symm.trans hx209_2)
          injection ea_ with ea_ en_ ec_
          subst ea_
          subst ec_
          clear en_
          have ea_ := Option.some.inj (hx207_3.symm.trans hx209_3)
          injection ea_ with ea_ en_ ec_
          subst ea_
          subst ec_
          clear en_
          have p210 : 0 ≤ (x3_1 : Int) := of_decide_eq_true y4
          have q210 : x3_1 < (l0.length : Int) := of_decide_eq_true y4
          obtain ⟨ad210, A210_1, c210_1, A210_2, c210_2, A210_3, c210_3, e210, hx210_0, hx210_1, hx210_2, hx210_3, hl210_1, hi210_1, hl210_2, hi210_2, hl210_3, hi210_3⟩ := at_T45 HR0.out x3_1 p210 q210
          have hw210_3 := hx210_3
          have hw210_2 := hx210_2
          have hw210_1 := hx210_1
          have hw210_0 := hx210_0
          obtain rfl : ad203 = ad210 := (by injection e210)
          replace hx210_0 := (HB.out.cell (World.block_lt_of_cell? w _ hx210_0)).trans hx210_0
          replace hx210_1 := (HB.out.cell (World.block_lt_of_cell? w _ hx210_1)).trans hx210_1
          replace hx210_2 := (HB.out.cell (World.block_lt_of_cell? w _ hx210_2)).trans hx210_2
          replace hx210_3 := (HB.out.cell (World.block_lt_of_cell? w _ hx210_3)).trans hx210_3
          have HR210_1 := Aside0.mk hi210_1
          have HC210_1 := Aside0.mk hl210_1
          clear hi210_1 hl210_1
          have HR210_2 := Aside0.mk hi210_2
          have HC210_2 := Aside0.mk hl210_2
          clear hi210_2 hl210_2
          have HR210_3 := Aside0.mk hi210_3
          have HC210_3 := Aside0.mk hl210_3
          clear hi210_3 hl210_3
          replace p210 := eq_true p210
          replace q210 := eq_true q210
          have ea_ := Option.some.inj (hx207_1.symm.trans hx210_1)
          injection ea_ with ea_ en_ ec_
          subst ea_
          subst ec_
          clear en_
          have ea_ := Option.some.inj (hx207_2.symm.trans hx210_2)
          injection ea_ with ea_ en_ ec_
          subst ea_
          subst ec_
          clear en_
          have ea_ := Option.some.inj (hx207_3.symm.trans hx210_3)
          injection ea_ with ea_ en_ ec_
          subst ea_
          subst ec_
          clear en_
          have p211 : 0 ≤ (x3_1 : Int) := of_decide_eq_true y4
          have q211 : x3_1 < (l0.length : Int) := of_decide_eq_true y4
          obtain ⟨ad211, A211_1, c211_1, A211_2, c211_2, A211_3, c211_3, e211, hx211_0, hx211_1, hx211_2, hx211_3, hl211_1, hi211_1, hl211_2, hi211_2, hl211_3, hi211_3⟩ := at_T45 HR0.out x3_1 p211 q211
          have hw211_3 := hx211_3
          have hw211_2 := hx211_2
          have hw211_1 := hx211_1
          have hw211_0 := hx211_0
          obtain rfl : ad203 = ad211 := (by injection e211)
          replace hx211_0 := (HB.out.cell (World.block_lt_of_cell? w _ hx211_0)).trans hx211_0
          replace hx211_1 := (HB.out.cell (World.block_lt_of_cell? w _ hx211_1)).trans hx211_1
          replace hx211_2 := (HB.out.cell (World.block_lt_of_cell? w _ hx211_2)).trans hx211_2
          replace hx211_3 := (HB.out.cell (World.block_lt_of_cell? w _ hx211_3)).trans hx211_3
          have HR211_1 := Aside0.mk hi211_1
          have HC211_1 := Aside0.mk hl211_1
          clear hi211_1 hl211_1
          have HR211_2 := Aside0.mk hi211_2
          have HC211_2 := Aside0.mk hl211_2
          clear hi211_2 hl211_2
          have HR211_3 := Aside0.mk hi211_3
          have HC211_3 := Aside0.mk hl211_3
          clear hi211_3 hl211_3
          replace p211 := eq_true p211
          replace q211 := eq_true q211
          have ea_ := Option.some.inj (hx207_1.symm.trans hx211_1)
          injection ea_ with ea_ en_ ec_
          subst ea_
          subst ec_
          clear en_
          have ea_ := Option.some.inj (hx207_2.symm.trans hx211_2)
          injection ea_ with ea_ en_ ec_
          subst ea_
          subst ec_
          clear en_
          have ea_ := Option.some.inj (hx207_3.symm.trans hx211_3)
          injection ea_ with ea_ en_ ec_
          subst ea_
          subst ec_
          clear en_
          refine start_ (n := 35) (S := fun w' => w'.cell? (ad203.add ((x3_1).toNat * 4)) = some (.string ((rd_T45 l0 x3_1).f0)) ∧ w'.cell? ⟨(ad203.add ((x3_1).toNat * 4)).block, (ad203.add ((x3_1).toNat * 4)).off + 1, none⟩ = some (.slice A207_1 ((rd_T45 l0 x3_1).f1).length c207_1) ∧ w'.cell? ⟨(ad203.add ((x3_1).toNat * 4)).block, (ad203.add ((x3_1).toNat * 4)).off + 2, none⟩ = some (.slice A207_2 ((rd_T45 l0 x3_1).f2.f0).length c207_2) ∧ w'.cell? ⟨(ad203.add ((x3_1).toNat * 4)).block, (ad203.add ((x3_1).toNat * 4)).off + 3, none⟩ = some (.slice A207_3 ((rd_T45 l0 x3_1).f2.f1).length c207_3) ∧ w'.cell? (ad203.add ((x3_1).toNat * 4)) = some (.string ((rd_T45 l0 x3_1).f0)) ∧ w'.cell? ⟨(ad203.add ((x3_1).toNat * 4)).block, (ad203.add ((x3_1).toNat * 4)).off + 1, none⟩ = some (.slice A207_1 ((rd_T45 l0 x3_1).f1).length c207_1) ∧ w'.cell? ⟨(ad203.add ((x3_1).toNat * 4)).block, (ad203.add ((x3_1).toNat * 4)).off + 2, none⟩ = some (.slice A207_2 ((rd_T45 l0 x3_1).f2.f0).length c207_2) ∧ w'.cell? ⟨(ad203.add ((x3_1).toNat * 4)).block, (ad203.add ((x3_1).toNat * 4)).off + 3, none⟩ = some (.slice A207_3 ((rd_T45 l0 x3_1).f2.f1).length c207_3) ∧ w'.cell? (ad203.add ((x3_1).toNat * 4)) = some (.string ((rd_T45 l0 x3_1).f0)) ∧ w'.cell? ⟨(ad203.add ((x3_1).toNat * 4)).block, (ad203.add ((x3_1).toNat * 4)).off + 1, none⟩ = some (.slice A207_1 ((rd_T45 l0 x3_1).f1).length c207_1) ∧ w'.cell? ⟨(ad203.add ((x3_1).toNat * 4)).block, (ad203.add ((x3_1).toNat * 4)).off + 2, none⟩ = some (.slice A207_2 ((rd_T45 l0 x3_1).f2.f0).length c207_2) ∧ w'.cell? ⟨(ad203.add ((x3_1).toNat * 4)).block, (ad203.add ((x3_1).toNat * 4)).off + 3, none⟩ = some (.slice A207_3 ((rd_T45 l0 x3_1).f2.f1).length c207_3) ∧ w'.cell? (ad203.add ((x3_1).toNat * 4)) = some (.string ((rd_T45 l0 x3_1).f0)) ∧ w'.cell? ⟨(ad203.add ((x3_1).toNat * 4)).block, (ad203.add ((x3_1).toNat * 4)).off + 1, none⟩ = some (.slice A207_1 ((rd_T45 l0 x3_1).f1).length c207_1) ∧ w'.cell? ⟨(ad203.add ((x3_1).toNat * 4)).block, (ad203.add ((x3_1).toNat * 4)).off + 2, none⟩ = some (.slice A207_2 ((rd_T45 l0 x3_1).f2.f0).length c207_2) ∧ w'.cell? ⟨(ad203.add ((x3_1).toNat * 4)).block, (ad203.add ((x3_1).toNat * 4)).off + 3, none⟩ = some (.slice A207_3 ((rd_T45 l0 x3_1).f2.f1).length c207_3)) (ds := []) #[false, false, false, false, false, false, false, false, false, false, false, false, false, false, false, false, false, false, false, false, false, false, false, false, false, false, false, false, false, false, false, false, false, false, false] (by kernel_rfl) rfl rfl ⟨((HB.out.cell (World.block_lt_of_cell? w _ hw207_0)).trans hw207_0), ((HB.out.cell (World.block_lt_of_cell? w _ hw207_1)).trans hw207_1), ((HB.out.cell (World.block_lt_of_cell? w _ hw207_2)).trans hw207_2), ((HB.out.cell (World.block_lt_of_cell? w _ hw207_3)).trans hw207_3), ((HB.out.cell (World.block_lt_of_cell? w _ hw209_0)).trans hw209_0), ((HB.out.cell (World.block_lt_of_cell? w _ hw209_1)).trans hw209_1), ((HB.out.cell (World.block_lt_of_cell? w _ hw209_2)).trans hw209_2), ((HB.out.cell (World.block_lt_of_cell? w _ hw209_3)).trans hw209_3), ((HB.out.cell (World.block_lt_of_cell? w _ hw210_0)).trans hw210_0), ((HB.out.cell (World.block_lt_of_cell? w _ hw210_1)).trans hw210_1), ((HB.out.cell (World.block_lt_of_cell? w _ hw210_2)).trans hw210_2), ((HB.out.cell (World.block_lt_of_cell? w _ hw210_3)).trans hw210_3), ((HB.out.cell (World.block_lt_of_cell? w _ hw211_0)).trans hw211_0), ((HB.out.cell (World.block_lt_of_cell? w _ hw211_1)).trans hw211_1), ((HB.out.cell (World.block_lt_of_cell? w _ hw211_2)).trans hw211_2), ((HB.out.cell (World.block_lt_of_cell? w _ hw211_3)).trans hw211_3)⟩ (fun hHeld => ?_); refine with_tabW spec_PureOk.tab7 spec_PureOk.bits7 (fun HT_ HW_ => ?_)
          generalize wr.drew = w14 at HB HR207_1 HR207_2 HR207_3 HR209_1 HR209_2 HR209_3 HR210_1 HR210_2 HR210_3 HR211_1 HR211_2 HR211_3 hx207_0 hx207_1 hx207_2 hx207_3 hx209_0 hx209_1 hx209_2 hx209_3 hx210_0 hx210_1 hx210_2 hx210_3 hx211_0 hx211_1 hx211_2 hx211_3 hHeld ⊢
          refine zp 0 (some 29) HT_ ?_
          refine zp 1 (some 30) HT_ ?_
          refine zp 2 (some 31) HT_ ?_
          refine zp 3 (some 32) HT_ ?_
          refine zp 4 (some 33) HT_ ?_
          refine zp 5 (some 34) HT_ ?_
          refine zt16 6 (some 35) HT_ HW_ hHeld ?_
          refine one_ (i := 7) (N := some 36) #[true, true, true, true, true, true, true, true, false, false, false, false, false, false, false, false, false, false, false, false, false, false, false, false, false, false, false, false, false, false, false, false, false, false, false] rfl rfl (one_of HT_.out (by kernel_rfl)) (by decide) (fun K hK => ?_)
          refine goes_ Try.func17 (by kernel_rfl) rfl #[.string ((rd_T45 l0 x3_1).f0)] (by rfl) rfl rfl y3 ?_
          with_reducible refine (spec_l12Word.calls k1 ((rd_T45 l0 x3_1).f0) true _ A9.out).mono ?_
          rintro e w' ⟨rfl, ⟨nd, rfl⟩⟩
          refine ⟨_, rfl, ?_⟩
          refine hK.out _ _ ⟨((HB.out.cell (World.block_lt_of_cell? w _ hw207_0)).trans hw207_0), ((HB.out.cell (World.block_lt_of_cell? w _ hw207_1)).trans hw207_1), ((HB.out.cell (World.block_lt_of_cell? w _ hw207_2)).trans hw207_2), ((HB.out.cell (World.block_lt_of_cell? w _ hw207_3)).trans hw207_3), ((HB.out.cell (World.block_lt_of_cell? w _ hw209_0)).trans hw209_0), ((HB.out.cell (World.block_lt_of_cell? w _ hw209_1)).trans hw209_1), ((HB.out.cell (World.block_lt_of_cell? w _ hw209_2)).trans hw209_2), ((HB.out.cell (World.block_lt_of_cell? w _ hw209_3)).trans hw209_3), ((HB.out.cell (World.block_lt_of_cell? w _ hw210_0)).trans hw210_0), ((HB.out.cell (World.block_lt_of_cell? w _ hw210_1)).trans hw210_1), ((HB.out.cell (World.block_lt_of_cell? w _ hw210_2)).trans hw210_2), ((HB.out.cell (World.block_lt_of_cell? w _ hw210_3)).trans hw210_3), ((HB.out.cell (World.block_lt_of_cell? w _ hw211_0)).trans hw211_0), ((HB.out.cell (World.block_lt_of_cell? w _ hw211_1)).trans hw211_1), ((HB.out.cell (World.block_lt_of_cell? w _ hw211_2)).trans hw211_2), ((HB.out.cell (World.block_lt_of_cell? w _ hw211_3)).trans hw211_3)⟩ (fun hHeld => ?_)
          clear hK K
          refine norm_ (a' := ?_) ?_ ?_
          rotate_left
          ·show Act.put _ (some 36) _ = _
           simp only [Act.put, List.setIfInBounds_toArray, List.set_cons_zero, List.set_cons_succ, i64_w, i32_w]
           rfl
          refine zp 8 (some 37) HT_ ?_
          refine zp 9 (some 38) HT_ ?_
          refine zp 10 (some 39) HT_ ?_
          refine zp 11 (some 40) HT_ ?_
          refine zp 12 (some 41) HT_ ?_
          refine zp 13 (some 42) HT_ ?_
          refine zp 14 (some 43) HT_ ?_
          refine zt16 15 (some 44) HT_ HW_ hHeld ?_
          refine zp 16 (some 45) HT_ ?_
          refine zp 17 (some 46) HT_ ?_
          refine zp 18 (some 47) HT_ ?_
          refine zp 19 (some 48) HT_ ?_
          refine zp 20 (some 49) HT_ ?_
          refine zp 21 (some 50) HT_ ?_
          refine zp 22 (some 51) HT_ ?_
          refine zp 23 (some 52) HT_ ?_
          refine zp 24 (some 53) HT_ ?_
          refine zp 25 (some 54) HT_ ?_
          refine zp 27 (some 56) HT_ ?_
          refine zp 28 (some 57) HT_ ?_
          refine zp 29 (some 58) HT_ ?_
          refine zp 30 (some 59) HT_ ?_
          refine zt16 26 (some 55) HT_ HW_ hHeld ?_
          refine zt16 31 (some 60) HT_ HW_ hHeld ?_
          refine one_ (i := 32) (N := some 61) #[true, true, true, true, true, true, true, true, true, true, true, true, true, true, true, true, true, true, true, true, true, true, true, true, true, true, true, true, true, true, true, true, true, false, false] rfl rfl (one_of HT_.out (by kernel_rfl)) (by decide) (fun K hK => ?_)
          refine goes_ Try.func18 (by kernel_rfl) rfl #[.slice (some ad203) l0.length c0, .int .i64 x3_1, .slice A207_1 ((rd_T45 l0 x3_1).f1).length c207_1, .agg #[.slice A207_2 ((rd_T45 l0 x3_1).f2.f0).length c207_2, .slice A207_3 ((rd_T45 l0 x3_1).f2.f1).length c207_3], .int .i64 6] (by rfl) rfl rfl y3 ?_
          with_reducible refine (spec_l12Body.calls k1 _ _ l0 x3_1 _ _ ((rd_T45 l0 x3_1).f1) _ _ ((rd_T45 l0 x3_1).f2.f0) _ _ ((rd_T45 l0 x3_1).f2.f1) 6 t212 _ ?side1 ?side2 ?side3 ?side4 ?side5 ?side6 ?side7 ?side8 A13.out).mono ?_
          (case side1 => exact y23 HR0.out HB.out)
          (case side2 => exact HC0.out)
          (case side3 => exact y23 HR210_1.out HB.out)
          (case side4 => exact HC210_1.out)
          (case side5 => exact y23 HR211_2.out HB.out)
          (case side6 => exact HC211_2.out)
          (case side7 => exact y23 HR211_3.out HB.out)
          (case side8 => exact HC211_3.out)
          rintro e w15 ⟨rfl, hb⟩
          refine ⟨_, rfl, ?_⟩
          replace HB := Aside0.mk (below_step (y1 HB.out) hb)
          (try clear hb)
          (try clear hb2)
          (try clear hk)
          (try clear hi)
          refine hK.out _ _ ⟨((HB.out.cell (World.block_lt_of_cell? w _ hw207_0)).trans hw207_0), ((HB.out.cell (World.block_lt_of_cell? w _ hw207_1)).trans hw207_1), ((HB.out.cell (World.block_lt_of_cell? w _ hw207_2)).trans hw207_2), ((HB.out.cell (World.block_lt_of_cell? w _ hw207_3)).trans hw207_3), ((HB.out.cell (World.block_lt_of_cell? w _ hw209_0)).trans hw209_0), ((HB.out.cell (World.block_lt_of_cell? w _ hw209_1)).trans hw209_1), ((HB.out.cell (World.block_lt_of_cell? w _ hw209_2)).trans hw209_2), ((HB.out.cell (World.block_lt_of_cell? w _ hw209_3)).trans hw209_3), ((HB.out.cell (World.block_lt_of_cell? w _ hw210_0)).trans hw210_0), ((HB.out.cell (World.block_lt_of_cell? w _ hw210_1)).trans hw210_1), ((HB.out.cell (World.block_lt_of_cell? w _ hw210_2)).trans hw210_2), ((HB.out.cell (World.block_lt_of_cell? w _ hw210_3)).trans hw210_3), ((HB.out.cell (World.block_lt_of_cell? w _ hw211_0)).trans hw211_0), ((HB.out.cell (World.block_lt_of_cell? w _ hw211_1)).trans hw211_1), ((HB.out.cell (World.block_lt_of_cell? w _ hw211_2)).trans hw211_2), ((HB.out.cell (World.block_lt_of_cell? w _ hw211_3)).trans hw211_3)⟩ (fun hHeld => ?_)
          clear hK K
          refine norm_ (a' := ?_) ?_ ?_
          rotate_left
          ·show Act.put _ (some 61) _ = _
           simp only [Act.put, List.setIfInBounds_toArray, List.set_cons_zero, List.set_cons_succ, i64_w, i32_w]
           rfl
          refine zp 33 (some 62) HT_ ?_
          refine zp 34 (some 63) HT_ ?_
          refine done_ (done_of HT_.out (by kernel_rfl)) ?_
          try go_wp2
          go_meet
          case rel => exact ⟨_, (!t212), y7, H', ⟨(y34 HK1.out)⟩, ⟨(y1 HB.out)⟩⟩
        ·replace c10 := Bool.eq_false_iff.mpr c10
         subst c10
         rw [if_neg (show ¬ (false = true) by decide)] at H
         have H' := Aside0.mk H
         clear H
         try go_wp2
         (try (rw [drewN_self wr]; generalize hq_ : World.drewN wr _ = wr; have n0_ : Aside0 (Below w.heap.size w wr) := ⟨(by rw [← hq_]; exact (y1 HB.out))⟩; clear HB hq_; have HB := n0_; clear n0_))
         replace HB := Aside0.mk (below_drew1 HB.out)
         have p207 : 0 ≤ (x3_1 : Int) := of_decide_eq_true y4
         have q207 : x3_1 < (l0.length : Int) := of_decide_eq_true y4
         obtain ⟨ad207, A207_1, c207_1, A207_2, c207_2, A207_3, c207_3, e207, hx207_0, hx207_1, hx207_2, hx207_3, hl207_1, hi207_1, hl207_2, hi207_2, hl207_3, hi207_3⟩ := at_T45 HR0.out x3_1 p207 q207
         have hw207_3 := hx207_3
         have hw207_2 := hx207_2
         have hw207_1 := hx207_1
         have hw207_0 := hx207_0
         obtain rfl : ad203 = ad207 := (by injection e207)
         replace hx207_0 := (HB.out.cell (World.block_lt_of_cell? w _ hx207_0)).trans hx207_0
         replace hx207_1 := (HB.out.cell (World.block_lt_of_cell? w _ hx207_1)).trans hx207_1
         replace hx207_2 := (HB.out.cell (World.block_lt_of_cell? w _ hx207_2)).trans hx207_2
         replace hx207_3 := (HB.out.cell (World.block_lt_of_cell? w _ hx207_3)).trans hx207_3
         have HR207_1 := Aside0.mk hi207_1
         have HC207_1 := Aside0.mk hl207_1
         clear hi207_1 hl207_1
         have HR207_2 := Aside0.mk hi207_2
         have HC207_2 := Aside0.mk hl207_2
         clear hi207_2 hl207_2
         have HR207_3 := Aside0.mk hi207_3
         have HC207_3 := Aside0.mk hl207_3
         clear hi207_3 hl207_3
         replace p207 := eq_true p207
         replace q207 := eq_true q207
         refine start_ (n := 35) (S := fun w' => w'.cell? (ad203.add ((x3_1).toNat * 4)) = some (.string ((rd_T45 l0 x3_1).f0)) ∧ w'.cell? ⟨(ad203.add ((x3_1).toNat * 4)).block, (ad203.add ((x3_1).toNat * 4)).off + 1, none⟩ = some (.slice A207_1 ((rd_T45 l0 x3_1).f1).length c207_1) ∧ w'.cell? ⟨(ad203.add ((x3_1).toNat * 4)).block, (ad203.add ((x3_1).toNat * 4)).off + 2, none⟩ = some (.slice A207_2 ((rd_T45 l0 x3_1).f2.f0).length c207_2) ∧ w'.cell? ⟨(ad203.add ((x3_1).toNat * 4)).block, (ad203.add ((x3_1).toNat * 4)).off + 3, none⟩ = some (.slice A207_3 ((rd_T45 l0 x3_1).f2.f1).length c207_3)) (ds := []) #[false, false, false, false, false, false, false, false, false, false, false, false, false, false, false, false, false, false, false, false, false, false, false, false, false, false, false, false, false, false, false, false, false, false, false] (by kernel_rfl) rfl rfl ⟨((HB.out.cell (World.block_lt_of_cell? w _ hw207_0)).trans hw207_0), ((HB.out.cell (World.block_lt_of_cell? w _ hw207_1)).trans hw207_1), ((HB.out.cell (World.block_lt_of_cell? w _ hw207_2)).trans hw207_2), ((HB.out.cell (World.block_lt_of_cell? w _ hw207_3)).trans hw207_3)⟩ (fun hHeld => ?_); refine with_tabW spec_PureOk.tab7 spec_PureOk.bits7 (fun HT_ HW_ => ?_)
         generalize wr.drew = w16 at HB HR207_1 HR207_2 HR207_3 hx207_0 hx207_1 hx207_2 hx207_3 hHeld ⊢
         refine zp 0 (some 29) HT_ ?_
         refine zp 1 (some 30) HT_ ?_
         refine zp 2 (some 31) HT_ ?_
         refine zp 3 (some 32) HT_ ?_
         refine zp 4 (some 33) HT_ ?_
         refine zp 5 (some 34) HT_ ?_
         refine zt4 6 (some 35) HT_ HW_ hHeld ?_
         refine one_ (i := 7) (N := some 36) #[true, true, true, true, true, true, true, true, false, false, false, false, false, false, false, false, false, false, false, false, false, false, false, false, false, false, false, false, false, false, false, false, false, false, false] rfl rfl (one_of HT_.out (by kernel_rfl)) (by decide) (fun K hK => ?_)
         refine goes_ Try.func17 (by kernel_rfl) rfl #[.string ((rd_T45 l0 x3_1).f0)] (by rfl) rfl rfl y3 ?_
         with_reducible refine (spec_l12Word.calls k1 ((rd_T45 l0 x3_1).f0) false _ A9.out).mono ?_
         rintro e w' ⟨rfl, ⟨nd, rfl⟩⟩
         refine ⟨_, rfl, ?_⟩
         refine hK.out _ _ ⟨((HB.out.cell (World.block_lt_of_cell? w _ hw207_0)).trans hw207_0), ((HB.out.cell (World.block_lt_of_cell? w _ hw207_1)).trans hw207_1), ((HB.out.cell (World.block_lt_of_cell? w _ hw207_2)).trans hw207_2), ((HB.out.cell (World.block_lt_of_cell? w _ hw207_3)).trans hw207_3)⟩ (fun hHeld => ?_)
         clear hK K
         refine norm_ (a' := ?_) ?_ ?_
         rotate_left
         ·show Act.put _ (some 36) _ = _
          simp only [Act.put, List.setIfInBounds_toArray, List.set_cons_zero, List.set_cons_succ, i64_w, i32_w]
          rfl
         refine zp 8 (some 37) HT_ ?_
         refine zp 9 (some 38) HT_ ?_
         refine zp 10 (some 39) HT_ ?_
         refine pure_ (i := 11) (N := some 40) (v := undef) (a' := ?_) #[true, true, true, true, true, true, true, true, true, true, true, true, false, false, false, false, false, false, false, false, false, false, false, false, false, false, false, false, false, false, false, false, false, false, false] rfl rfl (any_of HT_.out (by kernel_rfl)) (fun _ _ _ h => h) (Or.inr ⟨(by rfl), rfl⟩) ?_ ?_
         rotate_left
         ·simp only [Act.put, List.setIfInBounds_toArray, List.set_cons_zero, List.set_cons_succ, i64_w, i32_w]
          rfl
         refine pure_ (i := 12) (N := some 41) (v := undef) (a' := ?_) #[true, true, true, true, true, true, true, true, true, true, true, true, true, false, false, false, false, false, false, false, false, false, false, false, false, false, false, false, false, false, false, false, false, false, false] rfl rfl (any_of HT_.out (by kernel_rfl)) (fun _ _ _ h => h) (Or.inr ⟨(by rfl), rfl⟩) ?_ ?_
         rotate_left
         ·simp only [Act.put, List.setIfInBounds_toArray, List.set_cons_zero, List.set_cons_succ, i64_w, i32_w]
          rfl
         refine pure_ (i := 13) (N := some 42) (v := undef) (a' := ?_) #[true, true, true, true, true, true, true, true, true, true, true, true, true, true, false, false, false, false, false, false, false, false, false, false, false, false, false, false, false, false, false, false, false, false, false] rfl rfl (any_of HT_.out (by kernel_rfl)) (fun _ _ _ h => h) (Or.inr ⟨(by rfl), rfl⟩) ?_ ?_
         rotate_left
         ·simp only [Act.put, List.setIfInBounds_toArray, List.set_cons_zero, List.set_cons_succ, i64_w, i32_w]
          rfl
         refine pure_ (i := 14) (N := some 43) (v := undef) (a' := ?_) #[true, true, true, true, true, true, true, true, true, true, true, true, true, true, true, false, false, false, false, false, false, false, false, false, false, false, false, false, false, false, false, false, false, false, false] rfl rfl (any_of HT_.out (by kernel_rfl)) (fun _ _ _ h => h) (Or.inr ⟨(by rfl), rfl⟩) ?_ ?_
         rotate_left
         ·simp only [Act.put, List.setIfInBounds_toArray, List.set_cons_zero, List.set_cons_succ, i64_w, i32_w]
          rfl
         refine pure_ (i := 15) (N := some 44) (v := undef) (a' := ?_) #[true, true, true, true, true, true, true, true, true, true, true, true, true, true, true, true, false, false, false, false, false, false, false, false, false, false, false, false, false, false, false, false, false, false, false] rfl rfl (any_of HT_.out (by kernel_rfl)) (fun _ _ _ h => h) (Or.inr ⟨(by rfl), rfl⟩) ?_ ?_
         rotate_left
         ·simp only [Act.put, List.setIfInBounds_toArray, List.set_cons_zero, List.set_cons_succ, i64_w, i32_w]
          rfl
         refine pure_ (i := 16) (N := some 45) (v := undef) (a' := ?_) #[true, true, true, true, true, true, true, true, true, true, true, true, true, true, true, true, true, false, false, false, false, false, false, false, false, false, false, false, false, false, false, false, false, false, false] rfl rfl (any_of HT_.out (by kernel_rfl)) (fun _ _ _ h => h) (Or.inr ⟨(by rfl), rfl⟩) ?_ ?_
         rotate_left
         ·simp only [Act.put, List.setIfInBounds_toArray, List.set_cons_zero, List.set_cons_succ, i64_w, i32_w]
          rfl
         refine pure_ (i := 17) (N := some 46) (v := undef) (a' := ?_) #[true, true, true, true, true, true, true, true, true, true, true, true, true, true, true, true, true, true, false, false, false, false, false, false, false, false, false, false, false, false, false, false, false, false, false] rfl rfl (any_of HT_.out (by kernel_rfl)) (fun _ _ _ h => h) (Or.inr ⟨(by rfl), rfl⟩) ?_ ?_
         rotate_left
         ·simp only [Act.put, List.setIfInBounds_toArray, List.set_cons_zero, List.set_cons_succ, i64_w, i32_w]
          rfl
         refine zp 18 (some 47) HT_ ?_
         refine zp 19 (some 48) HT_ ?_
         refine pure_ (i := 20) (N := some 49) (v := undef) (a' := ?_) #[true, true, true, true, true, true, true, true, true, true, true, true, true, true, true, true, true, true, true, true, true, false, false, false, false, false, false, false, false, false, false, false, false, false, false] rfl rfl (any_of HT_.out (by kernel_rfl)) (fun _ _ _ h => h) (Or.inr ⟨(by rfl), rfl⟩) ?_ ?_
         rotate_left
         ·simp only [Act.put, List.setIfInBounds_toArray, List.set_cons_zero, List.set_cons_succ, i64_w, i32_w]
          rfl
         refine pure_ (i := 21) (N := some 50) (v := undef) (a' := ?_) #[true, true, true, true, true, true, true, true, true, true, true, true, true, true, true, true, true, true, true, true, true, true, false, false, false, false, false, false, false, false, false, false, false, false, false] rfl rfl (any_of HT_.out (by kernel_rfl)) (fun _ _ _ h => h) (Or.inr ⟨(by rfl), rfl⟩) ?_ ?_
         rotate_left
         ·simp only [Act.put, List.setIfInBounds_toArray, List.set_cons_zero, List.set_cons_succ, i64_w, i32_w]
          rfl
         refine pure_ (i := 22) (N := some 51) (v := undef) (a' := ?_) #[true, true, true, true, true, true, true, true, true, true, true, true, true, true, true, true, true, true, true, true, true, true, true, false, false, false, false, false, false, false, false, false, false, false, false] rfl rfl (any_of HT_.out (by kernel_rfl)) (fun _ _ _ h => h) (Or.inr ⟨(by rfl), rfl⟩) ?_ ?_
         rotate_left
         ·simp only [Act.put, List.setIfInBounds_toArray, List.set_cons_zero, List.set_cons_succ, i64_w, i32_w]
          rfl
         refine pure_ (i := 23) (N := some 52) (v := undef) (a' := ?_) #[true, true, true, true, true, true, true, true, true, true, true, true, true, true, true, true, true, true, true, true, true, true, true, true, false, false, false, false, false, false, false, false, false, false, false] rfl rfl (any_of HT_.out (by kernel_rfl)) (fun _ _ _ h => h) (Or.inr ⟨(by rfl), rfl⟩) ?_ ?_
         rotate_left
         ·simp only [Act.put, List.setIfInBounds_toArray, List.set_cons_zero, List.set_cons_succ, i64_w, i32_w]
          rfl
         refine pure_ (i := 24) (N := some 53) (v := undef) (a' := ?_) #[true, true, true, true, true, true, true, true, true, true, true, true, true, true, true, true, true, true, true, true, true, true, true, true, true, false, false, false, false, false, false, false, false, false, false] rfl rfl (any_of HT_.out (by kernel_rfl)) (fun _ _ _ h => h) (Or.inr ⟨(by rfl), rfl⟩) ?_ ?_
         rotate_left
         ·simp only [Act.put, List.setIfInBounds_toArray, List.set_cons_zero, List.set_cons_succ, i64_w, i32_w]
          rfl
         refine pure_ (i := 25) (N := some 54) (v := undef) (a' := ?_) #[true, true, true, true, true, true, true, true, true, true, true, true, true, true, true, true, true, true, true, true, true, true, true, true, true, true, false, false, false, false, false, false, false, false, false] rfl rfl (any_of HT_.out (by kernel_rfl)) (fun _ _ _ h => h) (Or.inr ⟨(by rfl), rfl⟩) ?_ ?_
         rotate_left
         ·simp only [Act.put, List.setIfInBounds_toArray, List.set_cons_zero, List.set_cons_succ, i64_w, i32_w]
          rfl
         refine pure_ (i := 26) (N := some 55) (v := undef) (a' := ?_) #[true, true, true, true, true, true, true, true, true, true, true, true, true, true, true, true, true, true, true, true, true, true, true, true, true, true, true, false, false, false, false, false, false, false, false] rfl rfl (any_of HT_.out (by kernel_rfl)) (fun _ _ _ h => h) (Or.inr ⟨(by rfl), rfl⟩) ?_ ?_
         rotate_left
         ·simp only [Act.put, List.setIfInBounds_toArray, List.set_cons_zero, List.set_cons_succ, i64_w, i32_w]
          rfl
         refine pure_ (i := 27) (N := some 56) (v := undef) (a' := ?_) #[true, true, true, true, true, true, true, true, true, true, true, true, true, true, true, true, true, true, true, true, true, true, true, true, true, true, true, true, false, false, false, false, false, false, false] rfl rfl (any_of HT_.out (by kernel_rfl)) (fun _ _ _ h => h) (Or.inr ⟨(by rfl), rfl⟩) ?_ ?_
         rotate_left
         ·simp only [Act.put, List.setIfInBounds_toArray, List.set_cons_zero, List.set_cons_succ, i64_w, i32_w]
          rfl
         refine pure_ (i := 28) (N := some 57) (v := undef) (a' := ?_) #[true, true, true, true, true, true, true, true, true, true, true, true, true, true, true, true, true, true, true, true, true, true, true, true, true, true, true, true, true, false, false, false, false, false, false] rfl rfl (any_of HT_.out (by kernel_rfl)) (fun _ _ _ h => h) (Or.inr ⟨(by rfl), rfl⟩) ?_ ?_
         rotate_left
         ·simp only [Act.put, List.setIfInBounds_toArray, List.set_cons_zero, List.set_cons_succ, i64_w, i32_w]
          rfl
         refine pure_ (i := 29) (N := some 58) (v := undef) (a' := ?_) #[true, true, true, true, true, true, true, true, true, true, true, true, true, true, true, true, true, true, true, true, true, true, true, true, true, true, true, true, true, true, false, false, false, false, false] rfl rfl (any_of HT_.out (by kernel_rfl)) (fun _ _ _ h => h) (Or.inr ⟨(by rfl), rfl⟩) ?_ ?_
         rotate_left
         ·simp only [Act.put, List.setIfInBounds_toArray, List.set_cons_zero, List.set_cons_succ, i64_w, i32_w]
          rfl
         refine pure_ (i := 30) (N := some 59) (v := undef) (a' := ?_) #[true, true, true, true, true, true, true, true, true, true, true, true, true, true, true, true, true, true, true, true, true, true, true, true, true, true, true, true, true, true, true, false, false, false, false] rfl rfl (any_of HT_.out (by kernel_rfl)) (fun _ _ _ h => h) (Or.inr ⟨(by rfl), rfl⟩) ?_ ?_
         rotate_left
         ·simp only [Act.put, List.setIfInBounds_toArray, List.set_cons_zero, List.set_cons_succ, i64_w, i32_w]
          rfl
         refine pure_ (i := 31) (N := some 60) (v := undef) (a' := ?_) #[true, true, true, true, true, true, true, true, true, true, true, true, true, true, true, true, true, true, true, true, true, true, true, true, true, true, true, true, true, true, true, true, false, false, false] rfl rfl (any_of HT_.out (by kernel_rfl)) (fun _ _ _ h => h) (Or.inr ⟨(by rfl), rfl⟩) ?_ ?_
         rotate_left
         ·simp only [Act.put, List.setIfInBounds_toArray, List.set_cons_zero, List.set_cons_succ, i64_w, i32_w]
          rfl
         refine pure_ (i := 32) (N := some 61) (v := undef) (a' := ?_) #[true, true, true, true, true, true, true, true, true, true, true, true, true, true, true, true, true, true, true, true, true, true, true, true, true, true, true, true, true, true, true, true, true, false, false] rfl rfl (any_of HT_.out (by kernel_rfl)) (fun _ _ _ h => h) (Or.inr ⟨(by rfl), rfl⟩) ?_ ?_
         rotate_left
         ·simp only [Act.put, List.setIfInBounds_toArray, List.set_cons_zero, List.set_cons_succ, i64_w, i32_w]
          rfl
         refine pure_ (i := 33) (N := some 62) (v := undef) (a' := ?_) #[true, true, true, true, true, true, true, true, true, true, true, true, true, true, true, true, true, true, true, true, true, true, true, true, true, true, true, true, true, true, true, true, true, true, false] rfl rfl (any_of HT_.out (by kernel_rfl)) (fun _ _ _ h => h) (Or.inr ⟨(by rfl), rfl⟩) ?_ ?_
         rotate_left
         ·simp only [Act.put, List.setIfInBounds_toArray, List.set_cons_zero, List.set_cons_succ, i64_w, i32_w]
          rfl
         refine zp 34 (some 63) HT_ ?_
         refine done_ (done_of HT_.out (by kernel_rfl)) ?_
         try go_wp2
         go_meet
         case rel => exact ⟨_, (true), y7, H', ⟨(y34 HK1.out)⟩, ⟨(y1 HB.out)⟩⟩
      case rest =>
       clear HC6
       try clear c1
       try clear c2
       try clear p2
       try clear q2
       try clear hx2
       try clear c10
       try clear hx207_0
       try clear hx207_1
       try clear hx207_2
       try clear hx207_3
       try clear hx209_0
       try clear hx209_1
       try clear hx209_2
       try clear hx209_3
       try clear hx210_0
       try clear hx210_1
       try clear hx210_2
       try clear hx210_3
       try clear hx211_0
       try clear hx211_1
       try clear hx211_2
       try clear hx211_3
       try clear p207
       try clear p211
       try clear q207
       try clear q211
       obtain ⟨kq, x63_5, rfl, HA, HJ5, HB⟩ := hcut
       cases kq with
       | zero => exact absurd HA.out (by simp [spec_PureOk.j1])
       | succ kj5 =>
        have H := HA.out
        clear HA
        simp only [spec_PureOk.j1] at H
        by_cases c17 : x63_5 = true
        ·subst c17
         rw [if_pos rfl] at H
         obtain rfl := Option.some.inj H
         go_wp2
         go_ret
         exact ⟨y6, (y1 HB.out)⟩
        ·replace c17 := Bool.eq_false_iff.mpr c17
         subst c17
         rw [if_neg (show ¬ (false = true) by decide)] at H
         have H' := Aside0.mk H
         clear H
         go_wp2
         go_loopg [7] kj5 (fun kq v7 w' => ∃ (x7_3 : Int), v7 = .int .i64 x7_3 ∧ Aside0 (spec_PureOk.l1 kq l0 x3_1 x7_3 = some r) ∧ Aside0 (kq ≤ kj5) ∧ Aside0 (Below w.heap.size w w'))
         case atStart => exact ⟨(0), y7, H', ⟨Nat.le_refl _⟩, ⟨(y1 HB.out)⟩⟩
         case round =>
          clear H'
          try clear c1
          try clear c2
          try clear p2
          try clear q2
          try clear hx2
          try clear c10
          try clear c17
          try clear hx207_0
          try clear hx207_1
          try clear hx207_2
          try clear hx207_3
          try clear hx209_0
          try clear hx209_1
          try clear hx209_2
          try clear hx209_3
          try clear hx210_0
          try clear hx210_1
          try clear hx210_2
          try clear hx210_3
          try clear hx211_0
          try clear hx211_1
          try clear hx211_2
          try clear hx211_3
          try clear p2
          try clear p207
          try clear p211
          try clear q2
          try clear q207
          try clear q211
          obtain ⟨x7_3, rfl, HA, HK3, HB⟩ := hrel
          cases gk with
          | zero => exact absurd HA.out (by simp [spec_PureOk.l1])
          | succ k3 =>
           have H := HA.out
           clear HA
           simp only [spec_PureOk.l1] at H
           by_cases c18 : 0 ≤ x3_1
           ·rw [if_pos c18] at H
            have c18b0 : decide (0 ≤ x3_1) = true := decide_eq_true c18
            clear c18
            by_cases c19 : x3_1 < (l0.length : Int)
            ·rw [if_pos c19] at H
             have c19b0 : decide (x3_1 < (l0.length : Int)) = true := decide_eq_true c19
             clear c19
             by_cases c20 : x7_3 < (((rd_T45 l0 x3_1).f1).length : Int)
             ·rw [if_pos c20] at H
              have c20b0 : decide (x7_3 < (((rd_T45 l0 x3_1).f1).length : Int)) = true := decide_eq_true c20
              clear c20
              by_cases c21 : 0 ≤ x7_3
              ·rw [if_pos c21] at H
               have c21b0 : decide (0 ≤ x7_3) = true := decide_eq_true c21
               clear c21
               obtain ⟨t216, A220, H⟩ := ob H
               have A22 := Aside0.mk A220
               clear A220
               by_cases c23 : t216 = true
               ·subst c23
                rw [if_pos rfl] at H
                have c24b0 := eq_true (of_decide_eq_true y4 : 0 ≤ x7_3)
                by_cases c25 : x7_3 ≤ (((rd_T45 l0 x3_1).f1).length : Int)
                ·rw [if_pos c25] at H
                 have c25b0 := eq_true c25
                 have c25b1 : decide (x7_3 ≤ (((rd_T45 l0 x3_1).f1).length : Int)) = true := decide_eq_true c25
                 clear c25
                 obtain ⟨t221, A260, H⟩ := ob H
                 have A26 := Aside0.mk A260
                 clear A260
                 have HZ27 := Aside0.mk H
                 clear H
                 have p213 : 0 ≤ (x3_1 : Int) := of_decide_eq_true y4
                 have q213 : x3_1 < (l0.length : Int) := of_decide_eq_true y4
                 obtain ⟨ad213, A213_1, c213_1, A213_2, c213_2, A213_3, c213_3, e213, hx213_0, hx213_1, hx213_2, hx213_3, hl213_1, hi213_1, hl213_2, hi213_2, hl213_3, hi213_3⟩ := at_T45 HR0.out x3_1 p213 q213
                 obtain rfl : ad203 = ad213 := (by injection e213)
                 replace hx213_0 := (HB.out.cell (World.block_lt_of_cell? w _ hx213_0)).trans hx213_0
                 replace hx213_1 := (HB.out.cell (World.block_lt_of_cell? w _ hx213_1)).trans hx213_1
                 replace hx213_2 := (HB.out.cell (World.block_lt_of_cell? w _ hx213_2)).trans hx213_2
                 replace hx213_3 := (HB.out.cell (World.block_lt_of_cell? w _ hx213_3)).trans hx213_3
                 have HR213_1 := Aside0.mk hi213_1
                 have HC213_1 := Aside0.mk hl213_1
                 clear hi213_1 hl213_1
                 have HR213_2 := Aside0.mk hi213_2
                 have HC213_2 := Aside0.mk hl213_2
                 clear hi213_2 hl213_2
                 have HR213_3 := Aside0.mk hi213_3
                 have HC213_3 := Aside0.mk hl213_3
                 clear hi213_3 hl213_3
                 replace p213 := eq_true p213
                 replace q213 := eq_true q213
                 try go_wp2
                 replace HB := Aside0.mk (below_drew1 HB.out)
                 have p214 : 0 ≤ (x3_1 : Int) := of_decide_eq_true y4
                 have q214 : x3_1 < (l0.length : Int) := of_decide_eq_true y4
                 obtain ⟨ad214, A214_1, c214_1, A214_2, c214_2, A214_3, c214_3, e214, hx214_0, hx214_1, hx214_2, hx214_3, hl214_1, hi214_1, hl214_2, hi214_2, hl214_3, hi214_3⟩ := at_T45 HR0.out x3_1 p214 q214
                 have hw214_3 := hx214_3
                 have hw214_2 := hx214_2
                 have hw214_1 := hx214_1
                 have hw214_0 := hx214_0
                 obtain rfl : ad203 = ad214 := (by injection e214)
                 replace hx214_0 := (HB.out.cell (World.block_lt_of_cell? w _ hx214_0)).trans hx214_0
                 replace hx214_1 := (HB.out.cell (World.block_lt_of_cell? w _ hx214_1)).trans hx214_1
                 replace hx214_2 := (HB.out.cell (World.block_lt_of_cell? w _ hx214_2)).trans hx214_2
                 replace hx214_3 := (HB.out.cell (World.block_lt_of_cell? w _ hx214_3)).trans hx214_3
                 have HR214_1 := Aside0.mk hi214_1
                 have HC214_1 := Aside0.mk hl214_1
                 clear hi214_1 hl214_1
                 have HR214_2 := Aside0.mk hi214_2
                 have HC214_2 := Aside0.mk hl214_2
                 clear hi214_2 hl214_2
                 have HR214_3 := Aside0.mk hi214_3
                 have HC214_3 := Aside0.mk hl214_3
                 clear hi214_3 hl214_3
                 replace p214 := eq_true p214
                 replace q214 := eq_true q214
                 have p215 : 0 ≤ (x7_3 : Int) := of_decide_eq_true y4
                 have q215 : x7_3 < (((rd_T45 l0 x3_1).f1).length : Int) := of_decide_eq_true y4
                 obtain ⟨ad215, e215, hx215_0⟩ := Kd.at_string HR214_1.out x7_3 p215 q215
                 have hw215_0 := hx215_0
                 cases e215
                 replace hx215_0 := (HB.out.cell (World.block_lt_of_cell? w _ hx215_0)).trans hx215_0
                 replace p215 := eq_true p215
                 replace q215 := eq_true q215
                 have p217 : 0 ≤ (x3_1 : Int) := of_decide_eq_true y4
                 have q217 : x3_1 < (l0.length : Int) := of_decide_eq_true y4
                 obtain ⟨ad217, A217_1, c217_1, A217_2, c217_2, A217_3, c217_3, e217, hx217_0, hx217_1, hx217_2, hx217_3, hl217_1, hi217_1, hl217_2, hi217_2, hl217_3, hi217_3⟩ := at_T45 HR0.out x3_1 p217 q217
                 have hw217_3 := hx217_3
                 have hw217_2 := hx217_2
                 have hw217_1 := hx217_1
                 have hw217_0 := hx217_0
                 obtain rfl : ad203 = ad217 := (by injection e217)
                 replace hx217_0 := (HB.out.cell (World.block_lt_of_cell? w _ hx217_0)).trans hx217_0
                 replace hx217_1 := (HB.out.cell (World.block_lt_of_cell? w _ hx217_1)).trans hx217_1
                 replace hx217_2 := (HB.out.cell (World.block_lt_of_cell? w _ hx217_2)).trans hx217_2
                 replace hx217_3 := (HB.out.cell (World.block_lt_of_cell? w _ hx217_3)).trans hx217_3
                 have HR217_1 := Aside0.mk hi217_1
                 have HC217_1 := Aside0.mk hl217_1
                 clear hi217_1 hl217_1
                 have HR217_2 := Aside0.mk hi217_2
                 have HC217_2 := Aside0.mk hl217_2
                 clear hi217_2 hl217_2
                 have HR217_3 := Aside0.mk hi217_3
                 have HC217_3 := Aside0.mk hl217_3
                 clear hi217_3 hl217_3
                 replace p217 := eq_true p217
                 replace q217 := eq_true q217
                 have ea_ := Option.some.inj (hx214_1.symm.trans hx217_1)
                 injection ea_ with ea_ en_ ec_
                 subst ea_
                 subst ec_
                 clear en_
                 have ea_ := Option.some.inj (hx214_2.symm.trans hx217_2)
                 injection ea_ with ea_ en_ ec_
                 subst ea_
                 subst ec_
                 clear en_
                 have ea_ := Option.some.inj (hx214_3.symm.trans hx217_3)
                 injection ea_ with ea_ en_ ec_
                 subst ea_
                 subst ec_
                 clear en_
                 have p219 : 0 ≤ (x3_1 : Int) := of_decide_eq_true y4
                 have q219 : x3_1 < (l0.length : Int) := of_decide_eq_true y4
                 obtain ⟨ad219, A219_1, c219_1, A219_2, c219_2, A219_3, c219_3, e219, hx219_0, hx219_1, hx219_2, hx219_3, hl219_1, hi219_1, hl219_2, hi219_2, hl219_3, hi219_3⟩ := at_T45 HR0.out x3_1 p219 q219
                 have hw219_3 := hx219_3
                 have hw219_2 := hx219_2
                 have hw219_1 := hx219_1
                 have hw219_0 := hx219_0
                 obtain rfl : ad203 = ad219 := (by injection e219)
                 replace hx219_0 := (HB.out.cell (World.block_lt_of_cell? w _ hx219_0)).trans hx219_0
                 replace hx219_1 := (HB.out.cell (World.block_lt_of_cell? w _ hx219_1)).trans hx219_1
                 replace hx219_2 := (HB.out.cell (World.block_lt_of_cell? w _ hx219_2)).trans hx219_2
                 replace hx219_3 := (HB.out.cell (World.block_lt_of_cell? w _ hx219_3)).trans hx219_3
                 have HR219_1 := Aside0.mk hi219_1
                 have HC219_1 := Aside0.mk hl219_1
                 clear hi219_1 hl219_1
                 have HR219_2 := Aside0.mk hi219_2
                 have HC219_2 := Aside0.mk hl219_2
                 clear hi219_2 hl219_2
                 have HR219_3 := Aside0.mk hi219_3
                 have HC219_3 := Aside0.mk hl219_3
                 clear hi219_3 hl219_3
                 replace p219 := eq_true p219
                 replace q219 := eq_true q219
                 have ea_ := Option.some.inj (hx214_1.symm.trans hx219_1)
                 injection ea_ with ea_ en_ ec_
                 subst ea_
                 subst ec_
                 clear en_
                 have ea_ := Option.some.inj (hx214_2.symm.trans hx219_2)
                 injection ea_ with ea_ en_ ec_
                 subst ea_
                 subst ec_
                 clear en_
                 have ea_ := Option.some.inj (hx214_3.symm.trans hx219_3)
                 injection ea_ with ea_ en_ ec_
                 subst ea_
                 subst ec_
                 clear en_
                 have p220 : 0 ≤ (x7_3 : Int) := of_decide_eq_true y4
                 have q220 : x7_3 < (((rd_T45 l0 x3_1).f1).length : Int) := of_decide_eq_true y4
                 obtain ⟨ad220, e220, hx220_0⟩ := Kd.at_string HR219_1.out x7_3 p220 q220
                 have hw220_0 := hx220_0
                 cases e220
                 replace hx220_0 := (HB.out.cell (World.block_lt_of_cell? w _ hx220_0)).trans hx220_0
                 replace p220 := eq_true p220
                 replace q220 := eq_true q220
                 refine start_ (n := 28) (S := fun w' => w'.cell? (ad203.add ((x3_1).toNat * 4)) = some (.string ((rd_T45 l0 x3_1).f0)) ∧ w'.cell? ⟨(ad203.add ((x3_1).toNat * 4)).block, (ad203.add ((x3_1).toNat * 4)).off + 1, none⟩ = some (.slice (some ad215) ((rd_T45 l0 x3_1).f1).length c214_1) ∧ w'.cell? ⟨(ad203.add ((x3_1).toNat * 4)).block, (ad203.add ((x3_1).toNat * 4)).off + 2, none⟩ = some (.slice A214_2 ((rd_T45 l0 x3_1).f2.f0).length c214_2) ∧ w'.cell? ⟨(ad203.add ((x3_1).toNat * 4)).block, (ad203.add ((x3_1).toNat * 4)).off + 3, none⟩ = some (.slice A214_3 ((rd_T45 l0 x3_1).f2.f1).length c214_3) ∧ w'.cell? (ad215.add (x7_3).toNat) = some (.string (rdOf ByteArray.empty ((rd_T45 l0 x3_1).f1) x7_3)) ∧ w'.cell? (ad203.add ((x3_1).toNat * 4)) = some (.string ((rd_T45 l0 x3_1).f0)) ∧ w'.cell? ⟨(ad203.add ((x3_1).toNat * 4)).block, (ad203.add ((x3_1).toNat * 4)).off + 1, none⟩ = some (.slice (some ad215) ((rd_T45 l0 x3_1).f1).length c214_1) ∧ w'.cell? ⟨(ad203.add ((x3_1).toNat * 4)).block, (ad203.add ((x3_1).toNat * 4)).off + 2, none⟩ = some (.slice A214_2 ((rd_T45 l0 x3_1).f2.f0).length c214_2) ∧ w'.cell? ⟨(ad203.add ((x3_1).toNat * 4)).block, (ad203.add ((x3_1).toNat * 4)).off + 3, none⟩ = some (.slice A214_3 ((rd_T45 l0 x3_1).f2.f1).length c214_3) ∧ w'.cell? (ad203.add ((x3_1).toNat * 4)) = some (.string ((rd_T45 l0 x3_1).f0)) ∧ w'.cell? ⟨(ad203.add ((x3_1).toNat * 4)).block, (ad203.add ((x3_1).toNat * 4)).off + 1, none⟩ = some (.slice (some ad215) ((rd_T45 l0 x3_1).f1).length c214_1) ∧ w'.cell? ⟨(ad203.add ((x3_1).toNat * 4)).block, (ad203.add ((x3_1).toNat * 4)).off + 2, none⟩ = some (.slice A214_2 ((rd_T45 l0 x3_1).f2.f0).length c214_2) ∧ w'.cell? ⟨(ad203.add ((x3_1).toNat * 4)).block, (ad203.add ((x3_1).toNat * 4)).off + 3, none⟩ = some (.slice A214_3 ((rd_T45 l0 x3_1).f2.f1).length c214_3) ∧ w'.cell? (ad215.add (x7_3).toNat) = some (.string (rdOf ByteArray.empty ((rd_T45 l0 x3_1).f1) x7_3))) (ds := []) #[false, false, false, false, false, false, false, false, false, false, false, false, false, false, false, false, false, false, false, false, false, false, false, false, false, false, false, false] (by kernel_rfl) rfl rfl ⟨((HB.out.cell (World.block_lt_of_cell? w _ hw214_0)).trans hw214_0), ((HB.out.cell (World.block_lt_of_cell? w _ hw214_1)).trans hw214_1), ((HB.out.cell (World.block_lt_of_cell? w _ hw214_2)).trans hw214_2), ((HB.out.cell (World.block_lt_of_cell? w _ hw214_3)).trans hw214_3), ((HB.out.cell (World.block_lt_of_cell? w _ hw215_0)).trans hw215_0), ((HB.out.cell (World.block_lt_of_cell? w _ hw217_0)).trans hw217_0), ((HB.out.cell (World.block_lt_of_cell? w _ hw217_1)).trans hw217_1), ((HB.out.cell (World.block_lt_of_cell? w _ hw217_2)).trans hw217_2), ((HB.out.cell (World.block_lt_of_cell? w _ hw217_3)).trans hw217_3), ((HB.out.cell (World.block_lt_of_cell? w _ hw219_0)).trans hw219_0), ((HB.out.cell (World.block_lt_of_cell? w _ hw219_1)).trans hw219_1), ((HB.out.cell (World.block_lt_of_cell? w _ hw219_2)).trans hw219_2), ((HB.out.cell (World.block_lt_of_cell? w _ hw219_3)).trans hw219_3), ((HB.out.cell (World.block_lt_of_cell? w _ hw220_0)).trans hw220_0)⟩ (fun hHeld => ?_); refine with_tabW spec_PureOk.tab12 spec_PureOk.bits12 (fun HT_ HW_ => ?_)
                 generalize wr.drew = w28 at HB HR214_1 HR214_2 HR214_3 HR217_1 HR217_2 HR217_3 HR219_1 HR219_2 HR219_3 hx214_0 hx214_1 hx214_2 hx214_3 hx215_0 hx217_0 hx217_1 hx217_2 hx217_3 hx219_0 hx219_1 hx219_2 hx219_3 hx220_0 hHeld ⊢
                 refine zp 0 (some 74) HT_ ?_
                 refine zp 1 (some 75) HT_ ?_
                 refine zp 2 (some 76) HT_ ?_
                 refine zp 3 (some 77) HT_ ?_
                 refine zp 5 (some 79) HT_ ?_
                 refine zt14 4 (some 78) HT_ HW_ hHeld ?_
                 refine zp 6 (some 80) HT_ ?_
                 refine zt14 7 (some 81) HT_ HW_ hHeld ?_
                 refine one_ (i := 8) (N := some 82) #[true, true, true, true, true, true, true, true, true, false, false, false, false, false, false, false, false, false, false, false, false, false, false, false, false, false, false, false] rfl rfl (one_of HT_.out (by kernel_rfl)) (by decide) (fun K hK => ?_)
                 refine goes_ Try.func17 (by kernel_rfl) rfl #[.string (rdOf ByteArray.empty ((rd_T45 l0 x3_1).f1) x7_3)] (by rfl) rfl rfl y3 ?_
                 with_reducible refine (spec_l12Word.calls k3 (rdOf ByteArray.empty ((rd_T45 l0 x3_1).f1) x7_3) true _ A22.out).mono ?_
                 rintro e w' ⟨rfl, ⟨nd, rfl⟩⟩
                 refine ⟨_, rfl, ?_⟩
                 obtain ⟨i029, hi029, _, hsz29, _⟩ := info_parts info9
                 obtain ⟨hcut29, hA29, hC29⟩ := print_take_of (P := Try.prog) Value.string (⟨#[]⟩ : ByteArray) 31 9 .i64 Try.underlying31 hi029 hsz29 (some ad215) c214_1 ((rd_T45 l0 x3_1).f1) x7_3 (of_decide_eq_true y4) (of_decide_eq_true y4) HC217_1.out
                 have HR218 := Aside0.mk (Kd.C_of_reads (h1 := fun _ => rfl) (hA29 _ (Kd.reads_of_C HR217_1.out)))
                 have HC218 := Aside0.mk hC29
                 clear hA29 hC29 hi029 hsz29
                 refine hK.out _ _ ⟨((HB.out.cell (World.block_lt_of_cell? w _ hw214_0)).trans hw214_0), ((HB.out.cell (World.block_lt_of_cell? w _ hw214_1)).trans hw214_1), ((HB.out.cell (World.block_lt_of_cell? w _ hw214_2)).trans hw214_2), ((HB.out.cell (World.block_lt_of_cell? w _ hw214_3)).trans hw214_3), ((HB.out.cell (World.block_lt_of_cell? w _ hw215_0)).trans hw215_0), ((HB.out.cell (World.block_lt_of_cell? w _ hw217_0)).trans hw217_0), ((HB.out.cell (World.block_lt_of_cell? w _ hw217_1)).trans hw217_1), ((HB.out.cell (World.block_lt_of_cell? w _ hw217_2)).trans hw217_2), ((HB.out.cell (World.block_lt_of_cell? w _ hw217_3)).trans hw217_3), ((HB.out.cell (World.block_lt_of_cell? w _ hw219_0)).trans hw219_0), ((HB.out.cell (World.block_lt_of_cell? w _ hw219_1)).trans hw219_1), ((HB.out.cell (World.block_lt_of_cell? w _ hw219_2)).trans hw219_2), ((HB.out.cell (World.block_lt_of_cell? w _ hw219_3)).trans hw219_3), ((HB.out.cell (World.block_lt_of_cell? w _ hw220_0)).trans hw220_0)⟩ (fun hHeld => ?_)
                 clear hK K
                 refine norm_ (a' := ?_) ?_ ?_
                 rotate_left
                 ·show Act.put _ (some 82) _ = _
                  simp only [Act.put, List.setIfInBounds_toArray, List.set_cons_zero, List.set_cons_succ, i64_w, i32_w]
                  rfl
                 refine zp 9 (some 83) HT_ ?_
                 refine zp 10 (some 84) HT_ ?_
                 refine zp 11 (some 85) HT_ ?_
                 refine zp 12 (some 86) HT_ ?_
                 refine zp 13 (some 87) HT_ ?_
                 refine zp 14 (some 88) HT_ ?_
                 refine zp 16 (some 90) HT_ ?_
                 refine zp 18 (some 92) HT_ ?_
                 refine zp 19 (some 93) HT_ ?_
                 refine zp 20 (some 94) HT_ ?_
                 refine zp 21 (some 95) HT_ ?_
                 refine zp 23 (some 97) HT_ ?_
                 refine zt14 15 (some 89) HT_ HW_ hHeld ?_
                 refine zp 17 (some 91) HT_ ?_
                 refine zt14 22 (some 96) HT_ HW_ hHeld ?_
                 refine zp 24 (some 98) HT_ ?_
                 refine zt14 25 (some 99) HT_ HW_ hHeld ?_
                 refine one_ (i := 26) (N := some 100) #[true, true, true, true, true, true, true, true, true, true, true, true, true, true, true, true, true, true, true, true, true, true, true, true, true, true, true, false] rfl rfl (one_of HT_.out (by kernel_rfl)) (by decide) (fun K hK => ?_)
                 refine goes_ Try.func19 (by kernel_rfl) rfl #[.slice (some ad215) (((rd_T45 l0 x3_1).f1).take (x7_3 : Int).toNat).length c214_1, .string (rdOf ByteArray.empty ((rd_T45 l0 x3_1).f1) x7_3)] (by rfl) rfl rfl (by (try simp only [List.map_toArray, List.map_cons, List.map_nil]); first | done | (rw [show (((rd_T45 l0 x3_1).f1).take (x7_3 : Int).toNat).length = x7_3.toNat from (by rw [List.length_take]; have h_ : (x7_3 : Int) ≤ (((rd_T45 l0 x3_1).f1).length : Int) := of_decide_eq_true y4; omega)] <;> rfl) | rfl | (simp only [List.length_drop, List.length_take]; rfl)) ?_
                 with_reducible refine (spec_l12Has.calls k3 _ _ (((rd_T45 l0 x3_1).f1).take (x7_3 : Int).toNat) (rdOf ByteArray.empty ((rd_T45 l0 x3_1).f1) x7_3) t221 _ ?side1 ?side2 A26.out).mono ?_
                 (case side1 => exact y23 HR218.out HB.out)
                 (case side2 => exact HC218.out)
                 rintro e w' ⟨rfl, ⟨nd, rfl⟩⟩
                 refine ⟨_, rfl, ?_⟩
                 refine hK.out _ _ ⟨((HB.out.cell (World.block_lt_of_cell? w _ hw214_0)).trans hw214_0), ((HB.out.cell (World.block_lt_of_cell? w _ hw214_1)).trans hw214_1), ((HB.out.cell (World.block_lt_of_cell? w _ hw214_2)).trans hw214_2), ((HB.out.cell (World.block_lt_of_cell? w _ hw214_3)).trans hw214_3), ((HB.out.cell (World.block_lt_of_cell? w _ hw215_0)).trans hw215_0), ((HB.out.cell (World.block_lt_of_cell? w _ hw217_0)).trans hw217_0), ((HB.out.cell (World.block_lt_of_cell? w _ hw217_1)).trans hw217_1), ((HB.out.cell (World.block_lt_of_cell? w _ hw217_2)).trans hw217_2), ((HB.out.cell (World.block_lt_of_cell? w _ hw217_3)).trans hw217_3), ((HB.out.cell (World.block_lt_of_cell? w _ hw219_0)).trans hw219_0), ((HB.out.cell (World.block_lt_of_cell? w _ hw219_1)).trans hw219_1), ((HB.out.cell (World.block_lt_of_cell? w _ hw219_2)).trans hw219_2), ((HB.out.cell (World.block_lt_of_cell? w _ hw219_3)).trans hw219_3), ((HB.out.cell (World.block_lt_of_cell? w _ hw220_0)).trans hw220_0)⟩ (fun hHeld => ?_)
                 clear hK K
                 refine norm_ (a' := ?_) ?_ ?_
                 rotate_left
                 ·show Act.put _ (some 100) _ = _
                  simp only [Act.put, List.setIfInBounds_toArray, List.set_cons_zero, List.set_cons_succ, i64_w, i32_w]
                  rfl
                 refine zp 27 (some 101) HT_ ?_
                 refine done_ (done_of HT_.out (by kernel_rfl)) ?_
                 have H := HZ27.out
                 clear HZ27
                 by_cases c30 : t221 = true
                 ·subst c30
                  rw [if_pos rfl] at H
                  obtain rfl := Option.some.inj H
                  go_wp2
                  go_ret
                  exact ⟨y6, (y1 HB.out)⟩
                 ·replace c30 := Bool.eq_false_iff.mpr c30
                  subst c30
                  rw [if_neg (show ¬ (false = true) by decide)] at H
                  have H' := Aside0.mk H
                  clear H
                  go_wp2
                  go_roundg k3
                  case measure => have := HK1.out; have := HJ5.out; have := HK3.out; omega
                  case rel => exact ⟨(wrap64 (x7_3 + 1)), y7, H', ⟨(y35 HK1.out HJ5.out HK3.out)⟩, ⟨(y1 HB.out)⟩⟩
                ·rw [if_neg c25] at H
                 exact absurd H (by simp)
               ·replace c23 := Bool.eq_false_iff.mpr c23
                subst c23
                rw [if_neg (show ¬ (false = true) by decide)] at H
                obtain rfl := Option.some.inj H
                have p213 : 0 ≤ (x3_1 : Int) := of_decide_eq_true y4
                have q213 : x3_1 < (l0.length : Int) := of_decide_eq_true y4
                obtain ⟨ad213, A213_1, c213_1, A213_2, c213_2, A213_3, c213_3, e213, hx213_0, hx213_1, hx213_2, hx213_3, hl213_1, hi213_1, hl213_2, hi213_2, hl213_3, hi213_3⟩ := at_T45 HR0.out x3_1 p213 q213
                obtain rfl : ad203 = ad213 := (by injection e213)
                replace hx213_0 := (HB.out.cell (World.block_lt_of_cell? w _ hx213_0)).trans hx213_0
                replace hx213_1 := (HB.out.cell (World.block_lt_of_cell? w _ hx213_1)).trans hx213_1
                replace hx213_2 := (HB.out.cell (World.block_lt_of_cell? w _ hx213_2)).trans hx213_2
                replace hx213_3 := (HB.out.cell (World.block_lt_of_cell? w _ hx213_3)).trans hx213_3
                have HR213_1 := Aside0.mk hi213_1
                have HC213_1 := Aside0.mk hl213_1
                clear hi213_1 hl213_1
                have HR213_2 := Aside0.mk hi213_2
                have HC213_2 := Aside0.mk hl213_2
                clear hi213_2 hl213_2
                have HR213_3 := Aside0.mk hi213_3
                have HC213_3 := Aside0.mk hl213_3
                clear hi213_3 hl213_3
                replace p213 := eq_true p213
                replace q213 := eq_true q213
                try go_wp2
                replace HB := Aside0.mk (below_drew1 HB.out)
                have p214 : 0 ≤ (x3_1 : Int) := of_decide_eq_true y4
                have q214 : x3_1 < (l0.length : Int) := of_decide_eq_true y4
                obtain ⟨ad214, A214_1, c214_1, A214_2, c214_2, A214_3, c214_3, e214, hx214_0, hx214_1, hx214_2, hx214_3, hl214_1, hi214_1, hl214_2, hi214_2, hl214_3, hi214_3⟩ := at_T45 HR0.out x3_1 p214 q214
                have hw214_3 := hx214_3
                have hw214_2 := hx214_2
                have hw214_1 := hx214_1
                have hw214_0 := hx214_0
                obtain rfl : ad203 = ad214 := (by injection e214)
                replace hx214_0 := (HB.out.cell (World.block_lt_of_cell? w _ hx214_0)).trans hx214_0
                replace hx214_1 := (HB.out.cell (World.block_lt_of_cell? w _ hx214_1)).trans hx214_1
                replace hx214_2 := (HB.out.cell (World.block_lt_of_cell? w _ hx214_2)).trans hx214_2
                replace hx214_3 := (HB.out.cell (World.block_lt_of_cell? w _ hx214_3)).trans hx214_3
                have HR214_1 := Aside0.mk hi214_1
                have HC214_1 := Aside0.mk hl214_1
                clear hi214_1 hl214_1
                have HR214_2 := Aside0.mk hi214_2
                have HC214_2 := Aside0.mk hl214_2
                clear hi214_2 hl214_2
                have HR214_3 := Aside0.mk hi214_3
                have HC214_3 := Aside0.mk hl214_3
                clear hi214_3 hl214_3
                replace p214 := eq_true p214
                replace q214 := eq_true q214
                have p215 : 0 ≤ (x7_3 : Int) := of_decide_eq_true y4
                have q215 : x7_3 < (((rd_T45 l0 x3_1).f1).length : Int) := of_decide_eq_true y4
                obtain ⟨ad215, e215, hx215_0⟩ := Kd.at_string HR214_1.out x7_3 p215 q215
                have hw215_0 := hx215_0
                cases e215
                replace hx215_0 := (HB.out.cell (World.block_lt_of_cell? w _ hx215_0)).trans hx215_0
                replace p215 := eq_true p215
                replace q215 := eq_true q215
                refine start_ (n := 28) (S := fun w' => w'.cell? (ad203.add ((x3_1).toNat * 4)) = some (.string ((rd_T45 l0 x3_1).f0)) ∧ w'.cell? ⟨(ad203.add ((x3_1).toNat * 4)).block, (ad203.add ((x3_1).toNat * 4)).off + 1, none⟩ = some (.slice (some ad215) ((rd_T45 l0 x3_1).f1).length c214_1) ∧ w'.cell? ⟨(ad203.add ((x3_1).toNat * 4)).block, (ad203.add ((x3_1).toNat * 4)).off + 2, none⟩ = some (.slice A214_2 ((rd_T45 l0 x3_1).f2.f0).length c214_2) ∧ w'.cell? ⟨(ad203.add ((x3_1).toNat * 4)).block, (ad203.add ((x3_1).toNat * 4)).off + 3, none⟩ = some (.slice A214_3 ((rd_T45 l0 x3_1).f2.f1).length c214_3) ∧ w'.cell? (ad215.add (x7_3).toNat) = some (.string (rdOf ByteArray.empty ((rd_T45 l0 x3_1).f1) x7_3))) (ds := []) #[false, false, false, false, false, false, false, false, false, false, false, false, false, false, false, false, false, false, false, false, false, false, false, false, false, false, false, false] (by kernel_rfl) rfl rfl ⟨((HB.out.cell (World.block_lt_of_cell? w _ hw214_0)).trans hw214_0), ((HB.out.cell (World.block_lt_of_cell? w _ hw214_1)).trans hw214_1), ((HB.out.cell (World.block_lt_of_cell? w _ hw214_2)).trans hw214_2), ((HB.out.cell (World.block_lt_of_cell? w _ hw214_3)).trans hw214_3), ((HB.out.cell (World.block_lt_of_cell? w _ hw215_0)).trans hw215_0)⟩ (fun hHeld => ?_); refine with_tabW spec_PureOk.tab12 spec_PureOk.bits12 (fun HT_ HW_ => ?_)
                generalize wr.drew = w31 at HB HR214_1 HR214_2 HR214_3 hx214_0 hx214_1 hx214_2 hx214_3 hx215_0 hHeld ⊢
                refine zp 0 (some 74) HT_ ?_
                refine zp 1 (some 75) HT_ ?_
                refine zp 2 (some 76) HT_ ?_
                refine zp 3 (some 77) HT_ ?_
                refine zp 5 (some 79) HT_ ?_
                refine zt5 4 (some 78) HT_ HW_ hHeld ?_
                refine zp 6 (some 80) HT_ ?_
                refine zt5 7 (some 81) HT_ HW_ hHeld ?_
                refine one_ (i := 8) (N := some 82) #[true, true, true, true, true, true, true, true, true, false, false, false, false, false, false, false, false, false, false, false, false, false, false, false, false, false, false, false] rfl rfl (one_of HT_.out (by kernel_rfl)) (by decide) (fun K hK => ?_)
                refine goes_ Try.func17 (by kernel_rfl) rfl #[.string (rdOf ByteArray.empty ((rd_T45 l0 x3_1).f1) x7_3)] (by rfl) rfl rfl y3 ?_
                with_reducible refine (spec_l12Word.calls k3 (rdOf ByteArray.empty ((rd_T45 l0 x3_1).f1) x7_3) false _ A22.out).mono ?_
                rintro e w' ⟨rfl, ⟨nd, rfl⟩⟩
                refine ⟨_, rfl, ?_⟩
                refine hK.out _ _ ⟨((HB.out.cell (World.block_lt_of_cell? w _ hw214_0)).trans hw214_0), ((HB.out.cell (World.block_lt_of_cell? w _ hw214_1)).trans hw214_1), ((HB.out.cell (World.block_lt_of_cell? w _ hw214_2)).trans hw214_2), ((HB.out.cell (World.block_lt_of_cell? w _ hw214_3)).trans hw214_3), ((HB.out.cell (World.block_lt_of_cell? w _ hw215_0)).trans hw215_0)⟩ (fun hHeld => ?_)
                clear hK K
                refine norm_ (a' := ?_) ?_ ?_
                rotate_left
                ·show Act.put _ (some 82) _ = _
                 simp only [Act.put, List.setIfInBounds_toArray, List.set_cons_zero, List.set_cons_succ, i64_w, i32_w]
                 rfl
                refine zp 9 (some 83) HT_ ?_
                refine zp 10 (some 84) HT_ ?_
                refine pure_ (i := 11) (N := some 85) (v := undef) (a' := ?_) #[true, true, true, true, true, true, true, true, true, true, true, true, false, false, false, false, false, false, false, false, false, false, false, false, false, false, false, false] rfl rfl (any_of HT_.out (by kernel_rfl)) (fun _ _ _ h => h) (Or.inr ⟨(by rfl), rfl⟩) ?_ ?_
                rotate_left
                ·simp only [Act.put, List.setIfInBounds_toArray, List.set_cons_zero, List.set_cons_succ, i64_w, i32_w]
                 rfl
                refine pure_ (i := 12) (N := some 86) (v := undef) (a' := ?_) #[true, true, true, true, true, true, true, true, true, true, true, true, true, false, false, false, false, false, false, false, false, false, false, false, false, false, false, false] rfl rfl (any_of HT_.out (by kernel_rfl)) (fun _ _ _ h => h) (Or.inr ⟨(by rfl), rfl⟩) ?_ ?_
                rotate_left
                ·simp only [Act.put, List.setIfInBounds_toArray, List.set_cons_zero, List.set_cons_succ, i64_w, i32_w]
                 rfl
                refine pure_ (i := 13) (N := some 87) (v := undef) (a' := ?_) #[true, true, true, true, true, true, true, true, true, true, true, true, true, true, false, false, false, false, false, false, false, false, false, false, false, false, false, false] rfl rfl (any_of HT_.out (by kernel_rfl)) (fun _ _ _ h => h) (Or.inr ⟨(by rfl), rfl⟩) ?_ ?_
                rotate_left
                ·simp only [Act.put, List.setIfInBounds_toArray, List.set_cons_zero, List.set_cons_succ, i64_w, i32_w]
                 rfl
                refine pure_ (i := 14) (N := some 88) (v := undef) (a' := ?_) #[true, true, true, true, true, true, true, true, true, true, true, true, true, true, true, false, false, false, false, false, false, false, false, false, false, false, false, false] rfl rfl (any_of HT_.out (by kernel_rfl)) (fun _ _ _ h => h) (Or.inr ⟨(by rfl), rfl⟩) ?_ ?_
                rotate_left
                ·simp only [Act.put, List.setIfInBounds_toArray, List.set_cons_zero, List.set_cons_succ, i64_w, i32_w]
                 rfl
                refine pure_ (i := 15) (N := some 89) (v := undef) (a' := ?_) #[true, true, true, true, true, true, true, true, true, true, true, true, true, true, true, true, false, false, false, false, false, false, false, false, false, false, false, false] rfl rfl (any_of HT_.out (by kernel_rfl)) (fun _ _ _ h => h) (Or.inr ⟨(by rfl), rfl⟩) ?_ ?_
                rotate_left
                ·simp only [Act.put, List.setIfInBounds_toArray, List.set_cons_zero, List.set_cons_succ, i64_w, i32_w]
                 rfl
                refine pure_ (i := 16) (N := some 90) (v := undef) (a' := ?_) #[true, true, true, true, true, true, true, true, true, true, true, true, true, true, true, true, true, false, false, false, false, false, false, false, false, false, false, false] rfl rfl (any_of HT_.out (by kernel_rfl)) (fun _ _ _ h => h) (Or.inr ⟨(by rfl), rfl⟩) ?_ ?_
                rotate_left
                ·simp only [Act.put, List.setIfInBounds_toArray, List.set_cons_zero, List.set_cons_succ, i64_w, i32_w]
                 rfl
                refine pure_ (i := 17) (N := some 91) (v := undef) (a' := ?_) #[true, true, true, true, true, true, true, true, true, true, true, true, true, true, true, true, true, true, false, false, false, false, false, false, false, false, false, false] rfl rfl (any_of HT_.out (by kernel_rfl)) (fun _ _ _ h => h) (Or.inr ⟨(by rfl), rfl⟩) ?_ ?_
                rotate_left
                ·simp only [Act.put, List.setIfInBounds_toArray, List.set_cons_zero, List.set_cons_succ, i64_w, i32_w]
                 rfl
                refine pure_ (i := 18) (N := some 92) (v := undef) (a' := ?_) #[true, true, true, true, true, true, true, true, true, true, true, true, true, true, true, true, true, true, true, false, false, false, false, false, false, false, false, false] rfl rfl (any_of HT_.out (by kernel_rfl)) (fun _ _ _ h => h) (Or.inr ⟨(by rfl), rfl⟩) ?_ ?_
                rotate_left
                ·simp only [Act.put, List.setIfInBounds_toArray, List.set_cons_zero, List.set_cons_succ, i64_w, i32_w]
                 rfl
                refine pure_ (i := 19) (N := some 93) (v := undef) (a' := ?_) #[true, true, true, true, true, true, true, true, true, true, true, true, true, true, true, true, true, true, true, true, false, false, false, false, false, false, false, false] rfl rfl (any_of HT_.out (by kernel_rfl)) (fun _ _ _ h => h) (Or.inr ⟨(by rfl), rfl⟩) ?_ ?_
                rotate_left
                ·simp only [Act.put, List.setIfInBounds_toArray, List.set_cons_zero, List.set_cons_succ, i64_w, i32_w]
                 rfl
                refine pure_ (i := 20) (N := some 94) (v := undef) (a' := ?_) #[true, true, true, true, true, true, true, true, true, true, true, true, true, true, true, true, true, true, true, true, true, false, false, false, false, false, false, false] rfl rfl (any_of HT_.out (by kernel_rfl)) (fun _ _ _ h => h) (Or.inr ⟨(by rfl), rfl⟩) ?_ ?_
                rotate_left
                ·simp only [Act.put, List.setIfInBounds_toArray, List.set_cons_zero, List.set_cons_succ, i64_w, i32_w]
                 rfl
                refine pure_ (i := 21) (N := some 95) (v := undef) (a' := ?_) #[true, true, true, true, true, true, true, true, true, true, true, true, true, true, true, true, true, true, true, true, true, true, false, false, false, false, false, false] rfl rfl (any_of HT_.out (by kernel_rfl)) (fun _ _ _ h => h) (Or.inr ⟨(by rfl), rfl⟩) ?_ ?_
                rotate_left
                ·simp only [Act.put, List.setIfInBounds_toArray, List.set_cons_zero, List.set_cons_succ, i64_w, i32_w]
                 rfl
                refine pure_ (i := 22) (N := some 96) (v := undef) (a' := ?_) #[true, true, true, true, true, true, true, true, true, true, true, true, true, true, true, true, true, true, true, true, true, true, true, false, false, false, false, false] rfl rfl (any_of HT_.out (by kernel_rfl)) (fun _ _ _ h => h) (Or.inr ⟨(by rfl), rfl⟩) ?_ ?_
                rotate_left
                ·simp only [Act.put, List.setIfInBounds_toArray, List.set_cons_zero, List.set_cons_succ, i64_w, i32_w]
                 rfl
                refine pure_ (i := 23) (N := some 97) (v := undef) (a' := ?_) #[true, true, true, true, true, true, true, true, true, true, true, true, true, true, true, true, true, true, true, true, true, true, true, true, false, false, false, false] rfl rfl (any_of HT_.out (by kernel_rfl)) (fun _ _ _ h => h) (Or.inr ⟨(by rfl), rfl⟩) ?_ ?_
                rotate_left
                ·simp only [Act.put, List.setIfInBounds_toArray, List.set_cons_zero, List.set_cons_succ, i64_w, i32_w]
                 rfl
                refine pure_ (i := 24) (N := some 98) (v := undef) (a' := ?_) #[true, true, true, true, true, true, true, true, true, true, true, true, true, true, true, true, true, true, true, true, true, true, true, true, true, false, false, false] rfl rfl (any_of HT_.out (by kernel_rfl)) (fun _ _ _ h => h) (Or.inr ⟨(by rfl), rfl⟩) ?_ ?_
                rotate_left
                ·simp only [Act.put, List.setIfInBounds_toArray, List.set_cons_zero, List.set_cons_succ, i64_w, i32_w]
                 rfl
                refine pure_ (i := 25) (N := some 99) (v := undef) (a' := ?_) #[true, true, true, true, true, true, true, true, true, true, true, true, true, true, true, true, true, true, true, true, true, true, true, true, true, true, false, false] rfl rfl (any_of HT_.out (by kernel_rfl)) (fun _ _ _ h => h) (Or.inr ⟨(by rfl), rfl⟩) ?_ ?_
                rotate_left
                ·simp only [Act.put, List.setIfInBounds_toArray, List.set_cons_zero, List.set_cons_succ, i64_w, i32_w]
                 rfl
                refine pure_ (i := 26) (N := some 100) (v := undef) (a' := ?_) #[true, true, true, true, true, true, true, true, true, true, true, true, true, true, true, true, true, true, true, true, true, true, true, true, true, true, true, false] rfl rfl (any_of HT_.out (by kernel_rfl)) (fun _ _ _ h => h) (Or.inr ⟨(by rfl), rfl⟩) ?_ ?_
                rotate_left
                ·simp only [Act.put, List.setIfInBounds_toArray, List.set_cons_zero, List.set_cons_succ, i64_w, i32_w]
                 rfl
                refine zp 27 (some 101) HT_ ?_
                refine done_ (done_of HT_.out (by kernel_rfl)) ?_
                try go_wp2
                go_ret
                exact ⟨y6, (y1 HB.out)⟩
              ·rw [if_neg c21] at H
               exact absurd H (by simp)
             ·rw [if_neg c20] at H
              have c20b0 : decide (x7_3 < (((rd_T45 l0 x3_1).f1).length : Int)) = false := decide_eq_false c20
              clear c20
              have H' := Aside0.mk H
              clear H
              have p213 : 0 ≤ (x3_1 : Int) := of_decide_eq_true y4
              have q213 : x3_1 < (l0.length : Int) := of_decide_eq_true y4
              obtain ⟨ad213, A213_1, c213_1, A213_2, c213_2, A213_3, c213_3, e213, hx213_0, hx213_1, hx213_2, hx213_3, hl213_1, hi213_1, hl213_2, hi213_2, hl213_3, hi213_3⟩ := at_T45 HR0.out x3_1 p213 q213
              obtain rfl : ad203 = ad213 := (by injection e213)
              replace hx213_0 := (HB.out.cell (World.block_lt_of_cell? w _ hx213_0)).trans hx213_0
              replace hx213_1 := (HB.out.cell (World.block_lt_of_cell? w _ hx213_1)).trans hx213_1
              replace hx213_2 := (HB.out.cell (World.block_lt_of_cell? w _ hx213_2)).trans hx213_2
              replace hx213_3 := (HB.out.cell (World.block_lt_of_cell? w _ hx213_3)).trans hx213_3
              have HR213_1 := Aside0.mk hi213_1
              have HC213_1 := Aside0.mk hl213_1
              clear hi213_1 hl213_1
              have HR213_2 := Aside0.mk hi213_2
              have HC213_2 := Aside0.mk hl213_2
              clear hi213_2 hl213_2
              have HR213_3 := Aside0.mk hi213_3
              have HC213_3 := Aside0.mk hl213_3
              clear hi213_3 hl213_3
              replace p213 := eq_true p213
              replace q213 := eq_true q213
              go_wp2
              go_roundg k3
              case measure => have := HK1.out; have := HJ5.out; have := HK3.out; omega
              case rel => exact ⟨(wrap64 (x3_1 + 1)), y7, H', ⟨(y35 HK1.out HJ5.out HK3.out)⟩, ⟨(y1 HB.out)⟩⟩
            ·rw [if_neg c19] at H
             exact absurd H (by simp)
           ·rw [if_neg c18] at H
            exact absurd H (by simp)
     ·rw [if_neg c4] at H
      exact absurd H (by simp)
    ·rw [if_neg c3] at H
     have c3b0 : decide (x3_1 < (l0.length : Int)) = false := decide_eq_false c3
     clear c3
     obtain rfl := Option.some.inj H
     go_wp2
     go_ret
     exact ⟨y6, (y1 HB.out)⟩
end Go.Proofs.Ytdgpegkgelciaaa.PA
end
section
namespace Go.Proofs.Ytdgpegkgelciaaa.PA
open Go.RowKit Go.Proofs.YtdgpegkgelciaaaW.PrintWords Go.Proofs.YtdgpegkgelciaaaW.PrintLast Go.Proofs.YtdgpegkgelciaaaW.PrintMore
attribute [local go_sem] max2_int min2_int max_two min_two max_three min_three max_four min_four
set_option linter.unusedVariables false
set_option linter.unusedSimpArgs false
mutual
def spec_l23Count.l0 : Nat → Int → Int → Int → Int → ByteArray → List Int → List (S78) → Option (Int)
 | 0, _, _, _, _, _, _, _ => none
 | k + 1, x3, x4, x544000, x544001, x544002, x544003, x544004 => if x4 < (x544004.length : Int) then (if 0 ≤ x4 then ((spec_l23Count.f k ((rd_T78 x544004 x4).f0) ((rd_T78 x544004 x4).f1) ((rd_T78 x544004 x4).f2) ((rd_T78 x544004 x4).f3) ((rd_T78 x544004 x4).f4)).bind fun t545 => (spec_l23Count.l0 k (wrap64 (x3 + t545)) (wrap64 (x4 + 1)) x544000 x544001 x544002 x544003 x544004)) else (none)) else (some x3)
def spec_l23Count.f : Nat → Int → Int → ByteArray → List Int → List (S78) → Option (Int)
 | 0, _, _, _, _, _ => none
 | k + 1, a0_0, a0_1, a0_2, l0_3, l0_4 => spec_l23Count.l0 k 1 0 a0_0 a0_1 a0_2 l0_3 l0_4
end
theorem spec_l23Count.mono_l : ∀ k, (∀ y0 y1 y2 y3 y4, LeO (spec_l23Count.f k y0 y1 y2 y3 y4) (spec_l23Count.f (k + 1) y0 y1 y2 y3 y4)) ∧ (∀ y0 y1 y2 y3 y4 y5 y6, LeO (spec_l23Count.l0 k y0 y1 y2 y3 y4 y5 y6) (spec_l23Count.l0 (k + 1) y0 y1 y2 y3 y4 y5 y6))
 | 0 => ⟨fun _ _ _ _ _ r h => by simp [spec_l23Count.f] at h, fun _ _ _ _ _ _ _ r h => by simp [spec_l23Count.l0] at h⟩
 | k + 1 => by
  obtain ⟨ih0, ih1⟩ := spec_l23Count.mono_l k
  refine ⟨?_, ?_⟩
  ·intro y0 y1 y2 y3 y4
   unfold spec_l23Count.f
   repeat' first
   | (with_reducible exact ih0 _ _ _ _ _)
   | (with_reducible exact ih1 _ _ _ _ _ _ _)
   | (with_reducible exact LeO.refl _)
   | (with_reducible exact LeO.none _)
   | (with_reducible refine LeO.ite ?_ ?_)
   | (with_reducible refine LeO.bind ?_ (fun _ => ?_))
   | exact ih0 _ _ _ _ _
   | exact ih1 _ _ _ _ _ _ _
   | exact LeO.none _
   | refine LeO.ite ?_ ?_
   | refine LeO.bind ?_ (fun _ => ?_)
  ·intro y0 y1 y2 y3 y4 y5 y6
   unfold spec_l23Count.l0
   repeat' first
   | (with_reducible exact ih0 _ _ _ _ _)
   | (with_reducible exact ih1 _ _ _ _ _ _ _)
   | (with_reducible exact LeO.refl _)
   | (with_reducible exact LeO.none _)
   | (with_reducible refine LeO.ite ?_ ?_)
   | (with_reducible refine LeO.bind ?_ (fun _ => ?_))
   | exact ih0 _ _ _ _ _
   | exact ih1 _ _ _ _ _ _ _
   | exact LeO.none _
   | refine LeO.ite ?_ ?_
   | refine LeO.bind ?_ (fun _ => ?_)
theorem spec_l23Count.mono : ∀ a0 a1 a2 a3 a4 k, LeO (spec_l23Count.f k a0 a1 a2 a3 a4) (spec_l23Count.f (k + 1) a0 a1 a2 a3 a4) := by
 intro a0 a1 a2 a3 a4 k
 obtain ⟨ih0, ih1⟩ := spec_l23Count.mono_l k
 exact ih0 a0 a1 a2 a3 a4
set_option maxHeartbeats 8000000 in
set_option maxRecDepth 100000 in
theorem spec_l23Count.calls (k : Nat) : ∀ (a0_0 : Int) (a0_1 : Int) (a0_2 : ByteArray) (A0_3 : Option Addr) (c0_3 : Nat) (l0_3 : List Int) (A0_4 : Option Addr) (c0_4 : Nat) (l0_4 : List (S78)) (r : Int) (w : World) (hr0_3 : Kd.C (Kd.int .i64) w A0_3 l0_3.length l0_3) (hc0_3 : l0_3.length ≤ c0_3) (hr0_4 : Kd.C k78 w A0_4 l0_4.length l0_4) (hc0_4 : l0_4.length ≤ c0_4) (h : spec_l23Count.f k a0_0 a0_1 a0_2 l0_3 l0_4 = some r),
  Calls Try.prog 45 #[.agg #[.int .i64 a0_0, .int .i64 a0_1, .string a0_2, .slice A0_3 l0_3.length c0_3, .slice A0_4 l0_4.length c0_4]] w fun e w' => e = .returned (.int .i64 r) ∧ Below w.heap.size w w' := by
 induction k using Nat.strongRecOn with
 | _ k ih =>
 intro a0_0 a0_1 a0_2 A0_3 c0_3 l0_3 A0_4 c0_4 l0_4 r w hr0_3 hc0_3 hr0_4 hc0_4 h
 cases k with
 | zero => exact absurd h (by simp [spec_l23Count.f])
 | succ k =>
 simp only [spec_l23Count.f] at h
 have hu78 := Try.underlying78
 have HR0_3 := Aside0.mk hr0_3
 have HC0_3 := Aside0.mk hc0_3
 clear hr0_3 hc0_3
 have HR0_4 := Aside0.mk hr0_4
 have HC0_4 := Aside0.mk hc0_4
 clear hr0_4 hc0_4
 have HB := Aside0.mk (Below.refl w.heap.size w)
 have H : (spec_l23Count.l0 k 1 0 a0_0 a0_1 a0_2 l0_3 l0_4) = some r := h
 clear h
 have H' := Aside0.mk H
 clear H
 go_enter Try.func45, Try.ntmps45
 go_wp2_with (first | ((with_reducible refine gate_dst (N := 1) rfl ?_); refine zbx 1 #[.int .i64 a0_0, .int .i64 a0_1, .string a0_2, .slice A0_3 l0_3.length c0_3, .slice A0_4 l0_4.length c0_4] 78 ?_; intro gb543 hg w2 hbox hb; have BK543 := Aside0.mk hbox; have GW543 := Aside0.mk ((y9 hg HB.out : w.heap.size ≤ gb543)); have GE543 := Aside0.mk ((y9 hg HB.out : w.heap.size ≤ gb543)); replace HB := Aside0.mk (below_step (y1 HB.out) hb); clear hb hbox hg))
 go_loopg [3, 4] k (fun kq v3 v4 w' => ∃ (x3_1 : Int) (x4_1 : Int), v3 = .int .i64 x3_1 ∧ v4 = .int .i64 x4_1 ∧ Aside0 (spec_l23Count.l0 kq x3_1 x4_1 a0_0 a0_1 a0_2 l0_3 l0_4 = some r) ∧ Aside0 (kq ≤ k) ∧ Aside0 (w'.heap[gb543]? = some (.cells #[.int .i64 a0_0, .int .i64 a0_1, .string a0_2, (.slice A0_3 l0_3.length c0_3), (.slice A0_4 l0_4.length c0_4)] 78 (0, 0))) ∧ Aside0 (Below w.heap.size w w'))
 case atStart => exact ⟨(1), (0), y7, y7, H', ⟨Nat.le_refl _⟩, ⟨(y8 BK543.out)⟩, ⟨(y2 HB.out GE543.out)⟩⟩
 case round =>
  clear H'
  try clear p2
  (try clear BK543)
  obtain ⟨x3_1, x4_1, rfl, rfl, HA, HK1, BK543, HB⟩ := hrel
  cases gk with
  | zero => exact absurd HA.out (by simp [spec_l23Count.l0])
  | succ k1 =>
   have H := HA.out
   clear HA
   simp only [spec_l23Count.l0] at H
   by_cases c3 : x4_1 < (l0_4.length : Int)
   ·rw [if_pos c3] at H
    have c3b0 : decide (x4_1 < (l0_4.length : Int)) = true := decide_eq_true c3
    clear c3
    by_cases c4 : 0 ≤ x4_1
    ·rw [if_pos c4] at H
     have c4b0 : decide (0 ≤ x4_1) = true := decide_eq_true c4
     clear c4
     obtain ⟨t545, A50, H⟩ := ob H
     have A5 := Aside0.mk A50
     clear A50
     have H' := Aside0.mk H
     clear H
     have hcz6_0 := zh BK543
     have hcz6_1 := zh1 BK543
     have hcz6_2 := zh2 BK543
     have hcz6_3 : wr.cell? ⟨gb543, 3, none⟩ = some (.slice A0_3 l0_3.length c0_3) := (blk_cell BK543.out 3).trans rfl
     have hcz6_4 : wr.cell? ⟨gb543, 4, none⟩ = some (.slice A0_4 l0_4.length c0_4) := (blk_cell BK543.out 4).trans rfl
     have hfz6_0 := zfr BK543 0
     have hfz6_1 := zfr BK543 1
     have hfz6_2 := zfr BK543 2
     have hfz6_3 := zfr BK543 3
     have hfz6_4 := zfr BK543 4
     have p544 : 0 ≤ (x4_1 : Int) := of_decide_eq_true y4
     have q544 : x4_1 < (l0_4.length : Int) := of_decide_eq_true y4
     obtain ⟨ad544, A544_3, c544_3, A544_4, c544_4, e544, hx544_0, hx544_1, hx544_2, hx544_3, hx544_4, hl544_3, hi544_3, hl544_4, hi544_4⟩ := at_T78 HR0_4.out x4_1 p544 q544
     cases e544
     replace hx544_0 := (HB.out.cell (World.block_lt_of_cell? w _ hx544_0)).trans hx544_0
     replace hx544_1 := (HB.out.cell (World.block_lt_of_cell? w _ hx544_1)).trans hx544_1
     replace hx544_2 := (HB.out.cell (World.block_lt_of_cell? w _ hx544_2)).trans hx544_2
     replace hx544_3 := (HB.out.cell (World.block_lt_of_cell? w _ hx544_3)).trans hx544_3
     replace hx544_4 := (HB.out.cell (World.block_lt_of_cell? w _ hx544_4)).trans hx544_4
     have HR544_3 := Aside0.mk hi544_3
     have HC544_3 := Aside0.mk hl544_3
     clear hi544_3 hl544_3
     have HR544_4 := Aside0.mk hi544_4
     have HC544_4 := Aside0.mk hl544_4
     clear hi544_4 hl544_4
     replace p544 := eq_true p544
     replace q544 := eq_true q544
     go_wp2_with (first | ((with_reducible refine gate_callee (f := 45) rfl ?_); refine goesL_ (some 18) rfl rfl Try.func45 (by kernel_rfl) rfl #[.agg #[.int .i64 ((rd_T78 l0_4 x4_1).f0), .int .i64 ((rd_T78 l0_4 x4_1).f1), .string ((rd_T78 l0_4 x4_1).f2), .slice A544_3 ((rd_T78 l0_4 x4_1).f3).length c544_3, .slice A544_4 ((rd_T78 l0_4 x4_1).f4).length c544_4]] rfl y3 ?_; (with_reducible refine (ih k1 (y30 HK1.out) ((rd_T78 l0_4 x4_1).f0) ((rd_T78 l0_4 x4_1).f1) ((rd_T78 l0_4 x4_1).f2) _ _ ((rd_T78 l0_4 x4_1).f3) _ _ ((rd_T78 l0_4 x4_1).f4) t545 _ ?side1 ?side2 ?side3 ?side4 A5.out).mono ?_); (case side1 => exact y0 HR544_3.out HB.out); (case side2 => exact HC544_3.out); (case side3 => exact y0 HR544_4.out HB.out); (case side4 => exact HC544_4.out); rintro e w7 ⟨rfl, hb⟩; refine ⟨_, rfl, ?_⟩; replace BK543 := zbb BK543 hb; replace HB := Aside0.mk (below_step (y2 HB.out GE543.out) hb); (try clear hb); (try clear hb2); (try clear hk); (try clear hi)))
     go_roundg k1
     case measure => have := HK1.out; omega
     case rel => exact ⟨(wrap64 (x3_1 + t545)), (wrap64 (x4_1 + 1)), y7, y7, H', ⟨(y30 HK1.out)⟩, ⟨(y8 BK543.out)⟩, ⟨(y2 HB.out GE543.out)⟩⟩
    ·rw [if_neg c4] at H
     exact absurd H (by simp)
   ·rw [if_neg c3] at H
    have c3b0 : decide (x4_1 < (l0_4.length : Int)) = false := decide_eq_false c3
    clear c3
    obtain rfl := Option.some.inj H
    have hcz8_0 := zh BK543
    have hcz8_1 := zh1 BK543
    have hcz8_2 := zh2 BK543
    have hcz8_3 : wr.cell? ⟨gb543, 3, none⟩ = some (.slice A0_3 l0_3.length c0_3) := (blk_cell BK543.out 3).trans rfl
    have hcz8_4 : wr.cell? ⟨gb543, 4, none⟩ = some (.slice A0_4 l0_4.length c0_4) := (blk_cell BK543.out 4).trans rfl
    have hfz8_0 := zfr BK543 0
    have hfz8_1 := zfr BK543 1
    have hfz8_2 := zfr BK543 2
    have hfz8_3 := zfr BK543 3
    have hfz8_4 := zfr BK543 4
    go_wp2
    go_ret
    exact ⟨y6, (y2 HB.out GE543.out)⟩
end Go.Proofs.Ytdgpegkgelciaaa.PA
end
