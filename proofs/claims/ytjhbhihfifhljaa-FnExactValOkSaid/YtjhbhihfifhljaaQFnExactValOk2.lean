-- Ytjhbhihfifhljaa's texts for the statement FnExactValOk, one behind the other (merge.py).
import Derived.Test.YtjhbhihfifhljaaQFnExactValOk0
import Derived.Test.YtjhbhihfifhljaaQFnExactValOk1
import Derived.OpenShut
import Derived.Laws.BitsLemmas
import Derived.Deep.Slices
import Derived.WalkKit
import Derived.ProofKit
import Derived.ShutString
import Derived.ChangeOld
import Derived.Below
import Derived.SizedLaws
section
namespace Go.Proofs.Ytjhbhihfifhljaa.PA
open Go.RowKit Go.Proofs.YtjhbhihfifhljaaW.PrintWords Go.Proofs.YtjhbhihfifhljaaW.PrintLast Go.Proofs.YtjhbhihfifhljaaW.PrintMore
attribute [local go_sem] max2_int min2_int max_two min_two max_three min_three max_four min_four
set_option linter.unusedVariables false
set_option linter.unusedSimpArgs false
def laws_FnExactValOk.f (k : Nat) (l0_0 : List (S25)) (a1_0 : Int) (l1_1 : List (S68)) : Option (Bool) := (laws_szType.f k l0_0 1048576).bind fun t959 => (if t959 < 0 then (some true) else ((laws_szVal.f k a1_0 l1_1 t959).bind fun t960 => (if t960 < 0 then (some true) else ((laws_toType.f k l0_0).bind fun t961 => ((laws_toVal.f k a1_0 l1_1).bind fun bt964 => ((spec_ValOk.f k t961 bt964.1 bt964.2).bind fun t968 => ((laws_toType.f k l0_0).bind fun t969 => ((laws_toVal.f k a1_0 l1_1).bind fun bt973 => ((impl_ValOk.f k t969 bt973.1 bt973.2).bind fun t978 => (if (t978 != t968) = true then (some false) else ((laws_toType.f k l0_0).bind fun t979 => ((laws_eqType.f k t969 t979).bind fun t982 => (if t982 = true then ((laws_toVal.f k a1_0 l1_1).bind fun bt983 => ((laws_eqVal.f k bt973.1 bt973.2 bt983.1 bt983.2).bind fun t987 => (if t987 = true then (some true) else (some false)))) else (some false))))))))))))))
theorem laws_FnExactValOk.mono : ∀ a0 a1 a2 k, LeO (laws_FnExactValOk.f k a0 a1 a2) (laws_FnExactValOk.f (k + 1) a0 a1 a2) := by
 intro a0 a1 a2 k
 unfold laws_FnExactValOk.f
 repeat' first
   | (with_reducible exact impl_ValOk.mono _ _ _ _)
   | (with_reducible exact laws_eqType.mono _ _ _)
   | (with_reducible exact laws_eqVal.mono _ _ _ _ _)
   | (with_reducible exact laws_szType.mono _ _ _)
   | (with_reducible exact laws_szVal.mono _ _ _ _)
   | (with_reducible exact laws_toType.mono _ _)
   | (with_reducible exact laws_toVal.mono _ _ _)
   | (with_reducible exact spec_ValOk.mono _ _ _ _)
   | (with_reducible exact LeO.refl _)
   | (with_reducible exact LeO.none _)
   | (with_reducible refine LeO.ite ?_ ?_)
   | (with_reducible refine LeO.bind ?_ (fun _ => ?_))
   | exact impl_ValOk.mono _ _ _ _
   | exact laws_eqType.mono _ _ _
   | exact laws_eqVal.mono _ _ _ _ _
   | exact laws_szType.mono _ _ _
   | exact laws_szVal.mono _ _ _ _
   | exact laws_toType.mono _ _
   | exact laws_toVal.mono _ _ _
   | exact spec_ValOk.mono _ _ _ _
   | exact LeO.none _
   | refine LeO.ite ?_ ?_
   | refine LeO.bind ?_ (fun _ => ?_)
set_option maxHeartbeats 8000000 in
set_option maxRecDepth 100000 in
theorem laws_FnExactValOk.calls (k : Nat) (A0_0 : Option Addr) (c0_0 : Nat) (l0_0 : List (S25)) (a1_0 : Int) (A1_1 : Option Addr) (c1_1 : Nat) (l1_1 : List (S68)) (r : Bool) (w : World) (hr0_0 : Kd.C k25 w A0_0 l0_0.length l0_0) (hc0_0 : l0_0.length ≤ c0_0) (hr1_1 : Kd.C k68 w A1_1 l1_1.length l1_1) (hc1_1 : l1_1.length ≤ c1_1) (h : laws_FnExactValOk.f k l0_0 a1_0 l1_1 = some r) (hr_ : Aside0 (r = true)) :
  Calls Try.prog 14 #[.agg #[.slice A0_0 l0_0.length c0_0], .agg #[.int .i64 a1_0, .slice A1_1 l1_1.length c1_1]] w fun e w' => e = .returned (.bool r) ∧ Below w.heap.size w w' := by
 have hu25 := Try.underlying25
 have hu68 := Try.underlying68
 have hu30 := Try.underlying30
 have hu55 := Try.underlying55
 have HR0_0 := Aside0.mk hr0_0
 have HC0_0 := Aside0.mk hc0_0
 clear hr0_0 hc0_0
 have HR1_1 := Aside0.mk hr1_1
 have HC1_1 := Aside0.mk hc1_1
 clear hr1_1 hc1_1
 have HB := Aside0.mk (Below.refl w.heap.size w)
 have H : ((laws_szType.f k l0_0 1048576).bind fun t959 => (if t959 < 0 then (some true) else ((laws_szVal.f k a1_0 l1_1 t959).bind fun t960 => (if t960 < 0 then (some true) else ((laws_toType.f k l0_0).bind fun t961 => ((laws_toVal.f k a1_0 l1_1).bind fun bt964 => ((spec_ValOk.f k t961 bt964.1 bt964.2).bind fun t968 => ((laws_toType.f k l0_0).bind fun t969 => ((laws_toVal.f k a1_0 l1_1).bind fun bt973 => ((impl_ValOk.f k t969 bt973.1 bt973.2).bind fun t978 => (if (t978 != t968) = true then (some false) else ((laws_toType.f k l0_0).bind fun t979 => ((laws_eqType.f k t969 t979).bind fun t982 => (if t982 = true then ((laws_toVal.f k a1_0 l1_1).bind fun bt983 => ((laws_eqVal.f k bt973.1 bt973.2 bt983.1 bt983.2).bind fun t987 => (if t987 = true then (some true) else (some false)))) else (some false))))))))))))))) = some r := h
 clear h
 obtain ⟨t959, A30, H⟩ := ob H
 have A3 := Aside0.mk A30
 clear A30
 by_cases c4 : t959 < 0
 ·rw [if_pos c4] at H
  have c4b0 : decide (t959 < 0) = true := decide_eq_true c4
  clear c4
  clear hr_
  obtain rfl := Option.some.inj H
  go_enter Try.func14, Try.ntmps14
  go_wp2_with (first | ((with_reducible refine gate_dst (N := 2) rfl ?_); refine zbx 2 #[.slice A0_0 l0_0.length c0_0] 25 ?_; intro gb957 hg w5 hbox hb; have BK957 := Aside0.mk hbox; have GW957 := Aside0.mk ((y5 hg HB.out : w.heap.size ≤ gb957)); have GE957 := Aside0.mk ((y5 hg HB.out : w.heap.size ≤ gb957)); replace HB := Aside0.mk (below_step (y2 HB.out) hb); clear hb hbox hg) | ((with_reducible refine gate_dst (N := 3) rfl ?_); refine zbx 3 #[.int .i64 a1_0, .slice A1_1 l1_1.length c1_1] 68 ?_; intro gb958 hg w6 hbox hb; have BK958 := Aside0.mk hbox; have GW958 := Aside0.mk ((y6 hg HB.out GE957.out : w.heap.size ≤ gb958)); have GE958 := Aside0.mk ((y6 hg HB.out GE957.out : w.heap.size ≤ gb958)); replace HB := Aside0.mk (below_step (y3 HB.out GE957.out) hb); have NB957_958 := zltn hg BK957; have NB958_957 := zgtn hg BK957; replace BK957 := zbb BK957 hb; clear hb hbox hg; have hnb7 := NB957_958.out; have hnc7 := NB958_957.out; have hcz8_0 := zh BK957; have hfz8_0 := zfr BK957 0) | ((with_reducible refine gate_callee (f := 15) rfl ?_); refine goesL_ (some 12) rfl rfl Try.func15 (by kernel_rfl) rfl #[.agg #[.slice A0_0 l0_0.length c0_0], .int .i64 1048576] rfl y4 ?_; (with_reducible refine (laws_szType.calls k _ _ l0_0 1048576 t959 _ ?side1 ?side2 A3.out).mono ?_); (case side1 => exact y8 HR0_0.out HB.out); (case side2 => exact HC0_0.out); rintro e w9 ⟨rfl, hb⟩; refine ⟨_, rfl, ?_⟩; replace BK957 := zbb BK957 hb; replace BK958 := zbb BK958 hb; replace HB := Aside0.mk (below_step (y1 HB.out GE957.out GE958.out) hb); (try clear hb); (try clear hb2); (try clear hk); (try clear hi)))
  go_ret
  exact ⟨y14, (y1 HB.out GE957.out GE958.out)⟩
 ·rw [if_neg c4] at H
  have c4b0 : decide (t959 < 0) = false := decide_eq_false c4
  clear c4
  obtain ⟨t960, A100, H⟩ := ob H
  have A10 := Aside0.mk A100
  clear A100
  by_cases c11 : t960 < 0
  ·rw [if_pos c11] at H
   have c11b0 : decide (t960 < 0) = true := decide_eq_true c11
   clear c11
   clear hr_
   obtain rfl := Option.some.inj H
   go_enter Try.func14, Try.ntmps14
   go_wp2_with (first | ((with_reducible refine gate_dst (N := 2) rfl ?_); refine zbx 2 #[.slice A0_0 l0_0.length c0_0] 25 ?_; intro gb957 hg w12 hbox hb; have BK957 := Aside0.mk hbox; have GW957 := Aside0.mk ((y5 hg HB.out : w.heap.size ≤ gb957)); have GE957 := Aside0.mk ((y5 hg HB.out : w.heap.size ≤ gb957)); replace HB := Aside0.mk (below_step (y2 HB.out) hb); clear hb hbox hg) | ((with_reducible refine gate_dst (N := 3) rfl ?_); refine zbx 3 #[.int .i64 a1_0, .slice A1_1 l1_1.length c1_1] 68 ?_; intro gb958 hg w13 hbox hb; have BK958 := Aside0.mk hbox; have GW958 := Aside0.mk ((y6 hg HB.out GE957.out : w.heap.size ≤ gb958)); have GE958 := Aside0.mk ((y6 hg HB.out GE957.out : w.heap.size ≤ gb958)); replace HB := Aside0.mk (below_step (y3 HB.out GE957.out) hb); have NB957_958 := zltn hg BK957; have NB958_957 := zgtn hg BK957; replace BK957 := zbb BK957 hb; clear hb hbox hg; have hnb14 := NB957_958.out; have hnc14 := NB958_957.out; have hcz15_0 := zh BK957; have hfz15_0 := zfr BK957 0) | ((with_reducible refine gate_callee (f := 15) rfl ?_); refine goesL_ (some 12) rfl rfl Try.func15 (by kernel_rfl) rfl #[.agg #[.slice A0_0 l0_0.length c0_0], .int .i64 1048576] rfl y4 ?_; (with_reducible refine (laws_szType.calls k _ _ l0_0 1048576 t959 _ ?side1 ?side2 A3.out).mono ?_); (case side1 => exact y8 HR0_0.out HB.out); (case side2 => exact HC0_0.out); rintro e w16 ⟨rfl, hb⟩; refine ⟨_, rfl, ?_⟩; replace BK957 := zbb BK957 hb; replace BK958 := zbb BK958 hb; replace HB := Aside0.mk (below_step (y1 HB.out GE957.out GE958.out) hb); (try clear hb); (try clear hb2); (try clear hk); (try clear hi); have hcz17_0 := zh BK958; have hcz17_1 := zh1 BK958; have hfz17_0 := zfr BK958 0; have hfz17_1 := zfr BK958 1) | ((with_reducible refine gate_callee (f := 43) rfl ?_); refine goesL_ (some 17) rfl rfl Try.func43 (by kernel_rfl) rfl #[.agg #[.int .i64 a1_0, .slice A1_1 l1_1.length c1_1], .int .i64 t959] rfl y4 ?_; (with_reducible refine (laws_szVal.calls k a1_0 _ _ l1_1 t959 t960 _ ?side1 ?side2 A10.out).mono ?_); (case side1 => exact y8 HR1_1.out HB.out); (case side2 => exact HC1_1.out); rintro e w18 ⟨rfl, hb⟩; refine ⟨_, rfl, ?_⟩; replace BK957 := zbb BK957 hb; replace BK958 := zbb BK958 hb; replace HB := Aside0.mk (below_step (y1 HB.out GE957.out GE958.out) hb); (try clear hb); (try clear hb2); (try clear hk); (try clear hi)))
   go_ret
   exact ⟨y14, (y1 HB.out GE957.out GE958.out)⟩
  ·rw [if_neg c11] at H
   have c11b0 : decide (t960 < 0) = false := decide_eq_false c11
   clear c11
   obtain ⟨t961, A190, H⟩ := ob H
   have A19 := Aside0.mk A190
   clear A190
   obtain ⟨⟨t964, t965⟩, A200, H⟩ := ob H
   have A20 := Aside0.mk A200
   clear A200
   obtain ⟨t968, A210, H⟩ := ob H
   have A21 := Aside0.mk A210
   clear A210
   obtain ⟨t969, A220, H⟩ := ob H
   have A22 := Aside0.mk A220
   clear A220
   obtain ⟨⟨t973, t974⟩, A230, H⟩ := ob H
   have A23 := Aside0.mk A230
   clear A230
   obtain ⟨t978, A240, H⟩ := ob H
   have A24 := Aside0.mk A240
   clear A240
   by_cases c25 : (t978 != t968) = true
   ·rw [if_pos c25] at H
    have c25b0 : (t978 != t968) = true := c25
    (try (have c25b1 : decide (t978 = t968) = false := by simpa using c25))
    (try (have c25b2 : (t978 == t968) = false := by simpa using c25))
    (try (have c25b3 : ¬ (t978 = t968) := by simpa using c25))
    clear c25
    exact absurd ((Option.some.inj H).trans hr_.out) (by decide)
   ·rw [if_neg c25] at H
    have c25b0 : (t978 != t968) = false := by simpa using c25
    (try (have c25b1 : decide (t978 = t968) = true := by simpa using c25))
    (try (have c25b2 : (t978 == t968) = true := by simpa using c25))
    clear c25
    obtain ⟨t979, A260, H⟩ := ob H
    have A26 := Aside0.mk A260
    clear A260
    obtain ⟨t982, A270, H⟩ := ob H
    have A27 := Aside0.mk A270
    clear A270
    by_cases c28 : t982 = true
    ·subst c28
     rw [if_pos rfl] at H
     obtain ⟨⟨t983, t984⟩, A290, H⟩ := ob H
     have A29 := Aside0.mk A290
     clear A290
     obtain ⟨t987, A300, H⟩ := ob H
     have A30 := Aside0.mk A300
     clear A300
     by_cases c31 : t987 = true
     ·subst c31
      rw [if_pos rfl] at H
      clear hr_
      obtain rfl := Option.some.inj H
      go_enter Try.func14, Try.ntmps14
      try go_wp2_with (first | ((with_reducible refine gate_dst (N := 2) rfl ?_); refine zbx 2 #[.slice A0_0 l0_0.length c0_0] 25 ?_; intro gb957 hg w32 hbox hb; have BK957 := Aside0.mk hbox; have GW957 := Aside0.mk ((y5 hg HB.out : w.heap.size ≤ gb957)); have GE957 := Aside0.mk ((y5 hg HB.out : w.heap.size ≤ gb957)); replace HB := Aside0.mk (below_step (y2 HB.out) hb); clear hb hbox hg) | ((with_reducible refine gate_dst (N := 3) rfl ?_); refine zbx 3 #[.int .i64 a1_0, .slice A1_1 l1_1.length c1_1] 68 ?_; intro gb958 hg w33 hbox hb; have BK958 := Aside0.mk hbox; have GW958 := Aside0.mk ((y6 hg HB.out GE957.out : w.heap.size ≤ gb958)); have GE958 := Aside0.mk ((y6 hg HB.out GE957.out : w.heap.size ≤ gb958)); replace HB := Aside0.mk (below_step (y3 HB.out GE957.out) hb); have NB957_958 := zltn hg BK957; have NB958_957 := zgtn hg BK957; replace BK957 := zbb BK957 hb; clear hb hbox hg; have hnb34 := NB957_958.out; have hnc34 := NB958_957.out; have hcz35_0 := zh BK957; have hfz35_0 := zfr BK957 0) | ((with_reducible refine gate_callee (f := 15) rfl ?_); refine goesL_ (some 12) rfl rfl Try.func15 (by kernel_rfl) rfl #[.agg #[.slice A0_0 l0_0.length c0_0], .int .i64 1048576] rfl y4 ?_; (with_reducible refine (laws_szType.calls k _ _ l0_0 1048576 t959 _ ?side1 ?side2 A3.out).mono ?_); (case side1 => exact y8 HR0_0.out HB.out); (case side2 => exact HC0_0.out); rintro e w36 ⟨rfl, hb⟩; refine ⟨_, rfl, ?_⟩; replace BK957 := zbb BK957 hb; replace BK958 := zbb BK958 hb; replace HB := Aside0.mk (below_step (y1 HB.out GE957.out GE958.out) hb); (try clear hb); (try clear hb2); (try clear hk); (try clear hi); have hcz37_0 := zh BK958; have hcz37_1 := zh1 BK958; have hfz37_0 := zfr BK958 0; have hfz37_1 := zfr BK958 1) | ((with_reducible refine gate_callee (f := 43) rfl ?_); refine goesL_ (some 17) rfl rfl Try.func43 (by kernel_rfl) rfl #[.agg #[.int .i64 a1_0, .slice A1_1 l1_1.length c1_1], .int .i64 t959] rfl y4 ?_; (with_reducible refine (laws_szVal.calls k a1_0 _ _ l1_1 t959 t960 _ ?side1 ?side2 A10.out).mono ?_); (case side1 => exact y8 HR1_1.out HB.out); (case side2 => exact HC1_1.out); rintro e w38 ⟨rfl, hb⟩; refine ⟨_, rfl, ?_⟩; replace BK957 := zbb BK957 hb; replace BK958 := zbb BK958 hb; replace HB := Aside0.mk (below_step (y1 HB.out GE957.out GE958.out) hb); (try clear hb); (try clear hb2); (try clear hk); (try clear hi)))
      replace BK957 := Aside0.mk (blk_drew BK957.out)
      replace BK958 := Aside0.mk (blk_drew BK958.out)
      replace HB := Aside0.mk (below_drew1 HB.out)
      refine start_ (n := 6) (S := fun w' => w'.cell? ⟨gb957, 0, none⟩ = some (.slice A0_0 l0_0.length c0_0) ∧ w'.cell? ⟨gb958, 0, none⟩ = some (.int .i64 a1_0) ∧ w'.cell? ⟨gb958, 1, none⟩ = some (.slice A1_1 l1_1.length c1_1)) (ds := []) #[false, false, false, false, false, false] (by kernel_rfl) rfl rfl ⟨(blk_cell BK957.out 0).trans rfl, (blk_cell BK958.out 0).trans rfl, (blk_cell BK958.out 1).trans rfl⟩ (fun hHeld => ?_)
      generalize w38.drew = w39 at BK957 BK958 HB hHeld ⊢
      refine take_ (i := 0) (N := some 20) (v := ?_) (a' := ?_) #[true, false, false, false, false, false] rfl rfl (by kernel_rfl) (fun _ _ _ h => h) (Or.inl ⟨(by rfl), ?_⟩) hHeld ?_ ?_
      rotate_left
      ·rintro w' ⟨s0, s1, s2⟩
       go_simp
       with_reducible rfl
      rotate_left
      ·simp only [Act.put, List.setIfInBounds_toArray, List.set_cons_zero, List.set_cons_succ, i64_w, i32_w]
       rfl
      refine take_ (i := 2) (N := some 22) (v := ?_) (a' := ?_) #[true, false, true, false, false, false] rfl rfl (by kernel_rfl) (fun _ _ _ h => h) (Or.inl ⟨(by rfl), ?_⟩) hHeld ?_ ?_
      rotate_left
      ·rintro w' ⟨s0, s1, s2⟩
       go_simp
       with_reducible rfl
      rotate_left
      ·simp only [Act.put, List.setIfInBounds_toArray, List.set_cons_zero, List.set_cons_succ, i64_w, i32_w]
       rfl
      refine one_ (i := 1) (N := some 21) #[true, true, true, false, false, false] rfl rfl (by kernel_rfl) (by decide) (fun K hK => ?_)
      refine goes_ Try.func17 (by kernel_rfl) rfl #[.agg #[.slice A0_0 l0_0.length c0_0]] (by rfl) rfl rfl y4 ?_
      with_reducible refine (laws_toType.calls k _ _ l0_0 t961 _ ?side1 ?side2 A19.out).mono ?_
      (case side1 => exact y8 HR0_0.out HB.out)
      (case side2 => exact HC0_0.out)
      rintro e w40 ⟨v962, rfl, ho0, hb⟩
      refine ⟨_, rfl, ?_⟩
      have HO963 := Aside0.mk (Kd.R_lower ho0 (below_size (y1 HB.out GE957.out GE958.out)))
      replace BK957 := zbb BK957 hb
      replace BK958 := zbb BK958 hb
      replace HB := Aside0.mk (below_step (y1 HB.out GE957.out GE958.out) hb)
      (try clear hb)
      (try clear hb2)
      (try clear hk)
      (try clear hi)
      (try clear ho0)
      refine hK.out _ _ ⟨(blk_cell BK957.out 0).trans rfl, (blk_cell BK958.out 0).trans rfl, (blk_cell BK958.out 1).trans rfl⟩ (fun hHeld => ?_)
      clear hK K
      refine norm_ (a' := ?_) ?_ ?_
      rotate_left
      ·show Act.put _ (some 21) _ = _
       simp only [Act.put, List.setIfInBounds_toArray, List.set_cons_zero, List.set_cons_succ, i64_w, i32_w]
       rfl
      refine one_ (i := 3) (N := some 23) #[true, true, true, true, false, false] rfl rfl (by kernel_rfl) (by decide) (fun K hK => ?_)
      refine goes_ Try.func44 (by kernel_rfl) rfl #[.agg #[.int .i64 a1_0, .slice A1_1 l1_1.length c1_1]] (by rfl) rfl rfl y4 ?_
      with_reducible refine (laws_toVal.calls k a1_0 _ _ l1_1 t964 t965 _ ?side1 ?side2 A20.out).mono ?_
      (case side1 => exact y8 HR1_1.out HB.out)
      (case side2 => exact HC1_1.out)
      rintro e w41 ⟨v966, rfl, ho0, hb⟩
      refine ⟨_, rfl, ?_⟩
      replace HO963 := Aside0.mk (Kd.R_below (y10 HO963.out) hb)
      have HO967 := Aside0.mk (Kd.R_lower ho0 (below_size (y1 HB.out GE957.out GE958.out)))
      replace BK957 := zbb BK957 hb
      replace BK958 := zbb BK958 hb
      replace HB := Aside0.mk (below_step (y1 HB.out GE957.out GE958.out) hb)
      (try clear hb)
      (try clear hb2)
      (try clear hk)
      (try clear hi)
      (try clear ho0)
      obtain ⟨Ao42, co42, eo42⟩ := Kd.R_slice HO963.out
      (first | subst eo42 | (injection eo42 with f1_ f2_ f3_; have f4_ := f1_.symm; have f5_ := f3_.symm; clear f1_ f2_ f3_; subst f4_; subst f5_))
      obtain ⟨Ao43, co43, eo43⟩ := Kd.R_slice HO967.out
      (first | subst eo43 | (injection eo43 with f1_ f2_ f3_; have f4_ := f1_.symm; have f5_ := f3_.symm; clear f1_ f2_ f3_; subst f4_; subst f5_))
      refine hK.out _ _ ⟨(blk_cell BK957.out 0).trans rfl, (blk_cell BK958.out 0).trans rfl, (blk_cell BK958.out 1).trans rfl⟩ (fun hHeld => ?_)
      clear hK K
      refine norm_ (a' := ?_) ?_ ?_
      rotate_left
      ·show Act.put _ (some 23) _ = _
       simp only [Act.put, List.setIfInBounds_toArray, List.set_cons_zero, List.set_cons_succ, i64_w, i32_w]
       rfl
      refine one_ (i := 4) (N := some 24) #[true, true, true, true, true, false] rfl rfl (by kernel_rfl) (by decide) (fun K hK => ?_)
      refine goes_ Try.func36 (by kernel_rfl) rfl #[.agg #[.slice Ao42 t961.length co42], .agg #[.int .i64 t964, .slice Ao43 t965.length co43]] (by rfl) rfl rfl y4 ?_
      with_reducible refine (spec_ValOk.calls k _ _ t961 t964 _ _ t965 t968 _ ?side1 ?side2 ?side3 ?side4 A21.out).mono ?_
      (case side1 => exact y30 HO963.out)
      (case side2 => exact (Kd.R_reads' HO963.out).2.1)
      (case side3 => exact y30 HO967.out)
      (case side4 => exact (Kd.R_reads' HO967.out).2.1)
      rintro e w44 ⟨rfl, hb⟩
      refine ⟨_, rfl, ?_⟩
      replace HO963 := Aside0.mk (Kd.R_below (y10 HO963.out) hb)
      replace HO967 := Aside0.mk (Kd.R_below (y10 HO967.out) hb)
      replace BK957 := zbb BK957 hb
      replace BK958 := zbb BK958 hb
      replace HB := Aside0.mk (below_step (y1 HB.out GE957.out GE958.out) hb)
      (try clear hb)
      (try clear hb2)
      (try clear hk)
      (try clear hi)
      refine hK.out _ _ ⟨(blk_cell BK957.out 0).trans rfl, (blk_cell BK958.out 0).trans rfl, (blk_cell BK958.out 1).trans rfl⟩ (fun hHeld => ?_)
      clear hK K
      refine norm_ (a' := ?_) ?_ ?_
      rotate_left
      ·show Act.put _ (some 24) _ = _
       simp only [Act.put, List.setIfInBounds_toArray, List.set_cons_zero, List.set_cons_succ, i64_w, i32_w]
       rfl
      refine pure_ (i := 5) (N := some 6) (v := ?_) (a' := ?_) #[true, true, true, true, true, true] rfl rfl (by kernel_rfl) (fun _ _ _ h => h) (Or.inl ⟨(by rfl), ?_⟩) ?_ ?_
      rotate_left
      ·intro w'
       go_simp
       with_reducible rfl
      rotate_left
      ·simp only [Act.put, List.setIfInBounds_toArray, List.set_cons_zero, List.set_cons_succ, i64_w, i32_w]
       rfl
      refine done_ (by kernel_rfl) ?_
      have hcz45_0 := zh BK957
      have hfz45_0 := zfr BK957 0
      try go_wp2_with (first | ((with_reducible refine gate_callee (f := 17) rfl ?_); refine goesL_ (some 26) rfl rfl Try.func17 (by kernel_rfl) rfl #[.agg #[.slice A0_0 l0_0.length c0_0]] rfl y4 ?_; (with_reducible refine (laws_toType.calls k _ _ l0_0 t969 _ ?side1 ?side2 A22.out).mono ?_); (case side1 => exact y8 HR0_0.out HB.out); (case side2 => exact HC0_0.out); rintro e w46 ⟨v970, rfl, ho0, hb⟩; refine ⟨_, rfl, ?_⟩; replace HO967 := Aside0.mk (Kd.R_below (y10 HO967.out) hb); have HO971 := Aside0.mk (Kd.R_lower (Kd.R_new' ho0 (Kd.R_lt (y10 HO963.out))) (below_size (y1 HB.out GE957.out GE958.out))); replace HO963 := Aside0.mk (Kd.R_elder' (y10 HO963.out) (Kd.R_base ho0) hb); replace BK957 := zbb BK957 hb; replace BK958 := zbb BK958 hb; replace HB := Aside0.mk (below_step (y1 HB.out GE957.out GE958.out) hb); (try clear hb); (try clear hb2); (try clear hk); (try clear hi); (try clear ho0)) | ((with_reducible refine gate_dst (N := 7) rfl ?_); refine zbx 7 #[.slice none 0 0] 30 ?_; intro gb972 hg w47 hbox hb; replace HO963 := Aside0.mk (Kd.R_below (Kd.R_elderB (y10 HO963.out) gb972 (Nat.le_of_eq hg.symm)) hb); replace HO967 := Aside0.mk (Kd.R_below (y10 HO967.out) hb); replace HO971 := Aside0.mk (Kd.R_below (Kd.R_elderB (y10 HO971.out) gb972 (Nat.le_of_eq hg.symm)) hb); have BK972 := Aside0.mk hbox; have GW972 := Aside0.mk ((y20 hg HB.out GE957.out GE958.out : w.heap.size ≤ gb972)); have GE972 := Aside0.mk ((y20 hg HB.out GE957.out GE958.out : w.heap.size ≤ gb972)); replace HB := Aside0.mk (below_step (y1 HB.out GE957.out GE958.out) hb); have NB957_972 := zltn hg BK957; have NB972_957 := zgtn hg BK957; replace BK957 := zbb BK957 hb; have NB958_972 := zltn hg BK958; have NB972_958 := zgtn hg BK958; replace BK958 := zbb BK958 hb; clear hb hbox hg; obtain ⟨Ao48, co48, eo48⟩ := Kd.R_slice HO971.out; subst eo48; have hnb49 := NB972_957.out; have hnc49 := NB957_972.out; have hnb50 := NB972_958.out; have hnc50 := NB958_972.out; have hcz51_0 := zh BK972; have hfz51_0 := zfr BK972 0; have hcz52_0 := zh BK958; have hcz52_1 := zh1 BK958; have hfz52_0 := zfr BK958 0; have hfz52_1 := zfr BK958 1) | ((with_reducible refine gate_callee (f := 44) rfl ?_); refine goesL_ (some 28) rfl rfl Try.func44 (by kernel_rfl) rfl #[.agg #[.int .i64 a1_0, .slice A1_1 l1_1.length c1_1]] rfl y4 ?_; (with_reducible refine (laws_toVal.calls k a1_0 _ _ l1_1 t973 t974 _ ?side1 ?side2 A23.out).mono ?_); (case side1 => exact y38 HR1_1.out HB.out GE957.out GE958.out GE972.out); (case side2 => exact HC1_1.out); rintro e w53 ⟨v975, rfl, ho0, hb⟩; refine ⟨_, rfl, ?_⟩; replace HO963 := Aside0.mk (Kd.R_below (by (with_reducible repeat (first | apply Kd.R_alloc | apply Kd.R_drewN | apply Kd.R_drew)); exact (Kd.R_mono (Kd.R_far (p := ⟨gb972, 0, none⟩) (Kd.R_mono HO963.out (fun k_ hk => (⟨hk, hk.2⟩ : _ ∧ k_ ≠ gb972))) (fun _ hk => hk.2) (.slice Ao48 t969.length co48)) (fun _ h_ => h_.1))) hb); replace HO971 := Aside0.mk (Kd.R_below (by (with_reducible repeat (first | apply Kd.R_alloc | apply Kd.R_drewN | apply Kd.R_drew)); exact (Kd.R_mono (Kd.R_far (p := ⟨gb972, 0, none⟩) (Kd.R_mono HO971.out (fun k_ hk => (⟨hk, hk.2⟩ : _ ∧ k_ ≠ gb972))) (fun _ hk => hk.2) (.slice Ao48 t969.length co48)) (fun _ h_ => h_.1))) hb); have HO976 := Aside0.mk (Kd.R_lower (Kd.R_new' ho0 (Kd.R_lt (by (with_reducible repeat (first | apply Kd.R_alloc | apply Kd.R_drewN | apply Kd.R_drew)); exact (Kd.R_mono (Kd.R_far (p := ⟨gb972, 0, none⟩) (Kd.R_types HO967.out BK972.out (by decide)) (fun _ hk => hk.2) (.slice Ao48 t969.length co48)) (fun _ h_ => h_.1))))) (below_size (y7 HB.out GE957.out GE958.out GE972.out))); replace HO967 := Aside0.mk (Kd.R_elder' (by (with_reducible repeat (first | apply Kd.R_alloc | apply Kd.R_drewN | apply Kd.R_drew)); exact (Kd.R_mono (Kd.R_far (p := ⟨gb972, 0, none⟩) (Kd.R_types HO967.out BK972.out (by decide)) (fun _ hk => hk.2) (.slice Ao48 t969.length co48)) (fun _ h_ => h_.1))) (Kd.R_base ho0) hb); replace BK957 := zbf BK957 NB957_972 hb; replace BK958 := zbf BK958 NB958_972 hb; replace BK972 := Aside0.mk (blk_below (g := gb972) (o := .cells #[.slice Ao48 t969.length co48] 30 (0, 0)) (by (with_reducible repeat (first | refine blk_drewN ?_ _ | refine blk_drew ?_ | refine blk_alloc ?_ _)); apply blk_put (i := 0); (case h => exact y0 BK972.out); (case e => rfl)) hb); replace HB := Aside0.mk (below_step (y7 HB.out GE957.out GE958.out GE972.out) hb); (try clear hb); (try clear hb2); (try clear hk); (try clear hi); (try clear ho0)) | ((with_reducible refine gate_dst (N := 8) rfl ?_); refine zbx 8 #[.int .i64 0, .slice none 0 0] 55 ?_; intro gb977 hg w54 hbox hb; replace HO963 := Aside0.mk (Kd.R_below (y10 HO963.out) hb); replace HO967 := Aside0.mk (Kd.R_below (Kd.R_elderB (y10 HO967.out) gb977 (Nat.le_of_eq hg.symm)) hb); replace HO971 := Aside0.mk (Kd.R_below (y10 HO971.out) hb); replace HO976 := Aside0.mk (Kd.R_below (Kd.R_elderB (y10 HO976.out) gb977 (Nat.le_of_eq hg.symm)) hb); have BK977 := Aside0.mk hbox; have GW977 := Aside0.mk ((y29 hg HB.out GE957.out GE958.out GE972.out : w.heap.size ≤ gb977)); have GE977 := Aside0.mk ((y29 hg HB.out GE957.out GE958.out GE972.out : w.heap.size ≤ gb977)); replace HB := Aside0.mk (below_step (y7 HB.out GE957.out GE958.out GE972.out) hb); have NB957_977 := zltn hg BK957; have NB977_957 := zgtn hg BK957; replace BK957 := zbb BK957 hb; have NB958_977 := zltn hg BK958; have NB977_958 := zgtn hg BK958; replace BK958 := zbb BK958 hb; have NB972_977 := zltn hg BK972; have NB977_972 := zgtn hg BK972; replace BK972 := zbb BK972 hb; clear hb hbox hg; have hnb55 := NB977_957.out; have hnc55 := NB957_977.out; have hnb56 := NB977_958.out; have hnc56 := NB958_977.out; have hnb57 := NB977_972.out; have hnc57 := NB972_977.out; have hcz58_0 := zh BK977; have hcz58_1 := zh1 BK977; have hfz58_0 := zfr BK977 0; have hfz58_1 := zfr BK977 1; obtain ⟨Ao59, co59, eo59⟩ := Kd.R_slice HO976.out; subst eo59; have hcz60_0 := zh BK972; have hfz60_0 := zfr BK972 0) | ((with_reducible refine gate_callee (f := 35) rfl ?_); refine goesL_ (some 31) rfl rfl Try.func35 (by kernel_rfl) rfl #[.agg #[.slice Ao48 t969.length co48], .agg #[.int .i64 t973, .slice Ao59 t974.length co59]] rfl y4 ?_; (with_reducible refine (impl_ValOk.calls k _ _ t969 t973 _ _ t974 t978 _ ?side1 ?side2 ?side3 ?side4 A24.out).mono ?_); (case side1 => refine (Kd.R_reads' (e := 30) (base := w.heap.size) (ok := fun k_ => ((True ∧ some k_ ≠ (.slice Ao42 t961.length co42 : Value).ownBlock) ∧ k_ ≠ gb972)) (n := t969.length) (c := co48) ?_).2.2; exact (by (with_reducible repeat (first | apply Kd.R_alloc | apply Kd.R_drewN | apply Kd.R_drew)); exact (Kd.R_mono (Kd.R_far (p := ⟨gb977, 1, none⟩) (Kd.R_far (p := ⟨gb977, 0, none⟩) (Kd.R_types HO971.out BK977.out (by decide)) (fun _ hk => hk.2) (.int .i64 t973)) (fun _ hk => hk.2) (.slice Ao59 t974.length co59)) (fun _ h_ => h_.1)))); (case side2 => exact (Kd.R_reads' HO971.out).2.1); (case side3 => refine (Kd.R_reads' (e := 55) (base := w.heap.size) (ok := fun k_ => ((True ∧ some k_ ≠ (.slice Ao43 t965.length co43 : Value).ownBlock) ∧ k_ ≠ gb977)) (n := t974.length) (c := co59) ?_).2.2; exact (by (with_reducible repeat (first | apply Kd.R_alloc | apply Kd.R_drewN | apply Kd.R_drew)); exact (Kd.R_mono (Kd.R_far (p := ⟨gb977, 1, none⟩) (Kd.R_far (p := ⟨gb977, 0, none⟩) (Kd.R_mono HO976.out (fun k_ hk => (⟨hk, hk.2⟩ : _ ∧ k_ ≠ gb977))) (fun _ hk => hk.2) (.int .i64 t973)) (fun _ hk => hk.2) (.slice Ao59 t974.length co59)) (fun _ h_ => h_.1)))); (case side4 => exact (Kd.R_reads' HO976.out).2.1); rintro e w61 ⟨rfl, hb⟩; refine ⟨_, rfl, ?_⟩; replace HO963 := Aside0.mk (Kd.R_below (by (with_reducible repeat (first | apply Kd.R_alloc | apply Kd.R_drewN | apply Kd.R_drew)); exact (Kd.R_mono (Kd.R_far (p := ⟨gb977, 1, none⟩) (Kd.R_far (p := ⟨gb977, 0, none⟩) (Kd.R_types HO963.out BK977.out (by decide)) (fun _ hk => hk.2) (.int .i64 t973)) (fun _ hk => hk.2) (.slice Ao59 t974.length co59)) (fun _ h_ => h_.1))) hb); replace HO967 := Aside0.mk (Kd.R_below (by (with_reducible repeat (first | apply Kd.R_alloc | apply Kd.R_drewN | apply Kd.R_drew)); exact (Kd.R_mono (Kd.R_far (p := ⟨gb977, 1, none⟩) (Kd.R_far (p := ⟨gb977, 0, none⟩) (Kd.R_mono HO967.out (fun k_ hk => (⟨hk, hk.2⟩ : _ ∧ k_ ≠ gb977))) (fun _ hk => hk.2) (.int .i64 t973)) (fun _ hk => hk.2) (.slice Ao59 t974.length co59)) (fun _ h_ => h_.1))) hb); replace HO971 := Aside0.mk (Kd.R_below (by (with_reducible repeat (first | apply Kd.R_alloc | apply Kd.R_drewN | apply Kd.R_drew)); exact (Kd.R_mono (Kd.R_far (p := ⟨gb977, 1, none⟩) (Kd.R_far (p := ⟨gb977, 0, none⟩) (Kd.R_types HO971.out BK977.out (by decide)) (fun _ hk => hk.2) (.int .i64 t973)) (fun _ hk => hk.2) (.slice Ao59 t974.length co59)) (fun _ h_ => h_.1))) hb); replace HO976 := Aside0.mk (Kd.R_below (by (with_reducible repeat (first | apply Kd.R_alloc | apply Kd.R_drewN | apply Kd.R_drew)); exact (Kd.R_mono (Kd.R_far (p := ⟨gb977, 1, none⟩) (Kd.R_far (p := ⟨gb977, 0, none⟩) (Kd.R_mono HO976.out (fun k_ hk => (⟨hk, hk.2⟩ : _ ∧ k_ ≠ gb977))) (fun _ hk => hk.2) (.int .i64 t973)) (fun _ hk => hk.2) (.slice Ao59 t974.length co59)) (fun _ h_ => h_.1))) hb); replace BK957 := Aside0.mk (blk_below (g := gb957) (o := .cells #[.slice A0_0 l0_0.length c0_0] 25 (0, 0)) (y17 NB957_977.out BK957.out) hb); replace BK958 := Aside0.mk (blk_below (g := gb958) (o := .cells #[.int .i64 a1_0, .slice A1_1 l1_1.length c1_1] 68 (0, 0)) (y17 NB958_977.out BK958.out) hb); replace BK972 := Aside0.mk (blk_below (g := gb972) (o := .cells #[.slice Ao48 t969.length co48] 30 (0, 0)) (y17 NB972_977.out BK972.out) hb); replace BK977 := Aside0.mk (blk_below (g := gb977) (o := .cells #[.int .i64 t973, .slice Ao59 t974.length co59] 55 (0, 0)) (by (with_reducible repeat (first | refine blk_drewN ?_ _ | refine blk_drew ?_ | refine blk_alloc ?_ _)); refine blk_put (cs := #[.int .i64 t973, .slice none 0 0]) ?_ 1 _ rfl; (with_reducible repeat (first | refine blk_drewN ?_ _ | refine blk_drew ?_ | refine blk_alloc ?_ _)); apply blk_put (i := 0); (case h => exact y0 BK977.out); (case e => rfl)) hb); replace HB := Aside0.mk (below_step (y16 HB.out GE957.out GE958.out GE972.out GE977.out) hb); (try clear hb); (try clear hb2); (try clear hk); (try clear hi)))
      replace HO963 := Aside0.mk (Kd.R_drew HO963.out)
      replace HO967 := Aside0.mk (Kd.R_drew HO967.out)
      replace HO971 := Aside0.mk (Kd.R_drew HO971.out)
      replace HO976 := Aside0.mk (Kd.R_drew HO976.out)
      replace BK957 := Aside0.mk (blk_drew BK957.out)
      replace BK958 := Aside0.mk (blk_drew BK958.out)
      replace BK972 := Aside0.mk (blk_drew BK972.out)
      replace BK977 := Aside0.mk (blk_drew BK977.out)
      replace HB := Aside0.mk (below_drew1 HB.out)
      refine start_ (n := 5) (S := fun w' => w'.cell? ⟨gb972, 0, none⟩ = some (.slice Ao48 t969.length co48) ∧ w'.cell? ⟨gb957, 0, none⟩ = some (.slice A0_0 l0_0.length c0_0)) (ds := []) #[false, false, false, false, false] (by kernel_rfl) rfl rfl ⟨(blk_cell BK972.out 0).trans rfl, (blk_cell BK957.out 0).trans rfl⟩ (fun hHeld => ?_)
      generalize w61.drew = w62 at HO963 HO967 HO971 HO976 BK957 BK958 BK972 BK977 HB hHeld ⊢
      refine take_ (i := 0) (N := some 35) (v := ?_) (a' := ?_) #[true, false, false, false, false] rfl rfl (by kernel_rfl) (fun _ _ _ h => h) (Or.inl ⟨(by rfl), ?_⟩) hHeld ?_ ?_
      rotate_left
      ·rintro w' ⟨s0, s1⟩
       go_simp
       with_reducible rfl
      rotate_left
      ·simp only [Act.put, List.setIfInBounds_toArray, List.set_cons_zero, List.set_cons_succ, i64_w, i32_w]
       rfl
      refine take_ (i := 1) (N := some 36) (v := ?_) (a' := ?_) #[true, true, false, false, false] rfl rfl (by kernel_rfl) (fun _ _ _ h => h) (Or.inl ⟨(by rfl), ?_⟩) hHeld ?_ ?_
      rotate_left
      ·rintro w' ⟨s0, s1⟩
       go_simp
       with_reducible rfl
      rotate_left
      ·simp only [Act.put, List.setIfInBounds_toArray, List.set_cons_zero, List.set_cons_succ, i64_w, i32_w]
       rfl
      refine one_ (i := 2) (N := some 37) #[true, true, true, false, false] rfl rfl (by kernel_rfl) (by decide) (fun K hK => ?_)
      refine goes_ Try.func17 (by kernel_rfl) rfl #[.agg #[.slice A0_0 l0_0.length c0_0]] (by rfl) rfl rfl y4 ?_
      with_reducible refine (laws_toType.calls k _ _ l0_0 t979 _ ?side1 ?side2 A26.out).mono ?_
      (case side1 => exact y8 HR0_0.out HB.out)
      (case side2 => exact HC0_0.out)
      rintro e w63 ⟨v980, rfl, ho0, hb⟩
      refine ⟨_, rfl, ?_⟩
      replace HO967 := Aside0.mk (Kd.R_below (y10 HO967.out) hb)
      replace HO976 := Aside0.mk (Kd.R_below (y10 HO976.out) hb)
      have HO981 := Aside0.mk (Kd.R_lower (Kd.R_newB (Kd.R_new' (Kd.R_new' ho0 (Kd.R_lt (y10 HO963.out))) (Kd.R_lt (y10 HO971.out))) (g := gb972) (o := .cells #[.slice Ao48 t969.length co48] 30 (0, 0)) (y0 BK972.out)) (below_size (y16 HB.out GE957.out GE958.out GE972.out GE977.out)))
      replace HO963 := Aside0.mk (Kd.R_elder' (y10 HO963.out) (Kd.R_base ho0) hb)
      replace HO971 := Aside0.mk (Kd.R_elder' (y10 HO971.out) (Kd.R_base ho0) hb)
      replace BK957 := zbb BK957 hb
      replace BK958 := zbb BK958 hb
      replace BK972 := zbb BK972 hb
      replace BK977 := zbb BK977 hb
      replace HB := Aside0.mk (below_step (y16 HB.out GE957.out GE958.out GE972.out GE977.out) hb)
      (try clear hb)
      (try clear hb2)
      (try clear hk)
      (try clear hi)
      (try clear ho0)
      obtain ⟨Ao64, co64, eo64⟩ := Kd.R_slice HO981.out
      (first | subst eo64 | (injection eo64 with f1_ f2_ f3_; have f4_ := f1_.symm; have f5_ := f3_.symm; clear f1_ f2_ f3_; subst f4_; subst f5_))
      refine hK.out _ _ ⟨(blk_cell BK972.out 0).trans rfl, (blk_cell BK957.out 0).trans rfl⟩ (fun hHeld => ?_)
      clear hK K
      refine norm_ (a' := ?_) ?_ ?_
      rotate_left
      ·show Act.put _ (some 37) _ = _
       simp only [Act.put, List.setIfInBounds_toArray, List.set_cons_zero, List.set_cons_succ, i64_w, i32_w]
       rfl
      refine one_ (i := 3) (N := some 38) #[true, true, true, true, false] rfl rfl (by kernel_rfl) (by decide) (fun K hK => ?_)
      refine goes_ Try.func19 (by kernel_rfl) rfl #[.agg #[.slice Ao48 t969.length co48], .agg #[.slice Ao64 t979.length co64]] (by rfl) rfl rfl y4 ?_
      with_reducible refine (laws_eqType.calls k _ _ t969 _ _ t979 true _ ?side1 ?side2 ?side3 ?side4 A27.out).mono ?_
      (case side1 => exact y30 HO971.out)
      (case side2 => exact (Kd.R_reads' HO971.out).2.1)
      (case side3 => exact y30 HO981.out)
      (case side4 => exact (Kd.R_reads' HO981.out).2.1)
      rintro e w65 ⟨rfl, hb⟩
      refine ⟨_, rfl, ?_⟩
      replace HO963 := Aside0.mk (Kd.R_below (y10 HO963.out) hb)
      replace HO967 := Aside0.mk (Kd.R_below (y10 HO967.out) hb)
      replace HO971 := Aside0.mk (Kd.R_below (y10 HO971.out) hb)
      replace HO976 := Aside0.mk (Kd.R_below (y10 HO976.out) hb)
      replace HO981 := Aside0.mk (Kd.R_below (y10 HO981.out) hb)
      replace BK957 := zbb BK957 hb
      replace BK958 := zbb BK958 hb
      replace BK972 := zbb BK972 hb
      replace BK977 := zbb BK977 hb
      replace HB := Aside0.mk (below_step (y16 HB.out GE957.out GE958.out GE972.out GE977.out) hb)
      (try clear hb)
      (try clear hb2)
      (try clear hk)
      (try clear hi)
      refine hK.out _ _ ⟨(blk_cell BK972.out 0).trans rfl, (blk_cell BK957.out 0).trans rfl⟩ (fun hHeld => ?_)
      clear hK K
      refine norm_ (a' := ?_) ?_ ?_
      rotate_left
      ·show Act.put _ (some 38) _ = _
       simp only [Act.put, List.setIfInBounds_toArray, List.set_cons_zero, List.set_cons_succ, i64_w, i32_w]
       rfl
      refine pure_ (i := 4) (N := some 39) (v := ?_) (a' := ?_) #[true, true, true, true, true] rfl rfl (by kernel_rfl) (fun _ _ _ h => h) (Or.inl ⟨(by rfl), ?_⟩) ?_ ?_
      rotate_left
      ·intro w'
       go_simp
       with_reducible rfl
      rotate_left
      ·simp only [Act.put, List.setIfInBounds_toArray, List.set_cons_zero, List.set_cons_succ, i64_w, i32_w]
       rfl
      refine done_ (by kernel_rfl) ?_
      try go_wp2
      replace HO963 := Aside0.mk (Kd.R_drew HO963.out)
      replace HO967 := Aside0.mk (Kd.R_drew HO967.out)
      replace HO971 := Aside0.mk (Kd.R_drew HO971.out)
      replace HO976 := Aside0.mk (Kd.R_drew HO976.out)
      replace HO981 := Aside0.mk (Kd.R_drew HO981.out)
      replace BK957 := Aside0.mk (blk_drew BK957.out)
      replace BK958 := Aside0.mk (blk_drew BK958.out)
      replace BK972 := Aside0.mk (blk_drew BK972.out)
      replace BK977 := Aside0.mk (blk_drew BK977.out)
      replace HB := Aside0.mk (below_drew1 HB.out)
      refine start_ (n := 5) (S := fun w' => w'.cell? ⟨gb977, 0, none⟩ = some (.int .i64 t973) ∧ w'.cell? ⟨gb977, 1, none⟩ = some (.slice Ao59 t974.length co59) ∧ w'.cell? ⟨gb958, 0, none⟩ = some (.int .i64 a1_0) ∧ w'.cell? ⟨gb958, 1, none⟩ = some (.slice A1_1 l1_1.length c1_1)) (ds := []) #[false, false, false, false, false] (by kernel_rfl) rfl rfl ⟨(blk_cell BK977.out 0).trans rfl, (blk_cell BK977.out 1).trans rfl, (blk_cell BK958.out 0).trans rfl, (blk_cell BK958.out 1).trans rfl⟩ (fun hHeld => ?_)
      generalize w65.drew = w66 at HO963 HO967 HO971 HO976 HO981 BK957 BK958 BK972 BK977 HB hHeld ⊢
      refine take_ (i := 0) (N := some 40) (v := ?_) (a' := ?_) #[true, false, false, false, false] rfl rfl (by kernel_rfl) (fun _ _ _ h => h) (Or.inl ⟨(by rfl), ?_⟩) hHeld ?_ ?_
      rotate_left
      ·rintro w' ⟨s0, s1, s2, s3⟩
       go_simp
       with_reducible rfl
      rotate_left
      ·simp only [Act.put, List.setIfInBounds_toArray, List.set_cons_zero, List.set_cons_succ, i64_w, i32_w]
       rfl
      refine take_ (i := 1) (N := some 41) (v := ?_) (a' := ?_) #[true, true, false, false, false] rfl rfl (by kernel_rfl) (fun _ _ _ h => h) (Or.inl ⟨(by rfl), ?_⟩) hHeld ?_ ?_
      rotate_left
      ·rintro w' ⟨s0, s1, s2, s3⟩
       go_simp
       with_reducible rfl
      rotate_left
      ·simp only [Act.put, List.setIfInBounds_toArray, List.set_cons_zero, List.set_cons_succ, i64_w, i32_w]
       rfl
      refine one_ (i := 2) (N := some 42) #[true, true, true, false, false] rfl rfl (by kernel_rfl) (by decide) (fun K hK => ?_)
      refine goes_ Try.func44 (by kernel_rfl) rfl #[.agg #[.int .i64 a1_0, .slice A1_1 l1_1.length c1_1]] (by rfl) rfl rfl y4 ?_
      with_reducible refine (laws_toVal.calls k a1_0 _ _ l1_1 t983 t984 _ ?side1 ?side2 A29.out).mono ?_
      (case side1 => exact y8 HR1_1.out HB.out)
      (case side2 => exact HC1_1.out)
      rintro e w67 ⟨v985, rfl, ho0, hb⟩
      refine ⟨_, rfl, ?_⟩
      replace HO963 := Aside0.mk (Kd.R_below (y10 HO963.out) hb)
      replace HO971 := Aside0.mk (Kd.R_below (y10 HO971.out) hb)
      replace HO981 := Aside0.mk (Kd.R_below (y10 HO981.out) hb)
      have HO986 := Aside0.mk (Kd.R_lower (Kd.R_newB (Kd.R_new' (Kd.R_new' ho0 (Kd.R_lt (y10 HO967.out))) (Kd.R_lt (y10 HO976.out))) (g := gb977) (o := .cells #[.int .i64 t973, .slice Ao59 t974.length co59] 55 (0, 0)) (y0 BK977.out)) (below_size (y16 HB.out GE957.out GE958.out GE972.out GE977.out)))
      replace HO967 := Aside0.mk (Kd.R_elder' (y10 HO967.out) (Kd.R_base ho0) hb)
      replace HO976 := Aside0.mk (Kd.R_elder' (y10 HO976.out) (Kd.R_base ho0) hb)
      replace BK957 := zbb BK957 hb
      replace BK958 := zbb BK958 hb
      replace BK972 := zbb BK972 hb
      replace BK977 := zbb BK977 hb
      replace HB := Aside0.mk (below_step (y16 HB.out GE957.out GE958.out GE972.out GE977.out) hb)
      (try clear hb)
      (try clear hb2)
      (try clear hk)
      (try clear hi)
      (try clear ho0)
      obtain ⟨Ao68, co68, eo68⟩ := Kd.R_slice HO986.out
      (first | subst eo68 | (injection eo68 with f1_ f2_ f3_; have f4_ := f1_.symm; have f5_ := f3_.symm; clear f1_ f2_ f3_; subst f4_; subst f5_))
      refine hK.out _ _ ⟨(blk_cell BK977.out 0).trans rfl, (blk_cell BK977.out 1).trans rfl, (blk_cell BK958.out 0).trans rfl, (blk_cell BK958.out 1).trans rfl⟩ (fun hHeld => ?_)
      clear hK K
      refine norm_ (a' := ?_) ?_ ?_
      rotate_left
      ·show Act.put _ (some 42) _ = _
       simp only [Act.put, List.setIfInBounds_toArray, List.set_cons_zero, List.set_cons_succ, i64_w, i32_w]
       rfl
      refine one_ (i := 3) (N := some 43) #[true, true, true, true, false] rfl rfl (by kernel_rfl) (by decide) (fun K hK => ?_)
      refine goes_ Try.func45 (by kernel_rfl) rfl #[.agg #[.int .i64 t973, .slice Ao59 t974.length co59], .agg #[.int .i64 t983, .slice Ao68 t984.length co68]] (by rfl) rfl rfl y4 ?_
      with_reducible refine (laws_eqVal.calls k t973 _ _ t974 t983 _ _ t984 true _ ?side1 ?side2 ?side3 ?side4 A30.out).mono ?_
      (case side1 => exact y30 HO976.out)
      (case side2 => exact (Kd.R_reads' HO976.out).2.1)
      (case side3 => exact y30 HO986.out)
      (case side4 => exact (Kd.R_reads' HO986.out).2.1)
      rintro e w69 ⟨rfl, hb⟩
      refine ⟨_, rfl, ?_⟩
      replace HO963 := Aside0.mk (Kd.R_below (y10 HO963.out) hb)
      replace HO967 := Aside0.mk (Kd.R_below (y10 HO967.out) hb)
      replace HO971 := Aside0.mk (Kd.R_below (y10 HO971.out) hb)
      replace HO976 := Aside0.mk (Kd.R_below (y10 HO976.out) hb)
      replace HO981 := Aside0.mk (Kd.R_below (y10 HO981.out) hb)
      replace HO986 := Aside0.mk (Kd.R_below (y10 HO986.out) hb)
      replace BK957 := zbb BK957 hb
      replace BK958 := zbb BK958 hb
      replace BK972 := zbb BK972 hb
      replace BK977 := zbb BK977 hb
      replace HB := Aside0.mk (below_step (y16 HB.out GE957.out GE958.out GE972.out GE977.out) hb)
      (try clear hb)
      (try clear hb2)
      (try clear hk)
      (try clear hi)
      refine hK.out _ _ ⟨(blk_cell BK977.out 0).trans rfl, (blk_cell BK977.out 1).trans rfl, (blk_cell BK958.out 0).trans rfl, (blk_cell BK958.out 1).trans rfl⟩ (fun hHeld => ?_)
      clear hK K
      refine norm_ (a' := ?_) ?_ ?_
      rotate_left
      ·show Act.put _ (some 43) _ = _
       simp only [Act.put, List.setIfInBounds_toArray, List.set_cons_zero, List.set_cons_succ, i64_w, i32_w]
       rfl
      refine pure_ (i := 4) (N := some 44) (v := ?_) (a' := ?_) #[true, true, true, true, true] rfl rfl (by kernel_rfl) (fun _ _ _ h => h) (Or.inl ⟨(by rfl), ?_⟩) ?_ ?_
      rotate_left
      ·intro w'
       go_simp
       with_reducible rfl
      rotate_left
      ·simp only [Act.put, List.setIfInBounds_toArray, List.set_cons_zero, List.set_cons_succ, i64_w, i32_w]
       rfl
      refine done_ (by kernel_rfl) ?_
      try go_wp2
      go_ret
      exact ⟨y14, (y16 HB.out GE957.out GE958.out GE972.out GE977.out)⟩
     ·replace c31 := Bool.eq_false_iff.mpr c31
      subst c31
      rw [if_neg (show ¬ (false = true) by decide)] at H
      exact absurd ((Option.some.inj H).trans hr_.out) (by decide)
    ·replace c28 := Bool.eq_false_iff.mpr c28
     subst c28
     rw [if_neg (show ¬ (false = true) by decide)] at H
     exact absurd ((Option.some.inj H).trans hr_.out) (by decide)
end Go.Proofs.Ytjhbhihfifhljaa.PA
end
section
namespace Go.Proofs.Ytjhbhihfifhljaa.PA
open Go.RowKit Go.Proofs.YtjhbhihfifhljaaW.PrintWords Go.Proofs.YtjhbhihfifhljaaW.PrintLast Go.Proofs.YtjhbhihfifhljaaW.PrintMore
attribute [local go_sem] max2_int min2_int max_two min_two max_three min_three max_four min_four
set_option linter.unusedVariables false
set_option linter.unusedSimpArgs false
def IsS95 (w0 W : World) (g : Nat) (f0 : List Int) (f1 : Int) : Prop := ∃ A0 c0, W.heap[g]? = some (.cells #[.slice A0 f0.length c0, .int .i64 f1] 95 (0, 0)) ∧ w0.heap.size ≤ g ∧ Kd.C (Kd.int .u8) w0 A0 f0.length f0
theorem IsS95.grown {w0 W : World} {g : Nat} {f0 : List Int} {f1 : Int} {W1 : World} {row : Option Nat} (h : IsS95 w0 W g f0 f1) (hw : W.grownBy W1 row) (hne : some g ≠ row) : IsS95 w0 W1 g f0 f1 := by
 obtain ⟨A0, c0, hb, hg, hr0⟩ := h
 exact ⟨A0, c0, blk_grown hb hw hne, hg, hr0⟩
theorem IsS95.own_neN {w0 W : World} {g : Nat} {f0 : List Int} {f1 : Int} {α : Type} {d : Kd α} {e : Nat} {base : Nat} {ok : Nat → Prop} {v : Value} {xs : List α} (h : IsS95 w0 W g f0 f1) (ho : Kd.N d e W base ok v xs) (ht : e ≠ 95) : some g ≠ v.ownBlock := by
 obtain ⟨A0, c0, hb, hg, hr0⟩ := h
 exact Kd.N_ne ho hb ht
theorem IsS95.fresh {w0 W : World} {g : Nat} {f0 : List Int} {f1 : Int} (h : IsS95 w0 W g f0 f1) : ∀ k, W.heap.size ≤ k → k ≠ g := by
 obtain ⟨A0, c0, hb, hg, hr0⟩ := h
 exact Kd.freshB hb
theorem IsS95.kept {w0 W : World} {g : Nat} {f0 : List Int} {f1 : Int} {W1 : World} {S : Nat → Prop} (h : IsS95 w0 W g f0 f1) (hk : Kept W W1 S) (hne : ¬ S g) : IsS95 w0 W1 g f0 f1 := by
 obtain ⟨A0, c0, hb, hg, hr0⟩ := h
 exact ⟨A0, c0, blk_kept hb hk hne, hg, hr0⟩
theorem IsS95.below {w0 W : World} {g : Nat} {f0 : List Int} {f1 : Int} {W1 : World} (h : IsS95 w0 W g f0 f1) (hw : Below W.heap.size W W1) : IsS95 w0 W1 g f0 f1 := h.grown (grown_of_below hw none) (by simp)
theorem IsS95.alloc {w0 W : World} {g : Nat} {f0 : List Int} {f1 : Int} (h : IsS95 w0 W g f0 f1) (o : Obj) : IsS95 w0 (W.alloc o) g f0 f1 := h.below (below_alloc (Below.refl _ _) o)
theorem IsS95.drewN {w0 W : World} {g : Nat} {f0 : List Int} {f1 : Int} (h : IsS95 w0 W g f0 f1) (m : Nat) : IsS95 w0 (W.drewN m) g f0 f1 := h
theorem IsS95.drew {w0 W : World} {g : Nat} {f0 : List Int} {f1 : Int} (h : IsS95 w0 W g f0 f1) : IsS95 w0 W.drew g f0 f1 := h
theorem IsS95.at_ {w0 W : World} {g : Nat} {f0 : List Int} {f1 : Int} {w' : World} {m : Nat} (hq : W.drewN m = w') (h : IsS95 w0 W g f0 f1) : IsS95 w0 w' g f0 f1 := by subst hq; exact IsS95.drewN h m
theorem IsS95.apart {w0 W : World} {g : Nat} {f0 : List Int} {f1 : Int} {α : Type} {d : Kd α} {e : Nat} {base : Nat} {ok : Nat → Prop} {v : Value} {xs : List α} (h : IsS95 w0 W g f0 f1) (ho : d.R e W base ok v xs) (ht : ∀ q, q ∈ e :: d.E → q ≠ 95) : d.R e W base (fun k => ok k ∧ k ≠ g) v xs := by
 obtain ⟨A0, c0, hb, hg, hr0⟩ := h
 exact Kd.R_types ho hb ht
theorem IsS95.own_ne {w0 W : World} {g : Nat} {f0 : List Int} {f1 : Int} {α : Type} {d : Kd α} {e : Nat} {base : Nat} {ok : Nat → Prop} {v : Value} {xs : List α} (h : IsS95 w0 W g f0 f1) (ho : d.R e W base ok v xs) (ht : e ≠ 95) : some g ≠ v.ownBlock := by
 obtain ⟨A0, c0, hb, hg, hr0⟩ := h
 exact Kd.R_ne ho hb ht
theorem IsS95.apartQ {w0 W : World} {g : Nat} {f0 : List Int} {f1 : Int} {α : Type} {d : Kd α} {e : Nat} {base : Nat} {ok : Nat → Prop} {v : Value} {xs : List α} (h : IsS95 w0 W g f0 f1) (ho : d.Q e W base ok v xs) (ht : ∀ q, q ∈ e :: d.E → q ≠ 95) : d.Q e W base (fun k => ok k ∧ k ≠ g) v xs := by
 obtain ⟨A0, c0, hb, hg, hr0⟩ := h
 exact Kd.Q_types ho hb ht
theorem IsS95.own_neQ {w0 W : World} {g : Nat} {f0 : List Int} {f1 : Int} {α : Type} {d : Kd α} {e : Nat} {base : Nat} {ok : Nat → Prop} {v : Value} {xs : List α} (h : IsS95 w0 W g f0 f1) (ho : d.Q e W base ok v xs) (ht : e ≠ 95) : some g ≠ v.ownBlock := by
 obtain ⟨A0, c0, hb, hg, hr0⟩ := h
 exact Kd.Q_ne ho hb ht
theorem IsS95.apartS {w0 W : World} {g : Nat} {f0 : List Int} {f1 : Int} {α : Type} {d : Kd α} {e : Nat} {base : Nat} {ok : Nat → Prop} {v : Value} {xs : List α} (h : IsS95 w0 W g f0 f1) (ho : d.S e W base ok v xs) (ht : ∀ q, q ∈ e :: d.E → q ≠ 95) : d.S e W base (fun k => ok k ∧ k ≠ g) v xs := by
 obtain ⟨A0, c0, hb, hg, hr0⟩ := h
 exact Kd.S_types ho hb ht
theorem IsS95.own_neS {w0 W : World} {g : Nat} {f0 : List Int} {f1 : Int} {α : Type} {d : Kd α} {e : Nat} {base : Nat} {ok : Nat → Prop} {v : Value} {xs : List α} (h : IsS95 w0 W g f0 f1) (ho : d.S e W base ok v xs) (ht : e ≠ 95) : some g ≠ v.ownBlock := by
 obtain ⟨A0, c0, hb, hg, hr0⟩ := h
 exact Kd.S_ne ho hb ht
theorem IsS95.lt {w0 W : World} {g : Nat} {f0 : List Int} {f1 : Int} (h : IsS95 w0 W g f0 f1) : g < W.heap.size := by
 obtain ⟨A0, c0, hb, hg, hr0⟩ := h
 exact blk_lt hb
theorem IsS95.ge {w0 W : World} {g : Nat} {f0 : List Int} {f1 : Int} (h : IsS95 w0 W g f0 f1) : w0.heap.size ≤ g := by
 obtain ⟨A0, c0, hb, hg, hr0⟩ := h
 exact hg
theorem IsS95.ne_blk {w0 W : World} {g : Nat} {f0 : List Int} {f1 : Int} {a : Nat} {cs : Array Value} {t : TypeId} {fr : Nat × Nat} (h : IsS95 w0 W g f0 f1) (hb2 : W.heap[a]? = some (.cells cs t fr)) (ht : t ≠ 95) : g ≠ a := by
 obtain ⟨A0, c0, hb, hg, hr0⟩ := h
 rintro rfl
 rw [hb] at hb2
 injection hb2 with hb2
 injection hb2 with _ ht2
 exact ht ht2.symm
theorem IsS95.far {w0 W : World} {g : Nat} {f0 : List Int} {f1 : Int} {p : Addr} (h : IsS95 w0 W g f0 f1) (hne : g ≠ p.block) (u : Value) : IsS95 w0 (W.setCell p u) g f0 f1 := by
 obtain ⟨A0, c0, hb, hg, hr0⟩ := h
 exact ⟨A0, c0, blk_far hb hne u, hg, hr0⟩
theorem cellS95_0 {W : World} {g : Nat} {A0 : Option Addr} {c0 : Nat} {f0 : List Int} {f1 : Int} (h : W.heap[g]? = some (.cells #[.slice A0 f0.length c0, .int .i64 f1] 95 (0, 0))) : W.cell? ⟨g, 0, none⟩ = some (.slice A0 f0.length c0) := (blk_cell h 0).trans rfl
theorem cellS95_1 {W : World} {g : Nat} {A0 : Option Addr} {c0 : Nat} {f0 : List Int} {f1 : Int} (h : W.heap[g]? = some (.cells #[.slice A0 f0.length c0, .int .i64 f1] 95 (0, 0))) : W.cell? ⟨g, 1, none⟩ = some (.int .i64 f1) := (blk_cell h 1).trans rfl
theorem IsS95.set_1 {w0 W : World} {g : Nat} {f0 : List Int} {f1 : Int} (h : IsS95 w0 W g f0 f1) (x : Int) : IsS95 w0 (W.setCell ⟨g, 1, none⟩ (.int .i64 x)) g f0 x := by
 obtain ⟨A0, c0, hb, hg, hr0⟩ := h
 exact ⟨A0, c0, (by simpa using blk_set hb 1 (.int .i64 x)), hg, hr0⟩
theorem IsS95.new (w0 W : World) (A0 : Option Addr) (c0 : Nat) (f0 : List Int) (f1 : Int) (hB : Below w0.heap.size w0 W) (hr0 : Kd.C (Kd.int .u8) w0 A0 f0.length f0) : IsS95 w0 (W.alloc (.cells #[.slice A0 f0.length c0, .int .i64 f1] 95)) W.heap.size f0 f1 := ⟨A0, c0, by simpa using heap_alloc_new W _, hB.size, hr0⟩
def spec_l6Rd_pick.j0 : Nat → Int → Bool → List Int → Int → Option (Int × Int)
 | 0, _, _, _, _ => none
 | k + 1, x1, x24, x1000, x1001 => if x24 = true then (some (0, x1001)) else (if (wrap64 (x1001 - 1)) < (x1000.length : Int) then (if 0 ≤ (wrap64 (x1001 - 1)) then (if x1 = 0 then (none) else (some (Int.tmod (wrap64 (rd x1000 (wrap64 (x1001 - 1)))) x1, x1001))) else (none)) else (if (x1000.length : Int) = 0 then (none) else (if 0 ≤ (Int.tmod (wrap64 (x1001 - 1)) (x1000.length : Int)) then (if (Int.tmod (wrap64 (x1001 - 1)) (x1000.length : Int)) < (x1000.length : Int) then (if 0 ≤ (Int.tmod (wrap64 ((wrap64 ((wrap64 (x1001 - 1)) * 7)) + 3)) (x1000.length : Int)) then (if (Int.tmod (wrap64 ((wrap64 ((wrap64 (x1001 - 1)) * 7)) + 3)) (x1000.length : Int)) < (x1000.length : Int) then (if x1 = 0 then (none) else (some (Int.tmod (Go.bits .xor .i64 (wrap64 ((wrap64 ((wrap64 ((wrap64 ((wrap64 (rd x1000 (Int.tmod (wrap64 (x1001 - 1)) (x1000.length : Int)))) * 131)) + (wrap64 ((wrap64 (rd x1000 (Int.tmod (wrap64 ((wrap64 ((wrap64 (x1001 - 1)) * 7)) + 3)) (x1000.length : Int)))) * 1117)))) + (wrap64 ((wrap64 (x1001 - 1)) * 29)))) + (wrap64 ((wrap64 (Int.tdiv (wrap64 (x1001 - 1)) (x1000.length : Int))) * 53)))) (wrap64 (Int.tdiv (wrap64 ((wrap64 ((wrap64 ((wrap64 ((wrap64 (rd x1000 (Int.tmod (wrap64 (x1001 - 1)) (x1000.length : Int)))) * 131)) + (wrap64 ((wrap64 (rd x1000 (Int.tmod (wrap64 ((wrap64 ((wrap64 (x1001 - 1)) * 7)) + 3)) (x1000.length : Int)))) * 1117)))) + (wrap64 ((wrap64 (x1001 - 1)) * 29)))) + (wrap64 ((wrap64 (Int.tdiv (wrap64 (x1001 - 1)) (x1000.length : Int))) * 53)))) 64))) x1, x1001))) else (none)) else (none)) else (none)) else (none))))
def spec_l6Rd_pick.f (k : Nat) (s0_0 : List Int) (s0_1 : Int) (a1 : Int) : Option (Int × Int) := if a1 < 1 then (spec_l6Rd_pick.j0 k a1 true s0_0 (wrap64 (s0_1 + 1))) else (spec_l6Rd_pick.j0 k a1 ((s0_0.length : Int) == 0) s0_0 (wrap64 (s0_1 + 1)))
theorem spec_l6Rd_pick.mono_l : ∀ k, (∀ y0 y1 y2 y3, LeO (spec_l6Rd_pick.j0 k y0 y1 y2 y3) (spec_l6Rd_pick.j0 (k + 1) y0 y1 y2 y3))
 | 0 => fun _ _ _ _ r h => by simp [spec_l6Rd_pick.j0] at h
 | k + 1 => by
  have ih0 := spec_l6Rd_pick.mono_l k
  ·intro y0 y1 y2 y3
   unfold spec_l6Rd_pick.j0
   repeat' first
   | (with_reducible exact ih0 _ _ _ _)
   | (with_reducible exact LeO.refl _)
   | (with_reducible exact LeO.none _)
   | (with_reducible refine LeO.ite ?_ ?_)
   | (with_reducible refine LeO.bind ?_ (fun _ => ?_))
   | exact ih0 _ _ _ _
   | exact LeO.none _
   | refine LeO.ite ?_ ?_
   | refine LeO.bind ?_ (fun _ => ?_)
theorem spec_l6Rd_pick.mono : ∀ a0 a1 a2 k, LeO (spec_l6Rd_pick.f k a0 a1 a2) (spec_l6Rd_pick.f (k + 1) a0 a1 a2) := by
 intro a0 a1 a2 k
 have ih0 := spec_l6Rd_pick.mono_l k
 unfold spec_l6Rd_pick.f
 repeat' first
   | (with_reducible exact ih0 _ _ _ _)
   | (with_reducible exact LeO.refl _)
   | (with_reducible exact LeO.none _)
   | (with_reducible refine LeO.ite ?_ ?_)
   | (with_reducible refine LeO.bind ?_ (fun _ => ?_))
   | exact ih0 _ _ _ _
   | exact LeO.none _
   | refine LeO.ite ?_ ?_
   | refine LeO.bind ?_ (fun _ => ?_)
set_option maxHeartbeats 8000000 in
set_option maxRecDepth 100000 in
theorem spec_l6Rd_pick.calls (k : Nat) (g : Nat) (s0_0 : List Int) (s0_1 : Int) (a1 : Int) (r1 : Int) (r2 : Int) (w0 w : World) (hI : IsS95 w0 w g s0_0 s0_1) (hB : Below w0.heap.size w0 w) (h : spec_l6Rd_pick.f k s0_0 s0_1 a1 = some (r1, r2)) :
  Calls Try.prog 58 #[.pointer (some ⟨g, 0, none⟩), .int .i64 a1] w fun e w' => e = .returned (.int .i64 r1) ∧ IsS95 w0 w' g s0_0 r2 ∧ Below w0.heap.size w0 w' ∧ KeepBut w w' g none := by
 have HI0 := Aside0.mk hI
 have HK := Aside0.mk (KeepBut.refl w g none)
 have HL := Aside0.mk hB.size
 clear hI
 have HW0 := Aside0.mk hB.size
 have HB := Aside0.mk hB
 clear hB
 have H : (if a1 < 1 then (spec_l6Rd_pick.j0 k a1 true s0_0 (wrap64 (s0_1 + 1))) else (spec_l6Rd_pick.j0 k a1 ((s0_0.length : Int) == 0) s0_0 (wrap64 (s0_1 + 1)))) = some (r1, r2) := h
 clear h
 have HC3 := Aside0.mk H
 clear H
 obtain ⟨ASz4_0, cSz4_0, HGz4, hgz4, HSz4_0⟩ := HI0.out
 have hcz4_0 := cellS95_0 HGz4
 have hcz4_1 := cellS95_1 HGz4
 have hfz4_1 := blk_frozen HGz4 1
 clear HGz4 hgz4
 go_enter Try.func58, Try.ntmps58
 go_upto_region 2 with (fail)
 repeat (go_quiet (fail); go_upto_region 2 with (fail))
 go_cut [24] (fun v24 wc => ∃ (kq : Nat) (x24_2 : Bool), v24 = .bool x24_2 ∧ Aside0 (spec_l6Rd_pick.j0 kq a1 x24_2 s0_0 (wrap64 (s0_1 + 1)) = some (r1, r2)) ∧ Aside0 (kq ≤ k) ∧ Aside0 (IsS95 w0 wc g s0_0 (wrap64 (s0_1 + 1))) ∧ Aside0 (KeepBut w wc g none) ∧ Aside0 (Below w0.heap.size w0 wc))
 case first =>
  have H := HC3.out
  clear HC3
  by_cases c5 : a1 < 1
  ·rw [if_pos c5] at H
   have c5b0 : decide (a1 < 1) = true := decide_eq_true c5
   clear c5
   (first | rw [c5b0] | (simp only [i64_w, i32_w]; rw [c5b0]) | skip)
   have H' := Aside0.mk H
   clear H
   go_wp2
   repeat (go_quiet (fail); try go_wp2)
   go_meet
   case rel => exact ⟨_, (true), y26, H', ⟨y43⟩, ⟨(y35 HI0.out)⟩, ⟨(y25 HK.out)⟩, ⟨(y33 HB.out HI0.out)⟩⟩
  ·rw [if_neg c5] at H
   have c5b0 : decide (a1 < 1) = false := decide_eq_false c5
   clear c5
   (first | rw [c5b0] | (simp only [i64_w, i32_w]; rw [c5b0]) | skip)
   have H' := Aside0.mk H
   clear H
   obtain ⟨ASz6_0, cSz6_0, HGz6, hgz6, HSz6_0⟩ := HI0.out
   have hcz6_0 := cellS95_0 HGz6
   have hcz6_1 := cellS95_1 HGz6
   have hfz6_1 := blk_frozen HGz6 1
   clear HGz6 hgz6
   go_wp2
   repeat (go_quiet (fail); try go_wp2)
   go_meet
   case rel => exact ⟨_, (((s0_0.length : Int) == 0)), y26, H', ⟨y43⟩, ⟨(y35 HI0.out)⟩, ⟨(y25 HK.out)⟩, ⟨(y33 HB.out HI0.out)⟩⟩
 case rest =>
  clear HC3
  try clear p2
  try clear c5
  try clear c5b0
  try clear p6
  try clear hcz4_0
  try clear hcz4_1
  try clear hcz6_0
  try clear hcz6_1
  try clear hfz4_1
  try clear hfz6_1
  obtain ⟨kq, x24_2, rfl, HA, HJ2, HI0, HK, HB⟩ := hcut
  cases kq with
  | zero => exact absurd HA.out (by simp [spec_l6Rd_pick.j0])
  | succ kj2 =>
   have H := HA.out
   clear HA
   simp only [spec_l6Rd_pick.j0] at H
   by_cases c7 : x24_2 = true
   ·subst c7
    rw [if_pos rfl] at H
    simp only [Option.some.injEq, Prod.mk.injEq] at H
    obtain ⟨rfl, rfl⟩ := H
    go_wp2
    repeat (go_quiet (fail); try go_wp2)
    go_ret
    exact ⟨y14, (y35 HI0.out), (y33 HB.out HI0.out), (y25 HK.out)⟩
   ·replace c7 := Bool.eq_false_iff.mpr c7
    subst c7
    rw [if_neg (show ¬ (false = true) by decide)] at H
    by_cases c8 : (wrap64 ((wrap64 (s0_1 + 1)) - 1)) < (s0_0.length : Int)
    ·rw [if_pos c8] at H
     have c8b0 : decide ((wrap64 ((wrap64 (s0_1 + 1)) - 1)) < (s0_0.length : Int)) = true := decide_eq_true c8
     clear c8
     obtain ⟨ji9, hji9⟩ : ∃ j_ : Int, (wrap64 ((wrap64 (s0_1 + 1)) - 1)) = j_ := ⟨_, rfl⟩
     replace H : (if 0 ≤ (ji9) then (if a1 = 0 then (none) else (some (Int.tmod (wrap64 (rd s0_0 (ji9))) a1, (wrap64 (s0_1 + 1))))) else (none)) = some (r1, r2) := by first | (rw [hji9] at H; exact H) | (simp only [hji9] at H ⊢; exact H)
     (try rw [hji9] at c8b0)
     have hji9w : (IntKind.i64.wrap ((wrap64 (s0_1 + 1)) - 1)) = ji9 := (i64_w _).trans hji9
     by_cases c10 : 0 ≤ (ji9)
     ·rw [if_pos c10] at H
      have c10b0 : decide (0 ≤ (ji9)) = true := decide_eq_true c10
      clear c10
      by_cases c11 : a1 = 0
      ·rw [if_pos c11] at H
       exact absurd H (by simp)
      ·rw [if_neg c11] at H
       have c11b0 : (a1 == 0) = false := beq_eq_false_iff_ne.mpr c11
       have c11b1 : (a1 != 0) = true := bne_iff_ne.mpr c11
       simp only [Option.some.injEq, Prod.mk.injEq] at H
       obtain ⟨rfl, rfl⟩ := H
       obtain ⟨ASz12_0, cSz12_0, HGz12, hgz12, HSz12_0⟩ := HI0.out
       have hcz12_0 := cellS95_0 HGz12
       have hcz12_1 := cellS95_1 HGz12
       have hfz12_1 := blk_frozen HGz12 1
       clear HGz12 hgz12
       have p178 : 0 ≤ ((ji9) : Int) := of_decide_eq_true y19
       have q178 : (ji9) < (s0_0.length : Int) := of_decide_eq_true y19
       obtain ⟨ad178, e178, hx178_0⟩ := Kd.at_int HSz12_0 (ji9) p178 q178
       cases e178
       replace hx178_0 := pw_cell_below HB.out hx178_0
       replace p178 := eq_true p178
       replace q178 := eq_true q178
       go_wp2
       repeat (go_quiet (fail); try go_wp2)
       go_ret
       exact ⟨(by first | rfl | (simp [errW_none, errW_some] <;> rfl) | (simp only [← hji9]; first | rfl | (simp [errW_none, errW_some] <;> rfl)) | (simp [*, errW_none, errW_some] <;> rfl)), (y35 HI0.out), (y33 HB.out HI0.out), (y25 HK.out)⟩
     ·rw [if_neg c10] at H
      exact absurd H (by simp)
    ·rw [if_neg c8] at H
     have c8b0 : decide ((wrap64 ((wrap64 (s0_1 + 1)) - 1)) < (s0_0.length : Int)) = false := decide_eq_false c8
     clear c8
     by_cases c13 : (s0_0.length : Int) = 0
     ·rw [if_pos c13] at H
      exact absurd H (by simp)
     ·rw [if_neg c13] at H
      have c13b0 : ((s0_0.length : Int) == 0) = false := beq_eq_false_iff_ne.mpr c13
      have c13b1 : ((s0_0.length : Int) != 0) = true := bne_iff_ne.mpr c13
      have c13b2 : ¬ (s0_0 = []) := fun h_ => c13 (by rw [h_]; rfl)
      obtain ⟨ji14, hji14⟩ : ∃ j_ : Int, (Int.tmod (wrap64 ((wrap64 (s0_1 + 1)) - 1)) (s0_0.length : Int)) = j_ := ⟨_, rfl⟩
      replace H : (if 0 ≤ (ji14) then (if (ji14) < (s0_0.length : Int) then (if 0 ≤ (Int.tmod (wrap64 ((wrap64 ((wrap64 ((wrap64 (s0_1 + 1)) - 1)) * 7)) + 3)) (s0_0.length : Int)) then (if (Int.tmod (wrap64 ((wrap64 ((wrap64 ((wrap64 (s0_1 + 1)) - 1)) * 7)) + 3)) (s0_0.length : Int)) < (s0_0.length : Int) then (if a1 = 0 then (none) else (some (Int.tmod (Go.bits .xor .i64 (wrap64 ((wrap64 ((wrap64 ((wrap64 ((wrap64 (rd s0_0 (ji14))) * 131)) + (wrap64 ((wrap64 (rd s0_0 (Int.tmod (wrap64 ((wrap64 ((wrap64 ((wrap64 (s0_1 + 1)) - 1)) * 7)) + 3)) (s0_0.length : Int)))) * 1117)))) + (wrap64 ((wrap64 ((wrap64 (s0_1 + 1)) - 1)) * 29)))) + (wrap64 ((wrap64 (Int.tdiv (wrap64 ((wrap64 (s0_1 + 1)) - 1)) (s0_0.length : Int))) * 53)))) (wrap64 (Int.tdiv (wrap64 ((wrap64 ((wrap64 ((wrap64 ((wrap64 (rd s0_0 (ji14))) * 131)) + (wrap64 ((wrap64 (rd s0_0 (Int.tmod (wrap64 ((wrap64 ((wrap64 ((wrap64 (s0_1 + 1)) - 1)) * 7)) + 3)) (s0_0.length : Int)))) * 1117)))) + (wrap64 ((wrap64 ((wrap64 (s0_1 + 1)) - 1)) * 29)))) + (wrap64 ((wrap64 (Int.tdiv (wrap64 ((wrap64 (s0_1 + 1)) - 1)) (s0_0.length : Int))) * 53)))) 64))) a1, (wrap64 (s0_1 + 1))))) else (none)) else (none)) else (none)) else (none)) = some (r1, r2) := by first | (rw [hji14] at H; exact H) | (simp only [hji14] at H ⊢; exact H)
      by_cases c15 : 0 ≤ (ji14)
      ·rw [if_pos c15] at H
       have c15b0 : decide (0 ≤ (ji14)) = true := decide_eq_true c15
       clear c15
       by_cases c16 : (ji14) < (s0_0.length : Int)
       ·rw [if_pos c16] at H
        have c16b0 : decide ((ji14) < (s0_0.length : Int)) = true := decide_eq_true c16
        clear c16
        obtain ⟨ji17, hji17⟩ : ∃ j_ : Int, (Int.tmod (wrap64 ((wrap64 ((wrap64 ((wrap64 (s0_1 + 1)) - 1)) * 7)) + 3)) (s0_0.length : Int)) = j_ := ⟨_, rfl⟩
        replace H : (if 0 ≤ (ji17) then (if (ji17) < (s0_0.length : Int) then (if a1 = 0 then (none) else (some (Int.tmod (Go.bits .xor .i64 (wrap64 ((wrap64 ((wrap64 ((wrap64 ((wrap64 (rd s0_0 (ji14))) * 131)) + (wrap64 ((wrap64 (rd s0_0 (ji17))) * 1117)))) + (wrap64 ((wrap64 ((wrap64 (s0_1 + 1)) - 1)) * 29)))) + (wrap64 ((wrap64 (Int.tdiv (wrap64 ((wrap64 (s0_1 + 1)) - 1)) (s0_0.length : Int))) * 53)))) (wrap64 (Int.tdiv (wrap64 ((wrap64 ((wrap64 ((wrap64 ((wrap64 (rd s0_0 (ji14))) * 131)) + (wrap64 ((wrap64 (rd s0_0 (ji17))) * 1117)))) + (wrap64 ((wrap64 ((wrap64 (s0_1 + 1)) - 1)) * 29)))) + (wrap64 ((wrap64 (Int.tdiv (wrap64 ((wrap64 (s0_1 + 1)) - 1)) (s0_0.length : Int))) * 53)))) 64))) a1, (wrap64 (s0_1 + 1))))) else (none)) else (none)) = some (r1, r2) := by first | (rw [hji17] at H; exact H) | (simp only [hji17] at H ⊢; exact H)
        by_cases c18 : 0 ≤ (ji17)
        ·rw [if_pos c18] at H
         have c18b0 : decide (0 ≤ (ji17)) = true := decide_eq_true c18
         clear c18
         by_cases c19 : (ji17) < (s0_0.length : Int)
         ·rw [if_pos c19] at H
          have c19b0 : decide ((ji17) < (s0_0.length : Int)) = true := decide_eq_true c19
          clear c19
          by_cases c20 : a1 = 0
          ·rw [if_pos c20] at H
           exact absurd H (by simp)
          ·rw [if_neg c20] at H
           have c20b0 : (a1 == 0) = false := beq_eq_false_iff_ne.mpr c20
           have c20b1 : (a1 != 0) = true := bne_iff_ne.mpr c20
           simp only [Option.some.injEq, Prod.mk.injEq] at H
           obtain ⟨rfl, rfl⟩ := H
           obtain ⟨ASz21_0, cSz21_0, HGz21, hgz21, HSz21_0⟩ := HI0.out
           have hcz21_0 := cellS95_0 HGz21
           have hcz21_1 := cellS95_1 HGz21
           have hfz21_1 := blk_frozen HGz21 1
           clear HGz21 hgz21
           have p179 : 0 ≤ ((ji14) : Int) := of_decide_eq_true y19
           have q179 : (ji14) < (s0_0.length : Int) := of_decide_eq_true y19
           obtain ⟨ad179, e179, hx179_0⟩ := Kd.at_int HSz21_0 (ji14) p179 q179
           cases e179
           replace hx179_0 := pw_cell_below HB.out hx179_0
           replace p179 := eq_true p179
           replace q179 := eq_true q179
           have p180 : 0 ≤ ((ji17) : Int) := of_decide_eq_true y19
           have q180 : (ji17) < (s0_0.length : Int) := of_decide_eq_true y19
           obtain ⟨ad180, e180, hx180_0⟩ := Kd.at_int HSz21_0 (ji17) p180 q180
           obtain rfl : ad179 = ad180 := (by injection e180)
           replace hx180_0 := pw_cell_below HB.out hx180_0
           replace p180 := eq_true p180
           replace q180 := eq_true q180
           go_wp2
           repeat (go_quiet (fail); try go_wp2)
           go_ret
           exact ⟨(by first | rfl | (simp [errW_none, errW_some] <;> rfl) | (simp only [← hji14, ← hji17]; first | rfl | (simp [errW_none, errW_some] <;> rfl)) | (simp [*, errW_none, errW_some] <;> rfl)), (y35 HI0.out), (y33 HB.out HI0.out), (y25 HK.out)⟩
         ·rw [if_neg c19] at H
          exact absurd H (by simp)
        ·rw [if_neg c18] at H
         exact absurd H (by simp)
       ·rw [if_neg c16] at H
        exact absurd H (by simp)
      ·rw [if_neg c15] at H
       exact absurd H (by simp)
end Go.Proofs.Ytjhbhihfifhljaa.PA
end
section
namespace Go.Proofs.Ytjhbhihfifhljaa.PA
open Go.RowKit Go.Proofs.YtjhbhihfifhljaaW.PrintWords Go.Proofs.YtjhbhihfifhljaaW.PrintLast Go.Proofs.YtjhbhihfifhljaaW.PrintMore
attribute [local go_sem] max2_int min2_int max_two min_two max_three min_three max_four min_four
set_option linter.unusedVariables false
set_option linter.unusedSimpArgs false
mutual
def spec_l71Type.j0 : Nat → Int → Bool → List Int → Int → Option ((List (S30)) × Int)
 | 0, _, _, _, _ => none
 | k + 1, x1, x11, x1000, x1001 => if x11 = true then (some (([] : List (S30)), x1001)) else ((spec_l71Type.f k x1000 x1001 (wrap64 (x1 - 1))).bind fun bt184 => ((spec_l71Type.f k x1000 bt184.2 (wrap64 (x1 - 1))).bind fun bt188 => (some ((([(⟨bt184.1⟩ : S30), (⟨bt188.1⟩ : S30)] : List (S30))), bt188.2))))
def spec_l71Type.f : Nat → List Int → Int → Int → Option ((List (S30)) × Int)
 | 0, _, _, _ => none
 | k + 1, s0_0, s0_1, a1 => if a1 < 2 then (spec_l71Type.j0 k a1 true s0_0 s0_1) else ((spec_l6Rd_pick.f k s0_0 s0_1 3).bind fun bt182 => (spec_l71Type.j0 k a1 (decide (bt182.1 > 0)) s0_0 bt182.2))
end
theorem spec_l71Type.mono_l : ∀ k, (∀ y0 y1 y2, LeO (spec_l71Type.f k y0 y1 y2) (spec_l71Type.f (k + 1) y0 y1 y2)) ∧ (∀ y0 y1 y2 y3, LeO (spec_l71Type.j0 k y0 y1 y2 y3) (spec_l71Type.j0 (k + 1) y0 y1 y2 y3))
 | 0 => ⟨fun _ _ _ r h => by simp [spec_l71Type.f] at h, fun _ _ _ _ r h => by simp [spec_l71Type.j0] at h⟩
 | k + 1 => by
  obtain ⟨ih0, ih1⟩ := spec_l71Type.mono_l k
  refine ⟨?_, ?_⟩
  ·intro y0 y1 y2
   unfold spec_l71Type.f
   repeat' first
   | (with_reducible exact ih0 _ _ _)
   | (with_reducible exact ih1 _ _ _ _)
   | (with_reducible exact spec_l6Rd_pick.mono _ _ _ _)
   | (with_reducible exact LeO.refl _)
   | (with_reducible exact LeO.none _)
   | (with_reducible refine LeO.ite ?_ ?_)
   | (with_reducible refine LeO.bind ?_ (fun _ => ?_))
   | exact ih0 _ _ _
   | exact ih1 _ _ _ _
   | exact spec_l6Rd_pick.mono _ _ _ _
   | exact LeO.none _
   | refine LeO.ite ?_ ?_
   | refine LeO.bind ?_ (fun _ => ?_)
  ·intro y0 y1 y2 y3
   unfold spec_l71Type.j0
   repeat' first
   | (with_reducible exact ih0 _ _ _)
   | (with_reducible exact ih1 _ _ _ _)
   | (with_reducible exact spec_l6Rd_pick.mono _ _ _ _)
   | (with_reducible exact LeO.refl _)
   | (with_reducible exact LeO.none _)
   | (with_reducible refine LeO.ite ?_ ?_)
   | (with_reducible refine LeO.bind ?_ (fun _ => ?_))
   | exact ih0 _ _ _
   | exact ih1 _ _ _ _
   | exact spec_l6Rd_pick.mono _ _ _ _
   | exact LeO.none _
   | refine LeO.ite ?_ ?_
   | refine LeO.bind ?_ (fun _ => ?_)
theorem spec_l71Type.mono : ∀ a0 a1 a2 k, LeO (spec_l71Type.f k a0 a1 a2) (spec_l71Type.f (k + 1) a0 a1 a2) := by
 intro a0 a1 a2 k
 obtain ⟨ih0, ih1⟩ := spec_l71Type.mono_l k
 exact ih0 a0 a1 a2
set_option maxHeartbeats 8000000 in
set_option maxRecDepth 100000 in
theorem spec_l71Type.calls (k : Nat) : ∀ (g : Nat) (s0_0 : List Int) (s0_1 : Int) (a1 : Int) (r1 : List (S30)) (r2 : Int) (w0 w : World) (hI : IsS95 w0 w g s0_0 s0_1) (hB : Below w0.heap.size w0 w) (h : spec_l71Type.f k s0_0 s0_1 a1 = some (r1, r2)),
  Calls Try.prog 67 #[.pointer (some ⟨g, 0, none⟩), .int .i64 a1] w fun e w' => ∃ v0_ : Value, e = .returned (.agg #[v0_]) ∧ Kd.N k30 30 w' w.heap.size (fun k_ => (w.heap.size ≤ k_)) v0_ r1 ∧ IsS95 w0 w' g s0_0 r2 ∧ Below w0.heap.size w0 w' ∧ KeepBut w w' g none := by
 induction k using Nat.strongRecOn with
 | _ k ih =>
 intro g s0_0 s0_1 a1 r1 r2 w0 w hI hB h
 cases k with
 | zero => exact absurd h (by simp [spec_l71Type.f])
 | succ k =>
 simp only [spec_l71Type.f] at h
 have hu30 := Try.underlying30
 have HI0 := Aside0.mk hI
 have HK := Aside0.mk (KeepBut.refl w g none)
 have HL := Aside0.mk hB.size
 clear hI
 have HW0 := Aside0.mk hB.size
 have HB := Aside0.mk hB
 clear hB
 have H : (if a1 < 2 then (spec_l71Type.j0 k a1 true s0_0 s0_1) else ((spec_l6Rd_pick.f k s0_0 s0_1 3).bind fun bt182 => (spec_l71Type.j0 k a1 (decide (bt182.1 > 0)) s0_0 bt182.2))) = some (r1, r2) := h
 clear h
 have HC3 := Aside0.mk H
 clear H
 go_enter Try.func67, Try.ntmps67
 go_upto_region 1 with (first | ((with_reducible refine gate_dst (N := 4) rfl ?_); refine zbx 4 #[.slice none 0 0] 30 ?_; intro gb181 hg w4 hbox hb; replace HB := Aside0.mk (below_step (y33 HB.out HI0.out) hb); have BK181 := Aside0.mk hbox; have GW181 := Aside0.mk ((by rw [hg]; exact (keep_size (w := w) (g := g) (row := none) (y25 HK.out)) : w.heap.size ≤ gb181)); have GE181 := Aside0.mk ((Nat.le_trans HW0.out (by rw [hg]; exact (keep_size (w := w) (g := g) (row := none) (y25 HK.out)) : w.heap.size ≤ gb181) : w0.heap.size ≤ gb181)); replace HK := Aside0.mk (KeepBut.trans (y25 HK.out) (KeepBut.of_below hb g none) (.inl rfl)); have NB0_181 := Aside0.mk ((by rw [hg]; exact Nat.ne_of_lt (IsS95.lt (show IsS95 w0 _ g s0_0 s0_1 from by repeat (first | (with_reducible first | exact HI0.out | apply IsS95.alloc | apply IsS95.drewN | apply IsS95.drew | apply IsS95.set_1) | exact HI0.out))) : g ≠ gb181)); have NB181_0 := Aside0.mk ((by rw [hg]; exact Nat.ne_of_gt (IsS95.lt (show IsS95 w0 _ g s0_0 s0_1 from by repeat (first | (with_reducible first | exact HI0.out | apply IsS95.alloc | apply IsS95.drewN | apply IsS95.drew | apply IsS95.set_1) | exact HI0.out))) : gb181 ≠ g)); replace HI0 := Aside0.mk (IsS95.below (y35 HI0.out) hb); clear hb hbox hg))
 (try simp only [Act.put, List.setIfInBounds_toArray, List.set_cons_zero, List.set_cons_succ])
 go_cut [11] (fun v11 wc => ∃ (kq : Nat) (x11_2 : Bool) (x1001_2 : Int), v11 = .bool x11_2 ∧ Aside0 (spec_l71Type.j0 kq a1 x11_2 s0_0 x1001_2 = some (r1, r2)) ∧ Aside0 (kq ≤ k) ∧ Aside0 (wc.heap[gb181]? = some (.cells #[(.slice none 0 0)] 30 (0, 0))) ∧ Aside0 (IsS95 w0 wc g s0_0 x1001_2) ∧ Aside0 (KeepBut w wc g none) ∧ Aside0 (Below w0.heap.size w0 wc))
 case first =>
  have H := HC3.out
  clear HC3
  by_cases c5 : a1 < 2
  ·rw [if_pos c5] at H
   have c5b0 : decide (a1 < 2) = true := decide_eq_true c5
   clear c5
   (first | rw [c5b0] | (simp only [i64_w, i32_w]; rw [c5b0]) | skip)
   have H' := Aside0.mk H
   clear H
   go_wp2
   go_meet
   case rel => exact ⟨_, (true), (s0_1), y26, H', ⟨y43⟩, ⟨(y0 BK181.out)⟩, ⟨(y24 HI0.out NB0_181.out)⟩, ⟨(y18 HK.out GW181.out)⟩, ⟨(y23 HB.out HI0.out GE181.out)⟩⟩
  ·rw [if_neg c5] at H
   have c5b0 : decide (a1 < 2) = false := decide_eq_false c5
   clear c5
   (first | rw [c5b0] | (simp only [i64_w, i32_w]; rw [c5b0]) | skip)
   obtain ⟨⟨t182, t183⟩, A60, H⟩ := ob H
   have A6 := Aside0.mk A60
   clear A60
   have H' := Aside0.mk H
   clear H
   go_wp2_with (first | (go_at_call 58; (with_reducible refine (spec_l6Rd_pick.calls k g s0_0 s0_1 3 t182 t183 w0 _ ?side1 ?side2 A6.out).mono ?_); (case side1 => exact y24 HI0.out NB0_181.out); (case side2 => exact y23 HB.out HI0.out GE181.out); rintro e w7 ⟨rfl, hi, hb, hk⟩; replace BK181 := Aside0.mk (KeepBut.blk hk (g' := gb181) (o := .cells #[.slice none 0 0] 30 (0, 0)) (y0 BK181.out) NB181_0.out (by simp)); replace HK := Aside0.mk (KeepBut.trans (y18 HK.out GW181.out) hk (.inl rfl)); replace HB := Aside0.mk (hb); replace HI0 := Aside0.mk (hi); (try clear hb); (try clear hb2); (try clear hk); (try clear hi)))
   go_meet
   case rel => exact ⟨_, (decide (t182 > 0)), (t183), y26, H', ⟨y43⟩, ⟨(y0 BK181.out)⟩, ⟨(y24 HI0.out NB0_181.out)⟩, ⟨(y18 HK.out GW181.out)⟩, ⟨(y23 HB.out HI0.out GE181.out)⟩⟩
 case rest =>
  clear HC3
  try clear p2
  try clear c5
  try clear c5b0
  try clear c6
  obtain ⟨kq, x11_2, x1001_2, rfl, HA, HJ2, BK181, HI0, HK, HB⟩ := hcut
  cases kq with
  | zero => exact absurd HA.out (by simp [spec_l71Type.j0])
  | succ kj2 =>
   have H := HA.out
   clear HA
   simp only [spec_l71Type.j0] at H
   by_cases c8 : x11_2 = true
   ·subst c8
    rw [if_pos rfl] at H
    simp only [Option.some.injEq, Prod.mk.injEq] at H
    obtain ⟨rfl, rfl⟩ := H
    have hnb9 := NB181_0.out
    have hnc9 := NB0_181.out
    have hcz10_0 := zh BK181
    have hfz10_0 := zfr BK181 0
    go_wp2
    refine bodyPost_ret (results_cell_row rfl _ _ gb181 30 #[.slice none 0 0] (0, 0) _ rfl (by (with_reducible repeat (first | refine blk_drewN ?_ _ | refine blk_drew ?_ | refine blk_alloc ?_ _)); apply blk_put (i := 0); (case h => exact y0 BK181.out); (case e => rfl)) Try.underlying30 rfl (by kernel_rfl)) rfl ?_
    exact ⟨_, y14, y36, (y24 HI0.out NB0_181.out), (y23 HB.out HI0.out GE181.out), (y18 HK.out GW181.out)⟩
   ·replace c8 := Bool.eq_false_iff.mpr c8
    subst c8
    rw [if_neg (show ¬ (false = true) by decide)] at H
    obtain ⟨⟨t184, t187⟩, A110, H⟩ := ob H
    have A11 := Aside0.mk A110
    clear A110
    obtain ⟨⟨t188, t191⟩, A120, H⟩ := ob H
    have A12 := Aside0.mk A120
    clear A120
    obtain ⟨y192, hy192⟩ : ∃ y_ : List (S30), y_ = (([(⟨t184⟩ : S30), (⟨t188⟩ : S30)] : List (S30))) := ⟨_, rfl⟩
    replace H : (some (y192, t191)) = some (r1, r2) := by first | (rw [hy192]; with_reducible exact H) | (have H2_ := (Option.bind_some _ _).symm.trans H; rw [hy192]; with_reducible exact H2_) | (have H2_ := (Option.bind_some _ _).symm.trans H; with_reducible exact H2_) | with_reducible exact H | (rw [hy192]; exact H) | exact H
    have Ny192 := Aside0.mk hy192
    clear hy192
    simp only [Option.some.injEq, Prod.mk.injEq] at H
    obtain ⟨rfl, rfl⟩ := H
    go_wp2_with (first | ((with_reducible refine gate_callee (f := 67) rfl ?_); refine goesL_ (some 16) rfl rfl Try.func67 (by kernel_rfl) rfl #[.pointer (some ⟨g, 0, none⟩), .int .i64 (wrap64 (a1 - 1))] rfl y4 ?_; (with_reducible refine (ih kj2 (y46 HJ2.out) g s0_0 x1001_2 (wrap64 (a1 - 1)) t184 t187 w0 _ ?side1 ?side2 A11.out).mono ?_); (case side1 => exact y24 HI0.out NB0_181.out); (case side2 => exact y23 HB.out HI0.out GE181.out); rintro e w13 ⟨v185, rfl, ho0, hi, hb, hk⟩; refine ⟨_, rfl, ?_⟩; have HO186 := Aside0.mk (Kd.N_lower (Kd.N_mono (ok' := fun k_ => (w.heap.size ≤ k_) ∧ k_ ≠ gb181 ∧ k_ ≠ g) ho0 (fun k_ hk_ => ⟨(Nat.le_trans (keep_size (w := w) (g := g) (row := none) (y18 HK.out GW181.out)) hk_), (Kd.freshB (g := gb181) (o := .cells #[.slice none 0 0] 30 (0, 0)) (y0 BK181.out) k_ hk_), (IsS95.fresh (y24 HI0.out NB0_181.out) k_ hk_)⟩)) (keep_size (w := w) (g := g) (row := none) (y18 HK.out GW181.out))); replace BK181 := Aside0.mk (KeepBut.blk hk (g' := gb181) (o := .cells #[.slice none 0 0] 30 (0, 0)) (y0 BK181.out) NB181_0.out (by simp)); replace HK := Aside0.mk (KeepBut.trans (y18 HK.out GW181.out) hk (.inl rfl)); replace HB := Aside0.mk (hb); replace HI0 := Aside0.mk (hi); (try clear hb); (try clear hb2); (try clear hk); (try clear hi); (try clear ho0)) | ((with_reducible refine gate_callee (f := 67) rfl ?_); refine goesL_ (some 20) rfl rfl Try.func67 (by kernel_rfl) rfl #[.pointer (some ⟨g, 0, none⟩), .int .i64 (wrap64 (a1 - 1))] rfl y4 ?_; (with_reducible refine (ih kj2 (y46 HJ2.out) g s0_0 t187 (wrap64 (a1 - 1)) t188 t191 w0 _ ?side1 ?side2 A12.out).mono ?_); (case side1 => exact y24 HI0.out NB0_181.out); (case side2 => exact y23 HB.out HI0.out GE181.out); rintro e w14 ⟨v189, rfl, ho0, hi, hb, hk⟩; refine ⟨_, rfl, ?_⟩; have HO190 := Aside0.mk (Kd.N_lower (Kd.N_mono (ok' := fun k_ => (w.heap.size ≤ k_) ∧ some k_ ≠ (v185 : Value).ownBlock ∧ k_ ≠ gb181 ∧ k_ ≠ g) ho0 (fun k_ hk_ => ⟨(Nat.le_trans (keep_size (w := w) (g := g) (row := none) (y18 HK.out GW181.out)) hk_), (Kd.fresh' (Kd.N_lt (y9 HO186.out)) k_ hk_), (Kd.freshB (g := gb181) (o := .cells #[.slice none 0 0] 30 (0, 0)) (y0 BK181.out) k_ hk_), (IsS95.fresh (y24 HI0.out NB0_181.out) k_ hk_)⟩)) (keep_size (w := w) (g := g) (row := none) (y18 HK.out GW181.out))); replace BK181 := Aside0.mk (KeepBut.blk hk (g' := gb181) (o := .cells #[.slice none 0 0] 30 (0, 0)) (y0 BK181.out) NB181_0.out (by simp)); replace HO186 := Aside0.mk (Kd.N_mono (Kd.N_told (Kd.N_oldK (Kd.N_mono (ok := fun k_ => (((w.heap.size ≤ k_)) ∧ (k_ ≠ gb181 ∧ k_ ≠ g))) (y9 HO186.out) (fun k_ hk_ => (⟨hk_, hk_.2.2⟩ : _ ∧ k_ ≠ g))) hk) (Kd.N_base ho0)) (fun _ h_ => h_.1)); replace HK := Aside0.mk (KeepBut.trans (y18 HK.out GW181.out) hk (.inl rfl)); replace HB := Aside0.mk (hb); replace HI0 := Aside0.mk (hi); (try clear hb); (try clear hb2); (try clear hk); (try clear hi); (try clear ho0); obtain ⟨Ao15, co15, eo15⟩ := Kd.N_slice HO186.out; subst eo15; obtain ⟨Ao16, co16, eo16⟩ := Kd.N_slice HO190.out; subst eo16) | ((with_reducible refine gate_dst (N := 21) rfl ?_); refine Kd.N_lit k30 _ 30 ?hg (N' := 21) ?hd (xs := ([(⟨t184⟩ : S30), (⟨t188⟩ : S30)] : List (S30))) (inner := [.slice Ao15 t184.length co15, .slice Ao16 t188.length co16]) (ok := (fun k_ => (w.heap.size ≤ k_) ∧ k_ ≠ gb181 ∧ k_ ≠ g)) (okp := (fun k_ => (w.heap.size ≤ k_) ∧ k_ ≠ gb181 ∧ k_ ≠ g)) ?hr ?hp (fun _ hk => hk) ((show ∀ k_, w14.heap.size ≤ k_ → (fun k_ => (w.heap.size ≤ k_) ∧ k_ ≠ gb181 ∧ k_ ≠ g) k_ from fun k_ hk => ⟨(Nat.le_trans (keep_size (w := w) (g := g) (row := none) (y18 HK.out GW181.out)) hk), Kd.freshB (g := gb181) (o := .cells #[.slice none 0 0] 30 (0, 0)) (y0 BK181.out) k_ hk, IsS95.fresh (y24 HI0.out NB0_181.out) k_ hk⟩) _ (Nat.le_refl _)) (Below.refl _ _) (Nat.le_refl _) (by simp) ?_; (case hd => rfl); (case hg => rfl); (case hr => first | (go_simp; done) | (go_simp; rfl)); (case hp => exact (Reps.one (show Kd.FK k30 _ _ (⟨t184⟩ : S30) [.slice Ao15 t184.length co15] from (k30_mkF _ _ (⟨t184⟩ : S30) (Kd.N_reads' (Kd.N_mono (ok' := (fun k_ => (w.heap.size ≤ k_) ∧ k_ ≠ gb181 ∧ k_ ≠ g)) (HO186.out) (fun k_ hk => ⟨hk.1.1, ⟨hk.1.2.1, hk.1.2.2⟩⟩))).2.1 (Kd.N_F (Kd.N_mono (ok' := (fun k_ => (w.heap.size ≤ k_) ∧ k_ ≠ gb181 ∧ k_ ≠ g)) (HO186.out) (fun k_ hk => ⟨hk.1.1, ⟨hk.1.2.1, hk.1.2.2⟩⟩))))) (Reps.one (show Kd.FK k30 _ _ (⟨t188⟩ : S30) [.slice Ao16 t188.length co16] from (k30_mkF _ _ (⟨t188⟩ : S30) (Kd.N_reads' (Kd.N_mono (ok' := (fun k_ => (w.heap.size ≤ k_) ∧ k_ ≠ gb181 ∧ k_ ≠ g)) (HO190.out) (fun k_ hk => ⟨hk.1, ⟨hk.2.2.1, hk.2.2.2⟩⟩))).2.1 (Kd.N_F (Kd.N_mono (ok' := (fun k_ => (w.heap.size ≤ k_) ∧ k_ ≠ gb181 ∧ k_ ≠ g)) (HO190.out) (fun k_ hk => ⟨hk.1, ⟨hk.2.2.1, hk.2.2.2⟩⟩))))) (Reps.none _ _)))); intro v193 w17 ho18 hb hg_ hnew_; clear hg_ hnew_; (first | rw [← Ny192.out] at ho18 | (simp only [Int.reduceToNat] at ho18; rw [← Ny192.out] at ho18)); have HO194 := Aside0.mk (Kd.N_lower ho18 (keep_size (w := w) (g := g) (row := none) (y18 HK.out GW181.out))); replace BK181 := zbb BK181 hb; replace HK := Aside0.mk (KeepBut.trans (y18 HK.out GW181.out) (KeepBut.of_below hb g none) (.inl rfl)); replace HB := Aside0.mk (below_step (y23 HB.out HI0.out GE181.out) hb); replace HI0 := Aside0.mk (IsS95.below (y24 HI0.out NB0_181.out) hb); clear HO186 HO190; clear hb ho18; obtain ⟨Ao19, co19, eo19⟩ := Kd.N_slice HO194.out; subst eo19; have hnb20 := NB181_0.out; have hnc20 := NB0_181.out; have hcz21_0 := zh BK181; have hfz21_0 := zfr BK181 0))
    refine bodyPost_ret (results_cell_row rfl _ _ gb181 30 #[.slice Ao19 y192.length co19] (0, 0) _ rfl (by (with_reducible repeat (first | refine blk_drewN ?_ _ | refine blk_drew ?_ | refine blk_alloc ?_ _)); apply blk_put (i := 0); (case h => exact y0 BK181.out); (case e => rfl)) Try.underlying30 rfl (by kernel_rfl)) rfl ?_
    exact ⟨_, y14, (by (with_reducible repeat (first | apply Kd.N_alloc | apply Kd.N_drewN | apply Kd.N_drew)); exact Kd.N_mono (Kd.N_far (p := ⟨gb181, 0, none⟩) (Kd.N_mono HO194.out (fun k_ hk => (⟨hk, hk.2.1⟩ : _ ∧ k_ ≠ gb181))) (fun _ hk => hk.2) (.slice Ao19 y192.length co19)) (fun _ hk => hk.1.1)), (y24 HI0.out NB0_181.out), (y23 HB.out HI0.out GE181.out), (y18 HK.out GW181.out)⟩
end Go.Proofs.Ytjhbhihfifhljaa.PA
end
section
namespace Go.Proofs.Ytjhbhihfifhljaa.PA
open Go.RowKit Go.Proofs.YtjhbhihfifhljaaW.PrintWords Go.Proofs.YtjhbhihfifhljaaW.PrintLast Go.Proofs.YtjhbhihfifhljaaW.PrintMore
attribute [local go_sem] max2_int min2_int max_two min_two max_three min_three max_four min_four
set_option linter.unusedVariables false
set_option linter.unusedSimpArgs false
def spec_l6Open.f (l0 : List Int) : Option (List Int × Int) := if (l0.length : Int) > 2000 then (if 2000 ≤ (l0.length : Int) then (some (l0.take 2000, 0)) else (none)) else (some (l0, 0))
set_option maxHeartbeats 8000000 in
set_option maxRecDepth 100000 in
theorem spec_l6Open.calls (A0 : Option Addr) (c0 : Nat) (l0 : List Int) (r1 : List Int) (r2 : Int) (w0 w : World) (hB : Below w0.heap.size w0 w) (hr0 : Kd.C (Kd.int .u8) w0 A0 l0.length l0) (hc0 : l0.length ≤ c0) (h : spec_l6Open.f l0 = some (r1, r2)) :
  Calls Try.prog 52 #[.slice A0 l0.length c0] w fun e w' => ∃ g_ : Nat, e = .returned (.pointer (some ⟨g_, 0, none⟩)) ∧ IsS95 w0 w' g_ r1 r2 ∧ Below w0.heap.size w0 w' ∧ Below w.heap.size w w' := by
 have hu95 := Try.underlying95
 have HR0 := Aside0.mk hr0
 have HC0 := Aside0.mk hc0
 clear hr0 hc0
 have HBW := Aside0.mk (Below.refl w.heap.size w)
 have HW0 := Aside0.mk hB.size
 have HB := Aside0.mk hB
 clear hB
 have H : (if (l0.length : Int) > 2000 then (if 2000 ≤ (l0.length : Int) then (some (l0.take 2000, 0)) else (none)) else (some (l0, 0))) = some (r1, r2) := h
 clear h
 by_cases c2 : (l0.length : Int) > 2000
 ·rw [if_pos c2] at H
  have c2b0 : decide (2000 < (l0.length : Int)) = true := decide_eq_true c2
  have c2b1 : decide (2000 < l0.length) = true := decide_eq_true (by omega)
  clear c2
  by_cases c3 : 2000 ≤ (l0.length : Int)
  ·rw [if_pos c3] at H
   have c3b0 := eq_true c3
   have c3b1 : decide (2000 ≤ (l0.length : Int)) = true := decide_eq_true c3
   clear c3
   simp only [Option.some.injEq, Prod.mk.injEq] at H
   obtain ⟨rfl, rfl⟩ := H
   obtain ⟨i04, hi04, _, hsz4, _⟩ := info_parts info5
   obtain ⟨hcut4, hA4, hC4⟩ := print_take_of (P := Try.prog) (Value.int .u8) 0 34 5 .i64 Try.underlying34 hi04 hsz4 A0 c0 l0 2000 (by omega) (of_decide_eq_true y19) HC0.out
   have HR211 := Aside0.mk (Kd.C_of_reads (h1 := fun _ => rfl) (hA4 _ (Kd.reads_of_C HR0.out)))
   have HC211 := Aside0.mk hC4
   clear hA4 hC4 hi04 hsz4
   go_enter Try.func52, Try.ntmps52
   go_wp2_with (first | ((with_reducible refine gate_dst (N := 10) rfl ?_); refine zbx 10 #[.slice A0 (l0.take 2000).length c0, .int .i64 0] 95 ?_; intro gb212 hg w5 hbox hb; replace HB := Aside0.mk (below_step (y2 HB.out) hb); have BK212 := Aside0.mk hbox; have GW212 := Aside0.mk ((y5 hg HBW.out : w.heap.size ≤ gb212)); have GE212 := Aside0.mk ((Nat.le_trans HW0.out (y5 hg HBW.out : w.heap.size ≤ gb212) : w0.heap.size ≤ gb212)); replace HBW := Aside0.mk (below_step HBW.out hb); clear hb hbox hg))
   go_ret
   exact ⟨_, rfl, (show IsS95 w0 _ gb212 (l0.take 2000) 0 from ⟨_, _, (y0 BK212.out), GE212.out, HR211.out⟩), (y3 HB.out GE212.out), (y3 HBW.out GW212.out)⟩
  ·rw [if_neg c3] at H
   exact absurd H (by simp)
 ·rw [if_neg c2] at H
  have c2b0 : decide (2000 < (l0.length : Int)) = false := decide_eq_false c2
  have c2b1 : decide (2000 < l0.length) = false := decide_eq_false (by omega)
  clear c2
  simp only [Option.some.injEq, Prod.mk.injEq] at H
  obtain ⟨rfl, rfl⟩ := H
  go_enter Try.func52, Try.ntmps52
  go_wp2_with (first | ((with_reducible refine gate_dst (N := 10) rfl ?_); refine zbx 10 #[.slice A0 l0.length c0, .int .i64 0] 95 ?_; intro gb213 hg w6 hbox hb; replace HB := Aside0.mk (below_step (y2 HB.out) hb); have BK213 := Aside0.mk hbox; have GW213 := Aside0.mk ((y5 hg HBW.out : w.heap.size ≤ gb213)); have GE213 := Aside0.mk ((Nat.le_trans HW0.out (y5 hg HBW.out : w.heap.size ≤ gb213) : w0.heap.size ≤ gb213)); replace HBW := Aside0.mk (below_step HBW.out hb); clear hb hbox hg))
  go_ret
  exact ⟨_, rfl, (show IsS95 w0 _ gb213 l0 0 from ⟨_, _, (y0 BK213.out), GE213.out, HR0.out⟩), (y3 HB.out GE213.out), (y3 HBW.out GW213.out)⟩
end Go.Proofs.Ytjhbhihfifhljaa.PA
end
section
namespace Go.Proofs.Ytjhbhihfifhljaa.Draw
open Go.RowKit Go.Proofs.Ytjhbhihfifhljaa.PA Go.Proofs.YtjhbhihfifhljaaW.PrintWords Go.Proofs.YtjhbhihfifhljaaW.PrintLast
def Bytes (s : List Int) : Prop := s.length ≤ 2000 ∧ ∀ x ∈ s, 0 ≤ x ∧ x ≤ 255
theorem rd_byte {s : List Int} (h : Bytes s) (i : Int) : 0 ≤ rd s i ∧ rd s i ≤ 255 := by
  unfold rd
  rw [List.getD_eq_getElem?_getD]
  cases e : s[i.toNat]? with
  | none => simp
  | some x => exact h.2 x (List.mem_of_getElem? e)
theorem w64 {x : Int} (h0 : -9223372036854775808 ≤ x) (h1 : x ≤ 9223372036854775807) : wrap64 x = x := by unfold wrap64; omega
theorem w01 : wrap64 (0 + 1) = 1 := by rw [w64 (by omega) (by omega)]; rfl
theorem w12 : wrap64 (1 + 1) = 2 := by rw [w64 (by omega) (by omega)]; rfl
theorem xor_nonneg (a b : Nat) (ha : a < 2 ^ 62) (hb : b < 2 ^ 62) : 0 ≤ Go.bits .xor .i64 a b := by
  have hp : (2 : Nat) ^ 62 ≤ 2 ^ IntKind.i64.bits := Nat.pow_le_pow_right (by decide) (by decide)
  have ha' : a % 2 ^ IntKind.i64.bits = a := Nat.mod_eq_of_lt (Nat.lt_of_lt_of_le ha hp)
  have hb' : b % 2 ^ IntKind.i64.bits = b := Nat.mod_eq_of_lt (Nat.lt_of_lt_of_le hb hp)
  simp only [Go.bits, BitVec.ofInt_natCast, BitVec.toNat_xor, BitVec.toNat_ofNat, ha', hb']
  rw [IntKind.wrap_i64]
  have := Nat.xor_lt_two_pow ha hb
  omega
theorem xor_nonneg' (x y : Int) (hx : 0 ≤ x) (hx1 : x < 4611686018427387904) (hy : 0 ≤ y) (hy1 : y < 4611686018427387904) : 0 ≤ Go.bits .xor .i64 x y := by
  obtain ⟨a, rfl⟩ := Int.eq_ofNat_of_zero_le hx
  obtain ⟨b, rfl⟩ := Int.eq_ofNat_of_zero_le hy
  exact xor_nonneg a b (by omega) (by omega)
theorem tmod_range (x n : Int) (hx : 0 ≤ x) (hn : 1 ≤ n) : 0 ≤ Int.tmod x n ∧ Int.tmod x n < n := by
  rw [Int.tmod_eq_emod_of_nonneg hx]
  exact ⟨Int.emod_nonneg _ (by omega), Int.emod_lt_of_pos _ (by omega)⟩
theorem tdiv_range (x n : Int) (hx : 0 ≤ x) (hn : 1 ≤ n) : 0 ≤ Int.tdiv x n ∧ Int.tdiv x n ≤ x := by
  rw [Int.tdiv_eq_ediv_of_nonneg hx]
  exact ⟨Int.ediv_nonneg hx (by omega), Int.ediv_le_self _ hx⟩
theorem pick_ev (s : List Int) (hs : Bytes s) (p n : Int) (hp : 0 ≤ p) (hp1 : p ≤ 1099511627776) (hn : 1 ≤ n) :
    ∃ r, (∀ k, 2 ≤ k → spec_l6Rd_pick.f k s p n = some (r, p + 1)) ∧ 0 ≤ r ∧ r < n := by
  have e1 : wrap64 (p + 1) = p + 1 := w64 (by omega) (by omega)
  have e2 : wrap64 (p + 1 - 1) = p := by rw [w64 (by omega) (by omega)]; omega
  by_cases h0 : (s.length : Int) = 0
  · refine ⟨0, fun k hk => ?_, by omega, by omega⟩
    obtain ⟨k, rfl⟩ : ∃ m, k = m + 1 := ⟨k - 1, by omega⟩
    simp only [spec_l6Rd_pick.f]
    rw [if_neg (by omega), e1, show ((s.length : Int) == 0) = true from beq_iff_eq.2 h0]
    simp only [spec_l6Rd_pick.j0, if_true]
  have hl : 0 < s.length := by omega
  have hl2 := hs.1
  have hb : ((s.length : Int) == 0) = false := by simpa using h0
  by_cases hlt : p < (s.length : Int)
  · have hr := rd_byte hs p
    have hq := tmod_range (rd s p) n hr.1 hn
    refine ⟨_, fun k hk => ?_, hq.1, hq.2⟩
    obtain ⟨k, rfl⟩ : ∃ m, k = m + 1 := ⟨k - 1, by omega⟩
    simp only [spec_l6Rd_pick.f]
    rw [if_neg (by omega), e1, hb]
    simp only [spec_l6Rd_pick.j0, e2]
    rw [if_neg (by simp), if_pos hlt, if_pos hp, if_neg (by omega), w64 (by omega) (by omega)]
  · have m1 := tmod_range p (s.length : Int) hp (by omega)
    have e3 : wrap64 (p * 7) = p * 7 := w64 (by omega) (by omega)
    have e4 : wrap64 (p * 7 + 3) = p * 7 + 3 := w64 (by omega) (by omega)
    have m2 := tmod_range (p * 7 + 3) (s.length : Int) (by omega) (by omega)
    have d1 := tdiv_range p (s.length : Int) hp (by omega)
    have r1 := rd_byte hs (Int.tmod p (s.length : Int))
    have r2 := rd_byte hs (Int.tmod (p * 7 + 3) (s.length : Int))
    generalize ha : rd s (Int.tmod p (s.length : Int)) = a at *
    generalize hc : rd s (Int.tmod (p * 7 + 3) (s.length : Int)) = c at *
    generalize hd : Int.tdiv p (s.length : Int) = d at *
    have e5 : wrap64 (wrap64 (wrap64 (wrap64 (wrap64 a * 131) + wrap64 (wrap64 c * 1117)) + wrap64 (p * 29)) + wrap64 (wrap64 d * 53)) = a * 131 + c * 1117 + p * 29 + d * 53 := by
      rw [w64 (x := a) (by omega) (by omega), w64 (x := c) (by omega) (by omega), w64 (x := d) (by omega) (by omega), w64 (x := a * 131) (by omega) (by omega), w64 (x := c * 1117) (by omega) (by omega), w64 (x := d * 53) (by omega) (by omega), w64 (x := p * 29) (by omega) (by omega), w64 (x := a * 131 + c * 1117) (by omega) (by omega), w64 (x := a * 131 + c * 1117 + p * 29) (by omega) (by omega), w64 (by omega) (by omega)]
    generalize hx : a * 131 + c * 1117 + p * 29 + d * 53 = x at *
    have d2 := tdiv_range x 64 (by omega) (by omega)
    have e6 : wrap64 (Int.tdiv x 64) = Int.tdiv x 64 := w64 (by omega) (by omega)
    have hxor := xor_nonneg' x (Int.tdiv x 64) (by omega) (by omega) d2.1 (by omega)
    have hq := tmod_range (Go.bits .xor .i64 x (Int.tdiv x 64)) n hxor hn
    refine ⟨_, fun k hk => ?_, hq.1, hq.2⟩
    obtain ⟨k, rfl⟩ : ∃ m, k = m + 1 := ⟨k - 1, by omega⟩
    simp only [spec_l6Rd_pick.f]
    rw [if_neg (by omega), e1, hb]
    simp only [spec_l6Rd_pick.j0, e2, e3, e4, ha, hc, hd, e5, e6]
    rw [if_neg (by simp), if_neg hlt, if_neg h0, if_pos m1.1, if_pos m1.2, if_pos m2.1, if_pos m2.2, if_neg (by omega)]
theorem open_ev (l : List Int) (h : ∀ x ∈ l, (Lit.int .u8 x).wf = true) : ∃ s, spec_l6Open.f l = some (s, 0) ∧ Bytes s := by
  have hb : ∀ x ∈ l, 0 ≤ x ∧ x ≤ 255 := fun x hx => bounds_u8 (h x hx)
  unfold spec_l6Open.f
  by_cases hl : (l.length : Int) > 2000
  · rw [if_pos hl, if_pos (by omega)]
    exact ⟨_, rfl, by rw [List.length_take]; omega, fun x hx => hb x (List.mem_of_mem_take hx)⟩
  · rw [if_neg hl]
    exact ⟨_, rfl, by omega, hb⟩
def Dph : Nat → List S30 → Prop
  | 0, l => l = []
  | n + 1, l => ∀ x ∈ l, Dph n x.f0
theorem dph_nil (n : Nat) : Dph n [] := by cases n <;> simp [Dph]
theorem type_ev (s : List Int) (hs : Bytes s) : ∀ (d : Nat), d ≤ 1000 → ∀ (p : Int), 0 ≤ p → p + 2 ^ d ≤ 1099511627776 →
    ∃ r q, (∀ k, 3 * d + 4 ≤ k → spec_l71Type.f k s p d = some (r, q)) ∧ r.length ≤ 2 ∧ p ≤ q ∧ q + 1 ≤ p + 2 ^ d ∧ Dph d r := by
  intro d
  induction d with
  | zero =>
    intro hd p hp hp1
    refine ⟨[], p, fun k hk => ?_, by simp, by omega, by simp, dph_nil _⟩
    obtain ⟨k, rfl⟩ : ∃ m, k = m + 2 := ⟨k - 2, by omega⟩
    simp only [spec_l71Type.f]
    rw [if_pos (by omega)]
    simp only [spec_l71Type.j0, if_true]
  | succ d ih =>
    intro hd p hp hp1
    have hpow : (2 : Int) ^ (d + 1) = 2 ^ d + 2 ^ d := by rw [Int.pow_succ]; omega
    have hpos : (1 : Int) ≤ 2 ^ d := by have := Int.pow_pos (n := 2) (m := d) (by decide); omega
    rw [hpow] at hp1 ⊢
    generalize (2 : Int) ^ d = e at *
    by_cases h2 : (((d + 1 : Nat) : Int)) < 2
    · refine ⟨[], p, fun k hk => ?_, by simp, by omega, by omega, dph_nil _⟩
      obtain ⟨k, rfl⟩ : ∃ m, k = m + 2 := ⟨k - 2, by omega⟩
      simp only [spec_l71Type.f]
      rw [if_pos h2]
      simp only [spec_l71Type.j0, if_true]
    · obtain ⟨r, hr, hr0, hr1⟩ := pick_ev s hs p 3 hp (by omega) (by omega)
      by_cases hrp : r > 0
      · refine ⟨[], p + 1, fun k hk => ?_, by simp, by omega, by omega, dph_nil _⟩
        obtain ⟨k, rfl⟩ : ∃ m, k = m + 2 := ⟨k - 2, by omega⟩
        simp only [spec_l71Type.f]
        rw [if_neg h2, hr (k + 1) (by omega)]
        simp only [Option.bind_some, spec_l71Type.j0]
        rw [if_pos (by simpa using hrp)]
      · obtain ⟨a, q1, h1, _, hq1, hq1', da⟩ := ih (by omega) (p + 1) (by omega) (by omega)
        obtain ⟨b, q2, h3, _, hq2, hq2', db⟩ := ih (by omega) q1 (by omega) (by omega)
        have ew : wrap64 (((d + 1 : Nat) : Int) - 1) = (d : Int) := by
          rw [w64 (by omega) (by omega)]; omega
        refine ⟨[⟨a⟩, ⟨b⟩], q2, fun k hk => ?_, by simp, by omega, by omega, ?_⟩
        rotate_left
        · intro x hx
          rcases List.mem_cons.1 hx with rfl | hx
          · exact da
          · rw [List.mem_singleton.1 hx]; exact db
        · obtain ⟨k, rfl⟩ : ∃ m, k = m + 2 := ⟨k - 2, by omega⟩
          simp only [spec_l71Type.f]
          rw [if_neg h2, hr (k + 1) (by omega)]
          simp only [Option.bind_some, spec_l71Type.j0]
          rw [if_neg (by simpa using hrp), ew, h1 k (by omega)]
          simp only [Option.bind_some]
          rw [h3 k (by omega)]
          simp only [Option.bind_some]
end Go.Proofs.Ytjhbhihfifhljaa.Draw
end
section
namespace Go.Proofs.Ytjhbhihfifhljaa.PA
open Go.RowKit Go.Proofs.YtjhbhihfifhljaaW.PrintWords Go.Proofs.YtjhbhihfifhljaaW.PrintLast Go.Proofs.YtjhbhihfifhljaaW.PrintMore
attribute [local go_sem] max2_int min2_int max_two min_two max_three min_three max_four min_four
set_option linter.unusedVariables false
set_option linter.unusedSimpArgs false
def spec_l71Deep.l0 : Nat → Int → List Int → Int → List (S30) → Option ((List (S30)) × Int)
 | 0, _, _, _, _ => none
 | k + 1, x4, x1000, x1001, x203000 => if x4 < 5 then (spec_l71Deep.l0 k (wrap64 (x4 + 1)) x1000 x1001 (([(⟨x203000⟩ : S30), (⟨([] : List (S30))⟩ : S30)] : List (S30)))) else (some (x203000, x1001))
def spec_l71Deep.f (k : Nat) (s0_0 : List Int) (s0_1 : Int) : Option ((List (S30)) × Int) := (spec_l6Rd_pick.f k s0_0 s0_1 4).bind fun bt196 => ((spec_l71Type.f k s0_0 bt196.2 (wrap64 (1 + bt196.1))).bind fun bt198 => ((spec_l6Rd_pick.f k s0_0 bt198.2 12).bind fun bt203 => (if bt203.1 = 0 then (spec_l71Deep.l0 k 0 s0_0 bt203.2 bt198.1) else (if bt203.1 = 1 then (if bt198.1.length < 5864062014805 then (some ((bt198.1 ++ [(⟨([] : List (S30))⟩ : S30)]), bt203.2)) else (none)) else (some (bt198.1, bt203.2))))))
theorem spec_l71Deep.mono_l : ∀ k, (∀ y0 y1 y2 y3, LeO (spec_l71Deep.l0 k y0 y1 y2 y3) (spec_l71Deep.l0 (k + 1) y0 y1 y2 y3))
 | 0 => fun _ _ _ _ r h => by simp [spec_l71Deep.l0] at h
 | k + 1 => by
  have ih0 := spec_l71Deep.mono_l k
  ·intro y0 y1 y2 y3
   unfold spec_l71Deep.l0
   repeat' first
   | (with_reducible exact ih0 _ _ _ _)
   | (with_reducible exact spec_l6Rd_pick.mono _ _ _ _)
   | (with_reducible exact spec_l71Type.mono _ _ _ _)
   | (with_reducible exact LeO.refl _)
   | (with_reducible exact LeO.none _)
   | (with_reducible refine LeO.ite ?_ ?_)
   | (with_reducible refine LeO.bind ?_ (fun _ => ?_))
   | exact ih0 _ _ _ _
   | exact spec_l6Rd_pick.mono _ _ _ _
   | exact spec_l71Type.mono _ _ _ _
   | exact LeO.none _
   | refine LeO.ite ?_ ?_
   | refine LeO.bind ?_ (fun _ => ?_)
theorem spec_l71Deep.mono : ∀ a0 a1 k, LeO (spec_l71Deep.f k a0 a1) (spec_l71Deep.f (k + 1) a0 a1) := by
 intro a0 a1 k
 have ih0 := spec_l71Deep.mono_l k
 unfold spec_l71Deep.f
 repeat' first
   | (with_reducible exact ih0 _ _ _ _)
   | (with_reducible exact spec_l6Rd_pick.mono _ _ _ _)
   | (with_reducible exact spec_l71Type.mono _ _ _ _)
   | (with_reducible exact LeO.refl _)
   | (with_reducible exact LeO.none _)
   | (with_reducible refine LeO.ite ?_ ?_)
   | (with_reducible refine LeO.bind ?_ (fun _ => ?_))
   | exact ih0 _ _ _ _
   | exact spec_l6Rd_pick.mono _ _ _ _
   | exact spec_l71Type.mono _ _ _ _
   | exact LeO.none _
   | refine LeO.ite ?_ ?_
   | refine LeO.bind ?_ (fun _ => ?_)
set_option maxHeartbeats 8000000 in
set_option maxRecDepth 100000 in
theorem spec_l71Deep.calls (k : Nat) (g : Nat) (s0_0 : List Int) (s0_1 : Int) (r1 : List (S30)) (r2 : Int) (w0 w : World) (hI : IsS95 w0 w g s0_0 s0_1) (hB : Below w0.heap.size w0 w) (h : spec_l71Deep.f k s0_0 s0_1 = some (r1, r2)) :
  Calls Try.prog 51 #[.pointer (some ⟨g, 0, none⟩)] w fun e w' => ∃ v0_ : Value, e = .returned (.agg #[v0_]) ∧ Kd.N k30 30 w' w.heap.size (fun k_ => (w.heap.size ≤ k_)) v0_ r1 ∧ IsS95 w0 w' g s0_0 r2 ∧ Below w0.heap.size w0 w' ∧ KeepBut w w' g none := by
 have hu30 := Try.underlying30
 have HI0 := Aside0.mk hI
 have HK := Aside0.mk (KeepBut.refl w g none)
 have HL := Aside0.mk hB.size
 clear hI
 have HW0 := Aside0.mk hB.size
 have HB := Aside0.mk hB
 clear hB
 have H : ((spec_l6Rd_pick.f k s0_0 s0_1 4).bind fun bt196 => ((spec_l71Type.f k s0_0 bt196.2 (wrap64 (1 + bt196.1))).bind fun bt198 => ((spec_l6Rd_pick.f k s0_0 bt198.2 12).bind fun bt203 => (if bt203.1 = 0 then (spec_l71Deep.l0 k 0 s0_0 bt203.2 bt198.1) else (if bt203.1 = 1 then (if bt198.1.length < 5864062014805 then (some ((bt198.1 ++ [(⟨([] : List (S30))⟩ : S30)]), bt203.2)) else (none)) else (some (bt198.1, bt203.2))))))) = some (r1, r2) := h
 clear h
 obtain ⟨⟨t196, t197⟩, A20, H⟩ := ob H
 have A2 := Aside0.mk A20
 clear A20
 obtain ⟨⟨t198, t201⟩, A30, H⟩ := ob H
 have A3 := Aside0.mk A30
 clear A30
 obtain ⟨⟨t203, t204⟩, A40, H⟩ := ob H
 have A4 := Aside0.mk A40
 clear A40
 by_cases c5 : t203 = 0
 ·rw [if_pos c5] at H
  have c5b0 : (t203 == 0) = true := beq_iff_eq.mpr c5
  have c5b1 : (t203 != 0) = false := bne_eq_false_iff_eq.mpr c5
  clear c5
  have H' := Aside0.mk H
  clear H
  go_enter Try.func51, Try.ntmps51
  go_wp2_with (first | ((with_reducible refine gate_dst (N := 2) rfl ?_); refine zbx 2 #[.slice none 0 0] 30 ?_; intro gb195 hg w6 hbox hb; replace HB := Aside0.mk (below_step (y33 HB.out HI0.out) hb); have BK195 := Aside0.mk hbox; have GW195 := Aside0.mk ((by rw [hg]; exact (keep_size (w := w) (g := g) (row := none) (y25 HK.out)) : w.heap.size ≤ gb195)); have GE195 := Aside0.mk ((Nat.le_trans HW0.out (by rw [hg]; exact (keep_size (w := w) (g := g) (row := none) (y25 HK.out)) : w.heap.size ≤ gb195) : w0.heap.size ≤ gb195)); replace HK := Aside0.mk (KeepBut.trans (y25 HK.out) (KeepBut.of_below hb g none) (.inl rfl)); have NB0_195 := Aside0.mk ((by rw [hg]; exact Nat.ne_of_lt (IsS95.lt (show IsS95 w0 _ g s0_0 s0_1 from by repeat (first | (with_reducible first | exact HI0.out | apply IsS95.alloc | apply IsS95.drewN | apply IsS95.drew | apply IsS95.set_1) | exact HI0.out))) : g ≠ gb195)); have NB195_0 := Aside0.mk ((by rw [hg]; exact Nat.ne_of_gt (IsS95.lt (show IsS95 w0 _ g s0_0 s0_1 from by repeat (first | (with_reducible first | exact HI0.out | apply IsS95.alloc | apply IsS95.drewN | apply IsS95.drew | apply IsS95.set_1) | exact HI0.out))) : gb195 ≠ g)); replace HI0 := Aside0.mk (IsS95.below (y35 HI0.out) hb); clear hb hbox hg) | ((with_reducible refine gate_callee (f := 58) rfl ?_); refine goesL_ (some 7) rfl rfl Try.func58 (by kernel_rfl) rfl #[.pointer (some ⟨g, 0, none⟩), .int .i64 4] rfl y4 ?_; (with_reducible refine (spec_l6Rd_pick.calls k g s0_0 s0_1 4 t196 t197 w0 _ ?side1 ?side2 A2.out).mono ?_); (case side1 => exact y24 HI0.out NB0_195.out); (case side2 => exact y23 HB.out HI0.out GE195.out); rintro e w7 ⟨rfl, hi, hb, hk⟩; refine ⟨_, rfl, ?_⟩; replace BK195 := Aside0.mk (KeepBut.blk hk (g' := gb195) (o := .cells #[.slice none 0 0] 30 (0, 0)) (y0 BK195.out) NB195_0.out (by simp)); replace HK := Aside0.mk (KeepBut.trans (y18 HK.out GW195.out) hk (.inl rfl)); replace HB := Aside0.mk (hb); replace HI0 := Aside0.mk (hi); (try clear hb); (try clear hb2); (try clear hk); (try clear hi)) | ((with_reducible refine gate_callee (f := 67) rfl ?_); refine goesL_ (some 9) rfl rfl Try.func67 (by kernel_rfl) rfl #[.pointer (some ⟨g, 0, none⟩), .int .i64 (wrap64 (1 + t196))] rfl y4 ?_; (with_reducible refine (spec_l71Type.calls k g s0_0 t197 (wrap64 (1 + t196)) t198 t201 w0 _ ?side1 ?side2 A3.out).mono ?_); (case side1 => exact y24 HI0.out NB0_195.out); (case side2 => exact y23 HB.out HI0.out GE195.out); rintro e w8 ⟨v199, rfl, ho0, hi, hb, hk⟩; refine ⟨_, rfl, ?_⟩; have HO200 := Aside0.mk (Kd.N_lower (Kd.N_mono (ok' := fun k_ => (w.heap.size ≤ k_) ∧ k_ ≠ gb195 ∧ k_ ≠ g) ho0 (fun k_ hk_ => ⟨(Nat.le_trans (keep_size (w := w) (g := g) (row := none) (y18 HK.out GW195.out)) hk_), (Kd.freshB (g := gb195) (o := .cells #[.slice none 0 0] 30 (0, 0)) (y0 BK195.out) k_ hk_), (IsS95.fresh (y24 HI0.out NB0_195.out) k_ hk_)⟩)) (keep_size (w := w) (g := g) (row := none) (y18 HK.out GW195.out))); replace BK195 := Aside0.mk (KeepBut.blk hk (g' := gb195) (o := .cells #[.slice none 0 0] 30 (0, 0)) (y0 BK195.out) NB195_0.out (by simp)); replace HK := Aside0.mk (KeepBut.trans (y18 HK.out GW195.out) hk (.inl rfl)); replace HB := Aside0.mk (hb); replace HI0 := Aside0.mk (hi); (try clear hb); (try clear hb2); (try clear hk); (try clear hi); (try clear ho0)) | ((with_reducible refine gate_dst (N := 3) rfl ?_); refine zbx 3 #[.slice none 0 0] 30 ?_; intro gb202 hg w9 hbox hb; replace HO200 := Aside0.mk (Kd.N_below (Kd.N_elderB (y9 HO200.out) gb202 (Nat.le_of_eq hg.symm)) hb); replace HB := Aside0.mk (below_step (y23 HB.out HI0.out GE195.out) hb); have BK202 := Aside0.mk hbox; have GW202 := Aside0.mk ((by rw [hg]; exact (keep_size (w := w) (g := g) (row := none) (y18 HK.out GW195.out)) : w.heap.size ≤ gb202)); have GE202 := Aside0.mk ((Nat.le_trans HW0.out (by rw [hg]; exact (keep_size (w := w) (g := g) (row := none) (y18 HK.out GW195.out)) : w.heap.size ≤ gb202) : w0.heap.size ≤ gb202)); replace HK := Aside0.mk (KeepBut.trans (y18 HK.out GW195.out) (KeepBut.of_below hb g none) (.inl rfl)); have NB195_202 := zltn hg BK195; have NB202_195 := zgtn hg BK195; replace BK195 := zbb BK195 hb; have NB0_202 := Aside0.mk ((by rw [hg]; exact Nat.ne_of_lt (IsS95.lt (show IsS95 w0 _ g s0_0 t201 from by repeat (first | (with_reducible first | exact HI0.out | apply IsS95.alloc | apply IsS95.drewN | apply IsS95.drew | apply IsS95.set_1 | refine IsS95.far ?_ NB0_195.out _) | exact HI0.out))) : g ≠ gb202)); have NB202_0 := Aside0.mk ((by rw [hg]; exact Nat.ne_of_gt (IsS95.lt (show IsS95 w0 _ g s0_0 t201 from by repeat (first | (with_reducible first | exact HI0.out | apply IsS95.alloc | apply IsS95.drewN | apply IsS95.drew | apply IsS95.set_1 | refine IsS95.far ?_ NB0_195.out _) | exact HI0.out))) : gb202 ≠ g)); replace HI0 := Aside0.mk (IsS95.below (y24 HI0.out NB0_195.out) hb); clear hb hbox hg; obtain ⟨Ao10, co10, eo10⟩ := Kd.N_slice HO200.out; subst eo10; have hnb11 := NB202_195.out; have hnc11 := NB195_202.out; have hnb12 := NB202_0.out; have hnc12 := NB0_202.out; have hcz13_0 := zh BK202; have hfz13_0 := zfr BK202 0) | ((with_reducible refine gate_callee (f := 58) rfl ?_); refine goesL_ (some 11) rfl rfl Try.func58 (by kernel_rfl) rfl #[.pointer (some ⟨g, 0, none⟩), .int .i64 12] rfl y4 ?_; (with_reducible refine (spec_l6Rd_pick.calls k g s0_0 t201 12 t203 t204 w0 _ ?side1 ?side2 A4.out).mono ?_); (case side1 => exact y15 HI0.out NB0_195.out NB0_202.out); (case side2 => exact y12 HB.out HI0.out GE195.out GE202.out); rintro e w14 ⟨rfl, hi, hb, hk⟩; refine ⟨_, rfl, ?_⟩; replace BK195 := Aside0.mk (KeepBut.blk hk (g' := gb195) (o := .cells #[.slice none 0 0] 30 (0, 0)) (y21 NB195_202.out BK195.out) NB195_0.out (by simp)); replace HO200 := Aside0.mk (Kd.N_mono (Kd.N_keep (Kd.N_mono (ok := fun k_ => ((((w.heap.size ≤ k_)) ∧ (k_ ≠ gb195 ∧ k_ ≠ g)) ∧ k_ ≠ gb202)) (by (with_reducible repeat (first | apply Kd.N_alloc | apply Kd.N_drewN | apply Kd.N_drew)); exact (Kd.N_mono (Kd.N_far (p := ⟨gb202, 0, none⟩) (Kd.N_mono HO200.out (fun k_ hk => (⟨hk, hk.2⟩ : _ ∧ k_ ≠ gb202))) (fun _ hk => hk.2) (.slice Ao10 t198.length co10)) (fun _ h_ => h_.1))) (fun k_ hk_ => (⟨hk_, hk_.1.2.2⟩ : _ ∧ k_ ≠ g))) hk (fun _ h => h.2)) (fun _ h => h.1)); replace BK202 := Aside0.mk (KeepBut.blk hk (g' := gb202) (o := .cells #[.slice Ao10 t198.length co10] 30 (0, 0)) (by (with_reducible repeat (first | refine blk_drewN ?_ _ | refine blk_drew ?_ | refine blk_alloc ?_ _)); apply blk_put (i := 0); (case h => exact y0 BK202.out); (case e => rfl)) NB202_0.out (by simp)); replace HK := Aside0.mk (KeepBut.trans (y11 HK.out GW195.out GW202.out) hk (.inl rfl)); replace HB := Aside0.mk (hb); replace HI0 := Aside0.mk (hi); (try clear hb); (try clear hb2); (try clear hk); (try clear hi)))
  go_loopg [4] k (fun kq v4 w' => ∃ (x4_1 : Int) (x203000_1 : List (S30)) (u203000 : Value), v4 = .int .i64 x4_1 ∧ Aside0 (spec_l71Deep.l0 kq x4_1 s0_0 t204 x203000_1 = some (r1, r2)) ∧ Aside0 (kq ≤ k) ∧ Aside0 (Kd.N k30 30 w' w.heap.size (fun k_ => (w.heap.size ≤ k_) ∧ k_ ≠ gb195 ∧ k_ ≠ gb202 ∧ k_ ≠ g) u203000 x203000_1) ∧ Aside0 (w'.heap[gb195]? = some (.cells #[(.slice none 0 0)] 30 (0, 0))) ∧ Aside0 (w'.heap[gb202]? = some (.cells #[u203000] 30 (0, 0))) ∧ Aside0 (IsS95 w0 w' g s0_0 t204) ∧ Aside0 (KeepBut w w' g none) ∧ Aside0 (Below w0.heap.size w0 w'))
  case atStart => exact ⟨(0), (t198), (.slice Ao10 t198.length co10), y26, H', ⟨Nat.le_refl _⟩, ⟨(y78 HO200.out)⟩, ⟨(y0 BK195.out)⟩, ⟨(y0 BK202.out)⟩, ⟨(y15 HI0.out NB0_195.out NB0_202.out)⟩, ⟨(y11 HK.out GW195.out GW202.out)⟩, ⟨(y12 HB.out HI0.out GE195.out GE202.out)⟩⟩
  case round =>
   clear H'
   try clear c1
   try clear p2
   try clear c5
   try clear c5b0
   try clear c5b1
   try clear c6
   try clear p6
   try clear c11
   try clear c12
   try clear hcz13_0
   try clear hfz13_0
   obtain ⟨x4_1, x203000_1, u203000, rfl, HA, HK1, HO_203000, BK195, BK202, HI0, HK, HB⟩ := hrel
   cases gk with
   | zero => exact absurd HA.out (by simp [spec_l71Deep.l0])
   | succ k1 =>
    have H := HA.out
    clear HA
    simp only [spec_l71Deep.l0] at H
    by_cases c15 : x4_1 < 5
    ·rw [if_pos c15] at H
     have c15b0 : decide (x4_1 < 5) = true := decide_eq_true c15
     clear c15
     obtain ⟨y205, hy205⟩ : ∃ y_ : List (S30), y_ = (([(⟨x203000_1⟩ : S30), (⟨([] : List (S30))⟩ : S30)] : List (S30))) := ⟨_, rfl⟩
     replace H : (spec_l71Deep.l0 k1 (wrap64 (x4_1 + 1)) s0_0 t204 y205) = some (r1, r2) := by first | (rw [hy205]; with_reducible exact H) | (have H2_ := (Option.bind_some _ _).symm.trans H; rw [hy205]; with_reducible exact H2_) | (have H2_ := (Option.bind_some _ _).symm.trans H; with_reducible exact H2_) | with_reducible exact H | (rw [hy205]; exact H) | exact H
     have Ny205 := Aside0.mk hy205
     clear hy205
     have H' := Aside0.mk H
     clear H
     have hnb16 := NB202_195.out
     have hnc16 := NB195_202.out
     have hnb17 := NB202_0.out
     have hnc17 := NB0_202.out
     have hcz18_0 := zh BK202
     have hfz18_0 := zfr BK202 0
     obtain ⟨Ao19, co19, eo19⟩ := Kd.N_slice HO_203000.out
     subst eo19
     go_wp2_with (first | ((with_reducible refine gate_dst (N := 20) rfl ?_); refine Kd.N_lit k30 _ 30 ?hg (N' := 20) ?hd (xs := ([(⟨x203000_1⟩ : S30), (⟨([] : List (S30))⟩ : S30)] : List (S30))) (inner := [.slice Ao19 x203000_1.length co19, .slice none 0 0]) (ok := (fun k_ => (w.heap.size ≤ k_) ∧ k_ ≠ gb195 ∧ k_ ≠ gb202 ∧ k_ ≠ g)) (okp := (fun k_ => (w.heap.size ≤ k_) ∧ k_ ≠ gb195 ∧ k_ ≠ gb202 ∧ k_ ≠ g)) ?hr ?hp (fun _ hk => hk) ((show ∀ k_, wr.heap.size ≤ k_ → (fun k_ => (w.heap.size ≤ k_) ∧ k_ ≠ gb195 ∧ k_ ≠ gb202 ∧ k_ ≠ g) k_ from fun k_ hk => ⟨(Nat.le_trans (keep_size (w := w) (g := g) (row := none) (y11 HK.out GW195.out GW202.out)) hk), Kd.freshB (g := gb195) (o := .cells #[.slice none 0 0] 30 (0, 0)) (y0 BK195.out) k_ hk, Kd.freshB (g := gb202) (o := .cells #[.slice Ao19 x203000_1.length co19] 30 (0, 0)) (y0 BK202.out) k_ hk, IsS95.fresh (y15 HI0.out NB0_195.out NB0_202.out) k_ hk⟩) _ (Nat.le_refl _)) (Below.refl _ _) (Nat.le_refl _) (by simp) ?_; (case hd => rfl); (case hg => rfl); (case hr => first | (go_simp; done) | (go_simp; rfl)); (case hp => exact (Reps.one (show Kd.FK k30 _ _ (⟨x203000_1⟩ : S30) [.slice Ao19 x203000_1.length co19] from (k30_mkF _ _ (⟨x203000_1⟩ : S30) (Kd.N_reads' (Kd.N_mono (ok' := (fun k_ => (w.heap.size ≤ k_) ∧ k_ ≠ gb195 ∧ k_ ≠ gb202 ∧ k_ ≠ g)) (HO_203000.out) (fun k_ hk => ⟨hk.1, ⟨hk.2.1, ⟨hk.2.2.1, hk.2.2.2⟩⟩⟩))).2.1 (Kd.N_F (Kd.N_mono (ok' := (fun k_ => (w.heap.size ≤ k_) ∧ k_ ≠ gb195 ∧ k_ ≠ gb202 ∧ k_ ≠ g)) (HO_203000.out) (fun k_ hk => ⟨hk.1, ⟨hk.2.1, ⟨hk.2.2.1, hk.2.2.2⟩⟩⟩))))) (Reps.one (show Kd.FK k30 _ _ (⟨([] : List (S30))⟩ : S30) [.slice none 0 0] from (k30_mkF _ _ (⟨([] : List (S30))⟩ : S30) (Nat.le_refl _) (Kd.F_nil _ _ _))) (Reps.none _ _)))); intro v206 w20 ho21 hb hg_ hnew_; clear hg_ hnew_; (first | rw [← Ny205.out] at ho21 | (simp only [Int.reduceToNat] at ho21; rw [← Ny205.out] at ho21)); have HO207 := Aside0.mk (Kd.N_lower ho21 (keep_size (w := w) (g := g) (row := none) (y11 HK.out GW195.out GW202.out))); replace BK195 := zbb BK195 hb; replace BK202 := zbb BK202 hb; replace HK := Aside0.mk (KeepBut.trans (y11 HK.out GW195.out GW202.out) (KeepBut.of_below hb g none) (.inl rfl)); replace HB := Aside0.mk (below_step (y12 HB.out HI0.out GE195.out GE202.out) hb); replace HI0 := Aside0.mk (IsS95.below (y15 HI0.out NB0_195.out NB0_202.out) hb); clear HO_203000; clear hb ho21; obtain ⟨Ao22, co22, eo22⟩ := Kd.N_slice HO207.out; subst eo22; have hcz23_0 := zh BK202; have hfz23_0 := zfr BK202 0))
     go_roundg k1
     case measure => have := HK1.out; omega
     case rel => exact ⟨(wrap64 (x4_1 + 1)), (y205), (.slice Ao22 y205.length co22), y26, H', ⟨(y46 HK1.out)⟩, ⟨(by (with_reducible repeat (first | apply Kd.N_alloc | apply Kd.N_drewN | apply Kd.N_drew)); exact Kd.N_mono (Kd.N_far (p := ⟨gb202, 0, none⟩) (Kd.N_mono HO207.out (fun k_ hk => (⟨hk, hk.2.2.1⟩ : _ ∧ k_ ≠ gb202))) (fun _ hk => hk.2) (.slice Ao22 y205.length co22)) (fun _ hk => ⟨hk.1.1, ⟨hk.1.2.1, ⟨hk.1.2.2.1, hk.1.2.2.2⟩⟩⟩))⟩, ⟨(y21 NB195_202.out BK195.out)⟩, ⟨(by (with_reducible repeat (first | refine blk_drewN ?_ _ | refine blk_drew ?_ | refine blk_alloc ?_ _)); refine blk_put (cs := #[.slice Ao19 x203000_1.length co19]) ?_ 0 _ rfl; (with_reducible repeat (first | refine blk_drewN ?_ _ | refine blk_drew ?_ | refine blk_alloc ?_ _)); exact BK202.out)⟩, ⟨(y15 HI0.out NB0_195.out NB0_202.out)⟩, ⟨(y11 HK.out GW195.out GW202.out)⟩, ⟨(y12 HB.out HI0.out GE195.out GE202.out)⟩⟩
    ·rw [if_neg c15] at H
     have c15b0 : decide (x4_1 < 5) = false := decide_eq_false c15
     clear c15
     simp only [Option.some.injEq, Prod.mk.injEq] at H
     obtain ⟨rfl, rfl⟩ := H
     have hnb24 := NB202_195.out
     have hnc24 := NB195_202.out
     have hnb25 := NB202_0.out
     have hnc25 := NB0_202.out
     have hcz26_0 := zh BK202
     have hfz26_0 := zfr BK202 0
     obtain ⟨Ao27, co27, eo27⟩ := Kd.N_slice HO_203000.out
     subst eo27
     have hnb28 := NB195_0.out
     have hnc28 := NB0_195.out
     have hcz29_0 := zh BK195
     have hfz29_0 := zfr BK195 0
     go_wp2
     refine bodyPost_ret (results_cell_row rfl _ _ gb195 30 #[.slice Ao27 x203000_1.length co27] (0, 0) _ rfl (by (with_reducible repeat (first | refine blk_drewN ?_ _ | refine blk_drew ?_ | refine blk_alloc ?_ _)); apply blk_put (i := 0); (case h => exact y0 BK195.out); (case e => rfl)) Try.underlying30 rfl (by kernel_rfl)) rfl ?_
     exact ⟨_, y14, (by (with_reducible repeat (first | apply Kd.N_alloc | apply Kd.N_drewN | apply Kd.N_drew)); exact Kd.N_mono (Kd.N_far (p := ⟨gb195, 0, none⟩) (Kd.N_mono HO_203000.out (fun k_ hk => (⟨hk, hk.2.1⟩ : _ ∧ k_ ≠ gb195))) (fun _ hk => hk.2) (.slice Ao27 x203000_1.length co27)) (fun _ hk => hk.1.1)), (y15 HI0.out NB0_195.out NB0_202.out), (y12 HB.out HI0.out GE195.out GE202.out), (y11 HK.out GW195.out GW202.out)⟩
 ·rw [if_neg c5] at H
  have c5b0 : (t203 == 0) = false := beq_eq_false_iff_ne.mpr c5
  have c5b1 : (t203 != 0) = true := bne_iff_ne.mpr c5
  by_cases c30 : t203 = 1
  ·rw [if_pos c30] at H
   have c30b0 : (t203 == 1) = true := beq_iff_eq.mpr c30
   have c30b1 : (t203 != 1) = false := bne_eq_false_iff_eq.mpr c30
   clear c30
   by_cases c31 : t198.length < 5864062014805
   ·rw [if_pos c31] at H
    have LMc31 := Aside0.mk c31
    clear c31
    obtain ⟨y208, hy208⟩ : ∃ y_ : List (S30), y_ = (t198 ++ [(⟨([] : List (S30))⟩ : S30)]) := ⟨_, rfl⟩
    replace H : (some (y208, t204)) = some (r1, r2) := by first | (rw [hy208]; with_reducible exact H) | (have H2_ := (Option.bind_some _ _).symm.trans H; rw [hy208]; with_reducible exact H2_) | (have H2_ := (Option.bind_some _ _).symm.trans H; with_reducible exact H2_) | with_reducible exact H | (rw [hy208]; exact H) | exact H
    have Ny208 := Aside0.mk hy208
    clear hy208
    simp only [Option.some.injEq, Prod.mk.injEq] at H
    obtain ⟨rfl, rfl⟩ := H
    go_enter Try.func51, Try.ntmps51
    go_wp2_with (first | ((with_reducible refine gate_dst (N := 2) rfl ?_); refine zbx 2 #[.slice none 0 0] 30 ?_; intro gb195 hg w32 hbox hb; replace HB := Aside0.mk (below_step (y33 HB.out HI0.out) hb); have BK195 := Aside0.mk hbox; have GW195 := Aside0.mk ((by rw [hg]; exact (keep_size (w := w) (g := g) (row := none) (y25 HK.out)) : w.heap.size ≤ gb195)); have GE195 := Aside0.mk ((Nat.le_trans HW0.out (by rw [hg]; exact (keep_size (w := w) (g := g) (row := none) (y25 HK.out)) : w.heap.size ≤ gb195) : w0.heap.size ≤ gb195)); replace HK := Aside0.mk (KeepBut.trans (y25 HK.out) (KeepBut.of_below hb g none) (.inl rfl)); have NB0_195 := Aside0.mk ((by rw [hg]; exact Nat.ne_of_lt (IsS95.lt (show IsS95 w0 _ g s0_0 s0_1 from by repeat (first | (with_reducible first | exact HI0.out | apply IsS95.alloc | apply IsS95.drewN | apply IsS95.drew | apply IsS95.set_1) | exact HI0.out))) : g ≠ gb195)); have NB195_0 := Aside0.mk ((by rw [hg]; exact Nat.ne_of_gt (IsS95.lt (show IsS95 w0 _ g s0_0 s0_1 from by repeat (first | (with_reducible first | exact HI0.out | apply IsS95.alloc | apply IsS95.drewN | apply IsS95.drew | apply IsS95.set_1) | exact HI0.out))) : gb195 ≠ g)); replace HI0 := Aside0.mk (IsS95.below (y35 HI0.out) hb); clear hb hbox hg) | ((with_reducible refine gate_callee (f := 58) rfl ?_); refine goesL_ (some 7) rfl rfl Try.func58 (by kernel_rfl) rfl #[.pointer (some ⟨g, 0, none⟩), .int .i64 4] rfl y4 ?_; (with_reducible refine (spec_l6Rd_pick.calls k g s0_0 s0_1 4 t196 t197 w0 _ ?side1 ?side2 A2.out).mono ?_); (case side1 => exact y24 HI0.out NB0_195.out); (case side2 => exact y23 HB.out HI0.out GE195.out); rintro e w33 ⟨rfl, hi, hb, hk⟩; refine ⟨_, rfl, ?_⟩; replace BK195 := Aside0.mk (KeepBut.blk hk (g' := gb195) (o := .cells #[.slice none 0 0] 30 (0, 0)) (y0 BK195.out) NB195_0.out (by simp)); replace HK := Aside0.mk (KeepBut.trans (y18 HK.out GW195.out) hk (.inl rfl)); replace HB := Aside0.mk (hb); replace HI0 := Aside0.mk (hi); (try clear hb); (try clear hb2); (try clear hk); (try clear hi)) | ((with_reducible refine gate_callee (f := 67) rfl ?_); refine goesL_ (some 9) rfl rfl Try.func67 (by kernel_rfl) rfl #[.pointer (some ⟨g, 0, none⟩), .int .i64 (wrap64 (1 + t196))] rfl y4 ?_; (with_reducible refine (spec_l71Type.calls k g s0_0 t197 (wrap64 (1 + t196)) t198 t201 w0 _ ?side1 ?side2 A3.out).mono ?_); (case side1 => exact y24 HI0.out NB0_195.out); (case side2 => exact y23 HB.out HI0.out GE195.out); rintro e w34 ⟨v199, rfl, ho0, hi, hb, hk⟩; refine ⟨_, rfl, ?_⟩; have HO200 := Aside0.mk (Kd.N_lower (Kd.N_mono (ok' := fun k_ => (w.heap.size ≤ k_) ∧ k_ ≠ gb195 ∧ k_ ≠ g) ho0 (fun k_ hk_ => ⟨(Nat.le_trans (keep_size (w := w) (g := g) (row := none) (y18 HK.out GW195.out)) hk_), (Kd.freshB (g := gb195) (o := .cells #[.slice none 0 0] 30 (0, 0)) (y0 BK195.out) k_ hk_), (IsS95.fresh (y24 HI0.out NB0_195.out) k_ hk_)⟩)) (keep_size (w := w) (g := g) (row := none) (y18 HK.out GW195.out))); replace BK195 := Aside0.mk (KeepBut.blk hk (g' := gb195) (o := .cells #[.slice none 0 0] 30 (0, 0)) (y0 BK195.out) NB195_0.out (by simp)); replace HK := Aside0.mk (KeepBut.trans (y18 HK.out GW195.out) hk (.inl rfl)); replace HB := Aside0.mk (hb); replace HI0 := Aside0.mk (hi); (try clear hb); (try clear hb2); (try clear hk); (try clear hi); (try clear ho0)) | ((with_reducible refine gate_dst (N := 3) rfl ?_); refine zbx 3 #[.slice none 0 0] 30 ?_; intro gb202 hg w35 hbox hb; replace HO200 := Aside0.mk (Kd.N_below (Kd.N_elderB (y9 HO200.out) gb202 (Nat.le_of_eq hg.symm)) hb); replace HB := Aside0.mk (below_step (y23 HB.out HI0.out GE195.out) hb); have BK202 := Aside0.mk hbox; have GW202 := Aside0.mk ((by rw [hg]; exact (keep_size (w := w) (g := g) (row := none) (y18 HK.out GW195.out)) : w.heap.size ≤ gb202)); have GE202 := Aside0.mk ((Nat.le_trans HW0.out (by rw [hg]; exact (keep_size (w := w) (g := g) (row := none) (y18 HK.out GW195.out)) : w.heap.size ≤ gb202) : w0.heap.size ≤ gb202)); replace HK := Aside0.mk (KeepBut.trans (y18 HK.out GW195.out) (KeepBut.of_below hb g none) (.inl rfl)); have NB195_202 := zltn hg BK195; have NB202_195 := zgtn hg BK195; replace BK195 := zbb BK195 hb; have NB0_202 := Aside0.mk ((by rw [hg]; exact Nat.ne_of_lt (IsS95.lt (show IsS95 w0 _ g s0_0 t201 from by repeat (first | (with_reducible first | exact HI0.out | apply IsS95.alloc | apply IsS95.drewN | apply IsS95.drew | apply IsS95.set_1 | refine IsS95.far ?_ NB0_195.out _) | exact HI0.out))) : g ≠ gb202)); have NB202_0 := Aside0.mk ((by rw [hg]; exact Nat.ne_of_gt (IsS95.lt (show IsS95 w0 _ g s0_0 t201 from by repeat (first | (with_reducible first | exact HI0.out | apply IsS95.alloc | apply IsS95.drewN | apply IsS95.drew | apply IsS95.set_1 | refine IsS95.far ?_ NB0_195.out _) | exact HI0.out))) : gb202 ≠ g)); replace HI0 := Aside0.mk (IsS95.below (y24 HI0.out NB0_195.out) hb); clear hb hbox hg; obtain ⟨Ao36, co36, eo36⟩ := Kd.N_slice HO200.out; subst eo36; have hnb37 := NB202_195.out; have hnc37 := NB195_202.out; have hnb38 := NB202_0.out; have hnc38 := NB0_202.out; have hcz39_0 := zh BK202; have hfz39_0 := zfr BK202 0) | ((with_reducible refine gate_callee (f := 58) rfl ?_); refine goesL_ (some 11) rfl rfl Try.func58 (by kernel_rfl) rfl #[.pointer (some ⟨g, 0, none⟩), .int .i64 12] rfl y4 ?_; (with_reducible refine (spec_l6Rd_pick.calls k g s0_0 t201 12 t203 t204 w0 _ ?side1 ?side2 A4.out).mono ?_); (case side1 => exact y15 HI0.out NB0_195.out NB0_202.out); (case side2 => exact y12 HB.out HI0.out GE195.out GE202.out); rintro e w40 ⟨rfl, hi, hb, hk⟩; refine ⟨_, rfl, ?_⟩; replace BK195 := Aside0.mk (KeepBut.blk hk (g' := gb195) (o := .cells #[.slice none 0 0] 30 (0, 0)) (y21 NB195_202.out BK195.out) NB195_0.out (by simp)); replace HO200 := Aside0.mk (Kd.N_mono (Kd.N_keep (Kd.N_mono (ok := fun k_ => ((((w.heap.size ≤ k_)) ∧ (k_ ≠ gb195 ∧ k_ ≠ g)) ∧ k_ ≠ gb202)) (by (with_reducible repeat (first | apply Kd.N_alloc | apply Kd.N_drewN | apply Kd.N_drew)); exact (Kd.N_mono (Kd.N_far (p := ⟨gb202, 0, none⟩) (Kd.N_mono HO200.out (fun k_ hk => (⟨hk, hk.2⟩ : _ ∧ k_ ≠ gb202))) (fun _ hk => hk.2) (.slice Ao36 t198.length co36)) (fun _ h_ => h_.1))) (fun k_ hk_ => (⟨hk_, hk_.1.2.2⟩ : _ ∧ k_ ≠ g))) hk (fun _ h => h.2)) (fun _ h => h.1)); replace BK202 := Aside0.mk (KeepBut.blk hk (g' := gb202) (o := .cells #[.slice Ao36 t198.length co36] 30 (0, 0)) (by (with_reducible repeat (first | refine blk_drewN ?_ _ | refine blk_drew ?_ | refine blk_alloc ?_ _)); apply blk_put (i := 0); (case h => exact y0 BK202.out); (case e => rfl)) NB202_0.out (by simp)); replace HK := Aside0.mk (KeepBut.trans (y11 HK.out GW195.out GW202.out) hk (.inl rfl)); replace HB := Aside0.mk (hb); replace HI0 := Aside0.mk (hi); (try clear hb); (try clear hb2); (try clear hk); (try clear hi); have hcz41_0 := zh BK202; have hfz41_0 := zfr BK202 0) | ((with_reducible refine gate_builtin (b := .append) (xs := #[.tmp 25, .tmp 27]) rfl ?_); at_builtin; refine Kd.N_append k30 w.heap.size rfl (.tmp 25) (.tmp 27) 28 30 (.agg #[(.slice none 0 0)]) 24 rfl Try.underlying28 info30 rfl (by decide) (by omega) (.slice Ao36 t198.length co36) t198 (⟨([] : List (S30))⟩ : S30) [.slice none 0 0] (fun k_ => (w.heap.size ≤ k_) ∧ k_ ≠ gb195 ∧ k_ ≠ gb202 ∧ k_ ≠ g) (fun k_ => ((fun k_ => (w.heap.size ≤ k_) ∧ k_ ≠ gb195 ∧ k_ ≠ gb202 ∧ k_ ≠ g)) k_ ∧ some k_ ≠ (.slice Ao36 t198.length co36 : Value).ownBlock) rfl rfl ?aP (fun _ hk => hk) ?aF ?aO (Below.refl _ _) ?aS ?aL ?_; (case aP => exact (k30_mkF _ _ (⟨([] : List (S30))⟩ : S30) (Nat.le_refl _) (Kd.F_nil _ _ _))); (case aF => exact (fun k_ hk => ⟨(Nat.le_trans (keep_size (w := w) (g := g) (row := none) (y11 HK.out GW195.out GW202.out)) hk), Kd.freshB (g := gb195) (o := .cells #[.slice none 0 0] 30 (0, 0)) (y0 BK195.out) k_ hk, Kd.freshB (g := gb202) (o := .cells #[.slice Ao36 t198.length co36] 30 (0, 0)) (y0 BK202.out) k_ hk, IsS95.fresh (y15 HI0.out NB0_195.out NB0_202.out) k_ hk⟩)); (case aO => exact (y78 HO200.out)); (case aS => exact (keep_size (w := w) (g := g) (row := none) (y11 HK.out GW195.out GW202.out))); (case aL => exact y46 LMc31.out); intro v209 w42 ho hb hg hat; rw [← Ny208.out] at ho; replace BK195 := Aside0.mk (blk_grown (g := gb195) (o := .cells #[.slice none 0 0] 30 (0, 0)) (y0 BK195.out) hg (Kd.N_away HO200.out (fun _ hk => hk.1.2.1))); replace BK202 := Aside0.mk (blk_grown (g := gb202) (o := .cells #[.slice Ao36 t198.length co36] 30 (0, 0)) (y0 BK202.out) hg (Kd.N_away HO200.out (fun _ hk => hk.2))); replace HB := Aside0.mk (below_weaken (y12 HB.out HI0.out GE195.out GE202.out) HL.out hb); replace HI0 := Aside0.mk (IsS95.grown (y15 HI0.out NB0_195.out NB0_202.out) hg (IsS95.own_neN HI0.out HO200.out (by decide))); replace HK := Aside0.mk (KeepBut.trans (y11 HK.out GW195.out GW202.out) (KeepBut.of_grown hg g) (Kd.N_base2 HO200.out)); have HO210 := Aside0.mk (ho); clear HO200; clear ho hb hg hat; obtain ⟨Ao43, co43, eo43⟩ := Kd.N_slice HO210.out; subst eo43; have hcz44_0 := zh BK202; have hfz44_0 := zfr BK202 0; have hnb45 := NB195_0.out; have hnc45 := NB0_195.out; have hcz46_0 := zh BK195; have hfz46_0 := zfr BK195 0))
    refine bodyPost_ret (results_cell_row rfl _ _ gb195 30 #[.slice Ao43 y208.length co43] (0, 0) _ rfl (by (with_reducible repeat (first | refine blk_drewN ?_ _ | refine blk_drew ?_ | refine blk_alloc ?_ _)); refine blk_put (cs := #[.slice none 0 0]) ?_ 0 _ rfl; (with_reducible repeat (first | refine blk_drewN ?_ _ | refine blk_drew ?_ | refine blk_alloc ?_ _)); refine blk_far ?_ NB195_202.out _; (with_reducible repeat (first | refine blk_drewN ?_ _ | refine blk_drew ?_ | refine blk_alloc ?_ _)); exact BK195.out) Try.underlying30 rfl (by kernel_rfl)) rfl ?_
    exact ⟨_, y14, (by (with_reducible repeat (first | apply Kd.N_alloc | apply Kd.N_drewN | apply Kd.N_drew)); exact Kd.N_mono (Kd.N_far (p := ⟨gb195, 0, none⟩) (Kd.N_far (p := ⟨gb202, 0, none⟩) (Kd.N_mono (Kd.N_mono HO210.out (fun k_ hk => (⟨hk, hk.2.2.1⟩ : _ ∧ k_ ≠ gb202))) (fun k_ hk => (⟨hk, hk.1.2.1⟩ : _ ∧ k_ ≠ gb195))) (fun _ hk => hk.1.2) (.slice Ao43 y208.length co43)) (fun _ hk => hk.2) (.slice Ao43 y208.length co43)) (fun _ hk => hk.1.1.1)), (y15 HI0.out NB0_195.out NB0_202.out), (y12 HB.out HI0.out GE195.out GE202.out), (y11 HK.out GW195.out GW202.out)⟩
   ·rw [if_neg c31] at H
    exact absurd H (by simp)
  ·rw [if_neg c30] at H
   have c30b0 : (t203 == 1) = false := beq_eq_false_iff_ne.mpr c30
   have c30b1 : (t203 != 1) = true := bne_iff_ne.mpr c30
   simp only [Option.some.injEq, Prod.mk.injEq] at H
   obtain ⟨rfl, rfl⟩ := H
   go_enter Try.func51, Try.ntmps51
   go_wp2_with (first | ((with_reducible refine gate_dst (N := 2) rfl ?_); refine zbx 2 #[.slice none 0 0] 30 ?_; intro gb195 hg w47 hbox hb; replace HB := Aside0.mk (below_step (y33 HB.out HI0.out) hb); have BK195 := Aside0.mk hbox; have GW195 := Aside0.mk ((by rw [hg]; exact (keep_size (w := w) (g := g) (row := none) (y25 HK.out)) : w.heap.size ≤ gb195)); have GE195 := Aside0.mk ((Nat.le_trans HW0.out (by rw [hg]; exact (keep_size (w := w) (g := g) (row := none) (y25 HK.out)) : w.heap.size ≤ gb195) : w0.heap.size ≤ gb195)); replace HK := Aside0.mk (KeepBut.trans (y25 HK.out) (KeepBut.of_below hb g none) (.inl rfl)); have NB0_195 := Aside0.mk ((by rw [hg]; exact Nat.ne_of_lt (IsS95.lt (show IsS95 w0 _ g s0_0 s0_1 from by repeat (first | (with_reducible first | exact HI0.out | apply IsS95.alloc | apply IsS95.drewN | apply IsS95.drew | apply IsS95.set_1) | exact HI0.out))) : g ≠ gb195)); have NB195_0 := Aside0.mk ((by rw [hg]; exact Nat.ne_of_gt (IsS95.lt (show IsS95 w0 _ g s0_0 s0_1 from by repeat (first | (with_reducible first | exact HI0.out | apply IsS95.alloc | apply IsS95.drewN | apply IsS95.drew | apply IsS95.set_1) | exact HI0.out))) : gb195 ≠ g)); replace HI0 := Aside0.mk (IsS95.below (y35 HI0.out) hb); clear hb hbox hg) | ((with_reducible refine gate_callee (f := 58) rfl ?_); refine goesL_ (some 7) rfl rfl Try.func58 (by kernel_rfl) rfl #[.pointer (some ⟨g, 0, none⟩), .int .i64 4] rfl y4 ?_; (with_reducible refine (spec_l6Rd_pick.calls k g s0_0 s0_1 4 t196 t197 w0 _ ?side1 ?side2 A2.out).mono ?_); (case side1 => exact y24 HI0.out NB0_195.out); (case side2 => exact y23 HB.out HI0.out GE195.out); rintro e w48 ⟨rfl, hi, hb, hk⟩; refine ⟨_, rfl, ?_⟩; replace BK195 := Aside0.mk (KeepBut.blk hk (g' := gb195) (o := .cells #[.slice none 0 0] 30 (0, 0)) (y0 BK195.out) NB195_0.out (by simp)); replace HK := Aside0.mk (KeepBut.trans (y18 HK.out GW195.out) hk (.inl rfl)); replace HB := Aside0.mk (hb); replace HI0 := Aside0.mk (hi); (try clear hb); (try clear hb2); (try clear hk); (try clear hi)) | ((with_reducible refine gate_callee (f := 67) rfl ?_); refine goesL_ (some 9) rfl rfl Try.func67 (by kernel_rfl) rfl #[.pointer (some ⟨g, 0, none⟩), .int .i64 (wrap64 (1 + t196))] rfl y4 ?_; (with_reducible refine (spec_l71Type.calls k g s0_0 t197 (wrap64 (1 + t196)) t198 t201 w0 _ ?side1 ?side2 A3.out).mono ?_); (case side1 => exact y24 HI0.out NB0_195.out); (case side2 => exact y23 HB.out HI0.out GE195.out); rintro e w49 ⟨v199, rfl, ho0, hi, hb, hk⟩; refine ⟨_, rfl, ?_⟩; have HO200 := Aside0.mk (Kd.N_lower (Kd.N_mono (ok' := fun k_ => (w.heap.size ≤ k_) ∧ k_ ≠ gb195 ∧ k_ ≠ g) ho0 (fun k_ hk_ => ⟨(Nat.le_trans (keep_size (w := w) (g := g) (row := none) (y18 HK.out GW195.out)) hk_), (Kd.freshB (g := gb195) (o := .cells #[.slice none 0 0] 30 (0, 0)) (y0 BK195.out) k_ hk_), (IsS95.fresh (y24 HI0.out NB0_195.out) k_ hk_)⟩)) (keep_size (w := w) (g := g) (row := none) (y18 HK.out GW195.out))); replace BK195 := Aside0.mk (KeepBut.blk hk (g' := gb195) (o := .cells #[.slice none 0 0] 30 (0, 0)) (y0 BK195.out) NB195_0.out (by simp)); replace HK := Aside0.mk (KeepBut.trans (y18 HK.out GW195.out) hk (.inl rfl)); replace HB := Aside0.mk (hb); replace HI0 := Aside0.mk (hi); (try clear hb); (try clear hb2); (try clear hk); (try clear hi); (try clear ho0)) | ((with_reducible refine gate_dst (N := 3) rfl ?_); refine zbx 3 #[.slice none 0 0] 30 ?_; intro gb202 hg w50 hbox hb; replace HO200 := Aside0.mk (Kd.N_below (Kd.N_elderB (y9 HO200.out) gb202 (Nat.le_of_eq hg.symm)) hb); replace HB := Aside0.mk (below_step (y23 HB.out HI0.out GE195.out) hb); have BK202 := Aside0.mk hbox; have GW202 := Aside0.mk ((by rw [hg]; exact (keep_size (w := w) (g := g) (row := none) (y18 HK.out GW195.out)) : w.heap.size ≤ gb202)); have GE202 := Aside0.mk ((Nat.le_trans HW0.out (by rw [hg]; exact (keep_size (w := w) (g := g) (row := none) (y18 HK.out GW195.out)) : w.heap.size ≤ gb202) : w0.heap.size ≤ gb202)); replace HK := Aside0.mk (KeepBut.trans (y18 HK.out GW195.out) (KeepBut.of_below hb g none) (.inl rfl)); have NB195_202 := zltn hg BK195; have NB202_195 := zgtn hg BK195; replace BK195 := zbb BK195 hb; have NB0_202 := Aside0.mk ((by rw [hg]; exact Nat.ne_of_lt (IsS95.lt (show IsS95 w0 _ g s0_0 t201 from by repeat (first | (with_reducible first | exact HI0.out | apply IsS95.alloc | apply IsS95.drewN | apply IsS95.drew | apply IsS95.set_1 | refine IsS95.far ?_ NB0_195.out _) | exact HI0.out))) : g ≠ gb202)); have NB202_0 := Aside0.mk ((by rw [hg]; exact Nat.ne_of_gt (IsS95.lt (show IsS95 w0 _ g s0_0 t201 from by repeat (first | (with_reducible first | exact HI0.out | apply IsS95.alloc | apply IsS95.drewN | apply IsS95.drew | apply IsS95.set_1 | refine IsS95.far ?_ NB0_195.out _) | exact HI0.out))) : gb202 ≠ g)); replace HI0 := Aside0.mk (IsS95.below (y24 HI0.out NB0_195.out) hb); clear hb hbox hg; obtain ⟨Ao51, co51, eo51⟩ := Kd.N_slice HO200.out; subst eo51; have hnb52 := NB202_195.out; have hnc52 := NB195_202.out; have hnb53 := NB202_0.out; have hnc53 := NB0_202.out; have hcz54_0 := zh BK202; have hfz54_0 := zfr BK202 0) | ((with_reducible refine gate_callee (f := 58) rfl ?_); refine goesL_ (some 11) rfl rfl Try.func58 (by kernel_rfl) rfl #[.pointer (some ⟨g, 0, none⟩), .int .i64 12] rfl y4 ?_; (with_reducible refine (spec_l6Rd_pick.calls k g s0_0 t201 12 t203 t204 w0 _ ?side1 ?side2 A4.out).mono ?_); (case side1 => exact y15 HI0.out NB0_195.out NB0_202.out); (case side2 => exact y12 HB.out HI0.out GE195.out GE202.out); rintro e w55 ⟨rfl, hi, hb, hk⟩; refine ⟨_, rfl, ?_⟩; replace BK195 := Aside0.mk (KeepBut.blk hk (g' := gb195) (o := .cells #[.slice none 0 0] 30 (0, 0)) (y21 NB195_202.out BK195.out) NB195_0.out (by simp)); replace HO200 := Aside0.mk (Kd.N_mono (Kd.N_keep (Kd.N_mono (ok := fun k_ => ((((w.heap.size ≤ k_)) ∧ (k_ ≠ gb195 ∧ k_ ≠ g)) ∧ k_ ≠ gb202)) (by (with_reducible repeat (first | apply Kd.N_alloc | apply Kd.N_drewN | apply Kd.N_drew)); exact (Kd.N_mono (Kd.N_far (p := ⟨gb202, 0, none⟩) (Kd.N_mono HO200.out (fun k_ hk => (⟨hk, hk.2⟩ : _ ∧ k_ ≠ gb202))) (fun _ hk => hk.2) (.slice Ao51 t198.length co51)) (fun _ h_ => h_.1))) (fun k_ hk_ => (⟨hk_, hk_.1.2.2⟩ : _ ∧ k_ ≠ g))) hk (fun _ h => h.2)) (fun _ h => h.1)); replace BK202 := Aside0.mk (KeepBut.blk hk (g' := gb202) (o := .cells #[.slice Ao51 t198.length co51] 30 (0, 0)) (by (with_reducible repeat (first | refine blk_drewN ?_ _ | refine blk_drew ?_ | refine blk_alloc ?_ _)); apply blk_put (i := 0); (case h => exact y0 BK202.out); (case e => rfl)) NB202_0.out (by simp)); replace HK := Aside0.mk (KeepBut.trans (y11 HK.out GW195.out GW202.out) hk (.inl rfl)); replace HB := Aside0.mk (hb); replace HI0 := Aside0.mk (hi); (try clear hb); (try clear hb2); (try clear hk); (try clear hi); have hcz56_0 := zh BK202; have hfz56_0 := zfr BK202 0; have hnb57 := NB195_0.out; have hnc57 := NB0_195.out; have hcz58_0 := zh BK195; have hfz58_0 := zfr BK195 0))
   refine bodyPost_ret (results_cell_row rfl _ _ gb195 30 #[.slice Ao51 t198.length co51] (0, 0) _ rfl (by (with_reducible repeat (first | refine blk_drewN ?_ _ | refine blk_drew ?_ | refine blk_alloc ?_ _)); apply blk_put (i := 0); (case h => exact y0 BK195.out); (case e => rfl)) Try.underlying30 rfl (by kernel_rfl)) rfl ?_
   exact ⟨_, y14, (by (with_reducible repeat (first | apply Kd.N_alloc | apply Kd.N_drewN | apply Kd.N_drew)); exact Kd.N_mono (Kd.N_far (p := ⟨gb195, 0, none⟩) (Kd.N_mono HO200.out (fun k_ hk => (⟨hk, hk.1.2.1⟩ : _ ∧ k_ ≠ gb195))) (fun _ hk => hk.2) (.slice Ao51 t198.length co51)) (fun _ hk => hk.1.1.1)), (y15 HI0.out NB0_195.out NB0_202.out), (y12 HB.out HI0.out GE195.out GE202.out), (y11 HK.out GW195.out GW202.out)⟩
end Go.Proofs.Ytjhbhihfifhljaa.PA
end
section
namespace Go.Proofs.Ytjhbhihfifhljaa.PA
open Go.RowKit Go.Proofs.YtjhbhihfifhljaaW.PrintWords Go.Proofs.YtjhbhihfifhljaaW.PrintLast Go.Proofs.YtjhbhihfifhljaaW.PrintMore
attribute [local go_sem] max2_int min2_int max_two min_two max_three min_three max_four min_four
set_option linter.unusedVariables false
set_option linter.unusedSimpArgs false
def spec_l1Say.f : Nat → List (S30) → Option (ByteArray)
 | 0, _ => none
 | k + 1, l0_0 => if (l0_0.length : Int) = 0 then (some (⟨#[105]⟩ : ByteArray)) else (if 0 < (l0_0.length : Int) then ((spec_l1Say.f k ((rd_T30 l0_0 0).f0)).bind fun t307 => (if 1 + t307.size ≤ 9223372036854775807 then (if 1 + t307.size + 1 ≤ 9223372036854775807 then (if 1 < (l0_0.length : Int) then ((spec_l1Say.f k ((rd_T30 l0_0 1).f0)).bind fun t309 => (if 1 + t307.size + 1 + t309.size ≤ 9223372036854775807 then (if 1 + t307.size + 1 + t309.size + 1 ≤ 9223372036854775807 then (some (((((⟨#[40]⟩ : ByteArray) ++ t307) ++ (⟨#[44]⟩ : ByteArray)) ++ t309) ++ (⟨#[41]⟩ : ByteArray))) else (none)) else (none))) else (none)) else (none)) else (none))) else (none))
theorem spec_l1Say.mono_l : ∀ k, (∀ y0, LeO (spec_l1Say.f k y0) (spec_l1Say.f (k + 1) y0))
 | 0 => fun _ r h => by simp [spec_l1Say.f] at h
 | k + 1 => by
  have ih0 := spec_l1Say.mono_l k
  ·intro y0
   unfold spec_l1Say.f
   repeat' first
   | (with_reducible exact ih0 _)
   | (with_reducible exact LeO.refl _)
   | (with_reducible exact LeO.none _)
   | (with_reducible refine LeO.ite ?_ ?_)
   | (with_reducible refine LeO.bind ?_ (fun _ => ?_))
   | exact ih0 _
   | exact LeO.none _
   | refine LeO.ite ?_ ?_
   | refine LeO.bind ?_ (fun _ => ?_)
theorem spec_l1Say.mono : ∀ a0 k, LeO (spec_l1Say.f k a0) (spec_l1Say.f (k + 1) a0) := by
 intro a0 k
 have ih0 := spec_l1Say.mono_l k
 exact ih0 a0
def spec_l1Say.T3 : Bool × List (List Nat × List Nat) := (true, [([], []), ([0], [0]), ([1], [1]), ([2], [2]), ([3], [3]), ([4], [4]), ([5], [5]), ([], []), ([7], [7]), ([8], [8]), ([9], [9]), ([10, 4], [10]), ([6, 11], [6, 11]), ([12], [12]), ([13, 11, 0, 1, 2, 3, 4, 5, 6, 7, 8, 9, 10, 11, 12, 13], [13])])
def spec_l1Say.B3 : List Nat := [0, 1, 3, 7, 15, 31, 63, 0, 128, 384, 896, 1951, 4095, 8191, 16383]
theorem spec_l1Say.tab3 : rtab .any (opsOf Try.f55 3) = spec_l1Say.T3 := by kernel_rfl
theorem spec_l1Say.bits3 : waitsOk spec_l1Say.T3.2 spec_l1Say.B3 = true := by kernel_rfl
set_option maxHeartbeats 8000000 in
set_option maxRecDepth 100000 in
theorem spec_l1Say.calls (k : Nat) : ∀ (A0_0 : Option Addr) (c0_0 : Nat) (l0_0 : List (S30)) (r : ByteArray) (w : World) (hr0_0 : Kd.C k30 w A0_0 l0_0.length l0_0) (hc0_0 : l0_0.length ≤ c0_0) (h : spec_l1Say.f k l0_0 = some r),
  Calls Try.prog 55 #[.agg #[.slice A0_0 l0_0.length c0_0]] w fun e w' => e = .returned (.string r) ∧ Below w.heap.size w w' := by
 induction k using Nat.strongRecOn with
 | _ k ih =>
 intro A0_0 c0_0 l0_0 r w hr0_0 hc0_0 h
 cases k with
 | zero => exact absurd h (by simp [spec_l1Say.f])
 | succ k =>
 simp only [spec_l1Say.f] at h
 have hu30 := Try.underlying30
 have HR0_0 := Aside0.mk hr0_0
 have HC0_0 := Aside0.mk hc0_0
 clear hr0_0 hc0_0
 have HB := Aside0.mk (Below.refl w.heap.size w)
 have H : (if (l0_0.length : Int) = 0 then (some (⟨#[105]⟩ : ByteArray)) else (if 0 < (l0_0.length : Int) then ((spec_l1Say.f k ((rd_T30 l0_0 0).f0)).bind fun t307 => (if 1 + t307.size ≤ 9223372036854775807 then (if 1 + t307.size + 1 ≤ 9223372036854775807 then (if 1 < (l0_0.length : Int) then ((spec_l1Say.f k ((rd_T30 l0_0 1).f0)).bind fun t309 => (if 1 + t307.size + 1 + t309.size ≤ 9223372036854775807 then (if 1 + t307.size + 1 + t309.size + 1 ≤ 9223372036854775807 then (some (((((⟨#[40]⟩ : ByteArray) ++ t307) ++ (⟨#[44]⟩ : ByteArray)) ++ t309) ++ (⟨#[41]⟩ : ByteArray))) else (none)) else (none))) else (none)) else (none)) else (none))) else (none))) = some r := h
 clear h
 by_cases c2 : (l0_0.length : Int) = 0
 ·rw [if_pos c2] at H
  have c2b0 : ((l0_0.length : Int) == 0) = true := beq_iff_eq.mpr c2
  have c2b1 : ((l0_0.length : Int) != 0) = false := bne_eq_false_iff_eq.mpr c2
  clear c2
  obtain rfl := Option.some.inj H
  go_enter Try.func55, Try.ntmps55
  go_wp2_with (first | ((with_reducible refine gate_dst (N := 1) rfl ?_); refine zbx 1 #[.slice A0_0 l0_0.length c0_0] 30 ?_; intro gb305 hg w3 hbox hb; have BK305 := Aside0.mk hbox; have GW305 := Aside0.mk ((y5 hg HB.out : w.heap.size ≤ gb305)); have GE305 := Aside0.mk ((y5 hg HB.out : w.heap.size ≤ gb305)); replace HB := Aside0.mk (below_step (y2 HB.out) hb); clear hb hbox hg; have hcz4_0 := zh BK305; have hfz4_0 := zfr BK305 0))
  go_ret
  exact ⟨y14, (y3 HB.out GE305.out)⟩
 ·rw [if_neg c2] at H
  have c2b0 : ((l0_0.length : Int) == 0) = false := beq_eq_false_iff_ne.mpr c2
  have c2b1 : ((l0_0.length : Int) != 0) = true := bne_iff_ne.mpr c2
  have c2b2 : ¬ (l0_0 = []) := fun h_ => c2 (by rw [h_]; rfl)
  by_cases c5 : 0 < (l0_0.length : Int)
  ·rw [if_pos c5] at H
   have c5b0 : decide (0 < (l0_0.length : Int)) = true := decide_eq_true c5
   have c5b1 : decide (0 < l0_0.length) = true := decide_eq_true (by omega)
   clear c5
   obtain ⟨t307, A60, H⟩ := ob H
   have A6 := Aside0.mk A60
   clear A60
   by_cases c7 : 1 + t307.size ≤ 9223372036854775807
   ·rw [if_pos c7] at H
    have c7b0 := eq_true c7
    have c7b1 : decide (1 + t307.size ≤ 9223372036854775807) = true := decide_eq_true c7
    try have c7b2 : (9223372036854775807 < 1 + t307.size) = False := eq_false (Nat.not_lt.2 c7)
    by_cases c8 : 1 + t307.size + 1 ≤ 9223372036854775807
    ·rw [if_pos c8] at H
     have c8b0 := eq_true c8
     have c8b1 : decide (1 + t307.size + 1 ≤ 9223372036854775807) = true := decide_eq_true c8
     try have c8b2 : (9223372036854775807 < 1 + t307.size + 1) = False := eq_false (Nat.not_lt.2 c8)
     by_cases c9 : 1 < (l0_0.length : Int)
     ·rw [if_pos c9] at H
      have c9b0 : decide (1 < (l0_0.length : Int)) = true := decide_eq_true c9
      have c9b1 : decide (1 < l0_0.length) = true := decide_eq_true (by omega)
      clear c9
      obtain ⟨t309, A100, H⟩ := ob H
      have A10 := Aside0.mk A100
      clear A100
      by_cases c11 : 1 + t307.size + 1 + t309.size ≤ 9223372036854775807
      ·rw [if_pos c11] at H
       have c11b0 := eq_true c11
       have c11b1 : decide (1 + t307.size + 1 + t309.size ≤ 9223372036854775807) = true := decide_eq_true c11
       try have c11b2 : (9223372036854775807 < 1 + t307.size + 1 + t309.size) = False := eq_false (Nat.not_lt.2 c11)
       by_cases c12 : 1 + t307.size + 1 + t309.size + 1 ≤ 9223372036854775807
       ·rw [if_pos c12] at H
        have c12b0 := eq_true c12
        have c12b1 : decide (1 + t307.size + 1 + t309.size + 1 ≤ 9223372036854775807) = true := decide_eq_true c12
        try have c12b2 : (9223372036854775807 < 1 + t307.size + 1 + t309.size + 1) = False := eq_false (Nat.not_lt.2 c12)
        obtain rfl := Option.some.inj H
        go_enter Try.func55, Try.ntmps55
        try go_wp2_with (first | ((with_reducible refine gate_dst (N := 1) rfl ?_); refine zbx 1 #[.slice A0_0 l0_0.length c0_0] 30 ?_; intro gb305 hg w13 hbox hb; have BK305 := Aside0.mk hbox; have GW305 := Aside0.mk ((y5 hg HB.out : w.heap.size ≤ gb305)); have GE305 := Aside0.mk ((y5 hg HB.out : w.heap.size ≤ gb305)); replace HB := Aside0.mk (below_step (y2 HB.out) hb); clear hb hbox hg; have hcz14_0 := zh BK305; have hfz14_0 := zfr BK305 0))
        replace BK305 := Aside0.mk (blk_drew BK305.out)
        replace HB := Aside0.mk (below_drew1 HB.out)
        have p306 : 0 ≤ (0 : Int) := (by omega)
        have q306 : 0 < (l0_0.length : Int) := of_decide_eq_true y19
        obtain ⟨ad306, A306_0, c306_0, e306, hx306_0, hl306_0, hi306_0⟩ := at_T30 HR0_0.out 0 p306 q306
        have hw306_0 := hx306_0
        (try rw [show ((0 : Int)).toNat = 0 from rfl] at hw306_0)
        (try rw [show 0 * 1 = 0 from rfl] at hw306_0)
        (try rw [Addr.add_zero'] at hw306_0)
        cases e306
        have qi306 : (0 < l0_0.length) = True := eq_true (by omega)
        (try rw [show ((0 : Int)).toNat = 0 from rfl] at hx306_0)
        (try rw [Addr.add_zero'] at hx306_0)
        replace hx306_0 := (HB.out.cell (World.block_lt_of_cell? w _ hx306_0)).trans hx306_0
        have HR306_0 := Aside0.mk hi306_0
        have HC306_0 := Aside0.mk hl306_0
        clear hi306_0 hl306_0
        replace p306 := eq_true p306
        replace q306 := eq_true q306
        have p308 : 0 ≤ (1 : Int) := (by omega)
        have q308 : 1 < (l0_0.length : Int) := of_decide_eq_true y19
        obtain ⟨ad308, A308_0, c308_0, e308, hx308_0, hl308_0, hi308_0⟩ := at_T30 HR0_0.out 1 p308 q308
        have hw308_0 := hx308_0
        (try rw [show ((1 : Int)).toNat = 1 from rfl] at hw308_0)
        (try rw [show 1 * 1 = 1 from rfl] at hw308_0)
        (try simp only [Nat.reduceMul, Nat.reduceEqDiff, Go.Addr.add, ↓reduceIte] at hw308_0)
        obtain rfl : ad306 = ad308 := (by injection e308)
        (try simp only [show (1 : Int).toNat = 1 from rfl, Nat.reduceMul, Nat.reduceEqDiff, Go.Addr.add, ↓reduceIte] at hx308_0)
        have qi308 : (1 < l0_0.length) = True := eq_true (by omega)
        (try rw [show ((1 : Int)).toNat = 1 from rfl] at hx308_0)
        replace hx308_0 := (HB.out.cell (World.block_lt_of_cell? w _ hx308_0)).trans hx308_0
        have HR308_0 := Aside0.mk hi308_0
        have HC308_0 := Aside0.mk hl308_0
        clear hi308_0 hl308_0
        replace p308 := eq_true p308
        replace q308 := eq_true q308
        refine start_ (n := 15) (S := fun w' => w'.cell? ⟨gb305, 0, none⟩ = some (.slice (some ad306) l0_0.length c0_0) ∧ w'.cell? ad306 = some (.slice A306_0 ((rd_T30 l0_0 0).f0).length c306_0) ∧ w'.cell? ⟨ad306.block, ad306.off + 1, none⟩ = some (.slice A308_0 ((rd_T30 l0_0 1).f0).length c308_0)) (ds := []) #[false, false, false, false, false, false, false, false, false, false, false, false, false, false, false] (by kernel_rfl) rfl rfl ⟨(blk_cell BK305.out 0).trans rfl, ((HB.out.cell (World.block_lt_of_cell? w _ hw306_0)).trans hw306_0), ((HB.out.cell (World.block_lt_of_cell? w _ hw308_0)).trans hw308_0)⟩ (fun hHeld => ?_); refine with_tabW spec_l1Say.tab3 spec_l1Say.bits3 (fun HT_ HW_ => ?_)
        generalize w13.drew = w15 at BK305 HB HR306_0 HR308_0 hx306_0 hx308_0 hHeld ⊢
        refine zp 0 (some 7) HT_ ?_
        refine zp 7 (some 14) HT_ ?_
        refine zt3 1 (some 8) HT_ HW_ hHeld ?_
        refine zp 2 (some 9) HT_ ?_
        refine zt3 3 (some 10) HT_ HW_ hHeld ?_
        refine zt3 8 (some 15) HT_ HW_ hHeld ?_
        refine zp 9 (some 16) HT_ ?_
        refine zt3 10 (some 17) HT_ HW_ hHeld ?_
        refine one_ (i := 4) (N := some 11) #[true, true, true, true, true, false, false, true, true, true, true, false, false, false, false] rfl rfl (one_of HT_.out (by kernel_rfl)) (by decide) (fun K hK => ?_)
        refine goes_ Try.func55 (by kernel_rfl) rfl #[.agg #[.slice A306_0 ((rd_T30 l0_0 0).f0).length c306_0]] (by rfl) rfl rfl y4 ?_
        with_reducible refine (ih k (by omega) _ _ ((rd_T30 l0_0 0).f0) t307 _ ?side1 ?side2 A6.out).mono ?_
        (case side1 => exact y8 HR306_0.out HB.out)
        (case side2 => exact HC306_0.out)
        rintro e w16 ⟨rfl, hb⟩
        refine ⟨_, rfl, ?_⟩
        replace BK305 := zbb BK305 hb
        replace HB := Aside0.mk (below_step (y3 HB.out GE305.out) hb)
        (try clear hb)
        (try clear hb2)
        (try clear hk)
        (try clear hi)
        refine hK.out _ _ ⟨(blk_cell BK305.out 0).trans rfl, ((HB.out.cell (World.block_lt_of_cell? w _ hw306_0)).trans hw306_0), ((HB.out.cell (World.block_lt_of_cell? w _ hw308_0)).trans hw308_0)⟩ (fun hHeld => ?_)
        clear hK K
        refine norm_ (a' := ?_) ?_ ?_
        rotate_left
        ·show Act.put _ (some 11) _ = _
         simp only [Act.put, List.setIfInBounds_toArray, List.set_cons_zero, List.set_cons_succ, i64_w, i32_w]
         rfl
        refine zp 5 (some 12) HT_ ?_
        refine zp 6 (some 13) HT_ ?_
        refine one_ (i := 11) (N := some 18) #[true, true, true, true, true, true, true, true, true, true, true, true, false, false, false] rfl rfl (one_of HT_.out (by kernel_rfl)) (by decide) (fun K hK => ?_)
        refine goes_ Try.func55 (by kernel_rfl) rfl #[.agg #[.slice A308_0 ((rd_T30 l0_0 1).f0).length c308_0]] (by rfl) rfl rfl y4 ?_
        with_reducible refine (ih k (by omega) _ _ ((rd_T30 l0_0 1).f0) t309 _ ?side1 ?side2 A10.out).mono ?_
        (case side1 => exact y8 HR308_0.out HB.out)
        (case side2 => exact HC308_0.out)
        rintro e w17 ⟨rfl, hb⟩
        refine ⟨_, rfl, ?_⟩
        replace BK305 := zbb BK305 hb
        replace HB := Aside0.mk (below_step (y3 HB.out GE305.out) hb)
        (try clear hb)
        (try clear hb2)
        (try clear hk)
        (try clear hi)
        refine hK.out _ _ ⟨(blk_cell BK305.out 0).trans rfl, ((HB.out.cell (World.block_lt_of_cell? w _ hw306_0)).trans hw306_0), ((HB.out.cell (World.block_lt_of_cell? w _ hw308_0)).trans hw308_0)⟩ (fun hHeld => ?_)
        clear hK K
        refine norm_ (a' := ?_) ?_ ?_
        rotate_left
        ·show Act.put _ (some 18) _ = _
         simp only [Act.put, List.setIfInBounds_toArray, List.set_cons_zero, List.set_cons_succ, i64_w, i32_w]
         rfl
        refine zp 12 (some 19) HT_ ?_
        refine zp 13 (some 20) HT_ ?_
        refine zp 14 (some 2) HT_ ?_
        refine done_ (done_of HT_.out (by kernel_rfl)) ?_
        try go_wp2
        go_ret
        exact ⟨y14, (y3 HB.out GE305.out)⟩
       ·rw [if_neg c12] at H
        exact absurd H (by simp)
      ·rw [if_neg c11] at H
       exact absurd H (by simp)
     ·rw [if_neg c9] at H
      exact absurd H (by simp)
    ·rw [if_neg c8] at H
     exact absurd H (by simp)
   ·rw [if_neg c7] at H
    exact absurd H (by simp)
  ·rw [if_neg c5] at H
   exact absurd H (by simp)
end Go.Proofs.Ytjhbhihfifhljaa.PA
end
section
namespace Go.Proofs.Ytjhbhihfifhljaa.PA
open Go.RowKit Go.Proofs.YtjhbhihfifhljaaW.PrintWords Go.Proofs.YtjhbhihfifhljaaW.PrintLast Go.Proofs.YtjhbhihfifhljaaW.PrintMore
attribute [local go_sem] max2_int min2_int max_two min_two max_three min_three max_four min_four
set_option linter.unusedVariables false
set_option linter.unusedSimpArgs false
def spec_TypeText.f (k : Nat) (l0_0 : List (S30)) : Option (ByteArray) := (spec_TypeOk.f k l0_0).bind fun t311 => (if t311 = true then ((spec_l1Say.f k l0_0).bind fun t312 => (some t312)) else (some (⟨#[]⟩ : ByteArray)))
theorem spec_TypeText.mono : ∀ a0 k, LeO (spec_TypeText.f k a0) (spec_TypeText.f (k + 1) a0) := by
 intro a0 k
 unfold spec_TypeText.f
 repeat' first
   | (with_reducible exact spec_TypeOk.mono _ _)
   | (with_reducible exact spec_l1Say.mono _ _)
   | (with_reducible exact LeO.refl _)
   | (with_reducible exact LeO.none _)
   | (with_reducible refine LeO.ite ?_ ?_)
   | (with_reducible refine LeO.bind ?_ (fun _ => ?_))
   | exact spec_TypeOk.mono _ _
   | exact spec_l1Say.mono _ _
   | exact LeO.none _
   | refine LeO.ite ?_ ?_
   | refine LeO.bind ?_ (fun _ => ?_)
set_option maxHeartbeats 8000000 in
set_option maxRecDepth 100000 in
theorem spec_TypeText.calls (k : Nat) (A0_0 : Option Addr) (c0_0 : Nat) (l0_0 : List (S30)) (r : ByteArray) (w : World) (hr0_0 : Kd.C k30 w A0_0 l0_0.length l0_0) (hc0_0 : l0_0.length ≤ c0_0) (h : spec_TypeText.f k l0_0 = some r) :
  Calls Try.prog 22 #[.agg #[.slice A0_0 l0_0.length c0_0]] w fun e w' => e = .returned (.string r) ∧ Below w.heap.size w w' := by
 have hu30 := Try.underlying30
 have HR0_0 := Aside0.mk hr0_0
 have HC0_0 := Aside0.mk hc0_0
 clear hr0_0 hc0_0
 have HB := Aside0.mk (Below.refl w.heap.size w)
 have H : ((spec_TypeOk.f k l0_0).bind fun t311 => (if t311 = true then ((spec_l1Say.f k l0_0).bind fun t312 => (some t312)) else (some (⟨#[]⟩ : ByteArray)))) = some r := h
 clear h
 obtain ⟨t311, A20, H⟩ := ob H
 have A2 := Aside0.mk A20
 clear A20
 by_cases c3 : t311 = true
 ·subst c3
  rw [if_pos rfl] at H
  obtain ⟨t312, A40, H⟩ := ob H
  have A4 := Aside0.mk A40
  clear A40
  obtain rfl := Option.some.inj H
  go_enter Try.func22, Try.ntmps22
  go_wp2_with (first | ((with_reducible refine gate_dst (N := 1) rfl ?_); refine zbx 1 #[.slice A0_0 l0_0.length c0_0] 30 ?_; intro gb310 hg w5 hbox hb; have BK310 := Aside0.mk hbox; have GW310 := Aside0.mk ((y5 hg HB.out : w.heap.size ≤ gb310)); have GE310 := Aside0.mk ((y5 hg HB.out : w.heap.size ≤ gb310)); replace HB := Aside0.mk (below_step (y2 HB.out) hb); clear hb hbox hg; have hcz6_0 := zh BK310; have hfz6_0 := zfr BK310 0) | ((with_reducible refine gate_callee (f := 16) rfl ?_); refine goesL_ (some 4) rfl rfl Try.func16 (by kernel_rfl) rfl #[.agg #[.slice A0_0 l0_0.length c0_0]] rfl y4 ?_; (with_reducible refine (spec_TypeOk.calls k _ _ l0_0 true _ ?side1 ?side2 A2.out).mono ?_); (case side1 => exact y8 HR0_0.out HB.out); (case side2 => exact HC0_0.out); rintro e w7 ⟨rfl, hb⟩; refine ⟨_, rfl, ?_⟩; replace BK310 := zbb BK310 hb; replace HB := Aside0.mk (below_step (y3 HB.out GE310.out) hb); (try clear hb); (try clear hb2); (try clear hk); (try clear hi); have hcz8_0 := zh BK310; have hfz8_0 := zfr BK310 0) | ((with_reducible refine gate_callee (f := 55) rfl ?_); refine goesL_ (some 7) rfl rfl Try.func55 (by kernel_rfl) rfl #[.agg #[.slice A0_0 l0_0.length c0_0]] rfl y4 ?_; (with_reducible refine (spec_l1Say.calls k _ _ l0_0 t312 _ ?side1 ?side2 A4.out).mono ?_); (case side1 => exact y8 HR0_0.out HB.out); (case side2 => exact HC0_0.out); rintro e w9 ⟨rfl, hb⟩; refine ⟨_, rfl, ?_⟩; replace BK310 := zbb BK310 hb; replace HB := Aside0.mk (below_step (y3 HB.out GE310.out) hb); (try clear hb); (try clear hb2); (try clear hk); (try clear hi)))
  go_ret
  exact ⟨y14, (y3 HB.out GE310.out)⟩
 ·replace c3 := Bool.eq_false_iff.mpr c3
  subst c3
  rw [if_neg (show ¬ (false = true) by decide)] at H
  obtain rfl := Option.some.inj H
  go_enter Try.func22, Try.ntmps22
  go_wp2_with (first | ((with_reducible refine gate_dst (N := 1) rfl ?_); refine zbx 1 #[.slice A0_0 l0_0.length c0_0] 30 ?_; intro gb310 hg w10 hbox hb; have BK310 := Aside0.mk hbox; have GW310 := Aside0.mk ((y5 hg HB.out : w.heap.size ≤ gb310)); have GE310 := Aside0.mk ((y5 hg HB.out : w.heap.size ≤ gb310)); replace HB := Aside0.mk (below_step (y2 HB.out) hb); clear hb hbox hg; have hcz11_0 := zh BK310; have hfz11_0 := zfr BK310 0) | ((with_reducible refine gate_callee (f := 16) rfl ?_); refine goesL_ (some 4) rfl rfl Try.func16 (by kernel_rfl) rfl #[.agg #[.slice A0_0 l0_0.length c0_0]] rfl y4 ?_; (with_reducible refine (spec_TypeOk.calls k _ _ l0_0 false _ ?side1 ?side2 A2.out).mono ?_); (case side1 => exact y8 HR0_0.out HB.out); (case side2 => exact HC0_0.out); rintro e w12 ⟨rfl, hb⟩; refine ⟨_, rfl, ?_⟩; replace BK310 := zbb BK310 hb; replace HB := Aside0.mk (below_step (y3 HB.out GE310.out) hb); (try clear hb); (try clear hb2); (try clear hk); (try clear hi)))
  go_ret
  exact ⟨y14, (y3 HB.out GE310.out)⟩
end Go.Proofs.Ytjhbhihfifhljaa.PA
end
section
namespace Go.Proofs.Ytjhbhihfifhljaa.PA
open Go.RowKit Go.Proofs.YtjhbhihfifhljaaW.PrintWords Go.Proofs.YtjhbhihfifhljaaW.PrintLast Go.Proofs.YtjhbhihfifhljaaW.PrintMore
attribute [local go_sem] max2_int min2_int max_two min_two max_three min_three max_four min_four
set_option linter.unusedVariables false
set_option linter.unusedSimpArgs false
def impl_typeIsNum.f (l0_0 : List (S30)) : Option (Bool) := some ((l0_0.length : Int) == 0)
set_option maxHeartbeats 8000000 in
set_option maxRecDepth 100000 in
theorem impl_typeIsNum.calls (A0_0 : Option Addr) (c0_0 : Nat) (l0_0 : List (S30)) (r : Bool) (w : World) (hr0_0 : Kd.C k30 w A0_0 l0_0.length l0_0) (hc0_0 : l0_0.length ≤ c0_0) (h : impl_typeIsNum.f l0_0 = some r) :
  Calls Try.prog 80 #[.agg #[.slice A0_0 l0_0.length c0_0]] w fun e w' => e = .returned (.bool r) ∧ Below w.heap.size w w' := by
 have hu30 := Try.underlying30
 have HR0_0 := Aside0.mk hr0_0
 have HC0_0 := Aside0.mk hc0_0
 clear hr0_0 hc0_0
 have HB := Aside0.mk (Below.refl w.heap.size w)
 have H : (some ((l0_0.length : Int) == 0)) = some r := h
 clear h
 obtain rfl := Option.some.inj H
 go_enter Try.func80, Try.ntmps80
 go_wp2_with (first | ((with_reducible refine gate_dst (N := 1) rfl ?_); refine zbx 1 #[.slice A0_0 l0_0.length c0_0] 30 ?_; intro gb313 hg w2 hbox hb; have BK313 := Aside0.mk hbox; have GW313 := Aside0.mk ((y5 hg HB.out : w.heap.size ≤ gb313)); have GE313 := Aside0.mk ((y5 hg HB.out : w.heap.size ≤ gb313)); replace HB := Aside0.mk (below_step (y2 HB.out) hb); clear hb hbox hg; have hcz3_0 := zh BK313; have hfz3_0 := zfr BK313 0))
 go_ret
 exact ⟨y14, (y3 HB.out GE313.out)⟩
end Go.Proofs.Ytjhbhihfifhljaa.PA
end
section
namespace Go.Proofs.Ytjhbhihfifhljaa.PA
open Go.RowKit Go.Proofs.YtjhbhihfifhljaaW.PrintWords Go.Proofs.YtjhbhihfifhljaaW.PrintLast Go.Proofs.YtjhbhihfifhljaaW.PrintMore
attribute [local go_sem] max2_int min2_int max_two min_two max_three min_three max_four min_four
set_option linter.unusedVariables false
set_option linter.unusedSimpArgs false
def impl_typeWords.f : Nat → List (S30) → Option (ByteArray)
 | 0, _ => none
 | k + 1, l0_0 => (impl_typeIsNum.f l0_0).bind fun t315 => (if t315 = true then (some (⟨#[105]⟩ : ByteArray)) else (if 0 < (l0_0.length : Int) then ((impl_typeWords.f k ((rd_T30 l0_0 0).f0)).bind fun t317 => (if 1 + t317.size ≤ 9223372036854775807 then (if 1 + t317.size + 1 ≤ 9223372036854775807 then (if 1 < (l0_0.length : Int) then ((impl_typeWords.f k ((rd_T30 l0_0 1).f0)).bind fun t319 => (if 1 + t317.size + 1 + t319.size ≤ 9223372036854775807 then (if 1 + t317.size + 1 + t319.size + 1 ≤ 9223372036854775807 then (some (((((⟨#[40]⟩ : ByteArray) ++ t317) ++ (⟨#[44]⟩ : ByteArray)) ++ t319) ++ (⟨#[41]⟩ : ByteArray))) else (none)) else (none))) else (none)) else (none)) else (none))) else (none)))
theorem impl_typeWords.mono_l : ∀ k, (∀ y0, LeO (impl_typeWords.f k y0) (impl_typeWords.f (k + 1) y0))
 | 0 => fun _ r h => by simp [impl_typeWords.f] at h
 | k + 1 => by
  have ih0 := impl_typeWords.mono_l k
  ·intro y0
   unfold impl_typeWords.f
   repeat' first
   | (with_reducible exact ih0 _)
   | (with_reducible exact LeO.refl _)
   | (with_reducible exact LeO.none _)
   | (with_reducible refine LeO.ite ?_ ?_)
   | (with_reducible refine LeO.bind ?_ (fun _ => ?_))
   | exact ih0 _
   | exact LeO.none _
   | refine LeO.ite ?_ ?_
   | refine LeO.bind ?_ (fun _ => ?_)
theorem impl_typeWords.mono : ∀ a0 k, LeO (impl_typeWords.f k a0) (impl_typeWords.f (k + 1) a0) := by
 intro a0 k
 have ih0 := impl_typeWords.mono_l k
 exact ih0 a0
def impl_typeWords.T3 : Bool × List (List Nat × List Nat) := (true, [([], []), ([0], [0]), ([1], [1]), ([2], [2]), ([3], [3]), ([4], [4]), ([5], [5]), ([], []), ([7], [7]), ([8], [8]), ([9], [9]), ([10, 4], [10]), ([6, 11], [6, 11]), ([12], [12]), ([13, 11, 0, 1, 2, 3, 4, 5, 6, 7, 8, 9, 10, 11, 12, 13], [13])])
def impl_typeWords.B3 : List Nat := [0, 1, 3, 7, 15, 31, 63, 0, 128, 384, 896, 1951, 4095, 8191, 16383]
theorem impl_typeWords.tab3 : rtab .any (opsOf Try.f56 3) = impl_typeWords.T3 := by kernel_rfl
theorem impl_typeWords.bits3 : waitsOk impl_typeWords.T3.2 impl_typeWords.B3 = true := by kernel_rfl
set_option maxHeartbeats 8000000 in
set_option maxRecDepth 100000 in
theorem impl_typeWords.calls (k : Nat) : ∀ (A0_0 : Option Addr) (c0_0 : Nat) (l0_0 : List (S30)) (r : ByteArray) (w : World) (hr0_0 : Kd.C k30 w A0_0 l0_0.length l0_0) (hc0_0 : l0_0.length ≤ c0_0) (h : impl_typeWords.f k l0_0 = some r),
  Calls Try.prog 56 #[.agg #[.slice A0_0 l0_0.length c0_0]] w fun e w' => e = .returned (.string r) ∧ Below w.heap.size w w' := by
 induction k using Nat.strongRecOn with
 | _ k ih =>
 intro A0_0 c0_0 l0_0 r w hr0_0 hc0_0 h
 cases k with
 | zero => exact absurd h (by simp [impl_typeWords.f])
 | succ k =>
 simp only [impl_typeWords.f] at h
 have hu30 := Try.underlying30
 have HR0_0 := Aside0.mk hr0_0
 have HC0_0 := Aside0.mk hc0_0
 clear hr0_0 hc0_0
 have HB := Aside0.mk (Below.refl w.heap.size w)
 have H : ((impl_typeIsNum.f l0_0).bind fun t315 => (if t315 = true then (some (⟨#[105]⟩ : ByteArray)) else (if 0 < (l0_0.length : Int) then ((impl_typeWords.f k ((rd_T30 l0_0 0).f0)).bind fun t317 => (if 1 + t317.size ≤ 9223372036854775807 then (if 1 + t317.size + 1 ≤ 9223372036854775807 then (if 1 < (l0_0.length : Int) then ((impl_typeWords.f k ((rd_T30 l0_0 1).f0)).bind fun t319 => (if 1 + t317.size + 1 + t319.size ≤ 9223372036854775807 then (if 1 + t317.size + 1 + t319.size + 1 ≤ 9223372036854775807 then (some (((((⟨#[40]⟩ : ByteArray) ++ t317) ++ (⟨#[44]⟩ : ByteArray)) ++ t319) ++ (⟨#[41]⟩ : ByteArray))) else (none)) else (none))) else (none)) else (none)) else (none))) else (none)))) = some r := h
 clear h
 obtain ⟨t315, A20, H⟩ := ob H
 have A2 := Aside0.mk A20
 clear A20
 by_cases c3 : t315 = true
 ·subst c3
  rw [if_pos rfl] at H
  obtain rfl := Option.some.inj H
  go_enter Try.func56, Try.ntmps56
  go_wp2_with (first | ((with_reducible refine gate_dst (N := 1) rfl ?_); refine zbx 1 #[.slice A0_0 l0_0.length c0_0] 30 ?_; intro gb314 hg w4 hbox hb; have BK314 := Aside0.mk hbox; have GW314 := Aside0.mk ((y5 hg HB.out : w.heap.size ≤ gb314)); have GE314 := Aside0.mk ((y5 hg HB.out : w.heap.size ≤ gb314)); replace HB := Aside0.mk (below_step (y2 HB.out) hb); clear hb hbox hg; have hcz5_0 := zh BK314; have hfz5_0 := zfr BK314 0) | ((with_reducible refine gate_callee (f := 80) rfl ?_); refine goesL_ (some 4) rfl rfl Try.func80 (by kernel_rfl) rfl #[.agg #[.slice A0_0 l0_0.length c0_0]] rfl y4 ?_; (with_reducible refine (impl_typeIsNum.calls _ _ l0_0 true _ ?side1 ?side2 A2.out).mono ?_); (case side1 => exact y8 HR0_0.out HB.out); (case side2 => exact HC0_0.out); rintro e w6 ⟨rfl, hb⟩; refine ⟨_, rfl, ?_⟩; replace BK314 := zbb BK314 hb; replace HB := Aside0.mk (below_step (y3 HB.out GE314.out) hb); (try clear hb); (try clear hb2); (try clear hk); (try clear hi)))
  go_ret
  exact ⟨y14, (y3 HB.out GE314.out)⟩
 ·replace c3 := Bool.eq_false_iff.mpr c3
  subst c3
  rw [if_neg (show ¬ (false = true) by decide)] at H
  by_cases c7 : 0 < (l0_0.length : Int)
  ·rw [if_pos c7] at H
   have c7b0 : decide (0 < (l0_0.length : Int)) = true := decide_eq_true c7
   have c7b1 : decide (0 < l0_0.length) = true := decide_eq_true (by omega)
   clear c7
   obtain ⟨t317, A80, H⟩ := ob H
   have A8 := Aside0.mk A80
   clear A80
   by_cases c9 : 1 + t317.size ≤ 9223372036854775807
   ·rw [if_pos c9] at H
    have c9b0 := eq_true c9
    have c9b1 : decide (1 + t317.size ≤ 9223372036854775807) = true := decide_eq_true c9
    try have c9b2 : (9223372036854775807 < 1 + t317.size) = False := eq_false (Nat.not_lt.2 c9)
    by_cases c10 : 1 + t317.size + 1 ≤ 9223372036854775807
    ·rw [if_pos c10] at H
     have c10b0 := eq_true c10
     have c10b1 : decide (1 + t317.size + 1 ≤ 9223372036854775807) = true := decide_eq_true c10
     try have c10b2 : (9223372036854775807 < 1 + t317.size + 1) = False := eq_false (Nat.not_lt.2 c10)
     by_cases c11 : 1 < (l0_0.length : Int)
     ·rw [if_pos c11] at H
      have c11b0 : decide (1 < (l0_0.length : Int)) = true := decide_eq_true c11
      have c11b1 : decide (1 < l0_0.length) = true := decide_eq_true (by omega)
      clear c11
      obtain ⟨t319, A120, H⟩ := ob H
      have A12 := Aside0.mk A120
      clear A120
      by_cases c13 : 1 + t317.size + 1 + t319.size ≤ 9223372036854775807
      ·rw [if_pos c13] at H
       have c13b0 := eq_true c13
       have c13b1 : decide (1 + t317.size + 1 + t319.size ≤ 9223372036854775807) = true := decide_eq_true c13
       try have c13b2 : (9223372036854775807 < 1 + t317.size + 1 + t319.size) = False := eq_false (Nat.not_lt.2 c13)
       by_cases c14 : 1 + t317.size + 1 + t319.size + 1 ≤ 9223372036854775807
       ·rw [if_pos c14] at H
        have c14b0 := eq_true c14
        have c14b1 : decide (1 + t317.size + 1 + t319.size + 1 ≤ 9223372036854775807) = true := decide_eq_true c14
        try have c14b2 : (9223372036854775807 < 1 + t317.size + 1 + t319.size + 1) = False := eq_false (Nat.not_lt.2 c14)
        obtain rfl := Option.some.inj H
        go_enter Try.func56, Try.ntmps56
        try go_wp2_with (first | ((with_reducible refine gate_dst (N := 1) rfl ?_); refine zbx 1 #[.slice A0_0 l0_0.length c0_0] 30 ?_; intro gb314 hg w15 hbox hb; have BK314 := Aside0.mk hbox; have GW314 := Aside0.mk ((y5 hg HB.out : w.heap.size ≤ gb314)); have GE314 := Aside0.mk ((y5 hg HB.out : w.heap.size ≤ gb314)); replace HB := Aside0.mk (below_step (y2 HB.out) hb); clear hb hbox hg; have hcz16_0 := zh BK314; have hfz16_0 := zfr BK314 0) | ((with_reducible refine gate_callee (f := 80) rfl ?_); refine goesL_ (some 4) rfl rfl Try.func80 (by kernel_rfl) rfl #[.agg #[.slice A0_0 l0_0.length c0_0]] rfl y4 ?_; (with_reducible refine (impl_typeIsNum.calls _ _ l0_0 false _ ?side1 ?side2 A2.out).mono ?_); (case side1 => exact y8 HR0_0.out HB.out); (case side2 => exact HC0_0.out); rintro e w17 ⟨rfl, hb⟩; refine ⟨_, rfl, ?_⟩; replace BK314 := zbb BK314 hb; replace HB := Aside0.mk (below_step (y3 HB.out GE314.out) hb); (try clear hb); (try clear hb2); (try clear hk); (try clear hi)))
        replace BK314 := Aside0.mk (blk_drew BK314.out)
        replace HB := Aside0.mk (below_drew1 HB.out)
        have p316 : 0 ≤ (0 : Int) := (by omega)
        have q316 : 0 < (l0_0.length : Int) := of_decide_eq_true y19
        obtain ⟨ad316, A316_0, c316_0, e316, hx316_0, hl316_0, hi316_0⟩ := at_T30 HR0_0.out 0 p316 q316
        have hw316_0 := hx316_0
        (try rw [show ((0 : Int)).toNat = 0 from rfl] at hw316_0)
        (try rw [show 0 * 1 = 0 from rfl] at hw316_0)
        (try rw [Addr.add_zero'] at hw316_0)
        cases e316
        have qi316 : (0 < l0_0.length) = True := eq_true (by omega)
        (try rw [show ((0 : Int)).toNat = 0 from rfl] at hx316_0)
        (try rw [Addr.add_zero'] at hx316_0)
        replace hx316_0 := (HB.out.cell (World.block_lt_of_cell? w _ hx316_0)).trans hx316_0
        have HR316_0 := Aside0.mk hi316_0
        have HC316_0 := Aside0.mk hl316_0
        clear hi316_0 hl316_0
        replace p316 := eq_true p316
        replace q316 := eq_true q316
        have p318 : 0 ≤ (1 : Int) := (by omega)
        have q318 : 1 < (l0_0.length : Int) := of_decide_eq_true y19
        obtain ⟨ad318, A318_0, c318_0, e318, hx318_0, hl318_0, hi318_0⟩ := at_T30 HR0_0.out 1 p318 q318
        have hw318_0 := hx318_0
        (try rw [show ((1 : Int)).toNat = 1 from rfl] at hw318_0)
        (try rw [show 1 * 1 = 1 from rfl] at hw318_0)
        (try simp only [Nat.reduceMul, Nat.reduceEqDiff, Go.Addr.add, ↓reduceIte] at hw318_0)
        obtain rfl : ad316 = ad318 := (by injection e318)
        (try simp only [show (1 : Int).toNat = 1 from rfl, Nat.reduceMul, Nat.reduceEqDiff, Go.Addr.add, ↓reduceIte] at hx318_0)
        have qi318 : (1 < l0_0.length) = True := eq_true (by omega)
        (try rw [show ((1 : Int)).toNat = 1 from rfl] at hx318_0)
        replace hx318_0 := (HB.out.cell (World.block_lt_of_cell? w _ hx318_0)).trans hx318_0
        have HR318_0 := Aside0.mk hi318_0
        have HC318_0 := Aside0.mk hl318_0
        clear hi318_0 hl318_0
        replace p318 := eq_true p318
        replace q318 := eq_true q318
        refine start_ (n := 15) (S := fun w' => w'.cell? ⟨gb314, 0, none⟩ = some (.slice (some ad316) l0_0.length c0_0) ∧ w'.cell? ad316 = some (.slice A316_0 ((rd_T30 l0_0 0).f0).length c316_0) ∧ w'.cell? ⟨ad316.block, ad316.off + 1, none⟩ = some (.slice A318_0 ((rd_T30 l0_0 1).f0).length c318_0)) (ds := []) #[false, false, false, false, false, false, false, false, false, false, false, false, false, false, false] (by kernel_rfl) rfl rfl ⟨(blk_cell BK314.out 0).trans rfl, ((HB.out.cell (World.block_lt_of_cell? w _ hw316_0)).trans hw316_0), ((HB.out.cell (World.block_lt_of_cell? w _ hw318_0)).trans hw318_0)⟩ (fun hHeld => ?_); refine with_tabW impl_typeWords.tab3 impl_typeWords.bits3 (fun HT_ HW_ => ?_)
        generalize w17.drew = w18 at BK314 HB HR316_0 HR318_0 hx316_0 hx318_0 hHeld ⊢
        refine zp 0 (some 5) HT_ ?_
        refine zp 7 (some 12) HT_ ?_
        refine zt3 1 (some 6) HT_ HW_ hHeld ?_
        refine zp 2 (some 7) HT_ ?_
        refine zt3 3 (some 8) HT_ HW_ hHeld ?_
        refine zt3 8 (some 13) HT_ HW_ hHeld ?_
        refine zp 9 (some 14) HT_ ?_
        refine zt3 10 (some 15) HT_ HW_ hHeld ?_
        refine one_ (i := 4) (N := some 9) #[true, true, true, true, true, false, false, true, true, true, true, false, false, false, false] rfl rfl (one_of HT_.out (by kernel_rfl)) (by decide) (fun K hK => ?_)
        refine goes_ Try.func56 (by kernel_rfl) rfl #[.agg #[.slice A316_0 ((rd_T30 l0_0 0).f0).length c316_0]] (by rfl) rfl rfl y4 ?_
        with_reducible refine (ih k (by omega) _ _ ((rd_T30 l0_0 0).f0) t317 _ ?side1 ?side2 A8.out).mono ?_
        (case side1 => exact y8 HR316_0.out HB.out)
        (case side2 => exact HC316_0.out)
        rintro e w19 ⟨rfl, hb⟩
        refine ⟨_, rfl, ?_⟩
        replace BK314 := zbb BK314 hb
        replace HB := Aside0.mk (below_step (y3 HB.out GE314.out) hb)
        (try clear hb)
        (try clear hb2)
        (try clear hk)
        (try clear hi)
        refine hK.out _ _ ⟨(blk_cell BK314.out 0).trans rfl, ((HB.out.cell (World.block_lt_of_cell? w _ hw316_0)).trans hw316_0), ((HB.out.cell (World.block_lt_of_cell? w _ hw318_0)).trans hw318_0)⟩ (fun hHeld => ?_)
        clear hK K
        refine norm_ (a' := ?_) ?_ ?_
        rotate_left
        ·show Act.put _ (some 9) _ = _
         simp only [Act.put, List.setIfInBounds_toArray, List.set_cons_zero, List.set_cons_succ, i64_w, i32_w]
         rfl
        refine zp 5 (some 10) HT_ ?_
        refine zp 6 (some 11) HT_ ?_
        refine one_ (i := 11) (N := some 16) #[true, true, true, true, true, true, true, true, true, true, true, true, false, false, false] rfl rfl (one_of HT_.out (by kernel_rfl)) (by decide) (fun K hK => ?_)
        refine goes_ Try.func56 (by kernel_rfl) rfl #[.agg #[.slice A318_0 ((rd_T30 l0_0 1).f0).length c318_0]] (by rfl) rfl rfl y4 ?_
        with_reducible refine (ih k (by omega) _ _ ((rd_T30 l0_0 1).f0) t319 _ ?side1 ?side2 A12.out).mono ?_
        (case side1 => exact y8 HR318_0.out HB.out)
        (case side2 => exact HC318_0.out)
        rintro e w20 ⟨rfl, hb⟩
        refine ⟨_, rfl, ?_⟩
        replace BK314 := zbb BK314 hb
        replace HB := Aside0.mk (below_step (y3 HB.out GE314.out) hb)
        (try clear hb)
        (try clear hb2)
        (try clear hk)
        (try clear hi)
        refine hK.out _ _ ⟨(blk_cell BK314.out 0).trans rfl, ((HB.out.cell (World.block_lt_of_cell? w _ hw316_0)).trans hw316_0), ((HB.out.cell (World.block_lt_of_cell? w _ hw318_0)).trans hw318_0)⟩ (fun hHeld => ?_)
        clear hK K
        refine norm_ (a' := ?_) ?_ ?_
        rotate_left
        ·show Act.put _ (some 16) _ = _
         simp only [Act.put, List.setIfInBounds_toArray, List.set_cons_zero, List.set_cons_succ, i64_w, i32_w]
         rfl
        refine zp 12 (some 17) HT_ ?_
        refine zp 13 (some 18) HT_ ?_
        refine zp 14 (some 2) HT_ ?_
        refine done_ (done_of HT_.out (by kernel_rfl)) ?_
        try go_wp2
        go_ret
        exact ⟨y14, (y3 HB.out GE314.out)⟩
       ·rw [if_neg c14] at H
        exact absurd H (by simp)
      ·rw [if_neg c13] at H
       exact absurd H (by simp)
     ·rw [if_neg c11] at H
      exact absurd H (by simp)
    ·rw [if_neg c10] at H
     exact absurd H (by simp)
   ·rw [if_neg c9] at H
    exact absurd H (by simp)
  ·rw [if_neg c7] at H
   exact absurd H (by simp)
end Go.Proofs.Ytjhbhihfifhljaa.PA
end
section
namespace Go.Proofs.Ytjhbhihfifhljaa.PA
open Go.RowKit Go.Proofs.YtjhbhihfifhljaaW.PrintWords Go.Proofs.YtjhbhihfifhljaaW.PrintLast Go.Proofs.YtjhbhihfifhljaaW.PrintMore
attribute [local go_sem] max2_int min2_int max_two min_two max_three min_three max_four min_four
set_option linter.unusedVariables false
set_option linter.unusedSimpArgs false
def impl_TypeText.f (k : Nat) (l0_0 : List (S30)) : Option (ByteArray) := (impl_TypeOk.f k l0_0).bind fun t321 => (if t321 = true then ((impl_typeWords.f k l0_0).bind fun t322 => (some t322)) else (some (⟨#[]⟩ : ByteArray)))
theorem impl_TypeText.mono : ∀ a0 k, LeO (impl_TypeText.f k a0) (impl_TypeText.f (k + 1) a0) := by
 intro a0 k
 unfold impl_TypeText.f
 repeat' first
   | (with_reducible exact impl_TypeOk.mono _ _)
   | (with_reducible exact impl_typeWords.mono _ _)
   | (with_reducible exact LeO.refl _)
   | (with_reducible exact LeO.none _)
   | (with_reducible refine LeO.ite ?_ ?_)
   | (with_reducible refine LeO.bind ?_ (fun _ => ?_))
   | exact impl_TypeOk.mono _ _
   | exact impl_typeWords.mono _ _
   | exact LeO.none _
   | refine LeO.ite ?_ ?_
   | refine LeO.bind ?_ (fun _ => ?_)
set_option maxHeartbeats 8000000 in
set_option maxRecDepth 100000 in
theorem impl_TypeText.calls (k : Nat) (A0_0 : Option Addr) (c0_0 : Nat) (l0_0 : List (S30)) (r : ByteArray) (w : World) (hr0_0 : Kd.C k30 w A0_0 l0_0.length l0_0) (hc0_0 : l0_0.length ≤ c0_0) (h : impl_TypeText.f k l0_0 = some r) :
  Calls Try.prog 23 #[.agg #[.slice A0_0 l0_0.length c0_0]] w fun e w' => e = .returned (.string r) ∧ Below w.heap.size w w' := by
 have hu30 := Try.underlying30
 have HR0_0 := Aside0.mk hr0_0
 have HC0_0 := Aside0.mk hc0_0
 clear hr0_0 hc0_0
 have HB := Aside0.mk (Below.refl w.heap.size w)
 have H : ((impl_TypeOk.f k l0_0).bind fun t321 => (if t321 = true then ((impl_typeWords.f k l0_0).bind fun t322 => (some t322)) else (some (⟨#[]⟩ : ByteArray)))) = some r := h
 clear h
 obtain ⟨t321, A20, H⟩ := ob H
 have A2 := Aside0.mk A20
 clear A20
 by_cases c3 : t321 = true
 ·subst c3
  rw [if_pos rfl] at H
  obtain ⟨t322, A40, H⟩ := ob H
  have A4 := Aside0.mk A40
  clear A40
  obtain rfl := Option.some.inj H
  go_enter Try.func23, Try.ntmps23
  go_wp2_with (first | ((with_reducible refine gate_dst (N := 1) rfl ?_); refine zbx 1 #[.slice A0_0 l0_0.length c0_0] 30 ?_; intro gb320 hg w5 hbox hb; have BK320 := Aside0.mk hbox; have GW320 := Aside0.mk ((y5 hg HB.out : w.heap.size ≤ gb320)); have GE320 := Aside0.mk ((y5 hg HB.out : w.heap.size ≤ gb320)); replace HB := Aside0.mk (below_step (y2 HB.out) hb); clear hb hbox hg; have hcz6_0 := zh BK320; have hfz6_0 := zfr BK320 0) | ((with_reducible refine gate_callee (f := 18) rfl ?_); refine goesL_ (some 4) rfl rfl Try.func18 (by kernel_rfl) rfl #[.agg #[.slice A0_0 l0_0.length c0_0]] rfl y4 ?_; (with_reducible refine (impl_TypeOk.calls k _ _ l0_0 true _ ?side1 ?side2 A2.out).mono ?_); (case side1 => exact y8 HR0_0.out HB.out); (case side2 => exact HC0_0.out); rintro e w7 ⟨rfl, hb⟩; refine ⟨_, rfl, ?_⟩; replace BK320 := zbb BK320 hb; replace HB := Aside0.mk (below_step (y3 HB.out GE320.out) hb); (try clear hb); (try clear hb2); (try clear hk); (try clear hi); have hcz8_0 := zh BK320; have hfz8_0 := zfr BK320 0) | ((with_reducible refine gate_callee (f := 56) rfl ?_); refine goesL_ (some 7) rfl rfl Try.func56 (by kernel_rfl) rfl #[.agg #[.slice A0_0 l0_0.length c0_0]] rfl y4 ?_; (with_reducible refine (impl_typeWords.calls k _ _ l0_0 t322 _ ?side1 ?side2 A4.out).mono ?_); (case side1 => exact y8 HR0_0.out HB.out); (case side2 => exact HC0_0.out); rintro e w9 ⟨rfl, hb⟩; refine ⟨_, rfl, ?_⟩; replace BK320 := zbb BK320 hb; replace HB := Aside0.mk (below_step (y3 HB.out GE320.out) hb); (try clear hb); (try clear hb2); (try clear hk); (try clear hi)))
  go_ret
  exact ⟨y14, (y3 HB.out GE320.out)⟩
 ·replace c3 := Bool.eq_false_iff.mpr c3
  subst c3
  rw [if_neg (show ¬ (false = true) by decide)] at H
  obtain rfl := Option.some.inj H
  go_enter Try.func23, Try.ntmps23
  go_wp2_with (first | ((with_reducible refine gate_dst (N := 1) rfl ?_); refine zbx 1 #[.slice A0_0 l0_0.length c0_0] 30 ?_; intro gb320 hg w10 hbox hb; have BK320 := Aside0.mk hbox; have GW320 := Aside0.mk ((y5 hg HB.out : w.heap.size ≤ gb320)); have GE320 := Aside0.mk ((y5 hg HB.out : w.heap.size ≤ gb320)); replace HB := Aside0.mk (below_step (y2 HB.out) hb); clear hb hbox hg; have hcz11_0 := zh BK320; have hfz11_0 := zfr BK320 0) | ((with_reducible refine gate_callee (f := 18) rfl ?_); refine goesL_ (some 4) rfl rfl Try.func18 (by kernel_rfl) rfl #[.agg #[.slice A0_0 l0_0.length c0_0]] rfl y4 ?_; (with_reducible refine (impl_TypeOk.calls k _ _ l0_0 false _ ?side1 ?side2 A2.out).mono ?_); (case side1 => exact y8 HR0_0.out HB.out); (case side2 => exact HC0_0.out); rintro e w12 ⟨rfl, hb⟩; refine ⟨_, rfl, ?_⟩; replace BK320 := zbb BK320 hb; replace HB := Aside0.mk (below_step (y3 HB.out GE320.out) hb); (try clear hb); (try clear hb2); (try clear hk); (try clear hi)))
  go_ret
  exact ⟨y14, (y3 HB.out GE320.out)⟩
end Go.Proofs.Ytjhbhihfifhljaa.PA
end
section
namespace Go.Proofs.Ytjhbhihfifhljaa.PA
open Go.RowKit Go.Proofs.YtjhbhihfifhljaaW.PrintWords Go.Proofs.YtjhbhihfifhljaaW.PrintLast Go.Proofs.YtjhbhihfifhljaaW.PrintMore
attribute [local go_sem] max2_int min2_int max_two min_two max_three min_three max_four min_four
set_option linter.unusedVariables false
set_option linter.unusedSimpArgs false
def spec_DrawTypeText.f (k : Nat) (l0 : List Int) : Option ((List (S30))) := (spec_l6Open.f l0).bind fun bt339 => ((spec_l71Deep.f k bt339.1 bt339.2).bind fun bt342 => (some bt342.1))
theorem spec_DrawTypeText.mono : ∀ a0 k, LeO (spec_DrawTypeText.f k a0) (spec_DrawTypeText.f (k + 1) a0) := by
 intro a0 k
 unfold spec_DrawTypeText.f
 repeat' first
   | (with_reducible exact spec_l71Deep.mono _ _ _)
   | (with_reducible exact LeO.refl _)
   | (with_reducible exact LeO.none _)
   | (with_reducible refine LeO.ite ?_ ?_)
   | (with_reducible refine LeO.bind ?_ (fun _ => ?_))
   | exact spec_l71Deep.mono _ _ _
   | exact LeO.none _
   | refine LeO.ite ?_ ?_
   | refine LeO.bind ?_ (fun _ => ?_)
set_option maxHeartbeats 8000000 in
set_option maxRecDepth 100000 in
theorem spec_DrawTypeText.calls (k : Nat) (A0 : Option Addr) (c0 : Nat) (l0 : List Int) (r : List (S30)) (w : World) (hr0 : Kd.C (Kd.int .u8) w A0 l0.length l0) (hc0 : l0.length ≤ c0) (h : spec_DrawTypeText.f k l0 = some r) :
  Calls Try.prog 24 #[.slice A0 l0.length c0] w fun e w' => ∃ v0_ : Value, e = .returned (.agg #[v0_]) ∧ Kd.N k30 30 w' w.heap.size (fun k_ => (w.heap.size ≤ k_)) v0_ r ∧ Below w.heap.size w w' := by
 have hu30 := Try.underlying30
 have HR0 := Aside0.mk hr0
 have HC0 := Aside0.mk hc0
 clear hr0 hc0
 have HB := Aside0.mk (Below.refl w.heap.size w)
 have H : ((spec_l6Open.f l0).bind fun bt339 => ((spec_l71Deep.f k bt339.1 bt339.2).bind fun bt342 => (some bt342.1))) = some r := h
 clear h
 obtain ⟨⟨t339, t340⟩, A20, H⟩ := ob H
 have A2 := Aside0.mk A20
 clear A20
 obtain ⟨⟨t342, t345⟩, A30, H⟩ := ob H
 have A3 := Aside0.mk A30
 clear A30
 obtain rfl := Option.some.inj H
 go_enter Try.func24, Try.ntmps24
 go_wp2_with (first | ((with_reducible refine gate_dst (N := 2) rfl ?_); refine zbx 2 #[.slice none 0 0] 30 ?_; intro gb338 hg w4 hbox hb; have BK338 := Aside0.mk hbox; have GW338 := Aside0.mk ((y5 hg HB.out : w.heap.size ≤ gb338)); have GE338 := Aside0.mk ((y5 hg HB.out : w.heap.size ≤ gb338)); replace HB := Aside0.mk (below_step (y2 HB.out) hb); clear hb hbox hg) | ((with_reducible refine gate_callee (f := 52) rfl ?_); refine goesL_ (some 4) rfl rfl Try.func52 (by kernel_rfl) rfl #[.slice A0 l0.length c0] rfl y4 ?_; (with_reducible refine (spec_l6Open.calls _ _ l0 t339 t340 w _ ?side1 ?side2 ?side3 A2.out).mono ?_); (case side1 => exact y3 HB.out GE338.out); (case side2 => exact HR0.out); (case side3 => exact HC0.out); rintro e w5 ⟨g341, rfl, hi, hb, hb2⟩; refine ⟨_, rfl, ?_⟩; replace HB := Aside0.mk (hb); have HI341 := Aside0.mk (hi); have NB341_338 := Aside0.mk (IsS95.ne_blk hi (blk_below (g := gb338) (o := .cells #[.slice none 0 0] 30 (0, 0)) (y0 BK338.out) hb2) (by decide)); have NB338_341 := Aside0.mk (Ne.symm (IsS95.ne_blk hi (blk_below (g := gb338) (o := .cells #[.slice none 0 0] 30 (0, 0)) (y0 BK338.out) hb2) (by decide))); replace BK338 := Aside0.mk (blk_below (g := gb338) (o := .cells #[.slice none 0 0] 30 (0, 0)) (y0 BK338.out) hb2); (try clear hb); (try clear hb2); (try clear hk); (try clear hi)) | ((with_reducible refine gate_callee (f := 51) rfl ?_); refine goesL_ (some 5) rfl rfl Try.func51 (by kernel_rfl) rfl #[.pointer (some ⟨g341, 0, none⟩)] rfl y4 ?_; (with_reducible refine (spec_l71Deep.calls k g341 t339 t340 t342 t345 w _ ?side1 ?side2 A3.out).mono ?_); (case side1 => exact y24 HI341.out NB341_338.out); (case side2 => exact y23 HB.out HI341.out GE338.out); rintro e w6 ⟨v343, rfl, ho0, hi, hb, hk⟩; refine ⟨_, rfl, ?_⟩; have HO344 := Aside0.mk (Kd.N_lower (Kd.N_mono (ok' := fun k_ => (w.heap.size ≤ k_) ∧ k_ ≠ gb338 ∧ k_ ≠ g341) ho0 (fun k_ hk_ => ⟨(Nat.le_trans (below_size (y23 HB.out HI341.out GE338.out)) hk_), (Kd.freshB (g := gb338) (o := .cells #[.slice none 0 0] 30 (0, 0)) (y0 BK338.out) k_ hk_), (IsS95.fresh (y24 HI341.out NB341_338.out) k_ hk_)⟩)) (below_size (y23 HB.out HI341.out GE338.out))); replace BK338 := Aside0.mk (KeepBut.blk hk (g' := gb338) (o := .cells #[.slice none 0 0] 30 (0, 0)) (y0 BK338.out) NB338_341.out (by simp)); replace HB := Aside0.mk (hb); replace HI341 := Aside0.mk (hi); (try clear hb); (try clear hb2); (try clear hk); (try clear hi); (try clear ho0); obtain ⟨Ao7, co7, eo7⟩ := Kd.N_slice HO344.out; subst eo7; have hnb8 := NB338_341.out; have hnc8 := NB341_338.out; have hcz9_0 := zh BK338; have hfz9_0 := zfr BK338 0))
 refine bodyPost_ret (results_cell_row rfl _ _ gb338 30 #[.slice Ao7 t342.length co7] (0, 0) _ rfl (by (with_reducible repeat (first | refine blk_drewN ?_ _ | refine blk_drew ?_ | refine blk_alloc ?_ _)); apply blk_put (i := 0); (case h => exact y0 BK338.out); (case e => rfl)) Try.underlying30 rfl (by kernel_rfl)) rfl ?_
 exact ⟨_, y14, (by (with_reducible repeat (first | apply Kd.N_alloc | apply Kd.N_drewN | apply Kd.N_drew)); exact Kd.N_mono (Kd.N_far (p := ⟨gb338, 0, none⟩) (Kd.N_mono HO344.out (fun k_ hk => (⟨hk, hk.2.1⟩ : _ ∧ k_ ≠ gb338))) (fun _ hk => hk.2) (.slice Ao7 t342.length co7)) (fun _ hk => hk.1.1)), (y23 HB.out HI341.out GE338.out)⟩
end Go.Proofs.Ytjhbhihfifhljaa.PA
end
section
namespace Go.Proofs.Ytjhbhihfifhljaa.PA
open Go.RowKit Go.Proofs.YtjhbhihfifhljaaW.PrintWords Go.Proofs.YtjhbhihfifhljaaW.PrintLast Go.Proofs.YtjhbhihfifhljaaW.PrintMore
attribute [local go_sem] max2_int min2_int max_two min_two max_three min_three max_four min_four
set_option linter.unusedVariables false
set_option linter.unusedSimpArgs false
mutual
def laws_lhType.l0 : Nat → Int → List (S30) → List (S30) → Option (Bool)
 | 0, _, _, _ => none
 | k + 1, x5, x347000, x348000 => if x5 < (x347000.length : Int) then (if 0 ≤ x5 then (if x5 < (x348000.length : Int) then ((laws_lhType.f k ((rd_T30 x347000 x5).f0) ((rd_T30 x348000 x5).f0)).bind fun t350 => (if t350 = true then (laws_lhType.l0 k (wrap64 (x5 + 1)) x347000 x348000) else (some false))) else (none)) else (none)) else (some true)
def laws_lhType.f : Nat → List (S30) → List (S30) → Option (Bool)
 | 0, _, _ => none
 | k + 1, l0_0, l1_0 => if (l0_0.length : Int) = (l1_0.length : Int) then (laws_lhType.l0 k 0 l0_0 l1_0) else (some false)
end
theorem laws_lhType.mono_l : ∀ k, (∀ y0 y1, LeO (laws_lhType.f k y0 y1) (laws_lhType.f (k + 1) y0 y1)) ∧ (∀ y0 y1 y2, LeO (laws_lhType.l0 k y0 y1 y2) (laws_lhType.l0 (k + 1) y0 y1 y2))
 | 0 => ⟨fun _ _ r h => by simp [laws_lhType.f] at h, fun _ _ _ r h => by simp [laws_lhType.l0] at h⟩
 | k + 1 => by
  obtain ⟨ih0, ih1⟩ := laws_lhType.mono_l k
  refine ⟨?_, ?_⟩
  ·intro y0 y1
   unfold laws_lhType.f
   repeat' first
   | (with_reducible exact ih0 _ _)
   | (with_reducible exact ih1 _ _ _)
   | (with_reducible exact LeO.refl _)
   | (with_reducible exact LeO.none _)
   | (with_reducible refine LeO.ite ?_ ?_)
   | (with_reducible refine LeO.bind ?_ (fun _ => ?_))
   | exact ih0 _ _
   | exact ih1 _ _ _
   | exact LeO.none _
   | refine LeO.ite ?_ ?_
   | refine LeO.bind ?_ (fun _ => ?_)
  ·intro y0 y1 y2
   unfold laws_lhType.l0
   repeat' first
   | (with_reducible exact ih0 _ _)
   | (with_reducible exact ih1 _ _ _)
   | (with_reducible exact LeO.refl _)
   | (with_reducible exact LeO.none _)
   | (with_reducible refine LeO.ite ?_ ?_)
   | (with_reducible refine LeO.bind ?_ (fun _ => ?_))
   | exact ih0 _ _
   | exact ih1 _ _ _
   | exact LeO.none _
   | refine LeO.ite ?_ ?_
   | refine LeO.bind ?_ (fun _ => ?_)
theorem laws_lhType.mono : ∀ a0 a1 k, LeO (laws_lhType.f k a0 a1) (laws_lhType.f (k + 1) a0 a1) := by
 intro a0 a1 k
 obtain ⟨ih0, ih1⟩ := laws_lhType.mono_l k
 exact ih0 a0 a1
def laws_lhType.T6 : Bool × List (List Nat × List Nat) := (true, [([], []), ([0], [0]), ([], []), ([1, 2], [1, 2]), ([3], [3]), ([], []), ([5], [5]), ([], []), ([6, 7], [6, 7]), ([8], [8]), ([4, 9], [4, 9]), ([10], [10])])
def laws_lhType.B6 : List Nat := [0, 1, 0, 7, 15, 0, 32, 0, 224, 480, 1023, 2047]
theorem laws_lhType.tab6 : rtab .any (opsOf Try.f25 6) = laws_lhType.T6 := by kernel_rfl
theorem laws_lhType.bits6 : waitsOk laws_lhType.T6.2 laws_lhType.B6 = true := by kernel_rfl
set_option maxHeartbeats 8000000 in
set_option maxRecDepth 100000 in
theorem laws_lhType.calls (k : Nat) : ∀ (A0_0 : Option Addr) (c0_0 : Nat) (l0_0 : List (S30)) (A1_0 : Option Addr) (c1_0 : Nat) (l1_0 : List (S30)) (r : Bool) (w : World) (hr0_0 : Kd.C k30 w A0_0 l0_0.length l0_0) (hc0_0 : l0_0.length ≤ c0_0) (hr1_0 : Kd.C k30 w A1_0 l1_0.length l1_0) (hc1_0 : l1_0.length ≤ c1_0) (h : laws_lhType.f k l0_0 l1_0 = some r),
  Calls Try.prog 25 #[.agg #[.slice A0_0 l0_0.length c0_0], .agg #[.slice A1_0 l1_0.length c1_0]] w fun e w' => e = .returned (.bool r) ∧ Below w.heap.size w w' := by
 induction k using Nat.strongRecOn with
 | _ k ih =>
 intro A0_0 c0_0 l0_0 A1_0 c1_0 l1_0 r w hr0_0 hc0_0 hr1_0 hc1_0 h
 cases k with
 | zero => exact absurd h (by simp [laws_lhType.f])
 | succ k =>
 simp only [laws_lhType.f] at h
 have hu30 := Try.underlying30
 have HR0_0 := Aside0.mk hr0_0
 have HC0_0 := Aside0.mk hc0_0
 clear hr0_0 hc0_0
 have HR1_0 := Aside0.mk hr1_0
 have HC1_0 := Aside0.mk hc1_0
 clear hr1_0 hc1_0
 have HB := Aside0.mk (Below.refl w.heap.size w)
 have H : (if (l0_0.length : Int) = (l1_0.length : Int) then (laws_lhType.l0 k 0 l0_0 l1_0) else (some false)) = some r := h
 clear h
 by_cases c3 : (l0_0.length : Int) = (l1_0.length : Int)
 ·rw [if_pos c3] at H
  have c3b0 : ((l0_0.length : Int) == (l1_0.length : Int)) = true := beq_iff_eq.mpr c3
  have c3b1 : ((l0_0.length : Int) != (l1_0.length : Int)) = false := bne_eq_false_iff_eq.mpr c3
  have c3b2 : (l0_0.length == l1_0.length) = true := by first | simpa using c3 | (simp at c3 ⊢; omega)
  clear c3
  have H' := Aside0.mk H
  clear H
  go_enter Try.func25, Try.ntmps25
  go_wp2_with (first | ((with_reducible refine gate_dst (N := 2) rfl ?_); refine zbx 2 #[.slice A0_0 l0_0.length c0_0] 30 ?_; intro gb346 hg w4 hbox hb; have BK346 := Aside0.mk hbox; have GW346 := Aside0.mk ((y5 hg HB.out : w.heap.size ≤ gb346)); have GE346 := Aside0.mk ((y5 hg HB.out : w.heap.size ≤ gb346)); replace HB := Aside0.mk (below_step (y2 HB.out) hb); clear hb hbox hg) | ((with_reducible refine gate_dst (N := 3) rfl ?_); refine zbx 3 #[.slice A1_0 l1_0.length c1_0] 30 ?_; intro gb347 hg w5 hbox hb; have BK347 := Aside0.mk hbox; have GW347 := Aside0.mk ((y6 hg HB.out GE346.out : w.heap.size ≤ gb347)); have GE347 := Aside0.mk ((y6 hg HB.out GE346.out : w.heap.size ≤ gb347)); replace HB := Aside0.mk (below_step (y3 HB.out GE346.out) hb); have NB346_347 := zltn hg BK346; have NB347_346 := zgtn hg BK346; replace BK346 := zbb BK346 hb; clear hb hbox hg; have hnb6 := NB346_347.out; have hnc6 := NB347_346.out; have hcz7_0 := zh BK346; have hfz7_0 := zfr BK346 0; have hcz8_0 := zh BK347; have hfz8_0 := zfr BK347 0))
  go_loopg [5] k (fun kq v5 w' => ∃ (x5_1 : Int), v5 = .int .i64 x5_1 ∧ Aside0 (laws_lhType.l0 kq x5_1 l0_0 l1_0 = some r) ∧ Aside0 (kq ≤ k) ∧ Aside0 (w'.heap[gb346]? = some (.cells #[(.slice A0_0 l0_0.length c0_0)] 30 (0, 0))) ∧ Aside0 (w'.heap[gb347]? = some (.cells #[(.slice A1_0 l1_0.length c1_0)] 30 (0, 0))) ∧ Aside0 (Below w.heap.size w w'))
  case atStart => exact ⟨(0), y26, H', ⟨Nat.le_refl _⟩, ⟨(y0 BK346.out)⟩, ⟨(y0 BK347.out)⟩, ⟨(y1 HB.out GE346.out GE347.out)⟩⟩
  case round =>
   clear H'
   try clear c1
   try clear c2
   try clear p2
   try clear c3
   try clear c3b0
   try clear c3b1
   try clear c3b2
   try clear c6
   try clear hcz7_0
   try clear hcz8_0
   try clear hfz7_0
   try clear hfz8_0
   obtain ⟨x5_1, rfl, HA, HK1, BK346, BK347, HB⟩ := hrel
   cases gk with
   | zero => exact absurd HA.out (by simp [laws_lhType.l0])
   | succ k1 =>
    have H := HA.out
    clear HA
    simp only [laws_lhType.l0] at H
    by_cases c9 : x5_1 < (l0_0.length : Int)
    ·rw [if_pos c9] at H
     have c9b0 : decide (x5_1 < (l0_0.length : Int)) = true := decide_eq_true c9
     clear c9
     by_cases c10 : 0 ≤ x5_1
     ·rw [if_pos c10] at H
      have c10b0 : decide (0 ≤ x5_1) = true := decide_eq_true c10
      clear c10
      by_cases c11 : x5_1 < (l1_0.length : Int)
      ·rw [if_pos c11] at H
       have c11b0 : decide (x5_1 < (l1_0.length : Int)) = true := decide_eq_true c11
       clear c11
       obtain ⟨t350, A120, H⟩ := ob H
       have A12 := Aside0.mk A120
       clear A120
       by_cases c13 : t350 = true
       ·subst c13
        rw [if_pos rfl] at H
        have H' := Aside0.mk H
        clear H
        have hnb14 := NB346_347.out
        have hnc14 := NB347_346.out
        have hcz15_0 := zh BK346
        have hfz15_0 := zfr BK346 0
        try go_wp2
        replace BK346 := Aside0.mk (blk_drew BK346.out)
        replace BK347 := Aside0.mk (blk_drew BK347.out)
        replace HB := Aside0.mk (below_drew1 HB.out)
        have p348 : 0 ≤ (x5_1 : Int) := of_decide_eq_true y19
        have q348 : x5_1 < (l0_0.length : Int) := of_decide_eq_true y19
        obtain ⟨ad348, A348_0, c348_0, e348, hx348_0, hl348_0, hi348_0⟩ := at_T30 HR0_0.out x5_1 p348 q348
        have hw348_0 := hx348_0
        cases e348
        replace hx348_0 := (HB.out.cell (World.block_lt_of_cell? w _ hx348_0)).trans hx348_0
        have HR348_0 := Aside0.mk hi348_0
        have HC348_0 := Aside0.mk hl348_0
        clear hi348_0 hl348_0
        replace p348 := eq_true p348
        replace q348 := eq_true q348
        have p349 : 0 ≤ (x5_1 : Int) := of_decide_eq_true y19
        have q349 : x5_1 < (l1_0.length : Int) := of_decide_eq_true y19
        obtain ⟨ad349, A349_0, c349_0, e349, hx349_0, hl349_0, hi349_0⟩ := at_T30 HR1_0.out x5_1 p349 q349
        have hw349_0 := hx349_0
        cases e349
        replace hx349_0 := (HB.out.cell (World.block_lt_of_cell? w _ hx349_0)).trans hx349_0
        have HR349_0 := Aside0.mk hi349_0
        have HC349_0 := Aside0.mk hl349_0
        clear hi349_0 hl349_0
        replace p349 := eq_true p349
        replace q349 := eq_true q349
        refine start_ (n := 12) (S := fun w' => w'.cell? ⟨gb346, 0, none⟩ = some (.slice (some ad348) l0_0.length c0_0) ∧ w'.cell? ⟨gb347, 0, none⟩ = some (.slice (some ad349) l1_0.length c1_0) ∧ w'.cell? (ad348.add (x5_1).toNat) = some (.slice A348_0 ((rd_T30 l0_0 x5_1).f0).length c348_0) ∧ w'.cell? (ad349.add (x5_1).toNat) = some (.slice A349_0 ((rd_T30 l1_0 x5_1).f0).length c349_0)) (ds := []) #[false, false, false, false, false, false, false, false, false, false, false, false] (by kernel_rfl) rfl rfl ⟨(blk_cell BK346.out 0).trans rfl, (blk_cell BK347.out 0).trans rfl, ((HB.out.cell (World.block_lt_of_cell? w _ hw348_0)).trans hw348_0), ((HB.out.cell (World.block_lt_of_cell? w _ hw349_0)).trans hw349_0)⟩ (fun hHeld => ?_); refine with_tabW laws_lhType.tab6 laws_lhType.bits6 (fun HT_ HW_ => ?_)
        generalize wr.drew = w16 at BK346 BK347 HB HR348_0 HR349_0 hx348_0 hx349_0 hHeld ⊢
        refine zp 0 (some 20) HT_ ?_
        refine zp 2 (some 22) HT_ ?_
        refine zp 5 (some 25) HT_ ?_
        refine zp 7 (some 27) HT_ ?_
        refine zt4 1 (some 21) HT_ HW_ hHeld ?_
        refine zp 3 (some 23) HT_ ?_
        refine zt4 4 (some 24) HT_ HW_ hHeld ?_
        refine zt4 6 (some 26) HT_ HW_ hHeld ?_
        refine zp 8 (some 28) HT_ ?_
        refine zt4 9 (some 29) HT_ HW_ hHeld ?_
        refine one_ (i := 10) (N := some 30) #[true, true, true, true, true, true, true, true, true, true, true, false] rfl rfl (one_of HT_.out (by kernel_rfl)) (by decide) (fun K hK => ?_)
        refine goes_ Try.func25 (by kernel_rfl) rfl #[.agg #[.slice A348_0 ((rd_T30 l0_0 x5_1).f0).length c348_0], .agg #[.slice A349_0 ((rd_T30 l1_0 x5_1).f0).length c349_0]] (by rfl) rfl rfl y4 ?_
        with_reducible refine (ih k1 (y46 HK1.out) _ _ ((rd_T30 l0_0 x5_1).f0) _ _ ((rd_T30 l1_0 x5_1).f0) true _ ?side1 ?side2 ?side3 ?side4 A12.out).mono ?_
        (case side1 => exact y8 HR348_0.out HB.out)
        (case side2 => exact HC348_0.out)
        (case side3 => exact y8 HR349_0.out HB.out)
        (case side4 => exact HC349_0.out)
        rintro e w17 ⟨rfl, hb⟩
        refine ⟨_, rfl, ?_⟩
        replace BK346 := zbb BK346 hb
        replace BK347 := zbb BK347 hb
        replace HB := Aside0.mk (below_step (y1 HB.out GE346.out GE347.out) hb)
        (try clear hb)
        (try clear hb2)
        (try clear hk)
        (try clear hi)
        refine hK.out _ _ ⟨(blk_cell BK346.out 0).trans rfl, (blk_cell BK347.out 0).trans rfl, ((HB.out.cell (World.block_lt_of_cell? w _ hw348_0)).trans hw348_0), ((HB.out.cell (World.block_lt_of_cell? w _ hw349_0)).trans hw349_0)⟩ (fun hHeld => ?_)
        clear hK K
        refine norm_ (a' := ?_) ?_ ?_
        rotate_left
        ·show Act.put _ (some 30) _ = _
         simp only [Act.put, List.setIfInBounds_toArray, List.set_cons_zero, List.set_cons_succ, i64_w, i32_w]
         rfl
        refine zp 11 (some 31) HT_ ?_
        refine done_ (done_of HT_.out (by kernel_rfl)) ?_
        try go_wp2
        go_roundg k1
        case measure => have := HK1.out; omega
        case rel => exact ⟨(wrap64 (x5_1 + 1)), y26, H', ⟨(y46 HK1.out)⟩, ⟨(y0 BK346.out)⟩, ⟨(y0 BK347.out)⟩, ⟨(y1 HB.out GE346.out GE347.out)⟩⟩
       ·replace c13 := Bool.eq_false_iff.mpr c13
        subst c13
        rw [if_neg (show ¬ (false = true) by decide)] at H
        obtain rfl := Option.some.inj H
        have hnb18 := NB346_347.out
        have hnc18 := NB347_346.out
        have hcz19_0 := zh BK346
        have hfz19_0 := zfr BK346 0
        try go_wp2
        replace BK346 := Aside0.mk (blk_drew BK346.out)
        replace BK347 := Aside0.mk (blk_drew BK347.out)
        replace HB := Aside0.mk (below_drew1 HB.out)
        have p348 : 0 ≤ (x5_1 : Int) := of_decide_eq_true y19
        have q348 : x5_1 < (l0_0.length : Int) := of_decide_eq_true y19
        obtain ⟨ad348, A348_0, c348_0, e348, hx348_0, hl348_0, hi348_0⟩ := at_T30 HR0_0.out x5_1 p348 q348
        have hw348_0 := hx348_0
        cases e348
        replace hx348_0 := (HB.out.cell (World.block_lt_of_cell? w _ hx348_0)).trans hx348_0
        have HR348_0 := Aside0.mk hi348_0
        have HC348_0 := Aside0.mk hl348_0
        clear hi348_0 hl348_0
        replace p348 := eq_true p348
        replace q348 := eq_true q348
        have p349 : 0 ≤ (x5_1 : Int) := of_decide_eq_true y19
        have q349 : x5_1 < (l1_0.length : Int) := of_decide_eq_true y19
        obtain ⟨ad349, A349_0, c349_0, e349, hx349_0, hl349_0, hi349_0⟩ := at_T30 HR1_0.out x5_1 p349 q349
        have hw349_0 := hx349_0
        cases e349
        replace hx349_0 := (HB.out.cell (World.block_lt_of_cell? w _ hx349_0)).trans hx349_0
        have HR349_0 := Aside0.mk hi349_0
        have HC349_0 := Aside0.mk hl349_0
        clear hi349_0 hl349_0
        replace p349 := eq_true p349
        replace q349 := eq_true q349
        refine start_ (n := 12) (S := fun w' => w'.cell? ⟨gb346, 0, none⟩ = some (.slice (some ad348) l0_0.length c0_0) ∧ w'.cell? ⟨gb347, 0, none⟩ = some (.slice (some ad349) l1_0.length c1_0) ∧ w'.cell? (ad348.add (x5_1).toNat) = some (.slice A348_0 ((rd_T30 l0_0 x5_1).f0).length c348_0) ∧ w'.cell? (ad349.add (x5_1).toNat) = some (.slice A349_0 ((rd_T30 l1_0 x5_1).f0).length c349_0)) (ds := []) #[false, false, false, false, false, false, false, false, false, false, false, false] (by kernel_rfl) rfl rfl ⟨(blk_cell BK346.out 0).trans rfl, (blk_cell BK347.out 0).trans rfl, ((HB.out.cell (World.block_lt_of_cell? w _ hw348_0)).trans hw348_0), ((HB.out.cell (World.block_lt_of_cell? w _ hw349_0)).trans hw349_0)⟩ (fun hHeld => ?_); refine with_tabW laws_lhType.tab6 laws_lhType.bits6 (fun HT_ HW_ => ?_)
        generalize wr.drew = w20 at BK346 BK347 HB HR348_0 HR349_0 hx348_0 hx349_0 hHeld ⊢
        refine zp 0 (some 20) HT_ ?_
        refine zp 2 (some 22) HT_ ?_
        refine zp 5 (some 25) HT_ ?_
        refine zp 7 (some 27) HT_ ?_
        refine zt4 1 (some 21) HT_ HW_ hHeld ?_
        refine zp 3 (some 23) HT_ ?_
        refine zt4 4 (some 24) HT_ HW_ hHeld ?_
        refine zt4 6 (some 26) HT_ HW_ hHeld ?_
        refine zp 8 (some 28) HT_ ?_
        refine zt4 9 (some 29) HT_ HW_ hHeld ?_
        refine one_ (i := 10) (N := some 30) #[true, true, true, true, true, true, true, true, true, true, true, false] rfl rfl (one_of HT_.out (by kernel_rfl)) (by decide) (fun K hK => ?_)
        refine goes_ Try.func25 (by kernel_rfl) rfl #[.agg #[.slice A348_0 ((rd_T30 l0_0 x5_1).f0).length c348_0], .agg #[.slice A349_0 ((rd_T30 l1_0 x5_1).f0).length c349_0]] (by rfl) rfl rfl y4 ?_
        with_reducible refine (ih k1 (y46 HK1.out) _ _ ((rd_T30 l0_0 x5_1).f0) _ _ ((rd_T30 l1_0 x5_1).f0) false _ ?side1 ?side2 ?side3 ?side4 A12.out).mono ?_
        (case side1 => exact y8 HR348_0.out HB.out)
        (case side2 => exact HC348_0.out)
        (case side3 => exact y8 HR349_0.out HB.out)
        (case side4 => exact HC349_0.out)
        rintro e w21 ⟨rfl, hb⟩
        refine ⟨_, rfl, ?_⟩
        replace BK346 := zbb BK346 hb
        replace BK347 := zbb BK347 hb
        replace HB := Aside0.mk (below_step (y1 HB.out GE346.out GE347.out) hb)
        (try clear hb)
        (try clear hb2)
        (try clear hk)
        (try clear hi)
        refine hK.out _ _ ⟨(blk_cell BK346.out 0).trans rfl, (blk_cell BK347.out 0).trans rfl, ((HB.out.cell (World.block_lt_of_cell? w _ hw348_0)).trans hw348_0), ((HB.out.cell (World.block_lt_of_cell? w _ hw349_0)).trans hw349_0)⟩ (fun hHeld => ?_)
        clear hK K
        refine norm_ (a' := ?_) ?_ ?_
        rotate_left
        ·show Act.put _ (some 30) _ = _
         simp only [Act.put, List.setIfInBounds_toArray, List.set_cons_zero, List.set_cons_succ, i64_w, i32_w]
         rfl
        refine zp 11 (some 31) HT_ ?_
        refine done_ (done_of HT_.out (by kernel_rfl)) ?_
        try go_wp2
        go_ret
        exact ⟨y14, (y1 HB.out GE346.out GE347.out)⟩
      ·rw [if_neg c11] at H
       exact absurd H (by simp)
     ·rw [if_neg c10] at H
      exact absurd H (by simp)
    ·rw [if_neg c9] at H
     have c9b0 : decide (x5_1 < (l0_0.length : Int)) = false := decide_eq_false c9
     clear c9
     obtain rfl := Option.some.inj H
     have hnb22 := NB346_347.out
     have hnc22 := NB347_346.out
     have hcz23_0 := zh BK346
     have hfz23_0 := zfr BK346 0
     go_wp2
     go_ret
     exact ⟨y14, (y1 HB.out GE346.out GE347.out)⟩
 ·rw [if_neg c3] at H
  have c3b0 : ((l0_0.length : Int) == (l1_0.length : Int)) = false := beq_eq_false_iff_ne.mpr c3
  have c3b1 : ((l0_0.length : Int) != (l1_0.length : Int)) = true := bne_iff_ne.mpr c3
  have c3b2 : (l0_0.length == l1_0.length) = false := by first | simpa using c3 | (simp at c3 ⊢; omega)
  obtain rfl := Option.some.inj H
  go_enter Try.func25, Try.ntmps25
  go_wp2_with (first | ((with_reducible refine gate_dst (N := 2) rfl ?_); refine zbx 2 #[.slice A0_0 l0_0.length c0_0] 30 ?_; intro gb346 hg w24 hbox hb; have BK346 := Aside0.mk hbox; have GW346 := Aside0.mk ((y5 hg HB.out : w.heap.size ≤ gb346)); have GE346 := Aside0.mk ((y5 hg HB.out : w.heap.size ≤ gb346)); replace HB := Aside0.mk (below_step (y2 HB.out) hb); clear hb hbox hg) | ((with_reducible refine gate_dst (N := 3) rfl ?_); refine zbx 3 #[.slice A1_0 l1_0.length c1_0] 30 ?_; intro gb347 hg w25 hbox hb; have BK347 := Aside0.mk hbox; have GW347 := Aside0.mk ((y6 hg HB.out GE346.out : w.heap.size ≤ gb347)); have GE347 := Aside0.mk ((y6 hg HB.out GE346.out : w.heap.size ≤ gb347)); replace HB := Aside0.mk (below_step (y3 HB.out GE346.out) hb); have NB346_347 := zltn hg BK346; have NB347_346 := zgtn hg BK346; replace BK346 := zbb BK346 hb; clear hb hbox hg; have hnb26 := NB346_347.out; have hnc26 := NB347_346.out; have hcz27_0 := zh BK346; have hfz27_0 := zfr BK346 0; have hcz28_0 := zh BK347; have hfz28_0 := zfr BK347 0))
  go_ret
  exact ⟨y14, (y1 HB.out GE346.out GE347.out)⟩
end Go.Proofs.Ytjhbhihfifhljaa.PA
end
section
namespace Go.Proofs.Ytjhbhihfifhljaa.Types
open Go.RowKit Go.Proofs.Ytjhbhihfifhljaa.PA Go.Proofs.YtjhbhihfifhljaaW.PrintWords Go.Proofs.YtjhbhihfifhljaaW.PrintLast Go.Proofs.Ytjhbhihfifhljaa.Draw
abbrev Ty := List S30
theorem rd0 (a : S30) (l : Ty) : rd_T30 (a :: l) 0 = a := rfl
theorem rd1 (a b : S30) (l : Ty) : rd_T30 (a :: b :: l) 1 = b := rfl
def dp : Nat → Ty → Bool
  | 0, _ => false
  | _ + 1, [] => true
  | n + 1, [a, b] => dp n a.f0 && dp n b.f0
  | _ + 1, _ => false
theorem dp_nil (n : Nat) : dp (n + 1) [] = true := rfl
theorem dp_two (n : Nat) (a b : S30) : dp (n + 1) [a, b] = (dp n a.f0 && dp n b.f0) := rfl
theorem dp_odd (n : Nat) (l : Ty) (h0 : l.length ≠ 0) (h2 : l.length ≠ 2) : dp n l = false := by
  cases n with
  | zero => rfl
  | succ n =>
    match l with
    | [] => simp at h0
    | [_] => rfl
    | [_, _] => simp at h2
    | _ :: _ :: _ :: _ => rfl
theorem two_of {l : Ty} (h : l.length = 2) : ∃ a b, l = [a, b] := by
  match l with
  | [a, b] => exact ⟨a, b, rfl⟩
theorem shape (l : Ty) : l = [] ∨ (∃ a b, l = [a, b]) ∨ (l.length ≠ 0 ∧ l.length ≠ 2) := by
  match l with
  | [] => exact .inl rfl
  | [_] => exact .inr (.inr ⟨by simp, by simp⟩)
  | [a, b] => exact .inr (.inl ⟨a, b, rfl⟩)
  | _ :: _ :: _ :: _ => exact .inr (.inr ⟨by simp, by simp⟩)
theorem pred_cast (n : Nat) (hn : n ≤ 1000) : wrap64 (((n + 1 : Nat) : Int) - 1) = (n : Int) := by rw [w64 (by omega) (by omega)]; omega
theorem deep_ev : ∀ (n : Nat), n ≤ 1000 → ∀ (l : Ty) (k : Nat), 5 * n + 3 ≤ k → spec_l1Deep.f k l n = some (dp n l) := by
  intro n
  induction n with
  | zero =>
    intro _ l k hk
    obtain ⟨k, rfl⟩ : ∃ m, k = m + 2 := ⟨k - 2, by omega⟩
    simp only [spec_l1Deep.f]
    rw [if_pos (by omega)]
    simp only [spec_l1Deep.j0, if_true]
    rfl
  | succ n ih =>
    intro hn l k hk
    obtain ⟨k, rfl⟩ : ∃ m, k = m + 5 := ⟨k - 5, by omega⟩
    have hp := pred_cast n (by omega)
    simp only [spec_l1Deep.f]
    rw [if_neg (by omega)]
    rcases shape l with rfl | ⟨a, b, rfl⟩ | ⟨h0, h2⟩
    · rw [if_pos (by simp)]
      simp only [spec_l1Deep.j0, spec_l1Deep.l0]
      rw [if_neg (by simp), if_neg (by simp)]
      rfl
    · rw [if_neg (by simp)]
      simp only [spec_l1Deep.j0]
      rw [if_neg (by simp)]
      simp only [spec_l1Deep.l0, hp, w01, w12]
      rw [if_pos (by simp), if_pos (by omega), rd0, ih (by omega) _ _ (by omega), dp_two]
      simp only [Option.bind_some]
      cases ha : dp n a.f0 with
      | false => simp
      | true =>
        rw [if_pos rfl, if_pos (by simp), if_pos (by omega), rd1, ih (by omega) _ _ (by omega)]
        simp only [Option.bind_some]
        cases hb : dp n b.f0 with
        | false => simp
        | true => rw [if_pos rfl, if_neg (by simp)]; rfl
    · rw [if_neg (by omega), dp_odd _ _ h0 h2]
      simp only [spec_l1Deep.j0]
      rw [if_pos (by simp; omega)]
theorem specOk_ev (l : Ty) (k : Nat) (hk : 23 ≤ k) : spec_TypeOk.f k l = some (dp 4 l) := by
  unfold spec_TypeOk.f
  rw [show (4 : Int) = ((4 : Nat) : Int) from rfl, deep_ev 4 (by omega) l k (by omega)]; rfl
theorem fits_ev : ∀ (n : Nat), n ≤ 1000 → ∀ (l : Ty) (k : Nat), n + 1 ≤ k → impl_typeFits.f k l n = some (dp n l) := by
  intro n
  induction n with
  | zero =>
    intro _ l k hk
    obtain ⟨k, rfl⟩ : ∃ m, k = m + 1 := ⟨k - 1, by omega⟩
    simp only [impl_typeFits.f]
    rw [if_pos (by omega)]; rfl
  | succ n ih =>
    intro hn l k hk
    obtain ⟨k, rfl⟩ : ∃ m, k = m + 1 := ⟨k - 1, by omega⟩
    have hp := pred_cast n (by omega)
    simp only [impl_typeFits.f]
    rw [if_neg (by omega)]
    rcases shape l with rfl | ⟨a, b, rfl⟩ | ⟨h0, h2⟩
    · rw [if_pos (by simp)]; rfl
    · rw [if_neg (by simp), if_pos (by simp), if_pos (by simp), hp, rd0, ih (by omega) _ _ (by omega), dp_two]
      simp only [Option.bind_some]
      cases ha : dp n a.f0 with
      | false => simp
      | true => rw [if_pos rfl, if_pos (by simp), rd1, ih (by omega) _ _ (by omega)]; simp
    · rw [if_neg (by omega), if_neg (by omega), dp_odd _ _ h0 h2]
theorem implOk_ev (l : Ty) (k : Nat) (hk : 5 ≤ k) : impl_TypeOk.f k l = some (dp 4 l) := by
  unfold impl_TypeOk.f
  rw [show (4 : Int) = ((4 : Nat) : Int) from rfl, fits_ev 4 (by omega) l k (by omega)]; rfl
def tx : Nat → Ty → ByteArray
  | n + 1, [a, b] => ((((⟨#[40]⟩ : ByteArray) ++ tx n a.f0) ++ (⟨#[44]⟩ : ByteArray)) ++ tx n b.f0) ++ (⟨#[41]⟩ : ByteArray)
  | _, _ => ⟨#[105]⟩
theorem tx_two (n : Nat) (a b : S30) : tx (n + 1) [a, b] = ((((⟨#[40]⟩ : ByteArray) ++ tx n a.f0) ++ (⟨#[44]⟩ : ByteArray)) ++ tx n b.f0) ++ (⟨#[41]⟩ : ByteArray) := rfl
theorem tx_nil (n : Nat) : tx n [] = ⟨#[105]⟩ := by cases n <;> rfl
theorem tx_size (n : Nat) : ∀ l, (tx n l).size + 3 ≤ 4 * 2 ^ n := by
  induction n with
  | zero => intro l; simp [tx]; decide
  | succ n ih =>
    intro l
    have hp : 1 ≤ 2 ^ n := Nat.one_le_two_pow
    have h1 : (⟨#[105]⟩ : ByteArray).size = 1 := rfl
    rw [Nat.pow_succ]
    match l with
    | [a, b] =>
      have ha := ih a.f0
      have hb := ih b.f0
      rw [tx_two]
      simp only [ByteArray.size_append, show (⟨#[40]⟩ : ByteArray).size = 1 from rfl, show (⟨#[44]⟩ : ByteArray).size = 1 from rfl, show (⟨#[41]⟩ : ByteArray).size = 1 from rfl]
      omega
    | [] => show (⟨#[105]⟩ : ByteArray).size + 3 ≤ _; omega
    | [_] => show (⟨#[105]⟩ : ByteArray).size + 3 ≤ _; omega
    | _ :: _ :: _ :: _ => show (⟨#[105]⟩ : ByteArray).size + 3 ≤ _; omega
theorem say_ev : ∀ (n : Nat), n ≤ 20 → ∀ (l : Ty) (k : Nat), dp n l = true → n + 1 ≤ k → spec_l1Say.f k l = some (tx n l) := by
  intro n
  induction n with
  | zero => intro _ l k h; simp [dp] at h
  | succ n ih =>
    intro hn l k h hk
    obtain ⟨k, rfl⟩ : ∃ m, k = m + 1 := ⟨k - 1, by omega⟩
    simp only [spec_l1Say.f]
    rcases shape l with rfl | ⟨a, b, rfl⟩ | ⟨h0, h2⟩
    · rw [if_pos (by simp)]; rfl
    · rw [dp_two, Bool.and_eq_true] at h
      have s1 := tx_size n a.f0
      have s2 := tx_size n b.f0
      have hup : 2 ^ n ≤ 2 ^ 20 := Nat.pow_le_pow_right (by decide) (by omega)
      have e20 : (2 : Nat) ^ 20 = 1048576 := rfl
      rw [if_neg (by simp), if_pos (by simp), rd0, ih (by omega) _ _ h.1 (by omega)]
      simp only [Option.bind_some]
      rw [if_pos (by omega), if_pos (by omega), if_pos (by simp), rd1, ih (by omega) _ _ h.2 (by omega)]
      simp only [Option.bind_some]
      rw [if_pos (by omega), if_pos (by omega), tx_two]
    · rw [dp_odd _ _ h0 h2] at h; cases h
theorem words_ev : ∀ (n : Nat), n ≤ 20 → ∀ (l : Ty) (k : Nat), dp n l = true → n + 1 ≤ k → impl_typeWords.f k l = some (tx n l) := by
  intro n
  induction n with
  | zero => intro _ l k h; simp [dp] at h
  | succ n ih =>
    intro hn l k h hk
    obtain ⟨k, rfl⟩ : ∃ m, k = m + 1 := ⟨k - 1, by omega⟩
    simp only [impl_typeWords.f, impl_typeIsNum.f, Option.bind_some]
    rcases shape l with rfl | ⟨a, b, rfl⟩ | ⟨h0, h2⟩
    · rw [if_pos (by simp)]; rfl
    · rw [dp_two, Bool.and_eq_true] at h
      have s1 := tx_size n a.f0
      have s2 := tx_size n b.f0
      have hup : 2 ^ n ≤ 2 ^ 20 := Nat.pow_le_pow_right (by decide) (by omega)
      have e20 : (2 : Nat) ^ 20 = 1048576 := rfl
      rw [if_neg (by simp), if_pos (by simp), rd0, ih (by omega) _ _ h.1 (by omega)]
      simp only [Option.bind_some]
      rw [if_pos (by omega), if_pos (by omega), if_pos (by simp), rd1, ih (by omega) _ _ h.2 (by omega)]
      simp only [Option.bind_some]
      rw [if_pos (by omega), if_pos (by omega), tx_two]
    · rw [dp_odd _ _ h0 h2] at h; cases h
def text (l : Ty) : ByteArray := if dp 4 l = true then tx 4 l else ⟨#[]⟩
theorem specText_ev (l : Ty) (k : Nat) (hk : 23 ≤ k) : spec_TypeText.f k l = some (text l) := by
  unfold spec_TypeText.f text
  rw [specOk_ev l k hk]
  simp only [Option.bind_some]
  by_cases h : dp 4 l = true
  · rw [if_pos h, if_pos h, say_ev 4 (by omega) l k h (by omega)]; rfl
  · rw [if_neg h, if_neg h]
theorem implText_ev (l : Ty) (k : Nat) (hk : 5 ≤ k) : impl_TypeText.f k l = some (text l) := by
  unfold impl_TypeText.f text
  rw [implOk_ev l k hk]
  simp only [Option.bind_some]
  by_cases h : dp 4 l = true
  · rw [if_pos h, if_pos h, words_ev 4 (by omega) l k h (by omega)]; rfl
  · rw [if_neg h, if_neg h]
def teq : Nat → Ty → Ty → Bool
  | _ + 1, [], [] => true
  | n + 1, [a, b], [c, d] => teq n a.f0 c.f0 && teq n b.f0 d.f0
  | _, _, _ => false
theorem lh_ev : ∀ (n : Nat) (a b : Ty) (k : Nat), dp n a = true → dp n b = true → 4 * n ≤ k → laws_lhType.f k a b = some (teq n a b) := by
  intro n
  induction n with
  | zero => intro a b k h; simp [dp] at h
  | succ n ih =>
    intro a b k ha hb hk
    obtain ⟨k, rfl⟩ : ∃ m, k = m + 4 := ⟨k - 4, by omega⟩
    simp only [laws_lhType.f]
    rcases shape a with rfl | ⟨a1, a2, rfl⟩ | ⟨h0, h2⟩
    · rcases shape b with rfl | ⟨b1, b2, rfl⟩ | ⟨h0, h2⟩
      · rw [if_pos rfl]; simp only [laws_lhType.l0]; rw [if_neg (by simp)]; rfl
      · rw [if_neg (by simp)]; rfl
      · rw [dp_odd _ _ h0 h2] at hb; cases hb
    · rcases shape b with rfl | ⟨b1, b2, rfl⟩ | ⟨h0, h2⟩
      · rw [if_neg (by simp)]; rfl
      · rw [dp_two, Bool.and_eq_true] at ha hb
        rw [if_pos (by simp)]
        simp only [laws_lhType.l0, w01, w12]
        rw [if_pos (by simp), if_pos (by omega), if_pos (by simp), rd0, rd0, ih _ _ _ ha.1 hb.1 (by omega)]
        simp only [Option.bind_some]
        have e : teq (n + 1) [a1, a2] [b1, b2] = (teq n a1.f0 b1.f0 && teq n a2.f0 b2.f0) := rfl
        rw [e]
        cases h1 : teq n a1.f0 b1.f0 with
        | false => simp
        | true =>
          rw [if_pos rfl, if_pos (by simp), if_pos (by omega), if_pos (by simp), rd1, rd1, ih _ _ _ ha.2 hb.2 (by omega)]
          simp only [Option.bind_some]
          cases h2 : teq n a2.f0 b2.f0 with
          | false => simp
          | true => rw [if_pos rfl, if_neg (by simp)]; rfl
      · rw [dp_odd _ _ h0 h2] at hb; cases hb
    · rw [dp_odd _ _ h0 h2] at ha; cases ha
theorem teq_eq : ∀ (n : Nat) (a b : Ty), teq n a b = true → a = b := by
  intro n
  induction n with
  | zero => intro a b h; simp [teq] at h
  | succ n ih =>
    intro a b h
    unfold teq at h
    split at h
    · rfl
    · rename_i m x y z u he
      cases he
      rw [Bool.and_eq_true] at h
      have h1 := ih _ _ h.1
      have h2 := ih _ _ h.2
      cases x; cases y; cases z; cases u
      simp_all
    · cases h
theorem teq_refl : ∀ (n : Nat) (a : Ty), dp n a = true → teq n a a = true := by
  intro n
  induction n with
  | zero => intro a h; simp [dp] at h
  | succ n ih =>
    intro a h
    rcases shape a with rfl | ⟨a1, a2, rfl⟩ | ⟨h0, h2⟩
    · rfl
    · rw [dp_two, Bool.and_eq_true] at h
      show (teq n a1.f0 a1.f0 && teq n a2.f0 a2.f0) = true
      rw [ih _ h.1, ih _ h.2]; rfl
    · rw [dp_odd _ _ h0 h2] at h; cases h
theorem toList_app (a b : ByteArray) : (a ++ b).toList = a.toList ++ b.toList := by
  rw [ByteArray.toList_eq, ByteArray.toList_eq, ByteArray.toList_eq]; simp
theorem lit_toList (c : UInt8) : (⟨#[c]⟩ : ByteArray).toList = [c] := by rw [ByteArray.toList_eq]
theorem tx_inj : ∀ (n : Nat) (a b : Ty) (r s : List UInt8), dp n a = true → dp n b = true → (tx n a).toList ++ r = (tx n b).toList ++ s → teq n a b = true ∧ r = s := by
  intro n
  induction n with
  | zero => intro a b r s h; simp [dp] at h
  | succ n ih =>
    intro a b r s ha hb h
    rcases shape a with rfl | ⟨a1, a2, rfl⟩ | ⟨h0, h2⟩
    · rcases shape b with rfl | ⟨b1, b2, rfl⟩ | ⟨h0, h2⟩
      · rw [tx_nil] at h
        exact ⟨rfl, List.append_cancel_left h⟩
      · rw [tx_nil, tx_two] at h
        simp only [toList_app, lit_toList, List.cons_append, List.nil_append, List.append_assoc] at h
        injection h with h1 _
        exact absurd h1 (by decide)
      · rw [dp_odd _ _ h0 h2] at hb; cases hb
    · rcases shape b with rfl | ⟨b1, b2, rfl⟩ | ⟨h0, h2⟩
      · rw [tx_nil, tx_two] at h
        simp only [toList_app, lit_toList, List.cons_append, List.nil_append, List.append_assoc] at h
        injection h with h1 _
        exact absurd h1 (by decide)
      · rw [dp_two, Bool.and_eq_true] at ha hb
        rw [tx_two, tx_two] at h
        simp only [toList_app, lit_toList, List.cons_append, List.nil_append, List.append_assoc] at h
        injection h with _ h
        obtain ⟨e1, h⟩ := ih _ _ _ _ ha.1 hb.1 h
        injection h with _ h
        obtain ⟨e2, h⟩ := ih _ _ _ _ ha.2 hb.2 h
        injection h with _ h
        refine ⟨?_, h⟩
        show (teq n a1.f0 b1.f0 && teq n a2.f0 b2.f0) = true
        rw [e1, e2]; rfl
      · rw [dp_odd _ _ h0 h2] at hb; cases hb
    · rw [dp_odd _ _ h0 h2] at ha; cases ha
theorem text_teq (a b : Ty) (ha : dp 4 a = true) (hb : dp 4 b = true) : ((text a).toList == (text b).toList) = teq 4 a b := by
  unfold text
  rw [if_pos ha, if_pos hb]
  by_cases h : (tx 4 a).toList = (tx 4 b).toList
  · rw [beq_iff_eq.2 h, (tx_inj 4 a b [] [] ha hb (by simpa using h)).1]
  · cases e : teq 4 a b with
    | false => exact beq_eq_false_iff_ne.2 h
    | true => exact absurd (by rw [teq_eq _ _ _ e]) h
theorem tx_pos (n : Nat) (l : Ty) : 0 < (tx n l).size := by
  unfold tx
  split
  · simp only [ByteArray.size_append, show (⟨#[40]⟩ : ByteArray).size = 1 from rfl]; omega
  · decide
theorem deepLoop_ev (s : List Int) (p : Int) : ∀ (d i : Nat), i + d = 5 → ∀ (l : Ty), ∃ r, (∀ k' , d + 1 ≤ k' → spec_l71Deep.l0 k' i s p l = some (r, p)) ∧ ∀ n, Dph n l → Dph (n + d) r := by
  intro d
  induction d with
  | zero =>
    intro i hi l
    have hh : ∀ k', 0 + 1 ≤ k' → spec_l71Deep.l0 k' i s p l = some (l, p) := by
      intro k' hk'
      obtain ⟨k', rfl⟩ : ∃ m, k' = m + 1 := ⟨k' - 1, by omega⟩
      simp only [spec_l71Deep.l0]
      rw [if_neg (by omega)]
    exact ⟨l, hh, fun n h => h⟩
  | succ d ih =>
    intro i hi l
    obtain ⟨r, hr, hd⟩ := ih (i + 1) (by omega) [⟨l⟩, ⟨[]⟩]
    have hh : ∀ k', d + 1 + 1 ≤ k' → spec_l71Deep.l0 k' i s p l = some (r, p) := by
      intro k' hk'
      obtain ⟨k', rfl⟩ : ∃ m, k' = m + 1 := ⟨k' - 1, by omega⟩
      simp only [spec_l71Deep.l0]
      rw [if_pos (by omega), w64 (by omega) (by omega)]
      exact hr k' (by omega)
    refine ⟨r, hh, fun n h => ?_⟩
    have := hd (n + 1) (by
      intro x hx
      rcases List.mem_cons.1 hx with rfl | hx
      · exact h
      · rw [List.mem_singleton.1 hx]; exact dph_nil _)
    rwa [show n + (d + 1) = n + 1 + d from by omega]
theorem dph_mono : ∀ (n : Nat) (l : Ty), Dph n l → Dph (n + 1) l := by
  intro n
  induction n with
  | zero => intro l h; rw [show l = [] from h]; exact dph_nil _
  | succ n ih => intro l h x hx; exact ih _ (h x hx)
theorem dph_le (n m : Nat) (h : n ≤ m) (l : Ty) (hd : Dph n l) : Dph m l := by
  induction m with
  | zero => obtain rfl : n = 0 := by omega
            exact hd
  | succ m ih =>
    by_cases e : n = m + 1
    · subst e; exact hd
    · exact dph_mono _ _ (ih (by omega))
theorem l71Deep_ev (s : List Int) (hs : Bytes s) (p : Int) (hp : 0 ≤ p) (hp1 : p ≤ 1099511627000) : ∃ r q, (∀ k, 20 ≤ k → spec_l71Deep.f k s p = some (r, q)) ∧ p ≤ q ∧ q ≤ p + 100 ∧ Dph 10 r := by
  obtain ⟨c, hc, c0, c1⟩ := pick_ev s hs p 4 hp (by omega) (by omega)
  obtain ⟨cn, rfl⟩ := Int.eq_ofNat_of_zero_le c0
  have hpow : (2 : Int) ^ (1 + cn) ≤ 16 := by
    have : (2 : Nat) ^ (1 + cn) ≤ 2 ^ 4 := Nat.pow_le_pow_right (by decide) (by omega)
    exact_mod_cast this
  obtain ⟨t, q1, ht, hl, hq1, hq2, dt⟩ := type_ev s hs (1 + cn) (by omega) (p + 1) (by omega) (by omega)
  obtain ⟨c', hc', c0', c1'⟩ := pick_ev s hs q1 12 (by omega) (by omega) (by omega)
  have ew : wrap64 (1 + (cn : Int)) = ((1 + cn : Nat) : Int) := by rw [w64 (by omega) (by omega)]; omega
  obtain ⟨rl, hrl, hrd⟩ := deepLoop_ev s (q1 + 1) 5 0 rfl t
  have hh : ∃ r, (∀ k, 20 ≤ k → spec_l71Deep.f k s p = some (r, q1 + 1)) ∧ Dph 10 r := by
    by_cases e0 : c' = 0
    · refine ⟨rl, fun k hk => ?_, dph_le _ _ (by omega) _ (hrd _ dt)⟩
      unfold spec_l71Deep.f
      rw [hc k (by omega)]; simp only [Option.bind_some]
      rw [ew, ht k (by omega)]; simp only [Option.bind_some]
      rw [hc' k (by omega)]; simp only [Option.bind_some]
      rw [if_pos e0]
      exact hrl k (by omega)
    · by_cases e1 : c' = 1
      · refine ⟨t ++ [⟨[]⟩], fun k hk => ?_, dph_le (1 + cn) _ (by omega) _ (by
          rw [Nat.add_comm] at dt ⊢
          intro x hx
          rcases List.mem_append.1 hx with hx | hx
          · exact dt x hx
          · rw [List.mem_singleton.1 hx]; exact dph_nil _)⟩
        unfold spec_l71Deep.f
        rw [hc k (by omega)]; simp only [Option.bind_some]
        rw [ew, ht k (by omega)]; simp only [Option.bind_some]
        rw [hc' k (by omega)]; simp only [Option.bind_some]
        rw [if_neg e0, if_pos e1, if_pos (by omega)]
      · refine ⟨t, fun k hk => ?_, dph_le _ _ (by omega) _ dt⟩
        unfold spec_l71Deep.f
        rw [hc k (by omega)]; simp only [Option.bind_some]
        rw [ew, ht k (by omega)]; simp only [Option.bind_some]
        rw [hc' k (by omega)]; simp only [Option.bind_some]
        rw [if_neg e0, if_neg e1]
  obtain ⟨r, hr, hd⟩ := hh
  exact ⟨r, q1 + 1, hr, by omega, by omega, hd⟩
theorem drawText_ev (l : List Int) (h : ∀ x ∈ l, (Lit.int .u8 x).wf = true) : ∃ r, ∀ k, 20 ≤ k → spec_DrawTypeText.f k l = some r := by
  obtain ⟨s, ho, hs⟩ := open_ev l h
  obtain ⟨r, q, hr, _⟩ := l71Deep_ev s hs 0 (by omega) (by omega)
  refine ⟨r, fun k hk => ?_⟩
  unfold spec_DrawTypeText.f
  rw [ho]; simp only [Option.bind_some]
  rw [hr k hk]; rfl
end Go.Proofs.Ytjhbhihfifhljaa.Types
end
section
namespace Go.Proofs.Ytjhbhihfifhljaa.Open
open Go.ChangeShapes Go.WideShapes Go.ChangeAt Go.RowKit Go.Deep Go.Proofs.Ytjhbhihfifhljaa.PA Go.Proofs.YtjhbhihfifhljaaW.PrintWords Go.Proofs.YtjhbhihfifhljaaW.PrintLast
section
variable {H : Type} {enc : TypeId × Value → H} {P : Program} {w : World} {base : Nat} {spare : Nat → Bool} {held : Bool}
theorem struct1n {t : TypeId} {f0 : Field} {fuel : Nat} {cs : List Value} {x : DataW H × List MemPlace} (ht : P.underlying t = some (.struct #[f0])) (h : DataW.trod enc P w base spare held fuel t cs = some x) :
    ∃ y0 n, fuel = n + 1 ∧ cs.length = P.cellsOf t ∧ DataW.trod enc P w base spare held n f0.type ((cs.drop f0.offset).take (P.cellsOf f0.type)) = some y0 := by
  obtain ⟨xs, n, hfu, _, hl, hlen, hf⟩ := DataW.trod_struct ht h
  match xs, hlen with
  | [y0], _ => exact ⟨y0, n, hfu, hl, by simpa using hf 0 f0 rfl⟩
end
inductive BdT : List S25 → Prop
  | mk {l : List S25} : l.length ≤ 9223372036854775807 → (∀ x ∈ l, BdT x.f0) → BdT l
theorem openT {H : Type} {enc : TypeId × Value → H} {W : World} : ∀ (m : Nat) (cs : List Value) (x : DataW H × List MemPlace),
    DataW.trod enc Try.prog W 0 (fun _ => true) true m 25 cs = some x → ∃ y : S25, (Kd.upto F25 1 [25] m).K W y cs ∧ BdT y.f0 := by
  intro m
  induction m using Nat.strongRecOn with
  | _ m ih =>
    intro cs x h
    obtain ⟨y0, n, rfl, hl, hf⟩ := struct1n Try.underlying25 h
    have hc : Try.prog.cellsOf 25 = 1 := by kernel_rfl
    have hcs : Try.prog.cellsOf 23 = 1 := by kernel_rfl
    rw [hc] at hl
    obtain ⟨v, rfl⟩ := List.length_eq_one_iff.1 hl
    have h0 : DataW.trod enc Try.prog W 0 (fun _ => true) true n 23 (([v].drop 0).take (Try.prog.cellsOf 23)) = some y0 := hf
    rw [hcs] at h0
    simp only [List.drop_zero, List.take_succ_cons, List.take_zero] at h0
    rcases DataW.trod_slice Try.underlying23 h0 with ⟨hv, _⟩ | ⟨a, len, cap, elems, rest, n', rfl, hv, _, _, hlc, hcm, hel, hE, _, _⟩
    · refine ⟨⟨[]⟩, ⟨none, 0, by simpa using hv, Nat.le_refl 0, ⟨rfl, by simp, fun h => absurd h (by simp)⟩⟩, .mk (by simp) (fun x hx => by cases hx)⟩
    · rw [hc] at hE
      have key : ∀ i, i < len → ∃ y : S25, ∃ c, W.cells? 0 (a.add (i * 1)) 1 = some c ∧ (Kd.upto F25 1 [25] n').K W y c ∧ BdT y.f0 := by
        intro i hi
        have e := hE i hi
        rw [List.getElem?_eq_getElem (by rw [hel]; exact hi)] at e
        obtain ⟨c, h1, h2⟩ := Option.bind_eq_some_iff.1 e
        obtain ⟨y, hy, hb⟩ := ih n' (by omega) c _ h2
        exact ⟨y, c, h1, hy, hb⟩
      have : Inhabited S25 := ⟨⟨[]⟩⟩
      obtain ⟨f, hff⟩ := choose_lt key
      have hm : maxLen = 9223372036854775807 := by decide
      refine ⟨⟨(List.range len).map f⟩, ⟨some a, cap, ?_, ?_, ⟨?_, ?_, fun _ => ⟨a, rfl, fun j p hj => ?_⟩⟩⟩, .mk ?_ ?_⟩
      · simpa using hv
      · simpa using hlc
      · simp
      · simp; omega
      · simp only [List.getElem?_map] at hj
        rcases Nat.lt_or_ge j len with hj' | hj'
        · rw [List.getElem?_range hj'] at hj
          simp at hj
          subst hj
          obtain ⟨c, h1, h2, _⟩ := hff j hj'
          obtain ⟨_, hcl, hcc⟩ := World.cells?_some h1
          refine ⟨c, ?_, Kd.upto_K_le mono25 sz25 (Nat.le_succ n') h2, fun i u hu => ?_⟩
          · rw [hcl, sz25]
          · have hi : i < 1 := by
              rw [← hcl]
              exact (List.getElem?_eq_some_iff.1 hu).1
            have := hcc i hi
            rw [hu, Go.Deep.add_add] at this
            rwa [sz25]
        · rw [List.getElem?_eq_none (by simpa using hj')] at hj
          cases hj
      · simp; omega
      · intro x hx
        obtain ⟨j, hj, rfl⟩ := List.mem_map.1 hx
        obtain ⟨c, _, _, h3⟩ := hff j (List.mem_range.1 hj)
        exact h3
theorem argT {H : Type} {enc : TypeId × Value → H} {W : World} {cs : Array Value} {d : DataW H} {ps : List MemPlace} (h : DataW.Trod enc Try.prog W 0 (fun _ => true) true 25 (.agg cs) d ps) :
    ∃ (a : Option Addr) (c : Nat) (l : List S25), cs = #[.slice a l.length c] ∧ Kd.C k25 W a l.length l ∧ l.length ≤ c ∧ BdT l := by
  obtain ⟨m, hm⟩ := h
  obtain ⟨y, hK, hB⟩ := openT m _ _ hm
  cases m with
  | zero => exact hK.elim
  | succ n =>
    obtain ⟨A, c, e, l0, g0⟩ := hK
    refine ⟨A, c, y.f0, ?_, Kd.fix_C g0, l0, hB⟩
    have e' : cs.toList = [.slice A y.f0.length c] := e
    exact Array.toList_inj.1 e'
end Go.Proofs.Ytjhbhihfifhljaa.Open
end
section
set_option linter.unusedVariables false
namespace Go.Proofs.Ytjhbhihfifhljaa.ExT
open Go.RowKit Go.Proofs.Ytjhbhihfifhljaa.PA Go.Proofs.YtjhbhihfifhljaaW.PrintWords Go.Proofs.YtjhbhihfifhljaaW.PrintLast Go.Proofs.Ytjhbhihfifhljaa.Draw Go.Proofs.Ytjhbhihfifhljaa.Types Go.Proofs.Ytjhbhihfifhljaa.Open
abbrev Lt := List S25
mutual
def cnt : S25 → Nat
  | ⟨l⟩ => cnts l
def cnts : List S25 → Nat
  | [] => 0
  | x :: r => 1 + cnt x + cnts r
end
mutual
def cvt : S25 → S30
  | ⟨l⟩ => ⟨cvl l⟩
def cvl : List S25 → List S30
  | [] => []
  | x :: r => cvt x :: cvl r
end
theorem cnt_f0 (x : S25) : cnt x = cnts x.f0 := by cases x; rw [cnt]
theorem cvt_f0 (x : S25) : cvt x = ⟨cvl x.f0⟩ := by cases x; rw [cvt]
theorem cnts_cons (x : S25) (r : Lt) : cnts (x :: r) = 1 + cnts x.f0 + cnts r := by rw [cnts, cnt_f0]
theorem cvl_cons (x : S25) (r : Lt) : cvl (x :: r) = ⟨cvl x.f0⟩ :: cvl r := by rw [cvl, cvt_f0]
theorem cvl_length : ∀ l : Lt, (cvl l).length = l.length
  | [] => by rw [cvl]; rfl
  | x :: r => by rw [cvl_cons, List.length_cons, List.length_cons, cvl_length r]
theorem cnts_len : ∀ l : Lt, l.length ≤ cnts l
  | [] => by simp
  | x :: r => by rw [cnts_cons, List.length_cons]; have := cnts_len r; omega
theorem cnts_app : ∀ l r : Lt, cnts (l ++ r) = cnts l + cnts r
  | [], r => by rw [List.nil_append, cnts]; omega
  | x :: l, r => by rw [List.cons_append, cnts_cons, cnts_cons, cnts_app l r]; omega
theorem cvl_app : ∀ l r : Lt, cvl (l ++ r) = cvl l ++ cvl r
  | [], r => by rw [List.nil_append, cvl]; rfl
  | x :: l, r => by rw [List.cons_append, cvl_cons, cvl_cons, cvl_app l r]; rfl
theorem rdL_mid (pre r : Lt) (x : S25) : rd_T25 (pre ++ x :: r) (pre.length : Int) = x := by
  unfold rd_T25
  rw [Int.toNat_natCast, List.getD_eq_getElem?_getD, List.getElem?_append_right (Nat.le_refl _)]
  simp
theorem rdI_mid (pre r : Ty) (x : S30) : rd_T30 (pre ++ x :: r) (pre.length : Int) = x := by
  unfold rd_T30
  rw [Int.toNat_natCast, List.getD_eq_getElem?_getD, List.getElem?_append_right (Nat.le_refl _)]
  simp
theorem bdT_len {l : Lt} (h : BdT l) : l.length ≤ 9223372036854775807 := by cases h; assumption
theorem bdT_mem {l : Lt} (h : BdT l) {x : S25} (hx : x ∈ l) : BdT x.f0 := by cases h with | mk _ h => exact h x hx
def left (a : Nat) (n : Nat) : Int := if n ≤ a then ((a - n : Nat) : Int) else -1
theorem left_neg (a n : Nat) : left a n < 0 ↔ a < n := by unfold left; split <;> omega
theorem left_ok (a n : Nat) (h : n ≤ a) : left a n = ((a - n : Nat) : Int) := by unfold left; rw [if_pos h]
theorem left_bad (a n : Nat) (h : a < n) : left a n = -1 := by unfold left; rw [if_neg (by omega)]
theorem szLoop_ev (a : Nat) (ha : a ≤ 1048576) (IH : ∀ b, b < a → ∀ (l : Lt), BdT l → ∀ k, 3 * b + 5 ≤ k → laws_szTypeS.f k l b = some (left b (cnts l))) :
    ∀ (r pre : Lt) (b k : Nat), BdT (pre ++ r) → b < a → pre.length + r.length ≤ 1048576 → 3 * b + 5 + r.length ≤ k →
    laws_szTypeS.l0 k (pre ++ r) b pre.length = some (left (b + r.length) (cnts r)) := by
  intro r
  induction r with
  | nil =>
    intro pre b k hB hb hl hk
    obtain ⟨k, rfl⟩ : ∃ m, k = m + 1 := ⟨k - 1, by omega⟩
    simp only [laws_szTypeS.l0]
    rw [if_neg (by simp), left_ok _ _ (by rw [cnts]; omega), cnts]; rfl
  | cons x r ih =>
    intro pre b k hB hb hl hk
    simp only [List.length_cons] at hl hk
    obtain ⟨k, rfl⟩ : ∃ m, k = m + 1 := ⟨k - 1, by omega⟩
    simp only [laws_szTypeS.l0, laws_szType.F]
    have hlen : ((pre ++ x :: r).length : Int) = pre.length + 1 + r.length := by simp; omega
    rw [if_pos (by omega), if_pos (by omega), rdL_mid, IH b hb x.f0 (bdT_mem hB (by simp)) k (by omega)]; simp only [Option.bind_some]
    have hc := cnts_len r
    rw [cnts_cons, List.length_cons]
    by_cases h : cnts x.f0 ≤ b
    · have e := left_ok b _ h
      rw [e, if_neg (by omega)]; simp only [Option.bind_some]
      rw [if_neg (by omega), w64 (by omega) (by omega)]
      have ea : pre ++ x :: r = (pre ++ [x]) ++ r := by simp
      have el : (pre.length : Int) + 1 = ((pre ++ [x]).length : Int) := by simp
      rw [el, ea, ih (pre ++ [x]) (b - cnts x.f0) k (by rw [← ea]; exact hB) (by omega) (by simp; omega) (by omega)]
      congr 1
      unfold left
      by_cases h2 : cnts r ≤ b - cnts x.f0 + r.length
      · rw [if_pos h2, if_pos (by omega)]; omega
      · rw [if_neg h2, if_neg (by omega)]
    · rw [left_bad b _ (by omega), if_pos (by omega)]; simp only [Option.bind_some]
      rw [if_pos (by omega), left_bad _ _ (by omega)]
theorem szS_ev : ∀ (a : Nat), a ≤ 1048576 → ∀ (l : Lt), BdT l → ∀ k, 3 * a + 5 ≤ k → laws_szTypeS.f k l a = some (left a (cnts l)) := by
  intro a
  induction a using Nat.strongRecOn with
  | _ a IH =>
    intro ha l hB k hk
    obtain ⟨k, rfl⟩ : ∃ m, k = m + 2 := ⟨k - 2, by omega⟩
    simp only [laws_szTypeS.f]
    have hn := bdT_len hB
    have hc := cnts_len l
    rw [w64 (by omega) (by omega)]
    by_cases h : (a : Int) - (l.length : Int) < 0
    · rw [if_pos h, left_bad _ _ (by omega)]
    · rw [if_neg h]
      by_cases h0 : l.length = 0
      · obtain rfl : l = [] := List.length_eq_zero_iff.1 h0
        simp only [laws_szTypeS.l0]
        rw [if_neg (by simp), cnts, left_ok _ _ (by omega)]; simp
      · have := szLoop_ev a ha (fun b hb l hB k hk => IH b hb (by omega) l hB k hk) l [] (a - l.length) (k + 1) (by simpa using hB) (by omega) (by simp; omega) (by omega)
        simp only [List.nil_append, List.length_nil] at this
        rw [show (a : Int) - (l.length : Int) = ((a - l.length : Nat) : Int) by omega]
        rw [show a - l.length + l.length = a by omega] at this
        exact this
theorem sz_ev (l : Lt) (hB : BdT l) (k : Nat) (hk : 3145733 ≤ k) : laws_szType.f k l 1048576 = some (left 1048576 (cnts l)) := by
  unfold laws_szType.f laws_szType.F
  rw [show (1048576 : Int) = ((1048576 : Nat) : Int) from rfl, szS_ev 1048576 (Nat.le_refl _) l hB k (by omega)]; simp only [Option.bind_some]
  by_cases h : cnts l ≤ 1048576
  · rw [left_ok _ _ h, if_neg (by omega)]
  · rw [left_bad _ _ (by omega)]; rfl
theorem toLoop_ev (c : Nat) (hc : c ≤ 1048576) (IH : ∀ (l : Lt), cnts l < c → ∀ k, 3 * cnts l + 6 ≤ k → laws_toTypeS.f k l = some (cvl l)) :
    ∀ (r pre : Lt) (k : Nat), cnts (pre ++ r) ≤ c → 3 * cnts r + 5 ≤ k →
    laws_toTypeS.l0 k (pre ++ r) (cvl pre ++ List.replicate r.length z30) pre.length = some (cvl (pre ++ r)) := by
  intro r
  induction r with
  | nil =>
    intro pre k h1 hk
    obtain ⟨k, rfl⟩ : ∃ m, k = m + 1 := ⟨k - 1, by omega⟩
    simp only [laws_toTypeS.l0]
    rw [if_neg (by simp)]
    simp
  | cons x r ih =>
    intro pre k h1 hk
    have e1 := cnts_app pre (x :: r)
    rw [cnts_cons] at e1 hk
    have e2 := cnts_len pre
    have e3 := cnts_len r
    obtain ⟨k, rfl⟩ : ∃ m, k = m + 1 := ⟨k - 1, by omega⟩
    simp only [laws_toTypeS.l0, laws_toType.F]
    have hlen : ((pre ++ x :: r).length : Int) = pre.length + 1 + r.length := by simp; omega
    rw [if_pos (by omega), if_pos (by omega), rdL_mid, IH x.f0 (by omega) k (by omega)]; simp only [Option.bind_some]
    rw [if_pos (by rw [List.length_append, cvl_length, List.length_replicate, List.length_cons]; omega), w64 (by omega) (by omega)]
    have ea : pre ++ x :: r = (pre ++ [x]) ++ r := by simp
    have el : (pre.length : Int) + 1 = ((pre ++ [x]).length : Int) := by simp
    have es : (cvl pre ++ List.replicate (r.length + 1) z30).set (pre.length : Int).toNat (⟨cvl x.f0⟩ : S30) = cvl (pre ++ [x]) ++ List.replicate r.length z30 := by
      rw [Int.toNat_natCast, List.set_append_right _ _ (by rw [cvl_length]; exact Nat.le_refl _), cvl_length, Nat.sub_self, List.replicate_succ, List.set_cons_zero, cvl_app, cvl_cons, cvl]
      simp
    rw [List.length_cons, es, el, ea]
    exact ih (pre ++ [x]) k (by rw [← ea]; exact h1) (by omega)
theorem toS_ev : ∀ (c : Nat), c ≤ 1048576 → ∀ (l : Lt), cnts l ≤ c → ∀ k, 3 * cnts l + 6 ≤ k → laws_toTypeS.f k l = some (cvl l) := by
  intro c
  induction c using Nat.strongRecOn with
  | _ c IH =>
    intro hc l hl k hk
    obtain ⟨k, rfl⟩ : ∃ m, k = m + 1 := ⟨k - 1, by omega⟩
    simp only [laws_toTypeS.f]
    have h1 := cnts_len l
    rw [if_pos (by omega), if_pos (by omega), Int.toNat_natCast]
    have := toLoop_ev (cnts l) (by omega) (fun l' hl' k hk => IH (cnts l') (by omega) (by omega) l' (Nat.le_refl _) k hk) l [] k (by simp) (by omega)
    simp only [List.nil_append, List.length_nil] at this
    rw [cvl] at this
    simpa using this
theorem to_ev (l : Lt) (h : cnts l ≤ 1048576) (k : Nat) (hk : 3145740 ≤ k) : laws_toType.f k l = some (cvl l) := by
  unfold laws_toType.f laws_toType.F
  rw [toS_ev 1048576 (Nat.le_refl _) l h k (by omega)]; rfl
theorem eqLoop_ev (c : Nat) (hc : c ≤ 1048576) (IH : ∀ (l : Lt), cnts l < c → ∀ k, 3 * cnts l + 6 ≤ k → laws_eqTypeS.f k (cvl l) (cvl l) = some true) :
    ∀ (r pre : Lt) (k : Nat), cnts (pre ++ r) ≤ c → 3 * cnts r + 5 ≤ k →
    laws_eqTypeS.l0 k (cvl (pre ++ r)) (cvl (pre ++ r)) pre.length = some true := by
  intro r
  induction r with
  | nil =>
    intro pre k h1 hk
    obtain ⟨k, rfl⟩ : ∃ m, k = m + 1 := ⟨k - 1, by omega⟩
    simp only [laws_eqTypeS.l0]
    rw [if_neg (by simp [cvl_length])]
  | cons x r ih =>
    intro pre k h1 hk
    have e1 := cnts_app pre (x :: r)
    rw [cnts_cons] at e1 hk
    have e2 := cnts_len pre
    have e3 := cnts_len r
    obtain ⟨k, rfl⟩ : ∃ m, k = m + 1 := ⟨k - 1, by omega⟩
    simp only [laws_eqTypeS.l0, laws_eqType.F]
    have hlen : ((cvl (pre ++ x :: r)).length : Int) = pre.length + 1 + r.length := by rw [cvl_length]; simp; omega
    have er : rd_T30 (cvl (pre ++ x :: r)) (pre.length : Int) = ⟨cvl x.f0⟩ := by
      rw [cvl_app, cvl_cons]
      have := rdI_mid (cvl pre) (cvl r) ⟨cvl x.f0⟩
      rwa [cvl_length] at this
    rw [if_pos (by omega), if_pos (by omega), if_pos (by omega), er, IH x.f0 (by omega) k (by omega)]; simp only [Option.bind_some, if_true]
    rw [w64 (by omega) (by omega)]
    have ea : pre ++ x :: r = (pre ++ [x]) ++ r := by simp
    have el : (pre.length : Int) + 1 = ((pre ++ [x]).length : Int) := by simp
    rw [el, ea]
    exact ih (pre ++ [x]) k (by rw [← ea]; exact h1) (by omega)
theorem eqS_ev : ∀ (c : Nat), c ≤ 1048576 → ∀ (l : Lt), cnts l ≤ c → ∀ k, 3 * cnts l + 6 ≤ k → laws_eqTypeS.f k (cvl l) (cvl l) = some true := by
  intro c
  induction c using Nat.strongRecOn with
  | _ c IH =>
    intro hc l hl k hk
    obtain ⟨k, rfl⟩ : ∃ m, k = m + 1 := ⟨k - 1, by omega⟩
    simp only [laws_eqTypeS.f, if_true]
    have := eqLoop_ev (cnts l) (by omega) (fun l' hl' k hk => IH (cnts l') (by omega) (by omega) l' (Nat.le_refl _) k hk) l [] k (by simp) (by omega)
    simpa using this
theorem eq_ev (l : Lt) (h : cnts l ≤ 1048576) (k : Nat) (hk : 3145740 ≤ k) : laws_eqType.f k (cvl l) (cvl l) = some true := by
  unfold laws_eqType.f laws_eqType.F
  rw [eqS_ev 1048576 (Nat.le_refl _) l h k (by omega)]; rfl
end Go.Proofs.Ytjhbhihfifhljaa.ExT
end
section
namespace Go.Proofs.Ytjhbhihfifhljaa.PA
open Go.RowKit Go.Proofs.YtjhbhihfifhljaaW.PrintWords Go.Proofs.YtjhbhihfifhljaaW.PrintLast Go.Proofs.YtjhbhihfifhljaaW.PrintMore
attribute [local go_sem] max2_int min2_int max_two min_two max_three min_three max_four min_four
set_option linter.unusedVariables false
set_option linter.unusedSimpArgs false
def impl_Type_parts.f (l0_0 : List (S30)) : Option ((List (S30))) := some l0_0
set_option maxHeartbeats 8000000 in
set_option maxRecDepth 100000 in
theorem impl_Type_parts.calls (P0_0_ : Nat → Prop) (A0_0 : Option Addr) (c0_0 : Nat) (l0_0 : List (S30)) (r : List (S30)) (w : World) (hs0_0 : Kd.V k30 30 w w.heap.size (fun k_ => P0_0_ k_) (.slice A0_0 l0_0.length c0_0) l0_0) (h : impl_Type_parts.f l0_0 = some r) :
  Calls Try.prog 104 #[.agg #[.slice A0_0 l0_0.length c0_0]] w fun e w' => ∃ v0_ : Value, e = .returned (v0_) ∧ Kd.V k30 30 w' w.heap.size (fun k_ => (P0_0_ k_ ∨ w.heap.size ≤ k_)) v0_ r ∧ Below w.heap.size w w' := by
 have hu30 := Try.underlying30
 have HO0_0 := Aside0.mk (show Kd.V k30 30 w w.heap.size (fun k_ => (P0_0_ k_ ∨ w.heap.size ≤ k_)) (.slice A0_0 l0_0.length c0_0) l0_0 from Kd.V_mono hs0_0 (fun k_ hk => .inl hk))
 have HB := Aside0.mk (Below.refl w.heap.size w)
 have H : (some l0_0) = some r := h
 clear h
 obtain rfl := Option.some.inj H
 go_enter Try.func104, Try.ntmps104
 go_wp2_with (first | ((with_reducible refine gate_dst (N := 1) rfl ?_); refine zbx 1 #[.slice A0_0 l0_0.length c0_0] 30 ?_; intro gb101 hg w2 hbox hb; replace HO0_0 := Aside0.mk (Kd.V_below (Kd.V_elderB (y13 HO0_0.out) gb101 (Nat.le_of_eq hg.symm)) hb); have BK101 := Aside0.mk hbox; have GW101 := Aside0.mk ((y5 hg HB.out : w.heap.size ≤ gb101)); have GE101 := Aside0.mk ((y5 hg HB.out : w.heap.size ≤ gb101)); replace HB := Aside0.mk (below_step (y2 HB.out) hb); clear hb hbox hg; have hcz3_0 := zh BK101; have hfz3_0 := zfr BK101 0))
 go_ret
 exact ⟨_, y14, (by (with_reducible repeat (first | apply Kd.V_alloc | apply Kd.V_drewN | apply Kd.V_drew)); exact Kd.V_mono HO0_0.out (fun _ hk => hk.1)), (y3 HB.out GE101.out)⟩
end Go.Proofs.Ytjhbhihfifhljaa.PA
end
section
namespace Go.Proofs.Ytjhbhihfifhljaa.PA
open Go.RowKit Go.Proofs.YtjhbhihfifhljaaW.PrintWords Go.Proofs.YtjhbhihfifhljaaW.PrintLast Go.Proofs.YtjhbhihfifhljaaW.PrintMore
attribute [local go_sem] max2_int min2_int max_two min_two max_three min_three max_four min_four
set_option linter.unusedVariables false
set_option linter.unusedSimpArgs false
def spec_DrawTypeOk.f (k : Nat) (l0 : List Int) : Option ((List (S30))) := (spec_l6Open.f l0).bind fun bt215 => ((spec_l71Deep.f k bt215.1 bt215.2).bind fun bt218 => (some bt218.1))
theorem spec_DrawTypeOk.mono : ∀ a0 k, LeO (spec_DrawTypeOk.f k a0) (spec_DrawTypeOk.f (k + 1) a0) := by
 intro a0 k
 unfold spec_DrawTypeOk.f
 repeat' first
   | (with_reducible exact spec_l71Deep.mono _ _ _)
   | (with_reducible exact LeO.refl _)
   | (with_reducible exact LeO.none _)
   | (with_reducible refine LeO.ite ?_ ?_)
   | (with_reducible refine LeO.bind ?_ (fun _ => ?_))
   | exact spec_l71Deep.mono _ _ _
   | exact LeO.none _
   | refine LeO.ite ?_ ?_
   | refine LeO.bind ?_ (fun _ => ?_)
set_option maxHeartbeats 8000000 in
set_option maxRecDepth 100000 in
theorem spec_DrawTypeOk.calls (k : Nat) (A0 : Option Addr) (c0 : Nat) (l0 : List Int) (r : List (S30)) (w : World) (hr0 : Kd.C (Kd.int .u8) w A0 l0.length l0) (hc0 : l0.length ≤ c0) (h : spec_DrawTypeOk.f k l0 = some r) :
  Calls Try.prog 20 #[.slice A0 l0.length c0] w fun e w' => ∃ v0_ : Value, e = .returned (.agg #[v0_]) ∧ Kd.N k30 30 w' w.heap.size (fun k_ => (w.heap.size ≤ k_)) v0_ r ∧ Below w.heap.size w w' := by
 have hu30 := Try.underlying30
 have HR0 := Aside0.mk hr0
 have HC0 := Aside0.mk hc0
 clear hr0 hc0
 have HB := Aside0.mk (Below.refl w.heap.size w)
 have H : ((spec_l6Open.f l0).bind fun bt215 => ((spec_l71Deep.f k bt215.1 bt215.2).bind fun bt218 => (some bt218.1))) = some r := h
 clear h
 obtain ⟨⟨t215, t216⟩, A20, H⟩ := ob H
 have A2 := Aside0.mk A20
 clear A20
 obtain ⟨⟨t218, t221⟩, A30, H⟩ := ob H
 have A3 := Aside0.mk A30
 clear A30
 obtain rfl := Option.some.inj H
 go_enter Try.func20, Try.ntmps20
 go_wp2_with (first | ((with_reducible refine gate_dst (N := 2) rfl ?_); refine zbx 2 #[.slice none 0 0] 30 ?_; intro gb214 hg w4 hbox hb; have BK214 := Aside0.mk hbox; have GW214 := Aside0.mk ((y5 hg HB.out : w.heap.size ≤ gb214)); have GE214 := Aside0.mk ((y5 hg HB.out : w.heap.size ≤ gb214)); replace HB := Aside0.mk (below_step (y2 HB.out) hb); clear hb hbox hg) | ((with_reducible refine gate_callee (f := 52) rfl ?_); refine goesL_ (some 4) rfl rfl Try.func52 (by kernel_rfl) rfl #[.slice A0 l0.length c0] rfl y4 ?_; (with_reducible refine (spec_l6Open.calls _ _ l0 t215 t216 w _ ?side1 ?side2 ?side3 A2.out).mono ?_); (case side1 => exact y3 HB.out GE214.out); (case side2 => exact HR0.out); (case side3 => exact HC0.out); rintro e w5 ⟨g217, rfl, hi, hb, hb2⟩; refine ⟨_, rfl, ?_⟩; replace HB := Aside0.mk (hb); have HI217 := Aside0.mk (hi); have NB217_214 := Aside0.mk (IsS95.ne_blk hi (blk_below (g := gb214) (o := .cells #[.slice none 0 0] 30 (0, 0)) (y0 BK214.out) hb2) (by decide)); have NB214_217 := Aside0.mk (Ne.symm (IsS95.ne_blk hi (blk_below (g := gb214) (o := .cells #[.slice none 0 0] 30 (0, 0)) (y0 BK214.out) hb2) (by decide))); replace BK214 := Aside0.mk (blk_below (g := gb214) (o := .cells #[.slice none 0 0] 30 (0, 0)) (y0 BK214.out) hb2); (try clear hb); (try clear hb2); (try clear hk); (try clear hi)) | ((with_reducible refine gate_callee (f := 51) rfl ?_); refine goesL_ (some 5) rfl rfl Try.func51 (by kernel_rfl) rfl #[.pointer (some ⟨g217, 0, none⟩)] rfl y4 ?_; (with_reducible refine (spec_l71Deep.calls k g217 t215 t216 t218 t221 w _ ?side1 ?side2 A3.out).mono ?_); (case side1 => exact y24 HI217.out NB217_214.out); (case side2 => exact y23 HB.out HI217.out GE214.out); rintro e w6 ⟨v219, rfl, ho0, hi, hb, hk⟩; refine ⟨_, rfl, ?_⟩; have HO220 := Aside0.mk (Kd.N_lower (Kd.N_mono (ok' := fun k_ => (w.heap.size ≤ k_) ∧ k_ ≠ gb214 ∧ k_ ≠ g217) ho0 (fun k_ hk_ => ⟨(Nat.le_trans (below_size (y23 HB.out HI217.out GE214.out)) hk_), (Kd.freshB (g := gb214) (o := .cells #[.slice none 0 0] 30 (0, 0)) (y0 BK214.out) k_ hk_), (IsS95.fresh (y24 HI217.out NB217_214.out) k_ hk_)⟩)) (below_size (y23 HB.out HI217.out GE214.out))); replace BK214 := Aside0.mk (KeepBut.blk hk (g' := gb214) (o := .cells #[.slice none 0 0] 30 (0, 0)) (y0 BK214.out) NB214_217.out (by simp)); replace HB := Aside0.mk (hb); replace HI217 := Aside0.mk (hi); (try clear hb); (try clear hb2); (try clear hk); (try clear hi); (try clear ho0); obtain ⟨Ao7, co7, eo7⟩ := Kd.N_slice HO220.out; subst eo7; have hnb8 := NB214_217.out; have hnc8 := NB217_214.out; have hcz9_0 := zh BK214; have hfz9_0 := zfr BK214 0))
 refine bodyPost_ret (results_cell_row rfl _ _ gb214 30 #[.slice Ao7 t218.length co7] (0, 0) _ rfl (by (with_reducible repeat (first | refine blk_drewN ?_ _ | refine blk_drew ?_ | refine blk_alloc ?_ _)); apply blk_put (i := 0); (case h => exact y0 BK214.out); (case e => rfl)) Try.underlying30 rfl (by kernel_rfl)) rfl ?_
 exact ⟨_, y14, (by (with_reducible repeat (first | apply Kd.N_alloc | apply Kd.N_drewN | apply Kd.N_drew)); exact Kd.N_mono (Kd.N_far (p := ⟨gb214, 0, none⟩) (Kd.N_mono HO220.out (fun k_ hk => (⟨hk, hk.2.1⟩ : _ ∧ k_ ≠ gb214))) (fun _ hk => hk.2) (.slice Ao7 t218.length co7)) (fun _ hk => hk.1.1)), (y23 HB.out HI217.out GE214.out)⟩
end Go.Proofs.Ytjhbhihfifhljaa.PA
end
section
namespace Go.Proofs.Ytjhbhihfifhljaa.PA
open Go.RowKit Go.Proofs.YtjhbhihfifhljaaW.PrintWords Go.Proofs.YtjhbhihfifhljaaW.PrintLast Go.Proofs.YtjhbhihfifhljaaW.PrintMore
attribute [local go_sem] max2_int min2_int max_two min_two max_three min_three max_four min_four
set_option linter.unusedVariables false
set_option linter.unusedSimpArgs false
def impl_Type.l0 : Nat → List Int → Int → Int → List (S30) → Option ((List (S30)) × Bool)
 | 0, _, _, _, _ => none
 | k + 1, x10, x11, x12, x223000 => if x12 < x11 then (if 0 ≤ x12 then (if x12 < (x10.length : Int) then ((impl_Type_parts.f x223000).bind fun t225 => (if (t225.length : Int) = 2 then (if (rd x10 x12) < 0 then (some (([] : List (S30)), false)) else (if (rd x10 x12) > 1 then (some (([] : List (S30)), false)) else (if 0 ≤ (rd x10 x12) then (if (rd x10 x12) < (t225.length : Int) then (impl_Type.l0 k x10 x11 (wrap64 (x12 + 1)) ((rd_T30 t225 (rd x10 x12)).f0)) else (none)) else (none)))) else (some (([] : List (S30)), false)))) else (none)) else (none)) else (some (x223000, true))
def impl_Type.f (k : Nat) (l0_0 : List (S30)) (l1 : List Int) : Option ((List (S30)) × Bool) := impl_Type.l0 k l1 (l1.length : Int) 0 l0_0
theorem impl_Type.mono_l : ∀ k, (∀ y0 y1 y2 y3, LeO (impl_Type.l0 k y0 y1 y2 y3) (impl_Type.l0 (k + 1) y0 y1 y2 y3))
 | 0 => fun _ _ _ _ r h => by simp [impl_Type.l0] at h
 | k + 1 => by
  have ih0 := impl_Type.mono_l k
  ·intro y0 y1 y2 y3
   unfold impl_Type.l0
   repeat' first
   | (with_reducible exact ih0 _ _ _ _)
   | (with_reducible exact LeO.refl _)
   | (with_reducible exact LeO.none _)
   | (with_reducible refine LeO.ite ?_ ?_)
   | (with_reducible refine LeO.bind ?_ (fun _ => ?_))
   | exact ih0 _ _ _ _
   | exact LeO.none _
   | refine LeO.ite ?_ ?_
   | refine LeO.bind ?_ (fun _ => ?_)
theorem impl_Type.mono : ∀ a0 a1 k, LeO (impl_Type.f k a0 a1) (impl_Type.f (k + 1) a0 a1) := by
 intro a0 a1 k
 have ih0 := impl_Type.mono_l k
 unfold impl_Type.f
 repeat' first
   | (with_reducible exact ih0 _ _ _ _)
   | (with_reducible exact LeO.refl _)
   | (with_reducible exact LeO.none _)
   | (with_reducible refine LeO.ite ?_ ?_)
   | (with_reducible refine LeO.bind ?_ (fun _ => ?_))
   | exact ih0 _ _ _ _
   | exact LeO.none _
   | refine LeO.ite ?_ ?_
   | refine LeO.bind ?_ (fun _ => ?_)
set_option maxHeartbeats 8000000 in
set_option maxRecDepth 100000 in
theorem impl_Type.calls (k : Nat) (P0_0_ : Nat → Prop) (A0_0 : Option Addr) (c0_0 : Nat) (l0_0 : List (S30)) (A1 : Option Addr) (c1 : Nat) (l1 : List Int) (r1 : List (S30)) (r2 : Bool) (w : World) (hs0_0 : Kd.V k30 30 w w.heap.size (fun k_ => P0_0_ k_) (.slice A0_0 l0_0.length c0_0) l0_0) (hr1 : Kd.C (Kd.int .i64) w A1 l1.length l1) (hc1 : l1.length ≤ c1) (h : impl_Type.f k l0_0 l1 = some (r1, r2)) :
  Calls Try.prog 53 #[.agg #[.slice A0_0 l0_0.length c0_0], .slice A1 l1.length c1] w fun e w' => ∃ v0_ : Value, e = .returned (.tuple #[.agg #[v0_], .bool r2]) ∧ Kd.V k30 30 w' w.heap.size (fun k_ => (P0_0_ k_ ∨ w.heap.size ≤ k_)) v0_ r1 ∧ Below w.heap.size w w' := by
 have hu30 := Try.underlying30
 have hna30 : ∀ (v : Value) (W : World), (nilAhead 223 30 v "loop.example/handfast/impl.parts").run Try.prog W = .ok (some false) W := fun _ _ => by kernel_rfl
 have hme30 : ∀ (v : Value) (W : World), (method 223 30 v "loop.example/handfast/impl.parts").run Try.prog W = .ok (104, v) W := fun _ _ => by kernel_rfl
 have HO0_0 := Aside0.mk (show Kd.V k30 30 w w.heap.size (fun k_ => (P0_0_ k_ ∨ w.heap.size ≤ k_)) (.slice A0_0 l0_0.length c0_0) l0_0 from Kd.V_mono hs0_0 (fun k_ hk => .inl hk))
 have HR1 := Aside0.mk hr1
 have HC1 := Aside0.mk hc1
 clear hr1 hc1
 have HB := Aside0.mk (Below.refl w.heap.size w)
 have H : (impl_Type.l0 k l1 (l1.length : Int) 0 l0_0) = some (r1, r2) := h
 clear h
 have H' := Aside0.mk H
 clear H
 go_enter Try.func53, Try.ntmps53
 go_wp2_with (first | ((with_reducible refine gate_dst (N := 2) rfl ?_); refine zbx 2 #[.slice A0_0 l0_0.length c0_0] 30 ?_; intro gb222 hg w3 hbox hb; replace HO0_0 := Aside0.mk (Kd.V_below (Kd.V_elderB (y13 HO0_0.out) gb222 (Nat.le_of_eq hg.symm)) hb); have BK222 := Aside0.mk hbox; have GW222 := Aside0.mk ((y5 hg HB.out : w.heap.size ≤ gb222)); have GE222 := Aside0.mk ((y5 hg HB.out : w.heap.size ≤ gb222)); replace HB := Aside0.mk (below_step (y2 HB.out) hb); clear hb hbox hg) | ((with_reducible refine gate_dst (N := 4) rfl ?_); refine zbx 4 #[.slice none 0 0] 30 ?_; intro gb223 hg w4 hbox hb; replace HO0_0 := Aside0.mk (Kd.V_below (Kd.V_elderB (y13 HO0_0.out) gb223 (Nat.le_of_eq hg.symm)) hb); have BK223 := Aside0.mk hbox; have GW223 := Aside0.mk ((y6 hg HB.out GE222.out : w.heap.size ≤ gb223)); have GE223 := Aside0.mk ((y6 hg HB.out GE222.out : w.heap.size ≤ gb223)); replace HB := Aside0.mk (below_step (y3 HB.out GE222.out) hb); have NB222_223 := zltn hg BK222; have NB223_222 := zgtn hg BK222; replace BK222 := zbb BK222 hb; clear hb hbox hg))
 go_loopg [12] k (fun kq v12 w' => ∃ (x12_1 : Int) (x223000_1 : List (S30)) (u223000 : Value), v12 = .int .i64 x12_1 ∧ Aside0 (impl_Type.l0 kq l1 (l1.length : Int) x12_1 x223000_1 = some (r1, r2)) ∧ Aside0 (kq ≤ k) ∧ Aside0 (Kd.V k30 30 w' w.heap.size (fun k_ => (P0_0_ k_ ∨ w.heap.size ≤ k_) ∧ k_ ≠ gb222 ∧ k_ ≠ gb223) u223000 x223000_1) ∧ Aside0 (w'.heap[gb222]? = some (.cells #[u223000] 30 (0, 0))) ∧ Aside0 (w'.heap[gb223]? = some (.cells #[(.slice none 0 0)] 30 (0, 0))) ∧ Aside0 (Below w.heap.size w w'))
 case atStart => exact ⟨(0), (l0_0), (.slice A0_0 l0_0.length c0_0), y26, H', ⟨Nat.le_refl _⟩, ⟨(y63 HO0_0.out)⟩, ⟨(y0 BK222.out)⟩, ⟨(y0 BK223.out)⟩, ⟨(y1 HB.out GE222.out GE223.out)⟩⟩
 case round =>
  clear H'
  try clear c1
  try clear p2
  obtain ⟨x12_1, x223000_1, u223000, rfl, HA, HK1, HO_223000, BK222, BK223, HB⟩ := hrel
  cases gk with
  | zero => exact absurd HA.out (by simp [impl_Type.l0])
  | succ k1 =>
   have H := HA.out
   clear HA
   simp only [impl_Type.l0] at H
   by_cases c5 : x12_1 < (l1.length : Int)
   ·rw [if_pos c5] at H
    have c5b0 : decide (x12_1 < (l1.length : Int)) = true := decide_eq_true c5
    clear c5
    by_cases c6 : 0 ≤ x12_1
    ·rw [if_pos c6] at H
     have c6b0 : decide (0 ≤ x12_1) = true := decide_eq_true c6
     clear c6
     by_cases c7 : x12_1 < (l1.length : Int)
     ·rw [if_pos c7] at H
      have c7b0 : decide (x12_1 < (l1.length : Int)) = true := decide_eq_true c7
      clear c7
      obtain ⟨t225, A80, H⟩ := ob H
      have A8 := Aside0.mk A80
      clear A80
      by_cases c9 : (t225.length : Int) = 2
      ·rw [if_pos c9] at H
       have c9b0 : ((t225.length : Int) == 2) = true := beq_iff_eq.mpr c9
       have c9b1 : ((t225.length : Int) != 2) = false := bne_eq_false_iff_eq.mpr c9
       clear c9
       by_cases c10 : (rd l1 x12_1) < 0
       ·rw [if_pos c10] at H
        have c10b0 : decide ((rd l1 x12_1) < 0) = true := decide_eq_true c10
        clear c10
        simp only [Option.some.injEq, Prod.mk.injEq] at H
        obtain ⟨rfl, rfl⟩ := H
        have p224 : 0 ≤ (x12_1 : Int) := of_decide_eq_true y19
        have q224 : x12_1 < (l1.length : Int) := of_decide_eq_true y19
        obtain ⟨ad224, e224, hx224_0⟩ := Kd.at_int HR1.out x12_1 p224 q224
        cases e224
        replace hx224_0 := (HB.out.cell (World.block_lt_of_cell? w _ hx224_0)).trans hx224_0
        replace p224 := eq_true p224
        replace q224 := eq_true q224
        have hnb11 := NB222_223.out
        have hnc11 := NB223_222.out
        have hcz12_0 := zh BK222
        have hfz12_0 := zfr BK222 0
        obtain ⟨Ao13, co13, eo13⟩ := Kd.V_slice HO_223000.out
        subst eo13
        go_wp2_with (first | (go_at_call 104; (with_reducible refine (impl_Type_parts.calls (fun k_ => ((P0_0_ k_ ∨ w.heap.size ≤ k_) ∧ (k_ ≠ gb222 ∧ k_ ≠ gb223))) _ _ x223000_1 t225 _ ?side1 A8.out).mono ?_); (case side1 => exact HO_223000.out); rintro e w14 ⟨v226, rfl, ho0, hb⟩; replace HO_223000 := Aside0.mk (Kd.V_below (y13 HO_223000.out) hb); have HO227 := Aside0.mk (Kd.V_lower (Kd.V_mono (ok' := fun k_ => (P0_0_ k_ ∨ w.heap.size ≤ k_) ∧ k_ ≠ gb222 ∧ k_ ≠ gb223) ho0 (fun k_ hk_ => ⟨Or.elim hk_ (fun hs_ => hs_.1) (fun hn_ => (.inr (Nat.le_trans (below_size (y1 HB.out GE222.out GE223.out)) hn_))), Or.elim hk_ (fun hs_ => hs_.2.1) (fun hn_ => (Kd.freshB (g := gb222) (o := .cells #[.slice Ao13 x223000_1.length co13] 30 (0, 0)) (y0 BK222.out) k_ hn_)), Or.elim hk_ (fun hs_ => hs_.2.2) (fun hn_ => (Kd.freshB (g := gb223) (o := .cells #[.slice none 0 0] 30 (0, 0)) (y0 BK223.out) k_ hn_))⟩)) (below_size (y1 HB.out GE222.out GE223.out))); replace BK222 := zbb BK222 hb; replace BK223 := zbb BK223 hb; replace HB := Aside0.mk (below_step (y1 HB.out GE222.out GE223.out) hb); (try clear hb); (try clear hb2); (try clear hk); (try clear hi); (try clear ho0); obtain ⟨Ao15, co15, eo15⟩ := Kd.V_slice HO227.out; subst eo15) | ((with_reducible refine gate_dst (N := 9) rfl ?_); refine zbx 9 #[.slice none 0 0] 30 ?_; intro gb228 hg w16 hbox hb; replace HO_223000 := Aside0.mk (Kd.V_below (Kd.V_elderB (y13 HO_223000.out) gb228 (Nat.le_of_eq hg.symm)) hb); replace HO227 := Aside0.mk (Kd.V_below (Kd.V_elderB (y13 HO227.out) gb228 (Nat.le_of_eq hg.symm)) hb); have BK228 := Aside0.mk hbox; have GW228 := Aside0.mk ((y20 hg HB.out GE222.out GE223.out : w.heap.size ≤ gb228)); have GE228 := Aside0.mk ((y20 hg HB.out GE222.out GE223.out : w.heap.size ≤ gb228)); replace HB := Aside0.mk (below_step (y1 HB.out GE222.out GE223.out) hb); have NB222_228 := zltn hg BK222; have NB228_222 := zgtn hg BK222; replace BK222 := zbb BK222 hb; have NB223_228 := zltn hg BK223; have NB228_223 := zgtn hg BK223; replace BK223 := zbb BK223 hb; clear hb hbox hg; have hnb17 := NB228_222.out; have hnc17 := NB222_228.out; have hnb18 := NB228_223.out; have hnc18 := NB223_228.out; have hcz19_0 := zh BK228; have hfz19_0 := zfr BK228 0; have hcz20_0 := zh BK223; have hfz20_0 := zfr BK223 0))
        refine bodyPost_ret (results_ct rfl _ _ gb223 30 #[.slice none 0 0] (0, 0) _ rfl (by (with_reducible repeat (first | refine blk_drewN ?_ _ | refine blk_drew ?_ | refine blk_alloc ?_ _)); apply blk_put (i := 0); (case h => exact y0 BK223.out); (case e => rfl)) Try.underlying30 rfl (by kernel_rfl)) rfl ?_
        exact ⟨_, y14, Kd.V_nil _ _ _ _ _, (y7 HB.out GE222.out GE223.out GE228.out)⟩
       ·rw [if_neg c10] at H
        have c10b0 : decide ((rd l1 x12_1) < 0) = false := decide_eq_false c10
        clear c10
        by_cases c21 : (rd l1 x12_1) > 1
        ·rw [if_pos c21] at H
         have c21b0 : decide (1 < (rd l1 x12_1)) = true := decide_eq_true c21
         clear c21
         simp only [Option.some.injEq, Prod.mk.injEq] at H
         obtain ⟨rfl, rfl⟩ := H
         have p224 : 0 ≤ (x12_1 : Int) := of_decide_eq_true y19
         have q224 : x12_1 < (l1.length : Int) := of_decide_eq_true y19
         obtain ⟨ad224, e224, hx224_0⟩ := Kd.at_int HR1.out x12_1 p224 q224
         cases e224
         replace hx224_0 := (HB.out.cell (World.block_lt_of_cell? w _ hx224_0)).trans hx224_0
         replace p224 := eq_true p224
         replace q224 := eq_true q224
         have hnb22 := NB222_223.out
         have hnc22 := NB223_222.out
         have hcz23_0 := zh BK222
         have hfz23_0 := zfr BK222 0
         obtain ⟨Ao24, co24, eo24⟩ := Kd.V_slice HO_223000.out
         subst eo24
         go_wp2_with (first | (go_at_call 104; (with_reducible refine (impl_Type_parts.calls (fun k_ => ((P0_0_ k_ ∨ w.heap.size ≤ k_) ∧ (k_ ≠ gb222 ∧ k_ ≠ gb223))) _ _ x223000_1 t225 _ ?side1 A8.out).mono ?_); (case side1 => exact HO_223000.out); rintro e w25 ⟨v226, rfl, ho0, hb⟩; replace HO_223000 := Aside0.mk (Kd.V_below (y13 HO_223000.out) hb); have HO227 := Aside0.mk (Kd.V_lower (Kd.V_mono (ok' := fun k_ => (P0_0_ k_ ∨ w.heap.size ≤ k_) ∧ k_ ≠ gb222 ∧ k_ ≠ gb223) ho0 (fun k_ hk_ => ⟨Or.elim hk_ (fun hs_ => hs_.1) (fun hn_ => (.inr (Nat.le_trans (below_size (y1 HB.out GE222.out GE223.out)) hn_))), Or.elim hk_ (fun hs_ => hs_.2.1) (fun hn_ => (Kd.freshB (g := gb222) (o := .cells #[.slice Ao24 x223000_1.length co24] 30 (0, 0)) (y0 BK222.out) k_ hn_)), Or.elim hk_ (fun hs_ => hs_.2.2) (fun hn_ => (Kd.freshB (g := gb223) (o := .cells #[.slice none 0 0] 30 (0, 0)) (y0 BK223.out) k_ hn_))⟩)) (below_size (y1 HB.out GE222.out GE223.out))); replace BK222 := zbb BK222 hb; replace BK223 := zbb BK223 hb; replace HB := Aside0.mk (below_step (y1 HB.out GE222.out GE223.out) hb); (try clear hb); (try clear hb2); (try clear hk); (try clear hi); (try clear ho0); obtain ⟨Ao26, co26, eo26⟩ := Kd.V_slice HO227.out; subst eo26) | ((with_reducible refine gate_dst (N := 9) rfl ?_); refine zbx 9 #[.slice none 0 0] 30 ?_; intro gb229 hg w27 hbox hb; replace HO_223000 := Aside0.mk (Kd.V_below (Kd.V_elderB (y13 HO_223000.out) gb229 (Nat.le_of_eq hg.symm)) hb); replace HO227 := Aside0.mk (Kd.V_below (Kd.V_elderB (y13 HO227.out) gb229 (Nat.le_of_eq hg.symm)) hb); have BK229 := Aside0.mk hbox; have GW229 := Aside0.mk ((y20 hg HB.out GE222.out GE223.out : w.heap.size ≤ gb229)); have GE229 := Aside0.mk ((y20 hg HB.out GE222.out GE223.out : w.heap.size ≤ gb229)); replace HB := Aside0.mk (below_step (y1 HB.out GE222.out GE223.out) hb); have NB222_229 := zltn hg BK222; have NB229_222 := zgtn hg BK222; replace BK222 := zbb BK222 hb; have NB223_229 := zltn hg BK223; have NB229_223 := zgtn hg BK223; replace BK223 := zbb BK223 hb; clear hb hbox hg; have hnb28 := NB229_222.out; have hnc28 := NB222_229.out; have hnb29 := NB229_223.out; have hnc29 := NB223_229.out; have hcz30_0 := zh BK229; have hfz30_0 := zfr BK229 0; have hcz31_0 := zh BK223; have hfz31_0 := zfr BK223 0))
         refine bodyPost_ret (results_ct rfl _ _ gb223 30 #[.slice none 0 0] (0, 0) _ rfl (by (with_reducible repeat (first | refine blk_drewN ?_ _ | refine blk_drew ?_ | refine blk_alloc ?_ _)); apply blk_put (i := 0); (case h => exact y0 BK223.out); (case e => rfl)) Try.underlying30 rfl (by kernel_rfl)) rfl ?_
         exact ⟨_, y14, Kd.V_nil _ _ _ _ _, (y7 HB.out GE222.out GE223.out GE229.out)⟩
        ·rw [if_neg c21] at H
         have c21b0 : decide (1 < (rd l1 x12_1)) = false := decide_eq_false c21
         clear c21
         by_cases c32 : 0 ≤ (rd l1 x12_1)
         ·rw [if_pos c32] at H
          have c32b0 : decide (0 ≤ (rd l1 x12_1)) = true := decide_eq_true c32
          clear c32
          by_cases c33 : (rd l1 x12_1) < (t225.length : Int)
          ·rw [if_pos c33] at H
           have c33b0 : decide ((rd l1 x12_1) < (t225.length : Int)) = true := decide_eq_true c33
           clear c33
           have H' := Aside0.mk H
           clear H
           have p224 : 0 ≤ (x12_1 : Int) := of_decide_eq_true y19
           have q224 : x12_1 < (l1.length : Int) := of_decide_eq_true y19
           obtain ⟨ad224, e224, hx224_0⟩ := Kd.at_int HR1.out x12_1 p224 q224
           cases e224
           replace hx224_0 := (HB.out.cell (World.block_lt_of_cell? w _ hx224_0)).trans hx224_0
           replace p224 := eq_true p224
           replace q224 := eq_true q224
           have hnb34 := NB222_223.out
           have hnc34 := NB223_222.out
           have hcz35_0 := zh BK222
           have hfz35_0 := zfr BK222 0
           obtain ⟨Ao36, co36, eo36⟩ := Kd.V_slice HO_223000.out
           subst eo36
           go_wp2_with (first | (go_at_call 104; (with_reducible refine (impl_Type_parts.calls (fun k_ => ((P0_0_ k_ ∨ w.heap.size ≤ k_) ∧ (k_ ≠ gb222 ∧ k_ ≠ gb223))) _ _ x223000_1 t225 _ ?side1 A8.out).mono ?_); (case side1 => exact HO_223000.out); rintro e w37 ⟨v226, rfl, ho0, hb⟩; replace HO_223000 := Aside0.mk (Kd.V_below (y13 HO_223000.out) hb); have HO227 := Aside0.mk (Kd.V_lower (Kd.V_mono (ok' := fun k_ => (P0_0_ k_ ∨ w.heap.size ≤ k_) ∧ k_ ≠ gb222 ∧ k_ ≠ gb223) ho0 (fun k_ hk_ => ⟨Or.elim hk_ (fun hs_ => hs_.1) (fun hn_ => (.inr (Nat.le_trans (below_size (y1 HB.out GE222.out GE223.out)) hn_))), Or.elim hk_ (fun hs_ => hs_.2.1) (fun hn_ => (Kd.freshB (g := gb222) (o := .cells #[.slice Ao36 x223000_1.length co36] 30 (0, 0)) (y0 BK222.out) k_ hn_)), Or.elim hk_ (fun hs_ => hs_.2.2) (fun hn_ => (Kd.freshB (g := gb223) (o := .cells #[.slice none 0 0] 30 (0, 0)) (y0 BK223.out) k_ hn_))⟩)) (below_size (y1 HB.out GE222.out GE223.out))); replace BK222 := zbb BK222 hb; replace BK223 := zbb BK223 hb; replace HB := Aside0.mk (below_step (y1 HB.out GE222.out GE223.out) hb); (try clear hb); (try clear hb2); (try clear hk); (try clear hi); (try clear ho0); obtain ⟨Ao38, co38, eo38⟩ := Kd.V_slice HO227.out; subst eo38; have p230 : 0 ≤ ((rd l1 x12_1) : Int) := of_decide_eq_true y19; have q230 : (rd l1 x12_1) < (t225.length : Int) := of_decide_eq_true y19; obtain ⟨ad230, A230_0, c230_0, e230, hx230_0, hl230_0, hi230_0⟩ := at_T30 (Kd.V_reads' HO227.out).2.2 (rd l1 x12_1) p230 q230; cases e230; obtain ⟨ce230, hce230, hMe230, hcc230⟩ := Kd.V_get HO227.out z30 (rd l1 x12_1) p230 (by first | exact q230 | exact of_decide_eq_true y19 | (have e_ := (Kd.V_reads' HO227.out).1; omega)); obtain ⟨ua230_0, uc230_0, rfl, ul230_0, ge230_0⟩ := k30_openF hMe230; have hv230_0 := hcc230 0 _ rfl; rw [Nat.add_zero, show (k30).sz = 1 from rfl, Nat.mul_one] at hv230_0; replace hv230_0 := Option.some.inj (hv230_0.symm.trans hx230_0); injection hv230_0 with hva_ hvn_ hvc_; rw [hva_] at ge230_0; rw [hvc_] at ul230_0; have HL230_0 := Aside0.mk (show Kd.V k30 30 _ w.heap.size _ _ ((rd_T30 t225 (rd l1 x12_1)).f0) from Kd.V_mk ul230_0 ge230_0); clear hva_ hvn_ hvc_ ge230_0 ul230_0; clear hcc230 hce230; have HR230_0 := Aside0.mk hi230_0; have HC230_0 := Aside0.mk hl230_0; clear hi230_0 hl230_0; replace p230 := eq_true p230; replace q230 := eq_true q230; have hcz39_0 := zh BK222; have hfz39_0 := zfr BK222 0))
           go_roundg k1
           case measure => have := HK1.out; omega
           case rel => exact ⟨(wrap64 (x12_1 + 1)), ((rd_T30 t225 (rd l1 x12_1)).f0), (.slice A230_0 ((rd_T30 t225 (rd l1 x12_1)).f0).length c230_0), y26, H', ⟨(y46 HK1.out)⟩, ⟨(by (with_reducible repeat (first | apply Kd.V_alloc | apply Kd.V_drewN | apply Kd.V_drew)); exact Kd.V_mono (Kd.V_far (p := ⟨gb222, 0, none⟩) (Kd.V_mono HL230_0.out (fun k_ hk => (⟨hk, hk.2.1⟩ : _ ∧ k_ ≠ gb222))) (fun _ hk => hk.2) (.slice A230_0 ((rd_T30 t225 (rd l1 x12_1)).f0).length c230_0)) (fun _ hk => ⟨hk.1.1, ⟨hk.1.2.1, hk.1.2.2⟩⟩))⟩, ⟨(by (with_reducible repeat (first | refine blk_drewN ?_ _ | refine blk_drew ?_ | refine blk_alloc ?_ _)); refine blk_put (cs := #[.slice Ao36 x223000_1.length co36]) ?_ 0 _ rfl; (with_reducible repeat (first | refine blk_drewN ?_ _ | refine blk_drew ?_ | refine blk_alloc ?_ _)); exact BK222.out)⟩, ⟨(y21 NB223_222.out BK223.out)⟩, ⟨(y1 HB.out GE222.out GE223.out)⟩⟩
          ·rw [if_neg c33] at H
           exact absurd H (by simp)
         ·rw [if_neg c32] at H
          exact absurd H (by simp)
      ·rw [if_neg c9] at H
       have c9b0 : ((t225.length : Int) == 2) = false := beq_eq_false_iff_ne.mpr c9
       have c9b1 : ((t225.length : Int) != 2) = true := bne_iff_ne.mpr c9
       simp only [Option.some.injEq, Prod.mk.injEq] at H
       obtain ⟨rfl, rfl⟩ := H
       have p224 : 0 ≤ (x12_1 : Int) := of_decide_eq_true y19
       have q224 : x12_1 < (l1.length : Int) := of_decide_eq_true y19
       obtain ⟨ad224, e224, hx224_0⟩ := Kd.at_int HR1.out x12_1 p224 q224
       cases e224
       replace hx224_0 := (HB.out.cell (World.block_lt_of_cell? w _ hx224_0)).trans hx224_0
       replace p224 := eq_true p224
       replace q224 := eq_true q224
       have hnb40 := NB222_223.out
       have hnc40 := NB223_222.out
       have hcz41_0 := zh BK222
       have hfz41_0 := zfr BK222 0
       obtain ⟨Ao42, co42, eo42⟩ := Kd.V_slice HO_223000.out
       subst eo42
       go_wp2_with (first | (go_at_call 104; (with_reducible refine (impl_Type_parts.calls (fun k_ => ((P0_0_ k_ ∨ w.heap.size ≤ k_) ∧ (k_ ≠ gb222 ∧ k_ ≠ gb223))) _ _ x223000_1 t225 _ ?side1 A8.out).mono ?_); (case side1 => exact HO_223000.out); rintro e w43 ⟨v226, rfl, ho0, hb⟩; replace HO_223000 := Aside0.mk (Kd.V_below (y13 HO_223000.out) hb); have HO227 := Aside0.mk (Kd.V_lower (Kd.V_mono (ok' := fun k_ => (P0_0_ k_ ∨ w.heap.size ≤ k_) ∧ k_ ≠ gb222 ∧ k_ ≠ gb223) ho0 (fun k_ hk_ => ⟨Or.elim hk_ (fun hs_ => hs_.1) (fun hn_ => (.inr (Nat.le_trans (below_size (y1 HB.out GE222.out GE223.out)) hn_))), Or.elim hk_ (fun hs_ => hs_.2.1) (fun hn_ => (Kd.freshB (g := gb222) (o := .cells #[.slice Ao42 x223000_1.length co42] 30 (0, 0)) (y0 BK222.out) k_ hn_)), Or.elim hk_ (fun hs_ => hs_.2.2) (fun hn_ => (Kd.freshB (g := gb223) (o := .cells #[.slice none 0 0] 30 (0, 0)) (y0 BK223.out) k_ hn_))⟩)) (below_size (y1 HB.out GE222.out GE223.out))); replace BK222 := zbb BK222 hb; replace BK223 := zbb BK223 hb; replace HB := Aside0.mk (below_step (y1 HB.out GE222.out GE223.out) hb); (try clear hb); (try clear hb2); (try clear hk); (try clear hi); (try clear ho0); obtain ⟨Ao44, co44, eo44⟩ := Kd.V_slice HO227.out; subst eo44) | ((with_reducible refine gate_dst (N := 9) rfl ?_); refine zbx 9 #[.slice none 0 0] 30 ?_; intro gb231 hg w45 hbox hb; replace HO_223000 := Aside0.mk (Kd.V_below (Kd.V_elderB (y13 HO_223000.out) gb231 (Nat.le_of_eq hg.symm)) hb); replace HO227 := Aside0.mk (Kd.V_below (Kd.V_elderB (y13 HO227.out) gb231 (Nat.le_of_eq hg.symm)) hb); have BK231 := Aside0.mk hbox; have GW231 := Aside0.mk ((y20 hg HB.out GE222.out GE223.out : w.heap.size ≤ gb231)); have GE231 := Aside0.mk ((y20 hg HB.out GE222.out GE223.out : w.heap.size ≤ gb231)); replace HB := Aside0.mk (below_step (y1 HB.out GE222.out GE223.out) hb); have NB222_231 := zltn hg BK222; have NB231_222 := zgtn hg BK222; replace BK222 := zbb BK222 hb; have NB223_231 := zltn hg BK223; have NB231_223 := zgtn hg BK223; replace BK223 := zbb BK223 hb; clear hb hbox hg; have hnb46 := NB231_222.out; have hnc46 := NB222_231.out; have hnb47 := NB231_223.out; have hnc47 := NB223_231.out; have hcz48_0 := zh BK231; have hfz48_0 := zfr BK231 0; have hcz49_0 := zh BK223; have hfz49_0 := zfr BK223 0))
       refine bodyPost_ret (results_ct rfl _ _ gb223 30 #[.slice none 0 0] (0, 0) _ rfl (by (with_reducible repeat (first | refine blk_drewN ?_ _ | refine blk_drew ?_ | refine blk_alloc ?_ _)); apply blk_put (i := 0); (case h => exact y0 BK223.out); (case e => rfl)) Try.underlying30 rfl (by kernel_rfl)) rfl ?_
       exact ⟨_, y14, Kd.V_nil _ _ _ _ _, (y7 HB.out GE222.out GE223.out GE231.out)⟩
     ·rw [if_neg c7] at H
      exact absurd H (by simp)
    ·rw [if_neg c6] at H
     exact absurd H (by simp)
   ·rw [if_neg c5] at H
    have c5b0 : decide (x12_1 < (l1.length : Int)) = false := decide_eq_false c5
    clear c5
    simp only [Option.some.injEq, Prod.mk.injEq] at H
    obtain ⟨rfl, rfl⟩ := H
    have hnb50 := NB222_223.out
    have hnc50 := NB223_222.out
    have hcz51_0 := zh BK222
    have hfz51_0 := zfr BK222 0
    obtain ⟨Ao52, co52, eo52⟩ := Kd.V_slice HO_223000.out
    subst eo52
    have hcz53_0 := zh BK223
    have hfz53_0 := zfr BK223 0
    go_wp2
    refine bodyPost_ret (results_ct rfl _ _ gb223 30 #[.slice Ao52 x223000_1.length co52] (0, 0) _ rfl (by (with_reducible repeat (first | refine blk_drewN ?_ _ | refine blk_drew ?_ | refine blk_alloc ?_ _)); apply blk_put (i := 0); (case h => exact y0 BK223.out); (case e => rfl)) Try.underlying30 rfl (by kernel_rfl)) rfl ?_
    exact ⟨_, y14, (by (with_reducible repeat (first | apply Kd.V_alloc | apply Kd.V_drewN | apply Kd.V_drew)); exact Kd.V_mono (Kd.V_far (p := ⟨gb223, 0, none⟩) (Kd.V_mono HO_223000.out (fun k_ hk => (⟨hk, hk.2.2⟩ : _ ∧ k_ ≠ gb223))) (fun _ hk => hk.2) (.slice Ao52 x223000_1.length co52)) (fun _ hk => hk.1.1)), (y1 HB.out GE222.out GE223.out)⟩
end Go.Proofs.Ytjhbhihfifhljaa.PA
end
