-- Ytjhbhihfifhljaa's texts for the statement FnExactTypeAt, one behind the other (merge.py).
import Derived.Test.YtjhbhihfifhljaaQFnExactTypeAt2
import Derived.Test.YtjhbhihfifhljaaQFnExactTypeAt0
import Derived.Test.YtjhbhihfifhljaaQFnExactTypeAt1
import Derived.SizedLaws
import Derived.ChangeSlices
import Derived.Test.YtjhbhihfifhljaaRows
import Derived.WalkKit
import Derived.ProofKit
import Derived.OpenShut
import Derived.ShutString
import Derived.ChangeOld
import Derived.Below
section
set_option linter.unusedVariables false
namespace Go.Proofs.Ytjhbhihfifhljaa.ExT
open Go.RowKit Go.Proofs.Ytjhbhihfifhljaa.PA Go.Proofs.YtjhbhihfifhljaaW.PrintWords Go.Proofs.YtjhbhihfifhljaaW.PrintLast Go.Proofs.Ytjhbhihfifhljaa.Draw Go.Proofs.Ytjhbhihfifhljaa.Types Go.Proofs.Ytjhbhihfifhljaa.Open
abbrev Lt := List S25
mutual
def cnt : S25 → Nat
  | ⟨l⟩ => cnts l
def cnts : List S25 → Nat
  | [] => 0
  | x :: r => 1 + cnt x + cnts r
end
mutual
def cvt : S25 → S30
  | ⟨l⟩ => ⟨cvl l⟩
def cvl : List S25 → List S30
  | [] => []
  | x :: r => cvt x :: cvl r
end
theorem cnt_f0 (x : S25) : cnt x = cnts x.f0 := by cases x; rw [cnt]
theorem cvt_f0 (x : S25) : cvt x = ⟨cvl x.f0⟩ := by cases x; rw [cvt]
theorem cnts_cons (x : S25) (r : Lt) : cnts (x :: r) = 1 + cnts x.f0 + cnts r := by rw [cnts, cnt_f0]
theorem cvl_cons (x : S25) (r : Lt) : cvl (x :: r) = ⟨cvl x.f0⟩ :: cvl r := by rw [cvl, cvt_f0]
theorem cvl_length : ∀ l : Lt, (cvl l).length = l.length
  | [] => by rw [cvl]; rfl
  | x :: r => by rw [cvl_cons, List.length_cons, List.length_cons, cvl_length r]
theorem cnts_len : ∀ l : Lt, l.length ≤ cnts l
  | [] => by simp
  | x :: r => by rw [cnts_cons, List.length_cons]; have := cnts_len r; omega
theorem cnts_app : ∀ l r : Lt, cnts (l ++ r) = cnts l + cnts r
  | [], r => by rw [List.nil_append, cnts]; omega
  | x :: l, r => by rw [List.cons_append, cnts_cons, cnts_cons, cnts_app l r]; omega
theorem cvl_app : ∀ l r : Lt, cvl (l ++ r) = cvl l ++ cvl r
  | [], r => by rw [List.nil_append, cvl]; rfl
  | x :: l, r => by rw [List.cons_append, cvl_cons, cvl_cons, cvl_app l r]; rfl
theorem rdL_mid (pre r : Lt) (x : S25) : rd_T25 (pre ++ x :: r) (pre.length : Int) = x := by
  unfold rd_T25
  rw [Int.toNat_natCast, List.getD_eq_getElem?_getD, List.getElem?_append_right (Nat.le_refl _)]
  simp
theorem rdI_mid (pre r : Ty) (x : S30) : rd_T30 (pre ++ x :: r) (pre.length : Int) = x := by
  unfold rd_T30
  rw [Int.toNat_natCast, List.getD_eq_getElem?_getD, List.getElem?_append_right (Nat.le_refl _)]
  simp
theorem bdT_len {l : Lt} (h : BdT l) : l.length ≤ 9223372036854775807 := by cases h; assumption
theorem bdT_mem {l : Lt} (h : BdT l) {x : S25} (hx : x ∈ l) : BdT x.f0 := by cases h with | mk _ h => exact h x hx
def left (a : Nat) (n : Nat) : Int := if n ≤ a then ((a - n : Nat) : Int) else -1
theorem left_neg (a n : Nat) : left a n < 0 ↔ a < n := by unfold left; split <;> omega
theorem left_ok (a n : Nat) (h : n ≤ a) : left a n = ((a - n : Nat) : Int) := by unfold left; rw [if_pos h]
theorem left_bad (a n : Nat) (h : a < n) : left a n = -1 := by unfold left; rw [if_neg (by omega)]
theorem szLoop_ev (a : Nat) (ha : a ≤ 1048576) (IH : ∀ b, b < a → ∀ (l : Lt), BdT l → ∀ k, 3 * b + 5 ≤ k → laws_szTypeS.f k l b = some (left b (cnts l))) :
    ∀ (r pre : Lt) (b k : Nat), BdT (pre ++ r) → b < a → pre.length + r.length ≤ 1048576 → 3 * b + 5 + r.length ≤ k →
    laws_szTypeS.l0 k (pre ++ r) b pre.length = some (left (b + r.length) (cnts r)) := by
  intro r
  induction r with
  | nil =>
    intro pre b k hB hb hl hk
    obtain ⟨k, rfl⟩ : ∃ m, k = m + 1 := ⟨k - 1, by omega⟩
    simp only [laws_szTypeS.l0]
    rw [if_neg (by simp), left_ok _ _ (by rw [cnts]; omega), cnts]; rfl
  | cons x r ih =>
    intro pre b k hB hb hl hk
    simp only [List.length_cons] at hl hk
    obtain ⟨k, rfl⟩ : ∃ m, k = m + 1 := ⟨k - 1, by omega⟩
    simp only [laws_szTypeS.l0, laws_szType.F]
    have hlen : ((pre ++ x :: r).length : Int) = pre.length + 1 + r.length := by simp; omega
    rw [if_pos (by omega), if_pos (by omega), rdL_mid, IH b hb x.f0 (bdT_mem hB (by simp)) k (by omega)]; simp only [Option.bind_some]
    have hc := cnts_len r
    rw [cnts_cons, List.length_cons]
    by_cases h : cnts x.f0 ≤ b
    · have e := left_ok b _ h
      rw [e, if_neg (by omega)]; simp only [Option.bind_some]
      rw [if_neg (by omega), w64 (by omega) (by omega)]
      have ea : pre ++ x :: r = (pre ++ [x]) ++ r := by simp
      have el : (pre.length : Int) + 1 = ((pre ++ [x]).length : Int) := by simp
      rw [el, ea, ih (pre ++ [x]) (b - cnts x.f0) k (by rw [← ea]; exact hB) (by omega) (by simp; omega) (by omega)]
      congr 1
      unfold left
      by_cases h2 : cnts r ≤ b - cnts x.f0 + r.length
      · rw [if_pos h2, if_pos (by omega)]; omega
      · rw [if_neg h2, if_neg (by omega)]
    · rw [left_bad b _ (by omega), if_pos (by omega)]; simp only [Option.bind_some]
      rw [if_pos (by omega), left_bad _ _ (by omega)]
theorem szS_ev : ∀ (a : Nat), a ≤ 1048576 → ∀ (l : Lt), BdT l → ∀ k, 3 * a + 5 ≤ k → laws_szTypeS.f k l a = some (left a (cnts l)) := by
  intro a
  induction a using Nat.strongRecOn with
  | _ a IH =>
    intro ha l hB k hk
    obtain ⟨k, rfl⟩ : ∃ m, k = m + 2 := ⟨k - 2, by omega⟩
    simp only [laws_szTypeS.f]
    have hn := bdT_len hB
    have hc := cnts_len l
    rw [w64 (by omega) (by omega)]
    by_cases h : (a : Int) - (l.length : Int) < 0
    · rw [if_pos h, left_bad _ _ (by omega)]
    · rw [if_neg h]
      by_cases h0 : l.length = 0
      · obtain rfl : l = [] := List.length_eq_zero_iff.1 h0
        simp only [laws_szTypeS.l0]
        rw [if_neg (by simp), cnts, left_ok _ _ (by omega)]; simp
      · have := szLoop_ev a ha (fun b hb l hB k hk => IH b hb (by omega) l hB k hk) l [] (a - l.length) (k + 1) (by simpa using hB) (by omega) (by simp; omega) (by omega)
        simp only [List.nil_append, List.length_nil] at this
        rw [show (a : Int) - (l.length : Int) = ((a - l.length : Nat) : Int) by omega]
        rw [show a - l.length + l.length = a by omega] at this
        exact this
theorem sz_ev (l : Lt) (hB : BdT l) (k : Nat) (hk : 3145733 ≤ k) : laws_szType.f k l 1048576 = some (left 1048576 (cnts l)) := by
  unfold laws_szType.f laws_szType.F
  rw [show (1048576 : Int) = ((1048576 : Nat) : Int) from rfl, szS_ev 1048576 (Nat.le_refl _) l hB k (by omega)]; simp only [Option.bind_some]
  by_cases h : cnts l ≤ 1048576
  · rw [left_ok _ _ h, if_neg (by omega)]
  · rw [left_bad _ _ (by omega)]; rfl
theorem toLoop_ev (c : Nat) (hc : c ≤ 1048576) (IH : ∀ (l : Lt), cnts l < c → ∀ k, 3 * cnts l + 6 ≤ k → laws_toTypeS.f k l = some (cvl l)) :
    ∀ (r pre : Lt) (k : Nat), cnts (pre ++ r) ≤ c → 3 * cnts r + 5 ≤ k →
    laws_toTypeS.l0 k (pre ++ r) (cvl pre ++ List.replicate r.length z30) pre.length = some (cvl (pre ++ r)) := by
  intro r
  induction r with
  | nil =>
    intro pre k h1 hk
    obtain ⟨k, rfl⟩ : ∃ m, k = m + 1 := ⟨k - 1, by omega⟩
    simp only [laws_toTypeS.l0]
    rw [if_neg (by simp)]
    simp
  | cons x r ih =>
    intro pre k h1 hk
    have e1 := cnts_app pre (x :: r)
    rw [cnts_cons] at e1 hk
    have e2 := cnts_len pre
    have e3 := cnts_len r
    obtain ⟨k, rfl⟩ : ∃ m, k = m + 1 := ⟨k - 1, by omega⟩
    simp only [laws_toTypeS.l0, laws_toType.F]
    have hlen : ((pre ++ x :: r).length : Int) = pre.length + 1 + r.length := by simp; omega
    rw [if_pos (by omega), if_pos (by omega), rdL_mid, IH x.f0 (by omega) k (by omega)]; simp only [Option.bind_some]
    rw [if_pos (by rw [List.length_append, cvl_length, List.length_replicate, List.length_cons]; omega), w64 (by omega) (by omega)]
    have ea : pre ++ x :: r = (pre ++ [x]) ++ r := by simp
    have el : (pre.length : Int) + 1 = ((pre ++ [x]).length : Int) := by simp
    have es : (cvl pre ++ List.replicate (r.length + 1) z30).set (pre.length : Int).toNat (⟨cvl x.f0⟩ : S30) = cvl (pre ++ [x]) ++ List.replicate r.length z30 := by
      rw [Int.toNat_natCast, List.set_append_right _ _ (by rw [cvl_length]; exact Nat.le_refl _), cvl_length, Nat.sub_self, List.replicate_succ, List.set_cons_zero, cvl_app, cvl_cons, cvl]
      simp
    rw [List.length_cons, es, el, ea]
    exact ih (pre ++ [x]) k (by rw [← ea]; exact h1) (by omega)
theorem toS_ev : ∀ (c : Nat), c ≤ 1048576 → ∀ (l : Lt), cnts l ≤ c → ∀ k, 3 * cnts l + 6 ≤ k → laws_toTypeS.f k l = some (cvl l) := by
  intro c
  induction c using Nat.strongRecOn with
  | _ c IH =>
    intro hc l hl k hk
    obtain ⟨k, rfl⟩ : ∃ m, k = m + 1 := ⟨k - 1, by omega⟩
    simp only [laws_toTypeS.f]
    have h1 := cnts_len l
    rw [if_pos (by omega), if_pos (by omega), Int.toNat_natCast]
    have := toLoop_ev (cnts l) (by omega) (fun l' hl' k hk => IH (cnts l') (by omega) (by omega) l' (Nat.le_refl _) k hk) l [] k (by simp) (by omega)
    simp only [List.nil_append, List.length_nil] at this
    rw [cvl] at this
    simpa using this
theorem to_ev (l : Lt) (h : cnts l ≤ 1048576) (k : Nat) (hk : 3145740 ≤ k) : laws_toType.f k l = some (cvl l) := by
  unfold laws_toType.f laws_toType.F
  rw [toS_ev 1048576 (Nat.le_refl _) l h k (by omega)]; rfl
theorem eqLoop_ev (c : Nat) (hc : c ≤ 1048576) (IH : ∀ (l : Lt), cnts l < c → ∀ k, 3 * cnts l + 6 ≤ k → laws_eqTypeS.f k (cvl l) (cvl l) = some true) :
    ∀ (r pre : Lt) (k : Nat), cnts (pre ++ r) ≤ c → 3 * cnts r + 5 ≤ k →
    laws_eqTypeS.l0 k (cvl (pre ++ r)) (cvl (pre ++ r)) pre.length = some true := by
  intro r
  induction r with
  | nil =>
    intro pre k h1 hk
    obtain ⟨k, rfl⟩ : ∃ m, k = m + 1 := ⟨k - 1, by omega⟩
    simp only [laws_eqTypeS.l0]
    rw [if_neg (by simp [cvl_length])]
  | cons x r ih =>
    intro pre k h1 hk
    have e1 := cnts_app pre (x :: r)
    rw [cnts_cons] at e1 hk
    have e2 := cnts_len pre
    have e3 := cnts_len r
    obtain ⟨k, rfl⟩ : ∃ m, k = m + 1 := ⟨k - 1, by omega⟩
    simp only [laws_eqTypeS.l0, laws_eqType.F]
    have hlen : ((cvl (pre ++ x :: r)).length : Int) = pre.length + 1 + r.length := by rw [cvl_length]; simp; omega
    have er : rd_T30 (cvl (pre ++ x :: r)) (pre.length : Int) = ⟨cvl x.f0⟩ := by
      rw [cvl_app, cvl_cons]
      have := rdI_mid (cvl pre) (cvl r) ⟨cvl x.f0⟩
      rwa [cvl_length] at this
    rw [if_pos (by omega), if_pos (by omega), if_pos (by omega), er, IH x.f0 (by omega) k (by omega)]; simp only [Option.bind_some, if_true]
    rw [w64 (by omega) (by omega)]
    have ea : pre ++ x :: r = (pre ++ [x]) ++ r := by simp
    have el : (pre.length : Int) + 1 = ((pre ++ [x]).length : Int) := by simp
    rw [el, ea]
    exact ih (pre ++ [x]) k (by rw [← ea]; exact h1) (by omega)
theorem eqS_ev : ∀ (c : Nat), c ≤ 1048576 → ∀ (l : Lt), cnts l ≤ c → ∀ k, 3 * cnts l + 6 ≤ k → laws_eqTypeS.f k (cvl l) (cvl l) = some true := by
  intro c
  induction c using Nat.strongRecOn with
  | _ c IH =>
    intro hc l hl k hk
    obtain ⟨k, rfl⟩ : ∃ m, k = m + 1 := ⟨k - 1, by omega⟩
    simp only [laws_eqTypeS.f, if_true]
    have := eqLoop_ev (cnts l) (by omega) (fun l' hl' k hk => IH (cnts l') (by omega) (by omega) l' (Nat.le_refl _) k hk) l [] k (by simp) (by omega)
    simpa using this
theorem eq_ev (l : Lt) (h : cnts l ≤ 1048576) (k : Nat) (hk : 3145740 ≤ k) : laws_eqType.f k (cvl l) (cvl l) = some true := by
  unfold laws_eqType.f laws_eqType.F
  rw [eqS_ev 1048576 (Nat.le_refl _) l h k (by omega)]; rfl
end Go.Proofs.Ytjhbhihfifhljaa.ExT
end
section
namespace Go.Proofs.Ytjhbhihfifhljaa.PA
open Go.RowKit Go.Proofs.YtjhbhihfifhljaaW.PrintWords Go.Proofs.YtjhbhihfifhljaaW.PrintLast Go.Proofs.YtjhbhihfifhljaaW.PrintMore
attribute [local go_sem] max2_int min2_int max_two min_two max_three min_three max_four min_four
set_option linter.unusedVariables false
set_option linter.unusedSimpArgs false
def spec_DrawTypeOk.f (k : Nat) (l0 : List Int) : Option ((List (S30))) := (spec_l6Open.f l0).bind fun bt215 => ((spec_l71Deep.f k bt215.1 bt215.2).bind fun bt218 => (some bt218.1))
theorem spec_DrawTypeOk.mono : ∀ a0 k, LeO (spec_DrawTypeOk.f k a0) (spec_DrawTypeOk.f (k + 1) a0) := by
 intro a0 k
 unfold spec_DrawTypeOk.f
 repeat' first
   | (with_reducible exact spec_l71Deep.mono _ _ _)
   | (with_reducible exact LeO.refl _)
   | (with_reducible exact LeO.none _)
   | (with_reducible refine LeO.ite ?_ ?_)
   | (with_reducible refine LeO.bind ?_ (fun _ => ?_))
   | exact spec_l71Deep.mono _ _ _
   | exact LeO.none _
   | refine LeO.ite ?_ ?_
   | refine LeO.bind ?_ (fun _ => ?_)
set_option maxHeartbeats 8000000 in
set_option maxRecDepth 100000 in
theorem spec_DrawTypeOk.calls (k : Nat) (A0 : Option Addr) (c0 : Nat) (l0 : List Int) (r : List (S30)) (w : World) (hr0 : Kd.C (Kd.int .u8) w A0 l0.length l0) (hc0 : l0.length ≤ c0) (h : spec_DrawTypeOk.f k l0 = some r) :
  Calls Try.prog 20 #[.slice A0 l0.length c0] w fun e w' => ∃ v0_ : Value, e = .returned (.agg #[v0_]) ∧ Kd.N k30 30 w' w.heap.size (fun k_ => (w.heap.size ≤ k_)) v0_ r ∧ Below w.heap.size w w' := by
 have hu30 := Try.underlying30
 have HR0 := Aside0.mk hr0
 have HC0 := Aside0.mk hc0
 clear hr0 hc0
 have HB := Aside0.mk (Below.refl w.heap.size w)
 have H : ((spec_l6Open.f l0).bind fun bt215 => ((spec_l71Deep.f k bt215.1 bt215.2).bind fun bt218 => (some bt218.1))) = some r := h
 clear h
 obtain ⟨⟨t215, t216⟩, A20, H⟩ := ob H
 have A2 := Aside0.mk A20
 clear A20
 obtain ⟨⟨t218, t221⟩, A30, H⟩ := ob H
 have A3 := Aside0.mk A30
 clear A30
 obtain rfl := Option.some.inj H
 go_enter Try.func20, Try.ntmps20
 go_wp2_with (first | ((with_reducible refine gate_dst (N := 2) rfl ?_); refine zbx 2 #[.slice none 0 0] 30 ?_; intro gb214 hg w4 hbox hb; have BK214 := Aside0.mk hbox; have GW214 := Aside0.mk ((y5 hg HB.out : w.heap.size ≤ gb214)); have GE214 := Aside0.mk ((y5 hg HB.out : w.heap.size ≤ gb214)); replace HB := Aside0.mk (below_step (y2 HB.out) hb); clear hb hbox hg) | ((with_reducible refine gate_callee (f := 52) rfl ?_); refine goesL_ (some 4) rfl rfl Try.func52 (by kernel_rfl) rfl #[.slice A0 l0.length c0] rfl y4 ?_; (with_reducible refine (spec_l6Open.calls _ _ l0 t215 t216 w _ ?side1 ?side2 ?side3 A2.out).mono ?_); (case side1 => exact y3 HB.out GE214.out); (case side2 => exact HR0.out); (case side3 => exact HC0.out); rintro e w5 ⟨g217, rfl, hi, hb, hb2⟩; refine ⟨_, rfl, ?_⟩; replace HB := Aside0.mk (hb); have HI217 := Aside0.mk (hi); have NB217_214 := Aside0.mk (IsS95.ne_blk hi (blk_below (g := gb214) (o := .cells #[.slice none 0 0] 30 (0, 0)) (y0 BK214.out) hb2) (by decide)); have NB214_217 := Aside0.mk (Ne.symm (IsS95.ne_blk hi (blk_below (g := gb214) (o := .cells #[.slice none 0 0] 30 (0, 0)) (y0 BK214.out) hb2) (by decide))); replace BK214 := Aside0.mk (blk_below (g := gb214) (o := .cells #[.slice none 0 0] 30 (0, 0)) (y0 BK214.out) hb2); (try clear hb); (try clear hb2); (try clear hk); (try clear hi)) | ((with_reducible refine gate_callee (f := 51) rfl ?_); refine goesL_ (some 5) rfl rfl Try.func51 (by kernel_rfl) rfl #[.pointer (some ⟨g217, 0, none⟩)] rfl y4 ?_; (with_reducible refine (spec_l71Deep.calls k g217 t215 t216 t218 t221 w _ ?side1 ?side2 A3.out).mono ?_); (case side1 => exact y24 HI217.out NB217_214.out); (case side2 => exact y23 HB.out HI217.out GE214.out); rintro e w6 ⟨v219, rfl, ho0, hi, hb, hk⟩; refine ⟨_, rfl, ?_⟩; have HO220 := Aside0.mk (Kd.N_lower (Kd.N_mono (ok' := fun k_ => (w.heap.size ≤ k_) ∧ k_ ≠ gb214 ∧ k_ ≠ g217) ho0 (fun k_ hk_ => ⟨(Nat.le_trans (below_size (y23 HB.out HI217.out GE214.out)) hk_), (Kd.freshB (g := gb214) (o := .cells #[.slice none 0 0] 30 (0, 0)) (y0 BK214.out) k_ hk_), (IsS95.fresh (y24 HI217.out NB217_214.out) k_ hk_)⟩)) (below_size (y23 HB.out HI217.out GE214.out))); replace BK214 := Aside0.mk (KeepBut.blk hk (g' := gb214) (o := .cells #[.slice none 0 0] 30 (0, 0)) (y0 BK214.out) NB214_217.out (by simp)); replace HB := Aside0.mk (hb); replace HI217 := Aside0.mk (hi); (try clear hb); (try clear hb2); (try clear hk); (try clear hi); (try clear ho0); obtain ⟨Ao7, co7, eo7⟩ := Kd.N_slice HO220.out; subst eo7; have hnb8 := NB214_217.out; have hnc8 := NB217_214.out; have hcz9_0 := zh BK214; have hfz9_0 := zfr BK214 0))
 refine bodyPost_ret (results_cell_row rfl _ _ gb214 30 #[.slice Ao7 t218.length co7] (0, 0) _ rfl (by (with_reducible repeat (first | refine blk_drewN ?_ _ | refine blk_drew ?_ | refine blk_alloc ?_ _)); apply blk_put (i := 0); (case h => exact y0 BK214.out); (case e => rfl)) Try.underlying30 rfl (by kernel_rfl)) rfl ?_
 exact ⟨_, y14, (by (with_reducible repeat (first | apply Kd.N_alloc | apply Kd.N_drewN | apply Kd.N_drew)); exact Kd.N_mono (Kd.N_far (p := ⟨gb214, 0, none⟩) (Kd.N_mono HO220.out (fun k_ hk => (⟨hk, hk.2.1⟩ : _ ∧ k_ ≠ gb214))) (fun _ hk => hk.2) (.slice Ao7 t218.length co7)) (fun _ hk => hk.1.1)), (y23 HB.out HI217.out GE214.out)⟩
end Go.Proofs.Ytjhbhihfifhljaa.PA
end
section
namespace Go.Proofs.Ytjhbhihfifhljaa.PA
open Go.RowKit Go.Proofs.YtjhbhihfifhljaaW.PrintWords Go.Proofs.YtjhbhihfifhljaaW.PrintLast Go.Proofs.YtjhbhihfifhljaaW.PrintMore
attribute [local go_sem] max2_int min2_int max_two min_two max_three min_three max_four min_four
set_option linter.unusedVariables false
set_option linter.unusedSimpArgs false
def spec_l71Path.l0 : Nat → List Int → List Int → Int → List (S30) → Option (List Int × (List (S30)) × Int)
 | 0, _, _, _, _ => none
 | k + 1, x6, x1000, x1001, x534000 => if (x534000.length : Int) > 0 then ((spec_l6Rd_pick.f k x1000 x1001 3).bind fun bt538 => (if bt538.1 > 0 then ((spec_l6Rd_pick.f k x1000 bt538.2 (x534000.length : Int)).bind fun bt540 => (if x6.length < 17592186044416 then (if 0 ≤ bt540.1 then (if bt540.1 < (x534000.length : Int) then (spec_l71Path.l0 k (x6 ++ [bt540.1]) x1000 bt540.2 ((rd_T30 x534000 bt540.1).f0)) else (none)) else (none)) else (none))) else (some (x6, x534000, bt538.2)))) else (some (x6, x534000, x1001))
def spec_l71Path.f (k : Nat) (s0_0 : List Int) (s0_1 : Int) (l1_0 : List (S30)) : Option (List Int × (List (S30)) × Int) := spec_l71Path.l0 k (([] : List Int)) s0_0 s0_1 l1_0
theorem spec_l71Path.mono_l : ∀ k, (∀ y0 y1 y2 y3, LeO (spec_l71Path.l0 k y0 y1 y2 y3) (spec_l71Path.l0 (k + 1) y0 y1 y2 y3))
 | 0 => fun _ _ _ _ r h => by simp [spec_l71Path.l0] at h
 | k + 1 => by
  have ih0 := spec_l71Path.mono_l k
  ·intro y0 y1 y2 y3
   unfold spec_l71Path.l0
   repeat' first
   | (with_reducible exact ih0 _ _ _ _)
   | (with_reducible exact spec_l6Rd_pick.mono _ _ _ _)
   | (with_reducible exact LeO.refl _)
   | (with_reducible exact LeO.none _)
   | (with_reducible refine LeO.ite ?_ ?_)
   | (with_reducible refine LeO.bind ?_ (fun _ => ?_))
   | exact ih0 _ _ _ _
   | exact spec_l6Rd_pick.mono _ _ _ _
   | exact LeO.none _
   | refine LeO.ite ?_ ?_
   | refine LeO.bind ?_ (fun _ => ?_)
theorem spec_l71Path.mono : ∀ a0 a1 a2 k, LeO (spec_l71Path.f k a0 a1 a2) (spec_l71Path.f (k + 1) a0 a1 a2) := by
 intro a0 a1 a2 k
 have ih0 := spec_l71Path.mono_l k
 unfold spec_l71Path.f
 repeat' first
   | (with_reducible exact ih0 _ _ _ _)
   | (with_reducible exact spec_l6Rd_pick.mono _ _ _ _)
   | (with_reducible exact LeO.refl _)
   | (with_reducible exact LeO.none _)
   | (with_reducible refine LeO.ite ?_ ?_)
   | (with_reducible refine LeO.bind ?_ (fun _ => ?_))
   | exact ih0 _ _ _ _
   | exact spec_l6Rd_pick.mono _ _ _ _
   | exact LeO.none _
   | refine LeO.ite ?_ ?_
   | refine LeO.bind ?_ (fun _ => ?_)
set_option maxHeartbeats 8000000 in
set_option maxRecDepth 100000 in
theorem spec_l71Path.calls (k : Nat) (g : Nat) (s0_0 : List Int) (s0_1 : Int) (P1_0_ : Nat → Prop) (A1_0 : Option Addr) (c1_0 : Nat) (l1_0 : List (S30)) (r1 : List Int) (r2 : List (S30)) (r3 : Int) (w0 w : World) (hI : IsS95 w0 w g s0_0 s0_1) (hB : Below w0.heap.size w0 w) (hs1_0 : Kd.V k30 30 w w.heap.size (fun k_ => P1_0_ k_ ∧ k_ ≠ g) (.slice A1_0 l1_0.length c1_0) l1_0) (h : spec_l71Path.f k s0_0 s0_1 l1_0 = some (r1, r2, r3)) :
  Calls Try.prog 86 #[.pointer (some ⟨g, 0, none⟩), .agg #[.slice A1_0 l1_0.length c1_0]] w fun e w' => ∃ v0_ v1_ : Value, e = .returned (.tuple #[v0_, .agg #[v1_]]) ∧ Kd.R (Kd.int .i64) 3 w' w.heap.size (fun k_ => (w.heap.size ≤ k_)) v0_ r1 ∧ Kd.V k30 30 w' w.heap.size (fun k_ => (P1_0_ k_ ∨ w.heap.size ≤ k_) ∧ some k_ ≠ (v0_ : Value).ownBlock) v1_ r2 ∧ IsS95 w0 w' g s0_0 r3 ∧ Below w0.heap.size w0 w' ∧ KeepBut w w' g none := by
 have hu30 := Try.underlying30
 have HO1_0 := Aside0.mk (show Kd.V k30 30 w w.heap.size (fun k_ => (P1_0_ k_ ∨ w.heap.size ≤ k_) ∧ k_ ≠ g) (.slice A1_0 l1_0.length c1_0) l1_0 from Kd.V_mono hs1_0 (fun k_ hk => ⟨.inl hk.1, hk.2⟩))
 have HI0 := Aside0.mk hI
 have HK := Aside0.mk (KeepBut.refl w g none)
 have HL := Aside0.mk hB.size
 clear hI
 have HW0 := Aside0.mk hB.size
 have HB := Aside0.mk hB
 clear hB
 have H : (spec_l71Path.l0 k (([] : List Int)) s0_0 s0_1 l1_0) = some (r1, r2, r3) := h
 clear h
 obtain ⟨y535, hy535⟩ : ∃ y_ : List Int, y_ = (([] : List Int)) := ⟨_, rfl⟩
 replace H : (spec_l71Path.l0 k y535 s0_0 s0_1 l1_0) = some (r1, r2, r3) := by first | (rw [hy535]; with_reducible exact H) | (have H2_ := (Option.bind_some _ _).symm.trans H; rw [hy535]; with_reducible exact H2_) | (have H2_ := (Option.bind_some _ _).symm.trans H; with_reducible exact H2_) | with_reducible exact H | (rw [hy535]; exact H) | exact H
 have Ny535 := Aside0.mk hy535
 clear hy535
 have H' := Aside0.mk H
 clear H
 go_enter Try.func86, Try.ntmps86
 go_wp2_with (first | ((with_reducible refine gate_dst (N := 3) rfl ?_); refine zbx 3 #[.slice A1_0 l1_0.length c1_0] 30 ?_; intro gb533 hg w3 hbox hb; replace HO1_0 := Aside0.mk (Kd.V_below (Kd.V_elderB (y13 HO1_0.out) gb533 (Nat.le_of_eq hg.symm)) hb); replace HB := Aside0.mk (below_step (y33 HB.out HI0.out) hb); have BK533 := Aside0.mk hbox; have GW533 := Aside0.mk ((by rw [hg]; exact (keep_size (w := w) (g := g) (row := none) (y25 HK.out)) : w.heap.size ≤ gb533)); have GE533 := Aside0.mk ((Nat.le_trans HW0.out (by rw [hg]; exact (keep_size (w := w) (g := g) (row := none) (y25 HK.out)) : w.heap.size ≤ gb533) : w0.heap.size ≤ gb533)); replace HK := Aside0.mk (KeepBut.trans (y25 HK.out) (KeepBut.of_below hb g none) (.inl rfl)); have NB0_533 := Aside0.mk ((by rw [hg]; exact Nat.ne_of_lt (IsS95.lt (show IsS95 w0 _ g s0_0 s0_1 from by repeat (first | (with_reducible first | exact HI0.out | apply IsS95.alloc | apply IsS95.drewN | apply IsS95.drew | apply IsS95.set_1) | exact HI0.out))) : g ≠ gb533)); have NB533_0 := Aside0.mk ((by rw [hg]; exact Nat.ne_of_gt (IsS95.lt (show IsS95 w0 _ g s0_0 s0_1 from by repeat (first | (with_reducible first | exact HI0.out | apply IsS95.alloc | apply IsS95.drewN | apply IsS95.drew | apply IsS95.set_1) | exact HI0.out))) : gb533 ≠ g)); replace HI0 := Aside0.mk (IsS95.below (y35 HI0.out) hb); clear hb hbox hg) | ((with_reducible refine gate_dst (N := 5) rfl ?_); refine zbx 5 #[.slice none 0 0] 30 ?_; intro gb534 hg w4 hbox hb; replace HO1_0 := Aside0.mk (Kd.V_below (Kd.V_elderB (y13 HO1_0.out) gb534 (Nat.le_of_eq hg.symm)) hb); replace HB := Aside0.mk (below_step (y23 HB.out HI0.out GE533.out) hb); have BK534 := Aside0.mk hbox; have GW534 := Aside0.mk ((by rw [hg]; exact (keep_size (w := w) (g := g) (row := none) (y18 HK.out GW533.out)) : w.heap.size ≤ gb534)); have GE534 := Aside0.mk ((Nat.le_trans HW0.out (by rw [hg]; exact (keep_size (w := w) (g := g) (row := none) (y18 HK.out GW533.out)) : w.heap.size ≤ gb534) : w0.heap.size ≤ gb534)); replace HK := Aside0.mk (KeepBut.trans (y18 HK.out GW533.out) (KeepBut.of_below hb g none) (.inl rfl)); have NB533_534 := zltn hg BK533; have NB534_533 := zgtn hg BK533; replace BK533 := zbb BK533 hb; have NB0_534 := Aside0.mk ((by rw [hg]; exact Nat.ne_of_lt (IsS95.lt (show IsS95 w0 _ g s0_0 s0_1 from by repeat (first | (with_reducible first | exact HI0.out | apply IsS95.alloc | apply IsS95.drewN | apply IsS95.drew | apply IsS95.set_1 | refine IsS95.far ?_ NB0_533.out _) | exact HI0.out))) : g ≠ gb534)); have NB534_0 := Aside0.mk ((by rw [hg]; exact Nat.ne_of_gt (IsS95.lt (show IsS95 w0 _ g s0_0 s0_1 from by repeat (first | (with_reducible first | exact HI0.out | apply IsS95.alloc | apply IsS95.drewN | apply IsS95.drew | apply IsS95.set_1 | refine IsS95.far ?_ NB0_533.out _) | exact HI0.out))) : gb534 ≠ g)); replace HI0 := Aside0.mk (IsS95.below (y24 HI0.out NB0_533.out) hb); clear hb hbox hg) | ((with_reducible refine gate_dst (N := 8) rfl ?_); refine Kd.R_lit (Kd.int .i64) _ 3 ?hg (N := 8) ?hd (xs := ([] : List Int)) (inner := []) (ok := fun _ => True) (okp := fun _ => True) ?hr ?hp (fun _ hk => hk) trivial (Below.refl _ _) (Nat.le_refl _) (by simp) ?_; (case hd => rfl); (case hg => rfl); (case hr => first | (go_simp; done) | (go_simp; rfl)); (case hp => exact (Reps.none _ _)); intro v536 w5 ho6 hb hg_ hnew_; clear hg_ hnew_; (first | rw [← Ny535.out] at ho6 | (simp only [Int.reduceToNat] at ho6; rw [← Ny535.out] at ho6)); replace HO1_0 := Aside0.mk (Kd.V_elder' (y13 HO1_0.out) (Kd.R_base ho6) hb); have HO537 := Aside0.mk (Kd.R_lower (Kd.R_newM (M := fun k_ => (w.heap.size ≤ k_)) ho6 (keep_size (w := w) (g := g) (row := none) (y11 HK.out GW533.out GW534.out)) (fun k_ h_ => h_)) (keep_size (w := w) (g := g) (row := none) (y11 HK.out GW533.out GW534.out))); replace BK533 := zbb BK533 hb; replace BK534 := zbb BK534 hb; replace HK := Aside0.mk (KeepBut.trans (y11 HK.out GW533.out GW534.out) (KeepBut.of_below hb g none) (.inl rfl)); replace HB := Aside0.mk (below_step (y12 HB.out HI0.out GE533.out GE534.out) hb); replace HI0 := Aside0.mk (IsS95.below (y15 HI0.out NB0_533.out NB0_534.out) hb); clear hb ho6))
 go_loopg [6] k (fun kq v6 w' => ∃ (x6_1 : List Int) (x1001_1 : Int) (x534000_1 : List (S30)) (u534000 : Value), Aside0 (spec_l71Path.l0 kq x6_1 s0_0 x1001_1 x534000_1 = some (r1, r2, r3)) ∧ Aside0 (kq ≤ k) ∧ Aside0 (Kd.R (Kd.int .i64) 3 w' w.heap.size (fun k_ => (w.heap.size ≤ k_)) v6 x6_1) ∧ Aside0 (Kd.V k30 30 w' w.heap.size (fun k_ => (P1_0_ k_ ∨ w.heap.size ≤ k_) ∧ some k_ ≠ (v6 : Value).ownBlock ∧ k_ ≠ gb533 ∧ k_ ≠ gb534 ∧ k_ ≠ g) u534000 x534000_1) ∧ Aside0 (w'.heap[gb533]? = some (.cells #[u534000] 30 (0, 0))) ∧ Aside0 (w'.heap[gb534]? = some (.cells #[(.slice none 0 0)] 30 (0, 0))) ∧ Aside0 (IsS95 w0 w' g s0_0 x1001_1) ∧ Aside0 (KeepBut w w' g none) ∧ Aside0 (Below w0.heap.size w0 w'))
 case atStart => exact ⟨(y535), (s0_1), (l1_0), (.slice A1_0 l1_0.length c1_0), H', ⟨Nat.le_refl _⟩, ⟨(y71 HO537.out)⟩, ⟨(by (with_reducible repeat (first | apply Kd.V_alloc | apply Kd.V_drewN | apply Kd.V_drew)); exact Kd.V_mono HO1_0.out (fun _ hk => ⟨hk.1.1.1.1, ⟨hk.2, ⟨hk.1.1.2, ⟨hk.1.2, hk.1.1.1.2⟩⟩⟩⟩))⟩, ⟨(y0 BK533.out)⟩, ⟨(y0 BK534.out)⟩, ⟨(y15 HI0.out NB0_533.out NB0_534.out)⟩, ⟨(y11 HK.out GW533.out GW534.out)⟩, ⟨(y12 HB.out HI0.out GE533.out GE534.out)⟩⟩
 case round =>
  clear H'
  try clear c1
  try clear p2
  obtain ⟨x6_1, x1001_1, x534000_1, u534000, HA, HK1, HO_6, HO_534000, BK533, BK534, HI0, HK, HB⟩ := hrel
  cases gk with
  | zero => exact absurd HA.out (by simp [spec_l71Path.l0])
  | succ k1 =>
   have H := HA.out
   clear HA
   simp only [spec_l71Path.l0] at H
   by_cases c7 : (x534000_1.length : Int) > 0
   ·rw [if_pos c7] at H
    have c7b0 : decide (0 < (x534000_1.length : Int)) = true := decide_eq_true c7
    have c7b1 : decide (0 < x534000_1.length) = true := decide_eq_true (by omega)
    clear c7
    obtain ⟨⟨t538, t539⟩, A80, H⟩ := ob H
    have A8 := Aside0.mk A80
    clear A80
    by_cases c9 : t538 > 0
    ·rw [if_pos c9] at H
     have c9b0 : decide (0 < t538) = true := decide_eq_true c9
     clear c9
     obtain ⟨⟨t540, t541⟩, A100, H⟩ := ob H
     have A10 := Aside0.mk A100
     clear A100
     by_cases c11 : x6_1.length < 17592186044416
     ·rw [if_pos c11] at H
      have LMc11 := Aside0.mk c11
      clear c11
      obtain ⟨y542, hy542⟩ : ∃ y_ : List Int, y_ = (x6_1 ++ [t540]) := ⟨_, rfl⟩
      replace H : (if 0 ≤ t540 then (if t540 < (x534000_1.length : Int) then (spec_l71Path.l0 k1 y542 s0_0 t541 ((rd_T30 x534000_1 t540).f0)) else (none)) else (none)) = some (r1, r2, r3) := by first | (rw [hy542]; with_reducible exact H) | (have H2_ := (Option.bind_some _ _).symm.trans H; rw [hy542]; with_reducible exact H2_) | (have H2_ := (Option.bind_some _ _).symm.trans H; with_reducible exact H2_) | with_reducible exact H | (rw [hy542]; exact H) | exact H
      have Ny542 := Aside0.mk hy542
      clear hy542
      by_cases c12 : 0 ≤ t540
      ·rw [if_pos c12] at H
       have c12b0 : decide (0 ≤ t540) = true := decide_eq_true c12
       clear c12
       by_cases c13 : t540 < (x534000_1.length : Int)
       ·rw [if_pos c13] at H
        have c13b0 : decide (t540 < (x534000_1.length : Int)) = true := decide_eq_true c13
        clear c13
        have H' := Aside0.mk H
        clear H
        have hnb14 := NB533_534.out
        have hnc14 := NB534_533.out
        have hnb15 := NB533_0.out
        have hnc15 := NB0_533.out
        have hcz16_0 := zh BK533
        have hfz16_0 := zfr BK533 0
        obtain ⟨Ao17, co17, eo17⟩ := Kd.V_slice HO_534000.out
        subst eo17
        go_wp2_with (first | (go_at_call 58; (with_reducible refine (spec_l6Rd_pick.calls k1 g s0_0 x1001_1 3 t538 t539 w0 _ ?side1 ?side2 A8.out).mono ?_); (case side1 => exact y15 HI0.out NB0_533.out NB0_534.out); (case side2 => exact y12 HB.out HI0.out GE533.out GE534.out); rintro e w18 ⟨rfl, hi, hb, hk⟩; replace HO_6 := Aside0.mk (Kd.R_mono (Kd.R_keep (IsS95.apart (show IsS95 w0 _ g s0_0 x1001_1 from by repeat (first | (with_reducible first | exact HI0.out | apply IsS95.alloc | apply IsS95.drewN | apply IsS95.drew | apply IsS95.set_1 | refine IsS95.far ?_ NB0_533.out _ | refine IsS95.far ?_ NB0_534.out _) | exact HI0.out)) (y10 HO_6.out) (by decide)) hk (fun _ h => h.2)) (fun _ h => h.1)); replace HO_534000 := Aside0.mk (Kd.V_mono (Kd.V_keep (Kd.V_mono (ok := fun k_ => (((P1_0_ k_ ∨ w.heap.size ≤ k_)) ∧ (some k_ ≠ (u6 : Value).ownBlock ∧ (k_ ≠ gb533 ∧ (k_ ≠ gb534 ∧ k_ ≠ g))))) (y13 HO_534000.out) (fun k_ hk_ => (⟨hk_, hk_.2.2.2.2⟩ : _ ∧ k_ ≠ g))) hk (fun _ h => h.2)) (fun _ h => h.1)); replace BK533 := Aside0.mk (KeepBut.blk hk (g' := gb533) (o := .cells #[.slice Ao17 x534000_1.length co17] 30 (0, 0)) (y0 BK533.out) NB533_0.out (by simp)); replace BK534 := Aside0.mk (KeepBut.blk hk (g' := gb534) (o := .cells #[.slice none 0 0] 30 (0, 0)) (y0 BK534.out) NB534_0.out (by simp)); replace HK := Aside0.mk (KeepBut.trans (y11 HK.out GW533.out GW534.out) hk (.inl rfl)); replace HB := Aside0.mk (hb); replace HI0 := Aside0.mk (hi); (try clear hb); (try clear hb2); (try clear hk); (try clear hi); have hcz19_0 := zh BK533; have hfz19_0 := zfr BK533 0) | ((with_reducible refine gate_callee (f := 58) rfl ?_); refine goesL_ (some 22) rfl rfl Try.func58 (by kernel_rfl) rfl #[.pointer (some ⟨g, 0, none⟩), .int .i64 (x534000_1.length : Int)] rfl y4 ?_; (with_reducible refine (spec_l6Rd_pick.calls k1 g s0_0 t539 (x534000_1.length : Int) t540 t541 w0 _ ?side1 ?side2 A10.out).mono ?_); (case side1 => exact y15 HI0.out NB0_533.out NB0_534.out); (case side2 => exact y12 HB.out HI0.out GE533.out GE534.out); rintro e w20 ⟨rfl, hi, hb, hk⟩; refine ⟨_, rfl, ?_⟩; replace HO_6 := Aside0.mk (Kd.R_mono (Kd.R_keep (IsS95.apart (show IsS95 w0 _ g s0_0 t539 from by repeat (first | (with_reducible first | exact HI0.out | apply IsS95.alloc | apply IsS95.drewN | apply IsS95.drew | apply IsS95.set_1 | refine IsS95.far ?_ NB0_533.out _ | refine IsS95.far ?_ NB0_534.out _) | exact HI0.out)) (y10 HO_6.out) (by decide)) hk (fun _ h => h.2)) (fun _ h => h.1)); replace HO_534000 := Aside0.mk (Kd.V_mono (Kd.V_keep (Kd.V_mono (ok := fun k_ => (((P1_0_ k_ ∨ w.heap.size ≤ k_)) ∧ (some k_ ≠ (u6 : Value).ownBlock ∧ (k_ ≠ gb533 ∧ (k_ ≠ gb534 ∧ k_ ≠ g))))) (y13 HO_534000.out) (fun k_ hk_ => (⟨hk_, hk_.2.2.2.2⟩ : _ ∧ k_ ≠ g))) hk (fun _ h => h.2)) (fun _ h => h.1)); replace BK533 := Aside0.mk (KeepBut.blk hk (g' := gb533) (o := .cells #[.slice Ao17 x534000_1.length co17] 30 (0, 0)) (y0 BK533.out) NB533_0.out (by simp)); replace BK534 := Aside0.mk (KeepBut.blk hk (g' := gb534) (o := .cells #[.slice none 0 0] 30 (0, 0)) (y0 BK534.out) NB534_0.out (by simp)); replace HK := Aside0.mk (KeepBut.trans (y11 HK.out GW533.out GW534.out) hk (.inl rfl)); replace HB := Aside0.mk (hb); replace HI0 := Aside0.mk (hi); (try clear hb); (try clear hb2); (try clear hk); (try clear hi)) | ((with_reducible refine gate_builtin (b := .append) (xs := #[.tmp 23, .tmp 25]) rfl ?_); at_builtin; refine Kd.R_append (Kd.int .i64) w.heap.size rfl (.tmp 23) (.tmp 25) 38 3 (.int .i64 0) 8 rfl Try.underlying38 info3 rfl (by decide) (by omega) u6 x6_1 t540 [.int .i64 t540] (fun k_ => (w.heap.size ≤ k_)) (fun _ => False) rfl rfl ?aP (fun _ hk => hk.elim) ?aF ?aO (Below.refl _ _) ?aS ?aL ?_; (case aP => exact rfl); (case aF => exact (fun k_ hk => (Nat.le_trans (keep_size (w := w) (g := g) (row := none) (y11 HK.out GW533.out GW534.out)) hk))); (case aO => exact y77 HO_6.out); (case aS => exact (keep_size (w := w) (g := g) (row := none) (y11 HK.out GW533.out GW534.out))); (case aL => exact y46 LMc11.out); intro v543 w21 ho hb hg hat; rw [← Ny542.out] at ho; replace HO_534000 := Aside0.mk (Kd.V_afterv (ok := (fun k_ => (P1_0_ k_ ∨ w.heap.size ≤ k_) ∧ k_ ≠ gb533 ∧ k_ ≠ gb534 ∧ k_ ≠ g)) (by (with_reducible repeat (first | apply Kd.V_alloc | apply Kd.V_drewN | apply Kd.V_drew)); exact Kd.V_mono HO_534000.out (fun _ hk => ⟨⟨hk.1, ⟨hk.2.2.1, ⟨hk.2.2.2.1, hk.2.2.2.2⟩⟩⟩, hk.2.1⟩)) hg hat); replace BK533 := Aside0.mk (blk_grown (g := gb533) (o := .cells #[.slice Ao17 x534000_1.length co17] 30 (0, 0)) (y0 BK533.out) hg (Kd.R_ne HO_6.out BK533.out (by decide))); replace BK534 := Aside0.mk (blk_grown (g := gb534) (o := .cells #[.slice none 0 0] 30 (0, 0)) (y0 BK534.out) hg (Kd.R_ne HO_6.out BK534.out (by decide))); replace HB := Aside0.mk (below_weaken (y12 HB.out HI0.out GE533.out GE534.out) HL.out hb); replace HI0 := Aside0.mk (IsS95.grown (y15 HI0.out NB0_533.out NB0_534.out) hg (IsS95.own_ne HI0.out HO_6.out (by decide))); replace HK := Aside0.mk (KeepBut.trans (y11 HK.out GW533.out GW534.out) (KeepBut.of_grown hg g) (Kd.R_base2 HO_6.out)); have HO544 := Aside0.mk (ho); clear HO_6; clear ho hb hg hat; have hcz22_0 := zh BK533; have hfz22_0 := zfr BK533 0; have p545 : 0 ≤ (t540 : Int) := of_decide_eq_true y19; have q545 : t540 < (x534000_1.length : Int) := of_decide_eq_true y19; obtain ⟨ad545, A545_0, c545_0, e545, hx545_0, hl545_0, hi545_0⟩ := at_T30 (Kd.V_reads' HO_534000.out).2.2 t540 p545 q545; cases e545; obtain ⟨ce545, hce545, hMe545, hcc545⟩ := Kd.V_get HO_534000.out z30 t540 p545 (by first | exact q545 | exact of_decide_eq_true y19 | (have e_ := (Kd.V_reads' HO_534000.out).1; omega)); obtain ⟨ua545_0, uc545_0, rfl, ul545_0, ge545_0⟩ := k30_openF hMe545; have hv545_0 := hcc545 0 _ rfl; rw [Nat.add_zero, show (k30).sz = 1 from rfl, Nat.mul_one] at hv545_0; replace hv545_0 := Option.some.inj (hv545_0.symm.trans hx545_0); injection hv545_0 with hva_ hvn_ hvc_; rw [hva_] at ge545_0; rw [hvc_] at ul545_0; have HL545_0 := Aside0.mk (show Kd.V k30 30 _ w.heap.size _ _ ((rd_T30 x534000_1 t540).f0) from Kd.V_mk ul545_0 ge545_0); clear hva_ hvn_ hvc_ ge545_0 ul545_0; clear hcc545 hce545; have HR545_0 := Aside0.mk hi545_0; have HC545_0 := Aside0.mk hl545_0; clear hi545_0 hl545_0; replace p545 := eq_true p545; replace q545 := eq_true q545))
        go_roundg k1
        case measure => have := HK1.out; omega
        case rel => exact ⟨(y542), (t541), ((rd_T30 x534000_1 t540).f0), (.slice A545_0 ((rd_T30 x534000_1 t540).f0).length c545_0), H', ⟨(y46 HK1.out)⟩, ⟨(by (with_reducible repeat (first | apply Kd.R_alloc | apply Kd.R_drewN | apply Kd.R_drew)); exact Kd.R_mono (Kd.R_far (p := ⟨gb533, 0, none⟩) (Kd.R_types HO544.out BK533.out (by decide)) (fun _ hk => hk.2) (.slice A545_0 ((rd_T30 x534000_1 t540).f0).length c545_0)) (fun _ hk => hk.1))⟩, ⟨(by (with_reducible repeat (first | apply Kd.V_alloc | apply Kd.V_drewN | apply Kd.V_drew)); exact Kd.V_mono (Kd.V_far (p := ⟨gb533, 0, none⟩) (Kd.V_mono HL545_0.out (fun k_ hk => (⟨hk, hk.1.2.1⟩ : _ ∧ k_ ≠ gb533))) (fun _ hk => hk.2) (.slice A545_0 ((rd_T30 x534000_1 t540).f0).length c545_0)) (fun _ hk => ⟨hk.1.1.1, ⟨hk.1.2, ⟨hk.1.1.2.1, ⟨hk.1.1.2.2.1, hk.1.1.2.2.2⟩⟩⟩⟩))⟩, ⟨(by (with_reducible repeat (first | refine blk_drewN ?_ _ | refine blk_drew ?_ | refine blk_alloc ?_ _)); refine blk_put (cs := #[.slice (some ad545) x534000_1.length co17]) ?_ 0 _ rfl; (with_reducible repeat (first | refine blk_drewN ?_ _ | refine blk_drew ?_ | refine blk_alloc ?_ _)); exact BK533.out)⟩, ⟨(y21 NB534_533.out BK534.out)⟩, ⟨(y15 HI0.out NB0_533.out NB0_534.out)⟩, ⟨(y11 HK.out GW533.out GW534.out)⟩, ⟨(y12 HB.out HI0.out GE533.out GE534.out)⟩⟩
       ·rw [if_neg c13] at H
        exact absurd H (by simp)
      ·rw [if_neg c12] at H
       exact absurd H (by simp)
     ·rw [if_neg c11] at H
      exact absurd H (by simp)
    ·rw [if_neg c9] at H
     have c9b0 : decide (0 < t538) = false := decide_eq_false c9
     clear c9
     simp only [Option.some.injEq, Prod.mk.injEq] at H
     obtain ⟨rfl, rfl, rfl⟩ := H
     have hnb23 := NB533_534.out
     have hnc23 := NB534_533.out
     have hnb24 := NB533_0.out
     have hnc24 := NB0_533.out
     have hcz25_0 := zh BK533
     have hfz25_0 := zfr BK533 0
     obtain ⟨Ao26, co26, eo26⟩ := Kd.V_slice HO_534000.out
     subst eo26
     try go_wp2_with (first | (go_at_call 58; (with_reducible refine (spec_l6Rd_pick.calls k1 g s0_0 x1001_1 3 t538 t539 w0 _ ?side1 ?side2 A8.out).mono ?_); (case side1 => exact y15 HI0.out NB0_533.out NB0_534.out); (case side2 => exact y12 HB.out HI0.out GE533.out GE534.out); rintro e w27 ⟨rfl, hi, hb, hk⟩; replace HO_6 := Aside0.mk (Kd.R_mono (Kd.R_keep (IsS95.apart (show IsS95 w0 _ g s0_0 x1001_1 from by repeat (first | (with_reducible first | exact HI0.out | apply IsS95.alloc | apply IsS95.drewN | apply IsS95.drew | apply IsS95.set_1 | refine IsS95.far ?_ NB0_533.out _ | refine IsS95.far ?_ NB0_534.out _) | exact HI0.out)) (y10 HO_6.out) (by decide)) hk (fun _ h => h.2)) (fun _ h => h.1)); replace HO_534000 := Aside0.mk (Kd.V_mono (Kd.V_keep (Kd.V_mono (ok := fun k_ => (((P1_0_ k_ ∨ w.heap.size ≤ k_)) ∧ (some k_ ≠ (u6 : Value).ownBlock ∧ (k_ ≠ gb533 ∧ (k_ ≠ gb534 ∧ k_ ≠ g))))) (y13 HO_534000.out) (fun k_ hk_ => (⟨hk_, hk_.2.2.2.2⟩ : _ ∧ k_ ≠ g))) hk (fun _ h => h.2)) (fun _ h => h.1)); replace BK533 := Aside0.mk (KeepBut.blk hk (g' := gb533) (o := .cells #[.slice Ao26 x534000_1.length co26] 30 (0, 0)) (y0 BK533.out) NB533_0.out (by simp)); replace BK534 := Aside0.mk (KeepBut.blk hk (g' := gb534) (o := .cells #[.slice none 0 0] 30 (0, 0)) (y0 BK534.out) NB534_0.out (by simp)); replace HK := Aside0.mk (KeepBut.trans (y11 HK.out GW533.out GW534.out) hk (.inl rfl)); replace HB := Aside0.mk (hb); replace HI0 := Aside0.mk (hi); (try clear hb); (try clear hb2); (try clear hk); (try clear hi)))
     replace HO_6 := Aside0.mk (Kd.R_drew HO_6.out)
     replace HO_534000 := Aside0.mk (Kd.V_drew HO_534000.out)
     replace BK533 := Aside0.mk (blk_drew BK533.out)
     replace BK534 := Aside0.mk (blk_drew BK534.out)
     replace HI0 := Aside0.mk (IsS95.drew HI0.out)
     replace HK := Aside0.mk (keep_drew HK.out)
     replace HB := Aside0.mk (below_drew1 HB.out)
     refine start_ (n := 4) (S := fun w' => w'.cell? ⟨gb533, 0, none⟩ = some (.slice Ao26 x534000_1.length co26)) (ds := []) #[false, false, false, false] (by kernel_rfl) rfl rfl ((blk_cell BK533.out 0).trans rfl) (fun hHeld => ?_)
     generalize w27.drew = w28 at HO_6 HO_534000 BK533 BK534 HI0 HK HB hHeld ⊢
     refine pure_ (i := 0) (N := some 32) (v := ?_) (a' := ?_) #[true, false, false, false] rfl rfl (by kernel_rfl) (fun _ _ _ h => h) (Or.inl ⟨(by rfl), ?_⟩) ?_ ?_
     rotate_left
     ·intro w'
      go_simp
      with_reducible rfl
     rotate_left
     ·simp only [Act.put, List.setIfInBounds_toArray, List.set_cons_zero, List.set_cons_succ, i64_w, i32_w]
      rfl
     refine pure_ (i := 2) (N := some 4) (v := ?_) (a' := ?_) #[true, false, true, false] rfl rfl (by kernel_rfl) (fun _ _ _ h => h) (Or.inl ⟨(by rfl), ?_⟩) ?_ ?_
     rotate_left
     ·intro w'
      go_simp
      with_reducible rfl
     rotate_left
     ·simp only [Act.put, List.setIfInBounds_toArray, List.set_cons_zero, List.set_cons_succ, i64_w, i32_w]
      rfl
     refine take_ (i := 1) (N := some 33) (v := ?_) (a' := ?_) #[true, true, true, false] rfl rfl (by kernel_rfl) (fun _ _ _ h => h) (Or.inl ⟨(by rfl), ?_⟩) hHeld ?_ ?_
     rotate_left
     ·intro w' s0
      go_simp
      with_reducible rfl
     rotate_left
     ·simp only [Act.put, List.setIfInBounds_toArray, List.set_cons_zero, List.set_cons_succ, i64_w, i32_w]
      rfl
     refine one_ (i := 3) (N := none) #[true, true, true, true] rfl rfl (by kernel_rfl) (by decide) (fun K hK => ?_)
     have hs29 : w28.cell? ⟨gb534, 0, none⟩ = some (.slice none 0 0) := (blk_cell BK534.out 0).trans rfl
     have hfs29 := zfr BK534 0
     have hns29_0 := NB533_534.out
     have hms29_0 := NB534_533.out
     refine skip_ (w1 := ?_) (by rfl) rfl ?_ ?_
     rotate_left
     ·go_simp
      rfl
     refine hK.out _ _ (((cell_far (p := ⟨gb534, _, none⟩) NB533_534.out _).trans (hHeld))) (fun hHeld => ?_)
     clear hK K
     refine done_ (by kernel_rfl) ?_
     try go_wp2
     refine bodyPost_ret (results_tc rfl _ _ gb534 30 #[.slice Ao26 x534000_1.length co26] (0, 0) _ rfl (by (with_reducible repeat (first | refine blk_drewN ?_ _ | refine blk_drew ?_ | refine blk_alloc ?_ _)); apply blk_put (i := 0); (case h => exact y0 BK534.out); (case e => rfl)) Try.underlying30 rfl (by kernel_rfl)) rfl ?_
     exact ⟨_, _, y14, (by (with_reducible repeat (first | apply Kd.R_alloc | apply Kd.R_drewN | apply Kd.R_drew)); exact Kd.R_mono (Kd.R_far (p := ⟨gb534, 0, none⟩) (Kd.R_types HO_6.out BK534.out (by decide)) (fun _ hk => hk.2) (.slice Ao26 x534000_1.length co26)) (fun _ hk => hk.1)), (by (with_reducible repeat (first | apply Kd.V_alloc | apply Kd.V_drewN | apply Kd.V_drew)); exact Kd.V_mono (Kd.V_far (p := ⟨gb534, 0, none⟩) (Kd.V_mono HO_534000.out (fun k_ hk => (⟨hk, hk.2.2.2.1⟩ : _ ∧ k_ ≠ gb534))) (fun _ hk => hk.2) (.slice Ao26 x534000_1.length co26)) (fun _ hk => ⟨hk.1.1, hk.1.2.1⟩)), (y15 HI0.out NB0_533.out NB0_534.out), (y12 HB.out HI0.out GE533.out GE534.out), (y11 HK.out GW533.out GW534.out)⟩
   ·rw [if_neg c7] at H
    have c7b0 : decide (0 < (x534000_1.length : Int)) = false := decide_eq_false c7
    have c7b1 : decide (0 < x534000_1.length) = false := decide_eq_false (by omega)
    clear c7
    simp only [Option.some.injEq, Prod.mk.injEq] at H
    obtain ⟨rfl, rfl, rfl⟩ := H
    have hnb30 := NB533_534.out
    have hnc30 := NB534_533.out
    have hnb31 := NB533_0.out
    have hnc31 := NB0_533.out
    have hcz32_0 := zh BK533
    have hfz32_0 := zfr BK533 0
    obtain ⟨Ao33, co33, eo33⟩ := Kd.V_slice HO_534000.out
    subst eo33
    try go_wp2
    replace HO_6 := Aside0.mk (Kd.R_drew HO_6.out)
    replace HO_534000 := Aside0.mk (Kd.V_drew HO_534000.out)
    replace BK533 := Aside0.mk (blk_drew BK533.out)
    replace BK534 := Aside0.mk (blk_drew BK534.out)
    replace HI0 := Aside0.mk (IsS95.drew HI0.out)
    replace HK := Aside0.mk (keep_drew HK.out)
    replace HB := Aside0.mk (below_drew1 HB.out)
    refine start_ (n := 4) (S := fun w' => w'.cell? ⟨gb533, 0, none⟩ = some (.slice Ao33 x534000_1.length co33)) (ds := []) #[false, false, false, false] (by kernel_rfl) rfl rfl ((blk_cell BK533.out 0).trans rfl) (fun hHeld => ?_)
    generalize wr.drew = w34 at HO_6 HO_534000 BK533 BK534 HI0 HK HB hHeld ⊢
    refine pure_ (i := 0) (N := some 32) (v := ?_) (a' := ?_) #[true, false, false, false] rfl rfl (by kernel_rfl) (fun _ _ _ h => h) (Or.inl ⟨(by rfl), ?_⟩) ?_ ?_
    rotate_left
    ·intro w'
     go_simp
     with_reducible rfl
    rotate_left
    ·simp only [Act.put, List.setIfInBounds_toArray, List.set_cons_zero, List.set_cons_succ, i64_w, i32_w]
     rfl
    refine pure_ (i := 2) (N := some 4) (v := ?_) (a' := ?_) #[true, false, true, false] rfl rfl (by kernel_rfl) (fun _ _ _ h => h) (Or.inl ⟨(by rfl), ?_⟩) ?_ ?_
    rotate_left
    ·intro w'
     go_simp
     with_reducible rfl
    rotate_left
    ·simp only [Act.put, List.setIfInBounds_toArray, List.set_cons_zero, List.set_cons_succ, i64_w, i32_w]
     rfl
    refine take_ (i := 1) (N := some 33) (v := ?_) (a' := ?_) #[true, true, true, false] rfl rfl (by kernel_rfl) (fun _ _ _ h => h) (Or.inl ⟨(by rfl), ?_⟩) hHeld ?_ ?_
    rotate_left
    ·intro w' s0
     go_simp
     with_reducible rfl
    rotate_left
    ·simp only [Act.put, List.setIfInBounds_toArray, List.set_cons_zero, List.set_cons_succ, i64_w, i32_w]
     rfl
    refine one_ (i := 3) (N := none) #[true, true, true, true] rfl rfl (by kernel_rfl) (by decide) (fun K hK => ?_)
    have hs35 : w34.cell? ⟨gb534, 0, none⟩ = some (.slice none 0 0) := (blk_cell BK534.out 0).trans rfl
    have hfs35 := zfr BK534 0
    have hns35_0 := NB533_534.out
    have hms35_0 := NB534_533.out
    refine skip_ (w1 := ?_) (by rfl) rfl ?_ ?_
    rotate_left
    ·go_simp
     rfl
    refine hK.out _ _ (((cell_far (p := ⟨gb534, _, none⟩) NB533_534.out _).trans (hHeld))) (fun hHeld => ?_)
    clear hK K
    refine done_ (by kernel_rfl) ?_
    try go_wp2
    refine bodyPost_ret (results_tc rfl _ _ gb534 30 #[.slice Ao33 x534000_1.length co33] (0, 0) _ rfl (by (with_reducible repeat (first | refine blk_drewN ?_ _ | refine blk_drew ?_ | refine blk_alloc ?_ _)); apply blk_put (i := 0); (case h => exact y0 BK534.out); (case e => rfl)) Try.underlying30 rfl (by kernel_rfl)) rfl ?_
    exact ⟨_, _, y14, (by (with_reducible repeat (first | apply Kd.R_alloc | apply Kd.R_drewN | apply Kd.R_drew)); exact Kd.R_mono (Kd.R_far (p := ⟨gb534, 0, none⟩) (Kd.R_types HO_6.out BK534.out (by decide)) (fun _ hk => hk.2) (.slice Ao33 x534000_1.length co33)) (fun _ hk => hk.1)), (by (with_reducible repeat (first | apply Kd.V_alloc | apply Kd.V_drewN | apply Kd.V_drew)); exact Kd.V_mono (Kd.V_far (p := ⟨gb534, 0, none⟩) (Kd.V_mono HO_534000.out (fun k_ hk => (⟨hk, hk.2.2.2.1⟩ : _ ∧ k_ ≠ gb534))) (fun _ hk => hk.2) (.slice Ao33 x534000_1.length co33)) (fun _ hk => ⟨hk.1.1, hk.1.2.1⟩)), (y15 HI0.out NB0_533.out NB0_534.out), (y12 HB.out HI0.out GE533.out GE534.out), (y11 HK.out GW533.out GW534.out)⟩
end Go.Proofs.Ytjhbhihfifhljaa.PA
end
section
namespace Go.Proofs.Ytjhbhihfifhljaa.PA
open Go.RowKit Go.Proofs.YtjhbhihfifhljaaW.PrintWords Go.Proofs.YtjhbhihfifhljaaW.PrintLast Go.Proofs.YtjhbhihfifhljaaW.PrintMore
attribute [local go_sem] max2_int min2_int max_two min_two max_three min_three max_four min_four
set_option linter.unusedVariables false
set_option linter.unusedSimpArgs false
def spec_l71Any.f (k : Nat) (s0_0 : List Int) (s0_1 : Int) (l1_0 : List (S30)) : Option (List Int × Int) := (spec_l71Path.f k s0_0 s0_1 l1_0).bind fun bt547 => ((spec_l6Rd_pick.f k s0_0 bt547.2.2 6).bind fun bt555 => (if bt555.1 = 0 then ((spec_l6Rd_pick.f k s0_0 bt555.2 4).bind fun bt557 => (if bt547.1.length < 17592186044416 then (some ((bt547.1 ++ [wrap64 (bt557.1 - 1)]), bt557.2)) else (none))) else (some (bt547.1, bt555.2))))
theorem spec_l71Any.mono : ∀ a0 a1 a2 k, LeO (spec_l71Any.f k a0 a1 a2) (spec_l71Any.f (k + 1) a0 a1 a2) := by
 intro a0 a1 a2 k
 unfold spec_l71Any.f
 repeat' first
   | (with_reducible exact spec_l6Rd_pick.mono _ _ _ _)
   | (with_reducible exact spec_l71Path.mono _ _ _ _)
   | (with_reducible exact LeO.refl _)
   | (with_reducible exact LeO.none _)
   | (with_reducible refine LeO.ite ?_ ?_)
   | (with_reducible refine LeO.bind ?_ (fun _ => ?_))
   | exact spec_l6Rd_pick.mono _ _ _ _
   | exact spec_l71Path.mono _ _ _ _
   | exact LeO.none _
   | refine LeO.ite ?_ ?_
   | refine LeO.bind ?_ (fun _ => ?_)
set_option maxHeartbeats 8000000 in
set_option maxRecDepth 100000 in
theorem spec_l71Any.calls (k : Nat) (g : Nat) (s0_0 : List Int) (s0_1 : Int) (P1_0_ : Nat → Prop) (A1_0 : Option Addr) (c1_0 : Nat) (l1_0 : List (S30)) (r1 : List Int) (r2 : Int) (w0 w : World) (hI : IsS95 w0 w g s0_0 s0_1) (hB : Below w0.heap.size w0 w) (hs1_0 : Kd.V k30 30 w w.heap.size (fun k_ => P1_0_ k_ ∧ k_ ≠ g) (.slice A1_0 l1_0.length c1_0) l1_0) (h : spec_l71Any.f k s0_0 s0_1 l1_0 = some (r1, r2)) :
  Calls Try.prog 64 #[.pointer (some ⟨g, 0, none⟩), .agg #[.slice A1_0 l1_0.length c1_0]] w fun e w' => ∃ v0_ : Value, e = .returned (v0_) ∧ Kd.R (Kd.int .i64) 3 w' w.heap.size (fun k_ => (w.heap.size ≤ k_)) v0_ r1 ∧ IsS95 w0 w' g s0_0 r2 ∧ Below w0.heap.size w0 w' ∧ KeepBut w w' g none := by
 have hu30 := Try.underlying30
 have HO1_0 := Aside0.mk (show Kd.V k30 30 w w.heap.size (fun k_ => (P1_0_ k_ ∨ w.heap.size ≤ k_) ∧ k_ ≠ g) (.slice A1_0 l1_0.length c1_0) l1_0 from Kd.V_mono hs1_0 (fun k_ hk => ⟨.inl hk.1, hk.2⟩))
 have HI0 := Aside0.mk hI
 have HK := Aside0.mk (KeepBut.refl w g none)
 have HL := Aside0.mk hB.size
 clear hI
 have HW0 := Aside0.mk hB.size
 have HB := Aside0.mk hB
 clear hB
 have H : ((spec_l71Path.f k s0_0 s0_1 l1_0).bind fun bt547 => ((spec_l6Rd_pick.f k s0_0 bt547.2.2 6).bind fun bt555 => (if bt555.1 = 0 then ((spec_l6Rd_pick.f k s0_0 bt555.2 4).bind fun bt557 => (if bt547.1.length < 17592186044416 then (some ((bt547.1 ++ [wrap64 (bt557.1 - 1)]), bt557.2)) else (none))) else (some (bt547.1, bt555.2))))) = some (r1, r2) := h
 clear h
 obtain ⟨⟨t547, t550, t553⟩, A30, H⟩ := ob H
 have A3 := Aside0.mk A30
 clear A30
 obtain ⟨⟨t555, t556⟩, A40, H⟩ := ob H
 have A4 := Aside0.mk A40
 clear A40
 by_cases c5 : t555 = 0
 ·rw [if_pos c5] at H
  have c5b0 : (t555 == 0) = true := beq_iff_eq.mpr c5
  have c5b1 : (t555 != 0) = false := bne_eq_false_iff_eq.mpr c5
  clear c5
  obtain ⟨⟨t557, t558⟩, A60, H⟩ := ob H
  have A6 := Aside0.mk A60
  clear A60
  by_cases c7 : t547.length < 17592186044416
  ·rw [if_pos c7] at H
   have LMc7 := Aside0.mk c7
   clear c7
   obtain ⟨y559, hy559⟩ : ∃ y_ : List Int, y_ = (t547 ++ [wrap64 (t557 - 1)]) := ⟨_, rfl⟩
   replace H : (some (y559, t558)) = some (r1, r2) := by first | (rw [hy559]; with_reducible exact H) | (have H2_ := (Option.bind_some _ _).symm.trans H; rw [hy559]; with_reducible exact H2_) | (have H2_ := (Option.bind_some _ _).symm.trans H; with_reducible exact H2_) | with_reducible exact H | (rw [hy559]; exact H) | exact H
   have Ny559 := Aside0.mk hy559
   clear hy559
   simp only [Option.some.injEq, Prod.mk.injEq] at H
   obtain ⟨rfl, rfl⟩ := H
   go_enter Try.func64, Try.ntmps64
   go_wp2_with (first | ((with_reducible refine gate_dst (N := 3) rfl ?_); refine zbx 3 #[.slice A1_0 l1_0.length c1_0] 30 ?_; intro gb546 hg w8 hbox hb; replace HO1_0 := Aside0.mk (Kd.V_below (Kd.V_elderB (y13 HO1_0.out) gb546 (Nat.le_of_eq hg.symm)) hb); replace HB := Aside0.mk (below_step (y33 HB.out HI0.out) hb); have BK546 := Aside0.mk hbox; have GW546 := Aside0.mk ((by rw [hg]; exact (keep_size (w := w) (g := g) (row := none) (y25 HK.out)) : w.heap.size ≤ gb546)); have GE546 := Aside0.mk ((Nat.le_trans HW0.out (by rw [hg]; exact (keep_size (w := w) (g := g) (row := none) (y25 HK.out)) : w.heap.size ≤ gb546) : w0.heap.size ≤ gb546)); replace HK := Aside0.mk (KeepBut.trans (y25 HK.out) (KeepBut.of_below hb g none) (.inl rfl)); have NB0_546 := Aside0.mk ((by rw [hg]; exact Nat.ne_of_lt (IsS95.lt (show IsS95 w0 _ g s0_0 s0_1 from by repeat (first | (with_reducible first | exact HI0.out | apply IsS95.alloc | apply IsS95.drewN | apply IsS95.drew | apply IsS95.set_1) | exact HI0.out))) : g ≠ gb546)); have NB546_0 := Aside0.mk ((by rw [hg]; exact Nat.ne_of_gt (IsS95.lt (show IsS95 w0 _ g s0_0 s0_1 from by repeat (first | (with_reducible first | exact HI0.out | apply IsS95.alloc | apply IsS95.drewN | apply IsS95.drew | apply IsS95.set_1) | exact HI0.out))) : gb546 ≠ g)); replace HI0 := Aside0.mk (IsS95.below (y35 HI0.out) hb); clear hb hbox hg; have hnb9 := NB546_0.out; have hnc9 := NB0_546.out; have hcz10_0 := zh BK546; have hfz10_0 := zfr BK546 0) | ((with_reducible refine gate_callee (f := 86) rfl ?_); refine goesL_ (some 10) rfl rfl Try.func86 (by kernel_rfl) rfl #[.pointer (some ⟨g, 0, none⟩), .agg #[.slice A1_0 l1_0.length c1_0]] rfl y4 ?_; (with_reducible refine (spec_l71Path.calls k g s0_0 s0_1 (fun k_ => (((P1_0_ k_ ∨ w.heap.size ≤ k_) ∧ k_ ≠ g) ∧ k_ ≠ gb546)) _ _ l1_0 t547 t550 t553 w0 _ ?side1 ?side2 ?side3 A3.out).mono ?_); (case side1 => exact y24 HI0.out NB0_546.out); (case side2 => exact y23 HB.out HI0.out GE546.out); (case side3 => exact Kd.V_mono (HO1_0.out) (fun k_ hk_ => ⟨hk_, hk_.1.2⟩)); rintro e w11 ⟨v548, v551, rfl, ho0, ho1, hi, hb, hk⟩; refine ⟨_, rfl, ?_⟩; replace HO1_0 := Aside0.mk (Kd.V_mono (Kd.V_told (Kd.V_oldK (Kd.V_mono (ok := fun k_ => ((((P1_0_ k_ ∨ w.heap.size ≤ k_)) ∧ k_ ≠ g) ∧ k_ ≠ gb546)) (y13 HO1_0.out) (fun k_ hk_ => (⟨hk_, hk_.1.2⟩ : _ ∧ k_ ≠ g))) hk) (Kd.R_base ho0)) (fun _ h_ => h_.1)); have HO549 := Aside0.mk (Kd.R_lower (Kd.R_newM (M := fun k_ => (w.heap.size ≤ k_)) ho0 (keep_size (w := w) (g := g) (row := none) (y18 HK.out GW546.out)) (fun k_ h_ => h_)) (keep_size (w := w) (g := g) (row := none) (y18 HK.out GW546.out))); have HO552 := Aside0.mk (Kd.V_lower (Kd.V_mono (ok' := fun k_ => (P1_0_ k_ ∨ w.heap.size ≤ k_) ∧ some k_ ≠ (v548 : Value).ownBlock ∧ k_ ≠ gb546 ∧ k_ ≠ g) ho1 (fun k_ hk_ => ⟨Or.elim hk_.1 (fun hs_ => hs_.1.1) (fun hn_ => (.inr (Nat.le_trans (keep_size (w := w) (g := g) (row := none) (y18 HK.out GW546.out)) hn_))), hk_.2, Or.elim hk_.1 (fun hs_ => hs_.2) (fun hn_ => (Kd.freshB (g := gb546) (o := .cells #[.slice A1_0 l1_0.length c1_0] 30 (0, 0)) (y0 BK546.out) k_ hn_)), Or.elim hk_.1 (fun hs_ => hs_.1.2) (fun hn_ => (IsS95.fresh (y24 HI0.out NB0_546.out) k_ hn_))⟩)) (keep_size (w := w) (g := g) (row := none) (y18 HK.out GW546.out))); replace BK546 := Aside0.mk (KeepBut.blk hk (g' := gb546) (o := .cells #[.slice A1_0 l1_0.length c1_0] 30 (0, 0)) (y0 BK546.out) NB546_0.out (by simp)); replace HK := Aside0.mk (KeepBut.trans (y18 HK.out GW546.out) hk (.inl rfl)); replace HB := Aside0.mk (hb); replace HI0 := Aside0.mk (hi); (try clear hb); (try clear hb2); (try clear hk); (try clear hi); (try clear ho0); (try clear ho1)) | ((with_reducible refine gate_dst (N := 6) rfl ?_); refine zbx 6 #[.slice none 0 0] 30 ?_; intro gb554 hg w12 hbox hb; replace HO1_0 := Aside0.mk (Kd.V_below (Kd.V_elderB (y13 HO1_0.out) gb554 (Nat.le_of_eq hg.symm)) hb); replace HO549 := Aside0.mk (Kd.R_below (y10 HO549.out) hb); replace HO552 := Aside0.mk (Kd.V_below (Kd.V_elderB (y13 HO552.out) gb554 (Nat.le_of_eq hg.symm)) hb); replace HB := Aside0.mk (below_step (y23 HB.out HI0.out GE546.out) hb); have BK554 := Aside0.mk hbox; have GW554 := Aside0.mk ((by rw [hg]; exact (keep_size (w := w) (g := g) (row := none) (y18 HK.out GW546.out)) : w.heap.size ≤ gb554)); have GE554 := Aside0.mk ((Nat.le_trans HW0.out (by rw [hg]; exact (keep_size (w := w) (g := g) (row := none) (y18 HK.out GW546.out)) : w.heap.size ≤ gb554) : w0.heap.size ≤ gb554)); replace HK := Aside0.mk (KeepBut.trans (y18 HK.out GW546.out) (KeepBut.of_below hb g none) (.inl rfl)); have NB546_554 := zltn hg BK546; have NB554_546 := zgtn hg BK546; replace BK546 := zbb BK546 hb; have NB0_554 := Aside0.mk ((by rw [hg]; exact Nat.ne_of_lt (IsS95.lt (show IsS95 w0 _ g s0_0 t553 from by repeat (first | (with_reducible first | exact HI0.out | apply IsS95.alloc | apply IsS95.drewN | apply IsS95.drew | apply IsS95.set_1 | refine IsS95.far ?_ NB0_546.out _) | exact HI0.out))) : g ≠ gb554)); have NB554_0 := Aside0.mk ((by rw [hg]; exact Nat.ne_of_gt (IsS95.lt (show IsS95 w0 _ g s0_0 t553 from by repeat (first | (with_reducible first | exact HI0.out | apply IsS95.alloc | apply IsS95.drewN | apply IsS95.drew | apply IsS95.set_1 | refine IsS95.far ?_ NB0_546.out _) | exact HI0.out))) : gb554 ≠ g)); replace HI0 := Aside0.mk (IsS95.below (y24 HI0.out NB0_546.out) hb); clear hb hbox hg; obtain ⟨Ao13, co13, eo13⟩ := Kd.V_slice HO552.out; subst eo13; have hnb14 := NB554_546.out; have hnc14 := NB546_554.out; have hnb15 := NB554_0.out; have hnc15 := NB0_554.out; have hcz16_0 := zh BK554; have hfz16_0 := zfr BK554 0) | ((with_reducible refine gate_callee (f := 58) rfl ?_); refine goesL_ (some 14) rfl rfl Try.func58 (by kernel_rfl) rfl #[.pointer (some ⟨g, 0, none⟩), .int .i64 6] rfl y4 ?_; (with_reducible refine (spec_l6Rd_pick.calls k g s0_0 t553 6 t555 t556 w0 _ ?side1 ?side2 A4.out).mono ?_); (case side1 => exact y15 HI0.out NB0_546.out NB0_554.out); (case side2 => exact y12 HB.out HI0.out GE546.out GE554.out); rintro e w17 ⟨rfl, hi, hb, hk⟩; refine ⟨_, rfl, ?_⟩; replace HO1_0 := Aside0.mk (Kd.V_mono (Kd.V_keep (Kd.V_mono (ok := fun k_ => ((((((P1_0_ k_ ∨ w.heap.size ≤ k_)) ∧ k_ ≠ g) ∧ k_ ≠ gb546) ∧ some k_ ≠ (v548 : Value).ownBlock) ∧ k_ ≠ gb554)) (by (with_reducible repeat (first | apply Kd.V_alloc | apply Kd.V_drewN | apply Kd.V_drew)); exact (Kd.V_mono (Kd.V_far (p := ⟨gb554, 0, none⟩) (Kd.V_mono HO1_0.out (fun k_ hk => (⟨hk, hk.2⟩ : _ ∧ k_ ≠ gb554))) (fun _ hk => hk.2) (.slice Ao13 t550.length co13)) (fun _ h_ => h_.1))) (fun k_ hk_ => (⟨hk_, hk_.1.1.1.2⟩ : _ ∧ k_ ≠ g))) hk (fun _ h => h.2)) (fun _ h => h.1)); replace BK546 := Aside0.mk (KeepBut.blk hk (g' := gb546) (o := .cells #[.slice A1_0 l1_0.length c1_0] 30 (0, 0)) (y21 NB546_554.out BK546.out) NB546_0.out (by simp)); replace HO549 := Aside0.mk (Kd.R_mono (Kd.R_keep (IsS95.apart (show IsS95 w0 _ g s0_0 t553 from by repeat (first | (with_reducible first | exact HI0.out | apply IsS95.alloc | apply IsS95.drewN | apply IsS95.drew | apply IsS95.set_1 | refine IsS95.far ?_ NB0_546.out _ | refine IsS95.far ?_ NB0_554.out _) | exact HI0.out)) (by (with_reducible repeat (first | apply Kd.R_alloc | apply Kd.R_drewN | apply Kd.R_drew)); exact (Kd.R_mono (Kd.R_far (p := ⟨gb554, 0, none⟩) (Kd.R_types HO549.out BK554.out (by decide)) (fun _ hk => hk.2) (.slice Ao13 t550.length co13)) (fun _ h_ => h_.1))) (by decide)) hk (fun _ h => h.2)) (fun _ h => h.1)); replace HO552 := Aside0.mk (Kd.V_mono (Kd.V_keep (Kd.V_mono (ok := fun k_ => ((((P1_0_ k_ ∨ w.heap.size ≤ k_)) ∧ (some k_ ≠ (v548 : Value).ownBlock ∧ (k_ ≠ gb546 ∧ k_ ≠ g))) ∧ k_ ≠ gb554)) (by (with_reducible repeat (first | apply Kd.V_alloc | apply Kd.V_drewN | apply Kd.V_drew)); exact (Kd.V_mono (Kd.V_far (p := ⟨gb554, 0, none⟩) (Kd.V_mono HO552.out (fun k_ hk => (⟨hk, hk.2⟩ : _ ∧ k_ ≠ gb554))) (fun _ hk => hk.2) (.slice Ao13 t550.length co13)) (fun _ h_ => h_.1))) (fun k_ hk_ => (⟨hk_, hk_.1.2.2.2⟩ : _ ∧ k_ ≠ g))) hk (fun _ h => h.2)) (fun _ h => h.1)); replace BK554 := Aside0.mk (KeepBut.blk hk (g' := gb554) (o := .cells #[.slice Ao13 t550.length co13] 30 (0, 0)) (by (with_reducible repeat (first | refine blk_drewN ?_ _ | refine blk_drew ?_ | refine blk_alloc ?_ _)); apply blk_put (i := 0); (case h => exact y0 BK554.out); (case e => rfl)) NB554_0.out (by simp)); replace HK := Aside0.mk (KeepBut.trans (y11 HK.out GW546.out GW554.out) hk (.inl rfl)); replace HB := Aside0.mk (hb); replace HI0 := Aside0.mk (hi); (try clear hb); (try clear hb2); (try clear hk); (try clear hi)) | ((with_reducible refine gate_callee (f := 58) rfl ?_); refine goesL_ (some 18) rfl rfl Try.func58 (by kernel_rfl) rfl #[.pointer (some ⟨g, 0, none⟩), .int .i64 4] rfl y4 ?_; (with_reducible refine (spec_l6Rd_pick.calls k g s0_0 t556 4 t557 t558 w0 _ ?side1 ?side2 A6.out).mono ?_); (case side1 => exact y15 HI0.out NB0_546.out NB0_554.out); (case side2 => exact y12 HB.out HI0.out GE546.out GE554.out); rintro e w18 ⟨rfl, hi, hb, hk⟩; refine ⟨_, rfl, ?_⟩; replace HO1_0 := Aside0.mk (Kd.V_mono (Kd.V_keep (Kd.V_mono (ok := fun k_ => ((((((P1_0_ k_ ∨ w.heap.size ≤ k_)) ∧ k_ ≠ g) ∧ k_ ≠ gb546) ∧ some k_ ≠ (v548 : Value).ownBlock) ∧ k_ ≠ gb554)) (y13 HO1_0.out) (fun k_ hk_ => (⟨hk_, hk_.1.1.1.2⟩ : _ ∧ k_ ≠ g))) hk (fun _ h => h.2)) (fun _ h => h.1)); replace BK546 := Aside0.mk (KeepBut.blk hk (g' := gb546) (o := .cells #[.slice A1_0 l1_0.length c1_0] 30 (0, 0)) (y0 BK546.out) NB546_0.out (by simp)); replace HO549 := Aside0.mk (Kd.R_mono (Kd.R_keep (IsS95.apart (show IsS95 w0 _ g s0_0 t556 from by repeat (first | (with_reducible first | exact HI0.out | apply IsS95.alloc | apply IsS95.drewN | apply IsS95.drew | apply IsS95.set_1 | refine IsS95.far ?_ NB0_546.out _ | refine IsS95.far ?_ NB0_554.out _) | exact HI0.out)) (y10 HO549.out) (by decide)) hk (fun _ h => h.2)) (fun _ h => h.1)); replace HO552 := Aside0.mk (Kd.V_mono (Kd.V_keep (Kd.V_mono (ok := fun k_ => ((((P1_0_ k_ ∨ w.heap.size ≤ k_)) ∧ (some k_ ≠ (v548 : Value).ownBlock ∧ (k_ ≠ gb546 ∧ k_ ≠ g))) ∧ k_ ≠ gb554)) (y13 HO552.out) (fun k_ hk_ => (⟨hk_, hk_.1.2.2.2⟩ : _ ∧ k_ ≠ g))) hk (fun _ h => h.2)) (fun _ h => h.1)); replace BK554 := Aside0.mk (KeepBut.blk hk (g' := gb554) (o := .cells #[.slice Ao13 t550.length co13] 30 (0, 0)) (y0 BK554.out) NB554_0.out (by simp)); replace HK := Aside0.mk (KeepBut.trans (y11 HK.out GW546.out GW554.out) hk (.inl rfl)); replace HB := Aside0.mk (hb); replace HI0 := Aside0.mk (hi); (try clear hb); (try clear hb2); (try clear hk); (try clear hi)) | ((with_reducible refine gate_builtin (b := .append) (xs := #[.tmp 16, .tmp 20]) rfl ?_); at_builtin; refine Kd.R_append (Kd.int .i64) w.heap.size rfl (.tmp 16) (.tmp 20) 38 3 (.int .i64 0) 8 rfl Try.underlying38 info3 rfl (by decide) (by omega) v548 t547 (wrap64 (t557 - 1)) [.int .i64 (wrap64 (t557 - 1))] (fun k_ => (w.heap.size ≤ k_)) (fun _ => False) rfl rfl ?aP (fun _ hk => hk.elim) ?aF ?aO (Below.refl _ _) ?aS ?aL ?_; (case aP => exact rfl); (case aF => exact (fun k_ hk => (Nat.le_trans (keep_size (w := w) (g := g) (row := none) (y11 HK.out GW546.out GW554.out)) hk))); (case aO => exact (y71 HO549.out)); (case aS => exact (keep_size (w := w) (g := g) (row := none) (y11 HK.out GW546.out GW554.out))); (case aL => exact y46 LMc7.out); intro v560 w19 ho hb hg hat; rw [← Ny559.out] at ho; replace HO1_0 := Aside0.mk (Kd.V_afterv (ok := (fun k_ => (P1_0_ k_ ∨ w.heap.size ≤ k_) ∧ k_ ≠ g ∧ k_ ≠ gb546 ∧ k_ ≠ gb554)) (by (with_reducible repeat (first | apply Kd.V_alloc | apply Kd.V_drewN | apply Kd.V_drew)); exact Kd.V_mono HO1_0.out (fun _ hk => ⟨⟨hk.1.1.1.1, ⟨hk.1.1.1.2, ⟨hk.1.1.2, hk.2⟩⟩⟩, hk.1.2⟩)) hg hat); replace BK546 := Aside0.mk (blk_grown (g := gb546) (o := .cells #[.slice A1_0 l1_0.length c1_0] 30 (0, 0)) (y0 BK546.out) hg (Kd.R_ne HO549.out BK546.out (by decide))); replace HO552 := Aside0.mk (Kd.V_afterv (ok := (fun k_ => (P1_0_ k_ ∨ w.heap.size ≤ k_) ∧ k_ ≠ gb546 ∧ k_ ≠ g ∧ k_ ≠ gb554)) (by (with_reducible repeat (first | apply Kd.V_alloc | apply Kd.V_drewN | apply Kd.V_drew)); exact Kd.V_mono HO552.out (fun _ hk => ⟨⟨hk.1.1, ⟨hk.1.2.2.1, ⟨hk.1.2.2.2, hk.2⟩⟩⟩, hk.1.2.1⟩)) hg hat); replace BK554 := Aside0.mk (blk_grown (g := gb554) (o := .cells #[.slice Ao13 t550.length co13] 30 (0, 0)) (y0 BK554.out) hg (Kd.R_ne HO549.out BK554.out (by decide))); replace HB := Aside0.mk (below_weaken (y12 HB.out HI0.out GE546.out GE554.out) HL.out hb); replace HI0 := Aside0.mk (IsS95.grown (y15 HI0.out NB0_546.out NB0_554.out) hg (IsS95.own_ne HI0.out HO549.out (by decide))); replace HK := Aside0.mk (KeepBut.trans (y11 HK.out GW546.out GW554.out) (KeepBut.of_grown hg g) (Kd.R_base2 HO549.out)); have HO561 := Aside0.mk (ho); clear HO549; clear ho hb hg hat))
   go_ret
   exact ⟨_, y14, (y10 HO561.out), (y15 HI0.out NB0_546.out NB0_554.out), (y12 HB.out HI0.out GE546.out GE554.out), (y11 HK.out GW546.out GW554.out)⟩
  ·rw [if_neg c7] at H
   exact absurd H (by simp)
 ·rw [if_neg c5] at H
  have c5b0 : (t555 == 0) = false := beq_eq_false_iff_ne.mpr c5
  have c5b1 : (t555 != 0) = true := bne_iff_ne.mpr c5
  simp only [Option.some.injEq, Prod.mk.injEq] at H
  obtain ⟨rfl, rfl⟩ := H
  go_enter Try.func64, Try.ntmps64
  go_wp2_with (first | ((with_reducible refine gate_dst (N := 3) rfl ?_); refine zbx 3 #[.slice A1_0 l1_0.length c1_0] 30 ?_; intro gb546 hg w20 hbox hb; replace HO1_0 := Aside0.mk (Kd.V_below (Kd.V_elderB (y13 HO1_0.out) gb546 (Nat.le_of_eq hg.symm)) hb); replace HB := Aside0.mk (below_step (y33 HB.out HI0.out) hb); have BK546 := Aside0.mk hbox; have GW546 := Aside0.mk ((by rw [hg]; exact (keep_size (w := w) (g := g) (row := none) (y25 HK.out)) : w.heap.size ≤ gb546)); have GE546 := Aside0.mk ((Nat.le_trans HW0.out (by rw [hg]; exact (keep_size (w := w) (g := g) (row := none) (y25 HK.out)) : w.heap.size ≤ gb546) : w0.heap.size ≤ gb546)); replace HK := Aside0.mk (KeepBut.trans (y25 HK.out) (KeepBut.of_below hb g none) (.inl rfl)); have NB0_546 := Aside0.mk ((by rw [hg]; exact Nat.ne_of_lt (IsS95.lt (show IsS95 w0 _ g s0_0 s0_1 from by repeat (first | (with_reducible first | exact HI0.out | apply IsS95.alloc | apply IsS95.drewN | apply IsS95.drew | apply IsS95.set_1) | exact HI0.out))) : g ≠ gb546)); have NB546_0 := Aside0.mk ((by rw [hg]; exact Nat.ne_of_gt (IsS95.lt (show IsS95 w0 _ g s0_0 s0_1 from by repeat (first | (with_reducible first | exact HI0.out | apply IsS95.alloc | apply IsS95.drewN | apply IsS95.drew | apply IsS95.set_1) | exact HI0.out))) : gb546 ≠ g)); replace HI0 := Aside0.mk (IsS95.below (y35 HI0.out) hb); clear hb hbox hg; have hnb21 := NB546_0.out; have hnc21 := NB0_546.out; have hcz22_0 := zh BK546; have hfz22_0 := zfr BK546 0) | ((with_reducible refine gate_callee (f := 86) rfl ?_); refine goesL_ (some 10) rfl rfl Try.func86 (by kernel_rfl) rfl #[.pointer (some ⟨g, 0, none⟩), .agg #[.slice A1_0 l1_0.length c1_0]] rfl y4 ?_; (with_reducible refine (spec_l71Path.calls k g s0_0 s0_1 (fun k_ => (((P1_0_ k_ ∨ w.heap.size ≤ k_) ∧ k_ ≠ g) ∧ k_ ≠ gb546)) _ _ l1_0 t547 t550 t553 w0 _ ?side1 ?side2 ?side3 A3.out).mono ?_); (case side1 => exact y24 HI0.out NB0_546.out); (case side2 => exact y23 HB.out HI0.out GE546.out); (case side3 => exact Kd.V_mono (HO1_0.out) (fun k_ hk_ => ⟨hk_, hk_.1.2⟩)); rintro e w23 ⟨v548, v551, rfl, ho0, ho1, hi, hb, hk⟩; refine ⟨_, rfl, ?_⟩; replace HO1_0 := Aside0.mk (Kd.V_mono (Kd.V_told (Kd.V_oldK (Kd.V_mono (ok := fun k_ => ((((P1_0_ k_ ∨ w.heap.size ≤ k_)) ∧ k_ ≠ g) ∧ k_ ≠ gb546)) (y13 HO1_0.out) (fun k_ hk_ => (⟨hk_, hk_.1.2⟩ : _ ∧ k_ ≠ g))) hk) (Kd.R_base ho0)) (fun _ h_ => h_.1)); have HO549 := Aside0.mk (Kd.R_lower (Kd.R_newM (M := fun k_ => (w.heap.size ≤ k_)) ho0 (keep_size (w := w) (g := g) (row := none) (y18 HK.out GW546.out)) (fun k_ h_ => h_)) (keep_size (w := w) (g := g) (row := none) (y18 HK.out GW546.out))); have HO552 := Aside0.mk (Kd.V_lower (Kd.V_mono (ok' := fun k_ => (P1_0_ k_ ∨ w.heap.size ≤ k_) ∧ some k_ ≠ (v548 : Value).ownBlock ∧ k_ ≠ gb546 ∧ k_ ≠ g) ho1 (fun k_ hk_ => ⟨Or.elim hk_.1 (fun hs_ => hs_.1.1) (fun hn_ => (.inr (Nat.le_trans (keep_size (w := w) (g := g) (row := none) (y18 HK.out GW546.out)) hn_))), hk_.2, Or.elim hk_.1 (fun hs_ => hs_.2) (fun hn_ => (Kd.freshB (g := gb546) (o := .cells #[.slice A1_0 l1_0.length c1_0] 30 (0, 0)) (y0 BK546.out) k_ hn_)), Or.elim hk_.1 (fun hs_ => hs_.1.2) (fun hn_ => (IsS95.fresh (y24 HI0.out NB0_546.out) k_ hn_))⟩)) (keep_size (w := w) (g := g) (row := none) (y18 HK.out GW546.out))); replace BK546 := Aside0.mk (KeepBut.blk hk (g' := gb546) (o := .cells #[.slice A1_0 l1_0.length c1_0] 30 (0, 0)) (y0 BK546.out) NB546_0.out (by simp)); replace HK := Aside0.mk (KeepBut.trans (y18 HK.out GW546.out) hk (.inl rfl)); replace HB := Aside0.mk (hb); replace HI0 := Aside0.mk (hi); (try clear hb); (try clear hb2); (try clear hk); (try clear hi); (try clear ho0); (try clear ho1)) | ((with_reducible refine gate_dst (N := 6) rfl ?_); refine zbx 6 #[.slice none 0 0] 30 ?_; intro gb554 hg w24 hbox hb; replace HO1_0 := Aside0.mk (Kd.V_below (Kd.V_elderB (y13 HO1_0.out) gb554 (Nat.le_of_eq hg.symm)) hb); replace HO549 := Aside0.mk (Kd.R_below (y10 HO549.out) hb); replace HO552 := Aside0.mk (Kd.V_below (Kd.V_elderB (y13 HO552.out) gb554 (Nat.le_of_eq hg.symm)) hb); replace HB := Aside0.mk (below_step (y23 HB.out HI0.out GE546.out) hb); have BK554 := Aside0.mk hbox; have GW554 := Aside0.mk ((by rw [hg]; exact (keep_size (w := w) (g := g) (row := none) (y18 HK.out GW546.out)) : w.heap.size ≤ gb554)); have GE554 := Aside0.mk ((Nat.le_trans HW0.out (by rw [hg]; exact (keep_size (w := w) (g := g) (row := none) (y18 HK.out GW546.out)) : w.heap.size ≤ gb554) : w0.heap.size ≤ gb554)); replace HK := Aside0.mk (KeepBut.trans (y18 HK.out GW546.out) (KeepBut.of_below hb g none) (.inl rfl)); have NB546_554 := zltn hg BK546; have NB554_546 := zgtn hg BK546; replace BK546 := zbb BK546 hb; have NB0_554 := Aside0.mk ((by rw [hg]; exact Nat.ne_of_lt (IsS95.lt (show IsS95 w0 _ g s0_0 t553 from by repeat (first | (with_reducible first | exact HI0.out | apply IsS95.alloc | apply IsS95.drewN | apply IsS95.drew | apply IsS95.set_1 | refine IsS95.far ?_ NB0_546.out _) | exact HI0.out))) : g ≠ gb554)); have NB554_0 := Aside0.mk ((by rw [hg]; exact Nat.ne_of_gt (IsS95.lt (show IsS95 w0 _ g s0_0 t553 from by repeat (first | (with_reducible first | exact HI0.out | apply IsS95.alloc | apply IsS95.drewN | apply IsS95.drew | apply IsS95.set_1 | refine IsS95.far ?_ NB0_546.out _) | exact HI0.out))) : gb554 ≠ g)); replace HI0 := Aside0.mk (IsS95.below (y24 HI0.out NB0_546.out) hb); clear hb hbox hg; obtain ⟨Ao25, co25, eo25⟩ := Kd.V_slice HO552.out; subst eo25; have hnb26 := NB554_546.out; have hnc26 := NB546_554.out; have hnb27 := NB554_0.out; have hnc27 := NB0_554.out; have hcz28_0 := zh BK554; have hfz28_0 := zfr BK554 0) | ((with_reducible refine gate_callee (f := 58) rfl ?_); refine goesL_ (some 14) rfl rfl Try.func58 (by kernel_rfl) rfl #[.pointer (some ⟨g, 0, none⟩), .int .i64 6] rfl y4 ?_; (with_reducible refine (spec_l6Rd_pick.calls k g s0_0 t553 6 t555 t556 w0 _ ?side1 ?side2 A4.out).mono ?_); (case side1 => exact y15 HI0.out NB0_546.out NB0_554.out); (case side2 => exact y12 HB.out HI0.out GE546.out GE554.out); rintro e w29 ⟨rfl, hi, hb, hk⟩; refine ⟨_, rfl, ?_⟩; replace HO1_0 := Aside0.mk (Kd.V_mono (Kd.V_keep (Kd.V_mono (ok := fun k_ => ((((((P1_0_ k_ ∨ w.heap.size ≤ k_)) ∧ k_ ≠ g) ∧ k_ ≠ gb546) ∧ some k_ ≠ (v548 : Value).ownBlock) ∧ k_ ≠ gb554)) (by (with_reducible repeat (first | apply Kd.V_alloc | apply Kd.V_drewN | apply Kd.V_drew)); exact (Kd.V_mono (Kd.V_far (p := ⟨gb554, 0, none⟩) (Kd.V_mono HO1_0.out (fun k_ hk => (⟨hk, hk.2⟩ : _ ∧ k_ ≠ gb554))) (fun _ hk => hk.2) (.slice Ao25 t550.length co25)) (fun _ h_ => h_.1))) (fun k_ hk_ => (⟨hk_, hk_.1.1.1.2⟩ : _ ∧ k_ ≠ g))) hk (fun _ h => h.2)) (fun _ h => h.1)); replace BK546 := Aside0.mk (KeepBut.blk hk (g' := gb546) (o := .cells #[.slice A1_0 l1_0.length c1_0] 30 (0, 0)) (y21 NB546_554.out BK546.out) NB546_0.out (by simp)); replace HO549 := Aside0.mk (Kd.R_mono (Kd.R_keep (IsS95.apart (show IsS95 w0 _ g s0_0 t553 from by repeat (first | (with_reducible first | exact HI0.out | apply IsS95.alloc | apply IsS95.drewN | apply IsS95.drew | apply IsS95.set_1 | refine IsS95.far ?_ NB0_546.out _ | refine IsS95.far ?_ NB0_554.out _) | exact HI0.out)) (by (with_reducible repeat (first | apply Kd.R_alloc | apply Kd.R_drewN | apply Kd.R_drew)); exact (Kd.R_mono (Kd.R_far (p := ⟨gb554, 0, none⟩) (Kd.R_types HO549.out BK554.out (by decide)) (fun _ hk => hk.2) (.slice Ao25 t550.length co25)) (fun _ h_ => h_.1))) (by decide)) hk (fun _ h => h.2)) (fun _ h => h.1)); replace HO552 := Aside0.mk (Kd.V_mono (Kd.V_keep (Kd.V_mono (ok := fun k_ => ((((P1_0_ k_ ∨ w.heap.size ≤ k_)) ∧ (some k_ ≠ (v548 : Value).ownBlock ∧ (k_ ≠ gb546 ∧ k_ ≠ g))) ∧ k_ ≠ gb554)) (by (with_reducible repeat (first | apply Kd.V_alloc | apply Kd.V_drewN | apply Kd.V_drew)); exact (Kd.V_mono (Kd.V_far (p := ⟨gb554, 0, none⟩) (Kd.V_mono HO552.out (fun k_ hk => (⟨hk, hk.2⟩ : _ ∧ k_ ≠ gb554))) (fun _ hk => hk.2) (.slice Ao25 t550.length co25)) (fun _ h_ => h_.1))) (fun k_ hk_ => (⟨hk_, hk_.1.2.2.2⟩ : _ ∧ k_ ≠ g))) hk (fun _ h => h.2)) (fun _ h => h.1)); replace BK554 := Aside0.mk (KeepBut.blk hk (g' := gb554) (o := .cells #[.slice Ao25 t550.length co25] 30 (0, 0)) (by (with_reducible repeat (first | refine blk_drewN ?_ _ | refine blk_drew ?_ | refine blk_alloc ?_ _)); apply blk_put (i := 0); (case h => exact y0 BK554.out); (case e => rfl)) NB554_0.out (by simp)); replace HK := Aside0.mk (KeepBut.trans (y11 HK.out GW546.out GW554.out) hk (.inl rfl)); replace HB := Aside0.mk (hb); replace HI0 := Aside0.mk (hi); (try clear hb); (try clear hb2); (try clear hk); (try clear hi)))
  go_ret
  exact ⟨_, y14, (y71 HO549.out), (y15 HI0.out NB0_546.out NB0_554.out), (y12 HB.out HI0.out GE546.out GE554.out), (y11 HK.out GW546.out GW554.out)⟩
end Go.Proofs.Ytjhbhihfifhljaa.PA
end
section
namespace Go.Proofs.Ytjhbhihfifhljaa.PA
open Go.RowKit Go.Proofs.YtjhbhihfifhljaaW.PrintWords Go.Proofs.YtjhbhihfifhljaaW.PrintLast Go.Proofs.YtjhbhihfifhljaaW.PrintMore
attribute [local go_sem] max2_int min2_int max_two min_two max_three min_three max_four min_four
set_option linter.unusedVariables false
set_option linter.unusedSimpArgs false
def spec_DrawTypeAt.f (k : Nat) (l0 : List Int) : Option ((List (S30)) × List Int) := (spec_l6Open.f l0).bind fun bt563 => ((spec_l71Deep.f k bt563.1 bt563.2).bind fun bt566 => ((spec_l71Any.f k bt563.1 bt566.2 bt566.1).bind fun bt571 => (some (bt566.1, bt571.1))))
theorem spec_DrawTypeAt.mono : ∀ a0 k, LeO (spec_DrawTypeAt.f k a0) (spec_DrawTypeAt.f (k + 1) a0) := by
 intro a0 k
 unfold spec_DrawTypeAt.f
 repeat' first
   | (with_reducible exact spec_l71Any.mono _ _ _ _)
   | (with_reducible exact spec_l71Deep.mono _ _ _)
   | (with_reducible exact LeO.refl _)
   | (with_reducible exact LeO.none _)
   | (with_reducible refine LeO.ite ?_ ?_)
   | (with_reducible refine LeO.bind ?_ (fun _ => ?_))
   | exact spec_l71Any.mono _ _ _ _
   | exact spec_l71Deep.mono _ _ _
   | exact LeO.none _
   | refine LeO.ite ?_ ?_
   | refine LeO.bind ?_ (fun _ => ?_)
set_option maxHeartbeats 8000000 in
set_option maxRecDepth 100000 in
theorem spec_DrawTypeAt.calls (k : Nat) (A0 : Option Addr) (c0 : Nat) (l0 : List Int) (r1 : List (S30)) (r2 : List Int) (w : World) (hr0 : Kd.C (Kd.int .u8) w A0 l0.length l0) (hc0 : l0.length ≤ c0) (h : spec_DrawTypeAt.f k l0 = some (r1, r2)) :
  Calls Try.prog 32 #[.slice A0 l0.length c0] w fun e w' => ∃ v0_ v1_ : Value, e = .returned (.tuple #[.agg #[v0_], v1_]) ∧ Kd.N k30 30 w' w.heap.size (fun k_ => (w.heap.size ≤ k_) ∧ some k_ ≠ (v1_ : Value).ownBlock) v0_ r1 ∧ Kd.R (Kd.int .i64) 3 w' w.heap.size (fun k_ => (w.heap.size ≤ k_)) v1_ r2 ∧ Below w.heap.size w w' := by
 have hu30 := Try.underlying30
 have HR0 := Aside0.mk hr0
 have HC0 := Aside0.mk hc0
 clear hr0 hc0
 have HB := Aside0.mk (Below.refl w.heap.size w)
 have H : ((spec_l6Open.f l0).bind fun bt563 => ((spec_l71Deep.f k bt563.1 bt563.2).bind fun bt566 => ((spec_l71Any.f k bt563.1 bt566.2 bt566.1).bind fun bt571 => (some (bt566.1, bt571.1))))) = some (r1, r2) := h
 clear h
 obtain ⟨⟨t563, t564⟩, A20, H⟩ := ob H
 have A2 := Aside0.mk A20
 clear A20
 obtain ⟨⟨t566, t569⟩, A30, H⟩ := ob H
 have A3 := Aside0.mk A30
 clear A30
 obtain ⟨⟨t571, t574⟩, A40, H⟩ := ob H
 have A4 := Aside0.mk A40
 clear A40
 simp only [Option.some.injEq, Prod.mk.injEq] at H
 obtain ⟨rfl, rfl⟩ := H
 go_enter Try.func32, Try.ntmps32
 try go_wp2_with (first | ((with_reducible refine gate_dst (N := 2) rfl ?_); refine zbx 2 #[.slice none 0 0] 30 ?_; intro gb562 hg w5 hbox hb; have BK562 := Aside0.mk hbox; have GW562 := Aside0.mk ((y5 hg HB.out : w.heap.size ≤ gb562)); have GE562 := Aside0.mk ((y5 hg HB.out : w.heap.size ≤ gb562)); replace HB := Aside0.mk (below_step (y2 HB.out) hb); clear hb hbox hg) | ((with_reducible refine gate_callee (f := 52) rfl ?_); refine goesL_ (some 7) rfl rfl Try.func52 (by kernel_rfl) rfl #[.slice A0 l0.length c0] rfl y4 ?_; (with_reducible refine (spec_l6Open.calls _ _ l0 t563 t564 w _ ?side1 ?side2 ?side3 A2.out).mono ?_); (case side1 => exact y3 HB.out GE562.out); (case side2 => exact HR0.out); (case side3 => exact HC0.out); rintro e w6 ⟨g565, rfl, hi, hb, hb2⟩; refine ⟨_, rfl, ?_⟩; replace HB := Aside0.mk (hb); have HI565 := Aside0.mk (hi); have NB565_562 := Aside0.mk (IsS95.ne_blk hi (blk_below (g := gb562) (o := .cells #[.slice none 0 0] 30 (0, 0)) (y0 BK562.out) hb2) (by decide)); have NB562_565 := Aside0.mk (Ne.symm (IsS95.ne_blk hi (blk_below (g := gb562) (o := .cells #[.slice none 0 0] 30 (0, 0)) (y0 BK562.out) hb2) (by decide))); replace BK562 := Aside0.mk (blk_below (g := gb562) (o := .cells #[.slice none 0 0] 30 (0, 0)) (y0 BK562.out) hb2); (try clear hb); (try clear hb2); (try clear hk); (try clear hi)) | ((with_reducible refine gate_callee (f := 51) rfl ?_); refine goesL_ (some 9) rfl rfl Try.func51 (by kernel_rfl) rfl #[.pointer (some ⟨g565, 0, none⟩)] rfl y4 ?_; (with_reducible refine (spec_l71Deep.calls k g565 t563 t564 t566 t569 w _ ?side1 ?side2 A3.out).mono ?_); (case side1 => exact y24 HI565.out NB565_562.out); (case side2 => exact y23 HB.out HI565.out GE562.out); rintro e w7 ⟨v567, rfl, ho0, hi, hb, hk⟩; refine ⟨_, rfl, ?_⟩; have HO568 := Aside0.mk (Kd.N_lower (Kd.N_mono (ok' := fun k_ => (w.heap.size ≤ k_) ∧ k_ ≠ gb562 ∧ k_ ≠ g565) ho0 (fun k_ hk_ => ⟨(Nat.le_trans (below_size (y23 HB.out HI565.out GE562.out)) hk_), (Kd.freshB (g := gb562) (o := .cells #[.slice none 0 0] 30 (0, 0)) (y0 BK562.out) k_ hk_), (IsS95.fresh (y24 HI565.out NB565_562.out) k_ hk_)⟩)) (below_size (y23 HB.out HI565.out GE562.out))); replace BK562 := Aside0.mk (KeepBut.blk hk (g' := gb562) (o := .cells #[.slice none 0 0] 30 (0, 0)) (y0 BK562.out) NB562_565.out (by simp)); replace HB := Aside0.mk (hb); replace HI565 := Aside0.mk (hi); (try clear hb); (try clear hb2); (try clear hk); (try clear hi); (try clear ho0)) | ((with_reducible refine gate_dst (N := 5) rfl ?_); refine zbx 5 #[.slice none 0 0] 30 ?_; intro gb570 hg w8 hbox hb; replace HO568 := Aside0.mk (Kd.N_below (Kd.N_elderB (y9 HO568.out) gb570 (Nat.le_of_eq hg.symm)) hb); have BK570 := Aside0.mk hbox; have GW570 := Aside0.mk ((y64 hg HB.out HI565.out GE562.out : w.heap.size ≤ gb570)); have GE570 := Aside0.mk ((y64 hg HB.out HI565.out GE562.out : w.heap.size ≤ gb570)); replace HB := Aside0.mk (below_step (y23 HB.out HI565.out GE562.out) hb); have NB562_570 := zltn hg BK562; have NB570_562 := zgtn hg BK562; replace BK562 := zbb BK562 hb; have NB565_570 := Aside0.mk ((by rw [hg]; exact Nat.ne_of_lt (IsS95.lt (show IsS95 w _ g565 t563 t569 from by repeat (first | (with_reducible first | exact HI565.out | apply IsS95.alloc | apply IsS95.drewN | apply IsS95.drew | apply IsS95.set_1 | refine IsS95.far ?_ NB565_562.out _) | exact HI565.out))) : g565 ≠ gb570)); have NB570_565 := Aside0.mk ((by rw [hg]; exact Nat.ne_of_gt (IsS95.lt (show IsS95 w _ g565 t563 t569 from by repeat (first | (with_reducible first | exact HI565.out | apply IsS95.alloc | apply IsS95.drewN | apply IsS95.drew | apply IsS95.set_1 | refine IsS95.far ?_ NB565_562.out _) | exact HI565.out))) : gb570 ≠ g565)); replace HI565 := Aside0.mk (IsS95.below (y24 HI565.out NB565_562.out) hb); clear hb hbox hg; obtain ⟨Ao9, co9, eo9⟩ := Kd.N_slice HO568.out; subst eo9; have hnb10 := NB570_562.out; have hnc10 := NB562_570.out; have hnb11 := NB570_565.out; have hnc11 := NB565_570.out; have hcz12_0 := zh BK570; have hfz12_0 := zfr BK570 0))
 have n0_ : Aside0 (Kd.N k30 30 (w8.setCell ⟨gb570, 0, none⟩ (.slice Ao9 t566.length co9)) w.heap.size (fun k_ => (w.heap.size ≤ k_) ∧ k_ ≠ gb562 ∧ k_ ≠ g565 ∧ k_ ≠ gb570) (.slice Ao9 t566.length co9) t566) := ⟨(by (with_reducible repeat (first | apply Kd.N_alloc | apply Kd.N_drewN | apply Kd.N_drew)); exact Kd.N_mono (Kd.N_far (p := ⟨gb570, 0, none⟩) (Kd.N_mono HO568.out (fun k_ hk => (⟨hk, hk.2⟩ : _ ∧ k_ ≠ gb570))) (fun _ hk => hk.2) (.slice Ao9 t566.length co9)) (fun _ hk => ⟨hk.1.1.1, ⟨hk.1.1.2.1, ⟨hk.1.1.2.2, hk.1.2⟩⟩⟩))⟩
 have n1_ : Aside0 ((w8.setCell ⟨gb570, 0, none⟩ (.slice Ao9 t566.length co9)).heap[gb562]? = some (.cells #[.slice none 0 0] 30 (0, 0))) := ⟨(y21 NB562_570.out BK562.out)⟩
 have n2_ : Aside0 ((w8.setCell ⟨gb570, 0, none⟩ (.slice Ao9 t566.length co9)).heap[gb570]? = some (.cells #[.slice Ao9 t566.length co9] 30 (0, 0))) := ⟨(by (with_reducible repeat (first | refine blk_drewN ?_ _ | refine blk_drew ?_ | refine blk_alloc ?_ _)); refine blk_put (cs := #[.slice none 0 0]) ?_ 0 _ rfl; (with_reducible repeat (first | refine blk_drewN ?_ _ | refine blk_drew ?_ | refine blk_alloc ?_ _)); exact BK570.out)⟩
 have n3_ : Aside0 (IsS95 w (w8.setCell ⟨gb570, 0, none⟩ (.slice Ao9 t566.length co9)) g565 t563 t569) := ⟨(y15 HI565.out NB565_562.out NB565_570.out)⟩
 have n4_ : Aside0 (Below w.heap.size w (w8.setCell ⟨gb570, 0, none⟩ (.slice Ao9 t566.length co9))) := ⟨(y12 HB.out HI565.out GE562.out GE570.out)⟩
 (try clear HO568)
 (try clear BK562)
 (try clear BK570)
 (try clear HI565)
 (try clear HB)
 generalize (w8.setCell ⟨gb570, 0, none⟩ (.slice Ao9 t566.length co9)) = w13 at n0_ n1_ n2_ n3_ n4_ ⊢
 have HO568 := n0_
 have BK562 := n1_
 have BK570 := n2_
 have HI565 := n3_
 have HB := n4_
 clear n0_ n1_ n2_ n3_ n4_
 replace HO568 := Aside0.mk (Kd.N_drew HO568.out)
 replace BK562 := Aside0.mk (blk_drew BK562.out)
 replace BK570 := Aside0.mk (blk_drew BK570.out)
 replace HI565 := Aside0.mk (IsS95.drew HI565.out)
 replace HB := Aside0.mk (below_drew1 HB.out)
 refine start_ (n := 6) (S := fun w' => w'.cell? ⟨gb570, 0, none⟩ = some (.slice Ao9 t566.length co9)) (ds := []) #[false, false, false, false, false, false] (by kernel_rfl) rfl rfl ((blk_cell BK570.out 0).trans rfl) (fun hHeld => ?_)
 generalize w13.drew = w14 at HO568 BK562 BK570 HI565 HB hHeld ⊢
 refine pure_ (i := 1) (N := some 11) (v := ?_) (a' := ?_) #[false, true, false, false, false, false] rfl rfl (by kernel_rfl) (fun _ _ _ h => h) (Or.inl ⟨(by rfl), ?_⟩) ?_ ?_
 rotate_left
 ·intro w'
  go_simp
  with_reducible rfl
 rotate_left
 ·simp only [Act.put, List.setIfInBounds_toArray, List.set_cons_zero, List.set_cons_succ, i64_w, i32_w]
  rfl
 refine take_ (i := 0) (N := some 10) (v := ?_) (a' := ?_) #[true, true, false, false, false, false] rfl rfl (by kernel_rfl) (fun _ _ _ h => h) (Or.inl ⟨(by rfl), ?_⟩) hHeld ?_ ?_
 rotate_left
 ·intro w' s0
  go_simp
  with_reducible rfl
 rotate_left
 ·simp only [Act.put, List.setIfInBounds_toArray, List.set_cons_zero, List.set_cons_succ, i64_w, i32_w]
  rfl
 refine take_ (i := 2) (N := some 12) (v := ?_) (a' := ?_) #[true, true, true, false, false, false] rfl rfl (by kernel_rfl) (fun _ _ _ h => h) (Or.inl ⟨(by rfl), ?_⟩) hHeld ?_ ?_
 rotate_left
 ·intro w' s0
  go_simp
  with_reducible rfl
 rotate_left
 ·simp only [Act.put, List.setIfInBounds_toArray, List.set_cons_zero, List.set_cons_succ, i64_w, i32_w]
  rfl
 refine one_ (i := 3) (N := some 13) #[true, true, true, true, false, false] rfl rfl (by kernel_rfl) (by decide) (fun K hK => ?_)
 refine goes_ Try.func64 (by kernel_rfl) rfl #[.pointer (some ⟨g565, 0, none⟩), .agg #[.slice Ao9 t566.length co9]] (by rfl) rfl rfl y4 ?_
 with_reducible refine (spec_l71Any.calls k g565 t563 t569 (fun k_ => ((w.heap.size ≤ k_) ∧ (k_ ≠ gb562 ∧ (k_ ≠ g565 ∧ k_ ≠ gb570)))) _ _ t566 t571 t574 w _ ?side1 ?side2 ?side3 A4.out).mono ?_
 (case side1 => exact y15 HI565.out NB565_562.out NB565_570.out)
 (case side2 => exact y12 HB.out HI565.out GE562.out GE570.out)
 (case side3 => exact Kd.V_mono (Kd.N_V (HO568.out)) (fun k_ hk_ => ⟨hk_, hk_.2.2.1⟩))
 rintro e w15 ⟨v572, rfl, ho0, hi, hb, hk⟩
 refine ⟨_, rfl, ?_⟩
 replace BK562 := Aside0.mk (KeepBut.blk hk (g' := gb562) (o := .cells #[.slice none 0 0] 30 (0, 0)) (y0 BK562.out) NB562_565.out (by simp))
 replace HO568 := Aside0.mk (Kd.N_mono (Kd.N_told (Kd.N_oldK (Kd.N_mono (ok := fun k_ => (((w.heap.size ≤ k_)) ∧ (k_ ≠ gb562 ∧ (k_ ≠ g565 ∧ k_ ≠ gb570)))) (y9 HO568.out) (fun k_ hk_ => (⟨hk_, hk_.2.2.1⟩ : _ ∧ k_ ≠ g565))) hk) (Kd.R_base ho0)) (fun _ h_ => h_.1))
 replace BK570 := Aside0.mk (KeepBut.blk hk (g' := gb570) (o := .cells #[.slice Ao9 t566.length co9] 30 (0, 0)) (y0 BK570.out) NB570_565.out (by simp))
 have HO573 := Aside0.mk (Kd.R_lower (Kd.R_newM (M := fun k_ => (w.heap.size ≤ k_)) ho0 (below_size (y12 HB.out HI565.out GE562.out GE570.out)) (fun k_ h_ => h_)) (below_size (y12 HB.out HI565.out GE562.out GE570.out)))
 replace HB := Aside0.mk (hb)
 replace HI565 := Aside0.mk (hi)
 (try clear hb)
 (try clear hb2)
 (try clear hk)
 (try clear hi)
 (try clear ho0)
 refine hK.out _ _ ((blk_cell BK570.out 0).trans rfl) (fun hHeld => ?_)
 clear hK K
 refine norm_ (a' := ?_) ?_ ?_
 rotate_left
 ·show Act.put _ (some 13) _ = _
  simp only [Act.put, List.setIfInBounds_toArray, List.set_cons_zero, List.set_cons_succ, i64_w, i32_w]
  rfl
 refine one_ (i := 4) (N := none) #[true, true, true, true, true, false] rfl rfl (by kernel_rfl) (by decide) (fun K hK => ?_)
 have hs16 : w15.cell? ⟨gb562, 0, none⟩ = some (.slice none 0 0) := (blk_cell BK562.out 0).trans rfl
 have hfs16 := zfr BK562 0
 have hns16_1 := NB570_562.out
 have hms16_1 := NB562_570.out
 refine skip_ (w1 := ?_) (by rfl) rfl ?_ ?_
 rotate_left
 ·go_simp
  rfl
 refine hK.out _ _ (((cell_far (p := ⟨gb562, _, none⟩) NB570_562.out _).trans (hHeld))) (fun hHeld => ?_)
 clear hK K
 refine pure_ (i := 5) (N := some 3) (v := ?_) (a' := ?_) #[true, true, true, true, true, true] rfl rfl (by kernel_rfl) (fun _ _ _ h => h) (Or.inl ⟨(by rfl), ?_⟩) ?_ ?_
 rotate_left
 ·intro w'
  go_simp
  with_reducible rfl
 rotate_left
 ·simp only [Act.put, List.setIfInBounds_toArray, List.set_cons_zero, List.set_cons_succ, i64_w, i32_w]
  rfl
 refine done_ (by kernel_rfl) ?_
 try go_wp2
 refine bodyPost_ret (results_ct rfl _ _ gb562 30 #[.slice Ao9 t566.length co9] (0, 0) _ rfl (by (with_reducible repeat (first | refine blk_drewN ?_ _ | refine blk_drew ?_ | refine blk_alloc ?_ _)); apply blk_put (i := 0); (case h => exact y0 BK562.out); (case e => rfl)) Try.underlying30 rfl (by kernel_rfl)) rfl ?_
 exact ⟨_, _, y14, (by (with_reducible repeat (first | apply Kd.N_alloc | apply Kd.N_drewN | apply Kd.N_drew)); exact Kd.N_mono (Kd.N_far (p := ⟨gb562, 0, none⟩) (Kd.N_mono HO568.out (fun k_ hk => (⟨hk, hk.1.2.1⟩ : _ ∧ k_ ≠ gb562))) (fun _ hk => hk.2) (.slice Ao9 t566.length co9)) (fun _ hk => ⟨hk.1.1.1, hk.1.2⟩)), (by (with_reducible repeat (first | apply Kd.R_alloc | apply Kd.R_drewN | apply Kd.R_drew)); exact Kd.R_mono (Kd.R_far (p := ⟨gb562, 0, none⟩) (Kd.R_types HO573.out BK562.out (by decide)) (fun _ hk => hk.2) (.slice Ao9 t566.length co9)) (fun _ hk => hk.1.1)), (y12 HB.out HI565.out GE562.out GE570.out)⟩
end Go.Proofs.Ytjhbhihfifhljaa.PA
end
section
namespace Go.Proofs.Ytjhbhihfifhljaa.Paths
open Go.RowKit Go.Proofs.Ytjhbhihfifhljaa.PA Go.Proofs.YtjhbhihfifhljaaW.PrintWords Go.Proofs.YtjhbhihfifhljaaW.PrintLast Go.Proofs.Ytjhbhihfifhljaa.Draw Go.Proofs.Ytjhbhihfifhljaa.Types
def pf : List Int → Ty → Option Ty
  | [], t => some t
  | i :: r, [a, b] => if i = 0 then pf r a.f0 else if i = 1 then pf r b.f0 else none
  | _ :: _, _ => none
theorem pf_nil (t : Ty) : pf [] t = some t := by cases t <;> rfl
theorem pf_two (i : Int) (r : List Int) (a b : S30) : pf (i :: r) [a, b] = if i = 0 then pf r a.f0 else if i = 1 then pf r b.f0 else none := rfl
theorem pf_odd (i : Int) (r : List Int) (t : Ty) (h : t.length ≠ 2) : pf (i :: r) t = none := by
  match t with
  | [] => rfl
  | [_] => rfl
  | [_, _] => simp at h
  | _ :: _ :: _ :: _ => rfl
theorem pf_app (p q : List Int) : ∀ t, pf (p ++ q) t = (pf p t).bind (pf q) := by
  induction p with
  | nil => intro t; rw [List.nil_append, pf_nil]; rfl
  | cons i r ih =>
    intro t
    by_cases h : t.length = 2
    · obtain ⟨a, b, rfl⟩ := two_of h
      rw [List.cons_append, pf_two, pf_two]
      split
      · exact ih _
      · split
        · exact ih _
        · rfl
    · rw [List.cons_append, pf_odd _ _ _ h, pf_odd _ _ _ h]; rfl
theorem dp_succ : ∀ (n : Nat) (t : Ty), dp n t = true → dp (n + 1) t = true := by
  intro n
  induction n with
  | zero => intro t h; simp [dp] at h
  | succ n ih =>
    intro t h
    rcases Types.shape t with rfl | ⟨a, b, rfl⟩ | ⟨h0, h2⟩
    · rfl
    · rw [dp_two, Bool.and_eq_true] at h ⊢
      exact ⟨ih _ h.1, ih _ h.2⟩
    · rw [dp_odd _ _ h0 h2] at h; cases h
theorem dp_pf (n : Nat) : ∀ (p : List Int) (t u : Ty), dp n t = true → pf p t = some u → dp n u = true := by
  intro p
  induction p with
  | nil => intro t u h e; rw [pf_nil] at e; cases e; exact h
  | cons i r ih =>
    intro t u h e
    by_cases h2 : t.length = 2
    · obtain ⟨a, b, rfl⟩ := two_of h2
      cases n with
      | zero => simp [dp] at h
      | succ n =>
        rw [dp_two, Bool.and_eq_true] at h
        rw [pf_two] at e
        split at e
        · exact ih _ _ (dp_succ _ _ h.1) e
        · split at e
          · exact ih _ _ (dp_succ _ _ h.2) e
          · cases e
    · rw [pf_odd _ _ _ h2] at e; cases e
theorem rd_mid (pre r : List Int) (i : Int) : rd (pre ++ i :: r) (pre.length : Int) = i := by
  unfold rd
  rw [Int.toNat_natCast, List.getD_eq_getElem?_getD, List.getElem?_append_right (Nat.le_refl _)]
  simp
def at_ (o : Option Ty) : Ty × Bool := match o with | some u => (u, true) | none => ([], false)
theorem partLoop_ev : ∀ (r pre : List Int) (t : Ty) (k : Nat), pre.length + r.length ≤ 4611686018427387904 → r.length + 1 ≤ k →
    impl_Type.l0 k (pre ++ r) ((pre ++ r).length : Int) (pre.length : Int) t = some (at_ (pf r t)) := by
  intro r
  induction r with
  | nil =>
    intro pre t k h1 hk
    obtain ⟨k, rfl⟩ : ∃ m, k = m + 1 := ⟨k - 1, by simp at hk; omega⟩
    simp only [impl_Type.l0]
    rw [if_neg (by simp), pf_nil]; rfl
  | cons i r ih =>
    intro pre t k h1 hk
    simp only [List.length_cons] at h1 hk
    obtain ⟨k, rfl⟩ : ∃ m, k = m + 1 := ⟨k - 1, by omega⟩
    simp only [impl_Type.l0, impl_Type_parts.f, Option.bind_some]
    have hl : ((pre ++ i :: r).length : Int) = pre.length + 1 + r.length := by simp; omega
    rw [if_pos (by omega), if_pos (by omega), if_pos (by omega), rd_mid]
    by_cases h2 : t.length = 2
    · obtain ⟨a, b, rfl⟩ := two_of h2
      rw [if_pos (by simp), pf_two]
      by_cases hn : i < 0
      · rw [if_pos hn, if_neg (by omega), if_neg (by omega)]; rfl
      · rw [if_neg hn]
        by_cases hb : i > 1
        · rw [if_pos hb, if_neg (by omega), if_neg (by omega)]; rfl
        · rw [if_neg hb, if_pos (by omega), if_pos (by simp; omega), w64 (by omega) (by omega)]
          have ea : pre ++ i :: r = (pre ++ [i]) ++ r := by simp
          have el : (pre.length : Int) + 1 = ((pre ++ [i]).length : Int) := by simp
          rw [el, ea]
          by_cases h0 : i = 0
          · rw [if_pos h0, ih _ _ _ (by simp; omega) (by omega), h0, rd0]
          · rw [if_neg h0, if_pos (by omega), ih _ _ _ (by simp; omega) (by omega), show i = 1 by omega, rd1]
    · rw [if_neg (by omega), pf_odd _ _ _ h2]; rfl
theorem implPart_ev (t : Ty) (p : List Int) (k : Nat) (h : p.length ≤ 4611686018427387904) (hk : p.length + 1 ≤ k) : impl_Type.f k t p = some (at_ (pf p t)) := by
  unfold impl_Type.f
  have := partLoop_ev p [] t k (by simpa using h) hk
  simpa using this
theorem typeCopy_ev : ∀ (n : Nat) (t : Ty) (k : Nat), dp n t = true → n ≤ k → impl_typeCopy.f k t = some t := by
  intro n
  induction n with
  | zero => intro t k h; simp [dp] at h
  | succ n ih =>
    intro t k h hk
    obtain ⟨k, rfl⟩ : ∃ m, k = m + 1 := ⟨k - 1, by omega⟩
    simp only [impl_typeCopy.f]
    rcases Types.shape t with rfl | ⟨a, b, rfl⟩ | ⟨h0, h2⟩
    · rw [if_pos (by simp)]
    · rw [dp_two, Bool.and_eq_true] at h
      rw [if_neg (by simp), if_pos (by simp), if_pos (by simp)]
      simp only [impl_typePair.F, rd0, rd1]
      rw [ih _ _ h.1 (by omega)]; simp only [Option.bind_some]
      rw [ih _ _ h.2 (by omega)]; simp only [Option.bind_some]
      cases a; cases b; rfl
    · rw [dp_odd _ _ h0 h2] at h; cases h
theorem specCopy_ev : ∀ (n : Nat) (t : Ty) (k : Nat), dp n t = true → 4 * n ≤ k → spec_l1Copy.f k t = some t := by
  intro n
  induction n with
  | zero => intro t k h; simp [dp] at h
  | succ n ih =>
    intro t k h hk
    obtain ⟨k, rfl⟩ : ∃ m, k = m + 4 := ⟨k - 4, by omega⟩
    simp only [spec_l1Copy.f]
    rcases Types.shape t with rfl | ⟨a, b, rfl⟩ | ⟨h0, h2⟩
    · simp only [spec_l1Copy.l0]; rw [if_neg (by simp)]
    · rw [dp_two, Bool.and_eq_true] at h
      simp only [spec_l1Copy.l0, w01, w12]
      rw [if_pos (by simp), if_pos (by omega), rd0, ih _ _ h.1 (by omega)]; simp only [Option.bind_some]
      rw [if_pos (by simp), if_pos (by simp), if_pos (by omega), rd1, ih _ _ h.2 (by omega)]; simp only [Option.bind_some]
      rw [if_pos (by simp), if_neg (by simp)]
      cases a; cases b; rfl
    · rw [dp_odd _ _ h0 h2] at h; cases h
def tat (t : Ty) (p : List Int) : Ty × Bool := if dp 4 t = true then at_ (pf p t) else ([], false)
theorem implTypeAt_ev (t : Ty) (p : List Int) (k : Nat) (h : p.length ≤ 4611686018427387904) (hk : p.length + 5 ≤ k) : impl_TypeAt.f k t p = some (tat t p) := by
  unfold impl_TypeAt.f tat
  rw [implOk_ev t k (by omega)]; simp only [Option.bind_some]
  by_cases d : dp 4 t = true
  · rw [if_pos d, if_pos d, implPart_ev t p k h (by omega)]; simp only [Option.bind_some]
    cases e : pf p t with
    | none => rfl
    | some u =>
      simp only [at_, if_true]
      rw [typeCopy_ev 4 u k (dp_pf 4 _ _ _ d e) (by omega)]; rfl
  · rw [if_neg d, if_neg d]
theorem specLoop_ev (n : Nat) : ∀ (r pre : List Int) (t : Ty) (k : Nat), dp n t = true → pre.length + r.length ≤ 4611686018427387904 → r.length + 4 * n + 1 ≤ k →
    spec_TypeAt.l0 k (pre ++ r) (pre.length : Int) t = some (at_ (pf r t)) := by
  intro r
  induction r with
  | nil =>
    intro pre t k d h1 hk
    obtain ⟨k, rfl⟩ : ∃ m, k = m + 1 := ⟨k - 1, by omega⟩
    simp only [List.length_nil] at hk
    simp only [spec_TypeAt.l0]
    rw [if_neg (by simp), specCopy_ev n t k d (by omega), pf_nil]; rfl
  | cons i r ih =>
    intro pre t k d h1 hk
    simp only [List.length_cons] at h1 hk
    obtain ⟨k, rfl⟩ : ∃ m, k = m + 1 := ⟨k - 1, by omega⟩
    simp only [spec_TypeAt.l0, spec_l6In.f]
    have hl : ((pre ++ i :: r).length : Int) = pre.length + 1 + r.length := by simp; omega
    rw [if_pos (by omega), if_pos (by omega), rd_mid]
    rcases Types.shape t with rfl | ⟨a, b, rfl⟩ | ⟨h0, h2⟩
    · rw [pf_odd _ _ _ (by simp), show wrap64 ((([] : Ty).length : Int) - 1) = -1 from w64 (by simp) (by simp)]
      by_cases hn : i ≥ 0
      · rw [if_pos hn]; simp only [Option.bind_some]; rw [if_neg (by simp; omega)]; rfl
      · rw [if_neg hn]; rfl
    · rw [pf_two, show wrap64 ((([a, b] : Ty).length : Int) - 1) = 1 from w64 (by simp) (by simp)]
      cases n with
      | zero => simp [dp] at d
      | succ n =>
        rw [dp_two, Bool.and_eq_true] at d
        by_cases hn : i ≥ 0
        · rw [if_pos hn]; simp only [Option.bind_some]
          by_cases hb : i ≤ 1
          · rw [if_pos (by simpa using hb), if_pos (by omega), if_pos (by simp; omega), w64 (by omega) (by omega)]
            have ea : pre ++ i :: r = (pre ++ [i]) ++ r := by simp
            have el : (pre.length : Int) + 1 = ((pre ++ [i]).length : Int) := by simp
            rw [el, ea]
            by_cases h0 : i = 0
            · rw [if_pos h0, h0, rd0, ih _ _ _ (dp_succ _ _ d.1) (by simp; omega) (by omega)]
            · rw [if_neg h0, if_pos (by omega), show i = 1 by omega, rd1, ih _ _ _ (dp_succ _ _ d.2) (by simp; omega) (by omega)]
          · rw [if_neg (by simpa using hb), if_neg (by omega), if_neg (by omega)]; rfl
        · rw [if_neg hn, if_neg (show ¬ i = 0 by omega), if_neg (show ¬ i = 1 by omega)]; rfl
    · rw [dp_odd _ _ h0 h2] at d; cases d
theorem specTypeAt_ev (t : Ty) (p : List Int) (k : Nat) (h : p.length ≤ 4611686018427387904) (hk : p.length + 30 ≤ k) : spec_TypeAt.f k t p = some (tat t p) := by
  unfold spec_TypeAt.f tat
  rw [specOk_ev t k (by omega)]; simp only [Option.bind_some]
  by_cases d : dp 4 t = true
  · rw [if_pos d, if_pos d]
    have := specLoop_ev 4 p [] t k d (by simpa using h) (by omega)
    simpa using this
  · rw [if_neg d, if_neg d]
theorem tat_ok (t : Ty) (p : List Int) : dp 4 (tat t p).1 = true := by
  unfold tat
  split
  · rename_i d
    cases e : pf p t with
    | none => rfl
    | some u => exact dp_pf 4 _ _ _ d e
  · rfl
theorem rdT_dph (d : Nat) (t : Ty) (h : Dph (d + 1) t) (i : Int) : Dph d (rd_T30 t i).f0 := by
  unfold rd_T30
  rw [List.getD_eq_getElem?_getD]
  cases e : t[i.toNat]? with
  | none => exact dph_nil d
  | some x => exact h x (List.mem_of_getElem? e)
theorem pathLoop_ev (s : List Int) (hs : Bytes s) : ∀ (d : Nat) (t : Ty), d ≤ 1000 → Dph d t → ∀ (p : Int) (pre : List Int), 0 ≤ p → p + 2 * d + 3 ≤ 1099511627776 → pre.length + d ≤ 1000 →
    ∃ r u q, (∀ k, d + 3 ≤ k → spec_l71Path.l0 k pre s p t = some (r, u, q)) ∧ p ≤ q ∧ q ≤ p + 2 * d + 1 ∧ r.length ≤ pre.length + d := by
  intro d
  induction d with
  | zero =>
    intro t _ h p pre hp hp1 hl
    rw [show t = [] from h]
    refine ⟨pre, [], p, fun k hk => ?_, by omega, by omega, by omega⟩
    obtain ⟨k, rfl⟩ : ∃ m, k = m + 1 := ⟨k - 1, by omega⟩
    simp only [spec_l71Path.l0]
    rw [if_neg (by simp)]
  | succ d ih =>
    intro t hd h p pre hp hp1 hl
    by_cases h0 : (t.length : Int) > 0
    · obtain ⟨c, hc, c0, c1⟩ := pick_ev s hs p 3 hp (by omega) (by omega)
      by_cases hcp : c > 0
      · obtain ⟨i, hi, i0, i1⟩ := pick_ev s hs (p + 1) (t.length : Int) (by omega) (by omega) (by omega)
        obtain ⟨r, u, q, hr, hq, hq2, hrl⟩ := ih (rd_T30 t i).f0 (by omega) (rdT_dph _ _ h i) (p + 1 + 1) (pre ++ [i]) (by omega) (by omega) (by simp; omega)
        refine ⟨r, u, q, fun k hk => ?_, by omega, by omega, by simp at hrl; omega⟩
        obtain ⟨k, rfl⟩ : ∃ m, k = m + 1 := ⟨k - 1, by omega⟩
        simp only [spec_l71Path.l0]
        rw [if_pos h0, hc k (by omega)]; simp only [Option.bind_some]
        rw [if_pos hcp, hi k (by omega)]; simp only [Option.bind_some]
        rw [if_pos (by omega), if_pos i0, if_pos i1]
        exact hr k (by omega)
      · refine ⟨pre, t, p + 1, fun k hk => ?_, by omega, by omega, by omega⟩
        obtain ⟨k, rfl⟩ : ∃ m, k = m + 1 := ⟨k - 1, by omega⟩
        simp only [spec_l71Path.l0]
        rw [if_pos h0, hc k (by omega)]; simp only [Option.bind_some]
        rw [if_neg hcp]
    · refine ⟨pre, t, p, fun k hk => ?_, by omega, by omega, by omega⟩
      obtain ⟨k, rfl⟩ : ∃ m, k = m + 1 := ⟨k - 1, by omega⟩
      simp only [spec_l71Path.l0]
      rw [if_neg h0]
theorem any_ev (s : List Int) (hs : Bytes s) (d : Nat) (t : Ty) (hd : d ≤ 900) (h : Dph d t) (p : Int) (hp : 0 ≤ p) (hp1 : p ≤ 1099511620000) :
    ∃ r q, (∀ k, d + 4 ≤ k → spec_l71Any.f k s p t = some (r, q)) ∧ p ≤ q ∧ q ≤ p + 2 * d + 3 ∧ r.length ≤ d + 1 := by
  obtain ⟨r, u, q, hr, hq, hq2, hl⟩ := pathLoop_ev s hs d t (by omega) h p [] hp (by omega) (by simp; omega)
  simp only [List.length_nil] at hl
  obtain ⟨c, hc, c0, c1⟩ := pick_ev s hs q 6 (by omega) (by omega) (by omega)
  have hf : ∀ k, d + 4 ≤ k → spec_l71Path.f k s p t = some (r, u, q) := fun k hk => hr k (by omega)
  by_cases e : c = 0
  · obtain ⟨c', hc', _, _⟩ := pick_ev s hs (q + 1) 4 (by omega) (by omega) (by omega)
    refine ⟨r ++ [wrap64 (c' - 1)], q + 1 + 1, fun k hk => ?_, by omega, by omega, by simp; omega⟩
    unfold spec_l71Any.f
    rw [hf k hk]; simp only [Option.bind_some]
    rw [hc k (by omega)]; simp only [Option.bind_some]
    rw [if_pos e, hc' k (by omega)]; simp only [Option.bind_some]
    rw [if_pos (by omega)]
  · refine ⟨r, q + 1, fun k hk => ?_, by omega, by omega, by omega⟩
    unfold spec_l71Any.f
    rw [hf k hk]; simp only [Option.bind_some]
    rw [hc k (by omega)]; simp only [Option.bind_some]
    rw [if_neg e]
theorem drawOk_ev (l : List Int) (h : ∀ x ∈ l, (Lit.int .u8 x).wf = true) : ∃ r, (∀ k, 20 ≤ k → spec_DrawTypeOk.f k l = some r) ∧ Dph 10 r := by
  obtain ⟨s, ho, hs⟩ := open_ev l h
  obtain ⟨r, q, hr, _, _, hd⟩ := l71Deep_ev s hs 0 (by omega) (by omega)
  refine ⟨r, fun k hk => ?_, hd⟩
  unfold spec_DrawTypeOk.f
  rw [ho]; simp only [Option.bind_some]
  rw [hr k hk]; rfl
theorem drawTypeAt_ev (l : List Int) (h : ∀ x ∈ l, (Lit.int .u8 x).wf = true) : ∃ r p, (∀ k, 20 ≤ k → spec_DrawTypeAt.f k l = some (r, p)) ∧ Dph 10 r ∧ p.length ≤ 11 := by
  obtain ⟨s, ho, hs⟩ := open_ev l h
  obtain ⟨r, q, hr, hq, hq2, hd⟩ := l71Deep_ev s hs 0 (by omega) (by omega)
  obtain ⟨p, q2, hp, _, _, hl⟩ := any_ev s hs 10 r (by omega) hd q (by omega) (by omega)
  refine ⟨r, p, fun k hk => ?_, hd, by omega⟩
  unfold spec_DrawTypeAt.f
  rw [ho]; simp only [Option.bind_some]
  rw [hr k hk]; simp only [Option.bind_some]
  rw [hp k (by omega)]; rfl
end Go.Proofs.Ytjhbhihfifhljaa.Paths
end
section
set_option linter.unusedVariables false
namespace Go.Proofs.Ytjhbhihfifhljaa.ExM
open Go.RowKit Go.Proofs.Ytjhbhihfifhljaa.PA Go.Proofs.YtjhbhihfifhljaaW.PrintWords Go.Proofs.YtjhbhihfifhljaaW.PrintLast Go.Proofs.Ytjhbhihfifhljaa.Draw Go.Proofs.Ytjhbhihfifhljaa.Types Go.Proofs.Ytjhbhihfifhljaa.Paths Go.Proofs.Ytjhbhihfifhljaa.Open Go.Proofs.Ytjhbhihfifhljaa.ExT
mutual
def siz1 : S30 → Nat
  | ⟨l⟩ => siz l
def siz : List S30 → Nat
  | [] => 0
  | x :: r => 1 + siz1 x + siz r
end
theorem siz1_f0 (x : S30) : siz1 x = siz x.f0 := by cases x; rw [siz1]
theorem siz_cons (x : S30) (r : Ty) : siz (x :: r) = 1 + siz x.f0 + siz r := by rw [siz, siz1_f0]
theorem siz_len : ∀ l : Ty, l.length ≤ siz l
  | [] => by simp
  | x :: r => by rw [siz_cons, List.length_cons]; have := siz_len r; omega
theorem siz_app : ∀ l r : Ty, siz (l ++ r) = siz l + siz r
  | [], r => by rw [List.nil_append, siz]; omega
  | x :: l, r => by rw [List.cons_append, siz_cons, siz_cons, siz_app l r]; omega
theorem siz_cvl : ∀ (c : Nat) (l : Lt), cnts l ≤ c → siz (cvl l) = cnts l := by
  intro c
  induction c with
  | zero =>
    intro l h
    match l with
    | [] => rw [cvl, siz, cnts]
    | x :: r => rw [cnts_cons] at h; omega
  | succ c ih =>
    intro l h
    match l with
    | [] => rw [cvl, siz, cnts]
    | x :: r =>
      rw [cnts_cons] at h ⊢
      rw [cvl_cons, siz_cons, ih x.f0 (by omega), ih r (by omega)]
theorem siz_dp : ∀ (n : Nat) (t : Ty), dp n t = true → siz t + 2 ≤ 2 ^ (n + 1) := by
  intro n
  induction n with
  | zero => intro t h; simp [dp] at h
  | succ n ih =>
    intro t h
    rcases Types.shape t with rfl | ⟨a, b, rfl⟩ | ⟨h0, h2⟩
    · rw [siz]; have : 2 ^ 1 ≤ 2 ^ (n + 1 + 1) := Nat.pow_le_pow_right (by decide) (by omega)
      omega
    · rw [dp_two, Bool.and_eq_true] at h
      have ha := ih _ h.1
      have hb := ih _ h.2
      rw [siz_cons, siz_cons, siz, Nat.pow_succ]
      omega
    · rw [dp_odd _ _ h0 h2] at h; cases h
theorem siz_ok (t : Ty) (h : dp 4 t = true) : siz t ≤ 30 := by have := siz_dp 4 t h; omega
theorem sameLoop_ev (c : Nat) (hc : c ≤ 1048576) (IH : ∀ (l : Ty), siz l < c → ∀ k, 3 * siz l + 6 ≤ k → laws_eqTypeS.f k l l = some true) :
    ∀ (r pre : Ty) (k : Nat), siz (pre ++ r) ≤ c → 3 * siz r + 5 ≤ k → laws_eqTypeS.l0 k (pre ++ r) (pre ++ r) pre.length = some true := by
  intro r
  induction r with
  | nil =>
    intro pre k h1 hk
    obtain ⟨k, rfl⟩ : ∃ m, k = m + 1 := ⟨k - 1, by omega⟩
    simp only [laws_eqTypeS.l0]
    rw [if_neg (by simp)]
  | cons x r ih =>
    intro pre k h1 hk
    have e1 := siz_app pre (x :: r)
    rw [siz_cons] at e1 hk
    have e2 := siz_len pre
    obtain ⟨k, rfl⟩ : ∃ m, k = m + 1 := ⟨k - 1, by omega⟩
    simp only [laws_eqTypeS.l0, laws_eqType.F]
    have hlen : ((pre ++ x :: r).length : Int) = pre.length + 1 + r.length := by simp; omega
    rw [if_pos (by omega), if_pos (by omega), if_pos (by omega), rdI_mid, IH x.f0 (by omega) k (by omega)]; simp only [Option.bind_some, if_true]
    rw [w64 (by omega) (by omega)]
    have ea : pre ++ x :: r = (pre ++ [x]) ++ r := by simp
    have el : (pre.length : Int) + 1 = ((pre ++ [x]).length : Int) := by simp
    rw [el, ea]
    exact ih (pre ++ [x]) k (by rw [← ea]; exact h1) (by omega)
theorem sameS_ev : ∀ (c : Nat), c ≤ 1048576 → ∀ (l : Ty), siz l ≤ c → ∀ k, 3 * siz l + 6 ≤ k → laws_eqTypeS.f k l l = some true := by
  intro c
  induction c using Nat.strongRecOn with
  | _ c IH =>
    intro hc l hl k hk
    obtain ⟨k, rfl⟩ : ∃ m, k = m + 1 := ⟨k - 1, by omega⟩
    simp only [laws_eqTypeS.f, if_true]
    have := sameLoop_ev (siz l) (by omega) (fun l' hl' k hk => IH (siz l') (by omega) (by omega) l' (Nat.le_refl _) k hk) l [] k (by simp) (by omega)
    simpa using this
theorem same_ev (l : Ty) (h : siz l ≤ 1048576) (k : Nat) (hk : 3145740 ≤ k) : laws_eqType.f k l l = some true := by
  unfold laws_eqType.f laws_eqType.F
  rw [sameS_ev 1048576 (Nat.le_refl _) l h k (by omega)]; rfl
theorem markLoop_ev (c : Nat) (hc : c ≤ 1048576) (a : Int) (IH : ∀ (l : Ty), siz l < c → ∀ k, 3 * siz l + 6 ≤ k → laws_markTypeS.f k l a = some a) :
    ∀ (r pre : Ty) (k : Nat), siz (pre ++ r) ≤ c → 3 * siz r + 5 ≤ k → laws_markTypeS.l0 k (pre ++ r) a pre.length = some a := by
  intro r
  induction r with
  | nil =>
    intro pre k h1 hk
    obtain ⟨k, rfl⟩ : ∃ m, k = m + 1 := ⟨k - 1, by omega⟩
    simp only [laws_markTypeS.l0]
    rw [if_neg (by simp)]
  | cons x r ih =>
    intro pre k h1 hk
    have e1 := siz_app pre (x :: r)
    rw [siz_cons] at e1 hk
    have e2 := siz_len pre
    obtain ⟨k, rfl⟩ : ∃ m, k = m + 1 := ⟨k - 1, by omega⟩
    simp only [laws_markTypeS.l0]
    have hlen : ((pre ++ x :: r).length : Int) = pre.length + 1 + r.length := by simp; omega
    rw [if_pos (by omega), if_pos (by omega), rdI_mid, IH x.f0 (by omega) k (by omega)]; simp only [Option.bind_some]
    rw [w64 (by omega) (by omega)]
    have ea : pre ++ x :: r = (pre ++ [x]) ++ r := by simp
    have el : (pre.length : Int) + 1 = ((pre ++ [x]).length : Int) := by simp
    rw [el, ea]
    exact ih (pre ++ [x]) k (by rw [← ea]; exact h1) (by omega)
theorem markS_ev (a : Int) : ∀ (c : Nat), c ≤ 1048576 → ∀ (l : Ty), siz l ≤ c → ∀ k, 3 * siz l + 6 ≤ k → laws_markTypeS.f k l a = some a := by
  intro c
  induction c using Nat.strongRecOn with
  | _ c IH =>
    intro hc l hl k hk
    obtain ⟨k, rfl⟩ : ∃ m, k = m + 1 := ⟨k - 1, by omega⟩
    simp only [laws_markTypeS.f]
    have := markLoop_ev (siz l) (by omega) a (fun l' hl' k hk => IH (siz l') (by omega) (by omega) l' (Nat.le_refl _) k hk) l [] k (by simp) (by omega)
    simpa using this
theorem mark_ev (l : Ty) (a : Int) (h : siz l ≤ 1048576) (k : Nat) (hk : 3145740 ≤ k) : laws_markType.f k l a = some a := by
  unfold laws_markType.f
  rw [markS_ev a 1048576 (Nat.le_refl _) l h k (by omega)]; rfl
theorem heldLoop_ev (c : Nat) (hc : c ≤ 1048576) (a : Int) (ha : 0 ≤ a) (IH : ∀ (l : Ty), siz l < c → ∀ k, 3 * siz l + 6 ≤ k → laws_heldTypeS.f k l a = some a) :
    ∀ (r pre : Ty) (k : Nat), siz (pre ++ r) ≤ c → 3 * siz r + 5 ≤ k → laws_heldTypeS.l0 k (pre ++ r) a pre.length = some a := by
  intro r
  induction r with
  | nil =>
    intro pre k h1 hk
    obtain ⟨k, rfl⟩ : ∃ m, k = m + 1 := ⟨k - 1, by omega⟩
    simp only [laws_heldTypeS.l0]
    rw [if_neg (by simp)]
  | cons x r ih =>
    intro pre k h1 hk
    have e1 := siz_app pre (x :: r)
    rw [siz_cons] at e1 hk
    have e2 := siz_len pre
    obtain ⟨k, rfl⟩ : ∃ m, k = m + 1 := ⟨k - 1, by omega⟩
    simp only [laws_heldTypeS.l0]
    have hlen : ((pre ++ x :: r).length : Int) = pre.length + 1 + r.length := by simp; omega
    rw [if_pos (by omega), if_pos (by omega), rdI_mid, IH x.f0 (by omega) k (by omega)]; simp only [Option.bind_some]
    rw [if_neg (by omega), w64 (by omega) (by omega)]
    have ea : pre ++ x :: r = (pre ++ [x]) ++ r := by simp
    have el : (pre.length : Int) + 1 = ((pre ++ [x]).length : Int) := by simp
    rw [el, ea]
    exact ih (pre ++ [x]) k (by rw [← ea]; exact h1) (by omega)
theorem heldS_ev (a : Int) (ha : 0 ≤ a) : ∀ (c : Nat), c ≤ 1048576 → ∀ (l : Ty), siz l ≤ c → ∀ k, 3 * siz l + 6 ≤ k → laws_heldTypeS.f k l a = some a := by
  intro c
  induction c using Nat.strongRecOn with
  | _ c IH =>
    intro hc l hl k hk
    obtain ⟨k, rfl⟩ : ∃ m, k = m + 1 := ⟨k - 1, by omega⟩
    simp only [laws_heldTypeS.f]
    have := heldLoop_ev (siz l) (by omega) a ha (fun l' hl' k hk => IH (siz l') (by omega) (by omega) l' (Nat.le_refl _) k hk) l [] k (by simp) (by omega)
    simpa using this
theorem held_ev (l : Ty) (a : Int) (ha : 0 ≤ a) (h : siz l ≤ 1048576) (k : Nat) (hk : 3145740 ≤ k) : laws_heldType.f k l a = some a := by
  unfold laws_heldType.f
  rw [heldS_ev a ha 1048576 (Nat.le_refl _) l h k (by omega)]; simp only [Option.bind_some]
  rw [if_neg (by omega)]
theorem toIntsLoop_ev : ∀ (r pre : List Int) (k : Nat), pre.length + r.length ≤ 1048576 → r.length + 1 ≤ k →
    laws_toIntS.l0 k (pre ++ r) (pre ++ List.replicate r.length 0) pre.length = some (pre ++ r) := by
  intro r
  induction r with
  | nil =>
    intro pre k h1 hk
    obtain ⟨k, rfl⟩ : ∃ m, k = m + 1 := ⟨k - 1, by omega⟩
    simp only [laws_toIntS.l0]
    rw [if_neg (by simp)]; simp
  | cons x r ih =>
    intro pre k h1 hk
    simp only [List.length_cons] at h1 hk
    obtain ⟨k, rfl⟩ : ∃ m, k = m + 1 := ⟨k - 1, by omega⟩
    simp only [laws_toIntS.l0]
    have hlen : ((pre ++ x :: r).length : Int) = pre.length + 1 + r.length := by simp; omega
    rw [if_pos (by omega), if_pos (by omega), rd_mid, if_pos (by rw [List.length_append, List.length_replicate, List.length_cons]; omega), w64 (by omega) (by omega)]
    have ea : pre ++ x :: r = (pre ++ [x]) ++ r := by simp
    have el : (pre.length : Int) + 1 = ((pre ++ [x]).length : Int) := by simp
    have es : (pre ++ List.replicate (r.length + 1) (0 : Int)).set (pre.length : Int).toNat x = (pre ++ [x]) ++ List.replicate r.length 0 := by
      rw [Int.toNat_natCast, List.set_append_right _ _ (Nat.le_refl _), Nat.sub_self, List.replicate_succ, List.set_cons_zero]
      simp
    rw [List.length_cons, es, el, ea]
    exact ih (pre ++ [x]) k (by simp; omega) (by omega)
theorem toInts_ev (l : List Int) (h : l.length ≤ 1048576) (k : Nat) (hk : 1048580 ≤ k) : laws_toIntS.f k l = some l := by
  unfold laws_toIntS.f
  rw [if_pos (by omega), if_pos (by omega), Int.toNat_natCast]
  have := toIntsLoop_ev l [] k (by simpa using h) (by omega)
  simpa using this
theorem eqIntsLoop_ev : ∀ (r pre : List Int) (k : Nat), pre.length + r.length ≤ 1048576 → r.length + 1 ≤ k → laws_eqIntS.l0 k (pre ++ r) (pre ++ r) pre.length = some true := by
  intro r
  induction r with
  | nil =>
    intro pre k h1 hk
    obtain ⟨k, rfl⟩ : ∃ m, k = m + 1 := ⟨k - 1, by omega⟩
    simp only [laws_eqIntS.l0]
    rw [if_neg (by simp)]
  | cons x r ih =>
    intro pre k h1 hk
    simp only [List.length_cons] at h1 hk
    obtain ⟨k, rfl⟩ : ∃ m, k = m + 1 := ⟨k - 1, by omega⟩
    simp only [laws_eqIntS.l0, if_true]
    have hlen : ((pre ++ x :: r).length : Int) = pre.length + 1 + r.length := by simp; omega
    rw [if_pos (by omega), if_pos (by omega), if_pos (by omega), w64 (by omega) (by omega)]
    have ea : pre ++ x :: r = (pre ++ [x]) ++ r := by simp
    have el : (pre.length : Int) + 1 = ((pre ++ [x]).length : Int) := by simp
    rw [el, ea]
    exact ih (pre ++ [x]) k (by simp; omega) (by omega)
theorem eqInts_ev (l : List Int) (h : l.length ≤ 1048576) (k : Nat) (hk : 1048580 ≤ k) : laws_eqIntS.f k l l = some true := by
  unfold laws_eqIntS.f
  rw [if_pos rfl]
  have := eqIntsLoop_ev l [] k (by simpa using h) (by omega)
  simpa using this
theorem markIntsLoop_ev : ∀ (d : Nat) (l : List Int) (a i : Int) (k : Nat), 0 ≤ i → l.length = i + d → 0 ≤ a → a ≤ 1048577 + i → l.length ≤ 1048576 → d + 1 ≤ k → ∃ m, laws_markIntS.l0 k l a i = some (a + d, m) ∧ m.length = l.length := by
  intro d
  induction d with
  | zero =>
    intro l a i k h0 hl ha ha1 hm hk
    obtain ⟨k, rfl⟩ : ∃ m, k = m + 1 := ⟨k - 1, by omega⟩
    simp only [laws_markIntS.l0]
    rw [if_neg (by omega)]
    exact ⟨l, by simp, rfl⟩
  | succ d ih =>
    intro l a i k h0 hl ha ha1 hm hk
    obtain ⟨k, rfl⟩ : ∃ m, k = m + 1 := ⟨k - 1, by omega⟩
    obtain ⟨m, h1, h2⟩ := ih (l.set i.toNat a) (a + 1) (i + 1) k (by omega) (by rw [List.length_set]; omega) (by omega) (by omega) (by rw [List.length_set]; exact hm) (by omega)
    refine ⟨m, ?_, by rw [h2, List.length_set]⟩
    simp only [laws_markIntS.l0]
    rw [if_pos (by omega), if_pos h0, w64 (by omega) (by omega), w64 (by omega) (by omega), h1]
    congr 2
    omega
theorem markInts_ev (l : List Int) (h : l.length ≤ 1048576) (a : Int) (ha : 0 ≤ a) (ha1 : a ≤ 1048577) (k : Nat) (hk : 1048580 ≤ k) : ∃ m, laws_markIntS.f k l a = some (a + l.length, m) ∧ m.length = l.length := by
  unfold laws_markIntS.f
  exact markIntsLoop_ev l.length l a 0 k (by omega) (by omega) ha (by omega) h (by omega)
end Go.Proofs.Ytjhbhihfifhljaa.ExM
end
section
set_option linter.unusedSimpArgs false
set_option linter.unusedVariables false
namespace Go.Proofs.Ytjhbhihfifhljaa.Pure
open Go.RowKit Go.Proofs.Ytjhbhihfifhljaa.PA Go.Proofs.YtjhbhihfifhljaaW.PrintWords Go.Proofs.YtjhbhihfifhljaaW.PrintLast Go.Proofs.Ytjhbhihfifhljaa.Draw Go.Proofs.Ytjhbhihfifhljaa.Types Go.Proofs.Ytjhbhihfifhljaa.Paths Go.Proofs.Ytjhbhihfifhljaa.Open Go.Proofs.Ytjhbhihfifhljaa.ExT Go.Proofs.Ytjhbhihfifhljaa.ExM
theorem FnExactTypeAt (l : List S25) (hB : BdT l) (p : List Int) (hm : p.length ≤ maxLen) (hy : p.length * 8 ≤ 140737488351232) (hw : ∀ x ∈ p, (Lit.int .i64 x).wf = true) : ∃ k, laws_FnExactTypeAt.f k l p = some true := by
  obtain ⟨k, hk⟩ : ∃ k : Nat, 3145800 ≤ k := ⟨3145800, Nat.le_refl _⟩
  refine ⟨k + 3, ?_⟩
  unfold laws_FnExactTypeAt.f
  by_cases hp : (p.length : Int) > 1048576
  · rw [if_pos hp]
  rw [if_neg hp, sz_ev l hB (k + 3) (by omega)]; simp only [Option.bind_some]
  by_cases h : cnts l ≤ 1048576
  · have hs : siz (cvl l) ≤ 1048576 := by rw [siz_cvl _ l h]; exact h
    have ht := siz_ok _ (tat_ok (cvl l) p)
    rw [left_ok _ _ h, if_neg (by omega), to_ev l h (k + 3) (by omega)]; simp only [Option.bind_some]
    rw [toInts_ev p (by omega) (k + 3) (by omega)]; simp only [Option.bind_some]
    rw [specTypeAt_ev _ p (k + 3) (by omega) (by omega)]; simp only [Option.bind_some]
    rw [implTypeAt_ev _ p (k + 3) (by omega) (by omega)]; simp only [Option.bind_some]
    rw [same_ev _ (by omega) (k + 3) (by omega)]; simp only [Option.bind_some, if_true]
    have e0 : ((tat (cvl l) p).2 != (tat (cvl l) p).2) = false := by simp
    rw [e0]
    simp only [laws_FnExactTypeAt.j0]
    rw [if_neg (by simp), to_ev l h (k + 2) (by omega)]; simp only [Option.bind_some]
    rw [same_ev _ hs (k + 2) (by omega)]; simp only [Option.bind_some, if_true]
    rw [toInts_ev p (by omega) (k + 2) (by omega)]; simp only [Option.bind_some]
    rw [eqInts_ev p (by omega) (k + 2) (by omega)]; simp only [Option.bind_some, if_true]
    rw [mark_ev _ 1 hs (k + 2) (by omega)]; simp only [Option.bind_some]
    obtain ⟨m, hm1, _⟩ := markInts_ev p (by omega) 1 (by omega) (by omega) (k + 2) (by omega)
    rw [hm1]; simp only [Option.bind_some]
    rw [if_neg (by omega), same_ev _ (by omega) (k + 2) (by omega)]; simp only [Option.bind_some, if_true]
    rw [e0]
    simp only [laws_FnExactTypeAt.j1]
    rw [if_neg (by simp), mark_ev _ 1 (by omega) (k + 1) (by omega)]; simp only [Option.bind_some]
    rw [held_ev _ 1 (by omega) (by omega) (k + 1) (by omega)]; simp only [Option.bind_some, if_true]
    rw [if_neg (by omega), to_ev l h (k + 1) (by omega)]; simp only [Option.bind_some]
    rw [toInts_ev p (by omega) (k + 1) (by omega)]; simp only [Option.bind_some]
    rw [implTypeAt_ev _ p (k + 1) (by omega) (by omega)]; simp only [Option.bind_some]
    rw [same_ev _ (by omega) (k + 1) (by omega)]; simp only [Option.bind_some, if_true]
    rw [e0]
    simp only [laws_FnExactTypeAt.j2]
    rw [if_neg (by simp), held_ev _ 1 (by omega) (by omega) k (by omega)]; simp only [Option.bind_some, if_true]
    rw [if_neg (by omega)]
  · rw [left_bad _ _ (by omega)]; rfl
end Go.Proofs.Ytjhbhihfifhljaa.Pure
end
section
namespace Go.Proofs.YtjhbhihfifhljaaW.PrintWords
open Go.ChangeShapes Go.WideShapes
theorem sized_ints {H : Type} {enc : TypeId × Value → H} {P : Program} {W : World} {base : Nat} {spare : Nat → Bool} {held : Bool} {t e : TypeId} {k : IntKind} {a : Option Addr} {len cap : Nat} {d : DataW H} {ps : List MemPlace} {ts : List TypeId} {ds : List (DataW H)} {j : Nat}
    (hsz : (DataW.weightsEach P ts ds).all (· ≤ reachBytes) = true) (ht : ts[j]? = some t) (hd : ds[j]? = some d) (hu : P.underlying t = some (.slice e)) (he : P.underlying e = some (.int k)) (hc : P.cellsOf e = 1) {B : Nat} (hB : P.bytesOf e = B)
    (h : DataW.Trod enc P W base spare held t (.slice a len cap) d ps) : len * B ≤ 140737488351232 := by
  obtain ⟨fuel, hf⟩ := h
  rcases open_ints hu he hc hf with ⟨hcs, _⟩ | ⟨x, l, c, zs, hcs, _, hl, _, hz, hx, _, _⟩
  · simp [Value.cells] at hcs
    obtain ⟨rfl, rfl, rfl⟩ := hcs
    simp
  · simp [Value.cells] at hcs
    obtain ⟨rfl, rfl, rfl⟩ := hcs
    obtain ⟨hx, _⟩ := Prod.mk.inj hx
    subst hx
    have z := sized_slice hsz ht hd hu
    rw [hB] at z
    have hl2 : len ≤ zs.length := by
      rw [hz]
      split
      · exact hl
      · exact Nat.le_refl _
    have h1 : (lits (H := H) k (zs.take len)).length + (lits (H := H) k (zs.drop len)).length = zs.length := by
      simp [lits]
      omega
    rw [h1] at z
    exact Nat.le_trans (Nat.mul_le_mul_right _ hl2) z
end Go.Proofs.YtjhbhihfifhljaaW.PrintWords
end
section
namespace Go.Proofs.Ytjhbhihfifhljaa.fnExactTypeAt
open Go.ChangeShapes Go.WideShapes Go.ChangeAt Go.RowKit Go.Proofs.Ytjhbhihfifhljaa.PA Go.Proofs.Ytjhbhihfifhljaa.Open Go.Proofs.YtjhbhihfifhljaaW.PrintWords
open Go.ChangeMaps (open_string shut_string)
set_option linter.unusedVariables false
theorem own : ownKnob Try.prog.godebug = none := by kernel_rfl
theorem laidOut : laidOutB Try.prog = true := by kernel_rfl
def IsRow (k : IntKind) (w : World) (a : Option Addr) (len cap : Nat) (zs : List Int) : Prop :=
  (a = none ∧ len = 0 ∧ cap = 0 ∧ zs = []) ∨
  ∃ x, a = some x ∧ len ≤ cap ∧ cap ≤ maxLen ∧ zs.length = cap ∧ (∀ i, i < zs.length → w.cell? (x.add i) = some (.int k (zs.getD i 0))) ∧ ∀ n ∈ zs, (Lit.int k n).wf = true
set_option maxRecDepth 100000 in
theorem lifted (os : Os) (started : os.Started) (H : Type) (enc : TypeId × Value → H) :
    ReturnsInHanded {} Try.checked os 12 .any (Rows.fnExactTypeAtSpec.pre6 enc Try.prog Try.f12 Rows.fnExactTypeAtRow.domain false) (Rows.fnExactTypeAtSpec.post enc Try.prog Try.f12 false true false false) := by
  refine returnsInHanded_of_change_sized (C := Try.checked) own started (by kernel_rfl) Try.func12
    (ChangeSpec.witness6 (enc := enc) (C := Try.checked) false ⟨#[], #[.agg #[.slice none 0 0], .slice none 0 0], []⟩ 8 (by kernel_rfl) (by kernel_rfl) (by kernel_rfl) (by kernel_rfl)) ?_
  intro W base args ds gs before hval0 hW hcnd hsz0 _
  have hsz : (DataW.weightsEach Try.prog (Try.f12.params.toList ++ Rows.fnExactTypeAtSpec.plain.varTypes Try.prog) (ds ++ gs)).all (· ≤ reachBytes) = true := hsz0
  have hval : ∀ (j : Nat) t v, Try.f12.params[j]? = some t → args[j]? = some v → Value.okWide Try.prog W .any base t v := hval0
  have hW' := hW
  obtain ⟨p, q, hA0, hV, rfl, hfz, hnd⟩ := hW
  have hA : DataW.TrodAll enc Try.prog W 0 (fun _ => true) true Try.f12.params.toList args.toList ds p := hA0
  rw [Try.params12] at hA hval hsz
  obtain ⟨v0, vs0, d0, ds0, p0, q0, hargs, rfl, rfl, h0, r0⟩ := trodAll_cons hA
  obtain ⟨v1, vs1, d1, ds1, p1, q1, rfl, rfl, rfl, h1, r1⟩ := trodAll_cons r0
  obtain ⟨rfl, rfl, rfl⟩ := trodAll_nil r1
  obtain rfl : args = #[v0, v1] := by cases args; simp_all
  obtain ⟨rfl, rfl⟩ := trodVars_none hV
  have k0 := h0
  have lt0 : ∀ x ∈ p0, x.block < W.heap.size := by obtain ⟨m, hm⟩ := k0; exact DataW.trod_lt m _ _ _ hm
  obtain ⟨cs0, rfl, _⟩ := okWide_struct Try.underlying25 (hval 0 25 v0 rfl rfl)
  obtain ⟨a0, cap0, l0, rfl, c0, b0, bd0⟩ := argT h0
  have k1 := h1
  have lt1 : ∀ x ∈ p1, x.block < W.heap.size := by obtain ⟨m, hm⟩ := k1; exact DataW.trod_lt m _ _ _ hm
  obtain ⟨a1, len1, cap1, rfl⟩ := okWide_slice Try.underlying38 (hval 1 38 v1 rfl rfl)
  obtain ⟨z1, w1⟩ : ∃ zs, IsRow .i64 W a1 len1 cap1 zs := by
    obtain ⟨fuel, hf⟩ := h1
    rcases open_ints Try.underlying38 Try.underlying3 (by kernel_rfl) hf with ⟨hcs, _⟩ | ⟨x, l, c, zs, hcs, _, hl, hm, hz, _, hcell, hwz⟩
    · simp [Value.cells] at hcs
      obtain ⟨rfl, rfl, rfl⟩ := hcs
      exact ⟨[], .inl ⟨rfl, rfl, rfl, rfl⟩⟩
    · simp [Value.cells] at hcs
      obtain ⟨rfl, rfl, rfl⟩ := hcs
      exact ⟨zs, .inr ⟨_, rfl, hl, hm, by simpa using hz, hcell, hwz⟩⟩
  have y1 : len1 * 8 ≤ 140737488351232 := sized_ints hsz (j := 1) (t := 38) rfl rfl Try.underlying38 Try.underlying3 (by kernel_rfl) (by kernel_rfl) h1
  obtain ⟨l1, rfl, hr1, hm1, hw1, hc1⟩ := ReadsInt.ofRowC w1
  clear hA0 hval0 hsz0 hsz
  obtain ⟨k, hk⟩ := Pure.FnExactTypeAt l0 bd0 l1 hm1 y1 hw1
  refine (laws_FnExactTypeAt.calls k _ _ l0 _ _ l1 true W c0 b0 (Kd.C_of_reads (d := (0 : Int)) (h1 := fun _ => rfl) hr1) hc1 hk ⟨rfl⟩).mono fun e W' ⟨he, bel⟩ => ?_
  subst he
  exact ⟨_, rfl, _, _, _, [], _, [], hW', trodAll_mk1 (shut_bool Try.underlying4 _), (trodAll_cons_mk (Below.trod laidOut (by kernel_rfl) (of_decide_eq_true (by kernel_rfl)) k0 bel lt0) (trodAll_cons_mk (Below.trod laidOut (by kernel_rfl) (of_decide_eq_true (by kernel_rfl)) k1 bel lt1) trodAll_mk0)), rfl, bel.frame _, fun h => by cases h⟩
theorem over : Rows.fnExactTypeAtRow.holds Try.pinned (OpenSpec.ofChange Rows.fnExactTypeAtSpec) :=
  OpenClaim.holds_of_wide 12 Try.f12 rfl rfl rfl rfl rfl rfl rfl ⟨rfl, rfl, rfl, rfl, rfl⟩ rfl rfl rfl rfl rfl (by kernel_rfl) Try.func12 (by kernel_rfl)
    (of_decide_eq_true (by kernel_rfl)) (by unfold Func.isWrapper; first | (rw [if_pos (by decide +kernel)]; kernel_rfl) | (rw [if_neg (by decide +kernel)]; exact ⟨rfl, rfl⟩))
    (fun os started H enc _ => lifted os started H enc)
theorem proved : Rows.FnExactTypeAtSaid := over
end Go.Proofs.Ytjhbhihfifhljaa.fnExactTypeAt
namespace Go.Proofs.Ytjhbhihfifhljaa
theorem fnExactTypeAt_holds : Rows.FnExactTypeAtSaid := fnExactTypeAt.proved
end Go.Proofs.Ytjhbhihfifhljaa
end
