-- Ythfflieeifakdaa's texts for the statement FnValType, one behind the other (merge.py).
import Derived.Test.YthfflieeifakdaaQFnValType4
import Derived.Test.YthfflieeifakdaaQFnValType3
import Derived.Test.YthfflieeifakdaaQFnValType1
import Derived.SizedLaws
import Derived.ChangeSlices
import Derived.Test.YthfflieeifakdaaRows
import Derived.WalkKit
import Derived.ProofKit
import Derived.OpenShut
import Derived.ShutString
import Derived.ChangeOld
import Derived.Below
section
set_option linter.unusedVariables false
namespace Go.Proofs.Ythfflieeifakdaa.DrawV
open Go.RowKit Go.Proofs.Ythfflieeifakdaa.PA Go.Proofs.YthfflieeifakdaaW.PrintWords Go.Proofs.YthfflieeifakdaaW.PrintLast Go.Proofs.Ythfflieeifakdaa.Draw Go.Proofs.Ythfflieeifakdaa.Types Go.Proofs.Ythfflieeifakdaa.Paths Go.Proofs.Ythfflieeifakdaa.Vals
theorem dph_dp : ∀ (n : Nat) (t : Ty), dp (n + 1) t = true → Dph n t := by
  intro n
  induction n with
  | zero =>
    intro t h
    rcases Types.shape t with rfl | ⟨a, b, rfl⟩ | ⟨h0, h2⟩
    · rfl
    · rw [dp_two, Bool.and_eq_true] at h; simp [dp] at h
    · rw [dp_odd _ _ h0 h2] at h; cases h
  | succ n ih =>
    intro t h
    rcases Types.shape t with rfl | ⟨a, b, rfl⟩ | ⟨h0, h2⟩
    · exact dph_nil _
    · rw [dp_two, Bool.and_eq_true] at h
      intro x hx
      rcases List.mem_cons.1 hx with rfl | hx
      · exact ih _ h.1
      · rw [List.mem_singleton.1 hx]; exact ih _ h.2
    · rw [dp_odd _ _ h0 h2] at h; cases h
theorem drawValAt_ev (l : List Int) (h : ∀ x ∈ l, (Lit.int .u8 x).wf = true) : ∃ x v p, (∀ k, 60 ≤ k → spec_DrawValAt.f k l = some (x, v, p)) ∧ p.length ≤ 11 := by
  obtain ⟨s, ho, hs⟩ := open_ev l h
  obtain ⟨c, hc, c0, c1⟩ := pick_ev s hs 0 3 (by omega) (by omega) (by omega)
  obtain ⟨cn, rfl⟩ := Int.eq_ofNat_of_zero_le c0
  have ew : wrap64 (2 + (cn : Int)) = ((2 + cn : Nat) : Int) := by rw [w64 (by omega) (by omega)]; omega
  obtain ⟨t, q1, ht, g1, g2, d1⟩ := typeN_ev s hs (2 + cn) (by omega) (0 + 1) (by omega) (by omega)
  obtain ⟨x, v, q2, hx, g3, g4⟩ := bad_ev s hs (2 + cn + 1) (by omega) t d1 q1 (by omega) (by omega)
  obtain ⟨p, q3, hp, _, _, hl⟩ := any_ev s hs (2 + cn) t (by omega) (dph_dp _ _ d1) q2 (by omega) (by omega)
  refine ⟨x, v, p, fun k hk => ?_, by omega⟩
  unfold spec_DrawValAt.f
  rw [ho]; simp only [Option.bind_some]
  rw [hc k (by omega)]; simp only [Option.bind_some]
  rw [ew, ht k (by omega)]; simp only [Option.bind_some]
  rw [hx k (by omega)]; simp only [Option.bind_some]
  rw [hp k (by omega)]; rfl
end Go.Proofs.Ythfflieeifakdaa.DrawV
end
section
set_option linter.unusedVariables false
namespace Go.Proofs.Ythfflieeifakdaa.DrawP
open Go.RowKit Go.Proofs.Ythfflieeifakdaa.PA Go.Proofs.YthfflieeifakdaaW.PrintWords Go.Proofs.YthfflieeifakdaaW.PrintLast Go.Proofs.Ythfflieeifakdaa.Draw Go.Proofs.Ythfflieeifakdaa.Types Go.Proofs.Ythfflieeifakdaa.Paths Go.Proofs.Ythfflieeifakdaa.Vals Go.Proofs.Ythfflieeifakdaa.DrawV
theorem drawPut1_ev (s : List Int) (hs : Bytes s) (c : Nat) (hc : c ≤ 10) (t part : Ty) (p : List Int) (d : dp c t = true) (dq : dp 4 part = true) (b : Bool) (q : Int) (hq : 0 ≤ q) (hq1 : q ≤ 1099400000000) :
    ∃ x v y m, ∀ k, 50 ≤ k → spec_DrawValPut.j0 k p b s q t part = some (x, v, p, y, m) := by
  cases b with
  | true =>
    obtain ⟨u, q1, hu, g1, g2, d1⟩ := typeN_ev s hs 2 (by omega) q (by omega) (by omega)
    obtain ⟨x, v, q2, hx, g3, g4⟩ := bad_ev s hs c (by omega) t d q1 (by omega) (by omega)
    obtain ⟨y, m, q3, hy, _, _⟩ := bad_ev s hs 3 (by omega) u d1 q2 (by omega) (by omega)
    refine ⟨x, v, y, m, fun k hk => ?_⟩
    obtain ⟨k, rfl⟩ : ∃ m, k = m + 1 := ⟨k - 1, by omega⟩
    simp only [spec_DrawValPut.j0, if_true]
    have hu' := hu k (by omega)
    rw [show (((2 : Nat) : Int)) = (2 : Int) from rfl] at hu'
    rw [hu']; simp only [Option.bind_some]
    rw [hx k (by omega)]; simp only [Option.bind_some]
    rw [hy k (by omega)]; rfl
  | false =>
    obtain ⟨x, v, q2, hx, g3, g4⟩ := bad_ev s hs c (by omega) t d q (by omega) (by omega)
    obtain ⟨y, m, q3, hy, _, _⟩ := bad_ev s hs 4 (by omega) part dq q2 (by omega) (by omega)
    refine ⟨x, v, y, m, fun k hk => ?_⟩
    obtain ⟨k, rfl⟩ : ∃ m, k = m + 1 := ⟨k - 1, by omega⟩
    simp only [spec_DrawValPut.j0]
    rw [if_neg (by simp), hx k (by omega)]; simp only [Option.bind_some]
    rw [hy k (by omega)]; rfl
theorem drawValPut_ev (l : List Int) (h : ∀ x ∈ l, (Lit.int .u8 x).wf = true) : ∃ x v p y m, (∀ k, 60 ≤ k → spec_DrawValPut.f k l = some (x, v, p, y, m)) ∧ p.length ≤ 11 := by
  obtain ⟨s, ho, hs⟩ := open_ev l h
  obtain ⟨c, hc, c0, c1⟩ := pick_ev s hs 0 3 (by omega) (by omega) (by omega)
  obtain ⟨cn, rfl⟩ := Int.eq_ofNat_of_zero_le c0
  have ew : wrap64 (2 + (cn : Int)) = ((2 + cn : Nat) : Int) := by rw [w64 (by omega) (by omega)]; omega
  obtain ⟨t, q1, ht, g1, g2, d1⟩ := typeN_ev s hs (2 + cn) (by omega) (0 + 1) (by omega) (by omega)
  obtain ⟨p, q3, hp, g5, g6, hl⟩ := any_ev s hs (2 + cn) t (by omega) (dph_dp _ _ d1) q1 (by omega) (by omega)
  obtain ⟨e, he, e0, e1⟩ := pick_ev s hs q3 8 (by omega) (by omega) (by omega)
  have hd := tat_ok t p
  cases g : (tat t p).2 with
  | true =>
    obtain ⟨x, v, y, m, hj⟩ := drawPut1_ev s hs (2 + cn + 1) (by omega) t (tat t p).1 p d1 hd (e == 0) (q3 + 1) (by omega) (by omega)
    refine ⟨x, v, p, y, m, fun k hk => ?_, by omega⟩
    unfold spec_DrawValPut.f
    rw [ho]; simp only [Option.bind_some]
    rw [hc k (by omega)]; simp only [Option.bind_some]
    rw [ew, ht k (by omega)]; simp only [Option.bind_some]
    rw [hp k (by omega)]; simp only [Option.bind_some]
    rw [specTypeAt_ev t p k (by omega) (by omega)]; simp only [Option.bind_some]
    rw [if_pos g, he k (by omega)]; simp only [Option.bind_some]
    exact hj k (by omega)
  | false =>
    obtain ⟨x, v, y, m, hj⟩ := drawPut1_ev s hs (2 + cn + 1) (by omega) t (tat t p).1 p d1 hd true q3 (by omega) (by omega)
    refine ⟨x, v, p, y, m, fun k hk => ?_, by omega⟩
    unfold spec_DrawValPut.f
    rw [ho]; simp only [Option.bind_some]
    rw [hc k (by omega)]; simp only [Option.bind_some]
    rw [ew, ht k (by omega)]; simp only [Option.bind_some]
    rw [hp k (by omega)]; simp only [Option.bind_some]
    rw [specTypeAt_ev t p k (by omega) (by omega)]; simp only [Option.bind_some]
    rw [if_neg (by rw [g]; simp)]
    exact hj k (by omega)
end Go.Proofs.Ythfflieeifakdaa.DrawP
end
section
set_option linter.unusedVariables false
set_option linter.unusedSimpArgs false
namespace Go.Proofs.Ythfflieeifakdaa.PutLaws
open Go.RowKit Go.Proofs.Ythfflieeifakdaa.PA Go.Proofs.YthfflieeifakdaaW.PrintWords Go.Proofs.YthfflieeifakdaaW.PrintLast Go.Proofs.Ythfflieeifakdaa.Draw Go.Proofs.Ythfflieeifakdaa.Types Go.Proofs.Ythfflieeifakdaa.Paths Go.Proofs.Ythfflieeifakdaa.Vals Go.Proofs.Ythfflieeifakdaa.Ats Go.Proofs.Ythfflieeifakdaa.Puts
theorem vput_of {x : Int} {l : Vl} {p : List Int} {y : Int} {m : Vl} {t s : Ty} {q : Int × Vl} (h1 : vt 4 x l = some t) (h2 : pv p x l = some q) (h3 : vt 4 q.1 q.2 = some s) (h4 : vt 4 y m = some s) :
    vput x l p y m = ((wp p x l y m).1, (wp p x l y m).2, true) := by
  unfold vput
  rw [h1, h2, h4]
  simp only [h3]
  rw [if_pos (teq_refl 4 s (vt_dp _ _ _ _ h4))]
theorem vput_ok {x : Int} {l : Vl} {p : List Int} {y : Int} {m : Vl} (h : (vput x l p y m).2.2 = true) :
    ∃ t s q, vt 4 x l = some t ∧ pv p x l = some q ∧ vt 4 q.1 q.2 = some s ∧ vt 4 y m = some s := by
  unfold vput at h
  cases h1 : vt 4 x l with
  | none => rw [h1] at h; cases h
  | some t =>
    cases h2 : pv p x l with
    | none => rw [h1, h2] at h; cases h
    | some q =>
      cases h4 : vt 4 y m with
      | none => rw [h1, h2, h4] at h; cases h
      | some u =>
        rw [h1, h2, h4] at h
        obtain ⟨s, _, h3⟩ := (vt_pv 4 p x l t h1).1 q.1 q.2 h2
        simp only [h3] at h
        by_cases g : teq 4 s u = true
        · exact ⟨t, s, q, rfl, rfl, h3, by rw [teq_eq 4 s u g]⟩
        · rw [if_neg g] at h; cases h
theorem vput_no {x : Int} {l : Vl} {p : List Int} {y : Int} {m : Vl} (h : (vput x l p y m).2.2 = false) : vput x l p y m = (0, [], false) := by
  unfold vput at h ⊢
  split
  · split
    · split
      · rename_i e1 e2 e3 _ _ e4 g
        simp only [e1, e2, e3, e4] at h
        rw [if_pos g] at h; cases h
      · rfl
    · rfl
  · rfl
theorem vput_long {x : Int} {l : Vl} {p : List Int} {y : Int} {m : Vl} (h : 4 ≤ p.length) : vput x l p y m = (0, [], false) ∧ vat x l p = (0, [], false) := by
  have key : ∀ t, vt 4 x l = some t → pv p x l = none := by
    intro t ht
    cases e : pv p x l with
    | none => rfl
    | some q => have := pv_len p 4 x l t q ht e; omega
  constructor
  · cases e : (vput x l p y m).2.2 with
    | false => exact vput_no e
    | true =>
      obtain ⟨t, s, q, h1, h2, _, _⟩ := vput_ok e
      rw [key t h1] at h2; cases h2
  · unfold vat
    cases e : vt 4 x l with
    | none => rfl
    | some t => rw [key t e]; rfl
theorem nil_vt : vt 4 0 [] = some [] := rfl
theorem vput_vt (x : Int) (l : Vl) (p : List Int) (y : Int) (m : Vl) : ∃ t, vt 4 (vput x l p y m).1 (vput x l p y m).2.1 = some t := by
  cases e : (vput x l p y m).2.2 with
  | false => rw [vput_no e]; exact ⟨[], rfl⟩
  | true =>
    obtain ⟨t, s, q, h1, h2, h3, h4⟩ := vput_ok e
    rw [vput_of h1 h2 h3 h4]
    exact ⟨t, (wp_all p 4 x l t q y m s 4 h1 h2 h3 h4).1⟩
theorem vput_self (x : Int) (l : Vl) (p : List Int) (y : Int) (m : Vl) (k : Nat) (hk : 20 ≤ k) : laws_lhVal.f k (vput x l p y m).1 (vput x l p y m).2.1 (vput x l p y m).1 (vput x l p y m).2.1 = some true := by
  obtain ⟨t, ht⟩ := vput_vt x l p y m
  exact lhv_self 4 _ _ t k ht (by omega)
theorem vat_refl (x : Int) (l : Vl) (p : List Int) (k : Nat) (hk : 20 ≤ k) : laws_lhVal.f k (vat x l p).1 (vat x l p).2.1 (vat x l p).1 (vat x l p).2.1 = some true := by
  obtain ⟨t, ht⟩ := vat_vt x l p
  exact lhv_self 4 _ _ t k ht (by omega)
theorem vat_of {x : Int} {l : Vl} {p : List Int} {t : Ty} {q : Int × Vl} (h1 : vt 4 x l = some t) (h2 : pv p x l = some q) : vat x l p = (q.1, q.2, true) := by
  unfold vat; rw [h1, h2]; rfl
theorem vat_ok {x : Int} {l : Vl} {p : List Int} (h : (vat x l p).2.2 = true) : ∃ t q, vt 4 x l = some t ∧ pv p x l = some q := by
  unfold vat at h
  cases h1 : vt 4 x l with
  | none => rw [h1] at h; cases h
  | some t =>
    cases h2 : pv p x l with
    | none => rw [h1, h2] at h; cases h
    | some q => exact ⟨t, q, rfl, rfl⟩
end Go.Proofs.Ythfflieeifakdaa.PutLaws
end
section
set_option linter.unusedSimpArgs false
set_option linter.unusedVariables false
namespace Go.Proofs.Ythfflieeifakdaa.Pure
open Go.RowKit Go.Proofs.Ythfflieeifakdaa.PA Go.Proofs.YthfflieeifakdaaW.PrintWords Go.Proofs.YthfflieeifakdaaW.PrintLast Go.Proofs.Ythfflieeifakdaa.Draw Go.Proofs.Ythfflieeifakdaa.Types Go.Proofs.Ythfflieeifakdaa.Paths Go.Proofs.Ythfflieeifakdaa.Vals Go.Proofs.Ythfflieeifakdaa.Ats Go.Proofs.Ythfflieeifakdaa.DrawV Go.Proofs.Ythfflieeifakdaa.DrawP Go.Proofs.Ythfflieeifakdaa.Puts Go.Proofs.Ythfflieeifakdaa.PutLaws
theorem FnValType : laws_FnValType.Pure := by
  intro l0 _ _ h0
  obtain ⟨tt, x, v, hv⟩ := drawVal_ev l0 h0
  obtain ⟨_, _, p, y, m, ht, hl⟩ := drawValPut_ev l0 h0
  refine ⟨7000, ?_⟩
  unfold laws_FnValType.f
  split
  · rfl
  · rw [hv 7000 (by omega)]; simp only [Option.bind_some]
    rw [ht 7000 (by omega)]; simp only [Option.bind_some]
    rw [implPut_ev x v p y m 7000 (by omega) (by omega)]; simp only [Option.bind_some]
    rw [specPut_ev x v p y m 7000 (by omega) (by omega)]; simp only [Option.bind_some]
    rw [if_neg (by simp), vput_self x v p y m 7000 (by omega)]; simp only [Option.bind_some, if_true]
    rw [implValOk_ev tt x v 7000 (by omega)]; simp only [Option.bind_some]
    rw [specValOk_ev tt x v 7000 (by omega)]; simp only [Option.bind_some]
    simp only [laws_FnValType.j0]
    rw [if_neg (by simp)]
    cases e : (vput x v p y m).2.2 with
    | false => rfl
    | true =>
      obtain ⟨t, s, q, h1, h2, h3, h4⟩ := vput_ok e
      have w := wp_all p 4 x v t q y m s 4 h1 h2 h3 h4
      rw [if_pos rfl, vput_of h1 h2 h3 h4]; simp only
      rw [implValOk_ev tt _ _ 6999 (by omega)]; simp only [Option.bind_some]
      rw [implValOk_ev tt x v 6999 (by omega)]; simp only [Option.bind_some]
      have : vo tt (wp p x v y m).1 (wp p x v y m).2 = vo tt x v := by
        rw [Bool.eq_iff_iff, vo_iff, vo_iff, w.1, h1]
      rw [this]; simp
end Go.Proofs.Ythfflieeifakdaa.Pure
end
section
namespace Go.Proofs.YthfflieeifakdaaW.PrintWords
open Go.ChangeShapes Go.WideShapes
theorem sized_ints {H : Type} {enc : TypeId × Value → H} {P : Program} {W : World} {base : Nat} {spare : Nat → Bool} {held : Bool} {t e : TypeId} {k : IntKind} {a : Option Addr} {len cap : Nat} {d : DataW H} {ps : List MemPlace} {ts : List TypeId} {ds : List (DataW H)} {j : Nat}
    (hsz : (DataW.weightsEach P ts ds).all (· ≤ reachBytes) = true) (ht : ts[j]? = some t) (hd : ds[j]? = some d) (hu : P.underlying t = some (.slice e)) (he : P.underlying e = some (.int k)) (hc : P.cellsOf e = 1) {B : Nat} (hB : P.bytesOf e = B)
    (h : DataW.Trod enc P W base spare held t (.slice a len cap) d ps) : len * B ≤ 140737488351232 := by
  obtain ⟨fuel, hf⟩ := h
  rcases open_ints hu he hc hf with ⟨hcs, _⟩ | ⟨x, l, c, zs, hcs, _, hl, _, hz, hx, _, _⟩
  · simp [Value.cells] at hcs
    obtain ⟨rfl, rfl, rfl⟩ := hcs
    simp
  · simp [Value.cells] at hcs
    obtain ⟨rfl, rfl, rfl⟩ := hcs
    obtain ⟨hx, _⟩ := Prod.mk.inj hx
    subst hx
    have z := sized_slice hsz ht hd hu
    rw [hB] at z
    have hl2 : len ≤ zs.length := by
      rw [hz]
      split
      · exact hl
      · exact Nat.le_refl _
    have h1 : (lits (H := H) k (zs.take len)).length + (lits (H := H) k (zs.drop len)).length = zs.length := by
      simp [lits]
      omega
    rw [h1] at z
    exact Nat.le_trans (Nat.mul_le_mul_right _ hl2) z
end Go.Proofs.YthfflieeifakdaaW.PrintWords
end
section
namespace Go.Proofs.Ythfflieeifakdaa.fnValType
open Go.ChangeShapes Go.WideShapes Go.ChangeAt Go.RowKit
open Go.ChangeMaps (open_string shut_string)
set_option linter.unusedVariables false
theorem own : ownKnob Try.prog.godebug = none := by kernel_rfl
theorem laidOut : laidOutB Try.prog = true := by kernel_rfl
def IsRow (k : IntKind) (w : World) (a : Option Addr) (len cap : Nat) (zs : List Int) : Prop :=
  (a = none ∧ len = 0 ∧ cap = 0 ∧ zs = []) ∨
  ∃ x, a = some x ∧ len ≤ cap ∧ cap ≤ maxLen ∧ zs.length = cap ∧ (∀ i, i < zs.length → w.cell? (x.add i) = some (.int k (zs.getD i 0))) ∧ ∀ n ∈ zs, (Lit.int k n).wf = true
set_option maxRecDepth 100000 in
theorem lifted (os : Os) (started : os.Started) (H : Type) (enc : TypeId × Value → H) :
    ReturnsInHanded {} Try.checked os 11 .any (Rows.fnValTypeSpec.pre6 enc Try.prog Try.f11 Rows.fnValTypeRow.domain false) (Rows.fnValTypeSpec.post enc Try.prog Try.f11 false true false false) := by
  refine returnsInHanded_of_change_sized (C := Try.checked) own started (by kernel_rfl) Try.func11
    (ChangeSpec.witness6 (enc := enc) (C := Try.checked) false ⟨#[], #[.slice none 0 0], []⟩ 8 (by kernel_rfl) (by kernel_rfl) (by kernel_rfl) (by kernel_rfl)) ?_
  intro W base args ds gs before hval0 hW hcnd hsz0 _
  have hsz : (DataW.weightsEach Try.prog (Try.f11.params.toList ++ Rows.fnValTypeSpec.plain.varTypes Try.prog) (ds ++ gs)).all (· ≤ reachBytes) = true := hsz0
  have hval : ∀ (j : Nat) t v, Try.f11.params[j]? = some t → args[j]? = some v → Value.okWide Try.prog W .any base t v := hval0
  have hW' := hW
  obtain ⟨p, q, hA0, hV, rfl, hfz, hnd⟩ := hW
  have hA : DataW.TrodAll enc Try.prog W 0 (fun _ => true) true Try.f11.params.toList args.toList ds p := hA0
  rw [Try.params11] at hA hval hsz
  obtain ⟨v0, vs0, d0, ds0, p0, q0, hargs, rfl, rfl, h0, r0⟩ := trodAll_cons hA
  obtain ⟨rfl, rfl, rfl⟩ := trodAll_nil r0
  obtain rfl : args = #[v0] := by cases args; simp_all
  obtain ⟨rfl, rfl⟩ := trodVars_none hV
  obtain ⟨a0, len0, cap0, rfl⟩ := okWide_slice Try.underlying22 (hval 0 22 v0 rfl rfl)
  have k0 := h0
  have lt0 : ∀ x ∈ p0, x.block < W.heap.size := by obtain ⟨m, hm⟩ := k0; exact DataW.trod_lt m _ _ _ hm
  obtain ⟨z0, w0⟩ : ∃ zs, IsRow .u8 W a0 len0 cap0 zs := by
    obtain ⟨fuel, hf⟩ := h0
    rcases open_ints Try.underlying22 Try.underlying5 (by kernel_rfl) hf with ⟨hcs, _⟩ | ⟨x, l, c, zs, hcs, _, hl, hm, hz, _, hcell, hwz⟩
    · simp [Value.cells] at hcs
      obtain ⟨rfl, rfl, rfl⟩ := hcs
      exact ⟨[], .inl ⟨rfl, rfl, rfl, rfl⟩⟩
    · simp [Value.cells] at hcs
      obtain ⟨rfl, rfl, rfl⟩ := hcs
      exact ⟨zs, .inr ⟨_, rfl, hl, hm, by simpa using hz, hcell, hwz⟩⟩
  have y0 : len0 * 1 ≤ 140737488351232 := Go.Proofs.YthfflieeifakdaaW.PrintWords.sized_ints hsz (j := 0) (t := 22) rfl rfl Try.underlying22 Try.underlying5 (by kernel_rfl) (by kernel_rfl) h0
  clear hA0 hval0 hsz0 hsz
  refine (PA.laws_FnValType.walk Pure.FnValType a0 len0 cap0 z0 W w0 y0).mono fun e W' ⟨he, bel⟩ => ?_
  subst he
  exact ⟨_, rfl, _, _, _, [], _, [], hW', trodAll_mk1 (shut_bool Try.underlying4 _), (trodAll_cons_mk (Below.trod laidOut (by kernel_rfl) (of_decide_eq_true (by kernel_rfl)) k0 bel lt0) trodAll_mk0), rfl, bel.frame _, fun h => by cases h⟩
theorem over : Rows.fnValTypeRow.holds Try.pinned (OpenSpec.ofChange Rows.fnValTypeSpec) :=
  OpenClaim.holds_of_wide 11 Try.f11 rfl rfl rfl rfl rfl rfl rfl ⟨rfl, rfl, rfl, rfl, rfl⟩ rfl rfl rfl rfl rfl (by kernel_rfl) Try.func11 (by kernel_rfl)
    (of_decide_eq_true (by kernel_rfl)) (by unfold Func.isWrapper; first | (rw [if_pos (by decide +kernel)]; kernel_rfl) | (rw [if_neg (by decide +kernel)]; exact ⟨rfl, rfl⟩))
    (fun os started H enc _ => lifted os started H enc)
theorem proved : Rows.FnValTypeSaid := over
#print axioms proved
end Go.Proofs.Ythfflieeifakdaa.fnValType
namespace Go.Proofs.Ythfflieeifakdaa
theorem fnValType_holds : Rows.FnValTypeSaid := fnValType.proved
end Go.Proofs.Ythfflieeifakdaa
end
