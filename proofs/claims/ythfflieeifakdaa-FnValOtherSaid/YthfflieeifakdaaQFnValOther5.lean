-- Ythfflieeifakdaa's texts for the statement FnValOther, one behind the other (merge.py).
import Derived.Test.YthfflieeifakdaaQFnValOther4
import Derived.Test.YthfflieeifakdaaQFnValOther0
import Derived.Test.YthfflieeifakdaaQFnValOther2
import Derived.Test.YthfflieeifakdaaQFnValOther3
import Derived.Test.YthfflieeifakdaaQFnValOther1
import Derived.SizedLaws
import Derived.ChangeSlices
import Derived.Test.YthfflieeifakdaaRows
import Derived.WalkKit
import Derived.ProofKit
import Derived.OpenShut
import Derived.ShutString
import Derived.ChangeOld
import Derived.Below
section
set_option linter.unusedVariables false
namespace Go.Proofs.Ythfflieeifakdaa.Vals
open Go.RowKit Go.Proofs.Ythfflieeifakdaa.PA Go.Proofs.YthfflieeifakdaaW.PrintWords Go.Proofs.YthfflieeifakdaaW.PrintLast Go.Proofs.Ythfflieeifakdaa.Draw Go.Proofs.Ythfflieeifakdaa.Types Go.Proofs.Ythfflieeifakdaa.Paths
abbrev Vl := List S25
theorem rv0 (a : S25) (l : Vl) : rd_T25 (a :: l) 0 = a := rfl
theorem rv1 (a b : S25) (l : Vl) : rd_T25 (a :: b :: l) 1 = b := rfl
theorem shapeV (l : Vl) : l = [] ∨ (∃ a b, l = [a, b]) ∨ (l.length ≠ 0 ∧ l.length ≠ 2) := by
  match l with
  | [] => exact .inl rfl
  | [_] => exact .inr (.inr ⟨by simp, by simp⟩)
  | [a, b] => exact .inr (.inl ⟨a, b, rfl⟩)
  | _ :: _ :: _ :: _ => exact .inr (.inr ⟨by simp, by simp⟩)
def vt : Nat → Int → Vl → Option Ty
  | 0, _, _ => none
  | _ + 1, x, [] => if 0 ≤ x ∧ x ≤ 9999 then some [] else none
  | n + 1, x, [a, b] => if x = 0 then (vt n a.f0 a.f1).bind fun s => (vt n b.f0 b.f1).bind fun t => some [⟨s⟩, ⟨t⟩] else none
  | _ + 1, _, _ => none
theorem vt_nil (n : Nat) (x : Int) : vt (n + 1) x [] = if 0 ≤ x ∧ x ≤ 9999 then some [] else none := rfl
theorem vt_two (n : Nat) (x : Int) (a b : S25) : vt (n + 1) x [a, b] = if x = 0 then (vt n a.f0 a.f1).bind fun s => (vt n b.f0 b.f1).bind fun t => some [⟨s⟩, ⟨t⟩] else none := rfl
theorem vt_odd (n : Nat) (x : Int) (l : Vl) (h0 : l.length ≠ 0) (h2 : l.length ≠ 2) : vt n x l = none := by
  cases n with
  | zero => rfl
  | succ n =>
    match l with
    | [] => simp at h0
    | [_] => rfl
    | [_, _] => simp at h2
    | _ :: _ :: _ :: _ => rfl
theorem vt_cases {n : Nat} {x : Int} {l : Vl} {t : Ty} (h : vt (n + 1) x l = some t) :
    (l = [] ∧ t = [] ∧ 0 ≤ x ∧ x ≤ 9999) ∨ ∃ a b s u, l = [a, b] ∧ x = 0 ∧ t = [⟨s⟩, ⟨u⟩] ∧ vt n a.f0 a.f1 = some s ∧ vt n b.f0 b.f1 = some u := by
  rcases shapeV l with rfl | ⟨a, b, rfl⟩ | ⟨h0, h2⟩
  · rw [vt_nil] at h
    split at h
    · rename_i hx
      cases h
      exact .inl ⟨rfl, rfl, hx.1, hx.2⟩
    · cases h
  · rw [vt_two] at h
    split at h
    · rename_i hx
      cases e1 : vt n a.f0 a.f1 with
      | none => rw [e1] at h; cases h
      | some s =>
        cases e2 : vt n b.f0 b.f1 with
        | none => rw [e1, e2] at h; cases h
        | some u =>
          rw [e1, e2] at h
          cases h
          exact .inr ⟨a, b, s, u, rfl, hx, rfl, e1, e2⟩
    · cases h
  · rw [vt_odd _ _ _ h0 h2] at h; cases h
theorem vt_dp : ∀ (n : Nat) (x : Int) (l : Vl) (t : Ty), vt n x l = some t → dp n t = true := by
  intro n
  induction n with
  | zero => intro x l t h; cases h
  | succ n ih =>
    intro x l t h
    rcases vt_cases h with ⟨_, rfl, _, _⟩ | ⟨a, b, s, u, _, _, rfl, h1, h2⟩
    · rfl
    · rw [dp_two, ih _ _ _ h1, ih _ _ _ h2]; rfl
theorem vt_succ : ∀ (n : Nat) (x : Int) (l : Vl) (t : Ty), vt n x l = some t → vt (n + 1) x l = some t := by
  intro n
  induction n with
  | zero => intro x l t h; cases h
  | succ n ih =>
    intro x l t h
    rcases vt_cases h with ⟨rfl, rfl, h0, h1⟩ | ⟨a, b, s, u, rfl, rfl, rfl, h1, h2⟩
    · rw [vt_nil, if_pos ⟨h0, h1⟩]
    · rw [vt_two, if_pos rfl, ih _ _ _ h1, ih _ _ _ h2]; rfl
theorem valType_ev : ∀ (n : Nat), n ≤ 1000 → ∀ (x : Int) (l : Vl) (k : Nat), 2 * n + 2 ≤ k → impl_valType.f k x l n = some (at_ (vt n x l)) := by
  intro n
  induction n with
  | zero =>
    intro _ x l k hk
    obtain ⟨k, rfl⟩ : ∃ m, k = m + 1 := ⟨k - 1, by omega⟩
    simp only [impl_valType.f]
    rw [if_pos (by omega)]; rfl
  | succ n ih =>
    intro hn x l k hk
    obtain ⟨k, rfl⟩ : ∃ m, k = m + 2 := ⟨k - 2, by omega⟩
    have hp := pred_cast n (by omega)
    simp only [impl_valType.f]
    rw [if_neg (by omega)]
    rcases shapeV l with rfl | ⟨a, b, rfl⟩ | ⟨h0, h2⟩
    · rw [if_pos (by simp), vt_nil]
      by_cases h0 : x ≥ 0
      · rw [if_pos h0]
        by_cases h9 : x ≤ 9999
        · rw [if_pos ⟨h0, h9⟩, decide_eq_true h9]; rfl
        · rw [if_neg (fun h => h9 h.2), decide_eq_false h9]; rfl
      · rw [if_neg h0, if_neg (fun h => h0 h.1)]; rfl
    · rw [if_neg (by simp), if_pos (by simp), vt_two]
      simp only [impl_valType.j0, hp, rv0, rv1]
      by_cases hx : x = 0
      · rw [if_neg (by simp [hx]), if_pos (by simp), if_pos hx, ih (by omega) _ _ _ (by omega)]; simp only [Option.bind_some]
        rw [if_pos (by simp), ih (by omega) _ _ _ (by omega)]; simp only [Option.bind_some]
        cases vt n a.f0 a.f1 with
        | none => rfl
        | some s =>
          cases vt n b.f0 b.f1 with
          | none => rfl
          | some u => rfl
      · rw [if_pos (by simpa using hx), if_neg hx]; rfl
    · rw [if_neg (by omega), if_neg (by omega), vt_odd _ _ _ h0 h2]
      simp only [impl_valType.j0, if_true]; rfl
theorem typed_ev (x : Int) (l : Vl) (k : Nat) (hk : 10 ≤ k) : impl_valTyped.f k x l = some (at_ (vt 4 x l)) := by
  unfold impl_valTyped.f
  rw [show (4 : Int) = ((4 : Nat) : Int) from rfl, valType_ev 4 (by omega) x l k (by omega)]; rfl
theorem same_ev : ∀ (n : Nat) (a b : Ty) (k : Nat), dp n a = true → dp n b = true → 4 * n ≤ k → impl_typeSame.f k a b = some (teq n a b) := by
  intro n
  induction n with
  | zero => intro a b k h; simp [dp] at h
  | succ n ih =>
    intro a b k ha hb hk
    obtain ⟨k, rfl⟩ : ∃ m, k = m + 4 := ⟨k - 4, by omega⟩
    simp only [impl_typeSame.f]
    rcases Types.shape a with rfl | ⟨a1, a2, rfl⟩ | ⟨h0, h2⟩
    · rcases Types.shape b with rfl | ⟨b1, b2, rfl⟩ | ⟨h0, h2⟩
      · rw [if_pos rfl]; simp only [impl_typeSame.l0]; rw [if_neg (by simp)]; rfl
      · rw [if_neg (by simp)]; rfl
      · rw [dp_odd _ _ h0 h2] at hb; cases hb
    · rcases Types.shape b with rfl | ⟨b1, b2, rfl⟩ | ⟨h0, h2⟩
      · rw [if_neg (by simp)]; rfl
      · rw [dp_two, Bool.and_eq_true] at ha hb
        rw [if_pos (by simp)]
        simp only [impl_typeSame.l0, w01, w12]
        rw [if_pos (by simp), if_pos (by omega), if_pos (by simp), if_pos (by simp), rd0, rd0, ih _ _ _ ha.1 hb.1 (by omega)]
        simp only [Option.bind_some]
        have e : teq (n + 1) [a1, a2] [b1, b2] = (teq n a1.f0 b1.f0 && teq n a2.f0 b2.f0) := rfl
        rw [e]
        cases h1 : teq n a1.f0 b1.f0 with
        | false => simp
        | true =>
          rw [if_pos rfl, if_pos (by simp), if_pos (by omega), if_pos (by simp), if_pos (by simp), rd1, rd1, ih _ _ _ ha.2 hb.2 (by omega)]
          simp only [Option.bind_some]
          cases h2 : teq n a2.f0 b2.f0 with
          | false => simp
          | true => rw [if_pos rfl, if_neg (by simp)]; rfl
      · rw [dp_odd _ _ h0 h2] at hb; cases hb
    · rw [dp_odd _ _ h0 h2] at ha; cases ha
def vm (n : Nat) (t : Ty) (x : Int) (l : Vl) : Bool := match vt n x l with | some s => teq n s t | none => false
def vo (t : Ty) (x : Int) (l : Vl) : Bool := dp 4 t && vm 4 t x l
theorem implValOk_ev (t : Ty) (x : Int) (l : Vl) (k : Nat) (hk : 20 ≤ k) : impl_ValOk.f k t x l = some (vo t x l) := by
  unfold impl_ValOk.f vo vm
  rw [implOk_ev t k (by omega)]; simp only [Option.bind_some]
  cases d : dp 4 t with
  | false => rfl
  | true =>
    simp only [if_true, Bool.true_and]
    rw [typed_ev x l k (by omega)]; simp only [Option.bind_some]
    cases e : vt 4 x l with
    | none => rfl
    | some s =>
      simp only [at_, if_true]
      rw [same_ev 4 s t k (vt_dp _ _ _ _ e) d (by omega)]; rfl
theorem vm_two (n : Nat) (x : Int) (a b : S50) (c d : S25) : vm (n + 1) [a, b] x [c, d] = ((x == 0) && (vm n a.f0 c.f0 c.f1 && vm n b.f0 d.f0 d.f1)) := by
  unfold vm
  rw [vt_two]
  by_cases hx : x = 0
  · rw [if_pos hx, beq_iff_eq.2 hx]
    cases vt n c.f0 c.f1 with
    | none => rfl
    | some s =>
      cases vt n d.f0 d.f1 with
      | none => simp
      | some u => rfl
  · rw [if_neg hx, beq_eq_false_iff_ne.2 hx]; rfl
theorem l1Val_ev : ∀ (n : Nat) (t : Ty) (x : Int) (l : Vl) (k : Nat), dp n t = true → 5 * n ≤ k → spec_l1Val.f k t x l = some (vm n t x l) := by
  intro n
  induction n with
  | zero => intro t x l k h; simp [dp] at h
  | succ n ih =>
    intro t x l k h hk
    obtain ⟨k, rfl⟩ : ∃ m, k = m + 5 := ⟨k - 5, by omega⟩
    simp only [spec_l1Val.f, spec_l6In.f]
    have bad : ∀ m t x l, spec_l1Val.j0 (m + 1) true t x l = some false := fun m t x l => by simp only [spec_l1Val.j0, if_true]
    rcases Types.shape t with rfl | ⟨a, b, rfl⟩ | ⟨h0, h2⟩
    · rcases shapeV l with rfl | ⟨c, d, rfl⟩ | ⟨g0, g2⟩
      · rw [if_pos (by simp), if_neg (by simp)]
        simp only [vm, vt_nil]
        by_cases hx : x ≥ 0
        · rw [if_pos hx]; simp only [Option.bind_some]
          by_cases h9 : x ≤ 9999
          · rw [decide_eq_true h9, if_pos ⟨hx, h9⟩]
            simp only [spec_l1Val.j0, spec_l1Val.l0, Bool.not_true]
            rw [if_neg (by simp), if_neg (by simp)]; rfl
          · rw [decide_eq_false h9, if_neg (fun h => h9 h.2)]
            exact bad _ _ _ _
        · rw [if_neg hx, if_neg (fun h => hx h.1)]; simp only [Option.bind_some]
          exact bad _ _ _ _
      · rw [if_neg (by simp), bad]
        simp only [vm]
        cases e : vt (n + 1) x [c, d] with
        | none => rfl
        | some s =>
          rcases vt_cases e with ⟨h, _⟩ | ⟨_, _, s, u, _, _, rfl, _, _⟩
          · cases h
          · rfl
      · rw [if_neg (by simp; simpa using g0), bad]
        simp only [vm, vt_odd _ _ _ g0 g2]
    · rcases shapeV l with rfl | ⟨c, d, rfl⟩ | ⟨g0, g2⟩
      · rw [if_neg (by simp), bad]
        simp only [vm, vt_nil]
        split
        · rename_i h; split at h
          · cases h; rfl
          · cases h
        · rfl
      · rw [if_pos (by simp), if_pos (by simp), vm_two]
        by_cases hx : x = 0
        · rw [if_pos hx, if_pos (by omega)]; simp only [Option.bind_some]
          rw [decide_eq_true (by omega)]
          rw [dp_two, Bool.and_eq_true] at h
          simp only [spec_l1Val.j0, spec_l1Val.l0, Bool.not_true, w01, w12]
          rw [if_neg (by simp), if_pos (by simp), if_pos (by omega), if_pos (by simp), rd0, rv0, ih _ _ _ _ h.1 (by omega)]; simp only [Option.bind_some]
          rw [beq_iff_eq.2 hx, Bool.true_and]
          cases e1 : vm n a.f0 c.f0 c.f1 with
          | false => rw [if_neg (by simp)]; rfl
          | true =>
            rw [if_pos rfl, if_pos (by simp), if_pos (by omega), if_pos (by simp), rd1, rv1, ih _ _ _ _ h.2 (by omega)]; simp only [Option.bind_some]
            cases e2 : vm n b.f0 d.f0 d.f1 with
            | false => rw [if_neg (by simp)]; rfl
            | true => rw [if_pos rfl, if_neg (by simp)]; rfl
        · rw [if_neg hx, bad, beq_eq_false_iff_ne.2 hx]; rfl
      · rw [if_neg (by simp; omega), bad]
        simp only [vm, vt_odd _ _ _ g0 g2]
    · rw [dp_odd _ _ h0 h2] at h; cases h
theorem specValOk_ev (t : Ty) (x : Int) (l : Vl) (k : Nat) (hk : 23 ≤ k) : spec_ValOk.f k t x l = some (vo t x l) := by
  unfold spec_ValOk.f vo
  rw [specOk_ev t k (by omega)]; simp only [Option.bind_some]
  cases d : dp 4 t with
  | false => rfl
  | true =>
    simp only [if_true, Bool.true_and]
    rw [l1Val_ev 4 t x l k d (by omega)]; rfl
theorem teq_self (t u : Ty) (n : Nat) (ht : dp n t = true) (hu : dp n u = true) : teq n t u = teq n u t := by
  cases e : teq n t u with
  | true => rw [teq_eq _ _ _ e, teq_refl _ _ hu]
  | false =>
    cases e2 : teq n u t with
    | true => rw [teq_eq _ _ _ e2, teq_refl _ _ ht] at e; cases e
    | false => rfl
theorem vo_iff (t : Ty) (x : Int) (l : Vl) : vo t x l = true ↔ vt 4 x l = some t := by
  unfold vo vm
  constructor
  · intro h
    rw [Bool.and_eq_true] at h
    cases e : vt 4 x l with
    | none => rw [e] at h; cases h.2
    | some s => rw [e] at h; rw [teq_eq _ _ _ h.2]
  · intro h
    have d := vt_dp _ _ _ _ h
    rw [h, d]
    exact teq_refl 4 t d
def pv : List Int → Int → Vl → Option (Int × Vl)
  | [], x, l => some (x, l)
  | i :: r, _, [a, b] => if i = 0 then pv r a.f0 a.f1 else if i = 1 then pv r b.f0 b.f1 else none
  | _ :: _, _, _ => none
theorem pv_nil (x : Int) (l : Vl) : pv [] x l = some (x, l) := by cases l <;> rfl
theorem pv_two (i : Int) (r : List Int) (x : Int) (a b : S25) : pv (i :: r) x [a, b] = if i = 0 then pv r a.f0 a.f1 else if i = 1 then pv r b.f0 b.f1 else none := rfl
theorem pv_odd (i : Int) (r : List Int) (x : Int) (l : Vl) (h : l.length ≠ 2) : pv (i :: r) x l = none := by
  match l with
  | [] => rfl
  | [_] => rfl
  | [_, _] => simp at h
  | _ :: _ :: _ :: _ => rfl
theorem pv_app (p q : List Int) : ∀ x l, pv (p ++ q) x l = (pv p x l).bind fun r => pv q r.1 r.2 := by
  induction p with
  | nil => intro x l; rw [List.nil_append, pv_nil]; rfl
  | cons i r ih =>
    intro x l
    by_cases h : l.length = 2
    · rcases shapeV l with rfl | ⟨a, b, rfl⟩ | ⟨_, h2⟩
      · simp at h
      · rw [List.cons_append, pv_two, pv_two]
        split
        · exact ih _ _
        · split
          · exact ih _ _
          · rfl
      · exact absurd h h2
    · rw [List.cons_append, pv_odd _ _ _ _ h, pv_odd _ _ _ _ h]; rfl
theorem vt_pv (n : Nat) : ∀ (p : List Int) (x : Int) (l : Vl) (t : Ty), vt n x l = some t →
    (∀ y m, pv p x l = some (y, m) → ∃ u, pf p t = some u ∧ vt n y m = some u) ∧ (pv p x l = none → pf p t = none) := by
  intro p
  induction p with
  | nil =>
    intro x l t h
    rw [pv_nil]
    exact ⟨fun y m e => by cases e; exact ⟨t, pf_nil t, h⟩, fun e => by cases e⟩
  | cons i r ih =>
    intro x l t h
    cases n with
    | zero => cases h
    | succ n =>
      rcases vt_cases h with ⟨rfl, rfl, _, _⟩ | ⟨a, b, s, u, rfl, rfl, rfl, h1, h2⟩
      · exact ⟨fun y m e => (by cases e), fun _ => rfl⟩
      · rw [pv_two, pf_two]
        by_cases h0 : i = 0
        · rw [if_pos h0, if_pos h0]; exact ih _ _ _ (vt_succ _ _ _ _ h1)
        · rw [if_neg h0, if_neg h0]
          by_cases h3 : i = 1
          · rw [if_pos h3, if_pos h3]; exact ih _ _ _ (vt_succ _ _ _ _ h2)
          · rw [if_neg h3, if_neg h3]; exact ⟨fun y m e => (by cases e), fun _ => rfl⟩
def av (o : Option (Int × Vl)) : Int × Vl × Bool := match o with | some r => (r.1, r.2, true) | none => (0, [], false)
theorem valLoop_ev : ∀ (r pre : List Int) (x : Int) (l : Vl) (k : Nat), pre.length + r.length ≤ 4611686018427387904 → r.length + 1 ≤ k →
    impl_Val.l0 k (pre ++ r) ((pre ++ r).length : Int) (pre.length : Int) x l = some (av (pv r x l)) := by
  intro r
  induction r with
  | nil =>
    intro pre x l k h1 hk
    obtain ⟨k, rfl⟩ : ∃ m, k = m + 1 := ⟨k - 1, by simp at hk; omega⟩
    simp only [impl_Val.l0]
    rw [if_neg (by simp), pv_nil]; rfl
  | cons i r ih =>
    intro pre x l k h1 hk
    simp only [List.length_cons] at h1 hk
    obtain ⟨k, rfl⟩ : ∃ m, k = m + 1 := ⟨k - 1, by omega⟩
    simp only [impl_Val.l0, impl_Val_parts.f, Option.bind_some]
    have hl : ((pre ++ i :: r).length : Int) = pre.length + 1 + r.length := by simp; omega
    rw [if_pos (by omega), if_pos (by omega), if_pos (by omega), rd_mid]
    rcases shapeV l with rfl | ⟨a, b, rfl⟩ | ⟨_, h2⟩
    · rw [if_neg (by simp), pv_odd _ _ _ _ (by simp)]; rfl
    · rw [if_pos (by simp), pv_two]
      by_cases hn : i < 0
      · rw [if_pos hn, if_neg (by omega), if_neg (by omega)]; rfl
      · rw [if_neg hn]
        by_cases hb : i > 1
        · rw [if_pos hb, if_neg (by omega), if_neg (by omega)]; rfl
        · rw [if_neg hb, if_pos (by omega), if_pos (by simp; omega), w64 (by omega) (by omega)]
          have ea : pre ++ i :: r = (pre ++ [i]) ++ r := by simp
          have el : (pre.length : Int) + 1 = ((pre ++ [i]).length : Int) := by simp
          rw [el, ea]
          by_cases h0 : i = 0
          · rw [if_pos h0, ih _ _ _ _ (by simp; omega) (by omega), h0, rv0]
          · rw [if_neg h0, if_pos (by omega), ih _ _ _ _ (by simp; omega) (by omega), show i = 1 by omega, rv1]
    · rw [if_neg (by omega), pv_odd _ _ _ _ h2]; rfl
theorem implVal_ev (x : Int) (l : Vl) (p : List Int) (k : Nat) (h : p.length ≤ 4611686018427387904) (hk : p.length + 1 ≤ k) : impl_Val.f k x l p = some (av (pv p x l)) := by
  unfold impl_Val.f
  have := valLoop_ev p [] x l k (by simpa using h) hk
  simpa using this
theorem valCopy_ev : ∀ (n : Nat) (x : Int) (l : Vl) (t : Ty) (k : Nat), vt n x l = some t → n ≤ k → impl_valCopy.f k x l = some (x, l) := by
  intro n
  induction n with
  | zero => intro x l t k h; cases h
  | succ n ih =>
    intro x l t k h hk
    obtain ⟨k, rfl⟩ : ∃ m, k = m + 1 := ⟨k - 1, by omega⟩
    simp only [impl_valCopy.f]
    rcases vt_cases h with ⟨rfl, rfl, _, _⟩ | ⟨a, b, s, u, rfl, rfl, rfl, h1, h2⟩
    · rw [if_pos (by simp)]
    · rw [if_neg (by simp), if_pos (by simp), rv0, ih _ _ _ _ h1 (by omega)]; simp only [Option.bind_some]
      rw [if_pos (by simp), rv1, ih _ _ _ _ h2 (by omega)]; simp only [Option.bind_some]
      cases a; cases b; rfl
def vat (x : Int) (l : Vl) (p : List Int) : Int × Vl × Bool := if (vt 4 x l).isSome = true then av (pv p x l) else (0, [], false)
theorem implValAt_ev (x : Int) (l : Vl) (p : List Int) (k : Nat) (h : p.length ≤ 4611686018427387904) (hk : p.length + 20 ≤ k) : impl_ValAt.f k x l p = some (vat x l p) := by
  unfold impl_ValAt.f vat
  rw [typed_ev x l k (by omega)]; simp only [Option.bind_some]
  cases e : vt 4 x l with
  | none => rfl
  | some t =>
    simp only [at_, if_true, Option.isSome_some]
    rw [implVal_ev x l p k h (by omega)]; simp only [Option.bind_some]
    cases e2 : pv p x l with
    | none => rfl
    | some r =>
      obtain ⟨u, _, hu⟩ := (vt_pv 4 p x l t e).1 r.1 r.2 e2
      simp only [av, if_true]
      rw [valCopy_ev 4 r.1 r.2 u k hu (by omega)]; rfl
theorem type_dp (s : List Int) : ∀ (k d : Nat) (p : Int) (r : Ty) (q : Int), d ≤ 1000 → spec_l71Type.f k s p d = some (r, q) → dp (d + 1) r = true := by
  intro k
  induction k using Nat.strongRecOn with
  | _ k ih =>
    intro d p r q hd h
    match k, ih, h with
    | 0, _, h => simp [spec_l71Type.f] at h
    | 1, _, h =>
      simp only [spec_l71Type.f] at h
      split at h
      · simp [spec_l71Type.j0] at h
      · cases e : spec_l6Rd_pick.f 0 s p 3 with
        | none => rw [e] at h; cases h
        | some c => rw [e] at h; simp [spec_l71Type.j0] at h
    | k + 2, ih, h =>
      simp only [spec_l71Type.f] at h
      split at h
      · simp only [spec_l71Type.j0, if_true] at h
        cases h; rfl
      · rename_i h2
        cases e : spec_l6Rd_pick.f (k + 1) s p 3 with
        | none => rw [e] at h; cases h
        | some c =>
          rw [e] at h
          simp only [Option.bind_some, spec_l71Type.j0] at h
          split at h
          · cases h; rfl
          · obtain ⟨d, rfl⟩ : ∃ m, d = m + 1 := ⟨d - 1, by omega⟩
            have ew : wrap64 (((d + 1 : Nat) : Int) - 1) = (d : Int) := pred_cast d (by omega)
            rw [ew] at h
            cases e1 : spec_l71Type.f k s c.2 d with
            | none => rw [e1] at h; cases h
            | some a =>
              rw [e1] at h
              simp only [Option.bind_some] at h
              cases e2 : spec_l71Type.f k s a.2 d with
              | none => rw [e2] at h; cases h
              | some b =>
                rw [e2] at h
                cases h
                rw [dp_two, ih k (by omega) d _ a.1 a.2 (by omega) e1, ih k (by omega) d _ b.1 b.2 (by omega) e2]; rfl
theorem val_ev (s : List Int) (hs : Bytes s) : ∀ (n : Nat) (t : Ty) (p : Int), dp n t = true → 0 ≤ p → p + 2 ^ n ≤ 1099511000000 →
    ∃ x l q, (∀ k, n + 3 ≤ k → spec_l71Val.f k s p t = some (x, l, q)) ∧ p ≤ q ∧ q ≤ p + 2 ^ n ∧ l.length ≤ 2 := by
  intro n
  induction n with
  | zero => intro t p h; simp [dp] at h
  | succ n ih =>
    intro t p h hp hp1
    have hpow : (2 : Int) ^ (n + 1) = 2 ^ n + 2 ^ n := by rw [Int.pow_succ]; omega
    have hpos : (1 : Int) ≤ 2 ^ n := by have := Int.pow_pos (n := 2) (m := n) (by decide); omega
    rw [hpow] at hp1 ⊢
    generalize (2 : Int) ^ n = e at *
    rcases Types.shape t with rfl | ⟨a, b, rfl⟩ | ⟨h0, h2⟩
    · obtain ⟨c, hc, c0, c1⟩ := pick_ev s hs p 7 hp (by omega) (by omega)
      refine ⟨rd [0, 1, 2, 3, 7, 50, 9999] c, [], p + 1, fun k hk => ?_, by omega, by omega, by simp⟩
      obtain ⟨k, rfl⟩ : ∃ m, k = m + 1 := ⟨k - 1, by omega⟩
      simp only [spec_l71Val.f]
      rw [if_pos (by simp)]; simp only [Option.bind_some]
      rw [hc k (by omega)]; simp only [Option.bind_some]
      rw [if_pos c0, if_pos (by simp; omega)]
    · rw [dp_two, Bool.and_eq_true] at h
      obtain ⟨x1, l1, q1, h1, g1, g2, _⟩ := ih a.f0 p h.1 hp (by omega)
      obtain ⟨x2, l2, q2, h3, g3, g4, _⟩ := ih b.f0 q1 h.2 (by omega) (by omega)
      refine ⟨0, [⟨x1, l1⟩, ⟨x2, l2⟩], q2, fun k hk => ?_, by omega, by omega, by simp⟩
      obtain ⟨k, rfl⟩ : ∃ m, k = m + 1 := ⟨k - 1, by omega⟩
      simp only [spec_l71Val.f]
      rw [if_neg (by simp), if_pos (by simp), rd0, h1 k (by omega)]; simp only [Option.bind_some]
      rw [if_pos (by simp), rd1, h3 k (by omega)]; rfl
    · rw [dp_odd _ _ h0 h2] at h; cases h
theorem badLoop_ev (s : List Int) (p : Int) : ∀ (d i : Nat), i + d = 5 → ∀ (x : Int) (l : Vl), ∃ y m, ∀ k, d + 1 ≤ k → spec_l71Bad.l0 k i s p x l = some (y, m, p) := by
  intro d
  induction d with
  | zero =>
    intro i hi x l
    refine ⟨x, l, fun k hk => ?_⟩
    obtain ⟨k, rfl⟩ : ∃ m, k = m + 1 := ⟨k - 1, by omega⟩
    simp only [spec_l71Bad.l0]
    rw [if_neg (by omega)]
  | succ d ih =>
    intro i hi x l
    obtain ⟨y, m, h⟩ := ih (i + 1) (by omega) 0 [⟨x, l⟩, ⟨0, []⟩]
    refine ⟨y, m, fun k hk => ?_⟩
    obtain ⟨k, rfl⟩ : ∃ m, k = m + 1 := ⟨k - 1, by omega⟩
    simp only [spec_l71Bad.l0]
    rw [if_pos (by omega), w64 (by omega) (by omega)]
    exact h k (by omega)
theorem pow20 (n : Nat) (hn : n ≤ 20) : (2 : Int) ^ n ≤ 1048576 := by
  have h : (2 : Nat) ^ n ≤ 2 ^ 20 := Nat.pow_le_pow_right (by decide) hn
  have e : (2 : Nat) ^ 20 = 1048576 := rfl
  rw [e] at h
  have := Int.ofNat_le.2 h
  rwa [Int.natCast_pow] at this
theorem bad_ev (s : List Int) (hs : Bytes s) (n : Nat) (hn : n ≤ 20) (t : Ty) (d : dp n t = true) (p : Int) (hp : 0 ≤ p) (hp1 : p ≤ 1099500000000) :
    ∃ x l q, (∀ k, n + 12 ≤ k → spec_l71Bad.f k s p t = some (x, l, q)) ∧ p ≤ q ∧ q ≤ p + 1048578 := by
  have hmax := pow20 n hn
  obtain ⟨x, l, q, hv, g1, g2, hl⟩ := val_ev s hs n t p d hp (by omega)
  generalize (2 : Int) ^ n = e at *
  obtain ⟨c, hc, c0, c1⟩ := pick_ev s hs q 12 (by omega) (by omega) (by omega)
  by_cases e0 : c = 0
  · obtain ⟨c', hc', c0', c1'⟩ := pick_ev s hs (q + 1) 4 (by omega) (by omega) (by omega)
    refine ⟨rd [(-1), 1, 9999, 10000] c', l, q + 1 + 1, fun k hk => ?_, by omega, by omega⟩
    unfold spec_l71Bad.f
    rw [hv k (by omega)]; simp only [Option.bind_some]
    rw [hc k (by omega)]; simp only [Option.bind_some]
    rw [if_pos e0, hc' k (by omega)]; simp only [Option.bind_some]
    rw [if_pos c0', if_pos (by simp; omega)]
  · by_cases e1 : c = 1
    · refine ⟨x, l ++ [⟨0, []⟩], q + 1, fun k hk => ?_, by omega, by omega⟩
      unfold spec_l71Bad.f
      rw [hv k (by omega)]; simp only [Option.bind_some]
      rw [hc k (by omega)]; simp only [Option.bind_some]
      rw [if_neg e0, if_pos e1, if_pos (by omega)]
    · by_cases e2 : c = 2
      · obtain ⟨y, m, hm⟩ := badLoop_ev s (q + 1) 5 0 rfl x l
        refine ⟨y, m, q + 1, fun k hk => ?_, by omega, by omega⟩
        unfold spec_l71Bad.f
        rw [hv k (by omega)]; simp only [Option.bind_some]
        rw [hc k (by omega)]; simp only [Option.bind_some]
        rw [if_neg e0, if_neg e1, if_pos e2]
        exact hm k (by omega)
      · refine ⟨x, l, q + 1, fun k hk => ?_, by omega, by omega⟩
        unfold spec_l71Bad.f
        rw [hv k (by omega)]; simp only [Option.bind_some]
        rw [hc k (by omega)]; simp only [Option.bind_some]
        rw [if_neg e0, if_neg e1, if_neg e2]
theorem typeN_ev (s : List Int) (hs : Bytes s) (d : Nat) (hd : d ≤ 20) (p : Int) (hp : 0 ≤ p) (hp1 : p ≤ 1099500000000) :
    ∃ r q, (∀ k, 3 * d + 4 ≤ k → spec_l71Type.f k s p d = some (r, q)) ∧ p ≤ q ∧ q ≤ p + 1048576 ∧ dp (d + 1) r = true := by
  have hmax := pow20 d hd
  obtain ⟨r, q, hr, _, h1, h2, _⟩ := type_ev s hs d (by omega) p hp (by omega)
  exact ⟨r, q, hr, h1, by omega, type_dp s _ d p r q (by omega) (hr (3 * d + 4) (Nat.le_refl _))⟩
theorem drawVal_ev (l : List Int) (h : ∀ x ∈ l, (Lit.int .u8 x).wf = true) : ∃ t x v, ∀ k, 60 ≤ k → spec_DrawValOk.f k l = some (t, x, v) := by
  obtain ⟨s, ho, hs⟩ := open_ev l h
  obtain ⟨c, hc, c0, c1⟩ := pick_ev s hs 0 4 (by omega) (by omega) (by omega)
  obtain ⟨cn, rfl⟩ := Int.eq_ofNat_of_zero_le c0
  have ew : wrap64 (1 + (cn : Int)) = ((1 + cn : Nat) : Int) := by rw [w64 (by omega) (by omega)]; omega
  obtain ⟨t, q1, ht, g1, g2, d1⟩ := typeN_ev s hs (1 + cn) (by omega) (0 + 1) (by omega) (by omega)
  obtain ⟨c', hc', c0', c1'⟩ := pick_ev s hs q1 5 (by omega) (by omega) (by omega)
  by_cases e : c' = 0
  · obtain ⟨t2, q2, ht2, g3, g4, d2⟩ := typeN_ev s hs 3 (by omega) (q1 + 1) (by omega) (by omega)
    obtain ⟨x, v, q3, hx, _, _⟩ := bad_ev s hs 4 (by omega) t2 d2 q2 (by omega) (by omega)
    refine ⟨t, x, v, fun k hk => ?_⟩
    unfold spec_DrawValOk.f
    rw [ho]; simp only [Option.bind_some]
    rw [hc k (by omega)]; simp only [Option.bind_some]
    rw [ew, ht k (by omega)]; simp only [Option.bind_some]
    rw [hc' k (by omega)]; simp only [Option.bind_some]
    rw [if_pos e, show (3 : Int) = ((3 : Nat) : Int) from rfl, ht2 k (by omega)]; simp only [Option.bind_some]
    rw [hx k (by omega)]; rfl
  · obtain ⟨x, v, q3, hx, _, _⟩ := bad_ev s hs (1 + cn + 1) (by omega) t d1 (q1 + 1) (by omega) (by omega)
    refine ⟨t, x, v, fun k hk => ?_⟩
    unfold spec_DrawValOk.f
    rw [ho]; simp only [Option.bind_some]
    rw [hc k (by omega)]; simp only [Option.bind_some]
    rw [ew, ht k (by omega)]; simp only [Option.bind_some]
    rw [hc' k (by omega)]; simp only [Option.bind_some]
    rw [if_neg e, hx k (by omega)]; rfl
end Go.Proofs.Ythfflieeifakdaa.Vals
end
section
set_option linter.unusedVariables false
set_option linter.unusedSimpArgs false
namespace Go.Proofs.Ythfflieeifakdaa.Ats
open Go.RowKit Go.Proofs.Ythfflieeifakdaa.PA Go.Proofs.YthfflieeifakdaaW.PrintWords Go.Proofs.YthfflieeifakdaaW.PrintLast Go.Proofs.Ythfflieeifakdaa.Draw Go.Proofs.Ythfflieeifakdaa.Types Go.Proofs.Ythfflieeifakdaa.Paths Go.Proofs.Ythfflieeifakdaa.Vals
def st : Nat → Vl → Option Ty
  | 0, _ => none
  | _ + 1, [] => some []
  | n + 1, [a, b] => (st n a.f1).bind fun s => (st n b.f1).bind fun t => some [⟨s⟩, ⟨t⟩]
  | _ + 1, _ => none
theorem st_nil (n : Nat) : st (n + 1) [] = some [] := rfl
theorem st_two (n : Nat) (a b : S25) : st (n + 1) [a, b] = (st n a.f1).bind fun s => (st n b.f1).bind fun t => some [⟨s⟩, ⟨t⟩] := rfl
theorem st_odd (n : Nat) (l : Vl) (h0 : l.length ≠ 0) (h2 : l.length ≠ 2) : st n l = none := by
  cases n with
  | zero => rfl
  | succ n =>
    match l with
    | [] => simp at h0
    | [_] => rfl
    | [_, _] => simp at h2
    | _ :: _ :: _ :: _ => rfl
theorem st_vt : ∀ (n : Nat) (x : Int) (l : Vl) (t : Ty), vt n x l = some t → st n l = some t := by
  intro n
  induction n with
  | zero => intro x l t h; cases h
  | succ n ih =>
    intro x l t h
    rcases vt_cases h with ⟨rfl, rfl, _, _⟩ | ⟨a, b, s, u, rfl, rfl, rfl, h1, h2⟩
    · rfl
    · rw [st_two, ih _ _ _ h1, ih _ _ _ h2]; rfl
theorem of_ev : ∀ (n : Nat), n ≤ 1000 → ∀ (x : Int) (l : Vl) (k : Nat), 5 * n + 3 ≤ k →
    (∀ t, st n l = some t → spec_l1Of.f k x l n = some (t, true)) ∧ (st n l = none → ∃ t, spec_l1Of.f k x l n = some (t, false)) := by
  intro n
  induction n with
  | zero =>
    intro _ x l k hk
    obtain ⟨k, rfl⟩ : ∃ m, k = m + 2 := ⟨k - 2, by omega⟩
    refine ⟨fun t h => (by cases h), fun _ => ⟨[], ?_⟩⟩
    simp only [spec_l1Of.f]
    rw [if_pos (by omega)]
    simp only [spec_l1Of.j0, if_true]
  | succ n ih =>
    intro hn x l k hk
    obtain ⟨k, rfl⟩ : ∃ m, k = m + 5 := ⟨k - 5, by omega⟩
    have hp := pred_cast n (by omega)
    simp only [spec_l1Of.f]
    rw [if_neg (by omega)]
    rcases shapeV l with rfl | ⟨a, b, rfl⟩ | ⟨h0, h2⟩
    · rw [if_pos (by simp)]
      refine ⟨fun t h => ?_, fun h => (by cases h)⟩
      cases h
      simp only [spec_l1Of.j0, spec_l1Of.l0]
      rw [if_neg (by simp), if_neg (by simp)]
    · rw [if_neg (by simp), show ((([a, b] : Vl).length : Int) != 2) = false from by simp]
      simp only [spec_l1Of.j0, spec_l1Of.l0, hp, w01, w12]
      rw [if_neg (by simp), if_pos (by simp), if_pos (by omega), rv0, st_two]
      have i1 := ih (by omega) a.f0 a.f1 (k + 2) (by omega)
      cases e1 : st n a.f1 with
      | none =>
        obtain ⟨t, h1⟩ := i1.2 e1
        rw [h1]; simp only [Option.bind_some]
        exact ⟨fun t h => (by cases h), fun _ => ⟨[], by rw [if_neg (by simp)]⟩⟩
      | some s =>
        rw [i1.1 s e1]; simp only [Option.bind_some, if_true]
        rw [if_pos (by simp), if_pos (by simp), if_pos (by omega), rv1]
        have i2 := ih (by omega) b.f0 b.f1 (k + 1) (by omega)
        cases e2 : st n b.f1 with
        | none =>
          obtain ⟨t, h1⟩ := i2.2 e2
          rw [h1]; simp only [Option.bind_some]
          exact ⟨fun t h => (by cases h), fun _ => ⟨_, by rw [if_neg (by simp)]⟩⟩
        | some u =>
          rw [i2.1 u e2]; simp only [Option.bind_some, if_true]
          rw [if_pos (by simp), if_neg (by simp)]
          exact ⟨fun t h => (by cases h; rfl), fun h => (by cases h)⟩
    · rw [if_neg (by omega), show ((l.length : Int) != 2) = true from by simp; omega]
      refine ⟨fun t h => (by rw [st_odd _ _ h0 h2] at h; cases h), fun _ => ⟨[], ?_⟩⟩
      simp only [spec_l1Of.j0, if_true]
theorem any_ok (x : Int) (l : Vl) (k : Nat) (hk : 25 ≤ k) : spec_l1Any.f k x l = some (vt 4 x l).isSome := by
  unfold spec_l1Any.f
  rw [show (4 : Int) = ((4 : Nat) : Int) from rfl]
  have h := of_ev 4 (by omega) x l k (by omega)
  cases e : st 4 l with
  | none =>
    obtain ⟨t, h1⟩ := h.2 e
    rw [h1]; simp only [Option.bind_some]
    rw [if_neg (by simp)]
    cases e2 : vt 4 x l with
    | none => rfl
    | some t => rw [st_vt _ _ _ _ e2] at e; cases e
  | some t =>
    rw [h.1 t e]; simp only [Option.bind_some, if_true]
    rw [specValOk_ev t x l k (by omega)]; simp only [Option.bind_some]
    cases e2 : vt 4 x l with
    | none =>
      cases e3 : vo t x l with
      | false => rfl
      | true => rw [(vo_iff t x l).1 e3] at e2; cases e2
    | some u =>
      have := st_vt _ _ _ _ e2
      rw [e] at this
      cases this
      rw [(vo_iff t x l).2 e2]; rfl
theorem anew_ev : ∀ (n : Nat) (x : Int) (l : Vl) (t : Ty) (k : Nat), vt n x l = some t → 4 * n ≤ k → spec_l1Anew.f k x l = some (x, l) := by
  intro n
  induction n with
  | zero => intro x l t k h; cases h
  | succ n ih =>
    intro x l t k h hk
    obtain ⟨k, rfl⟩ : ∃ m, k = m + 4 := ⟨k - 4, by omega⟩
    simp only [spec_l1Anew.f]
    rcases vt_cases h with ⟨rfl, rfl, _, _⟩ | ⟨a, b, s, u, rfl, rfl, rfl, h1, h2⟩
    · simp only [spec_l1Anew.l0]; rw [if_neg (by simp)]
    · simp only [spec_l1Anew.l0, w01, w12]
      rw [if_pos (by simp), if_pos (by omega), rv0, ih _ _ _ _ h1 (by omega)]; simp only [Option.bind_some]
      rw [if_pos (by simp), if_pos (by simp), if_pos (by omega), rv1, ih _ _ _ _ h2 (by omega)]; simp only [Option.bind_some]
      rw [if_pos (by simp), if_neg (by simp)]
      cases a; cases b; rfl
theorem specVLoop_ev (n : Nat) : ∀ (r pre : List Int) (x : Int) (l : Vl) (t : Ty) (k : Nat), vt n x l = some t → pre.length + r.length ≤ 4611686018427387904 → r.length + 4 * n + 1 ≤ k →
    spec_ValAt.l0 k (pre ++ r) (pre.length : Int) x l = some (av (pv r x l)) := by
  intro r
  induction r with
  | nil =>
    intro pre x l t k h h1 hk
    obtain ⟨k, rfl⟩ : ∃ m, k = m + 1 := ⟨k - 1, by omega⟩
    simp only [List.length_nil] at hk
    simp only [spec_ValAt.l0]
    rw [if_neg (by simp), anew_ev n x l t k h (by omega), pv_nil]; rfl
  | cons i r ih =>
    intro pre x l t k h h1 hk
    simp only [List.length_cons] at h1 hk
    obtain ⟨k, rfl⟩ : ∃ m, k = m + 1 := ⟨k - 1, by omega⟩
    simp only [spec_ValAt.l0, spec_l6In.f]
    have hl : ((pre ++ i :: r).length : Int) = pre.length + 1 + r.length := by simp; omega
    rw [if_pos (by omega), if_pos (by omega), rd_mid]
    cases n with
    | zero => cases h
    | succ n =>
      rcases vt_cases h with ⟨rfl, rfl, _, _⟩ | ⟨a, b, s, u, rfl, rfl, rfl, g1, g2⟩
      · rw [pv_odd _ _ _ _ (by simp), show wrap64 ((([] : Vl).length : Int) - 1) = -1 from w64 (by simp) (by simp)]
        by_cases hn : i ≥ 0
        · rw [if_pos hn]; simp only [Option.bind_some]; rw [if_neg (by simp; omega)]; rfl
        · rw [if_neg hn]; rfl
      · rw [pv_two, show wrap64 ((([a, b] : Vl).length : Int) - 1) = 1 from w64 (by simp) (by simp)]
        by_cases hn : i ≥ 0
        · rw [if_pos hn]; simp only [Option.bind_some]
          by_cases hb : i ≤ 1
          · rw [if_pos (by simpa using hb), if_pos (by omega), if_pos (by simp; omega), w64 (by omega) (by omega)]
            have ea : pre ++ i :: r = (pre ++ [i]) ++ r := by simp
            have el : (pre.length : Int) + 1 = ((pre ++ [i]).length : Int) := by simp
            rw [el, ea]
            by_cases h0 : i = 0
            · rw [if_pos h0, h0, rv0, ih _ _ _ _ _ (vt_succ _ _ _ _ g1) (by simp; omega) (by omega)]
            · rw [if_neg h0, if_pos (by omega), show i = 1 by omega, rv1, ih _ _ _ _ _ (vt_succ _ _ _ _ g2) (by simp; omega) (by omega)]
          · rw [if_neg (by simpa using hb), if_neg (by omega), if_neg (by omega)]; rfl
        · rw [if_neg hn, if_neg (show ¬ i = 0 by omega), if_neg (show ¬ i = 1 by omega)]; rfl
theorem specValAt_ev (x : Int) (l : Vl) (p : List Int) (k : Nat) (h : p.length ≤ 4611686018427387904) (hk : p.length + 30 ≤ k) : spec_ValAt.f k x l p = some (vat x l p) := by
  unfold spec_ValAt.f vat
  rw [any_ok x l k (by omega)]; simp only [Option.bind_some]
  cases e : vt 4 x l with
  | none => rfl
  | some t =>
    simp only [Option.isSome_some, if_true]
    have := specVLoop_ev 4 p [] x l t k e (by simpa using h) (by omega)
    simpa using this
theorem vat_vt (x : Int) (l : Vl) (p : List Int) : ∃ t, vt 4 (vat x l p).1 (vat x l p).2.1 = some t := by
  unfold vat
  cases e : vt 4 x l with
  | none => exact ⟨[], rfl⟩
  | some t =>
    simp only [Option.isSome_some, if_true]
    cases e2 : pv p x l with
    | none => exact ⟨[], rfl⟩
    | some r =>
      obtain ⟨u, _, hu⟩ := (vt_pv 4 p x l t e).1 r.1 r.2 e2
      exact ⟨u, hu⟩
theorem lhv_self : ∀ (n : Nat) (x : Int) (l : Vl) (t : Ty) (k : Nat), vt n x l = some t → 5 * n ≤ k → laws_lhVal.f k x l x l = some true := by
  intro n
  induction n with
  | zero => intro x l t k h; cases h
  | succ n ih =>
    intro x l t k h hk
    obtain ⟨k, rfl⟩ : ∃ m, k = m + 5 := ⟨k - 5, by omega⟩
    simp only [laws_lhVal.f, if_true]
    rw [show ((l.length : Int) != (l.length : Int)) = false from by simp]
    rcases vt_cases h with ⟨rfl, rfl, _, _⟩ | ⟨a, b, s, u, rfl, rfl, rfl, h1, h2⟩
    · simp only [laws_lhVal.j0, laws_lhVal.l0]; rw [if_neg (by simp), if_neg (by simp)]
    · simp only [laws_lhVal.j0, laws_lhVal.l0, w01, w12]
      rw [if_neg (by simp), if_pos (by simp), if_pos (by omega), if_pos (by simp), rv0, ih _ _ _ _ h1 (by omega)]; simp only [Option.bind_some, if_true]
      rw [if_pos (by simp), if_pos (by omega), if_pos (by simp), rv1, ih _ _ _ _ h2 (by omega)]; simp only [Option.bind_some, if_true]
      rw [if_neg (by simp)]
end Go.Proofs.Ythfflieeifakdaa.Ats
end
section
set_option linter.unusedVariables false
set_option linter.unusedSimpArgs false
namespace Go.Proofs.Ythfflieeifakdaa.Puts
open Go.RowKit Go.Proofs.Ythfflieeifakdaa.PA Go.Proofs.YthfflieeifakdaaW.PrintWords Go.Proofs.YthfflieeifakdaaW.PrintLast Go.Proofs.Ythfflieeifakdaa.Draw Go.Proofs.Ythfflieeifakdaa.Types Go.Proofs.Ythfflieeifakdaa.Paths Go.Proofs.Ythfflieeifakdaa.Vals Go.Proofs.Ythfflieeifakdaa.Ats
def wp : List Int → Int → Vl → Int → Vl → Int × Vl
  | [], _, _, y, m => (y, m)
  | i :: r, _, [a, b], y, m => if i = 0 then (0, [⟨(wp r a.f0 a.f1 y m).1, (wp r a.f0 a.f1 y m).2⟩, b]) else (0, [a, ⟨(wp r b.f0 b.f1 y m).1, (wp r b.f0 b.f1 y m).2⟩])
  | _ :: _, x, l, _, _ => (x, l)
theorem wp_nil (x : Int) (l : Vl) (y : Int) (m : Vl) : wp [] x l y m = (y, m) := by cases l <;> rfl
theorem wp_two (i : Int) (r : List Int) (x : Int) (a b : S25) (y : Int) (m : Vl) : wp (i :: r) x [a, b] y m = if i = 0 then (0, [⟨(wp r a.f0 a.f1 y m).1, (wp r a.f0 a.f1 y m).2⟩, b]) else (0, [a, ⟨(wp r b.f0 b.f1 y m).1, (wp r b.f0 b.f1 y m).2⟩]) := rfl
theorem vt_le (n m : Nat) (h : n ≤ m) (x : Int) (l : Vl) (t : Ty) (e : vt n x l = some t) : vt m x l = some t := by
  induction m with
  | zero => obtain rfl : n = 0 := by omega
            exact e
  | succ m ih =>
    by_cases g : n = m + 1
    · subst g; exact e
    · exact vt_succ _ _ _ _ (ih (by omega))
theorem vt_same {n m : Nat} {x : Int} {l : Vl} {t u : Ty} (h : vt n x l = some t) (g : vt m x l = some u) : t = u := by
  have h1 := vt_le n (max n m) (Nat.le_max_left _ _) x l t h
  have h2 := vt_le m (max n m) (Nat.le_max_right _ _) x l u g
  rw [h1] at h2
  cases h2; rfl
theorem vt_low : ∀ (m n : Nat) (x : Int) (l : Vl) (t : Ty), vt n x l = some t → dp m t = true → vt m x l = some t := by
  intro m
  induction m with
  | zero => intro n x l t _ h; simp [dp] at h
  | succ m ih =>
    intro n x l t h d
    cases n with
    | zero => cases h
    | succ n =>
      rcases vt_cases h with ⟨rfl, rfl, h0, h1⟩ | ⟨a, b, s, u, rfl, rfl, rfl, h1, h2⟩
      · rw [vt_nil, if_pos ⟨h0, h1⟩]
      · rw [dp_two, Bool.and_eq_true] at d
        rw [vt_two, if_pos rfl, ih _ _ _ _ h1 d.1, ih _ _ _ _ h2 d.2]; rfl
theorem wp_all : ∀ (p : List Int) (n : Nat) (x : Int) (l : Vl) (t : Ty) (q : Int × Vl) (y : Int) (m : Vl) (s : Ty) (N : Nat), vt n x l = some t → pv p x l = some q → vt N q.1 q.2 = some s → vt N y m = some s →
    vt n (wp p x l y m).1 (wp p x l y m).2 = some t ∧ pv p (wp p x l y m).1 (wp p x l y m).2 = some (y, m) ∧ wp p (wp p x l y m).1 (wp p x l y m).2 q.1 q.2 = (x, l) ∧ wp p x l q.1 q.2 = (x, l) := by
  intro p
  induction p with
  | nil =>
    intro n x l t q y m s N h e hq hy
    rw [pv_nil] at e
    cases e
    have := vt_same h hq
    subst this
    simp only [wp_nil, pv_nil]
    exact ⟨vt_low _ _ _ _ _ hy (vt_dp _ _ _ _ h), by trivial, by trivial, by trivial⟩
  | cons i r ih =>
    intro n x l t q y m s N h e hq hy
    cases n with
    | zero => cases h
    | succ n =>
      rcases vt_cases h with ⟨rfl, rfl, _, _⟩ | ⟨a, b, s1, u1, rfl, rfl, rfl, h1, h2⟩
      · cases e
      · rw [pv_two] at e
        rw [wp_two, wp_two]
        by_cases h0 : i = 0
        · rw [if_pos h0] at e
          rw [if_pos h0, if_pos h0]
          obtain ⟨g1, g2, g3, g4⟩ := ih n a.f0 a.f1 s1 q y m s N h1 e hq hy
          refine ⟨?_, ?_, ?_, ?_⟩
          · rw [vt_two, if_pos rfl, g1, h2]; rfl
          · rw [pv_two, if_pos h0]; exact g2
          · rw [wp_two, if_pos h0]; simp only [g3]; cases a; rfl
          · simp only [g4]; cases a; rfl
        · rw [if_neg h0] at e
          by_cases h3 : i = 1
          · rw [if_pos h3] at e
            rw [if_neg h0, if_neg h0]
            obtain ⟨g1, g2, g3, g4⟩ := ih n b.f0 b.f1 u1 q y m s N h2 e hq hy
            refine ⟨?_, ?_, ?_, ?_⟩
            · rw [vt_two, if_pos rfl, g1, h1]; rfl
            · rw [pv_two, if_neg h0, if_pos h3]; exact g2
            · rw [wp_two, if_neg h0]; simp only [g3]; cases b; rfl
            · simp only [g4]; cases b; rfl
          · rw [if_neg h3] at e; cases e
theorem pv_len : ∀ (p : List Int) (n : Nat) (x : Int) (l : Vl) (t : Ty) (q : Int × Vl), vt n x l = some t → pv p x l = some q → p.length < n := by
  intro p
  induction p with
  | nil => intro n x l t q h _; cases n with
    | zero => cases h
    | succ n => simp
  | cons i r ih =>
    intro n x l t q h e
    cases n with
    | zero => cases h
    | succ n =>
      rcases vt_cases h with ⟨rfl, rfl, _, _⟩ | ⟨a, b, s1, u1, rfl, rfl, rfl, h1, h2⟩
      · cases e
      · rw [pv_two] at e
        split at e
        · have := ih n _ _ _ _ h1 e; simp; omega
        · split at e
          · have := ih n _ _ _ _ h2 e; simp; omega
          · cases e
theorem valWith_ev : ∀ (p : List Int) (n : Nat) (x : Int) (l : Vl) (t : Ty) (q : Int × Vl) (y : Int) (m : Vl) (u : Ty) (k : Nat), vt n x l = some t → pv p x l = some q → vt 4 y m = some u → 5 * p.length + n + 8 ≤ k →
    impl_valWith.f k x l p y m = some (wp p x l y m) := by
  intro p
  induction p with
  | nil =>
    intro n x l t q y m u k h e hy hk
    obtain ⟨k, rfl⟩ : ∃ m, k = m + 1 := ⟨k - 1, by omega⟩
    simp only [impl_valWith.f]
    rw [if_pos (by first | (simp; done) | (simp; omega)), valCopy_ev 4 y m u k hy (by omega), wp_nil]; rfl
  | cons i r ih =>
    intro n x l t q y m u k h e hy hk
    simp only [List.length_cons] at hk
    obtain ⟨k, rfl⟩ : ∃ m, k = m + 4 := ⟨k - 4, by omega⟩
    simp only [impl_valWith.f]
    cases n with
    | zero => cases h
    | succ n =>
      rcases vt_cases h with ⟨rfl, rfl, _, _⟩ | ⟨a, b, s1, u1, rfl, rfl, rfl, h1, h2⟩
      · cases e
      · rw [pv_two] at e
        have r0 : rd (i :: r) 0 = i := rfl
        have d1 : (i :: r).drop 1 = r := rfl
        rw [if_neg (by first | omega | (simp; done) | (simp; omega))]
        simp only [impl_valWith.l0, r0, d1, w01, w12]
        rw [if_pos (by first | (simp; done) | (simp; omega)), if_pos (by first | omega | (simp; omega)), if_pos (by first | (simp; done) | (simp; omega)), if_pos (by first | omega | (simp; done) | (simp; omega)), wp_two]
        by_cases h0 : i = 0
        · rw [if_pos h0] at e
          subst h0
          rw [if_pos (by trivial), if_pos (by first | (simp; done) | (simp; omega)), rv0, ih n _ _ _ _ _ _ _ (k + 2) h1 e hy (by omega)]; simp only [Option.bind_some]
          rw [if_pos (by first | (simp; done) | (simp; omega)), if_pos (by first | (simp; done) | (simp; omega)), if_pos (by first | omega | (simp; omega)), if_pos (by first | (simp; done) | (simp; omega)), if_pos (by first | omega | (simp; done) | (simp; omega)), if_neg (by omega), rv1, valCopy_ev n _ _ _ (k + 1) h2 (by omega)]; simp only [Option.bind_some]
          rw [if_pos (by simp), if_neg (by simp), if_pos (by trivial)]
          cases b; rfl
        · rw [if_neg h0] at e
          by_cases h3 : i = 1
          · rw [if_pos h3] at e
            subst h3
            rw [if_neg (by omega), rv0, valCopy_ev n _ _ _ (k + 2) h1 (by omega)]; simp only [Option.bind_some]
            rw [if_pos (by first | (simp; done) | (simp; omega)), if_pos (by first | (simp; done) | (simp; omega)), if_pos (by first | omega | (simp; omega)), if_pos (by first | (simp; done) | (simp; omega)), if_pos (by first | omega | (simp; done) | (simp; omega)), if_pos (by trivial), if_pos (by first | (simp; done) | (simp; omega)), rv1, ih n _ _ _ _ _ _ _ (k + 1) h2 e hy (by omega)]; simp only [Option.bind_some]
            rw [if_pos (by first | (simp; done) | (simp; omega)), if_neg (by first | (simp; done) | (simp; omega)), if_neg (by omega)]
            cases a; rfl
          · rw [if_neg h3] at e; cases e
theorem l1Put_ev : ∀ (p : List Int) (n : Nat) (x : Int) (l : Vl) (t : Ty) (q : Int × Vl) (y : Int) (m : Vl) (u : Ty) (k : Nat), vt n x l = some t → pv p x l = some q → vt 4 y m = some u → p.length + 4 * n + 20 ≤ k →
    spec_l1Put.f k x l p y m = some (wp p x l y m) := by
  intro p
  induction p with
  | nil =>
    intro n x l t q y m u k h e hy hk
    obtain ⟨k, rfl⟩ : ∃ m, k = m + 1 := ⟨k - 1, by omega⟩
    simp only [spec_l1Put.f]
    rw [if_pos (by first | (simp; done) | (simp; omega)), anew_ev 4 y m u k hy (by omega), wp_nil]; rfl
  | cons i r ih =>
    intro n x l t q y m u k h e hy hk
    simp only [List.length_cons] at hk
    obtain ⟨k, rfl⟩ : ∃ m, k = m + 1 := ⟨k - 1, by omega⟩
    simp only [spec_l1Put.f]
    have h' := h
    cases n with
    | zero => cases h
    | succ n =>
      rcases vt_cases h with ⟨rfl, rfl, _, _⟩ | ⟨a, b, s1, u1, rfl, rfl, rfl, h1, h2⟩
      · cases e
      · rw [pv_two] at e
        have r0 : rd (i :: r) 0 = i := rfl
        have d1 : (i :: r).drop 1 = r := rfl
        rw [if_neg (by first | omega | (simp; done) | (simp; omega)), anew_ev (n + 1) _ _ _ k h' (by omega)]; simp only [Option.bind_some, r0, d1]
        rw [if_pos (by first | omega | (simp; done) | (simp; omega)), wp_two]
        by_cases h0 : i = 0
        · rw [if_pos h0] at e
          subst h0
          rw [if_pos (by first | omega | (simp; omega)), if_pos (by first | (simp; done) | (simp; omega)), if_pos (by first | (simp; done) | (simp; omega)), rv0, ih n _ _ _ _ _ _ _ k h1 e hy (by omega)]; simp only [Option.bind_some]
          rw [if_pos (by first | (simp; done) | (simp; omega)), if_pos (by trivial)]; rfl
        · rw [if_neg h0] at e
          by_cases h3 : i = 1
          · rw [if_pos h3] at e
            subst h3
            rw [if_pos (by first | omega | (simp; omega)), if_pos (by first | (simp; done) | (simp; omega)), if_pos (by first | (simp; done) | (simp; omega)), rv1, ih n _ _ _ _ _ _ _ k h2 e hy (by omega)]; simp only [Option.bind_some]
            rw [if_pos (by first | (simp; done) | (simp; omega)), if_neg (by omega)]; rfl
          · rw [if_neg h3] at e; cases e
theorem l1Same_ev : ∀ (n : Nat) (a b : Ty) (k : Nat), dp n a = true → dp n b = true → 4 * n ≤ k → spec_l1Same.f k a b = some (teq n a b) := by
  intro n
  induction n with
  | zero => intro a b k h; simp [dp] at h
  | succ n ih =>
    intro a b k ha hb hk
    obtain ⟨k, rfl⟩ : ∃ m, k = m + 4 := ⟨k - 4, by omega⟩
    simp only [spec_l1Same.f]
    rcases Types.shape a with rfl | ⟨a1, a2, rfl⟩ | ⟨h0, h2⟩
    · rcases Types.shape b with rfl | ⟨b1, b2, rfl⟩ | ⟨h0, h2⟩
      · rw [if_pos (by trivial)]; simp only [spec_l1Same.l0]; rw [if_neg (by first | (simp; done) | (simp; omega))]; rfl
      · rw [if_neg (by first | (simp; done) | (simp; omega))]; rfl
      · rw [dp_odd _ _ h0 h2] at hb; cases hb
    · rcases Types.shape b with rfl | ⟨b1, b2, rfl⟩ | ⟨h0, h2⟩
      · rw [if_neg (by first | (simp; done) | (simp; omega))]; rfl
      · rw [dp_two, Bool.and_eq_true] at ha hb
        rw [if_pos (by first | (simp; done) | (simp; omega))]
        simp only [spec_l1Same.l0, w01, w12]
        rw [if_pos (by first | (simp; done) | (simp; omega)), if_pos (by first | omega | (simp; omega)), if_pos (by first | (simp; done) | (simp; omega)), rd0, rd0, ih _ _ _ ha.1 hb.1 (by omega)]
        simp only [Option.bind_some]
        have e : teq (n + 1) [a1, a2] [b1, b2] = (teq n a1.f0 b1.f0 && teq n a2.f0 b2.f0) := rfl
        rw [e]
        cases h1 : teq n a1.f0 b1.f0 with
        | false => simp
        | true =>
          rw [if_pos (by trivial), if_pos (by first | (simp; done) | (simp; omega)), if_pos (by first | omega | (simp; omega)), if_pos (by first | (simp; done) | (simp; omega)), rd1, rd1, ih _ _ _ ha.2 hb.2 (by omega)]
          simp only [Option.bind_some]
          cases h2 : teq n a2.f0 b2.f0 with
          | false => simp
          | true => rw [if_pos (by trivial), if_neg (by first | (simp; done) | (simp; omega))]; rfl
      · rw [dp_odd _ _ h0 h2] at hb; cases hb
    · rw [dp_odd _ _ h0 h2] at ha; cases ha
def vput (x : Int) (l : Vl) (p : List Int) (y : Int) (m : Vl) : Int × Vl × Bool :=
  match vt 4 x l, pv p x l, vt 4 y m with
  | some _, some q, some u => match vt 4 q.1 q.2 with
    | some s => if teq 4 s u = true then ((wp p x l y m).1, (wp p x l y m).2, true) else (0, [], false)
    | none => (0, [], false)
  | _, _, _ => (0, [], false)
theorem implPut_ev (x : Int) (l : Vl) (p : List Int) (y : Int) (m : Vl) (k : Nat) (h : p.length ≤ 1000) (hk : 6000 ≤ k) : impl_ValPut.f k x l p y m = some (vput x l p y m) := by
  unfold impl_ValPut.f
  rw [implValAt_ev x l p k (by omega) (by omega)]; simp only [Option.bind_some]
  unfold vat vput
  cases e : vt 4 x l with
  | none => rfl
  | some t =>
    cases e2 : pv p x l with
    | none => rfl
    | some q =>
      obtain ⟨s, _, hs⟩ := (vt_pv 4 p x l t e).1 q.1 q.2 e2
      simp only [Option.isSome_some, if_true, av]
      rw [typed_ev _ _ k (by omega)]; simp only [Option.bind_some]
      rw [typed_ev _ _ k (by omega)]; simp only [Option.bind_some]
      cases e3 : vt 4 y m with
      | none => rfl
      | some u =>
        simp only [hs, at_, if_true]
        rw [same_ev 4 s u k (vt_dp _ _ _ _ hs) (vt_dp _ _ _ _ e3) (by omega)]; simp only [Option.bind_some]
        cases g : teq 4 s u with
        | false => rfl
        | true =>
          simp only [if_true]
          rw [valWith_ev p 4 x l t q y m u k e e2 e3 (by omega)]; rfl
theorem specPut_ev (x : Int) (l : Vl) (p : List Int) (y : Int) (m : Vl) (k : Nat) (h : p.length ≤ 1000) (hk : 6000 ≤ k) : spec_ValPut.f k x l p y m = some (vput x l p y m) := by
  obtain ⟨k, rfl⟩ : ∃ m, k = m + 1 := ⟨k - 1, by omega⟩
  unfold spec_ValPut.f
  rw [specValAt_ev x l p (k + 1) (by omega) (by omega)]; simp only [Option.bind_some]
  have bad : ∀ a b c d e f, spec_ValPut.j0 (k + 1) p true a b c d e f = some (0, [], false) := fun a b c d e f => by simp only [spec_ValPut.j0, if_true]
  unfold vat vput
  cases e : vt 4 x l with
  | none => simp [spec_ValPut.j0, av]
  | some t =>
    cases e2 : pv p x l with
    | none => simp [spec_ValPut.j0, av]
    | some q =>
      obtain ⟨s, _, hs⟩ := (vt_pv 4 p x l t e).1 q.1 q.2 e2
      simp only [Option.isSome_some, if_true, av]
      rw [any_ok _ _ (k + 1) (by omega)]; simp only [Option.bind_some]
      cases e3 : vt 4 y m with
      | none => simp [spec_ValPut.j0, av]
      | some u =>
        simp only [spec_ValPut.j0, Option.isSome_some, Bool.not_true]
        rw [if_neg (by simp), show (4 : Int) = ((4 : Nat) : Int) from rfl, (of_ev 4 (by omega) q.1 q.2 k (by omega)).1 s (st_vt _ _ _ _ hs)]; simp only [Option.bind_some]
        rw [(of_ev 4 (by omega) y m k (by omega)).1 u (st_vt _ _ _ _ e3)]; simp only [Option.bind_some]
        rw [l1Same_ev 4 s u k (vt_dp _ _ _ _ hs) (vt_dp _ _ _ _ e3) (by omega)]; simp only [Option.bind_some, hs]
        cases g : teq 4 s u with
        | false => rfl
        | true =>
          simp only [if_true]
          rw [l1Put_ev p 4 x l t q y m u k e e2 e3 (by omega)]; rfl
end Go.Proofs.Ythfflieeifakdaa.Puts
end
section
namespace Go.Proofs.Ythfflieeifakdaa.PA
open Go.RowKit Go.Proofs.YthfflieeifakdaaW.PrintWords Go.Proofs.YthfflieeifakdaaW.PrintLast Go.Proofs.YthfflieeifakdaaW.PrintMore
attribute [local go_sem] max2_int min2_int max_two min_two max_three min_three max_four min_four
set_option linter.unusedVariables false
set_option linter.unusedSimpArgs false
def spec_DrawValAt.f (k : Nat) (l0 : List Int) : Option (Int × (List (S25)) × List Int) := (spec_l6Open.f l0).bind fun bt198 => ((spec_l6Rd_pick.f k bt198.1 bt198.2 3).bind fun bt201 => ((spec_l71Type.f k bt198.1 bt201.2 (wrap64 (2 + bt201.1))).bind fun bt203 => ((spec_l71Bad.f k bt198.1 bt203.2 bt203.1).bind fun bt208 => ((spec_l71Any.f k bt198.1 bt208.2.2 bt203.1).bind fun bt213 => (some (bt208.1, bt208.2.1, bt213.1))))))
theorem spec_DrawValAt.mono : ∀ a0 k, LeO (spec_DrawValAt.f k a0) (spec_DrawValAt.f (k + 1) a0) := by
 intro a0 k
 unfold spec_DrawValAt.f
 repeat' first
   | (with_reducible exact spec_l6Rd_pick.mono _ _ _ _)
   | (with_reducible exact spec_l71Any.mono _ _ _ _)
   | (with_reducible exact spec_l71Bad.mono _ _ _ _)
   | (with_reducible exact spec_l71Type.mono _ _ _ _)
   | (with_reducible exact LeO.refl _)
   | (with_reducible exact LeO.none _)
   | (with_reducible refine LeO.ite ?_ ?_)
   | (with_reducible refine LeO.bind ?_ (fun _ => ?_))
   | exact spec_l6Rd_pick.mono _ _ _ _
   | exact spec_l71Any.mono _ _ _ _
   | exact spec_l71Bad.mono _ _ _ _
   | exact spec_l71Type.mono _ _ _ _
   | exact LeO.none _
   | refine LeO.ite ?_ ?_
   | refine LeO.bind ?_ (fun _ => ?_)
def spec_DrawValAt.T3 : Bool × List (List Nat × List Nat) := (true, [([], []), ([], []), ([0, 1], [0, 1]), ([], []), ([], []), ([3, 4, 2], [3, 4]), ([2, 5, 0, 1, 2], [2]), ([5, 6, 0, 1, 2, 3, 4, 5, 6], [5])])
def spec_DrawValAt.B3 : List Nat := [0, 0, 3, 0, 0, 31, 63, 127]
theorem spec_DrawValAt.tab3 : rtab .any (opsOf Try.f12 3) = spec_DrawValAt.T3 := by kernel_rfl
theorem spec_DrawValAt.bits3 : waitsOk spec_DrawValAt.T3.2 spec_DrawValAt.B3 = true := by kernel_rfl
set_option maxHeartbeats 8000000 in
set_option maxRecDepth 100000 in
theorem spec_DrawValAt.calls (k : Nat) (A0 : Option Addr) (c0 : Nat) (l0 : List Int) (r1 : Int) (r2 : List (S25)) (r3 : List Int) (w : World) (hr0 : Kd.C (Kd.int .u8) w A0 l0.length l0) (hc0 : l0.length ≤ c0) (h : spec_DrawValAt.f k l0 = some (r1, r2, r3)) :
  Calls Try.prog 12 #[.slice A0 l0.length c0] w fun e w' => ∃ v1_ v2_ : Value, e = .returned (.tuple #[.agg #[.int .i64 r1, v1_], v2_]) ∧ Kd.N k25 25 w' w.heap.size (fun k_ => (w.heap.size ≤ k_) ∧ some k_ ≠ (v2_ : Value).ownBlock) v1_ r2 ∧ Kd.R (Kd.int .i64) 3 w' w.heap.size (fun k_ => (w.heap.size ≤ k_)) v2_ r3 ∧ Below w.heap.size w w' := by
 have hu25 := Try.underlying25
 have hu50 := Try.underlying50
 have HR0 := Aside0.mk hr0
 have HC0 := Aside0.mk hc0
 clear hr0 hc0
 have HB := Aside0.mk (Below.refl w.heap.size w)
 have H : ((spec_l6Open.f l0).bind fun bt198 => ((spec_l6Rd_pick.f k bt198.1 bt198.2 3).bind fun bt201 => ((spec_l71Type.f k bt198.1 bt201.2 (wrap64 (2 + bt201.1))).bind fun bt203 => ((spec_l71Bad.f k bt198.1 bt203.2 bt203.1).bind fun bt208 => ((spec_l71Any.f k bt198.1 bt208.2.2 bt203.1).bind fun bt213 => (some (bt208.1, bt208.2.1, bt213.1))))))) = some (r1, r2, r3) := h
 clear h
 obtain ⟨⟨t198, t199⟩, A20, H⟩ := ob H
 have A2 := Aside0.mk A20
 clear A20
 obtain ⟨⟨t201, t202⟩, A30, H⟩ := ob H
 have A3 := Aside0.mk A30
 clear A30
 obtain ⟨⟨t203, t206⟩, A40, H⟩ := ob H
 have A4 := Aside0.mk A40
 clear A40
 obtain ⟨⟨t208, t209, t212⟩, A50, H⟩ := ob H
 have A5 := Aside0.mk A50
 clear A50
 obtain ⟨⟨t213, t216⟩, A60, H⟩ := ob H
 have A6 := Aside0.mk A60
 clear A60
 simp only [Option.some.injEq, Prod.mk.injEq] at H
 obtain ⟨rfl, rfl, rfl⟩ := H
 go_enter Try.func12, Try.ntmps12
 try go_wp2_with (first | ((with_reducible refine gate_dst (N := 2) rfl ?_); refine zbx 2 #[.int .i64 0, .slice none 0 0] 25 ?_; intro gb197 hg w7 hbox hb; have BK197 := Aside0.mk hbox; have GW197 := Aside0.mk ((y10 hg HB.out : w.heap.size ≤ gb197)); have GE197 := Aside0.mk ((y10 hg HB.out : w.heap.size ≤ gb197)); replace HB := Aside0.mk (below_step (y6 HB.out) hb); clear hb hbox hg) | ((with_reducible refine gate_callee (f := 30) rfl ?_); refine goesL_ (some 7) rfl rfl Try.func30 (by kernel_rfl) rfl #[.slice A0 l0.length c0] rfl y9 ?_; (with_reducible refine (spec_l6Open.calls _ _ l0 t198 t199 w _ ?side1 ?side2 ?side3 A2.out).mono ?_); (case side1 => exact y7 HB.out GE197.out); (case side2 => exact HR0.out); (case side3 => exact HC0.out); rintro e w8 ⟨g200, rfl, hi, hb, hb2⟩; refine ⟨_, rfl, ?_⟩; replace HB := Aside0.mk (hb); have HI200 := Aside0.mk (hi); have NB200_197 := Aside0.mk (IsS75.ne_blk hi (blk_below (g := gb197) (o := .cells #[.int .i64 0, .slice none 0 0] 25 (0, 0)) (y0 BK197.out) hb2) (by decide)); have NB197_200 := Aside0.mk (Ne.symm (IsS75.ne_blk hi (blk_below (g := gb197) (o := .cells #[.int .i64 0, .slice none 0 0] 25 (0, 0)) (y0 BK197.out) hb2) (by decide))); replace BK197 := Aside0.mk (blk_below (g := gb197) (o := .cells #[.int .i64 0, .slice none 0 0] 25 (0, 0)) (y0 BK197.out) hb2); (try clear hb); (try clear hb2); (try clear hk); (try clear hi)) | ((with_reducible refine gate_callee (f := 32) rfl ?_); refine goesL_ (some 10) rfl rfl Try.func32 (by kernel_rfl) rfl #[.pointer (some ⟨g200, 0, none⟩), .int .i64 3] rfl y9 ?_; (with_reducible refine (spec_l6Rd_pick.calls k g200 t198 t199 3 t201 t202 w _ ?side1 ?side2 A3.out).mono ?_); (case side1 => exact y35 HI200.out NB200_197.out); (case side2 => exact y31 HB.out HI200.out GE197.out); rintro e w9 ⟨rfl, hi, hb, hk⟩; refine ⟨_, rfl, ?_⟩; replace BK197 := Aside0.mk (KeepBut.blk hk (g' := gb197) (o := .cells #[.int .i64 0, .slice none 0 0] 25 (0, 0)) (y0 BK197.out) NB197_200.out (by simp)); replace HB := Aside0.mk (hb); replace HI200 := Aside0.mk (hi); (try clear hb); (try clear hb2); (try clear hk); (try clear hi)) | ((with_reducible refine gate_callee (f := 31) rfl ?_); refine goesL_ (some 12) rfl rfl Try.func31 (by kernel_rfl) rfl #[.pointer (some ⟨g200, 0, none⟩), .int .i64 (wrap64 (2 + t201))] rfl y9 ?_; (with_reducible refine (spec_l71Type.calls k g200 t198 t202 (wrap64 (2 + t201)) t203 t206 w _ ?side1 ?side2 A4.out).mono ?_); (case side1 => exact y35 HI200.out NB200_197.out); (case side2 => exact y31 HB.out HI200.out GE197.out); rintro e w10 ⟨v204, rfl, ho0, hi, hb, hk⟩; refine ⟨_, rfl, ?_⟩; have HO205 := Aside0.mk (Kd.N_lower (Kd.N_mono (ok' := fun k_ => (w.heap.size ≤ k_) ∧ k_ ≠ gb197 ∧ k_ ≠ g200) ho0 (fun k_ hk_ => ⟨(Nat.le_trans (below_size (y31 HB.out HI200.out GE197.out)) hk_), (Kd.freshB (g := gb197) (o := .cells #[.int .i64 0, .slice none 0 0] 25 (0, 0)) (y0 BK197.out) k_ hk_), (IsS75.fresh (y35 HI200.out NB200_197.out) k_ hk_)⟩)) (below_size (y31 HB.out HI200.out GE197.out))); replace BK197 := Aside0.mk (KeepBut.blk hk (g' := gb197) (o := .cells #[.int .i64 0, .slice none 0 0] 25 (0, 0)) (y0 BK197.out) NB197_200.out (by simp)); replace HB := Aside0.mk (hb); replace HI200 := Aside0.mk (hi); (try clear hb); (try clear hb2); (try clear hk); (try clear hi); (try clear ho0)) | ((with_reducible refine gate_dst (N := 5) rfl ?_); refine zbx 5 #[.slice none 0 0] 50 ?_; intro gb207 hg w11 hbox hb; replace HO205 := Aside0.mk (Kd.N_below (Kd.N_elderB (y2 HO205.out) gb207 (Nat.le_of_eq hg.symm)) hb); have BK207 := Aside0.mk hbox; have GW207 := Aside0.mk ((y88 hg HB.out HI200.out GE197.out : w.heap.size ≤ gb207)); have GE207 := Aside0.mk ((y88 hg HB.out HI200.out GE197.out : w.heap.size ≤ gb207)); replace HB := Aside0.mk (below_step (y31 HB.out HI200.out GE197.out) hb); have NB197_207 := zltn hg BK197; have NB207_197 := zgtn hg BK197; replace BK197 := zbb BK197 hb; have NB200_207 := Aside0.mk ((by rw [hg]; exact Nat.ne_of_lt (IsS75.lt (show IsS75 w _ g200 t198 t206 from by repeat (first | (with_reducible first | exact HI200.out | apply IsS75.alloc | apply IsS75.drewN | apply IsS75.drew | apply IsS75.set_1 | refine IsS75.far ?_ NB200_197.out _) | exact HI200.out))) : g200 ≠ gb207)); have NB207_200 := Aside0.mk ((by rw [hg]; exact Nat.ne_of_gt (IsS75.lt (show IsS75 w _ g200 t198 t206 from by repeat (first | (with_reducible first | exact HI200.out | apply IsS75.alloc | apply IsS75.drewN | apply IsS75.drew | apply IsS75.set_1 | refine IsS75.far ?_ NB200_197.out _) | exact HI200.out))) : gb207 ≠ g200)); replace HI200 := Aside0.mk (IsS75.below (y35 HI200.out NB200_197.out) hb); clear hb hbox hg; obtain ⟨Ao12, co12, eo12⟩ := Kd.N_slice HO205.out; subst eo12; have hnb13 := NB207_197.out; have hnc13 := NB197_207.out; have hnb14 := NB207_200.out; have hnc14 := NB200_207.out; have hcz15_0 := zh BK207; have hfz15_0 := zfr BK207 0))
 have n0_ : Aside0 (Kd.N k50 50 (w11.setCell ⟨gb207, 0, none⟩ (.slice Ao12 t203.length co12)) w.heap.size (fun k_ => (w.heap.size ≤ k_) ∧ k_ ≠ gb197 ∧ k_ ≠ g200 ∧ k_ ≠ gb207) (.slice Ao12 t203.length co12) t203) := ⟨(by (with_reducible repeat (first | apply Kd.N_alloc | apply Kd.N_drewN | apply Kd.N_drew)); exact Kd.N_mono (Kd.N_far (p := ⟨gb207, 0, none⟩) (Kd.N_mono HO205.out (fun k_ hk => (⟨hk, hk.2⟩ : _ ∧ k_ ≠ gb207))) (fun _ hk => hk.2) (.slice Ao12 t203.length co12)) (fun _ hk => ⟨hk.1.1.1, ⟨hk.1.1.2.1, ⟨hk.1.1.2.2, hk.1.2⟩⟩⟩))⟩
 have n1_ : Aside0 ((w11.setCell ⟨gb207, 0, none⟩ (.slice Ao12 t203.length co12)).heap[gb197]? = some (.cells #[.int .i64 0, .slice none 0 0] 25 (0, 0))) := ⟨(y13 NB197_207.out BK197.out)⟩
 have n2_ : Aside0 ((w11.setCell ⟨gb207, 0, none⟩ (.slice Ao12 t203.length co12)).heap[gb207]? = some (.cells #[.slice Ao12 t203.length co12] 50 (0, 0))) := ⟨(by (with_reducible repeat (first | refine blk_drewN ?_ _ | refine blk_drew ?_ | refine blk_alloc ?_ _)); refine blk_put (cs := #[.slice none 0 0]) ?_ 0 _ rfl; (with_reducible repeat (first | refine blk_drewN ?_ _ | refine blk_drew ?_ | refine blk_alloc ?_ _)); exact BK207.out)⟩
 have n3_ : Aside0 (IsS75 w (w11.setCell ⟨gb207, 0, none⟩ (.slice Ao12 t203.length co12)) g200 t198 t206) := ⟨(y24 HI200.out NB200_197.out NB200_207.out)⟩
 have n4_ : Aside0 (Below w.heap.size w (w11.setCell ⟨gb207, 0, none⟩ (.slice Ao12 t203.length co12))) := ⟨(y19 HB.out HI200.out GE197.out GE207.out)⟩
 (try clear HO205)
 (try clear BK197)
 (try clear BK207)
 (try clear HI200)
 (try clear HB)
 generalize (w11.setCell ⟨gb207, 0, none⟩ (.slice Ao12 t203.length co12)) = w16 at n0_ n1_ n2_ n3_ n4_ ⊢
 have HO205 := n0_
 have BK197 := n1_
 have BK207 := n2_
 have HI200 := n3_
 have HB := n4_
 clear n0_ n1_ n2_ n3_ n4_
 replace HO205 := Aside0.mk (Kd.N_drew HO205.out)
 replace BK197 := Aside0.mk (blk_drew BK197.out)
 replace BK207 := Aside0.mk (blk_drew BK207.out)
 replace HI200 := Aside0.mk (IsS75.drew HI200.out)
 replace HB := Aside0.mk (below_drew1 HB.out)
 refine start_ (n := 8) (S := fun w' => w'.cell? ⟨gb207, 0, none⟩ = some (.slice Ao12 t203.length co12)) (ds := []) #[false, false, false, false, false, false, false, false] (by kernel_rfl) rfl rfl ((blk_cell BK207.out 0).trans rfl) (fun hHeld => ?_); refine with_tabW spec_DrawValAt.tab3 spec_DrawValAt.bits3 (fun HT_ HW_ => ?_)
 generalize w16.drew = w17 at HO205 BK197 BK207 HI200 HB hHeld ⊢
 refine zp 0 (some 13) HT_ ?_
 refine zp 3 (some 16) HT_ ?_
 refine take_ (i := 1) (N := some 14) (v := ?_) (a' := ?_) #[true, true, false, true, false, false, false, false] rfl rfl (take_ofW HT_.out HW_.out (by kernel_rfl)) (fun _ _ _ h => h) (Or.inl ⟨(by rfl), ?_⟩) hHeld ?_ ?_
 rotate_left
 ·intro w' s0
  go_simp
  with_reducible rfl
 rotate_left
 ·simp only [Act.put, List.setIfInBounds_toArray, List.set_cons_zero, List.set_cons_succ, i64_w, i32_w]
  rfl
 refine take_ (i := 4) (N := some 17) (v := ?_) (a' := ?_) #[true, true, false, true, true, false, false, false] rfl rfl (take_ofW HT_.out HW_.out (by kernel_rfl)) (fun _ _ _ h => h) (Or.inl ⟨(by rfl), ?_⟩) hHeld ?_ ?_
 rotate_left
 ·intro w' s0
  go_simp
  with_reducible rfl
 rotate_left
 ·simp only [Act.put, List.setIfInBounds_toArray, List.set_cons_zero, List.set_cons_succ, i64_w, i32_w]
  rfl
 refine one_ (i := 2) (N := some 15) #[true, true, true, true, true, false, false, false] rfl rfl (one_of HT_.out (by kernel_rfl)) (by decide) (fun K hK => ?_)
 refine goes_ Try.func33 (by kernel_rfl) rfl #[.pointer (some ⟨g200, 0, none⟩), .agg #[.slice Ao12 t203.length co12]] (by rfl) rfl rfl y9 ?_
 with_reducible refine (spec_l71Bad.calls k g200 t198 t206 (fun k_ => ((w.heap.size ≤ k_) ∧ (k_ ≠ gb197 ∧ (k_ ≠ g200 ∧ k_ ≠ gb207)))) _ _ t203 t208 t209 t212 w _ ?side1 ?side2 ?side3 A5.out).mono ?_
 (case side1 => exact y24 HI200.out NB200_197.out NB200_207.out)
 (case side2 => exact y19 HB.out HI200.out GE197.out GE207.out)
 (case side3 => exact Kd.V_mono (Kd.N_V (HO205.out)) (fun k_ hk_ => ⟨hk_, hk_.2.2.1⟩))
 rintro e w18 ⟨v210, rfl, ho0, hi, hb, hk⟩
 refine ⟨_, rfl, ?_⟩
 replace HO205 := Aside0.mk (Kd.N_mono (Kd.N_told (Kd.N_oldK (Kd.N_mono (ok := fun k_ => (((w.heap.size ≤ k_)) ∧ (k_ ≠ gb197 ∧ (k_ ≠ g200 ∧ k_ ≠ gb207)))) (y2 HO205.out) (fun k_ hk_ => (⟨hk_, hk_.2.2.1⟩ : _ ∧ k_ ≠ g200))) hk) (Kd.N_base ho0)) (fun _ h_ => h_.1))
 have HO211 := Aside0.mk (Kd.N_lower (Kd.N_mono (ok' := fun k_ => (w.heap.size ≤ k_) ∧ k_ ≠ gb197 ∧ k_ ≠ gb207 ∧ k_ ≠ g200) ho0 (fun k_ hk_ => ⟨Or.elim hk_ (fun hs_ => hs_.1) (fun hn_ => (Nat.le_trans (below_size (y19 HB.out HI200.out GE197.out GE207.out)) hn_)), Or.elim hk_ (fun hs_ => hs_.2.1) (fun hn_ => (Kd.freshB (g := gb197) (o := .cells #[.int .i64 0, .slice none 0 0] 25 (0, 0)) (y0 BK197.out) k_ hn_)), Or.elim hk_ (fun hs_ => hs_.2.2.2) (fun hn_ => (Kd.freshB (g := gb207) (o := .cells #[.slice Ao12 t203.length co12] 50 (0, 0)) (y0 BK207.out) k_ hn_)), Or.elim hk_ (fun hs_ => hs_.2.2.1) (fun hn_ => (IsS75.fresh (y24 HI200.out NB200_197.out NB200_207.out) k_ hn_))⟩)) (below_size (y19 HB.out HI200.out GE197.out GE207.out)))
 replace BK197 := Aside0.mk (KeepBut.blk hk (g' := gb197) (o := .cells #[.int .i64 0, .slice none 0 0] 25 (0, 0)) (y0 BK197.out) NB197_200.out (by simp))
 replace BK207 := Aside0.mk (KeepBut.blk hk (g' := gb207) (o := .cells #[.slice Ao12 t203.length co12] 50 (0, 0)) (y0 BK207.out) NB207_200.out (by simp))
 replace HB := Aside0.mk (hb)
 replace HI200 := Aside0.mk (hi)
 (try clear hb)
 (try clear hb2)
 (try clear hk)
 (try clear hi)
 (try clear ho0)
 refine hK.out _ _ ((blk_cell BK207.out 0).trans rfl) (fun hHeld => ?_)
 clear hK K
 refine norm_ (a' := ?_) ?_ ?_
 rotate_left
 ·show Act.put _ (some 15) _ = _
  simp only [Act.put, List.setIfInBounds_toArray, List.set_cons_zero, List.set_cons_succ, i64_w, i32_w]
  rfl
 refine one_ (i := 5) (N := some 18) #[true, true, true, true, true, true, false, false] rfl rfl (one_of HT_.out (by kernel_rfl)) (by decide) (fun K hK => ?_)
 refine goes_ Try.func34 (by kernel_rfl) rfl #[.pointer (some ⟨g200, 0, none⟩), .agg #[.slice Ao12 t203.length co12]] (by rfl) rfl rfl y9 ?_
 with_reducible refine (spec_l71Any.calls k g200 t198 t212 (fun k_ => (((w.heap.size ≤ k_) ∧ (k_ ≠ gb197 ∧ (k_ ≠ g200 ∧ k_ ≠ gb207))) ∧ some k_ ≠ (v210 : Value).ownBlock)) _ _ t203 t213 t216 w _ ?side1 ?side2 ?side3 A6.out).mono ?_
 (case side1 => exact y24 HI200.out NB200_197.out NB200_207.out)
 (case side2 => exact y19 HB.out HI200.out GE197.out GE207.out)
 (case side3 => exact Kd.V_mono (Kd.N_V (HO205.out)) (fun k_ hk_ => ⟨hk_, hk_.1.2.2.1⟩))
 rintro e w19 ⟨v214, rfl, ho0, hi, hb, hk⟩
 refine ⟨_, rfl, ?_⟩
 replace BK197 := Aside0.mk (KeepBut.blk hk (g' := gb197) (o := .cells #[.int .i64 0, .slice none 0 0] 25 (0, 0)) (y0 BK197.out) NB197_200.out (by simp))
 replace HO205 := Aside0.mk (Kd.N_mono (Kd.N_told (Kd.N_oldK (Kd.N_mono (ok := fun k_ => ((((w.heap.size ≤ k_)) ∧ (k_ ≠ gb197 ∧ (k_ ≠ g200 ∧ k_ ≠ gb207))) ∧ some k_ ≠ (v210 : Value).ownBlock)) (y2 HO205.out) (fun k_ hk_ => (⟨hk_, hk_.1.2.2.1⟩ : _ ∧ k_ ≠ g200))) hk) (Kd.R_base ho0)) (fun _ h_ => h_.1))
 replace BK207 := Aside0.mk (KeepBut.blk hk (g' := gb207) (o := .cells #[.slice Ao12 t203.length co12] 50 (0, 0)) (y0 BK207.out) NB207_200.out (by simp))
 replace HO211 := Aside0.mk (Kd.N_mono (Kd.N_told (Kd.N_oldK (Kd.N_mono (ok := fun k_ => (((w.heap.size ≤ k_)) ∧ (k_ ≠ gb197 ∧ (k_ ≠ gb207 ∧ k_ ≠ g200)))) (y2 HO211.out) (fun k_ hk_ => (⟨hk_, hk_.2.2.2⟩ : _ ∧ k_ ≠ g200))) hk) (Kd.R_base ho0)) (fun _ h_ => h_.1))
 have HO215 := Aside0.mk (Kd.R_lower (Kd.R_newM (M := fun k_ => (w.heap.size ≤ k_)) (Kd.R_mono (ok' := fun k_ => True) ho0 (fun _ _ => trivial)) (below_size (y19 HB.out HI200.out GE197.out GE207.out)) (fun k_ h_ => h_)) (below_size (y19 HB.out HI200.out GE197.out GE207.out)))
 replace HB := Aside0.mk (hb)
 replace HI200 := Aside0.mk (hi)
 (try clear hb)
 (try clear hb2)
 (try clear hk)
 (try clear hi)
 (try clear ho0)
 obtain ⟨Ao21, co21, eo21⟩ := Kd.N_slice HO211.out
 (first | subst eo21 | (injection eo21 with f1_ f2_ f3_; have f4_ := f1_.symm; have f5_ := f3_.symm; clear f1_ f2_ f3_; subst f4_; subst f5_))
 refine hK.out _ _ ((blk_cell BK207.out 0).trans rfl) (fun hHeld => ?_)
 clear hK K
 refine norm_ (a' := ?_) ?_ ?_
 rotate_left
 ·show Act.put _ (some 18) _ = _
  simp only [Act.put, List.setIfInBounds_toArray, List.set_cons_zero, List.set_cons_succ, i64_w, i32_w]
  rfl
 refine one_ (i := 6) (N := none) #[true, true, true, true, true, true, true, false] rfl rfl (one_of HT_.out (by kernel_rfl)) (by decide) (fun K hK => ?_)
 have hs20 : w19.cell? ⟨gb197, 0, none⟩ = some (.int .i64 0) := (blk_cell BK197.out 0).trans rfl
 have hfs20 := zfr BK197 0
 have hns20_1 := NB207_197.out
 have hms20_1 := NB197_207.out
 have hs22 : w19.cell? ⟨gb197, 1, none⟩ = some (.slice none 0 0) := (blk_cell BK197.out 1).trans rfl
 have hfs22 := zfr BK197 1
 have hns22_1 := NB207_197.out
 have hms22_1 := NB197_207.out
 refine skip_ (w1 := ?_) (by rfl) rfl ?_ ?_
 rotate_left
 ·go_simp
  rfl
 refine hK.out _ _ (((cell_far (p := ⟨gb197, _, none⟩) NB207_197.out _).trans (((cell_far (p := ⟨gb197, _, none⟩) NB207_197.out _).trans (hHeld))))) (fun hHeld => ?_)
 clear hK K
 refine zp 7 (some 3) HT_ ?_
 refine done_ (done_of HT_.out (by kernel_rfl)) ?_
 try go_wp2
 refine bodyPost_ret (results_ct rfl _ _ gb197 25 #[.int .i64 t208, .slice Ao21 t209.length co21] (0, 0) _ rfl (by (with_reducible repeat (first | refine blk_drewN ?_ _ | refine blk_drew ?_ | refine blk_alloc ?_ _)); refine blk_put (cs := #[.int .i64 t208, .slice none 0 0]) ?_ 1 _ rfl; (with_reducible repeat (first | refine blk_drewN ?_ _ | refine blk_drew ?_ | refine blk_alloc ?_ _)); apply blk_put (i := 0); (case h => exact y0 BK197.out); (case e => rfl)) Try.underlying25 rfl (by kernel_rfl)) rfl ?_
 exact ⟨_, _, y15, (by (with_reducible repeat (first | apply Kd.N_alloc | apply Kd.N_drewN | apply Kd.N_drew)); exact Kd.N_mono (Kd.N_far (p := ⟨gb197, 1, none⟩) (Kd.N_far (p := ⟨gb197, 0, none⟩) (Kd.N_mono HO211.out (fun k_ hk => (⟨hk, hk.1.2.1⟩ : _ ∧ k_ ≠ gb197))) (fun _ hk => hk.2) (.int .i64 t208)) (fun _ hk => hk.2) (.slice Ao21 t209.length co21)) (fun _ hk => ⟨hk.1.1.1, hk.1.2⟩)), (by (with_reducible repeat (first | apply Kd.R_alloc | apply Kd.R_drewN | apply Kd.R_drew)); exact Kd.R_mono (Kd.R_far (p := ⟨gb197, 1, none⟩) (Kd.R_far (p := ⟨gb197, 0, none⟩) (Kd.R_types HO215.out BK197.out (by decide)) (fun _ hk => hk.2) (.int .i64 t208)) (fun _ hk => hk.2) (.slice Ao21 t209.length co21)) (fun _ hk => hk.1.1)), (y19 HB.out HI200.out GE197.out GE207.out)⟩
end Go.Proofs.Ythfflieeifakdaa.PA
end
section
set_option linter.unusedVariables false
namespace Go.Proofs.Ythfflieeifakdaa.DrawV
open Go.RowKit Go.Proofs.Ythfflieeifakdaa.PA Go.Proofs.YthfflieeifakdaaW.PrintWords Go.Proofs.YthfflieeifakdaaW.PrintLast Go.Proofs.Ythfflieeifakdaa.Draw Go.Proofs.Ythfflieeifakdaa.Types Go.Proofs.Ythfflieeifakdaa.Paths Go.Proofs.Ythfflieeifakdaa.Vals
theorem dph_dp : ∀ (n : Nat) (t : Ty), dp (n + 1) t = true → Dph n t := by
  intro n
  induction n with
  | zero =>
    intro t h
    rcases Types.shape t with rfl | ⟨a, b, rfl⟩ | ⟨h0, h2⟩
    · rfl
    · rw [dp_two, Bool.and_eq_true] at h; simp [dp] at h
    · rw [dp_odd _ _ h0 h2] at h; cases h
  | succ n ih =>
    intro t h
    rcases Types.shape t with rfl | ⟨a, b, rfl⟩ | ⟨h0, h2⟩
    · exact dph_nil _
    · rw [dp_two, Bool.and_eq_true] at h
      intro x hx
      rcases List.mem_cons.1 hx with rfl | hx
      · exact ih _ h.1
      · rw [List.mem_singleton.1 hx]; exact ih _ h.2
    · rw [dp_odd _ _ h0 h2] at h; cases h
theorem drawValAt_ev (l : List Int) (h : ∀ x ∈ l, (Lit.int .u8 x).wf = true) : ∃ x v p, (∀ k, 60 ≤ k → spec_DrawValAt.f k l = some (x, v, p)) ∧ p.length ≤ 11 := by
  obtain ⟨s, ho, hs⟩ := open_ev l h
  obtain ⟨c, hc, c0, c1⟩ := pick_ev s hs 0 3 (by omega) (by omega) (by omega)
  obtain ⟨cn, rfl⟩ := Int.eq_ofNat_of_zero_le c0
  have ew : wrap64 (2 + (cn : Int)) = ((2 + cn : Nat) : Int) := by rw [w64 (by omega) (by omega)]; omega
  obtain ⟨t, q1, ht, g1, g2, d1⟩ := typeN_ev s hs (2 + cn) (by omega) (0 + 1) (by omega) (by omega)
  obtain ⟨x, v, q2, hx, g3, g4⟩ := bad_ev s hs (2 + cn + 1) (by omega) t d1 q1 (by omega) (by omega)
  obtain ⟨p, q3, hp, _, _, hl⟩ := any_ev s hs (2 + cn) t (by omega) (dph_dp _ _ d1) q2 (by omega) (by omega)
  refine ⟨x, v, p, fun k hk => ?_, by omega⟩
  unfold spec_DrawValAt.f
  rw [ho]; simp only [Option.bind_some]
  rw [hc k (by omega)]; simp only [Option.bind_some]
  rw [ew, ht k (by omega)]; simp only [Option.bind_some]
  rw [hx k (by omega)]; simp only [Option.bind_some]
  rw [hp k (by omega)]; rfl
end Go.Proofs.Ythfflieeifakdaa.DrawV
end
section
set_option linter.unusedVariables false
namespace Go.Proofs.Ythfflieeifakdaa.DrawP
open Go.RowKit Go.Proofs.Ythfflieeifakdaa.PA Go.Proofs.YthfflieeifakdaaW.PrintWords Go.Proofs.YthfflieeifakdaaW.PrintLast Go.Proofs.Ythfflieeifakdaa.Draw Go.Proofs.Ythfflieeifakdaa.Types Go.Proofs.Ythfflieeifakdaa.Paths Go.Proofs.Ythfflieeifakdaa.Vals Go.Proofs.Ythfflieeifakdaa.DrawV
theorem drawPut1_ev (s : List Int) (hs : Bytes s) (c : Nat) (hc : c ≤ 10) (t part : Ty) (p : List Int) (d : dp c t = true) (dq : dp 4 part = true) (b : Bool) (q : Int) (hq : 0 ≤ q) (hq1 : q ≤ 1099400000000) :
    ∃ x v y m, ∀ k, 50 ≤ k → spec_DrawValPut.j0 k p b s q t part = some (x, v, p, y, m) := by
  cases b with
  | true =>
    obtain ⟨u, q1, hu, g1, g2, d1⟩ := typeN_ev s hs 2 (by omega) q (by omega) (by omega)
    obtain ⟨x, v, q2, hx, g3, g4⟩ := bad_ev s hs c (by omega) t d q1 (by omega) (by omega)
    obtain ⟨y, m, q3, hy, _, _⟩ := bad_ev s hs 3 (by omega) u d1 q2 (by omega) (by omega)
    refine ⟨x, v, y, m, fun k hk => ?_⟩
    obtain ⟨k, rfl⟩ : ∃ m, k = m + 1 := ⟨k - 1, by omega⟩
    simp only [spec_DrawValPut.j0, if_true]
    have hu' := hu k (by omega)
    rw [show (((2 : Nat) : Int)) = (2 : Int) from rfl] at hu'
    rw [hu']; simp only [Option.bind_some]
    rw [hx k (by omega)]; simp only [Option.bind_some]
    rw [hy k (by omega)]; rfl
  | false =>
    obtain ⟨x, v, q2, hx, g3, g4⟩ := bad_ev s hs c (by omega) t d q (by omega) (by omega)
    obtain ⟨y, m, q3, hy, _, _⟩ := bad_ev s hs 4 (by omega) part dq q2 (by omega) (by omega)
    refine ⟨x, v, y, m, fun k hk => ?_⟩
    obtain ⟨k, rfl⟩ : ∃ m, k = m + 1 := ⟨k - 1, by omega⟩
    simp only [spec_DrawValPut.j0]
    rw [if_neg (by simp), hx k (by omega)]; simp only [Option.bind_some]
    rw [hy k (by omega)]; rfl
theorem drawValPut_ev (l : List Int) (h : ∀ x ∈ l, (Lit.int .u8 x).wf = true) : ∃ x v p y m, (∀ k, 60 ≤ k → spec_DrawValPut.f k l = some (x, v, p, y, m)) ∧ p.length ≤ 11 := by
  obtain ⟨s, ho, hs⟩ := open_ev l h
  obtain ⟨c, hc, c0, c1⟩ := pick_ev s hs 0 3 (by omega) (by omega) (by omega)
  obtain ⟨cn, rfl⟩ := Int.eq_ofNat_of_zero_le c0
  have ew : wrap64 (2 + (cn : Int)) = ((2 + cn : Nat) : Int) := by rw [w64 (by omega) (by omega)]; omega
  obtain ⟨t, q1, ht, g1, g2, d1⟩ := typeN_ev s hs (2 + cn) (by omega) (0 + 1) (by omega) (by omega)
  obtain ⟨p, q3, hp, g5, g6, hl⟩ := any_ev s hs (2 + cn) t (by omega) (dph_dp _ _ d1) q1 (by omega) (by omega)
  obtain ⟨e, he, e0, e1⟩ := pick_ev s hs q3 8 (by omega) (by omega) (by omega)
  have hd := tat_ok t p
  cases g : (tat t p).2 with
  | true =>
    obtain ⟨x, v, y, m, hj⟩ := drawPut1_ev s hs (2 + cn + 1) (by omega) t (tat t p).1 p d1 hd (e == 0) (q3 + 1) (by omega) (by omega)
    refine ⟨x, v, p, y, m, fun k hk => ?_, by omega⟩
    unfold spec_DrawValPut.f
    rw [ho]; simp only [Option.bind_some]
    rw [hc k (by omega)]; simp only [Option.bind_some]
    rw [ew, ht k (by omega)]; simp only [Option.bind_some]
    rw [hp k (by omega)]; simp only [Option.bind_some]
    rw [specTypeAt_ev t p k (by omega) (by omega)]; simp only [Option.bind_some]
    rw [if_pos g, he k (by omega)]; simp only [Option.bind_some]
    exact hj k (by omega)
  | false =>
    obtain ⟨x, v, y, m, hj⟩ := drawPut1_ev s hs (2 + cn + 1) (by omega) t (tat t p).1 p d1 hd true q3 (by omega) (by omega)
    refine ⟨x, v, p, y, m, fun k hk => ?_, by omega⟩
    unfold spec_DrawValPut.f
    rw [ho]; simp only [Option.bind_some]
    rw [hc k (by omega)]; simp only [Option.bind_some]
    rw [ew, ht k (by omega)]; simp only [Option.bind_some]
    rw [hp k (by omega)]; simp only [Option.bind_some]
    rw [specTypeAt_ev t p k (by omega) (by omega)]; simp only [Option.bind_some]
    rw [if_neg (by rw [g]; simp)]
    exact hj k (by omega)
end Go.Proofs.Ythfflieeifakdaa.DrawP
end
section
set_option linter.unusedVariables false
set_option linter.unusedSimpArgs false
namespace Go.Proofs.Ythfflieeifakdaa.PutLaws
open Go.RowKit Go.Proofs.Ythfflieeifakdaa.PA Go.Proofs.YthfflieeifakdaaW.PrintWords Go.Proofs.YthfflieeifakdaaW.PrintLast Go.Proofs.Ythfflieeifakdaa.Draw Go.Proofs.Ythfflieeifakdaa.Types Go.Proofs.Ythfflieeifakdaa.Paths Go.Proofs.Ythfflieeifakdaa.Vals Go.Proofs.Ythfflieeifakdaa.Ats Go.Proofs.Ythfflieeifakdaa.Puts
theorem vput_of {x : Int} {l : Vl} {p : List Int} {y : Int} {m : Vl} {t s : Ty} {q : Int × Vl} (h1 : vt 4 x l = some t) (h2 : pv p x l = some q) (h3 : vt 4 q.1 q.2 = some s) (h4 : vt 4 y m = some s) :
    vput x l p y m = ((wp p x l y m).1, (wp p x l y m).2, true) := by
  unfold vput
  rw [h1, h2, h4]
  simp only [h3]
  rw [if_pos (teq_refl 4 s (vt_dp _ _ _ _ h4))]
theorem vput_ok {x : Int} {l : Vl} {p : List Int} {y : Int} {m : Vl} (h : (vput x l p y m).2.2 = true) :
    ∃ t s q, vt 4 x l = some t ∧ pv p x l = some q ∧ vt 4 q.1 q.2 = some s ∧ vt 4 y m = some s := by
  unfold vput at h
  cases h1 : vt 4 x l with
  | none => rw [h1] at h; cases h
  | some t =>
    cases h2 : pv p x l with
    | none => rw [h1, h2] at h; cases h
    | some q =>
      cases h4 : vt 4 y m with
      | none => rw [h1, h2, h4] at h; cases h
      | some u =>
        rw [h1, h2, h4] at h
        obtain ⟨s, _, h3⟩ := (vt_pv 4 p x l t h1).1 q.1 q.2 h2
        simp only [h3] at h
        by_cases g : teq 4 s u = true
        · exact ⟨t, s, q, rfl, rfl, h3, by rw [teq_eq 4 s u g]⟩
        · rw [if_neg g] at h; cases h
theorem vput_no {x : Int} {l : Vl} {p : List Int} {y : Int} {m : Vl} (h : (vput x l p y m).2.2 = false) : vput x l p y m = (0, [], false) := by
  unfold vput at h ⊢
  split
  · split
    · split
      · rename_i e1 e2 e3 _ _ e4 g
        simp only [e1, e2, e3, e4] at h
        rw [if_pos g] at h; cases h
      · rfl
    · rfl
  · rfl
theorem vput_long {x : Int} {l : Vl} {p : List Int} {y : Int} {m : Vl} (h : 4 ≤ p.length) : vput x l p y m = (0, [], false) ∧ vat x l p = (0, [], false) := by
  have key : ∀ t, vt 4 x l = some t → pv p x l = none := by
    intro t ht
    cases e : pv p x l with
    | none => rfl
    | some q => have := pv_len p 4 x l t q ht e; omega
  constructor
  · cases e : (vput x l p y m).2.2 with
    | false => exact vput_no e
    | true =>
      obtain ⟨t, s, q, h1, h2, _, _⟩ := vput_ok e
      rw [key t h1] at h2; cases h2
  · unfold vat
    cases e : vt 4 x l with
    | none => rfl
    | some t => rw [key t e]; rfl
theorem nil_vt : vt 4 0 [] = some [] := rfl
theorem vput_vt (x : Int) (l : Vl) (p : List Int) (y : Int) (m : Vl) : ∃ t, vt 4 (vput x l p y m).1 (vput x l p y m).2.1 = some t := by
  cases e : (vput x l p y m).2.2 with
  | false => rw [vput_no e]; exact ⟨[], rfl⟩
  | true =>
    obtain ⟨t, s, q, h1, h2, h3, h4⟩ := vput_ok e
    rw [vput_of h1 h2 h3 h4]
    exact ⟨t, (wp_all p 4 x l t q y m s 4 h1 h2 h3 h4).1⟩
theorem vput_self (x : Int) (l : Vl) (p : List Int) (y : Int) (m : Vl) (k : Nat) (hk : 20 ≤ k) : laws_lhVal.f k (vput x l p y m).1 (vput x l p y m).2.1 (vput x l p y m).1 (vput x l p y m).2.1 = some true := by
  obtain ⟨t, ht⟩ := vput_vt x l p y m
  exact lhv_self 4 _ _ t k ht (by omega)
theorem vat_refl (x : Int) (l : Vl) (p : List Int) (k : Nat) (hk : 20 ≤ k) : laws_lhVal.f k (vat x l p).1 (vat x l p).2.1 (vat x l p).1 (vat x l p).2.1 = some true := by
  obtain ⟨t, ht⟩ := vat_vt x l p
  exact lhv_self 4 _ _ t k ht (by omega)
theorem vat_of {x : Int} {l : Vl} {p : List Int} {t : Ty} {q : Int × Vl} (h1 : vt 4 x l = some t) (h2 : pv p x l = some q) : vat x l p = (q.1, q.2, true) := by
  unfold vat; rw [h1, h2]; rfl
theorem vat_ok {x : Int} {l : Vl} {p : List Int} (h : (vat x l p).2.2 = true) : ∃ t q, vt 4 x l = some t ∧ pv p x l = some q := by
  unfold vat at h
  cases h1 : vt 4 x l with
  | none => rw [h1] at h; cases h
  | some t =>
    cases h2 : pv p x l with
    | none => rw [h1, h2] at h; cases h
    | some q => exact ⟨t, q, rfl, rfl⟩
end Go.Proofs.Ythfflieeifakdaa.PutLaws
end
section
set_option linter.unusedSimpArgs false
set_option linter.unusedVariables false
namespace Go.Proofs.Ythfflieeifakdaa.Pure
open Go.RowKit Go.Proofs.Ythfflieeifakdaa.PA Go.Proofs.YthfflieeifakdaaW.PrintWords Go.Proofs.YthfflieeifakdaaW.PrintLast Go.Proofs.Ythfflieeifakdaa.Draw Go.Proofs.Ythfflieeifakdaa.Types Go.Proofs.Ythfflieeifakdaa.Paths Go.Proofs.Ythfflieeifakdaa.Vals Go.Proofs.Ythfflieeifakdaa.Ats Go.Proofs.Ythfflieeifakdaa.DrawV Go.Proofs.Ythfflieeifakdaa.DrawP Go.Proofs.Ythfflieeifakdaa.Puts Go.Proofs.Ythfflieeifakdaa.PutLaws
theorem wp_other : ∀ (p : List Int) (n : Nat) (x : Int) (l : Vl) (t : Ty) (q : Int × Vl) (y : Int) (m : Vl) (i : Nat), i < p.length → vt n x l = some t → pv p x l = some q →
    ∃ r, pv (p.take i ++ [wrap64 (1 - rd p (i : Int))]) x l = some r ∧ pv (p.take i ++ [wrap64 (1 - rd p (i : Int))]) (wp p x l y m).1 (wp p x l y m).2 = some r := by
  intro p
  induction p with
  | nil => intro n x l t q y m i hi; simp at hi
  | cons j s ih =>
    intro n x l t q y m i hi h e
    cases n with
    | zero => cases h
    | succ n =>
      rcases vt_cases h with ⟨rfl, rfl, _, _⟩ | ⟨a, b, s1, u1, rfl, rfl, rfl, h1, h2⟩
      · cases e
      · rw [pv_two] at e
        rw [wp_two]
        cases i with
        | zero =>
          have r0 : rd (j :: s) ((0 : Nat) : Int) = j := rfl
          rw [r0, List.take_zero, List.nil_append]
          by_cases h0 : j = 0
          · subst h0
            rw [show wrap64 (1 - 0) = 1 from by rw [w64 (by omega) (by omega)]; rfl]
            simp only [if_true]
            rw [pv_two, pv_two, if_neg (by omega), if_pos rfl, pv_nil]
            exact ⟨_, rfl, rfl⟩
          · rw [if_neg h0] at e ⊢
            by_cases h3 : j = 1
            · subst h3
              rw [show wrap64 (1 - 1) = 0 from by rw [w64 (by omega) (by omega)]; rfl]
              rw [pv_two, pv_two, if_pos rfl, pv_nil]
              exact ⟨_, rfl, rfl⟩
            · rw [if_neg h3] at e; cases e
        | succ i =>
          have r1 : rd (j :: s) (((i + 1 : Nat)) : Int) = rd s (i : Int) := by
            unfold rd
            rw [show (((i + 1 : Nat)) : Int).toNat = i + 1 by omega, show ((i : Nat) : Int).toNat = i by omega]
            simp
          rw [r1, List.take_succ_cons, List.cons_append]
          simp only [List.length_cons] at hi
          by_cases h0 : j = 0
          · rw [if_pos h0] at e ⊢
            obtain ⟨r, g1, g2⟩ := ih n a.f0 a.f1 s1 q y m i (by omega) h1 e
            refine ⟨r, ?_, ?_⟩
            · rw [pv_two, if_pos h0]; exact g1
            · rw [pv_two, if_pos h0]; exact g2
          · rw [if_neg h0] at e ⊢
            by_cases h3 : j = 1
            · rw [if_pos h3] at e
              obtain ⟨r, g1, g2⟩ := ih n b.f0 b.f1 u1 q y m i (by omega) h2 e
              refine ⟨r, ?_, ?_⟩
              · rw [pv_two, if_neg h0, if_pos h3]; exact g1
              · rw [pv_two, if_neg h0, if_pos h3]; exact g2
            · rw [if_neg h3] at e; cases e
theorem FnValOther : laws_FnValOther.Pure := by
  intro l0 l1 _ _ h0 _ _ h1
  obtain ⟨x, v, p, y, m, ht, hl⟩ := drawValPut_ev l0 h0
  refine ⟨7000, ?_⟩
  have key : laws_FnValOther.j0 7000 l0 l1 false = some true := by
    simp only [laws_FnValOther.j0]
    rw [if_neg (by simp), ht 6999 (by omega)]; simp only [Option.bind_some]
    rw [specPut_ev x v p y m 6999 (by omega) (by omega)]; simp only [Option.bind_some]
    rw [implPut_ev x v p y m 6999 (by omega) (by omega)]; simp only [Option.bind_some]
    rw [if_neg (by simp), vput_self x v p y m 6999 (by omega)]; simp only [Option.bind_some, if_true]
    have dull : ∀ a b, laws_FnValOther.j1 6999 l1 p (vput x v p y m).2.2 (vput x v p y m).2.2 true a b (vput x v p y m).1 (vput x v p y m).2.1 (vput x v p y m).1 (vput x v p y m).2.1 = some true := by
      intro a b
      simp only [laws_FnValOther.j1, if_true]
      rw [if_pos (by simp), vput_self x v p y m 6998 (by omega)]; rfl
    cases e : (vput x v p y m).2.2 with
    | false => rw [e] at dull; rw [if_neg (by simp)]; exact dull _ _
    | true =>
      rw [if_pos rfl]
      by_cases hp : p.length = 0
      · rw [show ((p.length : Int) == 0) = true from by simp [hp]]
        rw [e] at dull; exact dull _ _
      · rw [show ((p.length : Int) == 0) = false from by rw [beq_eq_false_iff_ne]; omega]
        simp only [laws_FnValOther.j1]
        rw [if_neg (by simp), if_neg (by omega)]; simp only [Option.bind_some]
        have m0 := Int.emod_nonneg (l1.length : Int) (show (p.length : Int) ≠ 0 by omega)
        have m1 := Int.emod_lt_of_pos (l1.length : Int) (show 0 < (p.length : Int) by omega)
        generalize (l1.length : Int) % (p.length : Int) = c at *
        obtain ⟨i, rfl⟩ := Int.eq_ofNat_of_zero_le m0
        rw [if_pos (by omega), if_pos (by omega)]
        rw [if_pos (by simp; omega), if_pos (by omega)]
        rw [if_pos (by simp; omega), List.nil_append, show (((i : Nat)) : Int).toNat = i by omega]
        obtain ⟨t, s, q, h1, h2, h3, h4⟩ := vput_ok e
        have w := wp_all p 4 x v t q y m s 4 h1 h2 h3 h4
        obtain ⟨r, g1, g2⟩ := wp_other p 4 x v t q y m i (by omega) h1 h2
        have hlen : (p.take i ++ [wrap64 (1 - rd p (i : Int))]).length ≤ 20 := by simp; omega
        generalize p.take i ++ [wrap64 (1 - rd p (i : Int))] = o at *
        rw [vput_of h1 h2 h3 h4]; simp only
        rw [implValAt_ev x v o 6998 (by omega) (by omega)]; simp only [Option.bind_some]
        rw [implValAt_ev _ _ o 6998 (by omega) (by omega)]; simp only [Option.bind_some]
        rw [vat_of h1 g1, vat_of w.1 g2]; simp only [if_true]
        obtain ⟨u, _, hu⟩ := (vt_pv 4 o x v t h1).1 r.1 r.2 g1
        rw [lhv_self 4 r.1 r.2 u 6998 hu (by omega)]; rfl
  have big : laws_FnValOther.j0 7000 l0 l1 true = some true := by simp only [laws_FnValOther.j0, if_true]
  unfold laws_FnValOther.f
  by_cases c : (l0.length : Int) > 1048576
  · rw [if_pos c]; exact big
  · rw [if_neg c]
    by_cases c2 : (l1.length : Int) > 1048576
    · rw [show decide ((l1.length : Int) > 1048576) = true from decide_eq_true c2]; exact big
    · rw [show decide ((l1.length : Int) > 1048576) = false from decide_eq_false c2]; exact key
end Go.Proofs.Ythfflieeifakdaa.Pure
end
section
namespace Go.Proofs.YthfflieeifakdaaW.PrintWords
open Go.ChangeShapes Go.WideShapes
theorem sized_ints {H : Type} {enc : TypeId × Value → H} {P : Program} {W : World} {base : Nat} {spare : Nat → Bool} {held : Bool} {t e : TypeId} {k : IntKind} {a : Option Addr} {len cap : Nat} {d : DataW H} {ps : List MemPlace} {ts : List TypeId} {ds : List (DataW H)} {j : Nat}
    (hsz : (DataW.weightsEach P ts ds).all (· ≤ reachBytes) = true) (ht : ts[j]? = some t) (hd : ds[j]? = some d) (hu : P.underlying t = some (.slice e)) (he : P.underlying e = some (.int k)) (hc : P.cellsOf e = 1) {B : Nat} (hB : P.bytesOf e = B)
    (h : DataW.Trod enc P W base spare held t (.slice a len cap) d ps) : len * B ≤ 140737488351232 := by
  obtain ⟨fuel, hf⟩ := h
  rcases open_ints hu he hc hf with ⟨hcs, _⟩ | ⟨x, l, c, zs, hcs, _, hl, _, hz, hx, _, _⟩
  · simp [Value.cells] at hcs
    obtain ⟨rfl, rfl, rfl⟩ := hcs
    simp
  · simp [Value.cells] at hcs
    obtain ⟨rfl, rfl, rfl⟩ := hcs
    obtain ⟨hx, _⟩ := Prod.mk.inj hx
    subst hx
    have z := sized_slice hsz ht hd hu
    rw [hB] at z
    have hl2 : len ≤ zs.length := by
      rw [hz]
      split
      · exact hl
      · exact Nat.le_refl _
    have h1 : (lits (H := H) k (zs.take len)).length + (lits (H := H) k (zs.drop len)).length = zs.length := by
      simp [lits]
      omega
    rw [h1] at z
    exact Nat.le_trans (Nat.mul_le_mul_right _ hl2) z
end Go.Proofs.YthfflieeifakdaaW.PrintWords
end
section
namespace Go.Proofs.Ythfflieeifakdaa.fnValOther
open Go.ChangeShapes Go.WideShapes Go.ChangeAt Go.RowKit
open Go.ChangeMaps (open_string shut_string)
set_option linter.unusedVariables false
theorem own : ownKnob Try.prog.godebug = none := by kernel_rfl
theorem laidOut : laidOutB Try.prog = true := by kernel_rfl
def IsRow (k : IntKind) (w : World) (a : Option Addr) (len cap : Nat) (zs : List Int) : Prop :=
  (a = none ∧ len = 0 ∧ cap = 0 ∧ zs = []) ∨
  ∃ x, a = some x ∧ len ≤ cap ∧ cap ≤ maxLen ∧ zs.length = cap ∧ (∀ i, i < zs.length → w.cell? (x.add i) = some (.int k (zs.getD i 0))) ∧ ∀ n ∈ zs, (Lit.int k n).wf = true
set_option maxRecDepth 100000 in
theorem lifted (os : Os) (started : os.Started) (H : Type) (enc : TypeId × Value → H) :
    ReturnsInHanded {} Try.checked os 7 .any (Rows.fnValOtherSpec.pre6 enc Try.prog Try.f7 Rows.fnValOtherRow.domain false) (Rows.fnValOtherSpec.post enc Try.prog Try.f7 false true false false) := by
  refine returnsInHanded_of_change_sized (C := Try.checked) own started (by kernel_rfl) Try.func7
    (ChangeSpec.witness6 (enc := enc) (C := Try.checked) false ⟨#[], #[.slice none 0 0, .slice none 0 0], []⟩ 8 (by kernel_rfl) (by kernel_rfl) (by kernel_rfl) (by kernel_rfl)) ?_
  intro W base args ds gs before hval0 hW hcnd hsz0 _
  have hsz : (DataW.weightsEach Try.prog (Try.f7.params.toList ++ Rows.fnValOtherSpec.plain.varTypes Try.prog) (ds ++ gs)).all (· ≤ reachBytes) = true := hsz0
  have hval : ∀ (j : Nat) t v, Try.f7.params[j]? = some t → args[j]? = some v → Value.okWide Try.prog W .any base t v := hval0
  have hW' := hW
  obtain ⟨p, q, hA0, hV, rfl, hfz, hnd⟩ := hW
  have hA : DataW.TrodAll enc Try.prog W 0 (fun _ => true) true Try.f7.params.toList args.toList ds p := hA0
  rw [Try.params7] at hA hval hsz
  obtain ⟨v0, vs0, d0, ds0, p0, q0, hargs, rfl, rfl, h0, r0⟩ := trodAll_cons hA
  obtain ⟨v1, vs1, d1, ds1, p1, q1, rfl, rfl, rfl, h1, r1⟩ := trodAll_cons r0
  obtain ⟨rfl, rfl, rfl⟩ := trodAll_nil r1
  obtain rfl : args = #[v0, v1] := by cases args; simp_all
  obtain ⟨rfl, rfl⟩ := trodVars_none hV
  obtain ⟨a0, len0, cap0, rfl⟩ := okWide_slice Try.underlying22 (hval 0 22 v0 rfl rfl)
  have k0 := h0
  have lt0 : ∀ x ∈ p0, x.block < W.heap.size := by obtain ⟨m, hm⟩ := k0; exact DataW.trod_lt m _ _ _ hm
  obtain ⟨z0, w0⟩ : ∃ zs, IsRow .u8 W a0 len0 cap0 zs := by
    obtain ⟨fuel, hf⟩ := h0
    rcases open_ints Try.underlying22 Try.underlying5 (by kernel_rfl) hf with ⟨hcs, _⟩ | ⟨x, l, c, zs, hcs, _, hl, hm, hz, _, hcell, hwz⟩
    · simp [Value.cells] at hcs
      obtain ⟨rfl, rfl, rfl⟩ := hcs
      exact ⟨[], .inl ⟨rfl, rfl, rfl, rfl⟩⟩
    · simp [Value.cells] at hcs
      obtain ⟨rfl, rfl, rfl⟩ := hcs
      exact ⟨zs, .inr ⟨_, rfl, hl, hm, by simpa using hz, hcell, hwz⟩⟩
  have y0 : len0 * 1 ≤ 140737488351232 := Go.Proofs.YthfflieeifakdaaW.PrintWords.sized_ints hsz (j := 0) (t := 22) rfl rfl Try.underlying22 Try.underlying5 (by kernel_rfl) (by kernel_rfl) h0
  obtain ⟨a1, len1, cap1, rfl⟩ := okWide_slice Try.underlying22 (hval 1 22 v1 rfl rfl)
  have k1 := h1
  have lt1 : ∀ x ∈ p1, x.block < W.heap.size := by obtain ⟨m, hm⟩ := k1; exact DataW.trod_lt m _ _ _ hm
  obtain ⟨z1, w1⟩ : ∃ zs, IsRow .u8 W a1 len1 cap1 zs := by
    obtain ⟨fuel, hf⟩ := h1
    rcases open_ints Try.underlying22 Try.underlying5 (by kernel_rfl) hf with ⟨hcs, _⟩ | ⟨x, l, c, zs, hcs, _, hl, hm, hz, _, hcell, hwz⟩
    · simp [Value.cells] at hcs
      obtain ⟨rfl, rfl, rfl⟩ := hcs
      exact ⟨[], .inl ⟨rfl, rfl, rfl, rfl⟩⟩
    · simp [Value.cells] at hcs
      obtain ⟨rfl, rfl, rfl⟩ := hcs
      exact ⟨zs, .inr ⟨_, rfl, hl, hm, by simpa using hz, hcell, hwz⟩⟩
  have y1 : len1 * 1 ≤ 140737488351232 := Go.Proofs.YthfflieeifakdaaW.PrintWords.sized_ints hsz (j := 1) (t := 22) rfl rfl Try.underlying22 Try.underlying5 (by kernel_rfl) (by kernel_rfl) h1
  clear hA0 hval0 hsz0 hsz
  refine (PA.laws_FnValOther.walk Pure.FnValOther a0 len0 cap0 z0 a1 len1 cap1 z1 W w0 y0 w1 y1).mono fun e W' ⟨he, bel⟩ => ?_
  subst he
  exact ⟨_, rfl, _, _, _, [], _, [], hW', trodAll_mk1 (shut_bool Try.underlying4 _), (trodAll_cons_mk (Below.trod laidOut (by kernel_rfl) (of_decide_eq_true (by kernel_rfl)) k0 bel lt0) (trodAll_cons_mk (Below.trod laidOut (by kernel_rfl) (of_decide_eq_true (by kernel_rfl)) k1 bel lt1) trodAll_mk0)), rfl, bel.frame _, fun h => by cases h⟩
theorem over : Rows.fnValOtherRow.holds Try.pinned (OpenSpec.ofChange Rows.fnValOtherSpec) :=
  OpenClaim.holds_of_wide 7 Try.f7 rfl rfl rfl rfl rfl rfl rfl ⟨rfl, rfl, rfl, rfl, rfl⟩ rfl rfl rfl rfl rfl (by kernel_rfl) Try.func7 (by kernel_rfl)
    (of_decide_eq_true (by kernel_rfl)) (by unfold Func.isWrapper; first | (rw [if_pos (by decide +kernel)]; kernel_rfl) | (rw [if_neg (by decide +kernel)]; exact ⟨rfl, rfl⟩))
    (fun os started H enc _ => lifted os started H enc)
theorem proved : Rows.FnValOtherSaid := over
#print axioms proved
end Go.Proofs.Ythfflieeifakdaa.fnValOther
namespace Go.Proofs.Ythfflieeifakdaa
theorem fnValOther_holds : Rows.FnValOtherSaid := fnValOther.proved
end Go.Proofs.Ythfflieeifakdaa
end
