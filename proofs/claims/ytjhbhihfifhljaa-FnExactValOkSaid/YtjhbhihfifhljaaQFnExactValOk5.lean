-- Ytjhbhihfifhljaa's texts for the statement FnExactValOk, one behind the other (merge.py).
import Derived.Test.YtjhbhihfifhljaaQFnExactValOk3
import Derived.Test.YtjhbhihfifhljaaQFnExactValOk0
import Derived.Test.YtjhbhihfifhljaaQFnExactValOk2
import Derived.Test.YtjhbhihfifhljaaQFnExactValOk1
import Derived.Test.YtjhbhihfifhljaaQFnExactValOk4
import Derived.OpenShut
import Derived.Deep.Slices
import Derived.WalkKit
import Derived.ProofKit
import Derived.ShutString
import Derived.ChangeOld
import Derived.Below
import Derived.SizedLaws
import Derived.ChangeSlices
import Derived.Test.YtjhbhihfifhljaaRows
section
set_option linter.unusedVariables false
namespace Go.Proofs.Ytjhbhihfifhljaa.Vals
open Go.RowKit Go.Proofs.Ytjhbhihfifhljaa.PA Go.Proofs.YtjhbhihfifhljaaW.PrintWords Go.Proofs.YtjhbhihfifhljaaW.PrintLast Go.Proofs.Ytjhbhihfifhljaa.Draw Go.Proofs.Ytjhbhihfifhljaa.Types Go.Proofs.Ytjhbhihfifhljaa.Paths
abbrev Vl := List S55
theorem rv0 (a : S55) (l : Vl) : rd_T55 (a :: l) 0 = a := rfl
theorem rv1 (a b : S55) (l : Vl) : rd_T55 (a :: b :: l) 1 = b := rfl
theorem shapeV (l : Vl) : l = [] ∨ (∃ a b, l = [a, b]) ∨ (l.length ≠ 0 ∧ l.length ≠ 2) := by
  match l with
  | [] => exact .inl rfl
  | [_] => exact .inr (.inr ⟨by simp, by simp⟩)
  | [a, b] => exact .inr (.inl ⟨a, b, rfl⟩)
  | _ :: _ :: _ :: _ => exact .inr (.inr ⟨by simp, by simp⟩)
def vt : Nat → Int → Vl → Option Ty
  | 0, _, _ => none
  | _ + 1, x, [] => if 0 ≤ x ∧ x ≤ 9999 then some [] else none
  | n + 1, x, [a, b] => if x = 0 then (vt n a.f0 a.f1).bind fun s => (vt n b.f0 b.f1).bind fun t => some [⟨s⟩, ⟨t⟩] else none
  | _ + 1, _, _ => none
theorem vt_nil (n : Nat) (x : Int) : vt (n + 1) x [] = if 0 ≤ x ∧ x ≤ 9999 then some [] else none := rfl
theorem vt_two (n : Nat) (x : Int) (a b : S55) : vt (n + 1) x [a, b] = if x = 0 then (vt n a.f0 a.f1).bind fun s => (vt n b.f0 b.f1).bind fun t => some [⟨s⟩, ⟨t⟩] else none := rfl
theorem vt_odd (n : Nat) (x : Int) (l : Vl) (h0 : l.length ≠ 0) (h2 : l.length ≠ 2) : vt n x l = none := by
  cases n with
  | zero => rfl
  | succ n =>
    match l with
    | [] => simp at h0
    | [_] => rfl
    | [_, _] => simp at h2
    | _ :: _ :: _ :: _ => rfl
theorem vt_cases {n : Nat} {x : Int} {l : Vl} {t : Ty} (h : vt (n + 1) x l = some t) :
    (l = [] ∧ t = [] ∧ 0 ≤ x ∧ x ≤ 9999) ∨ ∃ a b s u, l = [a, b] ∧ x = 0 ∧ t = [⟨s⟩, ⟨u⟩] ∧ vt n a.f0 a.f1 = some s ∧ vt n b.f0 b.f1 = some u := by
  rcases shapeV l with rfl | ⟨a, b, rfl⟩ | ⟨h0, h2⟩
  · rw [vt_nil] at h
    split at h
    · rename_i hx
      cases h
      exact .inl ⟨rfl, rfl, hx.1, hx.2⟩
    · cases h
  · rw [vt_two] at h
    split at h
    · rename_i hx
      cases e1 : vt n a.f0 a.f1 with
      | none => rw [e1] at h; cases h
      | some s =>
        cases e2 : vt n b.f0 b.f1 with
        | none => rw [e1, e2] at h; cases h
        | some u =>
          rw [e1, e2] at h
          cases h
          exact .inr ⟨a, b, s, u, rfl, hx, rfl, e1, e2⟩
    · cases h
  · rw [vt_odd _ _ _ h0 h2] at h; cases h
theorem vt_dp : ∀ (n : Nat) (x : Int) (l : Vl) (t : Ty), vt n x l = some t → dp n t = true := by
  intro n
  induction n with
  | zero => intro x l t h; cases h
  | succ n ih =>
    intro x l t h
    rcases vt_cases h with ⟨_, rfl, _, _⟩ | ⟨a, b, s, u, _, _, rfl, h1, h2⟩
    · rfl
    · rw [dp_two, ih _ _ _ h1, ih _ _ _ h2]; rfl
theorem vt_succ : ∀ (n : Nat) (x : Int) (l : Vl) (t : Ty), vt n x l = some t → vt (n + 1) x l = some t := by
  intro n
  induction n with
  | zero => intro x l t h; cases h
  | succ n ih =>
    intro x l t h
    rcases vt_cases h with ⟨rfl, rfl, h0, h1⟩ | ⟨a, b, s, u, rfl, rfl, rfl, h1, h2⟩
    · rw [vt_nil, if_pos ⟨h0, h1⟩]
    · rw [vt_two, if_pos rfl, ih _ _ _ h1, ih _ _ _ h2]; rfl
theorem valType_ev : ∀ (n : Nat), n ≤ 1000 → ∀ (x : Int) (l : Vl) (k : Nat), 2 * n + 2 ≤ k → impl_valType.f k x l n = some (at_ (vt n x l)) := by
  intro n
  induction n with
  | zero =>
    intro _ x l k hk
    obtain ⟨k, rfl⟩ : ∃ m, k = m + 1 := ⟨k - 1, by omega⟩
    simp only [impl_valType.f]
    rw [if_pos (by omega)]; rfl
  | succ n ih =>
    intro hn x l k hk
    obtain ⟨k, rfl⟩ : ∃ m, k = m + 2 := ⟨k - 2, by omega⟩
    have hp := pred_cast n (by omega)
    simp only [impl_valType.f]
    rw [if_neg (by omega)]
    rcases shapeV l with rfl | ⟨a, b, rfl⟩ | ⟨h0, h2⟩
    · rw [if_pos (by simp), vt_nil]
      by_cases h0 : x ≥ 0
      · rw [if_pos h0]
        by_cases h9 : x ≤ 9999
        · rw [if_pos ⟨h0, h9⟩, decide_eq_true h9]; rfl
        · rw [if_neg (fun h => h9 h.2), decide_eq_false h9]; rfl
      · rw [if_neg h0, if_neg (fun h => h0 h.1)]; rfl
    · rw [if_neg (by simp), if_pos (by simp), vt_two]
      simp only [impl_valType.j0, hp, rv0, rv1]
      by_cases hx : x = 0
      · rw [if_neg (by simp [hx]), if_pos (by simp), if_pos hx, ih (by omega) _ _ _ (by omega)]; simp only [Option.bind_some]
        rw [if_pos (by simp), ih (by omega) _ _ _ (by omega)]; simp only [Option.bind_some]
        cases vt n a.f0 a.f1 with
        | none => rfl
        | some s =>
          cases vt n b.f0 b.f1 with
          | none => rfl
          | some u => rfl
      · rw [if_pos (by simpa using hx), if_neg hx]; rfl
    · rw [if_neg (by omega), if_neg (by omega), vt_odd _ _ _ h0 h2]
      simp only [impl_valType.j0, if_true]; rfl
theorem typed_ev (x : Int) (l : Vl) (k : Nat) (hk : 10 ≤ k) : impl_valTyped.f k x l = some (at_ (vt 4 x l)) := by
  unfold impl_valTyped.f
  rw [show (4 : Int) = ((4 : Nat) : Int) from rfl, valType_ev 4 (by omega) x l k (by omega)]; rfl
theorem same_ev : ∀ (n : Nat) (a b : Ty) (k : Nat), dp n a = true → dp n b = true → 4 * n ≤ k → impl_typeSame.f k a b = some (teq n a b) := by
  intro n
  induction n with
  | zero => intro a b k h; simp [dp] at h
  | succ n ih =>
    intro a b k ha hb hk
    obtain ⟨k, rfl⟩ : ∃ m, k = m + 4 := ⟨k - 4, by omega⟩
    simp only [impl_typeSame.f]
    rcases Types.shape a with rfl | ⟨a1, a2, rfl⟩ | ⟨h0, h2⟩
    · rcases Types.shape b with rfl | ⟨b1, b2, rfl⟩ | ⟨h0, h2⟩
      · rw [if_pos rfl]; simp only [impl_typeSame.l0]; rw [if_neg (by simp)]; rfl
      · rw [if_neg (by simp)]; rfl
      · rw [dp_odd _ _ h0 h2] at hb; cases hb
    · rcases Types.shape b with rfl | ⟨b1, b2, rfl⟩ | ⟨h0, h2⟩
      · rw [if_neg (by simp)]; rfl
      · rw [dp_two, Bool.and_eq_true] at ha hb
        rw [if_pos (by simp)]
        simp only [impl_typeSame.l0, w01, w12]
        rw [if_pos (by simp), if_pos (by omega), if_pos (by simp), if_pos (by simp), rd0, rd0, ih _ _ _ ha.1 hb.1 (by omega)]
        simp only [Option.bind_some]
        have e : teq (n + 1) [a1, a2] [b1, b2] = (teq n a1.f0 b1.f0 && teq n a2.f0 b2.f0) := rfl
        rw [e]
        cases h1 : teq n a1.f0 b1.f0 with
        | false => simp
        | true =>
          rw [if_pos rfl, if_pos (by simp), if_pos (by omega), if_pos (by simp), if_pos (by simp), rd1, rd1, ih _ _ _ ha.2 hb.2 (by omega)]
          simp only [Option.bind_some]
          cases h2 : teq n a2.f0 b2.f0 with
          | false => simp
          | true => rw [if_pos rfl, if_neg (by simp)]; rfl
      · rw [dp_odd _ _ h0 h2] at hb; cases hb
    · rw [dp_odd _ _ h0 h2] at ha; cases ha
def vm (n : Nat) (t : Ty) (x : Int) (l : Vl) : Bool := match vt n x l with | some s => teq n s t | none => false
def vo (t : Ty) (x : Int) (l : Vl) : Bool := dp 4 t && vm 4 t x l
theorem implValOk_ev (t : Ty) (x : Int) (l : Vl) (k : Nat) (hk : 20 ≤ k) : impl_ValOk.f k t x l = some (vo t x l) := by
  unfold impl_ValOk.f vo vm
  rw [implOk_ev t k (by omega)]; simp only [Option.bind_some]
  cases d : dp 4 t with
  | false => rfl
  | true =>
    simp only [if_true, Bool.true_and]
    rw [typed_ev x l k (by omega)]; simp only [Option.bind_some]
    cases e : vt 4 x l with
    | none => rfl
    | some s =>
      simp only [at_, if_true]
      rw [same_ev 4 s t k (vt_dp _ _ _ _ e) d (by omega)]; rfl
theorem vm_two (n : Nat) (x : Int) (a b : S30) (c d : S55) : vm (n + 1) [a, b] x [c, d] = ((x == 0) && (vm n a.f0 c.f0 c.f1 && vm n b.f0 d.f0 d.f1)) := by
  unfold vm
  rw [vt_two]
  by_cases hx : x = 0
  · rw [if_pos hx, beq_iff_eq.2 hx]
    cases vt n c.f0 c.f1 with
    | none => rfl
    | some s =>
      cases vt n d.f0 d.f1 with
      | none => simp
      | some u => rfl
  · rw [if_neg hx, beq_eq_false_iff_ne.2 hx]; rfl
theorem l1Val_ev : ∀ (n : Nat) (t : Ty) (x : Int) (l : Vl) (k : Nat), dp n t = true → 5 * n ≤ k → spec_l1Val.f k t x l = some (vm n t x l) := by
  intro n
  induction n with
  | zero => intro t x l k h; simp [dp] at h
  | succ n ih =>
    intro t x l k h hk
    obtain ⟨k, rfl⟩ : ∃ m, k = m + 5 := ⟨k - 5, by omega⟩
    simp only [spec_l1Val.f, spec_l6In.f]
    have bad : ∀ m t x l, spec_l1Val.j0 (m + 1) true t x l = some false := fun m t x l => by simp only [spec_l1Val.j0, if_true]
    rcases Types.shape t with rfl | ⟨a, b, rfl⟩ | ⟨h0, h2⟩
    · rcases shapeV l with rfl | ⟨c, d, rfl⟩ | ⟨g0, g2⟩
      · rw [if_pos (by simp), if_neg (by simp)]
        simp only [vm, vt_nil]
        by_cases hx : x ≥ 0
        · rw [if_pos hx]; simp only [Option.bind_some]
          by_cases h9 : x ≤ 9999
          · rw [decide_eq_true h9, if_pos ⟨hx, h9⟩]
            simp only [spec_l1Val.j0, spec_l1Val.l0, Bool.not_true]
            rw [if_neg (by simp), if_neg (by simp)]; rfl
          · rw [decide_eq_false h9, if_neg (fun h => h9 h.2)]
            exact bad _ _ _ _
        · rw [if_neg hx, if_neg (fun h => hx h.1)]; simp only [Option.bind_some]
          exact bad _ _ _ _
      · rw [if_neg (by simp), bad]
        simp only [vm]
        cases e : vt (n + 1) x [c, d] with
        | none => rfl
        | some s =>
          rcases vt_cases e with ⟨h, _⟩ | ⟨_, _, s, u, _, _, rfl, _, _⟩
          · cases h
          · rfl
      · rw [if_neg (by simp; simpa using g0), bad]
        simp only [vm, vt_odd _ _ _ g0 g2]
    · rcases shapeV l with rfl | ⟨c, d, rfl⟩ | ⟨g0, g2⟩
      · rw [if_neg (by simp), bad]
        simp only [vm, vt_nil]
        split
        · rename_i h; split at h
          · cases h; rfl
          · cases h
        · rfl
      · rw [if_pos (by simp), if_pos (by simp), vm_two]
        by_cases hx : x = 0
        · rw [if_pos hx, if_pos (by omega)]; simp only [Option.bind_some]
          rw [decide_eq_true (by omega)]
          rw [dp_two, Bool.and_eq_true] at h
          simp only [spec_l1Val.j0, spec_l1Val.l0, Bool.not_true, w01, w12]
          rw [if_neg (by simp), if_pos (by simp), if_pos (by omega), if_pos (by simp), rd0, rv0, ih _ _ _ _ h.1 (by omega)]; simp only [Option.bind_some]
          rw [beq_iff_eq.2 hx, Bool.true_and]
          cases e1 : vm n a.f0 c.f0 c.f1 with
          | false => rw [if_neg (by simp)]; rfl
          | true =>
            rw [if_pos rfl, if_pos (by simp), if_pos (by omega), if_pos (by simp), rd1, rv1, ih _ _ _ _ h.2 (by omega)]; simp only [Option.bind_some]
            cases e2 : vm n b.f0 d.f0 d.f1 with
            | false => rw [if_neg (by simp)]; rfl
            | true => rw [if_pos rfl, if_neg (by simp)]; rfl
        · rw [if_neg hx, bad, beq_eq_false_iff_ne.2 hx]; rfl
      · rw [if_neg (by simp; omega), bad]
        simp only [vm, vt_odd _ _ _ g0 g2]
    · rw [dp_odd _ _ h0 h2] at h; cases h
theorem specValOk_ev (t : Ty) (x : Int) (l : Vl) (k : Nat) (hk : 23 ≤ k) : spec_ValOk.f k t x l = some (vo t x l) := by
  unfold spec_ValOk.f vo
  rw [specOk_ev t k (by omega)]; simp only [Option.bind_some]
  cases d : dp 4 t with
  | false => rfl
  | true =>
    simp only [if_true, Bool.true_and]
    rw [l1Val_ev 4 t x l k d (by omega)]; rfl
theorem teq_self (t u : Ty) (n : Nat) (ht : dp n t = true) (hu : dp n u = true) : teq n t u = teq n u t := by
  cases e : teq n t u with
  | true => rw [teq_eq _ _ _ e, teq_refl _ _ hu]
  | false =>
    cases e2 : teq n u t with
    | true => rw [teq_eq _ _ _ e2, teq_refl _ _ ht] at e; cases e
    | false => rfl
theorem vo_iff (t : Ty) (x : Int) (l : Vl) : vo t x l = true ↔ vt 4 x l = some t := by
  unfold vo vm
  constructor
  · intro h
    rw [Bool.and_eq_true] at h
    cases e : vt 4 x l with
    | none => rw [e] at h; cases h.2
    | some s => rw [e] at h; rw [teq_eq _ _ _ h.2]
  · intro h
    have d := vt_dp _ _ _ _ h
    rw [h, d]
    exact teq_refl 4 t d
def pv : List Int → Int → Vl → Option (Int × Vl)
  | [], x, l => some (x, l)
  | i :: r, _, [a, b] => if i = 0 then pv r a.f0 a.f1 else if i = 1 then pv r b.f0 b.f1 else none
  | _ :: _, _, _ => none
theorem pv_nil (x : Int) (l : Vl) : pv [] x l = some (x, l) := by cases l <;> rfl
theorem pv_two (i : Int) (r : List Int) (x : Int) (a b : S55) : pv (i :: r) x [a, b] = if i = 0 then pv r a.f0 a.f1 else if i = 1 then pv r b.f0 b.f1 else none := rfl
theorem pv_odd (i : Int) (r : List Int) (x : Int) (l : Vl) (h : l.length ≠ 2) : pv (i :: r) x l = none := by
  match l with
  | [] => rfl
  | [_] => rfl
  | [_, _] => simp at h
  | _ :: _ :: _ :: _ => rfl
theorem pv_app (p q : List Int) : ∀ x l, pv (p ++ q) x l = (pv p x l).bind fun r => pv q r.1 r.2 := by
  induction p with
  | nil => intro x l; rw [List.nil_append, pv_nil]; rfl
  | cons i r ih =>
    intro x l
    by_cases h : l.length = 2
    · rcases shapeV l with rfl | ⟨a, b, rfl⟩ | ⟨_, h2⟩
      · simp at h
      · rw [List.cons_append, pv_two, pv_two]
        split
        · exact ih _ _
        · split
          · exact ih _ _
          · rfl
      · exact absurd h h2
    · rw [List.cons_append, pv_odd _ _ _ _ h, pv_odd _ _ _ _ h]; rfl
theorem vt_pv (n : Nat) : ∀ (p : List Int) (x : Int) (l : Vl) (t : Ty), vt n x l = some t →
    (∀ y m, pv p x l = some (y, m) → ∃ u, pf p t = some u ∧ vt n y m = some u) ∧ (pv p x l = none → pf p t = none) := by
  intro p
  induction p with
  | nil =>
    intro x l t h
    rw [pv_nil]
    exact ⟨fun y m e => by cases e; exact ⟨t, pf_nil t, h⟩, fun e => by cases e⟩
  | cons i r ih =>
    intro x l t h
    cases n with
    | zero => cases h
    | succ n =>
      rcases vt_cases h with ⟨rfl, rfl, _, _⟩ | ⟨a, b, s, u, rfl, rfl, rfl, h1, h2⟩
      · exact ⟨fun y m e => (by cases e), fun _ => rfl⟩
      · rw [pv_two, pf_two]
        by_cases h0 : i = 0
        · rw [if_pos h0, if_pos h0]; exact ih _ _ _ (vt_succ _ _ _ _ h1)
        · rw [if_neg h0, if_neg h0]
          by_cases h3 : i = 1
          · rw [if_pos h3, if_pos h3]; exact ih _ _ _ (vt_succ _ _ _ _ h2)
          · rw [if_neg h3, if_neg h3]; exact ⟨fun y m e => (by cases e), fun _ => rfl⟩
def av (o : Option (Int × Vl)) : Int × Vl × Bool := match o with | some r => (r.1, r.2, true) | none => (0, [], false)
theorem valLoop_ev : ∀ (r pre : List Int) (x : Int) (l : Vl) (k : Nat), pre.length + r.length ≤ 4611686018427387904 → r.length + 1 ≤ k →
    impl_Val.l0 k (pre ++ r) ((pre ++ r).length : Int) (pre.length : Int) x l = some (av (pv r x l)) := by
  intro r
  induction r with
  | nil =>
    intro pre x l k h1 hk
    obtain ⟨k, rfl⟩ : ∃ m, k = m + 1 := ⟨k - 1, by simp at hk; omega⟩
    simp only [impl_Val.l0]
    rw [if_neg (by simp), pv_nil]; rfl
  | cons i r ih =>
    intro pre x l k h1 hk
    simp only [List.length_cons] at h1 hk
    obtain ⟨k, rfl⟩ : ∃ m, k = m + 1 := ⟨k - 1, by omega⟩
    simp only [impl_Val.l0, impl_Val_parts.f, Option.bind_some]
    have hl : ((pre ++ i :: r).length : Int) = pre.length + 1 + r.length := by simp; omega
    rw [if_pos (by omega), if_pos (by omega), if_pos (by omega), rd_mid]
    rcases shapeV l with rfl | ⟨a, b, rfl⟩ | ⟨_, h2⟩
    · rw [if_neg (by simp), pv_odd _ _ _ _ (by simp)]; rfl
    · rw [if_pos (by simp), pv_two]
      by_cases hn : i < 0
      · rw [if_pos hn, if_neg (by omega), if_neg (by omega)]; rfl
      · rw [if_neg hn]
        by_cases hb : i > 1
        · rw [if_pos hb, if_neg (by omega), if_neg (by omega)]; rfl
        · rw [if_neg hb, if_pos (by omega), if_pos (by simp; omega), w64 (by omega) (by omega)]
          have ea : pre ++ i :: r = (pre ++ [i]) ++ r := by simp
          have el : (pre.length : Int) + 1 = ((pre ++ [i]).length : Int) := by simp
          rw [el, ea]
          by_cases h0 : i = 0
          · rw [if_pos h0, ih _ _ _ _ (by simp; omega) (by omega), h0, rv0]
          · rw [if_neg h0, if_pos (by omega), ih _ _ _ _ (by simp; omega) (by omega), show i = 1 by omega, rv1]
    · rw [if_neg (by omega), pv_odd _ _ _ _ h2]; rfl
theorem implVal_ev (x : Int) (l : Vl) (p : List Int) (k : Nat) (h : p.length ≤ 4611686018427387904) (hk : p.length + 1 ≤ k) : impl_Val.f k x l p = some (av (pv p x l)) := by
  unfold impl_Val.f
  have := valLoop_ev p [] x l k (by simpa using h) hk
  simpa using this
theorem valCopy_ev : ∀ (n : Nat) (x : Int) (l : Vl) (t : Ty) (k : Nat), vt n x l = some t → n ≤ k → impl_valCopy.f k x l = some (x, l) := by
  intro n
  induction n with
  | zero => intro x l t k h; cases h
  | succ n ih =>
    intro x l t k h hk
    obtain ⟨k, rfl⟩ : ∃ m, k = m + 1 := ⟨k - 1, by omega⟩
    simp only [impl_valCopy.f]
    rcases vt_cases h with ⟨rfl, rfl, _, _⟩ | ⟨a, b, s, u, rfl, rfl, rfl, h1, h2⟩
    · rw [if_pos (by simp)]
    · rw [if_neg (by simp), if_pos (by simp), rv0, ih _ _ _ _ h1 (by omega)]; simp only [Option.bind_some]
      rw [if_pos (by simp), rv1, ih _ _ _ _ h2 (by omega)]; simp only [Option.bind_some]
      cases a; cases b; rfl
def vat (x : Int) (l : Vl) (p : List Int) : Int × Vl × Bool := if (vt 4 x l).isSome = true then av (pv p x l) else (0, [], false)
theorem implValAt_ev (x : Int) (l : Vl) (p : List Int) (k : Nat) (h : p.length ≤ 4611686018427387904) (hk : p.length + 20 ≤ k) : impl_ValAt.f k x l p = some (vat x l p) := by
  unfold impl_ValAt.f vat
  rw [typed_ev x l k (by omega)]; simp only [Option.bind_some]
  cases e : vt 4 x l with
  | none => rfl
  | some t =>
    simp only [at_, if_true, Option.isSome_some]
    rw [implVal_ev x l p k h (by omega)]; simp only [Option.bind_some]
    cases e2 : pv p x l with
    | none => rfl
    | some r =>
      obtain ⟨u, _, hu⟩ := (vt_pv 4 p x l t e).1 r.1 r.2 e2
      simp only [av, if_true]
      rw [valCopy_ev 4 r.1 r.2 u k hu (by omega)]; rfl
theorem type_dp (s : List Int) : ∀ (k d : Nat) (p : Int) (r : Ty) (q : Int), d ≤ 1000 → spec_l71Type.f k s p d = some (r, q) → dp (d + 1) r = true := by
  intro k
  induction k using Nat.strongRecOn with
  | _ k ih =>
    intro d p r q hd h
    match k, ih, h with
    | 0, _, h => simp [spec_l71Type.f] at h
    | 1, _, h =>
      simp only [spec_l71Type.f] at h
      split at h
      · simp [spec_l71Type.j0] at h
      · cases e : spec_l6Rd_pick.f 0 s p 3 with
        | none => rw [e] at h; cases h
        | some c => rw [e] at h; simp [spec_l71Type.j0] at h
    | k + 2, ih, h =>
      simp only [spec_l71Type.f] at h
      split at h
      · simp only [spec_l71Type.j0, if_true] at h
        cases h; rfl
      · rename_i h2
        cases e : spec_l6Rd_pick.f (k + 1) s p 3 with
        | none => rw [e] at h; cases h
        | some c =>
          rw [e] at h
          simp only [Option.bind_some, spec_l71Type.j0] at h
          split at h
          · cases h; rfl
          · obtain ⟨d, rfl⟩ : ∃ m, d = m + 1 := ⟨d - 1, by omega⟩
            have ew : wrap64 (((d + 1 : Nat) : Int) - 1) = (d : Int) := pred_cast d (by omega)
            rw [ew] at h
            cases e1 : spec_l71Type.f k s c.2 d with
            | none => rw [e1] at h; cases h
            | some a =>
              rw [e1] at h
              simp only [Option.bind_some] at h
              cases e2 : spec_l71Type.f k s a.2 d with
              | none => rw [e2] at h; cases h
              | some b =>
                rw [e2] at h
                cases h
                rw [dp_two, ih k (by omega) d _ a.1 a.2 (by omega) e1, ih k (by omega) d _ b.1 b.2 (by omega) e2]; rfl
theorem val_ev (s : List Int) (hs : Bytes s) : ∀ (n : Nat) (t : Ty) (p : Int), dp n t = true → 0 ≤ p → p + 2 ^ n ≤ 1099511000000 →
    ∃ x l q, (∀ k, n + 3 ≤ k → spec_l71Val.f k s p t = some (x, l, q)) ∧ p ≤ q ∧ q ≤ p + 2 ^ n ∧ l.length ≤ 2 := by
  intro n
  induction n with
  | zero => intro t p h; simp [dp] at h
  | succ n ih =>
    intro t p h hp hp1
    have hpow : (2 : Int) ^ (n + 1) = 2 ^ n + 2 ^ n := by rw [Int.pow_succ]; omega
    have hpos : (1 : Int) ≤ 2 ^ n := by have := Int.pow_pos (n := 2) (m := n) (by decide); omega
    rw [hpow] at hp1 ⊢
    generalize (2 : Int) ^ n = e at *
    rcases Types.shape t with rfl | ⟨a, b, rfl⟩ | ⟨h0, h2⟩
    · obtain ⟨c, hc, c0, c1⟩ := pick_ev s hs p 7 hp (by omega) (by omega)
      refine ⟨rd [0, 1, 2, 3, 7, 50, 9999] c, [], p + 1, fun k hk => ?_, by omega, by omega, by simp⟩
      obtain ⟨k, rfl⟩ : ∃ m, k = m + 1 := ⟨k - 1, by omega⟩
      simp only [spec_l71Val.f]
      rw [if_pos (by simp)]; simp only [Option.bind_some]
      rw [hc k (by omega)]; simp only [Option.bind_some]
      rw [if_pos c0, if_pos (by simp; omega)]
    · rw [dp_two, Bool.and_eq_true] at h
      obtain ⟨x1, l1, q1, h1, g1, g2, _⟩ := ih a.f0 p h.1 hp (by omega)
      obtain ⟨x2, l2, q2, h3, g3, g4, _⟩ := ih b.f0 q1 h.2 (by omega) (by omega)
      refine ⟨0, [⟨x1, l1⟩, ⟨x2, l2⟩], q2, fun k hk => ?_, by omega, by omega, by simp⟩
      obtain ⟨k, rfl⟩ : ∃ m, k = m + 1 := ⟨k - 1, by omega⟩
      simp only [spec_l71Val.f]
      rw [if_neg (by simp), if_pos (by simp), rd0, h1 k (by omega)]; simp only [Option.bind_some]
      rw [if_pos (by simp), rd1, h3 k (by omega)]; rfl
    · rw [dp_odd _ _ h0 h2] at h; cases h
theorem badLoop_ev (s : List Int) (p : Int) : ∀ (d i : Nat), i + d = 5 → ∀ (x : Int) (l : Vl), ∃ y m, ∀ k, d + 1 ≤ k → spec_l71Bad.l0 k i s p x l = some (y, m, p) := by
  intro d
  induction d with
  | zero =>
    intro i hi x l
    refine ⟨x, l, fun k hk => ?_⟩
    obtain ⟨k, rfl⟩ : ∃ m, k = m + 1 := ⟨k - 1, by omega⟩
    simp only [spec_l71Bad.l0]
    rw [if_neg (by omega)]
  | succ d ih =>
    intro i hi x l
    obtain ⟨y, m, h⟩ := ih (i + 1) (by omega) 0 [⟨x, l⟩, ⟨0, []⟩]
    refine ⟨y, m, fun k hk => ?_⟩
    obtain ⟨k, rfl⟩ : ∃ m, k = m + 1 := ⟨k - 1, by omega⟩
    simp only [spec_l71Bad.l0]
    rw [if_pos (by omega), w64 (by omega) (by omega)]
    exact h k (by omega)
theorem pow20 (n : Nat) (hn : n ≤ 20) : (2 : Int) ^ n ≤ 1048576 := by
  have h : (2 : Nat) ^ n ≤ 2 ^ 20 := Nat.pow_le_pow_right (by decide) hn
  have e : (2 : Nat) ^ 20 = 1048576 := rfl
  rw [e] at h
  have := Int.ofNat_le.2 h
  rwa [Int.natCast_pow] at this
theorem bad_ev (s : List Int) (hs : Bytes s) (n : Nat) (hn : n ≤ 20) (t : Ty) (d : dp n t = true) (p : Int) (hp : 0 ≤ p) (hp1 : p ≤ 1099500000000) :
    ∃ x l q, (∀ k, n + 12 ≤ k → spec_l71Bad.f k s p t = some (x, l, q)) ∧ p ≤ q ∧ q ≤ p + 1048578 := by
  have hmax := pow20 n hn
  obtain ⟨x, l, q, hv, g1, g2, hl⟩ := val_ev s hs n t p d hp (by omega)
  generalize (2 : Int) ^ n = e at *
  obtain ⟨c, hc, c0, c1⟩ := pick_ev s hs q 12 (by omega) (by omega) (by omega)
  by_cases e0 : c = 0
  · obtain ⟨c', hc', c0', c1'⟩ := pick_ev s hs (q + 1) 4 (by omega) (by omega) (by omega)
    refine ⟨rd [(-1), 1, 9999, 10000] c', l, q + 1 + 1, fun k hk => ?_, by omega, by omega⟩
    unfold spec_l71Bad.f
    rw [hv k (by omega)]; simp only [Option.bind_some]
    rw [hc k (by omega)]; simp only [Option.bind_some]
    rw [if_pos e0, hc' k (by omega)]; simp only [Option.bind_some]
    rw [if_pos c0', if_pos (by simp; omega)]
  · by_cases e1 : c = 1
    · refine ⟨x, l ++ [⟨0, []⟩], q + 1, fun k hk => ?_, by omega, by omega⟩
      unfold spec_l71Bad.f
      rw [hv k (by omega)]; simp only [Option.bind_some]
      rw [hc k (by omega)]; simp only [Option.bind_some]
      rw [if_neg e0, if_pos e1, if_pos (by omega)]
    · by_cases e2 : c = 2
      · obtain ⟨y, m, hm⟩ := badLoop_ev s (q + 1) 5 0 rfl x l
        refine ⟨y, m, q + 1, fun k hk => ?_, by omega, by omega⟩
        unfold spec_l71Bad.f
        rw [hv k (by omega)]; simp only [Option.bind_some]
        rw [hc k (by omega)]; simp only [Option.bind_some]
        rw [if_neg e0, if_neg e1, if_pos e2]
        exact hm k (by omega)
      · refine ⟨x, l, q + 1, fun k hk => ?_, by omega, by omega⟩
        unfold spec_l71Bad.f
        rw [hv k (by omega)]; simp only [Option.bind_some]
        rw [hc k (by omega)]; simp only [Option.bind_some]
        rw [if_neg e0, if_neg e1, if_neg e2]
theorem typeN_ev (s : List Int) (hs : Bytes s) (d : Nat) (hd : d ≤ 20) (p : Int) (hp : 0 ≤ p) (hp1 : p ≤ 1099500000000) :
    ∃ r q, (∀ k, 3 * d + 4 ≤ k → spec_l71Type.f k s p d = some (r, q)) ∧ p ≤ q ∧ q ≤ p + 1048576 ∧ dp (d + 1) r = true := by
  have hmax := pow20 d hd
  obtain ⟨r, q, hr, _, h1, h2, _⟩ := type_ev s hs d (by omega) p hp (by omega)
  exact ⟨r, q, hr, h1, by omega, type_dp s _ d p r q (by omega) (hr (3 * d + 4) (Nat.le_refl _))⟩
theorem drawVal_ev (l : List Int) (h : ∀ x ∈ l, (Lit.int .u8 x).wf = true) : ∃ t x v, ∀ k, 60 ≤ k → spec_DrawValOk.f k l = some (t, x, v) := by
  obtain ⟨s, ho, hs⟩ := open_ev l h
  obtain ⟨c, hc, c0, c1⟩ := pick_ev s hs 0 4 (by omega) (by omega) (by omega)
  obtain ⟨cn, rfl⟩ := Int.eq_ofNat_of_zero_le c0
  have ew : wrap64 (1 + (cn : Int)) = ((1 + cn : Nat) : Int) := by rw [w64 (by omega) (by omega)]; omega
  obtain ⟨t, q1, ht, g1, g2, d1⟩ := typeN_ev s hs (1 + cn) (by omega) (0 + 1) (by omega) (by omega)
  obtain ⟨c', hc', c0', c1'⟩ := pick_ev s hs q1 5 (by omega) (by omega) (by omega)
  by_cases e : c' = 0
  · obtain ⟨t2, q2, ht2, g3, g4, d2⟩ := typeN_ev s hs 3 (by omega) (q1 + 1) (by omega) (by omega)
    obtain ⟨x, v, q3, hx, _, _⟩ := bad_ev s hs 4 (by omega) t2 d2 q2 (by omega) (by omega)
    refine ⟨t, x, v, fun k hk => ?_⟩
    unfold spec_DrawValOk.f
    rw [ho]; simp only [Option.bind_some]
    rw [hc k (by omega)]; simp only [Option.bind_some]
    rw [ew, ht k (by omega)]; simp only [Option.bind_some]
    rw [hc' k (by omega)]; simp only [Option.bind_some]
    rw [if_pos e, show (3 : Int) = ((3 : Nat) : Int) from rfl, ht2 k (by omega)]; simp only [Option.bind_some]
    rw [hx k (by omega)]; rfl
  · obtain ⟨x, v, q3, hx, _, _⟩ := bad_ev s hs (1 + cn + 1) (by omega) t d1 (q1 + 1) (by omega) (by omega)
    refine ⟨t, x, v, fun k hk => ?_⟩
    unfold spec_DrawValOk.f
    rw [ho]; simp only [Option.bind_some]
    rw [hc k (by omega)]; simp only [Option.bind_some]
    rw [ew, ht k (by omega)]; simp only [Option.bind_some]
    rw [hc' k (by omega)]; simp only [Option.bind_some]
    rw [if_neg e, hx k (by omega)]; rfl
end Go.Proofs.Ytjhbhihfifhljaa.Vals
end
section
namespace Go.Proofs.Ytjhbhihfifhljaa.OpenV
open Go.ChangeShapes Go.WideShapes Go.ChangeAt Go.RowKit Go.Deep Go.Proofs.Ytjhbhihfifhljaa.PA Go.Proofs.YtjhbhihfifhljaaW.PrintWords Go.Proofs.YtjhbhihfifhljaaW.PrintLast
section
variable {H : Type} {enc : TypeId × Value → H} {P : Program} {w : World} {base : Nat} {spare : Nat → Bool} {held : Bool}
theorem struct2n {t : TypeId} {f0 f1 : Field} {fuel : Nat} {cs : List Value} {x : DataW H × List MemPlace} (ht : P.underlying t = some (.struct #[f0, f1])) (h : DataW.trod enc P w base spare held fuel t cs = some x) :
    ∃ y0 y1 n, fuel = n + 1 ∧ cs.length = P.cellsOf t ∧ DataW.trod enc P w base spare held n f0.type ((cs.drop f0.offset).take (P.cellsOf f0.type)) = some y0 ∧ DataW.trod enc P w base spare held n f1.type ((cs.drop f1.offset).take (P.cellsOf f1.type)) = some y1 := by
  obtain ⟨xs, n, hfu, _, hl, hlen, hf⟩ := DataW.trod_struct ht h
  match xs, hlen with
  | [y0, y1], _ => exact ⟨y0, y1, n, hfu, hl, by simpa using hf 0 f0 rfl, by simpa using hf 1 f1 rfl⟩
end
theorem two_of {α : Type} {l : List α} (h : l.length = 2) : ∃ a b, l = [a, b] := by
  match l, h with
  | [a, b], _ => exact ⟨a, b, rfl⟩
inductive BdV : List S68 → Prop
  | mk {l : List S68} : l.length ≤ 9223372036854775807 → (∀ x ∈ l, (Lit.int .i64 x.f0).wf = true) → (∀ x ∈ l, BdV x.f1) → BdV l
theorem openV {H : Type} {enc : TypeId × Value → H} {W : World} : ∀ (m : Nat) (cs : List Value) (x : DataW H × List MemPlace),
    DataW.trod enc Try.prog W 0 (fun _ => true) true m 68 cs = some x → ∃ y : S68, (Kd.upto F68 2 [68] m).K W y cs ∧ (Lit.int .i64 y.f0).wf = true ∧ BdV y.f1 := by
  intro m
  induction m using Nat.strongRecOn with
  | _ m ih =>
    intro cs x h
    obtain ⟨y0, y1, n, rfl, hl, hf0, hf⟩ := struct2n Try.underlying68 h
    have hc : Try.prog.cellsOf 68 = 2 := by kernel_rfl
    have hci : Try.prog.cellsOf 3 = 1 := by kernel_rfl
    have hcs : Try.prog.cellsOf 66 = 1 := by kernel_rfl
    rw [hc] at hl
    obtain ⟨u, v, rfl⟩ := two_of hl
    have h0 : DataW.trod enc Try.prog W 0 (fun _ => true) true n 3 (([u, v].drop 0).take (Try.prog.cellsOf 3)) = some y0 := hf0
    have h1 : DataW.trod enc Try.prog W 0 (fun _ => true) true n 66 (([u, v].drop 1).take (Try.prog.cellsOf 66)) = some y1 := hf
    rw [hci] at h0
    rw [hcs] at h1
    simp only [List.drop_zero, List.drop_succ_cons, List.take_succ_cons, List.take_zero] at h0 h1
    obtain ⟨i, hi, _, hwi⟩ := DataW.trod_int Try.underlying3 h0
    simp only [List.cons.injEq, and_true] at hi
    subst hi
    rcases DataW.trod_slice Try.underlying66 h1 with ⟨hv, _⟩ | ⟨a, len, cap, elems, rest, n', rfl, hv, _, _, hlc, hcm, hel, hE, _, _⟩
    · refine ⟨⟨i, []⟩, ⟨_, _, rfl, rfl, none, 0, by simpa using hv, Nat.le_refl 0, ⟨rfl, by simp, fun h => absurd h (by simp)⟩⟩, hwi, .mk (by simp) (fun x hx => by cases hx) (fun x hx => by cases hx)⟩
    · rw [hc] at hE
      have key : ∀ i, i < len → ∃ y : S68, ∃ c, W.cells? 0 (a.add (i * 2)) 2 = some c ∧ (Kd.upto F68 2 [68] n').K W y c ∧ (Lit.int .i64 y.f0).wf = true ∧ BdV y.f1 := by
        intro i hi
        have e := hE i hi
        rw [List.getElem?_eq_getElem (by rw [hel]; exact hi)] at e
        obtain ⟨c, h1, h2⟩ := Option.bind_eq_some_iff.1 e
        obtain ⟨y, hy, hw, hb⟩ := ih n' (by omega) c _ h2
        exact ⟨y, c, h1, hy, hw, hb⟩
      have : Inhabited S68 := ⟨⟨0, []⟩⟩
      obtain ⟨f, hff⟩ := choose_lt key
      have hm : maxLen = 9223372036854775807 := by decide
      refine ⟨⟨i, (List.range len).map f⟩, ⟨_, _, rfl, rfl, some a, cap, ?_, ?_, ⟨?_, ?_, fun _ => ⟨a, rfl, fun j p hj => ?_⟩⟩⟩, hwi, .mk ?_ ?_ ?_⟩
      · simpa using hv
      · simpa using hlc
      · simp
      · simp; omega
      · simp only [List.getElem?_map] at hj
        rcases Nat.lt_or_ge j len with hj' | hj'
        · rw [List.getElem?_range hj'] at hj
          simp at hj
          subst hj
          obtain ⟨c, h1, h2, _⟩ := hff j hj'
          obtain ⟨_, hcl, hcc⟩ := World.cells?_some h1
          refine ⟨c, ?_, Kd.upto_K_le mono68 sz68 (Nat.le_succ n') h2, fun i u hu => ?_⟩
          · rw [hcl, sz68]
          · have hi : i < 2 := by
              rw [← hcl]
              exact (List.getElem?_eq_some_iff.1 hu).1
            have := hcc i hi
            rw [hu, Go.Deep.add_add] at this
            rwa [sz68]
        · rw [List.getElem?_eq_none (by simpa using hj')] at hj
          cases hj
      · simp; omega
      · intro x hx
        obtain ⟨j, hj, rfl⟩ := List.mem_map.1 hx
        obtain ⟨c, _, _, h3, _⟩ := hff j (List.mem_range.1 hj)
        exact h3
      · intro x hx
        obtain ⟨j, hj, rfl⟩ := List.mem_map.1 hx
        obtain ⟨c, _, _, _, h3⟩ := hff j (List.mem_range.1 hj)
        exact h3
theorem argV {H : Type} {enc : TypeId × Value → H} {W : World} {cs : Array Value} {d : DataW H} {ps : List MemPlace} (h : DataW.Trod enc Try.prog W 0 (fun _ => true) true 68 (.agg cs) d ps) :
    ∃ (n : Int) (a : Option Addr) (c : Nat) (l : List S68), cs = #[.int .i64 n, .slice a l.length c] ∧ Kd.C k68 W a l.length l ∧ l.length ≤ c ∧ ((Lit.int .i64 n).wf = true ∧ BdV l) := by
  obtain ⟨m, hm⟩ := h
  obtain ⟨y, hK, hw, hB⟩ := openV m _ _ hm
  cases m with
  | zero => exact hK.elim
  | succ n =>
    obtain ⟨_, _, e, rfl, A, c, rfl, l0, g0⟩ := hK
    refine ⟨y.f0, A, c, y.f1, ?_, Kd.fix_C g0, l0, hw, hB⟩
    have e' : cs.toList = [.int .i64 y.f0, .slice A y.f1.length c] := e
    exact Array.toList_inj.1 e'
end Go.Proofs.Ytjhbhihfifhljaa.OpenV
end
section
set_option linter.unusedVariables false
namespace Go.Proofs.Ytjhbhihfifhljaa.ExV
open Go.RowKit Go.Proofs.Ytjhbhihfifhljaa.PA Go.Proofs.YtjhbhihfifhljaaW.PrintWords Go.Proofs.YtjhbhihfifhljaaW.PrintLast Go.Proofs.Ytjhbhihfifhljaa.Draw Go.Proofs.Ytjhbhihfifhljaa.Types Go.Proofs.Ytjhbhihfifhljaa.Vals Go.Proofs.Ytjhbhihfifhljaa.OpenV
open Go.Proofs.Ytjhbhihfifhljaa.ExT (left left_neg left_ok left_bad)
abbrev Lv := List S68
mutual
def cnt : S68 → Nat
  | ⟨_, l⟩ => cnts l
def cnts : List S68 → Nat
  | [] => 0
  | x :: r => 1 + cnt x + cnts r
end
mutual
def cvt : S68 → S55
  | ⟨x, l⟩ => ⟨x, cvl l⟩
def cvl : List S68 → List S55
  | [] => []
  | x :: r => cvt x :: cvl r
end
theorem cnt_f0 (x : S68) : cnt x = cnts x.f1 := by cases x; rw [cnt]
theorem cvt_f0 (x : S68) : cvt x = ⟨x.f0, cvl x.f1⟩ := by cases x; rw [cvt]
theorem cnts_cons (x : S68) (r : Lv) : cnts (x :: r) = 1 + cnts x.f1 + cnts r := by rw [cnts, cnt_f0]
theorem cvl_cons (x : S68) (r : Lv) : cvl (x :: r) = ⟨x.f0, cvl x.f1⟩ :: cvl r := by rw [cvl, cvt_f0]
theorem cvl_length : ∀ l : Lv, (cvl l).length = l.length
  | [] => by rw [cvl]; rfl
  | x :: r => by rw [cvl_cons, List.length_cons, List.length_cons, cvl_length r]
theorem cnts_len : ∀ l : Lv, l.length ≤ cnts l
  | [] => by simp
  | x :: r => by rw [cnts_cons, List.length_cons]; have := cnts_len r; omega
theorem cnts_app : ∀ l r : Lv, cnts (l ++ r) = cnts l + cnts r
  | [], r => by rw [List.nil_append, cnts]; omega
  | x :: l, r => by rw [List.cons_append, cnts_cons, cnts_cons, cnts_app l r]; omega
theorem cvl_app : ∀ l r : Lv, cvl (l ++ r) = cvl l ++ cvl r
  | [], r => by rw [List.nil_append, cvl]; rfl
  | x :: l, r => by rw [List.cons_append, cvl_cons, cvl_cons, cvl_app l r]; rfl
theorem rdL_mid (pre r : Lv) (x : S68) : rd_T68 (pre ++ x :: r) (pre.length : Int) = x := by
  unfold rd_T68
  rw [Int.toNat_natCast, List.getD_eq_getElem?_getD, List.getElem?_append_right (Nat.le_refl _)]
  simp
theorem rdI_mid (pre r : Vl) (x : S55) : rd_T55 (pre ++ x :: r) (pre.length : Int) = x := by
  unfold rd_T55
  rw [Int.toNat_natCast, List.getD_eq_getElem?_getD, List.getElem?_append_right (Nat.le_refl _)]
  simp
theorem bdV_len {l : Lv} (h : BdV l) : l.length ≤ 9223372036854775807 := by cases h; assumption
theorem bdV_mem {l : Lv} (h : BdV l) {x : S68} (hx : x ∈ l) : BdV x.f1 := by cases h with | mk _ _ h => exact h x hx
theorem szLoop_ev (a : Nat) (ha : a ≤ 1048576) (IH : ∀ b, b < a → ∀ (l : Lv), BdV l → ∀ k, 3 * b + 5 ≤ k → laws_szValS.f k l b = some (left b (cnts l))) :
    ∀ (r pre : Lv) (b k : Nat), BdV (pre ++ r) → b < a → pre.length + r.length ≤ 1048576 → 3 * b + 5 + r.length ≤ k →
    laws_szValS.l0 k (pre ++ r) b pre.length = some (left (b + r.length) (cnts r)) := by
  intro r
  induction r with
  | nil =>
    intro pre b k hB hb hl hk
    obtain ⟨k, rfl⟩ : ∃ m, k = m + 1 := ⟨k - 1, by omega⟩
    simp only [laws_szValS.l0]
    rw [if_neg (by simp), left_ok _ _ (by rw [cnts]; omega), cnts]; rfl
  | cons x r ih =>
    intro pre b k hB hb hl hk
    simp only [List.length_cons] at hl hk
    obtain ⟨k, rfl⟩ : ∃ m, k = m + 1 := ⟨k - 1, by omega⟩
    simp only [laws_szValS.l0, laws_szVal.F]
    have hlen : ((pre ++ x :: r).length : Int) = pre.length + 1 + r.length := by simp; omega
    rw [if_pos (by omega), if_pos (by omega), rdL_mid, IH b hb x.f1 (bdV_mem hB (by simp)) k (by omega)]; simp only [Option.bind_some]
    have hc := cnts_len r
    rw [cnts_cons, List.length_cons]
    by_cases h : cnts x.f1 ≤ b
    · have e := left_ok b _ h
      rw [e, if_neg (by omega)]; simp only [Option.bind_some]
      rw [if_neg (by omega), w64 (by omega) (by omega)]
      have ea : pre ++ x :: r = (pre ++ [x]) ++ r := by simp
      have el : (pre.length : Int) + 1 = ((pre ++ [x]).length : Int) := by simp
      rw [el, ea, ih (pre ++ [x]) (b - cnts x.f1) k (by rw [← ea]; exact hB) (by omega) (by simp; omega) (by omega)]
      congr 1
      unfold left
      by_cases h2 : cnts r ≤ b - cnts x.f1 + r.length
      · rw [if_pos h2, if_pos (by omega)]; omega
      · rw [if_neg h2, if_neg (by omega)]
    · rw [left_bad b _ (by omega), if_pos (by omega)]; simp only [Option.bind_some]
      rw [if_pos (by omega), left_bad _ _ (by omega)]
theorem szS_ev : ∀ (a : Nat), a ≤ 1048576 → ∀ (l : Lv), BdV l → ∀ k, 3 * a + 5 ≤ k → laws_szValS.f k l a = some (left a (cnts l)) := by
  intro a
  induction a using Nat.strongRecOn with
  | _ a IH =>
    intro ha l hB k hk
    obtain ⟨k, rfl⟩ : ∃ m, k = m + 2 := ⟨k - 2, by omega⟩
    simp only [laws_szValS.f]
    have hn := bdV_len hB
    have hc := cnts_len l
    rw [w64 (by omega) (by omega)]
    by_cases h : (a : Int) - (l.length : Int) < 0
    · rw [if_pos h, left_bad _ _ (by omega)]
    · rw [if_neg h]
      by_cases h0 : l.length = 0
      · obtain rfl : l = [] := List.length_eq_zero_iff.1 h0
        simp only [laws_szValS.l0]
        rw [if_neg (by simp), cnts, left_ok _ _ (by omega)]; simp
      · have := szLoop_ev a ha (fun b hb l hB k hk => IH b hb (by omega) l hB k hk) l [] (a - l.length) (k + 1) (by simpa using hB) (by omega) (by simp; omega) (by omega)
        simp only [List.nil_append, List.length_nil] at this
        rw [show (a : Int) - (l.length : Int) = ((a - l.length : Nat) : Int) by omega]
        rw [show a - l.length + l.length = a by omega] at this
        exact this
theorem sz_ev (x : Int) (l : Lv) (hB : BdV l) (a : Nat) (ha : a ≤ 1048576) (k : Nat) (hk : 3145733 ≤ k) : laws_szVal.f k x l a = some (left a (cnts l)) := by
  unfold laws_szVal.f laws_szVal.F
  rw [szS_ev a ha l hB k (by omega)]; simp only [Option.bind_some]
  by_cases h : cnts l ≤ a
  · rw [left_ok _ _ h, if_neg (by omega)]
  · rw [left_bad _ _ (by omega)]; rfl
theorem toLoop_ev (c : Nat) (hc : c ≤ 1048576) (IH : ∀ (l : Lv), cnts l < c → ∀ k, 3 * cnts l + 6 ≤ k → laws_toValS.f k l = some (cvl l)) :
    ∀ (r pre : Lv) (k : Nat), cnts (pre ++ r) ≤ c → 3 * cnts r + 5 ≤ k →
    laws_toValS.l0 k (pre ++ r) (cvl pre ++ List.replicate r.length z55) pre.length = some (cvl (pre ++ r)) := by
  intro r
  induction r with
  | nil =>
    intro pre k h1 hk
    obtain ⟨k, rfl⟩ : ∃ m, k = m + 1 := ⟨k - 1, by omega⟩
    simp only [laws_toValS.l0]
    rw [if_neg (by simp)]
    simp
  | cons x r ih =>
    intro pre k h1 hk
    have e1 := cnts_app pre (x :: r)
    rw [cnts_cons] at e1 hk
    have e2 := cnts_len pre
    have e3 := cnts_len r
    obtain ⟨k, rfl⟩ : ∃ m, k = m + 1 := ⟨k - 1, by omega⟩
    simp only [laws_toValS.l0, laws_toVal.F]
    have hlen : ((pre ++ x :: r).length : Int) = pre.length + 1 + r.length := by simp; omega
    rw [if_pos (by omega), if_pos (by omega), rdL_mid, IH x.f1 (by omega) k (by omega)]; simp only [Option.bind_some]
    rw [if_pos (by rw [List.length_append, cvl_length, List.length_replicate, List.length_cons]; omega), w64 (by omega) (by omega)]
    have ea : pre ++ x :: r = (pre ++ [x]) ++ r := by simp
    have el : (pre.length : Int) + 1 = ((pre ++ [x]).length : Int) := by simp
    have es : (cvl pre ++ List.replicate (r.length + 1) z55).set (pre.length : Int).toNat (⟨x.f0, cvl x.f1⟩ : S55) = cvl (pre ++ [x]) ++ List.replicate r.length z55 := by
      rw [Int.toNat_natCast, List.set_append_right _ _ (by rw [cvl_length]; exact Nat.le_refl _), cvl_length, Nat.sub_self, List.replicate_succ, List.set_cons_zero, cvl_app, cvl_cons, cvl]
      simp
    rw [List.length_cons, es, el, ea]
    exact ih (pre ++ [x]) k (by rw [← ea]; exact h1) (by omega)
theorem toS_ev : ∀ (c : Nat), c ≤ 1048576 → ∀ (l : Lv), cnts l ≤ c → ∀ k, 3 * cnts l + 6 ≤ k → laws_toValS.f k l = some (cvl l) := by
  intro c
  induction c using Nat.strongRecOn with
  | _ c IH =>
    intro hc l hl k hk
    obtain ⟨k, rfl⟩ : ∃ m, k = m + 1 := ⟨k - 1, by omega⟩
    simp only [laws_toValS.f]
    have h1 := cnts_len l
    rw [if_pos (by omega), if_pos (by omega), Int.toNat_natCast]
    have := toLoop_ev (cnts l) (by omega) (fun l' hl' k hk => IH (cnts l') (by omega) (by omega) l' (Nat.le_refl _) k hk) l [] k (by simp) (by omega)
    simp only [List.nil_append, List.length_nil] at this
    rw [cvl] at this
    simpa using this
theorem to_ev (x : Int) (l : Lv) (h : cnts l ≤ 1048576) (k : Nat) (hk : 3145740 ≤ k) : laws_toVal.f k x l = some (x, cvl l) := by
  unfold laws_toVal.f laws_toVal.F
  rw [toS_ev 1048576 (Nat.le_refl _) l h k (by omega)]; rfl
mutual
def siz1 : S55 → Nat
  | ⟨_, l⟩ => siz l
def siz : List S55 → Nat
  | [] => 0
  | x :: r => 1 + siz1 x + siz r
end
theorem siz1_f0 (x : S55) : siz1 x = siz x.f1 := by cases x; rw [siz1]
theorem siz_cons (x : S55) (r : Vl) : siz (x :: r) = 1 + siz x.f1 + siz r := by rw [siz, siz1_f0]
theorem siz_len : ∀ l : Vl, l.length ≤ siz l
  | [] => by simp
  | x :: r => by rw [siz_cons, List.length_cons]; have := siz_len r; omega
theorem siz_app : ∀ l r : Vl, siz (l ++ r) = siz l + siz r
  | [], r => by rw [List.nil_append, siz]; omega
  | x :: l, r => by rw [List.cons_append, siz_cons, siz_cons, siz_app l r]; omega
theorem siz_cvl : ∀ (c : Nat) (l : Lv), cnts l ≤ c → siz (cvl l) = cnts l := by
  intro c
  induction c with
  | zero =>
    intro l h
    match l with
    | [] => rw [cvl, siz, cnts]
    | x :: r => rw [cnts_cons] at h; omega
  | succ c ih =>
    intro l h
    match l with
    | [] => rw [cvl, siz, cnts]
    | x :: r =>
      rw [cnts_cons] at h ⊢
      rw [cvl_cons, siz_cons, ih x.f1 (by omega), ih r (by omega)]
theorem siz_vt : ∀ (n : Nat) (x : Int) (l : Vl) (t : Ty), vt n x l = some t → siz l + 2 ≤ 2 ^ (n + 1) := by
  intro n
  induction n with
  | zero => intro x l t h; cases h
  | succ n ih =>
    intro x l t h
    rcases vt_cases h with ⟨rfl, rfl, _, _⟩ | ⟨a, b, s, u, rfl, rfl, rfl, h1, h2⟩
    · rw [siz]; have : 2 ^ 1 ≤ 2 ^ (n + 1 + 1) := Nat.pow_le_pow_right (by decide) (by omega)
      omega
    · have ha := ih _ _ _ h1
      have hb := ih _ _ _ h2
      rw [siz_cons, siz_cons, siz, Nat.pow_succ]
      omega
theorem sameLoop_ev (c : Nat) (hc : c ≤ 1048576) (IH : ∀ (l : Vl), siz l < c → ∀ k, 3 * siz l + 6 ≤ k → laws_eqValS.f k l l = some true) :
    ∀ (r pre : Vl) (k : Nat), siz (pre ++ r) ≤ c → 3 * siz r + 5 ≤ k → laws_eqValS.l0 k (pre ++ r) (pre ++ r) pre.length = some true := by
  intro r
  induction r with
  | nil =>
    intro pre k h1 hk
    obtain ⟨k, rfl⟩ : ∃ m, k = m + 1 := ⟨k - 1, by omega⟩
    simp only [laws_eqValS.l0]
    rw [if_neg (by simp)]
  | cons x r ih =>
    intro pre k h1 hk
    have e1 := siz_app pre (x :: r)
    rw [siz_cons] at e1 hk
    have e2 := siz_len pre
    obtain ⟨k, rfl⟩ : ∃ m, k = m + 1 := ⟨k - 1, by omega⟩
    simp only [laws_eqValS.l0, laws_eqVal.F, if_true]
    have hlen : ((pre ++ x :: r).length : Int) = pre.length + 1 + r.length := by simp; omega
    rw [if_pos (by omega), if_pos (by omega), if_pos (by omega), rdI_mid, IH x.f1 (by omega) k (by omega)]; simp only [Option.bind_some, if_true]
    rw [w64 (by omega) (by omega)]
    have ea : pre ++ x :: r = (pre ++ [x]) ++ r := by simp
    have el : (pre.length : Int) + 1 = ((pre ++ [x]).length : Int) := by simp
    rw [el, ea]
    exact ih (pre ++ [x]) k (by rw [← ea]; exact h1) (by omega)
theorem sameS_ev : ∀ (c : Nat), c ≤ 1048576 → ∀ (l : Vl), siz l ≤ c → ∀ k, 3 * siz l + 6 ≤ k → laws_eqValS.f k l l = some true := by
  intro c
  induction c using Nat.strongRecOn with
  | _ c IH =>
    intro hc l hl k hk
    obtain ⟨k, rfl⟩ : ∃ m, k = m + 1 := ⟨k - 1, by omega⟩
    simp only [laws_eqValS.f, if_true]
    have := sameLoop_ev (siz l) (by omega) (fun l' hl' k hk => IH (siz l') (by omega) (by omega) l' (Nat.le_refl _) k hk) l [] k (by simp) (by omega)
    simpa using this
theorem same_ev (x : Int) (l : Vl) (h : siz l ≤ 1048576) (k : Nat) (hk : 3145740 ≤ k) : laws_eqVal.f k x l x l = some true := by
  unfold laws_eqVal.f laws_eqVal.F
  rw [if_pos rfl, sameS_ev 1048576 (Nat.le_refl _) l h k (by omega)]; rfl
end Go.Proofs.Ytjhbhihfifhljaa.ExV
end
section
set_option linter.unusedSimpArgs false
set_option linter.unusedVariables false
namespace Go.Proofs.Ytjhbhihfifhljaa.Pure
open Go.RowKit Go.Proofs.Ytjhbhihfifhljaa.PA Go.Proofs.YtjhbhihfifhljaaW.PrintWords Go.Proofs.YtjhbhihfifhljaaW.PrintLast Go.Proofs.Ytjhbhihfifhljaa.Draw Go.Proofs.Ytjhbhihfifhljaa.Types Go.Proofs.Ytjhbhihfifhljaa.Vals Go.Proofs.Ytjhbhihfifhljaa.Open Go.Proofs.Ytjhbhihfifhljaa.OpenV
theorem FnExactValOk (l : List S25) (hB : BdT l) (x : Int) (v : List S68) (hV : (Lit.int .i64 x).wf = true ∧ BdV v) : ∃ k, laws_FnExactValOk.f k l x v = some true := by
  obtain ⟨k, hk⟩ : ∃ k : Nat, 3145800 ≤ k := ⟨3145800, Nat.le_refl _⟩
  refine ⟨k, ?_⟩
  unfold laws_FnExactValOk.f
  rw [ExT.sz_ev l hB k (by omega)]; simp only [Option.bind_some]
  by_cases h : ExT.cnts l ≤ 1048576
  · rw [ExT.left_ok _ _ h, if_neg (by omega), ExV.sz_ev x v hV.2 _ (by omega) k (by omega)]; simp only [Option.bind_some]
    by_cases h2 : ExV.cnts v ≤ 1048576 - ExT.cnts l
    · rw [ExT.left_ok _ _ h2, if_neg (by omega), ExT.to_ev l h k (by omega)]; simp only [Option.bind_some]
      rw [ExV.to_ev x v (by omega) k (by omega)]; simp only [Option.bind_some]
      rw [specValOk_ev _ _ _ k (by omega)]; simp only [Option.bind_some]
      rw [implValOk_ev _ _ _ k (by omega)]; simp only [Option.bind_some]
      rw [if_neg (by simp), ExT.eq_ev l h k (by omega)]; simp only [Option.bind_some, if_true]
      rw [ExV.same_ev _ _ (by rw [ExV.siz_cvl _ v (Nat.le_refl _)]; omega) k (by omega)]; rfl
    · rw [ExT.left_bad _ _ (by omega)]; rfl
  · rw [ExT.left_bad _ _ (by omega)]; rfl
end Go.Proofs.Ytjhbhihfifhljaa.Pure
end
section
namespace Go.Proofs.YtjhbhihfifhljaaW.PrintWords
open Go.ChangeShapes Go.WideShapes
end Go.Proofs.YtjhbhihfifhljaaW.PrintWords
end
section
namespace Go.Proofs.Ytjhbhihfifhljaa.fnExactValOk
open Go.ChangeShapes Go.WideShapes Go.ChangeAt Go.RowKit Go.Proofs.Ytjhbhihfifhljaa.PA Go.Proofs.Ytjhbhihfifhljaa.Open Go.Proofs.Ytjhbhihfifhljaa.OpenV Go.Proofs.YtjhbhihfifhljaaW.PrintWords
open Go.ChangeMaps (open_string shut_string)
set_option linter.unusedVariables false
theorem own : ownKnob Try.prog.godebug = none := by kernel_rfl
theorem laidOut : laidOutB Try.prog = true := by kernel_rfl
def IsRow (k : IntKind) (w : World) (a : Option Addr) (len cap : Nat) (zs : List Int) : Prop :=
  (a = none ∧ len = 0 ∧ cap = 0 ∧ zs = []) ∨
  ∃ x, a = some x ∧ len ≤ cap ∧ cap ≤ maxLen ∧ zs.length = cap ∧ (∀ i, i < zs.length → w.cell? (x.add i) = some (.int k (zs.getD i 0))) ∧ ∀ n ∈ zs, (Lit.int k n).wf = true
set_option maxRecDepth 100000 in
theorem lifted (os : Os) (started : os.Started) (H : Type) (enc : TypeId × Value → H) :
    ReturnsInHanded {} Try.checked os 14 .any (Rows.fnExactValOkSpec.pre6 enc Try.prog Try.f14 Rows.fnExactValOkRow.domain false) (Rows.fnExactValOkSpec.post enc Try.prog Try.f14 false true false false) := by
  refine returnsInHanded_of_change_sized (C := Try.checked) own started (by kernel_rfl) Try.func14
    (ChangeSpec.witness6 (enc := enc) (C := Try.checked) false ⟨#[], #[.agg #[.slice none 0 0], .agg #[.int .i64 0, .slice none 0 0]], []⟩ 8 (by kernel_rfl) (by kernel_rfl) (by kernel_rfl) (by kernel_rfl)) ?_
  intro W base args ds gs before hval0 hW hcnd hsz0 _
  have hsz : (DataW.weightsEach Try.prog (Try.f14.params.toList ++ Rows.fnExactValOkSpec.plain.varTypes Try.prog) (ds ++ gs)).all (· ≤ reachBytes) = true := hsz0
  have hval : ∀ (j : Nat) t v, Try.f14.params[j]? = some t → args[j]? = some v → Value.okWide Try.prog W .any base t v := hval0
  have hW' := hW
  obtain ⟨p, q, hA0, hV, rfl, hfz, hnd⟩ := hW
  have hA : DataW.TrodAll enc Try.prog W 0 (fun _ => true) true Try.f14.params.toList args.toList ds p := hA0
  rw [Try.params14] at hA hval hsz
  obtain ⟨v0, vs0, d0, ds0, p0, q0, hargs, rfl, rfl, h0, r0⟩ := trodAll_cons hA
  obtain ⟨v1, vs1, d1, ds1, p1, q1, rfl, rfl, rfl, h1, r1⟩ := trodAll_cons r0
  obtain ⟨rfl, rfl, rfl⟩ := trodAll_nil r1
  obtain rfl : args = #[v0, v1] := by cases args; simp_all
  obtain ⟨rfl, rfl⟩ := trodVars_none hV
  have k0 := h0
  have lt0 : ∀ x ∈ p0, x.block < W.heap.size := by obtain ⟨m, hm⟩ := k0; exact DataW.trod_lt m _ _ _ hm
  obtain ⟨cs0, rfl, _⟩ := okWide_struct Try.underlying25 (hval 0 25 v0 rfl rfl)
  obtain ⟨a0, cap0, l0, rfl, c0, b0, bd0⟩ := argT h0
  have k1 := h1
  have lt1 : ∀ x ∈ p1, x.block < W.heap.size := by obtain ⟨m, hm⟩ := k1; exact DataW.trod_lt m _ _ _ hm
  obtain ⟨cs1, rfl, _⟩ := okWide_struct Try.underlying68 (hval 1 68 v1 rfl rfl)
  obtain ⟨n1, a1, cap1, l1, rfl, c1, b1, bd1⟩ := argV h1
  clear hA0 hval0 hsz0 hsz
  obtain ⟨k, hk⟩ := Pure.FnExactValOk l0 bd0 n1 l1 bd1
  refine (laws_FnExactValOk.calls k _ _ l0 n1 _ _ l1 true W c0 b0 c1 b1 hk ⟨rfl⟩).mono fun e W' ⟨he, bel⟩ => ?_
  subst he
  exact ⟨_, rfl, _, _, _, [], _, [], hW', trodAll_mk1 (shut_bool Try.underlying4 _), (trodAll_cons_mk (Below.trod laidOut (by kernel_rfl) (of_decide_eq_true (by kernel_rfl)) k0 bel lt0) (trodAll_cons_mk (Below.trod laidOut (by kernel_rfl) (of_decide_eq_true (by kernel_rfl)) k1 bel lt1) trodAll_mk0)), rfl, bel.frame _, fun h => by cases h⟩
theorem over : Rows.fnExactValOkRow.holds Try.pinned (OpenSpec.ofChange Rows.fnExactValOkSpec) :=
  OpenClaim.holds_of_wide 14 Try.f14 rfl rfl rfl rfl rfl rfl rfl ⟨rfl, rfl, rfl, rfl, rfl⟩ rfl rfl rfl rfl rfl (by kernel_rfl) Try.func14 (by kernel_rfl)
    (of_decide_eq_true (by kernel_rfl)) (by unfold Func.isWrapper; first | (rw [if_pos (by decide +kernel)]; kernel_rfl) | (rw [if_neg (by decide +kernel)]; exact ⟨rfl, rfl⟩))
    (fun os started H enc _ => lifted os started H enc)
theorem proved : Rows.FnExactValOkSaid := over
end Go.Proofs.Ytjhbhihfifhljaa.fnExactValOk
namespace Go.Proofs.Ytjhbhihfifhljaa
theorem fnExactValOk_holds : Rows.FnExactValOkSaid := fnExactValOk.proved
end Go.Proofs.Ytjhbhihfifhljaa
end
