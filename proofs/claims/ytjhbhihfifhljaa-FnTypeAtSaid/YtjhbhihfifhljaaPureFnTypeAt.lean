/- A part of a part is a part; for all codes, with no condition. -/
-- USES Paths
import Derived.Test.YtjhbhihfifhljaaPaths
import Derived.Test.YtjhbhihfifhljaaPAx31
import Derived.Test.YtjhbhihfifhljaaPAx60
set_option linter.unusedSimpArgs false
set_option linter.unusedVariables false
namespace Go.Proofs.Ytjhbhihfifhljaa.Pure
open Go.RowKit Go.Proofs.Ytjhbhihfifhljaa.PA Go.Proofs.YtjhbhihfifhljaaW.PrintWords Go.Proofs.YtjhbhihfifhljaaW.PrintLast Go.Proofs.Ytjhbhihfifhljaa.Draw Go.Proofs.Ytjhbhihfifhljaa.Types Go.Proofs.Ytjhbhihfifhljaa.Paths

theorem lh_self (t : Ty) (h : dp 4 t = true) (k : Nat) (hk : 16 ≤ k) : laws_lhType.f k t t = some true := by
  rw [lh_ev 4 t t k h h (by omega), teq_refl 4 t h]
theorem tat_two (t : Ty) (p q : List Int) (h : (tat t (p ++ q)).2 = true) : (tat t p).2 = true ∧ tat (tat t p).1 q = tat t (p ++ q) := by
  unfold tat at h ⊢
  split at h
  · rename_i d
    rw [if_pos d, if_pos d]
    rw [pf_app] at h ⊢
    cases e : pf p t with
    | none => rw [e] at h; cases h
    | some u =>
      refine ⟨rfl, ?_⟩
      show (if dp 4 u = true then at_ (pf q u) else ([], false)) = at_ (pf q u)
      rw [if_pos (dp_pf 4 _ _ _ d e)]
  · cases h
theorem FnTypeAt : laws_FnTypeAt.Pure := by
  intro l0 l1 _ _ h0 _ _ h1
  obtain ⟨t, p, ht, hd, hl⟩ := drawTypeAt_ev l0 h0
  refine ⟨80, ?_⟩
  have key : laws_FnTypeAt.j0 80 l0 l1 false = some true := by
    simp only [laws_FnTypeAt.j0]
    rw [if_neg (by simp), ht 79 (by omega)]; simp only [Option.bind_some]
    rw [specTypeAt_ev t p 79 (by omega) (by omega)]; simp only [Option.bind_some]
    rw [implTypeAt_ev t p 79 (by omega) (by omega)]; simp only [Option.bind_some]
    rw [if_neg (by simp), lh_self _ (tat_ok t p) 79 (by omega)]; simp only [Option.bind_some, if_true]
    cases e : (tat t p).2 with
    | false =>
      simp only [laws_FnTypeAt.j1, Bool.not_false, if_true]
      rw [if_pos (by simp), lh_self _ (tat_ok t p) 78 (by omega)]; rfl
    | true =>
      simp only [laws_FnTypeAt.j1, Bool.not_true]
      have ew : wrap64 ((p.length : Int) + 1) = (p.length : Int) + 1 := w64 (by omega) (by omega)
      rw [ew]
      have m0 := Int.emod_nonneg (l1.length : Int) (show (p.length : Int) + 1 ≠ 0 by omega)
      have m1 := Int.emod_lt_of_pos (l1.length : Int) (show 0 < (p.length : Int) + 1 by omega)
      generalize (l1.length : Int) % ((p.length : Int) + 1) = m at *
      rw [if_neg (by simp), if_neg (by omega), if_pos (by omega), if_pos (by omega)]
      have sp := tat_two t (p.take m.toNat) (p.drop m.toNat) (by rw [List.take_append_drop]; exact e)
      rw [List.take_append_drop] at sp
      rw [implTypeAt_ev t (p.take m.toNat) 78 (by simp; omega) (by simp; omega)]; simp only [Option.bind_some]
      rw [implTypeAt_ev (tat t (p.take m.toNat)).1 (p.drop m.toNat) 78 (by simp; omega) (by simp; omega)]; simp only [Option.bind_some]
      rw [if_pos sp.1, sp.2, if_pos e, lh_self _ (tat_ok t p) 78 (by omega)]; rfl
  have big : laws_FnTypeAt.j0 80 l0 l1 true = some true := by simp only [laws_FnTypeAt.j0, if_true]
  unfold laws_FnTypeAt.f
  by_cases c : (l0.length : Int) > 1048576
  · rw [if_pos c]; exact big
  · rw [if_neg c]
    by_cases c2 : (l1.length : Int) > 1048576
    · rw [show decide ((l1.length : Int) > 1048576) = true from decide_eq_true c2]; exact big
    · rw [show decide ((l1.length : Int) > 1048576) = false from decide_eq_false c2]; exact key

end Go.Proofs.Ytjhbhihfifhljaa.Pure
