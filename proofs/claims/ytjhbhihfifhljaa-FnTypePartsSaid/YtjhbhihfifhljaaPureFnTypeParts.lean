/- Each part of a type that is ok is ok; for all codes, with no condition. -/
-- USES Paths
import Derived.Test.YtjhbhihfifhljaaPaths
import Derived.Test.YtjhbhihfifhljaaPAx0
import Derived.Test.YtjhbhihfifhljaaPAx23
set_option linter.unusedSimpArgs false
set_option linter.unusedVariables false
namespace Go.Proofs.Ytjhbhihfifhljaa.Pure
open Go.RowKit Go.Proofs.Ytjhbhihfifhljaa.PA Go.Proofs.YtjhbhihfifhljaaW.PrintWords Go.Proofs.YtjhbhihfifhljaaW.PrintLast Go.Proofs.Ytjhbhihfifhljaa.Draw Go.Proofs.Ytjhbhihfifhljaa.Types Go.Proofs.Ytjhbhihfifhljaa.Paths

theorem parts_end (t : Ty) (h : dp 4 t = true) (k : Nat) (hk : 40 ≤ k) (x : Int) (hx : (t.length : Int) ≤ x) : laws_FnTypeParts.l0 k x t = some true := by
  obtain ⟨k, rfl⟩ : ∃ m, k = m + 1 := ⟨k - 1, by omega⟩
  simp only [laws_FnTypeParts.l0]
  rw [if_neg (by omega)]; simp only [Option.bind_some]
  rw [implTypeAt_ev _ _ k (by simp) (by simp; omega)]; simp only [Option.bind_some]
  rw [implOk_ev _ k (by omega)]; simp only [Option.bind_some]
  rw [specOk_ev _ k (by omega)]; simp only [Option.bind_some]
  rw [if_pos (by simp)]
  congr 1
  unfold tat
  cases e : dp 4 [(⟨t⟩ : S30), ⟨t⟩] with
  | false => rfl
  | true =>
    rw [if_pos rfl, pf_two, if_pos rfl, pf_nil]; rfl
theorem parts_two (a b : S30) (h : dp 4 [a, b] = true) (k : Nat) (hk : 50 ≤ k) : laws_FnTypeParts.l0 k 0 [a, b] = some true := by
  obtain ⟨k, rfl⟩ : ∃ m, k = m + 2 := ⟨k - 2, by omega⟩
  have h' := h
  rw [dp_two, Bool.and_eq_true] at h
  have e := parts_end [a, b] h' k (by omega) 2 (by simp)
  simp only [laws_FnTypeParts.l0, w01, w12]
  rw [if_pos (by simp), if_pos (by omega), rd0, implOk_ev _ _ (by omega)]; simp only [Option.bind_some]
  rw [dp_succ _ _ h.1]; simp only [if_true]
  rw [if_pos (by simp), if_pos (by omega), rd1, implOk_ev _ _ (by omega)]; simp only [Option.bind_some]
  rw [dp_succ _ _ h.2]; simp only [if_true]
  exact e
theorem FnTypeParts : laws_FnTypeParts.Pure := by
  intro l0 _ _ h0
  obtain ⟨t, ht, hd⟩ := drawOk_ev l0 h0
  refine ⟨80, ?_⟩
  unfold laws_FnTypeParts.f
  split
  · rfl
  rw [ht 80 (by omega)]; simp only [Option.bind_some]
  rw [implOk_ev t 80 (by omega)]; simp only [Option.bind_some]
  rw [specOk_ev t 80 (by omega)]; simp only [Option.bind_some]
  rw [if_neg (by simp)]
  cases e : dp 4 t with
  | false =>
    simp only [laws_FnTypeParts.j0, Bool.not_false, if_true]
    rw [specOk_ev t 79 (by omega), e]; rfl
  | true =>
    simp only [laws_FnTypeParts.j0, Bool.not_true]
    rw [if_neg (by simp)]
    rcases Types.shape t with rfl | ⟨a, b, rfl⟩ | ⟨h0, h2⟩
    · exact parts_end _ e 79 (by omega) _ (by simp)
    · exact parts_two a b e 79 (by omega)
    · rw [dp_odd _ _ h0 h2] at e; cases e

end Go.Proofs.Ytjhbhihfifhljaa.Pure
