/- A type's text tells it: drawn types that are ok are the same just if their texts are; for all codes, with no condition. -/
-- USES Types
import Derived.Test.YtjhbhihfifhljaaTypes
import Derived.Test.YtjhbhihfifhljaaPAx32
set_option linter.unusedSimpArgs false
set_option linter.unusedVariables false
namespace Go.Proofs.Ytjhbhihfifhljaa.Pure
open Go.RowKit Go.Proofs.Ytjhbhihfifhljaa.PA Go.Proofs.YtjhbhihfifhljaaW.PrintWords Go.Proofs.YtjhbhihfifhljaaW.PrintLast Go.Proofs.Ytjhbhihfifhljaa.Draw Go.Proofs.Ytjhbhihfifhljaa.Types

theorem FnTypeText : laws_FnTypeText.Pure := by
  intro l0 l1 _ _ h0 _ _ h1
  obtain ⟨a, ha⟩ := drawText_ev l0 h0
  obtain ⟨b, hb⟩ := drawText_ev l1 h1
  refine ⟨40, ?_⟩
  have key : laws_FnTypeText.j0 40 l0 l1 false = some true := by
    simp only [laws_FnTypeText.j0]
    rw [if_neg (by simp), ha 39 (by omega)]; simp only [Option.bind_some, if_true]
    rw [hb 39 (by omega)]; simp only [Option.bind_some, if_true]
    rw [implText_ev a 39 (by omega)]; simp only [Option.bind_some, if_true]
    rw [implText_ev b 39 (by omega)]; simp only [Option.bind_some, if_true]
    rw [specText_ev a 39 (by omega)]; simp only [Option.bind_some, if_true]
    rw [specText_ev b 39 (by omega)]; simp only [Option.bind_some, if_true]
    rw [specOk_ev a 39 (by omega)]; simp only [Option.bind_some, if_true]
    have hodd : laws_FnTypeText.j1 39 (text a) (text b) true a b = some true := by
      simp only [laws_FnTypeText.j1, if_true]
      rw [specText_ev a 38 (by omega)]; simp only [Option.bind_some, if_true]
      rw [specText_ev b 38 (by omega)]; simp only [Option.bind_some, if_true]
      simp
    cases ea : dp 4 a with
    | false => rw [if_neg (by simp)]; exact hodd
    | true =>
      rw [if_pos rfl, specOk_ev b 39 (by omega)]; simp only [Option.bind_some, if_true]
      cases eb : dp 4 b with
      | false => exact hodd
      | true =>
        simp only [laws_FnTypeText.j1]
        rw [if_neg (by simp), lh_ev 4 a b 38 ea eb (by omega)]; simp only [Option.bind_some, if_true]
        have e := text_teq a b ea eb
        have hp : (text a).size > 0 := by unfold text; rw [if_pos ea]; exact tx_pos 4 a
        rw [e]
        simp [hp]
  unfold laws_FnTypeText.f
  have big : laws_FnTypeText.j0 40 l0 l1 true = some true := by simp only [laws_FnTypeText.j0, if_true]
  by_cases c : (l0.length : Int) > 1048576
  · rw [if_pos c]; exact big
  · rw [if_neg c]
    by_cases c2 : (l1.length : Int) > 1048576
    · rw [show decide ((l1.length : Int) > 1048576) = true from decide_eq_true c2]; exact big
    · rw [show decide ((l1.length : Int) > 1048576) = false from decide_eq_false c2]; exact key

end Go.Proofs.Ytjhbhihfifhljaa.Pure
