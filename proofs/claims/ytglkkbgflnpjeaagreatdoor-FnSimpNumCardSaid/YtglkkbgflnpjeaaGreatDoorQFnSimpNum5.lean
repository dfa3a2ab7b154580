-- YtglkkbgflnpjeaaGreatDoor's texts for the statement FnSimpNum, one behind the other (merge.py).
import Derived.Test.YtglkkbgflnpjeaaGreatDoorQFnSimpNum2
import Derived.Test.YtglkkbgflnpjeaaGreatDoorQFnSimpNum4
import Derived.Test.YtglkkbgflnpjeaaGreatDoorProg
import Derived.WalkKit
import Derived.LaidEql
import Derived.Stop.Asserts
import Derived.RowKitTokens
import Derived.Shelf.SlMaps.Clone
import Derived.Laws.Externs
import Derived.Test.YtglkkbgflnpjeaaGreatDoorQFnSimpNum3
import Derived.Below
import Derived.Stop.LaidErr
import Derived.MakeChecks
import Derived.Test.YtglkkbgflnpjeaaGreatDoorRows
import Derived.ProofKit
import Derived.OpenShut
import Derived.ShutString
import Derived.ChangeOld
import Derived.ChangeSlices
import Derived.Carry
import Derived.OpenVars
import Derived.SizedLaws
import Derived.Test.YtglkkbgflnpjeaaGreatDoorCards
import Derived.Test.YtglkkbgflnpjeaaGreatDoorTie
import Derived.SevenTiedAt
import Derived.LaidMore
import Derived.LaidLaws
import Derived.Handed
import Derived.Stop.Joined
import Derived.Lib.LaidTab
section
namespace Go.Proofs.YtglkkbgflnpjeaaGreatDoor.K
open Go Go.RowKit Go.Proofs.YtglkkbgflnpjeaaGreatDoor.En Go.Proofs.YtglkkbgflnpjeaaGreatDoor.Ty Go.Proofs.YtglkkbgflnpjeaaGreatDoor.B
set_option maxRecDepth 100000
set_option linter.unusedSimpArgs false
set_option linter.unusedVariables false
set_option pp.deepTerms false
set_option pp.deepTerms.threshold 8
set_option pp.maxSteps 1000
set_option maxHeartbeats 1000000
theorem termOkB (G : Nat → Option PV) {H : List AObj} (hH : HSh H) (fid : FuncId) (R : PV) (ci : Nat) (bd : ByteArray → Bool) (hb : ∀ s, FE Tryz.prog G fid [.ag [.p R, .mp (.S ci)], .p (ps s)] H (RB (bd s) H)) :
    ∀ (n : Nat), n ≤ 1000 → ∀ (t : Mn), FE Tryz.prog G 13 [.p (pm t), .p (pi n), .bf fid [.ag [.p R, .mp (.S ci)]]] H (RB (tk (fun s => pw s && bd s) n t) H) := by
  intro n
  induction n with
  | zero =>
    intro _ t
    refine ⟨?_, RB_ne _ hH⟩
    refine bdy Tryz.func13 (fun _ => 0) rfl ?_; try (first | refine dr3 ?_ | refine dr4 ?_)
    refine rn T 99 [] ?_; try (first | refine dr3 ?_ | refine dr4 ?_)
    refine rn T 99 [] ?_; try (first | refine dr3 ?_ | refine dr4 ?_)
    refine cts ?_; try (first | refine dr3 ?_ | refine dr4 ?_)
    refine rn T 99 [] ?_; try (first | refine dr3 ?_ | refine dr4 ?_)
    exact ⟨[_], ⟨_, _, rfl, .inl rfl, rfl⟩, .p, rfl, rfl⟩
  | succ n ih =>
    intro hn ⟨k, m, s, p, l⟩
    refine ⟨?_, RB_ne _ hH⟩
    let nmf : ByteArray → Bool := fun s => pw s && bd s
    show FC _ _ _ [.p (.ag [pi k, pi m, ps s, .row 1 (p.map pi), .row 5 (l.map eM)]), _, _] _ _
    refine bdy Tryz.func13 (fun _ => 0) rfl ?_; try (first | refine dr3 ?_ | refine dr4 ?_)
    refine rn T 99 [] ?_; try (first | refine dr3 ?_ | refine dr4 ?_)
    refine rn T 99 [] ?_; try (first | refine dr3 ?_ | refine dr4 ?_)
    refine cfq rfl (by simp; omega) ?_; try (first | refine dr3 ?_ | refine dr4 ?_)
    refine rn T 99 [] ?_; try (first | refine dr3 ?_ | refine dr4 ?_)
    refine rn T 99 [] ?_; try (first | refine dr3 ?_ | refine dr4 ?_)
    refine rn T 99 [] ?_; try (first | refine dr3 ?_ | refine dr4 ?_)
    by_cases k1 : k = 1
    · subst k1
      refine cts ?_; try (first | refine dr3 ?_ | refine dr4 ?_)
      repeat' (first | (with_reducible refine n16 ?_) | (with_reducible refine EOps.ci ?_; first | refine EOps.one T [] rfl (by first | exact True.intro | exact ⟨True.intro, True.intro⟩) ?_ | (refine EOps.sp rfl ?_ ?_ <;> intro hc_ <;> rw [hc_] <;> first | replace hc_ := of_decide_eq_true hc_ | replace hc_ := of_decide_eq_false hc_ | replace hc_ := of_decide_eq_false (Eq.mp (Bool.not_eq_true' _) hc_) | replace hc_ := of_decide_eq_true (Eq.mp (Bool.not_eq_false' _) hc_) | skip)))
      all_goals (refine op ?_; try (first | refine dr3 ?_ | refine dr4 ?_))
      all_goals (try ((refine cts ?_; try (first | refine dr3 ?_ | refine dr4 ?_)); (refine rn T 99 [] ?_; try (first | refine dr3 ?_ | refine dr4 ?_)); (exact ⟨[_], ⟨_, _, rfl, .inl rfl, rfl⟩, .p, RB_of (c := false) (by rw [tk_eq, tkH_1]; refine Bool.eq_false_iff.2 (fun hq => ?_); simp only [Bool.and_eq_true, decide_eq_true_eq] at hq; first | omega | (simp at *; done) | (simp at *; omega) | simp_all | (simp_all; omega)) ⟨rfl, rfl⟩⟩); done))
      by_cases hm : m > 9999
      · refine ctq rfl (by simp [hm]) ?_; try (first | refine dr3 ?_ | refine dr4 ?_)
        refine rn T 99 [] ?_; try (first | refine dr3 ?_ | refine dr4 ?_)
        exact ⟨[_], ⟨_, _, rfl, .inl rfl, rfl⟩, .p, RB_of (c := false) (by rw [tk_eq, tkH_1]; refine Bool.eq_false_iff.2 (fun hq => ?_); simp only [Bool.and_eq_true, decide_eq_true_eq] at hq; first | omega | (simp at *; done) | (simp at *; omega) | simp_all | (simp_all; omega)) ⟨rfl, rfl⟩⟩
      · refine cfq rfl (by simp [hm]) ?_; try (first | refine dr3 ?_ | refine dr4 ?_)
        refine rn T 99 [] ?_; try (first | refine dr3 ?_ | refine dr4 ?_)
        repeat' (first | (with_reducible refine n16 ?_) | (with_reducible refine EOps.ci ?_; first | refine EOps.one T [] rfl (by first | exact True.intro | exact ⟨True.intro, True.intro⟩) ?_ | (refine EOps.sp rfl ?_ ?_ <;> intro hc_ <;> rw [hc_] <;> first | replace hc_ := of_decide_eq_true hc_ | replace hc_ := of_decide_eq_false hc_ | replace hc_ := of_decide_eq_false (Eq.mp (Bool.not_eq_true' _) hc_) | replace hc_ := of_decide_eq_true (Eq.mp (Bool.not_eq_false' _) hc_) | skip)))
        all_goals (refine op ?_; try (first | refine dr3 ?_ | refine dr4 ?_))
        all_goals (try ((refine cts ?_; try (first | refine dr3 ?_ | refine dr4 ?_)); (refine rn T 99 [] ?_; try (first | refine dr3 ?_ | refine dr4 ?_)); (exact ⟨[_], ⟨_, _, rfl, .inl rfl, rfl⟩, .p, RB_of (c := false) (by rw [tk_eq, tkH_1]; refine Bool.eq_false_iff.2 (fun hq => ?_); simp only [Bool.and_eq_true, decide_eq_true_eq] at hq; first | omega | (simp at *; done) | (simp at *; omega) | simp_all | (simp_all; omega)) ⟨rfl, rfl⟩⟩); done))
        by_cases hk : l.length = 0
        · refine cfq rfl (by simp [hk]) ?_; try (first | refine dr3 ?_ | refine dr4 ?_)
          refine rn T 99 [] ?_; try (first | refine dr3 ?_ | refine dr4 ?_)
          refine lpw (fun i : Nat => MS.mk [(82, .p (pi i)), (81, .p (pi (l.map eM).length)), (80, .p (.row 5 (l.map eM))), (2, .bf fid [.ag [.p R, .mp (.S ci)]]), (1, .p (pi (n + 1 : Nat)))] 93 [] H) (fun m i => m + i = l.length ∧ (l.drop i).all (tk nmf n) = l.all (tk nmf n)) (l.length) (0) (by simp) ?_
          intro m2 i ⟨h1, h2⟩
          refine op ?_; try (first | refine dr3 ?_ | refine dr4 ?_)
          refine rn T 99 [] ?_; try (first | refine dr3 ?_ | refine dr4 ?_)
          by_cases hi : i < l.length
          · obtain ⟨x, hx, hd⟩ := drop_ix hi
            rw [hd, List.all_cons] at h2
            refine ctq rfl (by simp [hi]) ?_; try (first | refine dr3 ?_ | refine dr4 ?_)
            refine rn T 99 [pm x] ?_; try (first | refine dr3 ?_ | refine dr4 ?_)
            refine rn T 99 [] ?_; try (first | refine dr3 ?_ | refine dr4 ?_)
            rw [wkP (by omega)]
            refine hes (ih (by omega) x) ?_; rintro _ _ ⟨rfl, rfl⟩ _ _; refine op ?_; try (first | refine dr3 ?_ | refine dr4 ?_)
            refine rn T 99 [] ?_; try (first | refine dr3 ?_ | refine dr4 ?_)
            cases hx2 : tk nmf n x with
            | false =>
              refine ctq rfl (by simp [nmf] at hx2; simp [hx2]) ?_; try (first | refine dr3 ?_ | refine dr4 ?_)
              refine rn T 99 [] ?_; try (first | refine dr3 ?_ | refine dr4 ?_)
              exact ⟨[_], ⟨_, _, rfl, .inl rfl, rfl⟩, .p, RB_of (c := false) (by rw [tk_eq, ← h2, hx2]; simp) ⟨rfl, rfl⟩⟩
            | true =>
              rw [hx2, Bool.true_and] at h2
              refine cfq rfl (by simp [nmf] at hx2; simp [hx2]) ?_; try (first | refine dr3 ?_ | refine dr4 ?_)
              refine rn T 99 [] ?_; try (first | refine dr3 ?_ | refine dr4 ?_)
              rw [wkS (by omega)]
              refine nxt (m2 - 1) (i + 1) (⟨by omega, h2⟩)
          · refine cfq rfl (by simp [hi]) ?_; try (first | refine dr3 ?_ | refine dr4 ?_)
            refine rn T 99 [] ?_; try (first | refine dr3 ?_ | refine dr4 ?_)
            exact ⟨[_], ⟨_, _, rfl, .inl rfl, rfl⟩, .p, RB_of (c := true) (by rw [tk_eq, tkH_1, ← h2, List.drop_eq_nil_of_le (by omega)]; simp only [List.all_nil, Bool.and_true, Bool.and_eq_true, decide_eq_true_eq]; (repeat' apply And.intro) <;> first | omega | assumption | (simp at *; assumption) | (simp at *; omega) | (simp_all; done) | (simp_all; omega)) ⟨rfl, rfl⟩⟩
        · refine ctq rfl (by simp only [List.length_map, bne_iff_ne, ne_eq]; omega) ?_; try (first | refine dr3 ?_ | refine dr4 ?_)
          refine rn T 99 [] ?_; try (first | refine dr3 ?_ | refine dr4 ?_)
          exact ⟨[_], ⟨_, _, rfl, .inl rfl, rfl⟩, .p, RB_of (c := false) (by rw [tk_eq, tkH_1]; refine Bool.eq_false_iff.2 (fun hq => ?_); simp only [Bool.and_eq_true, decide_eq_true_eq] at hq; first | omega | (simp at *; done) | (simp at *; omega) | simp_all | (simp_all; omega)) ⟨rfl, rfl⟩⟩
    · refine cfq rfl (by simp [k1]) ?_; try (first | refine dr3 ?_ | refine dr4 ?_)
      refine rn T 99 [] ?_; try (first | refine dr3 ?_ | refine dr4 ?_)
      by_cases k2 : k = 2
      · subst k2
        refine cts ?_; try (first | refine dr3 ?_ | refine dr4 ?_)
        cases hw : pw s with
        | false =>
          have hc := word2 G s
          rw [hw] at hc
          refine rn T 99 [] ?_; try (first | refine dr3 ?_ | refine dr4 ?_)
          refine pcs (hc) ?_; try (first | refine dr3 ?_ | refine dr4 ?_)
          refine rn T 99 [] ?_; try (first | refine dr3 ?_ | refine dr4 ?_)
          refine cts ?_; try (first | refine dr3 ?_ | refine dr4 ?_)
          refine rn T 99 [] ?_; try (first | refine dr3 ?_ | refine dr4 ?_)
          exact ⟨[_], ⟨_, _, rfl, .inl rfl, rfl⟩, .p, RB_of (c := false) (by rw [tk_eq, tkH_2]; simp [hw]) ⟨rfl, rfl⟩⟩
        | true =>
          have hc := word2 G s
          rw [hw] at hc
          refine rn T 99 [] ?_; try (first | refine dr3 ?_ | refine dr4 ?_)
          refine pcs (hc) ?_; try (first | refine dr3 ?_ | refine dr4 ?_)
          refine rn T 99 [] ?_; try (first | refine dr3 ?_ | refine dr4 ?_)
          refine hesB (hb s) ?_; rintro _ _ ⟨rfl, rfl⟩ _ _; refine op ?_; try (first | refine dr3 ?_ | refine dr4 ?_)
          refine rn T 99 [] ?_; try (first | refine dr3 ?_ | refine dr4 ?_)
          cases hbd : bd s with
          | false =>
            refine ctq rfl (by simp [hbd]) ?_; try (first | refine dr3 ?_ | refine dr4 ?_)
            refine rn T 99 [] ?_; try (first | refine dr3 ?_ | refine dr4 ?_)
            exact ⟨[_], ⟨_, _, rfl, .inl rfl, rfl⟩, .p, RB_of (c := false) (by rw [tk_eq, tkH_2]; simp [hbd]) ⟨rfl, rfl⟩⟩
          | true =>
            refine cfq rfl (by simp [hbd]) ?_; try (first | refine dr3 ?_ | refine dr4 ?_)
            refine rn T 99 [] ?_; try (first | refine dr3 ?_ | refine dr4 ?_)
            repeat' (first | (with_reducible refine n16 ?_) | (with_reducible refine EOps.ci ?_; first | refine EOps.one T [] rfl (by first | exact True.intro | exact ⟨True.intro, True.intro⟩) ?_ | (refine EOps.sp rfl ?_ ?_ <;> intro hc_ <;> rw [hc_] <;> first | replace hc_ := of_decide_eq_true hc_ | replace hc_ := of_decide_eq_false hc_ | replace hc_ := of_decide_eq_false (Eq.mp (Bool.not_eq_true' _) hc_) | replace hc_ := of_decide_eq_true (Eq.mp (Bool.not_eq_false' _) hc_) | skip)))
            all_goals (refine op ?_; try (first | refine dr3 ?_ | refine dr4 ?_))
            all_goals (try ((refine cts ?_; try (first | refine dr3 ?_ | refine dr4 ?_)); (refine rn T 99 [] ?_; try (first | refine dr3 ?_ | refine dr4 ?_)); (exact ⟨[_], ⟨_, _, rfl, .inl rfl, rfl⟩, .p, RB_of (c := false) (by rw [tk_eq, tkH_2]; refine Bool.eq_false_iff.2 (fun hq => ?_); simp only [Bool.and_eq_true, decide_eq_true_eq] at hq; first | omega | (simp at *; done) | (simp at *; omega) | simp_all | (simp_all; omega)) ⟨rfl, rfl⟩⟩); done))
            by_cases hk : l.length = 0
            · refine cfq rfl (by simp [hk]) ?_; try (first | refine dr3 ?_ | refine dr4 ?_)
              refine rn T 99 [] ?_; try (first | refine dr3 ?_ | refine dr4 ?_)
              refine lpw (fun i : Nat => MS.mk [(82, .p (pi i)), (81, .p (pi (l.map eM).length)), (80, .p (.row 5 (l.map eM))), (2, .bf fid [.ag [.p R, .mp (.S ci)]]), (1, .p (pi (n + 1 : Nat)))] 93 [] H) (fun m i => m + i = l.length ∧ (l.drop i).all (tk nmf n) = l.all (tk nmf n)) (l.length) (0) (by simp) ?_
              intro m2 i ⟨h1, h2⟩
              refine op ?_; try (first | refine dr3 ?_ | refine dr4 ?_)
              refine rn T 99 [] ?_; try (first | refine dr3 ?_ | refine dr4 ?_)
              by_cases hi : i < l.length
              · obtain ⟨x, hx, hd⟩ := drop_ix hi
                rw [hd, List.all_cons] at h2
                refine ctq rfl (by simp [hi]) ?_; try (first | refine dr3 ?_ | refine dr4 ?_)
                refine rn T 99 [pm x] ?_; try (first | refine dr3 ?_ | refine dr4 ?_)
                refine rn T 99 [] ?_; try (first | refine dr3 ?_ | refine dr4 ?_)
                rw [wkP (by omega)]
                refine hes (ih (by omega) x) ?_; rintro _ _ ⟨rfl, rfl⟩ _ _; refine op ?_; try (first | refine dr3 ?_ | refine dr4 ?_)
                refine rn T 99 [] ?_; try (first | refine dr3 ?_ | refine dr4 ?_)
                cases hx2 : tk nmf n x with
                | false =>
                  refine ctq rfl (by simp [nmf] at hx2; simp [hx2]) ?_; try (first | refine dr3 ?_ | refine dr4 ?_)
                  refine rn T 99 [] ?_; try (first | refine dr3 ?_ | refine dr4 ?_)
                  exact ⟨[_], ⟨_, _, rfl, .inl rfl, rfl⟩, .p, RB_of (c := false) (by rw [tk_eq, ← h2, hx2]; simp) ⟨rfl, rfl⟩⟩
                | true =>
                  rw [hx2, Bool.true_and] at h2
                  refine cfq rfl (by simp [nmf] at hx2; simp [hx2]) ?_; try (first | refine dr3 ?_ | refine dr4 ?_)
                  refine rn T 99 [] ?_; try (first | refine dr3 ?_ | refine dr4 ?_)
                  rw [wkS (by omega)]
                  refine nxt (m2 - 1) (i + 1) (⟨by omega, h2⟩)
              · refine cfq rfl (by simp [hi]) ?_; try (first | refine dr3 ?_ | refine dr4 ?_)
                refine rn T 99 [] ?_; try (first | refine dr3 ?_ | refine dr4 ?_)
                exact ⟨[_], ⟨_, _, rfl, .inl rfl, rfl⟩, .p, RB_of (c := true) (by rw [tk_eq, tkH_2, ← h2, List.drop_eq_nil_of_le (by omega)]; simp only [List.all_nil, Bool.and_true, Bool.and_eq_true, decide_eq_true_eq]; (repeat' apply And.intro) <;> first | omega | assumption | (simp at *; assumption) | (simp at *; omega) | (simp_all; done) | (simp_all; omega)) ⟨rfl, rfl⟩⟩
            · refine ctq rfl (by simp only [List.length_map, bne_iff_ne, ne_eq]; omega) ?_; try (first | refine dr3 ?_ | refine dr4 ?_)
              refine rn T 99 [] ?_; try (first | refine dr3 ?_ | refine dr4 ?_)
              exact ⟨[_], ⟨_, _, rfl, .inl rfl, rfl⟩, .p, RB_of (c := false) (by rw [tk_eq, tkH_2]; refine Bool.eq_false_iff.2 (fun hq => ?_); simp only [Bool.and_eq_true, decide_eq_true_eq] at hq; first | omega | (simp at *; done) | (simp at *; omega) | simp_all | (simp_all; omega)) ⟨rfl, rfl⟩⟩
      · refine cfq rfl (by simp [k2]) ?_; try (first | refine dr3 ?_ | refine dr4 ?_)
        refine rn T 99 [] ?_; try (first | refine dr3 ?_ | refine dr4 ?_)
        by_cases k3 : k = 3 ∨ k = 4 ∨ k = 5 ∨ k = 6
        · rcases k3 with rfl | rfl | rfl | rfl
          · refine cts ?_; try (first | refine dr3 ?_ | refine dr4 ?_)
            refine cts ?_; try (first | refine dr3 ?_ | refine dr4 ?_)
            refine rn T 99 [] ?_; try (first | refine dr3 ?_ | refine dr4 ?_)
            repeat' (first | (with_reducible refine n16 ?_) | (with_reducible refine EOps.ci ?_; first | refine EOps.one T [] rfl (by first | exact True.intro | exact ⟨True.intro, True.intro⟩) ?_ | (refine EOps.sp rfl ?_ ?_ <;> intro hc_ <;> rw [hc_] <;> first | replace hc_ := of_decide_eq_true hc_ | replace hc_ := of_decide_eq_false hc_ | replace hc_ := of_decide_eq_false (Eq.mp (Bool.not_eq_true' _) hc_) | replace hc_ := of_decide_eq_true (Eq.mp (Bool.not_eq_false' _) hc_) | skip)))
            all_goals (refine op ?_; try (first | refine dr3 ?_ | refine dr4 ?_))
            all_goals (try ((refine cts ?_; try (first | refine dr3 ?_ | refine dr4 ?_)); (refine rn T 99 [] ?_; try (first | refine dr3 ?_ | refine dr4 ?_)); (exact ⟨[_], ⟨_, _, rfl, .inl rfl, rfl⟩, .p, RB_of (c := false) (by rw [tk_eq, tkH_3 _ 3 m s p l (by decide)]; refine Bool.eq_false_iff.2 (fun hq => ?_); simp only [Bool.and_eq_true, decide_eq_true_eq] at hq; first | omega | (simp at *; done) | (simp at *; omega) | simp_all | (simp_all; omega)) ⟨rfl, rfl⟩⟩); done))
            by_cases hk : l.length = 2
            · refine cfq rfl (by simp [hk]) ?_; try (first | refine dr3 ?_ | refine dr4 ?_)
              refine rn T 99 [] ?_; try (first | refine dr3 ?_ | refine dr4 ?_)
              refine lpw (fun i : Nat => MS.mk [(82, .p (pi i)), (81, .p (pi (l.map eM).length)), (80, .p (.row 5 (l.map eM))), (2, .bf fid [.ag [.p R, .mp (.S ci)]]), (1, .p (pi (n + 1 : Nat)))] 93 [] H) (fun m i => m + i = l.length ∧ (l.drop i).all (tk nmf n) = l.all (tk nmf n)) (l.length) (0) (by simp) ?_
              intro m2 i ⟨h1, h2⟩
              refine op ?_; try (first | refine dr3 ?_ | refine dr4 ?_)
              refine rn T 99 [] ?_; try (first | refine dr3 ?_ | refine dr4 ?_)
              by_cases hi : i < l.length
              · obtain ⟨x, hx, hd⟩ := drop_ix hi
                rw [hd, List.all_cons] at h2
                refine ctq rfl (by simp [hi]) ?_; try (first | refine dr3 ?_ | refine dr4 ?_)
                refine rn T 99 [pm x] ?_; try (first | refine dr3 ?_ | refine dr4 ?_)
                refine rn T 99 [] ?_; try (first | refine dr3 ?_ | refine dr4 ?_)
                rw [wkP (by omega)]
                refine hes (ih (by omega) x) ?_; rintro _ _ ⟨rfl, rfl⟩ _ _; refine op ?_; try (first | refine dr3 ?_ | refine dr4 ?_)
                refine rn T 99 [] ?_; try (first | refine dr3 ?_ | refine dr4 ?_)
                cases hx2 : tk nmf n x with
                | false =>
                  refine ctq rfl (by simp [nmf] at hx2; simp [hx2]) ?_; try (first | refine dr3 ?_ | refine dr4 ?_)
                  refine rn T 99 [] ?_; try (first | refine dr3 ?_ | refine dr4 ?_)
                  exact ⟨[_], ⟨_, _, rfl, .inl rfl, rfl⟩, .p, RB_of (c := false) (by rw [tk_eq, ← h2, hx2]; simp) ⟨rfl, rfl⟩⟩
                | true =>
                  rw [hx2, Bool.true_and] at h2
                  refine cfq rfl (by simp [nmf] at hx2; simp [hx2]) ?_; try (first | refine dr3 ?_ | refine dr4 ?_)
                  refine rn T 99 [] ?_; try (first | refine dr3 ?_ | refine dr4 ?_)
                  rw [wkS (by omega)]
                  refine nxt (m2 - 1) (i + 1) (⟨by omega, h2⟩)
              · refine cfq rfl (by simp [hi]) ?_; try (first | refine dr3 ?_ | refine dr4 ?_)
                refine rn T 99 [] ?_; try (first | refine dr3 ?_ | refine dr4 ?_)
                exact ⟨[_], ⟨_, _, rfl, .inl rfl, rfl⟩, .p, RB_of (c := true) (by rw [tk_eq, tkH_3 _ 3 m s p l (by decide), ← h2, List.drop_eq_nil_of_le (by omega)]; simp only [List.all_nil, Bool.and_true, Bool.and_eq_true, decide_eq_true_eq]; (repeat' apply And.intro) <;> first | omega | assumption | (simp at *; assumption) | (simp at *; omega) | (simp_all; done) | (simp_all; omega)) ⟨rfl, rfl⟩⟩
            · refine ctq rfl (by simp only [List.length_map, bne_iff_ne, ne_eq]; omega) ?_; try (first | refine dr3 ?_ | refine dr4 ?_)
              refine rn T 99 [] ?_; try (first | refine dr3 ?_ | refine dr4 ?_)
              exact ⟨[_], ⟨_, _, rfl, .inl rfl, rfl⟩, .p, RB_of (c := false) (by rw [tk_eq, tkH_3 _ 3 m s p l (by decide)]; refine Bool.eq_false_iff.2 (fun hq => ?_); simp only [Bool.and_eq_true, decide_eq_true_eq] at hq; first | omega | (simp at *; done) | (simp at *; omega) | simp_all | (simp_all; omega)) ⟨rfl, rfl⟩⟩
          · refine cfs ?_; try (first | refine dr3 ?_ | refine dr4 ?_)
            refine rn T 99 [] ?_; try (first | refine dr3 ?_ | refine dr4 ?_)
            refine cts ?_; try (first | refine dr3 ?_ | refine dr4 ?_)
            refine cts ?_; try (first | refine dr3 ?_ | refine dr4 ?_)
            refine rn T 99 [] ?_; try (first | refine dr3 ?_ | refine dr4 ?_)
            repeat' (first | (with_reducible refine n16 ?_) | (with_reducible refine EOps.ci ?_; first | refine EOps.one T [] rfl (by first | exact True.intro | exact ⟨True.intro, True.intro⟩) ?_ | (refine EOps.sp rfl ?_ ?_ <;> intro hc_ <;> rw [hc_] <;> first | replace hc_ := of_decide_eq_true hc_ | replace hc_ := of_decide_eq_false hc_ | replace hc_ := of_decide_eq_false (Eq.mp (Bool.not_eq_true' _) hc_) | replace hc_ := of_decide_eq_true (Eq.mp (Bool.not_eq_false' _) hc_) | skip)))
            all_goals (refine op ?_; try (first | refine dr3 ?_ | refine dr4 ?_))
            all_goals (try ((refine cts ?_; try (first | refine dr3 ?_ | refine dr4 ?_)); (refine rn T 99 [] ?_; try (first | refine dr3 ?_ | refine dr4 ?_)); (exact ⟨[_], ⟨_, _, rfl, .inl rfl, rfl⟩, .p, RB_of (c := false) (by rw [tk_eq, tkH_3 _ 4 m s p l (by decide)]; refine Bool.eq_false_iff.2 (fun hq => ?_); simp only [Bool.and_eq_true, decide_eq_true_eq] at hq; first | omega | (simp at *; done) | (simp at *; omega) | simp_all | (simp_all; omega)) ⟨rfl, rfl⟩⟩); done))
            by_cases hk : l.length = 2
            · refine cfq rfl (by simp [hk]) ?_; try (first | refine dr3 ?_ | refine dr4 ?_)
              refine rn T 99 [] ?_; try (first | refine dr3 ?_ | refine dr4 ?_)
              refine lpw (fun i : Nat => MS.mk [(82, .p (pi i)), (81, .p (pi (l.map eM).length)), (80, .p (.row 5 (l.map eM))), (2, .bf fid [.ag [.p R, .mp (.S ci)]]), (1, .p (pi (n + 1 : Nat)))] 93 [] H) (fun m i => m + i = l.length ∧ (l.drop i).all (tk nmf n) = l.all (tk nmf n)) (l.length) (0) (by simp) ?_
              intro m2 i ⟨h1, h2⟩
              refine op ?_; try (first | refine dr3 ?_ | refine dr4 ?_)
              refine rn T 99 [] ?_; try (first | refine dr3 ?_ | refine dr4 ?_)
              by_cases hi : i < l.length
              · obtain ⟨x, hx, hd⟩ := drop_ix hi
                rw [hd, List.all_cons] at h2
                refine ctq rfl (by simp [hi]) ?_; try (first | refine dr3 ?_ | refine dr4 ?_)
                refine rn T 99 [pm x] ?_; try (first | refine dr3 ?_ | refine dr4 ?_)
                refine rn T 99 [] ?_; try (first | refine dr3 ?_ | refine dr4 ?_)
                rw [wkP (by omega)]
                refine hes (ih (by omega) x) ?_; rintro _ _ ⟨rfl, rfl⟩ _ _; refine op ?_; try (first | refine dr3 ?_ | refine dr4 ?_)
                refine rn T 99 [] ?_; try (first | refine dr3 ?_ | refine dr4 ?_)
                cases hx2 : tk nmf n x with
                | false =>
                  refine ctq rfl (by simp [nmf] at hx2; simp [hx2]) ?_; try (first | refine dr3 ?_ | refine dr4 ?_)
                  refine rn T 99 [] ?_; try (first | refine dr3 ?_ | refine dr4 ?_)
                  exact ⟨[_], ⟨_, _, rfl, .inl rfl, rfl⟩, .p, RB_of (c := false) (by rw [tk_eq, ← h2, hx2]; simp) ⟨rfl, rfl⟩⟩
                | true =>
                  rw [hx2, Bool.true_and] at h2
                  refine cfq rfl (by simp [nmf] at hx2; simp [hx2]) ?_; try (first | refine dr3 ?_ | refine dr4 ?_)
                  refine rn T 99 [] ?_; try (first | refine dr3 ?_ | refine dr4 ?_)
                  rw [wkS (by omega)]
                  refine nxt (m2 - 1) (i + 1) (⟨by omega, h2⟩)
              · refine cfq rfl (by simp [hi]) ?_; try (first | refine dr3 ?_ | refine dr4 ?_)
                refine rn T 99 [] ?_; try (first | refine dr3 ?_ | refine dr4 ?_)
                exact ⟨[_], ⟨_, _, rfl, .inl rfl, rfl⟩, .p, RB_of (c := true) (by rw [tk_eq, tkH_3 _ 4 m s p l (by decide), ← h2, List.drop_eq_nil_of_le (by omega)]; simp only [List.all_nil, Bool.and_true, Bool.and_eq_true, decide_eq_true_eq]; (repeat' apply And.intro) <;> first | omega | assumption | (simp at *; assumption) | (simp at *; omega) | (simp_all; done) | (simp_all; omega)) ⟨rfl, rfl⟩⟩
            · refine ctq rfl (by simp only [List.length_map, bne_iff_ne, ne_eq]; omega) ?_; try (first | refine dr3 ?_ | refine dr4 ?_)
              refine rn T 99 [] ?_; try (first | refine dr3 ?_ | refine dr4 ?_)
              exact ⟨[_], ⟨_, _, rfl, .inl rfl, rfl⟩, .p, RB_of (c := false) (by rw [tk_eq, tkH_3 _ 4 m s p l (by decide)]; refine Bool.eq_false_iff.2 (fun hq => ?_); simp only [Bool.and_eq_true, decide_eq_true_eq] at hq; first | omega | (simp at *; done) | (simp at *; omega) | simp_all | (simp_all; omega)) ⟨rfl, rfl⟩⟩
          · refine cfs ?_; try (first | refine dr3 ?_ | refine dr4 ?_)
            refine rn T 99 [] ?_; try (first | refine dr3 ?_ | refine dr4 ?_)
            refine cfs ?_; try (first | refine dr3 ?_ | refine dr4 ?_)
            refine rn T 99 [] ?_; try (first | refine dr3 ?_ | refine dr4 ?_)
            refine cts ?_; try (first | refine dr3 ?_ | refine dr4 ?_)
            refine cts ?_; try (first | refine dr3 ?_ | refine dr4 ?_)
            refine rn T 99 [] ?_; try (first | refine dr3 ?_ | refine dr4 ?_)
            repeat' (first | (with_reducible refine n16 ?_) | (with_reducible refine EOps.ci ?_; first | refine EOps.one T [] rfl (by first | exact True.intro | exact ⟨True.intro, True.intro⟩) ?_ | (refine EOps.sp rfl ?_ ?_ <;> intro hc_ <;> rw [hc_] <;> first | replace hc_ := of_decide_eq_true hc_ | replace hc_ := of_decide_eq_false hc_ | replace hc_ := of_decide_eq_false (Eq.mp (Bool.not_eq_true' _) hc_) | replace hc_ := of_decide_eq_true (Eq.mp (Bool.not_eq_false' _) hc_) | skip)))
            all_goals (refine op ?_; try (first | refine dr3 ?_ | refine dr4 ?_))
            all_goals (try ((refine cts ?_; try (first | refine dr3 ?_ | refine dr4 ?_)); (refine rn T 99 [] ?_; try (first | refine dr3 ?_ | refine dr4 ?_)); (exact ⟨[_], ⟨_, _, rfl, .inl rfl, rfl⟩, .p, RB_of (c := false) (by rw [tk_eq, tkH_3 _ 5 m s p l (by decide)]; refine Bool.eq_false_iff.2 (fun hq => ?_); simp only [Bool.and_eq_true, decide_eq_true_eq] at hq; first | omega | (simp at *; done) | (simp at *; omega) | simp_all | (simp_all; omega)) ⟨rfl, rfl⟩⟩); done))
            by_cases hk : l.length = 2
            · refine cfq rfl (by simp [hk]) ?_; try (first | refine dr3 ?_ | refine dr4 ?_)
              refine rn T 99 [] ?_; try (first | refine dr3 ?_ | refine dr4 ?_)
              refine lpw (fun i : Nat => MS.mk [(82, .p (pi i)), (81, .p (pi (l.map eM).length)), (80, .p (.row 5 (l.map eM))), (2, .bf fid [.ag [.p R, .mp (.S ci)]]), (1, .p (pi (n + 1 : Nat)))] 93 [] H) (fun m i => m + i = l.length ∧ (l.drop i).all (tk nmf n) = l.all (tk nmf n)) (l.length) (0) (by simp) ?_
              intro m2 i ⟨h1, h2⟩
              refine op ?_; try (first | refine dr3 ?_ | refine dr4 ?_)
              refine rn T 99 [] ?_; try (first | refine dr3 ?_ | refine dr4 ?_)
              by_cases hi : i < l.length
              · obtain ⟨x, hx, hd⟩ := drop_ix hi
                rw [hd, List.all_cons] at h2
                refine ctq rfl (by simp [hi]) ?_; try (first | refine dr3 ?_ | refine dr4 ?_)
                refine rn T 99 [pm x] ?_; try (first | refine dr3 ?_ | refine dr4 ?_)
                refine rn T 99 [] ?_; try (first | refine dr3 ?_ | refine dr4 ?_)
                rw [wkP (by omega)]
                refine hes (ih (by omega) x) ?_; rintro _ _ ⟨rfl, rfl⟩ _ _; refine op ?_; try (first | refine dr3 ?_ | refine dr4 ?_)
                refine rn T 99 [] ?_; try (first | refine dr3 ?_ | refine dr4 ?_)
                cases hx2 : tk nmf n x with
                | false =>
                  refine ctq rfl (by simp [nmf] at hx2; simp [hx2]) ?_; try (first | refine dr3 ?_ | refine dr4 ?_)
                  refine rn T 99 [] ?_; try (first | refine dr3 ?_ | refine dr4 ?_)
                  exact ⟨[_], ⟨_, _, rfl, .inl rfl, rfl⟩, .p, RB_of (c := false) (by rw [tk_eq, ← h2, hx2]; simp) ⟨rfl, rfl⟩⟩
                | true =>
                  rw [hx2, Bool.true_and] at h2
                  refine cfq rfl (by simp [nmf] at hx2; simp [hx2]) ?_; try (first | refine dr3 ?_ | refine dr4 ?_)
                  refine rn T 99 [] ?_; try (first | refine dr3 ?_ | refine dr4 ?_)
                  rw [wkS (by omega)]
                  refine nxt (m2 - 1) (i + 1) (⟨by omega, h2⟩)
              · refine cfq rfl (by simp [hi]) ?_; try (first | refine dr3 ?_ | refine dr4 ?_)
                refine rn T 99 [] ?_; try (first | refine dr3 ?_ | refine dr4 ?_)
                exact ⟨[_], ⟨_, _, rfl, .inl rfl, rfl⟩, .p, RB_of (c := true) (by rw [tk_eq, tkH_3 _ 5 m s p l (by decide), ← h2, List.drop_eq_nil_of_le (by omega)]; simp only [List.all_nil, Bool.and_true, Bool.and_eq_true, decide_eq_true_eq]; (repeat' apply And.intro) <;> first | omega | assumption | (simp at *; assumption) | (simp at *; omega) | (simp_all; done) | (simp_all; omega)) ⟨rfl, rfl⟩⟩
            · refine ctq rfl (by simp only [List.length_map, bne_iff_ne, ne_eq]; omega) ?_; try (first | refine dr3 ?_ | refine dr4 ?_)
              refine rn T 99 [] ?_; try (first | refine dr3 ?_ | refine dr4 ?_)
              exact ⟨[_], ⟨_, _, rfl, .inl rfl, rfl⟩, .p, RB_of (c := false) (by rw [tk_eq, tkH_3 _ 5 m s p l (by decide)]; refine Bool.eq_false_iff.2 (fun hq => ?_); simp only [Bool.and_eq_true, decide_eq_true_eq] at hq; first | omega | (simp at *; done) | (simp at *; omega) | simp_all | (simp_all; omega)) ⟨rfl, rfl⟩⟩
          · refine cfs ?_; try (first | refine dr3 ?_ | refine dr4 ?_)
            refine rn T 99 [] ?_; try (first | refine dr3 ?_ | refine dr4 ?_)
            refine cfs ?_; try (first | refine dr3 ?_ | refine dr4 ?_)
            refine rn T 99 [] ?_; try (first | refine dr3 ?_ | refine dr4 ?_)
            refine cfs ?_; try (first | refine dr3 ?_ | refine dr4 ?_)
            refine rn T 99 [] ?_; try (first | refine dr3 ?_ | refine dr4 ?_)
            refine cts ?_; try (first | refine dr3 ?_ | refine dr4 ?_)
            refine rn T 99 [] ?_; try (first | refine dr3 ?_ | refine dr4 ?_)
            repeat' (first | (with_reducible refine n16 ?_) | (with_reducible refine EOps.ci ?_; first | refine EOps.one T [] rfl (by first | exact True.intro | exact ⟨True.intro, True.intro⟩) ?_ | (refine EOps.sp rfl ?_ ?_ <;> intro hc_ <;> rw [hc_] <;> first | replace hc_ := of_decide_eq_true hc_ | replace hc_ := of_decide_eq_false hc_ | replace hc_ := of_decide_eq_false (Eq.mp (Bool.not_eq_true' _) hc_) | replace hc_ := of_decide_eq_true (Eq.mp (Bool.not_eq_false' _) hc_) | skip)))
            all_goals (refine op ?_; try (first | refine dr3 ?_ | refine dr4 ?_))
            all_goals (try ((refine cts ?_; try (first | refine dr3 ?_ | refine dr4 ?_)); (refine rn T 99 [] ?_; try (first | refine dr3 ?_ | refine dr4 ?_)); (exact ⟨[_], ⟨_, _, rfl, .inl rfl, rfl⟩, .p, RB_of (c := false) (by rw [tk_eq, tkH_3 _ 6 m s p l (by decide)]; refine Bool.eq_false_iff.2 (fun hq => ?_); simp only [Bool.and_eq_true, decide_eq_true_eq] at hq; first | omega | (simp at *; done) | (simp at *; omega) | simp_all | (simp_all; omega)) ⟨rfl, rfl⟩⟩); done))
            by_cases hk : l.length = 2
            · refine cfq rfl (by simp [hk]) ?_; try (first | refine dr3 ?_ | refine dr4 ?_)
              refine rn T 99 [] ?_; try (first | refine dr3 ?_ | refine dr4 ?_)
              refine lpw (fun i : Nat => MS.mk [(82, .p (pi i)), (81, .p (pi (l.map eM).length)), (80, .p (.row 5 (l.map eM))), (2, .bf fid [.ag [.p R, .mp (.S ci)]]), (1, .p (pi (n + 1 : Nat)))] 93 [] H) (fun m i => m + i = l.length ∧ (l.drop i).all (tk nmf n) = l.all (tk nmf n)) (l.length) (0) (by simp) ?_
              intro m2 i ⟨h1, h2⟩
              refine op ?_; try (first | refine dr3 ?_ | refine dr4 ?_)
              refine rn T 99 [] ?_; try (first | refine dr3 ?_ | refine dr4 ?_)
              by_cases hi : i < l.length
              · obtain ⟨x, hx, hd⟩ := drop_ix hi
                rw [hd, List.all_cons] at h2
                refine ctq rfl (by simp [hi]) ?_; try (first | refine dr3 ?_ | refine dr4 ?_)
                refine rn T 99 [pm x] ?_; try (first | refine dr3 ?_ | refine dr4 ?_)
                refine rn T 99 [] ?_; try (first | refine dr3 ?_ | refine dr4 ?_)
                rw [wkP (by omega)]
                refine hes (ih (by omega) x) ?_; rintro _ _ ⟨rfl, rfl⟩ _ _; refine op ?_; try (first | refine dr3 ?_ | refine dr4 ?_)
                refine rn T 99 [] ?_; try (first | refine dr3 ?_ | refine dr4 ?_)
                cases hx2 : tk nmf n x with
                | false =>
                  refine ctq rfl (by simp [nmf] at hx2; simp [hx2]) ?_; try (first | refine dr3 ?_ | refine dr4 ?_)
                  refine rn T 99 [] ?_; try (first | refine dr3 ?_ | refine dr4 ?_)
                  exact ⟨[_], ⟨_, _, rfl, .inl rfl, rfl⟩, .p, RB_of (c := false) (by rw [tk_eq, ← h2, hx2]; simp) ⟨rfl, rfl⟩⟩
                | true =>
                  rw [hx2, Bool.true_and] at h2
                  refine cfq rfl (by simp [nmf] at hx2; simp [hx2]) ?_; try (first | refine dr3 ?_ | refine dr4 ?_)
                  refine rn T 99 [] ?_; try (first | refine dr3 ?_ | refine dr4 ?_)
                  rw [wkS (by omega)]
                  refine nxt (m2 - 1) (i + 1) (⟨by omega, h2⟩)
              · refine cfq rfl (by simp [hi]) ?_; try (first | refine dr3 ?_ | refine dr4 ?_)
                refine rn T 99 [] ?_; try (first | refine dr3 ?_ | refine dr4 ?_)
                exact ⟨[_], ⟨_, _, rfl, .inl rfl, rfl⟩, .p, RB_of (c := true) (by rw [tk_eq, tkH_3 _ 6 m s p l (by decide), ← h2, List.drop_eq_nil_of_le (by omega)]; simp only [List.all_nil, Bool.and_true, Bool.and_eq_true, decide_eq_true_eq]; (repeat' apply And.intro) <;> first | omega | assumption | (simp at *; assumption) | (simp at *; omega) | (simp_all; done) | (simp_all; omega)) ⟨rfl, rfl⟩⟩
            · refine ctq rfl (by simp only [List.length_map, bne_iff_ne, ne_eq]; omega) ?_; try (first | refine dr3 ?_ | refine dr4 ?_)
              refine rn T 99 [] ?_; try (first | refine dr3 ?_ | refine dr4 ?_)
              exact ⟨[_], ⟨_, _, rfl, .inl rfl, rfl⟩, .p, RB_of (c := false) (by rw [tk_eq, tkH_3 _ 6 m s p l (by decide)]; refine Bool.eq_false_iff.2 (fun hq => ?_); simp only [Bool.and_eq_true, decide_eq_true_eq] at hq; first | omega | (simp at *; done) | (simp at *; omega) | simp_all | (simp_all; omega)) ⟨rfl, rfl⟩⟩
        · refine cfq rfl (by simp; omega) ?_; try (first | refine dr3 ?_ | refine dr4 ?_)
          refine rn T 99 [] ?_; try (first | refine dr3 ?_ | refine dr4 ?_)
          refine cfq rfl (by simp; omega) ?_; try (first | refine dr3 ?_ | refine dr4 ?_)
          refine rn T 99 [] ?_; try (first | refine dr3 ?_ | refine dr4 ?_)
          refine cfq rfl (by simp; omega) ?_; try (first | refine dr3 ?_ | refine dr4 ?_)
          refine rn T 99 [] ?_; try (first | refine dr3 ?_ | refine dr4 ?_)
          refine cfq rfl (by simp; omega) ?_; try (first | refine dr3 ?_ | refine dr4 ?_)
          refine rn T 99 [] ?_; try (first | refine dr3 ?_ | refine dr4 ?_)
          by_cases k7 : k = 7
          · subst k7
            refine cts ?_; try (first | refine dr3 ?_ | refine dr4 ?_)
            refine cts ?_; try (first | refine dr3 ?_ | refine dr4 ?_)
            have hc := path2 G p
            cases hp : pathB p with
            | false =>
              rw [hp] at hc
              refine rn T 99 [] ?_; try (first | refine dr3 ?_ | refine dr4 ?_)
              refine pcs (hc) ?_; try (first | refine dr3 ?_ | refine dr4 ?_)
              refine rn T 99 [] ?_; try (first | refine dr3 ?_ | refine dr4 ?_)
              refine cts ?_; try (first | refine dr3 ?_ | refine dr4 ?_)
              refine rn T 99 [] ?_; try (first | refine dr3 ?_ | refine dr4 ?_)
              exact ⟨[_], ⟨_, _, rfl, .inl rfl, rfl⟩, .p, RB_of (c := false) (by rw [tk_eq, tkH_7]; simp [hp]) ⟨rfl, rfl⟩⟩
            | true =>
              rw [hp] at hc
              refine rn T 99 [] ?_; try (first | refine dr3 ?_ | refine dr4 ?_)
              refine pcs (hc) ?_; try (first | refine dr3 ?_ | refine dr4 ?_)
              refine rn T 99 [] ?_; try (first | refine dr3 ?_ | refine dr4 ?_)
              refine cfs ?_; try (first | refine dr3 ?_ | refine dr4 ?_)
              refine rn T 99 [] ?_; try (first | refine dr3 ?_ | refine dr4 ?_)
              refine rn T 99 [] ?_; try (first | refine dr3 ?_ | refine dr4 ?_)
              rw [show IntKind.i64.wrap (IntKind.i64.wrap (1 + 7) - 7) = 1 from rfl]
              repeat' (first | (with_reducible refine n16 ?_) | (with_reducible refine EOps.ci ?_; first | refine EOps.one T [] rfl (by first | exact True.intro | exact ⟨True.intro, True.intro⟩) ?_ | (refine EOps.sp rfl ?_ ?_ <;> intro hc_ <;> rw [hc_] <;> first | replace hc_ := of_decide_eq_true hc_ | replace hc_ := of_decide_eq_false hc_ | replace hc_ := of_decide_eq_false (Eq.mp (Bool.not_eq_true' _) hc_) | replace hc_ := of_decide_eq_true (Eq.mp (Bool.not_eq_false' _) hc_) | skip)))
              all_goals (refine op ?_; try (first | refine dr3 ?_ | refine dr4 ?_))
              all_goals (try ((refine cts ?_; try (first | refine dr3 ?_ | refine dr4 ?_)); (refine rn T 99 [] ?_; try (first | refine dr3 ?_ | refine dr4 ?_)); (exact ⟨[_], ⟨_, _, rfl, .inl rfl, rfl⟩, .p, RB_of (c := false) (by rw [tk_eq, tkH_7]; refine Bool.eq_false_iff.2 (fun hq => ?_); simp only [Bool.and_eq_true, decide_eq_true_eq] at hq; first | omega | (simp at *; done) | (simp at *; omega) | simp_all | (simp_all; omega)) ⟨rfl, rfl⟩⟩); done))
              by_cases hk : l.length = 1
              · refine cfq rfl (by simp [hk]) ?_; try (first | refine dr3 ?_ | refine dr4 ?_)
                refine rn T 99 [] ?_; try (first | refine dr3 ?_ | refine dr4 ?_)
                refine lpw (fun i : Nat => MS.mk [(82, .p (pi i)), (81, .p (pi (l.map eM).length)), (80, .p (.row 5 (l.map eM))), (2, .bf fid [.ag [.p R, .mp (.S ci)]]), (1, .p (pi (n + 1 : Nat)))] 93 [] H) (fun m i => m + i = l.length ∧ (l.drop i).all (tk nmf n) = l.all (tk nmf n)) (l.length) (0) (by simp) ?_
                intro m2 i ⟨h1, h2⟩
                refine op ?_; try (first | refine dr3 ?_ | refine dr4 ?_)
                refine rn T 99 [] ?_; try (first | refine dr3 ?_ | refine dr4 ?_)
                by_cases hi : i < l.length
                · obtain ⟨x, hx, hd⟩ := drop_ix hi
                  rw [hd, List.all_cons] at h2
                  refine ctq rfl (by simp [hi]) ?_; try (first | refine dr3 ?_ | refine dr4 ?_)
                  refine rn T 99 [pm x] ?_; try (first | refine dr3 ?_ | refine dr4 ?_)
                  refine rn T 99 [] ?_; try (first | refine dr3 ?_ | refine dr4 ?_)
                  rw [wkP (by omega)]
                  refine hes (ih (by omega) x) ?_; rintro _ _ ⟨rfl, rfl⟩ _ _; refine op ?_; try (first | refine dr3 ?_ | refine dr4 ?_)
                  refine rn T 99 [] ?_; try (first | refine dr3 ?_ | refine dr4 ?_)
                  cases hx2 : tk nmf n x with
                  | false =>
                    refine ctq rfl (by simp [nmf] at hx2; simp [hx2]) ?_; try (first | refine dr3 ?_ | refine dr4 ?_)
                    refine rn T 99 [] ?_; try (first | refine dr3 ?_ | refine dr4 ?_)
                    exact ⟨[_], ⟨_, _, rfl, .inl rfl, rfl⟩, .p, RB_of (c := false) (by rw [tk_eq, ← h2, hx2]; simp) ⟨rfl, rfl⟩⟩
                  | true =>
                    rw [hx2, Bool.true_and] at h2
                    refine cfq rfl (by simp [nmf] at hx2; simp [hx2]) ?_; try (first | refine dr3 ?_ | refine dr4 ?_)
                    refine rn T 99 [] ?_; try (first | refine dr3 ?_ | refine dr4 ?_)
                    rw [wkS (by omega)]
                    refine nxt (m2 - 1) (i + 1) (⟨by omega, h2⟩)
                · refine cfq rfl (by simp [hi]) ?_; try (first | refine dr3 ?_ | refine dr4 ?_)
                  refine rn T 99 [] ?_; try (first | refine dr3 ?_ | refine dr4 ?_)
                  exact ⟨[_], ⟨_, _, rfl, .inl rfl, rfl⟩, .p, RB_of (c := true) (by rw [tk_eq, tkH_7, ← h2, List.drop_eq_nil_of_le (by omega)]; simp only [List.all_nil, Bool.and_true, Bool.and_eq_true, decide_eq_true_eq]; (repeat' apply And.intro) <;> first | omega | assumption | (simp at *; assumption) | (simp at *; omega) | (simp_all; done) | (simp_all; omega)) ⟨rfl, rfl⟩⟩
              · refine ctq rfl (by simp only [List.length_map, bne_iff_ne, ne_eq]; omega) ?_; try (first | refine dr3 ?_ | refine dr4 ?_)
                refine rn T 99 [] ?_; try (first | refine dr3 ?_ | refine dr4 ?_)
                exact ⟨[_], ⟨_, _, rfl, .inl rfl, rfl⟩, .p, RB_of (c := false) (by rw [tk_eq, tkH_7]; refine Bool.eq_false_iff.2 (fun hq => ?_); simp only [Bool.and_eq_true, decide_eq_true_eq] at hq; first | omega | (simp at *; done) | (simp at *; omega) | simp_all | (simp_all; omega)) ⟨rfl, rfl⟩⟩
          · refine cfq rfl (by simp [k7]) ?_; try (first | refine dr3 ?_ | refine dr4 ?_)
            refine rn T 99 [] ?_; try (first | refine dr3 ?_ | refine dr4 ?_)
            by_cases k8 : k = 8
            · subst k8
              refine cts ?_; try (first | refine dr3 ?_ | refine dr4 ?_)
              have hc := path2 G p
              cases hp : pathB p with
              | false =>
                rw [hp] at hc
                refine rn T 99 [] ?_; try (first | refine dr3 ?_ | refine dr4 ?_)
                refine pcs (hc) ?_; try (first | refine dr3 ?_ | refine dr4 ?_)
                refine rn T 99 [] ?_; try (first | refine dr3 ?_ | refine dr4 ?_)
                refine cts ?_; try (first | refine dr3 ?_ | refine dr4 ?_)
                refine rn T 99 [] ?_; try (first | refine dr3 ?_ | refine dr4 ?_)
                exact ⟨[_], ⟨_, _, rfl, .inl rfl, rfl⟩, .p, RB_of (c := false) (by rw [tk_eq, tkH_8]; simp [hp]) ⟨rfl, rfl⟩⟩
              | true =>
                rw [hp] at hc
                refine rn T 99 [] ?_; try (first | refine dr3 ?_ | refine dr4 ?_)
                refine pcs (hc) ?_; try (first | refine dr3 ?_ | refine dr4 ?_)
                refine rn T 99 [] ?_; try (first | refine dr3 ?_ | refine dr4 ?_)
                refine cfs ?_; try (first | refine dr3 ?_ | refine dr4 ?_)
                refine rn T 99 [] ?_; try (first | refine dr3 ?_ | refine dr4 ?_)
                refine rn T 99 [] ?_; try (first | refine dr3 ?_ | refine dr4 ?_)
                rw [show IntKind.i64.wrap (IntKind.i64.wrap (1 + 8) - 7) = 2 from rfl]
                repeat' (first | (with_reducible refine n16 ?_) | (with_reducible refine EOps.ci ?_; first | refine EOps.one T [] rfl (by first | exact True.intro | exact ⟨True.intro, True.intro⟩) ?_ | (refine EOps.sp rfl ?_ ?_ <;> intro hc_ <;> rw [hc_] <;> first | replace hc_ := of_decide_eq_true hc_ | replace hc_ := of_decide_eq_false hc_ | replace hc_ := of_decide_eq_false (Eq.mp (Bool.not_eq_true' _) hc_) | replace hc_ := of_decide_eq_true (Eq.mp (Bool.not_eq_false' _) hc_) | skip)))
                all_goals (refine op ?_; try (first | refine dr3 ?_ | refine dr4 ?_))
                all_goals (try ((refine cts ?_; try (first | refine dr3 ?_ | refine dr4 ?_)); (refine rn T 99 [] ?_; try (first | refine dr3 ?_ | refine dr4 ?_)); (exact ⟨[_], ⟨_, _, rfl, .inl rfl, rfl⟩, .p, RB_of (c := false) (by rw [tk_eq, tkH_8]; refine Bool.eq_false_iff.2 (fun hq => ?_); simp only [Bool.and_eq_true, decide_eq_true_eq] at hq; first | omega | (simp at *; done) | (simp at *; omega) | simp_all | (simp_all; omega)) ⟨rfl, rfl⟩⟩); done))
                by_cases hk : l.length = 2
                · refine cfq rfl (by simp [hk]) ?_; try (first | refine dr3 ?_ | refine dr4 ?_)
                  refine rn T 99 [] ?_; try (first | refine dr3 ?_ | refine dr4 ?_)
                  refine lpw (fun i : Nat => MS.mk [(82, .p (pi i)), (81, .p (pi (l.map eM).length)), (80, .p (.row 5 (l.map eM))), (2, .bf fid [.ag [.p R, .mp (.S ci)]]), (1, .p (pi (n + 1 : Nat)))] 93 [] H) (fun m i => m + i = l.length ∧ (l.drop i).all (tk nmf n) = l.all (tk nmf n)) (l.length) (0) (by simp) ?_
                  intro m2 i ⟨h1, h2⟩
                  refine op ?_; try (first | refine dr3 ?_ | refine dr4 ?_)
                  refine rn T 99 [] ?_; try (first | refine dr3 ?_ | refine dr4 ?_)
                  by_cases hi : i < l.length
                  · obtain ⟨x, hx, hd⟩ := drop_ix hi
                    rw [hd, List.all_cons] at h2
                    refine ctq rfl (by simp [hi]) ?_; try (first | refine dr3 ?_ | refine dr4 ?_)
                    refine rn T 99 [pm x] ?_; try (first | refine dr3 ?_ | refine dr4 ?_)
                    refine rn T 99 [] ?_; try (first | refine dr3 ?_ | refine dr4 ?_)
                    rw [wkP (by omega)]
                    refine hes (ih (by omega) x) ?_; rintro _ _ ⟨rfl, rfl⟩ _ _; refine op ?_; try (first | refine dr3 ?_ | refine dr4 ?_)
                    refine rn T 99 [] ?_; try (first | refine dr3 ?_ | refine dr4 ?_)
                    cases hx2 : tk nmf n x with
                    | false =>
                      refine ctq rfl (by simp [nmf] at hx2; simp [hx2]) ?_; try (first | refine dr3 ?_ | refine dr4 ?_)
                      refine rn T 99 [] ?_; try (first | refine dr3 ?_ | refine dr4 ?_)
                      exact ⟨[_], ⟨_, _, rfl, .inl rfl, rfl⟩, .p, RB_of (c := false) (by rw [tk_eq, ← h2, hx2]; simp) ⟨rfl, rfl⟩⟩
                    | true =>
                      rw [hx2, Bool.true_and] at h2
                      refine cfq rfl (by simp [nmf] at hx2; simp [hx2]) ?_; try (first | refine dr3 ?_ | refine dr4 ?_)
                      refine rn T 99 [] ?_; try (first | refine dr3 ?_ | refine dr4 ?_)
                      rw [wkS (by omega)]
                      refine nxt (m2 - 1) (i + 1) (⟨by omega, h2⟩)
                  · refine cfq rfl (by simp [hi]) ?_; try (first | refine dr3 ?_ | refine dr4 ?_)
                    refine rn T 99 [] ?_; try (first | refine dr3 ?_ | refine dr4 ?_)
                    exact ⟨[_], ⟨_, _, rfl, .inl rfl, rfl⟩, .p, RB_of (c := true) (by rw [tk_eq, tkH_8, ← h2, List.drop_eq_nil_of_le (by omega)]; simp only [List.all_nil, Bool.and_true, Bool.and_eq_true, decide_eq_true_eq]; (repeat' apply And.intro) <;> first | omega | assumption | (simp at *; assumption) | (simp at *; omega) | (simp_all; done) | (simp_all; omega)) ⟨rfl, rfl⟩⟩
                · refine ctq rfl (by simp only [List.length_map, bne_iff_ne, ne_eq]; omega) ?_; try (first | refine dr3 ?_ | refine dr4 ?_)
                  refine rn T 99 [] ?_; try (first | refine dr3 ?_ | refine dr4 ?_)
                  exact ⟨[_], ⟨_, _, rfl, .inl rfl, rfl⟩, .p, RB_of (c := false) (by rw [tk_eq, tkH_8]; refine Bool.eq_false_iff.2 (fun hq => ?_); simp only [Bool.and_eq_true, decide_eq_true_eq] at hq; first | omega | (simp at *; done) | (simp at *; omega) | simp_all | (simp_all; omega)) ⟨rfl, rfl⟩⟩
            · refine cfq rfl (by simp [k8]) ?_; try (first | refine dr3 ?_ | refine dr4 ?_)
              refine rn T 99 [] ?_; try (first | refine dr3 ?_ | refine dr4 ?_)
              exact ⟨[_], ⟨_, _, rfl, .inl rfl, rfl⟩, .p, RB_of (c := false) (by rw [tk_eq, tkH_o _ k m s p l k1 k2 k3 k7 k8]; rfl) ⟨rfl, rfl⟩⟩
end Go.Proofs.YtglkkbgflnpjeaaGreatDoor.K
end
section
namespace Go.Proofs.YtglkkbgflnpjeaaGreatDoor.PA
open Go.RowKit Go.Extern.Stop Go.Stop Go.Extern
theorem isTypeOf (v : Value) (w : World) : (Extern.ReflectliteType.typeOf #[.iface 153 v]).run Tryz.prog w = .ok (.iface 111 (.agg #[.pointer (some ⟨1, 153, none⟩)])) w := by kernel_rfl
def isCmp : Array Value → Sem Value := Extern.ReflectliteType.method fun t => do Rtype.noPackHeld "Comparable" t; pure (.bool (← typeInfo t).comparable)
theorem isComparable (w : World) : (isCmp #[.agg #[.pointer (some ⟨1, 153, none⟩)]]).run Tryz.prog w = .ok (.bool true) w := by kernel_rfl
theorem isMethodComparable (v : Value) (w : World) : (Go.method (192 + 100) 111 v "Comparable").run Tryz.prog w = .ok (105, v) w := by kernel_rfl
theorem isComp : (Tryz.prog.info? 153).map (·.comparable) = some true := by kernel_rfl
theorem isSize : (Tryz.prog.info? 180).map (·.size) = some 1 := by kernel_rfl
theorem is_same (a : Addr) (w : World) :
    Calls Tryz.prog 24 #[.iface 153 (.pointer (some a)), .iface 153 (.pointer (some a))] w fun e w' => e = .returned (.bool true) ∧ w' = w := by
  obtain ⟨i, hi, hcmp⟩ := Option.map_eq_some_iff.1 isComp
  obtain ⟨j, hj, hjs⟩ := Option.map_eq_some_iff.1 isSize
  have h8 := @run_callFunc_extern Tryz.prog 50 _ Extern.ReflectliteType.typeOf Tryz.func50 (by kernel_rfl) (by kernel_rfl) (by kernel_rfl) (by kernel_rfl)
  have h32 := @run_callFunc_extern Tryz.prog 105 _ isCmp Tryz.func105 (by kernel_rfl) (by kernel_rfl) (by kernel_rfl) (by kernel_rfl)
  have tT := isTypeOf
  have cT := isComparable
  have mR := isMethodComparable
  have heq := run_eql_iface_ptr_same (P := Tryz.prog) w a Tryz.underlying60 Tryz.underlying153 hi hcmp hj
  go_enter Tryz.func24, Tryz.ntmps24
  go_wp2
  refine wp_loop_rounds 1 ?_
  rw [rounds_succ]
  go_wp2
  go_ret
  exact ⟨rfl, rfl⟩
theorem is_nil (b : Addr) (w : World) :
    Calls Tryz.prog 24 #[.nilIface, .iface 153 (.pointer (some b))] w fun e w' => e = .returned (.bool false) ∧ w' = w := by
  have hn := run_eql_iface_nil_left (P := Tryz.prog) w 153 (.pointer (some b)) Tryz.underlying60
  go_enter Tryz.func24, Tryz.ntmps24
  go_wp2
  go_ret
  exact ⟨rfl, rfl⟩
end Go.Proofs.YtglkkbgflnpjeaaGreatDoor.PA
end
section
namespace Go.Proofs.YtglkkbgflnpjeaaGreatDoor.K
open Go Go.RowKit Go.Proofs.YtglkkbgflnpjeaaGreatDoor.En Go.Proofs.YtglkkbgflnpjeaaGreatDoor.Ty Go.Proofs.YtglkkbgflnpjeaaGreatDoor.B
set_option maxRecDepth 100000
set_option linter.unusedSimpArgs false
set_option linter.unusedVariables false
set_option pp.deepTerms false
set_option pp.deepTerms.threshold 8
set_option pp.maxSteps 1000
set_option maxHeartbeats 1000000
abbrev eE (a : Addr) : PV := .ifc 153 (.c (.pointer (some a)))
abbrev eN : PV := .c .nilIface
def GE (a : Addr) : Nat → Option PV
  | 0 => some (eE a)
  | _ => none
theorem PF.of_calls {P : Program} {G : Nat → Option PV} {f : FuncId} {xs : List PV} {c : Value} (hc : callable P f = true) (h1 : c.oneCell' = true) (h : ∀ w S (V : List Value), V.length = xs.length → (∀ (k : Nat) x v, xs[k]? = some x → V[k]? = some v → PRep w S x v) → Calls P f V.toArray w fun e w' => e = .returned c ∧ w' = w) : PF P G f xs (.p (.c c)) := by
  refine ⟨.p, hc, fun w S g V hh hl hv => ?_⟩
  refine (h w S V (by simpa using hl) (fun k x v hx hv' => ?_)).mono ?_
  · have := hv k (.p x) v (by rw [List.getElem?_map, hx]; rfl) hv'
    cases this with | p h => exact h
  · rintro e w' ⟨rfl, rfl⟩
    exact ⟨.p (.c c), [], c, S, g, rfl, rfl, .p, .p (.c h1), hh, Evol.refl _ _ _ _, fun i hi => absurd hi (Nat.not_lt_zero _)⟩
theorem is_same2 (G : Nat → Option PV) (a : Addr) : PF Tryz.prog G 24 [eE a, eE a] (.p (pb true)) := by
  refine PF.of_calls (by kernel_rfl) rfl (fun w S V hl hv => ?_)
  match V, hl with
  | [x, y], _ =>
    have h1 := hv 0 _ x rfl rfl
    have h2 := hv 1 _ y rfl rfl
    cases h1 with | ifc h1 =>
    cases h2 with | ifc h2 =>
    cases h1; cases h2
    exact PA.is_same a w
theorem is_nil2 (G : Nat → Option PV) (b : Addr) : PF Tryz.prog G 24 [eN, eE b] (.p (pb false)) := by
  refine PF.of_calls (by kernel_rfl) rfl (fun w S V hl hv => ?_)
  match V, hl with
  | [x, y], _ =>
    have h1 := hv 0 _ x rfl rfl
    have h2 := hv 1 _ y rfl rfl
    cases h1
    cases h2 with | ifc h2 =>
    cases h2
    exact PA.is_nil b w
def look (es : List (ByteArray × Ty)) (s : ByteArray) : Option Ty := (es.find? (fun p => s == p.1)).map (·.2)
abbrev ems (es : List (ByteArray × Ty)) : List (ByteArray × PV) := es.map fun e => (e.1, pt e.2)
theorem pget_ems (es : List (ByteArray × Ty)) (s : ByteArray) : pget (ems es) s = (look es s).map pt := by
  induction es with
  | nil => rfl
  | cons e es ih =>
    unfold pget look at ih ⊢
    simp only [ems, List.map_cons, List.find?_cons]
    cases (s == e.1) with
    | true => rfl
    | false => exact ih
theorem pget_getD (es : List (ByteArray × Ty)) (s : ByteArray) : (pget (ems es) s).getD (.ag [.row 1 []]) = pt ((look es s).getD []) := by
  rw [pget_ems]
  cases look es s <;> rfl
end Go.Proofs.YtglkkbgflnpjeaaGreatDoor.K
end
section
namespace Go.Proofs.YtglkkbgflnpjeaaGreatDoor.K
open Go Go.RowKit Go.Proofs.YtglkkbgflnpjeaaGreatDoor.En Go.Proofs.YtglkkbgflnpjeaaGreatDoor.Ty Go.Proofs.YtglkkbgflnpjeaaGreatDoor.B
set_option maxRecDepth 100000
set_option linter.unusedSimpArgs false
set_option linter.unusedVariables false
set_option pp.deepTerms false
set_option pp.deepTerms.threshold 8
set_option pp.maxSteps 1000
set_option maxHeartbeats 1000000
abbrev HS (s : ByteArray) : List AObj := [.box 9 [.p (ps s)]]
theorem hsh_HS (s : ByteArray) : HSh (HS s) := fun i o h => by
  match i, h with
  | 0, h => cases h; intro x hx; rw [List.mem_singleton] at hx; subst hx; exact .p
theorem isNm (G : Nat → Option PV) (s : ByteArray) (t : Mn) : FE Tryz.prog G 47 [.p (pur t), .ptr (.S 0) 0] (HS s) (RB (nmF == s) (HS s)) := by
  refine ⟨?_, RB_ne _ (hsh_HS s)⟩
  refine bdy Tryz.func47 (fun _ => 0) rfl ?_
  refine rn T 99 [] ?_
  refine rn T 99 [] ?_
  exact ⟨[_], ⟨_, _, rfl, .inl rfl, rfl⟩, .p, ⟨rfl, rfl⟩⟩
theorem index0 (G : Nat → Option PV) (s : ByteArray) : FE Tryz.prog G 46 [.p (.row 4 []), .fn 47 [.ptr (.S 0) 0]] (HS s) (fun r H' => r = .p (pi (-1)) ∧ HS s = H') := by
  refine ⟨?_, _, _, ⟨rfl, rfl⟩, .p, hsh_HS s⟩
  refine bdy Tryz.func46 (fun _ => 0) rfl ?_
  refine rn T 99 [] ?_
  refine rn T 99 [] ?_
  refine lpw (fun i : Nat => MS.mk [(8, .p (pi 0)), (7, .p (pi 0))] 19 [] (HS s)) (fun m i => True) (0) (0) (trivial) ?_
  intro m2 i _
  refine op ?_
  refine rn T 99 [] ?_
  refine cfs ?_
  refine rn T 99 [] ?_
  exact ⟨[_], ⟨_, _, rfl, .inl rfl, rfl⟩, .p, ⟨rfl, rfl⟩⟩
theorem index1 (G : Nat → Option PV) (t : Mn) : FE Tryz.prog G 46 [.p (.row 4 [pur t]), .fn 47 [.ptr (.S 0) 0]] (HS nmF) (fun r H' => r = .p (pi 0) ∧ HS nmF = H') := by
  refine ⟨?_, _, _, ⟨rfl, rfl⟩, .p, hsh_HS nmF⟩
  refine bdy Tryz.func46 (fun _ => 0) rfl ?_
  refine rn T 99 [] ?_
  refine rn T 99 [] ?_
  refine lpw (fun i : Nat => MS.mk [(8, .p (pi 0)), (7, .p (pi 1)), (0, .p (.row 4 [pur t])), (1, .fn 47 [.ptr (.S 0) 0])] 19 [] (HS nmF)) (fun m i => True) (0) (0) (trivial) ?_
  intro m2 i _
  refine op ?_
  refine rn T 99 [] ?_
  refine cts ?_
  refine rn T 99 [] ?_
  refine rn T 99 [pur t] ?_
  refine hes (isNm G nmF t) ?_; rintro _ _ ⟨rfl, rfl⟩ _ _; refine op ?_
  rw [show (nmF == nmF) = true by decide]
  refine cts ?_
  refine rn T 99 [] ?_
  exact ⟨[_], ⟨_, _, rfl, .inl rfl, rfl⟩, .p, ⟨rfl, rfl⟩⟩
abbrev pur0 : PV := .ag [ps ⟨#[]⟩, .row 1 [], .row 1 [], .row 1 []]
theorem find0 (G : Nat → Option PV) (s : ByteArray) : PF Tryz.prog G 21 [.row 4 [], ps s] (.tp [.p pur0, .p (pb false)]) := by
  refine ⟨(by first | exact .p | exact .tp (fun x hx => by simp at hx; rcases hx with rfl | rfl <;> exact .p) | exact .tp (fun x hx => by simp at hx; rcases hx with rfl | rfl | rfl <;> exact .p)), bdy Tryz.func21 (fun d => if d = 3 then 1 else 0) rfl ?_⟩
  refine rn T 99 [] ?_
  refine rn T 99 [] ?_
  refine hes (index0 G s) ?_; rintro _ _ ⟨rfl, rfl⟩ _ _; refine op ?_
  refine rn T 99 [] ?_
  refine rn T 99 [] ?_
  refine cts ?_
  refine rn T 99 [] ?_
  exact rt2 T pur0 (pb false) rfl
theorem find1 (G : Nat → Option PV) (t : Mn) : PF Tryz.prog G 21 [.row 4 [pur t], ps nmF] (.tp [.p (pur t), .p (pb true)]) := by
  refine ⟨(by first | exact .p | exact .tp (fun x hx => by simp at hx; rcases hx with rfl | rfl <;> exact .p) | exact .tp (fun x hx => by simp at hx; rcases hx with rfl | rfl | rfl <;> exact .p)), bdy Tryz.func21 (fun d => if d = 3 then 1 else 0) rfl ?_⟩
  refine rn T 99 [] ?_
  refine rn T 99 [] ?_
  refine hes (index1 G t) ?_; rintro _ _ ⟨rfl, rfl⟩ _ _; refine op ?_
  refine rn T 99 [] ?_
  refine rn T 99 [] ?_
  refine cfs ?_
  refine rn T 99 [pur t] ?_
  exact rt2 T (pur t) (pb true) rfl
end Go.Proofs.YtglkkbgflnpjeaaGreatDoor.K
end
section
namespace Go.Proofs.YtglkkbgflnpjeaaGreatDoor.K
open Go Go.RowKit Go.Proofs.YtglkkbgflnpjeaaGreatDoor.En Go.Proofs.YtglkkbgflnpjeaaGreatDoor.Ty Go.Proofs.YtglkkbgflnpjeaaGreatDoor.B
set_option maxRecDepth 100000
set_option linter.unusedSimpArgs false
set_option linter.unusedVariables false
set_option pp.deepTerms false
set_option pp.deepTerms.threshold 8
set_option pp.maxSteps 1000
set_option maxHeartbeats 1000000
theorem hsh_app {H : List AObj} {o : AObj} (h : HSh H) (ho : o.All Nm.isS) : HSh (H ++ [o]) := fun i x hx => by
  rw [List.getElem?_append] at hx
  split at hx
  · exact h i x hx
  · obtain rfl : x = o := by
      have := List.mem_of_getElem? hx
      simpa using this
    exact ho
theorem FE.clone {P : Program} {G : Nat → Option PV} {f : FuncId} {H : List AObj} {c : Nat} {es : List (ByteArray × PV)} (hc : callable P f = true) (hH : HSh H) (hcs : H[c]? = some (.mp es))
    (h : ∀ w b ar clock, w.heap[b]? = some (.map ar clock) → Calls P f #[.map (some b)] w fun e w' => e = .returned (.map (some w.heap.size)) ∧ w' = w.alloc (.map ar clock)) :
    FE P G f [.mp (.S c)] H (fun r H' => r = .mp (.S H.length) ∧ H' = H ++ [.mp es]) := by
  refine ⟨⟨hc, fun w S g V hh hl hv => ?_⟩, _, _, ⟨rfl, rfl⟩, .mp trivial, hsh_app hH trivial⟩
  obtain ⟨v0, rfl⟩ : ∃ v0, V = [v0] := by
    match V, hl with
    | [a], _ => exact ⟨a, rfl⟩
  have t0 := hv 0 _ v0 rfl rfl
  obtain ⟨b, vs, e1, hB, ⟨ar, clock, hb, har⟩, hlen, hes⟩ := hh.ob c _ hcs
  cases t0 with | @mp _ b0 hn hv0 =>
  have e2 : b0 = b := by
    have := hv0.symm.trans e1
    simpa using this
  subst e2
  refine (h w b0 ar clock hb).mono ?_
  rintro e w' ⟨rfl, rfl⟩
  have hold : ∀ x, x < w.heap.size → (w.alloc (.map ar clock)).heap[x]? = w.heap[x]? := fun x hx => by
    show (w.heap.push _)[x]? = _
    rw [Array.getElem?_push, if_neg (by omega)]
  have hcell : ∀ x k, x < w.heap.size → (w.alloc (.map ar clock)).cell? ⟨x, k, none⟩ = w.cell? ⟨x, k, none⟩ := fun x k hx => by
    unfold World.cell?
    rw [hold x hx]
  have hsz : (w.alloc (.map ar clock)).heap.size = w.heap.size + 1 := World.size_alloc _ _
  have hS : ∀ x k, S x k → S x k ∧ (w.alloc (.map ar clock)).cell? ⟨x, k, none⟩ = w.cell? ⟨x, k, none⟩ := fun x k hk => ⟨hk, hcell x k (hh.st x k hk)⟩
  have hgs : updG g (.S H.length) (gvOf (.map (some w.heap.size))) (.S H.length) = gvOf (.map (some w.heap.size)) := updG_same _ _ _
  have hgo : ∀ i, i < H.length → updG g (.S H.length) (gvOf (.map (some w.heap.size))) (.S i) = g (.S i) := fun i hi => if_neg (fun e => by cases e; exact absurd hi (Nat.lt_irrefl _))
  have hnm : ∀ i, i < H.length → NmOk (henv H w S g) (henv (H ++ [.mp es]) (w.alloc (.map ar clock)) S (updG g (.S H.length) (gvOf (.map (some w.heap.size))))) (.S i) := fun i hi =>
    .inl ⟨congrArg GV.v (hgo i hi), .inr (by show ((H ++ [AObj.mp es])[i]?).bind AObj.ln = (H[i]?).bind AObj.ln; rw [List.getElem?_append_left hi])⟩
  have hlt : ∀ i, i < H.length → ∀ x, (g (.S i)).B x → x < w.heap.size := fun i hi x hx => (hh.ob i _ (List.getElem?_eq_getElem hi)).lt hx
  have hBn : ∀ x, (updG g (.S H.length) (gvOf (.map (some w.heap.size))) (.S H.length)).B x → x = w.heap.size := fun x hx => by
    rw [hgs] at hx
    have hx : blk (.map (some w.heap.size)) = some x := hx
    cases hx; rfl
  refine ⟨.mp (.S H.length), H ++ [.mp es], _, S, updG g (.S H.length) (gvOf (.map (some w.heap.size))), rfl, ⟨rfl, rfl⟩, .mp trivial, .mp (by show H.length < (H ++ [AObj.mp es]).length; simp) (by show (updG g (.S H.length) _ (.S H.length)).v = _; rw [hgs]; rfl), ?_, ?_, hnm⟩
  · refine ⟨fun i o ho => ?_, fun i j hne hi hj x hx hy => ?_, fun x k hk => by rw [hsz]; have := hh.st x k hk; omega, hsh_app hH trivial, fun i y hy => ?_⟩
    · by_cases hi : i < H.length
      · rw [List.getElem?_append_left hi] at ho
        refine (hh.ob i o ho).move (q := Nm.isS) hS (by show H.length ≤ (H ++ [AObj.mp es]).length; simp) (fun n hn hq => ?_) (hH i o ho) (hgo i hi) (fun x hx => ⟨hold x (hlt i hi x hx), fun k hk => hk⟩)
        cases n with
        | L t => exact hq.elim
        | S j => exact hnm j hn
      · have hi2 : i = H.length := by
          have := (List.getElem?_eq_some_iff.1 ho).1
          simp at this; omega
        subst hi2
        obtain rfl : o = .mp es := by
          rw [List.getElem?_append_right (Nat.le_refl _)] at ho
          simpa using ho.symm
        have hg2 : (henv (H ++ [.mp es]) (w.alloc (.map ar clock)) S (updG g (.S H.length) (gvOf (.map (some w.heap.size))))).g (.S H.length) = gvOf (.map (some w.heap.size)) := hgs
        refine ⟨w.heap.size, vs, by rw [hg2]; rfl, fun x => ?_, ⟨ar, clock, (MapKept.heap_alloc w _).1, har⟩, hlen, fun k e v he hv => ⟨(hes k e v he hv).1, (hes k e v he hv).2.move hS⟩⟩
        rw [hg2]
        exact ⟨fun e => by have e : blk (.map (some w.heap.size)) = some x := e; cases e; rfl, fun e => by rw [e]; rfl⟩
    · simp at hi hj
      by_cases hi2 : i = H.length
      · subst hi2
        have := hBn x hx
        have hj2 : j < H.length := by omega
        rw [hgo j hj2] at hy
        have := hlt j hj2 x hy
        omega
      · have hi3 : i < H.length := by omega
        rw [hgo i hi3] at hx
        by_cases hj2 : j = H.length
        · subst hj2
          have h1 := hBn x hy
          have := hlt i hi3 x hx
          omega
        · have hj3 : j < H.length := by omega
          rw [hgo j hj3] at hy
          exact hh.dj i j hne hi3 hj3 x hx hy
    · obtain ⟨u, q1, q2, q3, q4⟩ := hh.gl i y hy
      exact ⟨u, q1, (hcell i 0 (hh.st _ _ q1)).trans q2, q3, q4.move hS⟩
  · refine ⟨rfl, rfl, rfl, by rw [hsz]; omega, by simp, fun x hx _ => hold x hx, hS, fun x k hk => .inl hk, fun i hi x hx => ?_⟩
    simp at hi
    by_cases hi2 : i = H.length
    · subst hi2
      exact .inl (by rw [hBn x hx]; exact Nat.le_refl _)
    · rw [hgo i (by omega)] at hx
      exact .inr ⟨i, by omega, hx⟩
theorem cloneN_calls (w : World) (b : Nat) (ar : Array MapEntry) (clock : Nat) (hb : w.heap[b]? = some (.map ar clock)) :
    Calls Tryz.prog 59 #[.map (some b)] w fun e w' => e = .returned (.map (some w.heap.size)) ∧ w' = w.alloc (.map ar clock) := by
  have hq := fun w => Go.Proofs.run_eql_map_nil_sl (P := Tryz.prog) w 81 _ _ (some b) und81
  have hu := und81
  go_enter Tryz.func59, Tryz.ntmps59
  go_wp2
  rw [run_callFunc_extern Tryz.func69 (by kernel_rfl) (by kernel_rfl) (by kernel_rfl) (e := Extern.MapsClone.clone) (by kernel_rfl), Go.Proofs.run_maps_clone_sl w 81 hb]
  simp only [Result.andThen]
  rw [Oper.upon_value]
  go_wp2
  rw [Go.Proofs.run_typeAssert_map_sl _ 81 _ _ _ _ und81]
  simp only [Result.andThen]
  rw [Oper.upon_value]
  go_wp2
  go_ret
  exact ⟨rfl, rfl⟩
theorem cloneN (G : Nat → Option PV) {H : List AObj} {c : Nat} {es : List (ByteArray × PV)} (hH : HSh H) (hcs : H[c]? = some (.mp es)) :
    FE Tryz.prog G 59 [.mp (.S c)] H (fun r H' => r = .mp (.S H.length) ∧ H' = H ++ [.mp es]) := FE.clone (by kernel_rfl) hH hcs cloneN_calls
def nput (l : List ByteArray) (es : List (ByteArray × PV)) : List (ByteArray × PV) := l.foldl (fun es s => pput es s (pi 1)) es
theorem nput_step {l : List ByteArray} {es : List (ByteArray × PV)} {i : Nat} {x : ByteArray} (hx : l[i]? = some x) : pput (nput (l.take i) es) x (pi 1) = nput (l.take (i + 1)) es := by
  obtain ⟨hi, rfl⟩ := List.getElem?_eq_some_iff.1 hx
  have e1 : l.take (i + 1) = l.take i ++ [l[i]] := by simp
  rw [e1]
  unfold nput
  rw [List.foldl_append]
  rfl
theorem hsh_mp (es : List (ByteArray × PV)) : HSh [.mp es] := fun i o h => by
  match i, h with
  | 0, h => cases h; trivial
theorem bind2 (G : Nat → Option PV) (R : PV) (l : List ByteArray) (hl : l.length ≤ 1000) (es : List (ByteArray × PV)) :
    FE Tryz.prog G 44 [.ag [.p R, .mp (.S 0)], .p (.row 1 (l.map ps))] [.mp es] (fun r H' => r = .tp [] ∧ H' = [.mp (nput l es)]) := by
  refine ⟨?_, _, _, ⟨rfl, rfl⟩, .tp (fun x hx => by cases hx), hsh_mp _⟩
  refine bdy Tryz.func44 (fun _ => 0) rfl ?_
  refine rn T 99 [] ?_
  refine rn T 99 [] ?_
  refine lpw (fun i : Nat => MS.mk [(8, .p (pi i)), (7, .p (pi (l.map ps).length)), (6, .p (.row 1 (l.map ps))), (2, .ptr (.L 2) 0)] 16 [(2, .box 83 [.p R, .mp (.S 0)])] [.mp (nput (l.take i) es)]) (fun m i => m + i = l.length) (l.length) (0) (by simp) ?_
  intro m2 i h1
  refine op ?_
  refine rn T 99 [] ?_
  by_cases hi : i < l.length
  · obtain ⟨x, hx⟩ : ∃ x, l[i]? = some x := ⟨_, List.getElem?_eq_getElem hi⟩
    have hx2 : (l.map ps)[i]? = some (ps x) := by rw [List.getElem?_map, hx]; rfl
    refine ctq rfl (by simp [hi]) ?_
    refine rn T 99 [ps x] ?_
    refine rn T 99 [] ?_
    rw [nput_step hx]
    refine rn T 99 [] ?_
    rw [wkS (by omega)]
    refine nxt (m2 - 1) (i + 1) (by omega)
  · refine cfq rfl (by simp [hi]) ?_
    rw [show l.take i = l from List.take_of_length_le (by omega)]
    exact ⟨[], rfl, .tp (fun x hx => by cases hx), rfl, rfl⟩
theorem hsh_mp2 (e0 es : List (ByteArray × PV)) : HSh [.mp e0, .mp es] := hsh_app (H := [.mp e0]) (hsh_mp e0) trivial
theorem bound3 (G : Nat → Option PV) (R : PV) (e0 es : List (ByteArray × PV)) (s : ByteArray) (n : Nat) (hn : (pget es s).getD (pi 0) = pi n) :
    FE Tryz.prog G 71 [.ag [.p R, .mp (.S 1)], .p (ps s)] [.mp e0, .mp es] (RB (decide (0 < n)) [.mp e0, .mp es]) := by
  refine ⟨?_, RB_ne _ (hsh_mp2 _ _)⟩
  refine bdy Tryz.func71 (fun _ => 0) rfl ?_
  refine rn T 99 [] ?_
  refine rn T 4 [] ?_
  rw [hn]
  refine rn T 99 [] ?_
  refine ⟨[_], ⟨_, _, rfl, .inl rfl, rfl⟩, .p, ?_, rfl⟩
  show TV.p (pb (decide ((0 : Int) < (n : Int)))) = TV.p (pb (decide (0 < n)))
  simp
theorem terms3 (G : Nat → Option PV) (R : PV) (e0 es : List (ByteArray × PV)) (bd : ByteArray → Bool) (hb : ∀ s, FE Tryz.prog G 71 [.ag [.p R, .mp (.S 1)], .p (ps s)] [.mp e0, .mp es] (RB (bd s) [.mp e0, .mp es])) (l : List Mn) (hl : l.length ≤ 1000) :
    FE Tryz.prog G 61 [.ag [.p R, .mp (.S 1)], .p (.row 5 (l.map eM))] [.mp e0, .mp es] (RB (l.all (tk (fun s => pw s && bd s) 8)) [.mp e0, .mp es]) := by
  have ct := termOkB G (hsh_mp2 e0 es) _ R 1 bd hb 8 (by omega)
  refine ⟨?_, RB_ne _ (hsh_mp2 _ _)⟩
  refine bdy Tryz.func61 (fun _ => 0) rfl ?_
  refine rn T 99 [] ?_
  refine rn T 99 [] ?_
  refine lpw (fun i : Nat => MS.mk [(9, .p (pi i)), (8, .p (pi (l.map eM).length)), (7, .p (.row 5 (l.map eM))), (2, .ptr (.L 2) 0)] 19 [(2, .box 83 [.p R, .mp (.S 1)])] [.mp e0, .mp es]) (fun m i => m + i = l.length ∧ (l.drop i).all (tk (fun s => pw s && bd s) 8) = l.all (tk (fun s => pw s && bd s) 8)) (l.length) (0) (by simp) ?_
  intro m2 i ⟨h1, h2⟩
  refine op ?_
  refine rn T 99 [] ?_
  by_cases hi : i < l.length
  · obtain ⟨x, hx, hd⟩ := drop_ix hi
    rw [hd, List.all_cons] at h2
    refine ctq rfl (by simp [hi]) ?_
    refine rn T 99 [pm x] ?_
    refine rn T 99 [] ?_
    refine EOps.mkB rfl rfl rfl ?_
    refine op ?_
    refine hes (ct x) ?_; rintro _ _ ⟨rfl, rfl⟩ _ _; refine op ?_
    refine rn T 99 [] ?_
    cases hx2 : tk (fun s => pw s && bd s) 8 x with
    | false =>
      refine cts ?_
      refine rn T 99 [] ?_
      exact ⟨[_], ⟨_, _, rfl, .inl rfl, rfl⟩, .p, RB_of (c := false) (by rw [← h2, hx2, Bool.false_and]) ⟨rfl, rfl⟩⟩
    | true =>
      rw [hx2, Bool.true_and] at h2
      refine cfs ?_
      refine rn T 99 [] ?_
      rw [wkS (by omega)]
      refine nxt (m2 - 1) (i + 1) (⟨by omega, h2⟩)
  · refine cfq rfl (by simp [hi]) ?_
    refine rn T 99 [] ?_
    refine ⟨[_], ⟨_, _, rfl, .inl rfl, rfl⟩, .p, RB_of (c := true) ?_ ⟨rfl, rfl⟩⟩
    rw [← h2, List.drop_eq_nil_of_le (by omega)]
    rfl
abbrev eabc : List (ByteArray × PV) := [(nmA, pi 1), (nmB', pi 1), (nmC, pi 1)]
theorem get_abc (s : ByteArray) : (pget eabc s).getD (pi 0) = pi ((if hasS abc s = true then 1 else 0 : Nat) : Int) := by
  unfold pget hasS
  simp only [List.find?_cons, List.find?_nil, List.any_cons, List.any_nil]
  rcases Bool.eq_false_or_eq_true (s == nmA) with h1 | h1 <;> rcases Bool.eq_false_or_eq_true (s == nmB') with h2 | h2 <;> rcases Bool.eq_false_or_eq_true (s == nmC) with h3 | h3 <;> simp only [h1, h2, h3] <;> rfl
theorem pw_abc : (fun s => pw s && decide (0 < (if hasS abc s = true then 1 else 0 : Nat))) = hasS abc := by
  funext s
  cases h : hasS abc s with
  | false => simp
  | true =>
    have h2 : pw s = true := by
      unfold hasS at h
      simp only [List.any_cons, List.any_nil, Bool.or_false, Bool.or_eq_true, bq_eq] at h
      rcases h with rfl | rfl | rfl <;> decide
    simp [h2]
theorem body3 (G : Nat → Option PV) (rs : List PV) (t : Mn) :
    FE Tryz.prog G 45 [.ag [.p (.row 4 rs), .mp (.S 0)], .p (.ag [.row 1 [], .row 5 [pm t]]), .p (pi 1)] [.mp eabc] (RB (tk (hasS abc) 8 t) [.mp eabc, .mp eabc]) := by
  have cc : FE Tryz.prog G 59 [.mp (.S 0)] [.mp eabc] (fun r H' => r = .mp (.S 1) ∧ H' = [.mp eabc, .mp eabc]) := cloneN G (H := [.mp eabc]) (c := 0) (es := eabc) (hsh_mp _) rfl
  have ct := terms3 G (.row 4 rs) eabc eabc _ (fun s => bound3 G (.row 4 rs) eabc eabc s _ (get_abc s)) [t] (by simp)
  rw [show [t].map eM = [pm t] by rw [List.map_cons, eM_eq]; rfl, pw_abc, show [t].all (tk (hasS abc) 8) = tk (hasS abc) 8 t by simp] at ct
  refine ⟨?_, RB_ne _ (hsh_mp2 _ _)⟩
  refine bdy Tryz.func45 (fun _ => 0) rfl ?_
  refine rn T 99 [] ?_
  refine rn T 99 [] ?_
  refine cfs ?_; try (first | refine dr1 ?_ | refine dr2 ?_ | refine dr3 ?_ | refine dr4 ?_)
  refine rn T 99 [] ?_
  refine hes (cc) ?_; rintro _ _ ⟨rfl, rfl⟩ _ _; refine op ?_
  refine rn T 99 [] ?_
  refine rn T 99 [] ?_
  refine lpw (fun i : Nat => MS.mk [(33, .p (pi 0)), (32, .p (pi 0)), (4, .ptr (.L 4) 0), (7, .ptr (.L 7) 0)] 57 [(4, .box 49 [.p (.row 1 []), .p (.row 5 [pm t])]), (7, .box 83 [.p (.row 4 rs), .mp (.S 1)])] [.mp eabc, .mp eabc]) (fun m i => True) (0) (0) (trivial) ?_
  intro m2 i _
  refine op ?_
  refine rn T 99 [] ?_
  refine cfs ?_
  refine rn T 99 [] ?_
  refine hes (ct) ?_; rintro _ _ ⟨rfl, rfl⟩ _ _; refine op ?_
  refine rn T 99 [] ?_
  exact ⟨[_], ⟨_, _, rfl, .inl rfl, rfl⟩, .p, rfl, rfl⟩
theorem pureOk3 (G : Nat → Option PV) (t : Mn) : PF Tryz.prog G 20 [.row 4 [pur t]] (.p (pb (tk (hasS abc) 8 t))) := by
  have cf := find0 G nmF
  have cw := word2 G nmF
  have cn := names2 G abc
  rw [show pw nmF = true by decide] at cw
  rw [show nsB abc = true by decide] at cn
  have cb := bind2 G (.row 4 []) abc (by decide) []
  rw [show nput abc [] = eabc by rfl] at cb
  have cy := body3 G [] t
  refine ⟨(by first | exact .p | exact .tp (fun x hx => by simp at hx; rcases hx with rfl | rfl <;> exact .p) | exact .tp (fun x hx => by simp at hx; rcases hx with rfl | rfl | rfl <;> exact .p)), bdy Tryz.func20 (fun d => if d = 43 then 1 else 0) rfl ?_⟩
  refine rn T 99 [] ?_
  refine rn T 99 [] ?_
  refine cfs ?_
  refine rn T 99 [] ?_
  refine lpw (fun i : Nat => MS.mk [(13, .p (pi i)), (12, .p (pi 1)), (11, .p (.row 4 [pur t])), (0, .p (.row 4 [pur t]))] 55 [] (match i with | 0 => [] | _ => [.mp eabc, .mp eabc])) (fun m i => m + i = 1 ∧ (i = 0 ∨ tk (hasS abc) 8 t = true)) (1) (0) (by simp) ?_
  intro m2 i ⟨h1, h2⟩
  refine op ?_
  refine rn T 99 [] ?_
  obtain rfl | rfl : i = 0 ∨ i = 1 := by omega
  · refine cts ?_
    refine rn T 99 [pur t] ?_; try (first | refine dr1 ?_ | refine dr2 ?_ | refine dr3 ?_ | refine dr4 ?_)
    refine rn T 99 [] ?_
    refine pcs (cf) ?_
    refine rn T 99 [] ?_
    refine rn T 99 [] ?_
    refine pcs (cw) ?_
    refine rn T 99 [] ?_
    refine pcs (cn) ?_
    refine rn T 99 [] ?_
    refine cfs ?_
    refine rn T 99 [] ?_
    refine rn T 99 [] ?_
    refine hes (cb) ?_; rintro _ _ ⟨rfl, rfl⟩ _ _; refine op ?_
    refine rn T 99 [] ?_
    refine rn T 99 [] ?_
    refine hes (cy) ?_; rintro _ _ ⟨rfl, rfl⟩ _ _; refine op ?_
    refine rn T 99 [] ?_
    cases h : tk (hasS abc) 8 t with
    | false =>
      refine cts ?_
      refine rn T 99 [] ?_
      exact ⟨[_], ⟨_, _, rfl, .inl rfl, rfl⟩, .p, rfl⟩
    | true =>
      refine cfs ?_
      refine rn T 99 [] ?_
      refine nxt (m2 - 1) (1) (⟨by omega, .inr rfl⟩)
  · refine cfs ?_
    refine rn T 99 [] ?_
    have h : tk (hasS abc) 8 t = true := by rcases h2 with h | h; cases h; exact h
    rw [h]
    exact ⟨[_], ⟨_, _, rfl, .inl rfl, rfl⟩, .p, rfl⟩
end Go.Proofs.YtglkkbgflnpjeaaGreatDoor.K
end
section
namespace Go.Proofs.YtglkkbgflnpjeaaGreatDoor.K
open Go Go.RowKit Go.Proofs.YtglkkbgflnpjeaaGreatDoor.En Go.Proofs.YtglkkbgflnpjeaaGreatDoor.Ty Go.Proofs.YtglkkbgflnpjeaaGreatDoor.B
set_option maxRecDepth 100000
set_option linter.unusedSimpArgs false
set_option linter.unusedVariables false
set_option pp.deepTerms false
set_option pp.deepTerms.threshold 8
set_option pp.maxSteps 1000
set_option maxHeartbeats 1000000
inductive Vn where
  | num (n : Int)
  | pair (a b : Vn)
def Vn.n0 : Vn → Int
  | .num n => n
  | .pair _ _ => 0
def Vn.kp : Vn → PV
  | .num _ => .row 1 []
  | .pair a b => .row 2 [.ag [pi a.n0, a.kp], .ag [pi b.n0, b.kp]]
abbrev pv (v : Vn) : PV := .ag [pi v.n0, v.kp]
def Vn.eq : Vn → PV := fun v => pv v
def vty : Nat → Vn → Option Ty
  | 0, _ => none
  | _ + 1, .num n => if okN n = true then some [] else none
  | d + 1, .pair a b => match vty d a, vty d b with
    | some x, some y => some [⟨x⟩, ⟨y⟩]
    | _, _ => none
theorem cloneF_calls (w : World) (b : Nat) (ar : Array MapEntry) (clock : Nat) (hb : w.heap[b]? = some (.map ar clock)) :
    Calls Tryz.prog 62 #[.map (some b)] w fun e w' => e = .returned (.map (some w.heap.size)) ∧ w' = w.alloc (.map ar clock) := by
  have hq := fun w => Go.Proofs.run_eql_map_nil_sl (P := Tryz.prog) w 90 _ _ (some b) und90
  have hu := und90
  go_enter Tryz.func62, Tryz.ntmps62
  go_wp2
  rw [run_callFunc_extern Tryz.func69 (by kernel_rfl) (by kernel_rfl) (by kernel_rfl) (e := Extern.MapsClone.clone) (by kernel_rfl), Go.Proofs.run_maps_clone_sl w 90 hb]
  simp only [Result.andThen]
  rw [Oper.upon_value]
  go_wp2
  rw [Go.Proofs.run_typeAssert_map_sl _ 90 _ _ _ _ und90]
  simp only [Result.andThen]
  rw [Oper.upon_value]
  go_wp2
  go_ret
  exact ⟨rfl, rfl⟩
theorem cloneF (G : Nat → Option PV) (fe : List (ByteArray × PV)) :
    FE Tryz.prog G 62 [.mp (.S 0)] [.mp fe] (fun r H' => r = .mp (.S 1) ∧ H' = [.mp fe, .mp fe]) := FE.clone (H := [.mp fe]) (c := 0) (by kernel_rfl) (hsh_mp fe) rfl cloneF_calls
abbrev HF (fe : List (ByteArray × PV)) : List AObj := [.mp fe, .mp fe]
def vds (f : Mn → Option Vn) : List Mn → Option (List Vn)
  | [] => some []
  | x :: r => match f x with
    | none => none
    | some u => match vds f r with
      | none => none
      | some ts => some (u :: ts)
theorem vds_cons (f : Mn → Option Vn) (x : Mn) (r : List Mn) : vds f (x :: r) = (f x).bind (fun u => (vds f r).map (fun ts => u :: ts)) := by
  show (match f x with | none => none | some u => match vds f r with | none => none | some ts => some (u :: ts)) = _
  cases f x with
  | none => rfl
  | some u => cases vds f r <;> rfl
def errT {α : Type} (a : Addr) : Option α → PV
  | some _ => eN
  | none => eT0 a
abbrev zV : PV := .ag [pi 0, .row 1 []]
def ovp : Option Vn → PV
  | some v => pv v
  | none => zV
def rvp : Option (List Vn) → PV
  | some (v :: l) => .row 2 ((v :: l).map pv)
  | _ => .row 1 []
abbrev VR (a : Addr) (o : Option Vn) (H : List AObj) : TV → List AObj → Prop := fun r H' => r = .tp [.p (ovp o), .p (errT a o)] ∧ H = H'
abbrev VRs (a : Addr) (o : Option (List Vn)) (H : List AObj) : TV → List AObj → Prop := fun r H' => r = .tp [.p (rvp o), .p (errT a o)] ∧ H = H'
theorem allT2 {q : Nm → Prop} (x y : PV) : (TV.tp [.p x, .p y]).All q := .tp (fun z hz => by simp at hz; rcases hz with rfl | rfl <;> exact .p)
theorem vterms (a : Addr) (fe : List (ByteArray × PV)) (f : Mn → Option Vn) (l : List Mn) (hl : l.length ≤ 2) (ih : ∀ x ∈ l, FE Tryz.prog (GT a) 72 [.mp (.S 1), .p (pm x)] (HF fe) (VR a (f x) (HF fe))) :
    FE Tryz.prog (GT a) 63 [.mp (.S 1), .p (.row 5 (l.map eM))] (HF fe) (VRs a (vds f l) (HF fe)) := by
  refine ⟨?_, _, _, ⟨rfl, rfl⟩, allT2 _ _, hsh_mp2 _ _⟩
  refine bdy Tryz.func63 (fun _ => 0) rfl ?_
  refine rn T 99 [] ?_
  refine rn T 99 [] ?_
  refine rn T 99 [] ?_
  refine lpw (fun x : List Vn => (match x with | [] => MS.mk [(13, .p (pi 0)), (12, .p (pi (l.map eM).length)), (11, .p (.row 5 (l.map eM))), (6, .nil), (0, .mp (.S 1))] 32 [] (HF fe) | u :: r => MS.mk [(13, .p (pi ((u :: r).length))), (12, .p (pi (l.map eM).length)), (11, .p (.row 5 (l.map eM))), (6, .vw (.L 29) (u :: r).length), (0, .mp (.S 1))] 32 [(29, .rw 2 36 ((u :: r).map pv))] (HF fe))) (fun m x => m + x.length = l.length ∧ vds f l = (vds f (l.drop x.length)).map (x ++ ·)) (l.length) ([]) (by simp) ?_
  intro m x ⟨h1, h2⟩
  cases x with
  | nil =>
    refine op ?_
    refine rn T 99 [] ?_
    by_cases hi : 0 < l.length
    · obtain ⟨y, hy, hd⟩ := drop_ix hi
      refine ctq rfl (by simp [hi]) ?_
      refine rn T 99 [pm y] ?_
      refine rn T 99 [] ?_
      have hc := ih y (List.mem_of_getElem? hy)
      rw [show l.drop ([] : List Vn).length = y :: l.drop 1 from hd] at h2
      cases hf : f y with
      | none =>
        rw [hf] at hc
        have hk : vds f l = none := by rw [h2, vds_cons, hf]; rfl
        refine hes (hc) ?_; rintro _ _ ⟨rfl, rfl⟩ _ _; refine op ?_
        refine rn T 99 [] ?_
        refine rn T 99 [] ?_
        refine cts ?_
        refine rn T 99 [] ?_
        rw [hk]
        exact rt2 T _ _ ⟨rfl, rfl⟩
      | some v =>
        rw [hf] at hc
        refine hes (hc) ?_; rintro _ _ ⟨rfl, rfl⟩ _ _; refine op ?_
        refine rn T 99 [] ?_
        refine rn T 99 [] ?_
        refine cfs ?_
        refine rn T 99 [] ?_
        refine rn T 99 [] ?_
        have hm : 0 < m := by simp at h1; omega
        refine nxt (m - 1) ([v]) (⟨by simp at h1 ⊢; omega, by rw [h2, vds_cons, hf]; show _ = Option.map _ (vds f (l.drop 1)); cases vds f (l.drop 1) <;> rfl⟩)
    · refine cfq rfl (by simp [hi]) ?_
      refine rn T 99 [] ?_
      obtain rfl := List.eq_nil_of_length_eq_zero (show l.length = 0 by omega)
      exact rt2 T _ _ ⟨rfl, rfl⟩
  | cons u r =>
    have hq : ((u :: r).map pv).length = (u :: r).length := by simp
    refine op ?_
    refine rn T 99 [] ?_
    by_cases hi : (u :: r).length < l.length
    · obtain ⟨y, hy, hd⟩ := drop_ix hi
      refine ctq rfl (by simp at hi ⊢; omega) ?_
      have hr1 : r.length ≤ 2 := by simp at hi; omega
      refine rn T 99 [pm y] ?_
      refine rn T 99 [] ?_
      have hc := ih y (List.mem_of_getElem? hy)
      rw [hd] at h2
      cases hf : f y with
      | none =>
        rw [hf] at hc
        have hk : vds f l = none := by rw [h2, vds_cons, hf]; rfl
        refine hes (hc) ?_; rintro _ _ ⟨rfl, rfl⟩ _ _; refine op ?_
        refine rn T 99 [] ?_
        refine rn T 99 [] ?_
        refine cts ?_
        refine rn T 99 [] ?_
        rw [hk]
        exact rt2 T _ _ ⟨rfl, rfl⟩
      | some v =>
        rw [hf] at hc
        refine hes (hc) ?_; rintro _ _ ⟨rfl, rfl⟩ _ _; refine op ?_
        refine rn T 99 [] ?_
        refine rn T 99 [] ?_
        refine cfs ?_
        refine rn T 99 [] ?_
        refine rn T 99 [] ?_
        have hap : (u :: r).map pv ++ [pv v] = (u :: (r ++ [v])).map pv := by simp
        rw [hq, show (u :: r).length + [pv v].length = (u :: (r ++ [v])).length by simp, wkS (by simp at h1 ⊢; omega), show (u :: r).length + 1 = (u :: (r ++ [v])).length by simp]
        have hm : 0 < m := by simp at h1 hi; omega
        refine nxt (m - 1) (u :: (r ++ [v])) (⟨by simp at h1 ⊢; omega, by rw [h2, vds_cons, hf, show (u :: (r ++ [v])).length = (u :: r).length + 1 by simp]; cases vds f (l.drop ((u :: r).length + 1)) <;> simp⟩)
    · refine cfq rfl (by simp at hi ⊢; omega) ?_
      refine rn T 99 [] ?_
      have hk : vds f l = some (u :: r) := by rw [h2, List.drop_eq_nil_of_le (by omega)]; simp [vds]
      rw [hk]
      exact rt2 T _ _ ⟨rfl, rfl⟩
end Go.Proofs.YtglkkbgflnpjeaaGreatDoor.K
end
section
namespace Go.Proofs.YtglkkbgflnpjeaaGreatDoor.K
open Go Go.RowKit Go.Proofs.YtglkkbgflnpjeaaGreatDoor.En Go.Proofs.YtglkkbgflnpjeaaGreatDoor.Ty Go.Proofs.YtglkkbgflnpjeaaGreatDoor.B
set_option maxRecDepth 100000
set_option linter.unusedSimpArgs false
set_option linter.unusedVariables false
set_option pp.deepTerms false
set_option pp.deepTerms.threshold 8
set_option pp.maxSteps 1000
set_option maxHeartbeats 1000000
abbrev tyR (o : Option Ty) : TV := .tp [.p (pt (o.getD [])), .p (pb o.isSome)]
theorem vty_num (d : Nat) (n : Int) : tyR (vty (d + 1) (.num n)) = .tp [.p (.ag [.row 1 []]), .p (pb (okN n))] := by
  show tyR (if okN n = true then some [] else none) = _
  cases okN n <;> rfl
theorem typeV (G : Nat → Option PV) : ∀ (v : Vn) (d : Nat), d ≤ 10 → PF Tryz.prog G 48 [pv v, pi d] (tyR (vty d v)) := by
  intro v
  induction v with
  | num n =>
    intro d hd
    cases d with
    | zero =>
      refine ⟨(by first | exact .p | exact .tp (fun x hx => by simp at hx; rcases hx with rfl | rfl <;> exact .p) | exact .tp (fun x hx => by simp at hx; rcases hx with rfl | rfl | rfl <;> exact .p)), bdy Tryz.func48 (fun _ => 0) rfl ?_⟩
      refine rn T 99 [] ?_
      refine rn T 99 [] ?_
      refine cts ?_
      refine rn T 99 [] ?_
      exact rt2 T (.ag [.row 1 []]) (pb false) rfl
    | succ d =>
      show PF _ _ _ [.ag [pi n, .row 1 []], _] _
      rw [vty_num]
      refine ⟨(by first | exact .p | exact .tp (fun x hx => by simp at hx; rcases hx with rfl | rfl <;> exact .p) | exact .tp (fun x hx => by simp at hx; rcases hx with rfl | rfl | rfl <;> exact .p)), bdy Tryz.func48 (fun _ => 0) rfl ?_⟩
      refine rn T 99 [] ?_
      refine rn T 99 [] ?_
      refine cfq rfl (by simp; omega) ?_
      refine rn T 99 [] ?_
      refine cts ?_; try (first | refine dr1 ?_ | refine dr2 ?_ | refine dr3 ?_ | refine dr4 ?_)
      by_cases h0 : n ≥ 0
      · refine rn T 4 [] ?_
        rw [show decide (n ≥ 0) = true by simp [h0]]
        refine rn T 99 [] ?_
        rw [show decide (n ≤ 9999) = okN n by unfold okN; simp [h0]]
        exact rt2 T (.ag [.row 1 []]) (pb (okN n)) rfl
      · refine rn T 4 [] ?_
        rw [show decide (n ≥ 0) = false by simp [h0]]
        refine rn T 99 [] ?_
        rw [show okN n = false by unfold okN; simp; omega]
        exact rt2 T (.ag [.row 1 []]) (pb false) rfl
  | pair a b iha ihb =>
    intro d hd
    cases d with
    | zero =>
      refine ⟨(by first | exact .p | exact .tp (fun x hx => by simp at hx; rcases hx with rfl | rfl <;> exact .p) | exact .tp (fun x hx => by simp at hx; rcases hx with rfl | rfl | rfl <;> exact .p)), bdy Tryz.func48 (fun _ => 0) rfl ?_⟩
      refine rn T 99 [] ?_
      refine rn T 99 [] ?_
      refine cts ?_
      refine rn T 99 [] ?_
      exact rt2 T (.ag [.row 1 []]) (pb false) rfl
    | succ d =>
      have ca := iha d (by omega)
      have cb := ihb d (by omega)
      show PF _ _ _ [.ag [pi 0, .row 2 [pv a, pv b]], _] (tyR (match vty d a, vty d b with
        | some x, some y => some [⟨x⟩, ⟨y⟩]
        | _, _ => none))
      refine ⟨(by first | exact .p | exact .tp (fun x hx => by simp at hx; rcases hx with rfl | rfl <;> exact .p) | exact .tp (fun x hx => by simp at hx; rcases hx with rfl | rfl | rfl <;> exact .p)), bdy Tryz.func48 (fun _ => 0) rfl ?_⟩
      refine rn T 99 [] ?_
      refine rn T 99 [] ?_
      refine cfq rfl (by simp; omega) ?_
      refine rn T 99 [] ?_
      refine cfs ?_
      refine rn T 99 [] ?_
      refine cfs ?_
      refine rn T 99 [pv a] ?_
      rw [wkP (by omega)]
      cases ha : vty d a with
      | none =>
        rw [ha] at ca
        refine pcs (ca) ?_
        refine rn T 99 [] ?_
        refine rn T 99 [pv b] ?_
        rw [wkP (by omega)]
        refine pcs (cb) ?_
        refine rn T 99 [] ?_
        refine rn T 99 [] ?_
        refine cts ?_
        refine rn T 99 [] ?_
        exact rt2 T (.ag [.row 1 []]) (pb false) rfl
      | some x =>
        rw [ha] at ca
        refine pcs (ca) ?_
        refine rn T 99 [] ?_
        refine rn T 99 [pv b] ?_
        rw [wkP (by omega)]
        cases hb : vty d b with
        | none =>
          rw [hb] at cb
          refine pcs (cb) ?_
          refine rn T 99 [] ?_
          refine rn T 99 [] ?_
          refine cts ?_
          refine rn T 99 [] ?_
          exact rt2 T (.ag [.row 1 []]) (pb false) rfl
        | some y =>
          rw [hb] at cb
          refine pcs (cb) ?_
          refine rn T 99 [] ?_
          refine rn T 99 [] ?_
          refine cfs ?_
          refine rn T 99 [] ?_
          exact rt2 T (pt [⟨x⟩, ⟨y⟩]) (pb true) rfl
theorem copyV (G : Nat → Option PV) : ∀ v : Vn, PF Tryz.prog G 52 [pv v] (.p (pv v)) := by
  intro v
  induction v with
  | num n =>
    show PF _ _ _ [.ag [pi n, .row 1 []]] _
    refine ⟨(by first | exact .p | exact .tp (fun x hx => by simp at hx; rcases hx with rfl | rfl <;> exact .p) | exact .tp (fun x hx => by simp at hx; rcases hx with rfl | rfl | rfl <;> exact .p)), bdy Tryz.func52 (fun _ => 0) rfl ?_⟩
    refine rn T 99 [] ?_
    refine rn T 99 [] ?_
    refine cts ?_
    refine rn T 99 [] ?_
    exact rt1 T (.ag [pi n, .row 1 []]) rfl
  | pair a b iha ihb =>
    show PF _ _ _ [.ag [pi 0, .row 2 [pv a, pv b]]] _
    refine ⟨(by first | exact .p | exact .tp (fun x hx => by simp at hx; rcases hx with rfl | rfl <;> exact .p) | exact .tp (fun x hx => by simp at hx; rcases hx with rfl | rfl | rfl <;> exact .p)), bdy Tryz.func52 (fun _ => 0) rfl ?_⟩
    refine rn T 99 [] ?_
    refine rn T 99 [] ?_
    refine cfs ?_; try (first | refine dr1 ?_ | refine dr2 ?_ | refine dr3 ?_ | refine dr4 ?_)
    refine rn T 99 [pv a] ?_
    refine pcs (iha) ?_
    refine rn T 99 [pv b] ?_
    refine pcs (ihb) ?_
    refine rn T 99 [] ?_
    exact rt1 T (.ag [pi 0, .row 2 [pv a, pv b]]) rfl
theorem vcopy (G : Nat → Option PV) (v : Vn) : PF Tryz.prog G 25 [.row 2 [pv v]] (.p (.row 2 [pv v])) := by
  have cc := copyV G v
  refine ⟨(by first | exact .p | exact .tp (fun x hx => by simp at hx; rcases hx with rfl | rfl <;> exact .p) | exact .tp (fun x hx => by simp at hx; rcases hx with rfl | rfl | rfl <;> exact .p)), bdy Tryz.func25 (fun _ => 0) rfl ?_⟩
  refine rn T 99 [] ?_
  refine rn T 99 [] ?_
  refine rn T 99 [] ?_
  refine lpw (fun i : Nat => (match i with | 0 => MS.mk [(8, .p (pi 0)), (7, .p (pi 1)), (6, .p (.row 2 [pv v])), (3, .nil)] 19 [] [] | _ => MS.mk [(8, .p (pi 1)), (7, .p (pi 1)), (6, .p (.row 2 [pv v])), (3, .vw (.L 16) 1)] 19 [(16, .rw 2 36 [pv v])] [])) (fun m i => m + i = 1) (1) (0) (by simp) ?_
  intro m i h1
  obtain rfl | rfl : i = 0 ∨ i = 1 := by omega
  · refine op ?_
    refine rn T 99 [] ?_
    refine cts ?_
    refine rn T 99 [pv v] ?_
    refine rn T 99 [] ?_
    refine pcs (cc) ?_
    refine rn T 99 [] ?_
    refine rn T 99 [] ?_
    refine nxt (m - 1) (1) (by omega)
  · refine op ?_
    refine rn T 99 [] ?_
    refine cfs ?_
    refine rn T 99 [] ?_
    exact rt1 T (.row 2 [pv v]) rfl
theorem typedV (G : Nat → Option PV) (v : Vn) : PF Tryz.prog G 22 [pv v] (tyR (vty 4 v)) := by
  have ct := typeV G v 4 (by omega)
  refine ⟨(by first | exact .p | exact .tp (fun x hx => by simp at hx; rcases hx with rfl | rfl <;> exact .p) | exact .tp (fun x hx => by simp at hx; rcases hx with rfl | rfl | rfl <;> exact .p)), bdy Tryz.func22 (fun _ => 0) rfl ?_⟩
  refine rn T 99 [] ?_
  refine rn T 99 [] ?_
  refine pcs (ct) ?_
  refine rn T 99 [] ?_
  exact rt2 T _ _ rfl
theorem vbody (a : Addr) (fe : List (ByteArray × PV)) (x : Mn) (o : Option Vn) (rs : List PV) (hx : FE Tryz.prog (GT a) 72 [.mp (.S 1), .p (pm x)] (HF fe) (VR a o (HF fe))) :
    FE Tryz.prog (GT a) 49 [.mp (.S 0), .p (.row 4 rs), .p (.ag [.row 1 [], .row 5 [pm x]])] [.mp fe] (VRs a (vds (fun _ => o) [x]) (HF fe)) := by
  have cc := cloneF (GT a) fe
  have ct := vterms a fe (fun _ => o) [x] (by simp) (fun y hy => by rw [List.mem_singleton] at hy; subst hy; exact hx)
  rw [show [x].map eM = [pm x] by rw [List.map_cons, eM_eq]; rfl] at ct
  refine ⟨?_, _, _, ⟨rfl, rfl⟩, allT2 _ _, hsh_mp2 _ _⟩
  refine bdy Tryz.func49 (fun _ => 0) rfl ?_
  refine rn T 99 [] ?_
  refine rn T 99 [] ?_
  refine hes (cc) ?_; rintro _ _ ⟨rfl, rfl⟩ _ _; refine op ?_
  refine rn T 99 [] ?_
  refine rn T 99 [] ?_
  refine lpw (fun i : Nat => MS.mk [(21, .p (pi 0)), (20, .p (pi 0)), (8, .mp (.S 1)), (5, .ptr (.L 5) 0)] 97 [(5, .box 49 [.p (.row 1 []), .p (.row 5 [pm x])])] (HF fe)) (fun m i => True) (0) (0) (trivial) ?_
  intro m2 i _
  refine op ?_
  refine rn T 99 [] ?_
  refine cfs ?_
  refine rn T 99 [] ?_
  refine hes (ct) ?_; rintro _ _ ⟨rfl, rfl⟩ _ _; refine op ?_
  refine rn T 99 [] ?_
  exact rt2 T _ _ ⟨rfl, rfl⟩
abbrev fst3 (v0 v1 v2 : Vn) : List (ByteArray × PV) := [(nmA, pv v0), (nmB', pv v1), (nmC, pv v2)]
theorem vcall (a : Addr) (v0 v1 v2 : Vn) (x : Mn) (o : Option Vn) (hx : FE Tryz.prog (GT a) 72 [.mp (.S 1), .p (pm x)] (HF (fst3 v0 v1 v2)) (VR a o (HF (fst3 v0 v1 v2)))) :
    PF Tryz.prog (GT a) 23 [.row 4 [pur x], ps nmF, .row 2 [pv v0, pv v1, pv v2]] (.tp [.p (rvp (vds (fun _ => o) [x])), .p (errT a (vds (fun _ => o) [x]))]) := by
  have cf := find1 (GT a) x
  have cb := vbody a (fst3 v0 v1 v2) x o [pur x] hx
  refine ⟨(by first | exact .p | exact .tp (fun x hx => by simp at hx; rcases hx with rfl | rfl <;> exact .p) | exact .tp (fun x hx => by simp at hx; rcases hx with rfl | rfl | rfl <;> exact .p)), bdy Tryz.func23 (fun d => if d = 19 then 1 else 0) rfl ?_⟩
  refine rn T 99 [] ?_
  refine rn T 99 [] ?_
  refine pcs (cf) ?_
  refine rn T 99 [] ?_
  refine rn T 99 [] ?_
  refine rn T 99 [] ?_
  refine lpw (fun i : Nat => MS.mk [(23, .p (pi i)), (22, .p (pi 3)), (21, .p (.row 1 (abc.map ps))), (10, .mp (.S 0)), (0, .p (.row 4 [pur x])), (2, .p (.row 2 [pv v0, pv v1, pv v2])), (8, .ptr (.L 8) 0)] 42 [(8, .box 51 [.p (ps nmF), .p (.row 1 (abc.map ps)), .p (.row 1 []), .p (.row 5 [pm x])])] [.mp ((fst3 v0 v1 v2).take i)]) (fun m i => m + i = 3) (3) (0) (by simp) ?_
  intro m2 i h1
  refine op ?_
  refine rn T 99 [] ?_
  obtain rfl | rfl | rfl | rfl : i = 0 ∨ i = 1 ∨ i = 2 ∨ i = 3 := by omega
  · refine cts ?_
    refine rn T 99 [ps nmA] ?_
    refine rn T 99 [pv v0] ?_
    refine rn T 99 [] ?_
    refine nxt (m2 - 1) (1) (by omega)
  · refine cts ?_
    refine rn T 99 [ps nmB'] ?_
    refine rn T 99 [pv v1] ?_
    refine rn T 99 [] ?_
    refine nxt (m2 - 1) (2) (by omega)
  · refine cts ?_
    refine rn T 99 [ps nmC] ?_
    refine rn T 99 [pv v2] ?_
    refine rn T 99 [] ?_
    refine nxt (m2 - 1) (3) (by omega)
  · refine cfs ?_
    refine rn T 99 [] ?_
    refine hes (cb) ?_; rintro _ _ ⟨rfl, rfl⟩ _ _; refine op ?_
    refine rn T 99 [] ?_
    exact rt2 T _ _ rfl
theorem vrun (a : Addr) (v0 v1 v2 : Vn) (x : Mn) (o : Option Vn) (hx : FE Tryz.prog (GT a) 72 [.mp (.S 1), .p (pm x)] (HF (fst3 v0 v1 v2)) (VR a o (HF (fst3 v0 v1 v2)))) (hok : tk (hasS abc) 8 x = true)
    (h0 : (vty 4 v0).isSome = true) (h1 : (vty 4 v1).isSome = true) (h2 : (vty 4 v2).isSome = true) :
    PF Tryz.prog (GT a) 8 [.row 4 [pur x], ps nmF, .row 2 [pv v0, pv v1, pv v2]] (.tp [.p (rvp (vds (fun _ => o) [x])), .p (pi (if o.isSome = true then 0 else 1))]) := by
  have co := pureOk3 (GT a) x
  rw [hok] at co
  have cf := find1 (GT a) x
  have c0 := typedV (GT a) v0
  have c1 := typedV (GT a) v1
  have c2 := typedV (GT a) v2
  unfold tyR at c0 c1 c2
  rw [h0] at c0
  rw [h1] at c1
  rw [h2] at c2
  have cc := vcall a v0 v1 v2 x o hx
  refine ⟨(by first | exact .p | exact .tp (fun x hx => by simp at hx; rcases hx with rfl | rfl <;> exact .p) | exact .tp (fun x hx => by simp at hx; rcases hx with rfl | rfl | rfl <;> exact .p)), bdy Tryz.func8 (fun _ => 0) rfl ?_⟩
  refine rn T 99 [] ?_
  refine rn T 99 [] ?_
  refine pcs (co) ?_
  refine rn T 99 [] ?_
  refine cfs ?_
  refine rn T 99 [] ?_
  refine pcs (cf) ?_
  refine rn T 99 [] ?_
  refine rn T 99 [] ?_
  refine cfs ?_
  refine rn T 99 [] ?_
  refine lpw (fun i : Nat => MS.mk [(37, .p (pi i)), (36, .p (pi 3)), (35, .p (.row 2 [pv v0, pv v1, pv v2])), (0, .p (.row 4 [pur x])), (1, .p (ps nmF)), (2, .p (.row 2 [pv v0, pv v1, pv v2]))] 61 [] []) (fun m i => m + i = 3) (3) (0) (by simp) ?_
  intro m2 i hm
  refine op ?_
  refine rn T 99 [] ?_
  obtain rfl | rfl | rfl | rfl : i = 0 ∨ i = 1 ∨ i = 2 ∨ i = 3 := by omega
  · refine cts ?_
    refine rn T 99 [pv v0] ?_
    refine rn T 99 [] ?_
    refine pcs (c0) ?_
    refine rn T 99 [] ?_
    refine rn T 99 [] ?_
    refine cfs ?_
    refine rn T 99 [] ?_
    refine nxt (m2 - 1) (1) (by omega)
  · refine cts ?_
    refine rn T 99 [pv v1] ?_
    refine rn T 99 [] ?_
    refine pcs (c1) ?_
    refine rn T 99 [] ?_
    refine rn T 99 [] ?_
    refine cfs ?_
    refine rn T 99 [] ?_
    refine nxt (m2 - 1) (2) (by omega)
  · refine cts ?_
    refine rn T 99 [pv v2] ?_
    refine rn T 99 [] ?_
    refine pcs (c2) ?_
    refine rn T 99 [] ?_
    refine rn T 99 [] ?_
    refine cfs ?_
    refine rn T 99 [] ?_
    refine nxt (m2 - 1) (3) (by omega)
  · refine cfs ?_
    refine rn T 99 [] ?_
    refine pcs (cc) ?_
    refine rn T 99 [] ?_
    refine rn T 99 [] ?_
    cases o with
    | none =>
      refine pcs (is_same2 (GT a) a) ?_
      refine cts ?_
      refine rn T 99 [] ?_
      exact rt2 T (.row 1 []) (pi 1) rfl
    | some v =>
      refine pcs (is_nil2 (GT a) a) ?_
      refine cfs ?_
      refine rn T 99 [] ?_
      refine pcs (vcopy (GT a) v) ?_
      refine rn T 99 [] ?_
      exact rt2 T (.row 2 [pv v]) (pi 0) rfl
end Go.Proofs.YtglkkbgflnpjeaaGreatDoor.K
end
section
namespace Go.Proofs.YtglkkbgflnpjeaaGreatDoor.K
open Go Go.RowKit Go.Proofs.YtglkkbgflnpjeaaGreatDoor.En Go.Proofs.YtglkkbgflnpjeaaGreatDoor.Ty Go.Proofs.YtglkkbgflnpjeaaGreatDoor.B
set_option maxRecDepth 100000
set_option linter.unusedSimpArgs false
set_option linter.unusedVariables false
set_option pp.deepTerms false
set_option pp.deepTerms.threshold 8
set_option pp.maxSteps 1000
set_option maxHeartbeats 1000000
abbrev numM (n : Int) : Mn := ⟨1, n, ⟨#[]⟩, [], []⟩
abbrev opM (k p q : Int) : Mn := ⟨k, 0, ⟨#[]⟩, [], [numM p, numM q]⟩
theorem numT (a : Addr) (fe : List (ByteArray × PV)) (n : Int) : FE Tryz.prog (GT a) 72 [.mp (.S 1), .p (pm (numM n))] (HF fe) (VR a (some (.num n)) (HF fe)) := by
  refine ⟨?_, _, _, ⟨rfl, rfl⟩, allT2 _ _, hsh_mp2 _ _⟩
  show FC _ _ _ [_, .p (.ag [pi 1, pi n, ps ⟨#[]⟩, .row 1 [], .row 5 []])] _ _
  refine bdy Tryz.func72 (fun _ => 0) rfl ?_
  refine rn T 99 [] ?_
  refine rn T 99 [] ?_
  refine rn T 99 [] ?_
  refine cts ?_
  refine rn T 99 [] ?_
  exact rt2 T (.ag [pi n, .row 1 []]) eN ⟨rfl, rfl⟩
def opO (k p q : Int) : Option Vn := if okN (opv k p q) = true then some (.num (opv k p q)) else none
theorem opT (a : Addr) (fe : List (ByteArray × PV)) (k p q : Int) (hk : k = 3 ∨ k = 4 ∨ k = 5) (hp : 0 ≤ p ∧ p ≤ 99) (hq : 0 ≤ q ∧ q ≤ 99) :
    FE Tryz.prog (GT a) 72 [.mp (.S 1), .p (pm (opM k p q))] (HF fe) (VR a (opO k p q) (HF fe)) := by
  have ct := vterms a fe (fun y => some (.num y.f1)) [numM p, numM q] (by simp) (fun y hy => by
    simp only [List.mem_cons, List.not_mem_nil, or_false] at hy
    rcases hy with rfl | rfl <;> exact numT a fe _)
  have c2 := two2 a k p q hk ⟨hp.1, by omega⟩ ⟨hq.1, by omega⟩
  refine ⟨?_, _, _, ⟨rfl, rfl⟩, allT2 _ _, hsh_mp2 _ _⟩
  show FC _ _ _ [_, .p (.ag [pi k, pi 0, ps ⟨#[]⟩, .row 1 [], .row 5 ([numM p, numM q].map eM)])] _ _
  refine bdy Tryz.func72 (fun _ => 0) rfl ?_
  refine rn T 99 [] ?_
  refine rn T 99 [] ?_
  refine rn T 99 [] ?_
  refine cfq rfl (by simp; omega) ?_
  refine rn T 99 [] ?_
  refine cfq rfl (by simp; omega) ?_
  refine rn T 99 [] ?_
  refine hes (ct) ?_; rintro _ _ ⟨rfl, rfl⟩ _ _; refine op ?_
  refine rn T 99 [] ?_
  refine rn T 99 [] ?_
  refine cfs ?_
  refine rn T 99 [] ?_
  refine rn T 99 [] ?_
  refine rn T 99 [] ?_
  refine rn T 99 [] ?_
  refine cfq rfl (by simp; omega) ?_
  refine rn T 99 [] ?_
  refine cfq rfl (by simp; omega) ?_; try (first | refine dr1 ?_ | refine dr2 ?_ | refine dr3 ?_ | refine dr4 ?_)
  refine rn T 99 [pv (.num p), pv (.num q)] ?_
  refine pcs (c2) ?_
  refine rn T 99 [] ?_
  unfold opO
  cases h : okN (opv k p q) with
  | true => exact rt2 T (.ag [pi (opv k p q), .row 1 []]) eN ⟨by simp [h]; exact ⟨rfl, rfl⟩, rfl⟩
  | false => exact rt2 T zV (eT0 a) ⟨by simp [h]; exact ⟨rfl, rfl⟩, rfl⟩
theorem smp_num (n : Nat) (v : Int) : smp n (numM v) = numM v := by
  cases n with
  | zero => rfl
  | succ n =>
    rw [smp_eq]
    exact whlF_f rfl
theorem smp_op {k p q : Int} (hk : k = 3 ∨ k = 4 ∨ k = 5) (n : Nat) : smp (n + 1) (opM k p q) = if okN (opv k p q) = true then numM (opv k p q) else opM k p q := by
  rw [smp_eq]
  show whlF (msz ⟨k, 0, ⟨#[]⟩, [], [smp n (numM p), smp n (numM q)]⟩) ⟨k, 0, ⟨#[]⟩, [], [smp n (numM p), smp n (numM q)]⟩ = _
  rw [smp_num, smp_num]
  have hs : stp (opM k p q) = if okN (opv k p q) = true then (numM (opv k p q), true) else (⟨1, 0, ⟨#[]⟩, [], []⟩, false) := by
    unfold stp
    rw [if_neg (by show ¬ (k = 1 ∨ k = 2); omega), if_neg (by show ¬ k = 7; omega), if_neg (by show ¬ k = 8; omega)]
    show sOp k (numM p) (numM q) = _
    unfold sOp
    rw [if_neg (by show ¬ (k = 6 ∨ (1 : Int) ≠ 1 ∨ (1 : Int) ≠ 1); omega)]
    rfl
  obtain ⟨m, hm⟩ : ∃ m, msz (opM k p q) = m + 1 := ⟨mszs [numM p, numM q], by show 1 + _ = _; omega⟩
  rw [hm]
  by_cases h : okN (opv k p q) = true
  · rw [if_pos h] at hs ⊢
    rw [whlF_t (by rw [hs]), hs]
    exact whlF_f rfl
  · rw [if_neg h] at hs ⊢
    exact whlF_f (by rw [hs])
theorem tk_num {f : ByteArray → Bool} {n : Nat} {v : Int} (h : 0 ≤ v ∧ v ≤ 9999) : tk f (n + 1) (numM v) = true := by
  rw [tk_eq, tkH_1, decide_eq_true h]
  rfl
theorem tk_op {f : ByteArray → Bool} {n : Nat} {k p q : Int} (hk : k = 3 ∨ k = 4 ∨ k = 5) (hp : 0 ≤ p ∧ p ≤ 99) (hq : 0 ≤ q ∧ q ≤ 99) : tk f (n + 2) (opM k p q) = true := by
  rw [tk_eq, tkH_3 _ _ _ _ _ _ (by omega), List.all_cons, List.all_cons, tk_num ⟨hp.1, by omega⟩, tk_num ⟨hq.1, by omega⟩]
  rfl
theorem simT_op {k p q : Int} (hk : k = 3 ∨ k = 4 ∨ k = 5) (hp : 0 ≤ p ∧ p ≤ 99) (hq : 0 ≤ q ∧ q ≤ 99) : simT (opM k p q) = if okN (opv k p q) = true then numM (opv k p q) else opM k p q := by
  unfold simT sOk
  rw [if_pos (tk_op (n := 6) hk hp hq), smp_op hk 7]
  by_cases h : okN (opv k p q) = true
  · rw [if_pos h, if_pos (by rfl)]
  · rw [if_neg h]
    split <;> rfl
end Go.Proofs.YtglkkbgflnpjeaaGreatDoor.K
end
section
namespace Go.Proofs.YtglkkbgflnpjeaaGreatDoor.K
open Go Go.RowKit Go.Proofs.YtglkkbgflnpjeaaGreatDoor.En Go.Proofs.YtglkkbgflnpjeaaGreatDoor.Ty Go.Proofs.YtglkkbgflnpjeaaGreatDoor.B
set_option maxRecDepth 100000
set_option linter.unusedSimpArgs false
set_option linter.unusedVariables false
set_option pp.deepTerms false
set_option pp.deepTerms.threshold 8
set_option pp.maxSteps 1000
set_option maxHeartbeats 1000000
theorem dM_dP : ∀ {n : Nat} {t : Mn}, dP n t = true → dM n t = true
  | 0, _, h => by cases h
  | n + 1, ⟨k, m, s, p, l⟩, h => by
    obtain ⟨h1, _, h3⟩ := dP_inv h
    refine dMl ⟨h1, ?_⟩
    rw [List.all_eq_true]
    exact fun x hx => dM_dP (h3 x hx)
end Go.Proofs.YtglkkbgflnpjeaaGreatDoor.K
end
section
namespace Go.Proofs.YtglkkbgflnpjeaaGreatDoor.K
open Go Go.RowKit Go.Proofs.YtglkkbgflnpjeaaGreatDoor.En Go.Proofs.YtglkkbgflnpjeaaGreatDoor.Ty Go.Proofs.YtglkkbgflnpjeaaGreatDoor.B
set_option maxRecDepth 100000
set_option linter.unusedSimpArgs false
set_option linter.unusedVariables false
set_option pp.deepTerms false
set_option pp.deepTerms.threshold 8
set_option pp.maxSteps 1000
set_option maxHeartbeats 1000000
def Imp (x y : PV) : Prop := ∀ (w : World) (S : Nat → Nat → Prop) (V : Value), PRep w S x V → PRep w S y V
def ImpL : List PV → List PV → Prop
  | [], [] => True
  | x :: l, y :: r => Imp x y ∧ ImpL l r
  | _, _ => False
def ImpR : List PV → List PV → Prop
  | [], [] => True
  | x :: l, y :: r => ImpL x.cells y.cells ∧ ImpR l r
  | _, _ => False
theorem Imp.rfl' (x : PV) : Imp x x := fun _ _ _ h => h
theorem ImpL.refl : ∀ l, ImpL l l
  | [] => trivial
  | x :: l => ⟨Imp.rfl' x, ImpL.refl l⟩
theorem ImpL.spec : ∀ {l r : List PV}, ImpL l r → l.length = r.length ∧ ∀ (k : Nat) b, r[k]? = some b → ∃ a, l[k]? = some a ∧ Imp a b
  | [], [], _ => ⟨rfl, fun k b h => by simp at h⟩
  | x :: l, y :: r, h => by
    obtain ⟨h1, h2⟩ := ImpL.spec h.2
    refine ⟨by simp [h1], fun k b hb => ?_⟩
    cases k with
    | zero => cases hb; exact ⟨x, rfl, h.1⟩
    | succ k => exact h2 k b hb
  | [], _ :: _, h => h.elim
  | _ :: _, [], h => h.elim
theorem ImpL.app : ∀ {l r l' r' : List PV}, ImpL l r → ImpL l' r' → ImpL (l ++ l') (r ++ r')
  | [], [], _, _, _, h => h
  | x :: l, y :: r, _, _, h, h' => ⟨h.1, ImpL.app h.2 h'⟩
  | [], _ :: _, _, _, h, _ => h.elim
  | _ :: _, [], _, _, h, _ => h.elim
theorem ImpR.flat : ∀ {l r : List PV}, ImpR l r → l.length = r.length ∧ ImpL (En.flat l) (En.flat r)
  | [], [], _ => ⟨rfl, trivial⟩
  | x :: l, y :: r, h => by
    obtain ⟨h1, h2⟩ := ImpR.flat h.2
    refine ⟨by simp [h1], ?_⟩
    rw [flat_cons, flat_cons]
    exact ImpL.app h.1 h2
  | [], _ :: _, h => h.elim
  | _ :: _, [], h => h.elim
theorem imp_nil (z z' : Nat) : Imp (.row z []) (.row z' []) := fun w S V h => by
  cases h with
  | nl => exact .nl
  | row => exact .nl
theorem imp_ag {l r : List PV} (h : ImpL l r) : Imp (.ag l) (.ag r) := fun w S V hv => by
  obtain ⟨h1, h2⟩ := h.spec
  cases hv with
  | ag hs hh ho =>
    refine .ag (by omega) (fun k y u hy hu => ?_) ho
    obtain ⟨a, ha, hi⟩ := h2 k y hy
    exact hi w S u (hh k a u ha hu)
theorem imp_row {z : Nat} {l r : List PV} (h : ImpR l r) (hz : ∀ x ∈ r, x.cells.length = z) : Imp (.row z l) (.row z r) := fun w S V hv => by
  obtain ⟨h1, h2⟩ := h.flat
  obtain ⟨_, h3⟩ := h2.spec
  cases hv with
  | nl =>
    obtain rfl : r = [] := List.eq_nil_of_length_eq_zero (by simpa using h1.symm)
    exact .nl
  | row U hc hzz hU hcell =>
    rw [h1] at hc hcell ⊢
    exact .row U hc hz (fun k y hy => by obtain ⟨a, ha, hi⟩ := h3 k y hy; exact hi w S _ (hU k a ha)) hcell
theorem PF.imp {P : Program} {G : Nat → Option PV} {f : FuncId} {xs ys : List PV} {r : TV} (h : PF P G f ys r) (hi : ImpL xs ys) : PF P G f xs r := by
  obtain ⟨h1, h2⟩ := hi.spec
  refine ⟨h.1, h.2.1, fun w S g V hh hl hv => h.2.2 w S g V hh (by simp at hl ⊢; omega) (fun k x v hx hV => ?_)⟩
  rw [List.getElem?_map] at hx
  obtain ⟨y, hy, rfl⟩ := Option.map_eq_some_iff.1 hx
  obtain ⟨a, ha, hab⟩ := h2 k y hy
  have := hv k (.p a) v (by rw [List.getElem?_map, ha]; rfl) hV
  cases this with
  | p h => exact .p (hab _ _ _ h)
theorem smp_mono : ∀ {n m : Nat} {t : Mn}, okD n t = true → n ≤ m → smp m t = smp n t
  | 0, _, _, h, _ => by cases h
  | n + 1, 0, _, _, h => by omega
  | n + 1, m + 1, ⟨k, mm, s, p, l⟩, ho, h => by
    obtain ⟨_, e, _, hk⟩ := okD_inv ho
    cases e
    have e : l.map (smp m) = l.map (smp n) := List.map_congr_left (fun x hx => smp_mono (hk x hx) (by omega))
    rw [smp_eq, smp_eq, e]
theorem tk_dM {f : ByteArray → Bool} : ∀ {n m : Nat} {t : Mn}, tk f n t = true → dM m t = true → tk f m t = true
  | 0, _, _, h, _ => by cases h
  | _ + 1, 0, _, _, h => by cases h
  | n + 1, m + 1, ⟨k, mm, s, p, l⟩, h, hd => by
    obtain ⟨_, hk⟩ := dM_kids hd
    rw [tk_eq, Bool.and_eq_true, List.all_eq_true] at h ⊢
    exact ⟨h.1, fun x hx => tk_dM (h.2 x hx) (hk x hx)⟩
abbrev nameM (s : ByteArray) : Mn := ⟨2, 0, s, [], []⟩
abbrev pairM (x y : Mn) : Mn := ⟨6, 0, ⟨#[]⟩, [], [x, y]⟩
abbrev putM (p : List Int) (x y : Mn) : Mn := ⟨8, 0, ⟨#[]⟩, p, [x, y]⟩
theorem simT_part {t part : Mn} (h6 : tk pw 6 t = true) (hpart : tk pw 8 part = true) (hs : smp 8 part = smp 6 t) : simT part = simT t ∨ simT part = part := by
  have h8 : tk pw 8 t = true := by
    have h1 := okD_tk (fun _ h => h) h6
    exact tk_dM h6 (dM_mono (dM_okD h1) (by omega))
  have e : smp 8 t = smp 6 t := smp_mono (okD_tk (fun _ h => h) h6) (by omega)
  unfold simT sOk
  rw [if_pos hpart, if_pos h8, hs, e]
  by_cases hp : pok 8 (smp 6 t) = true
  · left; rw [if_pos hp, if_pos hp]
  · right; rw [if_neg hp]
theorem smp_name {n : Nat} {s : ByteArray} (h : pw s = true) : smp n (nameM s) = nameM s := smp_leaf (.name h) rfl
theorem smp_pair {n : Nat} {x y : Mn} : smp (n + 1) (pairM x y) = pairM (smp n x) (smp n y) := by
  rw [smp_eq]
  exact whl_op0 (.inr (.inr (.inr rfl))) (by unfold sOp; rw [if_pos (.inl rfl)])
theorem whl_nil {f : Nat} {u : Mn} (h : (stp u).2 = false) : whlF (f + 1) (atM [] u) = u := by
  rw [whl_at (u := u) rfl]
  exact whlF_f h
theorem smp_at {n : Nat} {p : List Int} {x u : Mn} (hs : (stp u).2 = false) (h : sAt p (smp n x) = some (atM [] u)) : smp (n + 1) (atM p x) = u := by
  show whlF (msz (atM p (smp n x))) (atM p (smp n x)) = u
  rw [msz_at]
  obtain ⟨f, hf⟩ : ∃ f, 1 + msz (smp n x) = f + 2 := ⟨msz (smp n x) - 1, by have := msz_pos (smp n x); omega⟩
  rw [hf, whl_at h]
  exact whl_nil hs
theorem partA {t : Mn} (h6 : tk pw 6 t = true) : simT (atM [0] (pairM t (nameM nmB'))) = simT t ∨ simT (atM [0] (pairM t (nameM nmB'))) = atM [0] (pairM t (nameM nmB')) := by
  have h1 := okD_tk (fun _ h => h) h6
  have hs := (smp_inv h1).2.1
  have hst := (smD_inv (n := 5) hs).1
  refine simT_part h6 ?_ (smp_at hst ?_)
  · show (true && ((true && (tk pw 6 t && ((pw nmB' && true && true && true && true) && true))) && true)) = true
    rw [h6, show pw nmB' = true by decide]; rfl
  · rw [smp_pair, smp_name (by decide)]
    rfl
theorem partB {t : Mn} (h6 : tk pw 6 t = true) : simT (atM [1] (pairM (nameM nmB') t)) = simT t ∨ simT (atM [1] (pairM (nameM nmB') t)) = atM [1] (pairM (nameM nmB') t) := by
  have h1 := okD_tk (fun _ h => h) h6
  have hs := (smp_inv h1).2.1
  have hst := (smD_inv (n := 5) hs).1
  refine simT_part h6 ?_ (smp_at hst ?_)
  · show (true && ((true && ((pw nmB' && true && true && true && true) && (tk pw 6 t && true))) && true)) = true
    rw [h6, show pw nmB' = true by decide]; rfl
  · rw [smp_pair, smp_name (by decide)]
    rfl
theorem smp_putc {n : Nat} {p : List Int} {x : Mn} {s : ByteArray} (h : pw s = true) (hp : p ≠ []) : smp (n + 1) (putM p (nameM s) x) = putM p (nameM s) (smp n x) := by
  rw [smp_eq]
  show whlF _ ⟨8, 0, ⟨#[]⟩, p, [smp n (nameM s), smp n x]⟩ = _
  rw [smp_name h]
  exact whl_put0 (by unfold sPut; rw [if_neg (fun q => hp q.1), if_neg (fun q => by cases q.1)])
theorem partC {t : Mn} {p : List Int} (h6 : tk pw 6 t = true) (hp : p ≠ []) (hb : pathB p = true) : simT (atM p (putM p (nameM nmC) t)) = simT t ∨ simT (atM p (putM p (nameM nmC) t)) = atM p (putM p (nameM nmC) t) := by
  have h1 := okD_tk (fun _ h => h) h6
  have hs := (smp_inv h1).2.1
  have hst := (smD_inv (n := 5) hs).1
  refine simT_part h6 ?_ (smp_at hst ?_)
  · show ((pathB p && true && true && true) && (((pathB p && true && true && true) && ((pw nmC && true && true && true && true) && (tk pw 6 t && true))) && true)) = true
    rw [h6, hb, show pw nmC = true by decide]; rfl
  · rw [smp_putc (by decide) hp]
    have hb2 : bgn p p = true := bgn_t (Nat.le_refl _) (List.take_length)
    cases p with
    | nil => exact absurd rfl hp
    | cons i r =>
      rw [sAt_put, if_pos hb2, if_pos (show plB (nameM nmC) = true from rfl), List.drop_length]
theorem tk6 {t : Mn} (h : tk (hasS abc) 8 t = true) (hd : dM 6 t = true) : tk pw 6 t = true := by
  refine tk_dM (tk_mono (fun s _ hs => ?_) h) hd
  have h := hasS_mem.1 hs
  simp only [List.mem_cons, List.not_mem_nil, or_false] at h
  rcases h with rfl | rfl | rfl <;> decide
theorem pm_at {p : List Int} {x : Mn} : pm (atM p x) = .ag [pi 7, pi 0, ps ⟨#[]⟩, .row 1 (p.map pi), .row 5 [pm x]] := by
  rw [← eM_eq x]; rfl
theorem pm_pair {x y : Mn} : pm (pairM x y) = .ag [pi 6, pi 0, ps ⟨#[]⟩, .row 1 [], .row 5 [pm x, pm y]] := by
  rw [← eM_eq x, ← eM_eq y]; rfl
theorem pm_put {p : List Int} {x y : Mn} : pm (putM p x y) = .ag [pi 8, pi 0, ps ⟨#[]⟩, .row 1 (p.map pi), .row 5 [pm x, pm y]] := by
  rw [← eM_eq x, ← eM_eq y]; rfl
abbrev nmP (s : ByteArray) : PV := .ag [pi 2, pi 0, ps s, .row 1 [], .row 1 []]
theorem imp_nm (s : ByteArray) : ImpL (nmP s).cells (pm (nameM s)).cells := ⟨Imp.rfl' _, Imp.rfl' _, Imp.rfl' _, Imp.rfl' _, imp_nil _ _, trivial⟩
abbrev partP (i : Int) (k : List PV) : PV := .ag [pi 7, pi 0, ps ⟨#[]⟩, .row 1 [pi i], .row 5 [.ag [pi 6, pi 0, ps ⟨#[]⟩, .row 1 [], .row 5 k]]]
theorem imp_part {i : Int} {k k' : List PV} (h : ImpR k k') (hz : ∀ x ∈ k', x.cells.length = 5) : Imp (partP i k) (partP i k') := imp_ag ⟨Imp.rfl' _, Imp.rfl' _, Imp.rfl' _, Imp.rfl' _, imp_row ⟨⟨Imp.rfl' _, Imp.rfl' _, Imp.rfl' _, Imp.rfl' _, imp_row h hz, trivial⟩, trivial⟩ (fun x hx => by rw [List.mem_singleton] at hx; subst hx; rfl), trivial⟩
theorem dP_mk {n : Nat} {k m : Int} {s : ByteArray} {p : List Int} {l : List Mn} (h1 : l.length ≤ 2) (h2 : p.length ≤ 50000) (h3 : ∀ x ∈ l, dP n x = true) : dP (n + 1) ⟨k, m, s, p, l⟩ = true := by
  unfold dP
  simp only [Bool.and_eq_true, decide_eq_true_eq, List.all_eq_true]
  exact ⟨⟨h1, h2⟩, h3⟩
theorem dP_name {n : Nat} {s : ByteArray} : dP (n + 1) (nameM s) = true := dP_mk (by simp) (by simp) (fun x hx => by cases hx)
theorem dP_6 {t : Mn} (h6 : tk pw 6 t = true) : dP 6 t = true := dP_okD (okD_tk (fun _ h => h) h6) (by have := mpl_tk h6; omega)
theorem dP_at {n : Nat} {p : List Int} {x : Mn} (hp : p.length ≤ 50000) (h : dP n x = true) : dP (n + 1) (atM p x) = true := dP_mk (by simp) hp (fun y hy => by rw [List.mem_singleton] at hy; subst hy; exact h)
theorem dP_two {n : Nat} {k : Int} {p : List Int} {x y : Mn} (hp : p.length ≤ 50000) (h : dP n x = true) (h' : dP n y = true) : dP (n + 1) ⟨k, 0, ⟨#[]⟩, p, [x, y]⟩ = true := dP_mk (by simp) hp (fun z hz => by
  simp only [List.mem_cons, List.not_mem_nil, or_false] at hz
  rcases hz with rfl | rfl
  · exact h
  · exact h')
theorem pm5 (t : Mn) : (pm t).cells.length = 5 := by obtain ⟨_, _, _, _, _⟩ := t; rfl
end Go.Proofs.YtglkkbgflnpjeaaGreatDoor.K
end
section
namespace Go.Proofs.YtglkkbgflnpjeaaGreatDoor.K
open Go Go.RowKit Go.Proofs.YtglkkbgflnpjeaaGreatDoor.En Go.Proofs.YtglkkbgflnpjeaaGreatDoor.Ty Go.Proofs.YtglkkbgflnpjeaaGreatDoor.B
set_option maxRecDepth 100000
set_option linter.unusedSimpArgs false
set_option linter.unusedVariables false
set_option pp.deepTerms false
set_option pp.deepTerms.threshold 8
set_option pp.maxSteps 1000
set_option maxHeartbeats 1000000
abbrev numP (n : Int) : PV := .ag [pi 1, pi n, ps ⟨#[]⟩, .row 1 [], .row 1 []]
abbrev opP (k p q : Int) : PV := .ag [pi k, pi 0, ps ⟨#[]⟩, .row 1 [], .row 5 [numP p, numP q]]
theorem imp_op (k p q : Int) : Imp (opP k p q) (pm (opM k p q)) := by
  show Imp _ (.ag [pi k, pi 0, ps ⟨#[]⟩, .row 1 [], .row 5 [pm (numM p), pm (numM q)]])
  have hn : ∀ n, ImpL (numP n).cells (pm (numM n)).cells := fun n => ⟨Imp.rfl' _, Imp.rfl' _, Imp.rfl' _, Imp.rfl' _, imp_nil _ _, trivial⟩
  exact imp_ag ⟨Imp.rfl' _, Imp.rfl' _, Imp.rfl' _, Imp.rfl' _, imp_row ⟨hn p, hn q, trivial⟩ (fun x hx => by simp only [List.mem_cons, List.not_mem_nil, or_false] at hx; rcases hx with rfl | rfl <;> exact pm5 _), trivial⟩
theorem numLaw (a : Addr) (c d : List Int) (hl : ∀ x ∈ c, 0 ≤ x ∧ x ≤ 255) (hl2 : c.length ≤ 9223372036854775807) (hd : ∀ x ∈ d, 0 ≤ x ∧ x ≤ 255) (hd2 : d.length ≤ 9223372036854775807) :
    FC Tryz.prog (GT a) 3 [.p (.row 1 (c.map pu)), .p (.row 1 (d.map pu))] [] (fun r _ => r = .p (pb true)) := by
  refine bdy Tryz.func3 (fun _ => 0) rfl ?_
  refine rn T 99 [] ?_
  refine rn T 3 [] ?_
  by_cases hc : c.length > 1048576
  · rw [show decide (((c.map pu).length : Int) > 1048576) = true by simp; omega]
    refine rn T 99 [] ?_
    refine cts ?_
    refine rn T 99 [] ?_
    exact rt1 T (pb true) rfl
  rw [show decide (((c.map pu).length : Int) > 1048576) = false by simp; omega]
  refine rn T 99 [] ?_
  by_cases hcd : d.length > 1048576
  · refine ctq rfl (by simp; omega) ?_
    refine rn T 99 [] ?_
    exact rt1 T (pb true) rfl
  refine cfq rfl (by simp; omega) ?_
  refine rn T 99 [] ?_
  refine hes (drawS (GT a) c hl hl2) ?_; rintro _ _ ⟨t, ht, rfl⟩ _ _; refine op ?_
  rename_i H1 hA1 hH1
  have c1 := simp2 a t
  have c2 := simpS1 (GT a) t (dM_mono ht (by omega))
  obtain ⟨h1, h2, h3⟩ := simT_ok t
  have c3 := lhM (GT a) 8 (simT t) (simT t) h1 h1
  rw [eqM_refl] at c3
  obtain ⟨u, hu⟩ : ∃ u, u = simT t := ⟨_, rfl⟩
  rw [← hu] at c1 c2 c3
  clear h1 h2 h3 hu
  obtain ⟨k1, m1, s1, p1, l1⟩ := u
  obtain ⟨k, m, s, p, l⟩ := t
  refine rn T 99 [] ?_; try (first | refine dr1 ?_ | refine dr2 ?_ | refine dr3 ?_ | refine dr4 ?_)
  refine rn T 99 [] ?_
  refine pcs (c1) ?_
  refine rn T 99 [] ?_
  refine rn T 99 [] ?_
  refine pcs (c2) ?_
  refine pcs (c3) ?_
  refine rn T 99 [] ?_
  refine cfs ?_
  refine rn T 99 [] ?_
  have hm : ∀ n : Nat, 0 ≤ ((n : Int).tmod 100) ∧ ((n : Int).tmod 100) ≤ 99 := fun n => by
    have h1 := Int.tmod_lt_of_pos (n : Int) (b := 100) (by decide)
    have h2 := Int.tmod_nonneg (a := (n : Int)) 100 (by omega)
    omega
  have hp := hm (d.map pu).length
  have hq := hm (c.map pu).length
  generalize ((d.map pu).length : Int).tmod 100 = p at hp ⊢
  generalize ((c.map pu).length : Int).tmod 100 = q at hq ⊢
  refine rn T 99 [] ?_
  refine lpw (fun i : Nat => MS.mk [(7, .p (pi i)), (6, .vw (.L 36) 2)] 82 [(36, .rw 5 26 [numP p, numP q])] H1) (fun m i => m + i = 6 ∧ 3 ≤ i) (3) (3) (by simp) ?_
  intro m2 i ⟨hi1, hi2⟩
  refine op ?_
  refine rn T 99 [] ?_
  by_cases hi : i ≤ 5
  · have hk : (i : Int) = 3 ∨ (i : Int) = 4 ∨ (i : Int) = 5 := by omega
    have cL := PF.imp (three1 (GT a) (opM i p q)) (xs := [opP i p q]) ⟨imp_op i p q, trivial⟩
    have cS := PF.imp (simp2 a (opM i p q)) (xs := [opP i p q]) ⟨imp_op i p q, trivial⟩
    have cR := vrun a (.num 0) (.num 0) (.num 0) (opM i p q) (opO i p q) (opT a _ i p q hk hp hq) (tk_op (n := 6) hk hp hq) rfl rfl rfl
    rw [simT_op hk hp hq] at cS
    have cE := lhM (GT a) 8 (opM i p q) (opM i p q) (dP_two (by simp) (dP_mk (by simp) (by simp) (fun x hx => by cases hx)) (dP_mk (by simp) (by simp) (fun x hx => by cases hx))) (dP_two (by simp) (dP_mk (by simp) (by simp) (fun x hx => by cases hx)) (dP_mk (by simp) (by simp) (fun x hx => by cases hx)))
    rw [eqM_refl] at cE
    have cE := PF.imp cE (xs := [pm (opM i p q), opP i p q]) ⟨Imp.rfl' _, imp_op i p q, trivial⟩
    unfold opO at cR
    refine ctq rfl (by simp; omega) ?_
    cases ok : okN (opv i p q) with
    | true =>
      rw [ok, if_pos rfl] at cR cS
      generalize opv i p q = v at cR cS
      have cR : PF Tryz.prog (GT a) 8 [.row 4 [pur (opM i p q)], ps nmF, .row 2 [pv (.num 0), pv (.num 0), pv (.num 0)]] (.tp [.p (.row 2 [.ag [pi v, .row 1 []]]), .p (pi 0)]) := cR
      have cS : PF Tryz.prog (GT a) 6 [opP i p q] (.p (.ag [pi 1, pi v, ps ⟨#[]⟩, .row 1 [], .row 5 []])) := cS
      refine rn T 99 [] ?_
      refine rn T 99 [] ?_
      refine pcs (cL) ?_
      refine rn T 99 [] ?_
      refine pcs (cR) ?_
      refine rn T 99 [] ?_
      refine rn T 99 [] ?_
      refine pcs (cS) ?_
      refine rn T 99 [] ?_; try (first | refine dr1 ?_ | refine dr2 ?_ | refine dr3 ?_ | refine dr4 ?_)
      refine rn T 14 [.ag [pi v, .row 1 []]] ?_
      simp only [bne_self_eq_false, beq_self_eq_true, Bool.not_true]
      refine rn T 99 [] ?_
      refine cfs ?_
      refine rn T 99 [] ?_
      rw [wkS (by omega)]
      refine nxt (m2 - 1) (i + 1) (⟨by omega, by omega⟩)
    | false =>
      rw [ok, if_neg (by simp)] at cR cS
      have cR : PF Tryz.prog (GT a) 8 [.row 4 [pur (opM i p q)], ps nmF, .row 2 [pv (.num 0), pv (.num 0), pv (.num 0)]] (.tp [.p (.row 1 []), .p (pi 1)]) := cR
      have cS : PF Tryz.prog (GT a) 6 [opP i p q] (.p (.ag [pi i, pi 0, ps ⟨#[]⟩, .row 1 [], .row 5 ([numM p, numM q].map eM)])) := cS
      refine rn T 99 [] ?_
      refine rn T 99 [] ?_
      refine pcs (cL) ?_
      refine rn T 99 [] ?_
      refine pcs (cR) ?_
      refine rn T 99 [] ?_
      refine rn T 99 [] ?_
      refine pcs (cS) ?_
      refine rn T 99 [] ?_; try (first | refine dr1 ?_ | refine dr2 ?_ | refine dr3 ?_ | refine dr4 ?_)
      refine rn T 99 [] ?_
      refine pcs (cE) ?_
      refine rn T 99 [] ?_
      refine cfs ?_
      refine rn T 99 [] ?_
      rw [wkS (by omega)]
      refine nxt (m2 - 1) (i + 1) (⟨by omega, by omega⟩)
  · refine cfq rfl (by simp; omega) ?_
    refine rn T 99 [] ?_
    exact rt1 T (pb true) rfl
end Go.Proofs.YtglkkbgflnpjeaaGreatDoor.K
end
section
namespace Go.Proofs.YtglkkbgflnpjeaaGreatDoor.K
open Go Go.RowKit Go.Proofs.YtglkkbgflnpjeaaGreatDoor.En Go.Proofs.YtglkkbgflnpjeaaGreatDoor.Ty Go.Proofs.YtglkkbgflnpjeaaGreatDoor.B
set_option maxRecDepth 100000
set_option linter.unusedSimpArgs false
set_option linter.unusedVariables false
def IsRow (k : IntKind) (w : World) (a : Option Addr) (len cap : Nat) (zs : List Int) : Prop :=
  (a = none ∧ len = 0 ∧ cap = 0 ∧ zs = []) ∨
  ∃ x, a = some x ∧ len ≤ cap ∧ cap ≤ maxLen ∧ zs.length = cap ∧ (∀ i, i < zs.length → w.cell? (x.add i) = some (.int k (zs.getD i 0))) ∧ ∀ n ∈ zs, (Lit.int k n).wf = true
abbrev olds (w : World) : Nat → Nat → Prop := fun b _ => b < w.heap.size
theorem cell_lt {w : World} {a : Addr} {v : Value} (h : w.cell? a = some v) : a.block < w.heap.size ∧ a.spot = none := by
  unfold World.cell? at h
  cases hb : w.heap[a.block]? with
  | none => rw [hb] at h; cases h
  | some o =>
    rw [hb] at h
    refine ⟨(Array.getElem?_eq_some_iff.1 hb).1, ?_⟩
    cases o with
    | cells c e f =>
      simp only at h
      cases hs : a.spot with
      | none => rfl
      | some s => rw [hs] at h; simp at h
    | _ => cases h
theorem prep_row {k : IntKind} {w : World} {a : Option Addr} {len cap : Nat} {zs : List Int} (h : IsRow k w a len cap zs) : ∃ c : List Int, (∀ n ∈ c, (Lit.int k n).wf = true) ∧ c.length ≤ 9223372036854775807 ∧ PRep w (olds w) (.row 1 (c.map fun n => .c (.int k n))) (.slice a len cap) := by
  rcases h with ⟨rfl, rfl, rfl, rfl⟩ | ⟨x, rfl, h1, h2, h3, h4, h5⟩
  · exact ⟨[], by simp, by simp, .nl⟩
  · refine ⟨zs.take len, fun n hn => h5 n (List.mem_of_mem_take hn), (by rw [List.length_take]; have : cap ≤ 9223372036854775807 := Nat.le_trans h2 (by decide); omega), ?_⟩
    by_cases h0 : len = 0
    · subst h0
      exact .nl
    · have hx := cell_lt (h4 0 (by omega))
      simp only [Addr.add, if_pos] at hx
      obtain ⟨b, off, sp⟩ := x
      obtain ⟨hx1, rfl⟩ := hx
      have hadd : ∀ i, (Addr.add ⟨b, off, none⟩ i) = ⟨b, off + i, none⟩ := fun i => by
        unfold Addr.add
        split
        · rename_i e; subst e; rfl
        · rfl
      have hlen : ((zs.take len).map fun n => PV.c (.int k n)).length = len := by simp; omega
      have hp := PRep.row (w := w) (S := olds w) (z := 1) (xs := (zs.take len).map fun n => PV.c (.int k n)) (b := b) (off := off) (c := cap) (fun i => .int k (zs.getD i 0)) (by rw [hlen]; exact h1) (fun y hy => by
        obtain ⟨n, _, rfl⟩ := List.mem_map.1 hy; rfl) (fun i y hy => ?_) (fun i hi => ⟨hx1, by rw [← hadd]; exact h4 i (by rw [hlen] at hi; omega), rfl⟩)
      · rw [hlen] at hp; exact hp
      · have hfl : flat ((zs.take len).map fun n => PV.c (.int k n)) = (zs.take len).map fun n => PV.c (.int k n) := by
          generalize zs.take len = l
          induction l with
          | nil => rfl
          | cons x l ih => show _ :: flat _ = _; rw [ih]; rfl
        rw [hfl, List.getElem?_map] at hy
        cases hz : (zs.take len)[i]? with
        | none => rw [hz] at hy; cases hy
        | some n =>
          rw [hz] at hy
          cases hy
          have hi : i < len := by have := (List.getElem?_eq_some_iff.1 hz).1; rw [List.length_take] at this; omega
          rw [List.getElem?_take_of_lt hi] at hz
          have : zs.getD i 0 = n := by simp [List.getD, hz]
          rw [this]
          exact .c rfl
theorem FC.row {P : Program} {G : Nat → Option PV} {f : FuncId} {xs : List PV} {c : Value} (h : FC P G f (xs.map .p) [] (fun r _ => r = .p (.c c))) (w : World) (V : List Value) (hl : V.length = xs.length) (hv : ∀ (k : Nat) x v, xs[k]? = some x → V[k]? = some v → PRep w (olds w) x v)
    (hG : ∀ i y, G i = some y → ∃ u, w.cell? ⟨i, 0, none⟩ = some u ∧ u.oneCell' = true ∧ PRep w (olds w) y u) : Calls P f V.toArray w fun e w' => e = .returned c ∧ Below w.heap.size w w' := by
  refine (h.2 w (olds w) (fun _ => ⟨.nilIface, fun _ => False⟩) V ⟨(fun i o ho => by cases ho), (fun i j _ hi => absurd hi (Nat.not_lt_zero _)), (fun b k hb => hb), (fun i o ho => by cases ho), (fun i y hy => ?_)⟩ (by simpa using hl) (fun k x v hx hv' => ?_)).mono ?_
  · obtain ⟨u, h1, h2, h3⟩ := hG i y hy
    exact ⟨u, (cell_lt h1).1, h1, h2, h3⟩
  · rw [List.getElem?_map] at hx
    cases hx2 : xs[k]? with
    | none => rw [hx2] at hx; cases hx
    | some y => rw [hx2] at hx; cases hx; exact .p (hv k y v hx2 hv')
  · rintro e w' ⟨r, H', v, S', g', rfl, rfl, _, hr, _, he, _⟩
    cases hr with | p hr =>
    cases hr
    exact ⟨rfl, he.os, he.tape, he.output, he.size, fun k hk => he.block k hk (fun i hi => absurd hi (Nat.not_lt_zero _))⟩
theorem gT_ok {w : World} {a : Addr} (h : w.cell? ⟨0, 0, none⟩ = some (.iface 153 (.pointer (some a)))) : ∀ i y, GT a i = some y → ∃ u, w.cell? ⟨i, 0, none⟩ = some u ∧ u.oneCell' = true ∧ PRep w (olds w) y u := by
  intro i y hy
  unfold GT at hy
  split at hy
  · rename_i hb
    obtain rfl := Nat.eq_of_beq_eq_true hb
    cases hy; exact ⟨_, h, rfl, .ifc (.c rfl)⟩
  · cases hy
theorem sentNamed : Tryz.prog.globalNamed "loop.example/handfast/impl.errPureFail" = some 0 := by kernel_rfl
theorem sentType : (Tryz.prog.globals[0]?).map (·.type) = some 60 := by kernel_rfl
theorem sentRow (u : TypeId) (h : Tryz.prog.typeName? 3 u = some "*errors.errorString") : u = 153 :=
  typeName_ptr_named (nm := "errors.errorString") (by rw [show "*" ++ "errors.errorString" = "*errors.errorString" by decide]; kernel_rfl) (by kernel_rfl) (by decide) u (by rw [show "*" ++ "errors.errorString" = "*errors.errorString" by decide]; exact h)
theorem sentCells : Tryz.prog.cellsOf 180 = 1 := by kernel_rfl
theorem sentCellsS : Tryz.prog.cellsOf 9 = 1 := by kernel_rfl
theorem sent_of {W : World} {text : List UInt8} (h : laidMetH Tryz.prog [("loop.example/handfast/impl.errPureFail", .iface "*errors.errorString" (.ptr (.agg [.lit (.string text)])))] W) : ∃ a, W.cell? ⟨0, 0, none⟩ = some (.iface 153 (.pointer (some a))) ∧ W.var? Tryz.prog "loop.example/handfast/impl.errPureFail" = some #[.iface 153 (.pointer (some a))] := by
  rw [MakeChecks.laidMetH_plain _ _ _ rfl] at h
  obtain ⟨a, s, hv, _⟩ := laid_sentinel h sentNamed sentType Tryz.underlying60 sentRow Tryz.underlying153 Tryz.underlying180 rfl rfl Tryz.underlying9 sentCells sentCellsS
  exact ⟨a, by simpa using World.var?_cell sentNamed hv 0, hv⟩
end Go.Proofs.YtglkkbgflnpjeaaGreatDoor.K
end
section
namespace Go.Proofs.YtglkkbgflnpjeaaGreatDoor.fnSimpNum
open Go.ChangeShapes Go.WideShapes Go.ChangeAt Go.RowKit Go.Proofs.YtglkkbgflnpjeaaGreatDoor.K Go.Proofs.YtglkkbgflnpjeaaGreatDoor.En Go.Proofs.YtglkkbgflnpjeaaGreatDoor.Ty
set_option linter.unusedVariables false
theorem own : ownKnob Tryz.prog.godebug = none := by kernel_rfl
theorem laidOut : laidOutB Tryz.prog = true := by kernel_rfl
theorem wf8 {n : Int} (h : (Lit.int .u8 n).wf = true) : 0 ≤ n ∧ n ≤ 255 := bounds_u8 h
theorem door_met (os : Os) (args : Array Value) : laidMetH Tryz.prog Rows.fnSimpNumRow.laid ((World.doorLaid Tryz.prog 400 os).forCall (fun _ _ => 0) ⟨#[], args, []⟩).memory :=
  laidMetH_of_parts3 (fuel := 8) (laidMet_of_run' 8 (by kernel_rfl) (by kernel_rfl)) (by kernel_rfl) (by kernel_rfl)
set_option maxRecDepth 100000 in
theorem lifted (os : Os) (started : os.Started) (H : Type) (enc : TypeId × Value → H) :
    ReturnsInHanded {} Tryz.checked os 3 .any (fun w args => (Rows.fnSimpNumSpec.pre enc Tryz.prog Tryz.f3 [] false w args ∧ laidMetH Tryz.prog Rows.fnSimpNumRow.laid w) ∧ sizedMet enc Tryz.prog Tryz.f3 (OpenSpec.ofChange Rows.fnSimpNumSpec) false w args) (Rows.fnSimpNumSpec.post enc Tryz.prog Tryz.f3 false true false false) := by
  refine returnsInHanded_of_change_and (C := Tryz.checked) (X := fun w _ => laidMetH Tryz.prog Rows.fnSimpNumRow.laid w) (fun _ _ _ hh h => h.of_heap hh) own started (by kernel_rfl) Tryz.func3
    (ChangeSpec.witness_shaped (enc := enc) (C := Tryz.checked) (os := os) (X := fun w _ => laidMetH Tryz.prog Rows.fnSimpNumRow.laid w) false (World.doorLaid Tryz.prog 400 os) #[.slice none 0 0, .slice none 0 0] 8 rfl (World.shaped_of_RefB (by kernel_rfl) (by kernel_rfl)) (by kernel_rfl) (by kernel_rfl) (by kernel_rfl) (door_met os _)) ?_
  intro W base args ds gs before hval0 hW hcnd hsz0 hL _
  have hval : ∀ (j : Nat) t v, Tryz.f3.params[j]? = some t → args[j]? = some v → Value.okWide Tryz.prog W .any base t v := hval0
  have hW' := hW
  obtain ⟨p, q, hA0, hV0, rfl, hfz, hnd⟩ := hW
  have hA : DataW.TrodAll enc Tryz.prog W 0 (fun _ => true) true Tryz.f3.params.toList args.toList ds p := hA0
  have hV : DataW.TrodVars enc Tryz.prog W (fun _ => true) ["loop.example/handfast/impl.errPureFail"] gs q := hV0
  rw [Tryz.params3] at hA hval
  obtain ⟨v0, vs0, d0, ds0, p0, q0, hargs, rfl, rfl, h0, r0⟩ := trodAll_cons hA
  obtain ⟨v1, vs1, d1, ds1, p1, q1, rfl, rfl, rfl, h1, r1⟩ := trodAll_cons r0
  obtain ⟨rfl, rfl, rfl⟩ := trodAll_nil r1
  obtain rfl : args = #[v0, v1] := by cases args; simp_all
  obtain ⟨ad, had, hvr⟩ := sent_of hL
  obtain ⟨rfl, rfl⟩ := hV.unique (vars_read1 enc sentNamed sentType Tryz.underlying60 hvr trivial _)
  have k0 := h0
  have lt0 : ∀ x ∈ p0, x.block < W.heap.size := by obtain ⟨m, hm⟩ := k0; exact DataW.trod_lt m _ _ _ hm
  obtain ⟨a0, len0, cap0, rfl⟩ := okWide_slice Tryz.underlying22 (hval 0 22 v0 rfl rfl)
  obtain ⟨z0, w0⟩ : ∃ zs, IsRow .u8 W a0 len0 cap0 zs := by
    obtain ⟨fuel, hf⟩ := h0
    rcases open_ints Tryz.underlying22 Tryz.underlying5 (by kernel_rfl) hf with ⟨hcs, _⟩ | ⟨x, l, c, zs, hcs, _, hl, hm, hz, _, hcell, hwz⟩
    · simp [Value.cells] at hcs
      obtain ⟨rfl, rfl, rfl⟩ := hcs
      exact ⟨[], .inl ⟨rfl, rfl, rfl, rfl⟩⟩
    · simp [Value.cells] at hcs
      obtain ⟨rfl, rfl, rfl⟩ := hcs
      exact ⟨zs, .inr ⟨_, rfl, hl, hm, by simpa using hz, hcell, hwz⟩⟩
  obtain ⟨c0, cw0, cl0, cp0⟩ := prep_row w0
  have k1 := h1
  have lt1 : ∀ x ∈ p1, x.block < W.heap.size := by obtain ⟨m, hm⟩ := k1; exact DataW.trod_lt m _ _ _ hm
  obtain ⟨a1, len1, cap1, rfl⟩ := okWide_slice Tryz.underlying22 (hval 1 22 v1 rfl rfl)
  obtain ⟨z1, w1⟩ : ∃ zs, IsRow .u8 W a1 len1 cap1 zs := by
    obtain ⟨fuel, hf⟩ := h1
    rcases open_ints Tryz.underlying22 Tryz.underlying5 (by kernel_rfl) hf with ⟨hcs, _⟩ | ⟨x, l, c, zs, hcs, _, hl, hm, hz, _, hcell, hwz⟩
    · simp [Value.cells] at hcs
      obtain ⟨rfl, rfl, rfl⟩ := hcs
      exact ⟨[], .inl ⟨rfl, rfl, rfl, rfl⟩⟩
    · simp [Value.cells] at hcs
      obtain ⟨rfl, rfl, rfl⟩ := hcs
      exact ⟨zs, .inr ⟨_, rfl, hl, hm, by simpa using hz, hcell, hwz⟩⟩
  obtain ⟨c1, cw1, cl1, cp1⟩ := prep_row w1
  clear hA0 hval0 hsz0
  have hfc := numLaw ad c0 c1 (fun x hx => wf8 (cw0 x hx)) cl0 (fun x hx => wf8 (cw1 x hx)) cl1
  have hvs : ∀ (k : Nat) x v, ([.row 1 (c0.map fun n => .c (.int .u8 n)), .row 1 (c1.map fun n => .c (.int .u8 n))] : List En.PV)[k]? = some x → [Value.slice a0 len0 cap0, Value.slice a1 len1 cap1][k]? = some v → En.PRep W (olds W) x v := by
    intro k x v hx hv
    match k, hx, hv with
    | 0, rfl, rfl => exact cp0
    | 1, rfl, rfl => exact cp1
    | k + 2, hx, hv => simp at hx
  have hrun := FC.row hfc W _ rfl hvs (gT_ok had)
  refine hrun.mono fun e W' ⟨he, bel⟩ => ?_
  subst he
  exact ⟨_, rfl, _, _, _, [], _, _, hW', trodAll_mk1 (shut_bool Tryz.underlying4 _), (trodAll_cons_mk (Below.trod laidOut (by kernel_rfl) (of_decide_eq_true (by kernel_rfl)) k0 bel lt0) (trodAll_cons_mk (Below.trod laidOut (by kernel_rfl) (of_decide_eq_true (by kernel_rfl)) k1 bel lt1) trodAll_mk0)), Below.trodVars laidOut bel (by kernel_rfl) hV, bel.frame _, fun h => by cases h⟩
theorem over : Rows.fnSimpNumRow.holds Tryz.pinned (OpenSpec.ofChange Rows.fnSimpNumSpec) :=
  OpenClaim.holds_of_wide 3 Tryz.f3 rfl rfl rfl rfl rfl rfl rfl ⟨rfl, rfl, rfl, rfl, rfl⟩ rfl rfl rfl rfl rfl (by kernel_rfl) Tryz.func3 (by kernel_rfl)
    (of_decide_eq_true (by kernel_rfl)) (by unfold Func.isWrapper; first | (rw [if_pos (by decide +kernel)]; kernel_rfl) | (rw [if_neg (by decide +kernel)]; exact ⟨rfl, rfl⟩))
    (fun os started H enc _ => lifted os started H enc)
theorem proved : Rows.FnSimpNumCardSaid :=
  Claim7.holds_tied_plain_at .later [] [.sentinel] true (true, "9b1097d01a12c1d0c6bddc385ff885e09d81ddd4ffc98c2bf66f99ad510f5c70") true
    over (fun _ h => by cases h) (by kernel_rfl) (fun _ h => by cases h) fnSimpNum_row_tie rfl ⟨rfl, rfl⟩ (by kernel_rfl) rfl
    (fun f fn hf hfn => by
      obtain rfl : f = 3 := Option.some.inj ((show Tryz.prog.funcNamed "loop.example/handfast/laws.FnSimpNum" = some 3 by kernel_rfl).symm.trans hf) |>.symm
      obtain rfl : fn = Tryz.f3 := (Option.some.inj (Tryz.func3.symm.trans hfn)).symm
      exact ⟨by kernel_rfl, fun j t ht => by
        rw [Tryz.params3] at ht
        have hm : t ∈ [22] := by simpa using Array.mem_of_getElem? ht
        have hall : ([22].all fun u => !Tryz.prog.wantsStandIn u) = true := by kernel_rfl
        exact (show Tryz.prog.wantsStandIn t = false by simpa using List.all_eq_true.1 hall t hm)⟩)
    (by kernel_rfl)
#print axioms proved
end Go.Proofs.YtglkkbgflnpjeaaGreatDoor.fnSimpNum
namespace Go.Proofs.YtglkkbgflnpjeaaGreatDoor
theorem fnSimpNum_holds : Rows.FnSimpNumCardSaid := fnSimpNum.proved
end Go.Proofs.YtglkkbgflnpjeaaGreatDoor
end
