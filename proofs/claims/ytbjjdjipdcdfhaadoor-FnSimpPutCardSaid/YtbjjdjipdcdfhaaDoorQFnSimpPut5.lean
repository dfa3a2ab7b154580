-- YtbjjdjipdcdfhaaDoor's texts for the statement FnSimpPut, one behind the other (merge.py).
import Derived.Test.YtbjjdjipdcdfhaaDoorQFnSimpPut4
import Derived.Test.YtbjjdjipdcdfhaaDoorQFnSimpPut3
import Derived.Below
import Derived.Stop.LaidErr
import Derived.MakeChecks
import Derived.Test.YtbjjdjipdcdfhaaDoorRows
import Derived.WalkKit
import Derived.ProofKit
import Derived.OpenShut
import Derived.ShutString
import Derived.ChangeOld
import Derived.ChangeSlices
import Derived.Carry
import Derived.OpenVars
import Derived.SizedLaws
import Derived.Test.YtbjjdjipdcdfhaaDoorCards
import Derived.Test.YtbjjdjipdcdfhaaDoorTie
import Derived.SevenTiedAt
import Derived.LaidMore
import Derived.LaidLaws
import Derived.Handed
import Derived.Stop.Joined
import Derived.Lib.LaidTab
section
namespace Go.Proofs.YtbjjdjipdcdfhaaDoor.K
open Go Go.RowKit Go.Proofs.YtbjjdjipdcdfhaaDoor.En Go.Proofs.YtbjjdjipdcdfhaaDoor.Ty Go.Proofs.YtbjjdjipdcdfhaaDoor.B
set_option maxRecDepth 100000
set_option linter.unusedSimpArgs false
set_option linter.unusedVariables false
set_option pp.deepTerms false
set_option pp.deepTerms.threshold 8
set_option pp.maxSteps 1000
set_option maxHeartbeats 1000000
theorem tmod2 (n : Nat) : (n : Int).tmod 2 = 0 ∨ (n : Int).tmod 2 = 1 := by
  have h1 := Int.tmod_lt_of_pos (n : Int) (b := 2) (by decide)
  have h2 := Int.tmod_nonneg (a := (n : Int)) 2 (by omega)
  omega
theorem tdiv2 (n : Nat) : ((n : Int).tdiv 2).tmod 2 = 0 ∨ ((n : Int).tdiv 2).tmod 2 = 1 := by
  have h0 : 0 ≤ (n : Int).tdiv 2 := Int.tdiv_nonneg (by omega) (by decide)
  have h1 := Int.tmod_lt_of_pos ((n : Int).tdiv 2) (b := 2) (by decide)
  have h2 := Int.tmod_nonneg (a := (n : Int).tdiv 2) 2 h0
  omega
abbrev putP (p : List PV) (k : List PV) : PV := .ag [pi 7, pi 0, ps ⟨#[]⟩, .row 1 p, .row 5 [.ag [pi 8, pi 0, ps ⟨#[]⟩, .row 1 p, .row 5 k]]]
theorem imp_put {p k k' : List PV} (h : ImpR k k') (hz : ∀ x ∈ k', x.cells.length = 5) : Imp (putP p k) (putP p k') := imp_ag ⟨Imp.rfl' _, Imp.rfl' _, Imp.rfl' _, Imp.rfl' _, imp_row ⟨⟨Imp.rfl' _, Imp.rfl' _, Imp.rfl' _, Imp.rfl' _, imp_row h hz, trivial⟩, trivial⟩ (fun x hx => by rw [List.mem_singleton] at hx; subst hx; rfl), trivial⟩
theorem putLaw (a : Addr) (c d : List Int) (hl : ∀ x ∈ c, 0 ≤ x ∧ x ≤ 255) (hl2 : c.length ≤ 9223372036854775807) (hd : ∀ x ∈ d, 0 ≤ x ∧ x ≤ 255) (hd2 : d.length ≤ 9223372036854775807) :
    FC Tryd.prog (GT a) 6 [.p (.row 1 (c.map pu)), .p (.row 1 (d.map pu))] [] (fun r _ => r = .p (pb true)) := by
  refine bdy Tryd.func6 (fun _ => 0) rfl ?_
  refine rn T 99 [] ?_
  refine rn T 3 [] ?_
  by_cases hc : c.length > 1048576
  · rw [show decide (((c.map pu).length : Int) > 1048576) = true by simp; omega]
    refine rn T 99 [] ?_
    refine cts ?_
    refine rn T 99 [] ?_
    exact rt1 T (pb true) rfl
  rw [show decide (((c.map pu).length : Int) > 1048576) = false by simp; omega]
  refine rn T 99 [] ?_
  by_cases hcd : d.length > 1048576
  · refine ctq rfl (by simp; omega) ?_
    refine rn T 99 [] ?_
    exact rt1 T (pb true) rfl
  refine cfq rfl (by simp; omega) ?_
  refine rn T 99 [] ?_
  refine hes (drawS (GT a) c hl hl2) ?_; rintro _ _ ⟨t, ht, rfl⟩ _ _; refine op ?_
  rename_i H1 hA1 hH1
  have c1 := simp2 a t
  have c2 := simpS1 (GT a) t (dM_mono ht (by omega))
  obtain ⟨h1, h2, h3⟩ := simT_ok t
  have c3 := lhM (GT a) 8 (simT t) (simT t) h1 h1
  rw [eqM_refl] at c3
  have c4 := three1 (GT a) t
  have c5 := pureOk1 (GT a) t
  obtain ⟨u, hu⟩ : ∃ u, u = simT t := ⟨_, rfl⟩
  rw [← hu] at c1 c2 c3
  cases hok : tk (hasS abc) 8 t with
  | false =>
    rw [hok] at c5
    clear h1 h2 h3 hu
    obtain ⟨k1, m1, s1, p1, l1⟩ := u
    obtain ⟨k, m, s, p, l⟩ := t
    refine rn T 99 [] ?_
    refine rn T 99 [] ?_
    refine pcs (c1) ?_
    refine rn T 99 [] ?_; try (first | refine dr1 ?_ | refine dr2 ?_ | refine dr3 ?_ | refine dr4 ?_)
    refine rn T 99 [] ?_
    refine pcs (c2) ?_
    refine pcs (c3) ?_
    refine rn T 99 [] ?_
    refine pcs (c4) ?_
    refine pcs (c5) ?_
    refine rn T 99 [] ?_
    refine cts ?_; try (first | refine dr1 ?_ | refine dr2 ?_ | refine dr3 ?_ | refine dr4 ?_)
    refine rn T 99 [] ?_
    refine pcs (c2) ?_
    refine pcs (c3) ?_
    refine rn T 99 [] ?_
    exact rt1 T (pb true) rfl
  | true =>
    rw [hok] at c5
    have h6 := tk6 hok ht
    obtain ⟨k1, m1, s1, p1, l1⟩ := u
    obtain ⟨k, m, s, p, l⟩ := t
    refine rn T 99 [] ?_
    refine rn T 99 [] ?_
    refine pcs (c1) ?_
    refine rn T 99 [] ?_; try (first | refine dr1 ?_ | refine dr2 ?_ | refine dr3 ?_ | refine dr4 ?_)
    refine rn T 99 [] ?_
    refine pcs (c2) ?_
    refine pcs (c3) ?_
    refine rn T 99 [] ?_
    refine pcs (c4) ?_
    refine pcs (c5) ?_
    refine rn T 99 [] ?_
    refine cfs ?_
    refine rn T 12 [] ?_
    rcases tmod2 (d.map pu).length with hk | hk
    · rw [hk, show IntKind.i64.wrap (1 + 0) = 1 by decide]
      have hpb : pathB ([0] : List Int) = true := by first | decide | (rcases hyy with rfl | rfl <;> decide)
      have hC := partC (t := ⟨k, m, s, p, l⟩) (p := ([0] : List Int)) h6 (by simp) hpb
      have iP : Imp (putP ((([0] : List Int)).map pi) [nmP nmC, pm ⟨k, m, s, p, l⟩]) (pm (atM ([0] : List Int) (putM ([0] : List Int) (nameM nmC) ⟨k, m, s, p, l⟩))) := by
        rw [pm_at, pm_put]
        exact imp_put ⟨imp_nm _, ImpL.refl _, trivial⟩ (fun x hx => by simp only [List.mem_cons, List.not_mem_nil, or_false] at hx; rcases hx with rfl | rfl <;> exact pm5 _)
      have cX := PF.imp (simp2 a (atM ([0] : List Int) (putM ([0] : List Int) (nameM nmC) ⟨k, m, s, p, l⟩))) (xs := [putP ((([0] : List Int)).map pi) [nmP nmC, pm ⟨k, m, s, p, l⟩]]) ⟨iP, trivial⟩
      have dX : dP 8 (atM ([0] : List Int) (putM ([0] : List Int) (nameM nmC) ⟨k, m, s, p, l⟩)) = true := dP_at (by simp) (dP_two (by simp) dP_name (dP_6 h6))
      have lX := lhM (GT a) 8 (simT (atM ([0] : List Int) (putM ([0] : List Int) (nameM nmC) ⟨k, m, s, p, l⟩))) _ (simT_ok _).1 dX
      have lY := lhM (GT a) 8 (simT (atM ([0] : List Int) (putM ([0] : List Int) (nameM nmC) ⟨k, m, s, p, l⟩))) (simT ⟨k, m, s, p, l⟩) (simT_ok _).1 (simT_ok _).1
      have lX := PF.imp lX (xs := [pm (simT (atM ([0] : List Int) (putM ([0] : List Int) (nameM nmC) ⟨k, m, s, p, l⟩))), putP ((([0] : List Int)).map pi) [nmP nmC, pm ⟨k, m, s, p, l⟩]]) ⟨Imp.rfl' _, iP, trivial⟩
      have hb : eqM 8 (simT (atM ([0] : List Int) (putM ([0] : List Int) (nameM nmC) ⟨k, m, s, p, l⟩))) (simT ⟨k, m, s, p, l⟩) = true ∨ eqM 8 (simT (atM ([0] : List Int) (putM ([0] : List Int) (nameM nmC) ⟨k, m, s, p, l⟩))) (atM ([0] : List Int) (putM ([0] : List Int) (nameM nmC) ⟨k, m, s, p, l⟩)) = true := by
        rcases hC with h | h
        · left; rw [h]; exact eqM_refl _ _
        · right; rw [h]; exact eqM_refl _ _
      rw [← hu] at lY hb
      obtain ⟨v, hv⟩ : ∃ v, v = simT (atM ([0] : List Int) (putM ([0] : List Int) (nameM nmC) ⟨k, m, s, p, l⟩)) := ⟨_, rfl⟩
      rw [← hv] at cX lX lY hb
      clear hv hC hu
      obtain ⟨k2, m2, s2, p2, l2⟩ := v
      refine rn T 99 [] ?_
      refine rn T 99 [] ?_
      refine rn T 99 [] ?_
      refine rn T 99 [] ?_
      refine pcs (cX) ?_
      refine rn T 99 [] ?_
      refine rn T 99 [] ?_
      cases hq : eqM 8 ⟨k2, m2, s2, p2, l2⟩ ⟨k1, m1, s1, p1, l1⟩ with
      | true =>
        rw [hq] at lY
        refine pcs (lY) ?_
        refine rn T 99 [] ?_
        exact rt1 T (pb true) rfl
      | false =>
        rw [hq] at lY hb
        have hb := hb.resolve_left (by simp)
        rw [hb] at lX
        refine pcs (lY) ?_
        refine rn T 99 [] ?_
        refine pcs (lX) ?_
        refine rn T 99 [] ?_
        exact rt1 T (pb true) rfl
    · rw [hk, show IntKind.i64.wrap (1 + 1) = 2 by decide]
      obtain ⟨y, hy, hyy⟩ : ∃ y, y = (IntKind.i64.wrap (((d.map pu).length : Int).tdiv 2)).tmod 2 ∧ (y = 0 ∨ y = 1) := ⟨_, rfl, by
        have h1 : 0 ≤ ((d.map pu).length : Int).tdiv 2 := Int.tdiv_nonneg (by omega) (by decide)
        have h2 : ((d.map pu).length : Int).tdiv 2 ≤ (d.map pu).length := Int.tdiv_le_self _ (by omega)
        have h3 : (d.map pu).length ≤ 1048576 := by simp; omega
        rw [wk (by omega) (by omega)]
        exact tdiv2 _⟩
      rw [← hy]
      clear hy
      have hpb : pathB ([1, y] : List Int) = true := by first | decide | (rcases hyy with rfl | rfl <;> decide)
      have hC := partC (t := ⟨k, m, s, p, l⟩) (p := ([1, y] : List Int)) h6 (by simp) hpb
      have iP : Imp (putP ((([1, y] : List Int)).map pi) [nmP nmC, pm ⟨k, m, s, p, l⟩]) (pm (atM ([1, y] : List Int) (putM ([1, y] : List Int) (nameM nmC) ⟨k, m, s, p, l⟩))) := by
        rw [pm_at, pm_put]
        exact imp_put ⟨imp_nm _, ImpL.refl _, trivial⟩ (fun x hx => by simp only [List.mem_cons, List.not_mem_nil, or_false] at hx; rcases hx with rfl | rfl <;> exact pm5 _)
      have cX := PF.imp (simp2 a (atM ([1, y] : List Int) (putM ([1, y] : List Int) (nameM nmC) ⟨k, m, s, p, l⟩))) (xs := [putP ((([1, y] : List Int)).map pi) [nmP nmC, pm ⟨k, m, s, p, l⟩]]) ⟨iP, trivial⟩
      have dX : dP 8 (atM ([1, y] : List Int) (putM ([1, y] : List Int) (nameM nmC) ⟨k, m, s, p, l⟩)) = true := dP_at (by simp) (dP_two (by simp) dP_name (dP_6 h6))
      have lX := lhM (GT a) 8 (simT (atM ([1, y] : List Int) (putM ([1, y] : List Int) (nameM nmC) ⟨k, m, s, p, l⟩))) _ (simT_ok _).1 dX
      have lY := lhM (GT a) 8 (simT (atM ([1, y] : List Int) (putM ([1, y] : List Int) (nameM nmC) ⟨k, m, s, p, l⟩))) (simT ⟨k, m, s, p, l⟩) (simT_ok _).1 (simT_ok _).1
      have lX := PF.imp lX (xs := [pm (simT (atM ([1, y] : List Int) (putM ([1, y] : List Int) (nameM nmC) ⟨k, m, s, p, l⟩))), putP ((([1, y] : List Int)).map pi) [nmP nmC, pm ⟨k, m, s, p, l⟩]]) ⟨Imp.rfl' _, iP, trivial⟩
      have hb : eqM 8 (simT (atM ([1, y] : List Int) (putM ([1, y] : List Int) (nameM nmC) ⟨k, m, s, p, l⟩))) (simT ⟨k, m, s, p, l⟩) = true ∨ eqM 8 (simT (atM ([1, y] : List Int) (putM ([1, y] : List Int) (nameM nmC) ⟨k, m, s, p, l⟩))) (atM ([1, y] : List Int) (putM ([1, y] : List Int) (nameM nmC) ⟨k, m, s, p, l⟩)) = true := by
        rcases hC with h | h
        · left; rw [h]; exact eqM_refl _ _
        · right; rw [h]; exact eqM_refl _ _
      rw [← hu] at lY hb
      obtain ⟨v, hv⟩ : ∃ v, v = simT (atM ([1, y] : List Int) (putM ([1, y] : List Int) (nameM nmC) ⟨k, m, s, p, l⟩)) := ⟨_, rfl⟩
      rw [← hv] at cX lX lY hb
      clear hv hC hu
      obtain ⟨k2, m2, s2, p2, l2⟩ := v
      refine rn T 99 [] ?_
      refine rn T 99 [] ?_
      refine rn T 99 [] ?_
      refine rn T 99 [] ?_
      refine pcs (cX) ?_
      refine rn T 99 [] ?_
      refine rn T 99 [] ?_
      cases hq : eqM 8 ⟨k2, m2, s2, p2, l2⟩ ⟨k1, m1, s1, p1, l1⟩ with
      | true =>
        rw [hq] at lY
        refine pcs (lY) ?_
        refine rn T 99 [] ?_
        exact rt1 T (pb true) rfl
      | false =>
        rw [hq] at lY hb
        have hb := hb.resolve_left (by simp)
        rw [hb] at lX
        refine pcs (lY) ?_
        refine rn T 99 [] ?_
        refine pcs (lX) ?_
        refine rn T 99 [] ?_
        exact rt1 T (pb true) rfl
end Go.Proofs.YtbjjdjipdcdfhaaDoor.K
end
section
namespace Go.Proofs.YtbjjdjipdcdfhaaDoor.K
open Go Go.RowKit Go.Proofs.YtbjjdjipdcdfhaaDoor.En Go.Proofs.YtbjjdjipdcdfhaaDoor.Ty Go.Proofs.YtbjjdjipdcdfhaaDoor.B
set_option maxRecDepth 100000
set_option linter.unusedSimpArgs false
set_option linter.unusedVariables false
def IsRow (k : IntKind) (w : World) (a : Option Addr) (len cap : Nat) (zs : List Int) : Prop :=
  (a = none ∧ len = 0 ∧ cap = 0 ∧ zs = []) ∨
  ∃ x, a = some x ∧ len ≤ cap ∧ cap ≤ maxLen ∧ zs.length = cap ∧ (∀ i, i < zs.length → w.cell? (x.add i) = some (.int k (zs.getD i 0))) ∧ ∀ n ∈ zs, (Lit.int k n).wf = true
abbrev olds (w : World) : Nat → Nat → Prop := fun b _ => b < w.heap.size
theorem cell_lt {w : World} {a : Addr} {v : Value} (h : w.cell? a = some v) : a.block < w.heap.size ∧ a.spot = none := by
  unfold World.cell? at h
  cases hb : w.heap[a.block]? with
  | none => rw [hb] at h; cases h
  | some o =>
    rw [hb] at h
    refine ⟨(Array.getElem?_eq_some_iff.1 hb).1, ?_⟩
    cases o with
    | cells c e f =>
      simp only at h
      cases hs : a.spot with
      | none => rfl
      | some s => rw [hs] at h; simp at h
    | _ => cases h
theorem prep_row {k : IntKind} {w : World} {a : Option Addr} {len cap : Nat} {zs : List Int} (h : IsRow k w a len cap zs) : ∃ c : List Int, (∀ n ∈ c, (Lit.int k n).wf = true) ∧ c.length ≤ 9223372036854775807 ∧ PRep w (olds w) (.row 1 (c.map fun n => .c (.int k n))) (.slice a len cap) := by
  rcases h with ⟨rfl, rfl, rfl, rfl⟩ | ⟨x, rfl, h1, h2, h3, h4, h5⟩
  · exact ⟨[], by simp, by simp, .nl⟩
  · refine ⟨zs.take len, fun n hn => h5 n (List.mem_of_mem_take hn), (by rw [List.length_take]; have : cap ≤ 9223372036854775807 := Nat.le_trans h2 (by decide); omega), ?_⟩
    by_cases h0 : len = 0
    · subst h0
      exact .nl
    · have hx := cell_lt (h4 0 (by omega))
      simp only [Addr.add, if_pos] at hx
      obtain ⟨b, off, sp⟩ := x
      obtain ⟨hx1, rfl⟩ := hx
      have hadd : ∀ i, (Addr.add ⟨b, off, none⟩ i) = ⟨b, off + i, none⟩ := fun i => by
        unfold Addr.add
        split
        · rename_i e; subst e; rfl
        · rfl
      have hlen : ((zs.take len).map fun n => PV.c (.int k n)).length = len := by simp; omega
      have hp := PRep.row (w := w) (S := olds w) (z := 1) (xs := (zs.take len).map fun n => PV.c (.int k n)) (b := b) (off := off) (c := cap) (fun i => .int k (zs.getD i 0)) (by rw [hlen]; exact h1) (fun y hy => by
        obtain ⟨n, _, rfl⟩ := List.mem_map.1 hy; rfl) (fun i y hy => ?_) (fun i hi => ⟨hx1, by rw [← hadd]; exact h4 i (by rw [hlen] at hi; omega), rfl⟩)
      · rw [hlen] at hp; exact hp
      · have hfl : flat ((zs.take len).map fun n => PV.c (.int k n)) = (zs.take len).map fun n => PV.c (.int k n) := by
          generalize zs.take len = l
          induction l with
          | nil => rfl
          | cons x l ih => show _ :: flat _ = _; rw [ih]; rfl
        rw [hfl, List.getElem?_map] at hy
        cases hz : (zs.take len)[i]? with
        | none => rw [hz] at hy; cases hy
        | some n =>
          rw [hz] at hy
          cases hy
          have hi : i < len := by have := (List.getElem?_eq_some_iff.1 hz).1; rw [List.length_take] at this; omega
          rw [List.getElem?_take_of_lt hi] at hz
          have : zs.getD i 0 = n := by simp [List.getD, hz]
          rw [this]
          exact .c rfl
theorem FC.row {P : Program} {G : Nat → Option PV} {f : FuncId} {xs : List PV} {c : Value} (h : FC P G f (xs.map .p) [] (fun r _ => r = .p (.c c))) (w : World) (V : List Value) (hl : V.length = xs.length) (hv : ∀ (k : Nat) x v, xs[k]? = some x → V[k]? = some v → PRep w (olds w) x v)
    (hG : ∀ i y, G i = some y → ∃ u, w.cell? ⟨i, 0, none⟩ = some u ∧ u.oneCell' = true ∧ PRep w (olds w) y u) : Calls P f V.toArray w fun e w' => e = .returned c ∧ Below w.heap.size w w' := by
  refine (h.2 w (olds w) (fun _ => ⟨.nilIface, fun _ => False⟩) V ⟨(fun i o ho => by cases ho), (fun i j _ hi => absurd hi (Nat.not_lt_zero _)), (fun b k hb => hb), (fun i o ho => by cases ho), (fun i y hy => ?_)⟩ (by simpa using hl) (fun k x v hx hv' => ?_)).mono ?_
  · obtain ⟨u, h1, h2, h3⟩ := hG i y hy
    exact ⟨u, (cell_lt h1).1, h1, h2, h3⟩
  · rw [List.getElem?_map] at hx
    cases hx2 : xs[k]? with
    | none => rw [hx2] at hx; cases hx
    | some y => rw [hx2] at hx; cases hx; exact .p (hv k y v hx2 hv')
  · rintro e w' ⟨r, H', v, S', g', rfl, rfl, _, hr, _, he, _⟩
    cases hr with | p hr =>
    cases hr
    exact ⟨rfl, he.os, he.tape, he.output, he.size, fun k hk => he.block k hk (fun i hi => absurd hi (Nat.not_lt_zero _))⟩
theorem gT_ok {w : World} {a : Addr} (h : w.cell? ⟨0, 0, none⟩ = some (.iface 108 (.pointer (some a)))) : ∀ i y, GT a i = some y → ∃ u, w.cell? ⟨i, 0, none⟩ = some u ∧ u.oneCell' = true ∧ PRep w (olds w) y u := by
  intro i y hy
  unfold GT at hy
  split at hy
  · cases hy; exact ⟨_, h, rfl, .ifc (.c rfl)⟩
  · cases hy
theorem sentNamed : Tryd.prog.globalNamed "loop.example/handfast/impl.errPureFail" = some 0 := by kernel_rfl
theorem sentType : (Tryd.prog.globals[0]?).map (·.type) = some 95 := by kernel_rfl
theorem sentRow (u : TypeId) (h : Tryd.prog.typeName? 3 u = some "*errors.errorString") : u = 108 :=
  typeName_ptr_named (nm := "errors.errorString") (by rw [show "*" ++ "errors.errorString" = "*errors.errorString" by decide]; kernel_rfl) (by kernel_rfl) (by decide) u (by rw [show "*" ++ "errors.errorString" = "*errors.errorString" by decide]; exact h)
theorem sentCells : Tryd.prog.cellsOf 128 = 1 := by kernel_rfl
theorem sentCellsS : Tryd.prog.cellsOf 9 = 1 := by kernel_rfl
theorem sent_of {W : World} {text : List UInt8} (h : laidMetH Tryd.prog [("loop.example/handfast/impl.errPureFail", .iface "*errors.errorString" (.ptr (.agg [.lit (.string text)])))] W) : ∃ a, W.cell? ⟨0, 0, none⟩ = some (.iface 108 (.pointer (some a))) ∧ W.var? Tryd.prog "loop.example/handfast/impl.errPureFail" = some #[.iface 108 (.pointer (some a))] := by
  rw [MakeChecks.laidMetH_plain _ _ _ rfl] at h
  obtain ⟨a, s, hv, _⟩ := laid_sentinel h sentNamed sentType Tryd.underlying95 sentRow Tryd.underlying108 Tryd.underlying128 rfl rfl Tryd.underlying9 sentCells sentCellsS
  exact ⟨a, by simpa using World.var?_cell sentNamed hv 0, hv⟩
end Go.Proofs.YtbjjdjipdcdfhaaDoor.K
end
section
namespace Go.Proofs.YtbjjdjipdcdfhaaDoor.fnSimpPut
open Go.ChangeShapes Go.WideShapes Go.ChangeAt Go.RowKit Go.Proofs.YtbjjdjipdcdfhaaDoor.K Go.Proofs.YtbjjdjipdcdfhaaDoor.En Go.Proofs.YtbjjdjipdcdfhaaDoor.Ty
set_option linter.unusedVariables false
theorem own : ownKnob Tryd.prog.godebug = none := by kernel_rfl
theorem laidOut : laidOutB Tryd.prog = true := by kernel_rfl
theorem wf8 {n : Int} (h : (Lit.int .u8 n).wf = true) : 0 ≤ n ∧ n ≤ 255 := bounds_u8 h
theorem door_met (os : Os) (args : Array Value) : laidMetH Tryd.prog Rows.fnSimpPutRow.laid ((World.doorLaid Tryd.prog 400 os).forCall (fun _ _ => 0) ⟨#[], args, []⟩).memory :=
  laidMetH_of_parts3 (fuel := 8) (laidMet_of_run' 8 (by kernel_rfl) (by kernel_rfl)) (by kernel_rfl) (by kernel_rfl)
set_option maxRecDepth 100000 in
theorem lifted (os : Os) (started : os.Started) (H : Type) (enc : TypeId × Value → H) :
    ReturnsInHanded {} Tryd.checked os 6 .any (fun w args => (Rows.fnSimpPutSpec.pre enc Tryd.prog Tryd.f6 [] false w args ∧ laidMetH Tryd.prog Rows.fnSimpPutRow.laid w) ∧ sizedMet enc Tryd.prog Tryd.f6 (OpenSpec.ofChange Rows.fnSimpPutSpec) false w args) (Rows.fnSimpPutSpec.post enc Tryd.prog Tryd.f6 false true false false) := by
  refine returnsInHanded_of_change_and (C := Tryd.checked) (X := fun w _ => laidMetH Tryd.prog Rows.fnSimpPutRow.laid w) (fun _ _ _ hh h => h.of_heap hh) own started (by kernel_rfl) Tryd.func6
    (ChangeSpec.witness_shaped (enc := enc) (C := Tryd.checked) (os := os) (X := fun w _ => laidMetH Tryd.prog Rows.fnSimpPutRow.laid w) false (World.doorLaid Tryd.prog 400 os) #[.slice none 0 0, .slice none 0 0] 8 rfl (World.shaped_of_RefB (by kernel_rfl) (by kernel_rfl)) (by kernel_rfl) (by kernel_rfl) (by kernel_rfl) (door_met os _)) ?_
  intro W base args ds gs before hval0 hW hcnd hsz0 hL _
  have hval : ∀ (j : Nat) t v, Tryd.f6.params[j]? = some t → args[j]? = some v → Value.okWide Tryd.prog W .any base t v := hval0
  have hW' := hW
  obtain ⟨p, q, hA0, hV0, rfl, hfz, hnd⟩ := hW
  have hA : DataW.TrodAll enc Tryd.prog W 0 (fun _ => true) true Tryd.f6.params.toList args.toList ds p := hA0
  have hV : DataW.TrodVars enc Tryd.prog W (fun _ => true) ["loop.example/handfast/impl.errPureFail"] gs q := hV0
  rw [Tryd.params6] at hA hval
  obtain ⟨v0, vs0, d0, ds0, p0, q0, hargs, rfl, rfl, h0, r0⟩ := trodAll_cons hA
  obtain ⟨v1, vs1, d1, ds1, p1, q1, rfl, rfl, rfl, h1, r1⟩ := trodAll_cons r0
  obtain ⟨rfl, rfl, rfl⟩ := trodAll_nil r1
  obtain rfl : args = #[v0, v1] := by cases args; simp_all
  obtain ⟨ad, had, hvr⟩ := sent_of hL
  obtain ⟨rfl, rfl⟩ := hV.unique (vars_read1 enc sentNamed sentType Tryd.underlying95 hvr trivial _)
  have k0 := h0
  have lt0 : ∀ x ∈ p0, x.block < W.heap.size := by obtain ⟨m, hm⟩ := k0; exact DataW.trod_lt m _ _ _ hm
  obtain ⟨a0, len0, cap0, rfl⟩ := okWide_slice Tryd.underlying22 (hval 0 22 v0 rfl rfl)
  obtain ⟨z0, w0⟩ : ∃ zs, IsRow .u8 W a0 len0 cap0 zs := by
    obtain ⟨fuel, hf⟩ := h0
    rcases open_ints Tryd.underlying22 Tryd.underlying5 (by kernel_rfl) hf with ⟨hcs, _⟩ | ⟨x, l, c, zs, hcs, _, hl, hm, hz, _, hcell, hwz⟩
    · simp [Value.cells] at hcs
      obtain ⟨rfl, rfl, rfl⟩ := hcs
      exact ⟨[], .inl ⟨rfl, rfl, rfl, rfl⟩⟩
    · simp [Value.cells] at hcs
      obtain ⟨rfl, rfl, rfl⟩ := hcs
      exact ⟨zs, .inr ⟨_, rfl, hl, hm, by simpa using hz, hcell, hwz⟩⟩
  obtain ⟨c0, cw0, cl0, cp0⟩ := prep_row w0
  have k1 := h1
  have lt1 : ∀ x ∈ p1, x.block < W.heap.size := by obtain ⟨m, hm⟩ := k1; exact DataW.trod_lt m _ _ _ hm
  obtain ⟨a1, len1, cap1, rfl⟩ := okWide_slice Tryd.underlying22 (hval 1 22 v1 rfl rfl)
  obtain ⟨z1, w1⟩ : ∃ zs, IsRow .u8 W a1 len1 cap1 zs := by
    obtain ⟨fuel, hf⟩ := h1
    rcases open_ints Tryd.underlying22 Tryd.underlying5 (by kernel_rfl) hf with ⟨hcs, _⟩ | ⟨x, l, c, zs, hcs, _, hl, hm, hz, _, hcell, hwz⟩
    · simp [Value.cells] at hcs
      obtain ⟨rfl, rfl, rfl⟩ := hcs
      exact ⟨[], .inl ⟨rfl, rfl, rfl, rfl⟩⟩
    · simp [Value.cells] at hcs
      obtain ⟨rfl, rfl, rfl⟩ := hcs
      exact ⟨zs, .inr ⟨_, rfl, hl, hm, by simpa using hz, hcell, hwz⟩⟩
  obtain ⟨c1, cw1, cl1, cp1⟩ := prep_row w1
  clear hA0 hval0 hsz0
  have hfc := putLaw ad c0 c1 (fun x hx => wf8 (cw0 x hx)) cl0 (fun x hx => wf8 (cw1 x hx)) cl1
  have hvs : ∀ (k : Nat) x v, ([.row 1 (c0.map fun n => .c (.int .u8 n)), .row 1 (c1.map fun n => .c (.int .u8 n))] : List En.PV)[k]? = some x → [Value.slice a0 len0 cap0, Value.slice a1 len1 cap1][k]? = some v → En.PRep W (olds W) x v := by
    intro k x v hx hv
    match k, hx, hv with
    | 0, rfl, rfl => exact cp0
    | 1, rfl, rfl => exact cp1
    | k + 2, hx, hv => simp at hx
  have hrun := FC.row hfc W _ rfl hvs (gT_ok had)
  refine hrun.mono fun e W' ⟨he, bel⟩ => ?_
  subst he
  exact ⟨_, rfl, _, _, _, [], _, _, hW', trodAll_mk1 (shut_bool Tryd.underlying4 _), (trodAll_cons_mk (Below.trod laidOut (by kernel_rfl) (of_decide_eq_true (by kernel_rfl)) k0 bel lt0) (trodAll_cons_mk (Below.trod laidOut (by kernel_rfl) (of_decide_eq_true (by kernel_rfl)) k1 bel lt1) trodAll_mk0)), Below.trodVars laidOut bel (by kernel_rfl) hV, bel.frame _, fun h => by cases h⟩
theorem over : Rows.fnSimpPutRow.holds Tryd.pinned (OpenSpec.ofChange Rows.fnSimpPutSpec) :=
  OpenClaim.holds_of_wide 6 Tryd.f6 rfl rfl rfl rfl rfl rfl rfl ⟨rfl, rfl, rfl, rfl, rfl⟩ rfl rfl rfl rfl rfl (by kernel_rfl) Tryd.func6 (by kernel_rfl)
    (of_decide_eq_true (by kernel_rfl)) (by unfold Func.isWrapper; first | (rw [if_pos (by decide +kernel)]; kernel_rfl) | (rw [if_neg (by decide +kernel)]; exact ⟨rfl, rfl⟩))
    (fun os started H enc _ => lifted os started H enc)
theorem proved : Rows.FnSimpPutCardSaid :=
  Claim7.holds_tied_plain_at .later [] [.sentinel] true (true, "8cfc57e93b4f89faba149abb281970eebf1fcfcde33b1eaf7a6ca6324ba5ab67") true
    over (fun _ h => by cases h) (by kernel_rfl) (fun _ h => by cases h) fnSimpPut_row_tie rfl ⟨rfl, rfl⟩ (by kernel_rfl) rfl
    (fun f fn hf hfn => by
      obtain rfl : f = 6 := Option.some.inj ((show Tryd.prog.funcNamed "loop.example/handfast/laws.FnSimpPut" = some 6 by kernel_rfl).symm.trans hf) |>.symm
      obtain rfl : fn = Tryd.f6 := (Option.some.inj (Tryd.func6.symm.trans hfn)).symm
      exact ⟨by kernel_rfl, fun j t ht => by
        rw [Tryd.params6] at ht
        have hm : t ∈ [22] := by simpa using Array.mem_of_getElem? ht
        have hall : ([22].all fun u => !Tryd.prog.wantsStandIn u) = true := by kernel_rfl
        exact (show Tryd.prog.wantsStandIn t = false by simpa using List.all_eq_true.1 hall t hm)⟩)
    (by kernel_rfl)
#print axioms proved
end Go.Proofs.YtbjjdjipdcdfhaaDoor.fnSimpPut
namespace Go.Proofs.YtbjjdjipdcdfhaaDoor
theorem fnSimpPut_holds : Rows.FnSimpPutCardSaid := fnSimpPut.proved
end Go.Proofs.YtbjjdjipdcdfhaaDoor
end
