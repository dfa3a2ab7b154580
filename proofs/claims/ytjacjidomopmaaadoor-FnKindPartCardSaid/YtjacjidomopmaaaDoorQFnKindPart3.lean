-- YtjacjidomopmaaaDoor's texts for the statement FnKindPart, one behind the other (merge.py).
import Derived.Test.YtjacjidomopmaaaDoorQFnKindPart2
import Derived.Below
import Derived.Stop.LaidErr
import Derived.MakeChecks
import Derived.Test.YtjacjidomopmaaaDoorRows
import Derived.WalkKit
import Derived.ProofKit
import Derived.OpenShut
import Derived.ShutString
import Derived.ChangeOld
import Derived.ChangeSlices
import Derived.Carry
import Derived.OpenVars
import Derived.SizedLaws
import Derived.Test.YtjacjidomopmaaaDoorCards
import Derived.Test.YtjacjidomopmaaaDoorTie
import Derived.SevenTiedAt
import Derived.LaidMore
import Derived.LaidLaws
import Derived.Handed
import Derived.Stop.Joined
import Derived.Lib.LaidTab
section
namespace Go.Proofs.YtjacjidomopmaaaDoor.K
open Go Go.RowKit Go.Proofs.YtjacjidomopmaaaDoor.En Go.Proofs.YtjacjidomopmaaaDoor.Ty Go.Proofs.YtjacjidomopmaaaDoor.B
set_option maxRecDepth 100000
set_option linter.unusedSimpArgs false
set_option linter.unusedVariables false
set_option pp.deepTerms false
set_option pp.deepTerms.threshold 8
set_option pp.maxSteps 1000
set_option maxHeartbeats 1000000
def gl (ns : List ByteArray) (ts : List Tn) (s : ByteArray) : Nat → Option Ty
  | 0 => none
  | m + 1 => match ns[m]?, ts[m]? with
    | some x, some u => if (x == s) = true then some u.f0 else gl ns ts s m
    | _, _ => none
abbrev HE (ns : List ByteArray) (ts : List Tn) : List AObj := [.box 52 [.p (.row 1 (ns.map ps)), .p (.row 1 (ts.map eT))]]
abbrev GR (o : Option Ty) (H : List AObj) : TV → List AObj → Prop := fun r H' => r = .tp [.p (pt (o.getD [])), .p (pb o.isSome)] ∧ H = H'
theorem hsh_HE (ns : List ByteArray) (ts : List Tn) : HSh (HE ns ts) := fun i o h => by
  match i, h with
  | 0, h => cases h; intro x hx; simp at hx; rcases hx with rfl | rfl <;> exact .p
theorem wkM1 {n : Nat} (h : n ≤ 1000) : IntKind.i64.wrap ((n : Int) - 1) = (n : Int) - 1 := wk (by omega) (by omega)
theorem get1 (G : Nat → Option PV) (ns : List ByteArray) (ts : List Tn) (s : ByteArray) (hl : ns.length = ts.length) (hb : ns.length ≤ 60) :
    FE Tryd.prog G 36 [.ptr (.S 0) 0, .p (ps s)] (HE ns ts) (GR (gl ns ts s ns.length) (HE ns ts)) := by
  refine ⟨?_, _, _, ⟨rfl, rfl⟩, all2 _ _, hsh_HE ns ts⟩
  refine bdy Tryd.func36 (fun _ => 0) rfl ?_; try (first | refine dr1 ?_ | refine dr2 ?_ | refine dr3 ?_ | refine dr4 ?_)
  refine rn T 99 [] ?_; try (first | refine dr1 ?_ | refine dr2 ?_ | refine dr3 ?_ | refine dr4 ?_)
  refine rn T 99 [] ?_; try (first | refine dr1 ?_ | refine dr2 ?_ | refine dr3 ?_ | refine dr4 ?_)
  rw [List.length_map, wkM1 (by omega)]
  refine lpw (fun x : Nat => MS.mk [(6, .p (pi ((x : Int) - 1))), (5, .p (pb false)), (0, .ptr (.S 0) 0), (1, .p (ps s)), (4, .ptr (.L 4) 0)] 34 [(4, .box 32 [.nil])] (HE ns ts)) (fun m x => m = x ∧ x ≤ ns.length ∧ gl ns ts s x = gl ns ts s ns.length) (ns.length) (ns.length) (by simp) ?_
  intro m x ⟨h1, h2, h3⟩
  subst h1
  refine op ?_; try (first | refine dr1 ?_ | refine dr2 ?_ | refine dr3 ?_ | refine dr4 ?_)
  refine rn T 99 [] ?_; try (first | refine dr1 ?_ | refine dr2 ?_ | refine dr3 ?_ | refine dr4 ?_)
  match m with
  | 0 =>
    refine cfs ?_; try (first | refine dr1 ?_ | refine dr2 ?_ | refine dr3 ?_ | refine dr4 ?_)
    refine rn T 99 [] ?_; try (first | refine dr1 ?_ | refine dr2 ?_ | refine dr3 ?_ | refine dr4 ?_)
    rw [← h3]
    exact rt2 T _ _ ⟨rfl, rfl⟩
  | i + 1 =>
    have hx : ns[i]? = some (ns[i]'(by omega)) := List.getElem?_eq_getElem _
    have hy : ts[i]? = some (ts[i]'(by omega)) := List.getElem?_eq_getElem _
    generalize ns[i]'(by omega) = x at hx
    generalize ts[i]'(by omega) = u at hy
    rw [gl, hx, hy] at h3
    rw [show ((i + 1 : Nat) : Int) - 1 = (i : Int) by omega]
    refine ctq rfl (by simp) ?_; try (first | refine dr1 ?_ | refine dr2 ?_ | refine dr3 ?_ | refine dr4 ?_)
    refine rn T 99 [ps x] ?_; try (first | refine dr1 ?_ | refine dr2 ?_ | refine dr3 ?_ | refine dr4 ?_)
    simp only at h3
    cases hv : (x == s) with
    | true =>
      rw [hv, if_pos rfl] at h3
      refine cts ?_; try (first | refine dr1 ?_ | refine dr2 ?_ | refine dr3 ?_ | refine dr4 ?_)
      refine rn T 99 [pt u.f0] ?_; try (first | refine dr1 ?_ | refine dr2 ?_ | refine dr3 ?_ | refine dr4 ?_)
      rw [← h3]
      exact rt2 T (pt u.f0) _ ⟨rfl, rfl⟩
    | false =>
      rw [hv, if_neg (by simp)] at h3
      refine cfs ?_; try (first | refine dr1 ?_ | refine dr2 ?_ | refine dr3 ?_ | refine dr4 ?_)
      refine rn T 99 [] ?_; try (first | refine dr1 ?_ | refine dr2 ?_ | refine dr3 ?_ | refine dr4 ?_)
      rw [wkM1 (by omega)]
      refine nxt (i) (i) (⟨rfl, by omega, h3⟩)
abbrev envS (ns : List ByteArray) (ts : List Tn) : ByteArray → Ty := fun s => (gl ns ts s ns.length).getD []
theorem term1 (G : Nat → Option PV) (ns : List ByteArray) (ts : List Tn) (hl : ns.length = ts.length) (hb : ns.length ≤ 60) (hdp : ∀ s, dp 4 (envS ns ts s) = true) (nm : ByteArray → Bool) (hnm : ∀ s, nm s = true → (gl ns ts s ns.length).isSome = true) : ∀ (n : Nat) (t : Mn), tk nm n t = true →
    FE Tryd.prog G 22 [.ptr (.S 0) 0, .p (pm t)] (HE ns ts) (fun r H' => ∃ T, r = .tp [.p (pt T), .p (pb (kd (envS ns ts) n t).isSome)] ∧ (∀ u, kd (envS ns ts) n t = some u → T = u) ∧ HE ns ts = H') := by
  intro n
  induction n with
  | zero => intro t h; cases h
  | succ n ih =>
    intro ⟨k, m, s, p, l⟩ h
    have hin := tkH_inv (tk_here h)
    have hl2 : l.length ≤ 2 := by
      rcases hin with ⟨_, rfl⟩ | ⟨_, _, rfl⟩ | ⟨_, h⟩ | ⟨_, h⟩ | ⟨_, _, h⟩ | ⟨_, _, h⟩ <;> simp_all
    have ihx : ∀ x ∈ l, _ := fun x hx => ih x (tk_kids h hx)
    refine ⟨?_, .tp [.p (pt ((kd (envS ns ts) (n + 1) ⟨k, m, s, p, l⟩).getD [])), .p (pb (kd (envS ns ts) (n + 1) ⟨k, m, s, p, l⟩).isSome)], _, ⟨_, rfl, fun u hu => by rw [hu]; rfl, rfl⟩, all2 _ _, hsh_HE ns ts⟩
    show FC _ _ _ [_, .p (.ag [pi k, pi m, ps s, .row 1 (p.map pi), .row 5 (l.map eM)])] _ _
    refine bdy Tryd.func22 (fun _ => 0) rfl ?_; try (first | refine dr1 ?_ | refine dr2 ?_ | refine dr3 ?_ | refine dr4 ?_)
    refine rn T 99 [] ?_; try (first | refine dr1 ?_ | refine dr2 ?_ | refine dr3 ?_ | refine dr4 ?_)
    refine rn T 99 [] ?_; try (first | refine dr1 ?_ | refine dr2 ?_ | refine dr3 ?_ | refine dr4 ?_)
    refine rn T 99 [] ?_; try (first | refine dr1 ?_ | refine dr2 ?_ | refine dr3 ?_ | refine dr4 ?_)
    by_cases k1 : k = 1
    · subst k1
      refine cts ?_; try (first | refine dr1 ?_ | refine dr2 ?_ | refine dr3 ?_ | refine dr4 ?_)
      refine rn T 99 [] ?_; try (first | refine dr1 ?_ | refine dr2 ?_ | refine dr3 ?_ | refine dr4 ?_)
      exact rt2 T (pt []) _ ⟨_, rfl, fun u hu => by cases hu; rfl, rfl⟩
    · refine cfq rfl (by simp [k1]) ?_; try (first | refine dr1 ?_ | refine dr2 ?_ | refine dr3 ?_ | refine dr4 ?_)
      refine rn T 99 [] ?_; try (first | refine dr1 ?_ | refine dr2 ?_ | refine dr3 ?_ | refine dr4 ?_)
      by_cases k2 : k = 2
      · subst k2
        refine cts ?_; try (first | refine dr1 ?_ | refine dr2 ?_ | refine dr3 ?_ | refine dr4 ?_)
        refine rn T 99 [] ?_; try (first | refine dr1 ?_ | refine dr2 ?_ | refine dr3 ?_ | refine dr4 ?_)
        have hs : nm s = true := by
          rcases hin with ⟨h, _⟩ | ⟨_, h, _⟩ | ⟨h, _⟩ | ⟨h, _⟩ | ⟨h, _⟩ | ⟨h, _⟩
          · cases h
          · exact h
          all_goals first | (cases h; done) | (rcases h with h | h | h <;> cases h)
        have hg := get1 G ns ts s hl hb
        obtain ⟨v, hv⟩ := Option.isSome_iff_exists.1 (hnm s hs)
        rw [hv] at hg
        refine hes (hg) ?_; rintro _ _ ⟨rfl, rfl⟩ _ _; refine op ?_; try (first | refine dr1 ?_ | refine dr2 ?_ | refine dr3 ?_ | refine dr4 ?_)
        simp only [Option.getD_some]
        refine rn T 99 [] ?_; try (first | refine dr1 ?_ | refine dr2 ?_ | refine dr3 ?_ | refine dr4 ?_)
        exact rt2 T (pt v) _ ⟨_, rfl, fun u hu => by cases hu; show _ = (gl ns ts s ns.length).getD []; rw [hv]; rfl, rfl⟩
      · refine cfq rfl (by simp [k2]) ?_; try (first | refine dr1 ?_ | refine dr2 ?_ | refine dr3 ?_ | refine dr4 ?_)
        refine rn T 99 [] ?_; try (first | refine dr1 ?_ | refine dr2 ?_ | refine dr3 ?_ | refine dr4 ?_)
        have hkd : kd (envS ns ts) (n + 1) ⟨k, m, s, p, l⟩ = match kds (kd (envS ns ts) n) l with | none => none | some us => kk k p us := by
          show (if k = 1 then _ else if k = 2 then _ else _) = _
          rw [if_neg k1, if_neg k2]
          rfl
        rw [hkd]
        refine rn T 99 [] ?_; try (first | refine dr1 ?_ | refine dr2 ?_ | refine dr3 ?_ | refine dr4 ?_)
        refine lpw (fun x : List Tn => MS.mk [(8, .p (pi (x.length))), (7, .vw (.L 28) x.length), (0, .ptr (.S 0) 0), (3, .ptr (.L 3) 0), (4, .ptr (.L 4) 0), (6, .ptr (.L 6) 0)] 107 [(28, .rw 1 32 (x.map eT)), (3, .box 28 [.p (pi k), .p (pi m), .p (ps s), .p (.row 1 (p.map pi)), .p (.row 5 (l.map eM))]), (4, .box 32 [.nil]), (6, .box 32 [.nil])] (HE ns ts)) (fun mm x => mm + x.length = l.length ∧ kds (kd (envS ns ts) n) l = (kds (kd (envS ns ts) n) (l.drop x.length)).map (x ++ ·)) (l.length) ([]) (by simp) ?_
        intro mm x ⟨h1, h2⟩
        have hq : (x.map eT).length = x.length := by simp
        refine op ?_; try (first | refine dr1 ?_ | refine dr2 ?_ | refine dr3 ?_ | refine dr4 ?_)
        refine rn T 99 [] ?_; try (first | refine dr1 ?_ | refine dr2 ?_ | refine dr3 ?_ | refine dr4 ?_)
        by_cases hi : x.length < l.length
        · obtain ⟨y, hy, hd⟩ := drop_ix hi
          refine ctq rfl (by simp at hi ⊢; omega) ?_; try (first | refine dr1 ?_ | refine dr2 ?_ | refine dr3 ?_ | refine dr4 ?_)
          have hr1 : x.length ≤ 2 := by omega
          refine rn T 99 [pm y] ?_; try (first | refine dr1 ?_ | refine dr2 ?_ | refine dr3 ?_ | refine dr4 ?_)
          have hc := ihx y (List.mem_of_getElem? hy)
          rw [hd] at h2
          cases hf : kd (envS ns ts) n y with
          | none =>
            rw [hf] at hc
            have hk : kds (kd (envS ns ts) n) l = none := by rw [h2, kds_cons, hf]; rfl
            refine hes (hc) ?_; rintro _ _ ⟨V, rfl, _, rfl⟩ _ _; refine op ?_; try (first | refine dr1 ?_ | refine dr2 ?_ | refine dr3 ?_ | refine dr4 ?_)
            refine rn T 99 [] ?_; try (first | refine dr1 ?_ | refine dr2 ?_ | refine dr3 ?_ | refine dr4 ?_)
            refine rn T 99 [] ?_; try (first | refine dr1 ?_ | refine dr2 ?_ | refine dr3 ?_ | refine dr4 ?_)
            refine cts ?_; try (first | refine dr1 ?_ | refine dr2 ?_ | refine dr3 ?_ | refine dr4 ?_)
            refine rn T 99 [] ?_; try (first | refine dr1 ?_ | refine dr2 ?_ | refine dr3 ?_ | refine dr4 ?_)
            rw [hk]
            exact rt2 T (pt []) (pb false) ⟨_, rfl, fun u hu => (nomatch hu), rfl⟩
          | some v =>
            rw [hf] at hc
            refine hes (hc) ?_; rintro _ _ ⟨V, rfl, hV, rfl⟩ _ _; refine op ?_; try (first | refine dr1 ?_ | refine dr2 ?_ | refine dr3 ?_ | refine dr4 ?_)
            obtain rfl := hV v rfl
            refine rn T 99 [] ?_; try (first | refine dr1 ?_ | refine dr2 ?_ | refine dr3 ?_ | refine dr4 ?_)
            refine rn T 99 [] ?_; try (first | refine dr1 ?_ | refine dr2 ?_ | refine dr3 ?_ | refine dr4 ?_)
            refine cfs ?_; try (first | refine dr1 ?_ | refine dr2 ?_ | refine dr3 ?_ | refine dr4 ?_)
            refine rn T 99 [] ?_; try (first | refine dr1 ?_ | refine dr2 ?_ | refine dr3 ?_ | refine dr4 ?_)
            refine rn T 99 [] ?_; try (first | refine dr1 ?_ | refine dr2 ?_ | refine dr3 ?_ | refine dr4 ?_)
            have hap : x.map eT ++ [pt V] = (x ++ [(⟨V⟩ : Tn)]).map eT := by simp [eT_eq, Tn.f0]
            rw [hq, show x.length + [pt V].length = (x ++ [(⟨V⟩ : Tn)]).length by simp, wkS (by omega), show x.length + 1 = (x ++ [(⟨V⟩ : Tn)]).length by simp]
            have hm : 0 < mm := by omega
            refine nxt (mm - 1) (x ++ [⟨V⟩]) (⟨by simp at h1 ⊢; omega, by rw [h2, kds_cons, hf, show (x ++ [(⟨V⟩ : Tn)]).length = x.length + 1 by simp]; cases kds (kd (envS ns ts) n) (l.drop (x.length + 1)) <;> simp⟩)
        · refine cfq rfl (by simp at hi ⊢; omega) ?_; try (first | refine dr1 ?_ | refine dr2 ?_ | refine dr3 ?_ | refine dr4 ?_)
          refine rn T 99 [] ?_; try (first | refine dr1 ?_ | refine dr2 ?_ | refine dr3 ?_ | refine dr4 ?_)
          have hk : kds (kd (envS ns ts) n) l = some x := by rw [h2, List.drop_eq_nil_of_le (by omega)]; simp [kds]
          rw [hk]
          simp only
          obtain ⟨q1, q2⟩ := kds_dp _ _ _ (fun x _ u hu => kd_dp _ hdp n x u hu) hk
          refine rn T 99 [] ?_; try (first | refine dr1 ?_ | refine dr2 ?_ | refine dr3 ?_ | refine dr4 ?_)
          rcases hin with ⟨h, _⟩ | ⟨h, _⟩ | ⟨hk3, hll⟩ | ⟨rfl, hll⟩ | ⟨rfl, hp, hll⟩ | ⟨rfl, hp, hll⟩
          · exact absurd h k1
          · exact absurd h k2
          · obtain ⟨⟨x⟩, ⟨y⟩, rfl⟩ := two_of (l := x) (by omega)
            refine cfq rfl (by simp; omega) ?_; try (first | refine dr1 ?_ | refine dr2 ?_ | refine dr3 ?_ | refine dr4 ?_)
            refine rn T 99 [] ?_; try (first | refine dr1 ?_ | refine dr2 ?_ | refine dr3 ?_ | refine dr4 ?_)
            refine cfq rfl (by simp; omega) ?_; try (first | refine dr1 ?_ | refine dr2 ?_ | refine dr3 ?_ | refine dr4 ?_)
            refine rn T 99 [] ?_; try (first | refine dr1 ?_ | refine dr2 ?_ | refine dr3 ?_ | refine dr4 ?_)
            refine cfq rfl (by simp; omega) ?_; try (first | refine dr1 ?_ | refine dr2 ?_ | refine dr3 ?_ | refine dr4 ?_)
            have hkk : kk k p [⟨x⟩, ⟨y⟩] = if x.length = 0 ∧ y.length = 0 then some [] else none := kk_3 p ⟨x⟩ ⟨y⟩ hk3
            rw [hkk]
            refine rn T 99 [pt x, pt y] ?_; try (first | refine dr1 ?_ | refine dr2 ?_ | refine dr3 ?_ | refine dr4 ?_)
            simp only [List.length_map]
            have lx := dp_len 4 x (q2 ⟨x⟩ (by simp))
            have ly := dp_len 4 y (q2 ⟨y⟩ (by simp))
            rw [wk (by omega) (by omega)]
            by_cases hxy : x.length = 0 ∧ y.length = 0
            · rw [if_pos hxy, show (((x.length : Int) + (y.length : Int)) == 0) = true by simp; omega]
              exact rt2 T (pt []) (pb true) ⟨_, rfl, fun u hu => by cases hu; rfl, rfl⟩
            · rw [if_neg hxy, show (((x.length : Int) + (y.length : Int)) == 0) = false by simp; omega]
              exact rt2 T (pt []) (pb false) ⟨_, rfl, fun u hu => (nomatch hu), rfl⟩
          · obtain ⟨⟨x⟩, ⟨y⟩, rfl⟩ := two_of (l := x) (by omega)
            refine cfs ?_; try (first | refine dr1 ?_ | refine dr2 ?_ | refine dr3 ?_ | refine dr4 ?_)
            refine rn T 99 [] ?_; try (first | refine dr1 ?_ | refine dr2 ?_ | refine dr3 ?_ | refine dr4 ?_)
            refine cfs ?_; try (first | refine dr1 ?_ | refine dr2 ?_ | refine dr3 ?_ | refine dr4 ?_)
            refine rn T 99 [] ?_; try (first | refine dr1 ?_ | refine dr2 ?_ | refine dr3 ?_ | refine dr4 ?_)
            refine cts ?_; try (first | refine dr1 ?_ | refine dr2 ?_ | refine dr3 ?_ | refine dr4 ?_)
            refine rn T 99 [] ?_; try (first | refine dr1 ?_ | refine dr2 ?_ | refine dr3 ?_ | refine dr4 ?_)
            refine rn T 99 [] ?_; try (first | refine dr1 ?_ | refine dr2 ?_ | refine dr3 ?_ | refine dr4 ?_)
            have cp := ok1 G [⟨x⟩, ⟨y⟩]
            rw [show kk 6 p [⟨x⟩, ⟨y⟩] = if dp 4 [⟨x⟩, ⟨y⟩] = true then some [⟨x⟩, ⟨y⟩] else none from rfl]
            cases hd : dp 4 [⟨x⟩, ⟨y⟩] with
            | true =>
              rw [hd] at cp
              refine pcs (cp) ?_; try (first | refine dr1 ?_ | refine dr2 ?_ | refine dr3 ?_ | refine dr4 ?_)
              refine rn T 99 [] ?_; try (first | refine dr1 ?_ | refine dr2 ?_ | refine dr3 ?_ | refine dr4 ?_)
              rw [if_pos rfl]
              exact rt2 T (pt [⟨x⟩, ⟨y⟩]) _ ⟨_, rfl, fun u hu => by cases hu; rfl, rfl⟩
            | false =>
              rw [hd] at cp
              refine pcs (cp) ?_; try (first | refine dr1 ?_ | refine dr2 ?_ | refine dr3 ?_ | refine dr4 ?_)
              refine rn T 99 [] ?_; try (first | refine dr1 ?_ | refine dr2 ?_ | refine dr3 ?_ | refine dr4 ?_)
              rw [if_neg (by simp)]
              exact rt2 T (pt [⟨x⟩, ⟨y⟩]) (pb false) ⟨_, rfl, fun u hu => (nomatch hu), rfl⟩
          · obtain ⟨⟨x⟩, rfl⟩ : ∃ y, x = [y] := by
              match x, (show x.length = 1 by omega) with
              | [y], _ => exact ⟨y, rfl⟩
            refine cts ?_; try (first | refine dr1 ?_ | refine dr2 ?_ | refine dr3 ?_ | refine dr4 ?_)
            have cp := typeAt1 G x p (path_len hp)
            have qx : dp 4 x = true := q2 ⟨x⟩ (by simp)
            rw [tat, if_pos qx] at cp
            rw [show kk 7 p [⟨x⟩] = pf p x from rfl]
            refine rn T 99 [pt x] ?_; try (first | refine dr1 ?_ | refine dr2 ?_ | refine dr3 ?_ | refine dr4 ?_)
            cases hq : pf p x with
            | none =>
              rw [hq] at cp
              refine pcs (cp) ?_; try (first | refine dr1 ?_ | refine dr2 ?_ | refine dr3 ?_ | refine dr4 ?_)
              refine rn T 99 [] ?_; try (first | refine dr1 ?_ | refine dr2 ?_ | refine dr3 ?_ | refine dr4 ?_)
              exact rt2 T (pt []) (pb false) ⟨_, rfl, fun u hu => (nomatch hu), rfl⟩
            | some v =>
              rw [hq] at cp
              refine pcs (cp) ?_; try (first | refine dr1 ?_ | refine dr2 ?_ | refine dr3 ?_ | refine dr4 ?_)
              refine rn T 99 [] ?_; try (first | refine dr1 ?_ | refine dr2 ?_ | refine dr3 ?_ | refine dr4 ?_)
              exact rt2 T (pt v) _ ⟨_, rfl, fun u hu => by cases hu; rfl, rfl⟩
          · obtain ⟨⟨x⟩, ⟨y⟩, rfl⟩ := two_of (l := x) (by omega)
            refine cfs ?_; try (first | refine dr1 ?_ | refine dr2 ?_ | refine dr3 ?_ | refine dr4 ?_)
            refine rn T 99 [] ?_; try (first | refine dr1 ?_ | refine dr2 ?_ | refine dr3 ?_ | refine dr4 ?_)
            refine cts ?_; try (first | refine dr1 ?_ | refine dr2 ?_ | refine dr3 ?_ | refine dr4 ?_)
            have cp := typeAt1 G x p (path_len hp)
            have qx : dp 4 x = true := q2 ⟨x⟩ (by simp)
            rw [tat, if_pos qx] at cp
            rw [show kk 8 p [⟨x⟩, ⟨y⟩] = (match pf p x with | some u => if teq 4 u y = true then some x else none | none => none) from rfl]
            refine rn T 99 [pt x] ?_; try (first | refine dr1 ?_ | refine dr2 ?_ | refine dr3 ?_ | refine dr4 ?_)
            cases hq : pf p x with
            | none =>
              rw [hq] at cp
              refine pcs (cp) ?_; try (first | refine dr1 ?_ | refine dr2 ?_ | refine dr3 ?_ | refine dr4 ?_)
              refine rn T 99 [] ?_; try (first | refine dr1 ?_ | refine dr2 ?_ | refine dr3 ?_ | refine dr4 ?_)
              refine rn T 99 [pt x] ?_; try (first | refine dr1 ?_ | refine dr2 ?_ | refine dr3 ?_ | refine dr4 ?_)
              exact rt2 T (pt x) (pb false) ⟨_, rfl, fun u hu => (nomatch hu), rfl⟩
            | some v =>
              rw [hq] at cp
              have cs := same1 G 4 v y (dp_pf 4 _ _ _ qx hq) (q2 ⟨y⟩ (by simp))
              refine pcs (cp) ?_; try (first | refine dr1 ?_ | refine dr2 ?_ | refine dr3 ?_ | refine dr4 ?_)
              refine rn T 99 [] ?_; try (first | refine dr1 ?_ | refine dr2 ?_ | refine dr3 ?_ | refine dr4 ?_)
              refine rn T 99 [pt x, pt y] ?_; try (first | refine dr1 ?_ | refine dr2 ?_ | refine dr3 ?_ | refine dr4 ?_)
              simp only
              cases hs : teq 4 v y with
              | true =>
                rw [hs] at cs
                refine pcs (cs) ?_; try (first | refine dr1 ?_ | refine dr2 ?_ | refine dr3 ?_ | refine dr4 ?_)
                refine rn T 99 [] ?_; try (first | refine dr1 ?_ | refine dr2 ?_ | refine dr3 ?_ | refine dr4 ?_)
                rw [if_pos rfl]
                exact rt2 T (pt x) _ ⟨_, rfl, fun u hu => by cases hu; rfl, rfl⟩
              | false =>
                rw [hs] at cs
                refine pcs (cs) ?_; try (first | refine dr1 ?_ | refine dr2 ?_ | refine dr3 ?_ | refine dr4 ?_)
                refine rn T 99 [] ?_; try (first | refine dr1 ?_ | refine dr2 ?_ | refine dr3 ?_ | refine dr4 ?_)
                rw [if_neg (by simp)]
                exact rt2 T (pt x) (pb false) ⟨_, rfl, fun u hu => (nomatch hu), rfl⟩
end Go.Proofs.YtjacjidomopmaaaDoor.K
end
section
namespace Go.Proofs.YtjacjidomopmaaaDoor.K
open Go Go.RowKit Go.Proofs.YtjacjidomopmaaaDoor.En Go.Proofs.YtjacjidomopmaaaDoor.Ty Go.Proofs.YtjacjidomopmaaaDoor.B
set_option maxRecDepth 100000
set_option linter.unusedSimpArgs false
set_option linter.unusedVariables false
set_option pp.deepTerms false
set_option pp.deepTerms.threshold 8
set_option pp.maxSteps 1000
set_option maxHeartbeats 1000000
theorem pput_new : ∀ (l : List (ByteArray × PV)) (s : ByteArray) (v : PV), (∀ q ∈ l, (s == q.1) = false) → pput l s v = l ++ [(s, v)]
  | [], s, v, _ => rfl
  | q :: l, s, v, h => by
    unfold pput
    rw [h q (by simp), if_neg (by simp), pput_new l s v (fun r hr => h r (by simp [hr]))]
    rfl
theorem nsF_ix : ∀ (l pre : List ByteArray), nsF pre l = true → ∀ (i : Nat) (x : ByteArray), l[i]? = some x → hasS (pre ++ l.take i) x = false
  | [], pre, _, i, x, hx => by simp at hx
  | y :: l, pre, h, i, x, hx => by
    unfold nsF at h
    simp only [Bool.and_eq_true, Bool.not_eq_true'] at h
    match i with
    | 0 =>
      simp only [List.getElem?_cons_zero, Option.some.injEq] at hx
      subst hx
      simpa using h.1.2
    | i + 1 =>
      have := nsF_ix l (pre ++ [y]) h.2 i x (by simpa using hx)
      simpa using this
abbrev zipE (ns : List ByteArray) (ts : List Tn) : List (ByteArray × Ty) := ns.zip (ts.map Tn.f0)
theorem put_step {ns : List ByteArray} {ts : List Tn} (h : nsB ns = true) (hl : ns.length = ts.length) {i : Nat} {x : ByteArray} {u : Tn} (hx : ns[i]? = some x) (hu : ts[i]? = some u) :
    pput (ems ((zipE ns ts).take i)) x (pt u.f0) = ems ((zipE ns ts).take (i + 1)) := by
  unfold nsB at h
  rw [Bool.and_eq_true] at h
  have h1 := nsF_ix ns [] h.2 i x hx
  rw [pput_new]
  · have hz : (zipE ns ts)[i]? = some (x, u.f0) := by
      rw [List.getElem?_zip_eq_some]; exact ⟨hx, by rw [List.getElem?_map, hu]; rfl⟩
    rw [List.take_add_one, hz]
    simp [ems]
  · intro q hq
    obtain ⟨⟨n, v⟩, hq1, rfl⟩ := List.mem_map.1 hq
    have hq2 : n ∈ ns.take i := by
      have h3 := List.mem_map_of_mem (f := Prod.fst) hq1
      rw [List.map_take, List.map_fst_zip (by simp [hl])] at h3
      exact h3
    unfold hasS at h1
    rw [List.nil_append, List.any_eq_false] at h1
    simpa using h1 n hq2
theorem look_has : ∀ (ns : List ByteArray) (ts : List Tn), ns.length = ts.length → ∀ s, (look (zipE ns ts) s).isSome = hasS ns s
  | [], [], _, s => rfl
  | [], _ :: _, h, s => by cases h
  | _ :: _, [], h, s => by cases h
  | n :: ns, t :: ts, h, s => by
    have ih := look_has ns ts (by simpa using h) s
    unfold look hasS at ih ⊢
    simp only [zipE, List.map_cons, List.zip_cons_cons, List.find?_cons, List.any_cons]
    cases (s == n) with
    | true => rfl
    | false => simpa using ih
theorem look_dp : ∀ (ns : List ByteArray) (ts : List Tn), (ts.all fun t => dp 4 t.f0) = true → ∀ s, dp 4 (envM (zipE ns ts) s) = true := by
  intro ns ts h s
  unfold envM
  cases hl : look (zipE ns ts) s with
  | none => rfl
  | some u =>
    unfold look at hl
    obtain ⟨q, hq, rfl⟩ := Option.map_eq_some_iff.1 hl
    have h2 := (List.of_mem_zip (List.mem_of_find?_eq_some hq)).2
    obtain ⟨t, ht, e⟩ := List.mem_map.1 h2
    rw [Option.getD_some, ← e]
    exact List.all_eq_true.1 h t ht
def KT (ns : List ByteArray) (ts : List Tn) (t : Mn) : Option Ty :=
  if nsB ns = true ∧ ns.length = ts.length ∧ (ts.all fun t => dp 4 t.f0) = true ∧ tk (fun s => pw s && hasS ns s) 8 t = true then kd (envM (zipE ns ts)) 8 t else none
theorem kindTerm2 (a : Addr) (ns : List ByteArray) (ts : List Tn) (t : Mn) (hb : ts.length ≤ 1000) :
    FC Tryd.prog (GE a) 8 [.p (.row 1 (ns.map ps)), .p (.row 1 (ts.map eT)), .p (pm t)] [] (fun r H' => r = .tp [.p (pt ((KT ns ts t).getD [])), .p (pb (KT ns ts t).isSome)]) := by
  obtain ⟨k, m0, s, p, l⟩ := t
  show FC _ _ _ [_, _, .p (.ag [pi k, pi m0, ps s, .row 1 (p.map pi), .row 5 (l.map eM)])] _ _
  refine bdy Tryd.func8 (fun d => if d = 30 ∨ d = 8 then 1 else 0) rfl ?_; try (first | refine dr1 ?_ | refine dr2 ?_ | refine dr3 ?_ | refine dr4 ?_)
  refine rn T 99 [] ?_; try (first | refine dr1 ?_ | refine dr2 ?_ | refine dr3 ?_ | refine dr4 ?_)
  have c1 := names2 (GE a) ns
  have c2 := typesOk (GE a) ts hb
  unfold KT
  cases h1 : nsB ns with
  | false =>
    rw [h1] at c1
    refine rn T 99 [] ?_; try (first | refine dr1 ?_ | refine dr2 ?_ | refine dr3 ?_ | refine dr4 ?_)
    refine pcs (c1) ?_; try (first | refine dr1 ?_ | refine dr2 ?_ | refine dr3 ?_ | refine dr4 ?_)
    refine rn T 99 [] ?_; try (first | refine dr1 ?_ | refine dr2 ?_ | refine dr3 ?_ | refine dr4 ?_)
    refine cts ?_; try (first | refine dr1 ?_ | refine dr2 ?_ | refine dr3 ?_ | refine dr4 ?_)
    refine rn T 99 [] ?_; try (first | refine dr1 ?_ | refine dr2 ?_ | refine dr3 ?_ | refine dr4 ?_)
    rw [if_neg (by simp)]
    exact rt2 T (pt []) (pb false) rfl
  | true =>
    rw [h1] at c1
    refine rn T 99 [] ?_; try (first | refine dr1 ?_ | refine dr2 ?_ | refine dr3 ?_ | refine dr4 ?_)
    refine pcs (c1) ?_; try (first | refine dr1 ?_ | refine dr2 ?_ | refine dr3 ?_ | refine dr4 ?_)
    by_cases h2 : ns.length = ts.length
    · refine rn T 7 [] ?_; try (first | refine dr1 ?_ | refine dr2 ?_ | refine dr3 ?_ | refine dr4 ?_)
      rw [show (((ns.map ps).length : Int) != ((ts.map eT).length : Int)) = false by simp [h2]]
      cases h3 : ts.all fun t => dp 4 t.f0 with
      | false =>
        rw [h3] at c2
        refine rn T 99 [] ?_; try (first | refine dr1 ?_ | refine dr2 ?_ | refine dr3 ?_ | refine dr4 ?_)
        refine pcs (c2) ?_; try (first | refine dr1 ?_ | refine dr2 ?_ | refine dr3 ?_ | refine dr4 ?_)
        refine rn T 99 [] ?_; try (first | refine dr1 ?_ | refine dr2 ?_ | refine dr3 ?_ | refine dr4 ?_)
        refine cts ?_; try (first | refine dr1 ?_ | refine dr2 ?_ | refine dr3 ?_ | refine dr4 ?_)
        refine rn T 99 [] ?_; try (first | refine dr1 ?_ | refine dr2 ?_ | refine dr3 ?_ | refine dr4 ?_)
        rw [if_neg (by simp)]
        exact rt2 T (pt []) (pb false) rfl
      | true =>
        rw [h3] at c2
        refine rn T 99 [] ?_; try (first | refine dr1 ?_ | refine dr2 ?_ | refine dr3 ?_ | refine dr4 ?_)
        refine pcs (c2) ?_; try (first | refine dr1 ?_ | refine dr2 ?_ | refine dr3 ?_ | refine dr4 ?_)
        refine rn T 99 [] ?_; try (first | refine dr1 ?_ | refine dr2 ?_ | refine dr3 ?_ | refine dr4 ?_)
        refine cfs ?_; try (first | refine dr1 ?_ | refine dr2 ?_ | refine dr3 ?_ | refine dr4 ?_)
        refine rn T 99 [] ?_; try (first | refine dr1 ?_ | refine dr2 ?_ | refine dr3 ?_ | refine dr4 ?_)
        refine rn T 99 [] ?_; try (first | refine dr1 ?_ | refine dr2 ?_ | refine dr3 ?_ | refine dr4 ?_)
        refine lpw (fun i : Nat => MS.mk [(33, .p (pi i)), (32, .p (pi (ns.map ps).length)), (31, .p (.row 1 (ns.map ps))), (0, .p (.row 1 (ns.map ps))), (1, .p (.row 1 (ts.map eT))), (5, .ptr (.L 5) 0), (6, .ptr (.L 6) 0), (8, .ptr (.S 1) 0)] 63 [(5, .box 28 [.p (pi k), .p (pi m0), .p (ps s), .p (.row 1 (p.map pi)), .p (.row 5 (l.map eM))]), (6, .box 32 [.nil])] [.mp (ems ((zipE ns ts).take i)), .box 58 [.mp (.S 0)]]) (fun m i => m + i = ns.length) (ns.length) (0) (by simp) ?_
        intro m i h4
        refine op ?_; try (first | refine dr1 ?_ | refine dr2 ?_ | refine dr3 ?_ | refine dr4 ?_)
        refine rn T 99 [] ?_; try (first | refine dr1 ?_ | refine dr2 ?_ | refine dr3 ?_ | refine dr4 ?_)
        by_cases hi : i < ns.length
        · obtain ⟨x, hx⟩ : ∃ x, ns[i]? = some x := ⟨_, List.getElem?_eq_getElem hi⟩
          obtain ⟨u, hu⟩ : ∃ u, ts[i]? = some u := ⟨_, List.getElem?_eq_getElem (h2 ▸ hi)⟩
          refine ctq rfl (by simp [hi]) ?_; try (first | refine dr1 ?_ | refine dr2 ?_ | refine dr3 ?_ | refine dr4 ?_)
          refine rn T 99 [ps x] ?_; try (first | refine dr1 ?_ | refine dr2 ?_ | refine dr3 ?_ | refine dr4 ?_)
          refine rn T 99 [pt u.f0] ?_; try (first | refine dr1 ?_ | refine dr2 ?_ | refine dr3 ?_ | refine dr4 ?_)
          rw [show pput (ems ((zipE ns ts).take i)) x (.ag [.row 1 (u.f0.map eT)]) = _ from put_step h1 h2 hx hu]
          refine rn T 99 [] ?_; try (first | refine dr1 ?_ | refine dr2 ?_ | refine dr3 ?_ | refine dr4 ?_)
          rw [wkS (by omega)]
          refine nxt (m - 1) (i + 1) (by omega)
        · refine cfq rfl (by simp [hi]) ?_; try (first | refine dr1 ?_ | refine dr2 ?_ | refine dr3 ?_ | refine dr4 ?_)
          rw [List.take_of_length_le (by simp; omega)]
          have hH := hsh_HK (zipE ns ts)
          have hbd : ∀ s, FE Tryd.prog (GE a) 26 (.p (ps s) :: [.ptr (.S 1) 0]) (HK (zipE ns ts)) (RB (hasS ns s) (HK (zipE ns ts))) := fun s => by
            have := bound2 (GE a) (zipE ns ts) s
            rw [look_has ns ts h2 s] at this
            exact this
          have c3 := termOk2 (GE a) hH 26 1 (hasS ns) hbd 8 (by omega) ⟨k, m0, s, p, l⟩
          refine rn T 99 [] ?_; try (first | refine dr1 ?_ | refine dr2 ?_ | refine dr3 ?_ | refine dr4 ?_)
          refine rn T 99 [] ?_; try (first | refine dr1 ?_ | refine dr2 ?_ | refine dr3 ?_ | refine dr4 ?_)
          cases h5 : tk (fun s => pw s && hasS ns s) 8 ⟨k, m0, s, p, l⟩ with
          | false =>
            rw [h5] at c3
            refine hes (c3) ?_; rintro _ _ ⟨rfl, rfl⟩ _ _; refine op ?_; try (first | refine dr1 ?_ | refine dr2 ?_ | refine dr3 ?_ | refine dr4 ?_)
            refine rn T 99 [] ?_; try (first | refine dr1 ?_ | refine dr2 ?_ | refine dr3 ?_ | refine dr4 ?_)
            refine cts ?_; try (first | refine dr1 ?_ | refine dr2 ?_ | refine dr3 ?_ | refine dr4 ?_)
            refine rn T 99 [] ?_; try (first | refine dr1 ?_ | refine dr2 ?_ | refine dr3 ?_ | refine dr4 ?_)
            rw [if_neg (by simp)]
            exact rt2 T (pt []) (pb false) rfl
          | true =>
            rw [h5] at c3
            have c4 := kterm2 a (zipE ns ts) (look_dp ns ts h3) _ 8 _ h5
            rw [if_pos ⟨rfl, h2, rfl, rfl⟩]
            refine hes (c3) ?_; rintro _ _ ⟨rfl, rfl⟩ _ _; refine op ?_; try (first | refine dr1 ?_ | refine dr2 ?_ | refine dr3 ?_ | refine dr4 ?_)
            refine rn T 99 [] ?_; try (first | refine dr1 ?_ | refine dr2 ?_ | refine dr3 ?_ | refine dr4 ?_)
            refine cfs ?_; try (first | refine dr1 ?_ | refine dr2 ?_ | refine dr3 ?_ | refine dr4 ?_)
            refine rn T 99 [] ?_; try (first | refine dr1 ?_ | refine dr2 ?_ | refine dr3 ?_ | refine dr4 ?_)
            cases h6 : kd (envM (zipE ns ts)) 8 ⟨k, m0, s, p, l⟩ with
            | none =>
              rw [h6] at c4
              refine hes (c4) ?_; rintro _ _ ⟨rfl, rfl⟩ _ _; refine op ?_; try (first | refine dr1 ?_ | refine dr2 ?_ | refine dr3 ?_ | refine dr4 ?_)
              refine rn T 99 [] ?_; try (first | refine dr1 ?_ | refine dr2 ?_ | refine dr3 ?_ | refine dr4 ?_)
              refine rn T 99 [] ?_; try (first | refine dr1 ?_ | refine dr2 ?_ | refine dr3 ?_ | refine dr4 ?_)
              refine pcs (is_same2 (GE a) a) ?_; try (first | refine dr1 ?_ | refine dr2 ?_ | refine dr3 ?_ | refine dr4 ?_)
              refine cts ?_; try (first | refine dr1 ?_ | refine dr2 ?_ | refine dr3 ?_ | refine dr4 ?_)
              refine rn T 99 [] ?_; try (first | refine dr1 ?_ | refine dr2 ?_ | refine dr3 ?_ | refine dr4 ?_)
              exact rt2 T (pt []) (pb false) rfl
            | some v =>
              rw [h6] at c4
              refine hes (c4) ?_; rintro _ _ ⟨rfl, rfl⟩ _ _; refine op ?_; try (first | refine dr1 ?_ | refine dr2 ?_ | refine dr3 ?_ | refine dr4 ?_)
              simp only [Option.getD_some]
              refine rn T 99 [] ?_; try (first | refine dr1 ?_ | refine dr2 ?_ | refine dr3 ?_ | refine dr4 ?_)
              refine rn T 99 [] ?_; try (first | refine dr1 ?_ | refine dr2 ?_ | refine dr3 ?_ | refine dr4 ?_)
              refine pcs (is_nil2 (GE a) a) ?_; try (first | refine dr1 ?_ | refine dr2 ?_ | refine dr3 ?_ | refine dr4 ?_)
              refine cfs ?_; try (first | refine dr1 ?_ | refine dr2 ?_ | refine dr3 ?_ | refine dr4 ?_)
              refine rn T 99 [] ?_; try (first | refine dr1 ?_ | refine dr2 ?_ | refine dr3 ?_ | refine dr4 ?_)
              refine pcs (copy2 (GE a) 4 v (kd_dp _ (look_dp ns ts h3) _ _ _ h6)) ?_; try (first | refine dr1 ?_ | refine dr2 ?_ | refine dr3 ?_ | refine dr4 ?_)
              refine rn T 99 [] ?_; try (first | refine dr1 ?_ | refine dr2 ?_ | refine dr3 ?_ | refine dr4 ?_)
              exact rt2 T (pt v) (pb true) rfl
    · refine rn T 7 [] ?_; try (first | refine dr1 ?_ | refine dr2 ?_ | refine dr3 ?_ | refine dr4 ?_)
      rw [show (((ns.map ps).length : Int) != ((ts.map eT).length : Int)) = true by simp; omega]
      refine rn T 99 [] ?_; try (first | refine dr1 ?_ | refine dr2 ?_ | refine dr3 ?_ | refine dr4 ?_)
      refine cts ?_; try (first | refine dr1 ?_ | refine dr2 ?_ | refine dr3 ?_ | refine dr4 ?_)
      refine rn T 99 [] ?_; try (first | refine dr1 ?_ | refine dr2 ?_ | refine dr3 ?_ | refine dr4 ?_)
      rw [if_neg (fun q => h2 q.2.1)]
      exact rt2 T (pt []) (pb false) rfl
end Go.Proofs.YtjacjidomopmaaaDoor.K
end
section
namespace Go.Proofs.YtjacjidomopmaaaDoor.K
open Go Go.RowKit Go.Proofs.YtjacjidomopmaaaDoor.En Go.Proofs.YtjacjidomopmaaaDoor.Ty Go.Proofs.YtjacjidomopmaaaDoor.B
set_option maxRecDepth 100000
set_option linter.unusedSimpArgs false
set_option linter.unusedVariables false
set_option pp.deepTerms false
set_option pp.deepTerms.threshold 8
set_option pp.maxSteps 1000
set_option maxHeartbeats 1000000
theorem tkH_sz {nm : ByteArray → Bool} {k m : Int} {s : ByteArray} {p : List Int} {l : List Mn} (h : tkH nm ⟨k, m, s, p, l⟩ = true) : l.length ≤ 2 ∧ pathB p = true := by
  have h0 : p.length = 0 → pathB p = true := fun e => by rw [List.eq_nil_of_length_eq_zero e]; rfl
  by_cases k1 : k = 1
  · subst k1; rw [tkH_1] at h; simp at h; exact ⟨by simp [h.2], h0 (by simp [h.1.2])⟩
  by_cases k2 : k = 2
  · subst k2; rw [tkH_2] at h; simp at h; exact ⟨by simp [h.2], h0 (by simp [h.1.2])⟩
  by_cases k3 : k = 3 ∨ k = 4 ∨ k = 5 ∨ k = 6
  · rw [tkH_3 _ _ _ _ _ _ k3] at h; simp at h; exact ⟨by simp [h.2], h0 (by simp [h.1.2])⟩
  by_cases k7 : k = 7
  · subst k7; rw [tkH_7] at h; simp at h; exact ⟨by simp [h.2], h.1.1.1⟩
  by_cases k8 : k = 8
  · subst k8; rw [tkH_8] at h; simp at h; exact ⟨by simp [h.2], h.1.1.1⟩
  rw [tkH_o _ _ _ _ _ _ k1 k2 k3 k7 k8] at h
  cases h
theorem csp {P : Program} {G : Nat → Option PV} {md : Nat → Nat} {Q : Exit → St → Prop} {c : Operand} {x y : Code} {s : MS} {b : Bool} (hc : evM s.l c = some (.p (.c (.bool b)))) (h1 : b = true → AW P x Q (s.st G md)) (h2 : b = false → AW P y Q (s.st G md)) : AW P (.cond c x y) Q (s.st G md) := by
  cases b with
  | true => exact ctp hc rfl (h1 rfl)
  | false => exact cfp hc rfl (h2 rfl)
theorem term12 (G : Nat → Option PV) (ns : List ByteArray) (hl : ns.length ≤ 1000) : ∀ (n : Nat), n ≤ 1000 → ∀ (t : Mn), PF Tryd.prog G 18 [.row 1 (ns.map ps), pm t, pi n] (.p (pb (tk (hasS ns) n t))) := by
  intro n
  induction n with
  | zero =>
    intro _ ⟨k, m, s, p, l⟩
    show PF _ _ _ [_, .ag [pi k, pi m, ps s, .row 1 (p.map pi), .row 5 (l.map eM)], _] _
    refine ⟨(by first | exact .p | exact .tp (fun x hx => by simp at hx; rcases hx with rfl | rfl <;> exact .p) | exact .tp (fun x hx => by simp at hx; rcases hx with rfl | rfl | rfl <;> exact .p)), bdy Tryd.func18 (fun _ => 0) rfl ?_⟩; try (first | refine dr3 ?_ | refine dr4 ?_)
    refine rn T 99 [] ?_; try (first | refine dr3 ?_ | refine dr4 ?_)
    refine rn T 99 [] ?_; try (first | refine dr3 ?_ | refine dr4 ?_)
    refine cts ?_; try (first | refine dr3 ?_ | refine dr4 ?_)
    refine rn T 99 [] ?_; try (first | refine dr3 ?_ | refine dr4 ?_)
    exact ⟨[_], ⟨_, _, rfl, .inl rfl, rfl⟩, .p, rfl⟩
  | succ n ih =>
    intro hn ⟨k, m, s, p, l⟩
    have ih := ih (by omega)
    show PF _ _ _ [_, .ag [pi k, pi m, ps s, .row 1 (p.map pi), .row 5 (l.map eM)], _] _
    refine ⟨(by first | exact .p | exact .tp (fun x hx => by simp at hx; rcases hx with rfl | rfl <;> exact .p) | exact .tp (fun x hx => by simp at hx; rcases hx with rfl | rfl | rfl <;> exact .p)), bdy Tryd.func18 (fun _ => 0) rfl ?_⟩; try (first | refine dr3 ?_ | refine dr4 ?_)
    refine rn T 99 [] ?_; try (first | refine dr3 ?_ | refine dr4 ?_)
    refine rn T 2 [] ?_; try (first | refine dr3 ?_ | refine dr4 ?_)
    rw [show decide (((n + 1 : Nat) : Int) < 1) = false by simp; omega]
    by_cases hl2 : l.length ≤ 2
    · by_cases hp4 : p.length ≤ 4
      · refine rn T 5 [] ?_; try (first | refine dr3 ?_ | refine dr4 ?_)
        rw [show decide (((l.map eM).length : Int) > 2) = false by simp; omega]
        refine rn T 99 [] ?_; try (first | refine dr3 ?_ | refine dr4 ?_)
        refine cfq rfl (by simp; omega) ?_; try (first | refine dr3 ?_ | refine dr4 ?_)
        refine rn T 99 [] ?_; try (first | refine dr3 ?_ | refine dr4 ?_)
        refine lpw (fun i : Nat => MS.mk [(7, .p (pi i)), (0, .p (.row 1 (ns.map ps))), (2, .p (pi (n + 1 : Nat))), (4, .ptr (.L 4) 0)] 131 [(4, .box 28 [.p (pi k), .p (pi m), .p (ps s), .p (.row 1 (p.map pi)), .p (.row 5 (l.map eM))])] []) (fun mm i => mm + i = l.length ∧ (l.drop i).all (tk (hasS ns) n) = l.all (tk (hasS ns) n)) (l.length) (0) (by simp) ?_
        intro mm i ⟨h1, h2⟩
        refine op ?_; try (first | refine dr3 ?_ | refine dr4 ?_)
        refine rn T 99 [] ?_; try (first | refine dr3 ?_ | refine dr4 ?_)
        by_cases hi : i < l.length
        · obtain ⟨x, hx, hd⟩ := drop_ix hi
          rw [hd, List.all_cons] at h2
          refine ctq rfl (by simp [hi]) ?_; try (first | refine dr3 ?_ | refine dr4 ?_)
          refine rn T 99 [pm x] ?_; try (first | refine dr3 ?_ | refine dr4 ?_)
          rw [wkP (by omega)]
          have hc := ih x
          cases hx2 : tk (hasS ns) n x with
          | false =>
            rw [hx2] at hc h2
            refine pcs (hc) ?_; try (first | refine dr3 ?_ | refine dr4 ?_)
            refine rn T 99 [] ?_; try (first | refine dr3 ?_ | refine dr4 ?_)
            refine cts ?_; try (first | refine dr3 ?_ | refine dr4 ?_)
            refine rn T 99 [] ?_; try (first | refine dr3 ?_ | refine dr4 ?_)
            rw [show tk (hasS ns) (n + 1) ⟨k, m, s, p, l⟩ = false by rw [tk_eq, ← h2]; simp]
            exact ⟨[_], ⟨_, _, rfl, .inl rfl, rfl⟩, .p, rfl⟩
          | true =>
            rw [hx2, Bool.true_and] at h2
            rw [hx2] at hc
            refine pcs (hc) ?_; try (first | refine dr3 ?_ | refine dr4 ?_)
            refine rn T 99 [] ?_; try (first | refine dr3 ?_ | refine dr4 ?_)
            refine cfs ?_; try (first | refine dr3 ?_ | refine dr4 ?_)
            refine rn T 99 [] ?_; try (first | refine dr3 ?_ | refine dr4 ?_)
            rw [wkS (by omega)]
            refine nxt (mm - 1) (i + 1) (⟨by omega, h2⟩)
        · refine cfq rfl (by simp [hi]) ?_; try (first | refine dr3 ?_ | refine dr4 ?_)
          refine rn T 99 [] ?_; try (first | refine dr3 ?_ | refine dr4 ?_)
          have hall : l.all (tk (hasS ns) n) = true := by rw [← h2, List.drop_eq_nil_of_le (by omega)]; rfl
          have htk : tk (hasS ns) (n + 1) ⟨k, m, s, p, l⟩ = tkH (hasS ns) ⟨k, m, s, p, l⟩ := by rw [tk_eq, hall, Bool.and_true]
          rw [htk]
          refine lpw (fun i : Nat => MS.mk [(8, .p (pi i)), (0, .p (.row 1 (ns.map ps))), (4, .ptr (.L 4) 0)] 131 [(4, .box 28 [.p (pi k), .p (pi m), .p (ps s), .p (.row 1 (p.map pi)), .p (.row 5 (l.map eM))])] []) (fun mm i => mm + i = p.length ∧ (p.drop i).all bitB = p.all bitB) (p.length) (0) (by simp) ?_
          intro m3 j ⟨h3, h4⟩
          refine op ?_; try (first | refine dr3 ?_ | refine dr4 ?_)
          refine rn T 99 [] ?_; try (first | refine dr3 ?_ | refine dr4 ?_)
          by_cases hj : j < p.length
          · obtain ⟨x, hx, hd⟩ := drop_ix hj
            rw [hd, List.all_cons] at h4
            refine ctq rfl (by simp [hj]) ?_; try (first | refine dr3 ?_ | refine dr4 ?_)
            refine rn T 99 [pi x] ?_; try (first | refine dr3 ?_ | refine dr4 ?_)
            have hc := l6In G x 0 1
            cases hx2 : bitB x with
            | false =>
              rw [hx2] at h4
              rw [show (decide (x ≥ 0) && decide (x ≤ 1)) = false by have := hx2; unfold bitB at this; rw [← this]; simp [Bool.decide_and]] at hc
              refine pcs (hc) ?_; try (first | refine dr3 ?_ | refine dr4 ?_)
              refine rn T 99 [] ?_; try (first | refine dr3 ?_ | refine dr4 ?_)
              refine cts ?_; try (first | refine dr3 ?_ | refine dr4 ?_)
              refine rn T 99 [] ?_; try (first | refine dr3 ?_ | refine dr4 ?_)
              rw [show tkH (hasS ns) ⟨k, m, s, p, l⟩ = false by cases h : tkH (hasS ns) ⟨k, m, s, p, l⟩ with | false => rfl | true => have := (tkH_sz h).2; unfold pathB at this; rw [← h4] at this; simp at this]
              exact ⟨[_], ⟨_, _, rfl, .inl rfl, rfl⟩, .p, rfl⟩
            | true =>
              rw [hx2, Bool.true_and] at h4
              rw [show (decide (x ≥ 0) && decide (x ≤ 1)) = true by have := hx2; unfold bitB at this; rw [← this]; simp [Bool.decide_and]] at hc
              refine pcs (hc) ?_; try (first | refine dr3 ?_ | refine dr4 ?_)
              refine rn T 99 [] ?_; try (first | refine dr3 ?_ | refine dr4 ?_)
              refine cfs ?_; try (first | refine dr3 ?_ | refine dr4 ?_)
              refine rn T 99 [] ?_; try (first | refine dr3 ?_ | refine dr4 ?_)
              rw [wkS (by omega)]
              refine nxt (m3 - 1) (j + 1) (⟨by omega, h4⟩)
          · refine cfq rfl (by simp [hj]) ?_; try (first | refine dr3 ?_ | refine dr4 ?_)
            have hp : pathB p = true := by unfold pathB; rw [← h4, List.drop_eq_nil_of_le (by omega), decide_eq_true hp4]; rfl
            by_cases k1 : k = 1
            · subst k1
              refine rn T 99 [] ?_; try (first | refine dr3 ?_ | refine dr4 ?_)
              repeat' (first | (with_reducible refine n16 ?_) | (with_reducible refine EOps.ci ?_; first | refine EOps.one T [] rfl (by first | exact True.intro | exact ⟨True.intro, True.intro⟩) ?_ | (refine EOps.sp rfl ?_ ?_ <;> intro hc_ <;> rw [hc_] <;> first | replace hc_ := of_decide_eq_true hc_ | replace hc_ := of_decide_eq_false hc_ | replace hc_ := of_decide_eq_false (Eq.mp (Bool.not_eq_true' _) hc_) | replace hc_ := of_decide_eq_true (Eq.mp (Bool.not_eq_false' _) hc_) | skip)))
              all_goals (refine op ?_; try (first | refine dr3 ?_ | refine dr4 ?_))
              all_goals (refine csp rfl ?_ ?_ <;> intro hc2_ <;> first | (cases hc2_; done) | skip)
              all_goals (refine op ?_; try (first | refine dr3 ?_ | refine dr4 ?_))
              all_goals (try ((refine rn T 99 [] ?_; try (first | refine dr3 ?_ | refine dr4 ?_)); (rw [show tkH (hasS ns) ⟨1, m, s, p, l⟩ = false from by rw [tkH_1]; refine Bool.eq_false_iff.2 (fun hq => ?_); simp only [Bool.and_eq_true, decide_eq_true_eq] at hq; first | (simp_all; done) | (simp_all; omega)]); (exact ⟨[_], ⟨_, _, rfl, .inl rfl, rfl⟩, .p, rfl⟩); done))
              refine rn T 99 [] ?_; try (first | refine dr3 ?_ | refine dr4 ?_)
              refine rn T 99 [] ?_; try (first | refine dr3 ?_ | refine dr4 ?_)
              refine cts ?_; try (first | refine dr3 ?_ | refine dr4 ?_)
              have hc := l6In G m 0 9999
              refine rn T 99 [] ?_; try (first | refine dr3 ?_ | refine dr4 ?_)
              cases hb : (decide (m ≥ 0) && decide (m ≤ 9999)) with
              | true =>
                rw [hb] at hc
                refine pcs (hc) ?_; try (first | refine dr3 ?_ | refine dr4 ?_)
                refine rn T 99 [] ?_; try (first | refine dr3 ?_ | refine dr4 ?_)
                rw [show tkH (hasS ns) ⟨1, m, s, p, l⟩ = (((l.map eM).length : Int) == 0) by have e : decide (l.length = 0) = (((l.map eM).length : Int) == 0) := (by rw [Bool.eq_iff_iff]; simp <;> omega); rw [← e, tkH_1]; simp_all]
                exact ⟨[_], ⟨_, _, rfl, .inl rfl, rfl⟩, .p, rfl⟩
              | false =>
                rw [hb] at hc
                refine pcs (hc) ?_; try (first | refine dr3 ?_ | refine dr4 ?_)
                refine rn T 99 [] ?_; try (first | refine dr3 ?_ | refine dr4 ?_)
                rw [show tkH (hasS ns) ⟨1, m, s, p, l⟩ = false from by rw [tkH_1]; refine Bool.eq_false_iff.2 (fun hq => ?_); simp only [Bool.and_eq_true, decide_eq_true_eq] at hq; first | (simp_all; done) | (simp_all; omega)]
                exact ⟨[_], ⟨_, _, rfl, .inl rfl, rfl⟩, .p, rfl⟩
            by_cases k2 : k = 2
            · subst k2
              refine rn T 99 [] ?_; try (first | refine dr3 ?_ | refine dr4 ?_)
              repeat' (first | (with_reducible refine n16 ?_) | (with_reducible refine EOps.ci ?_; first | refine EOps.one T [] rfl (by first | exact True.intro | exact ⟨True.intro, True.intro⟩) ?_ | (refine EOps.sp rfl ?_ ?_ <;> intro hc_ <;> rw [hc_] <;> first | replace hc_ := of_decide_eq_true hc_ | replace hc_ := of_decide_eq_false hc_ | replace hc_ := of_decide_eq_false (Eq.mp (Bool.not_eq_true' _) hc_) | replace hc_ := of_decide_eq_true (Eq.mp (Bool.not_eq_false' _) hc_) | skip)))
              all_goals (refine op ?_; try (first | refine dr3 ?_ | refine dr4 ?_))
              all_goals (refine csp rfl ?_ ?_ <;> intro hc2_ <;> first | (cases hc2_; done) | skip)
              all_goals (refine op ?_; try (first | refine dr3 ?_ | refine dr4 ?_))
              all_goals (try ((refine rn T 99 [] ?_; try (first | refine dr3 ?_ | refine dr4 ?_)); (rw [show tkH (hasS ns) ⟨2, m, s, p, l⟩ = false from by rw [tkH_2]; refine Bool.eq_false_iff.2 (fun hq => ?_); simp only [Bool.and_eq_true, decide_eq_true_eq] at hq; first | (simp_all; done) | (simp_all; omega)]); (exact ⟨[_], ⟨_, _, rfl, .inl rfl, rfl⟩, .p, rfl⟩); done))
              refine rn T 99 [] ?_; try (first | refine dr3 ?_ | refine dr4 ?_)
              refine rn T 99 [] ?_; try (first | refine dr3 ?_ | refine dr4 ?_)
              refine cfs ?_; try (first | refine dr3 ?_ | refine dr4 ?_)
              refine rn T 99 [] ?_; try (first | refine dr3 ?_ | refine dr4 ?_)
              refine cts ?_; try (first | refine dr3 ?_ | refine dr4 ?_)
              have hc := has1 G ns s hl
              refine rn T 99 [] ?_; try (first | refine dr3 ?_ | refine dr4 ?_)
              cases hb : hasS ns s with
              | true =>
                rw [hb] at hc
                refine pcs (hc) ?_; try (first | refine dr3 ?_ | refine dr4 ?_)
                refine rn T 99 [] ?_; try (first | refine dr3 ?_ | refine dr4 ?_)
                rw [show tkH (hasS ns) ⟨2, m, s, p, l⟩ = (((l.map eM).length : Int) == 0) by have e : decide (l.length = 0) = (((l.map eM).length : Int) == 0) := (by rw [Bool.eq_iff_iff]; simp <;> omega); rw [← e, tkH_2]; simp_all]
                exact ⟨[_], ⟨_, _, rfl, .inl rfl, rfl⟩, .p, rfl⟩
              | false =>
                rw [hb] at hc
                refine pcs (hc) ?_; try (first | refine dr3 ?_ | refine dr4 ?_)
                refine rn T 99 [] ?_; try (first | refine dr3 ?_ | refine dr4 ?_)
                rw [show tkH (hasS ns) ⟨2, m, s, p, l⟩ = false from by rw [tkH_2]; refine Bool.eq_false_iff.2 (fun hq => ?_); simp only [Bool.and_eq_true, decide_eq_true_eq] at hq; first | (simp_all; done) | (simp_all; omega)]
                exact ⟨[_], ⟨_, _, rfl, .inl rfl, rfl⟩, .p, rfl⟩
            by_cases k7 : k = 7
            · subst k7
              refine rn T 99 [] ?_; try (first | refine dr3 ?_ | refine dr4 ?_)
              repeat' (first | (with_reducible refine n16 ?_) | (with_reducible refine EOps.ci ?_; first | refine EOps.one T [] rfl (by first | exact True.intro | exact ⟨True.intro, True.intro⟩) ?_ | (refine EOps.sp rfl ?_ ?_ <;> intro hc_ <;> rw [hc_] <;> first | replace hc_ := of_decide_eq_true hc_ | replace hc_ := of_decide_eq_false hc_ | replace hc_ := of_decide_eq_false (Eq.mp (Bool.not_eq_true' _) hc_) | replace hc_ := of_decide_eq_true (Eq.mp (Bool.not_eq_false' _) hc_) | skip)))
              all_goals (refine op ?_; try (first | refine dr3 ?_ | refine dr4 ?_))
              all_goals (refine csp rfl ?_ ?_ <;> intro hc2_ <;> first | (cases hc2_; done) | skip)
              all_goals (refine op ?_; try (first | refine dr3 ?_ | refine dr4 ?_))
              all_goals (try ((refine rn T 99 [] ?_; try (first | refine dr3 ?_ | refine dr4 ?_)); (rw [show tkH (hasS ns) ⟨7, m, s, p, l⟩ = false from by rw [tkH_7]; refine Bool.eq_false_iff.2 (fun hq => ?_); simp only [Bool.and_eq_true, decide_eq_true_eq] at hq; first | (simp_all; done) | (simp_all; omega)]); (exact ⟨[_], ⟨_, _, rfl, .inl rfl, rfl⟩, .p, rfl⟩); done))
              refine rn T 99 [] ?_; try (first | refine dr3 ?_ | refine dr4 ?_)
              refine rn T 99 [] ?_; try (first | refine dr3 ?_ | refine dr4 ?_)
              refine cfs ?_; try (first | refine dr3 ?_ | refine dr4 ?_)
              refine rn T 99 [] ?_; try (first | refine dr3 ?_ | refine dr4 ?_)
              refine cfs ?_; try (first | refine dr3 ?_ | refine dr4 ?_)
              refine rn T 99 [] ?_; try (first | refine dr3 ?_ | refine dr4 ?_)
              refine cts ?_; try (first | refine dr3 ?_ | refine dr4 ?_)
              refine rn T 99 [] ?_; try (first | refine dr3 ?_ | refine dr4 ?_)
              rw [show tkH (hasS ns) ⟨7, m, s, p, l⟩ = (((l.map eM).length : Int) == 1) by have e : decide (l.length = 1) = (((l.map eM).length : Int) == 1) := (by rw [Bool.eq_iff_iff]; simp <;> omega); rw [← e, tkH_7]; simp_all]
              exact ⟨[_], ⟨_, _, rfl, .inl rfl, rfl⟩, .p, rfl⟩
            by_cases k8 : k = 8
            · subst k8
              refine rn T 99 [] ?_; try (first | refine dr3 ?_ | refine dr4 ?_)
              repeat' (first | (with_reducible refine n16 ?_) | (with_reducible refine EOps.ci ?_; first | refine EOps.one T [] rfl (by first | exact True.intro | exact ⟨True.intro, True.intro⟩) ?_ | (refine EOps.sp rfl ?_ ?_ <;> intro hc_ <;> rw [hc_] <;> first | replace hc_ := of_decide_eq_true hc_ | replace hc_ := of_decide_eq_false hc_ | replace hc_ := of_decide_eq_false (Eq.mp (Bool.not_eq_true' _) hc_) | replace hc_ := of_decide_eq_true (Eq.mp (Bool.not_eq_false' _) hc_) | skip)))
              all_goals (refine op ?_; try (first | refine dr3 ?_ | refine dr4 ?_))
              all_goals (refine csp rfl ?_ ?_ <;> intro hc2_ <;> first | (cases hc2_; done) | skip)
              all_goals (refine op ?_; try (first | refine dr3 ?_ | refine dr4 ?_))
              all_goals (try ((refine rn T 99 [] ?_; try (first | refine dr3 ?_ | refine dr4 ?_)); (rw [show tkH (hasS ns) ⟨8, m, s, p, l⟩ = false from by rw [tkH_8]; refine Bool.eq_false_iff.2 (fun hq => ?_); simp only [Bool.and_eq_true, decide_eq_true_eq] at hq; first | (simp_all; done) | (simp_all; omega)]); (exact ⟨[_], ⟨_, _, rfl, .inl rfl, rfl⟩, .p, rfl⟩); done))
              refine rn T 99 [] ?_; try (first | refine dr3 ?_ | refine dr4 ?_)
              refine rn T 99 [] ?_; try (first | refine dr3 ?_ | refine dr4 ?_)
              refine cfs ?_; try (first | refine dr3 ?_ | refine dr4 ?_)
              refine rn T 99 [] ?_; try (first | refine dr3 ?_ | refine dr4 ?_)
              refine cfs ?_; try (first | refine dr3 ?_ | refine dr4 ?_)
              refine rn T 99 [] ?_; try (first | refine dr3 ?_ | refine dr4 ?_)
              refine cfs ?_; try (first | refine dr3 ?_ | refine dr4 ?_)
              have hc := l6In G 8 3 8
              refine rn T 99 [] ?_; try (first | refine dr3 ?_ | refine dr4 ?_)
              refine pcs (hc) ?_; try (first | refine dr3 ?_ | refine dr4 ?_)
              refine rn T 99 [] ?_; try (first | refine dr3 ?_ | refine dr4 ?_)
              rw [show tkH (hasS ns) ⟨8, m, s, p, l⟩ = (((l.map eM).length : Int) == 2) by have e : decide (l.length = 2) = (((l.map eM).length : Int) == 2) := (by rw [Bool.eq_iff_iff]; simp <;> omega); rw [← e, tkH_8]; simp_all]
              exact ⟨[_], ⟨_, _, rfl, .inl rfl, rfl⟩, .p, rfl⟩
            by_cases k3 : k = 3 ∨ k = 4 ∨ k = 5 ∨ k = 6
            · rcases k3 with rfl | rfl | rfl | rfl
              · refine rn T 99 [] ?_; try (first | refine dr3 ?_ | refine dr4 ?_)
                repeat' (first | (with_reducible refine n16 ?_) | (with_reducible refine EOps.ci ?_; first | refine EOps.one T [] rfl (by first | exact True.intro | exact ⟨True.intro, True.intro⟩) ?_ | (refine EOps.sp rfl ?_ ?_ <;> intro hc_ <;> rw [hc_] <;> first | replace hc_ := of_decide_eq_true hc_ | replace hc_ := of_decide_eq_false hc_ | replace hc_ := of_decide_eq_false (Eq.mp (Bool.not_eq_true' _) hc_) | replace hc_ := of_decide_eq_true (Eq.mp (Bool.not_eq_false' _) hc_) | skip)))
                all_goals (refine op ?_; try (first | refine dr3 ?_ | refine dr4 ?_))
                all_goals (refine csp rfl ?_ ?_ <;> intro hc2_ <;> first | (cases hc2_; done) | skip)
                all_goals (refine op ?_; try (first | refine dr3 ?_ | refine dr4 ?_))
                all_goals (try ((refine rn T 99 [] ?_; try (first | refine dr3 ?_ | refine dr4 ?_)); (rw [show tkH (hasS ns) ⟨3, m, s, p, l⟩ = false from by rw [tkH_3 _ _ _ _ _ _ (by simp)]; refine Bool.eq_false_iff.2 (fun hq => ?_); simp only [Bool.and_eq_true, decide_eq_true_eq] at hq; first | (simp_all; done) | (simp_all; omega)]); (exact ⟨[_], ⟨_, _, rfl, .inl rfl, rfl⟩, .p, rfl⟩); done))
                refine rn T 99 [] ?_; try (first | refine dr3 ?_ | refine dr4 ?_)
                refine rn T 99 [] ?_; try (first | refine dr3 ?_ | refine dr4 ?_)
                refine cfs ?_; try (first | refine dr3 ?_ | refine dr4 ?_)
                refine rn T 99 [] ?_; try (first | refine dr3 ?_ | refine dr4 ?_)
                refine cfs ?_; try (first | refine dr3 ?_ | refine dr4 ?_)
                refine rn T 99 [] ?_; try (first | refine dr3 ?_ | refine dr4 ?_)
                refine cfs ?_; try (first | refine dr3 ?_ | refine dr4 ?_)
                have hc := l6In G 3 3 8
                refine rn T 99 [] ?_; try (first | refine dr3 ?_ | refine dr4 ?_)
                refine pcs (hc) ?_; try (first | refine dr3 ?_ | refine dr4 ?_)
                refine rn T 99 [] ?_; try (first | refine dr3 ?_ | refine dr4 ?_)
                rw [show tkH (hasS ns) ⟨3, m, s, p, l⟩ = (((l.map eM).length : Int) == 2) by have e : decide (l.length = 2) = (((l.map eM).length : Int) == 2) := (by rw [Bool.eq_iff_iff]; simp <;> omega); rw [← e, tkH_3 _ _ _ _ _ _ (by simp)]; simp_all]
                exact ⟨[_], ⟨_, _, rfl, .inl rfl, rfl⟩, .p, rfl⟩
              · refine rn T 99 [] ?_; try (first | refine dr3 ?_ | refine dr4 ?_)
                repeat' (first | (with_reducible refine n16 ?_) | (with_reducible refine EOps.ci ?_; first | refine EOps.one T [] rfl (by first | exact True.intro | exact ⟨True.intro, True.intro⟩) ?_ | (refine EOps.sp rfl ?_ ?_ <;> intro hc_ <;> rw [hc_] <;> first | replace hc_ := of_decide_eq_true hc_ | replace hc_ := of_decide_eq_false hc_ | replace hc_ := of_decide_eq_false (Eq.mp (Bool.not_eq_true' _) hc_) | replace hc_ := of_decide_eq_true (Eq.mp (Bool.not_eq_false' _) hc_) | skip)))
                all_goals (refine op ?_; try (first | refine dr3 ?_ | refine dr4 ?_))
                all_goals (refine csp rfl ?_ ?_ <;> intro hc2_ <;> first | (cases hc2_; done) | skip)
                all_goals (refine op ?_; try (first | refine dr3 ?_ | refine dr4 ?_))
                all_goals (try ((refine rn T 99 [] ?_; try (first | refine dr3 ?_ | refine dr4 ?_)); (rw [show tkH (hasS ns) ⟨4, m, s, p, l⟩ = false from by rw [tkH_3 _ _ _ _ _ _ (by simp)]; refine Bool.eq_false_iff.2 (fun hq => ?_); simp only [Bool.and_eq_true, decide_eq_true_eq] at hq; first | (simp_all; done) | (simp_all; omega)]); (exact ⟨[_], ⟨_, _, rfl, .inl rfl, rfl⟩, .p, rfl⟩); done))
                refine rn T 99 [] ?_; try (first | refine dr3 ?_ | refine dr4 ?_)
                refine rn T 99 [] ?_; try (first | refine dr3 ?_ | refine dr4 ?_)
                refine cfs ?_; try (first | refine dr3 ?_ | refine dr4 ?_)
                refine rn T 99 [] ?_; try (first | refine dr3 ?_ | refine dr4 ?_)
                refine cfs ?_; try (first | refine dr3 ?_ | refine dr4 ?_)
                refine rn T 99 [] ?_; try (first | refine dr3 ?_ | refine dr4 ?_)
                refine cfs ?_; try (first | refine dr3 ?_ | refine dr4 ?_)
                have hc := l6In G 4 3 8
                refine rn T 99 [] ?_; try (first | refine dr3 ?_ | refine dr4 ?_)
                refine pcs (hc) ?_; try (first | refine dr3 ?_ | refine dr4 ?_)
                refine rn T 99 [] ?_; try (first | refine dr3 ?_ | refine dr4 ?_)
                rw [show tkH (hasS ns) ⟨4, m, s, p, l⟩ = (((l.map eM).length : Int) == 2) by have e : decide (l.length = 2) = (((l.map eM).length : Int) == 2) := (by rw [Bool.eq_iff_iff]; simp <;> omega); rw [← e, tkH_3 _ _ _ _ _ _ (by simp)]; simp_all]
                exact ⟨[_], ⟨_, _, rfl, .inl rfl, rfl⟩, .p, rfl⟩
              · refine rn T 99 [] ?_; try (first | refine dr3 ?_ | refine dr4 ?_)
                repeat' (first | (with_reducible refine n16 ?_) | (with_reducible refine EOps.ci ?_; first | refine EOps.one T [] rfl (by first | exact True.intro | exact ⟨True.intro, True.intro⟩) ?_ | (refine EOps.sp rfl ?_ ?_ <;> intro hc_ <;> rw [hc_] <;> first | replace hc_ := of_decide_eq_true hc_ | replace hc_ := of_decide_eq_false hc_ | replace hc_ := of_decide_eq_false (Eq.mp (Bool.not_eq_true' _) hc_) | replace hc_ := of_decide_eq_true (Eq.mp (Bool.not_eq_false' _) hc_) | skip)))
                all_goals (refine op ?_; try (first | refine dr3 ?_ | refine dr4 ?_))
                all_goals (refine csp rfl ?_ ?_ <;> intro hc2_ <;> first | (cases hc2_; done) | skip)
                all_goals (refine op ?_; try (first | refine dr3 ?_ | refine dr4 ?_))
                all_goals (try ((refine rn T 99 [] ?_; try (first | refine dr3 ?_ | refine dr4 ?_)); (rw [show tkH (hasS ns) ⟨5, m, s, p, l⟩ = false from by rw [tkH_3 _ _ _ _ _ _ (by simp)]; refine Bool.eq_false_iff.2 (fun hq => ?_); simp only [Bool.and_eq_true, decide_eq_true_eq] at hq; first | (simp_all; done) | (simp_all; omega)]); (exact ⟨[_], ⟨_, _, rfl, .inl rfl, rfl⟩, .p, rfl⟩); done))
                refine rn T 99 [] ?_; try (first | refine dr3 ?_ | refine dr4 ?_)
                refine rn T 99 [] ?_; try (first | refine dr3 ?_ | refine dr4 ?_)
                refine cfs ?_; try (first | refine dr3 ?_ | refine dr4 ?_)
                refine rn T 99 [] ?_; try (first | refine dr3 ?_ | refine dr4 ?_)
                refine cfs ?_; try (first | refine dr3 ?_ | refine dr4 ?_)
                refine rn T 99 [] ?_; try (first | refine dr3 ?_ | refine dr4 ?_)
                refine cfs ?_; try (first | refine dr3 ?_ | refine dr4 ?_)
                have hc := l6In G 5 3 8
                refine rn T 99 [] ?_; try (first | refine dr3 ?_ | refine dr4 ?_)
                refine pcs (hc) ?_; try (first | refine dr3 ?_ | refine dr4 ?_)
                refine rn T 99 [] ?_; try (first | refine dr3 ?_ | refine dr4 ?_)
                rw [show tkH (hasS ns) ⟨5, m, s, p, l⟩ = (((l.map eM).length : Int) == 2) by have e : decide (l.length = 2) = (((l.map eM).length : Int) == 2) := (by rw [Bool.eq_iff_iff]; simp <;> omega); rw [← e, tkH_3 _ _ _ _ _ _ (by simp)]; simp_all]
                exact ⟨[_], ⟨_, _, rfl, .inl rfl, rfl⟩, .p, rfl⟩
              · refine rn T 99 [] ?_; try (first | refine dr3 ?_ | refine dr4 ?_)
                repeat' (first | (with_reducible refine n16 ?_) | (with_reducible refine EOps.ci ?_; first | refine EOps.one T [] rfl (by first | exact True.intro | exact ⟨True.intro, True.intro⟩) ?_ | (refine EOps.sp rfl ?_ ?_ <;> intro hc_ <;> rw [hc_] <;> first | replace hc_ := of_decide_eq_true hc_ | replace hc_ := of_decide_eq_false hc_ | replace hc_ := of_decide_eq_false (Eq.mp (Bool.not_eq_true' _) hc_) | replace hc_ := of_decide_eq_true (Eq.mp (Bool.not_eq_false' _) hc_) | skip)))
                all_goals (refine op ?_; try (first | refine dr3 ?_ | refine dr4 ?_))
                all_goals (refine csp rfl ?_ ?_ <;> intro hc2_ <;> first | (cases hc2_; done) | skip)
                all_goals (refine op ?_; try (first | refine dr3 ?_ | refine dr4 ?_))
                all_goals (try ((refine rn T 99 [] ?_; try (first | refine dr3 ?_ | refine dr4 ?_)); (rw [show tkH (hasS ns) ⟨6, m, s, p, l⟩ = false from by rw [tkH_3 _ _ _ _ _ _ (by simp)]; refine Bool.eq_false_iff.2 (fun hq => ?_); simp only [Bool.and_eq_true, decide_eq_true_eq] at hq; first | (simp_all; done) | (simp_all; omega)]); (exact ⟨[_], ⟨_, _, rfl, .inl rfl, rfl⟩, .p, rfl⟩); done))
                refine rn T 99 [] ?_; try (first | refine dr3 ?_ | refine dr4 ?_)
                refine rn T 99 [] ?_; try (first | refine dr3 ?_ | refine dr4 ?_)
                refine cfs ?_; try (first | refine dr3 ?_ | refine dr4 ?_)
                refine rn T 99 [] ?_; try (first | refine dr3 ?_ | refine dr4 ?_)
                refine cfs ?_; try (first | refine dr3 ?_ | refine dr4 ?_)
                refine rn T 99 [] ?_; try (first | refine dr3 ?_ | refine dr4 ?_)
                refine cfs ?_; try (first | refine dr3 ?_ | refine dr4 ?_)
                have hc := l6In G 6 3 8
                refine rn T 99 [] ?_; try (first | refine dr3 ?_ | refine dr4 ?_)
                refine pcs (hc) ?_; try (first | refine dr3 ?_ | refine dr4 ?_)
                refine rn T 99 [] ?_; try (first | refine dr3 ?_ | refine dr4 ?_)
                rw [show tkH (hasS ns) ⟨6, m, s, p, l⟩ = (((l.map eM).length : Int) == 2) by have e : decide (l.length = 2) = (((l.map eM).length : Int) == 2) := (by rw [Bool.eq_iff_iff]; simp <;> omega); rw [← e, tkH_3 _ _ _ _ _ _ (by simp)]; simp_all]
                exact ⟨[_], ⟨_, _, rfl, .inl rfl, rfl⟩, .p, rfl⟩
            rw [show tkH (hasS ns) ⟨k, m, s, p, l⟩ = false from tkH_o _ _ _ _ _ _ k1 k2 k3 k7 k8]
            have hc : PF Tryd.prog G 34 [pi k, pi 3, pi 8] (.p (pb false)) := by
              have := l6In G k 3 8
              rwa [show (decide (k ≥ 3) && decide (k ≤ 8)) = false by rw [Bool.eq_false_iff]; intro hq; simp at hq; omega] at this
            repeat' (first | (with_reducible refine n16 ?_) | (with_reducible refine EOps.ci ?_; first | refine EOps.one T [] rfl (by first | exact True.intro | exact ⟨True.intro, True.intro⟩) ?_ | (refine EOps.sp rfl ?_ ?_ <;> intro hc_ <;> rw [hc_] <;> first | replace hc_ := of_decide_eq_true hc_ | replace hc_ := of_decide_eq_false hc_ | replace hc_ := of_decide_eq_false (Eq.mp (Bool.not_eq_true' _) hc_) | replace hc_ := of_decide_eq_true (Eq.mp (Bool.not_eq_false' _) hc_) | skip)))
            all_goals (try (exfalso; simp_all; done))
            all_goals (refine op ?_; try (first | refine dr3 ?_ | refine dr4 ?_))
            all_goals (repeat' (first | (with_reducible refine n16 ?_) | (with_reducible refine EOps.ci ?_; first | refine EOps.one T [] rfl (by first | exact True.intro | exact ⟨True.intro, True.intro⟩) ?_ | (refine EOps.sp rfl ?_ ?_ <;> intro hc_ <;> rw [hc_] <;> first | replace hc_ := of_decide_eq_true hc_ | replace hc_ := of_decide_eq_false hc_ | replace hc_ := of_decide_eq_false (Eq.mp (Bool.not_eq_true' _) hc_) | replace hc_ := of_decide_eq_true (Eq.mp (Bool.not_eq_false' _) hc_) | skip))))
            all_goals (try (exfalso; simp_all; done))
            all_goals (refine op ?_; try (first | refine dr3 ?_ | refine dr4 ?_))
            all_goals (refine csp rfl ?_ ?_ <;> intro hc2_ <;> first | (cases hc2_; done) | skip)
            all_goals (refine op ?_; try (first | refine dr3 ?_ | refine dr4 ?_))
            all_goals (try ((refine rn T 99 [] ?_; try (first | refine dr3 ?_ | refine dr4 ?_)); (exact ⟨[_], ⟨_, _, rfl, .inl rfl, rfl⟩, .p, rfl⟩); done))
            all_goals (refine rn T 99 [] ?_; try (first | refine dr3 ?_ | refine dr4 ?_))
            all_goals (refine rn T 99 [] ?_; try (first | refine dr3 ?_ | refine dr4 ?_))
            all_goals (refine cfq rfl (by simp [k1]) ?_; try (first | refine dr3 ?_ | refine dr4 ?_))
            all_goals (refine rn T 99 [] ?_; try (first | refine dr3 ?_ | refine dr4 ?_))
            all_goals (refine cfq rfl (by simp [k2]) ?_; try (first | refine dr3 ?_ | refine dr4 ?_))
            all_goals (refine rn T 99 [] ?_; try (first | refine dr3 ?_ | refine dr4 ?_))
            all_goals (refine cfq rfl (by simp [k7]) ?_; try (first | refine dr3 ?_ | refine dr4 ?_))
            all_goals (refine rn T 99 [] ?_; try (first | refine dr3 ?_ | refine dr4 ?_))
            all_goals (refine pcs (hc) ?_; try (first | refine dr3 ?_ | refine dr4 ?_))
            all_goals (refine rn T 99 [] ?_; try (first | refine dr3 ?_ | refine dr4 ?_))
            all_goals (exact ⟨[_], ⟨_, _, rfl, .inl rfl, rfl⟩, .p, rfl⟩)
      · refine rn T 5 [] ?_; try (first | refine dr3 ?_ | refine dr4 ?_)
        rw [show decide (((l.map eM).length : Int) > 2) = false by simp; omega]
        refine rn T 99 [] ?_; try (first | refine dr3 ?_ | refine dr4 ?_)
        refine ctq rfl (by simp; omega) ?_; try (first | refine dr3 ?_ | refine dr4 ?_)
        refine rn T 99 [] ?_; try (first | refine dr3 ?_ | refine dr4 ?_)
        rw [show tk (hasS ns) (n + 1) ⟨k, m, s, p, l⟩ = false by rw [tk_eq]; cases h : tkH (hasS ns) ⟨k, m, s, p, l⟩ with | false => rfl | true => have := (tkH_sz h).2; unfold pathB at this; simp at this; omega]
        exact ⟨[_], ⟨_, _, rfl, .inl rfl, rfl⟩, .p, rfl⟩
    · refine rn T 5 [] ?_; try (first | refine dr3 ?_ | refine dr4 ?_)
      rw [show decide (((l.map eM).length : Int) > 2) = true by simp; omega]
      refine rn T 99 [] ?_; try (first | refine dr3 ?_ | refine dr4 ?_)
      refine cts ?_; try (first | refine dr3 ?_ | refine dr4 ?_)
      refine rn T 99 [] ?_; try (first | refine dr3 ?_ | refine dr4 ?_)
      rw [show tk (hasS ns) (n + 1) ⟨k, m, s, p, l⟩ = false by rw [tk_eq]; cases h : tkH (hasS ns) ⟨k, m, s, p, l⟩ with | false => rfl | true => exact absurd (tkH_sz h).1 hl2]
      exact ⟨[_], ⟨_, _, rfl, .inl rfl, rfl⟩, .p, rfl⟩
end Go.Proofs.YtjacjidomopmaaaDoor.K
end
section
namespace Go.Proofs.YtjacjidomopmaaaDoor.K
open Go Go.RowKit Go.Proofs.YtjacjidomopmaaaDoor.En Go.Proofs.YtjacjidomopmaaaDoor.Ty Go.Proofs.YtjacjidomopmaaaDoor.B
set_option maxRecDepth 100000
set_option linter.unusedSimpArgs false
set_option linter.unusedVariables false
set_option pp.deepTerms false
set_option pp.deepTerms.threshold 8
set_option pp.maxSteps 1000
set_option maxHeartbeats 1000000
def ntF (pre : List ByteArray) : List ByteArray → List Tn → Bool
  | x :: r, t :: q => (pw x && !hasS pre x && dp 4 t.f0) && ntF (pre ++ [x]) r q
  | _, _ => true
theorem ntF_eq : ∀ (ns : List ByteArray) (ts : List Tn) (pre : List ByteArray), ns.length = ts.length → ntF pre ns ts = (nsF pre ns && ts.all fun t => dp 4 t.f0)
  | [], [], pre, _ => rfl
  | [], _ :: _, _, h => by cases h
  | _ :: _, [], _, h => by cases h
  | x :: r, t :: q, pre, h => by
    unfold ntF nsF
    rw [ntF_eq r q _ (by simpa using h), List.all_cons]
    cases pw x <;> cases hasS pre x <;> cases dp 4 t.f0 <;> simp
theorem nsF_pw : ∀ (l pre : List ByteArray), nsF pre l = true → ∀ x ∈ l, pw x = true
  | [], _, _, x, hx => by cases hx
  | y :: l, pre, h, x, hx => by
    unfold nsF at h
    simp only [Bool.and_eq_true] at h
    rcases List.mem_cons.1 hx with rfl | hx
    · exact h.1.1
    · exact nsF_pw l _ h.2 x hx
theorem nm_eq {ns : List ByteArray} (h : nsB ns = true) : (fun s => pw s && hasS ns s) = hasS ns := by
  unfold nsB at h
  rw [Bool.and_eq_true] at h
  funext s
  cases hs : hasS ns s with
  | false => rw [Bool.and_false]
  | true =>
    unfold hasS at hs
    obtain ⟨x, hx, e⟩ := List.any_eq_true.1 hs
    rw [bq_eq.1 e, nsF_pw ns [] h.2 x hx]
    rfl
theorem look_app (a b : List (ByteArray × Ty)) (s : ByteArray) : look (a ++ b) s = (look a s).or (look b s) := by
  unfold look
  rw [List.find?_append]
  cases List.find? (fun p => s == p.1) a <;> rfl
theorem look_none {ns : List ByteArray} {ts : List Tn} {i : Nat} {s : ByteArray} (hl : ns.length = ts.length) (h : hasS (ns.take i) s = false) : look ((zipE ns ts).take i) s = none := by
  unfold look
  rw [Option.map_eq_none_iff, List.find?_eq_none]
  intro q hq
  have h3 := List.mem_map_of_mem (f := Prod.fst) hq
  rw [List.map_take, List.map_fst_zip (by simp [hl])] at h3
  unfold hasS at h
  rw [List.any_eq_false] at h
  exact h _ h3
theorem gl_look {ns : List ByteArray} {ts : List Tn} (h : nsB ns = true) (hl : ns.length = ts.length) (s : ByteArray) : ∀ m, m ≤ ns.length → gl ns ts s m = look ((zipE ns ts).take m) s
  | 0, _ => rfl
  | m + 1, hm => by
    have hx : ns[m]? = some (ns[m]'(by omega)) := List.getElem?_eq_getElem _
    have hy : ts[m]? = some (ts[m]'(by omega)) := List.getElem?_eq_getElem _
    generalize ns[m]'(by omega) = x at hx
    generalize ts[m]'(by omega) = u at hy
    have hz : (zipE ns ts)[m]? = some (x, u.f0) := by
      rw [List.getElem?_zip_eq_some]; exact ⟨hx, by rw [List.getElem?_map, hy]; rfl⟩
    rw [gl, hx, hy, List.take_add_one, hz, look_app, gl_look h hl s m (by omega)]
    simp only [Option.toList]
    cases hv : (x == s) with
    | true =>
      unfold nsB at h
      rw [Bool.and_eq_true] at h
      have h1 := nsF_ix ns [] h.2 m x hx
      rw [bq_eq.1 hv, List.nil_append] at h1
      rw [if_pos rfl, look_none hl h1]
      unfold look
      rw [List.find?_cons, bq_symm, hv]
      rfl
    | false =>
      rw [if_neg (by simp)]
      have : look [(x, u.f0)] s = none := by unfold look; rw [List.find?_cons, bq_symm, hv]; rfl
      rw [this, Option.or_none]
theorem env_eq {ns : List ByteArray} {ts : List Tn} (h : nsB ns = true) (hl : ns.length = ts.length) : envS ns ts = envM (zipE ns ts) := by
  funext s
  unfold envS envM
  rw [gl_look h hl s _ (Nat.le_refl _), List.take_of_length_le (by simp; omega)]
theorem kindTerm1 (G : Nat → Option PV) (ns : List ByteArray) (ts : List Tn) (t : Mn) (hb : ns.length ≤ 1000) :
    FC Tryd.prog G 7 [.p (.row 1 (ns.map ps)), .p (.row 1 (ts.map eT)), .p (pm t)] [] (fun r H' => r = .tp [.p (pt ((KT ns ts t).getD [])), .p (pb (KT ns ts t).isSome)]) := by
  obtain ⟨k, m0, s, p, l⟩ := t
  show FC _ _ _ [_, _, .p (.ag [pi k, pi m0, ps s, .row 1 (p.map pi), .row 5 (l.map eM)])] _ _
  refine bdy Tryd.func7 (fun d => if d = 65 then 1 else 0) rfl ?_; try (first | refine dr3 ?_ | refine dr4 ?_)
  refine rn T 99 [] ?_; try (first | refine dr3 ?_ | refine dr4 ?_)
  refine rn T 99 [] ?_; try (first | refine dr3 ?_ | refine dr4 ?_)
  refine rn T 5 [] ?_; try (first | refine dr3 ?_ | refine dr4 ?_)
  by_cases h2 : ns.length = ts.length
  · rw [show (((ns.map ps).length : Int) != ((ts.map eT).length : Int)) = false by simp [h2]]
    by_cases h60 : ns.length ≤ 60
    · refine rn T 5 [] ?_; try (first | refine dr3 ?_ | refine dr4 ?_)
      rw [show decide (((ns.map ps).length : Int) > 60) = false by simp; omega]
      have c1 := term12 G ns hb 8 (by omega) ⟨k, m0, s, p, l⟩
      refine rn T 99 [] ?_; try (first | refine dr3 ?_ | refine dr4 ?_)
      cases h5 : tk (hasS ns) 8 ⟨k, m0, s, p, l⟩ with
      | false =>
        rw [h5] at c1
        refine pcs (c1) ?_; try (first | refine dr3 ?_ | refine dr4 ?_)
        refine rn T 99 [] ?_; try (first | refine dr3 ?_ | refine dr4 ?_)
        refine cts ?_; try (first | refine dr3 ?_ | refine dr4 ?_)
        refine rn T 99 [] ?_; try (first | refine dr3 ?_ | refine dr4 ?_)
        have hk : KT ns ts ⟨k, m0, s, p, l⟩ = none := by unfold KT; rw [if_neg]; rintro ⟨h, _, _, h9⟩; rw [nm_eq h, h5] at h9; cases h9
        rw [hk]
        exact rt2 T (pt []) (pb false) rfl
      | true =>
        rw [h5] at c1
        refine pcs (c1) ?_; try (first | refine dr3 ?_ | refine dr4 ?_)
        refine rn T 99 [] ?_; try (first | refine dr3 ?_ | refine dr4 ?_)
        refine cfs ?_; try (first | refine dr3 ?_ | refine dr4 ?_)
        refine rn T 99 [] ?_; try (first | refine dr3 ?_ | refine dr4 ?_)
        refine lpw (fun i : Nat => MS.mk [(9, .p (pi i)), (0, .p (.row 1 (ns.map ps))), (1, .p (.row 1 (ts.map eT))), (5, .ptr (.L 5) 0), (6, .ptr (.L 6) 0), (8, .ptr (.L 8) 0)] 77 [(5, .box 28 [.p (pi k), .p (pi m0), .p (ps s), .p (.row 1 (p.map pi)), .p (.row 5 (l.map eM))]), (6, .box 32 [.nil]), (8, .box 32 [.nil])] []) (fun m i => m + i = ns.length ∧ ntF (ns.take i) (ns.drop i) (ts.drop i) = ntF [] ns ts) (ns.length) (0) (by simp) ?_
        intro m i ⟨h3, h4⟩
        refine op ?_; try (first | refine dr3 ?_ | refine dr4 ?_)
        refine rn T 99 [] ?_; try (first | refine dr3 ?_ | refine dr4 ?_)
        by_cases hi : i < ns.length
        · obtain ⟨x, hx, hd⟩ := drop_ix hi
          obtain ⟨u, hu, hd2⟩ := drop_ix (l := ts) (h2 ▸ hi)
          rw [hd, hd2, ntF] at h4
          refine ctq rfl (by simp [hi]) ?_; try (first | refine dr3 ?_ | refine dr4 ?_)
          have cw := word1 G x
          have ch := has1 G (ns.take i) x (by simp; omega)
          have ck := ok1 G u.f0
          refine rn T 99 [ps x] ?_; try (first | refine dr3 ?_ | refine dr4 ?_)
          cases hw : pw x with
          | false =>
            rw [hw] at cw h4
            refine pcs (cw) ?_; try (first | refine dr3 ?_ | refine dr4 ?_)
            refine rn T 99 [] ?_; try (first | refine dr3 ?_ | refine dr4 ?_)
            refine cts ?_; try (first | refine dr3 ?_ | refine dr4 ?_)
            refine rn T 99 [] ?_; try (first | refine dr3 ?_ | refine dr4 ?_)
            have hk : KT ns ts ⟨k, m0, s, p, l⟩ = none := by unfold KT; rw [if_neg]; rintro ⟨h, _, h9, _⟩; unfold nsB at h; rw [Bool.and_eq_true] at h; rw [ntF_eq ns ts [] h2, h.2, h9] at h4; simp at h4
            rw [hk]
            exact rt2 T (pt []) (pb false) rfl
          | true =>
            rw [hw] at cw h4
            refine pcs (cw) ?_; try (first | refine dr3 ?_ | refine dr4 ?_)
            refine rn T 99 [ps x] ?_; try (first | refine dr3 ?_ | refine dr4 ?_)
            cases hh : hasS (ns.take i) x with
            | true =>
              rw [hh] at ch h4
              refine pqs (ch) ?_; try (first | refine dr3 ?_ | refine dr4 ?_)
              refine rn T 99 [] ?_; try (first | refine dr3 ?_ | refine dr4 ?_)
              refine cts ?_; try (first | refine dr3 ?_ | refine dr4 ?_)
              refine rn T 99 [] ?_; try (first | refine dr3 ?_ | refine dr4 ?_)
              have hk : KT ns ts ⟨k, m0, s, p, l⟩ = none := by unfold KT; rw [if_neg]; rintro ⟨h, _, h9, _⟩; unfold nsB at h; rw [Bool.and_eq_true] at h; rw [ntF_eq ns ts [] h2, h.2, h9] at h4; simp at h4
              rw [hk]
              exact rt2 T (pt []) (pb false) rfl
            | false =>
              rw [hh] at ch h4
              refine pqs (ch) ?_; try (first | refine dr3 ?_ | refine dr4 ?_)
              refine rn T 99 [pt u.f0] ?_; try (first | refine dr3 ?_ | refine dr4 ?_)
              cases ho : dp 4 u.f0 with
              | false =>
                rw [ho] at ck h4
                refine pcs (ck) ?_; try (first | refine dr3 ?_ | refine dr4 ?_)
                refine rn T 99 [] ?_; try (first | refine dr3 ?_ | refine dr4 ?_)
                refine cts ?_; try (first | refine dr3 ?_ | refine dr4 ?_)
                refine rn T 99 [] ?_; try (first | refine dr3 ?_ | refine dr4 ?_)
                have hk : KT ns ts ⟨k, m0, s, p, l⟩ = none := by unfold KT; rw [if_neg]; rintro ⟨h, _, h9, _⟩; unfold nsB at h; rw [Bool.and_eq_true] at h; rw [ntF_eq ns ts [] h2, h.2, h9] at h4; simp at h4
                rw [hk]
                exact rt2 T (pt []) (pb false) rfl
              | true =>
                rw [ho] at ck h4
                refine pcs (ck) ?_; try (first | refine dr3 ?_ | refine dr4 ?_)
                refine rn T 99 [] ?_; try (first | refine dr3 ?_ | refine dr4 ?_)
                refine cfs ?_; try (first | refine dr3 ?_ | refine dr4 ?_)
                refine rn T 99 [] ?_; try (first | refine dr3 ?_ | refine dr4 ?_)
                rw [wkS (by omega)]
                refine nxt (m - 1) (i + 1) (⟨by omega, by rw [← h4, take_app hx]; simp⟩)
        · refine cfq rfl (by simp [hi]) ?_; try (first | refine dr3 ?_ | refine dr4 ?_)
          refine rn T 99 [] ?_; try (first | refine dr3 ?_ | refine dr4 ?_)
          have hnt : ntF [] ns ts = true := by rw [← h4, show ns.drop i = [] from List.drop_eq_nil_of_le (by omega)]; simp [ntF]
          rw [ntF_eq ns ts [] h2, Bool.and_eq_true] at hnt
          have hB : nsB ns = true := by unfold nsB; rw [hnt.1, decide_eq_true h60]; rfl
          have hk : KT ns ts ⟨k, m0, s, p, l⟩ = kd (envM (zipE ns ts)) 8 ⟨k, m0, s, p, l⟩ := by unfold KT; rw [if_pos ⟨hB, h2, hnt.2, by rw [nm_eq hB]; exact h5⟩]
          rw [hk]
          have he := env_eq hB h2
          have c2 := term1 G ns ts h2 h60 (fun s => by rw [he]; exact look_dp ns ts hnt.2 s) (hasS ns) (fun s hs => by rw [gl_look hB h2 s _ (Nat.le_refl _), List.take_of_length_le (by simp; omega), look_has ns ts h2]; exact hs) 8 _ h5
          rw [he] at c2
          refine rn T 99 [] ?_; try (first | refine dr3 ?_ | refine dr4 ?_)
          cases h6 : kd (envM (zipE ns ts)) 8 ⟨k, m0, s, p, l⟩ with
          | none =>
            rw [h6] at c2
            refine hes (c2) ?_; rintro _ _ ⟨V, rfl, hV, rfl⟩ _ _; refine op ?_; try (first | refine dr3 ?_ | refine dr4 ?_)
            refine rn T 99 [] ?_; try (first | refine dr3 ?_ | refine dr4 ?_)
            refine rn T 99 [] ?_; try (first | refine dr3 ?_ | refine dr4 ?_)
            refine cts ?_; try (first | refine dr3 ?_ | refine dr4 ?_)
            refine rn T 99 [] ?_; try (first | refine dr3 ?_ | refine dr4 ?_)
            exact rt2 T (pt []) (pb false) rfl
          | some v =>
            rw [h6] at c2
            refine hes (c2) ?_; rintro _ _ ⟨V, rfl, hV, rfl⟩ _ _; refine op ?_; try (first | refine dr3 ?_ | refine dr4 ?_)
            obtain rfl := hV v rfl
            refine rn T 99 [] ?_; try (first | refine dr3 ?_ | refine dr4 ?_)
            refine rn T 99 [] ?_; try (first | refine dr3 ?_ | refine dr4 ?_)
            refine cfs ?_; try (first | refine dr3 ?_ | refine dr4 ?_)
            refine rn T 99 [] ?_; try (first | refine dr3 ?_ | refine dr4 ?_)
            refine pcs (copy1 G 4 V (kd_dp _ (look_dp ns ts hnt.2) _ _ _ h6)) ?_; try (first | refine dr3 ?_ | refine dr4 ?_)
            refine rn T 99 [] ?_; try (first | refine dr3 ?_ | refine dr4 ?_)
            exact rt2 T (pt V) (pb true) rfl
    · refine rn T 5 [] ?_; try (first | refine dr3 ?_ | refine dr4 ?_)
      rw [show decide (((ns.map ps).length : Int) > 60) = true by simp; omega]
      refine rn T 99 [] ?_; try (first | refine dr3 ?_ | refine dr4 ?_)
      refine cts ?_; try (first | refine dr3 ?_ | refine dr4 ?_)
      refine rn T 99 [] ?_; try (first | refine dr3 ?_ | refine dr4 ?_)
      have hk : KT ns ts ⟨k, m0, s, p, l⟩ = none := by unfold KT; rw [if_neg]; rintro ⟨h, _⟩; unfold nsB at h; simp at h; omega
      rw [hk]
      exact rt2 T (pt []) (pb false) rfl
  · rw [show (((ns.map ps).length : Int) != ((ts.map eT).length : Int)) = true by simp; omega]
    refine rn T 99 [] ?_; try (first | refine dr3 ?_ | refine dr4 ?_)
    refine cts ?_; try (first | refine dr3 ?_ | refine dr4 ?_)
    refine rn T 99 [] ?_; try (first | refine dr3 ?_ | refine dr4 ?_)
    have hk : KT ns ts ⟨k, m0, s, p, l⟩ = none := by unfold KT; rw [if_neg]; rintro ⟨_, h, _⟩; exact h2 h
    rw [hk]
    exact rt2 T (pt []) (pb false) rfl
end Go.Proofs.YtjacjidomopmaaaDoor.K
end
section
namespace Go.Proofs.YtjacjidomopmaaaDoor.K
open Go Go.RowKit Go.Proofs.YtjacjidomopmaaaDoor.En Go.Proofs.YtjacjidomopmaaaDoor.Ty Go.Proofs.YtjacjidomopmaaaDoor.B
set_option maxRecDepth 100000
set_option linter.unusedSimpArgs false
set_option linter.unusedVariables false
set_option pp.deepTerms false
set_option pp.deepTerms.threshold 8
set_option pp.maxSteps 1000
theorem openC (G : Nat → Option PV) (l : List Int) (hl : ∀ x ∈ l, 0 ≤ x ∧ x ≤ 255) (hl2 : l.length ≤ 9223372036854775807) : FE Tryd.prog G 12 [.p (.row 1 (l.map pu))] [] (fun r H' => ∃ s, Bytes s ∧ r = .ptr (.S 0) 0 ∧ H' = [rdr s 0]) := by
  refine ⟨?_, _, _, ⟨[], ⟨by simp, by simp⟩, rfl, rfl⟩, .ptr trivial, hsh_rdr hsh_nil⟩
  refine bdy Tryd.func12 (fun d => if d = 10 then 1 else 0) rfl ?_; try (first | refine dr1 ?_ | refine dr2 ?_ | refine dr3 ?_ | refine dr4 ?_)
  refine rn T 99 [] ?_; try (first | refine dr1 ?_ | refine dr2 ?_ | refine dr3 ?_ | refine dr4 ?_)
  refine rn T 99 [] ?_; try (first | refine dr1 ?_ | refine dr2 ?_ | refine dr3 ?_ | refine dr4 ?_)
  by_cases h : l.length > 2000
  · refine ctq rfl (by simp; omega) ?_; try (first | refine dr1 ?_ | refine dr2 ?_ | refine dr3 ?_ | refine dr4 ?_)
    refine rn T 99 [] ?_; try (first | refine dr1 ?_ | refine dr2 ?_ | refine dr3 ?_ | refine dr4 ?_)
    refine rn T 99 [] ?_; try (first | refine dr1 ?_ | refine dr2 ?_ | refine dr3 ?_ | refine dr4 ?_)
    exact ⟨[_], ⟨_, _, rfl, .inl rfl, rfl⟩, .ptr trivial, l.take 2000, ⟨by simp; omega, fun x hx => hl x (List.mem_of_mem_take hx)⟩, rfl, by
      show _ = [AObj.box _ [.p (.row 1 ((l.take 2000).map pu)), .p (pi 0)]]
      rw [List.map_take]
      rfl⟩
  · refine cfq rfl (by simp; omega) ?_; try (first | refine dr1 ?_ | refine dr2 ?_ | refine dr3 ?_ | refine dr4 ?_)
    refine rn T 99 [] ?_; try (first | refine dr1 ?_ | refine dr2 ?_ | refine dr3 ?_ | refine dr4 ?_)
    exact ⟨[_], ⟨_, _, rfl, .inl rfl, rfl⟩, .ptr trivial, l, ⟨by omega, hl⟩, rfl, rfl⟩
theorem type71 (G : Nat → Option PV) (s : List Int) (hs : Bytes s) {H0 : List AObj} (hH : HSh H0) : ∀ (d : Nat), d ≤ 20 → ∀ (k : Int), 0 ≤ k → k + 2 ^ d ≤ 1099511627776 →
    FE Tryd.prog G 13 [.ptr (.S 0) 0, .p (pi d)] (rdr s k :: H0) (fun r H' => ∃ t k', dp (d + 1) t = true ∧ k ≤ k' ∧ k' ≤ k + 2 ^ d - 1 ∧ r = .p (pt t) ∧ H' = rdr s k' :: H0) := by
  intro d
  induction d with
  | zero =>
    intro _ k hk hk1
    refine ⟨?_, _, _, ⟨[], k, rfl, by omega, by omega, rfl, rfl⟩, .p, hsh_rdr hH⟩
    refine bdy Tryd.func13 (fun _ => 0) rfl ?_; try (first | refine dr1 ?_ | refine dr2 ?_ | refine dr3 ?_ | refine dr4 ?_)
    refine rn T 99 [] ?_; try (first | refine dr1 ?_ | refine dr2 ?_ | refine dr3 ?_ | refine dr4 ?_)
    refine rn T 99 [] ?_; try (first | refine dr1 ?_ | refine dr2 ?_ | refine dr3 ?_ | refine dr4 ?_)
    refine cts ?_; try (first | refine dr1 ?_ | refine dr2 ?_ | refine dr3 ?_ | refine dr4 ?_)
    refine rn T 99 [] ?_; try (first | refine dr1 ?_ | refine dr2 ?_ | refine dr3 ?_ | refine dr4 ?_)
    exact rt1 T (pt []) (⟨[], k, rfl, by omega, by omega, rfl, rfl⟩)
  | succ d ih =>
    intro hd k hk hk1
    have h2 : (2 : Int) ^ (d + 1) = 2 * 2 ^ d := by rw [Int.pow_succ]; omega
    have h3 : (1 : Int) ≤ 2 ^ d := by
      have : (0 : Int) < 2 ^ d := Int.pow_pos (by omega)
      omega
    refine ⟨?_, _, _, ⟨[], k, rfl, by omega, by omega, rfl, rfl⟩, .p, hsh_rdr hH⟩
    refine bdy Tryd.func13 (fun _ => 0) rfl ?_; try (first | refine dr1 ?_ | refine dr2 ?_ | refine dr3 ?_ | refine dr4 ?_)
    refine rn T 99 [] ?_; try (first | refine dr1 ?_ | refine dr2 ?_ | refine dr3 ?_ | refine dr4 ?_)
    refine rn T 3 [] ?_; try (first | refine dr1 ?_ | refine dr2 ?_ | refine dr3 ?_ | refine dr4 ?_)
    by_cases hd0 : d = 0
    · rw [show decide (((d + 1 : Nat) : Int) < 2) = true by simp; omega]
      refine rn T 99 [] ?_; try (first | refine dr1 ?_ | refine dr2 ?_ | refine dr3 ?_ | refine dr4 ?_)
      refine cts ?_; try (first | refine dr1 ?_ | refine dr2 ?_ | refine dr3 ?_ | refine dr4 ?_)
      refine rn T 99 [] ?_; try (first | refine dr1 ?_ | refine dr2 ?_ | refine dr3 ?_ | refine dr4 ?_)
      exact rt1 T (pt []) (⟨[], k, rfl, by omega, by omega, rfl, rfl⟩)
    · rw [show decide (((d + 1 : Nat) : Int) < 2) = false by simp; omega]
      refine rn T 99 [] ?_; try (first | refine dr1 ?_ | refine dr2 ?_ | refine dr3 ?_ | refine dr4 ?_)
      refine hes (pick G s hs k 3 hk (by omega) (by omega) hH) ?_; rintro _ _ ⟨v, hv0, hv1, rfl, rfl⟩ _ _; refine op ?_; try (first | refine dr1 ?_ | refine dr2 ?_ | refine dr3 ?_ | refine dr4 ?_)
      refine rn T 99 [] ?_; try (first | refine dr1 ?_ | refine dr2 ?_ | refine dr3 ?_ | refine dr4 ?_)
      by_cases hv : v > 0
      · refine ctq rfl (by simp; omega) ?_; try (first | refine dr1 ?_ | refine dr2 ?_ | refine dr3 ?_ | refine dr4 ?_)
        refine rn T 99 [] ?_; try (first | refine dr1 ?_ | refine dr2 ?_ | refine dr3 ?_ | refine dr4 ?_)
        exact rt1 T (pt []) (⟨[], k + 1, rfl, by omega, by omega, rfl, rfl⟩)
      · refine cfq rfl (by simp; omega) ?_; try (first | refine dr1 ?_ | refine dr2 ?_ | refine dr3 ?_ | refine dr4 ?_)
        refine rn T 99 [] ?_; try (first | refine dr1 ?_ | refine dr2 ?_ | refine dr3 ?_ | refine dr4 ?_)
        rw [wkP (by omega)]
        refine hes (ih (by omega) (k + 1) (by omega) (by omega)) ?_; rintro _ _ ⟨t1, k1, h11, h12, h13, rfl, rfl⟩ _ _; refine op ?_; try (first | refine dr1 ?_ | refine dr2 ?_ | refine dr3 ?_ | refine dr4 ?_)
        refine rn T 99 [] ?_; try (first | refine dr1 ?_ | refine dr2 ?_ | refine dr3 ?_ | refine dr4 ?_)
        rw [wkP (by omega)]
        refine hes (ih (by omega) k1 (by omega) (by omega)) ?_; rintro _ _ ⟨t2, k2, h21, h22, h23, rfl, rfl⟩ _ _; refine op ?_; try (first | refine dr1 ?_ | refine dr2 ?_ | refine dr3 ?_ | refine dr4 ?_)
        refine rn T 99 [] ?_; try (first | refine dr1 ?_ | refine dr2 ?_ | refine dr3 ?_ | refine dr4 ?_)
        exact rt1 T (pt [⟨t1⟩, ⟨t2⟩]) (⟨[⟨t1⟩, ⟨t2⟩], k2, by rw [dp_two, Bool.and_eq_true]; exact ⟨h11, h21⟩, by omega, by omega, rfl, rfl⟩)
end Go.Proofs.YtjacjidomopmaaaDoor.K
end
section
namespace Go.Proofs.YtjacjidomopmaaaDoor.K
open Go Go.RowKit Go.Proofs.YtjacjidomopmaaaDoor.En Go.Proofs.YtjacjidomopmaaaDoor.Ty Go.Proofs.YtjacjidomopmaaaDoor.B
set_option maxRecDepth 100000
set_option linter.unusedSimpArgs false
set_option linter.unusedVariables false
set_option pp.deepTerms false
set_option pp.deepTerms.threshold 8
set_option pp.maxSteps 1000
def dM : Nat → Mn → Bool
  | 0, _ => false
  | n + 1, t => decide (t.f4.length ≤ 2) && t.f4.all (dM n)
theorem dM_len {n : Nat} {t : Mn} (h : dM n t = true) : t.f4.length ≤ 2 := by
  cases n with
  | zero => cases h
  | succ n => unfold dM at h; simp only [Bool.and_eq_true, decide_eq_true_eq] at h; exact h.1
theorem dM_mono : ∀ {n m : Nat} {t : Mn}, dM n t = true → n ≤ m → dM m t = true
  | 0, _, _, h, _ => by cases h
  | n + 1, 0, _, _, hm => absurd hm (by omega)
  | n + 1, m + 1, t, h, hm => by
    unfold dM at h ⊢
    simp only [Bool.and_eq_true, List.all_eq_true] at h ⊢
    exact ⟨h.1, fun x hx => dM_mono (h.2 x hx) (by omega)⟩
theorem dM0 {n : Nat} {k m : Int} {s : ByteArray} {p : List Int} : dM (n + 1) ⟨k, m, s, p, []⟩ = true := rfl
theorem dM1 {n : Nat} {k m : Int} {s : ByteArray} {p : List Int} {x : Mn} (h : dM n x = true) : dM (n + 1) ⟨k, m, s, p, [x]⟩ = true := by
  show (decide (1 ≤ 2) && (dM n x && true)) = true
  rw [h]; rfl
theorem dM2 {n : Nat} {k m : Int} {s : ByteArray} {p : List Int} {x y : Mn} (h : dM n x = true) (h2 : dM n y = true) : dM (n + 1) ⟨k, m, s, p, [x, y]⟩ = true := by
  show (decide (2 ≤ 2) && (dM n x && (dM n y && true))) = true
  rw [h, h2]; rfl
theorem dMl {n : Nat} {k m : Int} {s : ByteArray} {p : List Int} {l : List Mn} (h : l.length ≤ 2 ∧ l.all (dM n) = true) : dM (n + 1) ⟨k, m, s, p, l⟩ = true := by
  show (decide (l.length ≤ 2) && l.all (dM n)) = true
  rw [h.2, decide_eq_true h.1]; rfl
def TermR (d : Nat) (s : List Int) (k c : Int) (H0 : List AObj) (r : TV) (H' : List AObj) : Prop := ∃ (t : Mn) (k' : Int), dM (d + 1) t = true ∧ k ≤ k' ∧ k' ≤ k + c ∧ r = .p (pm t) ∧ H' = rdr s k' :: H0
theorem TermR.ne {d : Nat} {s : List Int} {k c : Int} {H0 : List AObj} (hc : 0 ≤ c) (hH : HSh H0) : ∃ r H', TermR d s k c H0 r H' ∧ r.All Nm.isS ∧ HSh H' := ⟨_, _, ⟨⟨0, 0, ⟨#[]⟩, [], []⟩, k, dM0, by omega, by omega, rfl, rfl⟩, .p, hsh_rdr hH⟩
theorem term71 (G : Nat → Option PV) (s : List Int) (hs : Bytes s) {H0 : List AObj} (hH : HSh H0) : ∀ (d : Nat), d ≤ 20 → ∀ (k : Int), 0 ≤ k → k + 16 * 2 ^ d ≤ 1099511627776 →
    FE Tryd.prog G 14 [.ptr (.S 0) 0, .p (pi d)] (rdr s k :: H0) (TermR d s k (16 * 2 ^ d - 8) H0) := by
  intro d
  induction d with
  | zero =>
    intro _ k hk hk1
    simp only [Int.pow_zero] at hk1 ⊢
    refine ⟨?_, TermR.ne (by omega) hH⟩
    refine bdy Tryd.func14 (fun _ => 0) rfl ?_; try (first | refine dr1 ?_ | refine dr2 ?_ | refine dr3 ?_ | refine dr4 ?_)
    refine rn T 99 [] ?_; try (first | refine dr1 ?_ | refine dr2 ?_ | refine dr3 ?_ | refine dr4 ?_)
    refine rn T 99 [] ?_; try (first | refine dr1 ?_ | refine dr2 ?_ | refine dr3 ?_ | refine dr4 ?_)
    refine cts ?_; try (first | refine dr1 ?_ | refine dr2 ?_ | refine dr3 ?_ | refine dr4 ?_)
    refine rn T 99 [] ?_; try (first | refine dr1 ?_ | refine dr2 ?_ | refine dr3 ?_ | refine dr4 ?_)
    refine hes (pick G s hs k 3 hk (by omega) (by omega) hH) ?_; rintro _ _ ⟨v, hv0, hv1, rfl, rfl⟩ _ _; refine op ?_; try (first | refine dr1 ?_ | refine dr2 ?_ | refine dr3 ?_ | refine dr4 ?_)
    refine rn T 99 [] ?_; try (first | refine dr1 ?_ | refine dr2 ?_ | refine dr3 ?_ | refine dr4 ?_)
    by_cases hv : v = 0
    · refine ctq rfl (by simp [hv]) ?_; try (first | refine dr1 ?_ | refine dr2 ?_ | refine dr3 ?_ | refine dr4 ?_)
      refine rn T 99 [] ?_; try (first | refine dr1 ?_ | refine dr2 ?_ | refine dr3 ?_ | refine dr4 ?_)
      refine hes (pick G s hs (k + 1) 4 (by omega) (by omega) (by omega) hH) ?_; rintro _ _ ⟨w, hw0, hw1, rfl, rfl⟩ _ _; refine op ?_; try (first | refine dr1 ?_ | refine dr2 ?_ | refine dr3 ?_ | refine dr4 ?_)
      refine rn T 99 [] ?_; try (first | refine dr1 ?_ | refine dr2 ?_ | refine dr3 ?_ | refine dr4 ?_)
      exact rt1 T (pm ⟨1, w, ⟨#[]⟩, [], []⟩) (⟨_, k + 1 + 1, dM0, by omega, by omega, rfl, rfl⟩)
    · refine cfq rfl (by simp [hv]) ?_; try (first | refine dr1 ?_ | refine dr2 ?_ | refine dr3 ?_ | refine dr4 ?_)
      refine rn T 99 [] ?_; try (first | refine dr1 ?_ | refine dr2 ?_ | refine dr3 ?_ | refine dr4 ?_)
      refine hes (pick G s hs (k + 1) 3 (by omega) (by omega) (by omega) hH) ?_; rintro _ _ ⟨w, hw0, hw1, rfl, rfl⟩ _ _; refine op ?_; try (first | refine dr1 ?_ | refine dr2 ?_ | refine dr3 ?_ | refine dr4 ?_)
      obtain rfl | rfl | rfl : w = 0 ∨ w = 1 ∨ w = 2 := by omega
      · refine rn T 99 [ps ⟨#[97]⟩] ?_; try (first | refine dr1 ?_ | refine dr2 ?_ | refine dr3 ?_ | refine dr4 ?_)
        exact rt1 T (pm ⟨2, 0, ⟨#[97]⟩, [], []⟩) (⟨_, k + 1 + 1, dM0, by omega, by omega, rfl, rfl⟩)
      · refine rn T 99 [ps ⟨#[98]⟩] ?_; try (first | refine dr1 ?_ | refine dr2 ?_ | refine dr3 ?_ | refine dr4 ?_)
        exact rt1 T (pm ⟨2, 0, ⟨#[98]⟩, [], []⟩) (⟨_, k + 1 + 1, dM0, by omega, by omega, rfl, rfl⟩)
      · refine rn T 99 [ps ⟨#[99]⟩] ?_; try (first | refine dr1 ?_ | refine dr2 ?_ | refine dr3 ?_ | refine dr4 ?_)
        exact rt1 T (pm ⟨2, 0, ⟨#[99]⟩, [], []⟩) (⟨_, k + 1 + 1, dM0, by omega, by omega, rfl, rfl⟩)
  | succ d ih =>
    intro hd k hk hk1
    have h2 : (2 : Int) ^ (d + 1) = 2 * 2 ^ d := by rw [Int.pow_succ]; omega
    have h3 : (1 : Int) ≤ 2 ^ d := by
      have : (0 : Int) < 2 ^ d := Int.pow_pos (by omega)
      omega
    refine ⟨?_, TermR.ne (by omega) hH⟩
    refine bdy Tryd.func14 (fun _ => 0) rfl ?_; try (first | refine dr1 ?_ | refine dr2 ?_ | refine dr3 ?_ | refine dr4 ?_)
    refine rn T 99 [] ?_; try (first | refine dr1 ?_ | refine dr2 ?_ | refine dr3 ?_ | refine dr4 ?_)
    refine rn T 3 [] ?_; try (first | refine dr1 ?_ | refine dr2 ?_ | refine dr3 ?_ | refine dr4 ?_)
    by_cases hd0 : d = 0
    · rw [show decide (((d + 1 : Nat) : Int) < 2) = true by simp; omega]
      refine rn T 99 [] ?_; try (first | refine dr1 ?_ | refine dr2 ?_ | refine dr3 ?_ | refine dr4 ?_)
      refine cts ?_; try (first | refine dr1 ?_ | refine dr2 ?_ | refine dr3 ?_ | refine dr4 ?_)
      refine rn T 99 [] ?_; try (first | refine dr1 ?_ | refine dr2 ?_ | refine dr3 ?_ | refine dr4 ?_)
      refine hes (pick G s hs (k) 3 (by omega) (by omega) (by omega) hH) ?_; rintro _ _ ⟨v, hv0, hv1, rfl, rfl⟩ _ _; refine op ?_; try (first | refine dr1 ?_ | refine dr2 ?_ | refine dr3 ?_ | refine dr4 ?_)
      refine rn T 99 [] ?_; try (first | refine dr1 ?_ | refine dr2 ?_ | refine dr3 ?_ | refine dr4 ?_)
      by_cases hv : v = 0
      · refine ctq rfl (by simp [hv]) ?_; try (first | refine dr1 ?_ | refine dr2 ?_ | refine dr3 ?_ | refine dr4 ?_)
        refine rn T 99 [] ?_; try (first | refine dr1 ?_ | refine dr2 ?_ | refine dr3 ?_ | refine dr4 ?_)
        refine hes (pick G s hs (k + 1) 4 (by omega) (by omega) (by omega) hH) ?_; rintro _ _ ⟨w, hw0, hw1, rfl, rfl⟩ _ _; refine op ?_; try (first | refine dr1 ?_ | refine dr2 ?_ | refine dr3 ?_ | refine dr4 ?_)
        refine rn T 99 [] ?_; try (first | refine dr1 ?_ | refine dr2 ?_ | refine dr3 ?_ | refine dr4 ?_)
        exact rt1 T (pm ⟨1, w, ⟨#[]⟩, [], []⟩) (⟨_, k + 1 + 1, dM0, by omega, by omega, rfl, rfl⟩)
      · refine cfq rfl (by simp [hv]) ?_; try (first | refine dr1 ?_ | refine dr2 ?_ | refine dr3 ?_ | refine dr4 ?_)
        refine rn T 99 [] ?_; try (first | refine dr1 ?_ | refine dr2 ?_ | refine dr3 ?_ | refine dr4 ?_)
        refine hes (pick G s hs (k + 1) 3 (by omega) (by omega) (by omega) hH) ?_; rintro _ _ ⟨w, hw0, hw1, rfl, rfl⟩ _ _; refine op ?_; try (first | refine dr1 ?_ | refine dr2 ?_ | refine dr3 ?_ | refine dr4 ?_)
        obtain rfl | rfl | rfl : w = 0 ∨ w = 1 ∨ w = 2 := by omega
        · refine rn T 99 [ps ⟨#[97]⟩] ?_; try (first | refine dr1 ?_ | refine dr2 ?_ | refine dr3 ?_ | refine dr4 ?_)
          exact rt1 T (pm ⟨2, 0, ⟨#[97]⟩, [], []⟩) (⟨_, k + 1 + 1, dM0, by omega, by omega, rfl, rfl⟩)
        · refine rn T 99 [ps ⟨#[98]⟩] ?_; try (first | refine dr1 ?_ | refine dr2 ?_ | refine dr3 ?_ | refine dr4 ?_)
          exact rt1 T (pm ⟨2, 0, ⟨#[98]⟩, [], []⟩) (⟨_, k + 1 + 1, dM0, by omega, by omega, rfl, rfl⟩)
        · refine rn T 99 [ps ⟨#[99]⟩] ?_; try (first | refine dr1 ?_ | refine dr2 ?_ | refine dr3 ?_ | refine dr4 ?_)
          exact rt1 T (pm ⟨2, 0, ⟨#[99]⟩, [], []⟩) (⟨_, k + 1 + 1, dM0, by omega, by omega, rfl, rfl⟩)
    · rw [show decide (((d + 1 : Nat) : Int) < 2) = false by simp; omega]
      refine rn T 99 [] ?_; try (first | refine dr1 ?_ | refine dr2 ?_ | refine dr3 ?_ | refine dr4 ?_)
      refine hes (pick G s hs k 4 hk (by omega) (by omega) hH) ?_; rintro _ _ ⟨u, hu0, hu1, rfl, rfl⟩ _ _; refine op ?_; try (first | refine dr1 ?_ | refine dr2 ?_ | refine dr3 ?_ | refine dr4 ?_)
      refine rn T 99 [] ?_; try (first | refine dr1 ?_ | refine dr2 ?_ | refine dr3 ?_ | refine dr4 ?_)
      by_cases hu : u = 0
      · subst hu
        refine cts ?_; try (first | refine dr1 ?_ | refine dr2 ?_ | refine dr3 ?_ | refine dr4 ?_)
        refine rn T 99 [] ?_; try (first | refine dr1 ?_ | refine dr2 ?_ | refine dr3 ?_ | refine dr4 ?_)
        refine hes (pick G s hs (k + 1) 3 (by omega) (by omega) (by omega) hH) ?_; rintro _ _ ⟨v, hv0, hv1, rfl, rfl⟩ _ _; refine op ?_; try (first | refine dr1 ?_ | refine dr2 ?_ | refine dr3 ?_ | refine dr4 ?_)
        refine rn T 99 [] ?_; try (first | refine dr1 ?_ | refine dr2 ?_ | refine dr3 ?_ | refine dr4 ?_)
        by_cases hv : v = 0
        · refine ctq rfl (by simp [hv]) ?_; try (first | refine dr1 ?_ | refine dr2 ?_ | refine dr3 ?_ | refine dr4 ?_)
          refine rn T 99 [] ?_; try (first | refine dr1 ?_ | refine dr2 ?_ | refine dr3 ?_ | refine dr4 ?_)
          refine hes (pick G s hs (k + 1 + 1) 4 (by omega) (by omega) (by omega) hH) ?_; rintro _ _ ⟨w, hw0, hw1, rfl, rfl⟩ _ _; refine op ?_; try (first | refine dr1 ?_ | refine dr2 ?_ | refine dr3 ?_ | refine dr4 ?_)
          refine rn T 99 [] ?_; try (first | refine dr1 ?_ | refine dr2 ?_ | refine dr3 ?_ | refine dr4 ?_)
          exact rt1 T (pm ⟨1, w, ⟨#[]⟩, [], []⟩) (⟨_, k + 1 + 1 + 1, dM0, by omega, by omega, rfl, rfl⟩)
        · refine cfq rfl (by simp [hv]) ?_; try (first | refine dr1 ?_ | refine dr2 ?_ | refine dr3 ?_ | refine dr4 ?_)
          refine rn T 99 [] ?_; try (first | refine dr1 ?_ | refine dr2 ?_ | refine dr3 ?_ | refine dr4 ?_)
          refine hes (pick G s hs (k + 1 + 1) 3 (by omega) (by omega) (by omega) hH) ?_; rintro _ _ ⟨w, hw0, hw1, rfl, rfl⟩ _ _; refine op ?_; try (first | refine dr1 ?_ | refine dr2 ?_ | refine dr3 ?_ | refine dr4 ?_)
          obtain rfl | rfl | rfl : w = 0 ∨ w = 1 ∨ w = 2 := by omega
          · refine rn T 99 [ps ⟨#[97]⟩] ?_; try (first | refine dr1 ?_ | refine dr2 ?_ | refine dr3 ?_ | refine dr4 ?_)
            exact rt1 T (pm ⟨2, 0, ⟨#[97]⟩, [], []⟩) (⟨_, k + 1 + 1 + 1, dM0, by omega, by omega, rfl, rfl⟩)
          · refine rn T 99 [ps ⟨#[98]⟩] ?_; try (first | refine dr1 ?_ | refine dr2 ?_ | refine dr3 ?_ | refine dr4 ?_)
            exact rt1 T (pm ⟨2, 0, ⟨#[98]⟩, [], []⟩) (⟨_, k + 1 + 1 + 1, dM0, by omega, by omega, rfl, rfl⟩)
          · refine rn T 99 [ps ⟨#[99]⟩] ?_; try (first | refine dr1 ?_ | refine dr2 ?_ | refine dr3 ?_ | refine dr4 ?_)
            exact rt1 T (pm ⟨2, 0, ⟨#[99]⟩, [], []⟩) (⟨_, k + 1 + 1 + 1, dM0, by omega, by omega, rfl, rfl⟩)
      · refine cfq rfl (by simp [hu]) ?_; try (first | refine dr1 ?_ | refine dr2 ?_ | refine dr3 ?_ | refine dr4 ?_)
        refine rn T 99 [] ?_; try (first | refine dr1 ?_ | refine dr2 ?_ | refine dr3 ?_ | refine dr4 ?_)
        refine rn T 99 [] ?_; try (first | refine dr1 ?_ | refine dr2 ?_ | refine dr3 ?_ | refine dr4 ?_)
        refine hes (pick G s hs (k + 1) 3 (by omega) (by omega) (by omega) hH) ?_; rintro _ _ ⟨n, hn0, hn1, rfl, rfl⟩ _ _; refine op ?_; try (first | refine dr1 ?_ | refine dr2 ?_ | refine dr3 ?_ | refine dr4 ?_)
        refine rn T 99 [] ?_; try (first | refine dr1 ?_ | refine dr2 ?_ | refine dr3 ?_ | refine dr4 ?_)
        refine AW.lp (fun x : List Int × Int × Int => MS.mk [(6, .p (pi x.2.2)), (5, .vw (.L 26) x.1.length), (0, .ptr (.S 0) 0), (1, .p (pi (d + 1 : Nat))), (4, .ptr (.L 4) 0)] 89 [(26, .rw 1 3 (x.1.map pi)), (4, .box 28 [.p (pi 0), .p (pi 0), .p (ps ⟨#[]⟩), .nil, .nil])] (rdr s x.2.1 :: H0)) (fun m x => (m : Int) = x.2.2 ∧ x.1.length + m ≤ 2 ∧ k + 2 ≤ x.2.1 ∧ x.2.1 + x.2.2 ≤ k + 4) n.toNat ([], k + 1 + 1, n) (by simp only [List.length_nil]; omega) (wk_of rfl rfl ⟨.inl rfl, .inl rfl, .inl rfl, .inl rfl, .inl rfl, trivial⟩ ⟨.inl rfl, .inl rfl, trivial⟩) ?_
        intro m ⟨p, k', n'⟩ ⟨g1, g2, g3, g4⟩
        simp only at g1 g2 g3 g4
        refine op ?_; try (first | refine dr1 ?_ | refine dr2 ?_ | refine dr3 ?_ | refine dr4 ?_)
        refine rn T 99 [] ?_; try (first | refine dr1 ?_ | refine dr2 ?_ | refine dr3 ?_ | refine dr4 ?_)
        by_cases hm : m = 0
        · subst hm
          refine cfq rfl (by simp; omega) ?_; try (first | refine dr1 ?_ | refine dr2 ?_ | refine dr3 ?_ | refine dr4 ?_)
          refine rn T 99 [] ?_; try (first | refine dr1 ?_ | refine dr2 ?_ | refine dr3 ?_ | refine dr4 ?_)
          refine hes (pick G s hs k' 6 (by omega) (by omega) (by omega) hH) ?_; rintro _ _ ⟨v, hv0, hv1, rfl, rfl⟩ _ _; refine op ?_; try (first | refine dr1 ?_ | refine dr2 ?_ | refine dr3 ?_ | refine dr4 ?_)
          obtain rfl | rfl | rfl | rfl | rfl | rfl : v = 0 ∨ v = 1 ∨ v = 2 ∨ v = 3 ∨ v = 4 ∨ v = 5 := by omega
          · refine rn T 99 [] ?_; try (first | refine dr1 ?_ | refine dr2 ?_ | refine dr3 ?_ | refine dr4 ?_)
            refine cts ?_; try (first | refine dr1 ?_ | refine dr2 ?_ | refine dr3 ?_ | refine dr4 ?_)
            refine cts ?_; try (first | refine dr1 ?_ | refine dr2 ?_ | refine dr3 ?_ | refine dr4 ?_)
            refine rn T 99 [] ?_; try (first | refine dr1 ?_ | refine dr2 ?_ | refine dr3 ?_ | refine dr4 ?_)
            rw [wkP (by omega)]
            refine hes (ih (by omega) (k' + 1) (by omega) (by omega)) ?_; rintro _ _ ⟨t1, k1, h11, h12, h13, rfl, rfl⟩ _ _; refine op ?_; try (first | refine dr1 ?_ | refine dr2 ?_ | refine dr3 ?_ | refine dr4 ?_)
            refine rn T 99 [] ?_; try (first | refine dr1 ?_ | refine dr2 ?_ | refine dr3 ?_ | refine dr4 ?_)
            exact rt1 T (pm ⟨7, 0, ⟨#[]⟩, p, [t1]⟩) (⟨_, k1, dM1 h11, by omega, by omega, rfl, rfl⟩)
          · refine rn T 99 [] ?_; try (first | refine dr1 ?_ | refine dr2 ?_ | refine dr3 ?_ | refine dr4 ?_)
            refine cfs ?_; try (first | refine dr1 ?_ | refine dr2 ?_ | refine dr3 ?_ | refine dr4 ?_)
            refine rn T 99 [] ?_; try (first | refine dr1 ?_ | refine dr2 ?_ | refine dr3 ?_ | refine dr4 ?_)
            refine cts ?_; try (first | refine dr1 ?_ | refine dr2 ?_ | refine dr3 ?_ | refine dr4 ?_)
            refine rn T 99 [] ?_; try (first | refine dr1 ?_ | refine dr2 ?_ | refine dr3 ?_ | refine dr4 ?_)
            rw [wkP (by omega)]
            refine hes (ih (by omega) (k' + 1) (by omega) (by omega)) ?_; rintro _ _ ⟨t1, k1, h11, h12, h13, rfl, rfl⟩ _ _; refine op ?_; try (first | refine dr1 ?_ | refine dr2 ?_ | refine dr3 ?_ | refine dr4 ?_)
            refine rn T 99 [] ?_; try (first | refine dr1 ?_ | refine dr2 ?_ | refine dr3 ?_ | refine dr4 ?_)
            exact rt1 T (pm ⟨7, 0, ⟨#[]⟩, p, [t1]⟩) (⟨_, k1, dM1 h11, by omega, by omega, rfl, rfl⟩)
          · refine rn T 99 [] ?_; try (first | refine dr1 ?_ | refine dr2 ?_ | refine dr3 ?_ | refine dr4 ?_)
            refine cfs ?_; try (first | refine dr1 ?_ | refine dr2 ?_ | refine dr3 ?_ | refine dr4 ?_)
            refine rn T 99 [] ?_; try (first | refine dr1 ?_ | refine dr2 ?_ | refine dr3 ?_ | refine dr4 ?_)
            refine cfs ?_; try (first | refine dr1 ?_ | refine dr2 ?_ | refine dr3 ?_ | refine dr4 ?_)
            refine rn T 99 [] ?_; try (first | refine dr1 ?_ | refine dr2 ?_ | refine dr3 ?_ | refine dr4 ?_)
            refine cts ?_; try (first | refine dr1 ?_ | refine dr2 ?_ | refine dr3 ?_ | refine dr4 ?_)
            refine cts ?_; try (first | refine dr1 ?_ | refine dr2 ?_ | refine dr3 ?_ | refine dr4 ?_)
            refine rn T 99 [] ?_; try (first | refine dr1 ?_ | refine dr2 ?_ | refine dr3 ?_ | refine dr4 ?_)
            rw [wkP (by omega)]
            refine hes (ih (by omega) (k' + 1) (by omega) (by omega)) ?_; rintro _ _ ⟨t1, k1, h11, h12, h13, rfl, rfl⟩ _ _; refine op ?_; try (first | refine dr1 ?_ | refine dr2 ?_ | refine dr3 ?_ | refine dr4 ?_)
            refine rn T 99 [] ?_; try (first | refine dr1 ?_ | refine dr2 ?_ | refine dr3 ?_ | refine dr4 ?_)
            rw [wkP (by omega)]
            refine hes (ih (by omega) k1 (by omega) (by omega)) ?_; rintro _ _ ⟨t2, k2, h21, h22, h23, rfl, rfl⟩ _ _; refine op ?_; try (first | refine dr1 ?_ | refine dr2 ?_ | refine dr3 ?_ | refine dr4 ?_)
            refine rn T 99 [] ?_; try (first | refine dr1 ?_ | refine dr2 ?_ | refine dr3 ?_ | refine dr4 ?_)
            exact rt1 T (pm ⟨8, 0, ⟨#[]⟩, p, [t1, t2]⟩) (⟨_, k2, dM2 h11 h21, by omega, by omega, rfl, rfl⟩)
          · refine rn T 99 [] ?_; try (first | refine dr1 ?_ | refine dr2 ?_ | refine dr3 ?_ | refine dr4 ?_)
            refine cfs ?_; try (first | refine dr1 ?_ | refine dr2 ?_ | refine dr3 ?_ | refine dr4 ?_)
            refine rn T 99 [] ?_; try (first | refine dr1 ?_ | refine dr2 ?_ | refine dr3 ?_ | refine dr4 ?_)
            refine cfs ?_; try (first | refine dr1 ?_ | refine dr2 ?_ | refine dr3 ?_ | refine dr4 ?_)
            refine rn T 99 [] ?_; try (first | refine dr1 ?_ | refine dr2 ?_ | refine dr3 ?_ | refine dr4 ?_)
            refine cfs ?_; try (first | refine dr1 ?_ | refine dr2 ?_ | refine dr3 ?_ | refine dr4 ?_)
            refine rn T 99 [] ?_; try (first | refine dr1 ?_ | refine dr2 ?_ | refine dr3 ?_ | refine dr4 ?_)
            refine cts ?_; try (first | refine dr1 ?_ | refine dr2 ?_ | refine dr3 ?_ | refine dr4 ?_)
            refine rn T 99 [] ?_; try (first | refine dr1 ?_ | refine dr2 ?_ | refine dr3 ?_ | refine dr4 ?_)
            rw [wkP (by omega)]
            refine hes (ih (by omega) (k' + 1) (by omega) (by omega)) ?_; rintro _ _ ⟨t1, k1, h11, h12, h13, rfl, rfl⟩ _ _; refine op ?_; try (first | refine dr1 ?_ | refine dr2 ?_ | refine dr3 ?_ | refine dr4 ?_)
            refine rn T 99 [] ?_; try (first | refine dr1 ?_ | refine dr2 ?_ | refine dr3 ?_ | refine dr4 ?_)
            rw [wkP (by omega)]
            refine hes (ih (by omega) k1 (by omega) (by omega)) ?_; rintro _ _ ⟨t2, k2, h21, h22, h23, rfl, rfl⟩ _ _; refine op ?_; try (first | refine dr1 ?_ | refine dr2 ?_ | refine dr3 ?_ | refine dr4 ?_)
            refine rn T 99 [] ?_; try (first | refine dr1 ?_ | refine dr2 ?_ | refine dr3 ?_ | refine dr4 ?_)
            exact rt1 T (pm ⟨8, 0, ⟨#[]⟩, p, [t1, t2]⟩) (⟨_, k2, dM2 h11 h21, by omega, by omega, rfl, rfl⟩)
          · refine rn T 99 [] ?_; try (first | refine dr1 ?_ | refine dr2 ?_ | refine dr3 ?_ | refine dr4 ?_)
            refine cfs ?_; try (first | refine dr1 ?_ | refine dr2 ?_ | refine dr3 ?_ | refine dr4 ?_)
            refine rn T 99 [] ?_; try (first | refine dr1 ?_ | refine dr2 ?_ | refine dr3 ?_ | refine dr4 ?_)
            refine cfs ?_; try (first | refine dr1 ?_ | refine dr2 ?_ | refine dr3 ?_ | refine dr4 ?_)
            refine rn T 99 [] ?_; try (first | refine dr1 ?_ | refine dr2 ?_ | refine dr3 ?_ | refine dr4 ?_)
            refine cfs ?_; try (first | refine dr1 ?_ | refine dr2 ?_ | refine dr3 ?_ | refine dr4 ?_)
            refine rn T 99 [] ?_; try (first | refine dr1 ?_ | refine dr2 ?_ | refine dr3 ?_ | refine dr4 ?_)
            refine cfs ?_; try (first | refine dr1 ?_ | refine dr2 ?_ | refine dr3 ?_ | refine dr4 ?_)
            refine rn T 99 [] ?_; try (first | refine dr1 ?_ | refine dr2 ?_ | refine dr3 ?_ | refine dr4 ?_)
            refine cts ?_; try (first | refine dr1 ?_ | refine dr2 ?_ | refine dr3 ?_ | refine dr4 ?_)
            refine rn T 99 [] ?_; try (first | refine dr1 ?_ | refine dr2 ?_ | refine dr3 ?_ | refine dr4 ?_)
            rw [wkP (by omega)]
            refine hes (ih (by omega) (k' + 1) (by omega) (by omega)) ?_; rintro _ _ ⟨t1, k1, h11, h12, h13, rfl, rfl⟩ _ _; refine op ?_; try (first | refine dr1 ?_ | refine dr2 ?_ | refine dr3 ?_ | refine dr4 ?_)
            refine rn T 99 [] ?_; try (first | refine dr1 ?_ | refine dr2 ?_ | refine dr3 ?_ | refine dr4 ?_)
            rw [wkP (by omega)]
            refine hes (ih (by omega) k1 (by omega) (by omega)) ?_; rintro _ _ ⟨t2, k2, h21, h22, h23, rfl, rfl⟩ _ _; refine op ?_; try (first | refine dr1 ?_ | refine dr2 ?_ | refine dr3 ?_ | refine dr4 ?_)
            refine rn T 99 [] ?_; try (first | refine dr1 ?_ | refine dr2 ?_ | refine dr3 ?_ | refine dr4 ?_)
            exact rt1 T (pm ⟨6, 0, ⟨#[]⟩, [], [t1, t2]⟩) (⟨_, k2, dM2 h11 h21, by omega, by omega, rfl, rfl⟩)
          · refine rn T 99 [] ?_; try (first | refine dr1 ?_ | refine dr2 ?_ | refine dr3 ?_ | refine dr4 ?_)
            refine cfs ?_; try (first | refine dr1 ?_ | refine dr2 ?_ | refine dr3 ?_ | refine dr4 ?_)
            refine rn T 99 [] ?_; try (first | refine dr1 ?_ | refine dr2 ?_ | refine dr3 ?_ | refine dr4 ?_)
            refine cfs ?_; try (first | refine dr1 ?_ | refine dr2 ?_ | refine dr3 ?_ | refine dr4 ?_)
            refine rn T 99 [] ?_; try (first | refine dr1 ?_ | refine dr2 ?_ | refine dr3 ?_ | refine dr4 ?_)
            refine cfs ?_; try (first | refine dr1 ?_ | refine dr2 ?_ | refine dr3 ?_ | refine dr4 ?_)
            refine rn T 99 [] ?_; try (first | refine dr1 ?_ | refine dr2 ?_ | refine dr3 ?_ | refine dr4 ?_)
            refine cfs ?_; try (first | refine dr1 ?_ | refine dr2 ?_ | refine dr3 ?_ | refine dr4 ?_)
            refine rn T 99 [] ?_; try (first | refine dr1 ?_ | refine dr2 ?_ | refine dr3 ?_ | refine dr4 ?_)
            refine cfs ?_; try (first | refine dr1 ?_ | refine dr2 ?_ | refine dr3 ?_ | refine dr4 ?_)
            refine rn T 99 [] ?_; try (first | refine dr1 ?_ | refine dr2 ?_ | refine dr3 ?_ | refine dr4 ?_)
            refine hes (pick G s hs (k' + 1) 3 (by omega) (by omega) (by omega) hH) ?_; rintro _ _ ⟨w, hw0, hw1, rfl, rfl⟩ _ _; refine op ?_; try (first | refine dr1 ?_ | refine dr2 ?_ | refine dr3 ?_ | refine dr4 ?_)
            refine rn T 1 [] ?_; try (first | refine dr1 ?_ | refine dr2 ?_ | refine dr3 ?_ | refine dr4 ?_)
            rw [wk (n := 3 + w) (by omega) (by omega)]
            refine rn T 99 [] ?_; try (first | refine dr1 ?_ | refine dr2 ?_ | refine dr3 ?_ | refine dr4 ?_)
            rw [wkP (by omega)]
            refine hes (ih (by omega) (k' + 1 + 1) (by omega) (by omega)) ?_; rintro _ _ ⟨t1, k1, h11, h12, h13, rfl, rfl⟩ _ _; refine op ?_; try (first | refine dr1 ?_ | refine dr2 ?_ | refine dr3 ?_ | refine dr4 ?_)
            refine rn T 99 [] ?_; try (first | refine dr1 ?_ | refine dr2 ?_ | refine dr3 ?_ | refine dr4 ?_)
            rw [wkP (by omega)]
            refine hes (ih (by omega) k1 (by omega) (by omega)) ?_; rintro _ _ ⟨t2, k2, h21, h22, h23, rfl, rfl⟩ _ _; refine op ?_; try (first | refine dr1 ?_ | refine dr2 ?_ | refine dr3 ?_ | refine dr4 ?_)
            refine rn T 99 [] ?_; try (first | refine dr1 ?_ | refine dr2 ?_ | refine dr3 ?_ | refine dr4 ?_)
            exact rt1 T (pm ⟨3 + w, 0, ⟨#[]⟩, [], [t1, t2]⟩) (⟨_, k2, dM2 h11 h21, by omega, by omega, rfl, rfl⟩)
        · refine ctq rfl (by simp; omega) ?_; try (first | refine dr1 ?_ | refine dr2 ?_ | refine dr3 ?_ | refine dr4 ?_)
          refine rn T 99 [] ?_; try (first | refine dr1 ?_ | refine dr2 ?_ | refine dr3 ?_ | refine dr4 ?_)
          refine hes (pick G s hs k' 2 (by omega) (by omega) (by omega) hH) ?_; rintro _ _ ⟨v, hv0, hv1, rfl, rfl⟩ _ _; refine op ?_; try (first | refine dr1 ?_ | refine dr2 ?_ | refine dr3 ?_ | refine dr4 ?_)
          refine rn T 99 [] ?_; try (first | refine dr1 ?_ | refine dr2 ?_ | refine dr3 ?_ | refine dr4 ?_)
          refine rn T 99 [] ?_; try (first | refine dr1 ?_ | refine dr2 ?_ | refine dr3 ?_ | refine dr4 ?_)
          have hlen : p.length + [pi v].length = (p ++ [v]).length := by simp
          have hq : p.map pi ++ [pi v] = (p ++ [v]).map pi := by simp
          rw [List.length_map, hlen, wk (n := n' - 1) (by omega) (by omega)]
          refine nxt (m - 1) ((p ++ [v], k' + 1, n' - 1)) (⟨by simp only; omega, by simp only [List.length_append, List.length_singleton]; omega, by simp only; omega, by simp only; omega⟩)
end Go.Proofs.YtjacjidomopmaaaDoor.K
end
section
namespace Go.Proofs.YtjacjidomopmaaaDoor.K
open Go Go.RowKit Go.Proofs.YtjacjidomopmaaaDoor.En Go.Proofs.YtjacjidomopmaaaDoor.Ty Go.Proofs.YtjacjidomopmaaaDoor.B
set_option maxRecDepth 100000
set_option linter.unusedSimpArgs false
set_option linter.unusedVariables false
set_option pp.deepTerms false
set_option pp.deepTerms.threshold 8
set_option pp.maxSteps 1000
theorem word71 (G : Nat → Option PV) (s : List Int) (hs : Bytes s) {H0 : List AObj} (hH : HSh H0) (k : Int) (hk : 0 ≤ k) (hk1 : k ≤ 1099511627776) (l : List ByteArray) (hl : l ≠ []) :
    FE Tryd.prog G 33 [.ptr (.S 0) 0, .p (.row 1 (l.map ps))] (rdr s k :: H0) (fun r H' => ∃ v, v ∈ l ∧ r = .p (ps v) ∧ H' = rdr s (k + 1) :: H0) := by
  have hn : 0 < l.length := List.length_pos_iff.2 hl
  refine ⟨?_, _, _, ⟨l[0], List.getElem_mem hn, rfl, rfl⟩, .p, hsh_rdr hH⟩
  refine bdy Tryd.func33 (fun _ => 0) rfl ?_; try (first | refine dr1 ?_ | refine dr2 ?_ | refine dr3 ?_ | refine dr4 ?_)
  refine rn T 99 [] ?_; try (first | refine dr1 ?_ | refine dr2 ?_ | refine dr3 ?_ | refine dr4 ?_)
  refine rn T 99 [] ?_; try (first | refine dr1 ?_ | refine dr2 ?_ | refine dr3 ?_ | refine dr4 ?_)
  refine hes (pick G s hs k (l.map ps).length hk hk1 (by simp; omega) hH) ?_; rintro _ _ ⟨v, hv0, hv1, rfl, rfl⟩ _ _; refine op ?_; try (first | refine dr1 ?_ | refine dr2 ?_ | refine dr3 ?_ | refine dr4 ?_)
  have hv : v.toNat < l.length := by simp at hv1; omega
  have hx : (l.map ps)[v.toNat]? = some (ps l[v.toNat]) := by rw [List.getElem?_map, List.getElem?_eq_getElem hv, Option.map_some]
  refine rn T 99 [ps l[v.toNat]] ?_; try (first | refine dr1 ?_ | refine dr2 ?_ | refine dr3 ?_ | refine dr4 ?_)
  exact ⟨[_], ⟨_, _, rfl, .inl rfl, rfl⟩, .p, l[v.toNat], List.getElem_mem hv, rfl, rfl⟩
def OpenR (s : List Int) (k c : Int) (d : Nat) (r : TV) (H' : List AObj) : Prop := (∃ k', k ≤ k' ∧ k' ≤ k + c ∧ r = .ag [.nil] ∧ H' = [rdr s k']) ∨ (∃ a b k', dp d a = true ∧ dp d b = true ∧ k ≤ k' ∧ k' ≤ k + c ∧ r = .ag [.vw (.S 1) 2] ∧ H' = [rdr s k', .rw 1 32 [pt a, pt b]])
theorem type71v (G : Nat → Option PV) (s : List Int) (hs : Bytes s) (d : Nat) (hd : d ≤ 20) (k : Int) (hk : 0 ≤ k) (hk1 : k + 2 ^ d ≤ 1099511627776) :
    FE Tryd.prog G 13 [.ptr (.S 0) 0, .p (pi d)] [rdr s k] (OpenR s k (2 ^ d - 1) d) := by
  have hp : ∀ d : Nat, (1 : Int) ≤ 2 ^ d := fun d => by
    have : (0 : Int) < 2 ^ d := Int.pow_pos (by omega)
    omega
  have hp0 := hp d
  refine ⟨?_, _, _, .inl ⟨k, by omega, by omega, rfl, rfl⟩, .ag (fun x hx => by simp at hx; subst hx; exact .nil), hsh_rdr hsh_nil⟩
  cases d with
  | zero =>
    refine bdy Tryd.func13 (fun d => if d = 21 then 1 else 0) rfl ?_; try (first | refine dr1 ?_ | refine dr2 ?_ | refine dr3 ?_ | refine dr4 ?_)
    refine rn T 99 [] ?_; try (first | refine dr1 ?_ | refine dr2 ?_ | refine dr3 ?_ | refine dr4 ?_)
    refine rn T 99 [] ?_; try (first | refine dr1 ?_ | refine dr2 ?_ | refine dr3 ?_ | refine dr4 ?_)
    refine cts ?_; try (first | refine dr1 ?_ | refine dr2 ?_ | refine dr3 ?_ | refine dr4 ?_)
    refine rn T 99 [] ?_; try (first | refine dr1 ?_ | refine dr2 ?_ | refine dr3 ?_ | refine dr4 ?_)
    exact retL T (xs := [.ag [.nil]]) rfl ⟨.inl rfl, trivial⟩ (.ag (fun x hx => by simp at hx; subst hx; exact .nil)) (.inl ⟨k, by omega, by omega, rfl, rfl⟩)
  | succ d =>
    have h2 : (2 : Int) ^ (d + 1) = 2 * 2 ^ d := by rw [Int.pow_succ]; omega
    have h3 := hp d
    refine bdy Tryd.func13 (fun d => if d = 21 then 1 else 0) rfl ?_; try (first | refine dr1 ?_ | refine dr2 ?_ | refine dr3 ?_ | refine dr4 ?_)
    refine rn T 99 [] ?_; try (first | refine dr1 ?_ | refine dr2 ?_ | refine dr3 ?_ | refine dr4 ?_)
    refine rn T 3 [] ?_; try (first | refine dr1 ?_ | refine dr2 ?_ | refine dr3 ?_ | refine dr4 ?_)
    by_cases hd0 : d = 0
    · rw [show decide (((d + 1 : Nat) : Int) < 2) = true by simp; omega]
      refine rn T 99 [] ?_; try (first | refine dr1 ?_ | refine dr2 ?_ | refine dr3 ?_ | refine dr4 ?_)
      refine cts ?_; try (first | refine dr1 ?_ | refine dr2 ?_ | refine dr3 ?_ | refine dr4 ?_)
      refine rn T 99 [] ?_; try (first | refine dr1 ?_ | refine dr2 ?_ | refine dr3 ?_ | refine dr4 ?_)
      exact retL T (xs := [.ag [.nil]]) rfl ⟨.inl rfl, trivial⟩ (.ag (fun x hx => by simp at hx; subst hx; exact .nil)) (.inl ⟨k, by omega, by omega, rfl, rfl⟩)
    · rw [show decide (((d + 1 : Nat) : Int) < 2) = false by simp; omega]
      refine rn T 99 [] ?_; try (first | refine dr1 ?_ | refine dr2 ?_ | refine dr3 ?_ | refine dr4 ?_)
      refine hes (pick G s hs k 3 hk (by omega) (by omega) hsh_nil) ?_; rintro _ _ ⟨v, hv0, hv1, rfl, rfl⟩ _ _; refine op ?_; try (first | refine dr1 ?_ | refine dr2 ?_ | refine dr3 ?_ | refine dr4 ?_)
      refine rn T 99 [] ?_; try (first | refine dr1 ?_ | refine dr2 ?_ | refine dr3 ?_ | refine dr4 ?_)
      by_cases hv : v > 0
      · refine ctq rfl (by simp; omega) ?_; try (first | refine dr1 ?_ | refine dr2 ?_ | refine dr3 ?_ | refine dr4 ?_)
        refine rn T 99 [] ?_; try (first | refine dr1 ?_ | refine dr2 ?_ | refine dr3 ?_ | refine dr4 ?_)
        exact retL T (xs := [.ag [.nil]]) rfl ⟨.inl rfl, trivial⟩ (.ag (fun x hx => by simp at hx; subst hx; exact .nil)) (.inl ⟨k + 1, by omega, by omega, rfl, rfl⟩)
      · refine cfq rfl (by simp; omega) ?_; try (first | refine dr1 ?_ | refine dr2 ?_ | refine dr3 ?_ | refine dr4 ?_)
        refine rn T 99 [] ?_; try (first | refine dr1 ?_ | refine dr2 ?_ | refine dr3 ?_ | refine dr4 ?_)
        rw [wkP (by omega)]
        refine hes (type71 G s hs hsh_nil d (by omega) (k + 1) (by omega) (by omega)) ?_; rintro _ _ ⟨t1, k1, h11, h12, h13, rfl, rfl⟩ _ _; refine op ?_; try (first | refine dr1 ?_ | refine dr2 ?_ | refine dr3 ?_ | refine dr4 ?_)
        refine rn T 99 [] ?_; try (first | refine dr1 ?_ | refine dr2 ?_ | refine dr3 ?_ | refine dr4 ?_)
        rw [wkP (by omega)]
        refine hes (type71 G s hs hsh_nil d (by omega) k1 (by omega) (by omega)) ?_; rintro _ _ ⟨t2, k2, h21, h22, h23, rfl, rfl⟩ _ _; refine op ?_; try (first | refine dr1 ?_ | refine dr2 ?_ | refine dr3 ?_ | refine dr4 ?_)
        refine rn T 99 [] ?_; try (first | refine dr1 ?_ | refine dr2 ?_ | refine dr3 ?_ | refine dr4 ?_)
        exact retL T (xs := [.ag [.vw (.S 1) 2]]) rfl ⟨.inl rfl, trivial⟩ (.ag (fun x hx => by simp at hx; subst hx; exact .vw trivial)) (.inr ⟨t1, t2, k2, h11, h21, by omega, by omega, rfl, rfl⟩)
end Go.Proofs.YtjacjidomopmaaaDoor.K
end
section
namespace Go.Proofs.YtjacjidomopmaaaDoor.K
open Go Go.RowKit Go.Proofs.YtjacjidomopmaaaDoor.En Go.Proofs.YtjacjidomopmaaaDoor.Ty Go.Proofs.YtjacjidomopmaaaDoor.B
set_option maxRecDepth 100000
set_option linter.unusedSimpArgs false
set_option linter.unusedVariables false
set_option pp.deepTerms false
set_option pp.deepTerms.threshold 8
set_option pp.maxSteps 1000
theorem hsh_rw {z : Nat} {t : Nat} {xs : List PV} {H : List AObj} (h : HSh H) : HSh (.rw z t xs :: H) := fun i o ho => by
  cases i with
  | zero =>
    simp only [List.getElem?_cons_zero, Option.some.injEq] at ho
    subst ho
    exact trivial
  | succ i => exact h i o (by simpa using ho)
def OpenM (d : Nat) (s : List Int) (k c : Int) (r : TV) (H' : List AObj) : Prop := ∃ (f0 f1 : Int) (f2 : ByteArray) (k' : Int), k ≤ k' ∧ k' ≤ k + c ∧
  ((r = .ag [.p (pi f0), .p (pi f1), .p (ps f2), .nil, .nil] ∧ H' = [rdr s k']) ∨
   ∃ (p : List Int) (l : List Mn) (P : TV), (l.length ≤ 2 ∧ l.all (dM d) = true) ∧ p.length ≤ 2 ∧ (P = .vw (.S 1) p.length ∨ P = .nil) ∧ r = .ag [.p (pi f0), .p (pi f1), .p (ps f2), P, .vw (.S 2) l.length] ∧ H' = [rdr s k', .rw 1 3 (p.map pi), .rw 5 28 (l.map eM)])
theorem term71v (G : Nat → Option PV) (s : List Int) (hs : Bytes s) (d : Nat) (hd : d + 1 ≤ 20) (k : Int) (hk : 0 ≤ k) (hk1 : k + 16 * 2 ^ (d + 1) ≤ 1099511627776) :
    FE Tryd.prog G 14 [.ptr (.S 0) 0, .p (pi (d + 1 : Nat))] [rdr s k] (OpenM (d + 1) s k (16 * 2 ^ (d + 1) - 8)) := by
    have h2 : (2 : Int) ^ (d + 1) = 2 * 2 ^ d := by rw [Int.pow_succ]; omega
    have h3 : (1 : Int) ≤ 2 ^ d := by
      have : (0 : Int) < 2 ^ d := Int.pow_pos (by omega)
      omega
    refine ⟨?_, _, _, ⟨0, 0, ⟨#[]⟩, k, by omega, by omega, .inl ⟨rfl, rfl⟩⟩, .ag (fun x hx => by simp at hx; rcases hx with rfl | rfl | rfl | rfl | rfl <;> first | exact .p | exact .nil), hsh_rdr hsh_nil⟩
    refine bdy Tryd.func14 (fun d => if d = 26 ∨ d = 48 ∨ d = 62 ∨ d = 74 ∨ d = 87 then 1 else 0) rfl ?_; try (first | refine dr1 ?_ | refine dr2 ?_ | refine dr3 ?_ | refine dr4 ?_)
    refine rn T 99 [] ?_; try (first | refine dr1 ?_ | refine dr2 ?_ | refine dr3 ?_ | refine dr4 ?_)
    refine rn T 3 [] ?_; try (first | refine dr1 ?_ | refine dr2 ?_ | refine dr3 ?_ | refine dr4 ?_)
    by_cases hd0 : d = 0
    · rw [show decide (((d + 1 : Nat) : Int) < 2) = true by simp; omega]
      refine rn T 99 [] ?_; try (first | refine dr1 ?_ | refine dr2 ?_ | refine dr3 ?_ | refine dr4 ?_)
      refine cts ?_; try (first | refine dr1 ?_ | refine dr2 ?_ | refine dr3 ?_ | refine dr4 ?_)
      refine rn T 99 [] ?_; try (first | refine dr1 ?_ | refine dr2 ?_ | refine dr3 ?_ | refine dr4 ?_)
      refine hes (pick G s hs (k) 3 (by omega) (by omega) (by omega) hsh_nil) ?_; rintro _ _ ⟨v, hv0, hv1, rfl, rfl⟩ _ _; refine op ?_; try (first | refine dr1 ?_ | refine dr2 ?_ | refine dr3 ?_ | refine dr4 ?_)
      refine rn T 99 [] ?_; try (first | refine dr1 ?_ | refine dr2 ?_ | refine dr3 ?_ | refine dr4 ?_)
      by_cases hv : v = 0
      · refine ctq rfl (by simp [hv]) ?_; try (first | refine dr1 ?_ | refine dr2 ?_ | refine dr3 ?_ | refine dr4 ?_)
        refine rn T 99 [] ?_; try (first | refine dr1 ?_ | refine dr2 ?_ | refine dr3 ?_ | refine dr4 ?_)
        refine hes (pick G s hs (k + 1) 4 (by omega) (by omega) (by omega) hsh_nil) ?_; rintro _ _ ⟨w, hw0, hw1, rfl, rfl⟩ _ _; refine op ?_; try (first | refine dr1 ?_ | refine dr2 ?_ | refine dr3 ?_ | refine dr4 ?_)
        refine rn T 99 [] ?_; try (first | refine dr1 ?_ | refine dr2 ?_ | refine dr3 ?_ | refine dr4 ?_)
        exact retL T (xs := [.ag [.p (pi 1), .p (pi w), .p (ps ⟨#[]⟩), .nil, .nil]]) rfl ⟨.inl rfl, trivial⟩ (.ag (fun x hx => by simp at hx; rcases hx with rfl | rfl | rfl | rfl | rfl <;> first | exact .p | exact .nil | exact .vw trivial)) ⟨_, _, _, k + 1 + 1, by omega, by omega, .inl ⟨rfl, rfl⟩⟩
      · refine cfq rfl (by simp [hv]) ?_; try (first | refine dr1 ?_ | refine dr2 ?_ | refine dr3 ?_ | refine dr4 ?_)
        refine rn T 99 [] ?_; try (first | refine dr1 ?_ | refine dr2 ?_ | refine dr3 ?_ | refine dr4 ?_)
        refine hes (pick G s hs (k + 1) 3 (by omega) (by omega) (by omega) hsh_nil) ?_; rintro _ _ ⟨w, hw0, hw1, rfl, rfl⟩ _ _; refine op ?_; try (first | refine dr1 ?_ | refine dr2 ?_ | refine dr3 ?_ | refine dr4 ?_)
        obtain rfl | rfl | rfl : w = 0 ∨ w = 1 ∨ w = 2 := by omega
        · refine rn T 99 [ps ⟨#[97]⟩] ?_; try (first | refine dr1 ?_ | refine dr2 ?_ | refine dr3 ?_ | refine dr4 ?_)
          exact retL T (xs := [.ag [.p (pi 2), .p (pi 0), .p (ps ⟨#[97]⟩), .nil, .nil]]) rfl ⟨.inl rfl, trivial⟩ (.ag (fun x hx => by simp at hx; rcases hx with rfl | rfl | rfl | rfl | rfl <;> first | exact .p | exact .nil | exact .vw trivial)) ⟨_, _, _, k + 1 + 1, by omega, by omega, .inl ⟨rfl, rfl⟩⟩
        · refine rn T 99 [ps ⟨#[98]⟩] ?_; try (first | refine dr1 ?_ | refine dr2 ?_ | refine dr3 ?_ | refine dr4 ?_)
          exact retL T (xs := [.ag [.p (pi 2), .p (pi 0), .p (ps ⟨#[98]⟩), .nil, .nil]]) rfl ⟨.inl rfl, trivial⟩ (.ag (fun x hx => by simp at hx; rcases hx with rfl | rfl | rfl | rfl | rfl <;> first | exact .p | exact .nil | exact .vw trivial)) ⟨_, _, _, k + 1 + 1, by omega, by omega, .inl ⟨rfl, rfl⟩⟩
        · refine rn T 99 [ps ⟨#[99]⟩] ?_; try (first | refine dr1 ?_ | refine dr2 ?_ | refine dr3 ?_ | refine dr4 ?_)
          exact retL T (xs := [.ag [.p (pi 2), .p (pi 0), .p (ps ⟨#[99]⟩), .nil, .nil]]) rfl ⟨.inl rfl, trivial⟩ (.ag (fun x hx => by simp at hx; rcases hx with rfl | rfl | rfl | rfl | rfl <;> first | exact .p | exact .nil | exact .vw trivial)) ⟨_, _, _, k + 1 + 1, by omega, by omega, .inl ⟨rfl, rfl⟩⟩
    · rw [show decide (((d + 1 : Nat) : Int) < 2) = false by simp; omega]
      refine rn T 99 [] ?_; try (first | refine dr1 ?_ | refine dr2 ?_ | refine dr3 ?_ | refine dr4 ?_)
      refine hes (pick G s hs k 4 hk (by omega) (by omega) hsh_nil) ?_; rintro _ _ ⟨u, hu0, hu1, rfl, rfl⟩ _ _; refine op ?_; try (first | refine dr1 ?_ | refine dr2 ?_ | refine dr3 ?_ | refine dr4 ?_)
      refine rn T 99 [] ?_; try (first | refine dr1 ?_ | refine dr2 ?_ | refine dr3 ?_ | refine dr4 ?_)
      by_cases hu : u = 0
      · subst hu
        refine cts ?_; try (first | refine dr1 ?_ | refine dr2 ?_ | refine dr3 ?_ | refine dr4 ?_)
        refine rn T 99 [] ?_; try (first | refine dr1 ?_ | refine dr2 ?_ | refine dr3 ?_ | refine dr4 ?_)
        refine hes (pick G s hs (k + 1) 3 (by omega) (by omega) (by omega) hsh_nil) ?_; rintro _ _ ⟨v, hv0, hv1, rfl, rfl⟩ _ _; refine op ?_; try (first | refine dr1 ?_ | refine dr2 ?_ | refine dr3 ?_ | refine dr4 ?_)
        refine rn T 99 [] ?_; try (first | refine dr1 ?_ | refine dr2 ?_ | refine dr3 ?_ | refine dr4 ?_)
        by_cases hv : v = 0
        · refine ctq rfl (by simp [hv]) ?_; try (first | refine dr1 ?_ | refine dr2 ?_ | refine dr3 ?_ | refine dr4 ?_)
          refine rn T 99 [] ?_; try (first | refine dr1 ?_ | refine dr2 ?_ | refine dr3 ?_ | refine dr4 ?_)
          refine hes (pick G s hs (k + 1 + 1) 4 (by omega) (by omega) (by omega) hsh_nil) ?_; rintro _ _ ⟨w, hw0, hw1, rfl, rfl⟩ _ _; refine op ?_; try (first | refine dr1 ?_ | refine dr2 ?_ | refine dr3 ?_ | refine dr4 ?_)
          refine rn T 99 [] ?_; try (first | refine dr1 ?_ | refine dr2 ?_ | refine dr3 ?_ | refine dr4 ?_)
          exact retL T (xs := [.ag [.p (pi 1), .p (pi w), .p (ps ⟨#[]⟩), .nil, .nil]]) rfl ⟨.inl rfl, trivial⟩ (.ag (fun x hx => by simp at hx; rcases hx with rfl | rfl | rfl | rfl | rfl <;> first | exact .p | exact .nil | exact .vw trivial)) ⟨_, _, _, k + 1 + 1 + 1, by omega, by omega, .inl ⟨rfl, rfl⟩⟩
        · refine cfq rfl (by simp [hv]) ?_; try (first | refine dr1 ?_ | refine dr2 ?_ | refine dr3 ?_ | refine dr4 ?_)
          refine rn T 99 [] ?_; try (first | refine dr1 ?_ | refine dr2 ?_ | refine dr3 ?_ | refine dr4 ?_)
          refine hes (pick G s hs (k + 1 + 1) 3 (by omega) (by omega) (by omega) hsh_nil) ?_; rintro _ _ ⟨w, hw0, hw1, rfl, rfl⟩ _ _; refine op ?_; try (first | refine dr1 ?_ | refine dr2 ?_ | refine dr3 ?_ | refine dr4 ?_)
          obtain rfl | rfl | rfl : w = 0 ∨ w = 1 ∨ w = 2 := by omega
          · refine rn T 99 [ps ⟨#[97]⟩] ?_; try (first | refine dr1 ?_ | refine dr2 ?_ | refine dr3 ?_ | refine dr4 ?_)
            exact retL T (xs := [.ag [.p (pi 2), .p (pi 0), .p (ps ⟨#[97]⟩), .nil, .nil]]) rfl ⟨.inl rfl, trivial⟩ (.ag (fun x hx => by simp at hx; rcases hx with rfl | rfl | rfl | rfl | rfl <;> first | exact .p | exact .nil | exact .vw trivial)) ⟨_, _, _, k + 1 + 1 + 1, by omega, by omega, .inl ⟨rfl, rfl⟩⟩
          · refine rn T 99 [ps ⟨#[98]⟩] ?_; try (first | refine dr1 ?_ | refine dr2 ?_ | refine dr3 ?_ | refine dr4 ?_)
            exact retL T (xs := [.ag [.p (pi 2), .p (pi 0), .p (ps ⟨#[98]⟩), .nil, .nil]]) rfl ⟨.inl rfl, trivial⟩ (.ag (fun x hx => by simp at hx; rcases hx with rfl | rfl | rfl | rfl | rfl <;> first | exact .p | exact .nil | exact .vw trivial)) ⟨_, _, _, k + 1 + 1 + 1, by omega, by omega, .inl ⟨rfl, rfl⟩⟩
          · refine rn T 99 [ps ⟨#[99]⟩] ?_; try (first | refine dr1 ?_ | refine dr2 ?_ | refine dr3 ?_ | refine dr4 ?_)
            exact retL T (xs := [.ag [.p (pi 2), .p (pi 0), .p (ps ⟨#[99]⟩), .nil, .nil]]) rfl ⟨.inl rfl, trivial⟩ (.ag (fun x hx => by simp at hx; rcases hx with rfl | rfl | rfl | rfl | rfl <;> first | exact .p | exact .nil | exact .vw trivial)) ⟨_, _, _, k + 1 + 1 + 1, by omega, by omega, .inl ⟨rfl, rfl⟩⟩
      · refine cfq rfl (by simp [hu]) ?_; try (first | refine dr1 ?_ | refine dr2 ?_ | refine dr3 ?_ | refine dr4 ?_)
        refine rn T 99 [] ?_; try (first | refine dr1 ?_ | refine dr2 ?_ | refine dr3 ?_ | refine dr4 ?_)
        refine rn T 99 [] ?_; try (first | refine dr1 ?_ | refine dr2 ?_ | refine dr3 ?_ | refine dr4 ?_)
        refine hes (pick G s hs (k + 1) 3 (by omega) (by omega) (by omega) (hsh_rw hsh_nil)) ?_; rintro _ _ ⟨n, hn0, hn1, rfl, rfl⟩ _ _; refine op ?_; try (first | refine dr1 ?_ | refine dr2 ?_ | refine dr3 ?_ | refine dr4 ?_)
        refine rn T 99 [] ?_; try (first | refine dr1 ?_ | refine dr2 ?_ | refine dr3 ?_ | refine dr4 ?_)
        refine AW.lp (fun x : List Int × Int × Int => MS.mk [(6, .p (pi x.2.2)), (5, .vw (.S 1) x.1.length), (0, .ptr (.S 0) 0), (1, .p (pi (d + 1 : Nat))), (4, .ptr (.L 4) 0)] 89 [(4, .box 28 [.p (pi 0), .p (pi 0), .p (ps ⟨#[]⟩), .nil, .nil])] [rdr s x.2.1, .rw 1 3 (x.1.map pi)]) (fun m x => (m : Int) = x.2.2 ∧ x.1.length + m ≤ 2 ∧ k + 2 ≤ x.2.1 ∧ x.2.1 + x.2.2 ≤ k + 4) n.toNat ([], k + 1 + 1, n) (by simp only [List.length_nil]; omega) (wk_of rfl rfl ⟨.inl rfl, .inl rfl, .inl rfl, .inl rfl, .inl rfl, trivial⟩ ⟨.inl rfl, trivial⟩) ?_
        intro m ⟨p, k', n'⟩ ⟨g1, g2, g3, g4⟩
        simp only at g1 g2 g3 g4
        refine op ?_; try (first | refine dr1 ?_ | refine dr2 ?_ | refine dr3 ?_ | refine dr4 ?_)
        refine rn T 99 [] ?_; try (first | refine dr1 ?_ | refine dr2 ?_ | refine dr3 ?_ | refine dr4 ?_)
        by_cases hm : m = 0
        · subst hm
          refine cfq rfl (by simp; omega) ?_; try (first | refine dr1 ?_ | refine dr2 ?_ | refine dr3 ?_ | refine dr4 ?_)
          refine rn T 99 [] ?_; try (first | refine dr1 ?_ | refine dr2 ?_ | refine dr3 ?_ | refine dr4 ?_)
          refine hes (pick G s hs k' 6 (by omega) (by omega) (by omega) (hsh_rw hsh_nil)) ?_; rintro _ _ ⟨v, hv0, hv1, rfl, rfl⟩ _ _; refine op ?_; try (first | refine dr1 ?_ | refine dr2 ?_ | refine dr3 ?_ | refine dr4 ?_)
          obtain rfl | rfl | rfl | rfl | rfl | rfl : v = 0 ∨ v = 1 ∨ v = 2 ∨ v = 3 ∨ v = 4 ∨ v = 5 := by omega
          · refine rn T 99 [] ?_; try (first | refine dr1 ?_ | refine dr2 ?_ | refine dr3 ?_ | refine dr4 ?_)
            refine cts ?_; try (first | refine dr1 ?_ | refine dr2 ?_ | refine dr3 ?_ | refine dr4 ?_)
            refine cts ?_; try (first | refine dr1 ?_ | refine dr2 ?_ | refine dr3 ?_ | refine dr4 ?_)
            refine rn T 99 [] ?_; try (first | refine dr1 ?_ | refine dr2 ?_ | refine dr3 ?_ | refine dr4 ?_)
            rw [wkP (by omega)]
            refine hes (term71 G s hs (hsh_rw hsh_nil) d (by omega) (k' + 1) (by omega) (by omega)) ?_; rintro _ _ ⟨t1, k1, h11, h12, h13, rfl, rfl⟩ _ _; refine op ?_; try (first | refine dr1 ?_ | refine dr2 ?_ | refine dr3 ?_ | refine dr4 ?_)
            refine rn T 99 [] ?_; try (first | refine dr1 ?_ | refine dr2 ?_ | refine dr3 ?_ | refine dr4 ?_)
            exact retL T (xs := [.ag [.p (pi 7), .p (pi 0), .p (ps ⟨#[]⟩), .vw (.S 1) p.length, .vw (.S 2) 1]]) rfl ⟨.inl rfl, trivial⟩ (.ag (fun x hx => by simp at hx; rcases hx with rfl | rfl | rfl | rfl | rfl <;> first | exact .p | exact .nil | exact .vw trivial)) ⟨_, _, _, k1, by omega, by omega, .inr ⟨p, [t1], .vw (.S 1) p.length, ⟨by simp, by simp [h11]⟩, by omega, .inl rfl, rfl, by simp only [List.map_cons, List.map_nil, eM_eq]; rfl⟩⟩
          · refine rn T 99 [] ?_; try (first | refine dr1 ?_ | refine dr2 ?_ | refine dr3 ?_ | refine dr4 ?_)
            refine cfs ?_; try (first | refine dr1 ?_ | refine dr2 ?_ | refine dr3 ?_ | refine dr4 ?_)
            refine rn T 99 [] ?_; try (first | refine dr1 ?_ | refine dr2 ?_ | refine dr3 ?_ | refine dr4 ?_)
            refine cts ?_; try (first | refine dr1 ?_ | refine dr2 ?_ | refine dr3 ?_ | refine dr4 ?_)
            refine rn T 99 [] ?_; try (first | refine dr1 ?_ | refine dr2 ?_ | refine dr3 ?_ | refine dr4 ?_)
            rw [wkP (by omega)]
            refine hes (term71 G s hs (hsh_rw hsh_nil) d (by omega) (k' + 1) (by omega) (by omega)) ?_; rintro _ _ ⟨t1, k1, h11, h12, h13, rfl, rfl⟩ _ _; refine op ?_; try (first | refine dr1 ?_ | refine dr2 ?_ | refine dr3 ?_ | refine dr4 ?_)
            refine rn T 99 [] ?_; try (first | refine dr1 ?_ | refine dr2 ?_ | refine dr3 ?_ | refine dr4 ?_)
            exact retL T (xs := [.ag [.p (pi 7), .p (pi 0), .p (ps ⟨#[]⟩), .vw (.S 1) p.length, .vw (.S 2) 1]]) rfl ⟨.inl rfl, trivial⟩ (.ag (fun x hx => by simp at hx; rcases hx with rfl | rfl | rfl | rfl | rfl <;> first | exact .p | exact .nil | exact .vw trivial)) ⟨_, _, _, k1, by omega, by omega, .inr ⟨p, [t1], .vw (.S 1) p.length, ⟨by simp, by simp [h11]⟩, by omega, .inl rfl, rfl, by simp only [List.map_cons, List.map_nil, eM_eq]; rfl⟩⟩
          · refine rn T 99 [] ?_; try (first | refine dr1 ?_ | refine dr2 ?_ | refine dr3 ?_ | refine dr4 ?_)
            refine cfs ?_; try (first | refine dr1 ?_ | refine dr2 ?_ | refine dr3 ?_ | refine dr4 ?_)
            refine rn T 99 [] ?_; try (first | refine dr1 ?_ | refine dr2 ?_ | refine dr3 ?_ | refine dr4 ?_)
            refine cfs ?_; try (first | refine dr1 ?_ | refine dr2 ?_ | refine dr3 ?_ | refine dr4 ?_)
            refine rn T 99 [] ?_; try (first | refine dr1 ?_ | refine dr2 ?_ | refine dr3 ?_ | refine dr4 ?_)
            refine cts ?_; try (first | refine dr1 ?_ | refine dr2 ?_ | refine dr3 ?_ | refine dr4 ?_)
            refine cts ?_; try (first | refine dr1 ?_ | refine dr2 ?_ | refine dr3 ?_ | refine dr4 ?_)
            refine rn T 99 [] ?_; try (first | refine dr1 ?_ | refine dr2 ?_ | refine dr3 ?_ | refine dr4 ?_)
            rw [wkP (by omega)]
            refine hes (term71 G s hs (hsh_rw hsh_nil) d (by omega) (k' + 1) (by omega) (by omega)) ?_; rintro _ _ ⟨t1, k1, h11, h12, h13, rfl, rfl⟩ _ _; refine op ?_; try (first | refine dr1 ?_ | refine dr2 ?_ | refine dr3 ?_ | refine dr4 ?_)
            refine rn T 99 [] ?_; try (first | refine dr1 ?_ | refine dr2 ?_ | refine dr3 ?_ | refine dr4 ?_)
            rw [wkP (by omega)]
            refine hes (term71 G s hs (hsh_rw hsh_nil) d (by omega) k1 (by omega) (by omega)) ?_; rintro _ _ ⟨t2, k2, h21, h22, h23, rfl, rfl⟩ _ _; refine op ?_; try (first | refine dr1 ?_ | refine dr2 ?_ | refine dr3 ?_ | refine dr4 ?_)
            refine rn T 99 [] ?_; try (first | refine dr1 ?_ | refine dr2 ?_ | refine dr3 ?_ | refine dr4 ?_)
            exact retL T (xs := [.ag [.p (pi 8), .p (pi 0), .p (ps ⟨#[]⟩), .vw (.S 1) p.length, .vw (.S 2) 2]]) rfl ⟨.inl rfl, trivial⟩ (.ag (fun x hx => by simp at hx; rcases hx with rfl | rfl | rfl | rfl | rfl <;> first | exact .p | exact .nil | exact .vw trivial)) ⟨_, _, _, k2, by omega, by omega, .inr ⟨p, [t1, t2], .vw (.S 1) p.length, ⟨by simp, by simp [h11, h21]⟩, by omega, .inl rfl, rfl, by simp only [List.map_cons, List.map_nil, eM_eq]; rfl⟩⟩
          · refine rn T 99 [] ?_; try (first | refine dr1 ?_ | refine dr2 ?_ | refine dr3 ?_ | refine dr4 ?_)
            refine cfs ?_; try (first | refine dr1 ?_ | refine dr2 ?_ | refine dr3 ?_ | refine dr4 ?_)
            refine rn T 99 [] ?_; try (first | refine dr1 ?_ | refine dr2 ?_ | refine dr3 ?_ | refine dr4 ?_)
            refine cfs ?_; try (first | refine dr1 ?_ | refine dr2 ?_ | refine dr3 ?_ | refine dr4 ?_)
            refine rn T 99 [] ?_; try (first | refine dr1 ?_ | refine dr2 ?_ | refine dr3 ?_ | refine dr4 ?_)
            refine cfs ?_; try (first | refine dr1 ?_ | refine dr2 ?_ | refine dr3 ?_ | refine dr4 ?_)
            refine rn T 99 [] ?_; try (first | refine dr1 ?_ | refine dr2 ?_ | refine dr3 ?_ | refine dr4 ?_)
            refine cts ?_; try (first | refine dr1 ?_ | refine dr2 ?_ | refine dr3 ?_ | refine dr4 ?_)
            refine rn T 99 [] ?_; try (first | refine dr1 ?_ | refine dr2 ?_ | refine dr3 ?_ | refine dr4 ?_)
            rw [wkP (by omega)]
            refine hes (term71 G s hs (hsh_rw hsh_nil) d (by omega) (k' + 1) (by omega) (by omega)) ?_; rintro _ _ ⟨t1, k1, h11, h12, h13, rfl, rfl⟩ _ _; refine op ?_; try (first | refine dr1 ?_ | refine dr2 ?_ | refine dr3 ?_ | refine dr4 ?_)
            refine rn T 99 [] ?_; try (first | refine dr1 ?_ | refine dr2 ?_ | refine dr3 ?_ | refine dr4 ?_)
            rw [wkP (by omega)]
            refine hes (term71 G s hs (hsh_rw hsh_nil) d (by omega) k1 (by omega) (by omega)) ?_; rintro _ _ ⟨t2, k2, h21, h22, h23, rfl, rfl⟩ _ _; refine op ?_; try (first | refine dr1 ?_ | refine dr2 ?_ | refine dr3 ?_ | refine dr4 ?_)
            refine rn T 99 [] ?_; try (first | refine dr1 ?_ | refine dr2 ?_ | refine dr3 ?_ | refine dr4 ?_)
            exact retL T (xs := [.ag [.p (pi 8), .p (pi 0), .p (ps ⟨#[]⟩), .vw (.S 1) p.length, .vw (.S 2) 2]]) rfl ⟨.inl rfl, trivial⟩ (.ag (fun x hx => by simp at hx; rcases hx with rfl | rfl | rfl | rfl | rfl <;> first | exact .p | exact .nil | exact .vw trivial)) ⟨_, _, _, k2, by omega, by omega, .inr ⟨p, [t1, t2], .vw (.S 1) p.length, ⟨by simp, by simp [h11, h21]⟩, by omega, .inl rfl, rfl, by simp only [List.map_cons, List.map_nil, eM_eq]; rfl⟩⟩
          · refine rn T 99 [] ?_; try (first | refine dr1 ?_ | refine dr2 ?_ | refine dr3 ?_ | refine dr4 ?_)
            refine cfs ?_; try (first | refine dr1 ?_ | refine dr2 ?_ | refine dr3 ?_ | refine dr4 ?_)
            refine rn T 99 [] ?_; try (first | refine dr1 ?_ | refine dr2 ?_ | refine dr3 ?_ | refine dr4 ?_)
            refine cfs ?_; try (first | refine dr1 ?_ | refine dr2 ?_ | refine dr3 ?_ | refine dr4 ?_)
            refine rn T 99 [] ?_; try (first | refine dr1 ?_ | refine dr2 ?_ | refine dr3 ?_ | refine dr4 ?_)
            refine cfs ?_; try (first | refine dr1 ?_ | refine dr2 ?_ | refine dr3 ?_ | refine dr4 ?_)
            refine rn T 99 [] ?_; try (first | refine dr1 ?_ | refine dr2 ?_ | refine dr3 ?_ | refine dr4 ?_)
            refine cfs ?_; try (first | refine dr1 ?_ | refine dr2 ?_ | refine dr3 ?_ | refine dr4 ?_)
            refine rn T 99 [] ?_; try (first | refine dr1 ?_ | refine dr2 ?_ | refine dr3 ?_ | refine dr4 ?_)
            refine cts ?_; try (first | refine dr1 ?_ | refine dr2 ?_ | refine dr3 ?_ | refine dr4 ?_)
            refine rn T 99 [] ?_; try (first | refine dr1 ?_ | refine dr2 ?_ | refine dr3 ?_ | refine dr4 ?_)
            rw [wkP (by omega)]
            refine hes (term71 G s hs (hsh_rw hsh_nil) d (by omega) (k' + 1) (by omega) (by omega)) ?_; rintro _ _ ⟨t1, k1, h11, h12, h13, rfl, rfl⟩ _ _; refine op ?_; try (first | refine dr1 ?_ | refine dr2 ?_ | refine dr3 ?_ | refine dr4 ?_)
            refine rn T 99 [] ?_; try (first | refine dr1 ?_ | refine dr2 ?_ | refine dr3 ?_ | refine dr4 ?_)
            rw [wkP (by omega)]
            refine hes (term71 G s hs (hsh_rw hsh_nil) d (by omega) k1 (by omega) (by omega)) ?_; rintro _ _ ⟨t2, k2, h21, h22, h23, rfl, rfl⟩ _ _; refine op ?_; try (first | refine dr1 ?_ | refine dr2 ?_ | refine dr3 ?_ | refine dr4 ?_)
            refine rn T 99 [] ?_; try (first | refine dr1 ?_ | refine dr2 ?_ | refine dr3 ?_ | refine dr4 ?_)
            exact retL T (xs := [.ag [.p (pi (6)), .p (pi 0), .p (ps ⟨#[]⟩), .nil, .vw (.S 2) 2]]) rfl ⟨.inl rfl, trivial⟩ (.ag (fun x hx => by simp at hx; rcases hx with rfl | rfl | rfl | rfl | rfl <;> first | exact .p | exact .nil | exact .vw trivial)) ⟨_, _, _, k2, by omega, by omega, .inr ⟨p, [t1, t2], .nil, ⟨by simp, by simp [h11, h21]⟩, by omega, .inr rfl, rfl, by simp only [List.map_cons, List.map_nil, eM_eq]; rfl⟩⟩
          · refine rn T 99 [] ?_; try (first | refine dr1 ?_ | refine dr2 ?_ | refine dr3 ?_ | refine dr4 ?_)
            refine cfs ?_; try (first | refine dr1 ?_ | refine dr2 ?_ | refine dr3 ?_ | refine dr4 ?_)
            refine rn T 99 [] ?_; try (first | refine dr1 ?_ | refine dr2 ?_ | refine dr3 ?_ | refine dr4 ?_)
            refine cfs ?_; try (first | refine dr1 ?_ | refine dr2 ?_ | refine dr3 ?_ | refine dr4 ?_)
            refine rn T 99 [] ?_; try (first | refine dr1 ?_ | refine dr2 ?_ | refine dr3 ?_ | refine dr4 ?_)
            refine cfs ?_; try (first | refine dr1 ?_ | refine dr2 ?_ | refine dr3 ?_ | refine dr4 ?_)
            refine rn T 99 [] ?_; try (first | refine dr1 ?_ | refine dr2 ?_ | refine dr3 ?_ | refine dr4 ?_)
            refine cfs ?_; try (first | refine dr1 ?_ | refine dr2 ?_ | refine dr3 ?_ | refine dr4 ?_)
            refine rn T 99 [] ?_; try (first | refine dr1 ?_ | refine dr2 ?_ | refine dr3 ?_ | refine dr4 ?_)
            refine cfs ?_; try (first | refine dr1 ?_ | refine dr2 ?_ | refine dr3 ?_ | refine dr4 ?_)
            refine rn T 99 [] ?_; try (first | refine dr1 ?_ | refine dr2 ?_ | refine dr3 ?_ | refine dr4 ?_)
            refine hes (pick G s hs (k' + 1) 3 (by omega) (by omega) (by omega) (hsh_rw hsh_nil)) ?_; rintro _ _ ⟨w, hw0, hw1, rfl, rfl⟩ _ _; refine op ?_; try (first | refine dr1 ?_ | refine dr2 ?_ | refine dr3 ?_ | refine dr4 ?_)
            refine rn T 1 [] ?_; try (first | refine dr1 ?_ | refine dr2 ?_ | refine dr3 ?_ | refine dr4 ?_)
            rw [wk (n := 3 + w) (by omega) (by omega)]
            refine rn T 99 [] ?_; try (first | refine dr1 ?_ | refine dr2 ?_ | refine dr3 ?_ | refine dr4 ?_)
            rw [wkP (by omega)]
            refine hes (term71 G s hs (hsh_rw hsh_nil) d (by omega) (k' + 1 + 1) (by omega) (by omega)) ?_; rintro _ _ ⟨t1, k1, h11, h12, h13, rfl, rfl⟩ _ _; refine op ?_; try (first | refine dr1 ?_ | refine dr2 ?_ | refine dr3 ?_ | refine dr4 ?_)
            refine rn T 99 [] ?_; try (first | refine dr1 ?_ | refine dr2 ?_ | refine dr3 ?_ | refine dr4 ?_)
            rw [wkP (by omega)]
            refine hes (term71 G s hs (hsh_rw hsh_nil) d (by omega) k1 (by omega) (by omega)) ?_; rintro _ _ ⟨t2, k2, h21, h22, h23, rfl, rfl⟩ _ _; refine op ?_; try (first | refine dr1 ?_ | refine dr2 ?_ | refine dr3 ?_ | refine dr4 ?_)
            refine rn T 99 [] ?_; try (first | refine dr1 ?_ | refine dr2 ?_ | refine dr3 ?_ | refine dr4 ?_)
            exact retL T (xs := [.ag [.p (pi (3 + w)), .p (pi 0), .p (ps ⟨#[]⟩), .nil, .vw (.S 2) 2]]) rfl ⟨.inl rfl, trivial⟩ (.ag (fun x hx => by simp at hx; rcases hx with rfl | rfl | rfl | rfl | rfl <;> first | exact .p | exact .nil | exact .vw trivial)) ⟨_, _, _, k2, by omega, by omega, .inr ⟨p, [t1, t2], .nil, ⟨by simp, by simp [h11, h21]⟩, by omega, .inr rfl, rfl, by simp only [List.map_cons, List.map_nil, eM_eq]; rfl⟩⟩
        · refine ctq rfl (by simp; omega) ?_; try (first | refine dr1 ?_ | refine dr2 ?_ | refine dr3 ?_ | refine dr4 ?_)
          refine rn T 99 [] ?_; try (first | refine dr1 ?_ | refine dr2 ?_ | refine dr3 ?_ | refine dr4 ?_)
          refine hes (pick G s hs k' 2 (by omega) (by omega) (by omega) (hsh_rw hsh_nil)) ?_; rintro _ _ ⟨v, hv0, hv1, rfl, rfl⟩ _ _; refine op ?_; try (first | refine dr1 ?_ | refine dr2 ?_ | refine dr3 ?_ | refine dr4 ?_)
          refine rn T 99 [] ?_; try (first | refine dr1 ?_ | refine dr2 ?_ | refine dr3 ?_ | refine dr4 ?_)
          refine rn T 99 [] ?_; try (first | refine dr1 ?_ | refine dr2 ?_ | refine dr3 ?_ | refine dr4 ?_)
          have hlen : p.length + [pi v].length = (p ++ [v]).length := by simp
          have hq : p.map pi ++ [pi v] = (p ++ [v]).map pi := by simp
          rw [List.length_map, hlen, hq, wk (n := n' - 1) (by omega) (by omega)]
          refine nxt (m - 1) ((p ++ [v], k' + 1, n' - 1)) (⟨by simp only; omega, by simp only [List.length_append, List.length_singleton]; omega, by simp only; omega, by simp only; omega⟩)
end Go.Proofs.YtjacjidomopmaaaDoor.K
end
section
namespace Go.Proofs.YtjacjidomopmaaaDoor.K
open Go Go.RowKit Go.Proofs.YtjacjidomopmaaaDoor.En Go.Proofs.YtjacjidomopmaaaDoor.Ty Go.Proofs.YtjacjidomopmaaaDoor.B
set_option maxRecDepth 100000
set_option linter.unusedSimpArgs false
set_option linter.unusedVariables false
set_option pp.deepTerms false
set_option pp.deepTerms.threshold 8
set_option pp.maxSteps 1000
theorem deep71 (G : Nat → Option PV) (s : List Int) (hs : Bytes s) (k : Int) (hk : 0 ≤ k) (hk1 : k ≤ 1099511000000) :
    FE Tryd.prog G 16 [.ptr (.S 0) 0] [rdr s k] (fun r H' => ∃ t k' X, k ≤ k' ∧ k' ≤ k + 40 ∧ r = .p (pt t) ∧ H' = rdr s k' :: X) := by
  refine ⟨?_, _, _, ⟨[], k, [], by omega, by omega, rfl, rfl⟩, .p, hsh_rdr hsh_nil⟩
  refine bdy Tryd.func16 (fun _ => 0) rfl ?_; try (first | refine dr1 ?_ | refine dr2 ?_ | refine dr3 ?_ | refine dr4 ?_)
  refine rn T 99 [] ?_; try (first | refine dr1 ?_ | refine dr2 ?_ | refine dr3 ?_ | refine dr4 ?_)
  refine rn T 99 [] ?_; try (first | refine dr1 ?_ | refine dr2 ?_ | refine dr3 ?_ | refine dr4 ?_)
  refine hes (pick G s hs k 4 hk (by omega) (by omega) hsh_nil) ?_; rintro _ _ ⟨d, hd0, hd1, rfl, rfl⟩ _ _; refine op ?_; try (first | refine dr1 ?_ | refine dr2 ?_ | refine dr3 ?_ | refine dr4 ?_)
  refine rn T 1 [] ?_; try (first | refine dr1 ?_ | refine dr2 ?_ | refine dr3 ?_ | refine dr4 ?_)
  rw [wk (n := 1 + d) (by omega) (by omega)]
  obtain ⟨n, hn⟩ : ∃ n : Nat, 1 + d = (n : Int) := ⟨(1 + d).toNat, by omega⟩
  rw [hn]
  have hp : (2 : Int) ^ n ≤ 16 := by
    have : n = 1 ∨ n = 2 ∨ n = 3 ∨ n = 4 := by omega
    rcases this with rfl | rfl | rfl | rfl <;> decide
  refine hes (type71v G s hs n (by omega) (k + 1) (by omega) (by omega)) ?_; rintro _ _ h _ _; refine op ?_; try (first | refine dr1 ?_ | refine dr2 ?_ | refine dr3 ?_ | refine dr4 ?_)
  rcases h with ⟨k', h1, h2, rfl, rfl⟩ | ⟨a, b, k', ha, hb, h1, h2, rfl, rfl⟩
  · refine rn T 99 [] ?_; try (first | refine dr1 ?_ | refine dr2 ?_ | refine dr3 ?_ | refine dr4 ?_)
    refine rn T 99 [] ?_; try (first | refine dr1 ?_ | refine dr2 ?_ | refine dr3 ?_ | refine dr4 ?_)
    refine hes (pick G s hs k' 12 (by omega) (by omega) (by omega) hsh_nil) ?_; rintro _ _ ⟨v, hv0, hv1, rfl, rfl⟩ _ _; refine op ?_; try (first | refine dr1 ?_ | refine dr2 ?_ | refine dr3 ?_ | refine dr4 ?_)
    refine rn T 99 [] ?_; try (first | refine dr1 ?_ | refine dr2 ?_ | refine dr3 ?_ | refine dr4 ?_)
    by_cases hv : v = 0
    · refine ctq rfl (by simp [hv]) ?_; try (first | refine dr1 ?_ | refine dr2 ?_ | refine dr3 ?_ | refine dr4 ?_)
      refine rn T 99 [] ?_; try (first | refine dr1 ?_ | refine dr2 ?_ | refine dr3 ?_ | refine dr4 ?_)
      refine AW.lp (fun x : Nat × List Tn => MS.mk [(4, .p (pi x.1)), (3, .ptr (.L 3) 0), (2, .ptr (.L 2) 0)] 31 [(3, .box 32 [.p (.row 1 (x.2.map eT))]), (2, .box 32 [.nil])] [rdr s (k' + 1)]) (fun m x => m + x.1 = 5) 5 (0, []) rfl (wk_of rfl rfl ⟨.inl rfl, .inl rfl, .inl rfl, trivial⟩ ⟨.inr ⟨_, _, _, rfl, rfl, .inr ⟨_, relT_pv _ _ _ (by simp [relT]), rfl⟩, trivial⟩, .inl rfl, trivial⟩) ?_
      intro m ⟨i, u⟩ g1
      simp only at g1
      refine op ?_; try (first | refine dr1 ?_ | refine dr2 ?_ | refine dr3 ?_ | refine dr4 ?_)
      refine rn T 99 [] ?_; try (first | refine dr1 ?_ | refine dr2 ?_ | refine dr3 ?_ | refine dr4 ?_)
      by_cases hi : i < 5
      · refine ctq rfl (by simp; omega) ?_; try (first | refine dr1 ?_ | refine dr2 ?_ | refine dr3 ?_ | refine dr4 ?_)
        refine rn T 99 [] ?_; try (first | refine dr1 ?_ | refine dr2 ?_ | refine dr3 ?_ | refine dr4 ?_)
        refine rn T 99 [] ?_; try (first | refine dr1 ?_ | refine dr2 ?_ | refine dr3 ?_ | refine dr4 ?_)
        rw [wkS (by omega)]
        exact RoundM.next (m - 1) (i + 1, [⟨u⟩, ⟨[]⟩]) (by omega) (by simp only; omega) rfl rfl ⟨.inl rfl, .inl rfl, .inl rfl, trivial⟩ ⟨.inr ⟨_, _, _, rfl, rfl, .inr ⟨_, relT_pv _ _ _ (by exact ⟨rfl, by simp [eT_eq, Tn.f0], rfl⟩), rfl⟩, trivial⟩, .inl rfl, trivial⟩
      · refine cfq rfl (by simp; omega) ?_; try (first | refine dr1 ?_ | refine dr2 ?_ | refine dr3 ?_ | refine dr4 ?_)
        refine rn T 99 [] ?_; try (first | refine dr1 ?_ | refine dr2 ?_ | refine dr3 ?_ | refine dr4 ?_)
        exact rt1 T (pt u) (⟨_, k' + 1, _, by omega, by omega, rfl, rfl⟩)
    · refine cfq rfl (by simp [hv]) ?_; try (first | refine dr1 ?_ | refine dr2 ?_ | refine dr3 ?_ | refine dr4 ?_)
      refine rn T 99 [] ?_; try (first | refine dr1 ?_ | refine dr2 ?_ | refine dr3 ?_ | refine dr4 ?_)
      by_cases hw : v = 1
      · refine ctq rfl (by simp [hw]) ?_; try (first | refine dr1 ?_ | refine dr2 ?_ | refine dr3 ?_ | refine dr4 ?_)
        refine rn T 99 [] ?_; try (first | refine dr1 ?_ | refine dr2 ?_ | refine dr3 ?_ | refine dr4 ?_)
        refine rn T 99 [] ?_; try (first | refine dr1 ?_ | refine dr2 ?_ | refine dr3 ?_ | refine dr4 ?_)
        exact rt1 T (pt [⟨[]⟩]) (⟨_, k' + 1, _, by omega, by omega, rfl, rfl⟩)
      · refine cfq rfl (by simp [hw]) ?_; try (first | refine dr1 ?_ | refine dr2 ?_ | refine dr3 ?_ | refine dr4 ?_)
        refine rn T 99 [] ?_; try (first | refine dr1 ?_ | refine dr2 ?_ | refine dr3 ?_ | refine dr4 ?_)
        exact rt1 T (pt []) (⟨_, k' + 1, _, by omega, by omega, rfl, rfl⟩)
  · refine rn T 99 [] ?_; try (first | refine dr1 ?_ | refine dr2 ?_ | refine dr3 ?_ | refine dr4 ?_)
    refine rn T 99 [] ?_; try (first | refine dr1 ?_ | refine dr2 ?_ | refine dr3 ?_ | refine dr4 ?_)
    refine hes (pick G s hs k' 12 (by omega) (by omega) (by omega) (hsh_rw hsh_nil)) ?_; rintro _ _ ⟨v, hv0, hv1, rfl, rfl⟩ _ _; refine op ?_; try (first | refine dr1 ?_ | refine dr2 ?_ | refine dr3 ?_ | refine dr4 ?_)
    refine rn T 99 [] ?_; try (first | refine dr1 ?_ | refine dr2 ?_ | refine dr3 ?_ | refine dr4 ?_)
    by_cases hv : v = 0
    · refine ctq rfl (by simp [hv]) ?_; try (first | refine dr1 ?_ | refine dr2 ?_ | refine dr3 ?_ | refine dr4 ?_)
      refine rn T 99 [] ?_; try (first | refine dr1 ?_ | refine dr2 ?_ | refine dr3 ?_ | refine dr4 ?_)
      refine AW.lp (fun x : Nat × List Tn => MS.mk [(4, .p (pi x.1)), (3, .ptr (.L 3) 0), (2, .ptr (.L 2) 0)] 31 [(3, .box 32 [.p (.row 1 (x.2.map eT))]), (2, .box 32 [.nil])] [rdr s (k' + 1), .rw 1 32 [pt a, pt b]]) (fun m x => m + x.1 = 5) 5 (0, [⟨a⟩, ⟨b⟩]) rfl (wk_of rfl rfl ⟨.inl rfl, .inl rfl, .inl rfl, trivial⟩ ⟨.inr ⟨_, _, _, rfl, rfl, .inr ⟨_, relT_pv _ _ _ (by exact ⟨rfl, by simp [eT_eq, Tn.f0], rfl⟩), rfl⟩, trivial⟩, .inl rfl, trivial⟩) ?_
      intro m ⟨i, u⟩ g1
      simp only at g1
      refine op ?_; try (first | refine dr1 ?_ | refine dr2 ?_ | refine dr3 ?_ | refine dr4 ?_)
      refine rn T 99 [] ?_; try (first | refine dr1 ?_ | refine dr2 ?_ | refine dr3 ?_ | refine dr4 ?_)
      by_cases hi : i < 5
      · refine ctq rfl (by simp; omega) ?_; try (first | refine dr1 ?_ | refine dr2 ?_ | refine dr3 ?_ | refine dr4 ?_)
        refine rn T 99 [] ?_; try (first | refine dr1 ?_ | refine dr2 ?_ | refine dr3 ?_ | refine dr4 ?_)
        refine rn T 99 [] ?_; try (first | refine dr1 ?_ | refine dr2 ?_ | refine dr3 ?_ | refine dr4 ?_)
        rw [wkS (by omega)]
        exact RoundM.next (m - 1) (i + 1, [⟨u⟩, ⟨[]⟩]) (by omega) (by simp only; omega) rfl rfl ⟨.inl rfl, .inl rfl, .inl rfl, trivial⟩ ⟨.inr ⟨_, _, _, rfl, rfl, .inr ⟨_, relT_pv _ _ _ (by exact ⟨rfl, by simp [eT_eq, Tn.f0], rfl⟩), rfl⟩, trivial⟩, .inl rfl, trivial⟩
      · refine cfq rfl (by simp; omega) ?_; try (first | refine dr1 ?_ | refine dr2 ?_ | refine dr3 ?_ | refine dr4 ?_)
        refine rn T 99 [] ?_; try (first | refine dr1 ?_ | refine dr2 ?_ | refine dr3 ?_ | refine dr4 ?_)
        exact rt1 T (pt u) (⟨_, k' + 1, _, by omega, by omega, rfl, rfl⟩)
    · refine cfq rfl (by simp [hv]) ?_; try (first | refine dr1 ?_ | refine dr2 ?_ | refine dr3 ?_ | refine dr4 ?_)
      refine rn T 99 [] ?_; try (first | refine dr1 ?_ | refine dr2 ?_ | refine dr3 ?_ | refine dr4 ?_)
      by_cases hw : v = 1
      · refine ctq rfl (by simp [hw]) ?_; try (first | refine dr1 ?_ | refine dr2 ?_ | refine dr3 ?_ | refine dr4 ?_)
        refine rn T 99 [] ?_; try (first | refine dr1 ?_ | refine dr2 ?_ | refine dr3 ?_ | refine dr4 ?_)
        refine rn T 99 [] ?_; try (first | refine dr1 ?_ | refine dr2 ?_ | refine dr3 ?_ | refine dr4 ?_)
        exact rt1 T (pt [⟨a⟩, ⟨b⟩, ⟨[]⟩]) (⟨_, k' + 1, _, by omega, by omega, rfl, rfl⟩)
      · refine cfq rfl (by simp [hw]) ?_; try (first | refine dr1 ?_ | refine dr2 ?_ | refine dr3 ?_ | refine dr4 ?_)
        refine rn T 99 [] ?_; try (first | refine dr1 ?_ | refine dr2 ?_ | refine dr3 ?_ | refine dr4 ?_)
        exact rt1 T (pt [⟨a⟩, ⟨b⟩]) (⟨_, k' + 1, _, by omega, by omega, rfl, rfl⟩)
end Go.Proofs.YtjacjidomopmaaaDoor.K
end
section
namespace Go.Proofs.YtjacjidomopmaaaDoor.K
open Go Go.RowKit Go.Proofs.YtjacjidomopmaaaDoor.En Go.Proofs.YtjacjidomopmaaaDoor.Ty Go.Proofs.YtjacjidomopmaaaDoor.B
set_option maxRecDepth 100000
set_option linter.unusedSimpArgs false
set_option linter.unusedVariables false
set_option pp.deepTerms false
set_option pp.deepTerms.threshold 8
set_option pp.maxSteps 1000
set_option maxHeartbeats 1000000
theorem odd71 (G : Nat → Option PV) (s : List Int) (hs : Bytes s) (k : Int) (hk : 0 ≤ k) (hk1 : k ≤ 1099511000000) :
    FE Tryd.prog G 17 [.ptr (.S 0) 0] [rdr s k] (fun r H' => ∃ (t : Mn) (k' : Int) (X : List AObj), dM 6 t = true ∧ k ≤ k' ∧ k' ≤ k + 600 ∧ r = .p (pm t) ∧ H' = rdr s k' :: X) := by
  refine ⟨?_, _, _, ⟨⟨0, 0, ⟨#[]⟩, [], []⟩, k, [], dM0, by omega, by omega, rfl, rfl⟩, .p, hsh_rdr hsh_nil⟩
  have hp : (2 : Int) ^ (4 + 1) = 32 := rfl
  refine bdy Tryd.func17 (fun _ => 0) rfl ?_; try (first | refine dr1 ?_ | refine dr2 ?_ | refine dr3 ?_ | refine dr4 ?_)
  refine rn T 99 [] ?_; try (first | refine dr1 ?_ | refine dr2 ?_ | refine dr3 ?_ | refine dr4 ?_)
  refine rn T 99 [] ?_; try (first | refine dr1 ?_ | refine dr2 ?_ | refine dr3 ?_ | refine dr4 ?_)
  refine hes (term71v G s hs 4 (by omega) k hk (by omega)) ?_; rintro _ _ h _ _; refine op ?_; try (first | refine dr1 ?_ | refine dr2 ?_ | refine dr3 ?_ | refine dr4 ?_)
  rcases h with ⟨f0, f1, f2, k', h1, h2, ⟨rfl, rfl⟩ | ⟨p, l, P, hl, hpl, hP, rfl, rfl⟩⟩
  · refine rn T 99 [] ?_; try (first | refine dr1 ?_ | refine dr2 ?_ | refine dr3 ?_ | refine dr4 ?_)
    refine rn T 99 [] ?_; try (first | refine dr1 ?_ | refine dr2 ?_ | refine dr3 ?_ | refine dr4 ?_)
    refine hes (pick G s hs k' 20 (by omega) (by omega) (by omega) hsh_nil) ?_; rintro _ _ ⟨v, hv0, hv1, rfl, rfl⟩ _ _; refine op ?_; try (first | refine dr1 ?_ | refine dr2 ?_ | refine dr3 ?_ | refine dr4 ?_)
    refine rn T 99 [] ?_; try (first | refine dr1 ?_ | refine dr2 ?_ | refine dr3 ?_ | refine dr4 ?_)
    by_cases c0 : v = 0
    · refine ctq rfl (by simp [c0]) ?_; try (first | refine dr1 ?_ | refine dr2 ?_ | refine dr3 ?_ | refine dr4 ?_)
      refine rn T 99 [] ?_; try (first | refine dr1 ?_ | refine dr2 ?_ | refine dr3 ?_ | refine dr4 ?_)
      refine hes (pick G s hs (k' + 1) 10 (by omega) (by omega) (by omega) hsh_nil) ?_; rintro _ _ ⟨x, hx0, hx1, rfl, rfl⟩ _ _; refine op ?_; try (first | refine dr1 ?_ | refine dr2 ?_ | refine dr3 ?_ | refine dr4 ?_)
      refine rn T 99 [] ?_; try (first | refine dr1 ?_ | refine dr2 ?_ | refine dr3 ?_ | refine dr4 ?_)
      refine rn T 99 [] ?_; try (first | refine dr1 ?_ | refine dr2 ?_ | refine dr3 ?_ | refine dr4 ?_)
      exact rt1 T (pm ⟨x, f1, f2, [], []⟩) (⟨⟨x, f1, f2, [], []⟩, k' + 1 + 1, _, by first | exact dM0 | exact dMl hl, by omega, by omega, rfl, rfl⟩)
    · refine cfq rfl (by simp [c0]) ?_; try (first | refine dr1 ?_ | refine dr2 ?_ | refine dr3 ?_ | refine dr4 ?_)
      refine rn T 99 [] ?_; try (first | refine dr1 ?_ | refine dr2 ?_ | refine dr3 ?_ | refine dr4 ?_)
      by_cases c1 : v = 1
      · refine ctq rfl (by simp [c1]) ?_; try (first | refine dr1 ?_ | refine dr2 ?_ | refine dr3 ?_ | refine dr4 ?_)
        refine rn T 2 [] ?_; try (first | refine dr1 ?_ | refine dr2 ?_ | refine dr3 ?_ | refine dr4 ?_)
        refine hes (pick G s hs (k' + 1) 3 (by omega) (by omega) (by omega) hsh_nil) ?_; rintro _ _ ⟨x, hx0, hx1, rfl, rfl⟩ _ _; refine op ?_; try (first | refine dr1 ?_ | refine dr2 ?_ | refine dr3 ?_ | refine dr4 ?_)
        obtain rfl | rfl | rfl : x = 0 ∨ x = 1 ∨ x = 2 := by omega
        · refine rn T 99 [pi (-1)] ?_; try (first | refine dr1 ?_ | refine dr2 ?_ | refine dr3 ?_ | refine dr4 ?_)
          refine rn T 99 [] ?_; try (first | refine dr1 ?_ | refine dr2 ?_ | refine dr3 ?_ | refine dr4 ?_)
          exact rt1 T (pm ⟨f0, (-1), f2, [], []⟩) (⟨⟨f0, (-1), f2, [], []⟩, k' + 1 + 1, _, by first | exact dM0 | exact dMl hl, by omega, by omega, rfl, rfl⟩)
        · refine rn T 99 [pi 1] ?_; try (first | refine dr1 ?_ | refine dr2 ?_ | refine dr3 ?_ | refine dr4 ?_)
          refine rn T 99 [] ?_; try (first | refine dr1 ?_ | refine dr2 ?_ | refine dr3 ?_ | refine dr4 ?_)
          exact rt1 T (pm ⟨f0, 1, f2, [], []⟩) (⟨⟨f0, 1, f2, [], []⟩, k' + 1 + 1, _, by first | exact dM0 | exact dMl hl, by omega, by omega, rfl, rfl⟩)
        · refine rn T 99 [pi 10000] ?_; try (first | refine dr1 ?_ | refine dr2 ?_ | refine dr3 ?_ | refine dr4 ?_)
          refine rn T 99 [] ?_; try (first | refine dr1 ?_ | refine dr2 ?_ | refine dr3 ?_ | refine dr4 ?_)
          exact rt1 T (pm ⟨f0, 10000, f2, [], []⟩) (⟨⟨f0, 10000, f2, [], []⟩, k' + 1 + 1, _, by first | exact dM0 | exact dMl hl, by omega, by omega, rfl, rfl⟩)
      · refine cfq rfl (by simp [c1]) ?_; try (first | refine dr1 ?_ | refine dr2 ?_ | refine dr3 ?_ | refine dr4 ?_)
        refine rn T 99 [] ?_; try (first | refine dr1 ?_ | refine dr2 ?_ | refine dr3 ?_ | refine dr4 ?_)
        by_cases c2 : v = 2
        · refine ctq rfl (by simp [c2]) ?_; try (first | refine dr1 ?_ | refine dr2 ?_ | refine dr3 ?_ | refine dr4 ?_)
          refine rn T 99 [] ?_; try (first | refine dr1 ?_ | refine dr2 ?_ | refine dr3 ?_ | refine dr4 ?_)
          refine hes (pick G s hs (k' + 1) 3 (by omega) (by omega) (by omega) hsh_nil) ?_; rintro _ _ ⟨x, hx0, hx1, rfl, rfl⟩ _ _; refine op ?_; try (first | refine dr1 ?_ | refine dr2 ?_ | refine dr3 ?_ | refine dr4 ?_)
          obtain rfl | rfl | rfl : x = 0 ∨ x = 1 ∨ x = 2 := by omega
          · refine rn T 99 [pi (-1)] ?_; try (first | refine dr1 ?_ | refine dr2 ?_ | refine dr3 ?_ | refine dr4 ?_)
            refine rn T 99 [] ?_; try (first | refine dr1 ?_ | refine dr2 ?_ | refine dr3 ?_ | refine dr4 ?_)
            exact rt1 T (pm ⟨f0, f1, f2, [(-1)], []⟩) (⟨⟨f0, f1, f2, [(-1)], []⟩, k' + 1 + 1, _, by first | exact dM0 | exact dMl hl, by omega, by omega, rfl, rfl⟩)
          · refine rn T 99 [pi 2] ?_; try (first | refine dr1 ?_ | refine dr2 ?_ | refine dr3 ?_ | refine dr4 ?_)
            refine rn T 99 [] ?_; try (first | refine dr1 ?_ | refine dr2 ?_ | refine dr3 ?_ | refine dr4 ?_)
            exact rt1 T (pm ⟨f0, f1, f2, [2], []⟩) (⟨⟨f0, f1, f2, [2], []⟩, k' + 1 + 1, _, by first | exact dM0 | exact dMl hl, by omega, by omega, rfl, rfl⟩)
          · refine rn T 99 [pi 0] ?_; try (first | refine dr1 ?_ | refine dr2 ?_ | refine dr3 ?_ | refine dr4 ?_)
            refine rn T 99 [] ?_; try (first | refine dr1 ?_ | refine dr2 ?_ | refine dr3 ?_ | refine dr4 ?_)
            exact rt1 T (pm ⟨f0, f1, f2, [0], []⟩) (⟨⟨f0, f1, f2, [0], []⟩, k' + 1 + 1, _, by first | exact dM0 | exact dMl hl, by omega, by omega, rfl, rfl⟩)
        · refine cfq rfl (by simp [c2]) ?_; try (first | refine dr1 ?_ | refine dr2 ?_ | refine dr3 ?_ | refine dr4 ?_)
          refine rn T 99 [] ?_; try (first | refine dr1 ?_ | refine dr2 ?_ | refine dr3 ?_ | refine dr4 ?_)
          by_cases c3 : v = 3
          · refine ctq rfl (by simp [c3]) ?_; try (first | refine dr1 ?_ | refine dr2 ?_ | refine dr3 ?_ | refine dr4 ?_)
            refine rn T 99 [] ?_; try (first | refine dr1 ?_ | refine dr2 ?_ | refine dr3 ?_ | refine dr4 ?_)
            refine hes (word71 G s hs hsh_nil (k' + 1) (by omega) (by omega) [⟨#[]⟩, ⟨#[45]⟩, ⟨#[97]⟩] (by simp)) ?_; rintro _ _ ⟨w, hw, rfl, rfl⟩ _ _; refine op ?_; try (first | refine dr1 ?_ | refine dr2 ?_ | refine dr3 ?_ | refine dr4 ?_)
            refine rn T 99 [] ?_; try (first | refine dr1 ?_ | refine dr2 ?_ | refine dr3 ?_ | refine dr4 ?_)
            refine rn T 99 [] ?_; try (first | refine dr1 ?_ | refine dr2 ?_ | refine dr3 ?_ | refine dr4 ?_)
            exact rt1 T (pm ⟨f0, f1, w, [], []⟩) (⟨⟨f0, f1, w, [], []⟩, k' + 1 + 1, _, by first | exact dM0 | exact dMl hl, by omega, by omega, rfl, rfl⟩)
          · refine cfq rfl (by simp [c3]) ?_; try (first | refine dr1 ?_ | refine dr2 ?_ | refine dr3 ?_ | refine dr4 ?_)
            refine rn T 99 [] ?_; try (first | refine dr1 ?_ | refine dr2 ?_ | refine dr3 ?_ | refine dr4 ?_)
            exact rt1 T (pm ⟨f0, f1, f2, [], []⟩) (⟨⟨f0, f1, f2, [], []⟩, k' + 1, _, by first | exact dM0 | exact dMl hl, by omega, by omega, rfl, rfl⟩)
  · have h2r := hsh_rw (z := 1) (t := 3) (xs := p.map pi) (hsh_rw (z := 5) (t := 28) (xs := l.map eM) hsh_nil)
    rcases hP with rfl | rfl
    · refine rn T 99 [] ?_; try (first | refine dr1 ?_ | refine dr2 ?_ | refine dr3 ?_ | refine dr4 ?_)
      refine rn T 99 [] ?_; try (first | refine dr1 ?_ | refine dr2 ?_ | refine dr3 ?_ | refine dr4 ?_)
      refine hes (pick G s hs k' 20 (by omega) (by omega) (by omega) h2r) ?_; rintro _ _ ⟨v, hv0, hv1, rfl, rfl⟩ _ _; refine op ?_; try (first | refine dr1 ?_ | refine dr2 ?_ | refine dr3 ?_ | refine dr4 ?_)
      refine rn T 99 [] ?_; try (first | refine dr1 ?_ | refine dr2 ?_ | refine dr3 ?_ | refine dr4 ?_)
      by_cases c0 : v = 0
      · refine ctq rfl (by simp [c0]) ?_; try (first | refine dr1 ?_ | refine dr2 ?_ | refine dr3 ?_ | refine dr4 ?_)
        refine rn T 99 [] ?_; try (first | refine dr1 ?_ | refine dr2 ?_ | refine dr3 ?_ | refine dr4 ?_)
        refine hes (pick G s hs (k' + 1) 10 (by omega) (by omega) (by omega) h2r) ?_; rintro _ _ ⟨x, hx0, hx1, rfl, rfl⟩ _ _; refine op ?_; try (first | refine dr1 ?_ | refine dr2 ?_ | refine dr3 ?_ | refine dr4 ?_)
        refine rn T 99 [] ?_; try (first | refine dr1 ?_ | refine dr2 ?_ | refine dr3 ?_ | refine dr4 ?_)
        refine rn T 99 [] ?_; try (first | refine dr1 ?_ | refine dr2 ?_ | refine dr3 ?_ | refine dr4 ?_)
        exact rt1 T (pm ⟨x, f1, f2, p, l⟩) (⟨⟨x, f1, f2, p, l⟩, k' + 1 + 1, _, by first | exact dM0 | exact dMl hl, by omega, by omega, rfl, rfl⟩)
      · refine cfq rfl (by simp [c0]) ?_; try (first | refine dr1 ?_ | refine dr2 ?_ | refine dr3 ?_ | refine dr4 ?_)
        refine rn T 99 [] ?_; try (first | refine dr1 ?_ | refine dr2 ?_ | refine dr3 ?_ | refine dr4 ?_)
        by_cases c1 : v = 1
        · refine ctq rfl (by simp [c1]) ?_; try (first | refine dr1 ?_ | refine dr2 ?_ | refine dr3 ?_ | refine dr4 ?_)
          refine rn T 2 [] ?_; try (first | refine dr1 ?_ | refine dr2 ?_ | refine dr3 ?_ | refine dr4 ?_)
          refine hes (pick G s hs (k' + 1) 3 (by omega) (by omega) (by omega) h2r) ?_; rintro _ _ ⟨x, hx0, hx1, rfl, rfl⟩ _ _; refine op ?_; try (first | refine dr1 ?_ | refine dr2 ?_ | refine dr3 ?_ | refine dr4 ?_)
          obtain rfl | rfl | rfl : x = 0 ∨ x = 1 ∨ x = 2 := by omega
          · refine rn T 99 [pi (-1)] ?_; try (first | refine dr1 ?_ | refine dr2 ?_ | refine dr3 ?_ | refine dr4 ?_)
            refine rn T 99 [] ?_; try (first | refine dr1 ?_ | refine dr2 ?_ | refine dr3 ?_ | refine dr4 ?_)
            exact rt1 T (pm ⟨f0, (-1), f2, p, l⟩) (⟨⟨f0, (-1), f2, p, l⟩, k' + 1 + 1, _, by first | exact dM0 | exact dMl hl, by omega, by omega, rfl, rfl⟩)
          · refine rn T 99 [pi 1] ?_; try (first | refine dr1 ?_ | refine dr2 ?_ | refine dr3 ?_ | refine dr4 ?_)
            refine rn T 99 [] ?_; try (first | refine dr1 ?_ | refine dr2 ?_ | refine dr3 ?_ | refine dr4 ?_)
            exact rt1 T (pm ⟨f0, 1, f2, p, l⟩) (⟨⟨f0, 1, f2, p, l⟩, k' + 1 + 1, _, by first | exact dM0 | exact dMl hl, by omega, by omega, rfl, rfl⟩)
          · refine rn T 99 [pi 10000] ?_; try (first | refine dr1 ?_ | refine dr2 ?_ | refine dr3 ?_ | refine dr4 ?_)
            refine rn T 99 [] ?_; try (first | refine dr1 ?_ | refine dr2 ?_ | refine dr3 ?_ | refine dr4 ?_)
            exact rt1 T (pm ⟨f0, 10000, f2, p, l⟩) (⟨⟨f0, 10000, f2, p, l⟩, k' + 1 + 1, _, by first | exact dM0 | exact dMl hl, by omega, by omega, rfl, rfl⟩)
        · refine cfq rfl (by simp [c1]) ?_; try (first | refine dr1 ?_ | refine dr2 ?_ | refine dr3 ?_ | refine dr4 ?_)
          refine rn T 99 [] ?_; try (first | refine dr1 ?_ | refine dr2 ?_ | refine dr3 ?_ | refine dr4 ?_)
          by_cases c2 : v = 2
          · refine ctq rfl (by simp [c2]) ?_; try (first | refine dr1 ?_ | refine dr2 ?_ | refine dr3 ?_ | refine dr4 ?_)
            refine rn T 99 [] ?_; try (first | refine dr1 ?_ | refine dr2 ?_ | refine dr3 ?_ | refine dr4 ?_)
            refine hes (pick G s hs (k' + 1) 3 (by omega) (by omega) (by omega) h2r) ?_; rintro _ _ ⟨x, hx0, hx1, rfl, rfl⟩ _ _; refine op ?_; try (first | refine dr1 ?_ | refine dr2 ?_ | refine dr3 ?_ | refine dr4 ?_)
            obtain rfl | rfl | rfl : x = 0 ∨ x = 1 ∨ x = 2 := by omega
            · refine rn T 99 [pi (-1)] ?_; try (first | refine dr1 ?_ | refine dr2 ?_ | refine dr3 ?_ | refine dr4 ?_)
              refine rn T 99 [] ?_; try (first | refine dr1 ?_ | refine dr2 ?_ | refine dr3 ?_ | refine dr4 ?_)
              exact rt1 T (pm ⟨f0, f1, f2, p ++ [(-1)], l⟩) (⟨⟨f0, f1, f2, p ++ [(-1)], l⟩, k' + 1 + 1, _, by first | exact dM0 | exact dMl hl, by omega, by omega, rfl, rfl⟩)
            · refine rn T 99 [pi 2] ?_; try (first | refine dr1 ?_ | refine dr2 ?_ | refine dr3 ?_ | refine dr4 ?_)
              refine rn T 99 [] ?_; try (first | refine dr1 ?_ | refine dr2 ?_ | refine dr3 ?_ | refine dr4 ?_)
              exact rt1 T (pm ⟨f0, f1, f2, p ++ [2], l⟩) (⟨⟨f0, f1, f2, p ++ [2], l⟩, k' + 1 + 1, _, by first | exact dM0 | exact dMl hl, by omega, by omega, rfl, rfl⟩)
            · refine rn T 99 [pi 0] ?_; try (first | refine dr1 ?_ | refine dr2 ?_ | refine dr3 ?_ | refine dr4 ?_)
              refine rn T 99 [] ?_; try (first | refine dr1 ?_ | refine dr2 ?_ | refine dr3 ?_ | refine dr4 ?_)
              exact rt1 T (pm ⟨f0, f1, f2, p ++ [0], l⟩) (⟨⟨f0, f1, f2, p ++ [0], l⟩, k' + 1 + 1, _, by first | exact dM0 | exact dMl hl, by omega, by omega, rfl, rfl⟩)
          · refine cfq rfl (by simp [c2]) ?_; try (first | refine dr1 ?_ | refine dr2 ?_ | refine dr3 ?_ | refine dr4 ?_)
            refine rn T 99 [] ?_; try (first | refine dr1 ?_ | refine dr2 ?_ | refine dr3 ?_ | refine dr4 ?_)
            by_cases c3 : v = 3
            · refine ctq rfl (by simp [c3]) ?_; try (first | refine dr1 ?_ | refine dr2 ?_ | refine dr3 ?_ | refine dr4 ?_)
              refine rn T 99 [] ?_; try (first | refine dr1 ?_ | refine dr2 ?_ | refine dr3 ?_ | refine dr4 ?_)
              refine hes (word71 G s hs h2r (k' + 1) (by omega) (by omega) [⟨#[]⟩, ⟨#[45]⟩, ⟨#[97]⟩] (by simp)) ?_; rintro _ _ ⟨w, hw, rfl, rfl⟩ _ _; refine op ?_; try (first | refine dr1 ?_ | refine dr2 ?_ | refine dr3 ?_ | refine dr4 ?_)
              refine rn T 99 [] ?_; try (first | refine dr1 ?_ | refine dr2 ?_ | refine dr3 ?_ | refine dr4 ?_)
              refine rn T 99 [] ?_; try (first | refine dr1 ?_ | refine dr2 ?_ | refine dr3 ?_ | refine dr4 ?_)
              exact rt1 T (pm ⟨f0, f1, w, p, l⟩) (⟨⟨f0, f1, w, p, l⟩, k' + 1 + 1, _, by first | exact dM0 | exact dMl hl, by omega, by omega, rfl, rfl⟩)
            · refine cfq rfl (by simp [c3]) ?_; try (first | refine dr1 ?_ | refine dr2 ?_ | refine dr3 ?_ | refine dr4 ?_)
              refine rn T 99 [] ?_; try (first | refine dr1 ?_ | refine dr2 ?_ | refine dr3 ?_ | refine dr4 ?_)
              exact rt1 T (pm ⟨f0, f1, f2, p, l⟩) (⟨⟨f0, f1, f2, p, l⟩, k' + 1, _, by first | exact dM0 | exact dMl hl, by omega, by omega, rfl, rfl⟩)
    · refine rn T 99 [] ?_; try (first | refine dr1 ?_ | refine dr2 ?_ | refine dr3 ?_ | refine dr4 ?_)
      refine rn T 99 [] ?_; try (first | refine dr1 ?_ | refine dr2 ?_ | refine dr3 ?_ | refine dr4 ?_)
      refine hes (pick G s hs k' 20 (by omega) (by omega) (by omega) h2r) ?_; rintro _ _ ⟨v, hv0, hv1, rfl, rfl⟩ _ _; refine op ?_; try (first | refine dr1 ?_ | refine dr2 ?_ | refine dr3 ?_ | refine dr4 ?_)
      refine rn T 99 [] ?_; try (first | refine dr1 ?_ | refine dr2 ?_ | refine dr3 ?_ | refine dr4 ?_)
      by_cases c0 : v = 0
      · refine ctq rfl (by simp [c0]) ?_; try (first | refine dr1 ?_ | refine dr2 ?_ | refine dr3 ?_ | refine dr4 ?_)
        refine rn T 99 [] ?_; try (first | refine dr1 ?_ | refine dr2 ?_ | refine dr3 ?_ | refine dr4 ?_)
        refine hes (pick G s hs (k' + 1) 10 (by omega) (by omega) (by omega) h2r) ?_; rintro _ _ ⟨x, hx0, hx1, rfl, rfl⟩ _ _; refine op ?_; try (first | refine dr1 ?_ | refine dr2 ?_ | refine dr3 ?_ | refine dr4 ?_)
        refine rn T 99 [] ?_; try (first | refine dr1 ?_ | refine dr2 ?_ | refine dr3 ?_ | refine dr4 ?_)
        refine rn T 99 [] ?_; try (first | refine dr1 ?_ | refine dr2 ?_ | refine dr3 ?_ | refine dr4 ?_)
        exact rt1 T (pm ⟨x, f1, f2, [], l⟩) (⟨⟨x, f1, f2, [], l⟩, k' + 1 + 1, _, by first | exact dM0 | exact dMl hl, by omega, by omega, rfl, rfl⟩)
      · refine cfq rfl (by simp [c0]) ?_; try (first | refine dr1 ?_ | refine dr2 ?_ | refine dr3 ?_ | refine dr4 ?_)
        refine rn T 99 [] ?_; try (first | refine dr1 ?_ | refine dr2 ?_ | refine dr3 ?_ | refine dr4 ?_)
        by_cases c1 : v = 1
        · refine ctq rfl (by simp [c1]) ?_; try (first | refine dr1 ?_ | refine dr2 ?_ | refine dr3 ?_ | refine dr4 ?_)
          refine rn T 2 [] ?_; try (first | refine dr1 ?_ | refine dr2 ?_ | refine dr3 ?_ | refine dr4 ?_)
          refine hes (pick G s hs (k' + 1) 3 (by omega) (by omega) (by omega) h2r) ?_; rintro _ _ ⟨x, hx0, hx1, rfl, rfl⟩ _ _; refine op ?_; try (first | refine dr1 ?_ | refine dr2 ?_ | refine dr3 ?_ | refine dr4 ?_)
          obtain rfl | rfl | rfl : x = 0 ∨ x = 1 ∨ x = 2 := by omega
          · refine rn T 99 [pi (-1)] ?_; try (first | refine dr1 ?_ | refine dr2 ?_ | refine dr3 ?_ | refine dr4 ?_)
            refine rn T 99 [] ?_; try (first | refine dr1 ?_ | refine dr2 ?_ | refine dr3 ?_ | refine dr4 ?_)
            exact rt1 T (pm ⟨f0, (-1), f2, [], l⟩) (⟨⟨f0, (-1), f2, [], l⟩, k' + 1 + 1, _, by first | exact dM0 | exact dMl hl, by omega, by omega, rfl, rfl⟩)
          · refine rn T 99 [pi 1] ?_; try (first | refine dr1 ?_ | refine dr2 ?_ | refine dr3 ?_ | refine dr4 ?_)
            refine rn T 99 [] ?_; try (first | refine dr1 ?_ | refine dr2 ?_ | refine dr3 ?_ | refine dr4 ?_)
            exact rt1 T (pm ⟨f0, 1, f2, [], l⟩) (⟨⟨f0, 1, f2, [], l⟩, k' + 1 + 1, _, by first | exact dM0 | exact dMl hl, by omega, by omega, rfl, rfl⟩)
          · refine rn T 99 [pi 10000] ?_; try (first | refine dr1 ?_ | refine dr2 ?_ | refine dr3 ?_ | refine dr4 ?_)
            refine rn T 99 [] ?_; try (first | refine dr1 ?_ | refine dr2 ?_ | refine dr3 ?_ | refine dr4 ?_)
            exact rt1 T (pm ⟨f0, 10000, f2, [], l⟩) (⟨⟨f0, 10000, f2, [], l⟩, k' + 1 + 1, _, by first | exact dM0 | exact dMl hl, by omega, by omega, rfl, rfl⟩)
        · refine cfq rfl (by simp [c1]) ?_; try (first | refine dr1 ?_ | refine dr2 ?_ | refine dr3 ?_ | refine dr4 ?_)
          refine rn T 99 [] ?_; try (first | refine dr1 ?_ | refine dr2 ?_ | refine dr3 ?_ | refine dr4 ?_)
          by_cases c2 : v = 2
          · refine ctq rfl (by simp [c2]) ?_; try (first | refine dr1 ?_ | refine dr2 ?_ | refine dr3 ?_ | refine dr4 ?_)
            refine rn T 99 [] ?_; try (first | refine dr1 ?_ | refine dr2 ?_ | refine dr3 ?_ | refine dr4 ?_)
            refine hes (pick G s hs (k' + 1) 3 (by omega) (by omega) (by omega) h2r) ?_; rintro _ _ ⟨x, hx0, hx1, rfl, rfl⟩ _ _; refine op ?_; try (first | refine dr1 ?_ | refine dr2 ?_ | refine dr3 ?_ | refine dr4 ?_)
            obtain rfl | rfl | rfl : x = 0 ∨ x = 1 ∨ x = 2 := by omega
            · refine rn T 99 [pi (-1)] ?_; try (first | refine dr1 ?_ | refine dr2 ?_ | refine dr3 ?_ | refine dr4 ?_)
              refine rn T 99 [] ?_; try (first | refine dr1 ?_ | refine dr2 ?_ | refine dr3 ?_ | refine dr4 ?_)
              exact rt1 T (pm ⟨f0, f1, f2, [(-1)], l⟩) (⟨⟨f0, f1, f2, [(-1)], l⟩, k' + 1 + 1, _, by first | exact dM0 | exact dMl hl, by omega, by omega, rfl, rfl⟩)
            · refine rn T 99 [pi 2] ?_; try (first | refine dr1 ?_ | refine dr2 ?_ | refine dr3 ?_ | refine dr4 ?_)
              refine rn T 99 [] ?_; try (first | refine dr1 ?_ | refine dr2 ?_ | refine dr3 ?_ | refine dr4 ?_)
              exact rt1 T (pm ⟨f0, f1, f2, [2], l⟩) (⟨⟨f0, f1, f2, [2], l⟩, k' + 1 + 1, _, by first | exact dM0 | exact dMl hl, by omega, by omega, rfl, rfl⟩)
            · refine rn T 99 [pi 0] ?_; try (first | refine dr1 ?_ | refine dr2 ?_ | refine dr3 ?_ | refine dr4 ?_)
              refine rn T 99 [] ?_; try (first | refine dr1 ?_ | refine dr2 ?_ | refine dr3 ?_ | refine dr4 ?_)
              exact rt1 T (pm ⟨f0, f1, f2, [0], l⟩) (⟨⟨f0, f1, f2, [0], l⟩, k' + 1 + 1, _, by first | exact dM0 | exact dMl hl, by omega, by omega, rfl, rfl⟩)
          · refine cfq rfl (by simp [c2]) ?_; try (first | refine dr1 ?_ | refine dr2 ?_ | refine dr3 ?_ | refine dr4 ?_)
            refine rn T 99 [] ?_; try (first | refine dr1 ?_ | refine dr2 ?_ | refine dr3 ?_ | refine dr4 ?_)
            by_cases c3 : v = 3
            · refine ctq rfl (by simp [c3]) ?_; try (first | refine dr1 ?_ | refine dr2 ?_ | refine dr3 ?_ | refine dr4 ?_)
              refine rn T 99 [] ?_; try (first | refine dr1 ?_ | refine dr2 ?_ | refine dr3 ?_ | refine dr4 ?_)
              refine hes (word71 G s hs h2r (k' + 1) (by omega) (by omega) [⟨#[]⟩, ⟨#[45]⟩, ⟨#[97]⟩] (by simp)) ?_; rintro _ _ ⟨w, hw, rfl, rfl⟩ _ _; refine op ?_; try (first | refine dr1 ?_ | refine dr2 ?_ | refine dr3 ?_ | refine dr4 ?_)
              refine rn T 99 [] ?_; try (first | refine dr1 ?_ | refine dr2 ?_ | refine dr3 ?_ | refine dr4 ?_)
              refine rn T 99 [] ?_; try (first | refine dr1 ?_ | refine dr2 ?_ | refine dr3 ?_ | refine dr4 ?_)
              exact rt1 T (pm ⟨f0, f1, w, [], l⟩) (⟨⟨f0, f1, w, [], l⟩, k' + 1 + 1, _, by first | exact dM0 | exact dMl hl, by omega, by omega, rfl, rfl⟩)
            · refine cfq rfl (by simp [c3]) ?_; try (first | refine dr1 ?_ | refine dr2 ?_ | refine dr3 ?_ | refine dr4 ?_)
              refine rn T 99 [] ?_; try (first | refine dr1 ?_ | refine dr2 ?_ | refine dr3 ?_ | refine dr4 ?_)
              exact rt1 T (pm ⟨f0, f1, f2, [], l⟩) (⟨⟨f0, f1, f2, [], l⟩, k' + 1, _, by first | exact dM0 | exact dMl hl, by omega, by omega, rfl, rfl⟩)
end Go.Proofs.YtjacjidomopmaaaDoor.K
end
section
namespace Go.Proofs.YtjacjidomopmaaaDoor.K
open Go Go.RowKit Go.Proofs.YtjacjidomopmaaaDoor.En Go.Proofs.YtjacjidomopmaaaDoor.Ty Go.Proofs.YtjacjidomopmaaaDoor.B
set_option maxRecDepth 100000
set_option linter.unusedSimpArgs false
set_option linter.unusedVariables false
set_option pp.deepTerms false
set_option pp.deepTerms.threshold 8
set_option pp.maxSteps 1000
set_option maxHeartbeats 1000000
abbrev tys (l : List Tn) : List (List TV) := l.map fun t => [TV.p (.row 1 (t.f0.map eT))]
theorem frz_tys (ts : List Tn) : (ts.map fun t => pt t.f0).map frz = ts.map eT := by
  rw [List.map_map]
  exact List.map_congr_left (fun t _ => (eT_eq t).symm)
theorem ok_tys (ts : List Tn) : okFs (ts.map fun t => pt t.f0) = true := by
  rw [okFs_all, List.all_eq_true]
  intro y hy
  obtain ⟨t, _, rfl⟩ := List.mem_map.1 hy
  rfl
theorem z_tys (ts : List Tn) : ∀ v ∈ ts.map eT, v.cells.length = 1 := by
  intro v hv
  obtain ⟨t, _, rfl⟩ := List.mem_map.1 hv
  rw [eT_eq]; rfl
theorem tys_eq (ts : List Tn) : tys ts = (ts.map fun t => pt t.f0).map fun y => y.cells.map oc := by
  rw [List.map_map]; rfl
theorem draw71K (G : Nat → Option PV) (l : List Int) (hl : ∀ x ∈ l, 0 ≤ x ∧ x ≤ 255) (hl2 : l.length ≤ 9223372036854775807) :
    FE Tryd.prog G 6 [.p (.row 1 (l.map pu))] [] (fun r H' => ∃ (names : List ByteArray) (types : List Tn) (t : Mn), (names = [⟨#[97]⟩, ⟨#[98]⟩, ⟨#[99]⟩] ∨ names = [⟨#[97]⟩, ⟨#[98]⟩, ⟨#[98]⟩]) ∧ types.length ≤ 3 ∧ t.f4.length ≤ 2 ∧ dM 6 t = true ∧ r = .tp [.p (.row 1 (names.map ps)), .p (.row 1 (types.map eT)), .p (pm t)]) := by
  refine ⟨?_, _, [], ⟨[⟨#[97]⟩, ⟨#[98]⟩, ⟨#[99]⟩], [], ⟨0, 0, ⟨#[]⟩, [], []⟩, .inl rfl, by simp, by simp [Mn.f4], rfl, rfl⟩, .tp (fun x hx => by simp at hx; rcases hx with rfl | rfl | rfl <;> exact .p), hsh_nil⟩
  refine bdy Tryd.func6 (fun _ => 0) rfl ?_; try (first | refine dr1 ?_ | refine dr2 ?_ | refine dr3 ?_ | refine dr4 ?_)
  refine rn T 99 [] ?_; try (first | refine dr1 ?_ | refine dr2 ?_ | refine dr3 ?_ | refine dr4 ?_)
  refine rn T 99 [] ?_; try (first | refine dr1 ?_ | refine dr2 ?_ | refine dr3 ?_ | refine dr4 ?_)
  refine hes (openC G l hl hl2) ?_; rintro _ _ ⟨s, hs, rfl, rfl⟩ _ _; refine op ?_; try (first | refine dr1 ?_ | refine dr2 ?_ | refine dr3 ?_ | refine dr4 ?_)
  refine rn T 99 [] ?_; try (first | refine dr1 ?_ | refine dr2 ?_ | refine dr3 ?_ | refine dr4 ?_)
  refine rn T 99 [] ?_; try (first | refine dr1 ?_ | refine dr2 ?_ | refine dr3 ?_ | refine dr4 ?_)
  refine bs0 T ?_; try (first | refine dr1 ?_ | refine dr2 ?_ | refine dr3 ?_ | refine dr4 ?_)
  refine rn T 99 [] ?_; try (first | refine dr1 ?_ | refine dr2 ?_ | refine dr3 ?_ | refine dr4 ?_)
  refine rn T 99 [] ?_; try (first | refine dr1 ?_ | refine dr2 ?_ | refine dr3 ?_ | refine dr4 ?_)
  refine AW.lp (fun x : List Tn × Int => MS.mk [(8, .p (pi x.1.length)), (7, .vw (.L 13) x.1.length), (6, .vw (.L 12) 3), (5, .ptr (.S 0) 0), (4, .ptr (.L 4) 0)] 52 [(13, .ow 1 32 [] (tys x.1)), (12, .rw 1 9 [ps ⟨#[97]⟩, ps ⟨#[98]⟩, ps ⟨#[99]⟩]), (4, .box 28 [.p (pi 0), .p (pi 0), .p (ps ⟨#[]⟩), .nil, .nil])] [rdr s x.2]) (fun m x => m + x.1.length = 3 ∧ 0 ≤ x.2 ∧ x.2 ≤ 8 * x.1.length) 3 ([], 0) (by simp) (wk_of rfl rfl ⟨.inl rfl, .inl rfl, .inl rfl, .inl rfl, .inl rfl, trivial⟩ ⟨.inl rfl, .inl rfl, .inl rfl, trivial⟩) ?_
  intro m ⟨ts, k⟩ ⟨g1, g2, g3⟩
  dsimp only at g1 g2 g3 ⊢
  refine op ?_; try (first | refine dr1 ?_ | refine dr2 ?_ | refine dr3 ?_ | refine dr4 ?_)
  refine rn T 99 [] ?_; try (first | refine dr1 ?_ | refine dr2 ?_ | refine dr3 ?_ | refine dr4 ?_)
  by_cases hi : ts.length < 3
  · refine ctq rfl (by simp; omega) ?_; try (first | refine dr1 ?_ | refine dr2 ?_ | refine dr3 ?_ | refine dr4 ?_)
    refine rn T 99 [] ?_; try (first | refine dr1 ?_ | refine dr2 ?_ | refine dr3 ?_ | refine dr4 ?_)
    refine hes (type71 G s hs hsh_nil 3 (by omega) k (by omega) (by omega)) ?_; rintro _ _ ⟨t, k', hd, h1, h2, rfl, rfl⟩ _ _; refine op ?_; try (first | refine dr1 ?_ | refine dr2 ?_ | refine dr3 ?_ | refine dr4 ?_)
    refine rn T 99 [] ?_; try (first | refine dr1 ?_ | refine dr2 ?_ | refine dr3 ?_ | refine dr4 ?_)
    refine aps T ([pt t]) ?_; try (first | refine dr1 ?_ | refine dr2 ?_ | refine dr3 ?_ | refine dr4 ?_)
    refine rn T 99 [] ?_; try (first | refine dr1 ?_ | refine dr2 ?_ | refine dr3 ?_ | refine dr4 ?_)
    have hq : tys ts ++ [pt t].map (fun y => y.cells.map TV.p) = tys (ts ++ [⟨t⟩]) := by simp [Tn.f0, PV.cells]
    have hlen : ts.length + [pt t].length = (ts ++ [(⟨t⟩ : Tn)]).length := by simp
    rw [List.length_map, hlen, hq]
    refine rn T 99 [] ?_; try (first | refine dr1 ?_ | refine dr2 ?_ | refine dr3 ?_ | refine dr4 ?_)
    rw [wkS (by omega), show ts.length + 1 = (ts ++ [(⟨t⟩ : Tn)]).length by simp]
    refine nxt (m - 1) ((ts ++ [⟨t⟩], k')) (⟨by simp only [List.length_append, List.length_singleton]; omega, by simp only; omega, by simp only [List.length_append, List.length_singleton]; omega⟩)
  · refine cfq rfl (by simp; omega) ?_; try (first | refine dr1 ?_ | refine dr2 ?_ | refine dr3 ?_ | refine dr4 ?_)
    refine rn T 99 [] ?_; try (first | refine dr1 ?_ | refine dr2 ?_ | refine dr3 ?_ | refine dr4 ?_)
    have h3 : ts.length = 3 := by omega
    refine hes (pick G s hs k 3 (by omega) (by omega) (by omega) hsh_nil) ?_; rintro _ _ ⟨d, hd0, hd1, rfl, rfl⟩ _ _; refine op ?_; try (first | refine dr1 ?_ | refine dr2 ?_ | refine dr3 ?_ | refine dr4 ?_)
    refine rn T 1 [] ?_; try (first | refine dr1 ?_ | refine dr2 ?_ | refine dr3 ?_ | refine dr4 ?_)
    rw [wk (n := 1 + d) (by omega) (by omega)]
    obtain ⟨n, hn⟩ : ∃ n : Nat, 1 + d = (n : Int) := ⟨(1 + d).toNat, by omega⟩
    rw [hn]
    have hp : (2 : Int) ^ n ≤ 8 := by
      have : n = 1 ∨ n = 2 ∨ n = 3 := by omega
      rcases this with rfl | rfl | rfl <;> decide
    refine hes (term71 G s hs hsh_nil n (by omega) (k + 1) (by omega) (by omega)) ?_; rintro _ _ ⟨u, k', hu, h1, h2, rfl, rfl⟩ _ _; refine op ?_; try (first | refine dr1 ?_ | refine dr2 ?_ | refine dr3 ?_ | refine dr4 ?_)
    refine rn T 99 [] ?_; try (first | refine dr1 ?_ | refine dr2 ?_ | refine dr3 ?_ | refine dr4 ?_)
    refine rn T 99 [] ?_; try (first | refine dr1 ?_ | refine dr2 ?_ | refine dr3 ?_ | refine dr4 ?_)
    refine hes (pick G s hs k' 16 (by omega) (by omega) (by omega) hsh_nil) ?_; rintro _ _ ⟨v, hv0, hv1, rfl, rfl⟩ _ _; refine op ?_; try (first | refine dr1 ?_ | refine dr2 ?_ | refine dr3 ?_ | refine dr4 ?_)
    refine rn T 99 [] ?_; try (first | refine dr1 ?_ | refine dr2 ?_ | refine dr3 ?_ | refine dr4 ?_)
    by_cases c0 : v = 0
    · refine ctq rfl (by simp [c0]) ?_; try (first | refine dr1 ?_ | refine dr2 ?_ | refine dr3 ?_ | refine dr4 ?_)
      refine EOps.fz 13 (ts.map fun t => pt t.f0) (ts.map eT) rfl rfl (tys_eq ts) (ok_tys ts) (frz_tys ts) (z_tys ts) ?_
      refine rn T 99 [] ?_; try (first | refine dr1 ?_ | refine dr2 ?_ | refine dr3 ?_ | refine dr4 ?_)
      refine rn T 99 [] ?_; try (first | refine dr1 ?_ | refine dr2 ?_ | refine dr3 ?_ | refine dr4 ?_)
      exact ret3 T (y := .row 1 (([⟨#[97]⟩, ⟨#[98]⟩, ⟨#[98]⟩] : List ByteArray).map ps)) (z := .row 1 ((ts).map eT)) (u := pm u) rfl (by (repeat' apply And.intro) <;> first | trivial | rfl | assumption | (simp; done) | (simp [Mn.f0, Mn.f1, Mn.f2, Mn.f3, Mn.f4]; done) | (simp [List.map_drop]; done) | (simp; omega)) ⟨[⟨#[97]⟩, ⟨#[98]⟩, ⟨#[98]⟩], ts, u, .inr rfl, by omega, dM_len hu, dM_mono hu (by omega), rfl⟩
    · refine cfq rfl (by simp [c0]) ?_; try (first | refine dr1 ?_ | refine dr2 ?_ | refine dr3 ?_ | refine dr4 ?_)
      refine rn T 99 [] ?_; try (first | refine dr1 ?_ | refine dr2 ?_ | refine dr3 ?_ | refine dr4 ?_)
      by_cases c1 : v = 1
      · refine ctq rfl (by simp [c1]) ?_; try (first | refine dr1 ?_ | refine dr2 ?_ | refine dr3 ?_ | refine dr4 ?_)
        refine EOps.fz 13 (ts.map fun t => pt t.f0) (ts.map eT) rfl rfl (tys_eq ts) (ok_tys ts) (frz_tys ts) (z_tys ts) ?_
        refine rn T 99 [] ?_; try (first | refine dr1 ?_ | refine dr2 ?_ | refine dr3 ?_ | refine dr4 ?_)
        refine rn T 99 [] ?_; try (first | refine dr1 ?_ | refine dr2 ?_ | refine dr3 ?_ | refine dr4 ?_)
        have hdr : List.drop (Int.toNat 1) (List.take (ts.map eT).length (ts.map eT)) = (ts.drop 1).map eT := by rw [List.take_of_length_le (Nat.le_refl _), List.map_drop]; rfl
        exact ret3 T (y := .row 1 (([⟨#[97]⟩, ⟨#[98]⟩, ⟨#[99]⟩] : List ByteArray).map ps)) (z := .row 1 ((ts.drop 1).map eT)) (u := pm u) rfl (by (repeat' apply And.intro) <;> first | trivial | rfl | assumption | (simp; done) | (simp [Mn.f0, Mn.f1, Mn.f2, Mn.f3, Mn.f4]; done) | exact congrArg (PV.row 1) hdr | (simp; omega)) ⟨[⟨#[97]⟩, ⟨#[98]⟩, ⟨#[99]⟩], ts.drop 1, u, .inl rfl, by simp; try omega, dM_len hu, dM_mono hu (by omega), rfl⟩
      · refine cfq rfl (by simp [c1]) ?_; try (first | refine dr1 ?_ | refine dr2 ?_ | refine dr3 ?_ | refine dr4 ?_)
        refine rn T 99 [] ?_; try (first | refine dr1 ?_ | refine dr2 ?_ | refine dr3 ?_ | refine dr4 ?_)
        by_cases c2 : v = 2
        · refine ctq rfl (by simp [c2]) ?_; try (first | refine dr1 ?_ | refine dr2 ?_ | refine dr3 ?_ | refine dr4 ?_)
          refine rn T 99 [] ?_; try (first | refine dr1 ?_ | refine dr2 ?_ | refine dr3 ?_ | refine dr4 ?_)
          refine hes (deep71 G s hs (k' + 1) (by omega) (by omega)) ?_; rintro _ _ ⟨x, k2, X, h3a, h3b, rfl, rfl⟩ _ _; refine op ?_; try (first | refine dr1 ?_ | refine dr2 ?_ | refine dr3 ?_ | refine dr4 ?_)
          obtain ⟨a, b, c, rfl⟩ : ∃ a b c, ts = [a, b, c] := by
            match ts, h3 with
            | [a, b, c], _ => exact ⟨a, b, c, rfl⟩
          refine rn T 99 [] ?_; try (first | refine dr1 ?_ | refine dr2 ?_ | refine dr3 ?_ | refine dr4 ?_)
          refine sos T (pt x) ([TV.p (.row 1 (a.f0.map eT))]) rfl rfl (rfl) ?_
          refine EOps.fz 13 (([⟨x⟩, b, c] : List Tn).map fun t => pt t.f0) (([⟨x⟩, b, c] : List Tn).map eT) rfl rfl rfl (ok_tys _) (frz_tys _) (z_tys _) ?_
          refine op ?_; try (first | refine dr1 ?_ | refine dr2 ?_ | refine dr3 ?_ | refine dr4 ?_)
          refine rn T 99 [] ?_; try (first | refine dr1 ?_ | refine dr2 ?_ | refine dr3 ?_ | refine dr4 ?_)
          exact ret3 T (y := .row 1 (([⟨#[97]⟩, ⟨#[98]⟩, ⟨#[99]⟩] : List ByteArray).map ps)) (z := .row 1 (([⟨x⟩, b, c] : List Tn).map eT)) (u := pm u) rfl (by (repeat' apply And.intro) <;> first | trivial | rfl | assumption | (simp; done) | (simp [Mn.f0, Mn.f1, Mn.f2, Mn.f3, Mn.f4]; done) | (simp [List.map_drop]; done) | (simp; omega)) ⟨[⟨#[97]⟩, ⟨#[98]⟩, ⟨#[99]⟩], [⟨x⟩, b, c], u, .inl rfl, by simp, dM_len hu, dM_mono hu (by omega), rfl⟩
        · refine cfq rfl (by simp [c2]) ?_; try (first | refine dr1 ?_ | refine dr2 ?_ | refine dr3 ?_ | refine dr4 ?_)
          refine rn T 99 [] ?_; try (first | refine dr1 ?_ | refine dr2 ?_ | refine dr3 ?_ | refine dr4 ?_)
          refine AW.fz 13 (ts.map fun t => pt t.f0) (ts.map eT) rfl (tys_eq ts) (ok_tys ts) (frz_tys ts) (z_tys ts) ?_
          by_cases c3 : v = 3
          · refine ctq rfl (by simp [c3]) ?_; try (first | refine dr1 ?_ | refine dr2 ?_ | refine dr3 ?_ | refine dr4 ?_)
            refine rn T 99 [] ?_; try (first | refine dr1 ?_ | refine dr2 ?_ | refine dr3 ?_ | refine dr4 ?_)
            refine hes (odd71 G s hs (k' + 1) (by omega) (by omega)) ?_; rintro _ _ ⟨x, k2, X, hx, h3a, h3b, rfl, rfl⟩ _ _; refine op ?_; try (first | refine dr1 ?_ | refine dr2 ?_ | refine dr3 ?_ | refine dr4 ?_)
            refine rn T 99 [] ?_; try (first | refine dr1 ?_ | refine dr2 ?_ | refine dr3 ?_ | refine dr4 ?_)
            refine rn T 99 [] ?_; try (first | refine dr1 ?_ | refine dr2 ?_ | refine dr3 ?_ | refine dr4 ?_)
            exact ret3 T (y := .row 1 (([⟨#[97]⟩, ⟨#[98]⟩, ⟨#[99]⟩] : List ByteArray).map ps)) (z := .row 1 ((ts).map eT)) (u := pm x) rfl (by (repeat' apply And.intro) <;> first | trivial | rfl | assumption | (simp; done) | (simp [Mn.f0, Mn.f1, Mn.f2, Mn.f3, Mn.f4]; done) | (simp [List.map_drop]; done) | (simp; omega)) ⟨[⟨#[97]⟩, ⟨#[98]⟩, ⟨#[99]⟩], ts, x, .inl rfl, by omega, dM_len hx, hx, rfl⟩
          · refine cfq rfl (by simp [c3]) ?_; try (first | refine dr1 ?_ | refine dr2 ?_ | refine dr3 ?_ | refine dr4 ?_)
            refine rn T 99 [] ?_; try (first | refine dr1 ?_ | refine dr2 ?_ | refine dr3 ?_ | refine dr4 ?_)
            exact ret3 T (y := .row 1 (([⟨#[97]⟩, ⟨#[98]⟩, ⟨#[99]⟩] : List ByteArray).map ps)) (z := .row 1 ((ts).map eT)) (u := pm u) rfl (by (repeat' apply And.intro) <;> first | trivial | rfl | assumption | (simp; done) | (simp [Mn.f0, Mn.f1, Mn.f2, Mn.f3, Mn.f4]; done) | (simp [List.map_drop]; done) | (simp; omega)) ⟨[⟨#[97]⟩, ⟨#[98]⟩, ⟨#[99]⟩], ts, u, .inl rfl, by omega, dM_len hu, dM_mono hu (by omega), rfl⟩
end Go.Proofs.YtjacjidomopmaaaDoor.K
end
section
namespace Go.Proofs.YtjacjidomopmaaaDoor.K
open Go Go.RowKit Go.Proofs.YtjacjidomopmaaaDoor.En Go.Proofs.YtjacjidomopmaaaDoor.Ty Go.Proofs.YtjacjidomopmaaaDoor.B
set_option maxRecDepth 100000
set_option linter.unusedSimpArgs false
set_option linter.unusedVariables false
set_option pp.deepTerms false
set_option pp.deepTerms.threshold 8
set_option pp.maxSteps 1000
set_option maxHeartbeats 1000000
theorem tk_succ {nm : ByteArray → Bool} : ∀ (n : Nat) (t : Mn), tk nm n t = true → tk nm (n + 1) t = true
  | 0, t, h => by cases h
  | n + 1, t, h => by
    unfold tk at h ⊢
    rw [Bool.and_eq_true, List.all_eq_true] at h ⊢
    exact ⟨h.1, fun x hx => tk_succ n x (h.2 x hx)⟩
theorem kds_congr {f g : Mn → Option Ty} : ∀ (l : List Mn) (ts : List Tn), (∀ x ∈ l, ∀ u, f x = some u → g x = some u) → kds f l = some ts → kds g l = some ts
  | [], ts, _, h => h
  | x :: r, ts, hf, h => by
    rw [kds_cons] at h ⊢
    cases hx : f x with
    | none => rw [hx] at h; cases h
    | some u =>
      rw [hx, Option.bind_some] at h
      obtain ⟨us, h1, h2⟩ := Option.map_eq_some_iff.1 h
      rw [hf x (by simp) u hx, Option.bind_some, kds_congr r us (fun y hy => hf y (by simp [hy])) h1, Option.map_some, h2]
theorem kd_succ (env : ByteArray → Ty) : ∀ (n : Nat) (t : Mn) (u : Ty), kd env n t = some u → kd env (n + 1) t = some u := by
  intro n
  induction n with
  | zero => intro t u h; cases h
  | succ n ih =>
    intro t u h
    unfold kd at h ⊢
    split
    · rename_i h1; rw [if_pos h1] at h; exact h
    · rename_i h1
      rw [if_neg h1] at h
      split
      · rename_i h2; rw [if_pos h2] at h; exact h
      · rename_i h2
        rw [if_neg h2] at h
        cases hk : kds (kd env n) t.f4 with
        | none => rw [hk] at h; cases h
        | some ts =>
          rw [hk] at h
          rw [kds_congr _ _ (fun x _ u hu => ih x u hu) hk]
          exact h
theorem kds_some {f : Mn → Option Ty} : ∀ {l : List Mn} {ts : List Tn}, kds f l = some ts → ∀ x ∈ l, ∃ u, f x = some u
  | [], ts, _, x, hx => by cases hx
  | y :: r, ts, h, x, hx => by
    rw [kds_cons] at h
    cases hy : f y with
    | none => rw [hy] at h; cases h
    | some u =>
      rw [hy, Option.bind_some] at h
      obtain ⟨us, h1, h2⟩ := Option.map_eq_some_iff.1 h
      rcases List.mem_cons.1 hx with rfl | hx
      · exact ⟨u, hy⟩
      · exact kds_some h1 x hx
theorem KT_kid {ns : List ByteArray} {ts : List Tn} {t : Mn} {u : Ty} (h : KT ns ts t = some u) {x : Mn} (hx : x ∈ t.f4) : (KT ns ts x).isSome = true := by
  unfold KT at h ⊢
  split at h
  · rename_i hc
    obtain ⟨c1, c2, c3, c4⟩ := hc
    rw [if_pos ⟨c1, c2, c3, tk_succ 7 x (tk_kids c4 hx)⟩]
    unfold kd at h
    have h4 := tkH_inv (k := t.f0) (m := t.f1) (s := t.f2) (p := t.f3) (l := t.f4) (by cases t; exact tk_here c4)
    have k1 : t.f0 ≠ 1 := by
      intro e
      rcases h4 with ⟨_, q⟩ | ⟨q, _⟩ | ⟨q, _⟩ | ⟨q, _⟩ | ⟨q, _⟩ | ⟨q, _⟩
      · rw [q] at hx; cases hx
      all_goals omega
    have k2 : t.f0 ≠ 2 := by
      intro e
      rcases h4 with ⟨q, _⟩ | ⟨_, _, q⟩ | ⟨q, _⟩ | ⟨q, _⟩ | ⟨q, _⟩ | ⟨q, _⟩
      · omega
      · rw [q] at hx; cases hx
      all_goals omega
    rw [if_neg k1, if_neg k2] at h
    cases hk : kds (kd (envM (zipE ns ts)) 7) t.f4 with
    | none => rw [hk] at h; cases h
    | some us =>
      obtain ⟨v, hv⟩ := kds_some hk x hx
      rw [kd_succ _ 7 x v hv]
      rfl
  · cases h
theorem KT_dp {ns : List ByteArray} {ts : List Tn} {t : Mn} {u : Ty} (h : KT ns ts t = some u) : dp 4 u = true := by
  unfold KT at h
  split at h
  · rename_i hc; exact kd_dp _ (look_dp ns ts hc.2.2.1) _ _ _ h
  · cases h
theorem kt1 (G : Nat → Option PV) (ns : List ByteArray) (ts : List Tn) (t : Mn) (hb : ns.length ≤ 1000) : PF Tryd.prog G 7 [.row 1 (ns.map ps), .row 1 (ts.map eT), pm t] (.tp [.p (pt ((KT ns ts t).getD [])), .p (pb (KT ns ts t).isSome)]) := ⟨.tp (fun x hx => by simp at hx; rcases hx with rfl | rfl <;> exact .p), kindTerm1 G ns ts t hb⟩
theorem kt2 (a : Addr) (ns : List ByteArray) (ts : List Tn) (t : Mn) (hb : ts.length ≤ 1000) : PF Tryd.prog (GE a) 8 [.row 1 (ns.map ps), .row 1 (ts.map eT), pm t] (.tp [.p (pt ((KT ns ts t).getD [])), .p (pb (KT ns ts t).isSome)]) := ⟨.tp (fun x hx => by simp at hx; rcases hx with rfl | rfl <;> exact .p), kindTerm2 a ns ts t hb⟩
theorem kindLaw (a : Addr) (c : List Int) (hl : ∀ x ∈ c, 0 ≤ x ∧ x ≤ 255) (hl2 : c.length ≤ 9223372036854775807) :
    FC Tryd.prog (GE a) 4 [.p (.row 1 (c.map pu))] [] (fun r _ => r = .p (pb true)) := by
  refine bdy Tryd.func4 (fun _ => 0) rfl ?_; try (first | refine dr1 ?_ | refine dr2 ?_ | refine dr3 ?_ | refine dr4 ?_)
  refine rn T 99 [] ?_; try (first | refine dr1 ?_ | refine dr2 ?_ | refine dr3 ?_ | refine dr4 ?_)
  refine rn T 99 [] ?_; try (first | refine dr1 ?_ | refine dr2 ?_ | refine dr3 ?_ | refine dr4 ?_)
  by_cases hc : c.length > 1048576
  · refine ctq rfl (by simp; omega) ?_; try (first | refine dr1 ?_ | refine dr2 ?_ | refine dr3 ?_ | refine dr4 ?_)
    refine rn T 99 [] ?_; try (first | refine dr1 ?_ | refine dr2 ?_ | refine dr3 ?_ | refine dr4 ?_)
    exact rt1 T (pb true) rfl
  · refine cfq rfl (by simp; omega) ?_; try (first | refine dr1 ?_ | refine dr2 ?_ | refine dr3 ?_ | refine dr4 ?_)
    refine rn T 99 [] ?_; try (first | refine dr1 ?_ | refine dr2 ?_ | refine dr3 ?_ | refine dr4 ?_)
    refine hes (draw71K (GE a) c hl hl2) ?_; rintro _ _ ⟨ns, ts, ⟨k, m, s, p, l⟩, g0, g2, g3, g4, rfl⟩ _ _; refine op ?_; try (first | refine dr1 ?_ | refine dr2 ?_ | refine dr3 ?_ | refine dr4 ?_)
    rename_i H1 hA1 hH1
    have g1 : ns.length ≤ 3 := by rcases g0 with rfl | rfl <;> decide
    refine rn T 99 [] ?_; try (first | refine dr1 ?_ | refine dr2 ?_ | refine dr3 ?_ | refine dr4 ?_)
    refine rn T 99 [] ?_; try (first | refine dr1 ?_ | refine dr2 ?_ | refine dr3 ?_ | refine dr4 ?_)
    have q1 := kt1 (GE a) ns ts ⟨k, m, s, p, l⟩ (by omega)
    have q2 := kt2 a ns ts ⟨k, m, s, p, l⟩ (by omega)
    cases h6 : KT ns ts ⟨k, m, s, p, l⟩ with
    | none =>
      rw [h6] at q1 q2
      refine pcs (q1) ?_; try (first | refine dr1 ?_ | refine dr2 ?_ | refine dr3 ?_ | refine dr4 ?_)
      refine rn T 99 [] ?_; try (first | refine dr1 ?_ | refine dr2 ?_ | refine dr3 ?_ | refine dr4 ?_)
      refine rn T 99 [] ?_; try (first | refine dr1 ?_ | refine dr2 ?_ | refine dr3 ?_ | refine dr4 ?_)
      refine pcs (q2) ?_; try (first | refine dr1 ?_ | refine dr2 ?_ | refine dr3 ?_ | refine dr4 ?_)
      refine rn T 99 [] ?_; try (first | refine dr1 ?_ | refine dr2 ?_ | refine dr3 ?_ | refine dr4 ?_)
      refine rn T 99 [] ?_; try (first | refine dr1 ?_ | refine dr2 ?_ | refine dr3 ?_ | refine dr4 ?_)
      have q3 := lh (GE a) 4 [] [] rfl rfl
      refine pcs (q3) ?_; try (first | refine dr1 ?_ | refine dr2 ?_ | refine dr3 ?_ | refine dr4 ?_)
      refine rn T 99 [] ?_; try (first | refine dr1 ?_ | refine dr2 ?_ | refine dr3 ?_ | refine dr4 ?_)
      refine cts ?_; try (first | refine dr1 ?_ | refine dr2 ?_ | refine dr3 ?_ | refine dr4 ?_)
      refine rn T 99 [] ?_; try (first | refine dr1 ?_ | refine dr2 ?_ | refine dr3 ?_ | refine dr4 ?_)
      refine pcs (q3) ?_; try (first | refine dr1 ?_ | refine dr2 ?_ | refine dr3 ?_ | refine dr4 ?_)
      refine rn T 99 [] ?_; try (first | refine dr1 ?_ | refine dr2 ?_ | refine dr3 ?_ | refine dr4 ?_)
      exact rt1 T (pb true) rfl
    | some u =>
      rw [h6] at q1 q2
      simp only [Option.getD_some] at q1 q2
      have hd := KT_dp h6
      refine pcs (q1) ?_; try (first | refine dr1 ?_ | refine dr2 ?_ | refine dr3 ?_ | refine dr4 ?_)
      refine rn T 99 [] ?_; try (first | refine dr1 ?_ | refine dr2 ?_ | refine dr3 ?_ | refine dr4 ?_)
      refine rn T 99 [] ?_; try (first | refine dr1 ?_ | refine dr2 ?_ | refine dr3 ?_ | refine dr4 ?_)
      refine pcs (q2) ?_; try (first | refine dr1 ?_ | refine dr2 ?_ | refine dr3 ?_ | refine dr4 ?_)
      refine rn T 99 [] ?_; try (first | refine dr1 ?_ | refine dr2 ?_ | refine dr3 ?_ | refine dr4 ?_)
      refine rn T 99 [] ?_; try (first | refine dr1 ?_ | refine dr2 ?_ | refine dr3 ?_ | refine dr4 ?_)
      have q3 := lh (GE a) 4 u u hd hd
      rw [teq_refl 4 u hd] at q3
      refine pcs (q3) ?_; try (first | refine dr1 ?_ | refine dr2 ?_ | refine dr3 ?_ | refine dr4 ?_)
      refine rn T 99 [] ?_; try (first | refine dr1 ?_ | refine dr2 ?_ | refine dr3 ?_ | refine dr4 ?_)
      refine cfs ?_; try (first | refine dr1 ?_ | refine dr2 ?_ | refine dr3 ?_ | refine dr4 ?_)
      refine rn T 99 [] ?_; try (first | refine dr1 ?_ | refine dr2 ?_ | refine dr3 ?_ | refine dr4 ?_)
      refine lpw (fun i : Nat => MS.mk [(10, .p (pi i)), (3, .p (.row 1 (ns.map ps))), (4, .p (.row 1 (ts.map eT))), (5, .ptr (.L 5) 0), (8, .ptr (.L 8) 0)] 79 [(5, .box 28 [.p (pi k), .p (pi m), .p (ps s), .p (.row 1 (p.map pi)), .p (.row 5 (l.map eM))]), (8, .box 32 [.p (.row 1 (u.map eT))])] H1) (fun m i => m + i = l.length) (l.length) (0) (by simp) ?_
      intro m2 i h3
      refine op ?_; try (first | refine dr1 ?_ | refine dr2 ?_ | refine dr3 ?_ | refine dr4 ?_)
      refine rn T 99 [] ?_; try (first | refine dr1 ?_ | refine dr2 ?_ | refine dr3 ?_ | refine dr4 ?_)
      by_cases hi : i < l.length
      · obtain ⟨x, hx, hdd⟩ := drop_ix hi
        refine ctq rfl (by simp [hi]) ?_; try (first | refine dr1 ?_ | refine dr2 ?_ | refine dr3 ?_ | refine dr4 ?_)
        refine rn T 99 [pm x] ?_; try (first | refine dr1 ?_ | refine dr2 ?_ | refine dr3 ?_ | refine dr4 ?_)
        have q4 := kt2 a ns ts x (by omega)
        rw [KT_kid h6 (List.mem_of_getElem? hx)] at q4
        refine pcs (q4) ?_; try (first | refine dr1 ?_ | refine dr2 ?_ | refine dr3 ?_ | refine dr4 ?_)
        refine rn T 99 [] ?_; try (first | refine dr1 ?_ | refine dr2 ?_ | refine dr3 ?_ | refine dr4 ?_)
        refine rn T 99 [] ?_; try (first | refine dr1 ?_ | refine dr2 ?_ | refine dr3 ?_ | refine dr4 ?_)
        refine cfs ?_; try (first | refine dr1 ?_ | refine dr2 ?_ | refine dr3 ?_ | refine dr4 ?_)
        refine rn T 99 [] ?_; try (first | refine dr1 ?_ | refine dr2 ?_ | refine dr3 ?_ | refine dr4 ?_)
        rw [wkS (by simp [Mn.f4] at g3; omega)]
        refine nxt (m2 - 1) (i + 1) (by omega)
      · refine cfq rfl (by simp [hi]) ?_; try (first | refine dr1 ?_ | refine dr2 ?_ | refine dr3 ?_ | refine dr4 ?_)
        refine rn T 99 [] ?_; try (first | refine dr1 ?_ | refine dr2 ?_ | refine dr3 ?_ | refine dr4 ?_)
        have q5 := typeOk (GE a) u
        rw [hd] at q5
        refine pcs (q5) ?_; try (first | refine dr1 ?_ | refine dr2 ?_ | refine dr3 ?_ | refine dr4 ?_)
        refine rn T 99 [] ?_; try (first | refine dr1 ?_ | refine dr2 ?_ | refine dr3 ?_ | refine dr4 ?_)
        exact rt1 T (pb true) rfl
end Go.Proofs.YtjacjidomopmaaaDoor.K
end
section
namespace Go.Proofs.YtjacjidomopmaaaDoor.K
open Go Go.RowKit Go.Proofs.YtjacjidomopmaaaDoor.En Go.Proofs.YtjacjidomopmaaaDoor.Ty Go.Proofs.YtjacjidomopmaaaDoor.B
set_option maxRecDepth 100000
set_option linter.unusedSimpArgs false
set_option linter.unusedVariables false
set_option pp.deepTerms false
set_option pp.deepTerms.threshold 8
set_option pp.maxSteps 1000
set_option maxHeartbeats 1000000
theorem kds_eq {f g : Mn → Option Ty} : ∀ (l : List Mn), (∀ x ∈ l, f x = g x) → kds f l = kds g l
  | [], _ => rfl
  | x :: r, h => by rw [kds_cons, kds_cons, h x (by simp), kds_eq r (fun y hy => h y (by simp [hy]))]
theorem kd_tk (env : ByteArray → Ty) {nm : ByteArray → Bool} : ∀ (n : Nat) (t : Mn), tk nm n t = true → kd env (n + 1) t = kd env n t := by
  intro n
  induction n with
  | zero => intro t h; cases h
  | succ n ih =>
    intro t h
    have := kds_eq (f := kd env (n + 1)) (g := kd env n) t.f4 (fun x hx => ih x (tk_kids h hx))
    show (if t.f0 = 1 then some [] else if t.f0 = 2 then some (env t.f2) else match kds (kd env (n + 1)) t.f4 with | none => none | some ts => kk t.f0 t.f3 ts) = _
    rw [this]
    rfl
theorem KT_part {ns : List ByteArray} {ts : List Tn} {t : Mn} {u : Ty} {p : List Int} (h : KT ns ts t = some u) (hd : tk (fun s => pw s && hasS ns s) 7 t = true) (hp : pathB p = true) : KT ns ts ⟨7, 0, ⟨#[]⟩, p, [t]⟩ = pf p u := by
  unfold KT at h ⊢
  split at h
  · rename_i hc
    obtain ⟨c1, c2, c3, c4⟩ := hc
    rw [if_pos ⟨c1, c2, c3, by rw [tk_eq, tkH_7, hp]; simp [hd]; exact bq_eq.2 rfl⟩]
    rw [kd_tk _ 7 t hd] at h
    show (match kds (kd (envM (zipE ns ts)) 7) [t] with | none => none | some us => kk 7 p us) = _
    rw [kds_cons, h]
    rfl
  · cases h
theorem tk_dM {nm : ByteArray → Bool} : ∀ {n m : Nat} {t : Mn}, tk nm n t = true → dM m t = true → tk nm m t = true
  | 0, _, _, h, _ => by cases h
  | n + 1, 0, _, _, h => by cases h
  | n + 1, m + 1, t, h, h2 => by
    unfold tk at h ⊢
    unfold dM at h2
    simp only [Bool.and_eq_true, List.all_eq_true] at h h2 ⊢
    exact ⟨h.1, fun x hx => tk_dM (h.2 x hx) (h2.2 x hx)⟩
theorem KT_tk {ns : List ByteArray} {ts : List Tn} {t : Mn} {u : Ty} (h : KT ns ts t = some u) : tk (fun s => pw s && hasS ns s) 8 t = true := by
  unfold KT at h
  split at h
  · rename_i hc; exact hc.2.2.2
  · cases h
theorem partLaw (a : Addr) (c d : List Int) (hl : ∀ x ∈ c, 0 ≤ x ∧ x ≤ 255) (hl2 : c.length ≤ 9223372036854775807) :
    FC Tryd.prog (GE a) 5 [.p (.row 1 (c.map pu)), .p (.row 1 (d.map pu))] [] (fun r _ => r = .p (pb true)) := by
  refine bdy Tryd.func5 (fun _ => 0) rfl ?_; try (first | refine dr1 ?_ | refine dr2 ?_ | refine dr3 ?_ | refine dr4 ?_)
  refine rn T 99 [] ?_; try (first | refine dr1 ?_ | refine dr2 ?_ | refine dr3 ?_ | refine dr4 ?_)
  by_cases hc : c.length > 1048576
  · refine rn T 3 [] ?_; try (first | refine dr1 ?_ | refine dr2 ?_ | refine dr3 ?_ | refine dr4 ?_)
    rw [show decide (((c.map pu).length : Int) > 1048576) = true by simp; omega]
    refine rn T 99 [] ?_; try (first | refine dr1 ?_ | refine dr2 ?_ | refine dr3 ?_ | refine dr4 ?_)
    refine cts ?_; try (first | refine dr1 ?_ | refine dr2 ?_ | refine dr3 ?_ | refine dr4 ?_)
    refine rn T 99 [] ?_; try (first | refine dr1 ?_ | refine dr2 ?_ | refine dr3 ?_ | refine dr4 ?_)
    exact rt1 T (pb true) rfl
  · refine rn T 3 [] ?_; try (first | refine dr1 ?_ | refine dr2 ?_ | refine dr3 ?_ | refine dr4 ?_)
    rw [show decide (((c.map pu).length : Int) > 1048576) = false by simp; omega]
    refine rn T 99 [] ?_; try (first | refine dr1 ?_ | refine dr2 ?_ | refine dr3 ?_ | refine dr4 ?_)
    by_cases hd2 : d.length > 1048576
    · refine ctq rfl (by simp; omega) ?_; try (first | refine dr1 ?_ | refine dr2 ?_ | refine dr3 ?_ | refine dr4 ?_)
      refine rn T 99 [] ?_; try (first | refine dr1 ?_ | refine dr2 ?_ | refine dr3 ?_ | refine dr4 ?_)
      exact rt1 T (pb true) rfl
    refine cfq rfl (by simp; omega) ?_; try (first | refine dr1 ?_ | refine dr2 ?_ | refine dr3 ?_ | refine dr4 ?_)
    refine rn T 99 [] ?_; try (first | refine dr1 ?_ | refine dr2 ?_ | refine dr3 ?_ | refine dr4 ?_)
    refine hes (draw71K (GE a) c hl hl2) ?_; rintro _ _ ⟨ns, ts, ⟨k, m, s, p, l⟩, g0, g2, g3, g4, rfl⟩ _ _; refine op ?_; try (first | refine dr1 ?_ | refine dr2 ?_ | refine dr3 ?_ | refine dr4 ?_)
    rename_i H1 hA1 hH1
    have g1 : ns.length ≤ 3 := by rcases g0 with rfl | rfl <;> decide
    refine rn T 99 [] ?_; try (first | refine dr1 ?_ | refine dr2 ?_ | refine dr3 ?_ | refine dr4 ?_)
    refine rn T 99 [] ?_; try (first | refine dr1 ?_ | refine dr2 ?_ | refine dr3 ?_ | refine dr4 ?_)
    have q1 := kt1 (GE a) ns ts ⟨k, m, s, p, l⟩ (by omega)
    have q2 := kt2 a ns ts ⟨k, m, s, p, l⟩ (by omega)
    cases h6 : KT ns ts ⟨k, m, s, p, l⟩ with
    | none =>
      rw [h6] at q1 q2
      refine pcs (q1) ?_; try (first | refine dr1 ?_ | refine dr2 ?_ | refine dr3 ?_ | refine dr4 ?_)
      refine rn T 99 [] ?_; try (first | refine dr1 ?_ | refine dr2 ?_ | refine dr3 ?_ | refine dr4 ?_)
      refine rn T 99 [] ?_; try (first | refine dr1 ?_ | refine dr2 ?_ | refine dr3 ?_ | refine dr4 ?_)
      refine pcs (q2) ?_; try (first | refine dr1 ?_ | refine dr2 ?_ | refine dr3 ?_ | refine dr4 ?_)
      refine rn T 99 [] ?_; try (first | refine dr1 ?_ | refine dr2 ?_ | refine dr3 ?_ | refine dr4 ?_)
      refine rn T 99 [] ?_; try (first | refine dr1 ?_ | refine dr2 ?_ | refine dr3 ?_ | refine dr4 ?_)
      have q3 := lh (GE a) 4 [] [] rfl rfl
      refine pcs (q3) ?_; try (first | refine dr1 ?_ | refine dr2 ?_ | refine dr3 ?_ | refine dr4 ?_)
      refine rn T 99 [] ?_; try (first | refine dr1 ?_ | refine dr2 ?_ | refine dr3 ?_ | refine dr4 ?_)
      refine cts ?_; try (first | refine dr1 ?_ | refine dr2 ?_ | refine dr3 ?_ | refine dr4 ?_)
      refine rn T 99 [] ?_; try (first | refine dr1 ?_ | refine dr2 ?_ | refine dr3 ?_ | refine dr4 ?_)
      refine pcs (q3) ?_; try (first | refine dr1 ?_ | refine dr2 ?_ | refine dr3 ?_ | refine dr4 ?_)
      refine rn T 99 [] ?_; try (first | refine dr1 ?_ | refine dr2 ?_ | refine dr3 ?_ | refine dr4 ?_)
      exact rt1 T (pb true) rfl
    | some u =>
      rw [h6] at q1 q2
      simp only [Option.getD_some] at q1 q2
      have hd := KT_dp h6
      refine pcs (q1) ?_; try (first | refine dr1 ?_ | refine dr2 ?_ | refine dr3 ?_ | refine dr4 ?_)
      refine rn T 99 [] ?_; try (first | refine dr1 ?_ | refine dr2 ?_ | refine dr3 ?_ | refine dr4 ?_)
      refine rn T 99 [] ?_; try (first | refine dr1 ?_ | refine dr2 ?_ | refine dr3 ?_ | refine dr4 ?_)
      refine pcs (q2) ?_; try (first | refine dr1 ?_ | refine dr2 ?_ | refine dr3 ?_ | refine dr4 ?_)
      refine rn T 99 [] ?_; try (first | refine dr1 ?_ | refine dr2 ?_ | refine dr3 ?_ | refine dr4 ?_)
      refine rn T 99 [] ?_; try (first | refine dr1 ?_ | refine dr2 ?_ | refine dr3 ?_ | refine dr4 ?_)
      have q3 := lh (GE a) 4 u u hd hd
      rw [teq_refl 4 u hd] at q3
      have hr : 0 ≤ (d.length : Int).tmod 3 ∧ (d.length : Int).tmod 3 < 3 := ⟨Int.tmod_nonneg 3 (by omega), Int.tmod_lt_of_pos _ (by omega)⟩
      refine pcs (q3) ?_; try (first | refine dr1 ?_ | refine dr2 ?_ | refine dr3 ?_ | refine dr4 ?_)
      refine rn T 99 [] ?_; try (first | refine dr1 ?_ | refine dr2 ?_ | refine dr3 ?_ | refine dr4 ?_)
      refine cfs ?_; try (first | refine dr1 ?_ | refine dr2 ?_ | refine dr3 ?_ | refine dr4 ?_)
      refine rn T 99 [] ?_; try (first | refine dr1 ?_ | refine dr2 ?_ | refine dr3 ?_ | refine dr4 ?_)
      have hb0 : bitB (((d.map pu).length : Int).tmod 2) = true := decide_eq_true ⟨Int.tmod_nonneg 2 (by omega), Int.lt_add_one_iff.1 (Int.tmod_lt_of_pos _ (by omega))⟩
      have hb1 : bitB ((IntKind.i64.wrap (((d.map pu).length : Int).tdiv 2)).tmod 2) = true := by
        have h0 : 0 ≤ ((d.map pu).length : Int).tdiv 2 := Int.tdiv_nonneg (by omega) (by omega)
        have h1 : ((d.map pu).length : Int).tdiv 2 ≤ (d.map pu).length := by rw [Int.tdiv_eq_ediv_of_nonneg (by omega)]; omega
        rw [wk (by omega) (by rw [List.length_map] at h1 ⊢; omega)]
        exact decide_eq_true ⟨Int.tmod_nonneg 2 h0, Int.lt_add_one_iff.1 (Int.tmod_lt_of_pos _ (by omega))⟩
      obtain ⟨pth, hpth, heq⟩ : ∃ pth : List Int, pathB pth = true ∧ List.drop 0 (List.take (((d.map pu).length : Int).tmod 3).toNat [PV.c (.int .i64 (((d.map pu).length : Int).tmod 2)), PV.c (.int .i64 ((IntKind.i64.wrap (((d.map pu).length : Int).tdiv 2)).tmod 2))]) = pth.map pi := by
        generalize ((d.map pu).length : Int).tmod 2 = x0 at hb0 ⊢
        generalize (IntKind.i64.wrap (((d.map pu).length : Int).tdiv 2)).tmod 2 = x1 at hb1 ⊢
        generalize (((d.map pu).length : Int).tmod 3).toNat = r
        refine ⟨[x0, x1].take r, ?_, by rw [List.drop_zero, List.map_take]; rfl⟩
        unfold pathB
        rw [decide_eq_true (by simp; omega), Bool.true_and, List.all_eq_true]
        intro y hy
        have := List.mem_of_mem_take hy
        simp at this
        rcases this with rfl | rfl <;> assumption
      rw [heq]
      have hdep : tk (fun s => pw s && hasS ns s) 7 ⟨k, m, s, p, l⟩ = true := tk_dM (KT_tk h6) (dM_mono g4 (by omega))
      have q7 := kt2 a ns ts ⟨7, 0, ⟨#[]⟩, pth, [⟨k, m, s, p, l⟩]⟩ (by omega)
      rw [KT_part h6 hdep hpth] at q7
      have hpm : pm ⟨7, 0, ⟨#[]⟩, pth, [⟨k, m, s, p, l⟩]⟩ = .ag [pi 7, pi 0, ps ⟨#[]⟩, .row 1 (pth.map pi), .row 5 [.ag [pi k, pi m, ps s, .row 1 (p.map pi), .row 5 (l.map eM)]]] := by
        show PV.ag [_, _, _, _, .row 5 [eM ⟨k, m, s, p, l⟩]] = _
        rw [eM_eq]
        rfl
      rw [hpm] at q7
      have q8 := typeAt2 (GE a) u pth (path_len hpth)
      rw [tat, if_pos hd] at q8
      refine rn T 99 [] ?_; try (first | refine dr1 ?_ | refine dr2 ?_ | refine dr3 ?_ | refine dr4 ?_)
      refine rn T 99 [] ?_; try (first | refine dr1 ?_ | refine dr2 ?_ | refine dr3 ?_ | refine dr4 ?_)
      cases hq : pf pth u with
      | none =>
        rw [hq] at q7 q8
        refine pcs (q7) ?_; try (first | refine dr1 ?_ | refine dr2 ?_ | refine dr3 ?_ | refine dr4 ?_)
        refine rn T 99 [] ?_; try (first | refine dr1 ?_ | refine dr2 ?_ | refine dr3 ?_ | refine dr4 ?_)
        refine rn T 99 [] ?_; try (first | refine dr1 ?_ | refine dr2 ?_ | refine dr3 ?_ | refine dr4 ?_)
        refine pcs (q8) ?_; try (first | refine dr1 ?_ | refine dr2 ?_ | refine dr3 ?_ | refine dr4 ?_)
        refine rn T 99 [] ?_; try (first | refine dr1 ?_ | refine dr2 ?_ | refine dr3 ?_ | refine dr4 ?_)
        have q9 := lh (GE a) 4 [] [] rfl rfl
        refine rn T 99 [] ?_; try (first | refine dr1 ?_ | refine dr2 ?_ | refine dr3 ?_ | refine dr4 ?_)
        refine pcs (q9) ?_; try (first | refine dr1 ?_ | refine dr2 ?_ | refine dr3 ?_ | refine dr4 ?_)
        refine rn T 99 [] ?_; try (first | refine dr1 ?_ | refine dr2 ?_ | refine dr3 ?_ | refine dr4 ?_)
        exact rt1 T (pb true) rfl
      | some v =>
        rw [hq] at q7 q8
        simp only [Option.getD_some] at q7
        refine pcs (q7) ?_; try (first | refine dr1 ?_ | refine dr2 ?_ | refine dr3 ?_ | refine dr4 ?_)
        refine rn T 99 [] ?_; try (first | refine dr1 ?_ | refine dr2 ?_ | refine dr3 ?_ | refine dr4 ?_)
        refine rn T 99 [] ?_; try (first | refine dr1 ?_ | refine dr2 ?_ | refine dr3 ?_ | refine dr4 ?_)
        refine pcs (q8) ?_; try (first | refine dr1 ?_ | refine dr2 ?_ | refine dr3 ?_ | refine dr4 ?_)
        refine rn T 99 [] ?_; try (first | refine dr1 ?_ | refine dr2 ?_ | refine dr3 ?_ | refine dr4 ?_)
        have hv := dp_pf 4 _ _ _ hd hq
        have q9 := lh (GE a) 4 v v hv hv
        rw [teq_refl 4 v hv] at q9
        refine rn T 99 [] ?_; try (first | refine dr1 ?_ | refine dr2 ?_ | refine dr3 ?_ | refine dr4 ?_)
        refine pcs (q9) ?_; try (first | refine dr1 ?_ | refine dr2 ?_ | refine dr3 ?_ | refine dr4 ?_)
        refine rn T 99 [] ?_; try (first | refine dr1 ?_ | refine dr2 ?_ | refine dr3 ?_ | refine dr4 ?_)
        exact rt1 T (pb true) rfl
end Go.Proofs.YtjacjidomopmaaaDoor.K
end
section
namespace Go.Proofs.YtjacjidomopmaaaDoor.K
open Go Go.RowKit Go.Proofs.YtjacjidomopmaaaDoor.En Go.Proofs.YtjacjidomopmaaaDoor.Ty Go.Proofs.YtjacjidomopmaaaDoor.B
set_option maxRecDepth 100000
set_option linter.unusedSimpArgs false
set_option linter.unusedVariables false
def IsRow (k : IntKind) (w : World) (a : Option Addr) (len cap : Nat) (zs : List Int) : Prop :=
  (a = none ∧ len = 0 ∧ cap = 0 ∧ zs = []) ∨
  ∃ x, a = some x ∧ len ≤ cap ∧ cap ≤ maxLen ∧ zs.length = cap ∧ (∀ i, i < zs.length → w.cell? (x.add i) = some (.int k (zs.getD i 0))) ∧ ∀ n ∈ zs, (Lit.int k n).wf = true
abbrev olds (w : World) : Nat → Nat → Prop := fun b _ => b < w.heap.size
theorem cell_lt {w : World} {a : Addr} {v : Value} (h : w.cell? a = some v) : a.block < w.heap.size ∧ a.spot = none := by
  unfold World.cell? at h
  cases hb : w.heap[a.block]? with
  | none => rw [hb] at h; cases h
  | some o =>
    rw [hb] at h
    refine ⟨(Array.getElem?_eq_some_iff.1 hb).1, ?_⟩
    cases o with
    | cells c e f =>
      simp only at h
      cases hs : a.spot with
      | none => rfl
      | some s => rw [hs] at h; simp at h
    | _ => cases h
theorem prep_row {k : IntKind} {w : World} {a : Option Addr} {len cap : Nat} {zs : List Int} (h : IsRow k w a len cap zs) : ∃ c : List Int, (∀ n ∈ c, (Lit.int k n).wf = true) ∧ c.length ≤ 9223372036854775807 ∧ PRep w (olds w) (.row 1 (c.map fun n => .c (.int k n))) (.slice a len cap) := by
  rcases h with ⟨rfl, rfl, rfl, rfl⟩ | ⟨x, rfl, h1, h2, h3, h4, h5⟩
  · exact ⟨[], by simp, by simp, .nl⟩
  · refine ⟨zs.take len, fun n hn => h5 n (List.mem_of_mem_take hn), (by rw [List.length_take]; have : cap ≤ 9223372036854775807 := Nat.le_trans h2 (by decide); omega), ?_⟩
    by_cases h0 : len = 0
    · subst h0
      exact .nl
    · have hx := cell_lt (h4 0 (by omega))
      simp only [Addr.add, if_pos] at hx
      obtain ⟨b, off, sp⟩ := x
      obtain ⟨hx1, rfl⟩ := hx
      have hadd : ∀ i, (Addr.add ⟨b, off, none⟩ i) = ⟨b, off + i, none⟩ := fun i => by
        unfold Addr.add
        split
        · rename_i e; subst e; rfl
        · rfl
      have hlen : ((zs.take len).map fun n => PV.c (.int k n)).length = len := by simp; omega
      have hp := PRep.row (w := w) (S := olds w) (z := 1) (xs := (zs.take len).map fun n => PV.c (.int k n)) (b := b) (off := off) (c := cap) (fun i => .int k (zs.getD i 0)) (by rw [hlen]; exact h1) (fun y hy => by
        obtain ⟨n, _, rfl⟩ := List.mem_map.1 hy; rfl) (fun i y hy => ?_) (fun i hi => ⟨hx1, by rw [← hadd]; exact h4 i (by rw [hlen] at hi; omega), rfl⟩)
      · rw [hlen] at hp; exact hp
      · have hfl : flat ((zs.take len).map fun n => PV.c (.int k n)) = (zs.take len).map fun n => PV.c (.int k n) := by
          generalize zs.take len = l
          induction l with
          | nil => rfl
          | cons x l ih => show _ :: flat _ = _; rw [ih]; rfl
        rw [hfl, List.getElem?_map] at hy
        cases hz : (zs.take len)[i]? with
        | none => rw [hz] at hy; cases hy
        | some n =>
          rw [hz] at hy
          cases hy
          have hi : i < len := by have := (List.getElem?_eq_some_iff.1 hz).1; rw [List.length_take] at this; omega
          rw [List.getElem?_take_of_lt hi] at hz
          have : zs.getD i 0 = n := by simp [List.getD, hz]
          rw [this]
          exact .c rfl
theorem FC.row {P : Program} {G : Nat → Option PV} {f : FuncId} {xs : List PV} {c : Value} (h : FC P G f (xs.map .p) [] (fun r _ => r = .p (.c c))) (w : World) (V : List Value) (hl : V.length = xs.length) (hv : ∀ (k : Nat) x v, xs[k]? = some x → V[k]? = some v → PRep w (olds w) x v)
    (hG : ∀ i y, G i = some y → ∃ u, w.cell? ⟨i, 0, none⟩ = some u ∧ u.oneCell' = true ∧ PRep w (olds w) y u) : Calls P f V.toArray w fun e w' => e = .returned c ∧ Below w.heap.size w w' := by
  refine (h.2 w (olds w) (fun _ => ⟨.nilIface, fun _ => False⟩) V ⟨(fun i o ho => by cases ho), (fun i j _ hi => absurd hi (Nat.not_lt_zero _)), (fun b k hb => hb), (fun i o ho => by cases ho), (fun i y hy => ?_)⟩ (by simpa using hl) (fun k x v hx hv' => ?_)).mono ?_
  · obtain ⟨u, h1, h2, h3⟩ := hG i y hy
    exact ⟨u, (cell_lt h1).1, h1, h2, h3⟩
  · rw [List.getElem?_map] at hx
    cases hx2 : xs[k]? with
    | none => rw [hx2] at hx; cases hx
    | some y => rw [hx2] at hx; cases hx; exact .p (hv k y v hx2 hv')
  · rintro e w' ⟨r, H', v, S', g', rfl, rfl, _, hr, _, he, _⟩
    cases hr with | p hr =>
    cases hr
    exact ⟨rfl, he.os, he.tape, he.output, he.size, fun k hk => he.block k hk (fun i hi => absurd hi (Nat.not_lt_zero _))⟩
theorem gE_ok {w : World} {a : Addr} (h : w.cell? ⟨0, 0, none⟩ = some (.iface 93 (.pointer (some a)))) : ∀ i y, GE a i = some y → ∃ u, w.cell? ⟨i, 0, none⟩ = some u ∧ u.oneCell' = true ∧ PRep w (olds w) y u := by
  intro i y hy
  unfold GE at hy
  split at hy
  · cases hy; exact ⟨_, h, rfl, .ifc (.c rfl)⟩
  · cases hy
theorem sentNamed : Tryd.prog.globalNamed "loop.example/handfast/impl.errKindNone" = some 0 := by kernel_rfl
theorem sentType : (Tryd.prog.globals[0]?).map (·.type) = some 61 := by kernel_rfl
theorem sentRow (u : TypeId) (h : Tryd.prog.typeName? 3 u = some "*errors.errorString") : u = 93 :=
  typeName_ptr_named (nm := "errors.errorString") (by rw [show "*" ++ "errors.errorString" = "*errors.errorString" by decide]; kernel_rfl) (by kernel_rfl) (by decide) u (by rw [show "*" ++ "errors.errorString" = "*errors.errorString" by decide]; exact h)
theorem sentCells : Tryd.prog.cellsOf 120 = 1 := by kernel_rfl
theorem sentCellsS : Tryd.prog.cellsOf 9 = 1 := by kernel_rfl
theorem sent_of {W : World} {text : List UInt8} (h : laidMetH Tryd.prog [("loop.example/handfast/impl.errKindNone", .iface "*errors.errorString" (.ptr (.agg [.lit (.string text)])))] W) : ∃ a, W.cell? ⟨0, 0, none⟩ = some (.iface 93 (.pointer (some a))) ∧ W.var? Tryd.prog "loop.example/handfast/impl.errKindNone" = some #[.iface 93 (.pointer (some a))] := by
  rw [MakeChecks.laidMetH_plain _ _ _ rfl] at h
  obtain ⟨a, s, hv, _⟩ := laid_sentinel h sentNamed sentType Tryd.underlying61 sentRow Tryd.underlying93 Tryd.underlying120 rfl rfl Tryd.underlying9 sentCells sentCellsS
  exact ⟨a, by simpa using World.var?_cell sentNamed hv 0, hv⟩
end Go.Proofs.YtjacjidomopmaaaDoor.K
end
section
namespace Go.Proofs.YtjacjidomopmaaaDoor.fnKindPart
open Go.ChangeShapes Go.WideShapes Go.ChangeAt Go.RowKit Go.Proofs.YtjacjidomopmaaaDoor.K Go.Proofs.YtjacjidomopmaaaDoor.En Go.Proofs.YtjacjidomopmaaaDoor.Ty
set_option linter.unusedVariables false
theorem own : ownKnob Tryd.prog.godebug = none := by kernel_rfl
theorem laidOut : laidOutB Tryd.prog = true := by kernel_rfl
theorem wf8 {n : Int} (h : (Lit.int .u8 n).wf = true) : 0 ≤ n ∧ n ≤ 255 := bounds_u8 h
theorem door_met (os : Os) (args : Array Value) : laidMetH Tryd.prog Rows.fnKindPartRow.laid ((World.doorLaid Tryd.prog 400 os).forCall (fun _ _ => 0) ⟨#[], args, []⟩).memory :=
  laidMetH_of_parts3 (fuel := 8) (laidMet_of_run' 8 (by kernel_rfl) (by kernel_rfl)) (by kernel_rfl) (by kernel_rfl)
set_option maxRecDepth 100000 in
theorem lifted (os : Os) (started : os.Started) (H : Type) (enc : TypeId × Value → H) :
    ReturnsInHanded {} Tryd.checked os 5 .any (fun w args => (Rows.fnKindPartSpec.pre enc Tryd.prog Tryd.f5 [] false w args ∧ laidMetH Tryd.prog Rows.fnKindPartRow.laid w) ∧ sizedMet enc Tryd.prog Tryd.f5 (OpenSpec.ofChange Rows.fnKindPartSpec) false w args) (Rows.fnKindPartSpec.post enc Tryd.prog Tryd.f5 false true false false) := by
  refine returnsInHanded_of_change_and (C := Tryd.checked) (X := fun w _ => laidMetH Tryd.prog Rows.fnKindPartRow.laid w) (fun _ _ _ hh h => h.of_heap hh) own started (by kernel_rfl) Tryd.func5
    (ChangeSpec.witness_shaped (enc := enc) (C := Tryd.checked) (os := os) (X := fun w _ => laidMetH Tryd.prog Rows.fnKindPartRow.laid w) false (World.doorLaid Tryd.prog 400 os) #[.slice none 0 0, .slice none 0 0] 8 rfl (World.shaped_of_RefB (by kernel_rfl) (by kernel_rfl)) (by kernel_rfl) (by kernel_rfl) (by kernel_rfl) (door_met os _)) ?_
  intro W base args ds gs before hval0 hW hcnd hsz0 hL _
  have hval : ∀ (j : Nat) t v, Tryd.f5.params[j]? = some t → args[j]? = some v → Value.okWide Tryd.prog W .any base t v := hval0
  have hW' := hW
  obtain ⟨p, q, hA0, hV0, rfl, hfz, hnd⟩ := hW
  have hA : DataW.TrodAll enc Tryd.prog W 0 (fun _ => true) true Tryd.f5.params.toList args.toList ds p := hA0
  have hV : DataW.TrodVars enc Tryd.prog W (fun _ => true) ["loop.example/handfast/impl.errKindNone"] gs q := hV0
  rw [Tryd.params5] at hA hval
  obtain ⟨v0, vs0, d0, ds0, p0, q0, hargs, rfl, rfl, h0, r0⟩ := trodAll_cons hA
  obtain ⟨v1, vs1, d1, ds1, p1, q1, rfl, rfl, rfl, h1, r1⟩ := trodAll_cons r0
  obtain ⟨rfl, rfl, rfl⟩ := trodAll_nil r1
  obtain rfl : args = #[v0, v1] := by cases args; simp_all
  obtain ⟨ad, had, hvr⟩ := sent_of hL
  obtain ⟨rfl, rfl⟩ := hV.unique (vars_read1 enc sentNamed sentType Tryd.underlying61 hvr trivial _)
  have k0 := h0
  have lt0 : ∀ x ∈ p0, x.block < W.heap.size := by obtain ⟨m, hm⟩ := k0; exact DataW.trod_lt m _ _ _ hm
  obtain ⟨a0, len0, cap0, rfl⟩ := okWide_slice Tryd.underlying22 (hval 0 22 v0 rfl rfl)
  obtain ⟨z0, w0⟩ : ∃ zs, IsRow .u8 W a0 len0 cap0 zs := by
    obtain ⟨fuel, hf⟩ := h0
    rcases open_ints Tryd.underlying22 Tryd.underlying5 (by kernel_rfl) hf with ⟨hcs, _⟩ | ⟨x, l, c, zs, hcs, _, hl, hm, hz, _, hcell, hwz⟩
    · simp [Value.cells] at hcs
      obtain ⟨rfl, rfl, rfl⟩ := hcs
      exact ⟨[], .inl ⟨rfl, rfl, rfl, rfl⟩⟩
    · simp [Value.cells] at hcs
      obtain ⟨rfl, rfl, rfl⟩ := hcs
      exact ⟨zs, .inr ⟨_, rfl, hl, hm, by simpa using hz, hcell, hwz⟩⟩
  obtain ⟨c0, cw0, cl0, cp0⟩ := prep_row w0
  have k1 := h1
  have lt1 : ∀ x ∈ p1, x.block < W.heap.size := by obtain ⟨m, hm⟩ := k1; exact DataW.trod_lt m _ _ _ hm
  obtain ⟨a1, len1, cap1, rfl⟩ := okWide_slice Tryd.underlying22 (hval 1 22 v1 rfl rfl)
  obtain ⟨z1, w1⟩ : ∃ zs, IsRow .u8 W a1 len1 cap1 zs := by
    obtain ⟨fuel, hf⟩ := h1
    rcases open_ints Tryd.underlying22 Tryd.underlying5 (by kernel_rfl) hf with ⟨hcs, _⟩ | ⟨x, l, c, zs, hcs, _, hl, hm, hz, _, hcell, hwz⟩
    · simp [Value.cells] at hcs
      obtain ⟨rfl, rfl, rfl⟩ := hcs
      exact ⟨[], .inl ⟨rfl, rfl, rfl, rfl⟩⟩
    · simp [Value.cells] at hcs
      obtain ⟨rfl, rfl, rfl⟩ := hcs
      exact ⟨zs, .inr ⟨_, rfl, hl, hm, by simpa using hz, hcell, hwz⟩⟩
  obtain ⟨c1, cw1, cl1, cp1⟩ := prep_row w1
  clear hA0 hval0 hsz0
  have hfc := partLaw ad c0 c1 (fun x hx => wf8 (cw0 x hx)) cl0
  have hvs : ∀ (k : Nat) x v, ([.row 1 (c0.map fun n => .c (.int .u8 n)), .row 1 (c1.map fun n => .c (.int .u8 n))] : List En.PV)[k]? = some x → [Value.slice a0 len0 cap0, Value.slice a1 len1 cap1][k]? = some v → En.PRep W (olds W) x v := by
    intro k x v hx hv
    match k, hx, hv with
    | 0, rfl, rfl => exact cp0
    | 1, rfl, rfl => exact cp1
    | k + 2, hx, hv => simp at hx
  have hrun := FC.row hfc W _ rfl hvs (gE_ok had)
  refine hrun.mono fun e W' ⟨he, bel⟩ => ?_
  subst he
  exact ⟨_, rfl, _, _, _, [], _, _, hW', trodAll_mk1 (shut_bool Tryd.underlying4 _), (trodAll_cons_mk (Below.trod laidOut (by kernel_rfl) (of_decide_eq_true (by kernel_rfl)) k0 bel lt0) (trodAll_cons_mk (Below.trod laidOut (by kernel_rfl) (of_decide_eq_true (by kernel_rfl)) k1 bel lt1) trodAll_mk0)), Below.trodVars laidOut bel (by kernel_rfl) hV, bel.frame _, fun h => by cases h⟩
theorem over : Rows.fnKindPartRow.holds Tryd.pinned (OpenSpec.ofChange Rows.fnKindPartSpec) :=
  OpenClaim.holds_of_wide 5 Tryd.f5 rfl rfl rfl rfl rfl rfl rfl ⟨rfl, rfl, rfl, rfl, rfl⟩ rfl rfl rfl rfl rfl (by kernel_rfl) Tryd.func5 (by kernel_rfl)
    (of_decide_eq_true (by kernel_rfl)) (by unfold Func.isWrapper; first | (rw [if_pos (by decide +kernel)]; kernel_rfl) | (rw [if_neg (by decide +kernel)]; exact ⟨rfl, rfl⟩))
    (fun os started H enc _ => lifted os started H enc)
theorem proved : Rows.FnKindPartCardSaid :=
  Claim7.holds_tied_plain_at .later [] [.sentinel] true (true, "ccd76ed37a0188e96d500f81bd3964526dfde6c9ecb9c99eaa301ebac6a220d4") true
    over (fun _ h => by cases h) (by kernel_rfl) (fun _ h => by cases h) fnKindPart_row_tie rfl ⟨rfl, rfl⟩ (by kernel_rfl) rfl
    (fun f fn hf hfn => by
      obtain rfl : f = 5 := Option.some.inj ((show Tryd.prog.funcNamed "loop.example/handfast/laws.FnKindPart" = some 5 by kernel_rfl).symm.trans hf) |>.symm
      obtain rfl : fn = Tryd.f5 := (Option.some.inj (Tryd.func5.symm.trans hfn)).symm
      exact ⟨by kernel_rfl, fun j t ht => by
        rw [Tryd.params5] at ht
        have hm : t ∈ [22] := by simpa using Array.mem_of_getElem? ht
        have hall : ([22].all fun u => !Tryd.prog.wantsStandIn u) = true := by kernel_rfl
        exact (show Tryd.prog.wantsStandIn t = false by simpa using List.all_eq_true.1 hall t hm)⟩)
    (by kernel_rfl)
#print axioms proved
end Go.Proofs.YtjacjidomopmaaaDoor.fnKindPart
namespace Go.Proofs.YtjacjidomopmaaaDoor
theorem fnKindPart_holds : Rows.FnKindPartCardSaid := fnKindPart.proved
end Go.Proofs.YtjacjidomopmaaaDoor
end
