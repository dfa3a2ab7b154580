-- YtlcmokgnmlklnaaDoor's texts for the statement FnSimpKind, one behind the other (merge.py).
import Derived.Test.YtlcmokgnmlklnaaDoorQFnSimpKind2
import Derived.Lib.SliceRun
import Derived.Lib.Walk
import Derived.Lib.AppendZerosOnto
section
namespace Go.Proofs.YtlcmokgnmlklnaaDoor.K
open Go Go.RowKit Go.Proofs.YtlcmokgnmlklnaaDoor.En Go.Proofs.YtlcmokgnmlklnaaDoor.Ty Go.Proofs.YtlcmokgnmlklnaaDoor.B
set_option maxRecDepth 100000
set_option linter.unusedSimpArgs false
set_option linter.unusedVariables false
set_option pp.deepTerms false
set_option pp.deepTerms.threshold 8
set_option pp.maxSteps 1000
set_option maxHeartbeats 1000000
theorem pput_new : ∀ (l : List (ByteArray × PV)) (s : ByteArray) (v : PV), (∀ q ∈ l, (s == q.1) = false) → pput l s v = l ++ [(s, v)]
  | [], s, v, _ => rfl
  | q :: l, s, v, h => by
    unfold pput
    rw [h q (by simp), if_neg (by simp), pput_new l s v (fun r hr => h r (by simp [hr]))]
    rfl
theorem nsF_ix : ∀ (l pre : List ByteArray), nsF pre l = true → ∀ (i : Nat) (x : ByteArray), l[i]? = some x → hasS (pre ++ l.take i) x = false
  | [], pre, _, i, x, hx => by simp at hx
  | y :: l, pre, h, i, x, hx => by
    unfold nsF at h
    simp only [Bool.and_eq_true, Bool.not_eq_true'] at h
    match i with
    | 0 =>
      simp only [List.getElem?_cons_zero, Option.some.injEq] at hx
      subst hx
      simpa using h.1.2
    | i + 1 =>
      have := nsF_ix l (pre ++ [y]) h.2 i x (by simpa using hx)
      simpa using this
abbrev zipE (ns : List ByteArray) (ts : List Tn) : List (ByteArray × Ty) := ns.zip (ts.map Tn.f0)
theorem put_step {ns : List ByteArray} {ts : List Tn} (h : nsB ns = true) (hl : ns.length = ts.length) {i : Nat} {x : ByteArray} {u : Tn} (hx : ns[i]? = some x) (hu : ts[i]? = some u) :
    pput (ems ((zipE ns ts).take i)) x (pt u.f0) = ems ((zipE ns ts).take (i + 1)) := by
  unfold nsB at h
  rw [Bool.and_eq_true] at h
  have h1 := nsF_ix ns [] h.2 i x hx
  rw [pput_new]
  · have hz : (zipE ns ts)[i]? = some (x, u.f0) := by
      rw [List.getElem?_zip_eq_some]; exact ⟨hx, by rw [List.getElem?_map, hu]; rfl⟩
    rw [List.take_add_one, hz]
    simp [ems]
  · intro q hq
    obtain ⟨⟨n, v⟩, hq1, rfl⟩ := List.mem_map.1 hq
    have hq2 : n ∈ ns.take i := by
      have h3 := List.mem_map_of_mem (f := Prod.fst) hq1
      rw [List.map_take, List.map_fst_zip (by simp [hl])] at h3
      exact h3
    unfold hasS at h1
    rw [List.nil_append, List.any_eq_false] at h1
    simpa using h1 n hq2
theorem look_has : ∀ (ns : List ByteArray) (ts : List Tn), ns.length = ts.length → ∀ s, (look (zipE ns ts) s).isSome = hasS ns s
  | [], [], _, s => rfl
  | [], _ :: _, h, s => by cases h
  | _ :: _, [], h, s => by cases h
  | n :: ns, t :: ts, h, s => by
    have ih := look_has ns ts (by simpa using h) s
    unfold look hasS at ih ⊢
    simp only [zipE, List.map_cons, List.zip_cons_cons, List.find?_cons, List.any_cons]
    cases (s == n) with
    | true => rfl
    | false => simpa using ih
theorem look_dp : ∀ (ns : List ByteArray) (ts : List Tn), (ts.all fun t => dp 4 t.f0) = true → ∀ s, dp 4 (envM (zipE ns ts) s) = true := by
  intro ns ts h s
  unfold envM
  cases hl : look (zipE ns ts) s with
  | none => rfl
  | some u =>
    unfold look at hl
    obtain ⟨q, hq, rfl⟩ := Option.map_eq_some_iff.1 hl
    have h2 := (List.of_mem_zip (List.mem_of_find?_eq_some hq)).2
    obtain ⟨t, ht, e⟩ := List.mem_map.1 h2
    rw [Option.getD_some, ← e]
    exact List.all_eq_true.1 h t ht
def KT (ns : List ByteArray) (ts : List Tn) (t : Mn) : Option Ty :=
  if nsB ns = true ∧ ns.length = ts.length ∧ (ts.all fun t => dp 4 t.f0) = true ∧ tk (fun s => pw s && hasS ns s) 8 t = true then kd (envM (zipE ns ts)) 8 t else none
theorem kindTerm2 (a : Addr) (ns : List ByteArray) (ts : List Tn) (t : Mn) (hb : ts.length ≤ 1000) :
    FC Tryd.prog (GE a) 6 [.p (.row 1 (ns.map ps)), .p (.row 1 (ts.map eT)), .p (pm t)] [] (fun r H' => r = .tp [.p (pt ((KT ns ts t).getD [])), .p (pb (KT ns ts t).isSome)]) := by
  obtain ⟨k, m0, s, p, l⟩ := t
  show FC _ _ _ [_, _, .p (.ag [pi k, pi m0, ps s, .row 1 (p.map pi), .row 5 (l.map eM)])] _ _
  refine bdy Tryd.func6 (fun d => if d = 30 ∨ d = 8 then 1 else 0) rfl ?_
  refine rn T 99 [] ?_
  have c1 := names2 (GE a) ns
  have c2 := typesOk (GE a) ts hb
  unfold KT
  cases h1 : nsB ns with
  | false =>
    rw [h1] at c1
    refine rn T 99 [] ?_
    refine pcs (c1) ?_
    refine rn T 99 [] ?_
    refine cts ?_
    refine rn T 99 [] ?_
    rw [if_neg (by simp)]
    exact rt2 T (pt []) (pb false) rfl
  | true =>
    rw [h1] at c1
    refine rn T 99 [] ?_
    refine pcs (c1) ?_
    by_cases h2 : ns.length = ts.length
    · refine rn T 7 [] ?_
      rw [show (((ns.map ps).length : Int) != ((ts.map eT).length : Int)) = false by simp [h2]]
      cases h3 : ts.all fun t => dp 4 t.f0 with
      | false =>
        rw [h3] at c2
        refine rn T 99 [] ?_
        refine pcs (c2) ?_
        refine rn T 99 [] ?_
        refine cts ?_
        refine rn T 99 [] ?_
        rw [if_neg (by simp)]
        exact rt2 T (pt []) (pb false) rfl
      | true =>
        rw [h3] at c2
        refine rn T 99 [] ?_
        refine pcs (c2) ?_
        refine rn T 99 [] ?_
        refine cfs ?_
        refine rn T 99 [] ?_
        refine rn T 99 [] ?_
        refine lpw (fun i : Nat => MS.mk [(33, .p (pi i)), (32, .p (pi (ns.map ps).length)), (31, .p (.row 1 (ns.map ps))), (0, .p (.row 1 (ns.map ps))), (1, .p (.row 1 (ts.map eT))), (5, .ptr (.L 5) 0), (6, .ptr (.L 6) 0), (8, .ptr (.S 1) 0)] 63 [(5, .box 28 [.p (pi k), .p (pi m0), .p (ps s), .p (.row 1 (p.map pi)), .p (.row 5 (l.map eM))]), (6, .box 32 [.nil])] [.mp (ems ((zipE ns ts).take i)), .box 57 [.mp (.S 0)]]) (fun m i => m + i = ns.length) (ns.length) (0) (by simp) ?_
        intro m i h4
        refine op ?_
        refine rn T 99 [] ?_
        by_cases hi : i < ns.length
        · obtain ⟨x, hx⟩ : ∃ x, ns[i]? = some x := ⟨_, List.getElem?_eq_getElem hi⟩
          obtain ⟨u, hu⟩ : ∃ u, ts[i]? = some u := ⟨_, List.getElem?_eq_getElem (h2 ▸ hi)⟩
          refine ctq rfl (by simp [hi]) ?_
          refine rn T 99 [ps x] ?_; try (first | refine dr1 ?_ | refine dr2 ?_ | refine dr3 ?_ | refine dr4 ?_)
          refine rn T 99 [pt u.f0] ?_
          rw [show pput (ems ((zipE ns ts).take i)) x (.ag [.row 1 (u.f0.map eT)]) = _ from put_step h1 h2 hx hu]
          refine rn T 99 [] ?_
          rw [wkS (by omega)]
          refine nxt (m - 1) (i + 1) (by omega)
        · refine cfq rfl (by simp [hi]) ?_
          rw [List.take_of_length_le (by simp; omega)]
          have hH := hsh_HK (zipE ns ts)
          have hbd : ∀ s, FE Tryd.prog (GE a) 23 (.p (ps s) :: [.ptr (.S 1) 0]) (HK (zipE ns ts)) (RB (hasS ns s) (HK (zipE ns ts))) := fun s => by
            have := bound2 (GE a) (zipE ns ts) s
            rw [look_has ns ts h2 s] at this
            exact this
          have c3 := termOk2 (GE a) hH 23 1 (hasS ns) hbd 8 (by omega) ⟨k, m0, s, p, l⟩
          refine rn T 99 [] ?_
          refine rn T 99 [] ?_
          cases h5 : tk (fun s => pw s && hasS ns s) 8 ⟨k, m0, s, p, l⟩ with
          | false =>
            rw [h5] at c3
            refine hes (c3) ?_; rintro _ _ ⟨rfl, rfl⟩ _ _; refine op ?_
            refine rn T 99 [] ?_
            refine cts ?_
            refine rn T 99 [] ?_
            rw [if_neg (by simp)]
            exact rt2 T (pt []) (pb false) rfl
          | true =>
            rw [h5] at c3
            have c4 := kterm2 a (zipE ns ts) (look_dp ns ts h3) _ 8 _ h5
            rw [if_pos ⟨rfl, h2, rfl, rfl⟩]
            refine hes (c3) ?_; rintro _ _ ⟨rfl, rfl⟩ _ _; refine op ?_
            refine rn T 99 [] ?_
            refine cfs ?_
            refine rn T 99 [] ?_
            cases h6 : kd (envM (zipE ns ts)) 8 ⟨k, m0, s, p, l⟩ with
            | none =>
              rw [h6] at c4
              refine hes (c4) ?_; rintro _ _ ⟨rfl, rfl⟩ _ _; refine op ?_
              refine rn T 99 [] ?_
              refine rn T 99 [] ?_
              refine pcs (is_same2 (GE a) a) ?_
              refine cts ?_
              refine rn T 99 [] ?_
              exact rt2 T (pt []) (pb false) rfl
            | some v =>
              rw [h6] at c4
              refine hes (c4) ?_; rintro _ _ ⟨rfl, rfl⟩ _ _; refine op ?_
              simp only [Option.getD_some]
              refine rn T 99 [] ?_
              refine rn T 99 [] ?_
              refine pcs (is_nil2 (GE a) a) ?_
              refine cfs ?_
              refine rn T 99 [] ?_
              refine pcs (copy2 (GE a) 4 v (kd_dp _ (look_dp ns ts h3) _ _ _ h6)) ?_
              refine rn T 99 [] ?_
              exact rt2 T (pt v) (pb true) rfl
    · refine rn T 7 [] ?_
      rw [show (((ns.map ps).length : Int) != ((ts.map eT).length : Int)) = true by simp; omega]
      refine rn T 99 [] ?_
      refine cts ?_
      refine rn T 99 [] ?_
      rw [if_neg (fun q => h2 q.2.1)]
      exact rt2 T (pt []) (pb false) rfl
end Go.Proofs.YtlcmokgnmlklnaaDoor.K
end
section
namespace Go.Proofs.YtlcmokgnmlklnaaDoor.K
open Go Go.RowKit Go.Proofs.YtlcmokgnmlklnaaDoor.En Go.Proofs.YtlcmokgnmlklnaaDoor.Ty Go.Proofs.YtlcmokgnmlklnaaDoor.B
set_option maxRecDepth 100000
set_option linter.unusedSimpArgs false
set_option linter.unusedVariables false
set_option pp.deepTerms false
set_option pp.deepTerms.threshold 8
set_option pp.maxSteps 1000
set_option maxHeartbeats 1000000
theorem tkH_sz {nm : ByteArray → Bool} {k m : Int} {s : ByteArray} {p : List Int} {l : List Mn} (h : tkH nm ⟨k, m, s, p, l⟩ = true) : l.length ≤ 2 ∧ pathB p = true := by
  have h0 : p.length = 0 → pathB p = true := fun e => by rw [List.eq_nil_of_length_eq_zero e]; rfl
  by_cases k1 : k = 1
  · subst k1; rw [tkH_1] at h; simp at h; exact ⟨by simp [h.2], h0 (by simp [h.1.2])⟩
  by_cases k2 : k = 2
  · subst k2; rw [tkH_2] at h; simp at h; exact ⟨by simp [h.2], h0 (by simp [h.1.2])⟩
  by_cases k3 : k = 3 ∨ k = 4 ∨ k = 5 ∨ k = 6
  · rw [tkH_3 _ _ _ _ _ _ k3] at h; simp at h; exact ⟨by simp [h.2], h0 (by simp [h.1.2])⟩
  by_cases k7 : k = 7
  · subst k7; rw [tkH_7] at h; simp at h; exact ⟨by simp [h.2], h.1.1.1⟩
  by_cases k8 : k = 8
  · subst k8; rw [tkH_8] at h; simp at h; exact ⟨by simp [h.2], h.1.1.1⟩
  rw [tkH_o _ _ _ _ _ _ k1 k2 k3 k7 k8] at h
  cases h
theorem csp {P : Program} {G : Nat → Option PV} {md : Nat → Nat} {Q : Exit → St → Prop} {c : Operand} {x y : Code} {s : MS} {b : Bool} (hc : evM s.l c = some (.p (.c (.bool b)))) (h1 : b = true → AW P x Q (s.st G md)) (h2 : b = false → AW P y Q (s.st G md)) : AW P (.cond c x y) Q (s.st G md) := by
  cases b with
  | true => exact ctp hc rfl (h1 rfl)
  | false => exact cfp hc rfl (h2 rfl)
theorem term12 (G : Nat → Option PV) (ns : List ByteArray) (hl : ns.length ≤ 1000) : ∀ (n : Nat), n ≤ 1000 → ∀ (t : Mn), PF Tryd.prog G 15 [.row 1 (ns.map ps), pm t, pi n] (.p (pb (tk (hasS ns) n t))) := by
  intro n
  induction n with
  | zero =>
    intro _ ⟨k, m, s, p, l⟩
    show PF _ _ _ [_, .ag [pi k, pi m, ps s, .row 1 (p.map pi), .row 5 (l.map eM)], _] _
    refine ⟨(by first | exact .p | exact .tp (fun x hx => by simp at hx; rcases hx with rfl | rfl <;> exact .p) | exact .tp (fun x hx => by simp at hx; rcases hx with rfl | rfl | rfl <;> exact .p)), bdy Tryd.func15 (fun _ => 0) rfl ?_⟩
    refine rn T 99 [] ?_
    refine rn T 99 [] ?_
    refine cts ?_
    refine rn T 99 [] ?_
    exact ⟨[_], ⟨_, _, rfl, .inl rfl, rfl⟩, .p, rfl⟩
  | succ n ih =>
    intro hn ⟨k, m, s, p, l⟩
    have ih := ih (by omega)
    show PF _ _ _ [_, .ag [pi k, pi m, ps s, .row 1 (p.map pi), .row 5 (l.map eM)], _] _
    refine ⟨(by first | exact .p | exact .tp (fun x hx => by simp at hx; rcases hx with rfl | rfl <;> exact .p) | exact .tp (fun x hx => by simp at hx; rcases hx with rfl | rfl | rfl <;> exact .p)), bdy Tryd.func15 (fun _ => 0) rfl ?_⟩
    refine rn T 99 [] ?_
    refine rn T 2 [] ?_
    rw [show decide (((n + 1 : Nat) : Int) < 1) = false by simp; omega]
    by_cases hl2 : l.length ≤ 2
    · by_cases hp4 : p.length ≤ 4
      · refine rn T 5 [] ?_
        rw [show decide (((l.map eM).length : Int) > 2) = false by simp; omega]
        refine rn T 99 [] ?_
        refine cfq rfl (by simp; omega) ?_
        refine rn T 99 [] ?_
        refine lpw (fun i : Nat => MS.mk [(7, .p (pi i)), (0, .p (.row 1 (ns.map ps))), (2, .p (pi (n + 1 : Nat))), (4, .ptr (.L 4) 0)] 131 [(4, .box 28 [.p (pi k), .p (pi m), .p (ps s), .p (.row 1 (p.map pi)), .p (.row 5 (l.map eM))])] []) (fun mm i => mm + i = l.length ∧ (l.drop i).all (tk (hasS ns) n) = l.all (tk (hasS ns) n)) (l.length) (0) (by simp) ?_
        intro mm i ⟨h1, h2⟩
        refine op ?_
        refine rn T 99 [] ?_
        by_cases hi : i < l.length
        · obtain ⟨x, hx, hd⟩ := drop_ix hi
          rw [hd, List.all_cons] at h2
          refine ctq rfl (by simp [hi]) ?_
          refine rn T 99 [pm x] ?_
          rw [wkP (by omega)]
          have hc := ih x
          cases hx2 : tk (hasS ns) n x with
          | false =>
            rw [hx2] at hc h2
            refine pcs (hc) ?_
            refine rn T 99 [] ?_
            refine cts ?_
            refine rn T 99 [] ?_
            rw [show tk (hasS ns) (n + 1) ⟨k, m, s, p, l⟩ = false by rw [tk_eq, ← h2]; simp]
            exact ⟨[_], ⟨_, _, rfl, .inl rfl, rfl⟩, .p, rfl⟩
          | true =>
            rw [hx2, Bool.true_and] at h2
            rw [hx2] at hc
            refine pcs (hc) ?_
            refine rn T 99 [] ?_
            refine cfs ?_
            refine rn T 99 [] ?_
            rw [wkS (by omega)]
            refine nxt (mm - 1) (i + 1) (⟨by omega, h2⟩)
        · refine cfq rfl (by simp [hi]) ?_
          refine rn T 99 [] ?_
          have hall : l.all (tk (hasS ns) n) = true := by rw [← h2, List.drop_eq_nil_of_le (by omega)]; rfl
          have htk : tk (hasS ns) (n + 1) ⟨k, m, s, p, l⟩ = tkH (hasS ns) ⟨k, m, s, p, l⟩ := by rw [tk_eq, hall, Bool.and_true]
          rw [htk]
          refine lpw (fun i : Nat => MS.mk [(8, .p (pi i)), (0, .p (.row 1 (ns.map ps))), (4, .ptr (.L 4) 0)] 131 [(4, .box 28 [.p (pi k), .p (pi m), .p (ps s), .p (.row 1 (p.map pi)), .p (.row 5 (l.map eM))])] []) (fun mm i => mm + i = p.length ∧ (p.drop i).all bitB = p.all bitB) (p.length) (0) (by simp) ?_
          intro m3 j ⟨h3, h4⟩
          refine op ?_
          refine rn T 99 [] ?_
          by_cases hj : j < p.length
          · obtain ⟨x, hx, hd⟩ := drop_ix hj
            rw [hd, List.all_cons] at h4
            refine ctq rfl (by simp [hj]) ?_
            refine rn T 99 [pi x] ?_
            have hc := l6In G x 0 1
            cases hx2 : bitB x with
            | false =>
              rw [hx2] at h4
              rw [show (decide (x ≥ 0) && decide (x ≤ 1)) = false by have := hx2; unfold bitB at this; rw [← this]; simp [Bool.decide_and]] at hc
              refine pcs (hc) ?_
              refine rn T 99 [] ?_
              refine cts ?_
              refine rn T 99 [] ?_
              rw [show tkH (hasS ns) ⟨k, m, s, p, l⟩ = false by cases h : tkH (hasS ns) ⟨k, m, s, p, l⟩ with | false => rfl | true => have := (tkH_sz h).2; unfold pathB at this; rw [← h4] at this; simp at this]
              exact ⟨[_], ⟨_, _, rfl, .inl rfl, rfl⟩, .p, rfl⟩
            | true =>
              rw [hx2, Bool.true_and] at h4
              rw [show (decide (x ≥ 0) && decide (x ≤ 1)) = true by have := hx2; unfold bitB at this; rw [← this]; simp [Bool.decide_and]] at hc
              refine pcs (hc) ?_
              refine rn T 99 [] ?_
              refine cfs ?_
              refine rn T 99 [] ?_
              rw [wkS (by omega)]
              refine nxt (m3 - 1) (j + 1) (⟨by omega, h4⟩)
          · refine cfq rfl (by simp [hj]) ?_
            have hp : pathB p = true := by unfold pathB; rw [← h4, List.drop_eq_nil_of_le (by omega), decide_eq_true hp4]; rfl
            by_cases k1 : k = 1
            · subst k1
              refine rn T 99 [] ?_
              repeat' (first | (with_reducible refine n16 ?_) | (with_reducible refine EOps.ci ?_; first | refine EOps.one T [] rfl (by first | exact True.intro | exact ⟨True.intro, True.intro⟩) ?_ | (refine EOps.sp rfl ?_ ?_ <;> intro hc_ <;> rw [hc_] <;> first | replace hc_ := of_decide_eq_true hc_ | replace hc_ := of_decide_eq_false hc_ | replace hc_ := of_decide_eq_false (Eq.mp (Bool.not_eq_true' _) hc_) | replace hc_ := of_decide_eq_true (Eq.mp (Bool.not_eq_false' _) hc_) | skip)))
              all_goals (refine op ?_)
              all_goals (refine csp rfl ?_ ?_ <;> intro hc2_ <;> first | (cases hc2_; done) | skip)
              all_goals (refine op ?_)
              all_goals (try ((refine rn T 99 [] ?_); (rw [show tkH (hasS ns) ⟨1, m, s, p, l⟩ = false from by rw [tkH_1]; refine Bool.eq_false_iff.2 (fun hq => ?_); simp only [Bool.and_eq_true, decide_eq_true_eq] at hq; first | (simp_all; done) | (simp_all; omega)]); (exact ⟨[_], ⟨_, _, rfl, .inl rfl, rfl⟩, .p, rfl⟩); done))
              refine rn T 99 [] ?_
              refine rn T 99 [] ?_
              refine cts ?_
              have hc := l6In G m 0 9999
              refine rn T 99 [] ?_
              cases hb : (decide (m ≥ 0) && decide (m ≤ 9999)) with
              | true =>
                rw [hb] at hc
                refine pcs (hc) ?_
                refine rn T 99 [] ?_
                rw [show tkH (hasS ns) ⟨1, m, s, p, l⟩ = (((l.map eM).length : Int) == 0) by have e : decide (l.length = 0) = (((l.map eM).length : Int) == 0) := (by rw [Bool.eq_iff_iff]; simp <;> omega); rw [← e, tkH_1]; simp_all]
                exact ⟨[_], ⟨_, _, rfl, .inl rfl, rfl⟩, .p, rfl⟩
              | false =>
                rw [hb] at hc
                refine pcs (hc) ?_
                refine rn T 99 [] ?_
                rw [show tkH (hasS ns) ⟨1, m, s, p, l⟩ = false from by rw [tkH_1]; refine Bool.eq_false_iff.2 (fun hq => ?_); simp only [Bool.and_eq_true, decide_eq_true_eq] at hq; first | (simp_all; done) | (simp_all; omega)]
                exact ⟨[_], ⟨_, _, rfl, .inl rfl, rfl⟩, .p, rfl⟩
            by_cases k2 : k = 2
            · subst k2
              refine rn T 99 [] ?_
              repeat' (first | (with_reducible refine n16 ?_) | (with_reducible refine EOps.ci ?_; first | refine EOps.one T [] rfl (by first | exact True.intro | exact ⟨True.intro, True.intro⟩) ?_ | (refine EOps.sp rfl ?_ ?_ <;> intro hc_ <;> rw [hc_] <;> first | replace hc_ := of_decide_eq_true hc_ | replace hc_ := of_decide_eq_false hc_ | replace hc_ := of_decide_eq_false (Eq.mp (Bool.not_eq_true' _) hc_) | replace hc_ := of_decide_eq_true (Eq.mp (Bool.not_eq_false' _) hc_) | skip)))
              all_goals (refine op ?_)
              all_goals (refine csp rfl ?_ ?_ <;> intro hc2_ <;> first | (cases hc2_; done) | skip)
              all_goals (refine op ?_)
              all_goals (try ((refine rn T 99 [] ?_); (rw [show tkH (hasS ns) ⟨2, m, s, p, l⟩ = false from by rw [tkH_2]; refine Bool.eq_false_iff.2 (fun hq => ?_); simp only [Bool.and_eq_true, decide_eq_true_eq] at hq; first | (simp_all; done) | (simp_all; omega)]); (exact ⟨[_], ⟨_, _, rfl, .inl rfl, rfl⟩, .p, rfl⟩); done))
              refine rn T 99 [] ?_
              refine rn T 99 [] ?_
              refine cfs ?_
              refine rn T 99 [] ?_
              refine cts ?_
              have hc := has1 G ns s hl
              refine rn T 99 [] ?_
              cases hb : hasS ns s with
              | true =>
                rw [hb] at hc
                refine pcs (hc) ?_
                refine rn T 99 [] ?_
                rw [show tkH (hasS ns) ⟨2, m, s, p, l⟩ = (((l.map eM).length : Int) == 0) by have e : decide (l.length = 0) = (((l.map eM).length : Int) == 0) := (by rw [Bool.eq_iff_iff]; simp <;> omega); rw [← e, tkH_2]; simp_all]
                exact ⟨[_], ⟨_, _, rfl, .inl rfl, rfl⟩, .p, rfl⟩
              | false =>
                rw [hb] at hc
                refine pcs (hc) ?_
                refine rn T 99 [] ?_
                rw [show tkH (hasS ns) ⟨2, m, s, p, l⟩ = false from by rw [tkH_2]; refine Bool.eq_false_iff.2 (fun hq => ?_); simp only [Bool.and_eq_true, decide_eq_true_eq] at hq; first | (simp_all; done) | (simp_all; omega)]
                exact ⟨[_], ⟨_, _, rfl, .inl rfl, rfl⟩, .p, rfl⟩
            by_cases k7 : k = 7
            · subst k7
              refine rn T 99 [] ?_
              repeat' (first | (with_reducible refine n16 ?_) | (with_reducible refine EOps.ci ?_; first | refine EOps.one T [] rfl (by first | exact True.intro | exact ⟨True.intro, True.intro⟩) ?_ | (refine EOps.sp rfl ?_ ?_ <;> intro hc_ <;> rw [hc_] <;> first | replace hc_ := of_decide_eq_true hc_ | replace hc_ := of_decide_eq_false hc_ | replace hc_ := of_decide_eq_false (Eq.mp (Bool.not_eq_true' _) hc_) | replace hc_ := of_decide_eq_true (Eq.mp (Bool.not_eq_false' _) hc_) | skip)))
              all_goals (refine op ?_)
              all_goals (refine csp rfl ?_ ?_ <;> intro hc2_ <;> first | (cases hc2_; done) | skip)
              all_goals (refine op ?_)
              all_goals (try ((refine rn T 99 [] ?_); (rw [show tkH (hasS ns) ⟨7, m, s, p, l⟩ = false from by rw [tkH_7]; refine Bool.eq_false_iff.2 (fun hq => ?_); simp only [Bool.and_eq_true, decide_eq_true_eq] at hq; first | (simp_all; done) | (simp_all; omega)]); (exact ⟨[_], ⟨_, _, rfl, .inl rfl, rfl⟩, .p, rfl⟩); done))
              refine rn T 99 [] ?_
              refine rn T 99 [] ?_
              refine cfs ?_
              refine rn T 99 [] ?_
              refine cfs ?_
              refine rn T 99 [] ?_
              refine cts ?_
              refine rn T 99 [] ?_
              rw [show tkH (hasS ns) ⟨7, m, s, p, l⟩ = (((l.map eM).length : Int) == 1) by have e : decide (l.length = 1) = (((l.map eM).length : Int) == 1) := (by rw [Bool.eq_iff_iff]; simp <;> omega); rw [← e, tkH_7]; simp_all]
              exact ⟨[_], ⟨_, _, rfl, .inl rfl, rfl⟩, .p, rfl⟩
            by_cases k8 : k = 8
            · subst k8
              refine rn T 99 [] ?_
              repeat' (first | (with_reducible refine n16 ?_) | (with_reducible refine EOps.ci ?_; first | refine EOps.one T [] rfl (by first | exact True.intro | exact ⟨True.intro, True.intro⟩) ?_ | (refine EOps.sp rfl ?_ ?_ <;> intro hc_ <;> rw [hc_] <;> first | replace hc_ := of_decide_eq_true hc_ | replace hc_ := of_decide_eq_false hc_ | replace hc_ := of_decide_eq_false (Eq.mp (Bool.not_eq_true' _) hc_) | replace hc_ := of_decide_eq_true (Eq.mp (Bool.not_eq_false' _) hc_) | skip)))
              all_goals (refine op ?_)
              all_goals (refine csp rfl ?_ ?_ <;> intro hc2_ <;> first | (cases hc2_; done) | skip)
              all_goals (refine op ?_)
              all_goals (try ((refine rn T 99 [] ?_); (rw [show tkH (hasS ns) ⟨8, m, s, p, l⟩ = false from by rw [tkH_8]; refine Bool.eq_false_iff.2 (fun hq => ?_); simp only [Bool.and_eq_true, decide_eq_true_eq] at hq; first | (simp_all; done) | (simp_all; omega)]); (exact ⟨[_], ⟨_, _, rfl, .inl rfl, rfl⟩, .p, rfl⟩); done))
              refine rn T 99 [] ?_
              refine rn T 99 [] ?_
              refine cfs ?_
              refine rn T 99 [] ?_
              refine cfs ?_
              refine rn T 99 [] ?_
              refine cfs ?_
              have hc := l6In G 8 3 8
              refine rn T 99 [] ?_
              refine pcs (hc) ?_
              refine rn T 99 [] ?_
              rw [show tkH (hasS ns) ⟨8, m, s, p, l⟩ = (((l.map eM).length : Int) == 2) by have e : decide (l.length = 2) = (((l.map eM).length : Int) == 2) := (by rw [Bool.eq_iff_iff]; simp <;> omega); rw [← e, tkH_8]; simp_all]
              exact ⟨[_], ⟨_, _, rfl, .inl rfl, rfl⟩, .p, rfl⟩
            by_cases k3 : k = 3 ∨ k = 4 ∨ k = 5 ∨ k = 6
            · rcases k3 with rfl | rfl | rfl | rfl
              · refine rn T 99 [] ?_
                repeat' (first | (with_reducible refine n16 ?_) | (with_reducible refine EOps.ci ?_; first | refine EOps.one T [] rfl (by first | exact True.intro | exact ⟨True.intro, True.intro⟩) ?_ | (refine EOps.sp rfl ?_ ?_ <;> intro hc_ <;> rw [hc_] <;> first | replace hc_ := of_decide_eq_true hc_ | replace hc_ := of_decide_eq_false hc_ | replace hc_ := of_decide_eq_false (Eq.mp (Bool.not_eq_true' _) hc_) | replace hc_ := of_decide_eq_true (Eq.mp (Bool.not_eq_false' _) hc_) | skip)))
                all_goals (refine op ?_)
                all_goals (refine csp rfl ?_ ?_ <;> intro hc2_ <;> first | (cases hc2_; done) | skip)
                all_goals (refine op ?_)
                all_goals (try ((refine rn T 99 [] ?_); (rw [show tkH (hasS ns) ⟨3, m, s, p, l⟩ = false from by rw [tkH_3 _ _ _ _ _ _ (by simp)]; refine Bool.eq_false_iff.2 (fun hq => ?_); simp only [Bool.and_eq_true, decide_eq_true_eq] at hq; first | (simp_all; done) | (simp_all; omega)]); (exact ⟨[_], ⟨_, _, rfl, .inl rfl, rfl⟩, .p, rfl⟩); done))
                refine rn T 99 [] ?_
                refine rn T 99 [] ?_
                refine cfs ?_
                refine rn T 99 [] ?_
                refine cfs ?_
                refine rn T 99 [] ?_
                refine cfs ?_
                have hc := l6In G 3 3 8
                refine rn T 99 [] ?_
                refine pcs (hc) ?_
                refine rn T 99 [] ?_
                rw [show tkH (hasS ns) ⟨3, m, s, p, l⟩ = (((l.map eM).length : Int) == 2) by have e : decide (l.length = 2) = (((l.map eM).length : Int) == 2) := (by rw [Bool.eq_iff_iff]; simp <;> omega); rw [← e, tkH_3 _ _ _ _ _ _ (by simp)]; simp_all]
                exact ⟨[_], ⟨_, _, rfl, .inl rfl, rfl⟩, .p, rfl⟩
              · refine rn T 99 [] ?_
                repeat' (first | (with_reducible refine n16 ?_) | (with_reducible refine EOps.ci ?_; first | refine EOps.one T [] rfl (by first | exact True.intro | exact ⟨True.intro, True.intro⟩) ?_ | (refine EOps.sp rfl ?_ ?_ <;> intro hc_ <;> rw [hc_] <;> first | replace hc_ := of_decide_eq_true hc_ | replace hc_ := of_decide_eq_false hc_ | replace hc_ := of_decide_eq_false (Eq.mp (Bool.not_eq_true' _) hc_) | replace hc_ := of_decide_eq_true (Eq.mp (Bool.not_eq_false' _) hc_) | skip)))
                all_goals (refine op ?_)
                all_goals (refine csp rfl ?_ ?_ <;> intro hc2_ <;> first | (cases hc2_; done) | skip)
                all_goals (refine op ?_)
                all_goals (try ((refine rn T 99 [] ?_); (rw [show tkH (hasS ns) ⟨4, m, s, p, l⟩ = false from by rw [tkH_3 _ _ _ _ _ _ (by simp)]; refine Bool.eq_false_iff.2 (fun hq => ?_); simp only [Bool.and_eq_true, decide_eq_true_eq] at hq; first | (simp_all; done) | (simp_all; omega)]); (exact ⟨[_], ⟨_, _, rfl, .inl rfl, rfl⟩, .p, rfl⟩); done))
                refine rn T 99 [] ?_
                refine rn T 99 [] ?_
                refine cfs ?_
                refine rn T 99 [] ?_
                refine cfs ?_
                refine rn T 99 [] ?_
                refine cfs ?_
                have hc := l6In G 4 3 8
                refine rn T 99 [] ?_
                refine pcs (hc) ?_
                refine rn T 99 [] ?_
                rw [show tkH (hasS ns) ⟨4, m, s, p, l⟩ = (((l.map eM).length : Int) == 2) by have e : decide (l.length = 2) = (((l.map eM).length : Int) == 2) := (by rw [Bool.eq_iff_iff]; simp <;> omega); rw [← e, tkH_3 _ _ _ _ _ _ (by simp)]; simp_all]
                exact ⟨[_], ⟨_, _, rfl, .inl rfl, rfl⟩, .p, rfl⟩
              · refine rn T 99 [] ?_
                repeat' (first | (with_reducible refine n16 ?_) | (with_reducible refine EOps.ci ?_; first | refine EOps.one T [] rfl (by first | exact True.intro | exact ⟨True.intro, True.intro⟩) ?_ | (refine EOps.sp rfl ?_ ?_ <;> intro hc_ <;> rw [hc_] <;> first | replace hc_ := of_decide_eq_true hc_ | replace hc_ := of_decide_eq_false hc_ | replace hc_ := of_decide_eq_false (Eq.mp (Bool.not_eq_true' _) hc_) | replace hc_ := of_decide_eq_true (Eq.mp (Bool.not_eq_false' _) hc_) | skip)))
                all_goals (refine op ?_)
                all_goals (refine csp rfl ?_ ?_ <;> intro hc2_ <;> first | (cases hc2_; done) | skip)
                all_goals (refine op ?_)
                all_goals (try ((refine rn T 99 [] ?_); (rw [show tkH (hasS ns) ⟨5, m, s, p, l⟩ = false from by rw [tkH_3 _ _ _ _ _ _ (by simp)]; refine Bool.eq_false_iff.2 (fun hq => ?_); simp only [Bool.and_eq_true, decide_eq_true_eq] at hq; first | (simp_all; done) | (simp_all; omega)]); (exact ⟨[_], ⟨_, _, rfl, .inl rfl, rfl⟩, .p, rfl⟩); done))
                refine rn T 99 [] ?_
                refine rn T 99 [] ?_
                refine cfs ?_
                refine rn T 99 [] ?_
                refine cfs ?_
                refine rn T 99 [] ?_
                refine cfs ?_
                have hc := l6In G 5 3 8
                refine rn T 99 [] ?_
                refine pcs (hc) ?_
                refine rn T 99 [] ?_
                rw [show tkH (hasS ns) ⟨5, m, s, p, l⟩ = (((l.map eM).length : Int) == 2) by have e : decide (l.length = 2) = (((l.map eM).length : Int) == 2) := (by rw [Bool.eq_iff_iff]; simp <;> omega); rw [← e, tkH_3 _ _ _ _ _ _ (by simp)]; simp_all]
                exact ⟨[_], ⟨_, _, rfl, .inl rfl, rfl⟩, .p, rfl⟩
              · refine rn T 99 [] ?_
                repeat' (first | (with_reducible refine n16 ?_) | (with_reducible refine EOps.ci ?_; first | refine EOps.one T [] rfl (by first | exact True.intro | exact ⟨True.intro, True.intro⟩) ?_ | (refine EOps.sp rfl ?_ ?_ <;> intro hc_ <;> rw [hc_] <;> first | replace hc_ := of_decide_eq_true hc_ | replace hc_ := of_decide_eq_false hc_ | replace hc_ := of_decide_eq_false (Eq.mp (Bool.not_eq_true' _) hc_) | replace hc_ := of_decide_eq_true (Eq.mp (Bool.not_eq_false' _) hc_) | skip)))
                all_goals (refine op ?_)
                all_goals (refine csp rfl ?_ ?_ <;> intro hc2_ <;> first | (cases hc2_; done) | skip)
                all_goals (refine op ?_)
                all_goals (try ((refine rn T 99 [] ?_); (rw [show tkH (hasS ns) ⟨6, m, s, p, l⟩ = false from by rw [tkH_3 _ _ _ _ _ _ (by simp)]; refine Bool.eq_false_iff.2 (fun hq => ?_); simp only [Bool.and_eq_true, decide_eq_true_eq] at hq; first | (simp_all; done) | (simp_all; omega)]); (exact ⟨[_], ⟨_, _, rfl, .inl rfl, rfl⟩, .p, rfl⟩); done))
                refine rn T 99 [] ?_
                refine rn T 99 [] ?_
                refine cfs ?_
                refine rn T 99 [] ?_
                refine cfs ?_
                refine rn T 99 [] ?_
                refine cfs ?_
                have hc := l6In G 6 3 8
                refine rn T 99 [] ?_
                refine pcs (hc) ?_
                refine rn T 99 [] ?_
                rw [show tkH (hasS ns) ⟨6, m, s, p, l⟩ = (((l.map eM).length : Int) == 2) by have e : decide (l.length = 2) = (((l.map eM).length : Int) == 2) := (by rw [Bool.eq_iff_iff]; simp <;> omega); rw [← e, tkH_3 _ _ _ _ _ _ (by simp)]; simp_all]
                exact ⟨[_], ⟨_, _, rfl, .inl rfl, rfl⟩, .p, rfl⟩
            rw [show tkH (hasS ns) ⟨k, m, s, p, l⟩ = false from tkH_o _ _ _ _ _ _ k1 k2 k3 k7 k8]
            have hc : PF Tryd.prog G 31 [pi k, pi 3, pi 8] (.p (pb false)) := by
              have := l6In G k 3 8
              rwa [show (decide (k ≥ 3) && decide (k ≤ 8)) = false by rw [Bool.eq_false_iff]; intro hq; simp at hq; omega] at this
            repeat' (first | (with_reducible refine n16 ?_) | (with_reducible refine EOps.ci ?_; first | refine EOps.one T [] rfl (by first | exact True.intro | exact ⟨True.intro, True.intro⟩) ?_ | (refine EOps.sp rfl ?_ ?_ <;> intro hc_ <;> rw [hc_] <;> first | replace hc_ := of_decide_eq_true hc_ | replace hc_ := of_decide_eq_false hc_ | replace hc_ := of_decide_eq_false (Eq.mp (Bool.not_eq_true' _) hc_) | replace hc_ := of_decide_eq_true (Eq.mp (Bool.not_eq_false' _) hc_) | skip)))
            all_goals (try (exfalso; simp_all; done))
            all_goals (refine op ?_)
            all_goals (repeat' (first | (with_reducible refine n16 ?_) | (with_reducible refine EOps.ci ?_; first | refine EOps.one T [] rfl (by first | exact True.intro | exact ⟨True.intro, True.intro⟩) ?_ | (refine EOps.sp rfl ?_ ?_ <;> intro hc_ <;> rw [hc_] <;> first | replace hc_ := of_decide_eq_true hc_ | replace hc_ := of_decide_eq_false hc_ | replace hc_ := of_decide_eq_false (Eq.mp (Bool.not_eq_true' _) hc_) | replace hc_ := of_decide_eq_true (Eq.mp (Bool.not_eq_false' _) hc_) | skip))))
            all_goals (try (exfalso; simp_all; done))
            all_goals (refine op ?_)
            all_goals (refine csp rfl ?_ ?_ <;> intro hc2_ <;> first | (cases hc2_; done) | skip)
            all_goals (refine op ?_)
            all_goals (try ((refine rn T 99 [] ?_); (exact ⟨[_], ⟨_, _, rfl, .inl rfl, rfl⟩, .p, rfl⟩); done))
            all_goals (refine rn T 99 [] ?_)
            all_goals (refine rn T 99 [] ?_)
            all_goals (refine cfq rfl (by simp [k1]) ?_)
            all_goals (refine rn T 99 [] ?_)
            all_goals (refine cfq rfl (by simp [k2]) ?_)
            all_goals (refine rn T 99 [] ?_)
            all_goals (refine cfq rfl (by simp [k7]) ?_)
            all_goals (refine rn T 99 [] ?_)
            all_goals (refine pcs (hc) ?_)
            all_goals (refine rn T 99 [] ?_)
            all_goals (exact ⟨[_], ⟨_, _, rfl, .inl rfl, rfl⟩, .p, rfl⟩)
      · refine rn T 5 [] ?_
        rw [show decide (((l.map eM).length : Int) > 2) = false by simp; omega]
        refine rn T 99 [] ?_
        refine ctq rfl (by simp; omega) ?_
        refine rn T 99 [] ?_
        rw [show tk (hasS ns) (n + 1) ⟨k, m, s, p, l⟩ = false by rw [tk_eq]; cases h : tkH (hasS ns) ⟨k, m, s, p, l⟩ with | false => rfl | true => have := (tkH_sz h).2; unfold pathB at this; simp at this; omega]
        exact ⟨[_], ⟨_, _, rfl, .inl rfl, rfl⟩, .p, rfl⟩
    · refine rn T 5 [] ?_
      rw [show decide (((l.map eM).length : Int) > 2) = true by simp; omega]
      refine rn T 99 [] ?_
      refine cts ?_
      refine rn T 99 [] ?_
      rw [show tk (hasS ns) (n + 1) ⟨k, m, s, p, l⟩ = false by rw [tk_eq]; cases h : tkH (hasS ns) ⟨k, m, s, p, l⟩ with | false => rfl | true => exact absurd (tkH_sz h).1 hl2]
      exact ⟨[_], ⟨_, _, rfl, .inl rfl, rfl⟩, .p, rfl⟩
end Go.Proofs.YtlcmokgnmlklnaaDoor.K
end
section
namespace Go.Proofs.YtlcmokgnmlklnaaDoor.K
open Go Go.RowKit Go.Proofs.YtlcmokgnmlklnaaDoor.En Go.Proofs.YtlcmokgnmlklnaaDoor.Ty Go.Proofs.YtlcmokgnmlklnaaDoor.B
set_option maxRecDepth 100000
set_option linter.unusedSimpArgs false
set_option linter.unusedVariables false
set_option pp.deepTerms false
set_option pp.deepTerms.threshold 8
set_option pp.maxSteps 1000
set_option maxHeartbeats 1000000
def ntF (pre : List ByteArray) : List ByteArray → List Tn → Bool
  | x :: r, t :: q => (pw x && !hasS pre x && dp 4 t.f0) && ntF (pre ++ [x]) r q
  | _, _ => true
theorem ntF_eq : ∀ (ns : List ByteArray) (ts : List Tn) (pre : List ByteArray), ns.length = ts.length → ntF pre ns ts = (nsF pre ns && ts.all fun t => dp 4 t.f0)
  | [], [], pre, _ => rfl
  | [], _ :: _, _, h => by cases h
  | _ :: _, [], _, h => by cases h
  | x :: r, t :: q, pre, h => by
    unfold ntF nsF
    rw [ntF_eq r q _ (by simpa using h), List.all_cons]
    cases pw x <;> cases hasS pre x <;> cases dp 4 t.f0 <;> simp
theorem nsF_pw : ∀ (l pre : List ByteArray), nsF pre l = true → ∀ x ∈ l, pw x = true
  | [], _, _, x, hx => by cases hx
  | y :: l, pre, h, x, hx => by
    unfold nsF at h
    simp only [Bool.and_eq_true] at h
    rcases List.mem_cons.1 hx with rfl | hx
    · exact h.1.1
    · exact nsF_pw l _ h.2 x hx
theorem nm_eq {ns : List ByteArray} (h : nsB ns = true) : (fun s => pw s && hasS ns s) = hasS ns := by
  unfold nsB at h
  rw [Bool.and_eq_true] at h
  funext s
  cases hs : hasS ns s with
  | false => rw [Bool.and_false]
  | true =>
    unfold hasS at hs
    obtain ⟨x, hx, e⟩ := List.any_eq_true.1 hs
    rw [bq_eq.1 e, nsF_pw ns [] h.2 x hx]
    rfl
theorem look_app (a b : List (ByteArray × Ty)) (s : ByteArray) : look (a ++ b) s = (look a s).or (look b s) := by
  unfold look
  rw [List.find?_append]
  cases List.find? (fun p => s == p.1) a <;> rfl
theorem look_none {ns : List ByteArray} {ts : List Tn} {i : Nat} {s : ByteArray} (hl : ns.length = ts.length) (h : hasS (ns.take i) s = false) : look ((zipE ns ts).take i) s = none := by
  unfold look
  rw [Option.map_eq_none_iff, List.find?_eq_none]
  intro q hq
  have h3 := List.mem_map_of_mem (f := Prod.fst) hq
  rw [List.map_take, List.map_fst_zip (by simp [hl])] at h3
  unfold hasS at h
  rw [List.any_eq_false] at h
  exact h _ h3
theorem gl_look {ns : List ByteArray} {ts : List Tn} (h : nsB ns = true) (hl : ns.length = ts.length) (s : ByteArray) : ∀ m, m ≤ ns.length → gl ns ts s m = look ((zipE ns ts).take m) s
  | 0, _ => rfl
  | m + 1, hm => by
    have hx : ns[m]? = some (ns[m]'(by omega)) := List.getElem?_eq_getElem _
    have hy : ts[m]? = some (ts[m]'(by omega)) := List.getElem?_eq_getElem _
    generalize ns[m]'(by omega) = x at hx
    generalize ts[m]'(by omega) = u at hy
    have hz : (zipE ns ts)[m]? = some (x, u.f0) := by
      rw [List.getElem?_zip_eq_some]; exact ⟨hx, by rw [List.getElem?_map, hy]; rfl⟩
    rw [gl, hx, hy, List.take_add_one, hz, look_app, gl_look h hl s m (by omega)]
    simp only [Option.toList]
    cases hv : (x == s) with
    | true =>
      unfold nsB at h
      rw [Bool.and_eq_true] at h
      have h1 := nsF_ix ns [] h.2 m x hx
      rw [bq_eq.1 hv, List.nil_append] at h1
      rw [if_pos rfl, look_none hl h1]
      unfold look
      rw [List.find?_cons, bq_symm, hv]
      rfl
    | false =>
      rw [if_neg (by simp)]
      have : look [(x, u.f0)] s = none := by unfold look; rw [List.find?_cons, bq_symm, hv]; rfl
      rw [this, Option.or_none]
theorem env_eq {ns : List ByteArray} {ts : List Tn} (h : nsB ns = true) (hl : ns.length = ts.length) : envS ns ts = envM (zipE ns ts) := by
  funext s
  unfold envS envM
  rw [gl_look h hl s _ (Nat.le_refl _), List.take_of_length_le (by simp; omega)]
theorem kindTerm1 (G : Nat → Option PV) (ns : List ByteArray) (ts : List Tn) (t : Mn) (hb : ns.length ≤ 1000) :
    FC Tryd.prog G 5 [.p (.row 1 (ns.map ps)), .p (.row 1 (ts.map eT)), .p (pm t)] [] (fun r H' => r = .tp [.p (pt ((KT ns ts t).getD [])), .p (pb (KT ns ts t).isSome)]) := by
  obtain ⟨k, m0, s, p, l⟩ := t
  show FC _ _ _ [_, _, .p (.ag [pi k, pi m0, ps s, .row 1 (p.map pi), .row 5 (l.map eM)])] _ _
  refine bdy Tryd.func5 (fun d => if d = 65 then 1 else 0) rfl ?_
  refine rn T 99 [] ?_
  refine rn T 99 [] ?_
  refine rn T 5 [] ?_
  by_cases h2 : ns.length = ts.length
  · rw [show (((ns.map ps).length : Int) != ((ts.map eT).length : Int)) = false by simp [h2]]
    by_cases h60 : ns.length ≤ 60
    · refine rn T 5 [] ?_
      rw [show decide (((ns.map ps).length : Int) > 60) = false by simp; omega]
      have c1 := term12 G ns hb 8 (by omega) ⟨k, m0, s, p, l⟩
      refine rn T 99 [] ?_
      cases h5 : tk (hasS ns) 8 ⟨k, m0, s, p, l⟩ with
      | false =>
        rw [h5] at c1
        refine pcs (c1) ?_
        refine rn T 99 [] ?_
        refine cts ?_
        refine rn T 99 [] ?_
        have hk : KT ns ts ⟨k, m0, s, p, l⟩ = none := by unfold KT; rw [if_neg]; rintro ⟨h, _, _, h9⟩; rw [nm_eq h, h5] at h9; cases h9
        rw [hk]
        exact rt2 T (pt []) (pb false) rfl
      | true =>
        rw [h5] at c1
        refine pcs (c1) ?_
        refine rn T 99 [] ?_
        refine cfs ?_
        refine rn T 99 [] ?_
        refine lpw (fun i : Nat => MS.mk [(9, .p (pi i)), (0, .p (.row 1 (ns.map ps))), (1, .p (.row 1 (ts.map eT))), (5, .ptr (.L 5) 0), (6, .ptr (.L 6) 0), (8, .ptr (.L 8) 0)] 77 [(5, .box 28 [.p (pi k), .p (pi m0), .p (ps s), .p (.row 1 (p.map pi)), .p (.row 5 (l.map eM))]), (6, .box 32 [.nil]), (8, .box 32 [.nil])] []) (fun m i => m + i = ns.length ∧ ntF (ns.take i) (ns.drop i) (ts.drop i) = ntF [] ns ts) (ns.length) (0) (by simp) ?_
        intro m i ⟨h3, h4⟩
        refine op ?_
        refine rn T 99 [] ?_
        by_cases hi : i < ns.length
        · obtain ⟨x, hx, hd⟩ := drop_ix hi
          obtain ⟨u, hu, hd2⟩ := drop_ix (l := ts) (h2 ▸ hi)
          rw [hd, hd2, ntF] at h4
          refine ctq rfl (by simp [hi]) ?_; try (first | refine dr3 ?_ | refine dr4 ?_)
          have cw := word1 G x
          have ch := has1 G (ns.take i) x (by simp; omega)
          have ck := ok1 G u.f0
          refine rn T 99 [ps x] ?_
          cases hw : pw x with
          | false =>
            rw [hw] at cw h4
            refine pcs (cw) ?_
            refine rn T 99 [] ?_
            refine cts ?_
            refine rn T 99 [] ?_
            have hk : KT ns ts ⟨k, m0, s, p, l⟩ = none := by unfold KT; rw [if_neg]; rintro ⟨h, _, h9, _⟩; unfold nsB at h; rw [Bool.and_eq_true] at h; rw [ntF_eq ns ts [] h2, h.2, h9] at h4; simp at h4
            rw [hk]
            exact rt2 T (pt []) (pb false) rfl
          | true =>
            rw [hw] at cw h4
            refine pcs (cw) ?_
            refine rn T 99 [ps x] ?_
            cases hh : hasS (ns.take i) x with
            | true =>
              rw [hh] at ch h4
              refine pqs (ch) ?_
              refine rn T 99 [] ?_
              refine cts ?_
              refine rn T 99 [] ?_
              have hk : KT ns ts ⟨k, m0, s, p, l⟩ = none := by unfold KT; rw [if_neg]; rintro ⟨h, _, h9, _⟩; unfold nsB at h; rw [Bool.and_eq_true] at h; rw [ntF_eq ns ts [] h2, h.2, h9] at h4; simp at h4
              rw [hk]
              exact rt2 T (pt []) (pb false) rfl
            | false =>
              rw [hh] at ch h4
              refine pqs (ch) ?_
              refine rn T 99 [pt u.f0] ?_
              cases ho : dp 4 u.f0 with
              | false =>
                rw [ho] at ck h4
                refine pcs (ck) ?_
                refine rn T 99 [] ?_
                refine cts ?_
                refine rn T 99 [] ?_
                have hk : KT ns ts ⟨k, m0, s, p, l⟩ = none := by unfold KT; rw [if_neg]; rintro ⟨h, _, h9, _⟩; unfold nsB at h; rw [Bool.and_eq_true] at h; rw [ntF_eq ns ts [] h2, h.2, h9] at h4; simp at h4
                rw [hk]
                exact rt2 T (pt []) (pb false) rfl
              | true =>
                rw [ho] at ck h4
                refine pcs (ck) ?_
                refine rn T 99 [] ?_
                refine cfs ?_
                refine rn T 99 [] ?_
                rw [wkS (by omega)]
                refine nxt (m - 1) (i + 1) (⟨by omega, by rw [← h4, take_app hx]; simp⟩)
        · refine cfq rfl (by simp [hi]) ?_
          refine rn T 99 [] ?_
          have hnt : ntF [] ns ts = true := by rw [← h4, show ns.drop i = [] from List.drop_eq_nil_of_le (by omega)]; simp [ntF]
          rw [ntF_eq ns ts [] h2, Bool.and_eq_true] at hnt
          have hB : nsB ns = true := by unfold nsB; rw [hnt.1, decide_eq_true h60]; rfl
          have hk : KT ns ts ⟨k, m0, s, p, l⟩ = kd (envM (zipE ns ts)) 8 ⟨k, m0, s, p, l⟩ := by unfold KT; rw [if_pos ⟨hB, h2, hnt.2, by rw [nm_eq hB]; exact h5⟩]
          rw [hk]
          have he := env_eq hB h2
          have c2 := term1 G ns ts h2 h60 (fun s => by rw [he]; exact look_dp ns ts hnt.2 s) (hasS ns) (fun s hs => by rw [gl_look hB h2 s _ (Nat.le_refl _), List.take_of_length_le (by simp; omega), look_has ns ts h2]; exact hs) 8 _ h5
          rw [he] at c2
          refine rn T 99 [] ?_
          cases h6 : kd (envM (zipE ns ts)) 8 ⟨k, m0, s, p, l⟩ with
          | none =>
            rw [h6] at c2
            refine hes (c2) ?_; rintro _ _ ⟨V, rfl, hV, rfl⟩ _ _; refine op ?_
            refine rn T 99 [] ?_
            refine rn T 99 [] ?_
            refine cts ?_
            refine rn T 99 [] ?_
            exact rt2 T (pt []) (pb false) rfl
          | some v =>
            rw [h6] at c2
            refine hes (c2) ?_; rintro _ _ ⟨V, rfl, hV, rfl⟩ _ _; refine op ?_
            obtain rfl := hV v rfl
            refine rn T 99 [] ?_
            refine rn T 99 [] ?_
            refine cfs ?_
            refine rn T 99 [] ?_
            refine pcs (copy1 G 4 V (kd_dp _ (look_dp ns ts hnt.2) _ _ _ h6)) ?_
            refine rn T 99 [] ?_
            exact rt2 T (pt V) (pb true) rfl
    · refine rn T 5 [] ?_
      rw [show decide (((ns.map ps).length : Int) > 60) = true by simp; omega]
      refine rn T 99 [] ?_
      refine cts ?_
      refine rn T 99 [] ?_
      have hk : KT ns ts ⟨k, m0, s, p, l⟩ = none := by unfold KT; rw [if_neg]; rintro ⟨h, _⟩; unfold nsB at h; simp at h; omega
      rw [hk]
      exact rt2 T (pt []) (pb false) rfl
  · rw [show (((ns.map ps).length : Int) != ((ts.map eT).length : Int)) = true by simp; omega]
    refine rn T 99 [] ?_
    refine cts ?_
    refine rn T 99 [] ?_
    have hk : KT ns ts ⟨k, m0, s, p, l⟩ = none := by unfold KT; rw [if_neg]; rintro ⟨_, h, _⟩; exact h2 h
    rw [hk]
    exact rt2 T (pt []) (pb false) rfl
end Go.Proofs.YtlcmokgnmlklnaaDoor.K
end
section
namespace Go.Proofs.YtlcmokgnmlklnaaDoor.K
open Go Go.RowKit Go.Proofs.YtlcmokgnmlklnaaDoor.En Go.Proofs.YtlcmokgnmlklnaaDoor.Ty Go.Proofs.YtlcmokgnmlklnaaDoor.B
set_option maxRecDepth 100000
set_option linter.unusedSimpArgs false
set_option linter.unusedVariables false
set_option pp.deepTerms false
set_option pp.deepTerms.threshold 8
set_option pp.maxSteps 1000
theorem openC (G : Nat → Option PV) (l : List Int) (hl : ∀ x ∈ l, 0 ≤ x ∧ x ≤ 255) (hl2 : l.length ≤ 9223372036854775807) : FE Tryd.prog G 9 [.p (.row 1 (l.map pu))] [] (fun r H' => ∃ s, Bytes s ∧ r = .ptr (.S 0) 0 ∧ H' = [rdr s 0]) := by
  refine ⟨?_, _, _, ⟨[], ⟨by simp, by simp⟩, rfl, rfl⟩, .ptr trivial, hsh_rdr hsh_nil⟩
  refine bdy Tryd.func9 (fun d => if d = 10 then 1 else 0) rfl ?_
  refine rn T 99 [] ?_
  refine rn T 99 [] ?_
  by_cases h : l.length > 2000
  · refine ctq rfl (by simp; omega) ?_
    refine rn T 99 [] ?_
    refine rn T 99 [] ?_
    exact ⟨[_], ⟨_, _, rfl, .inl rfl, rfl⟩, .ptr trivial, l.take 2000, ⟨by simp; omega, fun x hx => hl x (List.mem_of_mem_take hx)⟩, rfl, by
      show _ = [AObj.box _ [.p (.row 1 ((l.take 2000).map pu)), .p (pi 0)]]
      rw [List.map_take]
      rfl⟩
  · refine cfq rfl (by simp; omega) ?_
    refine rn T 99 [] ?_
    exact ⟨[_], ⟨_, _, rfl, .inl rfl, rfl⟩, .ptr trivial, l, ⟨by omega, hl⟩, rfl, rfl⟩
theorem type71 (G : Nat → Option PV) (s : List Int) (hs : Bytes s) {H0 : List AObj} (hH : HSh H0) : ∀ (d : Nat), d ≤ 20 → ∀ (k : Int), 0 ≤ k → k + 2 ^ d ≤ 1099511627776 →
    FE Tryd.prog G 10 [.ptr (.S 0) 0, .p (pi d)] (rdr s k :: H0) (fun r H' => ∃ t k', dp (d + 1) t = true ∧ k ≤ k' ∧ k' ≤ k + 2 ^ d - 1 ∧ r = .p (pt t) ∧ H' = rdr s k' :: H0) := by
  intro d
  induction d with
  | zero =>
    intro _ k hk hk1
    refine ⟨?_, _, _, ⟨[], k, rfl, by omega, by omega, rfl, rfl⟩, .p, hsh_rdr hH⟩
    refine bdy Tryd.func10 (fun _ => 0) rfl ?_
    refine rn T 99 [] ?_
    refine rn T 99 [] ?_
    refine cts ?_
    refine rn T 99 [] ?_
    exact rt1 T (pt []) (⟨[], k, rfl, by omega, by omega, rfl, rfl⟩)
  | succ d ih =>
    intro hd k hk hk1
    have h2 : (2 : Int) ^ (d + 1) = 2 * 2 ^ d := by rw [Int.pow_succ]; omega
    have h3 : (1 : Int) ≤ 2 ^ d := by
      have : (0 : Int) < 2 ^ d := Int.pow_pos (by omega)
      omega
    refine ⟨?_, _, _, ⟨[], k, rfl, by omega, by omega, rfl, rfl⟩, .p, hsh_rdr hH⟩
    refine bdy Tryd.func10 (fun _ => 0) rfl ?_
    refine rn T 99 [] ?_
    refine rn T 3 [] ?_
    by_cases hd0 : d = 0
    · rw [show decide (((d + 1 : Nat) : Int) < 2) = true by simp; omega]
      refine rn T 99 [] ?_
      refine cts ?_
      refine rn T 99 [] ?_
      exact rt1 T (pt []) (⟨[], k, rfl, by omega, by omega, rfl, rfl⟩)
    · rw [show decide (((d + 1 : Nat) : Int) < 2) = false by simp; omega]
      refine rn T 99 [] ?_
      refine hes (pick G s hs k 3 hk (by omega) (by omega) hH) ?_; rintro _ _ ⟨v, hv0, hv1, rfl, rfl⟩ _ _; refine op ?_
      refine rn T 99 [] ?_
      by_cases hv : v > 0
      · refine ctq rfl (by simp; omega) ?_
        refine rn T 99 [] ?_
        exact rt1 T (pt []) (⟨[], k + 1, rfl, by omega, by omega, rfl, rfl⟩)
      · refine cfq rfl (by simp; omega) ?_
        refine rn T 99 [] ?_
        rw [wkP (by omega)]
        refine hes (ih (by omega) (k + 1) (by omega) (by omega)) ?_; rintro _ _ ⟨t1, k1, h11, h12, h13, rfl, rfl⟩ _ _; refine op ?_
        refine rn T 99 [] ?_
        rw [wkP (by omega)]
        refine hes (ih (by omega) k1 (by omega) (by omega)) ?_; rintro _ _ ⟨t2, k2, h21, h22, h23, rfl, rfl⟩ _ _; refine op ?_
        refine rn T 99 [] ?_
        exact rt1 T (pt [⟨t1⟩, ⟨t2⟩]) (⟨[⟨t1⟩, ⟨t2⟩], k2, by rw [dp_two, Bool.and_eq_true]; exact ⟨h11, h21⟩, by omega, by omega, rfl, rfl⟩)
end Go.Proofs.YtlcmokgnmlklnaaDoor.K
end
section
namespace Go.Proofs.YtlcmokgnmlklnaaDoor.K
open Go Go.RowKit Go.Proofs.YtlcmokgnmlklnaaDoor.En Go.Proofs.YtlcmokgnmlklnaaDoor.Ty Go.Proofs.YtlcmokgnmlklnaaDoor.B
set_option maxRecDepth 100000
set_option linter.unusedSimpArgs false
set_option linter.unusedVariables false
set_option pp.deepTerms false
set_option pp.deepTerms.threshold 8
set_option pp.maxSteps 1000
def dM : Nat → Mn → Bool
  | 0, _ => false
  | n + 1, t => decide (t.f4.length ≤ 2) && t.f4.all (dM n)
theorem dM_len {n : Nat} {t : Mn} (h : dM n t = true) : t.f4.length ≤ 2 := by
  cases n with
  | zero => cases h
  | succ n => unfold dM at h; simp only [Bool.and_eq_true, decide_eq_true_eq] at h; exact h.1
theorem dM_mono : ∀ {n m : Nat} {t : Mn}, dM n t = true → n ≤ m → dM m t = true
  | 0, _, _, h, _ => by cases h
  | n + 1, 0, _, _, hm => absurd hm (by omega)
  | n + 1, m + 1, t, h, hm => by
    unfold dM at h ⊢
    simp only [Bool.and_eq_true, List.all_eq_true] at h ⊢
    exact ⟨h.1, fun x hx => dM_mono (h.2 x hx) (by omega)⟩
theorem dM0 {n : Nat} {k m : Int} {s : ByteArray} {p : List Int} : dM (n + 1) ⟨k, m, s, p, []⟩ = true := rfl
theorem dM1 {n : Nat} {k m : Int} {s : ByteArray} {p : List Int} {x : Mn} (h : dM n x = true) : dM (n + 1) ⟨k, m, s, p, [x]⟩ = true := by
  show (decide (1 ≤ 2) && (dM n x && true)) = true
  rw [h]; rfl
theorem dM2 {n : Nat} {k m : Int} {s : ByteArray} {p : List Int} {x y : Mn} (h : dM n x = true) (h2 : dM n y = true) : dM (n + 1) ⟨k, m, s, p, [x, y]⟩ = true := by
  show (decide (2 ≤ 2) && (dM n x && (dM n y && true))) = true
  rw [h, h2]; rfl
theorem dMl {n : Nat} {k m : Int} {s : ByteArray} {p : List Int} {l : List Mn} (h : l.length ≤ 2 ∧ l.all (dM n) = true) : dM (n + 1) ⟨k, m, s, p, l⟩ = true := by
  show (decide (l.length ≤ 2) && l.all (dM n)) = true
  rw [h.2, decide_eq_true h.1]; rfl
def TermR (d : Nat) (s : List Int) (k c : Int) (H0 : List AObj) (r : TV) (H' : List AObj) : Prop := ∃ (t : Mn) (k' : Int), dM (d + 1) t = true ∧ k ≤ k' ∧ k' ≤ k + c ∧ r = .p (pm t) ∧ H' = rdr s k' :: H0
theorem TermR.ne {d : Nat} {s : List Int} {k c : Int} {H0 : List AObj} (hc : 0 ≤ c) (hH : HSh H0) : ∃ r H', TermR d s k c H0 r H' ∧ r.All Nm.isS ∧ HSh H' := ⟨_, _, ⟨⟨0, 0, ⟨#[]⟩, [], []⟩, k, dM0, by omega, by omega, rfl, rfl⟩, .p, hsh_rdr hH⟩
theorem term71 (G : Nat → Option PV) (s : List Int) (hs : Bytes s) {H0 : List AObj} (hH : HSh H0) : ∀ (d : Nat), d ≤ 20 → ∀ (k : Int), 0 ≤ k → k + 16 * 2 ^ d ≤ 1099511627776 →
    FE Tryd.prog G 11 [.ptr (.S 0) 0, .p (pi d)] (rdr s k :: H0) (TermR d s k (16 * 2 ^ d - 8) H0) := by
  intro d
  induction d with
  | zero =>
    intro _ k hk hk1
    simp only [Int.pow_zero] at hk1 ⊢
    refine ⟨?_, TermR.ne (by omega) hH⟩
    refine bdy Tryd.func11 (fun _ => 0) rfl ?_
    refine rn T 99 [] ?_
    refine rn T 99 [] ?_
    refine cts ?_
    refine rn T 99 [] ?_
    refine hes (pick G s hs k 3 hk (by omega) (by omega) hH) ?_; rintro _ _ ⟨v, hv0, hv1, rfl, rfl⟩ _ _; refine op ?_
    refine rn T 99 [] ?_
    by_cases hv : v = 0
    · refine ctq rfl (by simp [hv]) ?_
      refine rn T 99 [] ?_
      refine hes (pick G s hs (k + 1) 4 (by omega) (by omega) (by omega) hH) ?_; rintro _ _ ⟨w, hw0, hw1, rfl, rfl⟩ _ _; refine op ?_
      refine rn T 99 [] ?_
      exact rt1 T (pm ⟨1, w, ⟨#[]⟩, [], []⟩) (⟨_, k + 1 + 1, dM0, by omega, by omega, rfl, rfl⟩)
    · refine cfq rfl (by simp [hv]) ?_
      refine rn T 99 [] ?_
      refine hes (pick G s hs (k + 1) 3 (by omega) (by omega) (by omega) hH) ?_; rintro _ _ ⟨w, hw0, hw1, rfl, rfl⟩ _ _; refine op ?_
      obtain rfl | rfl | rfl : w = 0 ∨ w = 1 ∨ w = 2 := by omega
      · refine rn T 99 [ps ⟨#[97]⟩] ?_
        exact rt1 T (pm ⟨2, 0, ⟨#[97]⟩, [], []⟩) (⟨_, k + 1 + 1, dM0, by omega, by omega, rfl, rfl⟩)
      · refine rn T 99 [ps ⟨#[98]⟩] ?_
        exact rt1 T (pm ⟨2, 0, ⟨#[98]⟩, [], []⟩) (⟨_, k + 1 + 1, dM0, by omega, by omega, rfl, rfl⟩)
      · refine rn T 99 [ps ⟨#[99]⟩] ?_
        exact rt1 T (pm ⟨2, 0, ⟨#[99]⟩, [], []⟩) (⟨_, k + 1 + 1, dM0, by omega, by omega, rfl, rfl⟩)
  | succ d ih =>
    intro hd k hk hk1
    have h2 : (2 : Int) ^ (d + 1) = 2 * 2 ^ d := by rw [Int.pow_succ]; omega
    have h3 : (1 : Int) ≤ 2 ^ d := by
      have : (0 : Int) < 2 ^ d := Int.pow_pos (by omega)
      omega
    refine ⟨?_, TermR.ne (by omega) hH⟩
    refine bdy Tryd.func11 (fun _ => 0) rfl ?_
    refine rn T 99 [] ?_
    refine rn T 3 [] ?_
    by_cases hd0 : d = 0
    · rw [show decide (((d + 1 : Nat) : Int) < 2) = true by simp; omega]
      refine rn T 99 [] ?_
      refine cts ?_
      refine rn T 99 [] ?_
      refine hes (pick G s hs (k) 3 (by omega) (by omega) (by omega) hH) ?_; rintro _ _ ⟨v, hv0, hv1, rfl, rfl⟩ _ _; refine op ?_
      refine rn T 99 [] ?_
      by_cases hv : v = 0
      · refine ctq rfl (by simp [hv]) ?_
        refine rn T 99 [] ?_
        refine hes (pick G s hs (k + 1) 4 (by omega) (by omega) (by omega) hH) ?_; rintro _ _ ⟨w, hw0, hw1, rfl, rfl⟩ _ _; refine op ?_
        refine rn T 99 [] ?_
        exact rt1 T (pm ⟨1, w, ⟨#[]⟩, [], []⟩) (⟨_, k + 1 + 1, dM0, by omega, by omega, rfl, rfl⟩)
      · refine cfq rfl (by simp [hv]) ?_
        refine rn T 99 [] ?_
        refine hes (pick G s hs (k + 1) 3 (by omega) (by omega) (by omega) hH) ?_; rintro _ _ ⟨w, hw0, hw1, rfl, rfl⟩ _ _; refine op ?_
        obtain rfl | rfl | rfl : w = 0 ∨ w = 1 ∨ w = 2 := by omega
        · refine rn T 99 [ps ⟨#[97]⟩] ?_
          exact rt1 T (pm ⟨2, 0, ⟨#[97]⟩, [], []⟩) (⟨_, k + 1 + 1, dM0, by omega, by omega, rfl, rfl⟩)
        · refine rn T 99 [ps ⟨#[98]⟩] ?_
          exact rt1 T (pm ⟨2, 0, ⟨#[98]⟩, [], []⟩) (⟨_, k + 1 + 1, dM0, by omega, by omega, rfl, rfl⟩)
        · refine rn T 99 [ps ⟨#[99]⟩] ?_
          exact rt1 T (pm ⟨2, 0, ⟨#[99]⟩, [], []⟩) (⟨_, k + 1 + 1, dM0, by omega, by omega, rfl, rfl⟩)
    · rw [show decide (((d + 1 : Nat) : Int) < 2) = false by simp; omega]
      refine rn T 99 [] ?_
      refine hes (pick G s hs k 4 hk (by omega) (by omega) hH) ?_; rintro _ _ ⟨u, hu0, hu1, rfl, rfl⟩ _ _; refine op ?_
      refine rn T 99 [] ?_
      by_cases hu : u = 0
      · subst hu
        refine cts ?_
        refine rn T 99 [] ?_
        refine hes (pick G s hs (k + 1) 3 (by omega) (by omega) (by omega) hH) ?_; rintro _ _ ⟨v, hv0, hv1, rfl, rfl⟩ _ _; refine op ?_
        refine rn T 99 [] ?_
        by_cases hv : v = 0
        · refine ctq rfl (by simp [hv]) ?_
          refine rn T 99 [] ?_
          refine hes (pick G s hs (k + 1 + 1) 4 (by omega) (by omega) (by omega) hH) ?_; rintro _ _ ⟨w, hw0, hw1, rfl, rfl⟩ _ _; refine op ?_
          refine rn T 99 [] ?_
          exact rt1 T (pm ⟨1, w, ⟨#[]⟩, [], []⟩) (⟨_, k + 1 + 1 + 1, dM0, by omega, by omega, rfl, rfl⟩)
        · refine cfq rfl (by simp [hv]) ?_
          refine rn T 99 [] ?_
          refine hes (pick G s hs (k + 1 + 1) 3 (by omega) (by omega) (by omega) hH) ?_; rintro _ _ ⟨w, hw0, hw1, rfl, rfl⟩ _ _; refine op ?_
          obtain rfl | rfl | rfl : w = 0 ∨ w = 1 ∨ w = 2 := by omega
          · refine rn T 99 [ps ⟨#[97]⟩] ?_
            exact rt1 T (pm ⟨2, 0, ⟨#[97]⟩, [], []⟩) (⟨_, k + 1 + 1 + 1, dM0, by omega, by omega, rfl, rfl⟩)
          · refine rn T 99 [ps ⟨#[98]⟩] ?_
            exact rt1 T (pm ⟨2, 0, ⟨#[98]⟩, [], []⟩) (⟨_, k + 1 + 1 + 1, dM0, by omega, by omega, rfl, rfl⟩)
          · refine rn T 99 [ps ⟨#[99]⟩] ?_
            exact rt1 T (pm ⟨2, 0, ⟨#[99]⟩, [], []⟩) (⟨_, k + 1 + 1 + 1, dM0, by omega, by omega, rfl, rfl⟩)
      · refine cfq rfl (by simp [hu]) ?_
        refine rn T 99 [] ?_
        refine rn T 99 [] ?_
        refine hes (pick G s hs (k + 1) 3 (by omega) (by omega) (by omega) hH) ?_; rintro _ _ ⟨n, hn0, hn1, rfl, rfl⟩ _ _; refine op ?_
        refine rn T 99 [] ?_
        refine AW.lp (fun x : List Int × Int × Int => MS.mk [(6, .p (pi x.2.2)), (5, .vw (.L 26) x.1.length), (0, .ptr (.S 0) 0), (1, .p (pi (d + 1 : Nat))), (4, .ptr (.L 4) 0)] 89 [(26, .rw 1 3 (x.1.map pi)), (4, .box 28 [.p (pi 0), .p (pi 0), .p (ps ⟨#[]⟩), .nil, .nil])] (rdr s x.2.1 :: H0)) (fun m x => (m : Int) = x.2.2 ∧ x.1.length + m ≤ 2 ∧ k + 2 ≤ x.2.1 ∧ x.2.1 + x.2.2 ≤ k + 4) n.toNat ([], k + 1 + 1, n) (by simp only [List.length_nil]; omega) (wk_of rfl rfl ⟨.inl rfl, .inl rfl, .inl rfl, .inl rfl, .inl rfl, trivial⟩ ⟨.inl rfl, .inl rfl, trivial⟩) ?_
        intro m ⟨p, k', n'⟩ ⟨g1, g2, g3, g4⟩
        simp only at g1 g2 g3 g4
        refine op ?_
        refine rn T 99 [] ?_
        by_cases hm : m = 0
        · subst hm
          refine cfq rfl (by simp; omega) ?_
          refine rn T 99 [] ?_
          refine hes (pick G s hs k' 6 (by omega) (by omega) (by omega) hH) ?_; rintro _ _ ⟨v, hv0, hv1, rfl, rfl⟩ _ _; refine op ?_
          obtain rfl | rfl | rfl | rfl | rfl | rfl : v = 0 ∨ v = 1 ∨ v = 2 ∨ v = 3 ∨ v = 4 ∨ v = 5 := by omega
          · refine rn T 99 [] ?_
            refine cts ?_
            refine cts ?_
            refine rn T 99 [] ?_
            rw [wkP (by omega)]
            refine hes (ih (by omega) (k' + 1) (by omega) (by omega)) ?_; rintro _ _ ⟨t1, k1, h11, h12, h13, rfl, rfl⟩ _ _; refine op ?_
            refine rn T 99 [] ?_
            exact rt1 T (pm ⟨7, 0, ⟨#[]⟩, p, [t1]⟩) (⟨_, k1, dM1 h11, by omega, by omega, rfl, rfl⟩)
          · refine rn T 99 [] ?_
            refine cfs ?_
            refine rn T 99 [] ?_
            refine cts ?_
            refine rn T 99 [] ?_
            rw [wkP (by omega)]
            refine hes (ih (by omega) (k' + 1) (by omega) (by omega)) ?_; rintro _ _ ⟨t1, k1, h11, h12, h13, rfl, rfl⟩ _ _; refine op ?_
            refine rn T 99 [] ?_
            exact rt1 T (pm ⟨7, 0, ⟨#[]⟩, p, [t1]⟩) (⟨_, k1, dM1 h11, by omega, by omega, rfl, rfl⟩)
          · refine rn T 99 [] ?_
            refine cfs ?_
            refine rn T 99 [] ?_
            refine cfs ?_
            refine rn T 99 [] ?_
            refine cts ?_
            refine cts ?_
            refine rn T 99 [] ?_
            rw [wkP (by omega)]
            refine hes (ih (by omega) (k' + 1) (by omega) (by omega)) ?_; rintro _ _ ⟨t1, k1, h11, h12, h13, rfl, rfl⟩ _ _; refine op ?_
            refine rn T 99 [] ?_
            rw [wkP (by omega)]
            refine hes (ih (by omega) k1 (by omega) (by omega)) ?_; rintro _ _ ⟨t2, k2, h21, h22, h23, rfl, rfl⟩ _ _; refine op ?_
            refine rn T 99 [] ?_
            exact rt1 T (pm ⟨8, 0, ⟨#[]⟩, p, [t1, t2]⟩) (⟨_, k2, dM2 h11 h21, by omega, by omega, rfl, rfl⟩)
          · refine rn T 99 [] ?_
            refine cfs ?_
            refine rn T 99 [] ?_
            refine cfs ?_
            refine rn T 99 [] ?_
            refine cfs ?_
            refine rn T 99 [] ?_
            refine cts ?_
            refine rn T 99 [] ?_
            rw [wkP (by omega)]
            refine hes (ih (by omega) (k' + 1) (by omega) (by omega)) ?_; rintro _ _ ⟨t1, k1, h11, h12, h13, rfl, rfl⟩ _ _; refine op ?_
            refine rn T 99 [] ?_
            rw [wkP (by omega)]
            refine hes (ih (by omega) k1 (by omega) (by omega)) ?_; rintro _ _ ⟨t2, k2, h21, h22, h23, rfl, rfl⟩ _ _; refine op ?_
            refine rn T 99 [] ?_
            exact rt1 T (pm ⟨8, 0, ⟨#[]⟩, p, [t1, t2]⟩) (⟨_, k2, dM2 h11 h21, by omega, by omega, rfl, rfl⟩)
          · refine rn T 99 [] ?_
            refine cfs ?_
            refine rn T 99 [] ?_
            refine cfs ?_
            refine rn T 99 [] ?_
            refine cfs ?_
            refine rn T 99 [] ?_
            refine cfs ?_
            refine rn T 99 [] ?_
            refine cts ?_
            refine rn T 99 [] ?_
            rw [wkP (by omega)]
            refine hes (ih (by omega) (k' + 1) (by omega) (by omega)) ?_; rintro _ _ ⟨t1, k1, h11, h12, h13, rfl, rfl⟩ _ _; refine op ?_
            refine rn T 99 [] ?_
            rw [wkP (by omega)]
            refine hes (ih (by omega) k1 (by omega) (by omega)) ?_; rintro _ _ ⟨t2, k2, h21, h22, h23, rfl, rfl⟩ _ _; refine op ?_
            refine rn T 99 [] ?_
            exact rt1 T (pm ⟨6, 0, ⟨#[]⟩, [], [t1, t2]⟩) (⟨_, k2, dM2 h11 h21, by omega, by omega, rfl, rfl⟩)
          · refine rn T 99 [] ?_
            refine cfs ?_
            refine rn T 99 [] ?_
            refine cfs ?_
            refine rn T 99 [] ?_
            refine cfs ?_
            refine rn T 99 [] ?_
            refine cfs ?_
            refine rn T 99 [] ?_
            refine cfs ?_
            refine rn T 99 [] ?_
            refine hes (pick G s hs (k' + 1) 3 (by omega) (by omega) (by omega) hH) ?_; rintro _ _ ⟨w, hw0, hw1, rfl, rfl⟩ _ _; refine op ?_
            refine rn T 1 [] ?_
            rw [wk (n := 3 + w) (by omega) (by omega)]
            refine rn T 99 [] ?_
            rw [wkP (by omega)]
            refine hes (ih (by omega) (k' + 1 + 1) (by omega) (by omega)) ?_; rintro _ _ ⟨t1, k1, h11, h12, h13, rfl, rfl⟩ _ _; refine op ?_
            refine rn T 99 [] ?_
            rw [wkP (by omega)]
            refine hes (ih (by omega) k1 (by omega) (by omega)) ?_; rintro _ _ ⟨t2, k2, h21, h22, h23, rfl, rfl⟩ _ _; refine op ?_
            refine rn T 99 [] ?_
            exact rt1 T (pm ⟨3 + w, 0, ⟨#[]⟩, [], [t1, t2]⟩) (⟨_, k2, dM2 h11 h21, by omega, by omega, rfl, rfl⟩)
        · refine ctq rfl (by simp; omega) ?_
          refine rn T 99 [] ?_
          refine hes (pick G s hs k' 2 (by omega) (by omega) (by omega) hH) ?_; rintro _ _ ⟨v, hv0, hv1, rfl, rfl⟩ _ _; refine op ?_
          refine rn T 99 [] ?_
          refine rn T 99 [] ?_
          have hlen : p.length + [pi v].length = (p ++ [v]).length := by simp
          have hq : p.map pi ++ [pi v] = (p ++ [v]).map pi := by simp
          rw [List.length_map, hlen, wk (n := n' - 1) (by omega) (by omega)]
          refine nxt (m - 1) ((p ++ [v], k' + 1, n' - 1)) (⟨by simp only; omega, by simp only [List.length_append, List.length_singleton]; omega, by simp only; omega, by simp only; omega⟩)
end Go.Proofs.YtlcmokgnmlklnaaDoor.K
end
section
namespace Go.Proofs.YtlcmokgnmlklnaaDoor.K
open Go Go.RowKit Go.Proofs.YtlcmokgnmlklnaaDoor.En Go.Proofs.YtlcmokgnmlklnaaDoor.Ty Go.Proofs.YtlcmokgnmlklnaaDoor.B
set_option maxRecDepth 100000
set_option linter.unusedSimpArgs false
set_option linter.unusedVariables false
set_option pp.deepTerms false
set_option pp.deepTerms.threshold 8
set_option pp.maxSteps 1000
theorem word71 (G : Nat → Option PV) (s : List Int) (hs : Bytes s) {H0 : List AObj} (hH : HSh H0) (k : Int) (hk : 0 ≤ k) (hk1 : k ≤ 1099511627776) (l : List ByteArray) (hl : l ≠ []) :
    FE Tryd.prog G 30 [.ptr (.S 0) 0, .p (.row 1 (l.map ps))] (rdr s k :: H0) (fun r H' => ∃ v, v ∈ l ∧ r = .p (ps v) ∧ H' = rdr s (k + 1) :: H0) := by
  have hn : 0 < l.length := List.length_pos_iff.2 hl
  refine ⟨?_, _, _, ⟨l[0], List.getElem_mem hn, rfl, rfl⟩, .p, hsh_rdr hH⟩
  refine bdy Tryd.func30 (fun _ => 0) rfl ?_
  refine rn T 99 [] ?_
  refine rn T 99 [] ?_
  refine hes (pick G s hs k (l.map ps).length hk hk1 (by simp; omega) hH) ?_; rintro _ _ ⟨v, hv0, hv1, rfl, rfl⟩ _ _; refine op ?_
  have hv : v.toNat < l.length := by simp at hv1; omega
  have hx : (l.map ps)[v.toNat]? = some (ps l[v.toNat]) := by rw [List.getElem?_map, List.getElem?_eq_getElem hv, Option.map_some]
  refine rn T 99 [ps l[v.toNat]] ?_
  exact ⟨[_], ⟨_, _, rfl, .inl rfl, rfl⟩, .p, l[v.toNat], List.getElem_mem hv, rfl, rfl⟩
def OpenR (s : List Int) (k c : Int) (d : Nat) (r : TV) (H' : List AObj) : Prop := (∃ k', k ≤ k' ∧ k' ≤ k + c ∧ r = .ag [.nil] ∧ H' = [rdr s k']) ∨ (∃ a b k', dp d a = true ∧ dp d b = true ∧ k ≤ k' ∧ k' ≤ k + c ∧ r = .ag [.vw (.S 1) 2] ∧ H' = [rdr s k', .rw 1 32 [pt a, pt b]])
theorem type71v (G : Nat → Option PV) (s : List Int) (hs : Bytes s) (d : Nat) (hd : d ≤ 20) (k : Int) (hk : 0 ≤ k) (hk1 : k + 2 ^ d ≤ 1099511627776) :
    FE Tryd.prog G 10 [.ptr (.S 0) 0, .p (pi d)] [rdr s k] (OpenR s k (2 ^ d - 1) d) := by
  have hp : ∀ d : Nat, (1 : Int) ≤ 2 ^ d := fun d => by
    have : (0 : Int) < 2 ^ d := Int.pow_pos (by omega)
    omega
  have hp0 := hp d
  refine ⟨?_, _, _, .inl ⟨k, by omega, by omega, rfl, rfl⟩, .ag (fun x hx => by simp at hx; subst hx; exact .nil), hsh_rdr hsh_nil⟩
  cases d with
  | zero =>
    refine bdy Tryd.func10 (fun d => if d = 21 then 1 else 0) rfl ?_
    refine rn T 99 [] ?_
    refine rn T 99 [] ?_
    refine cts ?_
    refine rn T 99 [] ?_
    exact retL T (xs := [.ag [.nil]]) rfl ⟨.inl rfl, trivial⟩ (.ag (fun x hx => by simp at hx; subst hx; exact .nil)) (.inl ⟨k, by omega, by omega, rfl, rfl⟩)
  | succ d =>
    have h2 : (2 : Int) ^ (d + 1) = 2 * 2 ^ d := by rw [Int.pow_succ]; omega
    have h3 := hp d
    refine bdy Tryd.func10 (fun d => if d = 21 then 1 else 0) rfl ?_
    refine rn T 99 [] ?_
    refine rn T 3 [] ?_
    by_cases hd0 : d = 0
    · rw [show decide (((d + 1 : Nat) : Int) < 2) = true by simp; omega]
      refine rn T 99 [] ?_
      refine cts ?_
      refine rn T 99 [] ?_
      exact retL T (xs := [.ag [.nil]]) rfl ⟨.inl rfl, trivial⟩ (.ag (fun x hx => by simp at hx; subst hx; exact .nil)) (.inl ⟨k, by omega, by omega, rfl, rfl⟩)
    · rw [show decide (((d + 1 : Nat) : Int) < 2) = false by simp; omega]
      refine rn T 99 [] ?_
      refine hes (pick G s hs k 3 hk (by omega) (by omega) hsh_nil) ?_; rintro _ _ ⟨v, hv0, hv1, rfl, rfl⟩ _ _; refine op ?_
      refine rn T 99 [] ?_
      by_cases hv : v > 0
      · refine ctq rfl (by simp; omega) ?_
        refine rn T 99 [] ?_
        exact retL T (xs := [.ag [.nil]]) rfl ⟨.inl rfl, trivial⟩ (.ag (fun x hx => by simp at hx; subst hx; exact .nil)) (.inl ⟨k + 1, by omega, by omega, rfl, rfl⟩)
      · refine cfq rfl (by simp; omega) ?_
        refine rn T 99 [] ?_
        rw [wkP (by omega)]
        refine hes (type71 G s hs hsh_nil d (by omega) (k + 1) (by omega) (by omega)) ?_; rintro _ _ ⟨t1, k1, h11, h12, h13, rfl, rfl⟩ _ _; refine op ?_
        refine rn T 99 [] ?_
        rw [wkP (by omega)]
        refine hes (type71 G s hs hsh_nil d (by omega) k1 (by omega) (by omega)) ?_; rintro _ _ ⟨t2, k2, h21, h22, h23, rfl, rfl⟩ _ _; refine op ?_
        refine rn T 99 [] ?_
        exact retL T (xs := [.ag [.vw (.S 1) 2]]) rfl ⟨.inl rfl, trivial⟩ (.ag (fun x hx => by simp at hx; subst hx; exact .vw trivial)) (.inr ⟨t1, t2, k2, h11, h21, by omega, by omega, rfl, rfl⟩)
end Go.Proofs.YtlcmokgnmlklnaaDoor.K
end
section
namespace Go.Proofs.YtlcmokgnmlklnaaDoor.K
open Go Go.RowKit Go.Proofs.YtlcmokgnmlklnaaDoor.En Go.Proofs.YtlcmokgnmlklnaaDoor.Ty Go.Proofs.YtlcmokgnmlklnaaDoor.B
set_option maxRecDepth 100000
set_option linter.unusedSimpArgs false
set_option linter.unusedVariables false
set_option pp.deepTerms false
set_option pp.deepTerms.threshold 8
set_option pp.maxSteps 1000
theorem hsh_rw {z : Nat} {t : Nat} {xs : List PV} {H : List AObj} (h : HSh H) : HSh (.rw z t xs :: H) := fun i o ho => by
  cases i with
  | zero =>
    simp only [List.getElem?_cons_zero, Option.some.injEq] at ho
    subst ho
    exact trivial
  | succ i => exact h i o (by simpa using ho)
def OpenM (d : Nat) (s : List Int) (k c : Int) (r : TV) (H' : List AObj) : Prop := ∃ (f0 f1 : Int) (f2 : ByteArray) (k' : Int), k ≤ k' ∧ k' ≤ k + c ∧
  ((r = .ag [.p (pi f0), .p (pi f1), .p (ps f2), .nil, .nil] ∧ H' = [rdr s k']) ∨
   ∃ (p : List Int) (l : List Mn) (P : TV), (l.length ≤ 2 ∧ l.all (dM d) = true) ∧ p.length ≤ 2 ∧ (P = .vw (.S 1) p.length ∨ P = .nil) ∧ r = .ag [.p (pi f0), .p (pi f1), .p (ps f2), P, .vw (.S 2) l.length] ∧ H' = [rdr s k', .rw 1 3 (p.map pi), .rw 5 28 (l.map eM)])
theorem term71v (G : Nat → Option PV) (s : List Int) (hs : Bytes s) (d : Nat) (hd : d + 1 ≤ 20) (k : Int) (hk : 0 ≤ k) (hk1 : k + 16 * 2 ^ (d + 1) ≤ 1099511627776) :
    FE Tryd.prog G 11 [.ptr (.S 0) 0, .p (pi (d + 1 : Nat))] [rdr s k] (OpenM (d + 1) s k (16 * 2 ^ (d + 1) - 8)) := by
    have h2 : (2 : Int) ^ (d + 1) = 2 * 2 ^ d := by rw [Int.pow_succ]; omega
    have h3 : (1 : Int) ≤ 2 ^ d := by
      have : (0 : Int) < 2 ^ d := Int.pow_pos (by omega)
      omega
    refine ⟨?_, _, _, ⟨0, 0, ⟨#[]⟩, k, by omega, by omega, .inl ⟨rfl, rfl⟩⟩, .ag (fun x hx => by simp at hx; rcases hx with rfl | rfl | rfl | rfl | rfl <;> first | exact .p | exact .nil), hsh_rdr hsh_nil⟩
    refine bdy Tryd.func11 (fun d => if d = 26 ∨ d = 48 ∨ d = 62 ∨ d = 74 ∨ d = 87 then 1 else 0) rfl ?_
    refine rn T 99 [] ?_
    refine rn T 3 [] ?_
    by_cases hd0 : d = 0
    · rw [show decide (((d + 1 : Nat) : Int) < 2) = true by simp; omega]
      refine rn T 99 [] ?_
      refine cts ?_
      refine rn T 99 [] ?_
      refine hes (pick G s hs (k) 3 (by omega) (by omega) (by omega) hsh_nil) ?_; rintro _ _ ⟨v, hv0, hv1, rfl, rfl⟩ _ _; refine op ?_
      refine rn T 99 [] ?_
      by_cases hv : v = 0
      · refine ctq rfl (by simp [hv]) ?_
        refine rn T 99 [] ?_
        refine hes (pick G s hs (k + 1) 4 (by omega) (by omega) (by omega) hsh_nil) ?_; rintro _ _ ⟨w, hw0, hw1, rfl, rfl⟩ _ _; refine op ?_
        refine rn T 99 [] ?_
        exact retL T (xs := [.ag [.p (pi 1), .p (pi w), .p (ps ⟨#[]⟩), .nil, .nil]]) rfl ⟨.inl rfl, trivial⟩ (.ag (fun x hx => by simp at hx; rcases hx with rfl | rfl | rfl | rfl | rfl <;> first | exact .p | exact .nil | exact .vw trivial)) ⟨_, _, _, k + 1 + 1, by omega, by omega, .inl ⟨rfl, rfl⟩⟩
      · refine cfq rfl (by simp [hv]) ?_
        refine rn T 99 [] ?_
        refine hes (pick G s hs (k + 1) 3 (by omega) (by omega) (by omega) hsh_nil) ?_; rintro _ _ ⟨w, hw0, hw1, rfl, rfl⟩ _ _; refine op ?_
        obtain rfl | rfl | rfl : w = 0 ∨ w = 1 ∨ w = 2 := by omega
        · refine rn T 99 [ps ⟨#[97]⟩] ?_
          exact retL T (xs := [.ag [.p (pi 2), .p (pi 0), .p (ps ⟨#[97]⟩), .nil, .nil]]) rfl ⟨.inl rfl, trivial⟩ (.ag (fun x hx => by simp at hx; rcases hx with rfl | rfl | rfl | rfl | rfl <;> first | exact .p | exact .nil | exact .vw trivial)) ⟨_, _, _, k + 1 + 1, by omega, by omega, .inl ⟨rfl, rfl⟩⟩
        · refine rn T 99 [ps ⟨#[98]⟩] ?_
          exact retL T (xs := [.ag [.p (pi 2), .p (pi 0), .p (ps ⟨#[98]⟩), .nil, .nil]]) rfl ⟨.inl rfl, trivial⟩ (.ag (fun x hx => by simp at hx; rcases hx with rfl | rfl | rfl | rfl | rfl <;> first | exact .p | exact .nil | exact .vw trivial)) ⟨_, _, _, k + 1 + 1, by omega, by omega, .inl ⟨rfl, rfl⟩⟩
        · refine rn T 99 [ps ⟨#[99]⟩] ?_
          exact retL T (xs := [.ag [.p (pi 2), .p (pi 0), .p (ps ⟨#[99]⟩), .nil, .nil]]) rfl ⟨.inl rfl, trivial⟩ (.ag (fun x hx => by simp at hx; rcases hx with rfl | rfl | rfl | rfl | rfl <;> first | exact .p | exact .nil | exact .vw trivial)) ⟨_, _, _, k + 1 + 1, by omega, by omega, .inl ⟨rfl, rfl⟩⟩
    · rw [show decide (((d + 1 : Nat) : Int) < 2) = false by simp; omega]
      refine rn T 99 [] ?_
      refine hes (pick G s hs k 4 hk (by omega) (by omega) hsh_nil) ?_; rintro _ _ ⟨u, hu0, hu1, rfl, rfl⟩ _ _; refine op ?_
      refine rn T 99 [] ?_
      by_cases hu : u = 0
      · subst hu
        refine cts ?_
        refine rn T 99 [] ?_
        refine hes (pick G s hs (k + 1) 3 (by omega) (by omega) (by omega) hsh_nil) ?_; rintro _ _ ⟨v, hv0, hv1, rfl, rfl⟩ _ _; refine op ?_
        refine rn T 99 [] ?_
        by_cases hv : v = 0
        · refine ctq rfl (by simp [hv]) ?_
          refine rn T 99 [] ?_
          refine hes (pick G s hs (k + 1 + 1) 4 (by omega) (by omega) (by omega) hsh_nil) ?_; rintro _ _ ⟨w, hw0, hw1, rfl, rfl⟩ _ _; refine op ?_
          refine rn T 99 [] ?_
          exact retL T (xs := [.ag [.p (pi 1), .p (pi w), .p (ps ⟨#[]⟩), .nil, .nil]]) rfl ⟨.inl rfl, trivial⟩ (.ag (fun x hx => by simp at hx; rcases hx with rfl | rfl | rfl | rfl | rfl <;> first | exact .p | exact .nil | exact .vw trivial)) ⟨_, _, _, k + 1 + 1 + 1, by omega, by omega, .inl ⟨rfl, rfl⟩⟩
        · refine cfq rfl (by simp [hv]) ?_
          refine rn T 99 [] ?_
          refine hes (pick G s hs (k + 1 + 1) 3 (by omega) (by omega) (by omega) hsh_nil) ?_; rintro _ _ ⟨w, hw0, hw1, rfl, rfl⟩ _ _; refine op ?_
          obtain rfl | rfl | rfl : w = 0 ∨ w = 1 ∨ w = 2 := by omega
          · refine rn T 99 [ps ⟨#[97]⟩] ?_
            exact retL T (xs := [.ag [.p (pi 2), .p (pi 0), .p (ps ⟨#[97]⟩), .nil, .nil]]) rfl ⟨.inl rfl, trivial⟩ (.ag (fun x hx => by simp at hx; rcases hx with rfl | rfl | rfl | rfl | rfl <;> first | exact .p | exact .nil | exact .vw trivial)) ⟨_, _, _, k + 1 + 1 + 1, by omega, by omega, .inl ⟨rfl, rfl⟩⟩
          · refine rn T 99 [ps ⟨#[98]⟩] ?_
            exact retL T (xs := [.ag [.p (pi 2), .p (pi 0), .p (ps ⟨#[98]⟩), .nil, .nil]]) rfl ⟨.inl rfl, trivial⟩ (.ag (fun x hx => by simp at hx; rcases hx with rfl | rfl | rfl | rfl | rfl <;> first | exact .p | exact .nil | exact .vw trivial)) ⟨_, _, _, k + 1 + 1 + 1, by omega, by omega, .inl ⟨rfl, rfl⟩⟩
          · refine rn T 99 [ps ⟨#[99]⟩] ?_
            exact retL T (xs := [.ag [.p (pi 2), .p (pi 0), .p (ps ⟨#[99]⟩), .nil, .nil]]) rfl ⟨.inl rfl, trivial⟩ (.ag (fun x hx => by simp at hx; rcases hx with rfl | rfl | rfl | rfl | rfl <;> first | exact .p | exact .nil | exact .vw trivial)) ⟨_, _, _, k + 1 + 1 + 1, by omega, by omega, .inl ⟨rfl, rfl⟩⟩
      · refine cfq rfl (by simp [hu]) ?_
        refine rn T 99 [] ?_
        refine rn T 99 [] ?_
        refine hes (pick G s hs (k + 1) 3 (by omega) (by omega) (by omega) (hsh_rw hsh_nil)) ?_; rintro _ _ ⟨n, hn0, hn1, rfl, rfl⟩ _ _; refine op ?_
        refine rn T 99 [] ?_
        refine AW.lp (fun x : List Int × Int × Int => MS.mk [(6, .p (pi x.2.2)), (5, .vw (.S 1) x.1.length), (0, .ptr (.S 0) 0), (1, .p (pi (d + 1 : Nat))), (4, .ptr (.L 4) 0)] 89 [(4, .box 28 [.p (pi 0), .p (pi 0), .p (ps ⟨#[]⟩), .nil, .nil])] [rdr s x.2.1, .rw 1 3 (x.1.map pi)]) (fun m x => (m : Int) = x.2.2 ∧ x.1.length + m ≤ 2 ∧ k + 2 ≤ x.2.1 ∧ x.2.1 + x.2.2 ≤ k + 4) n.toNat ([], k + 1 + 1, n) (by simp only [List.length_nil]; omega) (wk_of rfl rfl ⟨.inl rfl, .inl rfl, .inl rfl, .inl rfl, .inl rfl, trivial⟩ ⟨.inl rfl, trivial⟩) ?_
        intro m ⟨p, k', n'⟩ ⟨g1, g2, g3, g4⟩
        simp only at g1 g2 g3 g4
        refine op ?_
        refine rn T 99 [] ?_
        by_cases hm : m = 0
        · subst hm
          refine cfq rfl (by simp; omega) ?_
          refine rn T 99 [] ?_
          refine hes (pick G s hs k' 6 (by omega) (by omega) (by omega) (hsh_rw hsh_nil)) ?_; rintro _ _ ⟨v, hv0, hv1, rfl, rfl⟩ _ _; refine op ?_
          obtain rfl | rfl | rfl | rfl | rfl | rfl : v = 0 ∨ v = 1 ∨ v = 2 ∨ v = 3 ∨ v = 4 ∨ v = 5 := by omega
          · refine rn T 99 [] ?_
            refine cts ?_
            refine cts ?_
            refine rn T 99 [] ?_
            rw [wkP (by omega)]
            refine hes (term71 G s hs (hsh_rw hsh_nil) d (by omega) (k' + 1) (by omega) (by omega)) ?_; rintro _ _ ⟨t1, k1, h11, h12, h13, rfl, rfl⟩ _ _; refine op ?_
            refine rn T 99 [] ?_
            exact retL T (xs := [.ag [.p (pi 7), .p (pi 0), .p (ps ⟨#[]⟩), .vw (.S 1) p.length, .vw (.S 2) 1]]) rfl ⟨.inl rfl, trivial⟩ (.ag (fun x hx => by simp at hx; rcases hx with rfl | rfl | rfl | rfl | rfl <;> first | exact .p | exact .nil | exact .vw trivial)) ⟨_, _, _, k1, by omega, by omega, .inr ⟨p, [t1], .vw (.S 1) p.length, ⟨by simp, by simp [h11]⟩, by omega, .inl rfl, rfl, by simp only [List.map_cons, List.map_nil, eM_eq]; rfl⟩⟩
          · refine rn T 99 [] ?_
            refine cfs ?_
            refine rn T 99 [] ?_
            refine cts ?_
            refine rn T 99 [] ?_
            rw [wkP (by omega)]
            refine hes (term71 G s hs (hsh_rw hsh_nil) d (by omega) (k' + 1) (by omega) (by omega)) ?_; rintro _ _ ⟨t1, k1, h11, h12, h13, rfl, rfl⟩ _ _; refine op ?_
            refine rn T 99 [] ?_
            exact retL T (xs := [.ag [.p (pi 7), .p (pi 0), .p (ps ⟨#[]⟩), .vw (.S 1) p.length, .vw (.S 2) 1]]) rfl ⟨.inl rfl, trivial⟩ (.ag (fun x hx => by simp at hx; rcases hx with rfl | rfl | rfl | rfl | rfl <;> first | exact .p | exact .nil | exact .vw trivial)) ⟨_, _, _, k1, by omega, by omega, .inr ⟨p, [t1], .vw (.S 1) p.length, ⟨by simp, by simp [h11]⟩, by omega, .inl rfl, rfl, by simp only [List.map_cons, List.map_nil, eM_eq]; rfl⟩⟩
          · refine rn T 99 [] ?_
            refine cfs ?_
            refine rn T 99 [] ?_
            refine cfs ?_
            refine rn T 99 [] ?_
            refine cts ?_
            refine cts ?_
            refine rn T 99 [] ?_
            rw [wkP (by omega)]
            refine hes (term71 G s hs (hsh_rw hsh_nil) d (by omega) (k' + 1) (by omega) (by omega)) ?_; rintro _ _ ⟨t1, k1, h11, h12, h13, rfl, rfl⟩ _ _; refine op ?_
            refine rn T 99 [] ?_
            rw [wkP (by omega)]
            refine hes (term71 G s hs (hsh_rw hsh_nil) d (by omega) k1 (by omega) (by omega)) ?_; rintro _ _ ⟨t2, k2, h21, h22, h23, rfl, rfl⟩ _ _; refine op ?_
            refine rn T 99 [] ?_
            exact retL T (xs := [.ag [.p (pi 8), .p (pi 0), .p (ps ⟨#[]⟩), .vw (.S 1) p.length, .vw (.S 2) 2]]) rfl ⟨.inl rfl, trivial⟩ (.ag (fun x hx => by simp at hx; rcases hx with rfl | rfl | rfl | rfl | rfl <;> first | exact .p | exact .nil | exact .vw trivial)) ⟨_, _, _, k2, by omega, by omega, .inr ⟨p, [t1, t2], .vw (.S 1) p.length, ⟨by simp, by simp [h11, h21]⟩, by omega, .inl rfl, rfl, by simp only [List.map_cons, List.map_nil, eM_eq]; rfl⟩⟩
          · refine rn T 99 [] ?_
            refine cfs ?_
            refine rn T 99 [] ?_
            refine cfs ?_
            refine rn T 99 [] ?_
            refine cfs ?_
            refine rn T 99 [] ?_
            refine cts ?_
            refine rn T 99 [] ?_
            rw [wkP (by omega)]
            refine hes (term71 G s hs (hsh_rw hsh_nil) d (by omega) (k' + 1) (by omega) (by omega)) ?_; rintro _ _ ⟨t1, k1, h11, h12, h13, rfl, rfl⟩ _ _; refine op ?_
            refine rn T 99 [] ?_
            rw [wkP (by omega)]
            refine hes (term71 G s hs (hsh_rw hsh_nil) d (by omega) k1 (by omega) (by omega)) ?_; rintro _ _ ⟨t2, k2, h21, h22, h23, rfl, rfl⟩ _ _; refine op ?_
            refine rn T 99 [] ?_
            exact retL T (xs := [.ag [.p (pi 8), .p (pi 0), .p (ps ⟨#[]⟩), .vw (.S 1) p.length, .vw (.S 2) 2]]) rfl ⟨.inl rfl, trivial⟩ (.ag (fun x hx => by simp at hx; rcases hx with rfl | rfl | rfl | rfl | rfl <;> first | exact .p | exact .nil | exact .vw trivial)) ⟨_, _, _, k2, by omega, by omega, .inr ⟨p, [t1, t2], .vw (.S 1) p.length, ⟨by simp, by simp [h11, h21]⟩, by omega, .inl rfl, rfl, by simp only [List.map_cons, List.map_nil, eM_eq]; rfl⟩⟩
          · refine rn T 99 [] ?_
            refine cfs ?_
            refine rn T 99 [] ?_
            refine cfs ?_
            refine rn T 99 [] ?_
            refine cfs ?_
            refine rn T 99 [] ?_
            refine cfs ?_
            refine rn T 99 [] ?_
            refine cts ?_
            refine rn T 99 [] ?_
            rw [wkP (by omega)]
            refine hes (term71 G s hs (hsh_rw hsh_nil) d (by omega) (k' + 1) (by omega) (by omega)) ?_; rintro _ _ ⟨t1, k1, h11, h12, h13, rfl, rfl⟩ _ _; refine op ?_
            refine rn T 99 [] ?_
            rw [wkP (by omega)]
            refine hes (term71 G s hs (hsh_rw hsh_nil) d (by omega) k1 (by omega) (by omega)) ?_; rintro _ _ ⟨t2, k2, h21, h22, h23, rfl, rfl⟩ _ _; refine op ?_
            refine rn T 99 [] ?_
            exact retL T (xs := [.ag [.p (pi (6)), .p (pi 0), .p (ps ⟨#[]⟩), .nil, .vw (.S 2) 2]]) rfl ⟨.inl rfl, trivial⟩ (.ag (fun x hx => by simp at hx; rcases hx with rfl | rfl | rfl | rfl | rfl <;> first | exact .p | exact .nil | exact .vw trivial)) ⟨_, _, _, k2, by omega, by omega, .inr ⟨p, [t1, t2], .nil, ⟨by simp, by simp [h11, h21]⟩, by omega, .inr rfl, rfl, by simp only [List.map_cons, List.map_nil, eM_eq]; rfl⟩⟩
          · refine rn T 99 [] ?_
            refine cfs ?_
            refine rn T 99 [] ?_
            refine cfs ?_
            refine rn T 99 [] ?_
            refine cfs ?_
            refine rn T 99 [] ?_
            refine cfs ?_
            refine rn T 99 [] ?_
            refine cfs ?_
            refine rn T 99 [] ?_
            refine hes (pick G s hs (k' + 1) 3 (by omega) (by omega) (by omega) (hsh_rw hsh_nil)) ?_; rintro _ _ ⟨w, hw0, hw1, rfl, rfl⟩ _ _; refine op ?_
            refine rn T 1 [] ?_
            rw [wk (n := 3 + w) (by omega) (by omega)]
            refine rn T 99 [] ?_
            rw [wkP (by omega)]
            refine hes (term71 G s hs (hsh_rw hsh_nil) d (by omega) (k' + 1 + 1) (by omega) (by omega)) ?_; rintro _ _ ⟨t1, k1, h11, h12, h13, rfl, rfl⟩ _ _; refine op ?_
            refine rn T 99 [] ?_
            rw [wkP (by omega)]
            refine hes (term71 G s hs (hsh_rw hsh_nil) d (by omega) k1 (by omega) (by omega)) ?_; rintro _ _ ⟨t2, k2, h21, h22, h23, rfl, rfl⟩ _ _; refine op ?_
            refine rn T 99 [] ?_
            exact retL T (xs := [.ag [.p (pi (3 + w)), .p (pi 0), .p (ps ⟨#[]⟩), .nil, .vw (.S 2) 2]]) rfl ⟨.inl rfl, trivial⟩ (.ag (fun x hx => by simp at hx; rcases hx with rfl | rfl | rfl | rfl | rfl <;> first | exact .p | exact .nil | exact .vw trivial)) ⟨_, _, _, k2, by omega, by omega, .inr ⟨p, [t1, t2], .nil, ⟨by simp, by simp [h11, h21]⟩, by omega, .inr rfl, rfl, by simp only [List.map_cons, List.map_nil, eM_eq]; rfl⟩⟩
        · refine ctq rfl (by simp; omega) ?_
          refine rn T 99 [] ?_
          refine hes (pick G s hs k' 2 (by omega) (by omega) (by omega) (hsh_rw hsh_nil)) ?_; rintro _ _ ⟨v, hv0, hv1, rfl, rfl⟩ _ _; refine op ?_
          refine rn T 99 [] ?_
          refine rn T 99 [] ?_
          have hlen : p.length + [pi v].length = (p ++ [v]).length := by simp
          have hq : p.map pi ++ [pi v] = (p ++ [v]).map pi := by simp
          rw [List.length_map, hlen, hq, wk (n := n' - 1) (by omega) (by omega)]
          refine nxt (m - 1) ((p ++ [v], k' + 1, n' - 1)) (⟨by simp only; omega, by simp only [List.length_append, List.length_singleton]; omega, by simp only; omega, by simp only; omega⟩)
end Go.Proofs.YtlcmokgnmlklnaaDoor.K
end
section
namespace Go.Proofs.YtlcmokgnmlklnaaDoor.K
open Go Go.RowKit Go.Proofs.YtlcmokgnmlklnaaDoor.En Go.Proofs.YtlcmokgnmlklnaaDoor.Ty Go.Proofs.YtlcmokgnmlklnaaDoor.B
set_option maxRecDepth 100000
set_option linter.unusedSimpArgs false
set_option linter.unusedVariables false
set_option pp.deepTerms false
set_option pp.deepTerms.threshold 8
set_option pp.maxSteps 1000
theorem deep71 (G : Nat → Option PV) (s : List Int) (hs : Bytes s) (k : Int) (hk : 0 ≤ k) (hk1 : k ≤ 1099511000000) :
    FE Tryd.prog G 13 [.ptr (.S 0) 0] [rdr s k] (fun r H' => ∃ t k' X, k ≤ k' ∧ k' ≤ k + 40 ∧ r = .p (pt t) ∧ H' = rdr s k' :: X) := by
  refine ⟨?_, _, _, ⟨[], k, [], by omega, by omega, rfl, rfl⟩, .p, hsh_rdr hsh_nil⟩
  refine bdy Tryd.func13 (fun _ => 0) rfl ?_
  refine rn T 99 [] ?_
  refine rn T 99 [] ?_
  refine hes (pick G s hs k 4 hk (by omega) (by omega) hsh_nil) ?_; rintro _ _ ⟨d, hd0, hd1, rfl, rfl⟩ _ _; refine op ?_
  refine rn T 1 [] ?_
  rw [wk (n := 1 + d) (by omega) (by omega)]
  obtain ⟨n, hn⟩ : ∃ n : Nat, 1 + d = (n : Int) := ⟨(1 + d).toNat, by omega⟩
  rw [hn]
  have hp : (2 : Int) ^ n ≤ 16 := by
    have : n = 1 ∨ n = 2 ∨ n = 3 ∨ n = 4 := by omega
    rcases this with rfl | rfl | rfl | rfl <;> decide
  refine hes (type71v G s hs n (by omega) (k + 1) (by omega) (by omega)) ?_; rintro _ _ h _ _; refine op ?_
  rcases h with ⟨k', h1, h2, rfl, rfl⟩ | ⟨a, b, k', ha, hb, h1, h2, rfl, rfl⟩
  · refine rn T 99 [] ?_
    refine rn T 99 [] ?_
    refine hes (pick G s hs k' 12 (by omega) (by omega) (by omega) hsh_nil) ?_; rintro _ _ ⟨v, hv0, hv1, rfl, rfl⟩ _ _; refine op ?_
    refine rn T 99 [] ?_
    by_cases hv : v = 0
    · refine ctq rfl (by simp [hv]) ?_
      refine rn T 99 [] ?_
      refine AW.lp (fun x : Nat × List Tn => MS.mk [(4, .p (pi x.1)), (3, .ptr (.L 3) 0), (2, .ptr (.L 2) 0)] 31 [(3, .box 32 [.p (.row 1 (x.2.map eT))]), (2, .box 32 [.nil])] [rdr s (k' + 1)]) (fun m x => m + x.1 = 5) 5 (0, []) rfl (wk_of rfl rfl ⟨.inl rfl, .inl rfl, .inl rfl, trivial⟩ ⟨.inr ⟨_, _, _, rfl, rfl, .inr ⟨_, relT_pv _ _ _ (by simp [relT]), rfl⟩, trivial⟩, .inl rfl, trivial⟩) ?_
      intro m ⟨i, u⟩ g1
      simp only at g1
      refine op ?_
      refine rn T 99 [] ?_
      by_cases hi : i < 5
      · refine ctq rfl (by simp; omega) ?_
        refine rn T 99 [] ?_
        refine rn T 99 [] ?_
        rw [wkS (by omega)]
        exact RoundM.next (m - 1) (i + 1, [⟨u⟩, ⟨[]⟩]) (by omega) (by simp only; omega) rfl rfl ⟨.inl rfl, .inl rfl, .inl rfl, trivial⟩ ⟨.inr ⟨_, _, _, rfl, rfl, .inr ⟨_, relT_pv _ _ _ (by exact ⟨rfl, by simp [eT_eq, Tn.f0], rfl⟩), rfl⟩, trivial⟩, .inl rfl, trivial⟩
      · refine cfq rfl (by simp; omega) ?_
        refine rn T 99 [] ?_
        exact rt1 T (pt u) (⟨_, k' + 1, _, by omega, by omega, rfl, rfl⟩)
    · refine cfq rfl (by simp [hv]) ?_
      refine rn T 99 [] ?_
      by_cases hw : v = 1
      · refine ctq rfl (by simp [hw]) ?_
        refine rn T 99 [] ?_
        refine rn T 99 [] ?_
        exact rt1 T (pt [⟨[]⟩]) (⟨_, k' + 1, _, by omega, by omega, rfl, rfl⟩)
      · refine cfq rfl (by simp [hw]) ?_
        refine rn T 99 [] ?_
        exact rt1 T (pt []) (⟨_, k' + 1, _, by omega, by omega, rfl, rfl⟩)
  · refine rn T 99 [] ?_
    refine rn T 99 [] ?_
    refine hes (pick G s hs k' 12 (by omega) (by omega) (by omega) (hsh_rw hsh_nil)) ?_; rintro _ _ ⟨v, hv0, hv1, rfl, rfl⟩ _ _; refine op ?_
    refine rn T 99 [] ?_
    by_cases hv : v = 0
    · refine ctq rfl (by simp [hv]) ?_
      refine rn T 99 [] ?_
      refine AW.lp (fun x : Nat × List Tn => MS.mk [(4, .p (pi x.1)), (3, .ptr (.L 3) 0), (2, .ptr (.L 2) 0)] 31 [(3, .box 32 [.p (.row 1 (x.2.map eT))]), (2, .box 32 [.nil])] [rdr s (k' + 1), .rw 1 32 [pt a, pt b]]) (fun m x => m + x.1 = 5) 5 (0, [⟨a⟩, ⟨b⟩]) rfl (wk_of rfl rfl ⟨.inl rfl, .inl rfl, .inl rfl, trivial⟩ ⟨.inr ⟨_, _, _, rfl, rfl, .inr ⟨_, relT_pv _ _ _ (by exact ⟨rfl, by simp [eT_eq, Tn.f0], rfl⟩), rfl⟩, trivial⟩, .inl rfl, trivial⟩) ?_
      intro m ⟨i, u⟩ g1
      simp only at g1
      refine op ?_
      refine rn T 99 [] ?_
      by_cases hi : i < 5
      · refine ctq rfl (by simp; omega) ?_
        refine rn T 99 [] ?_
        refine rn T 99 [] ?_
        rw [wkS (by omega)]
        exact RoundM.next (m - 1) (i + 1, [⟨u⟩, ⟨[]⟩]) (by omega) (by simp only; omega) rfl rfl ⟨.inl rfl, .inl rfl, .inl rfl, trivial⟩ ⟨.inr ⟨_, _, _, rfl, rfl, .inr ⟨_, relT_pv _ _ _ (by exact ⟨rfl, by simp [eT_eq, Tn.f0], rfl⟩), rfl⟩, trivial⟩, .inl rfl, trivial⟩
      · refine cfq rfl (by simp; omega) ?_
        refine rn T 99 [] ?_
        exact rt1 T (pt u) (⟨_, k' + 1, _, by omega, by omega, rfl, rfl⟩)
    · refine cfq rfl (by simp [hv]) ?_
      refine rn T 99 [] ?_
      by_cases hw : v = 1
      · refine ctq rfl (by simp [hw]) ?_
        refine rn T 99 [] ?_
        refine rn T 99 [] ?_
        exact rt1 T (pt [⟨a⟩, ⟨b⟩, ⟨[]⟩]) (⟨_, k' + 1, _, by omega, by omega, rfl, rfl⟩)
      · refine cfq rfl (by simp [hw]) ?_
        refine rn T 99 [] ?_
        exact rt1 T (pt [⟨a⟩, ⟨b⟩]) (⟨_, k' + 1, _, by omega, by omega, rfl, rfl⟩)
end Go.Proofs.YtlcmokgnmlklnaaDoor.K
end
section
namespace Go.Proofs.YtlcmokgnmlklnaaDoor.K
open Go Go.RowKit Go.Proofs.YtlcmokgnmlklnaaDoor.En Go.Proofs.YtlcmokgnmlklnaaDoor.Ty Go.Proofs.YtlcmokgnmlklnaaDoor.B
set_option maxRecDepth 100000
set_option linter.unusedSimpArgs false
set_option linter.unusedVariables false
set_option pp.deepTerms false
set_option pp.deepTerms.threshold 8
set_option pp.maxSteps 1000
set_option maxHeartbeats 1000000
theorem odd71 (G : Nat → Option PV) (s : List Int) (hs : Bytes s) (k : Int) (hk : 0 ≤ k) (hk1 : k ≤ 1099511000000) :
    FE Tryd.prog G 14 [.ptr (.S 0) 0] [rdr s k] (fun r H' => ∃ (t : Mn) (k' : Int) (X : List AObj), dM 6 t = true ∧ k ≤ k' ∧ k' ≤ k + 600 ∧ r = .p (pm t) ∧ H' = rdr s k' :: X) := by
  refine ⟨?_, _, _, ⟨⟨0, 0, ⟨#[]⟩, [], []⟩, k, [], dM0, by omega, by omega, rfl, rfl⟩, .p, hsh_rdr hsh_nil⟩
  have hp : (2 : Int) ^ (4 + 1) = 32 := rfl
  refine bdy Tryd.func14 (fun _ => 0) rfl ?_
  refine rn T 99 [] ?_
  refine rn T 99 [] ?_
  refine hes (term71v G s hs 4 (by omega) k hk (by omega)) ?_; rintro _ _ h _ _; refine op ?_
  rcases h with ⟨f0, f1, f2, k', h1, h2, ⟨rfl, rfl⟩ | ⟨p, l, P, hl, hpl, hP, rfl, rfl⟩⟩
  · refine rn T 99 [] ?_
    refine rn T 99 [] ?_
    refine hes (pick G s hs k' 20 (by omega) (by omega) (by omega) hsh_nil) ?_; rintro _ _ ⟨v, hv0, hv1, rfl, rfl⟩ _ _; refine op ?_
    refine rn T 99 [] ?_
    by_cases c0 : v = 0
    · refine ctq rfl (by simp [c0]) ?_
      refine rn T 99 [] ?_
      refine hes (pick G s hs (k' + 1) 10 (by omega) (by omega) (by omega) hsh_nil) ?_; rintro _ _ ⟨x, hx0, hx1, rfl, rfl⟩ _ _; refine op ?_
      refine rn T 99 [] ?_
      refine rn T 99 [] ?_
      exact rt1 T (pm ⟨x, f1, f2, [], []⟩) (⟨⟨x, f1, f2, [], []⟩, k' + 1 + 1, _, by first | exact dM0 | exact dMl hl, by omega, by omega, rfl, rfl⟩)
    · refine cfq rfl (by simp [c0]) ?_
      refine rn T 99 [] ?_
      by_cases c1 : v = 1
      · refine ctq rfl (by simp [c1]) ?_
        refine rn T 2 [] ?_
        refine hes (pick G s hs (k' + 1) 3 (by omega) (by omega) (by omega) hsh_nil) ?_; rintro _ _ ⟨x, hx0, hx1, rfl, rfl⟩ _ _; refine op ?_
        obtain rfl | rfl | rfl : x = 0 ∨ x = 1 ∨ x = 2 := by omega
        · refine rn T 99 [pi (-1)] ?_
          refine rn T 99 [] ?_
          exact rt1 T (pm ⟨f0, (-1), f2, [], []⟩) (⟨⟨f0, (-1), f2, [], []⟩, k' + 1 + 1, _, by first | exact dM0 | exact dMl hl, by omega, by omega, rfl, rfl⟩)
        · refine rn T 99 [pi 1] ?_
          refine rn T 99 [] ?_
          exact rt1 T (pm ⟨f0, 1, f2, [], []⟩) (⟨⟨f0, 1, f2, [], []⟩, k' + 1 + 1, _, by first | exact dM0 | exact dMl hl, by omega, by omega, rfl, rfl⟩)
        · refine rn T 99 [pi 10000] ?_
          refine rn T 99 [] ?_
          exact rt1 T (pm ⟨f0, 10000, f2, [], []⟩) (⟨⟨f0, 10000, f2, [], []⟩, k' + 1 + 1, _, by first | exact dM0 | exact dMl hl, by omega, by omega, rfl, rfl⟩)
      · refine cfq rfl (by simp [c1]) ?_
        refine rn T 99 [] ?_
        by_cases c2 : v = 2
        · refine ctq rfl (by simp [c2]) ?_; try (first | refine dr1 ?_ | refine dr2 ?_ | refine dr3 ?_ | refine dr4 ?_)
          refine rn T 99 [] ?_
          refine hes (pick G s hs (k' + 1) 3 (by omega) (by omega) (by omega) hsh_nil) ?_; rintro _ _ ⟨x, hx0, hx1, rfl, rfl⟩ _ _; refine op ?_
          obtain rfl | rfl | rfl : x = 0 ∨ x = 1 ∨ x = 2 := by omega
          · refine rn T 99 [pi (-1)] ?_
            refine rn T 99 [] ?_
            exact rt1 T (pm ⟨f0, f1, f2, [(-1)], []⟩) (⟨⟨f0, f1, f2, [(-1)], []⟩, k' + 1 + 1, _, by first | exact dM0 | exact dMl hl, by omega, by omega, rfl, rfl⟩)
          · refine rn T 99 [pi 2] ?_
            refine rn T 99 [] ?_
            exact rt1 T (pm ⟨f0, f1, f2, [2], []⟩) (⟨⟨f0, f1, f2, [2], []⟩, k' + 1 + 1, _, by first | exact dM0 | exact dMl hl, by omega, by omega, rfl, rfl⟩)
          · refine rn T 99 [pi 0] ?_
            refine rn T 99 [] ?_
            exact rt1 T (pm ⟨f0, f1, f2, [0], []⟩) (⟨⟨f0, f1, f2, [0], []⟩, k' + 1 + 1, _, by first | exact dM0 | exact dMl hl, by omega, by omega, rfl, rfl⟩)
        · refine cfq rfl (by simp [c2]) ?_
          refine rn T 99 [] ?_
          by_cases c3 : v = 3
          · refine ctq rfl (by simp [c3]) ?_
            refine rn T 99 [] ?_
            refine hes (word71 G s hs hsh_nil (k' + 1) (by omega) (by omega) [⟨#[]⟩, ⟨#[45]⟩, ⟨#[97]⟩] (by simp)) ?_; rintro _ _ ⟨w, hw, rfl, rfl⟩ _ _; refine op ?_
            refine rn T 99 [] ?_
            refine rn T 99 [] ?_
            exact rt1 T (pm ⟨f0, f1, w, [], []⟩) (⟨⟨f0, f1, w, [], []⟩, k' + 1 + 1, _, by first | exact dM0 | exact dMl hl, by omega, by omega, rfl, rfl⟩)
          · refine cfq rfl (by simp [c3]) ?_
            refine rn T 99 [] ?_
            exact rt1 T (pm ⟨f0, f1, f2, [], []⟩) (⟨⟨f0, f1, f2, [], []⟩, k' + 1, _, by first | exact dM0 | exact dMl hl, by omega, by omega, rfl, rfl⟩)
  · have h2r := hsh_rw (z := 1) (t := 3) (xs := p.map pi) (hsh_rw (z := 5) (t := 28) (xs := l.map eM) hsh_nil)
    rcases hP with rfl | rfl
    · refine rn T 99 [] ?_
      refine rn T 99 [] ?_
      refine hes (pick G s hs k' 20 (by omega) (by omega) (by omega) h2r) ?_; rintro _ _ ⟨v, hv0, hv1, rfl, rfl⟩ _ _; refine op ?_
      refine rn T 99 [] ?_
      by_cases c0 : v = 0
      · refine ctq rfl (by simp [c0]) ?_
        refine rn T 99 [] ?_
        refine hes (pick G s hs (k' + 1) 10 (by omega) (by omega) (by omega) h2r) ?_; rintro _ _ ⟨x, hx0, hx1, rfl, rfl⟩ _ _; refine op ?_
        refine rn T 99 [] ?_
        refine rn T 99 [] ?_
        exact rt1 T (pm ⟨x, f1, f2, p, l⟩) (⟨⟨x, f1, f2, p, l⟩, k' + 1 + 1, _, by first | exact dM0 | exact dMl hl, by omega, by omega, rfl, rfl⟩)
      · refine cfq rfl (by simp [c0]) ?_
        refine rn T 99 [] ?_
        by_cases c1 : v = 1
        · refine ctq rfl (by simp [c1]) ?_
          refine rn T 2 [] ?_
          refine hes (pick G s hs (k' + 1) 3 (by omega) (by omega) (by omega) h2r) ?_; rintro _ _ ⟨x, hx0, hx1, rfl, rfl⟩ _ _; refine op ?_
          obtain rfl | rfl | rfl : x = 0 ∨ x = 1 ∨ x = 2 := by omega
          · refine rn T 99 [pi (-1)] ?_
            refine rn T 99 [] ?_
            exact rt1 T (pm ⟨f0, (-1), f2, p, l⟩) (⟨⟨f0, (-1), f2, p, l⟩, k' + 1 + 1, _, by first | exact dM0 | exact dMl hl, by omega, by omega, rfl, rfl⟩)
          · refine rn T 99 [pi 1] ?_
            refine rn T 99 [] ?_
            exact rt1 T (pm ⟨f0, 1, f2, p, l⟩) (⟨⟨f0, 1, f2, p, l⟩, k' + 1 + 1, _, by first | exact dM0 | exact dMl hl, by omega, by omega, rfl, rfl⟩)
          · refine rn T 99 [pi 10000] ?_
            refine rn T 99 [] ?_
            exact rt1 T (pm ⟨f0, 10000, f2, p, l⟩) (⟨⟨f0, 10000, f2, p, l⟩, k' + 1 + 1, _, by first | exact dM0 | exact dMl hl, by omega, by omega, rfl, rfl⟩)
        · refine cfq rfl (by simp [c1]) ?_
          refine rn T 99 [] ?_
          by_cases c2 : v = 2
          · refine ctq rfl (by simp [c2]) ?_; try (first | refine dr1 ?_ | refine dr2 ?_ | refine dr3 ?_ | refine dr4 ?_)
            refine rn T 99 [] ?_
            refine hes (pick G s hs (k' + 1) 3 (by omega) (by omega) (by omega) h2r) ?_; rintro _ _ ⟨x, hx0, hx1, rfl, rfl⟩ _ _; refine op ?_
            obtain rfl | rfl | rfl : x = 0 ∨ x = 1 ∨ x = 2 := by omega
            · refine rn T 99 [pi (-1)] ?_
              refine rn T 99 [] ?_
              exact rt1 T (pm ⟨f0, f1, f2, p ++ [(-1)], l⟩) (⟨⟨f0, f1, f2, p ++ [(-1)], l⟩, k' + 1 + 1, _, by first | exact dM0 | exact dMl hl, by omega, by omega, rfl, rfl⟩)
            · refine rn T 99 [pi 2] ?_
              refine rn T 99 [] ?_
              exact rt1 T (pm ⟨f0, f1, f2, p ++ [2], l⟩) (⟨⟨f0, f1, f2, p ++ [2], l⟩, k' + 1 + 1, _, by first | exact dM0 | exact dMl hl, by omega, by omega, rfl, rfl⟩)
            · refine rn T 99 [pi 0] ?_
              refine rn T 99 [] ?_
              exact rt1 T (pm ⟨f0, f1, f2, p ++ [0], l⟩) (⟨⟨f0, f1, f2, p ++ [0], l⟩, k' + 1 + 1, _, by first | exact dM0 | exact dMl hl, by omega, by omega, rfl, rfl⟩)
          · refine cfq rfl (by simp [c2]) ?_
            refine rn T 99 [] ?_
            by_cases c3 : v = 3
            · refine ctq rfl (by simp [c3]) ?_
              refine rn T 99 [] ?_
              refine hes (word71 G s hs h2r (k' + 1) (by omega) (by omega) [⟨#[]⟩, ⟨#[45]⟩, ⟨#[97]⟩] (by simp)) ?_; rintro _ _ ⟨w, hw, rfl, rfl⟩ _ _; refine op ?_
              refine rn T 99 [] ?_
              refine rn T 99 [] ?_
              exact rt1 T (pm ⟨f0, f1, w, p, l⟩) (⟨⟨f0, f1, w, p, l⟩, k' + 1 + 1, _, by first | exact dM0 | exact dMl hl, by omega, by omega, rfl, rfl⟩)
            · refine cfq rfl (by simp [c3]) ?_
              refine rn T 99 [] ?_
              exact rt1 T (pm ⟨f0, f1, f2, p, l⟩) (⟨⟨f0, f1, f2, p, l⟩, k' + 1, _, by first | exact dM0 | exact dMl hl, by omega, by omega, rfl, rfl⟩)
    · refine rn T 99 [] ?_
      refine rn T 99 [] ?_
      refine hes (pick G s hs k' 20 (by omega) (by omega) (by omega) h2r) ?_; rintro _ _ ⟨v, hv0, hv1, rfl, rfl⟩ _ _; refine op ?_
      refine rn T 99 [] ?_
      by_cases c0 : v = 0
      · refine ctq rfl (by simp [c0]) ?_
        refine rn T 99 [] ?_
        refine hes (pick G s hs (k' + 1) 10 (by omega) (by omega) (by omega) h2r) ?_; rintro _ _ ⟨x, hx0, hx1, rfl, rfl⟩ _ _; refine op ?_
        refine rn T 99 [] ?_
        refine rn T 99 [] ?_
        exact rt1 T (pm ⟨x, f1, f2, [], l⟩) (⟨⟨x, f1, f2, [], l⟩, k' + 1 + 1, _, by first | exact dM0 | exact dMl hl, by omega, by omega, rfl, rfl⟩)
      · refine cfq rfl (by simp [c0]) ?_
        refine rn T 99 [] ?_
        by_cases c1 : v = 1
        · refine ctq rfl (by simp [c1]) ?_
          refine rn T 2 [] ?_
          refine hes (pick G s hs (k' + 1) 3 (by omega) (by omega) (by omega) h2r) ?_; rintro _ _ ⟨x, hx0, hx1, rfl, rfl⟩ _ _; refine op ?_
          obtain rfl | rfl | rfl : x = 0 ∨ x = 1 ∨ x = 2 := by omega
          · refine rn T 99 [pi (-1)] ?_
            refine rn T 99 [] ?_
            exact rt1 T (pm ⟨f0, (-1), f2, [], l⟩) (⟨⟨f0, (-1), f2, [], l⟩, k' + 1 + 1, _, by first | exact dM0 | exact dMl hl, by omega, by omega, rfl, rfl⟩)
          · refine rn T 99 [pi 1] ?_
            refine rn T 99 [] ?_
            exact rt1 T (pm ⟨f0, 1, f2, [], l⟩) (⟨⟨f0, 1, f2, [], l⟩, k' + 1 + 1, _, by first | exact dM0 | exact dMl hl, by omega, by omega, rfl, rfl⟩)
          · refine rn T 99 [pi 10000] ?_
            refine rn T 99 [] ?_
            exact rt1 T (pm ⟨f0, 10000, f2, [], l⟩) (⟨⟨f0, 10000, f2, [], l⟩, k' + 1 + 1, _, by first | exact dM0 | exact dMl hl, by omega, by omega, rfl, rfl⟩)
        · refine cfq rfl (by simp [c1]) ?_
          refine rn T 99 [] ?_
          by_cases c2 : v = 2
          · refine ctq rfl (by simp [c2]) ?_; try (first | refine dr1 ?_ | refine dr2 ?_ | refine dr3 ?_ | refine dr4 ?_)
            refine rn T 99 [] ?_
            refine hes (pick G s hs (k' + 1) 3 (by omega) (by omega) (by omega) h2r) ?_; rintro _ _ ⟨x, hx0, hx1, rfl, rfl⟩ _ _; refine op ?_
            obtain rfl | rfl | rfl : x = 0 ∨ x = 1 ∨ x = 2 := by omega
            · refine rn T 99 [pi (-1)] ?_
              refine rn T 99 [] ?_
              exact rt1 T (pm ⟨f0, f1, f2, [(-1)], l⟩) (⟨⟨f0, f1, f2, [(-1)], l⟩, k' + 1 + 1, _, by first | exact dM0 | exact dMl hl, by omega, by omega, rfl, rfl⟩)
            · refine rn T 99 [pi 2] ?_
              refine rn T 99 [] ?_
              exact rt1 T (pm ⟨f0, f1, f2, [2], l⟩) (⟨⟨f0, f1, f2, [2], l⟩, k' + 1 + 1, _, by first | exact dM0 | exact dMl hl, by omega, by omega, rfl, rfl⟩)
            · refine rn T 99 [pi 0] ?_
              refine rn T 99 [] ?_
              exact rt1 T (pm ⟨f0, f1, f2, [0], l⟩) (⟨⟨f0, f1, f2, [0], l⟩, k' + 1 + 1, _, by first | exact dM0 | exact dMl hl, by omega, by omega, rfl, rfl⟩)
          · refine cfq rfl (by simp [c2]) ?_
            refine rn T 99 [] ?_
            by_cases c3 : v = 3
            · refine ctq rfl (by simp [c3]) ?_
              refine rn T 99 [] ?_
              refine hes (word71 G s hs h2r (k' + 1) (by omega) (by omega) [⟨#[]⟩, ⟨#[45]⟩, ⟨#[97]⟩] (by simp)) ?_; rintro _ _ ⟨w, hw, rfl, rfl⟩ _ _; refine op ?_
              refine rn T 99 [] ?_
              refine rn T 99 [] ?_
              exact rt1 T (pm ⟨f0, f1, w, [], l⟩) (⟨⟨f0, f1, w, [], l⟩, k' + 1 + 1, _, by first | exact dM0 | exact dMl hl, by omega, by omega, rfl, rfl⟩)
            · refine cfq rfl (by simp [c3]) ?_
              refine rn T 99 [] ?_
              exact rt1 T (pm ⟨f0, f1, f2, [], l⟩) (⟨⟨f0, f1, f2, [], l⟩, k' + 1, _, by first | exact dM0 | exact dMl hl, by omega, by omega, rfl, rfl⟩)
end Go.Proofs.YtlcmokgnmlklnaaDoor.K
end
section
namespace Go.Proofs.YtlcmokgnmlklnaaDoor.K
open Go Go.RowKit Go.Proofs.YtlcmokgnmlklnaaDoor.En Go.Proofs.YtlcmokgnmlklnaaDoor.Ty Go.Proofs.YtlcmokgnmlklnaaDoor.B
set_option maxRecDepth 100000
set_option linter.unusedSimpArgs false
set_option linter.unusedVariables false
set_option pp.deepTerms false
set_option pp.deepTerms.threshold 8
set_option pp.maxSteps 1000
set_option maxHeartbeats 1000000
abbrev tys (l : List Tn) : List (List TV) := l.map fun t => [TV.p (.row 1 (t.f0.map eT))]
theorem frz_tys (ts : List Tn) : (ts.map fun t => pt t.f0).map frz = ts.map eT := by
  rw [List.map_map]
  exact List.map_congr_left (fun t _ => (eT_eq t).symm)
theorem ok_tys (ts : List Tn) : okFs (ts.map fun t => pt t.f0) = true := by
  rw [okFs_all, List.all_eq_true]
  intro y hy
  obtain ⟨t, _, rfl⟩ := List.mem_map.1 hy
  rfl
theorem z_tys (ts : List Tn) : ∀ v ∈ ts.map eT, v.cells.length = 1 := by
  intro v hv
  obtain ⟨t, _, rfl⟩ := List.mem_map.1 hv
  rw [eT_eq]; rfl
theorem tys_eq (ts : List Tn) : tys ts = (ts.map fun t => pt t.f0).map fun y => y.cells.map oc := by
  rw [List.map_map]; rfl
theorem draw71K (G : Nat → Option PV) (l : List Int) (hl : ∀ x ∈ l, 0 ≤ x ∧ x ≤ 255) (hl2 : l.length ≤ 9223372036854775807) :
    FE Tryd.prog G 4 [.p (.row 1 (l.map pu))] [] (fun r H' => ∃ (names : List ByteArray) (types : List Tn) (t : Mn), (names = [⟨#[97]⟩, ⟨#[98]⟩, ⟨#[99]⟩] ∨ names = [⟨#[97]⟩, ⟨#[98]⟩, ⟨#[98]⟩]) ∧ types.length ≤ 3 ∧ t.f4.length ≤ 2 ∧ dM 6 t = true ∧ r = .tp [.p (.row 1 (names.map ps)), .p (.row 1 (types.map eT)), .p (pm t)]) := by
  refine ⟨?_, _, [], ⟨[⟨#[97]⟩, ⟨#[98]⟩, ⟨#[99]⟩], [], ⟨0, 0, ⟨#[]⟩, [], []⟩, .inl rfl, by simp, by simp [Mn.f4], rfl, rfl⟩, .tp (fun x hx => by simp at hx; rcases hx with rfl | rfl | rfl <;> exact .p), hsh_nil⟩
  refine bdy Tryd.func4 (fun _ => 0) rfl ?_
  refine rn T 99 [] ?_
  refine rn T 99 [] ?_
  refine hes (openC G l hl hl2) ?_; rintro _ _ ⟨s, hs, rfl, rfl⟩ _ _; refine op ?_
  refine rn T 99 [] ?_
  refine rn T 99 [] ?_
  refine bs0 T ?_
  refine rn T 99 [] ?_
  refine rn T 99 [] ?_
  refine AW.lp (fun x : List Tn × Int => MS.mk [(8, .p (pi x.1.length)), (7, .vw (.L 13) x.1.length), (6, .vw (.L 12) 3), (5, .ptr (.S 0) 0), (4, .ptr (.L 4) 0)] 52 [(13, .ow 1 32 [] (tys x.1)), (12, .rw 1 9 [ps ⟨#[97]⟩, ps ⟨#[98]⟩, ps ⟨#[99]⟩]), (4, .box 28 [.p (pi 0), .p (pi 0), .p (ps ⟨#[]⟩), .nil, .nil])] [rdr s x.2]) (fun m x => m + x.1.length = 3 ∧ 0 ≤ x.2 ∧ x.2 ≤ 8 * x.1.length) 3 ([], 0) (by simp) (wk_of rfl rfl ⟨.inl rfl, .inl rfl, .inl rfl, .inl rfl, .inl rfl, trivial⟩ ⟨.inl rfl, .inl rfl, .inl rfl, trivial⟩) ?_
  intro m ⟨ts, k⟩ ⟨g1, g2, g3⟩
  dsimp only at g1 g2 g3 ⊢
  refine op ?_
  refine rn T 99 [] ?_
  by_cases hi : ts.length < 3
  · refine ctq rfl (by simp; omega) ?_
    refine rn T 99 [] ?_
    refine hes (type71 G s hs hsh_nil 3 (by omega) k (by omega) (by omega)) ?_; rintro _ _ ⟨t, k', hd, h1, h2, rfl, rfl⟩ _ _; refine op ?_
    refine rn T 99 [] ?_
    refine aps T ([pt t]) ?_
    refine rn T 99 [] ?_
    have hq : tys ts ++ [pt t].map (fun y => y.cells.map TV.p) = tys (ts ++ [⟨t⟩]) := by simp [Tn.f0, PV.cells]
    have hlen : ts.length + [pt t].length = (ts ++ [(⟨t⟩ : Tn)]).length := by simp
    rw [List.length_map, hlen, hq]
    refine rn T 99 [] ?_
    rw [wkS (by omega), show ts.length + 1 = (ts ++ [(⟨t⟩ : Tn)]).length by simp]
    refine nxt (m - 1) ((ts ++ [⟨t⟩], k')) (⟨by simp only [List.length_append, List.length_singleton]; omega, by simp only; omega, by simp only [List.length_append, List.length_singleton]; omega⟩)
  · refine cfq rfl (by simp; omega) ?_
    refine rn T 99 [] ?_
    have h3 : ts.length = 3 := by omega
    refine hes (pick G s hs k 3 (by omega) (by omega) (by omega) hsh_nil) ?_; rintro _ _ ⟨d, hd0, hd1, rfl, rfl⟩ _ _; refine op ?_
    refine rn T 1 [] ?_
    rw [wk (n := 1 + d) (by omega) (by omega)]
    obtain ⟨n, hn⟩ : ∃ n : Nat, 1 + d = (n : Int) := ⟨(1 + d).toNat, by omega⟩
    rw [hn]
    have hp : (2 : Int) ^ n ≤ 8 := by
      have : n = 1 ∨ n = 2 ∨ n = 3 := by omega
      rcases this with rfl | rfl | rfl <;> decide
    refine hes (term71 G s hs hsh_nil n (by omega) (k + 1) (by omega) (by omega)) ?_; rintro _ _ ⟨u, k', hu, h1, h2, rfl, rfl⟩ _ _; refine op ?_
    refine rn T 99 [] ?_
    refine rn T 99 [] ?_
    refine hes (pick G s hs k' 16 (by omega) (by omega) (by omega) hsh_nil) ?_; rintro _ _ ⟨v, hv0, hv1, rfl, rfl⟩ _ _; refine op ?_
    refine rn T 99 [] ?_
    by_cases c0 : v = 0
    · refine ctq rfl (by simp [c0]) ?_
      refine EOps.fz 13 (ts.map fun t => pt t.f0) (ts.map eT) rfl rfl (tys_eq ts) (ok_tys ts) (frz_tys ts) (z_tys ts) ?_
      refine rn T 99 [] ?_; try (first | refine dr1 ?_ | refine dr2 ?_ | refine dr3 ?_ | refine dr4 ?_)
      refine rn T 99 [] ?_
      exact ret3 T (y := .row 1 (([⟨#[97]⟩, ⟨#[98]⟩, ⟨#[98]⟩] : List ByteArray).map ps)) (z := .row 1 ((ts).map eT)) (u := pm u) rfl (by (repeat' apply And.intro) <;> first | trivial | rfl | assumption | (simp; done) | (simp [Mn.f0, Mn.f1, Mn.f2, Mn.f3, Mn.f4]; done) | (simp [List.map_drop]; done) | (simp; omega)) ⟨[⟨#[97]⟩, ⟨#[98]⟩, ⟨#[98]⟩], ts, u, .inr rfl, by omega, dM_len hu, dM_mono hu (by omega), rfl⟩
    · refine cfq rfl (by simp [c0]) ?_
      refine rn T 99 [] ?_
      by_cases c1 : v = 1
      · refine ctq rfl (by simp [c1]) ?_
        refine EOps.fz 13 (ts.map fun t => pt t.f0) (ts.map eT) rfl rfl (tys_eq ts) (ok_tys ts) (frz_tys ts) (z_tys ts) ?_
        refine rn T 99 [] ?_; try (first | refine dr1 ?_ | refine dr2 ?_ | refine dr3 ?_ | refine dr4 ?_)
        refine rn T 99 [] ?_
        have hdr : List.drop (Int.toNat 1) (List.take (ts.map eT).length (ts.map eT)) = (ts.drop 1).map eT := by rw [List.take_of_length_le (Nat.le_refl _), List.map_drop]; rfl
        exact ret3 T (y := .row 1 (([⟨#[97]⟩, ⟨#[98]⟩, ⟨#[99]⟩] : List ByteArray).map ps)) (z := .row 1 ((ts.drop 1).map eT)) (u := pm u) rfl (by (repeat' apply And.intro) <;> first | trivial | rfl | assumption | (simp; done) | (simp [Mn.f0, Mn.f1, Mn.f2, Mn.f3, Mn.f4]; done) | exact congrArg (PV.row 1) hdr | (simp; omega)) ⟨[⟨#[97]⟩, ⟨#[98]⟩, ⟨#[99]⟩], ts.drop 1, u, .inl rfl, by simp; try omega, dM_len hu, dM_mono hu (by omega), rfl⟩
      · refine cfq rfl (by simp [c1]) ?_
        refine rn T 99 [] ?_
        by_cases c2 : v = 2
        · refine ctq rfl (by simp [c2]) ?_
          refine rn T 99 [] ?_
          refine hes (deep71 G s hs (k' + 1) (by omega) (by omega)) ?_; rintro _ _ ⟨x, k2, X, h3a, h3b, rfl, rfl⟩ _ _; refine op ?_
          obtain ⟨a, b, c, rfl⟩ : ∃ a b c, ts = [a, b, c] := by
            match ts, h3 with
            | [a, b, c], _ => exact ⟨a, b, c, rfl⟩
          refine rn T 99 [] ?_
          refine sos T (pt x) ([TV.p (.row 1 (a.f0.map eT))]) rfl rfl (rfl) ?_
          refine EOps.fz 13 (([⟨x⟩, b, c] : List Tn).map fun t => pt t.f0) (([⟨x⟩, b, c] : List Tn).map eT) rfl rfl rfl (ok_tys _) (frz_tys _) (z_tys _) ?_
          refine op ?_; try (first | refine dr1 ?_ | refine dr2 ?_ | refine dr3 ?_ | refine dr4 ?_)
          refine rn T 99 [] ?_
          exact ret3 T (y := .row 1 (([⟨#[97]⟩, ⟨#[98]⟩, ⟨#[99]⟩] : List ByteArray).map ps)) (z := .row 1 (([⟨x⟩, b, c] : List Tn).map eT)) (u := pm u) rfl (by (repeat' apply And.intro) <;> first | trivial | rfl | assumption | (simp; done) | (simp [Mn.f0, Mn.f1, Mn.f2, Mn.f3, Mn.f4]; done) | (simp [List.map_drop]; done) | (simp; omega)) ⟨[⟨#[97]⟩, ⟨#[98]⟩, ⟨#[99]⟩], [⟨x⟩, b, c], u, .inl rfl, by simp, dM_len hu, dM_mono hu (by omega), rfl⟩
        · refine cfq rfl (by simp [c2]) ?_
          refine rn T 99 [] ?_
          refine AW.fz 13 (ts.map fun t => pt t.f0) (ts.map eT) rfl (tys_eq ts) (ok_tys ts) (frz_tys ts) (z_tys ts) ?_
          by_cases c3 : v = 3
          · refine ctq rfl (by simp [c3]) ?_
            refine rn T 99 [] ?_
            refine hes (odd71 G s hs (k' + 1) (by omega) (by omega)) ?_; rintro _ _ ⟨x, k2, X, hx, h3a, h3b, rfl, rfl⟩ _ _; refine op ?_
            refine rn T 99 [] ?_; try (first | refine dr1 ?_ | refine dr2 ?_ | refine dr3 ?_ | refine dr4 ?_)
            refine rn T 99 [] ?_
            exact ret3 T (y := .row 1 (([⟨#[97]⟩, ⟨#[98]⟩, ⟨#[99]⟩] : List ByteArray).map ps)) (z := .row 1 ((ts).map eT)) (u := pm x) rfl (by (repeat' apply And.intro) <;> first | trivial | rfl | assumption | (simp; done) | (simp [Mn.f0, Mn.f1, Mn.f2, Mn.f3, Mn.f4]; done) | (simp [List.map_drop]; done) | (simp; omega)) ⟨[⟨#[97]⟩, ⟨#[98]⟩, ⟨#[99]⟩], ts, x, .inl rfl, by omega, dM_len hx, hx, rfl⟩
          · refine cfq rfl (by simp [c3]) ?_; try (first | refine dr1 ?_ | refine dr2 ?_ | refine dr3 ?_ | refine dr4 ?_)
            refine rn T 99 [] ?_
            exact ret3 T (y := .row 1 (([⟨#[97]⟩, ⟨#[98]⟩, ⟨#[99]⟩] : List ByteArray).map ps)) (z := .row 1 ((ts).map eT)) (u := pm u) rfl (by (repeat' apply And.intro) <;> first | trivial | rfl | assumption | (simp; done) | (simp [Mn.f0, Mn.f1, Mn.f2, Mn.f3, Mn.f4]; done) | (simp [List.map_drop]; done) | (simp; omega)) ⟨[⟨#[97]⟩, ⟨#[98]⟩, ⟨#[99]⟩], ts, u, .inl rfl, by omega, dM_len hu, dM_mono hu (by omega), rfl⟩
end Go.Proofs.YtlcmokgnmlklnaaDoor.K
end
section
namespace Go.Proofs.YtlcmokgnmlklnaaDoor.K
open Go Go.RowKit Go.Proofs.YtlcmokgnmlklnaaDoor.En Go.Proofs.YtlcmokgnmlklnaaDoor.Ty Go.Proofs.YtlcmokgnmlklnaaDoor.B
set_option maxRecDepth 100000
set_option linter.unusedSimpArgs false
set_option linter.unusedVariables false
set_option pp.deepTerms false
set_option pp.deepTerms.threshold 8
set_option pp.maxSteps 1000
set_option maxHeartbeats 1000000
theorem tk_succ {nm : ByteArray → Bool} : ∀ (n : Nat) (t : Mn), tk nm n t = true → tk nm (n + 1) t = true
  | 0, t, h => by cases h
  | n + 1, t, h => by
    unfold tk at h ⊢
    rw [Bool.and_eq_true, List.all_eq_true] at h ⊢
    exact ⟨h.1, fun x hx => tk_succ n x (h.2 x hx)⟩
theorem kds_congr {f g : Mn → Option Ty} : ∀ (l : List Mn) (ts : List Tn), (∀ x ∈ l, ∀ u, f x = some u → g x = some u) → kds f l = some ts → kds g l = some ts
  | [], ts, _, h => h
  | x :: r, ts, hf, h => by
    rw [kds_cons] at h ⊢
    cases hx : f x with
    | none => rw [hx] at h; cases h
    | some u =>
      rw [hx, Option.bind_some] at h
      obtain ⟨us, h1, h2⟩ := Option.map_eq_some_iff.1 h
      rw [hf x (by simp) u hx, Option.bind_some, kds_congr r us (fun y hy => hf y (by simp [hy])) h1, Option.map_some, h2]
theorem kd_succ (env : ByteArray → Ty) : ∀ (n : Nat) (t : Mn) (u : Ty), kd env n t = some u → kd env (n + 1) t = some u := by
  intro n
  induction n with
  | zero => intro t u h; cases h
  | succ n ih =>
    intro t u h
    unfold kd at h ⊢
    split
    · rename_i h1; rw [if_pos h1] at h; exact h
    · rename_i h1
      rw [if_neg h1] at h
      split
      · rename_i h2; rw [if_pos h2] at h; exact h
      · rename_i h2
        rw [if_neg h2] at h
        cases hk : kds (kd env n) t.f4 with
        | none => rw [hk] at h; cases h
        | some ts =>
          rw [hk] at h
          rw [kds_congr _ _ (fun x _ u hu => ih x u hu) hk]
          exact h
theorem kds_some {f : Mn → Option Ty} : ∀ {l : List Mn} {ts : List Tn}, kds f l = some ts → ∀ x ∈ l, ∃ u, f x = some u
  | [], ts, _, x, hx => by cases hx
  | y :: r, ts, h, x, hx => by
    rw [kds_cons] at h
    cases hy : f y with
    | none => rw [hy] at h; cases h
    | some u =>
      rw [hy, Option.bind_some] at h
      obtain ⟨us, h1, h2⟩ := Option.map_eq_some_iff.1 h
      rcases List.mem_cons.1 hx with rfl | hx
      · exact ⟨u, hy⟩
      · exact kds_some h1 x hx
theorem KT_kid {ns : List ByteArray} {ts : List Tn} {t : Mn} {u : Ty} (h : KT ns ts t = some u) {x : Mn} (hx : x ∈ t.f4) : (KT ns ts x).isSome = true := by
  unfold KT at h ⊢
  split at h
  · rename_i hc
    obtain ⟨c1, c2, c3, c4⟩ := hc
    rw [if_pos ⟨c1, c2, c3, tk_succ 7 x (tk_kids c4 hx)⟩]
    unfold kd at h
    have h4 := tkH_inv (k := t.f0) (m := t.f1) (s := t.f2) (p := t.f3) (l := t.f4) (by cases t; exact tk_here c4)
    have k1 : t.f0 ≠ 1 := by
      intro e
      rcases h4 with ⟨_, q⟩ | ⟨q, _⟩ | ⟨q, _⟩ | ⟨q, _⟩ | ⟨q, _⟩ | ⟨q, _⟩
      · rw [q] at hx; cases hx
      all_goals omega
    have k2 : t.f0 ≠ 2 := by
      intro e
      rcases h4 with ⟨q, _⟩ | ⟨_, _, q⟩ | ⟨q, _⟩ | ⟨q, _⟩ | ⟨q, _⟩ | ⟨q, _⟩
      · omega
      · rw [q] at hx; cases hx
      all_goals omega
    rw [if_neg k1, if_neg k2] at h
    cases hk : kds (kd (envM (zipE ns ts)) 7) t.f4 with
    | none => rw [hk] at h; cases h
    | some us =>
      obtain ⟨v, hv⟩ := kds_some hk x hx
      rw [kd_succ _ 7 x v hv]
      rfl
  · cases h
theorem KT_dp {ns : List ByteArray} {ts : List Tn} {t : Mn} {u : Ty} (h : KT ns ts t = some u) : dp 4 u = true := by
  unfold KT at h
  split at h
  · rename_i hc; exact kd_dp _ (look_dp ns ts hc.2.2.1) _ _ _ h
  · cases h
theorem kt1 (G : Nat → Option PV) (ns : List ByteArray) (ts : List Tn) (t : Mn) (hb : ns.length ≤ 1000) : PF Tryd.prog G 5 [.row 1 (ns.map ps), .row 1 (ts.map eT), pm t] (.tp [.p (pt ((KT ns ts t).getD [])), .p (pb (KT ns ts t).isSome)]) := ⟨.tp (fun x hx => by simp at hx; rcases hx with rfl | rfl <;> exact .p), kindTerm1 G ns ts t hb⟩
theorem kt2 (a : Addr) (ns : List ByteArray) (ts : List Tn) (t : Mn) (hb : ts.length ≤ 1000) : PF Tryd.prog (GE a) 6 [.row 1 (ns.map ps), .row 1 (ts.map eT), pm t] (.tp [.p (pt ((KT ns ts t).getD [])), .p (pb (KT ns ts t).isSome)]) := ⟨.tp (fun x hx => by simp at hx; rcases hx with rfl | rfl <;> exact .p), kindTerm2 a ns ts t hb⟩
end Go.Proofs.YtlcmokgnmlklnaaDoor.K
end
section
namespace Go.Proofs.YtlcmokgnmlklnaaDoor.En
set_option linter.unusedVariables false
set_option linter.unusedSimpArgs false
open Go Go.RowKit Go.Proofs.YtlcmokgnmlklnaaDoor.PA
variable {P : Program} {E : Ent} {σ : St} {a : Act} {w : World} {S : Nat → Nat → Prop} {g : Nm → GV}
abbrev ocs (vs : List PV) : List (List TV) := vs.map fun y => y.cells.map oc
theorem ocs_flat (vs : List PV) : (ocs vs).flatten = (flat vs).map oc := flat_oc vs
theorem LRep.plain {v : PV} {V : Value} {B : Nat → Prop} (h : LRep w S v V B) : plainB v = true → PRep w S v V ∧ ∀ b, ¬ B b := by
  induction h with
  | p h hB => exact fun _ => ⟨h, hB⟩
  | any h hB => intro hp; unfold plainB at hp; cases hp
  | ag F hs h h1 hd hB ih => intro hp; unfold plainB at hp; cases hp
  | own fl F ho hz h h1 hd hb hB ih => intro hp; unfold plainB at hp; cases hp
theorem oc_all {q : Nm → Prop} (y : PV) : (oc y).All q := by
  unfold oc
  split
  · exact .p
  · exact .o
theorem cell_l {Γ : Env} {y : PV} {u : Value} {F : Nat → Prop} (h : CellRep Γ (oc y) u F) : LRep Γ.w Γ.S y u F := by
  unfold oc at h
  split at h
  · cases h with | t h hF => cases h with | p h => exact .p h hF
  · cases h with
    | t h _ => cases h
    | o h => exact h
theorem Rep.absorb (h : Rep E σ a w S g) {n m : Nm} {z z' : Nat} {t t' : TypeId} {ks ks2 ks' : List Nm} {xs xs' : List (List TV)} {vs : List PV} {q : Nat} (hnm : n ≠ m) (hn : σ.ob n = some (.ow z t ks xs)) (hm : σ.ob m = some (.ow z' t' ks2 (ocs vs)))
    (hq : xs.flatten[q]? = some (.vw m vs.length)) (hx : xs'.flatten = xs.flatten.set q (.o (.own z' t' vs))) (hz : ∀ x ∈ xs', x.length = z) (hl : xs'.length = xs.length) (hk : ∀ c ∈ xs', ∀ x ∈ c, x.All (· ∈ ks')) (hks : ∀ k ∈ ks', k ∈ ks) :
    ∃ S' g', Rep E ((σ.set n (.ow z t ks' xs')).set m .gone) a w S' g' := by
  obtain ⟨p1, p2, fl, F, o1, o2, o3, o4, o5, o6, o7, o8⟩ := h.ob n _ hn
  obtain ⟨_, _, fl2, F2, r1, r2, r3, r4, r5, r6, r7, r8⟩ := h.ob m _ hm
  have o1' : w.ownsRow 0 t z (g n).v xs.length fl := o1
  have r1' : w.ownsRow 0 t' z' (g m).v (ocs vs).length fl2 := r1
  have o7' : ∀ b, (g n).B b ↔ blk (g n).v = some b ∨ ∃ k, k < fl.length ∧ F k b := o7
  have r7' : ∀ b, (g m).B b ↔ blk (g m).v = some b ∨ ∃ k, k < fl2.length ∧ F2 k b := r7
  have o8' : ∀ b, (g n).B b → ∀ k, ¬ S b k := o8
  have r8' : ∀ b, (g m).B b → ∀ k, ¬ S b k := r8
  have o6' : ∀ k b, k < fl.length → F k b → blk (g n).v ≠ some b := o6
  have r6' : ∀ k b, k < fl2.length → F2 k b → blk (g m).v ≠ some b := r6
  have hns : (σ.ob n).isSome := by rw [hn]; rfl
  have hms : (σ.ob m).isSome := by rw [hm]; rfl
  have hsm : ((σ.set n (.ow z t ks' xs')).ob m) = some (.ow z' t' ks2 (ocs vs)) := by rw [set_other _ (fun e => hnm e.symm)]; exact hm
  let g' : Nm → GV := updG (updG g n ⟨(g n).v, fun b => (g n).B b ∨ (g m).B b⟩) m ⟨(g m).v, fun _ => False⟩
  have hgm : g' m = ⟨(g m).v, fun _ => False⟩ := updG_same _ _ _
  have hgn : g' n = ⟨(g n).v, fun b => (g n).B b ∨ (g m).B b⟩ := by
    show updG (updG g n _) m _ n = _
    unfold updG
    rw [if_neg hnm, if_pos rfl]
  have hgo : ∀ p, p ≠ n → p ≠ m → g' p = g p := fun p h1 h2 => by
    show updG (updG g n _) m _ p = _
    unfold updG
    rw [if_neg h2, if_neg h1]
  have hob' : ∀ p, p ≠ n → p ≠ m → ((σ.set n (.ow z t ks' xs')).set m .gone).ob p = σ.ob p := fun p h1 h2 => by rw [set_other _ h2, set_other _ h1]
  have hobn : ((σ.set n (.ow z t ks' xs')).set m .gone).ob n = some (.ow z t ks' xs') := by rw [set_other _ hnm, set_same _ hn]
  have hobm : ((σ.set n (.ow z t ks' xs')).set m .gone).ob m = some .gone := set_same _ hsm
  have hHl : ((σ.set n (.ow z t ks' xs')).set m .gone).H.length = σ.H.length := by rw [set_H, set_H]
  have hgv : ∀ p, (g' p).v = (g p).v := fun p => by
    by_cases e1 : p = m
    · rw [e1, hgm]
    · by_cases e2 : p = n
      · rw [e2, hgn]
      · rw [hgo p e2 e1]
  have hN : ∀ p, NmOk (σ.env w S g) (((σ.set n (.ow z t ks' xs')).set m .gone).env w S g') p := by
    intro p
    refine .inl ⟨hgv p, ?_⟩
    show (((σ.set n (.ow z t ks' xs')).set m .gone).ob p).bind AObj.ln = none ∨ (((σ.set n (.ow z t ks' xs')).set m .gone).ob p).bind AObj.ln = (σ.ob p).bind AObj.ln
    by_cases e1 : p = m
    · left; rw [e1, hobm]; rfl
    · by_cases e2 : p = n
      · right; rw [e2, hobn, hn]; simp [AObj.ln, hl]
      · right; rw [hob' p e2 e1]
  have hmove : ∀ (v : TV) V, TRep (σ.env w S g) v V → TRep (((σ.set n (.ow z t ks' xs')).set m .gone).env w S g') v V := fun v V hv =>
    TRep.move (Γ := σ.env w S g) (Γ' := ((σ.set n (.ow z t ks' xs')).set m .gone).env w S g') (q := fun _ => True) (fun b k hk => ⟨hk, rfl⟩) (Nat.le_of_eq hHl.symm) (fun m _ _ => hN m) hv (hAllT v)
  have hgB : ∀ p b, (g' p).B b → (p ≠ m) ∧ ((g p).B b ∨ (p = n ∧ (g m).B b)) := fun p b hb => by
    by_cases e1 : p = m
    · subst e1; rw [hgm] at hb; exact hb.elim
    · refine ⟨e1, ?_⟩
      by_cases e2 : p = n
      · subst e2; rw [hgn] at hb; exact hb.imp id (fun q => ⟨rfl, q⟩)
      · rw [hgo p e2 e1] at hb; exact .inl hb
  have hso : ∀ p, (((σ.set n (.ow z t ks' xs')).set m .gone).ob p).isSome → (σ.ob p).isSome := fun p hp => by
    by_cases e1 : p = m
    · rw [e1]; exact hms
    · by_cases e2 : p = n
      · rw [e2]; exact hns
      · rwa [hob' p e2 e1] at hp
  have hlen : xs.flatten.length = fl.length := by rw [flatten_len o2, o1'.1]
  have hql : q < fl.length := by rw [← hlen]; exact (List.getElem?_eq_some_iff.1 hq).1
  have hdj : ∀ b, (g n).B b → ¬ (g m).B b := h.dj n m hnm hns hms
  refine ⟨S, g', h.re (by rw [set_nt, set_nt]) (by rw [set_G, set_G]) (Nat.le_of_eq hHl.symm) (fun t V hv => by rw [set_tm, set_tm]; exact hmove _ _ hv) (fun b k hk => hk) (fun b k hk => .inl hk) ?_ ?_ ?_ ?_ (fun i _ => hN (.S i))⟩
  · intro p o ho
    by_cases e1 : p = m
    · subst e1
      rw [hobm] at ho
      cases ho
      intro b hb
      have hb : (g' p).B b := hb
      rw [hgm] at hb
      exact hb
    · by_cases e2 : p = n
      · subst e2
        rw [hobn] at ho
        cases ho
        have hg2 : ((((σ.set p (.ow z t ks' xs')).set m .gone).env w S g').g p) = ⟨(g p).v, fun b => (g p).B b ∨ (g m).B b⟩ := hgn
        refine ⟨fun k hk => Nm.lt_mono (p1 k (hks k hk)) (Nat.le_of_eq hHl.symm), hk, fl, fun k => if k = q then (g m).B else F k, ?_, hz, ?_, o4, ?_, ?_, ?_, ?_⟩
        · rw [hg2, hl]; exact o1'
        · intro k y u hy hu
          rw [hx] at hy
          by_cases ek : k = q
          · subst ek
            have hkx : k < xs.flatten.length := by rw [hlen]; exact (List.getElem?_eq_some_iff.1 hu).1
            rw [List.getElem?_set_self hkx] at hy
            cases hy
            show CellRep _ _ u (if k = k then (g m).B else F k)
            rw [if_pos rfl]
            refine .o ?_
            have h0 := o3 k _ u hq hu
            cases h0 with | t h0 _ =>
            cases h0 with | vw _ _ h0 =>
            have hln : (σ.env w S g).ln m = some vs.length := by
              show (σ.ob m).bind AObj.ln = _
              rw [hm]; simp [AObj.ln]
            have hV := (h0 _ hln).2 rfl
            rw [hV]
            have hl3 : (ocs vs).length = vs.length := by simp
            refine LRep.own fl2 F2 (by rw [← hl3]; exact r1') (fun y hy => ?_) (fun k y u hy hu => ?_) r4 r5 r6' r7'
            · have := r2 _ (List.mem_map.2 ⟨y, hy, rfl⟩)
              simpa using this
            · have hy2 : (ocs vs).flatten[k]? = some (oc y) := by rw [ocs_flat, List.getElem?_map, hy]; rfl
              exact cell_l (Γ := σ.env w S g) (r3 k _ u hy2 hu)
          · rw [List.getElem?_set_ne (fun e => ek e.symm)] at hy
            have h0 := o3 k y u hy hu
            show CellRep _ _ u (if k = q then (g m).B else F k)
            rw [if_neg ek]
            exact h0.move (Γ := σ.env w S g) (Γ' := ((σ.set p (.ow z t ks' xs')).set m .gone).env w S g') (q := fun _ => True) (fun b k hk => ⟨hk, rfl⟩) (Nat.le_of_eq hHl.symm) (fun m _ _ => hN m) (hAllT _) (fun b _ => rfl)
        · intro i j b hi hj hij h1 h2
          have h1 : (if i = q then (g m).B else F i) b := h1
          have h2 : (if j = q then (g m).B else F j) b := h2
          by_cases ei : i = q
          · rw [if_pos ei] at h1
            rw [if_neg (fun e => hij (ei.trans e.symm))] at h2
            exact hdj b ((o7' b).2 (.inr ⟨j, hj, h2⟩)) h1
          · rw [if_neg ei] at h1
            by_cases ej : j = q
            · rw [if_pos ej] at h2
              exact hdj b ((o7' b).2 (.inr ⟨i, hi, h1⟩)) h2
            · rw [if_neg ej] at h2
              exact o5 i j b hi hj hij h1 h2
        · intro i b hi h1
          have h1 : (if i = q then (g m).B else F i) b := h1
          rw [hg2]
          intro e
          by_cases ei : i = q
          · rw [if_pos ei] at h1
            exact hdj b ((o7' b).2 (.inl e)) h1
          · rw [if_neg ei] at h1
            exact o6' i b hi h1 e
        · intro b
          rw [hg2]
          constructor
          · rintro (hb | hb)
            · rcases (o7' b).1 hb with e | ⟨k, hk, hF⟩
              · exact .inl e
              · by_cases ek : k = q
                · subst ek
                  exfalso
                  have hkx : k < xs.flatten.length := by rw [hlen]; exact hk
                  have h0 := o3 k _ fl[k] hq (List.getElem?_eq_getElem hk)
                  cases h0 with | t h0 hF0 => exact hF0 b hF
                · exact .inr ⟨k, hk, by show (if k = q then (g m).B else F k) b; rw [if_neg ek]; exact hF⟩
            · exact .inr ⟨q, hql, by show (if q = q then (g m).B else F q) b; rw [if_pos rfl]; exact hb⟩
          · rintro (e | ⟨k, hk, hF⟩)
            · exact .inl ((o7' b).2 (.inl e))
            · have hF : (if k = q then (g m).B else F k) b := hF
              by_cases ek : k = q
              · rw [if_pos ek] at hF; exact .inr hF
              · rw [if_neg ek] at hF; exact .inl ((o7' b).2 (.inr ⟨k, hk, hF⟩))
        · rw [hg2]
          intro b hb k hk
          rcases hb with hb | hb
          · exact o8' b hb k hk
          · exact r8' b hb k hk
      · rw [hob' p e2 e1] at ho
        exact ORep.move (Γ := σ.env w S g) (Γ' := ((σ.set n (.ow z t ks' xs')).set m .gone).env w S g') (q := fun _ => True) (fun b k hk => ⟨hk, rfl⟩) (Nat.le_of_eq hHl.symm) (fun m _ _ => hN m) (h.ob p o ho) (hAllO o) (hgo p e2 e1) (fun b hb => ⟨rfl, fun k hk => hk⟩)
  · intro p1' p2' hne h1 h2 b b1 b2
    obtain ⟨c1, d1⟩ := hgB p1' b b1
    obtain ⟨c2, d2⟩ := hgB p2' b b2
    rcases d1 with d1 | ⟨rfl, d1⟩
    · rcases d2 with d2 | ⟨rfl, d2⟩
      · exact h.dj p1' p2' hne (hso _ h1) (hso _ h2) b d1 d2
      · exact h.dj p1' m c1 (hso _ h1) hms b d1 d2
    · rcases d2 with d2 | ⟨e, _⟩
      · exact h.dj p2' m c2 (hso _ h2) hms b d2 d1
      · exact hne e.symm
  · intro p hp b hb
    obtain ⟨c1, d1⟩ := hgB p b hb
    rcases d1 with d1 | ⟨rfl, d1⟩
    · exact ⟨p, hso p hp, d1⟩
    · exact ⟨m, hms, d1⟩
  · intro i o ho
    by_cases e1 : Nm.S i = m
    · subst e1
      rw [show ((σ.set n (.ow z t ks' xs')).set (.S i) .gone).H[i]? = some .gone from hobm] at ho
      cases ho
      trivial
    · by_cases e2 : Nm.S i = n
      · subst e2
        rw [show ((σ.set (.S i) (.ow z t ks' xs')).set m .gone).H[i]? = some (.ow z t ks' xs') from hobn] at ho
        cases ho
        exact fun k hk => h.hs i _ hn k (hks k hk)
      · rw [show ((σ.set n (.ow z t ks' xs')).set m .gone).H[i]? = σ.H[i]? from hob' _ e2 e1] at ho
        exact h.hs i o ho
theorem l_cell {Γ : Env} {y : PV} {u : Value} {F : Nat → Prop} (h : LRep Γ.w Γ.S y u F) : CellRep Γ (oc y) u F := by
  unfold oc
  split
  · rename_i hp
    obtain ⟨h1, h2⟩ := h.plain hp
    exact .t (.p h1) h2
  · exact .o h
theorem Rep.split (h : Rep E σ a w S g) {n m : Nm} {z z' : Nat} {t t' : TypeId} {ks ks' : List Nm} {xs xs' : List (List TV)} {vs : List PV} {q : Nat} (hn : σ.ob n = some (.ow z t ks xs)) (hm : Fresh σ m)
    (hq : xs.flatten[q]? = some (.o (.own z' t' vs))) (hx : xs'.flatten = xs.flatten.set q (.vw m vs.length)) (hz : ∀ x ∈ xs', x.length = z) (hl : xs'.length = xs.length) (hk : ∀ c ∈ xs', ∀ x ∈ c, x.All (· ∈ ks')) (hks : ∀ k ∈ ks', k ∈ ks ∨ k = m) (hSm : ∀ i, n = .S i → ∃ j, m = .S j) :
    ∃ S' g', Rep E ((σ.set n (.ow z t ks' xs')).add m (.ow z' t' [] (ocs vs))) a w S' g' := by
  have hns : (σ.ob n).isSome := by rw [hn]; rfl
  have hmn : σ.ob m = none := hm.gone
  have hne : n ≠ m := fun e => by rw [e, hmn] at hn; cases hn
  obtain ⟨p1, p2, fl, F, o1, o2, o3, o4, o5, o6, o7, o8⟩ := h.ob n _ hn
  have o1' : w.ownsRow 0 t z (g n).v xs.length fl := o1
  have o7' : ∀ b, (g n).B b ↔ blk (g n).v = some b ∨ ∃ k, k < fl.length ∧ F k b := o7
  have o8' : ∀ b, (g n).B b → ∀ k, ¬ S b k := o8
  have o6' : ∀ k b, k < fl.length → F k b → blk (g n).v ≠ some b := o6
  have hlen : xs.flatten.length = fl.length := by rw [flatten_len o2, o1'.1]
  have hql : q < fl.length := by rw [← hlen]; exact (List.getElem?_eq_some_iff.1 hq).1
  have hcell := o3 q _ fl[q] hq (List.getElem?_eq_getElem hql)
  obtain ⟨V, hV⟩ : ∃ V, V = fl[q] := ⟨_, rfl⟩
  rw [← hV] at hcell
  have hLR : LRep w S (.own z' t' vs) V (F q) := by
    cases hcell with
    | t h _ => cases h
    | o h => exact h
  obtain ⟨fl2, F2, r1, r2, r3, r4, r5, r6, r7⟩ : ∃ (fl2 : List Value) (F2 : Nat → Nat → Prop), w.ownsRow 0 t' z' V vs.length fl2 ∧ (∀ x ∈ vs, x.cells.length = z') ∧ (∀ (k : Nat) y u, (flat vs)[k]? = some y → fl2[k]? = some u → LRep w S y u (F2 k)) ∧ (∀ u ∈ fl2, u.oneCell' = true) ∧
      (∀ i j b, i < fl2.length → j < fl2.length → i ≠ j → F2 i b → ¬ F2 j b) ∧ (∀ i b, i < fl2.length → F2 i b → blk V ≠ some b) ∧ (∀ b, F q b ↔ blk V = some b ∨ ∃ k, k < fl2.length ∧ F2 k b) := by
    cases hLR with
    | p h hB => cases h
    | own fl2 F2 a1 a2 a3 a4 a5 a6 a7 => exact ⟨fl2, F2, a1, a2, a3, a4, a5, a6, a7⟩
  have hFn : ∀ b, F q b → (g n).B b := fun b hb => (o7' b).2 (.inr ⟨q, hql, hb⟩)
  have hfs : Fresh (σ.set n (.ow z t ks' xs')) m ∨ True := .inr trivial
  let τ := (σ.set n (.ow z t ks' xs')).add m (.ow z' t' [] (ocs vs))
  have hobm : τ.ob m = some (.ow z' t' [] (ocs vs)) := by
    cases m with
    | L d => show updT _ d _ d = _; rw [updT_eq]; exact if_pos rfl
    | S i =>
      obtain rfl : i = σ.H.length := hm
      show ((σ.set n (.ow z t ks' xs')).H ++ [AObj.ow z' t' [] (ocs vs)])[σ.H.length]? = _
      rw [List.getElem?_append_right (by rw [set_H]; omega), set_H]; simp
  have hobo : ∀ p, p ≠ m → τ.ob p = (σ.set n (.ow z t ks' xs')).ob p := by
    intro p hp
    cases m with
    | L d =>
      cases p with
      | L e => show updT _ d _ e = _; rw [updT_eq]; exact if_neg (fun q => hp (by rw [q]))
      | S i => rfl
    | S i =>
      obtain rfl : i = σ.H.length := hm
      cases p with
      | L e => rfl
      | S j =>
        have hj : j ≠ σ.H.length := fun q => hp (by rw [q])
        show ((σ.set n (.ow z t ks' xs')).H ++ [AObj.ow z' t' [] (ocs vs)])[j]? = (σ.set n (.ow z t ks' xs')).H[j]?
        by_cases hlt : j < (σ.set n (.ow z t ks' xs')).H.length
        · rw [List.getElem?_append_left hlt]
        · rw [set_H] at hlt
          rw [List.getElem?_eq_none (by simp [set_H]; omega), List.getElem?_eq_none (by rw [set_H]; omega)]
  have hobn : τ.ob n = some (.ow z t ks' xs') := by rw [hobo n hne, set_same _ hn]
  have hobp : ∀ p, p ≠ m → p ≠ n → τ.ob p = σ.ob p := fun p h1 h2 => by rw [hobo p h1, set_other _ h2]
  have hHl : σ.H.length ≤ τ.H.length := by have := add_H (σ := σ.set n (.ow z t ks' xs')) (m := m) (.ow z' t' [] (ocs vs)); rw [set_H] at this; exact this
  have hmlt : m.lt τ.H.length := by
    cases m with
    | L d => trivial
    | S i => exact (List.getElem?_eq_some_iff.1 (show τ.H[i]? = some _ from hobm)).1
  let g' : Nm → GV := updG (updG g n ⟨(g n).v, fun b => (g n).B b ∧ ¬ F q b⟩) m ⟨V, F q⟩
  have hgm : g' m = ⟨V, F q⟩ := updG_same _ _ _
  have hgn : g' n = ⟨(g n).v, fun b => (g n).B b ∧ ¬ F q b⟩ := by
    show updG (updG g n _) m _ n = _
    unfold updG
    rw [if_neg hne, if_pos rfl]
  have hgo : ∀ p, p ≠ m → p ≠ n → g' p = g p := fun p h1 h2 => by
    show updG (updG g n _) m _ p = _
    unfold updG
    rw [if_neg h1, if_neg h2]
  have hN : ∀ p, p ≠ m → NmOk (σ.env w S g) (τ.env w S g') p := by
    intro p hp
    by_cases e : p = n
    · subst e
      refine .inl ⟨by show (g' p).v = _; rw [hgn]; rfl, .inr ?_⟩
      show (τ.ob p).bind AObj.ln = (σ.ob p).bind AObj.ln
      rw [hobn, hn]; simp [AObj.ln, hl]
    · refine .inl ⟨by show (g' p).v = _; rw [hgo p hp e]; rfl, .inr ?_⟩
      show (τ.ob p).bind AObj.ln = (σ.ob p).bind AObj.ln
      rw [hobp p hp e]
  have hNq : ∀ p, p.lt σ.H.length → p ≠ m → NmOk (σ.env w S g) (τ.env w S g') p := fun p _ hp => hN p hp
  have hNl : ∀ p, p.lt σ.H.length → (∃ i, m = .S i) → NmOk (σ.env w S g) (τ.env w S g') p := fun p hp ⟨i, e⟩ => hN p (fun e2 => by
    subst e2; subst e
    obtain rfl : i = σ.H.length := hm
    exact Nat.lt_irrefl _ hp)
  have hmv : ∀ (v : TV) V', v.All (· ≠ m) ∨ (∃ i, m = .S i) → TRep (σ.env w S g) v V' → TRep (τ.env w S g') v V' := fun v V' hv ht => by
    rcases hv with hv | hv
    · exact TRep.move (Γ := σ.env w S g) (Γ' := τ.env w S g') (q := (· ≠ m)) (fun b k hk => ⟨hk, rfl⟩) hHl (fun p h1 h2 => hNq p h1 h2) ht hv
    · exact TRep.move (Γ := σ.env w S g) (Γ' := τ.env w S g') (q := fun _ => True) (fun b k hk => ⟨hk, rfl⟩) hHl (fun p h1 _ => hNl p h1 hv) ht (hAllT v)
  have hclean : ∀ t, (σ.tm t).All (· ≠ m) ∨ ∃ i, m = .S i := fun t => by
    cases m with
    | L d => exact .inl (hm.2.1 t)
    | S i => exact .inr ⟨i, rfl⟩
  have hcleano : ∀ p (o : AObj), σ.ob p = some o → o.All (· ≠ m) ∨ ∃ i, m = .S i := fun p o ho => by
    cases m with
    | L d =>
      cases p with
      | L e => exact .inl (hm.2.2 e o ho)
      | S i => exact .inl ((h.hs i o ho).mono (fun x hx e => by subst e; exact hx))
    | S i => exact .inr ⟨i, rfl⟩
  have hmvo : ∀ p (o : AObj), σ.ob p = some o → g' p = g p → ORep (τ.env w S g') p o := fun p o ho hgp => by
    rcases hcleano p o ho with hv | hv
    · exact ORep.move (Γ := σ.env w S g) (Γ' := τ.env w S g') (q := (· ≠ m)) (fun b k hk => ⟨hk, rfl⟩) hHl (fun p h1 h2 => hNq p h1 h2) (h.ob p o ho) hv hgp (fun b hb => ⟨rfl, fun k hk => hk⟩)
    · exact ORep.move (Γ := σ.env w S g) (Γ' := τ.env w S g') (q := fun _ => True) (fun b k hk => ⟨hk, rfl⟩) hHl (fun p h1 _ => hNl p h1 hv) (h.ob p o ho) (hAllO o) hgp (fun b hb => ⟨rfl, fun k hk => hk⟩)
  have hgB : ∀ p b, (g' p).B b → (p = m ∧ F q b) ∨ (p ≠ m ∧ (g p).B b ∧ (p = n → ¬ F q b)) := fun p b hb => by
    by_cases e1 : p = m
    · subst e1; rw [hgm] at hb; exact .inl ⟨rfl, hb⟩
    · by_cases e2 : p = n
      · subst e2; rw [hgn] at hb; exact .inr ⟨e1, hb.1, fun _ => hb.2⟩
      · rw [hgo p e1 e2] at hb; exact .inr ⟨e1, hb, fun e => absurd e e2⟩
  have hso : ∀ p, p ≠ m → (τ.ob p).isSome → (σ.ob p).isSome := fun p hp hs => by
    by_cases e2 : p = n
    · rw [e2]; exact hns
    · rwa [hobp p hp e2] at hs
  refine ⟨S, g', h.re (σ' := τ) (by rw [show τ.nt = _ from add_nt _ _, set_nt]) (by rw [show τ.G = _ from add_G _ _, set_G]) hHl (fun t V' hv => ?_) (fun b k hk => hk) (fun b k hk => .inl hk) ?_ ?_ ?_ ?_ (fun i hi => hN (.S i) (fun e => ?_))⟩
  · have e : τ.tm t = σ.tm t := by
      cases m <;> (cases n <;> rfl)
    rw [e]; exact hmv _ _ (hclean t) hv
  · intro p o ho
    by_cases e1 : p = m
    · subst e1
      rw [hobm] at ho
      cases ho
      have hg2 : (τ.env w S g').g p = ⟨V, F q⟩ := hgm
      refine ⟨(fun k hk => by cases hk), fun c hc x hx => ?_, fl2, F2, ?_, fun c hc => ?_, fun k y u hy hu => ?_, r4, r5, ?_, ?_, ?_⟩
      · obtain ⟨y, _, rfl⟩ := List.mem_map.1 hc
        obtain ⟨u, _, rfl⟩ := List.mem_map.1 hx
        exact oc_all u
      · rw [hg2]
        show w.ownsRow 0 t' z' V (ocs vs).length fl2
        rw [show (ocs vs).length = vs.length by simp]
        exact r1
      · obtain ⟨y, hy, rfl⟩ := List.mem_map.1 hc
        simpa using r2 y hy
      · rw [ocs_flat, List.getElem?_map] at hy
        cases hz2 : (flat vs)[k]? with
        | none => rw [hz2] at hy; cases hy
        | some y' =>
          rw [hz2] at hy
          cases hy
          exact l_cell (Γ := τ.env w S g') (r3 k y' u hz2 hu)
      · rw [hg2]; exact r6
      · rw [hg2]; exact r7
      · rw [hg2]; exact fun b hb k hk => o8' b (hFn b hb) k hk
    · by_cases e2 : p = n
      · subst e2
        rw [hobn] at ho
        cases ho
        have hg2 : (τ.env w S g').g p = ⟨(g p).v, fun b => (g p).B b ∧ ¬ F q b⟩ := hgn
        refine ⟨fun k hk => ?_, hk, fl, fun k b => k ≠ q ∧ F k b, ?_, hz, ?_, o4, ?_, ?_, ?_, ?_⟩
        · rcases hks k hk with h1 | rfl
          · exact Nm.lt_mono (p1 k h1) hHl
          · exact hmlt
        · rw [hg2, hl]; exact o1'
        · intro k y u hy hu
          rw [hx] at hy
          by_cases ek : k = q
          · subst ek
            have hkx : k < xs.flatten.length := by rw [hlen]; exact hql
            rw [List.getElem?_set_self hkx] at hy
            cases hy
            rw [List.getElem?_eq_getElem hql] at hu
            cases hu
            refine .t (.vw hmlt (o4 _ (List.getElem_mem hql)) (fun k2 hk2 => ?_)) (fun b hb => hb.1 rfl)
            have hln : (τ.env w S g').ln m = some vs.length := by
              show (τ.ob m).bind AObj.ln = _
              rw [hobm]; simp [AObj.ln]
            rw [hln] at hk2
            cases hk2
            exact ⟨Nat.le_refl _, fun _ => by show fl[k] = (g' m).v; rw [hgm]; exact hV.symm⟩
          · rw [List.getElem?_set_ne (fun e => ek e.symm)] at hy
            have h0 := o3 k y u hy hu
            have hxc : (AObj.ow z t ks xs).All (· ≠ m) ∨ ∃ i, m = .S i := hcleano p _ hn
            have hyk : y.All (· ∈ ks) := by
              obtain ⟨c, hc, hyc⟩ := List.mem_flatten.1 (List.mem_of_getElem? hy)
              exact p2 c hc y hyc
            have h0' : CellRep (τ.env w S g') y u (F k) := by
              cases h0 with
              | t h0 hF =>
                refine .t (hmv y u ?_ h0) hF
                rcases hxc with hv | hv
                · exact .inl (hyk.mono (fun x hx => hv x hx))
                · exact .inr hv
              | o h0 => exact .o h0
            cases h0' with
            | t h0 hF => exact .t h0 (fun b hb => hF b hb.2)
            | o h0 =>
              refine .o ?_
              have e3 : F k = fun b => k ≠ q ∧ F k b := by funext b; exact propext ⟨fun hb => ⟨ek, hb⟩, fun hb => hb.2⟩
              show LRep w S _ u (fun b => k ≠ q ∧ F k b)
              rw [← e3]; exact h0
        · intro i j b hi hj hij h1 h2
          exact o5 i j b hi hj hij h1.2 h2.2
        · intro i b hi h1
          rw [hg2]
          exact o6' i b hi h1.2
        · intro b
          rw [hg2]
          constructor
          · rintro ⟨hb, hnq⟩
            rcases (o7' b).1 hb with e | ⟨k, hk, hF⟩
            · exact .inl e
            · exact .inr ⟨k, hk, fun e => hnq (by rw [← e]; exact hF), hF⟩
          · rintro (e | ⟨k, hk, hF⟩)
            · exact ⟨(o7' b).2 (.inl e), fun hF => o6' q b hql hF e⟩
            · exact ⟨(o7' b).2 (.inr ⟨k, hk, hF.2⟩), fun hFq => o5 k q b hk hql hF.1 hF.2 hFq⟩
        · rw [hg2]
          exact fun b hb k hk => o8' b hb.1 k hk
      · rw [hobp p e1 e2] at ho
        exact hmvo p o ho (hgo p e1 e2)
  · intro q1 q2 hne2 h1 h2 b b1 b2
    rcases hgB q1 b b1 with ⟨rfl, d1⟩ | ⟨c1, d1, f1⟩
    · rcases hgB q2 b b2 with ⟨e, _⟩ | ⟨c2, d2, f2⟩
      · exact hne2 e.symm
      · by_cases e : q2 = n
        · exact f2 e d1
        · exact h.dj q2 n e (hso q2 c2 h2) hns b d2 (hFn b d1)
    · rcases hgB q2 b b2 with ⟨rfl, d2⟩ | ⟨c2, d2, f2⟩
      · by_cases e : q1 = n
        · exact f1 e d2
        · exact h.dj q1 n e (hso q1 c1 h1) hns b d1 (hFn b d2)
      · exact h.dj q1 q2 hne2 (hso q1 c1 h1) (hso q2 c2 h2) b d1 d2
  · intro p hp b hb
    rcases hgB p b hb with ⟨_, d1⟩ | ⟨c1, d1, _⟩
    · exact ⟨n, hns, hFn b d1⟩
    · exact ⟨p, hso p c1 hp, d1⟩
  · intro i o ho
    by_cases e1 : Nm.S i = m
    · subst e1
      rw [show τ.H[i]? = some _ from hobm] at ho
      cases ho
      exact fun k hk => by cases hk
    · by_cases e2 : Nm.S i = n
      · subst e2
        rw [show τ.H[i]? = some _ from hobn] at ho
        cases ho
        obtain ⟨j, rfl⟩ := hSm i rfl
        exact fun k hk => (hks k hk).elim (fun h1 => h.hs i _ hn k h1) (fun e => by subst e; trivial)
      · rw [show τ.H[i]? = σ.H[i]? from hobp _ e1 e2] at ho
        exact h.hs i o ho
  · subst e
    obtain rfl : i = σ.H.length := hm
    exact Nat.lt_irrefl _ hi
theorem Rep.callO (h : Rep E σ a w S g) {n : Nm} {o0 : AObj} (hn : σ.ob n = some o0) {N' : Nat} {w' : World} {S' : Nat → Nat → Prop} {g0 g' : Nm → GV} (hg0 : g0 (.S 0) = g n) (hst : ∀ b k, S' b k → b < w'.heap.size) (he : Evol w S g0 1 w' S' g' N') :
    Rep E (σ.set n .gone) a w' S' (updG g n ⟨(g n).v, fun _ => False⟩) := by
  have hns : (σ.ob n).isSome := by rw [hn]; rfl
  let gX : Nm → GV := updG g n ⟨(g n).v, fun _ => False⟩
  have hgn : gX n = ⟨(g n).v, fun _ => False⟩ := updG_same _ _ _
  have hgo : ∀ p, p ≠ n → gX p = g p := fun p hp => if_neg hp
  have hB : ∀ p b, (gX p).B b → p ≠ n ∧ (g p).B b := fun p b hb => by
    by_cases e : p = n
    · subst e; rw [hgn] at hb; exact hb.elim
    · rw [hgo p e] at hb; exact ⟨e, hb⟩
  have hso : ∀ p, ((σ.set n .gone).ob p).isSome → (σ.ob p).isSome := fun p hp => by
    by_cases e : p = n
    · rw [e]; exact hns
    · rwa [set_other _ e] at hp
  have hHl : (σ.set n .gone).H.length = σ.H.length := set_H _
  have hN : ∀ p, NmOk (σ.env w S g) ((σ.set n .gone).env w' S' gX) p := by
    intro p
    by_cases e : p = n
    · subst e
      refine .inl ⟨by show (gX p).v = _; rw [hgn]; rfl, .inl ?_⟩
      show ((σ.set p .gone).ob p).bind AObj.ln = none
      rw [set_same _ hn]; rfl
    · refine .inl ⟨by show (gX p).v = _; rw [hgo p e]; rfl, .inr ?_⟩
      show ((σ.set n .gone).ob p).bind AObj.ln = (σ.ob p).bind AObj.ln
      rw [set_other _ e]
  have hblk : ∀ b, b < w.heap.size → ¬ (g n).B b → w'.heap[b]? = w.heap[b]? := fun b hb hnb => he.block b hb (fun i hi => by
    obtain rfl : i = 0 := by omega
    rw [hg0]; exact hnb)
  have hnew : ∀ b k, S' b k → S b k ∨ w.heap.size ≤ b ∨ (g n).B b := by
    intro b k hk
    rcases he.new b k hk with q | q | ⟨j, q1, q2⟩
    · exact .inl q
    · exact .inr (.inl q)
    · obtain rfl : j = 0 := by omega
      rw [hg0] at q2
      exact .inr (.inr q2)
  have hown : ∀ b, (g n).B b → E.w.heap.size ≤ b ∨ ∃ j, j < E.n ∧ (E.g (.S j)).B b := fun b hb => h.owner hns hb
  refine ⟨fun t => ?_, h.nt.trans (set_nt _).symm, h.df, ?_, fun p q hne h1 h2 b b1 b2 => h.dj p q hne (hso p h1) (hso q h2) b (hB p b b1).2 (hB q b b2).2, hst, ?_, ?_, ?_, ?_, fun i hi => (h.nm i hi).trans (hN (.S i)), (set_G _).trans h.eG⟩
  · rw [set_tm]
    exact (h.tm t).move (Γ' := (σ.set n .gone).env w' S' gX) (q := fun _ => True) he.stb (Nat.le_of_eq hHl.symm) (fun p _ _ => hN p) (hAllT _)
  · intro p o ho
    by_cases e : p = n
    · subst e
      rw [set_same _ hn] at ho
      cases ho
      intro b hb
      exact (hB p b hb).1 rfl
    · rw [set_other _ e] at ho
      refine (h.ob p o ho).move (Γ' := (σ.set n .gone).env w' S' gX) (q := fun _ => True) he.stb (Nat.le_of_eq hHl.symm) (fun p _ _ => hN p) (hAllO o) (hgo p e) (fun b hb => ?_)
      have hlt : b < w.heap.size := (h.ob p o ho).lt hb
      have hnb : ¬ (g n).B b := fun q => h.dj p n e (by rw [ho]; rfl) hns b hb q
      refine ⟨hblk b hlt hnb, fun k hk => ?_⟩
      rcases hnew b k hk with q | q | q
      · exact q
      · have q : w.heap.size ≤ b := q
        omega
      · exact absurd q hnb
  · intro t ht b hb
    obtain ⟨_, h2⟩ := hB (.L t) b hb
    exact h.owner (m := .L t) (hso (.L t) ht) h2
  · intro i o ho
    by_cases e : Nm.S i = n
    · subst e
      rw [show (σ.set (.S i) .gone).H[i]? = some .gone from set_same _ hn] at ho
      cases ho
      trivial
    · rw [show (σ.set n .gone).H[i]? = σ.H[i]? from set_other _ e] at ho
      exact h.hs i o ho
  · refine ⟨he.os.trans h.ev.os, he.tape.trans h.ev.tape, he.output.trans h.ev.output, Nat.le_trans h.ev.size he.size, by rw [hHl]; exact h.ev.n, fun b hb hno => ?_, fun b k hk => ?_, fun b k hk => ?_, fun i hi b hb => ?_⟩
    · refine (hblk b (Nat.lt_of_lt_of_le hb h.ev.size) (fun q => ?_)).trans (h.ev.block b hb hno)
      rcases hown b q with h1 | ⟨j, h1, h2⟩
      · omega
      · exact hno j h1 h2
    · obtain ⟨h1, h2⟩ := h.ev.stb b k hk
      obtain ⟨h3, h4⟩ := he.stb b k h1
      exact ⟨h3, h4.trans h2⟩
    · rcases hnew b k hk with q | q | q
      · exact h.ev.new b k q
      · exact .inr (.inl (Nat.le_trans h.ev.size q))
      · exact .inr (hown b q)
    · rw [hHl] at hi
      exact h.ev.own i hi b (hB _ b hb).2
  · intro i y hy
    rw [set_G] at hy
    obtain ⟨u, h1, h2, h3, h4⟩ := h.gl i y hy
    obtain ⟨h5, h6⟩ := he.stb _ _ h1
    exact ⟨u, h5, h6.trans h2, h3, h4.move he.stb⟩
theorem ORep.clo {Γ Γ' : Env} {n n' : Nm} {z t : Nat} {xs : List (List TV)} (h : ORep Γ n (.ow z t [] xs)) (hg : Γ'.g n' = Γ.g n) (hw : Γ'.w = Γ.w) (hS : Γ'.S = Γ.S) : ORep Γ' n' (.ow z t [] xs) := by
  obtain ⟨_, p2, fl, F, o1, o2, o3, o4, o5, o6, o7, o8⟩ := h
  refine ⟨(fun k hk => by cases hk), p2, fl, F, by rw [hg, hw]; exact o1, o2, fun k y u hy hu => ?_, o4, o5, by rw [hg]; exact o6, by rw [hg]; exact o7, by rw [hg, hS]; exact o8⟩
  have hyk : y.All (fun _ => False) := by
    obtain ⟨c, hc, hyc⟩ := List.mem_flatten.1 (List.mem_of_getElem? hy)
    exact (p2 c hc y hyc).mono (fun x hx => by cases hx)
  cases o3 k y u hy hu with
  | t h hF => exact .t (h.move' hw hS hyk) hF
  | o h => exact .o (by rw [hw, hS]; exact h)
def rnS (ob : Nm → Option AObj) (n : Nm) (x y : TV) : Prop := (∃ v, y = .p v ∧ ToPV ob x v) ∨ ∃ len, x = .vw n len ∧ y = .vw (.S 0) len
def rnA (ob : Nm → Option AObj) (n : Nm) (x y : TV) : Prop := rnS ob n x y ∨ ∃ l l', x = .ag l ∧ y = .ag l' ∧ l.length = l'.length ∧ ∀ (k : Nat) y' v, l[k]? = some y' → l'[k]? = some v → rnS ob n y' v
theorem rnS.sound (h : Rep E σ a w S g) {n : Nm} {o0 : AObj} (hn : σ.ob n = some o0) {x y : TV} {V : Value} (hr : rnS σ.ob n x y) (hx : TRep (σ.env w S g) x V) : TRep (henv [o0] w S (fun _ => g n)) y V := by
  rcases hr with ⟨v, rfl, hv⟩ | ⟨len, rfl, rfl⟩
  · exact .p (hv.sound h.obs hx)
  · cases hx with
    | vw h1 h2 h3 =>
      refine .vw (by show 0 < 1; omega) h2 (fun k hk => ?_)
      have hk : o0.ln = some k := hk
      exact h3 k (by show (σ.ob n).bind AObj.ln = _; rw [hn]; exact hk)
theorem rnA.sound (h : Rep E σ a w S g) {n : Nm} {o0 : AObj} (hn : σ.ob n = some o0) {x y : TV} {V : Value} (hr : rnA σ.ob n x y) (hx : TRep (σ.env w S g) x V) : TRep (henv [o0] w S (fun _ => g n)) y V := by
  rcases hr with hr | ⟨l, l', rfl, rfl, hl, hr⟩
  · exact hr.sound h hn hx
  · cases hx with
    | ag hs h2 h3 =>
      refine .ag (hs.trans hl) (fun k y u hy hu => ?_) h3
      have hk : k < l.length := by rw [hl]; exact (List.getElem?_eq_some_iff.1 hy).1
      exact (hr k _ y (List.getElem?_eq_getElem hk) hy).sound h hn (h2 k _ u (List.getElem?_eq_getElem hk) hu)
theorem EOps.rc {hbs : Nat → Bool} {ops : Array Oper} {i : Nat} {o : Oper} {r : List Oper} {K : St → Prop} (hf : hbs 4294967296 = true) (hg : o.guard = none) {f : FuncId} {x : Operand} {args : Array Operand} {ats : Array TypeId} (ho : o.op = .call { callee := .value x, args := args, argTypes := ats })
    (hx : σ.ev x = .fn f []) {n : Nm} {z t : Nat} {xs : List (List TV)} (hn : σ.ob n = some (.ow z t [] xs)) (ys : List TV) (hl : ys.length = args.size) (hr : ∀ (k : Nat) q y, args.toList[k]? = some q → ys[k]? = some y → rnA σ.ob n (σ.ev q) y) {R : TV → List AObj → Prop} (hc : FC P σ.G f ys [.ow z t [] xs] R)
    (hR : ∀ r H', R r H' → r.All (fun _ => False)) (k : ∀ v H', R v H' → EOps P hbs ops (i + 1) r ((σ.set n .gone).put o.dst v) K) : EOps P hbs ops i (o :: r) σ K := by
  refine EOps.sem hf (by unfold WantT; rw [hg]) (fun E a w S g h Q => ?_)
  have hev := h.eval
  unfold Oper.wp
  have hx2 := hev x
  rw [hx] at hx2
  generalize hX : a.eval x = X at hx2
  cases hx2 with
  | @fn _ _ A hs hA =>
  obtain rfl : A = [] := List.eq_nil_of_length_eq_zero hs
  have hrun : (execOp a.eval o).run P w = .ok (.enter f (args.toList.map a.eval).toArray) w := by
    simp [execOp, ho, resolve, hX, Deferred.ofValue, invoke, callable_run hc.1, ← Array.toList_map]
  rw [hrun, Oper.upon_enter]
  have hhr : HRep σ.G [.ow z t [] xs] w S (fun _ => g n) := by
    refine ⟨fun j o' hj => ?_, fun j1 j2 hne h1 h2 => ?_, h.st, fun j o' hj => ?_, h.gl⟩
    · cases j with
      | zero => cases hj; exact (h.ob n _ hn).clo rfl rfl rfl
      | succ j => simp at hj
    · simp at h1 h2; omega
    · cases j with
      | zero => cases hj; exact fun k hk => by cases hk
      | succ j => simp at hj
  refine (hc.2 w S (fun _ => g n) (args.toList.map a.eval) hhr (by simp [hl]) (fun k y V hy hV => ?_)).mono ?_
  · rw [List.getElem?_map] at hV
    cases hq : args.toList[k]? with
    | none => rw [hq] at hV; cases hV
    | some q =>
      rw [hq] at hV
      cases hV
      exact (hr k q y hq hy).sound h hn (hev q)
  · rintro e w' ⟨r', H', v, S', g', rfl, h1, h2, h3, h4, h5, h6⟩
    have hcl := hR r' H' h1
    have hrep := h.callO hn (g0 := fun _ => g n) rfl h4.st h5
    exact ⟨_, _, _, k r' H' h1, hrep.put (TRep.move' (Γ := henv H' w' S' g') (Γ' := (σ.set n .gone).env w' S' (updG g n ⟨(g n).v, fun _ => False⟩)) rfl rfl h3 hcl) o.dst⟩
def rnE (n : Nm) (x y : TV) : Prop := (∃ v, x = .p v ∧ y = .p v) ∨ ∃ len, x = .vw n len ∧ y = .vw (.S 0) len
def rnF (n : Nm) (x y : TV) : Prop := rnE n x y ∨ ∃ l l', x = .ag l ∧ y = .ag l' ∧ l.length = l'.length ∧ ∀ (k : Nat) x' y', l[k]? = some x' → l'[k]? = some y' → rnE n x' y'
def ownSt (G : Nat → Option PV) (md : Nat → Nat) (d : Nat) (o : AObj) (args : List TV) (nt : Nat) : St := { tm := fun t => args.getD t .u, nt := nt, lm := updT (fun _ => none) d (some o), H := [.gone], G := G, md := md }
theorem own0 {G : Nat → Option PV} {md : Nat → Nat} {c : Code} {Q : Exit → St → Prop} {args args' : List TV} {nt z t d : Nat} {xs : List (List TV)} (hl : args'.length = args.length) (hr : ∀ (k : Nat) x y, args'[k]? = some x → args[k]? = some y → rnF (.L d) x y)
    (k : AW P c Q (ownSt G md d (.ow z t [] xs) args' nt)) : AW P c Q (init G md [.ow z t [] xs] args nt) := by
  refine AW.gh (fun E a w S g h => ?_) k
  obtain ⟨σ', hσ⟩ : ∃ σ', σ' = ownSt G md d (.ow z t [] xs) args' nt := ⟨_, rfl⟩
  obtain ⟨g', hg'⟩ : ∃ g' : Nm → GV, g' = updG (updG g (.S 0) ⟨(g (.S 0)).v, fun _ => False⟩) (.L d) (g (.S 0)) := ⟨_, rfl⟩
  have hgL : g' (.L d) = g (.S 0) := by rw [hg']; exact updG_same _ _ _
  have hgS : g' (.S 0) = ⟨(g (.S 0)).v, fun _ => False⟩ := by
    rw [hg']
    unfold updG
    rw [if_neg (by simp), if_pos rfl]
  have hobL : σ'.ob (.L d) = some (.ow z t [] xs) := by
    rw [hσ]
    show updT (fun _ => none) d (some (AObj.ow z t [] xs)) d = _
    rw [updT_eq, if_pos rfl]
  have hon : ∀ n o, σ'.ob n = some o → (n = .L d ∧ o = .ow z t [] xs) ∨ (n = .S 0 ∧ o = .gone) := by
    intro n o ho
    rw [hσ] at ho
    cases n with
    | L e =>
      have ho : updT (fun _ => none) d (some (AObj.ow z t [] xs)) e = some o := ho
      rw [updT_eq] at ho
      split at ho
      · rename_i e2; cases ho; exact .inl ⟨by rw [e2], rfl⟩
      · cases ho
    | S i =>
      have ho : ([AObj.gone] : List AObj)[i]? = some o := ho
      cases i with
      | zero => cases ho; exact .inr ⟨rfl, rfl⟩
      | succ i => simp at ho
  have h0 : ORep ((init G md [.ow z t [] xs] args nt).env w S g) (.S 0) (.ow z t [] xs) := h.ob (.S 0) _ rfl
  have hH : σ'.H = [.gone] := by rw [hσ]; rfl
  have hN : ∀ i, i < 1 → NmOk ((init G md [.ow z t [] xs] args nt).env w S g) (σ'.env w S g') (.S i) := by
    intro i hi
    obtain rfl : i = 0 := by omega
    refine .inl ⟨by show (g' (.S 0)).v = _; rw [hgS]; rfl, .inl ?_⟩
    show ((σ'.H)[0]?).bind AObj.ln = none
    rw [hH]; rfl
  have cellS : ∀ {x y : TV} {V : Value}, rnE (.L d) x y → TRep ((init G md [.ow z t [] xs] args nt).env w S g) y V → TRep (σ'.env w S g') x V := by
    intro x y V hr hy
    rcases hr with ⟨v, rfl, rfl⟩ | ⟨len, rfl, rfl⟩
    · cases hy with
      | p hy => exact .p hy
    · cases hy with
      | vw h1 h2 h3 =>
        refine .vw trivial h2 (fun k hk => ?_)
        have hk : AObj.ln (.ow z t [] xs) = some k := by
          have : (σ'.ob (.L d)).bind AObj.ln = some k := hk
          rw [hobL] at this; exact this
        show len ≤ k ∧ (len = k → V = (g' (.L d)).v)
        rw [hgL]
        exact h3 k hk
  have cellF : ∀ {x y : TV} {V : Value}, rnF (.L d) x y → TRep ((init G md [.ow z t [] xs] args nt).env w S g) y V → TRep (σ'.env w S g') x V := by
    intro x y V hr hy
    rcases hr with hr | ⟨l, l', rfl, rfl, hl, hr⟩
    · exact cellS hr hy
    · cases hy with
      | ag hs h2 h3 =>
        refine .ag (hs.trans hl.symm) (fun k y u hy hu => ?_) h3
        have hk : k < l'.length := by rw [← hl]; exact (List.getElem?_eq_some_iff.1 hy).1
        exact cellS (hr k y _ hy (List.getElem?_eq_getElem hk)) (h2 k _ u (List.getElem?_eq_getElem hk) hu)
  have hgB : ∀ n, (σ'.ob n).isSome → ∀ b, (g' n).B b → n = .L d ∧ (g (.S 0)).B b := by
    intro n hs b hb
    obtain ⟨o, ho⟩ := Option.isSome_iff_exists.1 hs
    rcases hon n o ho with ⟨rfl, rfl⟩ | ⟨rfl, rfl⟩
    · rw [hgL] at hb; exact ⟨rfl, hb⟩
    · rw [hgS] at hb; exact hb.elim
  rw [← hσ]
  refine ⟨S, g', h.re (σ' := σ') (by rw [hσ]; rfl) (by rw [hσ]; rfl) (by rw [hH]; exact Nat.le_refl _) (fun t V hv => ?_) (fun b k hk => hk) (fun b k hk => .inl hk) ?_ ?_ ?_ ?_ hN⟩
  · have e1 : σ'.tm t = args'.getD t .u := by rw [hσ]; rfl
    have hv : TRep _ (args.getD t .u) V := hv
    rw [e1]
    by_cases ht : t < args.length
    · have e2 : args'.getD t .u = args'[t]'(by omega) := by simp [List.getD, show t < args'.length by omega]
      have e3 : args.getD t .u = args[t] := by simp [List.getD, ht]
      rw [e3] at hv
      rw [e2]
      exact cellF (hr t _ _ (List.getElem?_eq_getElem (by omega)) (List.getElem?_eq_getElem ht)) hv
    · have e2 : args'.getD t .u = .u := by simp [List.getD, List.getElem?_eq_none (show args'.length ≤ t by omega)]
      rw [e2]; exact .u
  · intro n o ho
    rcases hon n o ho with ⟨rfl, rfl⟩ | ⟨rfl, rfl⟩
    · exact ORep.clo (Γ' := σ'.env w S g') h0 hgL rfl rfl
    · intro b hb
      have hb : (g' (.S 0)).B b := hb
      rw [hgS] at hb
      exact hb
  · intro n m hne h1 h2 b b1 b2
    obtain ⟨e1, _⟩ := hgB n h1 b b1
    obtain ⟨e2, _⟩ := hgB m h2 b b2
    exact hne (e1.trans e2.symm)
  · intro n hs b hb
    obtain ⟨_, hb⟩ := hgB n hs b hb
    exact ⟨.S 0, rfl, hb⟩
  · intro i o ho
    rw [hH] at ho
    cases i with
    | zero => cases ho; trivial
    | succ i => simp at ho
theorem HRep.rep {G : Nat → Option PV} {H : List AObj} (hh : HRep G H w S g) : Rep ⟨w, S, g, hln H, H.length, G⟩ (init G (fun _ => 0) H [] 0) { tmps := #[], defers := [] } w S g := by
  have hlnE : ∀ n, (init G (fun _ => 0) H [] 0).ln n = hln H n := by intro n; cases n <;> rfl
  have henvE : (init G (fun _ => 0) H [] 0).env w S g = henv H w S g := by
    unfold St.env henv
    have : (init G (fun _ => 0) H [] 0).ln = hln H := funext hlnE
    rw [this]; rfl
  refine ⟨fun t => ?_, rfl, rfl, ?_, ?_, hh.st, (fun t ht => by cases ht), hh.hs, Evol.refl _ _ _ _, hh.gl, fun i hi => ?_, rfl⟩
  · have : (init G (fun _ => 0) H [] 0).tm t = .u := by show ([] : List TV).getD t .u = .u; simp
    rw [this]; exact .u
  · intro n o ho
    cases n with
    | L t => cases ho
    | S i => rw [henvE]; exact hh.ob i o ho
  · intro n m hne h1 h2
    cases n with
    | L t => cases h1
    | S i =>
      cases m with
      | L t => cases h2
      | S j =>
        have hi : i < H.length := by obtain ⟨o, ho⟩ := Option.isSome_iff_exists.1 h1; exact (List.getElem?_eq_some_iff.1 ho).1
        have hj : j < H.length := by obtain ⟨o, ho⟩ := Option.isSome_iff_exists.1 h2; exact (List.getElem?_eq_some_iff.1 ho).1
        exact hh.dj i j (fun e => hne (by rw [e])) hi hj
  · rw [henvE]; exact NmOk.refl _ _
theorem rnE.sound {Γ Γ' : Env} (hw : Γ'.w = Γ.w) (hS : Γ'.S = Γ.S) {n : Nm} (hg : Γ'.g (.S 0) = Γ.g n) (hln : Γ'.ln (.S 0) = Γ.ln n) (hlt : (Nm.S 0).lt Γ'.nH) {x y : TV} {V : Value} (hr : rnE n x y) (hx : TRep Γ x V) : TRep Γ' y V := by
  rcases hr with ⟨v, rfl, rfl⟩ | ⟨len, rfl, rfl⟩
  · cases hx with
    | p hx => exact .p (by rw [hw, hS]; exact hx)
  · cases hx with
    | vw h1 h2 h3 => exact .vw hlt h2 (fun k hk => by rw [hln] at hk; rw [hg]; exact h3 k hk)
theorem rnF.sound {Γ Γ' : Env} (hw : Γ'.w = Γ.w) (hS : Γ'.S = Γ.S) {n : Nm} (hg : Γ'.g (.S 0) = Γ.g n) (hln : Γ'.ln (.S 0) = Γ.ln n) (hlt : (Nm.S 0).lt Γ'.nH) {x y : TV} {V : Value} (hr : rnF n x y) (hx : TRep Γ x V) : TRep Γ' y V := by
  rcases hr with hr | ⟨l, l', rfl, rfl, hl, hr⟩
  · exact hr.sound hw hS hg hln hlt hx
  · cases hx with
    | ag hs h2 h3 =>
      refine .ag (hs.trans hl) (fun k y u hy hu => ?_) h3
      have hk : k < l.length := by rw [hl]; exact (List.getElem?_eq_some_iff.1 hy).1
      exact (hr k _ y (List.getElem?_eq_getElem hk) hy).sound hw hS hg hln hlt (h2 k _ u (List.getElem?_eq_getElem hk) hu)
theorem FC.frame {G : Nat → Option PV} {f : FuncId} {ys : List TV} {z t : Nat} {xs : List (List TV)} {R : TV → List AObj → Prop} (hc : FC P G f ys [.ow z t [] xs] R) (hR : ∀ r H', R r H' → r.All (fun _ => False)) {H : List AObj} {i : Nat} (hi : H[i]? = some (.ow z t [] xs)) {args : List TV} (hl : args.length = ys.length)
    (hr : ∀ (k : Nat) x y, args[k]? = some x → ys[k]? = some y → rnF (.S i) x y) : FC P G f args H (fun r H' => (∃ H0, R r H0) ∧ H' = H.set i .gone) := by
  refine ⟨hc.1, fun w S g V hh hlV hv => ?_⟩
  have hrep := hh.rep
  have hn : (init G (fun _ => 0) H [] 0).ob (.S i) = some (.ow z t [] xs) := hi
  have hob : ORep (henv H w S g) (.S i) (.ow z t [] xs) := hh.ob i _ hi
  have hhr : HRep G [.ow z t [] xs] w S (fun _ => g (.S i)) := by
    refine ⟨fun j o' hj => ?_, fun j1 j2 hne h1 h2 => ?_, hh.st, fun j o' hj => ?_, hh.gl⟩
    · cases j with
      | zero => cases hj; exact hob.clo rfl rfl rfl
      | succ j => simp at hj
    · simp at h1 h2; omega
    · cases j with
      | zero => cases hj; exact fun k hk => by cases hk
      | succ j => simp at hj
  refine (hc.2 w S (fun _ => g (.S i)) V hhr (by rw [hlV, hl]) (fun k y v hy hV => ?_)).mono ?_
  · have hk : k < args.length := by rw [hl]; exact (List.getElem?_eq_some_iff.1 hy).1
    refine (hr k _ y (List.getElem?_eq_getElem hk) hy).sound (Γ := henv H w S g) (Γ' := henv [.ow z t [] xs] w S (fun _ => g (.S i))) rfl rfl rfl ?_ (by show 0 < 1; omega) (hv k _ v (List.getElem?_eq_getElem hk) hV)
    show AObj.ln (.ow z t [] xs) = (H[i]?).bind AObj.ln
    rw [hi]; rfl
  · rintro e w' ⟨r', H', v, S', g', rfl, h1, h2, h3, h4, h5, h6⟩
    have hcl := hR r' H' h1
    have hrep2 := hrep.callO hn (g0 := fun _ => g (.S i)) rfl h4.st h5
    have hset : ((init G (fun _ => 0) H [] 0).set (.S i) .gone).H = H.set i .gone := rfl
    have hH2 := hrep2.heap
    have hev := hrep2.ev
    refine ⟨r', H.set i .gone, v, S', updG g (.S i) ⟨(g (.S i)).v, fun _ => False⟩, rfl, ⟨⟨H', h1⟩, rfl⟩, hcl.mono (fun _ q => q.elim), TRep.move' (Γ := henv H' w' S' g') (Γ' := henv (H.set i .gone) w' S' (updG g (.S i) ⟨(g (.S i)).v, fun _ => False⟩)) rfl rfl h3 hcl, hH2, hev, fun j hj => ?_⟩
    exact (hrep2.nm j hj).trans (env_S _ _ _ _ j).1
end Go.Proofs.YtlcmokgnmlklnaaDoor.En
end
section
namespace Go.Proofs.YtlcmokgnmlklnaaDoor.En
set_option linter.unusedVariables false
set_option linter.unusedSimpArgs false
open Go Go.RowKit Go.Proofs.YtlcmokgnmlklnaaDoor.PA
variable {P : Program} {E : Ent} {σ : St} {a : Act} {w : World} {S : Nat → Nat → Prop} {g : Nm → GV}
def upB (l : Nat → Bool) (i : Nat) : Nat → Bool := fun j => match Nat.beq j i with
  | true => true
  | false => l j
theorem upB_eq (l : Nat → Bool) (i j : Nat) : upB l i j = (if j = i then true else l j) := by
  unfold upB
  by_cases e : j = i
  · subst e; rw [if_pos rfl, Nat.beq_refl]
  · rw [if_neg e]
    cases h : Nat.beq j i with
    | true => exact absurd (Nat.eq_of_beq_eq_true h) e
    | false => rfl
def Step1 (P : Program) (o : Oper) (σ : St) (K : St → Prop) : Prop := ∀ E a w S g, Rep E σ a w S g → ∀ Q : Exit → Act → World → Prop, o.wp P a w (fun a' w' => Beh E K a' w') Q
theorem AW.anyF {id : Nat} {ops : Array Oper} {Q : Exit → St → Prop} (F : (Nat → Bool) → St → Prop) (hm : P.follows .mixedOrders = true) (hg : (ops.toList.all fun o => o.guard.isNone && o.after.toList.all fun e => true) = true)
    (hb : ((List.range ops.size).all fun i => match ops[i]? with | some o => o.after.toList.all (fun e => !Region.binds .any e || Nat.blt e.on i) | none => false) = true)
    (h0 : F (fun _ => false) σ) (hend : ∀ l τ, (∀ i, i < ops.size → l i = true) → F l τ → Q .normal τ)
    (hstep : ∀ (l : Nat → Bool) (i : Nat) (o : Oper), ops[i]? = some o → l i = false → (∀ e ∈ o.after.toList, Region.binds .any e = true → l e.on = true) → ∀ τ, F l τ → Step1 P o τ (F (upB l i))) : AW P (.region id ops true) Q σ := by
  intro E a w S g hr
  refine wp_region_any hm ?_
  have hback : ∀ i o, ops[i]? = some o → ∀ e ∈ o.after.toList, Region.binds .any e = true → e.on < i := by
    intro i o ho e he hbb
    have h1 := List.all_eq_true.1 hb i (List.mem_range.2 (Array.getElem?_eq_some_iff.1 ho).1)
    rw [ho] at h1
    have h2 := List.all_eq_true.1 h1 e he
    rw [hbb] at h2
    simpa using h2
  have hgn : ∀ (i : Nat) (o : Oper), ops[i]? = some o → o.guard = none := by
    intro i o ho
    have h1 := List.all_eq_true.1 hg o (by
      obtain ⟨q1, q2⟩ := Array.getElem?_eq_some_iff.1 ho
      rw [← q2]
      exact Array.getElem_mem_toList q1)
    simp only [Bool.and_eq_true, Option.isNone_iff_eq_none] at h1
    exact h1.1
  have hready : ∀ (listed : Array Bool) i, i ∈ Region.ready .any ops listed ↔ i < ops.size ∧ listed.getD i true = false ∧ ∃ o, ops[i]? = some o ∧ ∀ e ∈ o.after.toList, Region.binds .any e = true → listed.getD e.on false = true := by
    intro listed i
    unfold Region.ready
    rw [List.mem_filter]
    constructor
    · rintro ⟨h1, h2⟩
      simp only [Bool.and_eq_true, Bool.not_eq_true'] at h2
      have hlt := List.mem_range.1 h1
      refine ⟨hlt, h2.1, ops[i], Array.getElem?_eq_getElem hlt, ?_⟩
      have h3 := h2.2
      rw [Array.getElem?_eq_getElem hlt] at h3
      simp only [Option.map_some, Option.getD_some] at h3
      intro e he hb
      have := Array.all_eq_true_iff_forall_mem.1 h3 e (by simpa using he)
      simpa [hb] using this
    · rintro ⟨h1, h2, o, ho, h3⟩
      refine ⟨List.mem_range.2 h1, ?_⟩
      simp only [Bool.and_eq_true, Bool.not_eq_true']
      refine ⟨h2, ?_⟩
      rw [ho]
      simp only [Option.map_some, Option.getD_some]
      refine Array.all_eq_true_iff_forall_mem.2 (fun e he => ?_)
      cases hb : Region.binds .any e with
      | false => rfl
      | true => simp [h3 e (by simpa using he) hb]
  have key : ∀ (fuel : Nat) (listed : Array Bool) (l : Nat → Bool) (τ : St) (a : Act) (w : World) (S : Nat → Nat → Prop) (g : Nm → GV), listed.size = ops.size → (pend ops.size listed).length = fuel → (∀ i, i < ops.size → listed.getD i true = l i) → F l τ → Rep E τ a w S g →
      wpAny P .any ops (fun e a' w' => Beh E (Q e) a' w') fuel listed a w := by
    intro fuel
    induction fuel with
    | zero =>
      intro listed l τ a w S g hsz hf hl hF h
      have hnil : pend ops.size listed = [] := List.length_eq_zero_iff.1 hf
      have hmem : ∀ i, i < ops.size → listed.getD i true = true := fun i hi => by
        cases hq : listed.getD i true with
        | true => rfl
        | false =>
          have : i ∈ pend ops.size listed := by simp only [pend, List.mem_filter, List.mem_range, Bool.not_eq_true']; exact ⟨hi, hq⟩
          rw [hnil] at this; cases this
      refine ⟨?_, ⟨τ, S, g, hend l τ (fun i hi => (hl i hi).symm.trans (hmem i hi)) hF, h⟩⟩
      refine List.eq_nil_iff_forall_not_mem.2 (fun i hi => ?_)
      obtain ⟨h1, h2, _⟩ := (hready listed i).1 hi
      rw [hmem i h1] at h2; cases h2
    | succ fuel ih =>
      intro listed l τ a w S g hsz hf hl hF h
      have hgetD : ∀ i, i < ops.size → ∀ d, listed.getD i d = l i := fun i hi d => by
        rw [← hl i hi]
        have : i < listed.size := by omega
        simp [Array.getD, this]
      refine ⟨fun hnone => ?_, fun i hi => ?_⟩
      · exfalso
        have hex : ∃ i, i ∈ pend ops.size listed := by
          cases hp : pend ops.size listed with
          | nil => rw [hp] at hf; cases hf
          | cons i r => exact ⟨i, by simp⟩
        have hmin : ∀ n i, i < n → i < ops.size → l i = false → ∃ j, j < ops.size ∧ l j = false ∧ ∀ k, k < j → l k = true := by
          intro n
          induction n with
          | zero => intro i hi; omega
          | succ n ihn =>
            intro i hin hi hli
            by_cases hall : ∃ k, k < i ∧ l k = false
            · obtain ⟨k, hk, hlk⟩ := hall
              exact ihn k (by omega) (by omega) hlk
            · refine ⟨i, hi, hli, fun k hk => ?_⟩
              cases hq : l k with
              | true => rfl
              | false => exact absurd ⟨k, hk, hq⟩ hall
        obtain ⟨i, hi⟩ := hex
        have hi2 : i < ops.size ∧ listed.getD i true = false := by simpa [pend] using hi
        obtain ⟨j, hj, hlj, hpre⟩ := hmin (i + 1) i (by omega) hi2.1 (by rw [← hl i hi2.1]; exact hi2.2)
        have : j ∈ Region.ready .any ops listed := (hready listed j).2 ⟨hj, by rw [hl j hj]; exact hlj, ops[j], Array.getElem?_eq_getElem hj, fun e he hbb => by
          have hlt := hback j _ (Array.getElem?_eq_getElem hj) e he hbb
          rw [hgetD e.on (by omega)]
          exact hpre e.on hlt⟩
        rw [hnone] at this; cases this
      · obtain ⟨h1, h2, o, ho, h3⟩ := (hready listed i).1 hi
        have hli : l i = false := by rw [← hl i h1]; exact h2
        have hst := hstep l i o ho hli (fun e he hbb => by
          have hlt := hback i o ho e he hbb
          rw [← hgetD e.on (by omega) false]
          exact h3 e he hbb) τ hF E a w S g h (fun e a' w' => Beh E (Q e) a' w')
        have hwp : wpOp P ops (fun e a' w' => Beh E (Q e) a' w') i (Beh E (F (upB l i))) a w := by
          unfold wpOp
          rw [ho]
          simp only [Region.wanted, hgn i o ho]
          exact .inl hst
        refine wpOp_mono (fun a' w' ⟨τ', S', g', k1, k2⟩ => ?_) hwp
        refine ih (listed.setIfInBounds i true) (upB l i) τ' a' w' S' g' (by simpa using hsz) ?_ (fun j hj => ?_) k1 k2
        · have hp1 : ∀ j, (listed.setIfInBounds i true).getD j true = (if j = i then true else listed.getD j true) := by
            intro j
            simp only [Array.getD_eq_getD_getElem?, Array.getElem?_setIfInBounds]
            by_cases e : i = j
            · subst e
              have : i < listed.size := by omega
              simp [this]
            · simp [e, Ne.symm e]
          have hperm : (pend ops.size (listed.setIfInBounds i true)).length + 1 = (pend ops.size listed).length := by
            unfold pend
            have : ∀ (n : Nat), i < n → ((List.range n).filter (fun j => !(listed.setIfInBounds i true).getD j true)).length + 1 = ((List.range n).filter (fun j => !listed.getD j true)).length := by
              intro n
              induction n with
              | zero => intro h; omega
              | succ n ihn =>
                intro hin
                rw [List.range_succ, List.filter_append, List.filter_append, List.length_append, List.length_append]
                by_cases e : i = n
                · subst e
                  have e1 : (List.range i).filter (fun j => !(listed.setIfInBounds i true).getD j true) = (List.range i).filter (fun j => !listed.getD j true) := by
                    refine List.filter_congr (fun j hj => ?_)
                    have := List.mem_range.1 hj
                    rw [hp1, if_neg (by omega)]
                  have e2 : ([i] : List Nat).filter (fun j => !(listed.setIfInBounds i true).getD j true) = [] := by
                    have q1 : (listed.setIfInBounds i true).getD i true = true := by rw [hp1, if_pos rfl]
                    simp only [List.filter_cons, List.filter_nil, q1]; rfl
                  have e3 : ([i] : List Nat).filter (fun j => !listed.getD j true) = [i] := by
                    simp only [List.filter_cons, List.filter_nil, h2]; rfl
                  rw [e1, e2, e3]; rfl
                · have := ihn (by omega)
                  have e2 : ([n] : List Nat).filter (fun j => !(listed.setIfInBounds i true).getD j true) = ([n] : List Nat).filter (fun j => !listed.getD j true) := by
                    have q1 : (listed.setIfInBounds i true).getD n true = listed.getD n true := by rw [hp1, if_neg (fun q => e q.symm)]
                    simp only [List.filter_cons, List.filter_nil, q1]
                  rw [e2]; omega
            exact this ops.size h1
          omega
        · simp only [Array.getD_eq_getD_getElem?, Array.getElem?_setIfInBounds]
          rw [upB_eq]
          by_cases e : i = j
          · subst e
            have : i < listed.size := by omega
            simp [this]
          · have := hl j hj
            simp only [Array.getD_eq_getD_getElem?] at this
            simp [e, Ne.symm e, this]
  have hp : (pend ops.size (Array.replicate ops.size false)).length = ops.size := by
    have : pend ops.size (Array.replicate ops.size false) = List.range ops.size := by
      unfold pend
      refine List.filter_eq_self.2 (fun i hi => ?_)
      have := List.mem_range.1 hi
      simp [Array.getD, this]
    rw [this]; simp
  exact key ops.size _ (fun _ => false) σ a _ S g (by simp) hp (fun i hi => by simp [Array.getD, hi]) h0 hr.drew
theorem wp_Q {o : Oper} {next : Act → World → Prop} {Q Q' : Exit → Act → World → Prop} (h : o.wp P a w next Q) (hp : ∀ c a w, Q (.panic c) a w → Q' (.panic c) a w) (ho : LetsOut Q → LetsOut Q') : o.wp P a w next Q' := by
  unfold Oper.wp at *
  generalize (execOp a.eval o).run P w = r at *
  cases r with
  | ok n w' =>
    cases n <;> simp only [Oper.upon] at h ⊢ <;>
      first
        | exact h
        | exact Calls.mono h (fun e w'' hq => by cases e <;> first | exact hq | exact hp _ _ _ hq | exact ho hq)
  | halt c w' => cases c <;> first | exact hp _ _ _ h | exact h
theorem Step1.of {o : Oper} {K : St → Prop} (hg : o.guard = none) (h : EOps P (fun _ => true) #[o] 0 [o] σ K) : Step1 P o σ K := by
  intro E a w S g hr Q
  rw [EOps.flag rfl] at h
  have h1 := h rfl E a w S g hr (fun e a' w' => e = .normal ∧ Beh E K a' w') (fun _ _ h => ⟨rfl, h⟩)
  have h2 : wpOps P #[o] (fun e a' w' => e = .normal ∧ Beh E K a' w') [0] a w := h1
  rw [wpOps_cons] at h2
  unfold wpOp at h2
  have h0 : (#[o] : Array Oper)[0]? = some o := rfl
  rw [h0] at h2
  simp only [Region.wanted, hg] at h2
  rcases h2 with h2 | ⟨_, a', w', q, _⟩
  · refine wp_Q (Oper.wp_mono (fun a' w' q => q.2) h2) (fun c a w q => by cases q.1) (fun ⟨a', w', q, _⟩ => by cases q)
  · cases q
section
variable {G : Nat → Option PV} {md : Nat → Nat}
theorem EOps.eqn (T : Tab P) {hbs : Nat → Bool} {ops : Array Oper} {K : St → Prop} {r : List Oper} {i : Nat} {l : List (Nat × TV)} {n : Nat} {o : List (Nat × AObj)} {H : List AObj} {d t ty2 : Nat} {x : Operand} {ty : TypeId} {pos : String} {af : Array Edge} {gd : Option (Nat × Bool)} {e z : Nat} {xs : List PV}
    (hf : hbs 4294967296 = true) (hg : gtM ops.toList l n gd = true) (hx : evM l x = some (.p (.row z xs))) (he : T.sl t = some e) (hd : Nat.blt d n = true)
    (k : ∀ b, (xs ≠ [] → b = false) → EOps P hbs ops (i + 1) r ((MS.mk ((d, .p (.c (.bool b))) :: l) n o H).st G md) K) :
    EOps P hbs ops i (⟨some d, .binOp .eql t x (.const (.slice none 0 0)) ty2, ty, pos, af, gd⟩ :: r) ((MS.mk l n o H).st G md) K := by
  refine EOps.sem hf (want_of hg) (fun E a w S g hr Q => ?_)
  have hev := hr.eval
  have hX := hev x
  rw [show ((MS.mk l n o H).st G md).ev x = _ from evM_ev hx] at hX
  have hsl : ∃ ad len c, a.eval x = .slice ad len c ∧ (xs ≠ [] → ad.isNone = false) := by
    generalize a.eval x = X at hX
    cases hX with
    | p hX =>
      cases hX with
      | nl => exact ⟨_, _, _, rfl, fun h => absurd rfl h⟩
      | row => exact ⟨_, _, _, rfl, fun _ => rfl⟩
  obtain ⟨ad, len, c, h1, h2⟩ := hsl
  have hrun : (execOp a.eval ⟨some d, .binOp .eql t x (.const (.slice none 0 0)) ty2, ty, pos, af, gd⟩).run P w = .ok (.value (.bool ad.isNone)) w := by
    have hc : a.eval (.const (.slice none 0 0)) = .slice none 0 0 := rfl
    have h3 : (do eqGuard .eql t x (.const (.slice none 0 0)) (a.eval x) (a.eval (.const (.slice none 0 0))); Go.binOp .eql t (a.eval x) (a.eval (.const (.slice none 0 0))) : Sem Value).run P w = .ok (.bool ad.isNone) w := by
      rw [h1, hc]
      simp [eqGuard, Lib.run_eql_slice_nil w t e ad len c 0 0 (T.hsl _ _ he)]
    simp only [execOp]
    rw [Sem.run_bind, h3]; rfl
  unfold Oper.wp
  rw [hrun, Oper.upon_value]
  have hput := hr.put (v := .p (.c (.bool ad.isNone))) (V := .bool ad.isNone) (.p (.c rfl)) (some d)
  rw [st_put hd] at hput
  exact ⟨_, S, g, k _ h2, hput⟩
theorem EOps.ap0S (T : Tab P) (ks : List Nm) {ys : List (List TV)} {hbs : Nat → Bool} {ops : Array Oper} {K : St → Prop} {r : List Oper} {i : Nat} {l : List (Nat × TV)} {n : Nat} {o : List (Nat × AObj)} {H : List AObj} {d : Nat} {s x : Operand} {t : TypeId} {ty : TypeId} {pos : String} {af : Array Edge} {gd : Option (Nat × Bool)} {e z by_ : Nat} {b : Bool} {zs : List Value} {X : TV}
    (hf : hbs 4294967296 = true) (hg : gtM ops.toList l n gd = true) (hs : evM l s = some .nil) (hx : evM l x = some X) (he : T.sl t = some e) (hl : T.lay e = some (b, z)) (hz : T.zer e = some zs) (hby : T.byt e = some by_) (hq : (Nat.beq zs.length z && Nat.blt 0 z && Nat.blt 0 by_ && Nat.blt d n) = true)
    (hks : ∀ m ∈ ks, m.isS) (hmd : md d ≠ 0) (hsrc : srcM (obM o H) z X ys) (hk2 : ∀ y ∈ ys.flatten, y.All (· ∈ ks)) (hkl : ∀ m ∈ ks, m.lt H.length) (hby2 : ys.length * by_ ≤ 140737488355328)
    (k : EOps P hbs ops (i + 1) r ((MS.mk ((d, .vw (.S H.length) ys.length) :: l) n o (H ++ [.ow z e ks ys])).st G md) K) :
    EOps P hbs ops i (⟨some d, .call ⟨.builtin .append, #[s, x], #[t, t]⟩, ty, pos, af, gd⟩ :: r) ((MS.mk l n o H).st G md) K := by
  simp only [Bool.and_eq_true] at hq
  obtain ⟨⟨⟨c1, c2⟩, c3⟩, c4⟩ := hq
  have hb : 0 < by_ := Nat.le_of_ble_eq_true c3
  have hok : AppOk P t e z ys.length := ⟨T.hsl _ _ he, ⟨b, T.hlay _ _ hl⟩, ⟨zs, (T.hzer _ _ hz).1, Nat.eq_of_beq_eq_true c1⟩, Nat.le_of_ble_eq_true c2, ⟨by_, T.hbyt _ _ hby, hby2⟩, Nat.le_trans (Nat.le_mul_of_pos_right _ hb) hby2⟩
  have hobm : ((MS.mk l n o H).st G md).ob = obM o H := by funext m; exact obM_ob m
  have hfz : Fresh ((MS.mk l n o H).st G md) (.S H.length) := rfl
  refine EOps.sem hf (want_of hg) (fun E a w S g hr Q => ?_)
  have hev := hr.eval
  have hXr := hev x
  rw [show ((MS.mk l n o H).st G md).ev x = X from evM_ev hx] at hXr
  obtain ⟨ad, c, news, hsr⟩ := hsrc.sound (by rw [← hobm]; exact hr.obs) hXr
  obtain ⟨v', w', r1, r2, r4⟩ := hr.grow0Ow (P := P) (ty := ty) (ks := ks) hfz hok hsr hk2 hkl (fun m hm e => by have := hkl m hm; rw [e] at this; exact Nat.lt_irrefl _ this) (fun j e => hks)
  have hsv : a.eval s = .slice none 0 0 := by
    have h0 := hev s
    rw [show ((MS.mk l n o H).st G md).ev s = .nil from evM_ev hs] at h0
    generalize a.eval s = Y at h0
    cases h0; rfl
  have hrun : (execOp a.eval ⟨some d, .call ⟨.builtin .append, #[s, x], #[t, t]⟩, ty, pos, af, gd⟩).run P w = .ok (.value v') w' := by
    simp [execOp, resolve, invoke, builtin, hsv, r1]
  unfold Oper.wp
  rw [hrun, Oper.upon_value]
  have hput := r4.put (v := .vw (.S H.length) ys.length) (V := v') (.vw (fresh_lt hfz _) r2 (fun k' hk' => ?_)) (some d)
  · rw [show ((MS.mk l n o H).st G md).add (.S H.length) (.ow z e ks ys) = (MS.mk l n o (H ++ [.ow z e ks ys])).st G md from rfl, st_put c4] at hput
    exact ⟨_, S, _, k, hput⟩
  · have e' : ((((MS.mk l n o H).st G md).add (.S H.length) (.ow z e ks ys)).ob (.S H.length)).bind AObj.ln = some k' := hk'
    rw [add_same _ hfz] at e'
    simp only [Option.bind_some, AObj.ln, Option.some.injEq] at e'
    exact ⟨Nat.le_of_eq e', fun _ => (updG_v _ _ _).symm⟩
end
end Go.Proofs.YtlcmokgnmlklnaaDoor.En
end
section
namespace Go.Proofs.YtlcmokgnmlklnaaDoor.K
open Go Go.RowKit Go.Proofs.YtlcmokgnmlklnaaDoor.En Go.Proofs.YtlcmokgnmlklnaaDoor.Ty Go.Proofs.YtlcmokgnmlklnaaDoor.B
set_option maxRecDepth 100000
set_option linter.unusedSimpArgs false
set_option linter.unusedVariables false
set_option pp.deepTerms false
set_option pp.deepTerms.threshold 8
set_option pp.maxSteps 1000
set_option maxHeartbeats 1000000
theorem clone2 (G : Nat → Option PV) (p : List Int) (hp : p.length ≤ 100000) : PF Tryd.prog G 54 [.row 1 (p.map pi)] (.p (.row 1 (p.map pi))) := by
  refine ⟨(by first | exact .p | exact .tp (fun x hx => by simp at hx; rcases hx with rfl | rfl <;> exact .p) | exact .tp (fun x hx => by simp at hx; rcases hx with rfl | rfl | rfl <;> exact .p)), bdy Tryd.func54 (fun _ => 0) rfl ?_⟩
  refine rn T 99 [] ?_
  refine rn T 1 [] ?_
  refine EOps.eqn T rfl rfl rfl rfl rfl ?_
  intro b hb
  refine rn T 99 [] ?_
  cases b with
  | true =>
    have : p = [] := by
      cases p with
      | nil => rfl
      | cons x r => exact absurd (hb (by simp)) (by simp)
    subst this
    refine cts ?_
    refine rn T 99 [] ?_
    exact ret1 T rfl (by (repeat' apply And.intro) <;> first | trivial | rfl | assumption | omega | exact mT rfl | exact mT (by assumption) | exact mM rfl | exact mM (by assumption) | exact mI (by assumption) | exact mS (by assumption) | exact mU (by assumption) | (simp; done) | (simp [Mn.f0, Mn.f1, Mn.f2, Mn.f3, Mn.f4, Tn.f0]; done) | (simp [*]; done) | (simp [relT, eT_eq, eM_eq, PV.cells, Tn.f0, Mn.f4, *]; done) | (simp; omega)) rfl
  | false =>
    refine cfs ?_
    refine rn T 99 [] ?_
    exact ret1 T rfl (by (repeat' apply And.intro) <;> first | trivial | rfl | assumption | omega | exact mT rfl | exact mT (by assumption) | exact mM rfl | exact mM (by assumption) | exact mI (by assumption) | exact mS (by assumption) | exact mU (by assumption) | (simp; done) | (simp [Mn.f0, Mn.f1, Mn.f2, Mn.f3, Mn.f4, Tn.f0]; done) | (simp [*]; done) | (simp [relT, eT_eq, eM_eq, PV.cells, Tn.f0, Mn.f4, *]; done) | (simp; omega)) rfl
theorem named2 (G : Nat → Option PV) (s : ByteArray) : PF Tryd.prog G 49 [ps s] (.p (pm ⟨2, 0, s, [], []⟩)) := by
  refine ⟨(by first | exact .p | exact .tp (fun x hx => by simp at hx; rcases hx with rfl | rfl <;> exact .p) | exact .tp (fun x hx => by simp at hx; rcases hx with rfl | rfl | rfl <;> exact .p)), bdy Tryd.func49 (fun _ => 0) rfl ?_⟩
  refine rn T 99 [] ?_
  refine rn T 99 [] ?_
  exact ret1 T rfl (by (repeat' apply And.intro) <;> first | trivial | rfl | assumption | omega | exact mT rfl | exact mT (by assumption) | exact mM rfl | exact mM (by assumption) | exact mI (by assumption) | exact mS (by assumption) | exact mU (by assumption) | (simp; done) | (simp [Mn.f0, Mn.f1, Mn.f2, Mn.f3, Mn.f4, Tn.f0]; done) | (simp [*]; done) | (simp [relT, eT_eq, eM_eq, PV.cells, Tn.f0, Mn.f4, *]; done) | (simp; omega)) rfl
theorem plain2 (G : Nat → Option PV) (t : Mn) : PF Tryd.prog G 62 [pm t] (.p (pb (t.f0 == 1 || t.f0 == 2))) := by
  obtain ⟨k, m, s, p, l⟩ := t
  show PF _ _ _ [.ag [pi k, pi m, ps s, .row 1 (p.map pi), .row 5 (l.map eM)]] (.p (pb (k == 1 || k == 2)))
  refine ⟨(by first | exact .p | exact .tp (fun x hx => by simp at hx; rcases hx with rfl | rfl <;> exact .p) | exact .tp (fun x hx => by simp at hx; rcases hx with rfl | rfl | rfl <;> exact .p)), bdy Tryd.func62 (fun _ => 0) rfl ?_⟩
  refine rn T 99 [] ?_
  refine rn T 4 [] ?_
  by_cases h : k = 1
  · subst h
    refine rn T 99 [] ?_
    exact ⟨[_], ⟨_, _, rfl, .inl rfl, rfl⟩, .p, rfl⟩
  · rw [show (k == 1) = false by simp [h]]
    refine rn T 99 [] ?_
    exact ⟨[_], ⟨_, _, rfl, .inl rfl, rfl⟩, .p, rfl⟩
def pok : Nat → Mn → Bool
  | 0, _ => true
  | n + 1, t => decide (t.f3.length ≤ 4) && t.f4.all (pok n)
theorem paths2 (G : Nat → Option PV) : ∀ (n : Nat) (t : Mn), dM n t = true → PF Tryd.prog G 50 [pm t] (.p (pb (pok n t))) := by
  intro n
  induction n with
  | zero => intro t h; cases h
  | succ n ih =>
    intro ⟨k, m, s, p, l⟩ h
    have hl : l.length ≤ 2 := dM_len h
    have ihx : ∀ x ∈ l, _ := fun x hx => ih x (by unfold dM at h; simp only [Bool.and_eq_true, List.all_eq_true] at h; exact h.2 x hx)
    show PF _ _ _ [.ag [pi k, pi m, ps s, .row 1 (p.map pi), .row 5 (l.map eM)]] (.p (pb (decide (p.length ≤ 4) && l.all (pok n))))
    refine ⟨(by first | exact .p | exact .tp (fun x hx => by simp at hx; rcases hx with rfl | rfl <;> exact .p) | exact .tp (fun x hx => by simp at hx; rcases hx with rfl | rfl | rfl <;> exact .p)), bdy Tryd.func50 (fun _ => 0) rfl ?_⟩
    refine rn T 99 [] ?_
    refine rn T 99 [] ?_
    by_cases hp : p.length ≤ 4
    · rw [decide_eq_true hp, Bool.true_and]
      refine cfq rfl (by simp; omega) ?_
      refine rn T 99 [] ?_
      refine lpw (fun i : Nat => MS.mk [(12, .p (pi i)), (11, .p (pi (l.map eM).length)), (10, .p (.row 5 (l.map eM))), (1, .ptr (.L 1) 0)] 20 [(1, .box 28 [.p (pi k), .p (pi m), .p (ps s), .p (.row 1 (p.map pi)), .p (.row 5 (l.map eM))])] []) (fun m i => m + i = l.length ∧ (l.take i).all (pok n) = true) (l.length) (0) (by simp) ?_
      intro m2 i ⟨h3, h4⟩
      refine op ?_
      refine rn T 99 [] ?_
      by_cases hi : i < l.length
      · obtain ⟨x, hx, hdd⟩ := drop_ix hi
        refine ctq rfl (by simp [hi]) ?_
        refine rn T 99 [pm x] ?_
        have hc := ihx x (List.mem_of_getElem? hx)
        refine rn T 99 [] ?_
        refine pcs (hc) ?_
        refine rn T 99 [] ?_
        cases hpx : pok n x with
        | true =>
          refine cfs ?_
          refine rn T 99 [] ?_
          rw [wkS (by omega)]
          refine nxt (m2 - 1) (i + 1) (⟨by omega, by rw [List.take_add_one, hx]; simp [h4, hpx]⟩)
        | false =>
          refine cts ?_
          refine rn T 99 [] ?_
          have : l.all (pok n) = false := by
            rw [List.all_eq_false]
            exact ⟨x, List.mem_of_getElem? hx, by simp [hpx]⟩
          rw [this]
          exact ⟨[_], ⟨_, _, rfl, .inl rfl, rfl⟩, .p, rfl⟩
      · refine cfq rfl (by simp [hi]) ?_
        refine rn T 99 [] ?_
        have : l.all (pok n) = true := by rw [← h4, List.take_of_length_le (by omega)]
        rw [this]
        exact ⟨[_], ⟨_, _, rfl, .inl rfl, rfl⟩, .p, rfl⟩
    · rw [decide_eq_false hp, Bool.false_and]
      refine ctq rfl (by simp; omega) ?_
      refine rn T 99 [] ?_
      exact ⟨[_], ⟨_, _, rfl, .inl rfl, rfl⟩, .p, rfl⟩
end Go.Proofs.YtlcmokgnmlklnaaDoor.K
end
section
namespace Go.Proofs.YtlcmokgnmlklnaaDoor.K
open Go Go.RowKit Go.Proofs.YtlcmokgnmlklnaaDoor.En Go.Proofs.YtlcmokgnmlklnaaDoor.Ty Go.Proofs.YtlcmokgnmlklnaaDoor.B
set_option maxRecDepth 100000
set_option linter.unusedSimpArgs false
set_option linter.unusedVariables false
set_option pp.deepTerms false
set_option pp.deepTerms.threshold 8
set_option pp.maxSteps 1000
set_option maxHeartbeats 1000000
theorem equal2 (G : Nat → Option PV) (p q : List Int) (hp : p.length ≤ 100000) (hq : q.length ≤ 100000) : PF Tryd.prog G 64 [.row 1 (p.map pi), .row 1 (q.map pi)] (.p (pb (p == q))) := by
  refine ⟨(by first | exact .p | exact .tp (fun x hx => by simp at hx; rcases hx with rfl | rfl <;> exact .p) | exact .tp (fun x hx => by simp at hx; rcases hx with rfl | rfl | rfl <;> exact .p)), bdy Tryd.func64 (fun _ => 0) rfl ?_⟩
  refine rn T 99 [] ?_
  refine rn T 99 [] ?_
  by_cases hl : p.length = q.length
  · refine cfq rfl (by simp [hl]) ?_
    refine rn T 99 [] ?_
    refine lpw (fun i : Nat => MS.mk [(13, .p (pi i)), (12, .p (pi (p.map pi).length)), (0, .p (.row 1 (p.map pi))), (1, .p (.row 1 (q.map pi)))] 26 [] []) (fun m i => m + i = p.length ∧ p.take i = q.take i) (p.length) (0) (by simp) ?_
    intro m2 i ⟨h3, h4⟩
    refine op ?_
    refine rn T 99 [] ?_
    by_cases hi : i < p.length
    · obtain ⟨x, hx, _⟩ := drop_ix hi
      obtain ⟨y, hy, _⟩ := drop_ix (show i < q.length by omega)
      refine ctq rfl (by simp [hi]) ?_
      refine rn T 99 [] ?_; try (first | refine dr1 ?_ | refine dr2 ?_ | refine dr3 ?_ | refine dr4 ?_)
      refine rn T 99 [pi x, pi y] ?_
      by_cases hxy : x = y
      · subst hxy
        refine cfq rfl (by simp) ?_
        refine rn T 99 [] ?_
        rw [wkS (by omega)]
        refine nxt (m2 - 1) (i + 1) (⟨by omega, by rw [List.take_add_one, List.take_add_one, hx, hy, h4]⟩)
      · refine ctq rfl (by simp [hxy]) ?_
        refine rn T 99 [] ?_
        have : (p == q) = false := by
          rw [beq_eq_false_iff_ne]
          intro e
          subst e
          rw [hx] at hy
          cases hy
          exact hxy rfl
        rw [this]
        exact ⟨[_], ⟨_, _, rfl, .inl rfl, rfl⟩, .p, rfl⟩
    · refine cfq rfl (by simp [hi]) ?_
      refine rn T 99 [] ?_
      have : (p == q) = true := by
        rw [beq_iff_eq]
        rw [List.take_of_length_le (by omega), List.take_of_length_le (by omega)] at h4
        exact h4
      rw [this]
      exact ⟨[_], ⟨_, _, rfl, .inl rfl, rfl⟩, .p, rfl⟩
  · refine ctq rfl (by simp; omega) ?_
    refine rn T 99 [] ?_
    have : (p == q) = false := by
      rw [beq_eq_false_iff_ne]
      exact fun e => hl (by rw [e])
    rw [this]
    exact ⟨[_], ⟨_, _, rfl, .inl rfl, rfl⟩, .p, rfl⟩
def bgn (p q : List Int) : Bool := decide (q.length ≤ p.length) && (p.take q.length == q)
theorem begins2 (G : Nat → Option PV) (p q : List Int) (hp : p.length ≤ 100000) (hq : q.length ≤ 100000) : PF Tryd.prog G 63 [.row 1 (p.map pi), .row 1 (q.map pi)] (.p (pb (bgn p q))) := by
  refine ⟨(by first | exact .p | exact .tp (fun x hx => by simp at hx; rcases hx with rfl | rfl <;> exact .p) | exact .tp (fun x hx => by simp at hx; rcases hx with rfl | rfl | rfl <;> exact .p)), bdy Tryd.func63 (fun _ => 0) rfl ?_⟩
  refine rn T 99 [] ?_
  unfold bgn
  by_cases hl : q.length ≤ p.length
  · rw [decide_eq_true hl, Bool.true_and]
    refine rn T 6 [] ?_
    rw [show decide (((q.map pi).length : Int) ≤ ((p.map pi).length : Int)) = true by simp; omega]
    refine rn T 99 [] ?_
    have ce := equal2 G (p.take q.length) q (by rw [List.length_take]; omega) hq
    rw [show List.drop 0 (List.take ((List.map pi q).length : Int).toNat (List.map pi p)) = (p.take q.length).map pi by simp [List.map_take]]
    refine pcs (ce) ?_
    refine rn T 99 [] ?_
    exact ⟨[_], ⟨_, _, rfl, .inl rfl, rfl⟩, .p, rfl⟩
  · rw [decide_eq_false hl, Bool.false_and]
    refine rn T 6 [] ?_
    rw [show decide (((q.map pi).length : Int) ≤ ((p.map pi).length : Int)) = false by simp; omega]
    refine rn T 99 [] ?_
    exact ⟨[_], ⟨_, _, rfl, .inl rfl, rfl⟩, .p, rfl⟩
theorem atOf2 (G : Nat → Option PV) (p : List Int) (hp : p.length ≤ 100000) (t : Mn) : PF Tryd.prog G 60 [.row 1 (p.map pi), pm t] (.p (pm ⟨7, 0, ⟨#[]⟩, p, [t]⟩)) := by
  obtain ⟨k, m, s, q, l⟩ := t
  refine ⟨(by first | exact .p | exact .tp (fun x hx => by simp at hx; rcases hx with rfl | rfl <;> exact .p) | exact .tp (fun x hx => by simp at hx; rcases hx with rfl | rfl | rfl <;> exact .p)), bdy Tryd.func60 (fun _ => 0) rfl ?_⟩
  refine rn T 99 [] ?_; try (first | refine dr1 ?_ | refine dr2 ?_ | refine dr3 ?_ | refine dr4 ?_)
  refine rn T 99 [] ?_
  refine pcs (clone2 G p hp) ?_
  refine rn T 99 [] ?_
  exact ret1 T rfl (by (repeat' apply And.intro) <;> first | trivial | rfl | assumption | omega | exact mT rfl | exact mT (by assumption) | exact mM rfl | exact mM (by assumption) | exact mI (by assumption) | exact mS (by assumption) | exact mU (by assumption) | (simp; done) | (simp [Mn.f0, Mn.f1, Mn.f2, Mn.f3, Mn.f4, Tn.f0]; done) | (simp [*]; done) | (simp [relT, eT_eq, eM_eq, PV.cells, Tn.f0, Mn.f4, *]; done) | (simp; omega)) rfl
def shp (t : Mn) : PV :=
  if t.f0 = 1 then .ifc 112 (.ag [pi t.f1])
  else if t.f0 = 2 then .ifc 114 (.ag [ps t.f2])
  else if t.f0 = 7 then .ifc 106 (.ag (.row 1 (t.f3.map pi) :: (pm (t.f4.getD 0 ⟨0, 0, ⟨#[]⟩, [], []⟩)).cells))
  else if t.f0 = 8 then .ifc 109 (.ag (.row 1 (t.f3.map pi) :: ((pm (t.f4.getD 0 ⟨0, 0, ⟨#[]⟩, [], []⟩)).cells ++ (pm (t.f4.getD 1 ⟨0, 0, ⟨#[]⟩, [], []⟩)).cells)))
  else .ifc 103 (.ag (pi t.f0 :: ((pm (t.f4.getD 0 ⟨0, 0, ⟨#[]⟩, [], []⟩)).cells ++ (pm (t.f4.getD 1 ⟨0, 0, ⟨#[]⟩, [], []⟩)).cells)))
def arB (t : Mn) : Bool := if t.f0 = 1 ∨ t.f0 = 2 then true else if t.f0 = 7 then decide (t.f4.length = 1) else decide (t.f4.length = 2)
theorem arB_o {k m : Int} {s : ByteArray} {p : List Int} {l : List Mn} (h1 : k ≠ 1) (h2 : k ≠ 2) (h7 : k ≠ 7) : arB ⟨k, m, s, p, l⟩ = decide (l.length = 2) := by
  show (if k = 1 ∨ k = 2 then true else if k = 7 then _ else _) = _
  rw [if_neg (fun q => q.elim h1 h2), if_neg h7]
  rfl
theorem shp_o {k m : Int} {s : ByteArray} {p : List Int} {x y : Mn} (h1 : k ≠ 1) (h2 : k ≠ 2) (h7 : k ≠ 7) (h8 : k ≠ 8) : shp ⟨k, m, s, p, [x, y]⟩ = .ifc 103 (.ag (pi k :: ((pm x).cells ++ (pm y).cells))) := by
  show (if k = 1 then _ else if k = 2 then _ else if k = 7 then _ else if k = 8 then _ else _) = _
  rw [if_neg h1, if_neg h2, if_neg h7, if_neg h8]
  rfl
theorem of2 (G : Nat → Option PV) (t : Mn) (h : arB t = true) : PF Tryd.prog G 55 [pm t] (.p (shp t)) := by
  obtain ⟨k, m, s, p, l⟩ := t
  show PF _ _ _ [.ag [pi k, pi m, ps s, .row 1 (p.map pi), .row 5 (l.map eM)]] _
  refine ⟨(by first | exact .p | exact .tp (fun x hx => by simp at hx; rcases hx with rfl | rfl <;> exact .p) | exact .tp (fun x hx => by simp at hx; rcases hx with rfl | rfl | rfl <;> exact .p)), bdy Tryd.func55 (fun _ => 0) rfl ?_⟩
  refine rn T 99 [] ?_
  refine rn T 99 [] ?_
  refine rn T 99 [] ?_
  by_cases h1 : k = 1
  · subst h1
    refine cts ?_
    refine rn T 99 [] ?_
    exact ⟨[_], ⟨_, _, rfl, .inl rfl, rfl⟩, .p, rfl⟩
  refine cfq rfl (by simp [h1]) ?_
  refine rn T 99 [] ?_
  by_cases h2 : k = 2
  · subst h2
    refine cts ?_
    refine rn T 99 [] ?_
    exact ⟨[_], ⟨_, _, rfl, .inl rfl, rfl⟩, .p, rfl⟩
  refine cfq rfl (by simp [h2]) ?_
  refine rn T 99 [] ?_
  by_cases h7 : k = 7
  · subst h7
    obtain ⟨x, rfl⟩ : ∃ x, l = [x] := by
      have : l.length = 1 := of_decide_eq_true (show arB ⟨7, m, s, p, l⟩ = true from h)
      match l, this with
      | [x], _ => exact ⟨x, rfl⟩
    refine cts ?_; try (first | refine dr1 ?_ | refine dr2 ?_ | refine dr3 ?_ | refine dr4 ?_)
    refine rn T 99 [pm x] ?_
    exact ⟨[_], ⟨_, _, rfl, .inl rfl, rfl⟩, .p, rfl⟩
  refine cfq rfl (by simp [h7]) ?_
  refine rn T 99 [] ?_
  obtain ⟨x, y, rfl⟩ : ∃ x y, l = [x, y] := by
    have : l.length = 2 := by
      rw [arB_o h1 h2 h7] at h
      exact of_decide_eq_true h
    match l, this with
    | [x, y], _ => exact ⟨x, y, rfl⟩
  by_cases h8 : k = 8
  · subst h8
    refine cts ?_; try (first | refine dr1 ?_ | refine dr2 ?_ | refine dr3 ?_ | refine dr4 ?_)
    refine rn T 99 [pm x, pm y] ?_
    exact ⟨[_], ⟨_, _, rfl, .inl rfl, rfl⟩, .p, rfl⟩
  refine cfq rfl (by simp [h8]) ?_; try (first | refine dr1 ?_ | refine dr2 ?_ | refine dr3 ?_ | refine dr4 ?_)
  refine rn T 99 [pm x, pm y] ?_
  rw [shp_o h1 h2 h7 h8]
  exact ⟨[_], ⟨_, _, rfl, .inl rfl, rfl⟩, .p, rfl⟩
end Go.Proofs.YtlcmokgnmlklnaaDoor.K
end
section
namespace Go.Proofs.YtlcmokgnmlklnaaDoor.K
open Go Go.RowKit Go.Proofs.YtlcmokgnmlklnaaDoor.En Go.Proofs.YtlcmokgnmlklnaaDoor.Ty Go.Proofs.YtlcmokgnmlklnaaDoor.B
set_option maxRecDepth 100000
set_option linter.unusedSimpArgs false
set_option linter.unusedVariables false
set_option pp.deepTerms false
set_option pp.deepTerms.threshold 8
set_option pp.maxSteps 1000
set_option maxHeartbeats 1000000
abbrev eT0 (a : Addr) : PV := .ifc 128 (.c (.pointer (some a)))
def GT (a : Addr) : Nat → Option PV := fun i => match Nat.beq i 1 with
  | true => some (eT0 a)
  | false => none
def opv (k x y : Int) : Int := if k = 3 then x + y else if k = 4 then x - y else if x < y then 1 else 0
def okN (n : Int) : Bool := decide (0 ≤ n ∧ n ≤ 9999)
theorem two2 (a : Addr) (k x y : Int) (hk : k = 3 ∨ k = 4 ∨ k = 5) (hx : 0 ≤ x ∧ x ≤ 9999) (hy : 0 ≤ y ∧ y ≤ 9999) :
    PF Tryd.prog (GT a) 59 [pi k, .ag [pi x, .row 1 []], .ag [pi y, .row 1 []]] (.tp [.p (.ag [pi (if okN (opv k x y) = true then opv k x y else 0), .row 1 []]), .p (if okN (opv k x y) = true then .c .nilIface else eT0 a)]) := by
  have hfin : ∀ n : Int, okN n = true ∨ okN n = false := fun n => by cases okN n <;> simp
  refine ⟨(by first | exact .p | exact .tp (fun x hx => by simp at hx; rcases hx with rfl | rfl <;> exact .p) | exact .tp (fun x hx => by simp at hx; rcases hx with rfl | rfl | rfl <;> exact .p)), bdy Tryd.func59 (fun _ => 0) rfl ?_⟩
  refine rn T 99 [] ?_
  refine rn T 99 [] ?_
  refine cfq rfl (by simp; omega) ?_
  refine rn T 99 [] ?_
  refine cfs ?_
  refine rn T 99 [] ?_
  refine rn T 99 [] ?_
  refine rn T 99 [] ?_
  rcases hk with rfl | rfl | rfl
  · refine cts ?_
    refine rn T 99 [] ?_
    have hn : opv 3 x y = (x + y) := by simp [opv]
    rw [hn]
    rw [wk (n := x + y) (by omega) (by omega)]
    by_cases h0 : (x + y) < 0
    · rw [show okN ((x + y)) = false from decide_eq_false (by omega), if_neg (by simp), if_neg (by simp)]
      refine rn T 3 [] ?_
      rw [show decide ((x + y) < 0) = true by simp [h0]]
      refine rn T 99 [] ?_
      refine cts ?_; try (first | refine dr1 ?_ | refine dr2 ?_ | refine dr3 ?_ | refine dr4 ?_)
      refine rn T 99 [] ?_
      exact rt2 T (.ag [pi 0, .row 1 []]) (eT0 a) rfl
    · refine rn T 3 [] ?_
      rw [show decide ((x + y) < 0) = false by simp [h0]]
      refine rn T 99 [] ?_
      by_cases h1 : (x + y) > 9999
      · rw [show okN ((x + y)) = false from decide_eq_false (by omega), if_neg (by simp), if_neg (by simp)]
        refine ctq rfl (by simp [h1]) ?_; try (first | refine dr1 ?_ | refine dr2 ?_ | refine dr3 ?_ | refine dr4 ?_)
        refine rn T 99 [] ?_
        exact rt2 T (.ag [pi 0, .row 1 []]) (eT0 a) rfl
      · rw [show okN ((x + y)) = true from decide_eq_true (by omega), if_pos rfl, if_pos rfl]
        refine cfq rfl (by simp [h1]) ?_
        refine rn T 99 [] ?_
        exact rt2 T (.ag [pi (x + y), .row 1 []]) (.c .nilIface) rfl
  · refine cfs ?_
    refine rn T 99 [] ?_
    refine cts ?_
    refine rn T 99 [] ?_
    have hn : opv 4 x y = (x - y) := by simp [opv]
    rw [hn]
    rw [wk (n := x - y) (by omega) (by omega)]
    by_cases h0 : (x - y) < 0
    · rw [show okN ((x - y)) = false from decide_eq_false (by omega), if_neg (by simp), if_neg (by simp)]
      refine rn T 3 [] ?_
      rw [show decide ((x - y) < 0) = true by simp [h0]]
      refine rn T 99 [] ?_
      refine cts ?_; try (first | refine dr1 ?_ | refine dr2 ?_ | refine dr3 ?_ | refine dr4 ?_)
      refine rn T 99 [] ?_
      exact rt2 T (.ag [pi 0, .row 1 []]) (eT0 a) rfl
    · refine rn T 3 [] ?_
      rw [show decide ((x - y) < 0) = false by simp [h0]]
      refine rn T 99 [] ?_
      by_cases h1 : (x - y) > 9999
      · rw [show okN ((x - y)) = false from decide_eq_false (by omega), if_neg (by simp), if_neg (by simp)]
        refine ctq rfl (by simp [h1]) ?_; try (first | refine dr1 ?_ | refine dr2 ?_ | refine dr3 ?_ | refine dr4 ?_)
        refine rn T 99 [] ?_
        exact rt2 T (.ag [pi 0, .row 1 []]) (eT0 a) rfl
      · rw [show okN ((x - y)) = true from decide_eq_true (by omega), if_pos rfl, if_pos rfl]
        refine cfq rfl (by simp [h1]) ?_
        refine rn T 99 [] ?_
        exact rt2 T (.ag [pi (x - y), .row 1 []]) (.c .nilIface) rfl
  · refine cfs ?_
    refine rn T 99 [] ?_
    refine cfs ?_
    refine rn T 99 [] ?_
    refine cts ?_
    refine rn T 99 [] ?_
    by_cases h : x < y
    · have hn : opv 5 x y = 1 := by simp [opv, h]
      rw [hn, show okN 1 = true from rfl, if_pos rfl, if_pos rfl]
      refine ctq rfl (by simp [h]) ?_
      refine rn T 99 [] ?_
      refine rn T 99 [] ?_
      refine cfs ?_
      refine rn T 99 [] ?_
      exact rt2 T (.ag [pi 1, .row 1 []]) (.c .nilIface) rfl
    · have hn : opv 5 x y = 0 := by simp [opv, h]
      rw [hn, show okN 0 = true from rfl, if_pos rfl, if_pos rfl]
      refine cfq rfl (by simp [h]) ?_
      refine rn T 99 [] ?_
      refine cfs ?_
      refine rn T 99 [] ?_
      exact rt2 T (.ag [pi 0, .row 1 []]) (.c .nilIface) rfl
theorem zero2 : (pm ⟨0, 0, ⟨#[]⟩, [], []⟩) = .ag [pi 0, pi 0, ps ⟨#[]⟩, .row 1 [], .row 5 []] := rfl
def sOp (k : Int) (x y : Mn) : Mn × Bool := if k = 6 ∨ x.f0 ≠ 1 ∨ y.f0 ≠ 1 then (⟨0, 0, ⟨#[]⟩, [], []⟩, false) else
  if okN (opv k x.f1 y.f1) = true then (⟨1, opv k x.f1 y.f1, ⟨#[]⟩, [], []⟩, true) else (⟨1, 0, ⟨#[]⟩, [], []⟩, false)
abbrev numB (t : Mn) : Prop := t.f0 = 1 → 0 ≤ t.f1 ∧ t.f1 ≤ 9999
theorem op2 (a : Addr) (k : Int) (x y : Mn) (hk : k = 3 ∨ k = 4 ∨ k = 5 ∨ k = 6) (hx : numB x) (hy : numB y) :
    PF Tryd.prog (GT a) 56 [.ag (pi k :: ((pm x).cells ++ (pm y).cells))] (.tp [.p (pm (sOp k x y).1), .p (pb (sOp k x y).2)]) := by
  obtain ⟨k1, m1, s1, p1, l1⟩ := x
  obtain ⟨k2, m2, s2, p2, l2⟩ := y
  show PF _ _ _ [.ag [pi k, pi k1, pi m1, ps s1, .row 1 (p1.map pi), .row 5 (l1.map eM), pi k2, pi m2, ps s2, .row 1 (p2.map pi), .row 5 (l2.map eM)]] _
  have hs : sOp k ⟨k1, m1, s1, p1, l1⟩ ⟨k2, m2, s2, p2, l2⟩ = if k = 6 ∨ k1 ≠ 1 ∨ k2 ≠ 1 then (⟨0, 0, ⟨#[]⟩, [], []⟩, false) else if okN (opv k m1 m2) = true then (⟨1, opv k m1 m2, ⟨#[]⟩, [], []⟩, true) else (⟨1, 0, ⟨#[]⟩, [], []⟩, false) := rfl
  rw [hs]
  refine ⟨(by first | exact .p | exact .tp (fun x hx => by simp at hx; rcases hx with rfl | rfl <;> exact .p) | exact .tp (fun x hx => by simp at hx; rcases hx with rfl | rfl | rfl <;> exact .p)), bdy Tryd.func56 (fun _ => 0) rfl ?_⟩
  refine rn T 99 [] ?_
  by_cases h6 : k = 6
  · subst h6
    rw [if_pos (.inl rfl)]
    refine rn T 99 [] ?_
    refine cts ?_
    refine rn T 99 [] ?_
    exact rt2 T (pm ⟨0, 0, ⟨#[]⟩, [], []⟩) (pb false) rfl
  refine rn T 4 [] ?_
  rw [show (k == 6) = false by simp [h6]]
  by_cases h1 : k1 = 1
  · subst h1
    by_cases h2 : k2 = 1
    · subst h2
      rw [if_neg (by simp [h6])]
      refine rn T 99 [] ?_
      refine cfs ?_
      refine rn T 99 [] ?_
      have c2 := two2 a k m1 m2 (by omega) (hx rfl) (hy rfl)
      refine rn T 99 [] ?_
      refine pcs (c2) ?_
      refine rn T 99 [] ?_; try (first | refine dr1 ?_ | refine dr2 ?_ | refine dr3 ?_ | refine dr4 ?_)
      cases ho : okN (opv k m1 m2) with
      | true =>
        rw [if_pos rfl, if_pos rfl, if_pos rfl]
        refine rn T 99 [] ?_
        exact rt2 T (pm ⟨1, opv k m1 m2, ⟨#[]⟩, [], []⟩) (pb true) rfl
      | false =>
        rw [if_neg (by simp), if_neg (by simp), if_neg (by simp)]
        refine rn T 99 [] ?_
        exact rt2 T (pm ⟨1, 0, ⟨#[]⟩, [], []⟩) (pb false) rfl
    · rw [if_pos (.inr (.inr h2))]
      refine rn T 10 [] ?_
      rw [show (k2 != 1) = true by simp [h2]]
      refine rn T 99 [] ?_
      refine cts ?_
      refine rn T 99 [] ?_
      exact rt2 T (pm ⟨0, 0, ⟨#[]⟩, [], []⟩) (pb false) rfl
  · rw [if_pos (.inr (.inl h1))]
    refine rn T 4 [] ?_
    rw [show (k1 != 1) = true by simp [h1]]
    refine rn T 99 [] ?_
    refine cts ?_
    refine rn T 99 [] ?_
    exact rt2 T (pm ⟨0, 0, ⟨#[]⟩, [], []⟩) (pb false) rfl
end Go.Proofs.YtlcmokgnmlklnaaDoor.K
end
section
namespace Go.Proofs.YtlcmokgnmlklnaaDoor.K
open Go Go.RowKit Go.Proofs.YtlcmokgnmlklnaaDoor.En Go.Proofs.YtlcmokgnmlklnaaDoor.Ty Go.Proofs.YtlcmokgnmlklnaaDoor.B
set_option maxRecDepth 100000
set_option linter.unusedSimpArgs false
set_option linter.unusedVariables false
set_option pp.deepTerms false
set_option pp.deepTerms.threshold 8
set_option pp.maxSteps 1000
set_option maxHeartbeats 1000000
theorem intZero : (Tryd.prog.info? 3).map (·.zero) = some (some (.int .i64 0)) := by kernel_rfl
theorem intSize : (Tryd.prog.info? 3).map (·.size) = some 1 := by kernel_rfl
theorem intBytes : (Tryd.prog.info? 3).map (·.bytes) = some 8 := by kernel_rfl
theorem grow_calls (w : World) (n : Nat) (hn : 0 < n) (hb : n ≤ 100000) : Calls Tryd.prog 66 #[.slice none 0 0, .int .i64 n] w fun e w' =>
    ∃ cap cur, n ≤ cap ∧ cap ≤ maxLen ∧ e = .returned (.slice (some ⟨w.heap.size, 0, none⟩) 0 cap) ∧ w' = w.drew.alloc (.cells cur 3) ∧ cur.size = cap := by
  obtain ⟨i0, hi0, hz0⟩ := Option.map_eq_some_iff.1 intZero
  have hs0 : i0.size = 1 := by
    obtain ⟨j, hj, h⟩ := Option.map_eq_some_iff.1 intSize
    rw [hi0] at hj; cases hj; exact h
  have hb0 : i0.bytes = 8 := by
    obtain ⟨j, hj, h⟩ := Option.map_eq_some_iff.1 intBytes
    rw [hi0] at hj; cases hj; exact h
  have h1 : ¬ ((n : Int) < 0) := by omega
  have h2 : wrap64 (((0 : Nat) : Int) - ((0 : Nat) : Int)) = 0 := by unfold wrap64; omega
  have h3 : wrap64 ((n : Int) - 0) = (n : Int) := by unfold wrap64; omega
  have h4 : (n : Int) > 0 := by omega
  have hrz : ∀ ty, (Builtin.append_ #[25, 3] ty #[.slice none 0 0, .int .i64 (n : Int)]).run Tryd.prog w = _ := fun ty => by
    have h := Lib.run_append_grow_zeros w 25 3 ty 3 i0 _ .i64 .i64 Tryd.underlying25 Tryd.underlying3 hi0 hz0 none 0 0 [] (run_firstCells_none w.drew i0.size 0 0 0) n (by omega) (by omega) (by omega) (by omega)
      (by rw [hb0]; omega) (by rw [Nat.zero_add]; exact growslice_fits (by omega) (by rw [hb0]; omega))
    simp only [Nat.zero_add] at h
    exact h
  have hcap : n ≤ grownCap w n 0 3 := by have := grownCap_ge w n 0 3; exact this
  have hmax : grownCap w n 0 3 ≤ maxLen := grownCap_le_maxLen w n 0 3 (by unfold maxLen; omega)
  obtain ⟨cp, hcp⟩ : ∃ cp, cp = grownCap w n 0 3 := ⟨_, rfl⟩
  rw [← hcp] at hrz hcap hmax
  have hm63 : cp ≤ 9223372036854775807 := Nat.le_trans hmax (by decide)
  clear hcp
  go_enter Tryd.func66, Tryd.ntmps66
  go_wp2_with (at_builtin; refine Lib.wpList_append_run _ rfl _ _ _ _ rfl _ _ rfl rfl _ _ (hrz _) ?_)
  all_goals (go_ret; refine ⟨cp, hcap, hmax, rfl, _, rfl, ?_⟩; simp [Builtin.zeroCells, Value.cells]; omega)
theorem grow2 (G : Nat → Option PV) (n : Nat) (hn : 0 < n) (hb : n ≤ 100000) : FE Tryd.prog G 66 [.nil, .p (pi n)] [] (fun r H' => r = .vw (.S 0) 0 ∧ H' = [.rw 1 3 []]) := by
  refine ⟨⟨by kernel_rfl, fun w S g V hh hl hv => ?_⟩, _, _, ⟨rfl, rfl⟩, .vw trivial, hsh_rw hsh_nil⟩
  obtain ⟨v0, v1, rfl⟩ : ∃ v0 v1, V = [v0, v1] := by
    match V, hl with
    | [a, b], _ => exact ⟨a, b, rfl⟩
  have t0 := hv 0 _ v0 rfl rfl
  have t1 := hv 1 _ v1 rfl rfl
  cases t0
  cases t1 with | p t1 =>
  cases t1
  refine (grow_calls w n hn hb).mono ?_
  rintro e w' ⟨cap, cur, h1, h2, rfl, rfl, h3⟩
  have hheap : (w.drew.alloc (.cells cur 3)).heap = w.heap.push (.cells cur 3) := rfl
  have hold : ∀ b, b < w.heap.size → (w.drew.alloc (.cells cur 3)).heap[b]? = w.heap[b]? := fun b hb => by
    rw [hheap, Array.getElem?_push, if_neg (by omega)]
  have hcell : ∀ b k, b < w.heap.size → (w.drew.alloc (.cells cur 3)).cell? ⟨b, k, none⟩ = w.cell? ⟨b, k, none⟩ := fun b k hb => by
    unfold World.cell?
    rw [hold b hb]
  have hnew : (w.drew.alloc (.cells cur 3)).heap[w.heap.size]? = some (.cells cur 3 (0, 0)) := by rw [hheap]; simp
  refine ⟨.vw (.S 0) 0, [.rw 1 3 []], _, S, updG g (.S 0) (gvOf (.slice (some ⟨w.heap.size, 0, none⟩) 0 cap)), rfl, ⟨rfl, rfl⟩, .vw trivial, .vw (by show 0 < 1; omega) rfl (fun k hk => ?_), ?_, ?_, fun i hi => absurd hi (Nat.not_lt_zero _)⟩
  · cases hk
    exact ⟨Nat.le_refl _, fun _ => (updG_v _ _ _).symm⟩
  · refine ⟨fun i o ho => ?_, fun i j hne hi hj => ?_, fun b k hk => ?_, hsh_rw hsh_nil, fun i y hy => ?_⟩
    · cases i with
      | zero =>
        cases ho
        have hg : (henv [.rw 1 3 []] (w.drew.alloc (.cells cur 3)) S (updG g (.S 0) (gvOf (.slice (some ⟨w.heap.size, 0, none⟩) 0 cap)))).g (.S 0) = gvOf (.slice (some ⟨w.heap.size, 0, none⟩) 0 cap) := updG_same (g := g) (.S 0) _
        refine ⟨[], ?_, ?_, (fun x hx => by cases hx), (fun k y u hy => by simp [flat] at hy), ?_⟩
        · rw [hg]
          exact ⟨rfl, .inr ⟨w.heap.size, cap, cur, rfl, Nat.zero_le _, hnew, Nat.zero_le _, h2, by simpa using h3, by simp⟩⟩
        · rw [hg]; exact fun b => Iff.rfl
        · rw [hg]
          intro b hb k
          cases hb
          refine ⟨fun hk => ?_, fun hk => by simp at hk⟩
          have := hh.st _ _ hk
          exact absurd this (Nat.lt_irrefl _)
      | succ i => simp at ho
    · simp at hi hj; omega
    · have := hh.st b k hk
      show b < (w.heap.push _).size
      rw [Array.size_push]; omega
    · obtain ⟨u, q1, q2, q3, q4⟩ := hh.gl i y hy
      refine ⟨u, q1, (hcell i 0 (hh.st _ _ q1)).trans q2, q3, q4.move (fun b k hk => ⟨hk, hcell b k (hh.st b k hk)⟩)⟩
  · refine ⟨rfl, rfl, rfl, ?_, Nat.zero_le _, fun b hb _ => hold b hb, fun b k hk => ⟨hk, hcell b k (hh.st b k hk)⟩, fun b k hk => .inl hk, fun i hi b hb => ?_⟩
    · show w.heap.size ≤ (w.heap.push _).size
      rw [Array.size_push]; omega
    · obtain rfl : i = 0 := by simp at hi; omega
      rw [updG_same] at hb
      have hb : blk (.slice (some ⟨w.heap.size, 0, none⟩) 0 cap) = some b := hb
      cases hb
      exact .inl (Nat.le_refl _)
def cat (p q : List Int) : Nat → List Int
  | 0 => []
  | 1 => p
  | _ => p ++ q
theorem concat2 (G : Nat → Option PV) (p q : List Int) (hb : p.length + q.length ≤ 100000) (h0 : 0 < p.length + q.length) : PF Tryd.prog G 61 [.row 1 [.row 1 (p.map pi), .row 1 (q.map pi)]] (.p (.row 1 ((p ++ q).map pi))) := by
  refine ⟨(by first | exact .p | exact .tp (fun x hx => by simp at hx; rcases hx with rfl | rfl <;> exact .p) | exact .tp (fun x hx => by simp at hx; rcases hx with rfl | rfl | rfl <;> exact .p)), bdy Tryd.func61 (fun _ => 0) rfl ?_⟩
  refine rn T 99 [] ?_
  refine rn T 99 [] ?_
  refine rn T 99 [] ?_
  refine lpw (fun i : Nat => MS.mk [(11, .p (pi i)), (10, .p (pi 2)), (9, .p (.row 1 [.row 1 (p.map pi), .row 1 (q.map pi)])), (3, .p (pi (cat p q i).length)), (0, .p (.row 1 [.row 1 (p.map pi), .row 1 (q.map pi)]))] 36 [] []) (fun m i => m + i = 2) (2) (0) (by simp) ?_
  intro m i hi
  refine op ?_
  refine rn T 99 [] ?_
  obtain rfl | rfl | rfl : i = 0 ∨ i = 1 ∨ i = 2 := by omega
  · refine cts ?_
    refine rn T 99 [.row 1 (p.map pi)] ?_
    refine rn T 99 [] ?_
    rw [show ((cat p q 0).length : Int) + ((p.map pi).length : Int) = ((cat p q 1).length : Int) by simp [cat], wk (by omega) (by simp [cat]; omega)]
    refine rn T 99 [] ?_
    refine cfq rfl (by simp) ?_
    refine rn T 99 [] ?_
    rw [show (((0 : Nat) : Int) + 1) = ((1 : Nat) : Int) by rfl, wk (by omega) (by omega)]
    refine nxt (m - 1) (1) (by omega)
  · refine cts ?_
    refine rn T 99 [.row 1 (q.map pi)] ?_
    refine rn T 99 [] ?_
    rw [show ((cat p q 1).length : Int) + ((q.map pi).length : Int) = ((cat p q 2).length : Int) by simp [cat], wk (by omega) (by simp [cat]; omega)]
    refine rn T 99 [] ?_
    refine cfq rfl (by simp) ?_
    refine rn T 99 [] ?_
    rw [show (((1 : Nat) : Int) + 1) = ((2 : Nat) : Int) by rfl, wk (by omega) (by omega)]
    refine nxt (m - 1) (2) (by omega)
  · refine cfs ?_
    refine rn T 99 [] ?_
    have cg := grow2 G (p.length + q.length) h0 hb
    have e2 : ((cat p q 2).length : Int) = ((p.length + q.length : Nat) : Int) := by simp [cat]
    rw [e2]
    refine hes (cg) ?_; rintro _ _ ⟨rfl, rfl⟩ _ _; refine op ?_
    refine rn T 99 [] ?_
    refine rn T 99 [] ?_
    refine lpw (fun i : Nat => MS.mk [(27, .p (pi i)), (26, .p (pi 2)), (25, .p (.row 1 [.row 1 (p.map pi), .row 1 (q.map pi)])), (6, .vw (.S 0) (cat p q i).length)] 36 [] [.rw 1 3 ((cat p q i).map pi)]) (fun m i => m + i = 2) (2) (0) (by simp) ?_
    intro m i hi
    refine op ?_
    refine rn T 99 [] ?_
    obtain rfl | rfl | rfl : i = 0 ∨ i = 1 ∨ i = 2 := by omega
    · refine cts ?_
      refine rn T 99 [.row 1 (p.map pi)] ?_
      have q1 : (cat p q 0).length + p.length = (cat p q 1).length := by simp [cat]
      have q2 : (cat p q 1).length ≤ 100000 := by simp [cat]; omega
      refine rn T 99 [] ?_
      rw [show ((cat p q 0).map pi).length + (p.map pi).length = (cat p q 1).length by simp [cat], show (cat p q 0).map pi ++ p.map pi = (cat p q 1).map pi by simp [cat]]
      refine rn T 99 [] ?_
      rw [show (((0 : Nat) : Int) + 1) = ((1 : Nat) : Int) by rfl, wk (by omega) (by omega)]
      refine nxt (m - 1) (1) (by omega)
    · refine cts ?_
      refine rn T 99 [.row 1 (q.map pi)] ?_
      have q1 : (cat p q 1).length + q.length = (cat p q 2).length := by simp [cat]
      have q2 : (cat p q 2).length ≤ 100000 := by simp [cat]; omega
      refine rn T 99 [] ?_
      rw [show ((cat p q 1).map pi).length + (q.map pi).length = (cat p q 2).length by simp [cat], show (cat p q 1).map pi ++ q.map pi = (cat p q 2).map pi by simp [cat]]
      refine rn T 99 [] ?_
      rw [show (((1 : Nat) : Int) + 1) = ((2 : Nat) : Int) by rfl, wk (by omega) (by omega)]
      refine nxt (m - 1) (2) (by omega)
    · refine cfs ?_
      refine rn T 99 [] ?_
      exact rt1 T (.row 1 ((p ++ q).map pi)) rfl
end Go.Proofs.YtlcmokgnmlklnaaDoor.K
end
section
namespace Go.Proofs.YtlcmokgnmlklnaaDoor.K
open Go Go.RowKit Go.Proofs.YtlcmokgnmlklnaaDoor.En Go.Proofs.YtlcmokgnmlklnaaDoor.Ty Go.Proofs.YtlcmokgnmlklnaaDoor.B
set_option maxRecDepth 100000
set_option linter.unusedSimpArgs false
set_option linter.unusedVariables false
set_option pp.deepTerms false
set_option pp.deepTerms.threshold 8
set_option pp.maxSteps 1000
set_option maxHeartbeats 1000000
abbrev zM : Mn := ⟨0, 0, ⟨#[]⟩, [], []⟩
abbrev atM (p : List Int) (t : Mn) : Mn := ⟨7, 0, ⟨#[]⟩, p, [t]⟩
def plB (t : Mn) : Bool := t.f0 == 1 || t.f0 == 2
def kid (t : Mn) (i : Nat) : Mn := t.f4.getD i zM
def sAt (p : List Int) (t : Mn) : Option Mn := match p with
  | [] => some t
  | i :: r => if t.f0 = 7 then some (atM (t.f3 ++ (i :: r)) (kid t 0))
    else if t.f0 = 8 then (if bgn (i :: r) t.f3 = true then (if plB (kid t 0) = true then some (atM ((i :: r).drop t.f3.length) (kid t 1)) else none)
      else if bgn t.f3 (i :: r) = false ∧ plB (kid t 1) = true then some (atM (i :: r) (kid t 0)) else none)
    else if t.f0 = 6 then (if i = 0 ∧ plB (kid t 1) = true then some (atM r (kid t 0)) else if i = 1 ∧ plB (kid t 0) = true then some (atM r (kid t 1)) else none)
    else none
theorem at2 (G : Nat → Option PV) (p : List Int) (t : Mn) (h : arB t = true) (hp : p.length ≤ 50000) (hq : t.f3.length ≤ 50000) :
    PF Tryd.prog G 57 [.ag (.row 1 (p.map pi) :: (pm t).cells)] (.tp [.p (pm ((sAt p t).getD zM)), .p (pb (sAt p t).isSome)]) := by
  have ho := of2 G t h
  obtain ⟨k, m, s, q, l⟩ := t
  have hq : q.length ≤ 50000 := hq
  show PF _ _ _ [.ag [.row 1 (p.map pi), pi k, pi m, ps s, .row 1 (q.map pi), .row 5 (l.map eM)]] _
  refine ⟨(by first | exact .p | exact .tp (fun x hx => by simp at hx; rcases hx with rfl | rfl <;> exact .p) | exact .tp (fun x hx => by simp at hx; rcases hx with rfl | rfl | rfl <;> exact .p)), bdy Tryd.func57 (fun _ => 0) rfl ?_⟩
  refine rn T 99 [] ?_
  refine rn T 99 [] ?_
  cases p with
  | nil =>
    refine cts ?_
    refine rn T 99 [] ?_
    exact rt2 T (pm ⟨k, m, s, q, l⟩) (pb true) rfl
  | cons i r =>
    refine cfq rfl (by simp; omega) ?_
    refine rn T 99 [] ?_
    by_cases h1 : k = 1
    · subst h1
      have hs : sAt (i :: r) ⟨1, m, s, q, l⟩ = none := rfl
      rw [hs]
      refine pcs (ho) ?_
      refine rn T 99 [] ?_
      refine cfs ?_
      refine rn T 99 [] ?_
      refine cfs ?_
      refine rn T 99 [] ?_
      refine cfs ?_
      refine rn T 99 [] ?_
      exact rt2 T (pm zM) (pb false) rfl
    by_cases h2 : k = 2
    · subst h2
      have hs : sAt (i :: r) ⟨2, m, s, q, l⟩ = none := rfl
      rw [hs]
      refine pcs (ho) ?_
      refine rn T 99 [] ?_
      refine cfs ?_
      refine rn T 99 [] ?_
      refine cfs ?_
      refine rn T 99 [] ?_
      refine cfs ?_
      refine rn T 99 [] ?_
      exact rt2 T (pm zM) (pb false) rfl
    by_cases h7 : k = 7
    · subst h7
      obtain ⟨x, rfl⟩ : ∃ x, l = [x] := by
        have : l.length = 1 := of_decide_eq_true (show arB ⟨7, m, s, q, l⟩ = true from h)
        match l, this with
        | [x], _ => exact ⟨x, rfl⟩
      have hs : sAt (i :: r) ⟨7, m, s, q, [x]⟩ = some (atM (q ++ (i :: r)) x) := rfl
      rw [hs]
      have ho7 : PF Tryd.prog G 55 [pm ⟨7, m, s, q, [x]⟩] (.p (.ifc 106 (.ag (.row 1 (q.map pi) :: (pm x).cells)))) := ho
      refine pcs (ho7) ?_
      refine rn T 99 [] ?_
      refine cts ?_
      refine rn T 99 [] ?_; try (first | refine dr1 ?_ | refine dr2 ?_ | refine dr3 ?_ | refine dr4 ?_)
      refine rn T 99 [] ?_
      have cc := concat2 G q (i :: r) (by omega) (by simp; omega)
      refine pcs (cc) ?_
      refine rn T 99 [] ?_
      have ca := atOf2 G (q ++ (i :: r)) (by simp at hp ⊢; omega) x
      refine pcs (ca) ?_
      refine rn T 99 [] ?_
      exact rt2 T (pm (atM (q ++ (i :: r)) x)) (pb true) rfl
    obtain ⟨x, y, rfl⟩ : ∃ x y, l = [x, y] := by
      have : l.length = 2 := by
        rw [arB_o h1 h2 h7] at h
        exact of_decide_eq_true h
      match l, this with
      | [x, y], _ => exact ⟨x, y, rfl⟩
    have px := plain2 G x
    have py := plain2 G y
    by_cases h8 : k = 8
    · subst h8
      have hs : sAt (i :: r) ⟨8, m, s, q, [x, y]⟩ = if bgn (i :: r) q = true then (if plB x = true then some (atM ((i :: r).drop q.length) y) else none) else if bgn q (i :: r) = false ∧ plB y = true then some (atM (i :: r) x) else none := rfl
      rw [hs]
      have ho8 : PF Tryd.prog G 55 [pm ⟨8, m, s, q, [x, y]⟩] (.p (.ifc 109 (.ag (.row 1 (q.map pi) :: ((pm x).cells ++ (pm y).cells))))) := ho
      refine pcs (ho8) ?_
      refine rn T 99 [] ?_
      refine cfs ?_
      refine rn T 99 [] ?_
      refine cfs ?_
      refine rn T 99 [] ?_
      refine cts ?_
      refine rn T 99 [] ?_
      refine rn T 99 [] ?_
      have c1 := begins2 G (i :: r) q (by omega) (by omega)
      cases hb : bgn (i :: r) q with
      | true =>
        rw [hb] at c1
        have hle : q.length ≤ (i :: r).length := by
          unfold bgn at hb
          simp only [Bool.and_eq_true, decide_eq_true_eq] at hb
          exact hb.1
        have hle' : q.length ≤ r.length + 1 := by simpa using hle
        refine pcs (c1) ?_
        rw [if_pos rfl]
        refine cts ?_
        refine rn T 99 [] ?_
        cases hx : plB x with
        | true =>
          rw [show (x.f0 == 1 || x.f0 == 2) = true from hx] at px
          refine pcs (px) ?_
          rw [if_pos rfl]
          refine cts ?_; try (first | refine dr1 ?_ | refine dr2 ?_ | refine dr3 ?_ | refine dr4 ?_)
          refine rn T 99 [] ?_
          rw [show List.take (List.map pi (i :: r)).length (List.map pi (i :: r)) = List.map pi (i :: r) from List.take_of_length_le (Nat.le_refl _), show List.drop ((q.map pi).length : Int).toNat (List.map pi (i :: r)) = ((i :: r).drop q.length).map pi by rw [List.map_drop]; simp]
          have ca := atOf2 G ((i :: r).drop q.length) (by rw [List.length_drop]; omega) y
          refine pcs (ca) ?_
          refine rn T 99 [] ?_
          exact rt2 T (pm (atM ((i :: r).drop q.length) y)) (pb true) rfl
        | false =>
          rw [show (x.f0 == 1 || x.f0 == 2) = false from hx] at px
          refine pcs (px) ?_
          rw [if_neg (by simp)]
          refine cfs ?_
          refine rn T 99 [] ?_
          exact rt2 T (pm zM) (pb false) rfl
      | false =>
        rw [hb] at c1
        refine pcs (c1) ?_
        rw [if_neg (by simp)]
        refine cfs ?_
        refine rn T 99 [] ?_
        have c2 := begins2 G q (i :: r) (by omega) (by omega)
        cases hb2 : bgn q (i :: r) with
        | true =>
          rw [hb2] at c2
          refine pcs (c2) ?_
          refine rn T 99 [] ?_
          rw [if_neg (by simp)]
          refine cfs ?_
          refine rn T 99 [] ?_
          exact rt2 T (pm zM) (pb false) rfl
        | false =>
          rw [hb2] at c2
          refine pcs (c2) ?_
          refine rn T 99 [] ?_
          cases hy : plB y with
          | true =>
            rw [show (y.f0 == 1 || y.f0 == 2) = true from hy] at py
            refine pcs (py) ?_
            refine rn T 99 [] ?_
            rw [if_pos ⟨rfl, rfl⟩]
            refine cts ?_
            refine rn T 99 [] ?_
            have ca := atOf2 G (i :: r) (by omega) x
            refine pcs (ca) ?_
            refine rn T 99 [] ?_
            exact rt2 T (pm (atM (i :: r) x)) (pb true) rfl
          | false =>
            rw [show (y.f0 == 1 || y.f0 == 2) = false from hy] at py
            refine pcs (py) ?_
            refine rn T 99 [] ?_
            rw [if_neg (by simp)]
            refine cfs ?_
            refine rn T 99 [] ?_
            exact rt2 T (pm zM) (pb false) rfl
    rw [shp_o h1 h2 h7 h8] at ho
    have hs : sAt (i :: r) ⟨k, m, s, q, [x, y]⟩ = if k = 6 then (if i = 0 ∧ plB y = true then some (atM r x) else if i = 1 ∧ plB x = true then some (atM r y) else none) else none := by
      show (if k = 7 then _ else if k = 8 then _ else _) = _
      rw [if_neg h7, if_neg h8]
      rfl
    rw [hs]
    refine pcs (ho) ?_
    refine rn T 99 [] ?_
    refine cfs ?_
    refine rn T 99 [] ?_
    refine cts ?_
    refine rn T 99 [] ?_
    refine rn T 99 [] ?_
    by_cases h6 : k = 6
    · subst h6
      rw [if_pos rfl]
      refine cfs ?_
      refine rn T 5 [pi i] ?_
      by_cases h0 : i = 0
      · subst h0
        cases hy : plB y with
        | true =>
          rw [show (y.f0 == 1 || y.f0 == 2) = true from hy] at py
          rw [if_pos ⟨rfl, rfl⟩]
          refine rn T 99 [] ?_
          refine pcs (py) ?_
          refine rn T 99 [] ?_
          refine cts ?_; try (first | refine dr1 ?_ | refine dr2 ?_ | refine dr3 ?_ | refine dr4 ?_)
          refine rn T 99 [] ?_
          rw [show List.drop (1 : Int).toNat (List.take (List.map pi (0 :: r)).length (List.map pi (0 :: r))) = r.map pi by simp; exact List.take_of_length_le (by simp)]
          have ca := atOf2 G r (by simp at hp; omega) x
          refine pcs (ca) ?_
          refine rn T 99 [] ?_
          exact rt2 T (pm (atM r x)) (pb true) rfl
        | false =>
          rw [show (y.f0 == 1 || y.f0 == 2) = false from hy] at py
          rw [if_neg (by simp), if_neg (by simp)]
          refine rn T 99 [] ?_
          refine pcs (py) ?_
          refine rn T 99 [] ?_
          refine cfs ?_
          refine rn T 99 [pi 0] ?_
          refine cfs ?_
          refine rn T 99 [] ?_
          exact rt2 T (pm zM) (pb false) rfl
      · rw [show (i == 0) = false by simp [h0], if_neg (fun q => h0 q.1)]
        refine rn T 99 [] ?_
        refine cfs ?_
        refine rn T 5 [pi i] ?_
        by_cases h1' : i = 1
        · subst h1'
          cases hx : plB x with
          | true =>
            rw [show (x.f0 == 1 || x.f0 == 2) = true from hx] at px
            rw [if_pos ⟨rfl, rfl⟩]
            refine rn T 99 [] ?_
            refine pcs (px) ?_
            refine rn T 99 [] ?_
            refine cts ?_; try (first | refine dr1 ?_ | refine dr2 ?_ | refine dr3 ?_ | refine dr4 ?_)
            refine rn T 99 [] ?_
            rw [show List.drop (1 : Int).toNat (List.take (List.map pi (1 :: r)).length (List.map pi (1 :: r))) = r.map pi by simp; exact List.take_of_length_le (by simp)]
            have ca := atOf2 G r (by simp at hp; omega) y
            refine pcs (ca) ?_
            refine rn T 99 [] ?_
            exact rt2 T (pm (atM r y)) (pb true) rfl
          | false =>
            rw [show (x.f0 == 1 || x.f0 == 2) = false from hx] at px
            rw [if_neg (by simp)]
            refine rn T 99 [] ?_
            refine pcs (px) ?_
            refine rn T 99 [] ?_
            refine cfs ?_
            refine rn T 99 [] ?_
            exact rt2 T (pm zM) (pb false) rfl
        · rw [show (i == 1) = false by simp [h1'], if_neg (fun q => h1' q.1)]
          refine rn T 99 [] ?_
          refine cfs ?_
          refine rn T 99 [] ?_
          exact rt2 T (pm zM) (pb false) rfl
    · rw [if_neg h6]
      refine ctq rfl (by simp [h6]) ?_
      refine rn T 99 [] ?_
      exact rt2 T (pm zM) (pb false) rfl
end Go.Proofs.YtlcmokgnmlklnaaDoor.K
end
section
namespace Go.Proofs.YtlcmokgnmlklnaaDoor.En
set_option linter.unusedVariables false
set_option linter.unusedSimpArgs false
open Go Go.RowKit Go.Proofs.YtlcmokgnmlklnaaDoor.PA
variable {P : Program} {G : Nat → Option PV} {md : Nat → Nat}
theorem EOps.taz {hbs : Nat → Bool} {ops : Array Oper} {K : St → Prop} {r : List Oper} {i : Nat} {l : List (Nat × TV)} {n : Nat} {o : List (Nat × AObj)} {H : List AObj} {d t xt t' : Nat} {y : PV} {x : Operand} {ty : TypeId} {pos : String} {af : Array Edge} {gd : Option (Nat × Bool)} {F : Array Field} {zs : List Value}
    (hf : hbs 4294967296 = true) (hg : gtM ops.toList l n gd = true) (hx : evM l x = some (.p (.ifc t' y))) (hne : Nat.beq t' t = false) (hd : P.underlying t = some (.struct F)) (hZ : (P.info? t).bind (·.zero) = some (.agg zs.toArray)) (h1 : zs.all (fun u => u.oneCell') = true) (hdn : Nat.blt d n = true)
    (k : EOps P hbs ops (i + 1) r ((MS.mk ((d, .tp [.ag (zs.map cv), .p (.c (.bool false))]) :: l) n o H).st G md) K) :
    EOps P hbs ops i (⟨some d, .typeAssert x xt t true, ty, pos, af, gd⟩ :: r) ((MS.mk l n o H).st G md) K := by
  refine EOps.sem hf (want_of hg) (fun E a w S g hr Q => ?_)
  have hX := hr.eval x
  rw [show ((MS.mk l n o H).st G md).ev x = _ from evM_ev hx] at hX
  have hz : (zeroValue t).run P w = .ok (.agg zs.toArray) w := by
    cases hi : P.info? t with
    | none => rw [hi] at hZ; cases hZ
    | some i => rw [hi] at hZ; simp only [Option.bind_some] at hZ; simp [zeroValue, typeInfo, hi, hZ]
  have hne' : t' ≠ t := fun e => by rw [e, Nat.beq_refl] at hne; cases hne
  have h1' : ∀ u ∈ zs, u.oneCell' = true := fun u hu => List.all_eq_true.1 h1 u hu
  generalize hXe : a.eval x = X at hX
  cases hX with | p hX =>
  cases hX with
  | @ifc _ _ u hu =>
  have hrun : (execOp a.eval ⟨some d, .typeAssert x xt t true, ty, pos, af, gd⟩).run P w = .ok (.value (.tuple #[.agg zs.toArray, .bool false])) w := by
    simp [execOp, hXe, Instr.typeAssert, run_underlying hd, hne', hz]
  unfold Oper.wp
  rw [hrun, Oper.upon_value]
  have hput := hr.put (v := .tp [.ag (zs.map cv), .p (.c (.bool false))]) (V := .tuple #[.agg zs.toArray, .bool false]) (.tp (A := [.agg zs.toArray, .bool false]) rfl (fun k y q hy hq => ?_)) (some d)
  · rw [st_put hdn] at hput
    exact ⟨_, S, g, k, hput⟩
  · match k with
    | 0 =>
      simp at hy hq
      subst hy; subst hq
      have hc := CRep.consts (Γ := ((MS.mk l n o H).st G md).env w S g) h1'
      exact .ag hc.len hc.get h1'
    | 1 => simp at hy hq; subst hy; subst hq; exact .p (.c rfl)
    | k + 2 => simp at hy
end Go.Proofs.YtlcmokgnmlklnaaDoor.En
end
section
namespace Go.Proofs.YtlcmokgnmlklnaaDoor.K
open Go Go.RowKit Go.Proofs.YtlcmokgnmlklnaaDoor.En Go.Proofs.YtlcmokgnmlklnaaDoor.Ty Go.Proofs.YtlcmokgnmlklnaaDoor.B
set_option maxRecDepth 100000
set_option linter.unusedSimpArgs false
set_option linter.unusedVariables false
set_option pp.deepTerms false
set_option pp.deepTerms.threshold 8
set_option pp.maxSteps 1000
set_option maxHeartbeats 1000000
def sPut (p : List Int) (x y : Mn) : Option Mn := if p = [] ∧ plB x = true then some y else if x.f0 = 8 ∧ x.f3 = p ∧ plB (kid x 1) = true then some ⟨8, 0, ⟨#[]⟩, p, [kid x 0, y]⟩ else none
theorem putZero : (Tryd.prog.info? 109).bind (·.zero) = some (.agg [Value.slice none 0 0, .int .i64 0, .int .i64 0, .string ⟨#[]⟩, .slice none 0 0, .slice none 0 0, .int .i64 0, .int .i64 0, .string ⟨#[]⟩, .slice none 0 0, .slice none 0 0].toArray) := by kernel_rfl
theorem put2 (G : Nat → Option PV) (p : List Int) (x y : Mn) (h : arB x = true) (hp : p.length ≤ 50000) (hq : x.f3.length ≤ 50000) :
    PF Tryd.prog G 58 [.ag (.row 1 (p.map pi) :: ((pm x).cells ++ (pm y).cells))] (.tp [.p (pm ((sPut p x y).getD zM)), .p (pb (sPut p x y).isSome)]) := by
  have px := plain2 G x
  have ho := of2 G x h
  have rest : ∀ (hn : ¬ (p = [] ∧ plB x = true)), sPut p x y = if x.f0 = 8 ∧ x.f3 = p ∧ plB (kid x 1) = true then some ⟨8, 0, ⟨#[]⟩, p, [kid x 0, y]⟩ else none := fun hn => by
    unfold sPut
    rw [if_neg hn]
  obtain ⟨k, m, s, q, l⟩ := x
  have hq : q.length ≤ 50000 := hq
  refine ⟨(by first | exact .p | exact .tp (fun x hx => by simp at hx; rcases hx with rfl | rfl <;> exact .p) | exact .tp (fun x hx => by simp at hx; rcases hx with rfl | rfl | rfl <;> exact .p)), bdy Tryd.func58 (fun _ => 0) rfl ?_⟩
  refine rn T 99 [] ?_
  refine rn T 3 [] ?_
  by_cases hp0 : p = []
  · subst hp0
    refine rn T 99 [] ?_
    cases hx : plB ⟨k, m, s, q, l⟩ with
    | true =>
      rw [show ((⟨k, m, s, q, l⟩ : Mn).f0 == 1 || (⟨k, m, s, q, l⟩ : Mn).f0 == 2) = true from hx] at px
      have hs : sPut [] ⟨k, m, s, q, l⟩ y = some y := by unfold sPut; rw [if_pos ⟨rfl, hx⟩]
      rw [hs]
      refine pcs (px) ?_
      refine rn T 99 [] ?_
      refine cts ?_
      refine rn T 99 [] ?_
      exact rt2 T (pm y) (pb true) rfl
    | false =>
      rw [show ((⟨k, m, s, q, l⟩ : Mn).f0 == 1 || (⟨k, m, s, q, l⟩ : Mn).f0 == 2) = false from hx] at px
      have HN : ¬ (([] : List Int) = [] ∧ plB ⟨k, m, s, q, l⟩ = true) := fun q => by rw [hx] at q; cases q.2
      refine pcs (px) ?_
      refine rn T 99 [] ?_
      refine cfs ?_
      rw [rest HN]
      refine rn T 99 [] ?_
      by_cases h1 : k = 1
      · subst h1
        rw [if_neg (fun q => by cases q.1)]
        refine pcs (ho) ?_
        refine EOps.taz rfl rfl rfl rfl Tryd.underlying109 putZero rfl rfl ?_
        refine rn T 99 [] ?_
        refine rn T 99 [] ?_
        refine cfs ?_
        refine rn T 99 [] ?_
        exact rt2 T (pm zM) (pb false) rfl
      by_cases h2 : k = 2
      · subst h2
        rw [if_neg (fun q => by cases q.1)]
        refine pcs (ho) ?_
        refine EOps.taz rfl rfl rfl rfl Tryd.underlying109 putZero rfl rfl ?_
        refine rn T 99 [] ?_
        refine rn T 99 [] ?_
        refine cfs ?_
        refine rn T 99 [] ?_
        exact rt2 T (pm zM) (pb false) rfl
      by_cases h7 : k = 7
      · subst h7
        rw [if_neg (fun q => by cases q.1)]
        refine pcs (ho) ?_
        refine EOps.taz rfl rfl rfl rfl Tryd.underlying109 putZero rfl rfl ?_
        refine rn T 99 [] ?_
        refine rn T 99 [] ?_
        refine cfs ?_
        refine rn T 99 [] ?_
        exact rt2 T (pm zM) (pb false) rfl
      obtain ⟨a, b, rfl⟩ : ∃ a b, l = [a, b] := by
        have : l.length = 2 := by
          rw [arB_o h1 h2 h7] at h
          exact of_decide_eq_true h
        match l, this with
        | [a, b], _ => exact ⟨a, b, rfl⟩
      by_cases h8 : k = 8
      · subst h8
        have ho8 : PF Tryd.prog G 55 [pm ⟨8, m, s, q, [a, b]⟩] (.p (.ifc 109 (.ag (.row 1 (q.map pi) :: ((pm a).cells ++ (pm b).cells))))) := ho
        have pbb := plain2 G b
        have ce := equal2 G q [] (by omega) (by simp)
        refine pcs (ho8) ?_
        refine rn T 99 [] ?_
        refine rn T 99 [] ?_
        cases he : (q == []) with
        | true =>
          rw [he] at ce
          have he' : q = [] := by simpa using he
          refine pcs (ce) ?_
          refine rn T 99 [] ?_
          cases hb : plB b with
          | true =>
            rw [show (b.f0 == 1 || b.f0 == 2) = true from hb] at pbb
            refine pcs (pbb) ?_
            refine rn T 99 [] ?_
            rw [if_pos ⟨rfl, he', hb⟩]
            refine cts ?_; try (first | refine dr1 ?_ | refine dr2 ?_ | refine dr3 ?_ | refine dr4 ?_)
            refine rn T 99 [] ?_
            have cc := clone2 G [] (by simp)
            refine pcs (cc) ?_
            refine rn T 99 [] ?_
            exact rt2 T (pm ⟨8, 0, ⟨#[]⟩, [], [a, y]⟩) (pb true) rfl
          | false =>
            rw [show (b.f0 == 1 || b.f0 == 2) = false from hb] at pbb
            refine pcs (pbb) ?_
            refine rn T 99 [] ?_
            rw [if_neg (fun q => by have := q.2.2; rw [show plB (kid ⟨8, m, s, _, [a, b]⟩ 1) = plB b from rfl, hb] at this; cases this)]
            refine cfs ?_
            refine rn T 99 [] ?_
            exact rt2 T (pm zM) (pb false) rfl
        | false =>
          rw [he] at ce
          refine pcs (ce) ?_
          refine rn T 99 [] ?_
          rw [if_neg (fun hh => by have h3 : q = [] := hh.2.1; rw [h3] at he; simp at he)]
          refine cfs ?_
          refine rn T 99 [] ?_
          exact rt2 T (pm zM) (pb false) rfl
      rw [shp_o h1 h2 h7 h8] at ho
      rw [if_neg (fun q => h8 q.1)]
      refine pcs (ho) ?_
      refine EOps.taz rfl rfl rfl rfl Tryd.underlying109 putZero rfl rfl ?_
      refine rn T 99 [] ?_
      refine rn T 99 [] ?_
      refine cfs ?_
      refine rn T 99 [] ?_
      exact rt2 T (pm zM) (pb false) rfl
  · have HN : ¬ (p = [] ∧ plB ⟨k, m, s, q, l⟩ = true) := fun q => hp0 q.1
    have hp1 : (((p.map pi).length : Int) == 0) = false := by
      rw [beq_eq_false_iff_ne]
      intro e
      exact hp0 (List.length_eq_zero_iff.1 (by simpa using e))
    refine rn T 1 [] ?_
    rw [hp1]
    refine rn T 99 [] ?_
    refine cfs ?_
    rw [rest HN]
    refine rn T 99 [] ?_
    by_cases h1 : k = 1
    · subst h1
      rw [if_neg (fun q => by cases q.1)]
      refine pcs (ho) ?_
      refine EOps.taz rfl rfl rfl rfl Tryd.underlying109 putZero rfl rfl ?_
      refine rn T 99 [] ?_
      refine rn T 99 [] ?_
      refine cfs ?_
      refine rn T 99 [] ?_
      exact rt2 T (pm zM) (pb false) rfl
    by_cases h2 : k = 2
    · subst h2
      rw [if_neg (fun q => by cases q.1)]
      refine pcs (ho) ?_
      refine EOps.taz rfl rfl rfl rfl Tryd.underlying109 putZero rfl rfl ?_
      refine rn T 99 [] ?_
      refine rn T 99 [] ?_
      refine cfs ?_
      refine rn T 99 [] ?_
      exact rt2 T (pm zM) (pb false) rfl
    by_cases h7 : k = 7
    · subst h7
      rw [if_neg (fun q => by cases q.1)]
      refine pcs (ho) ?_
      refine EOps.taz rfl rfl rfl rfl Tryd.underlying109 putZero rfl rfl ?_
      refine rn T 99 [] ?_
      refine rn T 99 [] ?_
      refine cfs ?_
      refine rn T 99 [] ?_
      exact rt2 T (pm zM) (pb false) rfl
    obtain ⟨a, b, rfl⟩ : ∃ a b, l = [a, b] := by
      have : l.length = 2 := by
        rw [arB_o h1 h2 h7] at h
        exact of_decide_eq_true h
      match l, this with
      | [a, b], _ => exact ⟨a, b, rfl⟩
    by_cases h8 : k = 8
    · subst h8
      have ho8 : PF Tryd.prog G 55 [pm ⟨8, m, s, q, [a, b]⟩] (.p (.ifc 109 (.ag (.row 1 (q.map pi) :: ((pm a).cells ++ (pm b).cells))))) := ho
      have pbb := plain2 G b
      have ce := equal2 G q p (by omega) (by omega)
      refine pcs (ho8) ?_
      refine rn T 99 [] ?_
      refine rn T 99 [] ?_
      cases he : (q == p) with
      | true =>
        rw [he] at ce
        have he' : q = p := by simpa using he
        refine pcs (ce) ?_
        refine rn T 99 [] ?_
        cases hb : plB b with
        | true =>
          rw [show (b.f0 == 1 || b.f0 == 2) = true from hb] at pbb
          refine pcs (pbb) ?_
          refine rn T 99 [] ?_
          rw [if_pos ⟨rfl, he', hb⟩]
          refine cts ?_; try (first | refine dr1 ?_ | refine dr2 ?_ | refine dr3 ?_ | refine dr4 ?_)
          refine rn T 99 [] ?_
          have cc := clone2 G p (by omega)
          refine pcs (cc) ?_
          refine rn T 99 [] ?_
          exact rt2 T (pm ⟨8, 0, ⟨#[]⟩, p, [a, y]⟩) (pb true) rfl
        | false =>
          rw [show (b.f0 == 1 || b.f0 == 2) = false from hb] at pbb
          refine pcs (pbb) ?_
          refine rn T 99 [] ?_
          rw [if_neg (fun q => by have := q.2.2; rw [show plB (kid ⟨8, m, s, _, [a, b]⟩ 1) = plB b from rfl, hb] at this; cases this)]
          refine cfs ?_
          refine rn T 99 [] ?_
          exact rt2 T (pm zM) (pb false) rfl
      | false =>
        rw [he] at ce
        refine pcs (ce) ?_
        refine rn T 99 [] ?_
        rw [if_neg (fun hh => by have h3 : q = p := hh.2.1; rw [h3] at he; simp at he)]
        refine cfs ?_
        refine rn T 99 [] ?_
        exact rt2 T (pm zM) (pb false) rfl
    rw [shp_o h1 h2 h7 h8] at ho
    rw [if_neg (fun q => h8 q.1)]
    refine pcs (ho) ?_
    refine EOps.taz rfl rfl rfl rfl Tryd.underlying109 putZero rfl rfl ?_
    refine rn T 99 [] ?_
    refine rn T 99 [] ?_
    refine cfs ?_
    refine rn T 99 [] ?_
    exact rt2 T (pm zM) (pb false) rfl
end Go.Proofs.YtlcmokgnmlklnaaDoor.K
end
section
namespace Go.Proofs.YtlcmokgnmlklnaaDoor.K
open Go Go.RowKit Go.Proofs.YtlcmokgnmlklnaaDoor.En Go.Proofs.YtlcmokgnmlklnaaDoor.Ty Go.Proofs.YtlcmokgnmlklnaaDoor.B
set_option maxRecDepth 100000
set_option linter.unusedSimpArgs false
set_option linter.unusedVariables false
set_option pp.deepTerms false
set_option pp.deepTerms.threshold 8
set_option pp.maxSteps 1000
set_option maxHeartbeats 1000000
def stp (t : Mn) : Mn × Bool :=
  if t.f0 = 1 ∨ t.f0 = 2 then (zM, false)
  else if t.f0 = 7 then ((sAt t.f3 (kid t 0)).getD zM, (sAt t.f3 (kid t 0)).isSome)
  else if t.f0 = 8 then ((sPut t.f3 (kid t 0) (kid t 1)).getD zM, (sPut t.f3 (kid t 0) (kid t 1)).isSome)
  else sOp t.f0 (kid t 0) (kid t 1)
structure OkS (t : Mn) : Prop where
  ar : arB t = true
  kd : 1 ≤ t.f0 ∧ t.f0 ≤ 8
  pa : t.f3.length ≤ 50000
  ks : ∀ x ∈ t.f4, arB x = true ∧ x.f3.length ≤ 50000 ∧ numB x
theorem step2 (a : Addr) (t : Mn) (h : OkS t) : PF Tryd.prog (GT a) 53 [pm t] (.tp [.p (pm (stp t).1), .p (pb (stp t).2)]) := by
  have ho := of2 (GT a) t h.ar
  obtain ⟨k, m, s, p, l⟩ := t
  have hp : p.length ≤ 50000 := h.pa
  have hk : 1 ≤ k ∧ k ≤ 8 := h.kd
  have har := h.ar
  show PF _ _ _ [.ag [pi k, pi m, ps s, .row 1 (p.map pi), .row 5 (l.map eM)]] _
  refine ⟨(by first | exact .p | exact .tp (fun x hx => by simp at hx; rcases hx with rfl | rfl <;> exact .p) | exact .tp (fun x hx => by simp at hx; rcases hx with rfl | rfl | rfl <;> exact .p)), bdy Tryd.func53 (fun _ => 0) rfl ?_⟩
  refine rn T 99 [] ?_
  refine rn T 99 [] ?_
  by_cases h1 : k = 1
  · subst h1
    refine pcs (ho) ?_
    refine rn T 99 [] ?_
    refine cfs ?_
    refine rn T 99 [] ?_
    refine cfs ?_
    refine rn T 99 [] ?_
    refine cfs ?_
    refine rn T 99 [] ?_
    exact rt2 T (pm zM) (pb false) rfl
  by_cases h2 : k = 2
  · subst h2
    refine pcs (ho) ?_
    refine rn T 99 [] ?_
    refine cfs ?_
    refine rn T 99 [] ?_
    refine cfs ?_
    refine rn T 99 [] ?_
    refine cfs ?_
    refine rn T 99 [] ?_
    exact rt2 T (pm zM) (pb false) rfl
  by_cases h7 : k = 7
  · subst h7
    obtain ⟨x, rfl⟩ : ∃ x, l = [x] := by
      have : l.length = 1 := of_decide_eq_true (show arB ⟨7, m, s, p, l⟩ = true from har)
      match l, this with
      | [x], _ => exact ⟨x, rfl⟩
    obtain ⟨q1, q2, q3⟩ := h.ks x (by simp [Mn.f4])
    have ho7 : PF Tryd.prog (GT a) 55 [pm ⟨7, m, s, p, [x]⟩] (.p (.ifc 106 (.ag (.row 1 (p.map pi) :: (pm x).cells)))) := ho
    have hs : stp ⟨7, m, s, p, [x]⟩ = ((sAt p x).getD zM, (sAt p x).isSome) := rfl
    rw [hs]
    have ca := at2 (GT a) p x q1 hp q2
    refine pcs (ho7) ?_
    refine rn T 99 [] ?_
    refine cfs ?_
    refine rn T 99 [] ?_
    refine cts ?_
    refine rn T 99 [] ?_
    refine rn T 99 [] ?_
    refine pcs (ca) ?_
    refine rn T 99 [] ?_
    exact rt2 T (pm ((sAt p x).getD zM)) (pb (sAt p x).isSome) rfl
  obtain ⟨x, y, rfl⟩ : ∃ x y, l = [x, y] := by
    have : l.length = 2 := by
      rw [arB_o h1 h2 h7] at har
      exact of_decide_eq_true har
    match l, this with
    | [x, y], _ => exact ⟨x, y, rfl⟩
  obtain ⟨q1, q2, q3⟩ := h.ks x (by simp [Mn.f4])
  obtain ⟨r1, r2, r3⟩ := h.ks y (by simp [Mn.f4])
  by_cases h8 : k = 8
  · subst h8
    have ho8 : PF Tryd.prog (GT a) 55 [pm ⟨8, m, s, p, [x, y]⟩] (.p (.ifc 109 (.ag (.row 1 (p.map pi) :: ((pm x).cells ++ (pm y).cells))))) := ho
    have hs : stp ⟨8, m, s, p, [x, y]⟩ = ((sPut p x y).getD zM, (sPut p x y).isSome) := rfl
    rw [hs]
    have ca := put2 (GT a) p x y q1 hp q2
    refine pcs (ho8) ?_
    refine rn T 99 [] ?_
    refine cfs ?_
    refine rn T 99 [] ?_
    refine cfs ?_
    refine rn T 99 [] ?_
    refine cts ?_
    refine rn T 99 [] ?_
    refine rn T 99 [] ?_
    refine pcs (ca) ?_
    refine rn T 99 [] ?_
    exact rt2 T (pm ((sPut p x y).getD zM)) (pb (sPut p x y).isSome) rfl
  have hs : stp ⟨k, m, s, p, [x, y]⟩ = sOp k x y := by
    show (if k = 1 ∨ k = 2 then _ else if k = 7 then _ else if k = 8 then _ else _) = _
    rw [if_neg (fun q => q.elim h1 h2), if_neg h7, if_neg h8]
    rfl
  rw [hs]
  rw [shp_o h1 h2 h7 h8] at ho
  have co := op2 a k x y (by omega) q3 r3
  refine pcs (ho) ?_
  refine rn T 99 [] ?_
  refine cts ?_
  refine rn T 99 [] ?_
  refine rn T 99 [] ?_
  refine pcs (co) ?_
  refine rn T 99 [] ?_
  exact rt2 T (pm (sOp k x y).1) (pb (sOp k x y).2) rfl
end Go.Proofs.YtlcmokgnmlklnaaDoor.K
end
section
namespace Go.Proofs.YtlcmokgnmlklnaaDoor.K
open Go Go.RowKit Go.Proofs.YtlcmokgnmlklnaaDoor.En Go.Proofs.YtlcmokgnmlklnaaDoor.Ty Go.Proofs.YtlcmokgnmlklnaaDoor.B
set_option maxRecDepth 100000
set_option linter.unusedSimpArgs false
set_option linter.unusedVariables false
set_option pp.deepTerms false
set_option pp.deepTerms.threshold 8
set_option pp.maxSteps 1000
set_option maxHeartbeats 1000000
def opv' (k x y : Int) : Int := if k = 3 then x + y else if k = 4 then x - y else if x < y then 1 else 0
def okO (k x y : Int) : Bool := if k = 3 then decide (x + y ≤ 9999) else if k = 4 then decide (y ≤ x) else true
end Go.Proofs.YtlcmokgnmlklnaaDoor.K
end
section
namespace Go.Proofs.YtlcmokgnmlklnaaDoor.K
open Go Go.RowKit Go.Proofs.YtlcmokgnmlklnaaDoor.En Go.Proofs.YtlcmokgnmlklnaaDoor.Ty Go.Proofs.YtlcmokgnmlklnaaDoor.B
set_option maxRecDepth 100000
set_option linter.unusedSimpArgs false
set_option linter.unusedVariables false
set_option pp.deepTerms false
set_option pp.deepTerms.threshold 8
set_option pp.maxSteps 1000
set_option maxHeartbeats 1000000
def dP : Nat → Mn → Bool
  | 0, _ => false
  | n + 1, t => decide (t.f4.length ≤ 2) && decide (t.f3.length ≤ 50000) && t.f4.all (dP n)
theorem dP_inv {n : Nat} {k m : Int} {s : ByteArray} {p : List Int} {l : List Mn} (h : dP (n + 1) ⟨k, m, s, p, l⟩ = true) : l.length ≤ 2 ∧ p.length ≤ 50000 ∧ ∀ x ∈ l, dP n x = true := by
  unfold dP at h
  simp only [Bool.and_eq_true, decide_eq_true_eq, List.all_eq_true] at h
  exact ⟨h.1.1, h.1.2, h.2⟩
theorem take_eM {l : List Mn} {i : Nat} {x : Mn} (h : l[i]? = some x) : (l.take i).map eM ++ [pm x] = (l.take (i + 1)).map eM := by
  rw [List.take_add_one, h, List.map_append]
  simp [eM_eq]
def eqMs (f : Mn → Mn → Bool) : List Mn → List Mn → Bool
  | x :: l, y :: r => f x y && eqMs f l r
  | _, _ => true
def eqM : Nat → Mn → Mn → Bool
  | 0, _, _ => true
  | n + 1, a, b => !(a.f0 != b.f0) && !(a.f1 != b.f1) && (a.f2 == b.f2) && (a.f3 == b.f3) && !((a.f4.length : Int) != (b.f4.length : Int)) && eqMs (eqM n) a.f4 b.f4
theorem eqMs_drop {f : Mn → Mn → Bool} : ∀ {l r : List Mn} {i : Nat} {x y : Mn}, l[i]? = some x → r[i]? = some y → eqMs f (l.drop i) (r.drop i) = (f x y && eqMs f (l.drop (i + 1)) (r.drop (i + 1)))
  | [], _, i, _, _, h, _ => by simp at h
  | _ :: _, [], i, _, _, _, h => by simp at h
  | a :: l, b :: r, 0, x, y, h1, h2 => by simp at h1 h2; subst h1; subst h2; rfl
  | a :: l, b :: r, i + 1, x, y, h1, h2 => by
    simp only [List.getElem?_cons_succ] at h1 h2
    simp only [List.drop_succ_cons]
    exact eqMs_drop h1 h2
end Go.Proofs.YtlcmokgnmlklnaaDoor.K
end
section
namespace Go.Proofs.YtlcmokgnmlklnaaDoor.K
open Go Go.RowKit Go.Proofs.YtlcmokgnmlklnaaDoor.En Go.Proofs.YtlcmokgnmlklnaaDoor.Ty Go.Proofs.YtlcmokgnmlklnaaDoor.B
set_option maxRecDepth 100000
set_option linter.unusedSimpArgs false
set_option linter.unusedVariables false
set_option maxHeartbeats 1000000
theorem bb_eq {s t : ByteArray} : (s == t) = true ↔ s = t := by
  obtain ⟨a⟩ := s
  obtain ⟨b⟩ := t
  constructor
  · intro h
    have h : (a == b) = true := h
    rw [eq_of_beq h]
  · intro h
    cases h
    show (a == a) = true
    simp
mutual
def msz : Mn → Nat
  | ⟨_, _, _, _, l⟩ => 1 + mszs l
def mszs : List Mn → Nat
  | [] => 0
  | x :: l => msz x + mszs l
end
mutual
def mpl : Mn → Nat
  | ⟨_, _, _, p, l⟩ => p.length + mpls l
def mpls : List Mn → Nat
  | [] => 0
  | x :: l => mpl x + mpls l
end
mutual
def mnm : Mn → List ByteArray
  | ⟨k, _, s, _, l⟩ => if k = 2 then [s] else mnms l
def mnms : List Mn → List ByteArray
  | [] => []
  | x :: l => mnm x ++ mnms l
end
theorem msz_mk {k m : Int} {s : ByteArray} {p : List Int} {l : List Mn} : msz ⟨k, m, s, p, l⟩ = 1 + mszs l := by unfold msz; rfl
theorem mszs_nil : mszs [] = 0 := by unfold mszs; rfl
theorem mszs_cons {x : Mn} {l : List Mn} : mszs (x :: l) = msz x + mszs l := by rw [mszs]
theorem mpl_mk {k m : Int} {s : ByteArray} {p : List Int} {l : List Mn} : mpl ⟨k, m, s, p, l⟩ = p.length + mpls l := by unfold mpl; rfl
theorem mpls_nil : mpls [] = 0 := by unfold mpls; rfl
theorem mpls_cons {x : Mn} {l : List Mn} : mpls (x :: l) = mpl x + mpls l := by rw [mpls]
theorem mnm_mk {k m : Int} {s : ByteArray} {p : List Int} {l : List Mn} : mnm ⟨k, m, s, p, l⟩ = if k = 2 then [s] else mnms l := by unfold mnm; rfl
theorem mnms_nil : mnms [] = [] := by unfold mnms; rfl
theorem mnms_cons {x : Mn} {l : List Mn} : mnms (x :: l) = mnm x ++ mnms l := by rw [mnms]
def okH (t : Mn) : Bool :=
  if t.f0 = 1 then decide (0 ≤ t.f1 ∧ t.f1 ≤ 9999) && (t.f2 == ⟨#[]⟩) && decide (t.f3 = []) && decide (t.f4.length = 0)
  else if t.f0 = 2 then pw t.f2 && decide (t.f1 = 0) && decide (t.f3 = []) && decide (t.f4.length = 0)
  else if t.f0 = 3 ∨ t.f0 = 4 ∨ t.f0 = 5 ∨ t.f0 = 6 then decide (t.f1 = 0) && (t.f2 == ⟨#[]⟩) && decide (t.f3 = []) && decide (t.f4.length = 2)
  else if t.f0 = 7 then t.f3.all bitB && decide (t.f1 = 0) && (t.f2 == ⟨#[]⟩) && decide (t.f4.length = 1)
  else if t.f0 = 8 then t.f3.all bitB && decide (t.f1 = 0) && (t.f2 == ⟨#[]⟩) && decide (t.f4.length = 2)
  else false
def okD : Nat → Mn → Bool
  | 0, _ => false
  | n + 1, t => okH t && t.f4.all (okD n)
inductive OkF : Mn → Prop
  | num {m : Int} (h : 0 ≤ m ∧ m ≤ 9999) : OkF ⟨1, m, ⟨#[]⟩, [], []⟩
  | name {s : ByteArray} (h : pw s = true) : OkF ⟨2, 0, s, [], []⟩
  | op {k : Int} {x y : Mn} (h : k = 3 ∨ k = 4 ∨ k = 5 ∨ k = 6) : OkF ⟨k, 0, ⟨#[]⟩, [], [x, y]⟩
  | at {p : List Int} {x : Mn} (h : p.all bitB = true) : OkF ⟨7, 0, ⟨#[]⟩, p, [x]⟩
  | put {p : List Int} {x y : Mn} (h : p.all bitB = true) : OkF ⟨8, 0, ⟨#[]⟩, p, [x, y]⟩
theorem len1 {l : List Mn} (h : l.length = 1) : ∃ x, l = [x] := match l, h with
  | [x], _ => ⟨x, rfl⟩
theorem len2 {l : List Mn} (h : l.length = 2) : ∃ x y, l = [x, y] := match l, h with
  | [x, y], _ => ⟨x, y, rfl⟩
theorem okF_of {t : Mn} (h : okH t = true) : OkF t := by
  obtain ⟨k, m, s, p, l⟩ := t
  have h : (if k = 1 then decide (0 ≤ m ∧ m ≤ 9999) && (s == ⟨#[]⟩) && decide (p = []) && decide (l.length = 0)
  else if k = 2 then pw s && decide (m = 0) && decide (p = []) && decide (l.length = 0)
  else if k = 3 ∨ k = 4 ∨ k = 5 ∨ k = 6 then decide (m = 0) && (s == ⟨#[]⟩) && decide (p = []) && decide (l.length = 2)
  else if k = 7 then p.all bitB && decide (m = 0) && (s == ⟨#[]⟩) && decide (l.length = 1)
  else if k = 8 then p.all bitB && decide (m = 0) && (s == ⟨#[]⟩) && decide (l.length = 2)
  else false) = true := h
  split at h
  · rename_i hk
    simp only [Bool.and_eq_true, decide_eq_true_eq, bb_eq] at h
    obtain ⟨⟨⟨h1, rfl⟩, rfl⟩, h4⟩ := h
    obtain rfl := List.eq_nil_of_length_eq_zero h4
    subst hk
    exact .num h1
  split at h
  · rename_i hk
    simp only [Bool.and_eq_true, decide_eq_true_eq, bb_eq] at h
    obtain ⟨⟨⟨h1, rfl⟩, rfl⟩, h4⟩ := h
    obtain rfl := List.eq_nil_of_length_eq_zero h4
    subst hk
    exact .name h1
  split at h
  · rename_i hk
    simp only [Bool.and_eq_true, decide_eq_true_eq, bb_eq] at h
    obtain ⟨⟨⟨rfl, rfl⟩, rfl⟩, h4⟩ := h
    obtain ⟨x, y, rfl⟩ := len2 h4
    exact .op hk
  split at h
  · rename_i hk
    simp only [Bool.and_eq_true, decide_eq_true_eq, bb_eq] at h
    obtain ⟨⟨⟨h1, rfl⟩, rfl⟩, h4⟩ := h
    obtain ⟨x, rfl⟩ := len1 h4
    subst hk
    exact .at h1
  split at h
  · rename_i hk
    simp only [Bool.and_eq_true, decide_eq_true_eq, bb_eq] at h
    obtain ⟨⟨⟨h1, rfl⟩, rfl⟩, h4⟩ := h
    obtain ⟨x, y, rfl⟩ := len2 h4
    subst hk
    exact .put h1
  cases h
theorem OkF.okH {t : Mn} (h : OkF t) : okH t = true := by
  cases h with
  | @num m h => show (decide (0 ≤ m ∧ m ≤ 9999) && true && true && true) = true; rw [decide_eq_true h]; rfl
  | @name s h => show (pw s && true && true && true) = true; rw [h]; rfl
  | op h => rcases h with rfl | rfl | rfl | rfl <;> rfl
  | @«at» p x h => show (p.all bitB && true && true && true) = true; rw [h]; rfl
  | @put p x y h => show (p.all bitB && true && true && true) = true; rw [h]; rfl
theorem okD_inv {n : Nat} {t : Mn} (h : okD n t = true) : ∃ m, n = m + 1 ∧ OkF t ∧ ∀ x ∈ t.f4, okD m x = true := by
  cases n with
  | zero => cases h
  | succ m =>
    unfold okD at h
    rw [Bool.and_eq_true, List.all_eq_true] at h
    exact ⟨m, rfl, okF_of h.1, h.2⟩
theorem okD_mk {n : Nat} {t : Mn} (h1 : OkF t) (h2 : ∀ x ∈ t.f4, okD n x = true) : okD (n + 1) t = true := by
  unfold okD
  rw [Bool.and_eq_true, List.all_eq_true]
  exact ⟨h1.okH, h2⟩
theorem okD_mono : ∀ {n m : Nat} {t : Mn}, okD n t = true → n ≤ m → okD m t = true
  | 0, _, _, h, _ => by cases h
  | n + 1, 0, _, _, h => by omega
  | n + 1, m + 1, t, h, hle => by
    unfold okD at h ⊢
    rw [Bool.and_eq_true, List.all_eq_true] at h ⊢
    exact ⟨h.1, fun x hx => okD_mono (h.2 x hx) (by omega)⟩
theorem okD_tk {nm : ByteArray → Bool} (hn : ∀ s, nm s = true → pw s = true) : ∀ {n : Nat} {t : Mn}, tk nm n t = true → okD n t = true
  | 0, _, h => by cases h
  | n + 1, ⟨k, m, s, p, l⟩, h => by
    rw [tk_eq, Bool.and_eq_true, List.all_eq_true] at h
    refine okD_mk ?_ (fun x hx => okD_tk hn (h.2 x hx))
    have h := h.1
    by_cases k1 : k = 1
    · subst k1; rw [tkH_1] at h; simp only [Bool.and_eq_true, decide_eq_true_eq, bb_eq] at h
      obtain ⟨⟨⟨h1, rfl⟩, h3⟩, h4⟩ := h
      obtain rfl := List.eq_nil_of_length_eq_zero h3
      obtain rfl := List.eq_nil_of_length_eq_zero h4
      exact .num h1
    by_cases k2 : k = 2
    · subst k2; rw [tkH_2] at h; simp only [Bool.and_eq_true, decide_eq_true_eq, bb_eq] at h
      obtain ⟨⟨⟨h1, rfl⟩, h3⟩, h4⟩ := h
      obtain rfl := List.eq_nil_of_length_eq_zero h3
      obtain rfl := List.eq_nil_of_length_eq_zero h4
      exact .name (hn _ h1)
    by_cases k3 : k = 3 ∨ k = 4 ∨ k = 5 ∨ k = 6
    · rw [tkH_3 _ _ _ _ _ _ k3] at h; simp only [Bool.and_eq_true, decide_eq_true_eq, bb_eq] at h
      obtain ⟨⟨⟨rfl, rfl⟩, h3⟩, h4⟩ := h
      obtain rfl := List.eq_nil_of_length_eq_zero h3
      obtain ⟨x, y, rfl⟩ := len2 h4
      exact .op k3
    by_cases k7 : k = 7
    · subst k7; rw [tkH_7] at h; unfold pathB at h; simp only [Bool.and_eq_true, decide_eq_true_eq, bb_eq] at h
      obtain ⟨⟨⟨⟨_, h1⟩, rfl⟩, rfl⟩, h4⟩ := h
      obtain ⟨x, rfl⟩ := len1 h4
      exact .at h1
    by_cases k8 : k = 8
    · subst k8; rw [tkH_8] at h; unfold pathB at h; simp only [Bool.and_eq_true, decide_eq_true_eq, bb_eq] at h
      obtain ⟨⟨⟨⟨_, h1⟩, rfl⟩, rfl⟩, h4⟩ := h
      obtain ⟨x, y, rfl⟩ := len2 h4
      exact .put h1
    rw [tkH_o _ _ _ _ _ _ k1 k2 k3 k7 k8] at h
    cases h
theorem tk_okD {nm : ByteArray → Bool} (hn : ∀ s, pw s = true → nm s = true) : ∀ {n d : Nat} {t : Mn}, n ≤ d → okD n t = true → pok d t = true → tk nm n t = true
  | 0, _, _, _, h, _ => by cases h
  | n + 1, 0, _, hd, _, _ => by omega
  | n + 1, d + 1, t, hd, h, hp => by
    obtain ⟨m, hm, hf, hk⟩ := okD_inv h
    cases hm
    unfold pok at hp
    rw [Bool.and_eq_true, decide_eq_true_eq, List.all_eq_true] at hp
    have hkk : t.f4.all (tk nm n) = true := by
      rw [List.all_eq_true]
      exact fun x hx => tk_okD hn (by omega) (hk x hx) (hp.2 x hx)
    have hp1 := hp.1
    unfold tk
    rw [hkk, Bool.and_true]
    cases hf with
    | @num m q => show (decide (0 ≤ m ∧ m ≤ 9999) && true && true && true) = true; rw [decide_eq_true q]; rfl
    | @name s q => show (nm s && true && true && true) = true; rw [hn _ q]; rfl
    | op q => rcases q with rfl | rfl | rfl | rfl <;> rfl
    | @«at» p x q => show (decide (p.length ≤ 4) && p.all bitB && true && true && true) = true; rw [q, decide_eq_true (show p.length ≤ 4 from hp1)]; rfl
    | @put p x y q => show (decide (p.length ≤ 4) && p.all bitB && true && true && true) = true; rw [q, decide_eq_true (show p.length ≤ 4 from hp1)]; rfl
theorem OkF.arB {t : Mn} (h : OkF t) : arB t = true := by
  cases h with
  | num h => rfl
  | name h => rfl
  | op h => rcases h with rfl | rfl | rfl | rfl <;> rfl
  | «at» h => rfl
  | put h => rfl
theorem OkF.kd {t : Mn} (h : OkF t) : 1 ≤ t.f0 ∧ t.f0 ≤ 8 := by
  cases h with
  | num h => exact show (1 : Int) ≤ 1 ∧ (1 : Int) ≤ 8 by decide
  | name h => exact show (1 : Int) ≤ 2 ∧ (2 : Int) ≤ 8 by decide
  | @op k x y h => exact show (1 : Int) ≤ k ∧ k ≤ 8 by omega
  | «at» h => exact show (1 : Int) ≤ 7 ∧ (7 : Int) ≤ 8 by decide
  | put h => exact show (1 : Int) ≤ 8 ∧ (8 : Int) ≤ 8 by decide
theorem OkF.nb {t : Mn} (h : OkF t) : numB t := by
  cases h with
  | num h => exact fun _ => h
  | name h => intro e; cases (show (2 : Int) = 1 from e)
  | op h => intro e; have e : _ = (1 : Int) := e; rcases h with rfl | rfl | rfl | rfl <;> cases e
  | «at» h => intro e; cases (show (7 : Int) = 1 from e)
  | put h => intro e; cases (show (8 : Int) = 1 from e)
theorem mpls_mem : ∀ {l : List Mn} {x : Mn}, x ∈ l → mpl x ≤ mpls l
  | [], _, h => by cases h
  | y :: l, x, h => by
    rw [mpls_cons]
    rcases List.mem_cons.1 h with rfl | h
    · omega
    · have := mpls_mem h; omega
theorem mpl_kid {t x : Mn} (h : x ∈ t.f4) : mpl x + t.f3.length ≤ mpl t := by
  obtain ⟨k, m, s, p, l⟩ := t
  rw [mpl_mk]
  have h2 : mpl x ≤ mpls l := mpls_mem h
  show mpl x + p.length ≤ p.length + mpls l
  omega
theorem mpl_path {t : Mn} : t.f3.length ≤ mpl t := by
  obtain ⟨k, m, s, p, l⟩ := t
  rw [mpl_mk]
  show p.length ≤ p.length + mpls l
  omega
theorem okS_of {n : Nat} {t : Mn} (h : okD n t = true) (hp : mpl t ≤ 50000) : OkS t := by
  obtain ⟨m, rfl, hf, hk⟩ := okD_inv h
  refine ⟨hf.arB, hf.kd, Nat.le_trans mpl_path hp, fun x hx => ?_⟩
  obtain ⟨_, _, hx2, _⟩ := okD_inv (hk x hx)
  have h1 := mpl_kid hx
  have h2 := mpl_path (t := x)
  exact ⟨hx2.arB, by omega, hx2.nb⟩
theorem mszs_mem : ∀ {l : List Mn} {x : Mn}, x ∈ l → msz x ≤ mszs l
  | [], _, h => by cases h
  | y :: l, x, h => by
    rw [mszs_cons]
    rcases List.mem_cons.1 h with rfl | h
    · omega
    · have := mszs_mem h; omega
theorem mnms_mem : ∀ {l : List Mn} {x : Mn}, x ∈ l → ∀ s ∈ mnm x, s ∈ mnms l
  | [], _, h, _, _ => by cases h
  | y :: l, x, h, s, hs => by
    rw [mnms_cons, List.mem_append]
    rcases List.mem_cons.1 h with rfl | h
    · exact .inl hs
    · exact .inr (mnms_mem h s hs)
theorem msz_pos (t : Mn) : 1 ≤ msz t := by
  obtain ⟨k, m, s, p, l⟩ := t
  rw [msz_mk]; omega
theorem plB_kid {t : Mn} (h : OkF t) : plB t = true → t.f4 = [] := by
  intro hp
  cases h with
  | num h => rfl
  | name h => rfl
  | op h => rcases h with rfl | rfl | rfl | rfl <;> cases hp
  | «at» h => cases hp
  | put h => cases hp
theorem kidF {t y : Mn} (hf : OkF t) (hy : y ∈ t.f4) : msz y < msz t ∧ mpl y + t.f3.length ≤ mpl t ∧ ∀ s ∈ mnm y, s ∈ mnm t := by
  refine ⟨?_, mpl_kid hy, ?_⟩
  · obtain ⟨k, m, s, p, l⟩ := t
    have := mszs_mem (l := l) hy
    rw [msz_mk]; omega
  · obtain ⟨k, m, s, p, l⟩ := t
    intro u hu
    rw [mnm_mk]
    have h2 : k ≠ 2 := by
      rintro rfl
      have := plB_kid hf rfl
      rw [this] at hy
      cases hy
    rw [if_neg h2]
    exact mnms_mem (l := l) hy u hu
def whlF : Nat → Mn → Mn
  | 0, t => t
  | n + 1, t => if (stp t).2 = true then whlF n (stp t).1 else t
theorem whlF_t {n : Nat} {t : Mn} (h : (stp t).2 = true) : whlF (n + 1) t = whlF n (stp t).1 := by
  show (if (stp t).2 = true then _ else _) = _
  rw [if_pos h]
theorem whlF_f {n : Nat} {t : Mn} (h : (stp t).2 = false) : whlF n t = t := by
  cases n with
  | zero => rfl
  | succ n =>
    show (if (stp t).2 = true then _ else _) = _
    rw [if_neg (by rw [h]; simp)]
def smD : Nat → Mn → Bool
  | 0, _ => true
  | n + 1, t => !(stp t).2 && t.f4.all (smD n)
theorem smD_inv {n : Nat} {t : Mn} (h : smD (n + 1) t = true) : (stp t).2 = false ∧ ∀ x ∈ t.f4, smD n x = true := by
  unfold smD at h
  rw [Bool.and_eq_true, List.all_eq_true] at h
  exact ⟨by simpa using h.1, h.2⟩
theorem smD_mk {n : Nat} {t : Mn} (h1 : (stp t).2 = false) (h2 : ∀ x ∈ t.f4, smD n x = true) : smD (n + 1) t = true := by
  unfold smD
  rw [Bool.and_eq_true, List.all_eq_true]
  exact ⟨by simp [h1], h2⟩
theorem smD_mono : ∀ {n m : Nat} {t : Mn}, okD n t = true → smD n t = true → n ≤ m → smD m t = true
  | 0, _, _, h, _, _ => by cases h
  | n + 1, 0, _, _, _, h => by omega
  | n + 1, m + 1, t, ho, h, hle => by
    obtain ⟨_, e, _, hk⟩ := okD_inv ho
    cases e
    obtain ⟨h1, h2⟩ := smD_inv h
    exact smD_mk h1 (fun x hx => smD_mono (hk x hx) (h2 x hx) (by omega))
theorem stp_at {p : List Int} {x : Mn} : stp ⟨7, 0, ⟨#[]⟩, p, [x]⟩ = ((sAt p x).getD zM, (sAt p x).isSome) := rfl
theorem stp_put {p : List Int} {x y : Mn} : stp ⟨8, 0, ⟨#[]⟩, p, [x, y]⟩ = ((sPut p x y).getD zM, (sPut p x y).isSome) := rfl
theorem stp_op {k : Int} {x y : Mn} (h : k = 3 ∨ k = 4 ∨ k = 5 ∨ k = 6) : stp ⟨k, 0, ⟨#[]⟩, [], [x, y]⟩ = sOp k x y := by
  rcases h with rfl | rfl | rfl | rfl <;> rfl
theorem stp_num {m : Int} : stp ⟨1, m, ⟨#[]⟩, [], []⟩ = (zM, false) := rfl
theorem stp_name {s : ByteArray} : stp ⟨2, 0, s, [], []⟩ = (zM, false) := rfl
theorem sAt_at {i : Int} {r q : List Int} {a : Mn} : sAt (i :: r) ⟨7, 0, ⟨#[]⟩, q, [a]⟩ = some (atM (q ++ (i :: r)) a) := rfl
theorem sAt_put {i : Int} {r q : List Int} {a b : Mn} : sAt (i :: r) ⟨8, 0, ⟨#[]⟩, q, [a, b]⟩ = if bgn (i :: r) q = true then (if plB a = true then some (atM ((i :: r).drop q.length) b) else none) else if bgn q (i :: r) = false ∧ plB b = true then some (atM (i :: r) a) else none := rfl
theorem sAt_op {i : Int} {r : List Int} {k : Int} {a b : Mn} (h : k = 3 ∨ k = 4 ∨ k = 5 ∨ k = 6) : sAt (i :: r) ⟨k, 0, ⟨#[]⟩, [], [a, b]⟩ = if k = 6 then (if i = 0 ∧ plB b = true then some (atM r a) else if i = 1 ∧ plB a = true then some (atM r b) else none) else none := by
  rcases h with rfl | rfl | rfl | rfl <;> rfl
theorem sPut_put {p q : List Int} {a b y : Mn} : sPut p ⟨8, 0, ⟨#[]⟩, q, [a, b]⟩ y = if q = p ∧ plB b = true then some ⟨8, 0, ⟨#[]⟩, p, [a, y]⟩ else none := by
  have e : sPut p ⟨8, 0, ⟨#[]⟩, q, [a, b]⟩ y = if p = [] ∧ (false = true) then some y else if (8 : Int) = 8 ∧ q = p ∧ plB b = true then some ⟨8, 0, ⟨#[]⟩, p, [a, y]⟩ else none := rfl
  rw [e, if_neg (by simp)]
  by_cases h : q = p ∧ plB b = true
  · rw [if_pos ⟨rfl, h⟩, if_pos h]
  · rw [if_neg (fun q => h q.2), if_neg h]
theorem sPut_o {p : List Int} {x y : Mn} (h : x.f0 ≠ 8) : sPut p x y = if p = [] ∧ plB x = true then some y else none := by
  unfold sPut
  rw [if_neg (c := x.f0 = 8 ∧ _) (fun q => h q.1)]
structure Stp (n : Nat) (t u : Mn) : Prop where
  ok : okD n u = true
  sm : ∀ x ∈ u.f4, smD (n - 1) x = true
  sz : msz u < msz t
  pl : mpl u ≤ mpl t
  nm : ∀ s ∈ mnm u, s ∈ mnm t
theorem mpl_at {p : List Int} {x : Mn} : mpl (atM p x) = p.length + mpl x := by rw [mpl_mk, mpls_cons, mpls_nil]; omega
theorem msz_at {p : List Int} {x : Mn} : msz (atM p x) = 1 + msz x := by rw [msz_mk, mszs_cons, mszs_nil]; omega
theorem mnm_at {p : List Int} {x : Mn} : mnm (atM p x) = mnm x := by rw [mnm_mk, if_neg (by decide), mnms_cons, mnms_nil, List.append_nil]
theorem okD_at {n : Nat} {p : List Int} {x : Mn} (hp : p.all bitB = true) (h : okD n x = true) : okD (n + 1) (atM p x) = true := okD_mk (.at hp) (fun y hy => by
  obtain rfl := List.mem_singleton.1 (show y ∈ [x] from hy)
  exact h)
theorem stp_atM {n : Nat} {t x y : Mn} {p p' : List Int} (ht : t = atM p x) (hx : okD n x = true) (hs : smD n x = true) (hy : y ∈ x.f4) (hb : p'.all bitB = true) (hl : p'.length ≤ p.length + x.f3.length) : Stp (n + 1) t (atM p' y) := by
  subst ht
  obtain ⟨m, rfl, hf, hk⟩ := okD_inv hx
  obtain ⟨hs1, hs2⟩ := smD_inv hs
  obtain ⟨k1, k2, k3⟩ := kidF hf hy
  refine ⟨okD_at hb (okD_mono (hk y hy) (by omega)), fun z hz => ?_, by rw [msz_at, msz_at]; omega, by rw [mpl_at, mpl_at]; omega, by rw [mnm_at, mnm_at]; exact k3⟩
  obtain rfl := List.mem_singleton.1 (show z ∈ [y] from hz)
  exact smD_mono (hk z hy) (hs2 z hy) (by omega)
theorem stp_inv {n : Nat} {t : Mn} (h : okD (n + 1) t = true) (hs : ∀ x ∈ t.f4, smD n x = true) (ht : (stp t).2 = true) : Stp (n + 1) t (stp t).1 := by
  obtain ⟨_, e, hf, hk⟩ := okD_inv h
  cases e
  cases hf with
  | num h => cases ht
  | name h => cases ht
  | @op k x y hk3 =>
    rw [stp_op hk3] at ht ⊢
    unfold sOp at ht ⊢
    by_cases c : k = 6 ∨ x.f0 ≠ 1 ∨ y.f0 ≠ 1
    · rw [if_pos c] at ht; cases ht
    · rw [if_neg c] at ht ⊢
      by_cases c2 : okN (opv k x.f1 y.f1) = true
      · rw [if_pos c2]
        unfold okN at c2
        rw [decide_eq_true_eq] at c2
        refine ⟨okD_mk (.num c2) (fun z hz => by cases hz), (fun z hz => by cases hz), ?_, ?_, ?_⟩
        · rw [msz_mk, msz_mk, mszs_cons, mszs_nil]; have := msz_pos x; omega
        · rw [mpl_mk, mpls_nil]; simp
        · intro s hs; rw [mnm_mk, if_neg (by decide), mnms_nil] at hs; cases hs
      · rw [if_neg c2] at ht; cases ht
  | @«at» p x hb =>
    have hx := hk x (List.mem_singleton.2 rfl)
    have hsx := hs x (List.mem_singleton.2 rfl)
    rw [stp_at] at ht ⊢
    cases p with
    | nil =>
      show Stp _ _ x
      refine ⟨okD_mono hx (by omega), fun z hz => ?_, by rw [msz_mk, mszs_cons, mszs_nil]; omega, by rw [mpl_mk, mpls_cons, mpls_nil]; omega, ?_⟩
      · obtain ⟨m, rfl, hf, hk2⟩ := okD_inv hx
        exact smD_mono (hk2 z hz) ((smD_inv hsx).2 z hz) (by omega)
      · intro s hs; rw [mnm_mk, if_neg (by decide), mnms_cons]; exact List.mem_append_left _ hs
    | cons i r =>
      obtain ⟨m, rfl, hf, hk2⟩ := okD_inv hx
      have hr : r.all bitB = true := by rw [List.all_cons, Bool.and_eq_true] at hb; exact hb.2
      cases hf with
      | num h => cases ht
      | name h => cases ht
      | @op k a b hk3 =>
        rw [sAt_op hk3] at ht ⊢
        by_cases h6 : k = 6
        · rw [if_pos h6] at ht ⊢
          by_cases c1 : i = 0 ∧ plB b = true
          · rw [if_pos c1]
            exact stp_atM rfl hx hsx (List.mem_cons_self ..) hr (by simp [List.length_cons]; omega)
          · rw [if_neg c1] at ht ⊢
            by_cases c2 : i = 1 ∧ plB a = true
            · rw [if_pos c2]
              exact stp_atM rfl hx hsx (List.mem_cons_of_mem _ (List.mem_singleton.2 rfl)) hr (by simp [List.length_cons]; omega)
            · rw [if_neg c2] at ht; cases ht
        · rw [if_neg h6] at ht; cases ht
      | @«at» q a hq =>
        rw [sAt_at]
        exact stp_atM rfl hx hsx (List.mem_singleton.2 rfl) (by rw [List.all_append, hq, hb]; rfl) (by simp [Mn.f3]; omega)
      | @put q a b hq =>
        rw [sAt_put] at ht ⊢
        by_cases c1 : bgn (i :: r) q = true
        · rw [if_pos c1] at ht ⊢
          by_cases c2 : plB a = true
          · rw [if_pos c2]
            refine stp_atM rfl hx hsx (List.mem_cons_of_mem _ (List.mem_singleton.2 rfl)) ?_ (by rw [List.length_drop]; omega)
            rw [List.all_eq_true] at hb ⊢
            exact fun z hz => hb z (List.mem_of_mem_drop hz)
          · rw [if_neg c2] at ht; cases ht
        · rw [if_neg c1] at ht ⊢
          by_cases c2 : bgn q (i :: r) = false ∧ plB b = true
          · rw [if_pos c2]
            exact stp_atM rfl hx hsx (List.mem_cons_self ..) hb (by omega)
          · rw [if_neg c2] at ht; cases ht
  | @put p x y hb =>
    have hx := hk x (List.mem_cons_self ..)
    have hy := hk y (List.mem_cons_of_mem _ (List.mem_singleton.2 rfl))
    have hsx := hs x (List.mem_cons_self ..)
    have hsy := hs y (List.mem_cons_of_mem _ (List.mem_singleton.2 rfl))
    rw [stp_put] at ht ⊢
    have hput : ∀ z, z = x ∨ z = y → z ∈ (⟨8, 0, ⟨#[]⟩, p, [x, y]⟩ : Mn).f4 := fun z hz => by
      show z ∈ [x, y]
      rcases hz with rfl | rfl <;> simp
    by_cases h8 : x.f0 = 8
    · obtain ⟨m, rfl, hf, hk2⟩ := okD_inv hx
      cases hf with
      | num h => cases h8
      | name h => cases h8
      | op hq => have h8 : _ = (8 : Int) := h8; rcases hq with rfl | rfl | rfl | rfl <;> cases h8
      | «at» h => cases h8
      | @put q a b hq =>
        rw [sPut_put] at ht ⊢
        by_cases c : q = p ∧ plB b = true
        · rw [if_pos c]
          have ha := hk2 a (List.mem_cons_self ..)
          have hsa := (smD_inv hsx).2 a (List.mem_cons_self ..)
          obtain ⟨k1, k2, k3⟩ := kidF (t := ⟨8, 0, ⟨#[]⟩, q, [a, b]⟩) (y := a) (.put hq) (List.mem_cons_self ..)
          refine ⟨okD_mk (.put hb) (fun z hz => ?_), fun z hz => ?_, ?_, ?_, ?_⟩
          · rcases List.mem_cons.1 (show z ∈ [a, y] from hz) with rfl | hz
            · exact okD_mono ha (by omega)
            · obtain rfl := List.mem_singleton.1 hz; exact hy
          · rcases List.mem_cons.1 (show z ∈ [a, y] from hz) with rfl | hz
            · exact smD_mono ha hsa (by omega)
            · obtain rfl := List.mem_singleton.1 hz; exact hsy
          · show msz ⟨8, 0, ⟨#[]⟩, p, [a, y]⟩ < _
            rw [msz_mk, mszs_cons, mszs_cons, mszs_nil, msz_mk, mszs_cons, mszs_cons, mszs_nil]; omega
          · show mpl ⟨8, 0, ⟨#[]⟩, p, [a, y]⟩ ≤ _
            rw [mpl_mk, mpls_cons, mpls_cons, mpls_nil, mpl_mk, mpls_cons, mpls_cons, mpls_nil]; omega
          · show ∀ s ∈ mnm ⟨8, 0, ⟨#[]⟩, p, [a, y]⟩, _
            intro s hs
            rw [mnm_mk, if_neg (by decide), mnms_cons, mnms_cons, mnms_nil, List.append_nil, List.mem_append] at hs ⊢
            exact hs.imp (k3 s) id
        · rw [if_neg c] at ht; cases ht
    · rw [sPut_o h8] at ht ⊢
      by_cases c : p = [] ∧ plB x = true
      · rw [if_pos c]
        show Stp _ _ y
        refine ⟨okD_mono hy (by omega), fun z hz => ?_, by rw [msz_mk, mszs_cons, mszs_cons, mszs_nil]; omega, by rw [mpl_mk, mpls_cons, mpls_cons, mpls_nil]; omega, ?_⟩
        · obtain ⟨m, rfl, hf, hk2⟩ := okD_inv hy
          exact smD_mono (hk2 z hz) ((smD_inv hsy).2 z hz) (by omega)
        · intro s hs; rw [mnm_mk, if_neg (by decide), mnms_cons, mnms_cons]; exact List.mem_append_right _ (List.mem_append_left _ hs)
      · rw [if_neg c] at ht; cases ht
theorem whlF_inv : ∀ {f n : Nat} {t : Mn}, msz t ≤ f → okD (n + 1) t = true → (∀ x ∈ t.f4, smD n x = true) → okD (n + 1) (whlF f t) = true ∧ smD (n + 1) (whlF f t) = true ∧ mpl (whlF f t) ≤ mpl t ∧ ∀ s ∈ mnm (whlF f t), s ∈ mnm t
  | 0, _, t, h, _, _ => by have := msz_pos t; omega
  | f + 1, n, t, h, ho, hs => by
    cases e : (stp t).2 with
    | false =>
      rw [whlF_f e]
      exact ⟨ho, smD_mk e hs, Nat.le_refl _, fun s h => h⟩
    | true =>
      rw [whlF_t e]
      obtain ⟨q1, q2, q3, q4, q5⟩ := stp_inv ho hs e
      obtain ⟨r1, r2, r3, r4⟩ := whlF_inv (f := f) (n := n) (t := (stp t).1) (by omega) q1 q2
      exact ⟨r1, r2, Nat.le_trans r3 q4, fun s h => q5 s (r4 s h)⟩
def smp : Nat → Mn → Mn
  | 0, t => t
  | n + 1, t => whlF (msz ⟨t.f0, t.f1, t.f2, t.f3, t.f4.map (smp n)⟩) ⟨t.f0, t.f1, t.f2, t.f3, t.f4.map (smp n)⟩
theorem smp_eq {n : Nat} {k m : Int} {s : ByteArray} {p : List Int} {l : List Mn} : smp (n + 1) ⟨k, m, s, p, l⟩ = whlF (msz ⟨k, m, s, p, l.map (smp n)⟩) ⟨k, m, s, p, l.map (smp n)⟩ := rfl
theorem smp_leaf {n : Nat} {t : Mn} (hf : OkF t) (h : plB t = true) : smp n t = t := by
  cases n with
  | zero => rfl
  | succ n =>
    cases hf with
    | num h => exact whlF_f rfl
    | name h => exact whlF_f rfl
    | op hq => rcases hq with rfl | rfl | rfl | rfl <;> cases h
    | «at» h2 => cases h
    | put h2 => cases h
theorem okF_map {k m : Int} {s : ByteArray} {p : List Int} {l l' : List Mn} (h : OkF ⟨k, m, s, p, l⟩) (hl : l'.length = l.length) : OkF ⟨k, m, s, p, l'⟩ := by
  cases h with
  | num h => obtain rfl := List.eq_nil_of_length_eq_zero hl; exact .num h
  | name h => obtain rfl := List.eq_nil_of_length_eq_zero hl; exact .name h
  | op h => obtain ⟨x, y, rfl⟩ := len2 hl; exact .op h
  | «at» h => obtain ⟨x, rfl⟩ := len1 hl; exact .at h
  | put h => obtain ⟨x, y, rfl⟩ := len2 hl; exact .put h
theorem mpls_map {f : Mn → Mn} : ∀ {l : List Mn}, (∀ x ∈ l, mpl (f x) ≤ mpl x) → mpls (l.map f) ≤ mpls l
  | [], _ => by rw [List.map_nil]; exact Nat.le_refl _
  | x :: l, h => by
    rw [List.map_cons, mpls_cons, mpls_cons]
    have h1 := h x (by simp)
    have h2 := mpls_map (f := f) (l := l) (fun y hy => h y (by simp [hy]))
    omega
theorem mnms_map {f : Mn → Mn} : ∀ {l : List Mn}, (∀ x ∈ l, ∀ s ∈ mnm (f x), s ∈ mnm x) → ∀ s ∈ mnms (l.map f), s ∈ mnms l
  | [], _, s, hs => hs
  | x :: l, h, s, hs => by
    rw [List.map_cons, mnms_cons, List.mem_append] at hs
    rw [mnms_cons, List.mem_append]
    exact hs.imp (h x (by simp) s) (mnms_map (f := f) (l := l) (fun y hy => h y (by simp [hy])) s)
theorem smp_inv : ∀ {n : Nat} {t : Mn}, okD n t = true → okD n (smp n t) = true ∧ smD n (smp n t) = true ∧ mpl (smp n t) ≤ mpl t ∧ ∀ s ∈ mnm (smp n t), s ∈ mnm t
  | 0, _, h => by cases h
  | n + 1, ⟨k, m, s, p, l⟩, h => by
    obtain ⟨_, e, hf, hk⟩ := okD_inv h
    cases e
    have hk : ∀ x ∈ l, okD n x = true := hk
    rw [smp_eq]
    have h1 : okD (n + 1) ⟨k, m, s, p, l.map (smp n)⟩ = true := okD_mk (okF_map hf (by simp)) (fun y hy => by
      obtain ⟨x, hx, rfl⟩ := List.mem_map.1 (show y ∈ l.map (smp n) from hy)
      exact (smp_inv (hk x hx)).1)
    obtain ⟨r1, r2, r3, r4⟩ := whlF_inv (Nat.le_refl (msz ⟨k, m, s, p, l.map (smp n)⟩)) h1 (fun y hy => by
      obtain ⟨x, hx, rfl⟩ := List.mem_map.1 (show y ∈ l.map (smp n) from hy)
      exact (smp_inv (hk x hx)).2.1)
    refine ⟨r1, r2, Nat.le_trans r3 ?_, fun u hu => ?_⟩
    · rw [mpl_mk, mpl_mk]
      have := mpls_map (f := smp n) (l := l) (fun x hx => (smp_inv (hk x hx)).2.2.1)
      omega
    · have hu := r4 u hu
      rw [mnm_mk] at hu ⊢
      by_cases h2 : k = 2
      · rw [if_pos h2] at hu ⊢; exact hu
      · rw [if_neg h2] at hu ⊢
        exact mnms_map (f := smp n) (fun x hx => (smp_inv (hk x hx)).2.2.2) u hu
theorem map_id {f : Mn → Mn} : ∀ {l : List Mn}, (∀ x ∈ l, f x = x) → l.map f = l
  | [], _ => rfl
  | x :: l, h => by rw [List.map_cons, h x (by simp), map_id (fun y hy => h y (by simp [hy]))]
theorem smp_id : ∀ {n : Nat} {t : Mn}, smD n t = true → smp n t = t
  | 0, _, _ => rfl
  | n + 1, ⟨k, m, s, p, l⟩, h => by
    obtain ⟨h1, h2⟩ := smD_inv h
    have e : l.map (smp n) = l := map_id (fun x hx => smp_id (h2 x hx))
    rw [smp_eq, e]
    exact whlF_f h1
end Go.Proofs.YtlcmokgnmlklnaaDoor.K
end
