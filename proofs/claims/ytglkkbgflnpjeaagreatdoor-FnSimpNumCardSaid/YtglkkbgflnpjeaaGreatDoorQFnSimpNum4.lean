-- YtglkkbgflnpjeaaGreatDoor's texts for the statement FnSimpNum, one behind the other (merge.py).
import Derived.Test.YtglkkbgflnpjeaaGreatDoorQFnSimpNum3
import Derived.Test.YtglkkbgflnpjeaaGreatDoorQFnSimpNum2
section
namespace Go.Proofs.YtglkkbgflnpjeaaGreatDoor.K
open Go Go.RowKit Go.Proofs.YtglkkbgflnpjeaaGreatDoor.En Go.Proofs.YtglkkbgflnpjeaaGreatDoor.Ty Go.Proofs.YtglkkbgflnpjeaaGreatDoor.B
set_option maxRecDepth 100000
set_option linter.unusedSimpArgs false
set_option linter.unusedVariables false
set_option pp.deepTerms false
set_option pp.deepTerms.threshold 8
set_option pp.maxSteps 1000
set_option maxHeartbeats 1000000
theorem own_app {n : Nat} {l : List Mn} {i : Nat} {x : Mn} {c : List TV} (h : l[i]? = some x) (hc : (ownN n x).cells.map oc = c) : ocs ((l.take i).map (ownN n)) ++ [c] = ocs ((l.take (i + 1)).map (ownN n)) := by
  subst hc
  rw [List.take_add_one, h, List.map_append]
  unfold ocs
  rw [List.map_append]
  rfl
theorem set_last {α : Type} {A : List α} {i : Nat} (h : A.length = i) (c c' : α) : (A ++ [c]).set i c' = A ++ [c'] := by
  subst h
  rw [List.set_append_right _ _ (Nat.le_refl _), Nat.sub_self]
  rfl
theorem get_last {α : Type} {A : List α} {i : Nat} (h : A.length = i) (c : α) : (A ++ [c])[i]? = some c := by
  subst h
  simp
theorem ocs_len {n i : Nat} {l : List Mn} (h : i ≤ l.length) : (ocs ((l.take i).map (ownN n))).length = i := by
  unfold ocs
  simp
  omega
def cpR (n : Nat) (t : Mn) (r : TV) (H' : List AObj) : Prop := r = .ag [.p (pi t.f0), .p (pi t.f1), .p (ps t.f2), .p (.row 1 (t.f3.map pi)), .vw (.S 0) (t.f4.map (ownN n)).length] ∧ H' = [.ow 5 26 [] (ocs (t.f4.map (ownN n)))]
theorem copyM2 (G : Nat → Option PV) : ∀ (n : Nat) (t : Mn), okD n t = true → mpl t ≤ 50000 → (t.f4 = [] → FC Tryz.prog G 32 [.p (pm t), .fn 33 []] [] (fun r H' => r = .p (pm t) ∧ H' = [])) ∧
    (∀ m, n = m + 1 → t.f4 ≠ [] → FC Tryz.prog G 32 [.p (pm t), .fn 33 []] [] (cpR m t)) := by
  intro n
  induction n with
  | zero => intro t h; cases h
  | succ n ih =>
    intro ⟨k, m, s, p, l⟩ ho hpl
    obtain ⟨_, e, hf, hk⟩ := okD_inv ho
    cases e
    have hk : ∀ x ∈ l, okD n x = true := hk
    have hplk : ∀ x ∈ l, mpl x ≤ 50000 := fun x hx => by
      have := mpl_kid (t := ⟨k, m, s, p, l⟩) (x := x) hx
      omega
    have hp : p.length ≤ 50000 := by rw [mpl_mk] at hpl; omega
    have cc := clone2 G p (by omega)
    refine ⟨fun hnil => ?_, fun m' hm hne => ?_⟩
    · have hnil : l = [] := hnil
      subst hnil
      show FC _ _ _ [.p (.ag [pi k, pi m, ps s, .row 1 (p.map pi), .row 5 []]), _] _ _
      refine bdy Tryz.func32 (fun _ => 0) rfl ?_
      refine rn T 99 [] ?_
      refine rn T 99 [] ?_
      by_cases h2 : k = 2
      · subst h2
        obtain ⟨rfl, rfl⟩ : m = 0 ∧ p = [] := by cases hf with | name h => exact ⟨rfl, rfl⟩
        refine cts ?_
        refine rn T 99 [] ?_
        refine pcs (named2 G s) ?_
        refine rn T 99 [] ?_
        exact rt1 T (pm ⟨2, 0, s, [], []⟩) (⟨rfl, rfl⟩)
      · have hs : s = ⟨#[]⟩ := by cases hf with | num h => rfl | name h => exact absurd rfl h2
        subst hs
        refine cfq rfl (by simp [h2]) ?_; try (first | refine dr1 ?_ | refine dr2 ?_ | refine dr3 ?_ | refine dr4 ?_)
        refine rn T 99 [] ?_
        refine pcs (cc) ?_
        refine rn T 99 [] ?_
        refine rn T 99 [] ?_
        refine lpw (fun i : Nat => MS.mk [(26, .p (pi 0)), (25, .p (pi 0)), (2, .ptr (.L 2) 0), (4, .ptr (.L 4) 0), (5, .ptr (.L 5) 0)] 40 [(5, .box 26 [.p (pi k), .p (pi m), .p (ps ⟨#[]⟩), .p (.row 1 (p.map pi)), .nil]), (4, .box 26 [.p (pi 0), .p (pi 0), .p (ps ⟨#[]⟩), .nil, .nil])] []) (fun m i => True) (0) (0) (trivial) ?_
        intro m2 i _
        refine op ?_
        refine rn T 99 [] ?_
        refine cfs ?_
        refine rn T 99 [] ?_
        exact rt1 T (pm ⟨k, m, ⟨#[]⟩, p, []⟩) (⟨rfl, rfl⟩)
    · cases hm
      have hne : l ≠ [] := hne
      have h2 : k ≠ 2 := fun e => by
        subst e
        cases hf with
        | name h => exact hne rfl
        | op h => rcases h with h | h | h | h <;> cases h
      have hs : s = ⟨#[]⟩ := by cases hf <;> first | rfl | exact absurd rfl h2
      have hl2 : l.length ≤ 2 := by cases hf <;> simp
      subst hs
      show FC _ _ _ [.p (.ag [pi k, pi m, ps ⟨#[]⟩, .row 1 (p.map pi), .row 5 (l.map eM)]), _] _ _
      refine bdy Tryz.func32 (fun _ => 0) rfl ?_
      refine rn T 99 [] ?_
      refine rn T 99 [] ?_
      refine cfq rfl (by simp [h2]) ?_; try (first | refine dr1 ?_ | refine dr2 ?_ | refine dr3 ?_ | refine dr4 ?_)
      refine rn T 99 [] ?_
      refine pcs (cc) ?_
      refine rn T 99 [] ?_
      refine rn T 99 [] ?_
      refine lpw (fun i : Nat => (match i with | 0 => MS.mk [(26, .p (pi 0)), (25, .p (pi (l.map eM).length)), (24, .p (.row 5 (l.map eM))), (1, .fn 33 []), (2, .ptr (.L 2) 0), (4, .ptr (.L 4) 0), (5, .ptr (.L 5) 0)] 40 [(5, .box 26 [.p (pi k), .p (pi m), .p (ps ⟨#[]⟩), .p (.row 1 (p.map pi)), .nil]), (4, .box 26 [.p (pi 0), .p (pi 0), .p (ps ⟨#[]⟩), .nil, .nil])] [] | j + 1 => MS.mk [(26, .p (pi (j + 1 : Nat))), (25, .p (pi (l.map eM).length)), (24, .p (.row 5 (l.map eM))), (1, .fn 33 []), (2, .ptr (.L 2) 0), (4, .ptr (.L 4) 0), (5, .ptr (.L 5) 0)] 40 [(5, .box 26 [.p (pi k), .p (pi m), .p (ps ⟨#[]⟩), .p (.row 1 (p.map pi)), .vw (.L 36) (j + 1)]), (4, .box 26 [.p (pi 0), .p (pi 0), .p (ps ⟨#[]⟩), .nil, .nil]), (36, .ow 5 26 [] (ocs ((l.take (j + 1)).map (ownN n))))] [])) (fun m i => m + i = l.length) (l.length) (0) (by simp) ?_
      intro m2 i h1
      cases i with
      | zero =>
        refine op ?_
        refine rn T 99 [] ?_
        have hi : 0 < l.length := by cases l with | nil => exact absurd rfl hne | cons a b => simp
        refine ctq rfl (by simp [hi]) ?_
        obtain ⟨x, hx, _⟩ := drop_ix hi
        have hxm := List.mem_of_getElem? hx
        have hih := ih x (hk x hxm) (hplk x hxm)
        have hkx := hk x hxm
        have happ : ∀ c, (ownN n x).cells.map oc = c → [c] = ocs ((l.take (0 + 1)).map (ownN n)) := fun c hc => own_app (n := n) hx hc
        obtain ⟨k1, m1, s1, p1, l1⟩ := x
        refine rn T 99 [pm ⟨k1, m1, s1, p1, l1⟩] ?_
        cases l1 with
        | nil =>
          have hcall := hih.1 rfl
          have hap := happ (tcells (.p (pm ⟨k1, m1, s1, p1, []⟩))) (by rw [ownN_leaf]; rfl)
          refine AW.anyD (X := Unit) (fun _ b => MS.mk [(30, bif b 0 then .ptr (.L 5) 4 else .u), (31, bif b 1 then .nil else .u), (32, bif b 2 then .ag [.p (pi k1), .p (pi m1), .p (ps s1), .p (.row 1 (p1.map pi)), .p (.row 5 (([] : List Mn).map eM))] else .u), (33, bif b 3 then .fn 33 [] else .u), (34, bif b 4 then .p (pm ⟨k1, m1, s1, p1, []⟩) else .u), (35, bif b 5 then .vw (.L 35) 1 else .u), (36, bif b 6 then .vw (.L 36) (0 + 1) else .u), (37, bif b 7 then .ptr (.L 5) 4 else .u), (26, .p (pi 0)), (25, .p (pi (l.map eM).length)), (24, .p (.row 5 (l.map eM))), (1, .fn 33 []), (2, .ptr (.L 2) 0), (4, .ptr (.L 4) 0), (5, .ptr (.L 5) 0), (7, .ptr (.L 7) 0)] (40) (bif b 8 then (5, .box 26 [.p (pi k), .p (pi m), .p (ps ⟨#[]⟩), .p (.row 1 (p.map pi)), .vw (.L 36) (0 + 1)]) :: (36, .ow 5 26 [] ( [tcells (.p (pm ⟨k1, m1, s1, p1, []⟩))])) :: (35, .ow 5 26 [] [tcells (.p (pm ⟨k1, m1, s1, p1, []⟩))]) ::  (7, .box 26 [.p (pi k1), .p (pi m1), .p (ps s1), .p (.row 1 (p1.map pi)), .p (.row 5 (([] : List Mn).map eM))]) :: (4, .box 26 [.p (pi 0), .p (pi 0), .p (ps ⟨#[]⟩), .nil, .nil]) :: [] else (bif b 6 then (36, .ow 5 26 [] ( [tcells (.p (pm ⟨k1, m1, s1, p1, []⟩))])) :: (35, .ow 5 26 [] [tcells (.p (pm ⟨k1, m1, s1, p1, []⟩))]) ::  (7, .box 26 [.p (pi k1), .p (pi m1), .p (ps s1), .p (.row 1 (p1.map pi)), .p (.row 5 (([] : List Mn).map eM))]) :: (5, .box 26 [.p (pi k), .p (pi m), .p (ps ⟨#[]⟩), .p (.row 1 (p.map pi)), .nil]) :: (4, .box 26 [.p (pi 0), .p (pi 0), .p (ps ⟨#[]⟩), .nil, .nil]) :: [] else (bif b 5 then (35, .ow 5 26 [] [tcells (.p (pm ⟨k1, m1, s1, p1, []⟩))]) ::  (7, .box 26 [.p (pi k1), .p (pi m1), .p (ps s1), .p (.row 1 (p1.map pi)), .p (.row 5 (([] : List Mn).map eM))]) :: (5, .box 26 [.p (pi k), .p (pi m), .p (ps ⟨#[]⟩), .p (.row 1 (p.map pi)), .nil]) :: (4, .box 26 [.p (pi 0), .p (pi 0), .p (ps ⟨#[]⟩), .nil, .nil]) :: [] else (bif b 4 then  (7, .box 26 [.p (pi k1), .p (pi m1), .p (ps s1), .p (.row 1 (p1.map pi)), .p (.row 5 (([] : List Mn).map eM))]) :: (5, .box 26 [.p (pi k), .p (pi m), .p (ps ⟨#[]⟩), .p (.row 1 (p.map pi)), .nil]) :: (4, .box 26 [.p (pi 0), .p (pi 0), .p (ps ⟨#[]⟩), .nil, .nil]) :: [] else ((7, .box 26 [.p (pi k1), .p (pi m1), .p (ps s1), .p (.row 1 (p1.map pi)), .p (.row 5 (([] : List Mn).map eM))]) :: (5, .box 26 [.p (pi k), .p (pi m), .p (ps ⟨#[]⟩), .p (.row 1 (p.map pi)), .nil]) :: (4, .box 26 [.p (pi 0), .p (pi 0), .p (ps ⟨#[]⟩), .nil, .nil]) :: []))))) ([])) (fun _ _ => True) () trivial (wk_of rfl rfl (by (repeat' apply And.intro) <;> first | exact trivial | exact .inl rfl) (by (repeat' apply And.intro) <;> first | exact trivial | exact .inl rfl)) ?_ (fun τ τ' h q => AW.weak h q) ?_ (by kernel_rfl) rfl (by kernel_rfl)
          · intro b j o1 _ ho1 hb hd hcl _
            have hj : j < 9 := (Array.getElem?_eq_some_iff.1 ho1).1
            rcases (show j = 0 ∨ j = 1 ∨ j = 2 ∨ j = 3 ∨ j = 4 ∨ j = 5 ∨ j = 6 ∨ j = 7 ∨ j = 8 by omega) with rfl | rfl | rfl | rfl | rfl | rfl | rfl | rfl | rfl
            all_goals cases ho1
            all_goals refine Step1.of rfl ?_
            · have fF1 : b 1 = false := hcl 1 _ rfl 0 _ rfl rfl hb
              have fF6 : b 6 = false := hcl 6 _ rfl 0 _ rfl rfl fF1
              have fF7 : b 7 = false := hcl 7 _ rfl 0 _ rfl rfl hb
              have fF8 : b 8 = false := hcl 8 _ rfl 0 _ rfl rfl fF7
              simp only [upB_eq, ↓reduceIte, Nat.reduceEqDiff, hb, cond_true, cond_false, fF1, fF6, fF7, fF8]
              refine rn T 99 [] ?_
              first | exact ⟨(), trivial, wk_l (by (repeat' apply And.intro) <;> first | exact trivial | exact .inl rfl)⟩ | exact ⟨(), trivial, wk_of rfl rfl (by (repeat' apply And.intro) <;> first | exact trivial | exact .inl rfl) (by (repeat' apply And.intro) <;> first | exact trivial | exact .inl rfl)⟩
            · have fT0 : b 0 = true := hd 0 _ rfl rfl
              have fF6 : b 6 = false := hcl 6 _ rfl 0 _ rfl rfl hb
              have fF7 : b 7 = false := hcl 7 _ rfl 1 _ rfl rfl hb
              have fF8 : b 8 = false := hcl 8 _ rfl 0 _ rfl rfl fF7
              simp only [upB_eq, ↓reduceIte, Nat.reduceEqDiff, hb, cond_true, cond_false, fT0, fF6, fF7, fF8]
              refine EOps.ldC T rfl (m := 5) (off := 4) (t' := 26) (c := [.p (pi k), .p (pi m), .p (ps ⟨#[]⟩), .p (.row 1 (p.map pi)), .nil]) (v := .nil) rfl (by cases b 5 <;> cases b 4 <;> rfl) rfl rfl rfl (EOps.nil ?_)
              first | exact ⟨(), trivial, wk_l (by (repeat' apply And.intro) <;> first | exact trivial | exact .inl rfl)⟩ | exact ⟨(), trivial, wk_of rfl rfl (by (repeat' apply And.intro) <;> first | exact trivial | exact .inl rfl) (by (repeat' apply And.intro) <;> first | exact trivial | exact .inl rfl)⟩
            · have fF4 : b 4 = false := hcl 4 _ rfl 0 _ rfl rfl hb
              have fF5 : b 5 = false := hcl 5 _ rfl 0 _ rfl rfl fF4
              have fF6 : b 6 = false := hcl 6 _ rfl 1 _ rfl rfl fF5
              have fF7 : b 7 = false := hcl 7 _ rfl 2 _ rfl rfl hb
              have fF8 : b 8 = false := hcl 8 _ rfl 0 _ rfl rfl fF7
              simp only [upB_eq, ↓reduceIte, Nat.reduceEqDiff, hb, cond_true, cond_false, fF4, fF5, fF6, fF7, fF8]
              refine rn T 99 [] ?_
              first | exact ⟨(), trivial, wk_l (by (repeat' apply And.intro) <;> first | exact trivial | exact .inl rfl)⟩ | exact ⟨(), trivial, wk_of rfl rfl (by (repeat' apply And.intro) <;> first | exact trivial | exact .inl rfl) (by (repeat' apply And.intro) <;> first | exact trivial | exact .inl rfl)⟩
            · have fF4 : b 4 = false := hcl 4 _ rfl 1 _ rfl rfl hb
              have fF5 : b 5 = false := hcl 5 _ rfl 0 _ rfl rfl fF4
              have fF6 : b 6 = false := hcl 6 _ rfl 1 _ rfl rfl fF5
              have fF7 : b 7 = false := hcl 7 _ rfl 3 _ rfl rfl hb
              have fF8 : b 8 = false := hcl 8 _ rfl 0 _ rfl rfl fF7
              simp only [upB_eq, ↓reduceIte, Nat.reduceEqDiff, hb, cond_true, cond_false, fF4, fF5, fF6, fF7, fF8]
              refine rn T 99 [] ?_
              first | exact ⟨(), trivial, wk_l (by (repeat' apply And.intro) <;> first | exact trivial | exact .inl rfl)⟩ | exact ⟨(), trivial, wk_of rfl rfl (by (repeat' apply And.intro) <;> first | exact trivial | exact .inl rfl) (by (repeat' apply And.intro) <;> first | exact trivial | exact .inl rfl)⟩
            · have fT3 : b 3 = true := hd 1 _ rfl rfl
              have fT2 : b 2 = true := hd 0 _ rfl rfl
              have fF5 : b 5 = false := hcl 5 _ rfl 0 _ rfl rfl hb
              have fF6 : b 6 = false := hcl 6 _ rfl 1 _ rfl rfl fF5
              have fF7 : b 7 = false := hcl 7 _ rfl 4 _ rfl rfl hb
              have fF8 : b 8 = false := hcl 8 _ rfl 0 _ rfl rfl fF7
              simp only [upB_eq, ↓reduceIte, Nat.reduceEqDiff, hb, cond_true, cond_false, fT3, fT2, fF5, fF6, fF7, fF8]
              refine EOps.cg [] [] [] [.ag [.p (pi k1), .p (pi m1), .p (ps s1), .p (.row 1 (p1.map pi)), .p (.row 5 (([] : List Mn).map eM))], .fn 33 []] [.p (pm ⟨k1, m1, s1, p1, ([] : List Mn)⟩), .fn 33 []] hcall rfl rfl rfl ⟨.inl (.inl ⟨_, rfl, by (repeat' apply And.intro) <;> first | trivial | rfl⟩), .inl (.inr rfl), trivial⟩ rfl rfl (by simp) (by decide) (by cases b 0 <;> cases b 1 <;> rfl) (by rintro _ _ ⟨rfl, rfl⟩; exact ⟨by simp, rfl⟩) ?_
              rintro _ _ ⟨rfl, rfl⟩
              refine EOps.nil ?_
              first | exact ⟨(), trivial, wk_l (by (repeat' apply And.intro) <;> first | exact trivial | exact .inl rfl)⟩ | exact ⟨(), trivial, wk_of rfl rfl (by (repeat' apply And.intro) <;> first | exact trivial | exact .inl rfl) (by (repeat' apply And.intro) <;> first | exact trivial | exact .inl rfl)⟩
            · have fT4 : b 4 = true := hd 0 _ rfl rfl
              have fT3 : b 3 = true := by
                cases h : b 3 with
                | true => rfl
                | false => rw [hcl 4 _ rfl 1 _ rfl rfl h] at fT4; cases fT4
              have fT2 : b 2 = true := by
                cases h : b 2 with
                | true => rfl
                | false => rw [hcl 4 _ rfl 0 _ rfl rfl h] at fT4; cases fT4
              have fF6 : b 6 = false := hcl 6 _ rfl 1 _ rfl rfl hb
              have fF7 : b 7 = false := hcl 7 _ rfl 5 _ rfl rfl hb
              have fF8 : b 8 = false := hcl 8 _ rfl 0 _ rfl rfl fF7
              simp only [upB_eq, ↓reduceIte, Nat.reduceEqDiff, hb, cond_true, cond_false, fT4, fT3, fT2, fF6, fF7, fF8]
              refine EOps.bs T [] (e := 26) (z := 5) (b := true) (vs := [.p (pm ⟨k1, m1, s1, p1, []⟩)]) rfl rfl rfl rfl rfl (by decide) rfl (fun v hv => by obtain rfl := List.mem_singleton.1 hv; exact ⟨trivial, rfl, fun x hx => by simp [tcells] at hx; rcases hx with rfl | rfl | rfl | rfl | rfl <;> first | exact .p | exact .vw (List.mem_cons_self ..)⟩) (by cases b 0 <;> cases b 1 <;> rfl) (fun m hm => by simp at hm; try (subst hm; trivial)) (EOps.nil ?_)
              first | exact ⟨(), trivial, wk_l (by (repeat' apply And.intro) <;> first | exact trivial | exact .inl rfl)⟩ | exact ⟨(), trivial, wk_of rfl rfl (by (repeat' apply And.intro) <;> first | exact trivial | exact .inl rfl) (by (repeat' apply And.intro) <;> first | exact trivial | exact .inl rfl)⟩
            · have fT5 : b 5 = true := hd 1 _ rfl rfl
              have fT4 : b 4 = true := hd 2 _ rfl rfl
              have fT3 : b 3 = true := by
                cases h : b 3 with
                | true => rfl
                | false => rw [hcl 4 _ rfl 1 _ rfl rfl h] at fT4; cases fT4
              have fT2 : b 2 = true := by
                cases h : b 2 with
                | true => rfl
                | false => rw [hcl 4 _ rfl 0 _ rfl rfl h] at fT4; cases fT4
              have fT1 : b 1 = true := hd 0 _ rfl rfl
              have fT0 : b 0 = true := by
                cases h : b 0 with
                | true => rfl
                | false => rw [hcl 1 _ rfl 0 _ rfl rfl h] at fT1; cases fT1
              have fF7 : b 7 = false := hcl 7 _ rfl 6 _ rfl rfl hb
              have fF8 : b 8 = false := hcl 8 _ rfl 0 _ rfl rfl fF7
              simp only [upB_eq, ↓reduceIte, Nat.reduceEqDiff, hb, cond_true, cond_false, fT5, fT4, fT3, fT2, fT1, fT0, fF7, fF8]
              refine EOps.ap0L T [] 36 (ys := [tcells (.p (pm ⟨k1, m1, s1, p1, []⟩))]) rfl rfl rfl rfl rfl rfl rfl rfl (by decide) rfl (.inr ⟨.L 35, 1, 26, [], rfl, rfl, rfl, fun y hy => by simp [tcells] at hy; rcases hy with rfl | rfl | rfl | rfl | rfl <;> trivial⟩) (fun y hy => by simp [tcells] at hy; rcases hy with rfl | rfl | rfl | rfl | rfl <;> first | exact .p | exact .vw (List.mem_cons_self ..)) (fun m hm => by simp at hm; try (subst hm; trivial)) (by show 1 * _ ≤ _; decide) (EOps.nil ?_)
              first | exact ⟨(), trivial, wk_l (by (repeat' apply And.intro) <;> first | exact trivial | exact .inl rfl)⟩ | exact ⟨(), trivial, wk_of rfl rfl (by (repeat' apply And.intro) <;> first | exact trivial | exact .inl rfl) (by (repeat' apply And.intro) <;> first | exact trivial | exact .inl rfl)⟩
            · have fT6 : b 6 = true := hd 6 _ rfl rfl
              have fT5 : b 5 = true := hd 5 _ rfl rfl
              have fT4 : b 4 = true := hd 4 _ rfl rfl
              have fT3 : b 3 = true := hd 3 _ rfl rfl
              have fT2 : b 2 = true := hd 2 _ rfl rfl
              have fT1 : b 1 = true := hd 1 _ rfl rfl
              have fT0 : b 0 = true := hd 0 _ rfl rfl
              have fF8 : b 8 = false := hcl 8 _ rfl 0 _ rfl rfl hb
              simp only [upB_eq, ↓reduceIte, Nat.reduceEqDiff, hb, cond_true, cond_false, fT6, fT5, fT4, fT3, fT2, fT1, fT0, fF8]
              refine rn T 99 [] ?_
              first | exact ⟨(), trivial, wk_l (by (repeat' apply And.intro) <;> first | exact trivial | exact .inl rfl)⟩ | exact ⟨(), trivial, wk_of rfl rfl (by (repeat' apply And.intro) <;> first | exact trivial | exact .inl rfl) (by (repeat' apply And.intro) <;> first | exact trivial | exact .inl rfl)⟩
            · have fT7 : b 7 = true := hd 0 _ rfl rfl
              have fT6 : b 6 = true := hd 1 _ rfl rfl
              have fT5 : b 5 = true := hd 8 _ rfl rfl
              have fT4 : b 4 = true := hd 7 _ rfl rfl
              have fT3 : b 3 = true := hd 6 _ rfl rfl
              have fT2 : b 2 = true := hd 5 _ rfl rfl
              have fT1 : b 1 = true := hd 4 _ rfl rfl
              have fT0 : b 0 = true := hd 3 _ rfl rfl
              simp only [upB_eq, ↓reduceIte, Nat.reduceEqDiff, hb, cond_true, cond_false, fT7, fT6, fT5, fT4, fT3, fT2, fT1, fT0]
              refine rn T 99 [] ?_
              first | exact ⟨(), trivial, wk_l (by (repeat' apply And.intro) <;> first | exact trivial | exact .inl rfl)⟩ | exact ⟨(), trivial, wk_of rfl rfl (by (repeat' apply And.intro) <;> first | exact trivial | exact .inl rfl) (by (repeat' apply And.intro) <;> first | exact trivial | exact .inl rfl)⟩
          · intro b _ hall _
            have fT0 := hall 0 (by decide)
            have fT1 := hall 1 (by decide)
            have fT2 := hall 2 (by decide)
            have fT3 := hall 3 (by decide)
            have fT4 := hall 4 (by decide)
            have fT5 := hall 5 (by decide)
            have fT6 := hall 6 (by decide)
            have fT7 := hall 7 (by decide)
            have fT8 := hall 8 (by decide)
            simp only [cond_true, fT0, fT1, fT2, fT3, fT4, fT5, fT6, fT7, fT8]
            refine op ?_
            refine rn T 99 [] ?_
            rw [hap]
            refine nxt (m2 - 1) (1) (by omega)
        | cons y1 l1 =>
          obtain ⟨n', rfl, _, _⟩ := okD_inv hkx
          have hcall := hih.2 n' rfl (by intro e; cases e)
          have hap := happ _ rfl
          refine AW.anyD (X := Unit) (fun _ b => MS.mk [(30, bif b 0 then .ptr (.L 5) 4 else .u), (31, bif b 1 then .nil else .u), (32, bif b 2 then .ag [.p (pi k1), .p (pi m1), .p (ps s1), .p (.row 1 (p1.map pi)), .p (.row 5 ((y1 :: l1).map eM))] else .u), (33, bif b 3 then .fn 33 [] else .u), (34, bif b 4 then .ag [.p (pi k1), .p (pi m1), .p (ps s1), .p (.row 1 (p1.map pi)), .vw (.L 101) ((y1 :: l1).map (ownN n')).length] else .u), (35, bif b 5 then .vw (.L 35) 1 else .u), (36, bif b 6 then .vw (.L 36) (0 + 1) else .u), (37, bif b 7 then .ptr (.L 5) 4 else .u), (26, .p (pi 0)), (25, .p (pi (l.map eM).length)), (24, .p (.row 5 (l.map eM))), (1, .fn 33 []), (2, .ptr (.L 2) 0), (4, .ptr (.L 4) 0), (5, .ptr (.L 5) 0), (7, .ptr (.L 7) 0)] (40) (bif b 8 then (5, .box 26 [.p (pi k), .p (pi m), .p (ps ⟨#[]⟩), .p (.row 1 (p.map pi)), .vw (.L 36) (0 + 1)]) :: (36, .ow 5 26 [.L 101] ( [tcells (.ag [.p (pi k1), .p (pi m1), .p (ps s1), .p (.row 1 (p1.map pi)), .vw (.L 101) ((y1 :: l1).map (ownN n')).length])])) :: (35, .ow 5 26 [.L 101] [tcells (.ag [.p (pi k1), .p (pi m1), .p (ps s1), .p (.row 1 (p1.map pi)), .vw (.L 101) ((y1 :: l1).map (ownN n')).length])]) :: (101, .ow 5 26 [] (ocs ((y1 :: l1).map (ownN n')))) :: (7, .box 26 [.p (pi k1), .p (pi m1), .p (ps s1), .p (.row 1 (p1.map pi)), .p (.row 5 ((y1 :: l1).map eM))]) :: (4, .box 26 [.p (pi 0), .p (pi 0), .p (ps ⟨#[]⟩), .nil, .nil]) :: [] else (bif b 6 then (36, .ow 5 26 [.L 101] ( [tcells (.ag [.p (pi k1), .p (pi m1), .p (ps s1), .p (.row 1 (p1.map pi)), .vw (.L 101) ((y1 :: l1).map (ownN n')).length])])) :: (35, .ow 5 26 [.L 101] [tcells (.ag [.p (pi k1), .p (pi m1), .p (ps s1), .p (.row 1 (p1.map pi)), .vw (.L 101) ((y1 :: l1).map (ownN n')).length])]) :: (101, .ow 5 26 [] (ocs ((y1 :: l1).map (ownN n')))) :: (7, .box 26 [.p (pi k1), .p (pi m1), .p (ps s1), .p (.row 1 (p1.map pi)), .p (.row 5 ((y1 :: l1).map eM))]) :: (5, .box 26 [.p (pi k), .p (pi m), .p (ps ⟨#[]⟩), .p (.row 1 (p.map pi)), .nil]) :: (4, .box 26 [.p (pi 0), .p (pi 0), .p (ps ⟨#[]⟩), .nil, .nil]) :: [] else (bif b 5 then (35, .ow 5 26 [.L 101] [tcells (.ag [.p (pi k1), .p (pi m1), .p (ps s1), .p (.row 1 (p1.map pi)), .vw (.L 101) ((y1 :: l1).map (ownN n')).length])]) :: (101, .ow 5 26 [] (ocs ((y1 :: l1).map (ownN n')))) :: (7, .box 26 [.p (pi k1), .p (pi m1), .p (ps s1), .p (.row 1 (p1.map pi)), .p (.row 5 ((y1 :: l1).map eM))]) :: (5, .box 26 [.p (pi k), .p (pi m), .p (ps ⟨#[]⟩), .p (.row 1 (p.map pi)), .nil]) :: (4, .box 26 [.p (pi 0), .p (pi 0), .p (ps ⟨#[]⟩), .nil, .nil]) :: [] else (bif b 4 then (101, .ow 5 26 [] (ocs ((y1 :: l1).map (ownN n')))) :: (7, .box 26 [.p (pi k1), .p (pi m1), .p (ps s1), .p (.row 1 (p1.map pi)), .p (.row 5 ((y1 :: l1).map eM))]) :: (5, .box 26 [.p (pi k), .p (pi m), .p (ps ⟨#[]⟩), .p (.row 1 (p.map pi)), .nil]) :: (4, .box 26 [.p (pi 0), .p (pi 0), .p (ps ⟨#[]⟩), .nil, .nil]) :: [] else ((7, .box 26 [.p (pi k1), .p (pi m1), .p (ps s1), .p (.row 1 (p1.map pi)), .p (.row 5 ((y1 :: l1).map eM))]) :: (5, .box 26 [.p (pi k), .p (pi m), .p (ps ⟨#[]⟩), .p (.row 1 (p.map pi)), .nil]) :: (4, .box 26 [.p (pi 0), .p (pi 0), .p (ps ⟨#[]⟩), .nil, .nil]) :: []))))) ([])) (fun _ _ => True) () trivial (wk_of rfl rfl (by (repeat' apply And.intro) <;> first | exact trivial | exact .inl rfl) (by (repeat' apply And.intro) <;> first | exact trivial | exact .inl rfl)) ?_ (fun τ τ' h q => AW.weak h q) ?_ (by kernel_rfl) rfl (by kernel_rfl)
          · intro b j o1 _ ho1 hb hd hcl _
            have hj : j < 9 := (Array.getElem?_eq_some_iff.1 ho1).1
            rcases (show j = 0 ∨ j = 1 ∨ j = 2 ∨ j = 3 ∨ j = 4 ∨ j = 5 ∨ j = 6 ∨ j = 7 ∨ j = 8 by omega) with rfl | rfl | rfl | rfl | rfl | rfl | rfl | rfl | rfl
            all_goals cases ho1
            all_goals refine Step1.of rfl ?_
            · have fF1 : b 1 = false := hcl 1 _ rfl 0 _ rfl rfl hb
              have fF6 : b 6 = false := hcl 6 _ rfl 0 _ rfl rfl fF1
              have fF7 : b 7 = false := hcl 7 _ rfl 0 _ rfl rfl hb
              have fF8 : b 8 = false := hcl 8 _ rfl 0 _ rfl rfl fF7
              simp only [upB_eq, ↓reduceIte, Nat.reduceEqDiff, hb, cond_true, cond_false, fF1, fF6, fF7, fF8]
              refine rn T 99 [] ?_
              first | exact ⟨(), trivial, wk_l (by (repeat' apply And.intro) <;> first | exact trivial | exact .inl rfl)⟩ | exact ⟨(), trivial, wk_of rfl rfl (by (repeat' apply And.intro) <;> first | exact trivial | exact .inl rfl) (by (repeat' apply And.intro) <;> first | exact trivial | exact .inl rfl)⟩
            · have fT0 : b 0 = true := hd 0 _ rfl rfl
              have fF6 : b 6 = false := hcl 6 _ rfl 0 _ rfl rfl hb
              have fF7 : b 7 = false := hcl 7 _ rfl 1 _ rfl rfl hb
              have fF8 : b 8 = false := hcl 8 _ rfl 0 _ rfl rfl fF7
              simp only [upB_eq, ↓reduceIte, Nat.reduceEqDiff, hb, cond_true, cond_false, fT0, fF6, fF7, fF8]
              refine EOps.ldC T rfl (m := 5) (off := 4) (t' := 26) (c := [.p (pi k), .p (pi m), .p (ps ⟨#[]⟩), .p (.row 1 (p.map pi)), .nil]) (v := .nil) rfl (by cases b 5 <;> cases b 4 <;> rfl) rfl rfl rfl (EOps.nil ?_)
              first | exact ⟨(), trivial, wk_l (by (repeat' apply And.intro) <;> first | exact trivial | exact .inl rfl)⟩ | exact ⟨(), trivial, wk_of rfl rfl (by (repeat' apply And.intro) <;> first | exact trivial | exact .inl rfl) (by (repeat' apply And.intro) <;> first | exact trivial | exact .inl rfl)⟩
            · have fF4 : b 4 = false := hcl 4 _ rfl 0 _ rfl rfl hb
              have fF5 : b 5 = false := hcl 5 _ rfl 0 _ rfl rfl fF4
              have fF6 : b 6 = false := hcl 6 _ rfl 1 _ rfl rfl fF5
              have fF7 : b 7 = false := hcl 7 _ rfl 2 _ rfl rfl hb
              have fF8 : b 8 = false := hcl 8 _ rfl 0 _ rfl rfl fF7
              simp only [upB_eq, ↓reduceIte, Nat.reduceEqDiff, hb, cond_true, cond_false, fF4, fF5, fF6, fF7, fF8]
              refine rn T 99 [] ?_
              first | exact ⟨(), trivial, wk_l (by (repeat' apply And.intro) <;> first | exact trivial | exact .inl rfl)⟩ | exact ⟨(), trivial, wk_of rfl rfl (by (repeat' apply And.intro) <;> first | exact trivial | exact .inl rfl) (by (repeat' apply And.intro) <;> first | exact trivial | exact .inl rfl)⟩
            · have fF4 : b 4 = false := hcl 4 _ rfl 1 _ rfl rfl hb
              have fF5 : b 5 = false := hcl 5 _ rfl 0 _ rfl rfl fF4
              have fF6 : b 6 = false := hcl 6 _ rfl 1 _ rfl rfl fF5
              have fF7 : b 7 = false := hcl 7 _ rfl 3 _ rfl rfl hb
              have fF8 : b 8 = false := hcl 8 _ rfl 0 _ rfl rfl fF7
              simp only [upB_eq, ↓reduceIte, Nat.reduceEqDiff, hb, cond_true, cond_false, fF4, fF5, fF6, fF7, fF8]
              refine rn T 99 [] ?_
              first | exact ⟨(), trivial, wk_l (by (repeat' apply And.intro) <;> first | exact trivial | exact .inl rfl)⟩ | exact ⟨(), trivial, wk_of rfl rfl (by (repeat' apply And.intro) <;> first | exact trivial | exact .inl rfl) (by (repeat' apply And.intro) <;> first | exact trivial | exact .inl rfl)⟩
            · have fT3 : b 3 = true := hd 1 _ rfl rfl
              have fT2 : b 2 = true := hd 0 _ rfl rfl
              have fF5 : b 5 = false := hcl 5 _ rfl 0 _ rfl rfl hb
              have fF6 : b 6 = false := hcl 6 _ rfl 1 _ rfl rfl fF5
              have fF7 : b 7 = false := hcl 7 _ rfl 4 _ rfl rfl hb
              have fF8 : b 8 = false := hcl 8 _ rfl 0 _ rfl rfl fF7
              simp only [upB_eq, ↓reduceIte, Nat.reduceEqDiff, hb, cond_true, cond_false, fT3, fT2, fF5, fF6, fF7, fF8]
              refine EOps.cg [] [101] [] [.ag [.p (pi k1), .p (pi m1), .p (ps s1), .p (.row 1 (p1.map pi)), .p (.row 5 ((y1 :: l1).map eM))], .fn 33 []] [.p (pm ⟨k1, m1, s1, p1, (y1 :: l1)⟩), .fn 33 []] hcall rfl rfl rfl ⟨.inl (.inl ⟨_, rfl, by (repeat' apply And.intro) <;> first | trivial | rfl⟩), .inl (.inr rfl), trivial⟩ rfl rfl (by simp) (by decide) (by cases b 0 <;> cases b 1 <;> rfl) (by rintro _ _ ⟨rfl, rfl⟩; exact ⟨by simp [cloO], rfl⟩) ?_
              rintro _ _ ⟨rfl, rfl⟩
              refine EOps.nil ?_
              first | exact ⟨(), trivial, wk_l (by (repeat' apply And.intro) <;> first | exact trivial | exact .inl rfl)⟩ | exact ⟨(), trivial, wk_of rfl rfl (by (repeat' apply And.intro) <;> first | exact trivial | exact .inl rfl) (by (repeat' apply And.intro) <;> first | exact trivial | exact .inl rfl)⟩
            · have fT4 : b 4 = true := hd 0 _ rfl rfl
              have fT3 : b 3 = true := by
                cases h : b 3 with
                | true => rfl
                | false => rw [hcl 4 _ rfl 1 _ rfl rfl h] at fT4; cases fT4
              have fT2 : b 2 = true := by
                cases h : b 2 with
                | true => rfl
                | false => rw [hcl 4 _ rfl 0 _ rfl rfl h] at fT4; cases fT4
              have fF6 : b 6 = false := hcl 6 _ rfl 1 _ rfl rfl hb
              have fF7 : b 7 = false := hcl 7 _ rfl 5 _ rfl rfl hb
              have fF8 : b 8 = false := hcl 8 _ rfl 0 _ rfl rfl fF7
              simp only [upB_eq, ↓reduceIte, Nat.reduceEqDiff, hb, cond_true, cond_false, fT4, fT3, fT2, fF6, fF7, fF8]
              refine EOps.bs T [.L 101] (e := 26) (z := 5) (b := true) (vs := [.ag [.p (pi k1), .p (pi m1), .p (ps s1), .p (.row 1 (p1.map pi)), .vw (.L 101) ((y1 :: l1).map (ownN n')).length]]) rfl rfl rfl rfl rfl (by decide) rfl (fun v hv => by obtain rfl := List.mem_singleton.1 hv; exact ⟨trivial, rfl, fun x hx => by simp [tcells] at hx; rcases hx with rfl | rfl | rfl | rfl | rfl <;> first | exact .p | exact .vw (List.mem_cons_self ..)⟩) (by cases b 0 <;> cases b 1 <;> rfl) (fun m hm => by simp at hm; try (subst hm; trivial)) (EOps.nil ?_)
              first | exact ⟨(), trivial, wk_l (by (repeat' apply And.intro) <;> first | exact trivial | exact .inl rfl)⟩ | exact ⟨(), trivial, wk_of rfl rfl (by (repeat' apply And.intro) <;> first | exact trivial | exact .inl rfl) (by (repeat' apply And.intro) <;> first | exact trivial | exact .inl rfl)⟩
            · have fT5 : b 5 = true := hd 1 _ rfl rfl
              have fT4 : b 4 = true := hd 2 _ rfl rfl
              have fT3 : b 3 = true := by
                cases h : b 3 with
                | true => rfl
                | false => rw [hcl 4 _ rfl 1 _ rfl rfl h] at fT4; cases fT4
              have fT2 : b 2 = true := by
                cases h : b 2 with
                | true => rfl
                | false => rw [hcl 4 _ rfl 0 _ rfl rfl h] at fT4; cases fT4
              have fT1 : b 1 = true := hd 0 _ rfl rfl
              have fT0 : b 0 = true := by
                cases h : b 0 with
                | true => rfl
                | false => rw [hcl 1 _ rfl 0 _ rfl rfl h] at fT1; cases fT1
              have fF7 : b 7 = false := hcl 7 _ rfl 6 _ rfl rfl hb
              have fF8 : b 8 = false := hcl 8 _ rfl 0 _ rfl rfl fF7
              simp only [upB_eq, ↓reduceIte, Nat.reduceEqDiff, hb, cond_true, cond_false, fT5, fT4, fT3, fT2, fT1, fT0, fF7, fF8]
              refine EOps.ap0L T [.L 101] 36 (ys := [tcells (.ag [.p (pi k1), .p (pi m1), .p (ps s1), .p (.row 1 (p1.map pi)), .vw (.L 101) ((y1 :: l1).map (ownN n')).length])]) rfl rfl rfl rfl rfl rfl rfl rfl (by decide) rfl (.inr ⟨.L 35, 1, 26, [.L 101], rfl, rfl, rfl, fun y hy => by simp [tcells] at hy; rcases hy with rfl | rfl | rfl | rfl | rfl <;> trivial⟩) (fun y hy => by simp [tcells] at hy; rcases hy with rfl | rfl | rfl | rfl | rfl <;> first | exact .p | exact .vw (List.mem_cons_self ..)) (fun m hm => by simp at hm; try (subst hm; trivial)) (by show 1 * _ ≤ _; decide) (EOps.nil ?_)
              first | exact ⟨(), trivial, wk_l (by (repeat' apply And.intro) <;> first | exact trivial | exact .inl rfl)⟩ | exact ⟨(), trivial, wk_of rfl rfl (by (repeat' apply And.intro) <;> first | exact trivial | exact .inl rfl) (by (repeat' apply And.intro) <;> first | exact trivial | exact .inl rfl)⟩
            · have fT6 : b 6 = true := hd 6 _ rfl rfl
              have fT5 : b 5 = true := hd 5 _ rfl rfl
              have fT4 : b 4 = true := hd 4 _ rfl rfl
              have fT3 : b 3 = true := hd 3 _ rfl rfl
              have fT2 : b 2 = true := hd 2 _ rfl rfl
              have fT1 : b 1 = true := hd 1 _ rfl rfl
              have fT0 : b 0 = true := hd 0 _ rfl rfl
              have fF8 : b 8 = false := hcl 8 _ rfl 0 _ rfl rfl hb
              simp only [upB_eq, ↓reduceIte, Nat.reduceEqDiff, hb, cond_true, cond_false, fT6, fT5, fT4, fT3, fT2, fT1, fT0, fF8]
              refine rn T 99 [] ?_
              first | exact ⟨(), trivial, wk_l (by (repeat' apply And.intro) <;> first | exact trivial | exact .inl rfl)⟩ | exact ⟨(), trivial, wk_of rfl rfl (by (repeat' apply And.intro) <;> first | exact trivial | exact .inl rfl) (by (repeat' apply And.intro) <;> first | exact trivial | exact .inl rfl)⟩
            · have fT7 : b 7 = true := hd 0 _ rfl rfl
              have fT6 : b 6 = true := hd 1 _ rfl rfl
              have fT5 : b 5 = true := hd 8 _ rfl rfl
              have fT4 : b 4 = true := hd 7 _ rfl rfl
              have fT3 : b 3 = true := hd 6 _ rfl rfl
              have fT2 : b 2 = true := hd 5 _ rfl rfl
              have fT1 : b 1 = true := hd 4 _ rfl rfl
              have fT0 : b 0 = true := hd 3 _ rfl rfl
              simp only [upB_eq, ↓reduceIte, Nat.reduceEqDiff, hb, cond_true, cond_false, fT7, fT6, fT5, fT4, fT3, fT2, fT1, fT0]
              refine rn T 99 [] ?_
              first | exact ⟨(), trivial, wk_l (by (repeat' apply And.intro) <;> first | exact trivial | exact .inl rfl)⟩ | exact ⟨(), trivial, wk_of rfl rfl (by (repeat' apply And.intro) <;> first | exact trivial | exact .inl rfl) (by (repeat' apply And.intro) <;> first | exact trivial | exact .inl rfl)⟩
          · intro b _ hall _
            have fT0 := hall 0 (by decide)
            have fT1 := hall 1 (by decide)
            have fT2 := hall 2 (by decide)
            have fT3 := hall 3 (by decide)
            have fT4 := hall 4 (by decide)
            have fT5 := hall 5 (by decide)
            have fT6 := hall 6 (by decide)
            have fT7 := hall 7 (by decide)
            have fT8 := hall 8 (by decide)
            simp only [cond_true, fT0, fT1, fT2, fT3, fT4, fT5, fT6, fT7, fT8]
            refine op ?_
            refine EOps.absL 36 101 0 4 ((l.take 1).map (ownN (n' + 1))) rfl rfl rfl rfl rfl rfl hap ?_
            refine rn T 99 [] ?_
            refine nxt (m2 - 1) (1) (by omega)
      | succ i =>
        have hln : (ocs ((l.take (i + 1)).map (ownN n))).length = i + 1 := ocs_len (by omega)
        refine op ?_
        refine rn T 99 [] ?_
        by_cases hi : i + 1 < l.length
        · refine ctq rfl (by simp; omega) ?_
          obtain ⟨x, hx, _⟩ := drop_ix hi
          have hxm := List.mem_of_getElem? hx
          have hih := ih x (hk x hxm) (hplk x hxm)
          have hkx := hk x hxm
          have happ : ∀ c, (ownN n x).cells.map oc = c → ocs ((l.take (i + 1)).map (ownN n)) ++ [c] = ocs ((l.take (i + 1 + 1)).map (ownN n)) := fun c hc => own_app (n := n) hx hc
          obtain ⟨k1, m1, s1, p1, l1⟩ := x
          refine rn T 99 [pm ⟨k1, m1, s1, p1, l1⟩] ?_
          cases l1 with
          | nil =>
            have hcall := hih.1 rfl
            have hap := happ (tcells (.p (pm ⟨k1, m1, s1, p1, []⟩))) (by rw [ownN_leaf]; rfl)
            refine AW.anyD (X := Unit) (fun _ b => MS.mk [(30, bif b 0 then .ptr (.L 5) 4 else .u), (31, bif b 1 then .vw (.L 36) (i + 1) else .u), (32, bif b 2 then .ag [.p (pi k1), .p (pi m1), .p (ps s1), .p (.row 1 (p1.map pi)), .p (.row 5 (([] : List Mn).map eM))] else .u), (33, bif b 3 then .fn 33 [] else .u), (34, bif b 4 then .p (pm ⟨k1, m1, s1, p1, []⟩) else .u), (35, bif b 5 then .vw (.L 35) 1 else .u), (36, bif b 6 then .vw (.L 36) ((i + 1 : Nat) + 1) else .u), (37, bif b 7 then .ptr (.L 5) 4 else .u), (26, .p (pi (i + 1 : Nat))), (25, .p (pi (l.map eM).length)), (24, .p (.row 5 (l.map eM))), (1, .fn 33 []), (2, .ptr (.L 2) 0), (4, .ptr (.L 4) 0), (5, .ptr (.L 5) 0), (7, .ptr (.L 7) 0)] (40) (bif b 8 then (5, .box 26 [.p (pi k), .p (pi m), .p (ps ⟨#[]⟩), .p (.row 1 (p.map pi)), .vw (.L 36) ((i + 1 : Nat) + 1)]) :: (36, .ow 5 26 [] (ocs ((l.take (i + 1)).map (ownN n)) ++ [tcells (.p (pm ⟨k1, m1, s1, p1, []⟩))])) :: (35, .ow 5 26 [] [tcells (.p (pm ⟨k1, m1, s1, p1, []⟩))]) ::  (7, .box 26 [.p (pi k1), .p (pi m1), .p (ps s1), .p (.row 1 (p1.map pi)), .p (.row 5 (([] : List Mn).map eM))]) :: (4, .box 26 [.p (pi 0), .p (pi 0), .p (ps ⟨#[]⟩), .nil, .nil]) :: [] else (bif b 6 then (36, .ow 5 26 [] (ocs ((l.take (i + 1)).map (ownN n)) ++ [tcells (.p (pm ⟨k1, m1, s1, p1, []⟩))])) :: (35, .ow 5 26 [] [tcells (.p (pm ⟨k1, m1, s1, p1, []⟩))]) ::  (7, .box 26 [.p (pi k1), .p (pi m1), .p (ps s1), .p (.row 1 (p1.map pi)), .p (.row 5 (([] : List Mn).map eM))]) :: (5, .box 26 [.p (pi k), .p (pi m), .p (ps ⟨#[]⟩), .p (.row 1 (p.map pi)), .vw (.L 36) (i + 1)]) :: (4, .box 26 [.p (pi 0), .p (pi 0), .p (ps ⟨#[]⟩), .nil, .nil]) :: [] else (bif b 5 then (35, .ow 5 26 [] [tcells (.p (pm ⟨k1, m1, s1, p1, []⟩))]) ::  (7, .box 26 [.p (pi k1), .p (pi m1), .p (ps s1), .p (.row 1 (p1.map pi)), .p (.row 5 (([] : List Mn).map eM))]) :: (5, .box 26 [.p (pi k), .p (pi m), .p (ps ⟨#[]⟩), .p (.row 1 (p.map pi)), .vw (.L 36) (i + 1)]) :: (4, .box 26 [.p (pi 0), .p (pi 0), .p (ps ⟨#[]⟩), .nil, .nil]) :: [(36, .ow 5 26 [] (ocs ((l.take (i + 1)).map (ownN n))))] else (bif b 4 then  (7, .box 26 [.p (pi k1), .p (pi m1), .p (ps s1), .p (.row 1 (p1.map pi)), .p (.row 5 (([] : List Mn).map eM))]) :: (5, .box 26 [.p (pi k), .p (pi m), .p (ps ⟨#[]⟩), .p (.row 1 (p.map pi)), .vw (.L 36) (i + 1)]) :: (4, .box 26 [.p (pi 0), .p (pi 0), .p (ps ⟨#[]⟩), .nil, .nil]) :: [(36, .ow 5 26 [] (ocs ((l.take (i + 1)).map (ownN n))))] else ((7, .box 26 [.p (pi k1), .p (pi m1), .p (ps s1), .p (.row 1 (p1.map pi)), .p (.row 5 (([] : List Mn).map eM))]) :: (5, .box 26 [.p (pi k), .p (pi m), .p (ps ⟨#[]⟩), .p (.row 1 (p.map pi)), .vw (.L 36) (i + 1)]) :: (4, .box 26 [.p (pi 0), .p (pi 0), .p (ps ⟨#[]⟩), .nil, .nil]) :: [(36, .ow 5 26 [] (ocs ((l.take (i + 1)).map (ownN n))))]))))) ([])) (fun _ _ => True) () trivial (wk_of rfl rfl (by (repeat' apply And.intro) <;> first | exact trivial | exact .inl rfl) (by (repeat' apply And.intro) <;> first | exact trivial | exact .inl rfl)) ?_ (fun τ τ' h q => AW.weak h q) ?_ (by kernel_rfl) rfl (by kernel_rfl)
            · intro b j o1 _ ho1 hb hd hcl _
              have hj : j < 9 := (Array.getElem?_eq_some_iff.1 ho1).1
              rcases (show j = 0 ∨ j = 1 ∨ j = 2 ∨ j = 3 ∨ j = 4 ∨ j = 5 ∨ j = 6 ∨ j = 7 ∨ j = 8 by omega) with rfl | rfl | rfl | rfl | rfl | rfl | rfl | rfl | rfl
              all_goals cases ho1
              all_goals refine Step1.of rfl ?_
              · have fF1 : b 1 = false := hcl 1 _ rfl 0 _ rfl rfl hb
                have fF6 : b 6 = false := hcl 6 _ rfl 0 _ rfl rfl fF1
                have fF7 : b 7 = false := hcl 7 _ rfl 0 _ rfl rfl hb
                have fF8 : b 8 = false := hcl 8 _ rfl 0 _ rfl rfl fF7
                simp only [upB_eq, ↓reduceIte, Nat.reduceEqDiff, hb, cond_true, cond_false, fF1, fF6, fF7, fF8]
                refine rn T 99 [] ?_
                first | exact ⟨(), trivial, wk_l (by (repeat' apply And.intro) <;> first | exact trivial | exact .inl rfl)⟩ | exact ⟨(), trivial, wk_of rfl rfl (by (repeat' apply And.intro) <;> first | exact trivial | exact .inl rfl) (by (repeat' apply And.intro) <;> first | exact trivial | exact .inl rfl)⟩
              · have fT0 : b 0 = true := hd 0 _ rfl rfl
                have fF6 : b 6 = false := hcl 6 _ rfl 0 _ rfl rfl hb
                have fF7 : b 7 = false := hcl 7 _ rfl 1 _ rfl rfl hb
                have fF8 : b 8 = false := hcl 8 _ rfl 0 _ rfl rfl fF7
                simp only [upB_eq, ↓reduceIte, Nat.reduceEqDiff, hb, cond_true, cond_false, fT0, fF6, fF7, fF8]
                refine EOps.ldC T rfl (m := 5) (off := 4) (t' := 26) (c := [.p (pi k), .p (pi m), .p (ps ⟨#[]⟩), .p (.row 1 (p.map pi)), .vw (.L 36) (i + 1)]) (v := .vw (.L 36) (i + 1)) rfl (by cases b 5 <;> cases b 4 <;> rfl) rfl rfl rfl (EOps.nil ?_)
                first | exact ⟨(), trivial, wk_l (by (repeat' apply And.intro) <;> first | exact trivial | exact .inl rfl)⟩ | exact ⟨(), trivial, wk_of rfl rfl (by (repeat' apply And.intro) <;> first | exact trivial | exact .inl rfl) (by (repeat' apply And.intro) <;> first | exact trivial | exact .inl rfl)⟩
              · have fF4 : b 4 = false := hcl 4 _ rfl 0 _ rfl rfl hb
                have fF5 : b 5 = false := hcl 5 _ rfl 0 _ rfl rfl fF4
                have fF6 : b 6 = false := hcl 6 _ rfl 1 _ rfl rfl fF5
                have fF7 : b 7 = false := hcl 7 _ rfl 2 _ rfl rfl hb
                have fF8 : b 8 = false := hcl 8 _ rfl 0 _ rfl rfl fF7
                simp only [upB_eq, ↓reduceIte, Nat.reduceEqDiff, hb, cond_true, cond_false, fF4, fF5, fF6, fF7, fF8]
                refine rn T 99 [] ?_
                first | exact ⟨(), trivial, wk_l (by (repeat' apply And.intro) <;> first | exact trivial | exact .inl rfl)⟩ | exact ⟨(), trivial, wk_of rfl rfl (by (repeat' apply And.intro) <;> first | exact trivial | exact .inl rfl) (by (repeat' apply And.intro) <;> first | exact trivial | exact .inl rfl)⟩
              · have fF4 : b 4 = false := hcl 4 _ rfl 1 _ rfl rfl hb
                have fF5 : b 5 = false := hcl 5 _ rfl 0 _ rfl rfl fF4
                have fF6 : b 6 = false := hcl 6 _ rfl 1 _ rfl rfl fF5
                have fF7 : b 7 = false := hcl 7 _ rfl 3 _ rfl rfl hb
                have fF8 : b 8 = false := hcl 8 _ rfl 0 _ rfl rfl fF7
                simp only [upB_eq, ↓reduceIte, Nat.reduceEqDiff, hb, cond_true, cond_false, fF4, fF5, fF6, fF7, fF8]
                refine rn T 99 [] ?_
                first | exact ⟨(), trivial, wk_l (by (repeat' apply And.intro) <;> first | exact trivial | exact .inl rfl)⟩ | exact ⟨(), trivial, wk_of rfl rfl (by (repeat' apply And.intro) <;> first | exact trivial | exact .inl rfl) (by (repeat' apply And.intro) <;> first | exact trivial | exact .inl rfl)⟩
              · have fT3 : b 3 = true := hd 1 _ rfl rfl
                have fT2 : b 2 = true := hd 0 _ rfl rfl
                have fF5 : b 5 = false := hcl 5 _ rfl 0 _ rfl rfl hb
                have fF6 : b 6 = false := hcl 6 _ rfl 1 _ rfl rfl fF5
                have fF7 : b 7 = false := hcl 7 _ rfl 4 _ rfl rfl hb
                have fF8 : b 8 = false := hcl 8 _ rfl 0 _ rfl rfl fF7
                simp only [upB_eq, ↓reduceIte, Nat.reduceEqDiff, hb, cond_true, cond_false, fT3, fT2, fF5, fF6, fF7, fF8]
                refine EOps.cg [] [] [] [.ag [.p (pi k1), .p (pi m1), .p (ps s1), .p (.row 1 (p1.map pi)), .p (.row 5 (([] : List Mn).map eM))], .fn 33 []] [.p (pm ⟨k1, m1, s1, p1, ([] : List Mn)⟩), .fn 33 []] hcall rfl rfl rfl ⟨.inl (.inl ⟨_, rfl, by (repeat' apply And.intro) <;> first | trivial | rfl⟩), .inl (.inr rfl), trivial⟩ rfl rfl (by simp) (by decide) (by cases b 0 <;> cases b 1 <;> rfl) (by rintro _ _ ⟨rfl, rfl⟩; exact ⟨by simp, rfl⟩) ?_
                rintro _ _ ⟨rfl, rfl⟩
                refine EOps.nil ?_
                first | exact ⟨(), trivial, wk_l (by (repeat' apply And.intro) <;> first | exact trivial | exact .inl rfl)⟩ | exact ⟨(), trivial, wk_of rfl rfl (by (repeat' apply And.intro) <;> first | exact trivial | exact .inl rfl) (by (repeat' apply And.intro) <;> first | exact trivial | exact .inl rfl)⟩
              · have fT4 : b 4 = true := hd 0 _ rfl rfl
                have fT3 : b 3 = true := by
                  cases h : b 3 with
                  | true => rfl
                  | false => rw [hcl 4 _ rfl 1 _ rfl rfl h] at fT4; cases fT4
                have fT2 : b 2 = true := by
                  cases h : b 2 with
                  | true => rfl
                  | false => rw [hcl 4 _ rfl 0 _ rfl rfl h] at fT4; cases fT4
                have fF6 : b 6 = false := hcl 6 _ rfl 1 _ rfl rfl hb
                have fF7 : b 7 = false := hcl 7 _ rfl 5 _ rfl rfl hb
                have fF8 : b 8 = false := hcl 8 _ rfl 0 _ rfl rfl fF7
                simp only [upB_eq, ↓reduceIte, Nat.reduceEqDiff, hb, cond_true, cond_false, fT4, fT3, fT2, fF6, fF7, fF8]
                refine EOps.bs T [] (e := 26) (z := 5) (b := true) (vs := [.p (pm ⟨k1, m1, s1, p1, []⟩)]) rfl rfl rfl rfl rfl (by decide) rfl (fun v hv => by obtain rfl := List.mem_singleton.1 hv; exact ⟨trivial, rfl, fun x hx => by simp [tcells] at hx; rcases hx with rfl | rfl | rfl | rfl | rfl <;> first | exact .p | exact .vw (List.mem_cons_self ..)⟩) (by cases b 0 <;> cases b 1 <;> rfl) (fun m hm => by simp at hm; try (subst hm; trivial)) (EOps.nil ?_)
                first | exact ⟨(), trivial, wk_l (by (repeat' apply And.intro) <;> first | exact trivial | exact .inl rfl)⟩ | exact ⟨(), trivial, wk_of rfl rfl (by (repeat' apply And.intro) <;> first | exact trivial | exact .inl rfl) (by (repeat' apply And.intro) <;> first | exact trivial | exact .inl rfl)⟩
              · have fT5 : b 5 = true := hd 1 _ rfl rfl
                have fT4 : b 4 = true := hd 2 _ rfl rfl
                have fT3 : b 3 = true := by
                  cases h : b 3 with
                  | true => rfl
                  | false => rw [hcl 4 _ rfl 1 _ rfl rfl h] at fT4; cases fT4
                have fT2 : b 2 = true := by
                  cases h : b 2 with
                  | true => rfl
                  | false => rw [hcl 4 _ rfl 0 _ rfl rfl h] at fT4; cases fT4
                have fT1 : b 1 = true := hd 0 _ rfl rfl
                have fT0 : b 0 = true := by
                  cases h : b 0 with
                  | true => rfl
                  | false => rw [hcl 1 _ rfl 0 _ rfl rfl h] at fT1; cases fT1
                have fF7 : b 7 = false := hcl 7 _ rfl 6 _ rfl rfl hb
                have fF8 : b 8 = false := hcl 8 _ rfl 0 _ rfl rfl fF7
                simp only [upB_eq, ↓reduceIte, Nat.reduceEqDiff, hb, cond_true, cond_false, fT5, fT4, fT3, fT2, fT1, fT0, fF7, fF8]
                refine EOps.ap T [] (nm := .L 36) (ys := [tcells (.p (pm ⟨k1, m1, s1, p1, []⟩))]) (xs := ocs ((l.take (i + 1)).map (ownN n))) (ks := []) rfl rfl rfl rfl rfl rfl rfl rfl rfl (by decide) hln (.inr ⟨.L 35, 1, 26, [], rfl, rfl, rfl, fun y hy => by simp [tcells] at hy; rcases hy with rfl | rfl | rfl | rfl | rfl <;> trivial⟩) (fun m hm => by cases hm) (fun y hy => by simp [tcells] at hy; rcases hy with rfl | rfl | rfl | rfl | rfl <;> first | exact .p | exact .vw (List.mem_cons_self ..)) (fun m hm => by simp at hm; try (subst hm; trivial)) (fun j hj => by cases hj) (by rw [hln]; exact Nat.le_trans (Nat.mul_le_mul_right _ (show i + 1 + 1 ≤ 2 by omega)) (by decide)) (EOps.nil ?_); rw [hln]
                first | exact ⟨(), trivial, wk_l (by (repeat' apply And.intro) <;> first | exact trivial | exact .inl rfl)⟩ | exact ⟨(), trivial, wk_of rfl rfl (by (repeat' apply And.intro) <;> first | exact trivial | exact .inl rfl) (by (repeat' apply And.intro) <;> first | exact trivial | exact .inl rfl)⟩
              · have fT6 : b 6 = true := hd 6 _ rfl rfl
                have fT5 : b 5 = true := hd 5 _ rfl rfl
                have fT4 : b 4 = true := hd 4 _ rfl rfl
                have fT3 : b 3 = true := hd 3 _ rfl rfl
                have fT2 : b 2 = true := hd 2 _ rfl rfl
                have fT1 : b 1 = true := hd 1 _ rfl rfl
                have fT0 : b 0 = true := hd 0 _ rfl rfl
                have fF8 : b 8 = false := hcl 8 _ rfl 0 _ rfl rfl hb
                simp only [upB_eq, ↓reduceIte, Nat.reduceEqDiff, hb, cond_true, cond_false, fT6, fT5, fT4, fT3, fT2, fT1, fT0, fF8]
                refine rn T 99 [] ?_
                first | exact ⟨(), trivial, wk_l (by (repeat' apply And.intro) <;> first | exact trivial | exact .inl rfl)⟩ | exact ⟨(), trivial, wk_of rfl rfl (by (repeat' apply And.intro) <;> first | exact trivial | exact .inl rfl) (by (repeat' apply And.intro) <;> first | exact trivial | exact .inl rfl)⟩
              · have fT7 : b 7 = true := hd 0 _ rfl rfl
                have fT6 : b 6 = true := hd 1 _ rfl rfl
                have fT5 : b 5 = true := hd 8 _ rfl rfl
                have fT4 : b 4 = true := hd 7 _ rfl rfl
                have fT3 : b 3 = true := hd 6 _ rfl rfl
                have fT2 : b 2 = true := hd 5 _ rfl rfl
                have fT1 : b 1 = true := hd 4 _ rfl rfl
                have fT0 : b 0 = true := hd 3 _ rfl rfl
                simp only [upB_eq, ↓reduceIte, Nat.reduceEqDiff, hb, cond_true, cond_false, fT7, fT6, fT5, fT4, fT3, fT2, fT1, fT0]
                refine rn T 99 [] ?_
                first | exact ⟨(), trivial, wk_l (by (repeat' apply And.intro) <;> first | exact trivial | exact .inl rfl)⟩ | exact ⟨(), trivial, wk_of rfl rfl (by (repeat' apply And.intro) <;> first | exact trivial | exact .inl rfl) (by (repeat' apply And.intro) <;> first | exact trivial | exact .inl rfl)⟩
            · intro b _ hall _
              have fT0 := hall 0 (by decide)
              have fT1 := hall 1 (by decide)
              have fT2 := hall 2 (by decide)
              have fT3 := hall 3 (by decide)
              have fT4 := hall 4 (by decide)
              have fT5 := hall 5 (by decide)
              have fT6 := hall 6 (by decide)
              have fT7 := hall 7 (by decide)
              have fT8 := hall 8 (by decide)
              simp only [cond_true, fT0, fT1, fT2, fT3, fT4, fT5, fT6, fT7, fT8]
              refine op ?_
              refine rn T 99 [] ?_
              rw [hap, wkS (by omega)]
              refine nxt (m2 - 1) (i + 1 + 1) (by omega)
          | cons y1 l1 =>
            obtain ⟨n', rfl, _, _⟩ := okD_inv hkx
            have hcall := hih.2 n' rfl (by intro e; cases e)
            have hap := happ _ rfl
            refine AW.anyD (X := Unit) (fun _ b => MS.mk [(30, bif b 0 then .ptr (.L 5) 4 else .u), (31, bif b 1 then .vw (.L 36) (i + 1) else .u), (32, bif b 2 then .ag [.p (pi k1), .p (pi m1), .p (ps s1), .p (.row 1 (p1.map pi)), .p (.row 5 ((y1 :: l1).map eM))] else .u), (33, bif b 3 then .fn 33 [] else .u), (34, bif b 4 then .ag [.p (pi k1), .p (pi m1), .p (ps s1), .p (.row 1 (p1.map pi)), .vw (.L 101) ((y1 :: l1).map (ownN n')).length] else .u), (35, bif b 5 then .vw (.L 35) 1 else .u), (36, bif b 6 then .vw (.L 36) ((i + 1 : Nat) + 1) else .u), (37, bif b 7 then .ptr (.L 5) 4 else .u), (26, .p (pi (i + 1 : Nat))), (25, .p (pi (l.map eM).length)), (24, .p (.row 5 (l.map eM))), (1, .fn 33 []), (2, .ptr (.L 2) 0), (4, .ptr (.L 4) 0), (5, .ptr (.L 5) 0), (7, .ptr (.L 7) 0)] (40) (bif b 8 then (5, .box 26 [.p (pi k), .p (pi m), .p (ps ⟨#[]⟩), .p (.row 1 (p.map pi)), .vw (.L 36) ((i + 1 : Nat) + 1)]) :: (36, .ow 5 26 [.L 101] (ocs ((l.take (i + 1)).map (ownN (n' + 1))) ++ [tcells (.ag [.p (pi k1), .p (pi m1), .p (ps s1), .p (.row 1 (p1.map pi)), .vw (.L 101) ((y1 :: l1).map (ownN n')).length])])) :: (35, .ow 5 26 [.L 101] [tcells (.ag [.p (pi k1), .p (pi m1), .p (ps s1), .p (.row 1 (p1.map pi)), .vw (.L 101) ((y1 :: l1).map (ownN n')).length])]) :: (101, .ow 5 26 [] (ocs ((y1 :: l1).map (ownN n')))) :: (7, .box 26 [.p (pi k1), .p (pi m1), .p (ps s1), .p (.row 1 (p1.map pi)), .p (.row 5 ((y1 :: l1).map eM))]) :: (4, .box 26 [.p (pi 0), .p (pi 0), .p (ps ⟨#[]⟩), .nil, .nil]) :: [] else (bif b 6 then (36, .ow 5 26 [.L 101] (ocs ((l.take (i + 1)).map (ownN (n' + 1))) ++ [tcells (.ag [.p (pi k1), .p (pi m1), .p (ps s1), .p (.row 1 (p1.map pi)), .vw (.L 101) ((y1 :: l1).map (ownN n')).length])])) :: (35, .ow 5 26 [.L 101] [tcells (.ag [.p (pi k1), .p (pi m1), .p (ps s1), .p (.row 1 (p1.map pi)), .vw (.L 101) ((y1 :: l1).map (ownN n')).length])]) :: (101, .ow 5 26 [] (ocs ((y1 :: l1).map (ownN n')))) :: (7, .box 26 [.p (pi k1), .p (pi m1), .p (ps s1), .p (.row 1 (p1.map pi)), .p (.row 5 ((y1 :: l1).map eM))]) :: (5, .box 26 [.p (pi k), .p (pi m), .p (ps ⟨#[]⟩), .p (.row 1 (p.map pi)), .vw (.L 36) (i + 1)]) :: (4, .box 26 [.p (pi 0), .p (pi 0), .p (ps ⟨#[]⟩), .nil, .nil]) :: [] else (bif b 5 then (35, .ow 5 26 [.L 101] [tcells (.ag [.p (pi k1), .p (pi m1), .p (ps s1), .p (.row 1 (p1.map pi)), .vw (.L 101) ((y1 :: l1).map (ownN n')).length])]) :: (101, .ow 5 26 [] (ocs ((y1 :: l1).map (ownN n')))) :: (7, .box 26 [.p (pi k1), .p (pi m1), .p (ps s1), .p (.row 1 (p1.map pi)), .p (.row 5 ((y1 :: l1).map eM))]) :: (5, .box 26 [.p (pi k), .p (pi m), .p (ps ⟨#[]⟩), .p (.row 1 (p.map pi)), .vw (.L 36) (i + 1)]) :: (4, .box 26 [.p (pi 0), .p (pi 0), .p (ps ⟨#[]⟩), .nil, .nil]) :: [(36, .ow 5 26 [] (ocs ((l.take (i + 1)).map (ownN (n' + 1)))))] else (bif b 4 then (101, .ow 5 26 [] (ocs ((y1 :: l1).map (ownN n')))) :: (7, .box 26 [.p (pi k1), .p (pi m1), .p (ps s1), .p (.row 1 (p1.map pi)), .p (.row 5 ((y1 :: l1).map eM))]) :: (5, .box 26 [.p (pi k), .p (pi m), .p (ps ⟨#[]⟩), .p (.row 1 (p.map pi)), .vw (.L 36) (i + 1)]) :: (4, .box 26 [.p (pi 0), .p (pi 0), .p (ps ⟨#[]⟩), .nil, .nil]) :: [(36, .ow 5 26 [] (ocs ((l.take (i + 1)).map (ownN (n' + 1)))))] else ((7, .box 26 [.p (pi k1), .p (pi m1), .p (ps s1), .p (.row 1 (p1.map pi)), .p (.row 5 ((y1 :: l1).map eM))]) :: (5, .box 26 [.p (pi k), .p (pi m), .p (ps ⟨#[]⟩), .p (.row 1 (p.map pi)), .vw (.L 36) (i + 1)]) :: (4, .box 26 [.p (pi 0), .p (pi 0), .p (ps ⟨#[]⟩), .nil, .nil]) :: [(36, .ow 5 26 [] (ocs ((l.take (i + 1)).map (ownN (n' + 1)))))]))))) ([])) (fun _ _ => True) () trivial (wk_of rfl rfl (by (repeat' apply And.intro) <;> first | exact trivial | exact .inl rfl) (by (repeat' apply And.intro) <;> first | exact trivial | exact .inl rfl)) ?_ (fun τ τ' h q => AW.weak h q) ?_ (by kernel_rfl) rfl (by kernel_rfl)
            · intro b j o1 _ ho1 hb hd hcl _
              have hj : j < 9 := (Array.getElem?_eq_some_iff.1 ho1).1
              rcases (show j = 0 ∨ j = 1 ∨ j = 2 ∨ j = 3 ∨ j = 4 ∨ j = 5 ∨ j = 6 ∨ j = 7 ∨ j = 8 by omega) with rfl | rfl | rfl | rfl | rfl | rfl | rfl | rfl | rfl
              all_goals cases ho1
              all_goals refine Step1.of rfl ?_
              · have fF1 : b 1 = false := hcl 1 _ rfl 0 _ rfl rfl hb
                have fF6 : b 6 = false := hcl 6 _ rfl 0 _ rfl rfl fF1
                have fF7 : b 7 = false := hcl 7 _ rfl 0 _ rfl rfl hb
                have fF8 : b 8 = false := hcl 8 _ rfl 0 _ rfl rfl fF7
                simp only [upB_eq, ↓reduceIte, Nat.reduceEqDiff, hb, cond_true, cond_false, fF1, fF6, fF7, fF8]
                refine rn T 99 [] ?_
                first | exact ⟨(), trivial, wk_l (by (repeat' apply And.intro) <;> first | exact trivial | exact .inl rfl)⟩ | exact ⟨(), trivial, wk_of rfl rfl (by (repeat' apply And.intro) <;> first | exact trivial | exact .inl rfl) (by (repeat' apply And.intro) <;> first | exact trivial | exact .inl rfl)⟩
              · have fT0 : b 0 = true := hd 0 _ rfl rfl
                have fF6 : b 6 = false := hcl 6 _ rfl 0 _ rfl rfl hb
                have fF7 : b 7 = false := hcl 7 _ rfl 1 _ rfl rfl hb
                have fF8 : b 8 = false := hcl 8 _ rfl 0 _ rfl rfl fF7
                simp only [upB_eq, ↓reduceIte, Nat.reduceEqDiff, hb, cond_true, cond_false, fT0, fF6, fF7, fF8]
                refine EOps.ldC T rfl (m := 5) (off := 4) (t' := 26) (c := [.p (pi k), .p (pi m), .p (ps ⟨#[]⟩), .p (.row 1 (p.map pi)), .vw (.L 36) (i + 1)]) (v := .vw (.L 36) (i + 1)) rfl (by cases b 5 <;> cases b 4 <;> rfl) rfl rfl rfl (EOps.nil ?_)
                first | exact ⟨(), trivial, wk_l (by (repeat' apply And.intro) <;> first | exact trivial | exact .inl rfl)⟩ | exact ⟨(), trivial, wk_of rfl rfl (by (repeat' apply And.intro) <;> first | exact trivial | exact .inl rfl) (by (repeat' apply And.intro) <;> first | exact trivial | exact .inl rfl)⟩
              · have fF4 : b 4 = false := hcl 4 _ rfl 0 _ rfl rfl hb
                have fF5 : b 5 = false := hcl 5 _ rfl 0 _ rfl rfl fF4
                have fF6 : b 6 = false := hcl 6 _ rfl 1 _ rfl rfl fF5
                have fF7 : b 7 = false := hcl 7 _ rfl 2 _ rfl rfl hb
                have fF8 : b 8 = false := hcl 8 _ rfl 0 _ rfl rfl fF7
                simp only [upB_eq, ↓reduceIte, Nat.reduceEqDiff, hb, cond_true, cond_false, fF4, fF5, fF6, fF7, fF8]
                refine rn T 99 [] ?_
                first | exact ⟨(), trivial, wk_l (by (repeat' apply And.intro) <;> first | exact trivial | exact .inl rfl)⟩ | exact ⟨(), trivial, wk_of rfl rfl (by (repeat' apply And.intro) <;> first | exact trivial | exact .inl rfl) (by (repeat' apply And.intro) <;> first | exact trivial | exact .inl rfl)⟩
              · have fF4 : b 4 = false := hcl 4 _ rfl 1 _ rfl rfl hb
                have fF5 : b 5 = false := hcl 5 _ rfl 0 _ rfl rfl fF4
                have fF6 : b 6 = false := hcl 6 _ rfl 1 _ rfl rfl fF5
                have fF7 : b 7 = false := hcl 7 _ rfl 3 _ rfl rfl hb
                have fF8 : b 8 = false := hcl 8 _ rfl 0 _ rfl rfl fF7
                simp only [upB_eq, ↓reduceIte, Nat.reduceEqDiff, hb, cond_true, cond_false, fF4, fF5, fF6, fF7, fF8]
                refine rn T 99 [] ?_
                first | exact ⟨(), trivial, wk_l (by (repeat' apply And.intro) <;> first | exact trivial | exact .inl rfl)⟩ | exact ⟨(), trivial, wk_of rfl rfl (by (repeat' apply And.intro) <;> first | exact trivial | exact .inl rfl) (by (repeat' apply And.intro) <;> first | exact trivial | exact .inl rfl)⟩
              · have fT3 : b 3 = true := hd 1 _ rfl rfl
                have fT2 : b 2 = true := hd 0 _ rfl rfl
                have fF5 : b 5 = false := hcl 5 _ rfl 0 _ rfl rfl hb
                have fF6 : b 6 = false := hcl 6 _ rfl 1 _ rfl rfl fF5
                have fF7 : b 7 = false := hcl 7 _ rfl 4 _ rfl rfl hb
                have fF8 : b 8 = false := hcl 8 _ rfl 0 _ rfl rfl fF7
                simp only [upB_eq, ↓reduceIte, Nat.reduceEqDiff, hb, cond_true, cond_false, fT3, fT2, fF5, fF6, fF7, fF8]
                refine EOps.cg [] [101] [] [.ag [.p (pi k1), .p (pi m1), .p (ps s1), .p (.row 1 (p1.map pi)), .p (.row 5 ((y1 :: l1).map eM))], .fn 33 []] [.p (pm ⟨k1, m1, s1, p1, (y1 :: l1)⟩), .fn 33 []] hcall rfl rfl rfl ⟨.inl (.inl ⟨_, rfl, by (repeat' apply And.intro) <;> first | trivial | rfl⟩), .inl (.inr rfl), trivial⟩ rfl rfl (by simp) (by decide) (by cases b 0 <;> cases b 1 <;> rfl) (by rintro _ _ ⟨rfl, rfl⟩; exact ⟨by simp [cloO], rfl⟩) ?_
                rintro _ _ ⟨rfl, rfl⟩
                refine EOps.nil ?_
                first | exact ⟨(), trivial, wk_l (by (repeat' apply And.intro) <;> first | exact trivial | exact .inl rfl)⟩ | exact ⟨(), trivial, wk_of rfl rfl (by (repeat' apply And.intro) <;> first | exact trivial | exact .inl rfl) (by (repeat' apply And.intro) <;> first | exact trivial | exact .inl rfl)⟩
              · have fT4 : b 4 = true := hd 0 _ rfl rfl
                have fT3 : b 3 = true := by
                  cases h : b 3 with
                  | true => rfl
                  | false => rw [hcl 4 _ rfl 1 _ rfl rfl h] at fT4; cases fT4
                have fT2 : b 2 = true := by
                  cases h : b 2 with
                  | true => rfl
                  | false => rw [hcl 4 _ rfl 0 _ rfl rfl h] at fT4; cases fT4
                have fF6 : b 6 = false := hcl 6 _ rfl 1 _ rfl rfl hb
                have fF7 : b 7 = false := hcl 7 _ rfl 5 _ rfl rfl hb
                have fF8 : b 8 = false := hcl 8 _ rfl 0 _ rfl rfl fF7
                simp only [upB_eq, ↓reduceIte, Nat.reduceEqDiff, hb, cond_true, cond_false, fT4, fT3, fT2, fF6, fF7, fF8]
                refine EOps.bs T [.L 101] (e := 26) (z := 5) (b := true) (vs := [.ag [.p (pi k1), .p (pi m1), .p (ps s1), .p (.row 1 (p1.map pi)), .vw (.L 101) ((y1 :: l1).map (ownN n')).length]]) rfl rfl rfl rfl rfl (by decide) rfl (fun v hv => by obtain rfl := List.mem_singleton.1 hv; exact ⟨trivial, rfl, fun x hx => by simp [tcells] at hx; rcases hx with rfl | rfl | rfl | rfl | rfl <;> first | exact .p | exact .vw (List.mem_cons_self ..)⟩) (by cases b 0 <;> cases b 1 <;> rfl) (fun m hm => by simp at hm; try (subst hm; trivial)) (EOps.nil ?_)
                first | exact ⟨(), trivial, wk_l (by (repeat' apply And.intro) <;> first | exact trivial | exact .inl rfl)⟩ | exact ⟨(), trivial, wk_of rfl rfl (by (repeat' apply And.intro) <;> first | exact trivial | exact .inl rfl) (by (repeat' apply And.intro) <;> first | exact trivial | exact .inl rfl)⟩
              · have fT5 : b 5 = true := hd 1 _ rfl rfl
                have fT4 : b 4 = true := hd 2 _ rfl rfl
                have fT3 : b 3 = true := by
                  cases h : b 3 with
                  | true => rfl
                  | false => rw [hcl 4 _ rfl 1 _ rfl rfl h] at fT4; cases fT4
                have fT2 : b 2 = true := by
                  cases h : b 2 with
                  | true => rfl
                  | false => rw [hcl 4 _ rfl 0 _ rfl rfl h] at fT4; cases fT4
                have fT1 : b 1 = true := hd 0 _ rfl rfl
                have fT0 : b 0 = true := by
                  cases h : b 0 with
                  | true => rfl
                  | false => rw [hcl 1 _ rfl 0 _ rfl rfl h] at fT1; cases fT1
                have fF7 : b 7 = false := hcl 7 _ rfl 6 _ rfl rfl hb
                have fF8 : b 8 = false := hcl 8 _ rfl 0 _ rfl rfl fF7
                simp only [upB_eq, ↓reduceIte, Nat.reduceEqDiff, hb, cond_true, cond_false, fT5, fT4, fT3, fT2, fT1, fT0, fF7, fF8]
                refine EOps.ap T [.L 101] (nm := .L 36) (ys := [tcells (.ag [.p (pi k1), .p (pi m1), .p (ps s1), .p (.row 1 (p1.map pi)), .vw (.L 101) ((y1 :: l1).map (ownN n')).length])]) (xs := ocs ((l.take (i + 1)).map (ownN (n' + 1)))) (ks := []) rfl rfl rfl rfl rfl rfl rfl rfl rfl (by decide) hln (.inr ⟨.L 35, 1, 26, [.L 101], rfl, rfl, rfl, fun y hy => by simp [tcells] at hy; rcases hy with rfl | rfl | rfl | rfl | rfl <;> trivial⟩) (fun m hm => by cases hm) (fun y hy => by simp [tcells] at hy; rcases hy with rfl | rfl | rfl | rfl | rfl <;> first | exact .p | exact .vw (List.mem_cons_self ..)) (fun m hm => by simp at hm; try (subst hm; trivial)) (fun j hj => by cases hj) (by rw [hln]; exact Nat.le_trans (Nat.mul_le_mul_right _ (show i + 1 + 1 ≤ 2 by omega)) (by decide)) (EOps.nil ?_); rw [hln]
                first | exact ⟨(), trivial, wk_l (by (repeat' apply And.intro) <;> first | exact trivial | exact .inl rfl)⟩ | exact ⟨(), trivial, wk_of rfl rfl (by (repeat' apply And.intro) <;> first | exact trivial | exact .inl rfl) (by (repeat' apply And.intro) <;> first | exact trivial | exact .inl rfl)⟩
              · have fT6 : b 6 = true := hd 6 _ rfl rfl
                have fT5 : b 5 = true := hd 5 _ rfl rfl
                have fT4 : b 4 = true := hd 4 _ rfl rfl
                have fT3 : b 3 = true := hd 3 _ rfl rfl
                have fT2 : b 2 = true := hd 2 _ rfl rfl
                have fT1 : b 1 = true := hd 1 _ rfl rfl
                have fT0 : b 0 = true := hd 0 _ rfl rfl
                have fF8 : b 8 = false := hcl 8 _ rfl 0 _ rfl rfl hb
                simp only [upB_eq, ↓reduceIte, Nat.reduceEqDiff, hb, cond_true, cond_false, fT6, fT5, fT4, fT3, fT2, fT1, fT0, fF8]
                refine rn T 99 [] ?_
                first | exact ⟨(), trivial, wk_l (by (repeat' apply And.intro) <;> first | exact trivial | exact .inl rfl)⟩ | exact ⟨(), trivial, wk_of rfl rfl (by (repeat' apply And.intro) <;> first | exact trivial | exact .inl rfl) (by (repeat' apply And.intro) <;> first | exact trivial | exact .inl rfl)⟩
              · have fT7 : b 7 = true := hd 0 _ rfl rfl
                have fT6 : b 6 = true := hd 1 _ rfl rfl
                have fT5 : b 5 = true := hd 8 _ rfl rfl
                have fT4 : b 4 = true := hd 7 _ rfl rfl
                have fT3 : b 3 = true := hd 6 _ rfl rfl
                have fT2 : b 2 = true := hd 5 _ rfl rfl
                have fT1 : b 1 = true := hd 4 _ rfl rfl
                have fT0 : b 0 = true := hd 3 _ rfl rfl
                simp only [upB_eq, ↓reduceIte, Nat.reduceEqDiff, hb, cond_true, cond_false, fT7, fT6, fT5, fT4, fT3, fT2, fT1, fT0]
                refine rn T 99 [] ?_
                first | exact ⟨(), trivial, wk_l (by (repeat' apply And.intro) <;> first | exact trivial | exact .inl rfl)⟩ | exact ⟨(), trivial, wk_of rfl rfl (by (repeat' apply And.intro) <;> first | exact trivial | exact .inl rfl) (by (repeat' apply And.intro) <;> first | exact trivial | exact .inl rfl)⟩
            · intro b _ hall _
              have fT0 := hall 0 (by decide)
              have fT1 := hall 1 (by decide)
              have fT2 := hall 2 (by decide)
              have fT3 := hall 3 (by decide)
              have fT4 := hall 4 (by decide)
              have fT5 := hall 5 (by decide)
              have fT6 := hall 6 (by decide)
              have fT7 := hall 7 (by decide)
              have fT8 := hall 8 (by decide)
              simp only [cond_true, fT0, fT1, fT2, fT3, fT4, fT5, fT6, fT7, fT8]
              refine op ?_
              refine EOps.absL 36 101 (i + 1) 4 ((l.take (i + 1 + 1)).map (ownN (n' + 1))) rfl rfl rfl rfl (get_last hln _) rfl (by rw [set_last hln]; exact hap) ?_
              refine rn T 99 [] ?_
              rw [wkS (by omega)]
              refine nxt (m2 - 1) (i + 1 + 1) (by omega)
        · refine cfq rfl (by simp; omega) ?_
          have hil : l.take (i + 1) = l := List.take_of_length_le (by omega)
          have hil2 : i + 1 = l.length := by omega
          rw [hil, hil2]
          refine EOps.pub 36 rfl rfl rfl rfl ?_
          refine rn T 99 [] ?_
          refine retL T (xs := [.ag [.p (pi k), .p (pi m), .p (ps ⟨#[]⟩), .p (.row 1 (p.map pi)), .vw (.S 0) l.length]]) rfl ⟨.inl rfl, trivial⟩ (.ag (fun x hx => by simp only [List.mem_cons, List.not_mem_nil, or_false] at hx; rcases hx with rfl | rfl | rfl | rfl | rfl <;> first | exact .p | exact .vw trivial)) ⟨?_, rfl⟩
          show TV.ag [_, _, _, _, .vw (.S 0) l.length] = .ag [_, _, _, _, .vw (.S 0) (l.map (ownN n)).length]
          rw [List.length_map]
          rfl
end Go.Proofs.YtglkkbgflnpjeaaGreatDoor.K
end
section
namespace Go.Proofs.YtglkkbgflnpjeaaGreatDoor.K
open Go Go.RowKit Go.Proofs.YtglkkbgflnpjeaaGreatDoor.En Go.Proofs.YtglkkbgflnpjeaaGreatDoor.Ty Go.Proofs.YtglkkbgflnpjeaaGreatDoor.B
set_option maxRecDepth 100000
set_option linter.unusedSimpArgs false
set_option linter.unusedVariables false
set_option pp.deepTerms false
set_option pp.deepTerms.threshold 8
set_option pp.maxSteps 1000
set_option maxHeartbeats 1000000
theorem termOk0 (G : Nat → Option PV) {H : List AObj} (hH : HSh H) (fid : FuncId) (bd : ByteArray → Bool) (hb : ∀ s, FE Tryz.prog G fid (.p (ps s) :: []) H (RB (bd s) H)) :
    ∀ (n : Nat), n ≤ 1000 → ∀ (t : Mn), FE Tryz.prog G 13 [.p (pm t), .p (pi n), .fn fid []] H (RB (tk (fun s => pw s && bd s) n t) H) := by
  intro n
  induction n with
  | zero =>
    intro _ t
    refine ⟨?_, RB_ne _ hH⟩
    refine bdy Tryz.func13 (fun _ => 0) rfl ?_
    refine rn T 99 [] ?_
    refine rn T 99 [] ?_
    refine cts ?_
    refine rn T 99 [] ?_
    exact ⟨[_], ⟨_, _, rfl, .inl rfl, rfl⟩, .p, rfl, rfl⟩
  | succ n ih =>
    intro hn ⟨k, m, s, p, l⟩
    refine ⟨?_, RB_ne _ hH⟩
    let nmf : ByteArray → Bool := fun s => pw s && bd s
    show FC _ _ _ [.p (.ag [pi k, pi m, ps s, .row 1 (p.map pi), .row 5 (l.map eM)]), _, _] _ _
    refine bdy Tryz.func13 (fun _ => 0) rfl ?_
    refine rn T 99 [] ?_
    refine rn T 99 [] ?_
    refine cfq rfl (by simp; omega) ?_
    refine rn T 99 [] ?_
    refine rn T 99 [] ?_
    refine rn T 99 [] ?_
    by_cases k1 : k = 1
    · subst k1
      refine cts ?_
      repeat' (first | (with_reducible refine n16 ?_) | (with_reducible refine EOps.ci ?_; first | refine EOps.one T [] rfl (by first | exact True.intro | exact ⟨True.intro, True.intro⟩) ?_ | (refine EOps.sp rfl ?_ ?_ <;> intro hc_ <;> rw [hc_] <;> first | replace hc_ := of_decide_eq_true hc_ | replace hc_ := of_decide_eq_false hc_ | replace hc_ := of_decide_eq_false (Eq.mp (Bool.not_eq_true' _) hc_) | replace hc_ := of_decide_eq_true (Eq.mp (Bool.not_eq_false' _) hc_) | skip)))
      all_goals (refine op ?_)
      all_goals (try ((refine cts ?_); (refine rn T 99 [] ?_); (exact ⟨[_], ⟨_, _, rfl, .inl rfl, rfl⟩, .p, RB_of (c := false) (by rw [tk_eq, tkH_1]; refine Bool.eq_false_iff.2 (fun hq => ?_); simp only [Bool.and_eq_true, decide_eq_true_eq] at hq; first | omega | (simp at *; done) | (simp at *; omega) | simp_all | (simp_all; omega)) ⟨rfl, rfl⟩⟩); done))
      by_cases hm : m > 9999
      · refine ctq rfl (by simp [hm]) ?_
        refine rn T 99 [] ?_
        exact ⟨[_], ⟨_, _, rfl, .inl rfl, rfl⟩, .p, RB_of (c := false) (by rw [tk_eq, tkH_1]; refine Bool.eq_false_iff.2 (fun hq => ?_); simp only [Bool.and_eq_true, decide_eq_true_eq] at hq; first | omega | (simp at *; done) | (simp at *; omega) | simp_all | (simp_all; omega)) ⟨rfl, rfl⟩⟩
      · refine cfq rfl (by simp [hm]) ?_
        refine rn T 99 [] ?_
        repeat' (first | (with_reducible refine n16 ?_) | (with_reducible refine EOps.ci ?_; first | refine EOps.one T [] rfl (by first | exact True.intro | exact ⟨True.intro, True.intro⟩) ?_ | (refine EOps.sp rfl ?_ ?_ <;> intro hc_ <;> rw [hc_] <;> first | replace hc_ := of_decide_eq_true hc_ | replace hc_ := of_decide_eq_false hc_ | replace hc_ := of_decide_eq_false (Eq.mp (Bool.not_eq_true' _) hc_) | replace hc_ := of_decide_eq_true (Eq.mp (Bool.not_eq_false' _) hc_) | skip)))
        all_goals (refine op ?_)
        all_goals (try ((refine cts ?_); (refine rn T 99 [] ?_); (exact ⟨[_], ⟨_, _, rfl, .inl rfl, rfl⟩, .p, RB_of (c := false) (by rw [tk_eq, tkH_1]; refine Bool.eq_false_iff.2 (fun hq => ?_); simp only [Bool.and_eq_true, decide_eq_true_eq] at hq; first | omega | (simp at *; done) | (simp at *; omega) | simp_all | (simp_all; omega)) ⟨rfl, rfl⟩⟩); done))
        by_cases hk : l.length = 0
        · refine cfq rfl (by simp [hk]) ?_
          refine rn T 99 [] ?_
          refine lpw (fun i : Nat => MS.mk [(82, .p (pi i)), (81, .p (pi (l.map eM).length)), (80, .p (.row 5 (l.map eM))), (2, .fn fid []), (1, .p (pi (n + 1 : Nat)))] 93 [] H) (fun m i => m + i = l.length ∧ (l.drop i).all (tk nmf n) = l.all (tk nmf n)) (l.length) (0) (by simp) ?_
          intro m2 i ⟨h1, h2⟩
          refine op ?_
          refine rn T 99 [] ?_
          by_cases hi : i < l.length
          · obtain ⟨x, hx, hd⟩ := drop_ix hi
            rw [hd, List.all_cons] at h2
            refine ctq rfl (by simp [hi]) ?_
            refine rn T 99 [pm x] ?_
            refine rn T 99 [] ?_
            rw [wkP (by omega)]
            refine hes (ih (by omega) x) ?_; rintro _ _ ⟨rfl, rfl⟩ _ _; refine op ?_
            refine rn T 99 [] ?_
            cases hx2 : tk nmf n x with
            | false =>
              refine ctq rfl (by simp [nmf] at hx2; simp [hx2]) ?_
              refine rn T 99 [] ?_
              exact ⟨[_], ⟨_, _, rfl, .inl rfl, rfl⟩, .p, RB_of (c := false) (by rw [tk_eq, ← h2, hx2]; simp) ⟨rfl, rfl⟩⟩
            | true =>
              rw [hx2, Bool.true_and] at h2
              refine cfq rfl (by simp [nmf] at hx2; simp [hx2]) ?_
              refine rn T 99 [] ?_
              rw [wkS (by omega)]
              refine nxt (m2 - 1) (i + 1) (⟨by omega, h2⟩)
          · refine cfq rfl (by simp [hi]) ?_
            refine rn T 99 [] ?_
            exact ⟨[_], ⟨_, _, rfl, .inl rfl, rfl⟩, .p, RB_of (c := true) (by rw [tk_eq, tkH_1, ← h2, List.drop_eq_nil_of_le (by omega)]; simp only [List.all_nil, Bool.and_true, Bool.and_eq_true, decide_eq_true_eq]; (repeat' apply And.intro) <;> first | omega | assumption | (simp at *; assumption) | (simp at *; omega) | (simp_all; done) | (simp_all; omega)) ⟨rfl, rfl⟩⟩
        · refine ctq rfl (by simp only [List.length_map, bne_iff_ne, ne_eq]; omega) ?_
          refine rn T 99 [] ?_
          exact ⟨[_], ⟨_, _, rfl, .inl rfl, rfl⟩, .p, RB_of (c := false) (by rw [tk_eq, tkH_1]; refine Bool.eq_false_iff.2 (fun hq => ?_); simp only [Bool.and_eq_true, decide_eq_true_eq] at hq; first | omega | (simp at *; done) | (simp at *; omega) | simp_all | (simp_all; omega)) ⟨rfl, rfl⟩⟩
    · refine cfq rfl (by simp [k1]) ?_
      refine rn T 99 [] ?_
      by_cases k2 : k = 2
      · subst k2
        refine cts ?_
        cases hw : pw s with
        | false =>
          have hc := word2 G s
          rw [hw] at hc
          refine rn T 99 [] ?_
          refine pcs (hc) ?_
          refine rn T 99 [] ?_
          refine cts ?_
          refine rn T 99 [] ?_
          exact ⟨[_], ⟨_, _, rfl, .inl rfl, rfl⟩, .p, RB_of (c := false) (by rw [tk_eq, tkH_2]; simp [hw]) ⟨rfl, rfl⟩⟩
        | true =>
          have hc := word2 G s
          rw [hw] at hc
          refine rn T 99 [] ?_
          refine pcs (hc) ?_
          refine rn T 99 [] ?_
          refine hes (hb s) ?_; rintro _ _ ⟨rfl, rfl⟩ _ _; refine op ?_
          refine rn T 99 [] ?_
          cases hbd : bd s with
          | false =>
            refine ctq rfl (by simp [hbd]) ?_
            refine rn T 99 [] ?_
            exact ⟨[_], ⟨_, _, rfl, .inl rfl, rfl⟩, .p, RB_of (c := false) (by rw [tk_eq, tkH_2]; simp [hbd]) ⟨rfl, rfl⟩⟩
          | true =>
            refine cfq rfl (by simp [hbd]) ?_
            refine rn T 99 [] ?_
            repeat' (first | (with_reducible refine n16 ?_) | (with_reducible refine EOps.ci ?_; first | refine EOps.one T [] rfl (by first | exact True.intro | exact ⟨True.intro, True.intro⟩) ?_ | (refine EOps.sp rfl ?_ ?_ <;> intro hc_ <;> rw [hc_] <;> first | replace hc_ := of_decide_eq_true hc_ | replace hc_ := of_decide_eq_false hc_ | replace hc_ := of_decide_eq_false (Eq.mp (Bool.not_eq_true' _) hc_) | replace hc_ := of_decide_eq_true (Eq.mp (Bool.not_eq_false' _) hc_) | skip)))
            all_goals (refine op ?_)
            all_goals (try ((refine cts ?_); (refine rn T 99 [] ?_); (exact ⟨[_], ⟨_, _, rfl, .inl rfl, rfl⟩, .p, RB_of (c := false) (by rw [tk_eq, tkH_2]; refine Bool.eq_false_iff.2 (fun hq => ?_); simp only [Bool.and_eq_true, decide_eq_true_eq] at hq; first | omega | (simp at *; done) | (simp at *; omega) | simp_all | (simp_all; omega)) ⟨rfl, rfl⟩⟩); done))
            by_cases hk : l.length = 0
            · refine cfq rfl (by simp [hk]) ?_
              refine rn T 99 [] ?_
              refine lpw (fun i : Nat => MS.mk [(82, .p (pi i)), (81, .p (pi (l.map eM).length)), (80, .p (.row 5 (l.map eM))), (2, .fn fid []), (1, .p (pi (n + 1 : Nat)))] 93 [] H) (fun m i => m + i = l.length ∧ (l.drop i).all (tk nmf n) = l.all (tk nmf n)) (l.length) (0) (by simp) ?_
              intro m2 i ⟨h1, h2⟩
              refine op ?_
              refine rn T 99 [] ?_
              by_cases hi : i < l.length
              · obtain ⟨x, hx, hd⟩ := drop_ix hi
                rw [hd, List.all_cons] at h2
                refine ctq rfl (by simp [hi]) ?_
                refine rn T 99 [pm x] ?_
                refine rn T 99 [] ?_
                rw [wkP (by omega)]
                refine hes (ih (by omega) x) ?_; rintro _ _ ⟨rfl, rfl⟩ _ _; refine op ?_
                refine rn T 99 [] ?_
                cases hx2 : tk nmf n x with
                | false =>
                  refine ctq rfl (by simp [nmf] at hx2; simp [hx2]) ?_
                  refine rn T 99 [] ?_
                  exact ⟨[_], ⟨_, _, rfl, .inl rfl, rfl⟩, .p, RB_of (c := false) (by rw [tk_eq, ← h2, hx2]; simp) ⟨rfl, rfl⟩⟩
                | true =>
                  rw [hx2, Bool.true_and] at h2
                  refine cfq rfl (by simp [nmf] at hx2; simp [hx2]) ?_
                  refine rn T 99 [] ?_
                  rw [wkS (by omega)]
                  refine nxt (m2 - 1) (i + 1) (⟨by omega, h2⟩)
              · refine cfq rfl (by simp [hi]) ?_
                refine rn T 99 [] ?_
                exact ⟨[_], ⟨_, _, rfl, .inl rfl, rfl⟩, .p, RB_of (c := true) (by rw [tk_eq, tkH_2, ← h2, List.drop_eq_nil_of_le (by omega)]; simp only [List.all_nil, Bool.and_true, Bool.and_eq_true, decide_eq_true_eq]; (repeat' apply And.intro) <;> first | omega | assumption | (simp at *; assumption) | (simp at *; omega) | (simp_all; done) | (simp_all; omega)) ⟨rfl, rfl⟩⟩
            · refine ctq rfl (by simp only [List.length_map, bne_iff_ne, ne_eq]; omega) ?_
              refine rn T 99 [] ?_
              exact ⟨[_], ⟨_, _, rfl, .inl rfl, rfl⟩, .p, RB_of (c := false) (by rw [tk_eq, tkH_2]; refine Bool.eq_false_iff.2 (fun hq => ?_); simp only [Bool.and_eq_true, decide_eq_true_eq] at hq; first | omega | (simp at *; done) | (simp at *; omega) | simp_all | (simp_all; omega)) ⟨rfl, rfl⟩⟩
      · refine cfq rfl (by simp [k2]) ?_
        refine rn T 99 [] ?_
        by_cases k3 : k = 3 ∨ k = 4 ∨ k = 5 ∨ k = 6
        · rcases k3 with rfl | rfl | rfl | rfl
          · refine cts ?_
            refine cts ?_
            refine rn T 99 [] ?_
            repeat' (first | (with_reducible refine n16 ?_) | (with_reducible refine EOps.ci ?_; first | refine EOps.one T [] rfl (by first | exact True.intro | exact ⟨True.intro, True.intro⟩) ?_ | (refine EOps.sp rfl ?_ ?_ <;> intro hc_ <;> rw [hc_] <;> first | replace hc_ := of_decide_eq_true hc_ | replace hc_ := of_decide_eq_false hc_ | replace hc_ := of_decide_eq_false (Eq.mp (Bool.not_eq_true' _) hc_) | replace hc_ := of_decide_eq_true (Eq.mp (Bool.not_eq_false' _) hc_) | skip)))
            all_goals (refine op ?_)
            all_goals (try ((refine cts ?_); (refine rn T 99 [] ?_); (exact ⟨[_], ⟨_, _, rfl, .inl rfl, rfl⟩, .p, RB_of (c := false) (by rw [tk_eq, tkH_3 _ 3 m s p l (by decide)]; refine Bool.eq_false_iff.2 (fun hq => ?_); simp only [Bool.and_eq_true, decide_eq_true_eq] at hq; first | omega | (simp at *; done) | (simp at *; omega) | simp_all | (simp_all; omega)) ⟨rfl, rfl⟩⟩); done))
            by_cases hk : l.length = 2
            · refine cfq rfl (by simp [hk]) ?_
              refine rn T 99 [] ?_
              refine lpw (fun i : Nat => MS.mk [(82, .p (pi i)), (81, .p (pi (l.map eM).length)), (80, .p (.row 5 (l.map eM))), (2, .fn fid []), (1, .p (pi (n + 1 : Nat)))] 93 [] H) (fun m i => m + i = l.length ∧ (l.drop i).all (tk nmf n) = l.all (tk nmf n)) (l.length) (0) (by simp) ?_
              intro m2 i ⟨h1, h2⟩
              refine op ?_
              refine rn T 99 [] ?_
              by_cases hi : i < l.length
              · obtain ⟨x, hx, hd⟩ := drop_ix hi
                rw [hd, List.all_cons] at h2
                refine ctq rfl (by simp [hi]) ?_
                refine rn T 99 [pm x] ?_
                refine rn T 99 [] ?_
                rw [wkP (by omega)]
                refine hes (ih (by omega) x) ?_; rintro _ _ ⟨rfl, rfl⟩ _ _; refine op ?_
                refine rn T 99 [] ?_
                cases hx2 : tk nmf n x with
                | false =>
                  refine ctq rfl (by simp [nmf] at hx2; simp [hx2]) ?_
                  refine rn T 99 [] ?_
                  exact ⟨[_], ⟨_, _, rfl, .inl rfl, rfl⟩, .p, RB_of (c := false) (by rw [tk_eq, ← h2, hx2]; simp) ⟨rfl, rfl⟩⟩
                | true =>
                  rw [hx2, Bool.true_and] at h2
                  refine cfq rfl (by simp [nmf] at hx2; simp [hx2]) ?_
                  refine rn T 99 [] ?_
                  rw [wkS (by omega)]
                  refine nxt (m2 - 1) (i + 1) (⟨by omega, h2⟩)
              · refine cfq rfl (by simp [hi]) ?_
                refine rn T 99 [] ?_
                exact ⟨[_], ⟨_, _, rfl, .inl rfl, rfl⟩, .p, RB_of (c := true) (by rw [tk_eq, tkH_3 _ 3 m s p l (by decide), ← h2, List.drop_eq_nil_of_le (by omega)]; simp only [List.all_nil, Bool.and_true, Bool.and_eq_true, decide_eq_true_eq]; (repeat' apply And.intro) <;> first | omega | assumption | (simp at *; assumption) | (simp at *; omega) | (simp_all; done) | (simp_all; omega)) ⟨rfl, rfl⟩⟩
            · refine ctq rfl (by simp only [List.length_map, bne_iff_ne, ne_eq]; omega) ?_
              refine rn T 99 [] ?_
              exact ⟨[_], ⟨_, _, rfl, .inl rfl, rfl⟩, .p, RB_of (c := false) (by rw [tk_eq, tkH_3 _ 3 m s p l (by decide)]; refine Bool.eq_false_iff.2 (fun hq => ?_); simp only [Bool.and_eq_true, decide_eq_true_eq] at hq; first | omega | (simp at *; done) | (simp at *; omega) | simp_all | (simp_all; omega)) ⟨rfl, rfl⟩⟩
          · refine cfs ?_
            refine rn T 99 [] ?_
            refine cts ?_
            refine cts ?_
            refine rn T 99 [] ?_
            repeat' (first | (with_reducible refine n16 ?_) | (with_reducible refine EOps.ci ?_; first | refine EOps.one T [] rfl (by first | exact True.intro | exact ⟨True.intro, True.intro⟩) ?_ | (refine EOps.sp rfl ?_ ?_ <;> intro hc_ <;> rw [hc_] <;> first | replace hc_ := of_decide_eq_true hc_ | replace hc_ := of_decide_eq_false hc_ | replace hc_ := of_decide_eq_false (Eq.mp (Bool.not_eq_true' _) hc_) | replace hc_ := of_decide_eq_true (Eq.mp (Bool.not_eq_false' _) hc_) | skip)))
            all_goals (refine op ?_)
            all_goals (try ((refine cts ?_); (refine rn T 99 [] ?_); (exact ⟨[_], ⟨_, _, rfl, .inl rfl, rfl⟩, .p, RB_of (c := false) (by rw [tk_eq, tkH_3 _ 4 m s p l (by decide)]; refine Bool.eq_false_iff.2 (fun hq => ?_); simp only [Bool.and_eq_true, decide_eq_true_eq] at hq; first | omega | (simp at *; done) | (simp at *; omega) | simp_all | (simp_all; omega)) ⟨rfl, rfl⟩⟩); done))
            by_cases hk : l.length = 2
            · refine cfq rfl (by simp [hk]) ?_
              refine rn T 99 [] ?_
              refine lpw (fun i : Nat => MS.mk [(82, .p (pi i)), (81, .p (pi (l.map eM).length)), (80, .p (.row 5 (l.map eM))), (2, .fn fid []), (1, .p (pi (n + 1 : Nat)))] 93 [] H) (fun m i => m + i = l.length ∧ (l.drop i).all (tk nmf n) = l.all (tk nmf n)) (l.length) (0) (by simp) ?_
              intro m2 i ⟨h1, h2⟩
              refine op ?_
              refine rn T 99 [] ?_
              by_cases hi : i < l.length
              · obtain ⟨x, hx, hd⟩ := drop_ix hi
                rw [hd, List.all_cons] at h2
                refine ctq rfl (by simp [hi]) ?_
                refine rn T 99 [pm x] ?_
                refine rn T 99 [] ?_
                rw [wkP (by omega)]
                refine hes (ih (by omega) x) ?_; rintro _ _ ⟨rfl, rfl⟩ _ _; refine op ?_
                refine rn T 99 [] ?_
                cases hx2 : tk nmf n x with
                | false =>
                  refine ctq rfl (by simp [nmf] at hx2; simp [hx2]) ?_
                  refine rn T 99 [] ?_
                  exact ⟨[_], ⟨_, _, rfl, .inl rfl, rfl⟩, .p, RB_of (c := false) (by rw [tk_eq, ← h2, hx2]; simp) ⟨rfl, rfl⟩⟩
                | true =>
                  rw [hx2, Bool.true_and] at h2
                  refine cfq rfl (by simp [nmf] at hx2; simp [hx2]) ?_
                  refine rn T 99 [] ?_
                  rw [wkS (by omega)]
                  refine nxt (m2 - 1) (i + 1) (⟨by omega, h2⟩)
              · refine cfq rfl (by simp [hi]) ?_
                refine rn T 99 [] ?_
                exact ⟨[_], ⟨_, _, rfl, .inl rfl, rfl⟩, .p, RB_of (c := true) (by rw [tk_eq, tkH_3 _ 4 m s p l (by decide), ← h2, List.drop_eq_nil_of_le (by omega)]; simp only [List.all_nil, Bool.and_true, Bool.and_eq_true, decide_eq_true_eq]; (repeat' apply And.intro) <;> first | omega | assumption | (simp at *; assumption) | (simp at *; omega) | (simp_all; done) | (simp_all; omega)) ⟨rfl, rfl⟩⟩
            · refine ctq rfl (by simp only [List.length_map, bne_iff_ne, ne_eq]; omega) ?_
              refine rn T 99 [] ?_
              exact ⟨[_], ⟨_, _, rfl, .inl rfl, rfl⟩, .p, RB_of (c := false) (by rw [tk_eq, tkH_3 _ 4 m s p l (by decide)]; refine Bool.eq_false_iff.2 (fun hq => ?_); simp only [Bool.and_eq_true, decide_eq_true_eq] at hq; first | omega | (simp at *; done) | (simp at *; omega) | simp_all | (simp_all; omega)) ⟨rfl, rfl⟩⟩
          · refine cfs ?_
            refine rn T 99 [] ?_
            refine cfs ?_
            refine rn T 99 [] ?_
            refine cts ?_
            refine cts ?_
            refine rn T 99 [] ?_
            repeat' (first | (with_reducible refine n16 ?_) | (with_reducible refine EOps.ci ?_; first | refine EOps.one T [] rfl (by first | exact True.intro | exact ⟨True.intro, True.intro⟩) ?_ | (refine EOps.sp rfl ?_ ?_ <;> intro hc_ <;> rw [hc_] <;> first | replace hc_ := of_decide_eq_true hc_ | replace hc_ := of_decide_eq_false hc_ | replace hc_ := of_decide_eq_false (Eq.mp (Bool.not_eq_true' _) hc_) | replace hc_ := of_decide_eq_true (Eq.mp (Bool.not_eq_false' _) hc_) | skip)))
            all_goals (refine op ?_)
            all_goals (try ((refine cts ?_); (refine rn T 99 [] ?_); (exact ⟨[_], ⟨_, _, rfl, .inl rfl, rfl⟩, .p, RB_of (c := false) (by rw [tk_eq, tkH_3 _ 5 m s p l (by decide)]; refine Bool.eq_false_iff.2 (fun hq => ?_); simp only [Bool.and_eq_true, decide_eq_true_eq] at hq; first | omega | (simp at *; done) | (simp at *; omega) | simp_all | (simp_all; omega)) ⟨rfl, rfl⟩⟩); done))
            by_cases hk : l.length = 2
            · refine cfq rfl (by simp [hk]) ?_
              refine rn T 99 [] ?_
              refine lpw (fun i : Nat => MS.mk [(82, .p (pi i)), (81, .p (pi (l.map eM).length)), (80, .p (.row 5 (l.map eM))), (2, .fn fid []), (1, .p (pi (n + 1 : Nat)))] 93 [] H) (fun m i => m + i = l.length ∧ (l.drop i).all (tk nmf n) = l.all (tk nmf n)) (l.length) (0) (by simp) ?_
              intro m2 i ⟨h1, h2⟩
              refine op ?_
              refine rn T 99 [] ?_
              by_cases hi : i < l.length
              · obtain ⟨x, hx, hd⟩ := drop_ix hi
                rw [hd, List.all_cons] at h2
                refine ctq rfl (by simp [hi]) ?_
                refine rn T 99 [pm x] ?_
                refine rn T 99 [] ?_
                rw [wkP (by omega)]
                refine hes (ih (by omega) x) ?_; rintro _ _ ⟨rfl, rfl⟩ _ _; refine op ?_
                refine rn T 99 [] ?_
                cases hx2 : tk nmf n x with
                | false =>
                  refine ctq rfl (by simp [nmf] at hx2; simp [hx2]) ?_
                  refine rn T 99 [] ?_
                  exact ⟨[_], ⟨_, _, rfl, .inl rfl, rfl⟩, .p, RB_of (c := false) (by rw [tk_eq, ← h2, hx2]; simp) ⟨rfl, rfl⟩⟩
                | true =>
                  rw [hx2, Bool.true_and] at h2
                  refine cfq rfl (by simp [nmf] at hx2; simp [hx2]) ?_
                  refine rn T 99 [] ?_
                  rw [wkS (by omega)]
                  refine nxt (m2 - 1) (i + 1) (⟨by omega, h2⟩)
              · refine cfq rfl (by simp [hi]) ?_
                refine rn T 99 [] ?_
                exact ⟨[_], ⟨_, _, rfl, .inl rfl, rfl⟩, .p, RB_of (c := true) (by rw [tk_eq, tkH_3 _ 5 m s p l (by decide), ← h2, List.drop_eq_nil_of_le (by omega)]; simp only [List.all_nil, Bool.and_true, Bool.and_eq_true, decide_eq_true_eq]; (repeat' apply And.intro) <;> first | omega | assumption | (simp at *; assumption) | (simp at *; omega) | (simp_all; done) | (simp_all; omega)) ⟨rfl, rfl⟩⟩
            · refine ctq rfl (by simp only [List.length_map, bne_iff_ne, ne_eq]; omega) ?_
              refine rn T 99 [] ?_
              exact ⟨[_], ⟨_, _, rfl, .inl rfl, rfl⟩, .p, RB_of (c := false) (by rw [tk_eq, tkH_3 _ 5 m s p l (by decide)]; refine Bool.eq_false_iff.2 (fun hq => ?_); simp only [Bool.and_eq_true, decide_eq_true_eq] at hq; first | omega | (simp at *; done) | (simp at *; omega) | simp_all | (simp_all; omega)) ⟨rfl, rfl⟩⟩
          · refine cfs ?_
            refine rn T 99 [] ?_
            refine cfs ?_
            refine rn T 99 [] ?_
            refine cfs ?_
            refine rn T 99 [] ?_
            refine cts ?_
            refine rn T 99 [] ?_
            repeat' (first | (with_reducible refine n16 ?_) | (with_reducible refine EOps.ci ?_; first | refine EOps.one T [] rfl (by first | exact True.intro | exact ⟨True.intro, True.intro⟩) ?_ | (refine EOps.sp rfl ?_ ?_ <;> intro hc_ <;> rw [hc_] <;> first | replace hc_ := of_decide_eq_true hc_ | replace hc_ := of_decide_eq_false hc_ | replace hc_ := of_decide_eq_false (Eq.mp (Bool.not_eq_true' _) hc_) | replace hc_ := of_decide_eq_true (Eq.mp (Bool.not_eq_false' _) hc_) | skip)))
            all_goals (refine op ?_)
            all_goals (try ((refine cts ?_); (refine rn T 99 [] ?_); (exact ⟨[_], ⟨_, _, rfl, .inl rfl, rfl⟩, .p, RB_of (c := false) (by rw [tk_eq, tkH_3 _ 6 m s p l (by decide)]; refine Bool.eq_false_iff.2 (fun hq => ?_); simp only [Bool.and_eq_true, decide_eq_true_eq] at hq; first | omega | (simp at *; done) | (simp at *; omega) | simp_all | (simp_all; omega)) ⟨rfl, rfl⟩⟩); done))
            by_cases hk : l.length = 2
            · refine cfq rfl (by simp [hk]) ?_
              refine rn T 99 [] ?_
              refine lpw (fun i : Nat => MS.mk [(82, .p (pi i)), (81, .p (pi (l.map eM).length)), (80, .p (.row 5 (l.map eM))), (2, .fn fid []), (1, .p (pi (n + 1 : Nat)))] 93 [] H) (fun m i => m + i = l.length ∧ (l.drop i).all (tk nmf n) = l.all (tk nmf n)) (l.length) (0) (by simp) ?_
              intro m2 i ⟨h1, h2⟩
              refine op ?_
              refine rn T 99 [] ?_
              by_cases hi : i < l.length
              · obtain ⟨x, hx, hd⟩ := drop_ix hi
                rw [hd, List.all_cons] at h2
                refine ctq rfl (by simp [hi]) ?_
                refine rn T 99 [pm x] ?_
                refine rn T 99 [] ?_
                rw [wkP (by omega)]
                refine hes (ih (by omega) x) ?_; rintro _ _ ⟨rfl, rfl⟩ _ _; refine op ?_
                refine rn T 99 [] ?_
                cases hx2 : tk nmf n x with
                | false =>
                  refine ctq rfl (by simp [nmf] at hx2; simp [hx2]) ?_
                  refine rn T 99 [] ?_
                  exact ⟨[_], ⟨_, _, rfl, .inl rfl, rfl⟩, .p, RB_of (c := false) (by rw [tk_eq, ← h2, hx2]; simp) ⟨rfl, rfl⟩⟩
                | true =>
                  rw [hx2, Bool.true_and] at h2
                  refine cfq rfl (by simp [nmf] at hx2; simp [hx2]) ?_
                  refine rn T 99 [] ?_
                  rw [wkS (by omega)]
                  refine nxt (m2 - 1) (i + 1) (⟨by omega, h2⟩)
              · refine cfq rfl (by simp [hi]) ?_
                refine rn T 99 [] ?_
                exact ⟨[_], ⟨_, _, rfl, .inl rfl, rfl⟩, .p, RB_of (c := true) (by rw [tk_eq, tkH_3 _ 6 m s p l (by decide), ← h2, List.drop_eq_nil_of_le (by omega)]; simp only [List.all_nil, Bool.and_true, Bool.and_eq_true, decide_eq_true_eq]; (repeat' apply And.intro) <;> first | omega | assumption | (simp at *; assumption) | (simp at *; omega) | (simp_all; done) | (simp_all; omega)) ⟨rfl, rfl⟩⟩
            · refine ctq rfl (by simp only [List.length_map, bne_iff_ne, ne_eq]; omega) ?_
              refine rn T 99 [] ?_
              exact ⟨[_], ⟨_, _, rfl, .inl rfl, rfl⟩, .p, RB_of (c := false) (by rw [tk_eq, tkH_3 _ 6 m s p l (by decide)]; refine Bool.eq_false_iff.2 (fun hq => ?_); simp only [Bool.and_eq_true, decide_eq_true_eq] at hq; first | omega | (simp at *; done) | (simp at *; omega) | simp_all | (simp_all; omega)) ⟨rfl, rfl⟩⟩
        · refine cfq rfl (by simp; omega) ?_
          refine rn T 99 [] ?_
          refine cfq rfl (by simp; omega) ?_
          refine rn T 99 [] ?_
          refine cfq rfl (by simp; omega) ?_
          refine rn T 99 [] ?_
          refine cfq rfl (by simp; omega) ?_
          refine rn T 99 [] ?_
          by_cases k7 : k = 7
          · subst k7
            refine cts ?_
            refine cts ?_
            have hc := path2 G p
            cases hp : pathB p with
            | false =>
              rw [hp] at hc
              refine rn T 99 [] ?_
              refine pcs (hc) ?_
              refine rn T 99 [] ?_
              refine cts ?_
              refine rn T 99 [] ?_
              exact ⟨[_], ⟨_, _, rfl, .inl rfl, rfl⟩, .p, RB_of (c := false) (by rw [tk_eq, tkH_7]; simp [hp]) ⟨rfl, rfl⟩⟩
            | true =>
              rw [hp] at hc
              refine rn T 99 [] ?_
              refine pcs (hc) ?_
              refine rn T 99 [] ?_
              refine cfs ?_
              refine rn T 99 [] ?_
              refine rn T 99 [] ?_
              rw [show IntKind.i64.wrap (IntKind.i64.wrap (1 + 7) - 7) = 1 from rfl]
              repeat' (first | (with_reducible refine n16 ?_) | (with_reducible refine EOps.ci ?_; first | refine EOps.one T [] rfl (by first | exact True.intro | exact ⟨True.intro, True.intro⟩) ?_ | (refine EOps.sp rfl ?_ ?_ <;> intro hc_ <;> rw [hc_] <;> first | replace hc_ := of_decide_eq_true hc_ | replace hc_ := of_decide_eq_false hc_ | replace hc_ := of_decide_eq_false (Eq.mp (Bool.not_eq_true' _) hc_) | replace hc_ := of_decide_eq_true (Eq.mp (Bool.not_eq_false' _) hc_) | skip)))
              all_goals (refine op ?_)
              all_goals (try ((refine cts ?_); (refine rn T 99 [] ?_); (exact ⟨[_], ⟨_, _, rfl, .inl rfl, rfl⟩, .p, RB_of (c := false) (by rw [tk_eq, tkH_7]; refine Bool.eq_false_iff.2 (fun hq => ?_); simp only [Bool.and_eq_true, decide_eq_true_eq] at hq; first | omega | (simp at *; done) | (simp at *; omega) | simp_all | (simp_all; omega)) ⟨rfl, rfl⟩⟩); done))
              by_cases hk : l.length = 1
              · refine cfq rfl (by simp [hk]) ?_
                refine rn T 99 [] ?_
                refine lpw (fun i : Nat => MS.mk [(82, .p (pi i)), (81, .p (pi (l.map eM).length)), (80, .p (.row 5 (l.map eM))), (2, .fn fid []), (1, .p (pi (n + 1 : Nat)))] 93 [] H) (fun m i => m + i = l.length ∧ (l.drop i).all (tk nmf n) = l.all (tk nmf n)) (l.length) (0) (by simp) ?_
                intro m2 i ⟨h1, h2⟩
                refine op ?_
                refine rn T 99 [] ?_
                by_cases hi : i < l.length
                · obtain ⟨x, hx, hd⟩ := drop_ix hi
                  rw [hd, List.all_cons] at h2
                  refine ctq rfl (by simp [hi]) ?_
                  refine rn T 99 [pm x] ?_
                  refine rn T 99 [] ?_
                  rw [wkP (by omega)]
                  refine hes (ih (by omega) x) ?_; rintro _ _ ⟨rfl, rfl⟩ _ _; refine op ?_
                  refine rn T 99 [] ?_
                  cases hx2 : tk nmf n x with
                  | false =>
                    refine ctq rfl (by simp [nmf] at hx2; simp [hx2]) ?_
                    refine rn T 99 [] ?_
                    exact ⟨[_], ⟨_, _, rfl, .inl rfl, rfl⟩, .p, RB_of (c := false) (by rw [tk_eq, ← h2, hx2]; simp) ⟨rfl, rfl⟩⟩
                  | true =>
                    rw [hx2, Bool.true_and] at h2
                    refine cfq rfl (by simp [nmf] at hx2; simp [hx2]) ?_
                    refine rn T 99 [] ?_
                    rw [wkS (by omega)]
                    refine nxt (m2 - 1) (i + 1) (⟨by omega, h2⟩)
                · refine cfq rfl (by simp [hi]) ?_
                  refine rn T 99 [] ?_
                  exact ⟨[_], ⟨_, _, rfl, .inl rfl, rfl⟩, .p, RB_of (c := true) (by rw [tk_eq, tkH_7, ← h2, List.drop_eq_nil_of_le (by omega)]; simp only [List.all_nil, Bool.and_true, Bool.and_eq_true, decide_eq_true_eq]; (repeat' apply And.intro) <;> first | omega | assumption | (simp at *; assumption) | (simp at *; omega) | (simp_all; done) | (simp_all; omega)) ⟨rfl, rfl⟩⟩
              · refine ctq rfl (by simp only [List.length_map, bne_iff_ne, ne_eq]; omega) ?_
                refine rn T 99 [] ?_
                exact ⟨[_], ⟨_, _, rfl, .inl rfl, rfl⟩, .p, RB_of (c := false) (by rw [tk_eq, tkH_7]; refine Bool.eq_false_iff.2 (fun hq => ?_); simp only [Bool.and_eq_true, decide_eq_true_eq] at hq; first | omega | (simp at *; done) | (simp at *; omega) | simp_all | (simp_all; omega)) ⟨rfl, rfl⟩⟩
          · refine cfq rfl (by simp [k7]) ?_
            refine rn T 99 [] ?_
            by_cases k8 : k = 8
            · subst k8
              refine cts ?_
              have hc := path2 G p
              cases hp : pathB p with
              | false =>
                rw [hp] at hc
                refine rn T 99 [] ?_
                refine pcs (hc) ?_
                refine rn T 99 [] ?_
                refine cts ?_
                refine rn T 99 [] ?_
                exact ⟨[_], ⟨_, _, rfl, .inl rfl, rfl⟩, .p, RB_of (c := false) (by rw [tk_eq, tkH_8]; simp [hp]) ⟨rfl, rfl⟩⟩
              | true =>
                rw [hp] at hc
                refine rn T 99 [] ?_
                refine pcs (hc) ?_
                refine rn T 99 [] ?_
                refine cfs ?_
                refine rn T 99 [] ?_
                refine rn T 99 [] ?_
                rw [show IntKind.i64.wrap (IntKind.i64.wrap (1 + 8) - 7) = 2 from rfl]
                repeat' (first | (with_reducible refine n16 ?_) | (with_reducible refine EOps.ci ?_; first | refine EOps.one T [] rfl (by first | exact True.intro | exact ⟨True.intro, True.intro⟩) ?_ | (refine EOps.sp rfl ?_ ?_ <;> intro hc_ <;> rw [hc_] <;> first | replace hc_ := of_decide_eq_true hc_ | replace hc_ := of_decide_eq_false hc_ | replace hc_ := of_decide_eq_false (Eq.mp (Bool.not_eq_true' _) hc_) | replace hc_ := of_decide_eq_true (Eq.mp (Bool.not_eq_false' _) hc_) | skip)))
                all_goals (refine op ?_)
                all_goals (try ((refine cts ?_); (refine rn T 99 [] ?_); (exact ⟨[_], ⟨_, _, rfl, .inl rfl, rfl⟩, .p, RB_of (c := false) (by rw [tk_eq, tkH_8]; refine Bool.eq_false_iff.2 (fun hq => ?_); simp only [Bool.and_eq_true, decide_eq_true_eq] at hq; first | omega | (simp at *; done) | (simp at *; omega) | simp_all | (simp_all; omega)) ⟨rfl, rfl⟩⟩); done))
                by_cases hk : l.length = 2
                · refine cfq rfl (by simp [hk]) ?_
                  refine rn T 99 [] ?_
                  refine lpw (fun i : Nat => MS.mk [(82, .p (pi i)), (81, .p (pi (l.map eM).length)), (80, .p (.row 5 (l.map eM))), (2, .fn fid []), (1, .p (pi (n + 1 : Nat)))] 93 [] H) (fun m i => m + i = l.length ∧ (l.drop i).all (tk nmf n) = l.all (tk nmf n)) (l.length) (0) (by simp) ?_
                  intro m2 i ⟨h1, h2⟩
                  refine op ?_
                  refine rn T 99 [] ?_
                  by_cases hi : i < l.length
                  · obtain ⟨x, hx, hd⟩ := drop_ix hi
                    rw [hd, List.all_cons] at h2
                    refine ctq rfl (by simp [hi]) ?_
                    refine rn T 99 [pm x] ?_
                    refine rn T 99 [] ?_
                    rw [wkP (by omega)]
                    refine hes (ih (by omega) x) ?_; rintro _ _ ⟨rfl, rfl⟩ _ _; refine op ?_
                    refine rn T 99 [] ?_
                    cases hx2 : tk nmf n x with
                    | false =>
                      refine ctq rfl (by simp [nmf] at hx2; simp [hx2]) ?_
                      refine rn T 99 [] ?_
                      exact ⟨[_], ⟨_, _, rfl, .inl rfl, rfl⟩, .p, RB_of (c := false) (by rw [tk_eq, ← h2, hx2]; simp) ⟨rfl, rfl⟩⟩
                    | true =>
                      rw [hx2, Bool.true_and] at h2
                      refine cfq rfl (by simp [nmf] at hx2; simp [hx2]) ?_
                      refine rn T 99 [] ?_
                      rw [wkS (by omega)]
                      refine nxt (m2 - 1) (i + 1) (⟨by omega, h2⟩)
                  · refine cfq rfl (by simp [hi]) ?_
                    refine rn T 99 [] ?_
                    exact ⟨[_], ⟨_, _, rfl, .inl rfl, rfl⟩, .p, RB_of (c := true) (by rw [tk_eq, tkH_8, ← h2, List.drop_eq_nil_of_le (by omega)]; simp only [List.all_nil, Bool.and_true, Bool.and_eq_true, decide_eq_true_eq]; (repeat' apply And.intro) <;> first | omega | assumption | (simp at *; assumption) | (simp at *; omega) | (simp_all; done) | (simp_all; omega)) ⟨rfl, rfl⟩⟩
                · refine ctq rfl (by simp only [List.length_map, bne_iff_ne, ne_eq]; omega) ?_
                  refine rn T 99 [] ?_
                  exact ⟨[_], ⟨_, _, rfl, .inl rfl, rfl⟩, .p, RB_of (c := false) (by rw [tk_eq, tkH_8]; refine Bool.eq_false_iff.2 (fun hq => ?_); simp only [Bool.and_eq_true, decide_eq_true_eq] at hq; first | omega | (simp at *; done) | (simp at *; omega) | simp_all | (simp_all; omega)) ⟨rfl, rfl⟩⟩
            · refine cfq rfl (by simp [k8]) ?_
              refine rn T 99 [] ?_
              exact ⟨[_], ⟨_, _, rfl, .inl rfl, rfl⟩, .p, RB_of (c := false) (by rw [tk_eq, tkH_o _ k m s p l k1 k2 k3 k7 k8]; rfl) ⟨rfl, rfl⟩⟩
end Go.Proofs.YtglkkbgflnpjeaaGreatDoor.K
end
section
namespace Go.Proofs.YtglkkbgflnpjeaaGreatDoor.K
open Go Go.RowKit Go.Proofs.YtglkkbgflnpjeaaGreatDoor.En Go.Proofs.YtglkkbgflnpjeaaGreatDoor.Ty Go.Proofs.YtglkkbgflnpjeaaGreatDoor.B
set_option maxRecDepth 100000
set_option linter.unusedSimpArgs false
set_option linter.unusedVariables false
set_option pp.deepTerms false
set_option pp.deepTerms.threshold 8
set_option pp.maxSteps 1000
set_option maxHeartbeats 1000000
theorem tkH_sz {nm : ByteArray → Bool} {k m : Int} {s : ByteArray} {p : List Int} {l : List Mn} (h : tkH nm ⟨k, m, s, p, l⟩ = true) : l.length ≤ 2 ∧ pathB p = true := by
  have h0 : p.length = 0 → pathB p = true := fun e => by rw [List.eq_nil_of_length_eq_zero e]; rfl
  by_cases k1 : k = 1
  · subst k1; rw [tkH_1] at h; simp at h; exact ⟨by simp [h.2], h0 (by simp [h.1.2])⟩
  by_cases k2 : k = 2
  · subst k2; rw [tkH_2] at h; simp at h; exact ⟨by simp [h.2], h0 (by simp [h.1.2])⟩
  by_cases k3 : k = 3 ∨ k = 4 ∨ k = 5 ∨ k = 6
  · rw [tkH_3 _ _ _ _ _ _ k3] at h; simp at h; exact ⟨by simp [h.2], h0 (by simp [h.1.2])⟩
  by_cases k7 : k = 7
  · subst k7; rw [tkH_7] at h; simp at h; exact ⟨by simp [h.2], h.1.1.1⟩
  by_cases k8 : k = 8
  · subst k8; rw [tkH_8] at h; simp at h; exact ⟨by simp [h.2], h.1.1.1⟩
  rw [tkH_o _ _ _ _ _ _ k1 k2 k3 k7 k8] at h
  cases h
theorem csp {P : Program} {G : Nat → Option PV} {md : Nat → Nat} {Q : Exit → St → Prop} {c : Operand} {x y : Code} {s : MS} {b : Bool} (hc : evM s.l c = some (.p (.c (.bool b)))) (h1 : b = true → AW P x Q (s.st G md)) (h2 : b = false → AW P y Q (s.st G md)) : AW P (.cond c x y) Q (s.st G md) := by
  cases b with
  | true => exact ctp hc rfl (h1 rfl)
  | false => exact cfp hc rfl (h2 rfl)
theorem term12 (G : Nat → Option PV) (ns : List ByteArray) (hl : ns.length ≤ 1000) : ∀ (n : Nat), n ≤ 1000 → ∀ (t : Mn), PF Tryz.prog G 38 [.row 1 (ns.map ps), pm t, pi n] (.p (pb (tk (hasS ns) n t))) := by
  intro n
  induction n with
  | zero =>
    intro _ ⟨k, m, s, p, l⟩
    show PF _ _ _ [_, .ag [pi k, pi m, ps s, .row 1 (p.map pi), .row 5 (l.map eM)], _] _
    refine ⟨(by first | exact .p | exact .tp (fun x hx => by simp at hx; rcases hx with rfl | rfl <;> exact .p) | exact .tp (fun x hx => by simp at hx; rcases hx with rfl | rfl | rfl <;> exact .p)), bdy Tryz.func38 (fun _ => 0) rfl ?_⟩
    refine rn T 99 [] ?_
    refine rn T 99 [] ?_
    refine cts ?_
    refine rn T 99 [] ?_
    exact ⟨[_], ⟨_, _, rfl, .inl rfl, rfl⟩, .p, rfl⟩
  | succ n ih =>
    intro hn ⟨k, m, s, p, l⟩
    have ih := ih (by omega)
    show PF _ _ _ [_, .ag [pi k, pi m, ps s, .row 1 (p.map pi), .row 5 (l.map eM)], _] _
    refine ⟨(by first | exact .p | exact .tp (fun x hx => by simp at hx; rcases hx with rfl | rfl <;> exact .p) | exact .tp (fun x hx => by simp at hx; rcases hx with rfl | rfl | rfl <;> exact .p)), bdy Tryz.func38 (fun _ => 0) rfl ?_⟩
    refine rn T 99 [] ?_
    refine rn T 2 [] ?_
    rw [show decide (((n + 1 : Nat) : Int) < 1) = false by simp; omega]
    by_cases hl2 : l.length ≤ 2
    · by_cases hp4 : p.length ≤ 4
      · refine rn T 5 [] ?_
        rw [show decide (((l.map eM).length : Int) > 2) = false by simp; omega]
        refine rn T 99 [] ?_
        refine cfq rfl (by simp; omega) ?_
        refine rn T 99 [] ?_
        refine lpw (fun i : Nat => MS.mk [(7, .p (pi i)), (0, .p (.row 1 (ns.map ps))), (2, .p (pi (n + 1 : Nat))), (4, .ptr (.L 4) 0)] 131 [(4, .box 26 [.p (pi k), .p (pi m), .p (ps s), .p (.row 1 (p.map pi)), .p (.row 5 (l.map eM))])] []) (fun mm i => mm + i = l.length ∧ (l.drop i).all (tk (hasS ns) n) = l.all (tk (hasS ns) n)) (l.length) (0) (by simp) ?_
        intro mm i ⟨h1, h2⟩
        refine op ?_
        refine rn T 99 [] ?_
        by_cases hi : i < l.length
        · obtain ⟨x, hx, hd⟩ := drop_ix hi
          rw [hd, List.all_cons] at h2
          refine ctq rfl (by simp [hi]) ?_
          refine rn T 99 [pm x] ?_
          rw [wkP (by omega)]
          have hc := ih x
          cases hx2 : tk (hasS ns) n x with
          | false =>
            rw [hx2] at hc h2
            refine pcs (hc) ?_
            refine rn T 99 [] ?_
            refine cts ?_
            refine rn T 99 [] ?_
            rw [show tk (hasS ns) (n + 1) ⟨k, m, s, p, l⟩ = false by rw [tk_eq, ← h2]; simp]
            exact ⟨[_], ⟨_, _, rfl, .inl rfl, rfl⟩, .p, rfl⟩
          | true =>
            rw [hx2, Bool.true_and] at h2
            rw [hx2] at hc
            refine pcs (hc) ?_
            refine rn T 99 [] ?_
            refine cfs ?_
            refine rn T 99 [] ?_
            rw [wkS (by omega)]
            refine nxt (mm - 1) (i + 1) (⟨by omega, h2⟩)
        · refine cfq rfl (by simp [hi]) ?_
          refine rn T 99 [] ?_
          have hall : l.all (tk (hasS ns) n) = true := by rw [← h2, List.drop_eq_nil_of_le (by omega)]; rfl
          have htk : tk (hasS ns) (n + 1) ⟨k, m, s, p, l⟩ = tkH (hasS ns) ⟨k, m, s, p, l⟩ := by rw [tk_eq, hall, Bool.and_true]
          rw [htk]
          refine lpw (fun i : Nat => MS.mk [(8, .p (pi i)), (0, .p (.row 1 (ns.map ps))), (4, .ptr (.L 4) 0)] 131 [(4, .box 26 [.p (pi k), .p (pi m), .p (ps s), .p (.row 1 (p.map pi)), .p (.row 5 (l.map eM))])] []) (fun mm i => mm + i = p.length ∧ (p.drop i).all bitB = p.all bitB) (p.length) (0) (by simp) ?_
          intro m3 j ⟨h3, h4⟩
          refine op ?_
          refine rn T 99 [] ?_
          by_cases hj : j < p.length
          · obtain ⟨x, hx, hd⟩ := drop_ix hj
            rw [hd, List.all_cons] at h4
            refine ctq rfl (by simp [hj]) ?_
            refine rn T 99 [pi x] ?_
            have hc := l6In G x 0 1
            cases hx2 : bitB x with
            | false =>
              rw [hx2] at h4
              rw [show (decide (x ≥ 0) && decide (x ≤ 1)) = false by have := hx2; unfold bitB at this; rw [← this]; simp [Bool.decide_and]] at hc
              refine pcs (hc) ?_
              refine rn T 99 [] ?_
              refine cts ?_
              refine rn T 99 [] ?_
              rw [show tkH (hasS ns) ⟨k, m, s, p, l⟩ = false by cases h : tkH (hasS ns) ⟨k, m, s, p, l⟩ with | false => rfl | true => have := (tkH_sz h).2; unfold pathB at this; rw [← h4] at this; simp at this]
              exact ⟨[_], ⟨_, _, rfl, .inl rfl, rfl⟩, .p, rfl⟩
            | true =>
              rw [hx2, Bool.true_and] at h4
              rw [show (decide (x ≥ 0) && decide (x ≤ 1)) = true by have := hx2; unfold bitB at this; rw [← this]; simp [Bool.decide_and]] at hc
              refine pcs (hc) ?_
              refine rn T 99 [] ?_
              refine cfs ?_
              refine rn T 99 [] ?_
              rw [wkS (by omega)]
              refine nxt (m3 - 1) (j + 1) (⟨by omega, h4⟩)
          · refine cfq rfl (by simp [hj]) ?_
            have hp : pathB p = true := by unfold pathB; rw [← h4, List.drop_eq_nil_of_le (by omega), decide_eq_true hp4]; rfl
            by_cases k1 : k = 1
            · subst k1
              refine rn T 99 [] ?_
              repeat' (first | (with_reducible refine n16 ?_) | (with_reducible refine EOps.ci ?_; first | refine EOps.one T [] rfl (by first | exact True.intro | exact ⟨True.intro, True.intro⟩) ?_ | (refine EOps.sp rfl ?_ ?_ <;> intro hc_ <;> rw [hc_] <;> first | replace hc_ := of_decide_eq_true hc_ | replace hc_ := of_decide_eq_false hc_ | replace hc_ := of_decide_eq_false (Eq.mp (Bool.not_eq_true' _) hc_) | replace hc_ := of_decide_eq_true (Eq.mp (Bool.not_eq_false' _) hc_) | skip)))
              all_goals (refine op ?_)
              all_goals (refine csp rfl ?_ ?_ <;> intro hc2_ <;> first | (cases hc2_; done) | skip)
              all_goals (refine op ?_)
              all_goals (try ((refine rn T 99 [] ?_); (rw [show tkH (hasS ns) ⟨1, m, s, p, l⟩ = false from by rw [tkH_1]; refine Bool.eq_false_iff.2 (fun hq => ?_); simp only [Bool.and_eq_true, decide_eq_true_eq] at hq; first | (simp_all; done) | (simp_all; omega)]); (exact ⟨[_], ⟨_, _, rfl, .inl rfl, rfl⟩, .p, rfl⟩); done))
              refine rn T 99 [] ?_
              refine rn T 99 [] ?_
              refine cts ?_
              have hc := l6In G m 0 9999
              refine rn T 99 [] ?_
              cases hb : (decide (m ≥ 0) && decide (m ≤ 9999)) with
              | true =>
                rw [hb] at hc
                refine pcs (hc) ?_
                refine rn T 99 [] ?_
                rw [show tkH (hasS ns) ⟨1, m, s, p, l⟩ = (((l.map eM).length : Int) == 0) by have e : decide (l.length = 0) = (((l.map eM).length : Int) == 0) := (by rw [Bool.eq_iff_iff]; simp <;> omega); rw [← e, tkH_1]; simp_all]
                exact ⟨[_], ⟨_, _, rfl, .inl rfl, rfl⟩, .p, rfl⟩
              | false =>
                rw [hb] at hc
                refine pcs (hc) ?_
                refine rn T 99 [] ?_
                rw [show tkH (hasS ns) ⟨1, m, s, p, l⟩ = false from by rw [tkH_1]; refine Bool.eq_false_iff.2 (fun hq => ?_); simp only [Bool.and_eq_true, decide_eq_true_eq] at hq; first | (simp_all; done) | (simp_all; omega)]
                exact ⟨[_], ⟨_, _, rfl, .inl rfl, rfl⟩, .p, rfl⟩
            by_cases k2 : k = 2
            · subst k2
              refine rn T 99 [] ?_
              repeat' (first | (with_reducible refine n16 ?_) | (with_reducible refine EOps.ci ?_; first | refine EOps.one T [] rfl (by first | exact True.intro | exact ⟨True.intro, True.intro⟩) ?_ | (refine EOps.sp rfl ?_ ?_ <;> intro hc_ <;> rw [hc_] <;> first | replace hc_ := of_decide_eq_true hc_ | replace hc_ := of_decide_eq_false hc_ | replace hc_ := of_decide_eq_false (Eq.mp (Bool.not_eq_true' _) hc_) | replace hc_ := of_decide_eq_true (Eq.mp (Bool.not_eq_false' _) hc_) | skip)))
              all_goals (refine op ?_)
              all_goals (refine csp rfl ?_ ?_ <;> intro hc2_ <;> first | (cases hc2_; done) | skip)
              all_goals (refine op ?_)
              all_goals (try ((refine rn T 99 [] ?_); (rw [show tkH (hasS ns) ⟨2, m, s, p, l⟩ = false from by rw [tkH_2]; refine Bool.eq_false_iff.2 (fun hq => ?_); simp only [Bool.and_eq_true, decide_eq_true_eq] at hq; first | (simp_all; done) | (simp_all; omega)]); (exact ⟨[_], ⟨_, _, rfl, .inl rfl, rfl⟩, .p, rfl⟩); done))
              refine rn T 99 [] ?_
              refine rn T 99 [] ?_
              refine cfs ?_
              refine rn T 99 [] ?_
              refine cts ?_
              have hc := has1 G ns s hl
              refine rn T 99 [] ?_
              cases hb : hasS ns s with
              | true =>
                rw [hb] at hc
                refine pcs (hc) ?_
                refine rn T 99 [] ?_
                rw [show tkH (hasS ns) ⟨2, m, s, p, l⟩ = (((l.map eM).length : Int) == 0) by have e : decide (l.length = 0) = (((l.map eM).length : Int) == 0) := (by rw [Bool.eq_iff_iff]; simp <;> omega); rw [← e, tkH_2]; simp_all]
                exact ⟨[_], ⟨_, _, rfl, .inl rfl, rfl⟩, .p, rfl⟩
              | false =>
                rw [hb] at hc
                refine pcs (hc) ?_
                refine rn T 99 [] ?_
                rw [show tkH (hasS ns) ⟨2, m, s, p, l⟩ = false from by rw [tkH_2]; refine Bool.eq_false_iff.2 (fun hq => ?_); simp only [Bool.and_eq_true, decide_eq_true_eq] at hq; first | (simp_all; done) | (simp_all; omega)]
                exact ⟨[_], ⟨_, _, rfl, .inl rfl, rfl⟩, .p, rfl⟩
            by_cases k7 : k = 7
            · subst k7
              refine rn T 99 [] ?_
              repeat' (first | (with_reducible refine n16 ?_) | (with_reducible refine EOps.ci ?_; first | refine EOps.one T [] rfl (by first | exact True.intro | exact ⟨True.intro, True.intro⟩) ?_ | (refine EOps.sp rfl ?_ ?_ <;> intro hc_ <;> rw [hc_] <;> first | replace hc_ := of_decide_eq_true hc_ | replace hc_ := of_decide_eq_false hc_ | replace hc_ := of_decide_eq_false (Eq.mp (Bool.not_eq_true' _) hc_) | replace hc_ := of_decide_eq_true (Eq.mp (Bool.not_eq_false' _) hc_) | skip)))
              all_goals (refine op ?_)
              all_goals (refine csp rfl ?_ ?_ <;> intro hc2_ <;> first | (cases hc2_; done) | skip)
              all_goals (refine op ?_)
              all_goals (try ((refine rn T 99 [] ?_); (rw [show tkH (hasS ns) ⟨7, m, s, p, l⟩ = false from by rw [tkH_7]; refine Bool.eq_false_iff.2 (fun hq => ?_); simp only [Bool.and_eq_true, decide_eq_true_eq] at hq; first | (simp_all; done) | (simp_all; omega)]); (exact ⟨[_], ⟨_, _, rfl, .inl rfl, rfl⟩, .p, rfl⟩); done))
              refine rn T 99 [] ?_
              refine rn T 99 [] ?_
              refine cfs ?_
              refine rn T 99 [] ?_
              refine cfs ?_
              refine rn T 99 [] ?_
              refine cts ?_
              refine rn T 99 [] ?_
              rw [show tkH (hasS ns) ⟨7, m, s, p, l⟩ = (((l.map eM).length : Int) == 1) by have e : decide (l.length = 1) = (((l.map eM).length : Int) == 1) := (by rw [Bool.eq_iff_iff]; simp <;> omega); rw [← e, tkH_7]; simp_all]
              exact ⟨[_], ⟨_, _, rfl, .inl rfl, rfl⟩, .p, rfl⟩
            by_cases k8 : k = 8
            · subst k8
              refine rn T 99 [] ?_
              repeat' (first | (with_reducible refine n16 ?_) | (with_reducible refine EOps.ci ?_; first | refine EOps.one T [] rfl (by first | exact True.intro | exact ⟨True.intro, True.intro⟩) ?_ | (refine EOps.sp rfl ?_ ?_ <;> intro hc_ <;> rw [hc_] <;> first | replace hc_ := of_decide_eq_true hc_ | replace hc_ := of_decide_eq_false hc_ | replace hc_ := of_decide_eq_false (Eq.mp (Bool.not_eq_true' _) hc_) | replace hc_ := of_decide_eq_true (Eq.mp (Bool.not_eq_false' _) hc_) | skip)))
              all_goals (refine op ?_)
              all_goals (refine csp rfl ?_ ?_ <;> intro hc2_ <;> first | (cases hc2_; done) | skip)
              all_goals (refine op ?_)
              all_goals (try ((refine rn T 99 [] ?_); (rw [show tkH (hasS ns) ⟨8, m, s, p, l⟩ = false from by rw [tkH_8]; refine Bool.eq_false_iff.2 (fun hq => ?_); simp only [Bool.and_eq_true, decide_eq_true_eq] at hq; first | (simp_all; done) | (simp_all; omega)]); (exact ⟨[_], ⟨_, _, rfl, .inl rfl, rfl⟩, .p, rfl⟩); done))
              refine rn T 99 [] ?_
              refine rn T 99 [] ?_
              refine cfs ?_
              refine rn T 99 [] ?_
              refine cfs ?_
              refine rn T 99 [] ?_
              refine cfs ?_
              have hc := l6In G 8 3 8
              refine rn T 99 [] ?_
              refine pcs (hc) ?_
              refine rn T 99 [] ?_
              rw [show tkH (hasS ns) ⟨8, m, s, p, l⟩ = (((l.map eM).length : Int) == 2) by have e : decide (l.length = 2) = (((l.map eM).length : Int) == 2) := (by rw [Bool.eq_iff_iff]; simp <;> omega); rw [← e, tkH_8]; simp_all]
              exact ⟨[_], ⟨_, _, rfl, .inl rfl, rfl⟩, .p, rfl⟩
            by_cases k3 : k = 3 ∨ k = 4 ∨ k = 5 ∨ k = 6
            · rcases k3 with rfl | rfl | rfl | rfl
              · refine rn T 99 [] ?_
                repeat' (first | (with_reducible refine n16 ?_) | (with_reducible refine EOps.ci ?_; first | refine EOps.one T [] rfl (by first | exact True.intro | exact ⟨True.intro, True.intro⟩) ?_ | (refine EOps.sp rfl ?_ ?_ <;> intro hc_ <;> rw [hc_] <;> first | replace hc_ := of_decide_eq_true hc_ | replace hc_ := of_decide_eq_false hc_ | replace hc_ := of_decide_eq_false (Eq.mp (Bool.not_eq_true' _) hc_) | replace hc_ := of_decide_eq_true (Eq.mp (Bool.not_eq_false' _) hc_) | skip)))
                all_goals (refine op ?_)
                all_goals (refine csp rfl ?_ ?_ <;> intro hc2_ <;> first | (cases hc2_; done) | skip)
                all_goals (refine op ?_)
                all_goals (try ((refine rn T 99 [] ?_); (rw [show tkH (hasS ns) ⟨3, m, s, p, l⟩ = false from by rw [tkH_3 _ _ _ _ _ _ (by simp)]; refine Bool.eq_false_iff.2 (fun hq => ?_); simp only [Bool.and_eq_true, decide_eq_true_eq] at hq; first | (simp_all; done) | (simp_all; omega)]); (exact ⟨[_], ⟨_, _, rfl, .inl rfl, rfl⟩, .p, rfl⟩); done))
                refine rn T 99 [] ?_
                refine rn T 99 [] ?_
                refine cfs ?_
                refine rn T 99 [] ?_
                refine cfs ?_
                refine rn T 99 [] ?_
                refine cfs ?_
                have hc := l6In G 3 3 8
                refine rn T 99 [] ?_
                refine pcs (hc) ?_
                refine rn T 99 [] ?_
                rw [show tkH (hasS ns) ⟨3, m, s, p, l⟩ = (((l.map eM).length : Int) == 2) by have e : decide (l.length = 2) = (((l.map eM).length : Int) == 2) := (by rw [Bool.eq_iff_iff]; simp <;> omega); rw [← e, tkH_3 _ _ _ _ _ _ (by simp)]; simp_all]
                exact ⟨[_], ⟨_, _, rfl, .inl rfl, rfl⟩, .p, rfl⟩
              · refine rn T 99 [] ?_
                repeat' (first | (with_reducible refine n16 ?_) | (with_reducible refine EOps.ci ?_; first | refine EOps.one T [] rfl (by first | exact True.intro | exact ⟨True.intro, True.intro⟩) ?_ | (refine EOps.sp rfl ?_ ?_ <;> intro hc_ <;> rw [hc_] <;> first | replace hc_ := of_decide_eq_true hc_ | replace hc_ := of_decide_eq_false hc_ | replace hc_ := of_decide_eq_false (Eq.mp (Bool.not_eq_true' _) hc_) | replace hc_ := of_decide_eq_true (Eq.mp (Bool.not_eq_false' _) hc_) | skip)))
                all_goals (refine op ?_)
                all_goals (refine csp rfl ?_ ?_ <;> intro hc2_ <;> first | (cases hc2_; done) | skip)
                all_goals (refine op ?_)
                all_goals (try ((refine rn T 99 [] ?_); (rw [show tkH (hasS ns) ⟨4, m, s, p, l⟩ = false from by rw [tkH_3 _ _ _ _ _ _ (by simp)]; refine Bool.eq_false_iff.2 (fun hq => ?_); simp only [Bool.and_eq_true, decide_eq_true_eq] at hq; first | (simp_all; done) | (simp_all; omega)]); (exact ⟨[_], ⟨_, _, rfl, .inl rfl, rfl⟩, .p, rfl⟩); done))
                refine rn T 99 [] ?_
                refine rn T 99 [] ?_
                refine cfs ?_
                refine rn T 99 [] ?_
                refine cfs ?_
                refine rn T 99 [] ?_
                refine cfs ?_
                have hc := l6In G 4 3 8
                refine rn T 99 [] ?_
                refine pcs (hc) ?_
                refine rn T 99 [] ?_
                rw [show tkH (hasS ns) ⟨4, m, s, p, l⟩ = (((l.map eM).length : Int) == 2) by have e : decide (l.length = 2) = (((l.map eM).length : Int) == 2) := (by rw [Bool.eq_iff_iff]; simp <;> omega); rw [← e, tkH_3 _ _ _ _ _ _ (by simp)]; simp_all]
                exact ⟨[_], ⟨_, _, rfl, .inl rfl, rfl⟩, .p, rfl⟩
              · refine rn T 99 [] ?_
                repeat' (first | (with_reducible refine n16 ?_) | (with_reducible refine EOps.ci ?_; first | refine EOps.one T [] rfl (by first | exact True.intro | exact ⟨True.intro, True.intro⟩) ?_ | (refine EOps.sp rfl ?_ ?_ <;> intro hc_ <;> rw [hc_] <;> first | replace hc_ := of_decide_eq_true hc_ | replace hc_ := of_decide_eq_false hc_ | replace hc_ := of_decide_eq_false (Eq.mp (Bool.not_eq_true' _) hc_) | replace hc_ := of_decide_eq_true (Eq.mp (Bool.not_eq_false' _) hc_) | skip)))
                all_goals (refine op ?_)
                all_goals (refine csp rfl ?_ ?_ <;> intro hc2_ <;> first | (cases hc2_; done) | skip)
                all_goals (refine op ?_)
                all_goals (try ((refine rn T 99 [] ?_); (rw [show tkH (hasS ns) ⟨5, m, s, p, l⟩ = false from by rw [tkH_3 _ _ _ _ _ _ (by simp)]; refine Bool.eq_false_iff.2 (fun hq => ?_); simp only [Bool.and_eq_true, decide_eq_true_eq] at hq; first | (simp_all; done) | (simp_all; omega)]); (exact ⟨[_], ⟨_, _, rfl, .inl rfl, rfl⟩, .p, rfl⟩); done))
                refine rn T 99 [] ?_
                refine rn T 99 [] ?_
                refine cfs ?_
                refine rn T 99 [] ?_
                refine cfs ?_
                refine rn T 99 [] ?_
                refine cfs ?_
                have hc := l6In G 5 3 8
                refine rn T 99 [] ?_
                refine pcs (hc) ?_
                refine rn T 99 [] ?_
                rw [show tkH (hasS ns) ⟨5, m, s, p, l⟩ = (((l.map eM).length : Int) == 2) by have e : decide (l.length = 2) = (((l.map eM).length : Int) == 2) := (by rw [Bool.eq_iff_iff]; simp <;> omega); rw [← e, tkH_3 _ _ _ _ _ _ (by simp)]; simp_all]
                exact ⟨[_], ⟨_, _, rfl, .inl rfl, rfl⟩, .p, rfl⟩
              · refine rn T 99 [] ?_
                repeat' (first | (with_reducible refine n16 ?_) | (with_reducible refine EOps.ci ?_; first | refine EOps.one T [] rfl (by first | exact True.intro | exact ⟨True.intro, True.intro⟩) ?_ | (refine EOps.sp rfl ?_ ?_ <;> intro hc_ <;> rw [hc_] <;> first | replace hc_ := of_decide_eq_true hc_ | replace hc_ := of_decide_eq_false hc_ | replace hc_ := of_decide_eq_false (Eq.mp (Bool.not_eq_true' _) hc_) | replace hc_ := of_decide_eq_true (Eq.mp (Bool.not_eq_false' _) hc_) | skip)))
                all_goals (refine op ?_)
                all_goals (refine csp rfl ?_ ?_ <;> intro hc2_ <;> first | (cases hc2_; done) | skip)
                all_goals (refine op ?_)
                all_goals (try ((refine rn T 99 [] ?_); (rw [show tkH (hasS ns) ⟨6, m, s, p, l⟩ = false from by rw [tkH_3 _ _ _ _ _ _ (by simp)]; refine Bool.eq_false_iff.2 (fun hq => ?_); simp only [Bool.and_eq_true, decide_eq_true_eq] at hq; first | (simp_all; done) | (simp_all; omega)]); (exact ⟨[_], ⟨_, _, rfl, .inl rfl, rfl⟩, .p, rfl⟩); done))
                refine rn T 99 [] ?_
                refine rn T 99 [] ?_
                refine cfs ?_
                refine rn T 99 [] ?_
                refine cfs ?_
                refine rn T 99 [] ?_
                refine cfs ?_
                have hc := l6In G 6 3 8
                refine rn T 99 [] ?_
                refine pcs (hc) ?_
                refine rn T 99 [] ?_
                rw [show tkH (hasS ns) ⟨6, m, s, p, l⟩ = (((l.map eM).length : Int) == 2) by have e : decide (l.length = 2) = (((l.map eM).length : Int) == 2) := (by rw [Bool.eq_iff_iff]; simp <;> omega); rw [← e, tkH_3 _ _ _ _ _ _ (by simp)]; simp_all]
                exact ⟨[_], ⟨_, _, rfl, .inl rfl, rfl⟩, .p, rfl⟩
            rw [show tkH (hasS ns) ⟨k, m, s, p, l⟩ = false from tkH_o _ _ _ _ _ _ k1 k2 k3 k7 k8]
            have hc : PF Tryz.prog G 55 [pi k, pi 3, pi 8] (.p (pb false)) := by
              have := l6In G k 3 8
              rwa [show (decide (k ≥ 3) && decide (k ≤ 8)) = false by rw [Bool.eq_false_iff]; intro hq; simp at hq; omega] at this
            repeat' (first | (with_reducible refine n16 ?_) | (with_reducible refine EOps.ci ?_; first | refine EOps.one T [] rfl (by first | exact True.intro | exact ⟨True.intro, True.intro⟩) ?_ | (refine EOps.sp rfl ?_ ?_ <;> intro hc_ <;> rw [hc_] <;> first | replace hc_ := of_decide_eq_true hc_ | replace hc_ := of_decide_eq_false hc_ | replace hc_ := of_decide_eq_false (Eq.mp (Bool.not_eq_true' _) hc_) | replace hc_ := of_decide_eq_true (Eq.mp (Bool.not_eq_false' _) hc_) | skip)))
            all_goals (try (exfalso; simp_all; done))
            all_goals (refine op ?_)
            all_goals (repeat' (first | (with_reducible refine n16 ?_) | (with_reducible refine EOps.ci ?_; first | refine EOps.one T [] rfl (by first | exact True.intro | exact ⟨True.intro, True.intro⟩) ?_ | (refine EOps.sp rfl ?_ ?_ <;> intro hc_ <;> rw [hc_] <;> first | replace hc_ := of_decide_eq_true hc_ | replace hc_ := of_decide_eq_false hc_ | replace hc_ := of_decide_eq_false (Eq.mp (Bool.not_eq_true' _) hc_) | replace hc_ := of_decide_eq_true (Eq.mp (Bool.not_eq_false' _) hc_) | skip))))
            all_goals (try (exfalso; simp_all; done))
            all_goals (refine op ?_)
            all_goals (refine csp rfl ?_ ?_ <;> intro hc2_ <;> first | (cases hc2_; done) | skip)
            all_goals (refine op ?_)
            all_goals (try ((refine rn T 99 [] ?_); (exact ⟨[_], ⟨_, _, rfl, .inl rfl, rfl⟩, .p, rfl⟩); done))
            all_goals (refine rn T 99 [] ?_)
            all_goals (refine rn T 99 [] ?_)
            all_goals (refine cfq rfl (by simp [k1]) ?_)
            all_goals (refine rn T 99 [] ?_)
            all_goals (refine cfq rfl (by simp [k2]) ?_)
            all_goals (refine rn T 99 [] ?_)
            all_goals (refine cfq rfl (by simp [k7]) ?_)
            all_goals (refine rn T 99 [] ?_)
            all_goals (refine pcs (hc) ?_)
            all_goals (refine rn T 99 [] ?_)
            all_goals (exact ⟨[_], ⟨_, _, rfl, .inl rfl, rfl⟩, .p, rfl⟩)
      · refine rn T 5 [] ?_
        rw [show decide (((l.map eM).length : Int) > 2) = false by simp; omega]
        refine rn T 99 [] ?_
        refine ctq rfl (by simp; omega) ?_
        refine rn T 99 [] ?_
        rw [show tk (hasS ns) (n + 1) ⟨k, m, s, p, l⟩ = false by rw [tk_eq]; cases h : tkH (hasS ns) ⟨k, m, s, p, l⟩ with | false => rfl | true => have := (tkH_sz h).2; unfold pathB at this; simp at this; omega]
        exact ⟨[_], ⟨_, _, rfl, .inl rfl, rfl⟩, .p, rfl⟩
    · refine rn T 5 [] ?_
      rw [show decide (((l.map eM).length : Int) > 2) = true by simp; omega]
      refine rn T 99 [] ?_
      refine cts ?_
      refine rn T 99 [] ?_
      rw [show tk (hasS ns) (n + 1) ⟨k, m, s, p, l⟩ = false by rw [tk_eq]; cases h : tkH (hasS ns) ⟨k, m, s, p, l⟩ with | false => rfl | true => exact absurd (tkH_sz h).1 hl2]
      exact ⟨[_], ⟨_, _, rfl, .inl rfl, rfl⟩, .p, rfl⟩
end Go.Proofs.YtglkkbgflnpjeaaGreatDoor.K
end
section
namespace Go.Proofs.YtglkkbgflnpjeaaGreatDoor.K
open Go Go.RowKit Go.Proofs.YtglkkbgflnpjeaaGreatDoor.En Go.Proofs.YtglkkbgflnpjeaaGreatDoor.Ty Go.Proofs.YtglkkbgflnpjeaaGreatDoor.B
set_option maxRecDepth 100000
set_option linter.unusedSimpArgs false
set_option linter.unusedVariables false
set_option pp.deepTerms false
set_option pp.deepTerms.threshold 8
set_option pp.maxSteps 1000
set_option maxHeartbeats 1000000
theorem frzO : ∀ (n : Nat) (t : Mn), frz (ownN n t) = eM t ∧ okF (ownN n t) = true
  | 0, t => by
    have h := frz_pm t
    rw [eM_eq] at h ⊢
    exact h
  | n + 1, ⟨k, m, s, p, []⟩ => by
    have h := frz_pm ⟨k, m, s, p, []⟩
    rw [eM_eq] at h ⊢
    exact h
  | n + 1, ⟨k, m, s, p, x :: l⟩ => by
    have h := frzO n
    rw [eM_eq, ownN_node]
    constructor
    · show PV.ag [pi k, pi m, ps s, .row 1 (p.map pi), .row 5 (frzs ((x :: l).map (ownN n)))] = .ag [pi k, pi m, ps s, .row 1 (p.map pi), .row 5 ((x :: l).map eM)]
      have e : frzs ((x :: l).map (ownN n)) = (x :: l).map eM := by
        rw [frzs_map, List.map_map]
        exact List.map_congr_left (fun y _ => (h y).1)
      rw [e]
    · show (true && (true && (true && (true && (okFs ((x :: l).map (ownN n)) && true))))) = true
      rw [okFs_all]
      simp only [Bool.true_and, Bool.and_true, List.all_eq_true]
      intro y hy
      obtain ⟨z, _, rfl⟩ := List.mem_map.1 hy
      exact (h z).2
theorem frzOs (n : Nat) (l : List Mn) : (l.map (ownN n)).map frz = l.map eM := by
  rw [List.map_map]
  exact List.map_congr_left (fun t _ => (frzO n t).1)
theorem okOs (n : Nat) (l : List Mn) : okFs (l.map (ownN n)) = true := by
  rw [okFs_all, List.all_eq_true]
  intro y hy
  obtain ⟨t, _, rfl⟩ := List.mem_map.1 hy
  exact (frzO n t).2
theorem dM_okD : ∀ {n : Nat} {t : Mn}, okD n t = true → dM n t = true
  | 0, _, h => by cases h
  | n + 1, ⟨k, m, s, p, l⟩, h => by
    obtain ⟨_, e, hf, hk⟩ := okD_inv h
    cases e
    refine dMl ⟨by cases hf <;> simp, ?_⟩
    rw [List.all_eq_true]
    exact fun x hx => dM_okD (hk x hx)
def sOk (t : Mn) : Mn := if pok 8 (smp 8 t) = true then smp 8 t else t
def simT (t : Mn) : Mn := if tk pw 8 t = true then sOk t else zM
theorem simpOk2 (a : Addr) (t : Mn) (ho : okD 8 t = true) (hpl : mpl t ≤ 50000) : PF Tryz.prog (GT a) 15 [pm t] (.p (pm (sOk t))) := by
  have hc := copyM2 (GT a) 8 t ho hpl
  have hw := whole2 a 8 t ho hpl
  have hs := smp_inv ho
  have cp := paths2 (GT a) 8 (smp 8 t) (dM_okD hs.1)
  obtain ⟨r, hr⟩ : ∃ r, r = smp 8 t := ⟨_, rfl⟩
  have e : sOk t = if pok 8 r = true then r else t := by rw [hr]; rfl
  rw [e]
  rw [← hr] at cp hw
  obtain ⟨k1, m1, s1, p1, l1⟩ := r
  obtain ⟨k, m, s, p, l⟩ := t
  show PF _ _ _ [.ag [pi k, pi m, ps s, .row 1 (p.map pi), .row 5 (l.map eM)]] _
  refine ⟨(by first | exact .p | exact .tp (fun x hx => by simp at hx; rcases hx with rfl | rfl <;> exact .p) | exact .tp (fun x hx => by simp at hx; rcases hx with rfl | rfl | rfl <;> exact .p)), bdy Tryz.func15 (fun _ => 0) rfl ?_⟩
  refine rn T 99 [] ?_
  refine rn T 1 [] ?_
  cases l with
  | nil =>
    have hc := hc.1 rfl
    have hw := hw.1 rfl
    refine EOps.cg [] [] [] [.ag [.p (pi k), .p (pi m), .p (ps s), .p (.row 1 (p.map pi)), .p (.row 5 (([] : List Mn).map eM))], .fn 33 []] [.p (pm ⟨k, m, s, p, []⟩), .fn 33 []] hc rfl rfl rfl ⟨.inl (.inl ⟨_, rfl, by (repeat' apply And.intro) <;> first | trivial | rfl⟩), .inl (.inr rfl), trivial⟩ rfl rfl (by simp) (by decide) rfl (by rintro _ _ ⟨rfl, rfl⟩; exact ⟨by simp, rfl⟩) ?_
    rintro _ _ ⟨rfl, rfl⟩
    refine pcs (hw) ?_
    refine rn T 99 [] ?_
    refine rn T 99 [] ?_
    cases hp : pok 8 ⟨k1, m1, s1, p1, l1⟩ with
    | true =>
      rw [hp] at cp
      rw [if_pos rfl]
      refine pcs (cp) ?_
      refine rn T 99 [] ?_
      refine cfs ?_
      refine rn T 99 [] ?_
      exact ret1 T rfl (by (repeat' apply And.intro) <;> first | trivial | rfl | assumption | omega | exact mT rfl | exact mT (by assumption) | exact mM rfl | exact mM (by assumption) | exact mI (by assumption) | exact mS (by assumption) | exact mU (by assumption) | (simp; done) | (simp [Mn.f0, Mn.f1, Mn.f2, Mn.f3, Mn.f4, Tn.f0]; done) | (simp [*]; done) | (simp [relT, eT_eq, eM_eq, PV.cells, Tn.f0, Mn.f4, *]; done) | (simp; omega)) rfl
    | false =>
      rw [hp] at cp
      rw [if_neg (by simp)]
      refine pcs (cp) ?_
      refine rn T 99 [] ?_
      refine cts ?_
      refine rn T 1 [] ?_
      refine EOps.cg [] [] [] [.ag [.p (pi k), .p (pi m), .p (ps s), .p (.row 1 (p.map pi)), .p (.row 5 (([] : List Mn).map eM))], .fn 33 []] [.p (pm ⟨k, m, s, p, []⟩), .fn 33 []] hc rfl rfl rfl ⟨.inl (.inl ⟨_, rfl, by (repeat' apply And.intro) <;> first | trivial | rfl⟩), .inl (.inr rfl), trivial⟩ rfl rfl (by simp) (by decide) rfl (by rintro _ _ ⟨rfl, rfl⟩; exact ⟨by simp, rfl⟩) ?_
      rintro _ _ ⟨rfl, rfl⟩
      refine rn T 99 [] ?_
      exact ret1 T rfl (by (repeat' apply And.intro) <;> first | trivial | rfl | assumption | omega | exact mT rfl | exact mT (by assumption) | exact mM rfl | exact mM (by assumption) | exact mI (by assumption) | exact mS (by assumption) | exact mU (by assumption) | (simp; done) | (simp [Mn.f0, Mn.f1, Mn.f2, Mn.f3, Mn.f4, Tn.f0]; done) | (simp [*]; done) | (simp [relT, eT_eq, eM_eq, PV.cells, Tn.f0, Mn.f4, *]; done) | (simp; omega)) rfl
  | cons x l =>
    have hc := hc.2 7 rfl (by intro h; cases h)
    have hw := hw.2 7 rfl (by intro h; cases h)
    have hc : FC Tryz.prog (GT a) 32 [.p (pm ⟨k, m, s, p, x :: l⟩), .fn 33 []] [] (fun r H' => r = .ag [.p (pi k), .p (pi m), .p (ps s), .p (.row 1 (p.map pi)), .vw (.S 0) ((x :: l).map eM).length] ∧ H' = [.ow 5 26 [] (ocs ((x :: l).map (ownN 7)))]) := hc.mono (fun r H' h => ⟨by rw [h.1, List.length_map, List.length_map]; rfl, h.2⟩)
    have hw : FC Tryz.prog (GT a) 31 [.ag [.p (pi k), .p (pi m), .p (ps s), .p (.row 1 (p.map pi)), .vw (.S 0) ((x :: l).map eM).length]] [.ow 5 26 [] (ocs ((x :: l).map (ownN 7)))] (fun r H' => r = .p (pm ⟨k1, m1, s1, p1, l1⟩) ∧ H' = [.gone]) := by rw [List.length_map]; exact hw
    refine EOps.cg [] [101] [] [.ag [.p (pi k), .p (pi m), .p (ps s), .p (.row 1 (p.map pi)), .p (.row 5 ((x :: l).map eM))], .fn 33 []] [.p (pm ⟨k, m, s, p, x :: l⟩), .fn 33 []] hc rfl rfl rfl ⟨.inl (.inl ⟨_, rfl, by (repeat' apply And.intro) <;> first | trivial | rfl⟩), .inl (.inr rfl), trivial⟩ rfl rfl (by simp) (by decide) rfl (by rintro _ _ ⟨rfl, rfl⟩; exact ⟨by simp [cloO], rfl⟩) ?_
    rintro _ _ ⟨rfl, rfl⟩
    refine EOps.cg [101] [] [.ow 5 26 [] (ocs ((x :: l).map (ownN 7)))] [.ag [.p (pi k), .p (pi m), .p (ps s), .p (.row 1 (p.map pi)), .vw (.L 101) ((x :: l).map eM).length]] [.ag [.p (pi k), .p (pi m), .p (ps s), .p (.row 1 (p.map pi)), .vw (.S 0) ((x :: l).map eM).length]] hw rfl rfl rfl ⟨.inl (.inr rfl), trivial⟩ rfl rfl (by simp [cloO]) (by decide) rfl (by rintro _ _ ⟨rfl, rfl⟩; exact ⟨by simp [cloO], rfl⟩) ?_
    rintro _ _ ⟨rfl, rfl⟩
    refine rn T 99 [] ?_
    refine rn T 99 [] ?_
    cases hp : pok 8 ⟨k1, m1, s1, p1, l1⟩ with
    | true =>
      rw [hp] at cp
      rw [if_pos rfl]
      refine pcs (cp) ?_
      refine rn T 99 [] ?_
      refine cfs ?_
      refine rn T 99 [] ?_
      exact ret1 T rfl (by (repeat' apply And.intro) <;> first | trivial | rfl | assumption | omega | exact mT rfl | exact mT (by assumption) | exact mM rfl | exact mM (by assumption) | exact mI (by assumption) | exact mS (by assumption) | exact mU (by assumption) | (simp; done) | (simp [Mn.f0, Mn.f1, Mn.f2, Mn.f3, Mn.f4, Tn.f0]; done) | (simp [*]; done) | (simp [relT, eT_eq, eM_eq, PV.cells, Tn.f0, Mn.f4, *]; done) | (simp; omega)) rfl
    | false =>
      rw [hp] at cp
      rw [if_neg (by simp)]
      refine pcs (cp) ?_
      refine rn T 99 [] ?_
      refine cts ?_
      refine rn T 1 [] ?_
      refine EOps.cg [] [102] [] [.ag [.p (pi k), .p (pi m), .p (ps s), .p (.row 1 (p.map pi)), .p (.row 5 ((x :: l).map eM))], .fn 33 []] [.p (pm ⟨k, m, s, p, x :: l⟩), .fn 33 []] hc rfl rfl rfl ⟨.inl (.inl ⟨_, rfl, by (repeat' apply And.intro) <;> first | trivial | rfl⟩), .inl (.inr rfl), trivial⟩ rfl rfl (by simp) (by decide) rfl (by rintro _ _ ⟨rfl, rfl⟩; exact ⟨by simp [cloO], rfl⟩) ?_
      rintro _ _ ⟨rfl, rfl⟩
      refine EOps.fz 102 ((x :: l).map (ownN 7)) ((x :: l).map eM) rfl rfl rfl (okOs 7 _) (frzOs 7 _) (zM5 _) ?_
      refine rn T 99 [] ?_
      exact ret1 T rfl (by (repeat' apply And.intro) <;> first | trivial | rfl | assumption | omega | exact mT rfl | exact mT (by assumption) | exact mM rfl | exact mM (by assumption) | exact mI (by assumption) | exact mS (by assumption) | exact mU (by assumption) | (simp; done) | (simp [Mn.f0, Mn.f1, Mn.f2, Mn.f3, Mn.f4, Tn.f0]; done) | (simp [*]; done) | (simp [relT, eT_eq, eM_eq, PV.cells, Tn.f0, Mn.f4, *]; done) | (simp; omega)) rfl
theorem mpls_all {l : List Mn} {c : Nat} (h : ∀ x ∈ l, mpl x ≤ c) : mpls l ≤ c * l.length := by
  induction l with
  | nil => rw [mpls_nil]; omega
  | cons x l ih =>
    rw [mpls_cons, List.length_cons, Nat.mul_succ]
    have h1 := h x (by simp)
    have h2 := ih (fun y hy => h y (by simp [hy]))
    omega
theorem mpl_tk {nm : ByteArray → Bool} : ∀ {n : Nat} {t : Mn}, tk nm n t = true → mpl t + 4 ≤ 4 * 2 ^ n
  | 0, _, h => by cases h
  | n + 1, ⟨k, m, s, p, l⟩, h => by
    rw [tk_eq, Bool.and_eq_true, List.all_eq_true] at h
    obtain ⟨h1, h2⟩ := tkH_sz h.1
    have hp : p.length ≤ 4 := by unfold pathB at h2; simp only [Bool.and_eq_true, decide_eq_true_eq] at h2; exact h2.1
    have h3 := mpls_all (l := l) (c := 4 * 2 ^ n - 4) (fun x hx => by have := mpl_tk (h.2 x hx); omega)
    have h4 : (4 * 2 ^ n - 4) * l.length ≤ (4 * 2 ^ n - 4) * 2 := Nat.mul_le_mul_left _ h1
    have h5 : 1 ≤ 2 ^ n := Nat.one_le_two_pow
    rw [mpl_mk, Nat.pow_succ]
    omega
theorem simp2 (a : Addr) (t : Mn) : PF Tryz.prog (GT a) 6 [pm t] (.p (pm (simT t))) := by
  have hb : ∀ s, FE Tryz.prog (GT a) 14 (.p (ps s) :: []) [] (RB true []) := fun s => by
    refine ⟨?_, RB_ne _ hsh_nil⟩
    refine bdy Tryz.func14 (fun _ => 0) rfl ?_
    refine rn T 99 [] ?_
    refine rn T 99 [] ?_
    exact ⟨[_], ⟨_, _, rfl, .inl rfl, rfl⟩, .p, ⟨rfl, rfl⟩⟩
  have ho := termOk0 (GT a) hsh_nil 14 (fun _ => true) hb 8 (by omega) t
  have e : (fun s => pw s && (fun _ => true) s) = pw := by funext s; simp
  rw [e] at ho
  obtain ⟨v, hv⟩ : ∃ v, v = simT t := ⟨_, rfl⟩
  rw [← hv]
  unfold simT at hv
  have hok : tk pw 8 t = true → PF Tryz.prog (GT a) 15 [pm t] (.p (pm (sOk t))) := fun h => simpOk2 a t (okD_tk (fun _ h => h) h) (by have := mpl_tk h; omega)
  obtain ⟨k, m, s, p, l⟩ := t
  show PF _ _ _ [.ag [pi k, pi m, ps s, .row 1 (p.map pi), .row 5 (l.map eM)]] _
  refine ⟨(by first | exact .p | exact .tp (fun x hx => by simp at hx; rcases hx with rfl | rfl <;> exact .p) | exact .tp (fun x hx => by simp at hx; rcases hx with rfl | rfl | rfl <;> exact .p)), bdy Tryz.func6 (fun _ => 0) rfl ?_⟩
  refine rn T 99 [] ?_
  refine rn T 99 [] ?_
  refine hes (ho) ?_; rintro _ _ ⟨rfl, rfl⟩ _ _; refine op ?_
  cases h : tk pw 8 ⟨k, m, s, p, l⟩ with
  | true =>
    rw [h, if_pos rfl] at hv
    subst hv
    refine rn T 99 [] ?_
    refine cfs ?_
    refine rn T 99 [] ?_
    refine pcs (hok h) ?_
    refine rn T 99 [] ?_
    exact ret1 T rfl (by (repeat' apply And.intro) <;> first | trivial | rfl | assumption | omega | exact mT rfl | exact mT (by assumption) | exact mM rfl | exact mM (by assumption) | exact mI (by assumption) | exact mS (by assumption) | exact mU (by assumption) | (simp; done) | (simp [Mn.f0, Mn.f1, Mn.f2, Mn.f3, Mn.f4, Tn.f0]; done) | (simp [*]; done) | (simp [relT, eT_eq, eM_eq, PV.cells, Tn.f0, Mn.f4, *]; done) | (simp; omega)) rfl
  | false =>
    rw [h, if_neg (by simp)] at hv
    subst hv
    refine rn T 99 [] ?_
    refine cts ?_
    refine rn T 99 [] ?_
    exact ret1 T rfl (by (repeat' apply And.intro) <;> first | trivial | rfl | assumption | omega | exact mT rfl | exact mT (by assumption) | exact mM rfl | exact mM (by assumption) | exact mI (by assumption) | exact mS (by assumption) | exact mU (by assumption) | (simp; done) | (simp [Mn.f0, Mn.f1, Mn.f2, Mn.f3, Mn.f4, Tn.f0]; done) | (simp [*]; done) | (simp [relT, eT_eq, eM_eq, PV.cells, Tn.f0, Mn.f4, *]; done) | (simp; omega)) rfl
end Go.Proofs.YtglkkbgflnpjeaaGreatDoor.K
end
section
namespace Go.Proofs.YtglkkbgflnpjeaaGreatDoor.K
open Go Go.RowKit Go.Proofs.YtglkkbgflnpjeaaGreatDoor.En Go.Proofs.YtglkkbgflnpjeaaGreatDoor.Ty Go.Proofs.YtglkkbgflnpjeaaGreatDoor.B
set_option maxRecDepth 100000
set_option linter.unusedSimpArgs false
set_option linter.unusedVariables false
set_option pp.deepTerms false
set_option pp.deepTerms.threshold 8
set_option pp.maxSteps 1000
set_option maxHeartbeats 1000000
theorem dM_kids {n : Nat} {k m : Int} {s : ByteArray} {p : List Int} {l : List Mn} (h : dM (n + 1) ⟨k, m, s, p, l⟩ = true) : l.length ≤ 2 ∧ ∀ x ∈ l, dM n x = true := by
  unfold dM at h
  simp only [Bool.and_eq_true, decide_eq_true_eq, List.all_eq_true] at h
  exact h
theorem all_drop {f : Mn → Bool} {l : List Mn} {i : Nat} {x : Mn} (h : l[i]? = some x) (h2 : (l.take i).all f = true) : (l.take (i + 1)).all f = f x := by
  rw [List.take_add_one, h]
  simp [h2]
theorem long1 (G : Nat → Option PV) : ∀ (n : Nat) (t : Mn), dM n t = true → PF Tryz.prog G 18 [pm t] (.p (pb (!pok n t))) := by
  intro n
  induction n with
  | zero => intro t h; cases h
  | succ n ih =>
    intro ⟨k, m, s, p, l⟩ h
    obtain ⟨hl, hk⟩ := dM_kids h
    show PF _ _ _ [.ag [pi k, pi m, ps s, .row 1 (p.map pi), .row 5 (l.map eM)]] (.p (pb (!(decide (p.length ≤ 4) && l.all (pok n)))))
    refine ⟨(by first | exact .p | exact .tp (fun x hx => by simp at hx; rcases hx with rfl | rfl <;> exact .p) | exact .tp (fun x hx => by simp at hx; rcases hx with rfl | rfl | rfl <;> exact .p)), bdy Tryz.func18 (fun _ => 0) rfl ?_⟩
    refine rn T 99 [] ?_
    refine rn T 99 [] ?_
    by_cases hp : p.length ≤ 4
    · rw [decide_eq_true hp, Bool.true_and]
      refine cfq rfl (by simp; omega) ?_
      refine rn T 99 [] ?_
      refine lpw (fun i : Nat => MS.mk [(3, .p (pi i)), (1, .ptr (.L 1) 0)] 21 [(1, .box 26 [.p (pi k), .p (pi m), .p (ps s), .p (.row 1 (p.map pi)), .p (.row 5 (l.map eM))])] []) (fun m i => m + i = l.length ∧ (l.take i).all (pok n) = true) (l.length) (0) (by simp) ?_
      intro m2 i ⟨h3, h4⟩
      refine op ?_
      refine rn T 99 [] ?_
      by_cases hi : i < l.length
      · obtain ⟨x, hx, hdd⟩ := drop_ix hi
        refine ctq rfl (by simp [hi]) ?_
        refine rn T 99 [pm x] ?_
        have hc := ih x (hk x (List.mem_of_getElem? hx))
        have hq := all_drop hx h4
        cases hpx : pok n x with
        | true =>
          rw [hpx] at hc hq
          refine pcs (hc) ?_
          refine cfs ?_
          refine rn T 99 [] ?_
          rw [wkS (by omega)]
          refine nxt (m2 - 1) (i + 1) (⟨by omega, hq⟩)
        | false =>
          rw [hpx] at hc
          refine pcs (hc) ?_
          refine cts ?_
          refine rn T 99 [] ?_
          have : l.all (pok n) = false := by
            rw [List.all_eq_false]
            exact ⟨x, List.mem_of_getElem? hx, by simp [hpx]⟩
          rw [this]
          exact ⟨[_], ⟨_, _, rfl, .inl rfl, rfl⟩, .p, rfl⟩
      · refine cfq rfl (by simp [hi]) ?_
        refine rn T 99 [] ?_
        have : l.all (pok n) = true := by rw [← h4, List.take_of_length_le (by omega)]
        rw [this]
        exact ⟨[_], ⟨_, _, rfl, .inl rfl, rfl⟩, .p, rfl⟩
    · rw [decide_eq_false hp, Bool.false_and]
      refine ctq rfl (by simp; omega) ?_
      refine rn T 99 [] ?_
      exact ⟨[_], ⟨_, _, rfl, .inl rfl, rfl⟩, .p, rfl⟩
theorem deepM1 (G : Nat → Option PV) : ∀ (n : Nat) (t : Mn) (d : Nat), dM n t = true → n ≤ d → d ≤ 1000 → PF Tryz.prog G 35 [pm t, pi d] (.p (pb true)) := by
  intro n
  induction n with
  | zero => intro t d h; cases h
  | succ n ih =>
    intro ⟨k, m, s, p, l⟩ d h hd hd2
    obtain ⟨hl, hk⟩ := dM_kids h
    show PF _ _ _ [.ag [pi k, pi m, ps s, .row 1 (p.map pi), .row 5 (l.map eM)], _] _
    refine ⟨(by first | exact .p | exact .tp (fun x hx => by simp at hx; rcases hx with rfl | rfl <;> exact .p) | exact .tp (fun x hx => by simp at hx; rcases hx with rfl | rfl | rfl <;> exact .p)), bdy Tryz.func35 (fun _ => 0) rfl ?_⟩
    refine rn T 99 [] ?_
    refine rn T 99 [] ?_
    refine cfq rfl (by simp; omega) ?_
    refine rn T 99 [] ?_
    refine lpw (fun i : Nat => MS.mk [(5, .p (pi i)), (1, .p (pi d)), (2, .ptr (.L 2) 0)] 30 [(2, .box 26 [.p (pi k), .p (pi m), .p (ps s), .p (.row 1 (p.map pi)), .p (.row 5 (l.map eM))])] []) (fun m i => m + i = l.length) (l.length) (0) (by simp) ?_
    intro m2 i h3
    refine op ?_
    refine rn T 99 [] ?_
    by_cases hi : i < l.length
    · obtain ⟨x, hx, hdd⟩ := drop_ix hi
      refine ctq rfl (by simp [hi]) ?_
      refine rn T 4 [] ?_
      rw [show decide (((l.map eM).length : Int) > 2) = false by simp; omega]
      refine rn T 99 [pm x] ?_
      have hc := ih x (d - 1) (hk x (List.mem_of_getElem? hx)) (by omega) (by omega)
      rw [show ((d : Nat) : Int) - 1 = ((d - 1 : Nat) : Int) by omega, wk (by omega) (by omega)]
      refine pcs (hc) ?_
      refine rn T 99 [] ?_
      refine cfs ?_
      refine rn T 99 [] ?_
      rw [wkS (by omega)]
      refine nxt (m2 - 1) (i + 1) (by omega)
    · refine cfq rfl (by simp [hi]) ?_
      refine rn T 99 [] ?_
      exact ⟨[_], ⟨_, _, rfl, .inl rfl, rfl⟩, .p, rfl⟩
theorem mnms_app : ∀ {l r : List Mn}, mnms (l ++ r) = mnms l ++ mnms r
  | [], r => by rw [mnms_nil]; rfl
  | x :: l, r => by rw [List.cons_append, mnms_cons, mnms_cons, mnms_app, List.append_assoc]
theorem mnms_take {l : List Mn} {i : Nat} {x : Mn} (h : l[i]? = some x) : mnms (l.take (i + 1)) = mnms (l.take i) ++ mnm x := by
  rw [List.take_add_one, h, mnms_app]
  show _ ++ mnms [x] = _
  rw [mnms_cons, mnms_nil, List.append_nil]
theorem mnms_len {c : Nat} : ∀ {l : List Mn}, (∀ x ∈ l, (mnm x).length ≤ c) → (mnms l).length ≤ c * l.length
  | [], _ => by rw [mnms_nil]; simp
  | x :: l, h => by
    rw [mnms_cons, List.length_append, List.length_cons, Nat.mul_succ]
    have h1 := h x (by simp)
    have h2 := mnms_len (l := l) (fun y hy => h y (by simp [hy]))
    omega
theorem mnm_len : ∀ {n : Nat} {t : Mn}, dM n t = true → (mnm t).length ≤ 2 ^ n
  | 0, _, h => by cases h
  | n + 1, ⟨k, m, s, p, l⟩, h => by
    obtain ⟨hl, hk⟩ := dM_kids h
    have h5 : 1 ≤ 2 ^ n := Nat.one_le_two_pow
    rw [mnm_mk]
    by_cases h2 : k = 2
    · rw [if_pos h2]
      exact Nat.one_le_two_pow
    · rw [if_neg h2]
      have h3 := mnms_len (fun x hx => mnm_len (hk x hx))
      have h4 : 2 ^ n * l.length ≤ 2 ^ n * 2 := Nat.mul_le_mul_left _ hl
      rw [Nat.pow_succ]
      omega
theorem names1 (G : Nat → Option PV) : ∀ (n : Nat) (t : Mn), n ≤ 10 → dM n t = true → PF Tryz.prog G 36 [pm t] (.p (.row 1 ((mnm t).map ps))) := by
  intro n
  induction n with
  | zero => intro t _ h; cases h
  | succ n ih =>
    intro ⟨k, m, s, p, l⟩ hn h
    obtain ⟨hl, hk⟩ := dM_kids h
    rw [mnm_mk]
    show PF _ _ _ [.ag [pi k, pi m, ps s, .row 1 (p.map pi), .row 5 (l.map eM)]] _
    refine ⟨(by first | exact .p | exact .tp (fun x hx => by simp at hx; rcases hx with rfl | rfl <;> exact .p) | exact .tp (fun x hx => by simp at hx; rcases hx with rfl | rfl | rfl <;> exact .p)), bdy Tryz.func36 (fun _ => 0) rfl ?_⟩
    refine rn T 99 [] ?_
    refine rn T 99 [] ?_
    by_cases h2 : k = 2
    · rw [if_pos h2]
      refine ctq rfl (by simp [h2]) ?_
      refine rn T 99 [] ?_
      exact ret1 T rfl (by (repeat' apply And.intro) <;> first | trivial | rfl | assumption | omega | exact mT rfl | exact mT (by assumption) | exact mM rfl | exact mM (by assumption) | exact mI (by assumption) | exact mS (by assumption) | exact mU (by assumption) | (simp; done) | (simp [Mn.f0, Mn.f1, Mn.f2, Mn.f3, Mn.f4, Tn.f0]; done) | (simp [*]; done) | (simp [relT, eT_eq, eM_eq, PV.cells, Tn.f0, Mn.f4, *]; done) | (simp; omega)) rfl
    · rw [if_neg h2]
      refine cfq rfl (by simp [h2]) ?_
      refine rn T 99 [] ?_
      refine rn T 99 [] ?_
      refine lpw (fun i : Nat => MS.mk [(4, .p (pi i)), (3, .vw (.L 11) (mnms (l.take i)).length), (1, .ptr (.L 1) 0)] 32 [(1, .box 26 [.p (pi k), .p (pi m), .p (ps s), .p (.row 1 (p.map pi)), .p (.row 5 (l.map eM))]), (11, .rw 1 9 ((mnms (l.take i)).map ps))] []) (fun m i => m + i = l.length) (l.length) (0) (by simp) ?_
      intro m2 i h3
      have hml : (mnms (l.take i)).length ≤ 4096 := by
        have q1 := mnms_len (l := l.take i) (fun x hx => mnm_len (hk x (List.mem_of_mem_take hx)))
        have q2 : (l.take i).length ≤ 2 := by rw [List.length_take]; omega
        have q3 : 2 ^ n * (l.take i).length ≤ 2 ^ n * 2 := Nat.mul_le_mul_left _ q2
        have q4 : 2 ^ n ≤ 2 ^ 10 := Nat.pow_le_pow_right (by omega) (by omega)
        have q5 : (2 : Nat) ^ 10 = 1024 := by decide
        omega
      refine op ?_
      refine rn T 5 [] ?_
      by_cases hi : i < l.length
      · obtain ⟨x, hx, hdd⟩ := drop_ix hi
        rw [show decide ((i : Int) < ((l.map eM).length : Int)) = true by simp [hi]]
        refine rn T 99 [] ?_
        refine ctq rfl (by simp; omega) ?_
        refine rn T 99 [pm x] ?_
        have hc := ih x (by omega) (hk x (List.mem_of_getElem? hx))
        have hxl := mnm_len (hk x (List.mem_of_getElem? hx))
        have q4 : 2 ^ n ≤ 2 ^ 10 := Nat.pow_le_pow_right (by omega) (by omega)
        have q5 : (2 : Nat) ^ 10 = 1024 := by decide
        refine pcs (hc) ?_
        refine rn T 99 [] ?_
        rw [show ((mnms (l.take i)).map ps).length + ((mnm x).map ps).length = (mnms (l.take (i + 1))).length by rw [mnms_take hx]; simp, ← List.map_append, ← mnms_take hx]
        refine rn T 99 [] ?_
        rw [wkS (by omega)]
        refine nxt (m2 - 1) (i + 1) (by omega)
      · rw [show decide ((i : Int) < ((l.map eM).length : Int)) = false by simp [hi]]
        refine rn T 99 [] ?_
        refine cfs ?_
        refine rn T 99 [] ?_
        rw [List.take_of_length_le (by omega)]
        exact ret1 T rfl (by (repeat' apply And.intro) <;> first | trivial | rfl | assumption | omega | exact mT rfl | exact mT (by assumption) | exact mM rfl | exact mM (by assumption) | exact mI (by assumption) | exact mS (by assumption) | exact mU (by assumption) | (simp; done) | (simp [Mn.f0, Mn.f1, Mn.f2, Mn.f3, Mn.f4, Tn.f0]; done) | (simp [*]; done) | (simp [relT, eT_eq, eM_eq, PV.cells, Tn.f0, Mn.f4, *]; done) | (simp; omega)) rfl
theorem mnm_all : ∀ {n : Nat} {t : Mn} {f : ByteArray → Bool}, tk f n t = true → (mnm t).all f = true
  | 0, _, _, h => by cases h
  | n + 1, ⟨k, m, s, p, l⟩, f, h => by
    rw [tk_eq, Bool.and_eq_true, List.all_eq_true] at h
    rw [mnm_mk]
    by_cases h2 : k = 2
    · subst h2
      have h := h.1
      rw [tkH_2] at h
      simp only [Bool.and_eq_true] at h
      rw [if_pos rfl]
      simp [h.1.1.1]
    · rw [if_neg h2]
      have key : ∀ r : List Mn, (∀ x ∈ r, x ∈ l) → (mnms r).all f = true := by
        intro r
        induction r with
        | nil => intro _; rw [mnms_nil]; rfl
        | cons x r ih =>
          intro hr
          rw [mnms_cons, List.all_append, mnm_all (h.2 x (hr x (by simp))), ih (fun y hy => hr y (by simp [hy]))]
          rfl
      exact key l (fun x hx => hx)
theorem tk_mono {f g : ByteArray → Bool} : ∀ {n : Nat} {t : Mn}, (∀ s ∈ mnm t, f s = true → g s = true) → tk f n t = true → tk g n t = true
  | 0, _, _, h => by cases h
  | n + 1, ⟨k, m, s, p, l⟩, hfg, h => by
    rw [tk_eq, Bool.and_eq_true, List.all_eq_true] at h ⊢
    by_cases h2 : k = 2
    · subst h2
      have h0 := h.1
      rw [tkH_2] at h0 ⊢
      simp only [Bool.and_eq_true, decide_eq_true_eq] at h0 ⊢
      refine ⟨⟨⟨⟨hfg s (by rw [mnm_mk, if_pos rfl]; simp) h0.1.1.1, h0.1.1.2⟩, h0.1.2⟩, h0.2⟩, fun x hx => ?_⟩
      obtain rfl := List.eq_nil_of_length_eq_zero h0.2
      cases hx
    · refine ⟨?_, fun x hx => tk_mono (fun s hs => hfg s (by rw [mnm_mk, if_neg h2]; exact mnms_mem hx s hs)) (h.2 x hx)⟩
      have h0 := h.1
      have e : tkH g ⟨k, m, s, p, l⟩ = tkH f ⟨k, m, s, p, l⟩ := by
        unfold tkH
        rw [if_neg (c := (⟨k, m, s, p, l⟩ : Mn).f0 = 2) h2, if_neg (c := (⟨k, m, s, p, l⟩ : Mn).f0 = 2) h2]
      rw [e]; exact h0
theorem hasS_mem {l : List ByteArray} {v : ByteArray} : hasS l v = true ↔ v ∈ l := by
  unfold hasS
  rw [List.any_eq_true]
  exact ⟨fun ⟨x, h1, h2⟩ => by rw [bq_eq.1 h2]; exact h1, fun h => ⟨v, h, bq_eq.2 rfl⟩⟩
theorem okOwn (n : Nat) (t : Mn) : ((mnm t).all pw && tk (hasS (mnm t)) n t) = tk pw n t := by
  rw [Bool.eq_iff_iff, Bool.and_eq_true]
  constructor
  · rintro ⟨h1, h2⟩
    rw [List.all_eq_true] at h1
    exact tk_mono (fun s hs _ => h1 s hs) h2
  · intro h
    exact ⟨mnm_all h, tk_mono (fun s hs _ => hasS_mem.2 hs) h⟩
theorem okM1 (G : Nat → Option PV) (t : Mn) (ht : dM 8 t = true) : PF Tryz.prog G 16 [pm t] (.p (pb (tk pw 8 t))) := by
  have c1 := deepM1 G 8 t 8 ht (by omega) (by omega)
  have c2 := names1 G 8 t (by omega) ht
  have hl := mnm_len ht
  have h8 : (2 : Nat) ^ 8 = 256 := by decide
  have c3 := term12 G (mnm t) (by omega) 8 (by omega) t
  rw [← okOwn]
  obtain ⟨ns, hns⟩ : ∃ ns, ns = mnm t := ⟨_, rfl⟩
  rw [← hns] at c2 c3 hl ⊢
  clear hns
  obtain ⟨b, hb⟩ : ∃ b, b = tk (hasS ns) 8 t := ⟨_, rfl⟩
  rw [← hb] at c3 ⊢
  clear hb
  obtain ⟨k, m, s, p, l⟩ := t
  show PF _ _ _ [.ag [pi k, pi m, ps s, .row 1 (p.map pi), .row 5 (l.map eM)]] _
  refine ⟨(by first | exact .p | exact .tp (fun x hx => by simp at hx; rcases hx with rfl | rfl <;> exact .p) | exact .tp (fun x hx => by simp at hx; rcases hx with rfl | rfl | rfl <;> exact .p)), bdy Tryz.func16 (fun _ => 0) rfl ?_⟩
  refine rn T 99 [] ?_
  refine rn T 99 [] ?_
  refine pcs (c1) ?_
  refine rn T 99 [] ?_
  refine cfs ?_
  refine rn T 99 [] ?_
  refine pcs (c2) ?_
  refine rn T 99 [] ?_
  refine rn T 99 [] ?_
  refine lpw (fun i : Nat => MS.mk [(4, .p (pi i)), (3, .p (.row 1 (ns.map ps))), (1, .ptr (.L 1) 0)] 25 [(1, .box 26 [.p (pi k), .p (pi m), .p (ps s), .p (.row 1 (p.map pi)), .p (.row 5 (l.map eM))])] []) (fun m i => m + i = ns.length ∧ ns.all pw = (ns.drop i).all pw) (ns.length) (0) (by simp) ?_
  intro m2 i ⟨h1, h2⟩
  refine op ?_
  refine rn T 99 [] ?_
  by_cases hi : i < ns.length
  · obtain ⟨x, hx, hd⟩ := drop_ix hi
    rw [hd, List.all_cons] at h2
    refine ctq rfl (by simp [hi]) ?_
    refine rn T 99 [ps x] ?_
    have c4 := word1 G x
    cases hw : pw x with
    | true =>
      rw [hw] at c4 h2
      refine pcs (c4) ?_
      refine rn T 99 [] ?_
      refine cfs ?_
      refine rn T 99 [] ?_
      rw [wkS (by omega)]
      refine nxt (m2 - 1) (i + 1) (⟨by omega, by rw [h2, Bool.true_and]⟩)
    | false =>
      rw [hw] at c4 h2
      refine pcs (c4) ?_
      refine rn T 99 [] ?_
      refine cts ?_
      refine rn T 99 [] ?_
      rw [h2]
      exact ⟨[_], ⟨_, _, rfl, .inl rfl, rfl⟩, .p, rfl⟩
  · refine cfq rfl (by simp [hi]) ?_
    refine rn T 99 [] ?_
    refine pcs (c3) ?_
    refine rn T 99 [] ?_
    rw [h2, List.drop_eq_nil_of_le (by omega)]
    exact ⟨[_], ⟨_, _, rfl, .inl rfl, rfl⟩, .p, rfl⟩
end Go.Proofs.YtglkkbgflnpjeaaGreatDoor.K
end
section
namespace Go.Proofs.YtglkkbgflnpjeaaGreatDoor.K
open Go Go.RowKit Go.Proofs.YtglkkbgflnpjeaaGreatDoor.En Go.Proofs.YtglkkbgflnpjeaaGreatDoor.Ty Go.Proofs.YtglkkbgflnpjeaaGreatDoor.B
set_option maxRecDepth 100000
set_option linter.unusedSimpArgs false
set_option linter.unusedVariables false
set_option pp.deepTerms false
set_option pp.deepTerms.threshold 8
set_option pp.maxSteps 1000
set_option maxHeartbeats 1000000
theorem whl_at {f : Nat} {p : List Int} {x u : Mn} (h : sAt p x = some u) : whlF (f + 1) (atM p x) = whlF f u := by
  have e : stp (atM p x) = ((sAt p x).getD zM, (sAt p x).isSome) := rfl
  rw [whlF_t (by rw [e, h]; rfl), e, h]
  rfl
theorem whl_at0 {f : Nat} {p : List Int} {x : Mn} (h : sAt p x = none) : whlF f (atM p x) = atM p x := by
  have e : stp (atM p x) = ((sAt p x).getD zM, (sAt p x).isSome) := rfl
  exact whlF_f (by rw [e, h]; rfl)
theorem bitB_of {i : Int} {r : List Int} (h : (i :: r).all bitB = true) : (i = 0 ∨ i = 1) ∧ r.all bitB = true := by
  rw [List.all_cons, Bool.and_eq_true] at h
  refine ⟨?_, h.2⟩
  have := h.1
  unfold bitB at this
  simp only [Bool.or_eq_true, Bool.and_eq_true, decide_eq_true_eq, beq_iff_eq] at this
  omega
theorem bgn_t {p q : List Int} (h1 : q.length ≤ p.length) (h2 : p.take q.length = q) : bgn p q = true := by
  unfold bgn
  rw [decide_eq_true h1, h2]
  simp
theorem bgn_f1 {p q : List Int} (h1 : p.length < q.length) : bgn p q = false := by
  unfold bgn
  rw [decide_eq_false (by omega)]
  rfl
theorem bgn_f2 {p q : List Int} {j : Nat} {x y : Int} (hx : p[j]? = some x) (hy : q[j]? = some y) (h : x ≠ y) : bgn p q = false := by
  rw [Bool.eq_false_iff]
  intro hb
  unfold bgn at hb
  rw [Bool.and_eq_true, beq_iff_eq] at hb
  have hj : j < q.length := (List.getElem?_eq_some_iff.1 hy).1
  have h2 : (p.take q.length)[j]? = some y := by rw [hb.2]; exact hy
  rw [List.getElem?_take, if_pos hj, hx] at h2
  cases h2
  exact h rfl
theorem at1 (G : Nat → Option PV) : ∀ (f n : Nat) (p : List Int) (x : Mn), msz (atM p x) ≤ f → okD n x = true → smD n x = true → p.all bitB = true → p.length + mpl x ≤ 50000 → PF Tryz.prog G 40 [.row 1 (p.map pi), pm x] (.p (pm (whlF f (atM p x)))) := by
  intro f
  induction f with
  | zero => intro n p x h; have := msz_pos (atM p x); omega
  | succ f ih =>
    intro n p x hsz hok hsm hb hpl
    obtain ⟨n', rfl, hf, hk⟩ := okD_inv hok
    obtain ⟨hs1, hs2⟩ := smD_inv hsm
    rw [msz_at] at hsz
    have hkid : ∀ y ∈ x.f4, ∀ p', p'.all bitB = true → p'.length ≤ p.length + x.f3.length → PF Tryz.prog G 40 [.row 1 (p'.map pi), pm y] (.p (pm (whlF f (atM p' y)))) := fun y hy p' h1 h2 => by
      obtain ⟨k1, k2, k3⟩ := kidF hf hy
      exact ih n' p' y (by rw [msz_at]; omega) (hk y hy) (hs2 y hy) h1 (by omega)
    have hpl1 : x.f3.length ≤ mpl x := mpl_path
    cases p with
    | nil =>
      have e : whlF (f + 1) (atM [] x) = x := by
        rw [whl_at (u := x) rfl]
        exact whlF_f hs1
      rw [e]
      obtain ⟨k, m, s, q, l⟩ := x
      show PF _ _ _ [_, .ag [pi k, pi m, ps s, .row 1 (q.map pi), .row 5 (l.map eM)]] _
      refine ⟨(by first | exact .p | exact .tp (fun x hx => by simp at hx; rcases hx with rfl | rfl <;> exact .p) | exact .tp (fun x hx => by simp at hx; rcases hx with rfl | rfl | rfl <;> exact .p)), bdy Tryz.func40 (fun _ => 0) rfl ?_⟩
      refine rn T 99 [] ?_
      refine rn T 99 [] ?_
      refine cts ?_
      refine rn T 99 [] ?_
      exact ret1 T rfl (by (repeat' apply And.intro) <;> first | trivial | rfl | assumption | omega | exact mT rfl | exact mT (by assumption) | exact mM rfl | exact mM (by assumption) | exact mI (by assumption) | exact mS (by assumption) | exact mU (by assumption) | (simp; done) | (simp [Mn.f0, Mn.f1, Mn.f2, Mn.f3, Mn.f4, Tn.f0]; done) | (simp [*]; done) | (simp [relT, eT_eq, eM_eq, PV.cells, Tn.f0, Mn.f4, *]; done) | (simp; omega)) rfl
    | cons i r =>
      obtain ⟨hi, hr⟩ := bitB_of hb
      have hlen : (i :: r).length = r.length + 1 := rfl
      cases hf with
      | @num m hm =>
        rw [whl_at0 (rfl : sAt (i :: r) ⟨1, m, ⟨#[]⟩, [], []⟩ = none)]
        refine ⟨(by first | exact .p | exact .tp (fun x hx => by simp at hx; rcases hx with rfl | rfl <;> exact .p) | exact .tp (fun x hx => by simp at hx; rcases hx with rfl | rfl | rfl <;> exact .p)), bdy Tryz.func40 (fun _ => 0) rfl ?_⟩
        refine rn T 99 [] ?_
        refine rn T 99 [] ?_
        refine cfq rfl (by simp; omega) ?_
        refine rn T 99 [] ?_
        refine rn T 99 [] ?_
        refine rn T 99 [] ?_
        refine cfs ?_
        refine rn T 99 [] ?_
        refine cfs ?_
        refine rn T 99 [] ?_
        refine cfs ?_
        refine rn T 99 [] ?_
        exact ret1 T rfl (by (repeat' apply And.intro) <;> first | trivial | rfl | assumption | omega | exact mT rfl | exact mT (by assumption) | exact mM rfl | exact mM (by assumption) | exact mI (by assumption) | exact mS (by assumption) | exact mU (by assumption) | (simp; done) | (simp [Mn.f0, Mn.f1, Mn.f2, Mn.f3, Mn.f4, Tn.f0]; done) | (simp [*]; done) | (simp [relT, eT_eq, eM_eq, PV.cells, Tn.f0, Mn.f4, *]; done) | (simp; omega)) rfl
      | @name s hm =>
        rw [whl_at0 (rfl : sAt (i :: r) ⟨2, 0, s, [], []⟩ = none)]
        refine ⟨(by first | exact .p | exact .tp (fun x hx => by simp at hx; rcases hx with rfl | rfl <;> exact .p) | exact .tp (fun x hx => by simp at hx; rcases hx with rfl | rfl | rfl <;> exact .p)), bdy Tryz.func40 (fun _ => 0) rfl ?_⟩
        refine rn T 99 [] ?_
        refine rn T 99 [] ?_
        refine cfq rfl (by simp; omega) ?_
        refine rn T 99 [] ?_
        refine rn T 99 [] ?_
        refine rn T 99 [] ?_
        refine cfs ?_
        refine rn T 99 [] ?_
        refine cfs ?_
        refine rn T 99 [] ?_
        refine cfs ?_
        refine rn T 99 [] ?_
        exact ret1 T rfl (by (repeat' apply And.intro) <;> first | trivial | rfl | assumption | omega | exact mT rfl | exact mT (by assumption) | exact mM rfl | exact mM (by assumption) | exact mI (by assumption) | exact mS (by assumption) | exact mU (by assumption) | (simp; done) | (simp [Mn.f0, Mn.f1, Mn.f2, Mn.f3, Mn.f4, Tn.f0]; done) | (simp [*]; done) | (simp [relT, eT_eq, eM_eq, PV.cells, Tn.f0, Mn.f4, *]; done) | (simp; omega)) rfl
      | @op k a b hk3 =>
        have pa := plain1 G a
        have pb' := plain1 G b
        have k7 : (k == 7) = false := by rcases hk3 with rfl | rfl | rfl | rfl <;> rfl
        have k8 : (k == 8) = false := by rcases hk3 with rfl | rfl | rfl | rfl <;> rfl
        by_cases h6 : k = 6
        · subst h6
          have ca := fun hy : r.all bitB = true => hkid a (by simp [Mn.f4]) r hy (by simp [Mn.f3])
          have cb := fun hy : r.all bitB = true => hkid b (by simp [Mn.f4]) r hy (by simp [Mn.f3])
          have ca := ca hr
          have cb := cb hr
          rcases hi with rfl | rfl
          · cases hp : plB b with
            | true =>
              rw [whl_at (u := atM r a) (by rw [sAt_op hk3, if_pos rfl, if_pos ⟨rfl, hp⟩])]
              rw [show (b.f0 == 1 || b.f0 == 2) = true from hp] at pb'
              obtain ⟨u, hu⟩ : ∃ u, u = whlF f (atM r a) := ⟨_, rfl⟩
              rw [← hu] at ca ⊢
              obtain ⟨k1, m1, s1, p1, l1⟩ := u
              refine ⟨(by first | exact .p | exact .tp (fun x hx => by simp at hx; rcases hx with rfl | rfl <;> exact .p) | exact .tp (fun x hx => by simp at hx; rcases hx with rfl | rfl | rfl <;> exact .p)), bdy Tryz.func40 (fun _ => 0) rfl ?_⟩
              refine rn T 99 [] ?_
              refine rn T 99 [] ?_
              refine cfq rfl (by simp; omega) ?_
              refine rn T 99 [] ?_
              refine rn T 99 [] ?_
              refine rn T 99 [] ?_
              refine cfs ?_
              refine rn T 99 [] ?_
              refine cts ?_; try (first | refine dr1 ?_ | refine dr2 ?_ | refine dr3 ?_ | refine dr4 ?_)
              refine rn T 99 [pi 0, pm b] ?_
              refine pcs (pb') ?_
              refine cts ?_; try (first | refine dr1 ?_ | refine dr2 ?_ | refine dr3 ?_ | refine dr4 ?_)
              refine rn T 99 [pi 0, pm a] ?_
              rw [show List.drop (1 : Int).toNat (List.take (List.map pi (0 :: r)).length (List.map pi (0 :: r))) = r.map pi by simp; exact List.take_of_length_le (by simp)]
              refine pcs (ca) ?_
              refine rn T 99 [] ?_
              exact ret1 T rfl (by (repeat' apply And.intro) <;> first | trivial | rfl | assumption | omega | exact mT rfl | exact mT (by assumption) | exact mM rfl | exact mM (by assumption) | exact mI (by assumption) | exact mS (by assumption) | exact mU (by assumption) | (simp; done) | (simp [Mn.f0, Mn.f1, Mn.f2, Mn.f3, Mn.f4, Tn.f0]; done) | (simp [*]; done) | (simp [relT, eT_eq, eM_eq, PV.cells, Tn.f0, Mn.f4, *]; done) | (simp; omega)) rfl
            | false =>
              rw [whl_at0 (by rw [sAt_op hk3, if_pos rfl, if_neg (by simp [hp]), if_neg (by simp)])]
              rw [show (b.f0 == 1 || b.f0 == 2) = false from hp] at pb'
              refine ⟨(by first | exact .p | exact .tp (fun x hx => by simp at hx; rcases hx with rfl | rfl <;> exact .p) | exact .tp (fun x hx => by simp at hx; rcases hx with rfl | rfl | rfl <;> exact .p)), bdy Tryz.func40 (fun _ => 0) rfl ?_⟩
              refine rn T 99 [] ?_
              refine rn T 99 [] ?_
              refine cfq rfl (by simp; omega) ?_
              refine rn T 99 [] ?_
              refine rn T 99 [] ?_
              refine rn T 99 [] ?_
              refine cfs ?_
              refine rn T 99 [] ?_
              refine cts ?_; try (first | refine dr1 ?_ | refine dr2 ?_ | refine dr3 ?_ | refine dr4 ?_)
              refine rn T 99 [pi 0, pm b] ?_
              refine pcs (pb') ?_
              refine cfs ?_
              refine rn T 99 [] ?_
              exact ret1 T rfl (by (repeat' apply And.intro) <;> first | trivial | rfl | assumption | omega | exact mT rfl | exact mT (by assumption) | exact mM rfl | exact mM (by assumption) | exact mI (by assumption) | exact mS (by assumption) | exact mU (by assumption) | (simp; done) | (simp [Mn.f0, Mn.f1, Mn.f2, Mn.f3, Mn.f4, Tn.f0]; done) | (simp [*]; done) | (simp [relT, eT_eq, eM_eq, PV.cells, Tn.f0, Mn.f4, *]; done) | (simp; omega)) rfl
          · cases hp : plB a with
            | true =>
              rw [whl_at (u := atM r b) (by rw [sAt_op hk3, if_pos rfl, if_neg (by simp), if_pos ⟨rfl, hp⟩])]
              rw [show (a.f0 == 1 || a.f0 == 2) = true from hp] at pa
              obtain ⟨u, hu⟩ : ∃ u, u = whlF f (atM r b) := ⟨_, rfl⟩
              rw [← hu] at cb ⊢
              obtain ⟨k1, m1, s1, p1, l1⟩ := u
              refine ⟨(by first | exact .p | exact .tp (fun x hx => by simp at hx; rcases hx with rfl | rfl <;> exact .p) | exact .tp (fun x hx => by simp at hx; rcases hx with rfl | rfl | rfl <;> exact .p)), bdy Tryz.func40 (fun _ => 0) rfl ?_⟩
              refine rn T 99 [] ?_
              refine rn T 99 [] ?_
              refine cfq rfl (by simp; omega) ?_
              refine rn T 99 [] ?_
              refine rn T 99 [] ?_
              refine rn T 99 [] ?_
              refine cfs ?_
              refine rn T 99 [] ?_
              refine cts ?_; try (first | refine dr1 ?_ | refine dr2 ?_ | refine dr3 ?_ | refine dr4 ?_)
              refine rn T 99 [pi 1, pm a] ?_
              refine pcs (pa) ?_
              refine cts ?_; try (first | refine dr1 ?_ | refine dr2 ?_ | refine dr3 ?_ | refine dr4 ?_)
              refine rn T 99 [pi 1, pm b] ?_
              rw [show List.drop (1 : Int).toNat (List.take (List.map pi (1 :: r)).length (List.map pi (1 :: r))) = r.map pi by simp; exact List.take_of_length_le (by simp)]
              refine pcs (cb) ?_
              refine rn T 99 [] ?_
              exact ret1 T rfl (by (repeat' apply And.intro) <;> first | trivial | rfl | assumption | omega | exact mT rfl | exact mT (by assumption) | exact mM rfl | exact mM (by assumption) | exact mI (by assumption) | exact mS (by assumption) | exact mU (by assumption) | (simp; done) | (simp [Mn.f0, Mn.f1, Mn.f2, Mn.f3, Mn.f4, Tn.f0]; done) | (simp [*]; done) | (simp [relT, eT_eq, eM_eq, PV.cells, Tn.f0, Mn.f4, *]; done) | (simp; omega)) rfl
            | false =>
              rw [whl_at0 (by rw [sAt_op hk3, if_pos rfl, if_neg (by simp), if_neg (by simp [hp])])]
              rw [show (a.f0 == 1 || a.f0 == 2) = false from hp] at pa
              refine ⟨(by first | exact .p | exact .tp (fun x hx => by simp at hx; rcases hx with rfl | rfl <;> exact .p) | exact .tp (fun x hx => by simp at hx; rcases hx with rfl | rfl | rfl <;> exact .p)), bdy Tryz.func40 (fun _ => 0) rfl ?_⟩
              refine rn T 99 [] ?_
              refine rn T 99 [] ?_
              refine cfq rfl (by simp; omega) ?_
              refine rn T 99 [] ?_
              refine rn T 99 [] ?_
              refine rn T 99 [] ?_
              refine cfs ?_
              refine rn T 99 [] ?_
              refine cts ?_; try (first | refine dr1 ?_ | refine dr2 ?_ | refine dr3 ?_ | refine dr4 ?_)
              refine rn T 99 [pi 1, pm a] ?_
              refine pcs (pa) ?_
              refine cfs ?_
              refine rn T 99 [] ?_
              exact ret1 T rfl (by (repeat' apply And.intro) <;> first | trivial | rfl | assumption | omega | exact mT rfl | exact mT (by assumption) | exact mM rfl | exact mM (by assumption) | exact mI (by assumption) | exact mS (by assumption) | exact mU (by assumption) | (simp; done) | (simp [Mn.f0, Mn.f1, Mn.f2, Mn.f3, Mn.f4, Tn.f0]; done) | (simp [*]; done) | (simp [relT, eT_eq, eM_eq, PV.cells, Tn.f0, Mn.f4, *]; done) | (simp; omega)) rfl
        · rw [whl_at0 (by rw [sAt_op hk3, if_neg h6])]
          refine ⟨(by first | exact .p | exact .tp (fun x hx => by simp at hx; rcases hx with rfl | rfl <;> exact .p) | exact .tp (fun x hx => by simp at hx; rcases hx with rfl | rfl | rfl <;> exact .p)), bdy Tryz.func40 (fun _ => 0) rfl ?_⟩
          refine rn T 99 [] ?_
          refine rn T 99 [] ?_
          refine cfq rfl (by simp; omega) ?_
          refine rn T 99 [] ?_
          refine rn T 99 [] ?_
          refine rn T 99 [] ?_
          refine cfq rfl (by exact k7) ?_
          refine rn T 99 [] ?_
          refine cfq rfl (by simp [Mn.f0]; exact h6) ?_
          refine rn T 99 [] ?_
          refine cfq rfl (by exact k8) ?_
          refine rn T 99 [] ?_
          exact ret1 T rfl (by (repeat' apply And.intro) <;> first | trivial | rfl | assumption | omega | exact mT rfl | exact mT (by assumption) | exact mM rfl | exact mM (by assumption) | exact mI (by assumption) | exact mS (by assumption) | exact mU (by assumption) | (simp; done) | (simp [Mn.f0, Mn.f1, Mn.f2, Mn.f3, Mn.f4, Tn.f0]; done) | (simp [*]; done) | (simp [relT, eT_eq, eM_eq, PV.cells, Tn.f0, Mn.f4, *]; done) | (simp; omega)) rfl
      | @«at» q a hq =>
        rw [whl_at (sAt_at (i := i) (r := r) (q := q) (a := a))]
        have hq' : q.length ≤ mpl ⟨7, 0, ⟨#[]⟩, q, [a]⟩ := hpl1
        have cr := hkid a (by simp [Mn.f4]) (q ++ (i :: r)) (by rw [List.all_append, hq, hb]; rfl) (by simp [Mn.f3]; omega)
        obtain ⟨u, hu⟩ : ∃ u, u = whlF f (atM (q ++ i :: r) a) := ⟨_, rfl⟩
        rw [← hu] at cr ⊢
        obtain ⟨k1, m1, s1, p1, l1⟩ := u
        rw [List.map_append] at cr
        refine ⟨(by first | exact .p | exact .tp (fun x hx => by simp at hx; rcases hx with rfl | rfl <;> exact .p) | exact .tp (fun x hx => by simp at hx; rcases hx with rfl | rfl | rfl <;> exact .p)), bdy Tryz.func40 (fun _ => 0) rfl ?_⟩
        refine rn T 99 [] ?_
        refine rn T 99 [] ?_
        refine cfq rfl (by simp; omega) ?_
        refine rn T 99 [] ?_
        refine rn T 99 [] ?_
        refine rn T 99 [] ?_
        refine cts ?_; try (first | refine dr1 ?_ | refine dr2 ?_ | refine dr3 ?_ | refine dr4 ?_)
        refine rn T 99 [pm a] ?_
        refine pcs (cr) ?_
        refine rn T 99 [] ?_
        exact ret1 T rfl (by (repeat' apply And.intro) <;> first | trivial | rfl | assumption | omega | exact mT rfl | exact mT (by assumption) | exact mM rfl | exact mM (by assumption) | exact mI (by assumption) | exact mS (by assumption) | exact mU (by assumption) | (simp; done) | (simp [Mn.f0, Mn.f1, Mn.f2, Mn.f3, Mn.f4, Tn.f0]; done) | (simp [*]; done) | (simp [relT, eT_eq, eM_eq, PV.cells, Tn.f0, Mn.f4, *]; done) | (simp; omega)) rfl
      | @put q a b hq =>
        have pa := plain1 G a
        have pb' := plain1 G b
        have ca := fun p' h1 h2 => hkid a (by simp [Mn.f4]) p' h1 h2
        have cb := fun p' h1 h2 => hkid b (by simp [Mn.f4]) p' h1 h2
        have hq' : q.length ≤ mpl ⟨8, 0, ⟨#[]⟩, q, [a, b]⟩ := hpl1
        obtain ⟨v, hv⟩ : ∃ v, v = whlF (f + 1) (atM (i :: r) ⟨8, 0, ⟨#[]⟩, q, [a, b]⟩) := ⟨_, rfl⟩
        rw [← hv]
        refine ⟨(by first | exact .p | exact .tp (fun x hx => by simp at hx; rcases hx with rfl | rfl <;> exact .p) | exact .tp (fun x hx => by simp at hx; rcases hx with rfl | rfl | rfl <;> exact .p)), bdy Tryz.func40 (fun _ => 0) rfl ?_⟩
        refine rn T 99 [] ?_
        refine rn T 99 [] ?_
        refine cfq rfl (by simp; omega) ?_
        refine rn T 99 [] ?_
        refine rn T 99 [] ?_
        refine rn T 99 [] ?_
        refine cfs ?_
        refine rn T 99 [] ?_
        refine cfs ?_
        refine rn T 99 [] ?_
        refine cts ?_
        refine rn T 99 [] ?_
        refine lpw (fun j : Nat => MS.mk [(6, .p (pi j)), (0, .p (.row 1 ((i :: r).map pi))), (3, .ptr (.L 3) 0), (4, .ptr (.L 4) 0), (5, .ptr (.L 5) 0)] 123 [(3, .box 26 [.p (pi 8), .p (pi 0), .p (ps ⟨#[]⟩), .p (.row 1 (q.map pi)), .p (.row 5 [eM a, eM b])]), (4, .box 26 [.p (pi 0), .p (pi 0), .p (ps ⟨#[]⟩), .nil, .nil]), (5, .box 26 [.p (pi 7), .p (pi 0), .p (ps ⟨#[]⟩), .p (.row 1 ((i :: r).map pi)), .vw (.L 13) 1]), (13, .rw 5 26 [pm ⟨8, 0, ⟨#[]⟩, q, [a, b]⟩])] []) (fun m j => m + j = q.length ∧ j ≤ (i :: r).length ∧ (i :: r).take j = q.take j) (q.length) (0) (⟨by simp, by simp, by simp⟩) ?_
        intro m2 j ⟨h1, h2, h3⟩
        refine op ?_; try (first | refine dr1 ?_ | refine dr2 ?_ | refine dr3 ?_ | refine dr4 ?_)
        refine rn T 4 [] ?_
        by_cases c1 : j < (i :: r).length
        · rw [show decide ((j : Int) < (((i :: r).map pi).length : Int)) = true by simp at c1 ⊢; omega]
          refine rn T 6 [] ?_
          by_cases c2 : j < q.length
          · rw [show decide ((j : Int) < ((q.map pi).length : Int)) = true by simp [c2]]
            obtain ⟨x, hx, _⟩ := drop_ix c1
            obtain ⟨y, hy, _⟩ := drop_ix c2
            refine rn T 99 [pi x, pi y] ?_
            by_cases hxy : x = y
            · subst hxy
              refine ctq rfl (by simp) ?_
              refine rn T 99 [] ?_
              rw [wkS (by omega)]
              refine nxt (m2 - 1) (j + 1) (⟨by omega, by omega, by rw [List.take_add_one, List.take_add_one, hx, hy, h3]⟩)
            · refine cfq rfl (by simp [hxy]) ?_
              refine rn T 5 [] ?_
              rw [show ((j : Int) == ((q.map pi).length : Int)) = false by simp; omega]
              refine rn T 99 [] ?_
              refine cfs ?_
              refine rn T 4 [] ?_
              rw [show decide ((j : Int) < (((i :: r).map pi).length : Int)) = true by simp at c1 ⊢; omega]
              refine rn T 6 [] ?_
              rw [show decide ((j : Int) < ((q.map pi).length : Int)) = true by simp [c2]]
              refine rn T 6 [pm b] ?_
              have e1 := bgn_f2 hx hy hxy
              have e2 := bgn_f2 hy hx (fun e => hxy e.symm)
              cases hp : plB b with
              | true =>
                rw [show (b.f0 == 1 || b.f0 == 2) = true from hp] at pb'
                refine pcs (pb') ?_
                refine rn T 99 [] ?_
                refine cts ?_
                rw [whl_at (u := atM (i :: r) a) (by rw [sAt_put, if_neg (by simp [e1]), if_pos ⟨e2, hp⟩])] at hv
                have ca := ca (i :: r) hb (by omega)
                rw [← hv] at ca
                clear hv
                obtain ⟨k1, m1, s1, p1, l1⟩ := v
                refine rn T 99 [pm a] ?_
                refine pcs (ca) ?_
                refine rn T 99 [] ?_
                exact ret1 T rfl (by (repeat' apply And.intro) <;> first | trivial | rfl | assumption | omega | exact mT rfl | exact mT (by assumption) | exact mM rfl | exact mM (by assumption) | exact mI (by assumption) | exact mS (by assumption) | exact mU (by assumption) | (simp; done) | (simp [Mn.f0, Mn.f1, Mn.f2, Mn.f3, Mn.f4, Tn.f0]; done) | (simp [*]; done) | (simp [relT, eT_eq, eM_eq, PV.cells, Tn.f0, Mn.f4, *]; done) | (simp; omega)) rfl
              | false =>
                rw [show (b.f0 == 1 || b.f0 == 2) = false from hp] at pb'
                refine pcs (pb') ?_
                refine rn T 99 [] ?_
                refine cfs ?_
                rw [whl_at0 (by rw [sAt_put, if_neg (by simp [e1]), if_neg (by simp [hp])])] at hv
                subst hv
                refine rn T 99 [] ?_
                exact ret1 T rfl (by (repeat' apply And.intro) <;> first | trivial | rfl | assumption | omega | exact mT rfl | exact mT (by assumption) | exact mM rfl | exact mM (by assumption) | exact mI (by assumption) | exact mS (by assumption) | exact mU (by assumption) | (simp; done) | (simp [Mn.f0, Mn.f1, Mn.f2, Mn.f3, Mn.f4, Tn.f0]; done) | (simp [*]; done) | (simp [relT, eT_eq, eM_eq, PV.cells, Tn.f0, Mn.f4, *]; done) | (simp; omega)) rfl
          · have hjq : j = q.length := by omega
            subst hjq
            rw [show decide ((q.length : Int) < ((q.map pi).length : Int)) = false by simp]
            refine rn T 99 [] ?_
            refine cfs ?_
            refine rn T 5 [] ?_
            rw [show ((q.length : Int) == ((q.map pi).length : Int)) = true by simp]
            refine rn T 99 [pm a] ?_
            have e1 := bgn_t h2 (by rw [h3, List.take_length])
            cases hp : plB a with
            | true =>
              rw [show (a.f0 == 1 || a.f0 == 2) = true from hp] at pa
              refine pcs (pa) ?_
              refine rn T 99 [] ?_
              refine cts ?_; try (first | refine dr1 ?_ | refine dr2 ?_ | refine dr3 ?_ | refine dr4 ?_)
              rw [whl_at (u := atM ((i :: r).drop q.length) b) (by rw [sAt_put, if_pos e1, if_pos hp])] at hv
              have cb := cb ((i :: r).drop q.length) (by rw [List.all_eq_true] at hb ⊢; exact fun z hz => hb z (List.mem_of_mem_drop hz)) (by rw [List.length_drop]; omega)
              rw [← hv] at cb
              clear hv
              obtain ⟨k1, m1, s1, p1, l1⟩ := v
              refine rn T 99 [pm b] ?_
              rw [show List.drop ((q.length : Int)).toNat (List.take (List.map pi (i :: r)).length (List.map pi (i :: r))) = ((i :: r).drop q.length).map pi by rw [List.take_of_length_le (Nat.le_refl _), List.map_drop]; rfl]
              refine pcs (cb) ?_
              refine rn T 99 [] ?_
              exact ret1 T rfl (by (repeat' apply And.intro) <;> first | trivial | rfl | assumption | omega | exact mT rfl | exact mT (by assumption) | exact mM rfl | exact mM (by assumption) | exact mI (by assumption) | exact mS (by assumption) | exact mU (by assumption) | (simp; done) | (simp [Mn.f0, Mn.f1, Mn.f2, Mn.f3, Mn.f4, Tn.f0]; done) | (simp [*]; done) | (simp [relT, eT_eq, eM_eq, PV.cells, Tn.f0, Mn.f4, *]; done) | (simp; omega)) rfl
            | false =>
              rw [show (a.f0 == 1 || a.f0 == 2) = false from hp] at pa
              refine pcs (pa) ?_
              refine rn T 99 [] ?_
              refine cfs ?_
              rw [whl_at0 (by rw [sAt_put, if_pos e1, if_neg (by simp [hp])])] at hv
              subst hv
              refine rn T 4 [] ?_
              rw [show decide ((q.length : Int) < (((i :: r).map pi).length : Int)) = true by simp at c1 ⊢; omega]
              refine rn T 6 [] ?_
              rw [show decide ((q.length : Int) < ((q.map pi).length : Int)) = false by simp]
              refine rn T 99 [] ?_
              refine cfs ?_
              refine rn T 99 [] ?_
              exact ret1 T rfl (by (repeat' apply And.intro) <;> first | trivial | rfl | assumption | omega | exact mT rfl | exact mT (by assumption) | exact mM rfl | exact mM (by assumption) | exact mI (by assumption) | exact mS (by assumption) | exact mU (by assumption) | (simp; done) | (simp [Mn.f0, Mn.f1, Mn.f2, Mn.f3, Mn.f4, Tn.f0]; done) | (simp [*]; done) | (simp [relT, eT_eq, eM_eq, PV.cells, Tn.f0, Mn.f4, *]; done) | (simp; omega)) rfl
        · have hjp : j = (i :: r).length := by omega
          subst hjp
          rw [show decide (((i :: r).length : Int) < (((i :: r).map pi).length : Int)) = false by simp]
          refine rn T 99 [] ?_
          refine cfs ?_
          refine rn T 5 [] ?_
          by_cases c2 : (i :: r).length = q.length
          · rw [show (((i :: r).length : Int) == ((q.map pi).length : Int)) = true by rw [List.length_map, c2]; simp]
            refine rn T 99 [pm a] ?_
            have e1 := bgn_t (p := i :: r) (q := q) (by omega) (by rw [← c2, h3, c2, List.take_length])
            cases hp : plB a with
            | true =>
              rw [show (a.f0 == 1 || a.f0 == 2) = true from hp] at pa
              refine pcs (pa) ?_
              refine rn T 99 [] ?_
              refine cts ?_; try (first | refine dr1 ?_ | refine dr2 ?_ | refine dr3 ?_ | refine dr4 ?_)
              rw [whl_at (u := atM ((i :: r).drop q.length) b) (by rw [sAt_put, if_pos e1, if_pos hp])] at hv
              have cb := cb ((i :: r).drop q.length) (by rw [List.all_eq_true] at hb ⊢; exact fun z hz => hb z (List.mem_of_mem_drop hz)) (by rw [List.length_drop]; omega)
              rw [← hv] at cb
              clear hv
              obtain ⟨k1, m1, s1, p1, l1⟩ := v
              refine rn T 99 [pm b] ?_
              rw [show List.drop (((i :: r).length : Int)).toNat (List.take (List.map pi (i :: r)).length (List.map pi (i :: r))) = ((i :: r).drop q.length).map pi by rw [List.take_of_length_le (Nat.le_refl _), List.map_drop, ← c2]; rfl]
              refine pcs (cb) ?_
              refine rn T 99 [] ?_
              exact ret1 T rfl (by (repeat' apply And.intro) <;> first | trivial | rfl | assumption | omega | exact mT rfl | exact mT (by assumption) | exact mM rfl | exact mM (by assumption) | exact mI (by assumption) | exact mS (by assumption) | exact mU (by assumption) | (simp; done) | (simp [Mn.f0, Mn.f1, Mn.f2, Mn.f3, Mn.f4, Tn.f0]; done) | (simp [*]; done) | (simp [relT, eT_eq, eM_eq, PV.cells, Tn.f0, Mn.f4, *]; done) | (simp; omega)) rfl
            | false =>
              rw [show (a.f0 == 1 || a.f0 == 2) = false from hp] at pa
              refine pcs (pa) ?_
              refine rn T 99 [] ?_
              refine cfs ?_
              rw [whl_at0 (by rw [sAt_put, if_pos e1, if_neg (by simp [hp])])] at hv
              subst hv
              refine rn T 4 [] ?_
              rw [show decide (((i :: r).length : Int) < (((i :: r).map pi).length : Int)) = false by simp]
              refine rn T 99 [] ?_
              refine cfs ?_
              refine rn T 99 [] ?_
              exact ret1 T rfl (by (repeat' apply And.intro) <;> first | trivial | rfl | assumption | omega | exact mT rfl | exact mT (by assumption) | exact mM rfl | exact mM (by assumption) | exact mI (by assumption) | exact mS (by assumption) | exact mU (by assumption) | (simp; done) | (simp [Mn.f0, Mn.f1, Mn.f2, Mn.f3, Mn.f4, Tn.f0]; done) | (simp [*]; done) | (simp [relT, eT_eq, eM_eq, PV.cells, Tn.f0, Mn.f4, *]; done) | (simp; omega)) rfl
          · rw [show (((i :: r).length : Int) == ((q.map pi).length : Int)) = false by rw [List.length_map]; simp only [beq_eq_false_iff_ne]; omega]
            refine rn T 99 [] ?_
            refine cfs ?_
            have e1 : bgn (i :: r) q = false := bgn_f1 (by omega)
            have e2 : bgn q (i :: r) = true := bgn_t (by omega) (by rw [← h3, List.take_length])
            rw [whl_at0 (by rw [sAt_put, if_neg (by simp [e1]), if_neg (by simp [e2])])] at hv
            subst hv
            refine rn T 4 [] ?_
            rw [show decide (((i :: r).length : Int) < (((i :: r).map pi).length : Int)) = false by simp]
            refine rn T 99 [] ?_
            refine cfs ?_
            refine rn T 99 [] ?_
            exact ret1 T rfl (by (repeat' apply And.intro) <;> first | trivial | rfl | assumption | omega | exact mT rfl | exact mT (by assumption) | exact mM rfl | exact mM (by assumption) | exact mI (by assumption) | exact mS (by assumption) | exact mU (by assumption) | (simp; done) | (simp [Mn.f0, Mn.f1, Mn.f2, Mn.f3, Mn.f4, Tn.f0]; done) | (simp [*]; done) | (simp [relT, eT_eq, eM_eq, PV.cells, Tn.f0, Mn.f4, *]; done) | (simp; omega)) rfl
end Go.Proofs.YtglkkbgflnpjeaaGreatDoor.K
end
section
namespace Go.Proofs.YtglkkbgflnpjeaaGreatDoor.K
open Go Go.RowKit Go.Proofs.YtglkkbgflnpjeaaGreatDoor.En Go.Proofs.YtglkkbgflnpjeaaGreatDoor.Ty Go.Proofs.YtglkkbgflnpjeaaGreatDoor.B
set_option maxRecDepth 100000
set_option linter.unusedSimpArgs false
set_option linter.unusedVariables false
set_option pp.deepTerms false
set_option pp.deepTerms.threshold 8
set_option pp.maxSteps 1000
set_option maxHeartbeats 1000000
theorem whl_put {f : Nat} {p : List Int} {x y u : Mn} (h : sPut p x y = some u) : whlF (f + 1) ⟨8, 0, ⟨#[]⟩, p, [x, y]⟩ = whlF f u := by
  have e : stp ⟨8, 0, ⟨#[]⟩, p, [x, y]⟩ = ((sPut p x y).getD zM, (sPut p x y).isSome) := rfl
  rw [whlF_t (by rw [e, h]; rfl), e, h]
  rfl
theorem whl_put0 {f : Nat} {p : List Int} {x y : Mn} (h : sPut p x y = none) : whlF f ⟨8, 0, ⟨#[]⟩, p, [x, y]⟩ = ⟨8, 0, ⟨#[]⟩, p, [x, y]⟩ := by
  have e : stp ⟨8, 0, ⟨#[]⟩, p, [x, y]⟩ = ((sPut p x y).getD zM, (sPut p x y).isSome) := rfl
  exact whlF_f (by rw [e, h]; rfl)
theorem msz_put {p : List Int} {x y : Mn} : msz ⟨8, 0, ⟨#[]⟩, p, [x, y]⟩ = 1 + msz x + msz y := by rw [msz_mk, mszs_cons, mszs_cons, mszs_nil]; omega
theorem put1 (G : Nat → Option PV) : ∀ (f n n2 : Nat) (p : List Int) (x y : Mn), msz ⟨8, 0, ⟨#[]⟩, p, [x, y]⟩ ≤ f → okD n x = true → smD n x = true → okD n2 y = true → smD (n2 + 1) y = true → p.length ≤ 50000 → mpl x ≤ 50000 → PF Tryz.prog G 41 [.row 1 (p.map pi), pm x, pm y] (.p (pm (whlF f ⟨8, 0, ⟨#[]⟩, p, [x, y]⟩))) := by
  intro f
  induction f with
  | zero => intro n n2 p x y h; have := msz_pos ⟨8, 0, ⟨#[]⟩, p, [x, y]⟩; omega
  | succ f ih =>
    intro n n2 p x y hsz hx hsx hy hsy hp hpl
    obtain ⟨n', rfl, hf, hk⟩ := okD_inv hx
    obtain ⟨hs1, hs2⟩ := smD_inv hsx
    have hsy1 := (smD_inv hsy).1
    rw [msz_put] at hsz
    have px := plain1 G x
    have hpl1 : x.f3.length ≤ mpl x := mpl_path
    obtain ⟨v, hv⟩ : ∃ v, v = whlF (f + 1) ⟨8, 0, ⟨#[]⟩, p, [x, y]⟩ := ⟨_, rfl⟩
    rw [← hv]
    by_cases hp0 : p = []
    · subst hp0
      cases hpx : plB x with
      | true =>
        rw [show (x.f0 == 1 || x.f0 == 2) = true from hpx] at px
        have hs : sPut [] x y = some y := by unfold sPut; rw [if_pos ⟨rfl, hpx⟩]
        rw [whl_put hs, whlF_f hsy1] at hv
        subst hv
        refine ⟨(by first | exact .p | exact .tp (fun x hx => by simp at hx; rcases hx with rfl | rfl <;> exact .p) | exact .tp (fun x hx => by simp at hx; rcases hx with rfl | rfl | rfl <;> exact .p)), bdy Tryz.func41 (fun _ => 0) rfl ?_⟩
        refine rn T 99 [] ?_
        refine rn T 99 [] ?_
        refine pcs (px) ?_
        refine rn T 99 [] ?_
        refine cts ?_
        refine rn T 99 [] ?_
        exact ret1 T rfl (by (repeat' apply And.intro) <;> first | trivial | rfl | assumption | omega | exact mT rfl | exact mT (by assumption) | exact mM rfl | exact mM (by assumption) | exact mI (by assumption) | exact mS (by assumption) | exact mU (by assumption) | (simp; done) | (simp [Mn.f0, Mn.f1, Mn.f2, Mn.f3, Mn.f4, Tn.f0]; done) | (simp [*]; done) | (simp [relT, eT_eq, eM_eq, PV.cells, Tn.f0, Mn.f4, *]; done) | (simp; omega)) rfl
      | false =>
        rw [show (x.f0 == 1 || x.f0 == 2) = false from hpx] at px
        refine ⟨(by first | exact .p | exact .tp (fun x hx => by simp at hx; rcases hx with rfl | rfl <;> exact .p) | exact .tp (fun x hx => by simp at hx; rcases hx with rfl | rfl | rfl <;> exact .p)), bdy Tryz.func41 (fun _ => 0) rfl ?_⟩
        refine rn T 99 [] ?_
        refine rn T 99 [] ?_
        refine pcs (px) ?_
        refine rn T 99 [] ?_
        refine cfs ?_
        have hn : ¬ (([] : List Int) = [] ∧ plB x = true) := fun h => by rw [hpx] at h; cases h.2
        have hrest : sPut [] x y = if x.f0 = 8 ∧ x.f3 = [] ∧ plB (kid x 1) = true then some ⟨8, 0, ⟨#[]⟩, [], [kid x 0, y]⟩ else none := by
          unfold sPut
          rw [if_neg hn]
        cases hf with
        | @num m hm =>
          rw [whl_put0 (by rw [hrest, if_neg (fun h => by cases h.1)])] at hv
          subst hv
          refine rn T 99 [] ?_
          refine cfs ?_
          refine rn T 99 [] ?_
          exact ret1 T rfl (by (repeat' apply And.intro) <;> first | trivial | rfl | assumption | omega | exact mT rfl | exact mT (by assumption) | exact mM rfl | exact mM (by assumption) | exact mI (by assumption) | exact mS (by assumption) | exact mU (by assumption) | (simp; done) | (simp [Mn.f0, Mn.f1, Mn.f2, Mn.f3, Mn.f4, Tn.f0]; done) | (simp [*]; done) | (simp [relT, eT_eq, eM_eq, PV.cells, Tn.f0, Mn.f4, *]; done) | (simp; omega)) rfl
        | @name s hm =>
          rw [whl_put0 (by rw [hrest, if_neg (fun h => by cases h.1)])] at hv
          subst hv
          refine rn T 99 [] ?_
          refine cfs ?_
          refine rn T 99 [] ?_
          exact ret1 T rfl (by (repeat' apply And.intro) <;> first | trivial | rfl | assumption | omega | exact mT rfl | exact mT (by assumption) | exact mM rfl | exact mM (by assumption) | exact mI (by assumption) | exact mS (by assumption) | exact mU (by assumption) | (simp; done) | (simp [Mn.f0, Mn.f1, Mn.f2, Mn.f3, Mn.f4, Tn.f0]; done) | (simp [*]; done) | (simp [relT, eT_eq, eM_eq, PV.cells, Tn.f0, Mn.f4, *]; done) | (simp; omega)) rfl
        | @op k a b hk3 =>
          have k8 : (k == 8) = false := by rcases hk3 with rfl | rfl | rfl | rfl <;> rfl
          rw [whl_put0 (by rw [hrest, if_neg (fun h => by have h := h.1; rcases hk3 with rfl | rfl | rfl | rfl <;> cases h)])] at hv
          subst hv
          refine rn T 3 [] ?_
          rw [show ((Mn.mk k 0 ⟨#[]⟩ [] [a, b]).f0 == 8) = false from k8]
          refine rn T 99 [] ?_
          refine cfs ?_
          refine rn T 99 [] ?_
          exact ret1 T rfl (by (repeat' apply And.intro) <;> first | trivial | rfl | assumption | omega | exact mT rfl | exact mT (by assumption) | exact mM rfl | exact mM (by assumption) | exact mI (by assumption) | exact mS (by assumption) | exact mU (by assumption) | (simp; done) | (simp [Mn.f0, Mn.f1, Mn.f2, Mn.f3, Mn.f4, Tn.f0]; done) | (simp [*]; done) | (simp [relT, eT_eq, eM_eq, PV.cells, Tn.f0, Mn.f4, *]; done) | (simp; omega)) rfl
        | @«at» q a hq =>
          rw [whl_put0 (by rw [hrest, if_neg (fun h => by cases h.1)])] at hv
          subst hv
          refine rn T 99 [] ?_
          refine cfs ?_
          refine rn T 99 [] ?_
          exact ret1 T rfl (by (repeat' apply And.intro) <;> first | trivial | rfl | assumption | omega | exact mT rfl | exact mT (by assumption) | exact mM rfl | exact mM (by assumption) | exact mI (by assumption) | exact mS (by assumption) | exact mU (by assumption) | (simp; done) | (simp [Mn.f0, Mn.f1, Mn.f2, Mn.f3, Mn.f4, Tn.f0]; done) | (simp [*]; done) | (simp [relT, eT_eq, eM_eq, PV.cells, Tn.f0, Mn.f4, *]; done) | (simp; omega)) rfl
        | @put q a b hq =>
          have pbb := plain1 G b
          have hrest2 : sPut [] ⟨8, 0, ⟨#[]⟩, q, [a, b]⟩ y = if q = [] ∧ plB b = true then some ⟨8, 0, ⟨#[]⟩, [], [a, y]⟩ else none := by
            rw [hrest]
            by_cases h : q = [] ∧ plB b = true
            · rw [if_pos h, if_pos ⟨rfl, h⟩]; rfl
            · rw [if_neg h, if_neg (fun h2 => h h2.2)]
          by_cases hl : q.length = ([] : List Int).length
          · refine rn T 10 [] ?_
            rw [show ((((⟨8, 0, ⟨#[]⟩, q, [a, b]⟩ : Mn).f3.map pi).length : Int) == ((([] : List Int).map pi).length : Int)) = true by show (((q.map pi).length : Int) == _) = true; rw [List.length_map, List.length_map, hl]; simp]
            refine rn T 99 [] ?_
            have cm := meet1 G q [] (by show q.length ≤ 100000; have : q.length ≤ _ := hpl1; omega) hl
            by_cases hqp : q = []
            · rw [show (q == []) = true by rw [beq_iff_eq]; exact hqp] at cm
              refine pcs (cm) ?_
              refine rn T 99 [pm b] ?_
              cases hpb : plB b with
              | true =>
                rw [show (b.f0 == 1 || b.f0 == 2) = true from hpb] at pbb
                refine pcs (pbb) ?_
                refine rn T 99 [] ?_
                refine cts ?_; try (first | refine dr1 ?_ | refine dr2 ?_ | refine dr3 ?_ | refine dr4 ?_)
                rw [whl_put (u := ⟨8, 0, ⟨#[]⟩, [], [a, y]⟩) (by rw [hrest2, if_pos ⟨hqp, hpb⟩])] at hv
                have ha := hk a (by simp [Mn.f4])
                obtain ⟨k1, k2, k3⟩ := kidF (t := ⟨8, 0, ⟨#[]⟩, q, [a, b]⟩) (y := a) (.put hq) (by simp [Mn.f4])
                have cr := ih n' n2 [] a y (by rw [msz_put]; omega) ha (hs2 a (by simp [Mn.f4])) hy hsy hp (by omega)
                rw [← hv] at cr
                clear hv
                obtain ⟨k1, m1, s1, p1, l1⟩ := v
                refine rn T 99 [pm a] ?_
                refine pcs (cr) ?_
                refine rn T 99 [] ?_
                exact ret1 T rfl (by (repeat' apply And.intro) <;> first | trivial | rfl | assumption | omega | exact mT rfl | exact mT (by assumption) | exact mM rfl | exact mM (by assumption) | exact mI (by assumption) | exact mS (by assumption) | exact mU (by assumption) | (simp; done) | (simp [Mn.f0, Mn.f1, Mn.f2, Mn.f3, Mn.f4, Tn.f0]; done) | (simp [*]; done) | (simp [relT, eT_eq, eM_eq, PV.cells, Tn.f0, Mn.f4, *]; done) | (simp; omega)) rfl
              | false =>
                rw [show (b.f0 == 1 || b.f0 == 2) = false from hpb] at pbb
                refine pcs (pbb) ?_
                refine rn T 99 [] ?_
                refine cfs ?_
                rw [whl_put0 (by rw [hrest2, if_neg (by simp [hpb])])] at hv
                subst hv
                refine rn T 99 [] ?_
                exact ret1 T rfl (by (repeat' apply And.intro) <;> first | trivial | rfl | assumption | omega | exact mT rfl | exact mT (by assumption) | exact mM rfl | exact mM (by assumption) | exact mI (by assumption) | exact mS (by assumption) | exact mU (by assumption) | (simp; done) | (simp [Mn.f0, Mn.f1, Mn.f2, Mn.f3, Mn.f4, Tn.f0]; done) | (simp [*]; done) | (simp [relT, eT_eq, eM_eq, PV.cells, Tn.f0, Mn.f4, *]; done) | (simp; omega)) rfl
            · rw [show (q == []) = false by rw [beq_eq_false_iff_ne]; exact hqp] at cm
              refine pcs (cm) ?_
              refine rn T 99 [] ?_
              refine cfs ?_
              rw [whl_put0 (by rw [hrest2, if_neg (fun h => hqp h.1)])] at hv
              subst hv
              refine rn T 99 [] ?_
              exact ret1 T rfl (by (repeat' apply And.intro) <;> first | trivial | rfl | assumption | omega | exact mT rfl | exact mT (by assumption) | exact mM rfl | exact mM (by assumption) | exact mI (by assumption) | exact mS (by assumption) | exact mU (by assumption) | (simp; done) | (simp [Mn.f0, Mn.f1, Mn.f2, Mn.f3, Mn.f4, Tn.f0]; done) | (simp [*]; done) | (simp [relT, eT_eq, eM_eq, PV.cells, Tn.f0, Mn.f4, *]; done) | (simp; omega)) rfl
          · refine rn T 10 [] ?_
            rw [show ((((⟨8, 0, ⟨#[]⟩, q, [a, b]⟩ : Mn).f3.map pi).length : Int) == ((([] : List Int).map pi).length : Int)) = false by show (((q.map pi).length : Int) == _) = false; rw [List.length_map, List.length_map]; simp only [beq_eq_false_iff_ne]; omega]
            refine rn T 99 [] ?_
            refine cfs ?_
            rw [whl_put0 (by rw [hrest2, if_neg (fun h => hl (by rw [h.1]))])] at hv
            subst hv
            refine rn T 99 [] ?_
            exact ret1 T rfl (by (repeat' apply And.intro) <;> first | trivial | rfl | assumption | omega | exact mT rfl | exact mT (by assumption) | exact mM rfl | exact mM (by assumption) | exact mI (by assumption) | exact mS (by assumption) | exact mU (by assumption) | (simp; done) | (simp [Mn.f0, Mn.f1, Mn.f2, Mn.f3, Mn.f4, Tn.f0]; done) | (simp [*]; done) | (simp [relT, eT_eq, eM_eq, PV.cells, Tn.f0, Mn.f4, *]; done) | (simp; omega)) rfl
    · have hn : ¬ (p = [] ∧ plB x = true) := fun h => hp0 h.1
      refine ⟨(by first | exact .p | exact .tp (fun x hx => by simp at hx; rcases hx with rfl | rfl <;> exact .p) | exact .tp (fun x hx => by simp at hx; rcases hx with rfl | rfl | rfl <;> exact .p)), bdy Tryz.func41 (fun _ => 0) rfl ?_⟩
      refine rn T 99 [] ?_
      refine rn T 3 [] ?_
      rw [show (((p.map pi).length : Int) == 0) = false by rw [List.length_map]; simp only [beq_eq_false_iff_ne]; intro h; exact hp0 (List.length_eq_zero_iff.1 (by omega))]
      refine rn T 99 [] ?_
      refine cfs ?_
      have hrest : sPut p x y = if x.f0 = 8 ∧ x.f3 = p ∧ plB (kid x 1) = true then some ⟨8, 0, ⟨#[]⟩, p, [kid x 0, y]⟩ else none := by
        unfold sPut
        rw [if_neg hn]
      cases hf with
      | @num m hm =>
        rw [whl_put0 (by rw [hrest, if_neg (fun h => by cases h.1)])] at hv
        subst hv
        refine rn T 99 [] ?_
        refine cfs ?_
        refine rn T 99 [] ?_
        exact ret1 T rfl (by (repeat' apply And.intro) <;> first | trivial | rfl | assumption | omega | exact mT rfl | exact mT (by assumption) | exact mM rfl | exact mM (by assumption) | exact mI (by assumption) | exact mS (by assumption) | exact mU (by assumption) | (simp; done) | (simp [Mn.f0, Mn.f1, Mn.f2, Mn.f3, Mn.f4, Tn.f0]; done) | (simp [*]; done) | (simp [relT, eT_eq, eM_eq, PV.cells, Tn.f0, Mn.f4, *]; done) | (simp; omega)) rfl
      | @name s hm =>
        rw [whl_put0 (by rw [hrest, if_neg (fun h => by cases h.1)])] at hv
        subst hv
        refine rn T 99 [] ?_
        refine cfs ?_
        refine rn T 99 [] ?_
        exact ret1 T rfl (by (repeat' apply And.intro) <;> first | trivial | rfl | assumption | omega | exact mT rfl | exact mT (by assumption) | exact mM rfl | exact mM (by assumption) | exact mI (by assumption) | exact mS (by assumption) | exact mU (by assumption) | (simp; done) | (simp [Mn.f0, Mn.f1, Mn.f2, Mn.f3, Mn.f4, Tn.f0]; done) | (simp [*]; done) | (simp [relT, eT_eq, eM_eq, PV.cells, Tn.f0, Mn.f4, *]; done) | (simp; omega)) rfl
      | @op k a b hk3 =>
        have k8 : (k == 8) = false := by rcases hk3 with rfl | rfl | rfl | rfl <;> rfl
        rw [whl_put0 (by rw [hrest, if_neg (fun h => by have h := h.1; rcases hk3 with rfl | rfl | rfl | rfl <;> cases h)])] at hv
        subst hv
        refine rn T 3 [] ?_
        rw [show ((Mn.mk k 0 ⟨#[]⟩ [] [a, b]).f0 == 8) = false from k8]
        refine rn T 99 [] ?_
        refine cfs ?_
        refine rn T 99 [] ?_
        exact ret1 T rfl (by (repeat' apply And.intro) <;> first | trivial | rfl | assumption | omega | exact mT rfl | exact mT (by assumption) | exact mM rfl | exact mM (by assumption) | exact mI (by assumption) | exact mS (by assumption) | exact mU (by assumption) | (simp; done) | (simp [Mn.f0, Mn.f1, Mn.f2, Mn.f3, Mn.f4, Tn.f0]; done) | (simp [*]; done) | (simp [relT, eT_eq, eM_eq, PV.cells, Tn.f0, Mn.f4, *]; done) | (simp; omega)) rfl
      | @«at» q a hq =>
        rw [whl_put0 (by rw [hrest, if_neg (fun h => by cases h.1)])] at hv
        subst hv
        refine rn T 99 [] ?_
        refine cfs ?_
        refine rn T 99 [] ?_
        exact ret1 T rfl (by (repeat' apply And.intro) <;> first | trivial | rfl | assumption | omega | exact mT rfl | exact mT (by assumption) | exact mM rfl | exact mM (by assumption) | exact mI (by assumption) | exact mS (by assumption) | exact mU (by assumption) | (simp; done) | (simp [Mn.f0, Mn.f1, Mn.f2, Mn.f3, Mn.f4, Tn.f0]; done) | (simp [*]; done) | (simp [relT, eT_eq, eM_eq, PV.cells, Tn.f0, Mn.f4, *]; done) | (simp; omega)) rfl
      | @put q a b hq =>
        have pbb := plain1 G b
        have hrest2 : sPut p ⟨8, 0, ⟨#[]⟩, q, [a, b]⟩ y = if q = p ∧ plB b = true then some ⟨8, 0, ⟨#[]⟩, p, [a, y]⟩ else none := by
          rw [hrest]
          by_cases h : q = p ∧ plB b = true
          · rw [if_pos h, if_pos ⟨rfl, h⟩]; rfl
          · rw [if_neg h, if_neg (fun h2 => h h2.2)]
        by_cases hl : q.length = (p : List Int).length
        · refine rn T 10 [] ?_
          rw [show ((((⟨8, 0, ⟨#[]⟩, q, [a, b]⟩ : Mn).f3.map pi).length : Int) == (((p : List Int).map pi).length : Int)) = true by show (((q.map pi).length : Int) == _) = true; rw [List.length_map, List.length_map, hl]; simp]
          refine rn T 99 [] ?_
          have cm := meet1 G q p (by show q.length ≤ 100000; have : q.length ≤ _ := hpl1; omega) hl
          by_cases hqp : q = p
          · rw [show (q == p) = true by rw [beq_iff_eq]; exact hqp] at cm
            refine pcs (cm) ?_
            refine rn T 99 [pm b] ?_
            cases hpb : plB b with
            | true =>
              rw [show (b.f0 == 1 || b.f0 == 2) = true from hpb] at pbb
              refine pcs (pbb) ?_
              refine rn T 99 [] ?_
              refine cts ?_; try (first | refine dr1 ?_ | refine dr2 ?_ | refine dr3 ?_ | refine dr4 ?_)
              rw [whl_put (u := ⟨8, 0, ⟨#[]⟩, p, [a, y]⟩) (by rw [hrest2, if_pos ⟨hqp, hpb⟩])] at hv
              have ha := hk a (by simp [Mn.f4])
              obtain ⟨k1, k2, k3⟩ := kidF (t := ⟨8, 0, ⟨#[]⟩, q, [a, b]⟩) (y := a) (.put hq) (by simp [Mn.f4])
              have cr := ih n' n2 p a y (by rw [msz_put]; omega) ha (hs2 a (by simp [Mn.f4])) hy hsy hp (by omega)
              rw [← hv] at cr
              clear hv
              obtain ⟨k1, m1, s1, p1, l1⟩ := v
              refine rn T 99 [pm a] ?_
              refine pcs (cr) ?_
              refine rn T 99 [] ?_
              exact ret1 T rfl (by (repeat' apply And.intro) <;> first | trivial | rfl | assumption | omega | exact mT rfl | exact mT (by assumption) | exact mM rfl | exact mM (by assumption) | exact mI (by assumption) | exact mS (by assumption) | exact mU (by assumption) | (simp; done) | (simp [Mn.f0, Mn.f1, Mn.f2, Mn.f3, Mn.f4, Tn.f0]; done) | (simp [*]; done) | (simp [relT, eT_eq, eM_eq, PV.cells, Tn.f0, Mn.f4, *]; done) | (simp; omega)) rfl
            | false =>
              rw [show (b.f0 == 1 || b.f0 == 2) = false from hpb] at pbb
              refine pcs (pbb) ?_
              refine rn T 99 [] ?_
              refine cfs ?_
              rw [whl_put0 (by rw [hrest2, if_neg (by simp [hpb])])] at hv
              subst hv
              refine rn T 99 [] ?_
              exact ret1 T rfl (by (repeat' apply And.intro) <;> first | trivial | rfl | assumption | omega | exact mT rfl | exact mT (by assumption) | exact mM rfl | exact mM (by assumption) | exact mI (by assumption) | exact mS (by assumption) | exact mU (by assumption) | (simp; done) | (simp [Mn.f0, Mn.f1, Mn.f2, Mn.f3, Mn.f4, Tn.f0]; done) | (simp [*]; done) | (simp [relT, eT_eq, eM_eq, PV.cells, Tn.f0, Mn.f4, *]; done) | (simp; omega)) rfl
          · rw [show (q == p) = false by rw [beq_eq_false_iff_ne]; exact hqp] at cm
            refine pcs (cm) ?_
            refine rn T 99 [] ?_
            refine cfs ?_
            rw [whl_put0 (by rw [hrest2, if_neg (fun h => hqp h.1)])] at hv
            subst hv
            refine rn T 99 [] ?_
            exact ret1 T rfl (by (repeat' apply And.intro) <;> first | trivial | rfl | assumption | omega | exact mT rfl | exact mT (by assumption) | exact mM rfl | exact mM (by assumption) | exact mI (by assumption) | exact mS (by assumption) | exact mU (by assumption) | (simp; done) | (simp [Mn.f0, Mn.f1, Mn.f2, Mn.f3, Mn.f4, Tn.f0]; done) | (simp [*]; done) | (simp [relT, eT_eq, eM_eq, PV.cells, Tn.f0, Mn.f4, *]; done) | (simp; omega)) rfl
        · refine rn T 10 [] ?_
          rw [show ((((⟨8, 0, ⟨#[]⟩, q, [a, b]⟩ : Mn).f3.map pi).length : Int) == (((p : List Int).map pi).length : Int)) = false by show (((q.map pi).length : Int) == _) = false; rw [List.length_map, List.length_map]; simp only [beq_eq_false_iff_ne]; omega]
          refine rn T 99 [] ?_
          refine cfs ?_
          rw [whl_put0 (by rw [hrest2, if_neg (fun h => hl (by rw [h.1]))])] at hv
          subst hv
          refine rn T 99 [] ?_
          exact ret1 T rfl (by (repeat' apply And.intro) <;> first | trivial | rfl | assumption | omega | exact mT rfl | exact mT (by assumption) | exact mM rfl | exact mM (by assumption) | exact mI (by assumption) | exact mS (by assumption) | exact mU (by assumption) | (simp; done) | (simp [Mn.f0, Mn.f1, Mn.f2, Mn.f3, Mn.f4, Tn.f0]; done) | (simp [*]; done) | (simp [relT, eT_eq, eM_eq, PV.cells, Tn.f0, Mn.f4, *]; done) | (simp; omega)) rfl
end Go.Proofs.YtglkkbgflnpjeaaGreatDoor.K
end
section
namespace Go.Proofs.YtglkkbgflnpjeaaGreatDoor.K
open Go Go.RowKit Go.Proofs.YtglkkbgflnpjeaaGreatDoor.En Go.Proofs.YtglkkbgflnpjeaaGreatDoor.Ty Go.Proofs.YtglkkbgflnpjeaaGreatDoor.B
set_option maxRecDepth 100000
set_option linter.unusedSimpArgs false
set_option linter.unusedVariables false
set_option pp.deepTerms false
set_option pp.deepTerms.threshold 8
set_option pp.maxSteps 1000
set_option maxHeartbeats 1000000
theorem smps_app {n i : Nat} {l : List Mn} {x : Mn} (h : l[i]? = some x) : (((l.take i).map (smp n)).map eM) ++ [pm (smp n x)] = ((l.take (i + 1)).map (smp n)).map eM := by
  rw [List.take_add_one, h, List.map_append, List.map_append]
  simp [eM_eq]
theorem dP_okD : ∀ {n : Nat} {t : Mn}, okD n t = true → mpl t ≤ 50000 → dP n t = true
  | 0, _, h, _ => by cases h
  | n + 1, ⟨k, m, s, p, l⟩, h, hp => by
    obtain ⟨_, e, hf, hk⟩ := okD_inv h
    cases e
    rw [mpl_mk] at hp
    unfold dP
    simp only [Bool.and_eq_true, decide_eq_true_eq, List.all_eq_true]
    exact ⟨⟨by cases hf <;> simp [Mn.f4], by show p.length ≤ 50000; omega⟩, fun x hx => dP_okD (hk x hx) (by have : mpl x ≤ mpls l := mpls_mem hx; omega)⟩
theorem opOk {k x y : Int} (hk : k = 3 ∨ k = 4 ∨ k = 5) (hx : 0 ≤ x ∧ x ≤ 9999) (hy : 0 ≤ y ∧ y ≤ 9999) : okN (opv k x y) = okO k x y := by
  unfold okN opv okO
  rcases hk with rfl | rfl | rfl
  · rw [if_pos rfl, if_pos rfl]
    rw [decide_eq_decide]; omega
  · rw [if_neg (by decide), if_pos rfl, if_neg (by decide), if_pos rfl]
    rw [decide_eq_decide]; omega
  · rw [if_neg (show ¬ (5 : Int) = 3 by decide), if_neg (show ¬ (5 : Int) = 4 by decide), if_neg (show ¬ (5 : Int) = 3 by decide), if_neg (show ¬ (5 : Int) = 4 by decide)]
    split <;> rfl
theorem whl_op {f : Nat} {k : Int} {x y : Mn} (hk : k = 3 ∨ k = 4 ∨ k = 5 ∨ k = 6) (h : (sOp k x y).2 = true) : whlF (f + 1) ⟨k, 0, ⟨#[]⟩, [], [x, y]⟩ = whlF f (sOp k x y).1 := by
  rw [whlF_t (by rw [stp_op hk, h]), stp_op hk]
theorem whl_op0 {f : Nat} {k : Int} {x y : Mn} (hk : k = 3 ∨ k = 4 ∨ k = 5 ∨ k = 6) (h : (sOp k x y).2 = false) : whlF f ⟨k, 0, ⟨#[]⟩, [], [x, y]⟩ = ⟨k, 0, ⟨#[]⟩, [], [x, y]⟩ := whlF_f (by rw [stp_op hk, h])
theorem sim1 (G : Nat → Option PV) : ∀ (n : Nat) (t : Mn), okD n t = true → mpl t ≤ 50000 → PF Tryz.prog G 17 [pm t] (.p (pm (smp n t))) := by
  intro n
  induction n with
  | zero => intro t h; cases h
  | succ n ih =>
    intro t ho hpl
    have cc := copyM1 G (n + 1) t (dP_okD ho hpl)
    have cp := plain1 G t
    obtain ⟨_, e, hf, hk⟩ := okD_inv ho
    cases e
    cases hpb : plB t with
    | true =>
      rw [show (t.f0 == 1 || t.f0 == 2) = true from hpb] at cp
      rw [smp_leaf hf hpb]
      obtain ⟨k, m, s, p, l⟩ := t
      refine ⟨(by first | exact .p | exact .tp (fun x hx => by simp at hx; rcases hx with rfl | rfl <;> exact .p) | exact .tp (fun x hx => by simp at hx; rcases hx with rfl | rfl | rfl <;> exact .p)), bdy Tryz.func17 (fun _ => 0) rfl ?_⟩
      refine rn T 99 [] ?_
      refine rn T 99 [] ?_
      refine pcs (cp) ?_
      refine cts ?_
      refine rn T 99 [] ?_
      refine pcs (cc) ?_
      refine rn T 99 [] ?_
      exact ret1 T rfl (by (repeat' apply And.intro) <;> first | trivial | rfl | assumption | omega | exact mT rfl | exact mT (by assumption) | exact mM rfl | exact mM (by assumption) | exact mI (by assumption) | exact mS (by assumption) | exact mU (by assumption) | (simp; done) | (simp [Mn.f0, Mn.f1, Mn.f2, Mn.f3, Mn.f4, Tn.f0]; done) | (simp [*]; done) | (simp [relT, eT_eq, eM_eq, PV.cells, Tn.f0, Mn.f4, *]; done) | (simp; omega)) rfl
    | false =>
    rw [show (t.f0 == 1 || t.f0 == 2) = false from hpb] at cp
    obtain ⟨k, m, s, p, l⟩ := t
    have hk : ∀ x ∈ l, okD n x = true := hk
    have hplk : ∀ x ∈ l, mpl x ≤ 50000 := fun x hx => by
      have := mpl_kid (t := ⟨k, m, s, p, l⟩) (x := x) hx
      omega
    have hl2 : l.length ≤ 2 := by cases hf <;> simp
    have hks : ∀ x ∈ l, okD n (smp n x) = true ∧ smD n (smp n x) = true ∧ mpl (smp n x) ≤ mpl x ∧ ∀ s ∈ mnm (smp n x), s ∈ mnm x := fun x hx => smp_inv (hk x hx)
    have hR : smp (n + 1) ⟨k, m, s, p, l⟩ = whlF (msz ⟨k, m, s, p, l.map (smp n)⟩) ⟨k, m, s, p, l.map (smp n)⟩ := smp_eq
    rw [hR]
    obtain ⟨v, hv⟩ : ∃ v, v = whlF (msz ⟨k, m, s, p, l.map (smp n)⟩) ⟨k, m, s, p, l.map (smp n)⟩ := ⟨_, rfl⟩
    rw [← hv]
    show PF _ _ _ [.ag [pi k, pi m, ps s, .row 1 (p.map pi), .row 5 (l.map eM)]] _
    refine ⟨(by first | exact .p | exact .tp (fun x hx => by simp at hx; rcases hx with rfl | rfl <;> exact .p) | exact .tp (fun x hx => by simp at hx; rcases hx with rfl | rfl | rfl <;> exact .p)), bdy Tryz.func17 (fun _ => 0) rfl ?_⟩
    refine rn T 99 [] ?_
    refine rn T 99 [] ?_
    refine pcs (cp) ?_
    refine cfs ?_
    refine rn T 99 [] ?_
    refine rn T 99 [] ?_
    refine lpw (fun i : Nat => MS.mk [(4, .p (pi i)), (3, .vw (.L 11) (((l.take i).map (smp n)).map eM).length), (1, .ptr (.L 1) 0), (2, .ptr (.L 2) 0)] 92 [(1, .box 26 [.p (pi k), .p (pi m), .p (ps s), .p (.row 1 (p.map pi)), .p (.row 5 (l.map eM))]), (11, .rw 5 26 (((l.take i).map (smp n)).map eM)), (2, .box 26 [.p (pi 0), .p (pi 0), .p (ps ⟨#[]⟩), .nil, .nil])] []) (fun m i => m + i = l.length) (l.length) (0) (by simp) ?_
    intro m2 i h1
    have hml : (((l.take i).map (smp n)).map eM).length ≤ 2 := by simp; omega
    refine op ?_
    refine rn T 99 [] ?_
    by_cases hi : i < l.length
    · obtain ⟨x, hx, hd⟩ := drop_ix hi
      refine ctq rfl (by simp [hi]) ?_
      refine rn T 99 [pm x] ?_
      have hxm := List.mem_of_getElem? hx
      refine pcs (ih x (hk x hxm) (hplk x hxm)) ?_
      refine rn T 99 [] ?_
      rw [show (((l.take i).map (smp n)).map eM).length + [pm (smp n x)].length = (((l.take (i + 1)).map (smp n)).map eM).length by rw [← smps_app hx, List.length_append], smps_app hx]
      refine rn T 99 [] ?_
      rw [wkS (by omega)]
      refine nxt (m2 - 1) (i + 1) (by omega)
    · refine cfq rfl (by simp [hi]) ?_
      have hil : l.take i = l := List.take_of_length_le (by omega)
      rw [hil]
      cases hf with
      | num h => cases hpb
      | name h => cases hpb
      | @op k x y hk3 =>
        obtain ⟨q1, q2, q3, q4⟩ := hks x (by simp)
        obtain ⟨r1, r2, r3, r4⟩ := hks y (by simp)
        have nx : numB (smp n x) := by obtain ⟨_, _, h, _⟩ := okD_inv q1; exact h.nb
        have ny : numB (smp n y) := by obtain ⟨_, _, h, _⟩ := okD_inv r1; exact h.nb
        have hlx := hplk x (by simp)
        have hms : ∃ f, msz ⟨k, 0, ⟨#[]⟩, [], ([x, y] : List Mn).map (smp n)⟩ = f + 1 := ⟨_, by rw [msz_mk]; exact Nat.add_comm 1 _⟩
        obtain ⟨f, hf⟩ := hms
        rw [hf] at hv
        have hv : v = whlF (f + 1) ⟨k, 0, ⟨#[]⟩, [], [smp n x, smp n y]⟩ := hv
        obtain ⟨u, hu⟩ : ∃ u, u = smp n x := ⟨_, rfl⟩
        obtain ⟨w, hw⟩ : ∃ w, w = smp n y := ⟨_, rfl⟩
        have hrow : (([x, y] : List Mn).map (smp n)).map eM = [eM u, eM w] := by rw [hu, hw]; rfl
        rw [hrow]
        rw [← hu, ← hw] at hv
        rw [← hu] at nx
        rw [← hw] at ny
        clear hu hw hks hR hrow
        obtain ⟨ku, mu, su, pu, lu⟩ := u
        obtain ⟨kw, mw, sw, pw', lw⟩ := w
        have k7 : (k == 7) = false := by rcases hk3 with rfl | rfl | rfl | rfl <;> rfl
        have k8 : (k == 8) = false := by rcases hk3 with rfl | rfl | rfl | rfl <;> rfl
        have hso : sOp k ⟨ku, mu, su, pu, lu⟩ ⟨kw, mw, sw, pw', lw⟩ = if k = 6 ∨ ku ≠ 1 ∨ kw ≠ 1 then (⟨0, 0, ⟨#[]⟩, [], []⟩, false) else if okN (opv k mu mw) = true then (⟨1, opv k mu mw, ⟨#[]⟩, [], []⟩, true) else (⟨1, 0, ⟨#[]⟩, [], []⟩, false) := rfl
        refine rn T 99 [] ?_
        refine rn T 99 [] ?_
        refine cfq rfl (by exact k7) ?_
        refine rn T 99 [] ?_
        refine cfq rfl (by exact k8) ?_
        refine rn T 99 [] ?_
        by_cases h6 : k = 6
        · subst h6
          rw [whl_op0 hk3 (by rw [hso, if_pos (.inl rfl)])] at hv
          subst hv
          refine cts ?_
          refine rn T 99 [] ?_
          exact ret1 T rfl (by (repeat' apply And.intro) <;> first | trivial | rfl | assumption | omega | exact mT rfl | exact mT (by assumption) | exact mM rfl | exact mM (by assumption) | exact mI (by assumption) | exact mS (by assumption) | exact mU (by assumption) | (simp; done) | (simp [Mn.f0, Mn.f1, Mn.f2, Mn.f3, Mn.f4, Tn.f0]; done) | (simp [*]; done) | (simp [relT, eT_eq, eM_eq, PV.cells, Tn.f0, Mn.f4, *]; done) | (simp; omega)) rfl
        · refine cfq rfl (by simp; exact h6) ?_
          refine rn T 5 [pm ⟨ku, mu, su, pu, lu⟩] ?_
          by_cases h1 : ku = 1
          · subst h1
            refine rn T 6 [pm ⟨kw, mw, sw, pw', lw⟩] ?_
            by_cases h2 : kw = 1
            · subst h2
              have hk5 : k = 3 ∨ k = 4 ∨ k = 5 := by rcases hk3 with h | h | h | h <;> simp [h]; exact h6 h
              have co := opn1 G k mu mw (nx rfl) (ny rfl)
              have ho : okN (opv k mu mw) = okO k mu mw := opOk hk5 (nx rfl) (ny rfl)
              have hov : opv' k mu mw = opv k mu mw := rfl
              rw [← ho, hov] at co
              refine rn T 99 [] ?_
              refine cts ?_; try (first | refine dr1 ?_ | refine dr2 ?_ | refine dr3 ?_ | refine dr4 ?_)
              refine rn T 99 [pm ⟨1, mu, su, pu, lu⟩, pm ⟨1, mw, sw, pw', lw⟩] ?_
              refine pcs (co) ?_
              refine rn T 99 [] ?_
              refine rn T 99 [] ?_
              cases hok : okN (opv k mu mw) with
              | true =>
                rw [whl_op hk3 (by rw [hso, if_neg (by simp [h6]), if_pos hok]), hso, if_neg (by simp [h6]), if_pos hok, whlF_f rfl] at hv
                subst hv
                refine cts ?_
                refine rn T 99 [] ?_
                exact ret1 T rfl (by (repeat' apply And.intro) <;> first | trivial | rfl | assumption | omega | exact mT rfl | exact mT (by assumption) | exact mM rfl | exact mM (by assumption) | exact mI (by assumption) | exact mS (by assumption) | exact mU (by assumption) | (simp; done) | (simp [Mn.f0, Mn.f1, Mn.f2, Mn.f3, Mn.f4, Tn.f0]; done) | (simp [*]; done) | (simp [relT, eT_eq, eM_eq, PV.cells, Tn.f0, Mn.f4, *]; done) | (simp; omega)) rfl
              | false =>
                rw [whl_op0 hk3 (by rw [hso, if_neg (by simp [h6]), if_neg (by simp [hok])])] at hv
                subst hv
                refine cfs ?_
                refine rn T 99 [] ?_
                exact ret1 T rfl (by (repeat' apply And.intro) <;> first | trivial | rfl | assumption | omega | exact mT rfl | exact mT (by assumption) | exact mM rfl | exact mM (by assumption) | exact mI (by assumption) | exact mS (by assumption) | exact mU (by assumption) | (simp; done) | (simp [Mn.f0, Mn.f1, Mn.f2, Mn.f3, Mn.f4, Tn.f0]; done) | (simp [*]; done) | (simp [relT, eT_eq, eM_eq, PV.cells, Tn.f0, Mn.f4, *]; done) | (simp; omega)) rfl
            · rw [whl_op0 hk3 (by rw [hso, if_pos (.inr (.inr h2))])] at hv
              subst hv
              rw [show ((⟨kw, mw, sw, pw', lw⟩ : Mn).f0 == 1) = false by simp [Mn.f0, h2]]
              refine rn T 99 [] ?_
              refine cfs ?_
              refine rn T 99 [] ?_
              exact ret1 T rfl (by (repeat' apply And.intro) <;> first | trivial | rfl | assumption | omega | exact mT rfl | exact mT (by assumption) | exact mM rfl | exact mM (by assumption) | exact mI (by assumption) | exact mS (by assumption) | exact mU (by assumption) | (simp; done) | (simp [Mn.f0, Mn.f1, Mn.f2, Mn.f3, Mn.f4, Tn.f0]; done) | (simp [*]; done) | (simp [relT, eT_eq, eM_eq, PV.cells, Tn.f0, Mn.f4, *]; done) | (simp; omega)) rfl
          · rw [whl_op0 hk3 (by rw [hso, if_pos (.inr (.inl h1))])] at hv
            subst hv
            rw [show ((⟨ku, mu, su, pu, lu⟩ : Mn).f0 == 1) = false by simp [Mn.f0, h1]]
            refine rn T 99 [] ?_
            refine cfs ?_
            refine rn T 99 [] ?_
            exact ret1 T rfl (by (repeat' apply And.intro) <;> first | trivial | rfl | assumption | omega | exact mT rfl | exact mT (by assumption) | exact mM rfl | exact mM (by assumption) | exact mI (by assumption) | exact mS (by assumption) | exact mU (by assumption) | (simp; done) | (simp [Mn.f0, Mn.f1, Mn.f2, Mn.f3, Mn.f4, Tn.f0]; done) | (simp [*]; done) | (simp [relT, eT_eq, eM_eq, PV.cells, Tn.f0, Mn.f4, *]; done) | (simp; omega)) rfl
      | @«at» p x hb =>
        obtain ⟨q1, q2, q3, q4⟩ := hks x (by simp)
        have hlx := hplk x (by simp)
        have hplp : p.length + mpl x ≤ 50000 := by rw [mpl_at] at hpl; exact hpl
        have ca := at1 G (msz (atM p (smp n x))) n p (smp n x) (Nat.le_refl _) q1 q2 hb (by omega)
        have hv : v = whlF (msz (atM p (smp n x))) (atM p (smp n x)) := hv
        rw [← hv] at ca
        clear hv hks hR
        obtain ⟨u, hu⟩ : ∃ u, u = smp n x := ⟨_, rfl⟩
        have hrow : (([x] : List Mn).map (smp n)).map eM = [eM u] := by rw [hu]; rfl
        rw [hrow]
        rw [← hu] at ca
        clear hu hrow
        obtain ⟨k1, m1, s1, p1, l1⟩ := v
        refine rn T 99 [] ?_
        refine rn T 99 [] ?_
        refine cts ?_; try (first | refine dr1 ?_ | refine dr2 ?_ | refine dr3 ?_ | refine dr4 ?_)
        refine rn T 99 [pm u] ?_
        refine pcs (ca) ?_
        refine rn T 99 [] ?_
        exact ret1 T rfl (by (repeat' apply And.intro) <;> first | trivial | rfl | assumption | omega | exact mT rfl | exact mT (by assumption) | exact mM rfl | exact mM (by assumption) | exact mI (by assumption) | exact mS (by assumption) | exact mU (by assumption) | (simp; done) | (simp [Mn.f0, Mn.f1, Mn.f2, Mn.f3, Mn.f4, Tn.f0]; done) | (simp [*]; done) | (simp [relT, eT_eq, eM_eq, PV.cells, Tn.f0, Mn.f4, *]; done) | (simp; omega)) rfl
      | @put p x y hb =>
        obtain ⟨q1, q2, q3, q4⟩ := hks x (by simp)
        obtain ⟨r1, r2, r3, r4⟩ := hks y (by simp)
        have hlx := hplk x (by simp)
        have hplp : p.length ≤ 50000 := by rw [mpl_mk] at hpl; omega
        obtain ⟨n', rfl, _, _⟩ := okD_inv q1
        have ca := put1 G (msz ⟨8, 0, ⟨#[]⟩, p, [smp (n' + 1) x, smp (n' + 1) y]⟩) (n' + 1) (n' + 1) p (smp (n' + 1) x) (smp (n' + 1) y) (Nat.le_refl _) q1 q2 r1 (smD_mono r1 r2 (by omega)) (by omega) (by omega)
        have hv : v = whlF (msz ⟨8, 0, ⟨#[]⟩, p, [smp (n' + 1) x, smp (n' + 1) y]⟩) ⟨8, 0, ⟨#[]⟩, p, [smp (n' + 1) x, smp (n' + 1) y]⟩ := hv
        rw [← hv] at ca
        clear hv hks hR
        obtain ⟨u, hu⟩ : ∃ u, u = smp (n' + 1) x := ⟨_, rfl⟩
        obtain ⟨w, hw⟩ : ∃ w, w = smp (n' + 1) y := ⟨_, rfl⟩
        have hrow : (([x, y] : List Mn).map (smp (n' + 1))).map eM = [eM u, eM w] := by rw [hu, hw]; rfl
        rw [hrow]
        rw [← hu, ← hw] at ca
        clear hu hw hrow
        obtain ⟨k1, m1, s1, p1, l1⟩ := v
        refine rn T 99 [] ?_
        refine rn T 99 [] ?_
        refine cfs ?_
        refine rn T 99 [] ?_
        refine cts ?_; try (first | refine dr1 ?_ | refine dr2 ?_ | refine dr3 ?_ | refine dr4 ?_)
        refine rn T 99 [pm u, pm w] ?_
        refine pcs (ca) ?_
        refine rn T 99 [] ?_
        exact ret1 T rfl (by (repeat' apply And.intro) <;> first | trivial | rfl | assumption | omega | exact mT rfl | exact mT (by assumption) | exact mM rfl | exact mM (by assumption) | exact mI (by assumption) | exact mS (by assumption) | exact mU (by assumption) | (simp; done) | (simp [Mn.f0, Mn.f1, Mn.f2, Mn.f3, Mn.f4, Tn.f0]; done) | (simp [*]; done) | (simp [relT, eT_eq, eM_eq, PV.cells, Tn.f0, Mn.f4, *]; done) | (simp; omega)) rfl
theorem simpS1 (G : Nat → Option PV) (t : Mn) (ht : dM 8 t = true) : PF Tryz.prog G 7 [pm t] (.p (pm (simT t))) := by
  have co := okM1 G t ht
  obtain ⟨v, hv⟩ : ∃ v, v = simT t := ⟨_, rfl⟩
  rw [← hv]
  unfold simT sOk at hv
  cases hok : tk pw 8 t with
  | false =>
    rw [hok] at co
    rw [hok, if_neg (by simp)] at hv
    subst hv
    obtain ⟨k, m, s, p, l⟩ := t
    refine ⟨(by first | exact .p | exact .tp (fun x hx => by simp at hx; rcases hx with rfl | rfl <;> exact .p) | exact .tp (fun x hx => by simp at hx; rcases hx with rfl | rfl | rfl <;> exact .p)), bdy Tryz.func7 (fun _ => 0) rfl ?_⟩
    refine rn T 99 [] ?_
    refine rn T 99 [] ?_
    refine pcs (co) ?_
    refine rn T 99 [] ?_
    refine cts ?_
    refine rn T 99 [] ?_
    exact ret1 T rfl (by (repeat' apply And.intro) <;> first | trivial | rfl | assumption | omega | exact mT rfl | exact mT (by assumption) | exact mM rfl | exact mM (by assumption) | exact mI (by assumption) | exact mS (by assumption) | exact mU (by assumption) | (simp; done) | (simp [Mn.f0, Mn.f1, Mn.f2, Mn.f3, Mn.f4, Tn.f0]; done) | (simp [*]; done) | (simp [relT, eT_eq, eM_eq, PV.cells, Tn.f0, Mn.f4, *]; done) | (simp; omega)) rfl
  | true =>
    rw [hok] at co
    rw [hok, if_pos rfl] at hv
    have ho : okD 8 t = true := okD_tk (fun _ h => h) hok
    have hpl : mpl t ≤ 50000 := by have := mpl_tk hok; omega
    have cs := sim1 G 8 t ho hpl
    have cc := copyM1 G 8 t (dP_okD ho hpl)
    have hs := smp_inv ho
    have cl := long1 G 8 (smp 8 t) (dM_okD hs.1)
    obtain ⟨r, hr⟩ : ∃ r, r = smp 8 t := ⟨_, rfl⟩
    rw [← hr] at cs cl hv
    clear hr hs
    obtain ⟨k1, m1, s1, p1, l1⟩ := r
    obtain ⟨k, m, s, p, l⟩ := t
    refine ⟨(by first | exact .p | exact .tp (fun x hx => by simp at hx; rcases hx with rfl | rfl <;> exact .p) | exact .tp (fun x hx => by simp at hx; rcases hx with rfl | rfl | rfl <;> exact .p)), bdy Tryz.func7 (fun _ => 0) rfl ?_⟩
    refine rn T 99 [] ?_
    refine rn T 99 [] ?_
    refine pcs (co) ?_
    refine rn T 99 [] ?_
    refine cfs ?_
    refine rn T 99 [] ?_
    refine pcs (cs) ?_
    refine rn T 99 [] ?_
    refine rn T 99 [] ?_
    cases hp : pok 8 ⟨k1, m1, s1, p1, l1⟩ with
    | true =>
      rw [hp] at cl
      rw [hp, if_pos rfl] at hv
      subst hv
      refine pcs (cl) ?_
      refine cfs ?_
      refine rn T 99 [] ?_
      exact ret1 T rfl (by (repeat' apply And.intro) <;> first | trivial | rfl | assumption | omega | exact mT rfl | exact mT (by assumption) | exact mM rfl | exact mM (by assumption) | exact mI (by assumption) | exact mS (by assumption) | exact mU (by assumption) | (simp; done) | (simp [Mn.f0, Mn.f1, Mn.f2, Mn.f3, Mn.f4, Tn.f0]; done) | (simp [*]; done) | (simp [relT, eT_eq, eM_eq, PV.cells, Tn.f0, Mn.f4, *]; done) | (simp; omega)) rfl
    | false =>
      rw [hp] at cl
      rw [hp, if_neg (by simp)] at hv
      subst hv
      refine pcs (cl) ?_
      refine cts ?_
      refine rn T 99 [] ?_
      refine pcs (cc) ?_
      refine rn T 99 [] ?_
      exact ret1 T rfl (by (repeat' apply And.intro) <;> first | trivial | rfl | assumption | omega | exact mT rfl | exact mT (by assumption) | exact mM rfl | exact mM (by assumption) | exact mI (by assumption) | exact mS (by assumption) | exact mU (by assumption) | (simp; done) | (simp [Mn.f0, Mn.f1, Mn.f2, Mn.f3, Mn.f4, Tn.f0]; done) | (simp [*]; done) | (simp [relT, eT_eq, eM_eq, PV.cells, Tn.f0, Mn.f4, *]; done) | (simp; omega)) rfl
end Go.Proofs.YtglkkbgflnpjeaaGreatDoor.K
end
section
namespace Go.Proofs.YtglkkbgflnpjeaaGreatDoor.K
open Go Go.RowKit Go.Proofs.YtglkkbgflnpjeaaGreatDoor.En Go.Proofs.YtglkkbgflnpjeaaGreatDoor.Ty Go.Proofs.YtglkkbgflnpjeaaGreatDoor.B
set_option maxRecDepth 100000
set_option linter.unusedSimpArgs false
set_option linter.unusedVariables false
set_option pp.deepTerms false
set_option pp.deepTerms.threshold 8
set_option pp.maxSteps 1000
end Go.Proofs.YtglkkbgflnpjeaaGreatDoor.K
end
section
namespace Go.Proofs.YtglkkbgflnpjeaaGreatDoor.K
open Go Go.RowKit Go.Proofs.YtglkkbgflnpjeaaGreatDoor.En Go.Proofs.YtglkkbgflnpjeaaGreatDoor.Ty Go.Proofs.YtglkkbgflnpjeaaGreatDoor.B
set_option maxRecDepth 100000
set_option linter.unusedSimpArgs false
set_option linter.unusedVariables false
set_option pp.deepTerms false
set_option pp.deepTerms.threshold 8
set_option pp.maxSteps 1000
set_option maxHeartbeats 1000000
theorem odd71 (G : Nat → Option PV) (s : List Int) (hs : Bytes s) (k : Int) (hk : 0 ≤ k) (hk1 : k ≤ 1099511000000) :
    FE Tryz.prog G 10 [.ptr (.S 0) 0] [rdr s k] (fun r H' => ∃ (t : Mn) (k' : Int) (X : List AObj), dM 6 t = true ∧ k ≤ k' ∧ k' ≤ k + 600 ∧ r = .p (pm t) ∧ H' = rdr s k' :: X) := by
  refine ⟨?_, _, _, ⟨⟨0, 0, ⟨#[]⟩, [], []⟩, k, [], dM0, by omega, by omega, rfl, rfl⟩, .p, hsh_rdr hsh_nil⟩
  have hp : (2 : Int) ^ (4 + 1) = 32 := rfl
  refine bdy Tryz.func10 (fun _ => 0) rfl ?_
  refine rn T 99 [] ?_
  refine rn T 99 [] ?_
  refine hes (term71v G s hs 4 (by omega) k hk (by omega)) ?_; rintro _ _ h _ _; refine op ?_
  rcases h with ⟨f0, f1, f2, k', h1, h2, ⟨rfl, rfl⟩ | ⟨p, l, P, hl, hpl, hP, rfl, rfl⟩⟩
  · refine rn T 99 [] ?_
    refine rn T 99 [] ?_
    refine hes (pick G s hs k' 20 (by omega) (by omega) (by omega) hsh_nil) ?_; rintro _ _ ⟨v, hv0, hv1, rfl, rfl⟩ _ _; refine op ?_
    refine rn T 99 [] ?_
    by_cases c0 : v = 0
    · refine ctq rfl (by simp [c0]) ?_
      refine rn T 99 [] ?_
      refine hes (pick G s hs (k' + 1) 10 (by omega) (by omega) (by omega) hsh_nil) ?_; rintro _ _ ⟨x, hx0, hx1, rfl, rfl⟩ _ _; refine op ?_
      refine rn T 99 [] ?_
      refine rn T 99 [] ?_
      exact rt1 T (pm ⟨x, f1, f2, [], []⟩) (⟨⟨x, f1, f2, [], []⟩, k' + 1 + 1, _, by first | exact dM0 | exact dMl hl, by omega, by omega, rfl, rfl⟩)
    · refine cfq rfl (by simp [c0]) ?_
      refine rn T 99 [] ?_
      by_cases c1 : v = 1
      · refine ctq rfl (by simp [c1]) ?_
        refine rn T 2 [] ?_
        refine hes (pick G s hs (k' + 1) 3 (by omega) (by omega) (by omega) hsh_nil) ?_; rintro _ _ ⟨x, hx0, hx1, rfl, rfl⟩ _ _; refine op ?_
        obtain rfl | rfl | rfl : x = 0 ∨ x = 1 ∨ x = 2 := by omega
        · refine rn T 99 [pi (-1)] ?_
          refine rn T 99 [] ?_
          exact rt1 T (pm ⟨f0, (-1), f2, [], []⟩) (⟨⟨f0, (-1), f2, [], []⟩, k' + 1 + 1, _, by first | exact dM0 | exact dMl hl, by omega, by omega, rfl, rfl⟩)
        · refine rn T 99 [pi 1] ?_
          refine rn T 99 [] ?_
          exact rt1 T (pm ⟨f0, 1, f2, [], []⟩) (⟨⟨f0, 1, f2, [], []⟩, k' + 1 + 1, _, by first | exact dM0 | exact dMl hl, by omega, by omega, rfl, rfl⟩)
        · refine rn T 99 [pi 10000] ?_
          refine rn T 99 [] ?_
          exact rt1 T (pm ⟨f0, 10000, f2, [], []⟩) (⟨⟨f0, 10000, f2, [], []⟩, k' + 1 + 1, _, by first | exact dM0 | exact dMl hl, by omega, by omega, rfl, rfl⟩)
      · refine cfq rfl (by simp [c1]) ?_
        refine rn T 99 [] ?_
        by_cases c2 : v = 2
        · refine ctq rfl (by simp [c2]) ?_; try (first | refine dr1 ?_ | refine dr2 ?_ | refine dr3 ?_ | refine dr4 ?_)
          refine rn T 99 [] ?_
          refine hes (pick G s hs (k' + 1) 3 (by omega) (by omega) (by omega) hsh_nil) ?_; rintro _ _ ⟨x, hx0, hx1, rfl, rfl⟩ _ _; refine op ?_
          obtain rfl | rfl | rfl : x = 0 ∨ x = 1 ∨ x = 2 := by omega
          · refine rn T 99 [pi (-1)] ?_
            refine rn T 99 [] ?_
            exact rt1 T (pm ⟨f0, f1, f2, [(-1)], []⟩) (⟨⟨f0, f1, f2, [(-1)], []⟩, k' + 1 + 1, _, by first | exact dM0 | exact dMl hl, by omega, by omega, rfl, rfl⟩)
          · refine rn T 99 [pi 2] ?_
            refine rn T 99 [] ?_
            exact rt1 T (pm ⟨f0, f1, f2, [2], []⟩) (⟨⟨f0, f1, f2, [2], []⟩, k' + 1 + 1, _, by first | exact dM0 | exact dMl hl, by omega, by omega, rfl, rfl⟩)
          · refine rn T 99 [pi 0] ?_
            refine rn T 99 [] ?_
            exact rt1 T (pm ⟨f0, f1, f2, [0], []⟩) (⟨⟨f0, f1, f2, [0], []⟩, k' + 1 + 1, _, by first | exact dM0 | exact dMl hl, by omega, by omega, rfl, rfl⟩)
        · refine cfq rfl (by simp [c2]) ?_
          refine rn T 99 [] ?_
          by_cases c3 : v = 3
          · refine ctq rfl (by simp [c3]) ?_
            refine rn T 99 [] ?_
            refine hes (word71 G s hs hsh_nil (k' + 1) (by omega) (by omega) [⟨#[]⟩, ⟨#[45]⟩, ⟨#[97]⟩] (by simp)) ?_; rintro _ _ ⟨w, hw, rfl, rfl⟩ _ _; refine op ?_
            refine rn T 99 [] ?_
            refine rn T 99 [] ?_
            exact rt1 T (pm ⟨f0, f1, w, [], []⟩) (⟨⟨f0, f1, w, [], []⟩, k' + 1 + 1, _, by first | exact dM0 | exact dMl hl, by omega, by omega, rfl, rfl⟩)
          · refine cfq rfl (by simp [c3]) ?_
            refine rn T 99 [] ?_
            exact rt1 T (pm ⟨f0, f1, f2, [], []⟩) (⟨⟨f0, f1, f2, [], []⟩, k' + 1, _, by first | exact dM0 | exact dMl hl, by omega, by omega, rfl, rfl⟩)
  · have h2r := hsh_rw (z := 1) (t := 3) (xs := p.map pi) (hsh_rw (z := 5) (t := 26) (xs := l.map eM) hsh_nil)
    rcases hP with rfl | rfl
    · refine rn T 99 [] ?_
      refine rn T 99 [] ?_
      refine hes (pick G s hs k' 20 (by omega) (by omega) (by omega) h2r) ?_; rintro _ _ ⟨v, hv0, hv1, rfl, rfl⟩ _ _; refine op ?_
      refine rn T 99 [] ?_
      by_cases c0 : v = 0
      · refine ctq rfl (by simp [c0]) ?_
        refine rn T 99 [] ?_
        refine hes (pick G s hs (k' + 1) 10 (by omega) (by omega) (by omega) h2r) ?_; rintro _ _ ⟨x, hx0, hx1, rfl, rfl⟩ _ _; refine op ?_
        refine rn T 99 [] ?_
        refine rn T 99 [] ?_
        exact rt1 T (pm ⟨x, f1, f2, p, l⟩) (⟨⟨x, f1, f2, p, l⟩, k' + 1 + 1, _, by first | exact dM0 | exact dMl hl, by omega, by omega, rfl, rfl⟩)
      · refine cfq rfl (by simp [c0]) ?_
        refine rn T 99 [] ?_
        by_cases c1 : v = 1
        · refine ctq rfl (by simp [c1]) ?_
          refine rn T 2 [] ?_
          refine hes (pick G s hs (k' + 1) 3 (by omega) (by omega) (by omega) h2r) ?_; rintro _ _ ⟨x, hx0, hx1, rfl, rfl⟩ _ _; refine op ?_
          obtain rfl | rfl | rfl : x = 0 ∨ x = 1 ∨ x = 2 := by omega
          · refine rn T 99 [pi (-1)] ?_
            refine rn T 99 [] ?_
            exact rt1 T (pm ⟨f0, (-1), f2, p, l⟩) (⟨⟨f0, (-1), f2, p, l⟩, k' + 1 + 1, _, by first | exact dM0 | exact dMl hl, by omega, by omega, rfl, rfl⟩)
          · refine rn T 99 [pi 1] ?_
            refine rn T 99 [] ?_
            exact rt1 T (pm ⟨f0, 1, f2, p, l⟩) (⟨⟨f0, 1, f2, p, l⟩, k' + 1 + 1, _, by first | exact dM0 | exact dMl hl, by omega, by omega, rfl, rfl⟩)
          · refine rn T 99 [pi 10000] ?_
            refine rn T 99 [] ?_
            exact rt1 T (pm ⟨f0, 10000, f2, p, l⟩) (⟨⟨f0, 10000, f2, p, l⟩, k' + 1 + 1, _, by first | exact dM0 | exact dMl hl, by omega, by omega, rfl, rfl⟩)
        · refine cfq rfl (by simp [c1]) ?_
          refine rn T 99 [] ?_
          by_cases c2 : v = 2
          · refine ctq rfl (by simp [c2]) ?_; try (first | refine dr1 ?_ | refine dr2 ?_ | refine dr3 ?_ | refine dr4 ?_)
            refine rn T 99 [] ?_
            refine hes (pick G s hs (k' + 1) 3 (by omega) (by omega) (by omega) h2r) ?_; rintro _ _ ⟨x, hx0, hx1, rfl, rfl⟩ _ _; refine op ?_
            obtain rfl | rfl | rfl : x = 0 ∨ x = 1 ∨ x = 2 := by omega
            · refine rn T 99 [pi (-1)] ?_
              refine rn T 99 [] ?_
              exact rt1 T (pm ⟨f0, f1, f2, p ++ [(-1)], l⟩) (⟨⟨f0, f1, f2, p ++ [(-1)], l⟩, k' + 1 + 1, _, by first | exact dM0 | exact dMl hl, by omega, by omega, rfl, rfl⟩)
            · refine rn T 99 [pi 2] ?_
              refine rn T 99 [] ?_
              exact rt1 T (pm ⟨f0, f1, f2, p ++ [2], l⟩) (⟨⟨f0, f1, f2, p ++ [2], l⟩, k' + 1 + 1, _, by first | exact dM0 | exact dMl hl, by omega, by omega, rfl, rfl⟩)
            · refine rn T 99 [pi 0] ?_
              refine rn T 99 [] ?_
              exact rt1 T (pm ⟨f0, f1, f2, p ++ [0], l⟩) (⟨⟨f0, f1, f2, p ++ [0], l⟩, k' + 1 + 1, _, by first | exact dM0 | exact dMl hl, by omega, by omega, rfl, rfl⟩)
          · refine cfq rfl (by simp [c2]) ?_
            refine rn T 99 [] ?_
            by_cases c3 : v = 3
            · refine ctq rfl (by simp [c3]) ?_
              refine rn T 99 [] ?_
              refine hes (word71 G s hs h2r (k' + 1) (by omega) (by omega) [⟨#[]⟩, ⟨#[45]⟩, ⟨#[97]⟩] (by simp)) ?_; rintro _ _ ⟨w, hw, rfl, rfl⟩ _ _; refine op ?_
              refine rn T 99 [] ?_
              refine rn T 99 [] ?_
              exact rt1 T (pm ⟨f0, f1, w, p, l⟩) (⟨⟨f0, f1, w, p, l⟩, k' + 1 + 1, _, by first | exact dM0 | exact dMl hl, by omega, by omega, rfl, rfl⟩)
            · refine cfq rfl (by simp [c3]) ?_
              refine rn T 99 [] ?_
              exact rt1 T (pm ⟨f0, f1, f2, p, l⟩) (⟨⟨f0, f1, f2, p, l⟩, k' + 1, _, by first | exact dM0 | exact dMl hl, by omega, by omega, rfl, rfl⟩)
    · refine rn T 99 [] ?_
      refine rn T 99 [] ?_
      refine hes (pick G s hs k' 20 (by omega) (by omega) (by omega) h2r) ?_; rintro _ _ ⟨v, hv0, hv1, rfl, rfl⟩ _ _; refine op ?_
      refine rn T 99 [] ?_
      by_cases c0 : v = 0
      · refine ctq rfl (by simp [c0]) ?_
        refine rn T 99 [] ?_
        refine hes (pick G s hs (k' + 1) 10 (by omega) (by omega) (by omega) h2r) ?_; rintro _ _ ⟨x, hx0, hx1, rfl, rfl⟩ _ _; refine op ?_
        refine rn T 99 [] ?_
        refine rn T 99 [] ?_
        exact rt1 T (pm ⟨x, f1, f2, [], l⟩) (⟨⟨x, f1, f2, [], l⟩, k' + 1 + 1, _, by first | exact dM0 | exact dMl hl, by omega, by omega, rfl, rfl⟩)
      · refine cfq rfl (by simp [c0]) ?_
        refine rn T 99 [] ?_
        by_cases c1 : v = 1
        · refine ctq rfl (by simp [c1]) ?_
          refine rn T 2 [] ?_
          refine hes (pick G s hs (k' + 1) 3 (by omega) (by omega) (by omega) h2r) ?_; rintro _ _ ⟨x, hx0, hx1, rfl, rfl⟩ _ _; refine op ?_
          obtain rfl | rfl | rfl : x = 0 ∨ x = 1 ∨ x = 2 := by omega
          · refine rn T 99 [pi (-1)] ?_
            refine rn T 99 [] ?_
            exact rt1 T (pm ⟨f0, (-1), f2, [], l⟩) (⟨⟨f0, (-1), f2, [], l⟩, k' + 1 + 1, _, by first | exact dM0 | exact dMl hl, by omega, by omega, rfl, rfl⟩)
          · refine rn T 99 [pi 1] ?_
            refine rn T 99 [] ?_
            exact rt1 T (pm ⟨f0, 1, f2, [], l⟩) (⟨⟨f0, 1, f2, [], l⟩, k' + 1 + 1, _, by first | exact dM0 | exact dMl hl, by omega, by omega, rfl, rfl⟩)
          · refine rn T 99 [pi 10000] ?_
            refine rn T 99 [] ?_
            exact rt1 T (pm ⟨f0, 10000, f2, [], l⟩) (⟨⟨f0, 10000, f2, [], l⟩, k' + 1 + 1, _, by first | exact dM0 | exact dMl hl, by omega, by omega, rfl, rfl⟩)
        · refine cfq rfl (by simp [c1]) ?_
          refine rn T 99 [] ?_
          by_cases c2 : v = 2
          · refine ctq rfl (by simp [c2]) ?_; try (first | refine dr1 ?_ | refine dr2 ?_ | refine dr3 ?_ | refine dr4 ?_)
            refine rn T 99 [] ?_
            refine hes (pick G s hs (k' + 1) 3 (by omega) (by omega) (by omega) h2r) ?_; rintro _ _ ⟨x, hx0, hx1, rfl, rfl⟩ _ _; refine op ?_
            obtain rfl | rfl | rfl : x = 0 ∨ x = 1 ∨ x = 2 := by omega
            · refine rn T 99 [pi (-1)] ?_
              refine rn T 99 [] ?_
              exact rt1 T (pm ⟨f0, f1, f2, [(-1)], l⟩) (⟨⟨f0, f1, f2, [(-1)], l⟩, k' + 1 + 1, _, by first | exact dM0 | exact dMl hl, by omega, by omega, rfl, rfl⟩)
            · refine rn T 99 [pi 2] ?_
              refine rn T 99 [] ?_
              exact rt1 T (pm ⟨f0, f1, f2, [2], l⟩) (⟨⟨f0, f1, f2, [2], l⟩, k' + 1 + 1, _, by first | exact dM0 | exact dMl hl, by omega, by omega, rfl, rfl⟩)
            · refine rn T 99 [pi 0] ?_
              refine rn T 99 [] ?_
              exact rt1 T (pm ⟨f0, f1, f2, [0], l⟩) (⟨⟨f0, f1, f2, [0], l⟩, k' + 1 + 1, _, by first | exact dM0 | exact dMl hl, by omega, by omega, rfl, rfl⟩)
          · refine cfq rfl (by simp [c2]) ?_
            refine rn T 99 [] ?_
            by_cases c3 : v = 3
            · refine ctq rfl (by simp [c3]) ?_
              refine rn T 99 [] ?_
              refine hes (word71 G s hs h2r (k' + 1) (by omega) (by omega) [⟨#[]⟩, ⟨#[45]⟩, ⟨#[97]⟩] (by simp)) ?_; rintro _ _ ⟨w, hw, rfl, rfl⟩ _ _; refine op ?_
              refine rn T 99 [] ?_
              refine rn T 99 [] ?_
              exact rt1 T (pm ⟨f0, f1, w, [], l⟩) (⟨⟨f0, f1, w, [], l⟩, k' + 1 + 1, _, by first | exact dM0 | exact dMl hl, by omega, by omega, rfl, rfl⟩)
            · refine cfq rfl (by simp [c3]) ?_
              refine rn T 99 [] ?_
              exact rt1 T (pm ⟨f0, f1, f2, [], l⟩) (⟨⟨f0, f1, f2, [], l⟩, k' + 1, _, by first | exact dM0 | exact dMl hl, by omega, by omega, rfl, rfl⟩)
end Go.Proofs.YtglkkbgflnpjeaaGreatDoor.K
end
section
namespace Go.Proofs.YtglkkbgflnpjeaaGreatDoor.K
open Go Go.RowKit Go.Proofs.YtglkkbgflnpjeaaGreatDoor.En Go.Proofs.YtglkkbgflnpjeaaGreatDoor.Ty Go.Proofs.YtglkkbgflnpjeaaGreatDoor.B
set_option maxRecDepth 100000
set_option linter.unusedSimpArgs false
set_option linter.unusedVariables false
set_option pp.deepTerms false
set_option pp.deepTerms.threshold 8
set_option pp.maxSteps 1000
set_option maxHeartbeats 1000000
theorem drawS (G : Nat → Option PV) (l : List Int) (hl : ∀ x ∈ l, 0 ≤ x ∧ x ≤ 255) (hl2 : l.length ≤ 9223372036854775807) :
    FE Tryz.prog G 4 [.p (.row 1 (l.map pu))] [] (fun r H' => ∃ (t : Mn), dM 6 t = true ∧ r = .p (pm t)) := by
  refine ⟨?_, _, [], ⟨⟨0, 0, ⟨#[]⟩, [], []⟩, dM0, rfl⟩, .p, hsh_nil⟩
  refine bdy Tryz.func4 (fun _ => 0) rfl ?_
  refine rn T 99 [] ?_
  refine rn T 99 [] ?_
  refine hes (openC G l hl hl2) ?_; rintro _ _ ⟨s, hs, rfl, rfl⟩ _ _; refine op ?_
  refine hes (odd71 G s hs 0 (by omega) (by omega)) ?_; rintro _ _ ⟨⟨k, m, u, p, r⟩, k2, X, hx, h3a, h3b, rfl, rfl⟩ _ _; refine op ?_
  refine rn T 99 [] ?_
  exact rt1 T (pm ⟨k, m, u, p, r⟩) (⟨⟨k, m, u, p, r⟩, hx, rfl⟩)
theorem eqMs_refl {f : Mn → Mn → Bool} : ∀ {l : List Mn}, (∀ x ∈ l, f x x = true) → eqMs f l l = true
  | [], _ => rfl
  | x :: l, h => by
    unfold eqMs
    rw [h x (by simp), eqMs_refl (fun y hy => h y (by simp [hy]))]
    rfl
theorem eqM_refl : ∀ (n : Nat) (t : Mn), eqM n t t = true
  | 0, _ => rfl
  | n + 1, t => by
    unfold eqM
    rw [eqMs_refl (fun x _ => eqM_refl n x)]
    simp [bb_eq.2]
theorem simT_zM : simT zM = zM := rfl
theorem simT_inv (t : Mn) : simT t = zM ∨ (tk pw 8 t = true ∧ tk pw 8 (simT t) = true ∧ simT (simT t) = simT t ∧ mpl (simT t) ≤ 50000 ∧ ∀ s ∈ mnm (simT t), s ∈ mnm t) := by
  by_cases h : tk pw 8 t = true
  · right
    have ho : okD 8 t = true := okD_tk (fun _ h => h) h
    have hpl : mpl t ≤ 50000 := by have := mpl_tk h; omega
    have e : simT t = sOk t := by unfold simT; rw [if_pos h]
    obtain ⟨q1, q2, q3, q4⟩ := smp_inv ho
    by_cases hp : pok 8 (smp 8 t) = true
    · have e2 : sOk t = smp 8 t := by unfold sOk; rw [if_pos hp]
      have h2 : tk pw 8 (smp 8 t) = true := tk_okD (fun _ h => h) (Nat.le_refl 8) q1 hp
      rw [e, e2]
      refine ⟨h, h2, ?_, by omega, q4⟩
      unfold simT sOk
      rw [if_pos h2, smp_id q2, if_pos hp]
    · have e2 : sOk t = t := by unfold sOk; rw [if_neg hp]
      rw [e2] at e
      rw [e, e]
      exact ⟨h, h, rfl, hpl, fun s hs => hs⟩
  · left
    unfold simT
    rw [if_neg h]
theorem simT_ok (t : Mn) : dP 8 (simT t) = true ∧ simT (simT t) = simT t ∧ ∀ s ∈ mnm (simT t), s ∈ mnm t := by
  rcases simT_inv t with h | ⟨h1, h2, h3, h4, h5⟩
  · rw [h]
    exact ⟨rfl, rfl, fun s hs => by rw [show zM = (⟨0, 0, ⟨#[]⟩, [], []⟩ : Mn) from rfl, mnm_mk, if_neg (by decide), mnms_nil] at hs; cases hs⟩
  · exact ⟨dP_okD (okD_tk (fun _ h => h) h2) h4, h3, h5⟩
end Go.Proofs.YtglkkbgflnpjeaaGreatDoor.K
end
section
namespace Go.Proofs.YtglkkbgflnpjeaaGreatDoor.K
open Go Go.RowKit Go.Proofs.YtglkkbgflnpjeaaGreatDoor.En Go.Proofs.YtglkkbgflnpjeaaGreatDoor.Ty Go.Proofs.YtglkkbgflnpjeaaGreatDoor.B
set_option maxRecDepth 100000
set_option linter.unusedSimpArgs false
set_option linter.unusedVariables false
set_option pp.deepTerms false
set_option pp.deepTerms.threshold 8
set_option pp.maxSteps 1000
set_option maxHeartbeats 1000000
abbrev nmA : ByteArray := ⟨#[97]⟩
abbrev nmB' : ByteArray := ⟨#[98]⟩
abbrev nmC : ByteArray := ⟨#[99]⟩
abbrev nmF : ByteArray := ⟨#[102]⟩
abbrev abc : List ByteArray := [nmA, nmB', nmC]
abbrev pur (t : Mn) : PV := .ag [ps nmF, .row 1 (abc.map ps), .row 1 [], .row 5 [pm t]]
theorem three1 (G : Nat → Option PV) (t : Mn) : PF Tryz.prog G 9 [pm t] (.p (.row 4 [pur t])) := by
  obtain ⟨k, m, s, p, l⟩ := t
  refine ⟨(by first | exact .p | exact .tp (fun x hx => by simp at hx; rcases hx with rfl | rfl <;> exact .p) | exact .tp (fun x hx => by simp at hx; rcases hx with rfl | rfl | rfl <;> exact .p)), bdy Tryz.func9 (fun _ => 0) rfl ?_⟩
  refine rn T 99 [] ?_
  refine rn T 99 [] ?_
  exact rt1 T (.row 4 [pur ⟨k, m, s, p, l⟩]) (rfl)
end Go.Proofs.YtglkkbgflnpjeaaGreatDoor.K
end
section
namespace Go.Proofs.YtglkkbgflnpjeaaGreatDoor.En
set_option linter.unusedVariables false
set_option linter.unusedSimpArgs false
open Go Go.RowKit Go.Proofs.YtglkkbgflnpjeaaGreatDoor.PA
variable {P : Program} {G : Nat → Option PV} {md : Nat → Nat}
theorem EOps.mkB {hbs : Nat → Bool} {ops : Array Oper} {K : St → Prop} {r : List Oper} {i : Nat} {l : List (Nat × TV)} {n : Nat} {o : List (Nat × AObj)} {H : List AObj} {d : Nat} {f : FuncId} {x : Operand} {ty : TypeId} {pos : String} {af : Array Edge} {v : TV}
    (hf : hbs 4294967296 = true) (hx : evM l x = some v) (hd : Nat.blt d n = true) (k : EOps P hbs ops (i + 1) r ((MS.mk ((d, .bf f [v]) :: l) n o H).st G md) K) :
    EOps P hbs ops i (⟨some d, .makeFunc (.func f) #[x] #[], ty, pos, af, none⟩ :: r) ((MS.mk l n o H).st G md) K := by
  refine EOps.sem hf (by unfold WantT; rfl) (fun E a w S g h Q => ?_)
  have hx2 := h.eval x
  rw [show ((MS.mk l n o H).st G md).ev x = _ from evM_ev hx] at hx2
  have hrun : (execOp a.eval ⟨some d, .makeFunc (.func f) #[x] #[], ty, pos, af, none⟩).run P w = .ok (.value (.func (.func f) #[a.eval x] #[])) w := by
    simp [execOp, Instr.makeFunc]
  unfold Oper.wp
  rw [hrun, Oper.upon_value]
  have hput := h.put (v := .bf f [v]) (V := .func (.func f) #[a.eval x] #[]) (.bf (A := [a.eval x]) rfl (fun k y u hy hu => by
    match k with
    | 0 => cases hy; cases hu; exact hx2
    | k + 1 => simp at hy)) (some d)
  rw [st_put hd] at hput
  exact ⟨_, S, g, k, hput⟩
theorem EOps.heB {hbs : Nat → Bool} {ops : Array Oper} {K : St → Prop} {r : List Oper} {i : Nat} {l : List (Nat × TV)} {n : Nat} {o : List (Nat × AObj)} {H : List AObj} {d : Nat} {x : Operand} {args : Array Operand} {ats : Array TypeId} {ty : TypeId} {pos : String} {af : Array Edge} {f : FuncId} {caps vs xs : List TV} {R : TV → List AObj → Prop} {gd : Option (Nat × Bool)}
    (hc : FE P G f xs H R) (k : ∀ v H', R v H' → v.All Nm.isS → HSh H' → EOps P hbs ops (i + 1) r ((MS.mk ((d, v) :: l) n o H').st G md) K)
    (hf : hbs 4294967296 = true) (hg : gtM ops.toList l n gd = true) (hx : evM l x = some (.bf f caps)) (hv : evL l args.toList = some vs) (hr : RelL (obM o H) (caps ++ vs) xs) (hs : shBs xs = true) (hd : Nat.blt d n = true) :
    EOps P hbs ops i (⟨some d, .call ⟨.value x, args, ats⟩, ty, pos, af, gd⟩ :: r) ((MS.mk l n o H).st G md) K := by
  refine EOps.sem hf (want_of hg) (fun E a w S g h Q => ?_)
  have hev := h.eval
  have hx2 := hev x
  rw [show ((MS.mk l n o H).st G md).ev x = _ from evM_ev hx] at hx2
  generalize hX : a.eval x = X at hx2
  cases hx2 with
  | @bf _ _ A hsA hA =>
  have hrun : (execOp a.eval ⟨some d, .call ⟨.value x, args, ats⟩, ty, pos, af, gd⟩).run P w = .ok (.enter f (A ++ args.toList.map a.eval).toArray) w := by
    simp [execOp, resolve, hX, Deferred.ofValue, invoke, callable_run hc.1.1, ← Array.toList_map]
  unfold Oper.wp
  rw [hrun, Oper.upon_enter]
  have hp := hr.iff
  have hvl : vs.length = args.toList.length := evL_len hv
  have hob : ((MS.mk l n o H).st G md).ob = obM o H := st_ob
  have hargs : ∀ (k : Nat) v V, (caps ++ vs)[k]? = some v → (A ++ args.toList.map a.eval)[k]? = some V → TRep (((MS.mk l n o H).st G md).env w S g) v V := by
    intro k v V h1 h2
    by_cases hk : k < caps.length
    · rw [List.getElem?_append_left hk] at h1
      rw [List.getElem?_append_left (by omega)] at h2
      exact hA k v V h1 h2
    · rw [List.getElem?_append_right (by omega)] at h1 h2
      rw [hsA, List.getElem?_map] at h2
      obtain ⟨q, hq, rfl⟩ := Option.map_eq_some_iff.1 h2
      have h5 := evL_get hv hq h1
      have := hev q
      rwa [show ((MS.mk l n o H).st G md).ev q = _ from evM_ev h5] at this
  have hS := shBs_spec xs hs
  refine (hc.1.2 w S g (A ++ args.toList.map a.eval) h.heap (by rw [hp.1]; simp [hsA, hvl]) (fun k y V hy hV => ?_)).mono ?_
  · have hk : k < (caps ++ vs).length := by rw [← hp.1]; exact (List.getElem?_eq_some_iff.1 hy).1
    have h1 := (hp.2 k _ y (List.getElem?_eq_getElem hk) hy).sound (by rw [← hob]; exact h.obs) (hargs k _ V (List.getElem?_eq_getElem hk) hV)
    exact to_henv h1 (hS y (List.mem_of_getElem? hy))
  · rintro e w' ⟨r', H', v, S', g', rfl, h1, h2, h3, h4, h5, h6⟩
    obtain ⟨q1, q2⟩ := h.callH h4 h5 h6
    have hput := q1.put (q2 _ _ h3 h2) (some d)
    rw [show ({ (MS.mk l n o H).st G md with H := H' } : St) = (MS.mk l n o H').st G md from rfl, st_put hd] at hput
    exact ⟨_, _, _, k r' H' h1 h2 h4.hs, hput⟩
theorem hesB {hbs : Nat → Bool} {ops : Array Oper} {K : St → Prop} {r : List Oper} {i : Nat} {l : List (Nat × TV)} {n : Nat} {o : List (Nat × AObj)} {H : List AObj} {d : Nat} {x : Operand} {args : Array Operand} {ats : Array TypeId} {ty : TypeId} {pos : String} {af : Array Edge} {f : FuncId} {caps vs xs : List TV} {R : TV → List AObj → Prop} {gd : Option (Nat × Bool)}
    (hc : FE P G f xs H R) (k : ∀ v H', R v H' → v.All Nm.isS → HSh H' → EOps P hbs ops (i + 1) r ((MS.mk ((d, v) :: l) n o H').st G md) K)
    (hf : hbs 4294967296 = true := by rfl) (hg : gtM ops.toList l n gd = true := by rfl) (hx : evM l x = some (.bf f caps) := by rfl) (hv : evL l args.toList = some vs := by rfl) (hr : RelL (obM o H) (caps ++ vs) xs := by (repeat' apply And.intro) <;> first | exact trivial | exact .inl rfl | rfl | (refine .inr ⟨_, ?_, rfl⟩; exact relT_pv _ _ _ (by (repeat' apply And.intro) <;> first | trivial | rfl))) (hs : shBs xs = true := by rfl) (hd : Nat.blt d n = true := by rfl) :
    EOps P hbs ops i (⟨some d, .call ⟨.value x, args, ats⟩, ty, pos, af, gd⟩ :: r) ((MS.mk l n o H).st G md) K := EOps.heB hc k hf hg hx hv hr hs hd
end Go.Proofs.YtglkkbgflnpjeaaGreatDoor.En
end
