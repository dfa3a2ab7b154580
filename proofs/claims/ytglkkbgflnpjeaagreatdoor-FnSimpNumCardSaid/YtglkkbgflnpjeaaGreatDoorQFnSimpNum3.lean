-- YtglkkbgflnpjeaaGreatDoor's texts for the statement FnSimpNum, one behind the other (merge.py).
import Derived.Test.YtglkkbgflnpjeaaGreatDoorQFnSimpNum2
import Derived.Lib.SliceRun
import Derived.Lib.Walk
import Derived.Lib.AppendZerosOnto
import Derived.Scope
section
namespace Go.Proofs.YtglkkbgflnpjeaaGreatDoor.En
set_option linter.unusedVariables false
set_option linter.unusedSimpArgs false
open Go Go.RowKit Go.Proofs.YtglkkbgflnpjeaaGreatDoor.PA
variable {P : Program} {E : Ent} {σ : St} {a : Act} {w : World} {S : Nat → Nat → Prop} {g : Nm → GV}
def upB (l : Nat → Bool) (i : Nat) : Nat → Bool := fun j => match Nat.beq j i with
  | true => true
  | false => l j
theorem upB_eq (l : Nat → Bool) (i j : Nat) : upB l i j = (if j = i then true else l j) := by
  unfold upB
  by_cases e : j = i
  · subst e; rw [if_pos rfl, Nat.beq_refl]
  · rw [if_neg e]
    cases h : Nat.beq j i with
    | true => exact absurd (Nat.eq_of_beq_eq_true h) e
    | false => rfl
def Step1 (P : Program) (o : Oper) (σ : St) (K : St → Prop) : Prop := ∀ E a w S g, Rep E σ a w S g → ∀ Q : Exit → Act → World → Prop, o.wp P a w (fun a' w' => Beh E K a' w') Q
theorem AW.anyF {id : Nat} {ops : Array Oper} {Q : Exit → St → Prop} (F : (Nat → Bool) → St → Prop) (hm : P.follows .mixedOrders = true) (hg : (ops.toList.all fun o => o.guard.isNone && o.after.toList.all fun e => true) = true)
    (hb : ((List.range ops.size).all fun i => match ops[i]? with | some o => o.after.toList.all (fun e => !Region.binds .any e || Nat.blt e.on i) | none => false) = true)
    (h0 : F (fun _ => false) σ) (hend : ∀ l τ, (∀ i, i < ops.size → l i = true) → F l τ → Q .normal τ)
    (hstep : ∀ (l : Nat → Bool) (i : Nat) (o : Oper), ops[i]? = some o → l i = false → (∀ e ∈ o.after.toList, Region.binds .any e = true → l e.on = true) → ∀ τ, F l τ → Step1 P o τ (F (upB l i))) : AW P (.region id ops true) Q σ := by
  intro E a w S g hr
  refine wp_region_any hm ?_
  have hback : ∀ i o, ops[i]? = some o → ∀ e ∈ o.after.toList, Region.binds .any e = true → e.on < i := by
    intro i o ho e he hbb
    have h1 := List.all_eq_true.1 hb i (List.mem_range.2 (Array.getElem?_eq_some_iff.1 ho).1)
    rw [ho] at h1
    have h2 := List.all_eq_true.1 h1 e he
    rw [hbb] at h2
    simpa using h2
  have hgn : ∀ (i : Nat) (o : Oper), ops[i]? = some o → o.guard = none := by
    intro i o ho
    have h1 := List.all_eq_true.1 hg o (by
      obtain ⟨q1, q2⟩ := Array.getElem?_eq_some_iff.1 ho
      rw [← q2]
      exact Array.getElem_mem_toList q1)
    simp only [Bool.and_eq_true, Option.isNone_iff_eq_none] at h1
    exact h1.1
  have hready : ∀ (listed : Array Bool) i, i ∈ Region.ready .any ops listed ↔ i < ops.size ∧ listed.getD i true = false ∧ ∃ o, ops[i]? = some o ∧ ∀ e ∈ o.after.toList, Region.binds .any e = true → listed.getD e.on false = true := by
    intro listed i
    unfold Region.ready
    rw [List.mem_filter]
    constructor
    · rintro ⟨h1, h2⟩
      simp only [Bool.and_eq_true, Bool.not_eq_true'] at h2
      have hlt := List.mem_range.1 h1
      refine ⟨hlt, h2.1, ops[i], Array.getElem?_eq_getElem hlt, ?_⟩
      have h3 := h2.2
      rw [Array.getElem?_eq_getElem hlt] at h3
      simp only [Option.map_some, Option.getD_some] at h3
      intro e he hb
      have := Array.all_eq_true_iff_forall_mem.1 h3 e (by simpa using he)
      simpa [hb] using this
    · rintro ⟨h1, h2, o, ho, h3⟩
      refine ⟨List.mem_range.2 h1, ?_⟩
      simp only [Bool.and_eq_true, Bool.not_eq_true']
      refine ⟨h2, ?_⟩
      rw [ho]
      simp only [Option.map_some, Option.getD_some]
      refine Array.all_eq_true_iff_forall_mem.2 (fun e he => ?_)
      cases hb : Region.binds .any e with
      | false => rfl
      | true => simp [h3 e (by simpa using he) hb]
  have key : ∀ (fuel : Nat) (listed : Array Bool) (l : Nat → Bool) (τ : St) (a : Act) (w : World) (S : Nat → Nat → Prop) (g : Nm → GV), listed.size = ops.size → (pend ops.size listed).length = fuel → (∀ i, i < ops.size → listed.getD i true = l i) → F l τ → Rep E τ a w S g →
      wpAny P .any ops (fun e a' w' => Beh E (Q e) a' w') fuel listed a w := by
    intro fuel
    induction fuel with
    | zero =>
      intro listed l τ a w S g hsz hf hl hF h
      have hnil : pend ops.size listed = [] := List.length_eq_zero_iff.1 hf
      have hmem : ∀ i, i < ops.size → listed.getD i true = true := fun i hi => by
        cases hq : listed.getD i true with
        | true => rfl
        | false =>
          have : i ∈ pend ops.size listed := by simp only [pend, List.mem_filter, List.mem_range, Bool.not_eq_true']; exact ⟨hi, hq⟩
          rw [hnil] at this; cases this
      refine ⟨?_, ⟨τ, S, g, hend l τ (fun i hi => (hl i hi).symm.trans (hmem i hi)) hF, h⟩⟩
      refine List.eq_nil_iff_forall_not_mem.2 (fun i hi => ?_)
      obtain ⟨h1, h2, _⟩ := (hready listed i).1 hi
      rw [hmem i h1] at h2; cases h2
    | succ fuel ih =>
      intro listed l τ a w S g hsz hf hl hF h
      have hgetD : ∀ i, i < ops.size → ∀ d, listed.getD i d = l i := fun i hi d => by
        rw [← hl i hi]
        have : i < listed.size := by omega
        simp [Array.getD, this]
      refine ⟨fun hnone => ?_, fun i hi => ?_⟩
      · exfalso
        have hex : ∃ i, i ∈ pend ops.size listed := by
          cases hp : pend ops.size listed with
          | nil => rw [hp] at hf; cases hf
          | cons i r => exact ⟨i, by simp⟩
        have hmin : ∀ n i, i < n → i < ops.size → l i = false → ∃ j, j < ops.size ∧ l j = false ∧ ∀ k, k < j → l k = true := by
          intro n
          induction n with
          | zero => intro i hi; omega
          | succ n ihn =>
            intro i hin hi hli
            by_cases hall : ∃ k, k < i ∧ l k = false
            · obtain ⟨k, hk, hlk⟩ := hall
              exact ihn k (by omega) (by omega) hlk
            · refine ⟨i, hi, hli, fun k hk => ?_⟩
              cases hq : l k with
              | true => rfl
              | false => exact absurd ⟨k, hk, hq⟩ hall
        obtain ⟨i, hi⟩ := hex
        have hi2 : i < ops.size ∧ listed.getD i true = false := by simpa [pend] using hi
        obtain ⟨j, hj, hlj, hpre⟩ := hmin (i + 1) i (by omega) hi2.1 (by rw [← hl i hi2.1]; exact hi2.2)
        have : j ∈ Region.ready .any ops listed := (hready listed j).2 ⟨hj, by rw [hl j hj]; exact hlj, ops[j], Array.getElem?_eq_getElem hj, fun e he hbb => by
          have hlt := hback j _ (Array.getElem?_eq_getElem hj) e he hbb
          rw [hgetD e.on (by omega)]
          exact hpre e.on hlt⟩
        rw [hnone] at this; cases this
      · obtain ⟨h1, h2, o, ho, h3⟩ := (hready listed i).1 hi
        have hli : l i = false := by rw [← hl i h1]; exact h2
        have hst := hstep l i o ho hli (fun e he hbb => by
          have hlt := hback i o ho e he hbb
          rw [← hgetD e.on (by omega) false]
          exact h3 e he hbb) τ hF E a w S g h (fun e a' w' => Beh E (Q e) a' w')
        have hwp : wpOp P ops (fun e a' w' => Beh E (Q e) a' w') i (Beh E (F (upB l i))) a w := by
          unfold wpOp
          rw [ho]
          simp only [Region.wanted, hgn i o ho]
          exact .inl hst
        refine wpOp_mono (fun a' w' ⟨τ', S', g', k1, k2⟩ => ?_) hwp
        refine ih (listed.setIfInBounds i true) (upB l i) τ' a' w' S' g' (by simpa using hsz) ?_ (fun j hj => ?_) k1 k2
        · have hp1 : ∀ j, (listed.setIfInBounds i true).getD j true = (if j = i then true else listed.getD j true) := by
            intro j
            simp only [Array.getD_eq_getD_getElem?, Array.getElem?_setIfInBounds]
            by_cases e : i = j
            · subst e
              have : i < listed.size := by omega
              simp [this]
            · simp [e, Ne.symm e]
          have hperm : (pend ops.size (listed.setIfInBounds i true)).length + 1 = (pend ops.size listed).length := by
            unfold pend
            have : ∀ (n : Nat), i < n → ((List.range n).filter (fun j => !(listed.setIfInBounds i true).getD j true)).length + 1 = ((List.range n).filter (fun j => !listed.getD j true)).length := by
              intro n
              induction n with
              | zero => intro h; omega
              | succ n ihn =>
                intro hin
                rw [List.range_succ, List.filter_append, List.filter_append, List.length_append, List.length_append]
                by_cases e : i = n
                · subst e
                  have e1 : (List.range i).filter (fun j => !(listed.setIfInBounds i true).getD j true) = (List.range i).filter (fun j => !listed.getD j true) := by
                    refine List.filter_congr (fun j hj => ?_)
                    have := List.mem_range.1 hj
                    rw [hp1, if_neg (by omega)]
                  have e2 : ([i] : List Nat).filter (fun j => !(listed.setIfInBounds i true).getD j true) = [] := by
                    have q1 : (listed.setIfInBounds i true).getD i true = true := by rw [hp1, if_pos rfl]
                    simp only [List.filter_cons, List.filter_nil, q1]; rfl
                  have e3 : ([i] : List Nat).filter (fun j => !listed.getD j true) = [i] := by
                    simp only [List.filter_cons, List.filter_nil, h2]; rfl
                  rw [e1, e2, e3]; rfl
                · have := ihn (by omega)
                  have e2 : ([n] : List Nat).filter (fun j => !(listed.setIfInBounds i true).getD j true) = ([n] : List Nat).filter (fun j => !listed.getD j true) := by
                    have q1 : (listed.setIfInBounds i true).getD n true = listed.getD n true := by rw [hp1, if_neg (fun q => e q.symm)]
                    simp only [List.filter_cons, List.filter_nil, q1]
                  rw [e2]; omega
            exact this ops.size h1
          omega
        · simp only [Array.getD_eq_getD_getElem?, Array.getElem?_setIfInBounds]
          rw [upB_eq]
          by_cases e : i = j
          · subst e
            have : i < listed.size := by omega
            simp [this]
          · have := hl j hj
            simp only [Array.getD_eq_getD_getElem?] at this
            simp [e, Ne.symm e, this]
  have hp : (pend ops.size (Array.replicate ops.size false)).length = ops.size := by
    have : pend ops.size (Array.replicate ops.size false) = List.range ops.size := by
      unfold pend
      refine List.filter_eq_self.2 (fun i hi => ?_)
      have := List.mem_range.1 hi
      simp [Array.getD, this]
    rw [this]; simp
  exact key ops.size _ (fun _ => false) σ a _ S g (by simp) hp (fun i hi => by simp [Array.getD, hi]) h0 hr.drew
theorem wp_Q {o : Oper} {next : Act → World → Prop} {Q Q' : Exit → Act → World → Prop} (h : o.wp P a w next Q) (hp : ∀ c a w, Q (.panic c) a w → Q' (.panic c) a w) (ho : LetsOut Q → LetsOut Q') : o.wp P a w next Q' := by
  unfold Oper.wp at *
  generalize (execOp a.eval o).run P w = r at *
  cases r with
  | ok n w' =>
    cases n <;> simp only [Oper.upon] at h ⊢ <;>
      first
        | exact h
        | exact Calls.mono h (fun e w'' hq => by cases e <;> first | exact hq | exact hp _ _ _ hq | exact ho hq)
  | halt c w' => cases c <;> first | exact hp _ _ _ h | exact h
theorem Step1.of {o : Oper} {K : St → Prop} (hg : o.guard = none) (h : EOps P (fun _ => true) #[o] 0 [o] σ K) : Step1 P o σ K := by
  intro E a w S g hr Q
  rw [EOps.flag rfl] at h
  have h1 := h rfl E a w S g hr (fun e a' w' => e = .normal ∧ Beh E K a' w') (fun _ _ h => ⟨rfl, h⟩)
  have h2 : wpOps P #[o] (fun e a' w' => e = .normal ∧ Beh E K a' w') [0] a w := h1
  rw [wpOps_cons] at h2
  unfold wpOp at h2
  have h0 : (#[o] : Array Oper)[0]? = some o := rfl
  rw [h0] at h2
  simp only [Region.wanted, hg] at h2
  rcases h2 with h2 | ⟨_, a', w', q, _⟩
  · refine wp_Q (Oper.wp_mono (fun a' w' q => q.2) h2) (fun c a w q => by cases q.1) (fun ⟨a', w', q, _⟩ => by cases q)
  · cases q
section
variable {G : Nat → Option PV} {md : Nat → Nat}
theorem EOps.eqn (T : Tab P) {hbs : Nat → Bool} {ops : Array Oper} {K : St → Prop} {r : List Oper} {i : Nat} {l : List (Nat × TV)} {n : Nat} {o : List (Nat × AObj)} {H : List AObj} {d t ty2 : Nat} {x : Operand} {ty : TypeId} {pos : String} {af : Array Edge} {gd : Option (Nat × Bool)} {e z : Nat} {xs : List PV}
    (hf : hbs 4294967296 = true) (hg : gtM ops.toList l n gd = true) (hx : evM l x = some (.p (.row z xs))) (he : T.sl t = some e) (hd : Nat.blt d n = true)
    (k : ∀ b, (xs ≠ [] → b = false) → EOps P hbs ops (i + 1) r ((MS.mk ((d, .p (.c (.bool b))) :: l) n o H).st G md) K) :
    EOps P hbs ops i (⟨some d, .binOp .eql t x (.const (.slice none 0 0)) ty2, ty, pos, af, gd⟩ :: r) ((MS.mk l n o H).st G md) K := by
  refine EOps.sem hf (want_of hg) (fun E a w S g hr Q => ?_)
  have hev := hr.eval
  have hX := hev x
  rw [show ((MS.mk l n o H).st G md).ev x = _ from evM_ev hx] at hX
  have hsl : ∃ ad len c, a.eval x = .slice ad len c ∧ (xs ≠ [] → ad.isNone = false) := by
    generalize a.eval x = X at hX
    cases hX with
    | p hX =>
      cases hX with
      | nl => exact ⟨_, _, _, rfl, fun h => absurd rfl h⟩
      | row => exact ⟨_, _, _, rfl, fun _ => rfl⟩
  obtain ⟨ad, len, c, h1, h2⟩ := hsl
  have hrun : (execOp a.eval ⟨some d, .binOp .eql t x (.const (.slice none 0 0)) ty2, ty, pos, af, gd⟩).run P w = .ok (.value (.bool ad.isNone)) w := by
    have hc : a.eval (.const (.slice none 0 0)) = .slice none 0 0 := rfl
    have h3 : (do eqGuard .eql t x (.const (.slice none 0 0)) (a.eval x) (a.eval (.const (.slice none 0 0))); Go.binOp .eql t (a.eval x) (a.eval (.const (.slice none 0 0))) : Sem Value).run P w = .ok (.bool ad.isNone) w := by
      rw [h1, hc]
      simp [eqGuard, Lib.run_eql_slice_nil w t e ad len c 0 0 (T.hsl _ _ he)]
    simp only [execOp]
    rw [Sem.run_bind, h3]; rfl
  unfold Oper.wp
  rw [hrun, Oper.upon_value]
  have hput := hr.put (v := .p (.c (.bool ad.isNone))) (V := .bool ad.isNone) (.p (.c rfl)) (some d)
  rw [st_put hd] at hput
  exact ⟨_, S, g, k _ h2, hput⟩
theorem EOps.ap0S (T : Tab P) (ks : List Nm) {ys : List (List TV)} {hbs : Nat → Bool} {ops : Array Oper} {K : St → Prop} {r : List Oper} {i : Nat} {l : List (Nat × TV)} {n : Nat} {o : List (Nat × AObj)} {H : List AObj} {d : Nat} {s x : Operand} {t : TypeId} {ty : TypeId} {pos : String} {af : Array Edge} {gd : Option (Nat × Bool)} {e z by_ : Nat} {b : Bool} {zs : List Value} {X : TV}
    (hf : hbs 4294967296 = true) (hg : gtM ops.toList l n gd = true) (hs : evM l s = some .nil) (hx : evM l x = some X) (he : T.sl t = some e) (hl : T.lay e = some (b, z)) (hz : T.zer e = some zs) (hby : T.byt e = some by_) (hq : (Nat.beq zs.length z && Nat.blt 0 z && Nat.blt 0 by_ && Nat.blt d n) = true)
    (hks : ∀ m ∈ ks, m.isS) (hmd : md d ≠ 0) (hsrc : srcM (obM o H) z X ys) (hk2 : ∀ y ∈ ys.flatten, y.All (· ∈ ks)) (hkl : ∀ m ∈ ks, m.lt H.length) (hby2 : ys.length * by_ ≤ 140737488355328)
    (k : EOps P hbs ops (i + 1) r ((MS.mk ((d, .vw (.S H.length) ys.length) :: l) n o (H ++ [.ow z e ks ys])).st G md) K) :
    EOps P hbs ops i (⟨some d, .call ⟨.builtin .append, #[s, x], #[t, t]⟩, ty, pos, af, gd⟩ :: r) ((MS.mk l n o H).st G md) K := by
  simp only [Bool.and_eq_true] at hq
  obtain ⟨⟨⟨c1, c2⟩, c3⟩, c4⟩ := hq
  have hb : 0 < by_ := Nat.le_of_ble_eq_true c3
  have hok : AppOk P t e z ys.length := ⟨T.hsl _ _ he, ⟨b, T.hlay _ _ hl⟩, ⟨zs, (T.hzer _ _ hz).1, Nat.eq_of_beq_eq_true c1⟩, Nat.le_of_ble_eq_true c2, ⟨by_, T.hbyt _ _ hby, hby2⟩, Nat.le_trans (Nat.le_mul_of_pos_right _ hb) hby2⟩
  have hobm : ((MS.mk l n o H).st G md).ob = obM o H := by funext m; exact obM_ob m
  have hfz : Fresh ((MS.mk l n o H).st G md) (.S H.length) := rfl
  refine EOps.sem hf (want_of hg) (fun E a w S g hr Q => ?_)
  have hev := hr.eval
  have hXr := hev x
  rw [show ((MS.mk l n o H).st G md).ev x = X from evM_ev hx] at hXr
  obtain ⟨ad, c, news, hsr⟩ := hsrc.sound (by rw [← hobm]; exact hr.obs) hXr
  obtain ⟨v', w', r1, r2, r4⟩ := hr.grow0Ow (P := P) (ty := ty) (ks := ks) hfz hok hsr hk2 hkl (fun m hm e => by have := hkl m hm; rw [e] at this; exact Nat.lt_irrefl _ this) (fun j e => hks)
  have hsv : a.eval s = .slice none 0 0 := by
    have h0 := hev s
    rw [show ((MS.mk l n o H).st G md).ev s = .nil from evM_ev hs] at h0
    generalize a.eval s = Y at h0
    cases h0; rfl
  have hrun : (execOp a.eval ⟨some d, .call ⟨.builtin .append, #[s, x], #[t, t]⟩, ty, pos, af, gd⟩).run P w = .ok (.value v') w' := by
    simp [execOp, resolve, invoke, builtin, hsv, r1]
  unfold Oper.wp
  rw [hrun, Oper.upon_value]
  have hput := r4.put (v := .vw (.S H.length) ys.length) (V := v') (.vw (fresh_lt hfz _) r2 (fun k' hk' => ?_)) (some d)
  · rw [show ((MS.mk l n o H).st G md).add (.S H.length) (.ow z e ks ys) = (MS.mk l n o (H ++ [.ow z e ks ys])).st G md from rfl, st_put c4] at hput
    exact ⟨_, S, _, k, hput⟩
  · have e' : ((((MS.mk l n o H).st G md).add (.S H.length) (.ow z e ks ys)).ob (.S H.length)).bind AObj.ln = some k' := hk'
    rw [add_same _ hfz] at e'
    simp only [Option.bind_some, AObj.ln, Option.some.injEq] at e'
    exact ⟨Nat.le_of_eq e', fun _ => (updG_v _ _ _).symm⟩
end
end Go.Proofs.YtglkkbgflnpjeaaGreatDoor.En
end
section
namespace Go.Proofs.YtglkkbgflnpjeaaGreatDoor.K
open Go Go.RowKit Go.Proofs.YtglkkbgflnpjeaaGreatDoor.En Go.Proofs.YtglkkbgflnpjeaaGreatDoor.Ty Go.Proofs.YtglkkbgflnpjeaaGreatDoor.B
set_option maxRecDepth 100000
set_option linter.unusedSimpArgs false
set_option linter.unusedVariables false
set_option pp.deepTerms false
set_option pp.deepTerms.threshold 8
set_option pp.maxSteps 1000
set_option maxHeartbeats 1000000
theorem clone2 (G : Nat → Option PV) (p : List Int) (hp : p.length ≤ 100000) : PF Tryz.prog G 54 [.row 1 (p.map pi)] (.p (.row 1 (p.map pi))) := by
  refine ⟨(by first | exact .p | exact .tp (fun x hx => by simp at hx; rcases hx with rfl | rfl <;> exact .p) | exact .tp (fun x hx => by simp at hx; rcases hx with rfl | rfl | rfl <;> exact .p)), bdy Tryz.func54 (fun _ => 0) rfl ?_⟩
  refine rn T 99 [] ?_
  refine rn T 1 [] ?_
  refine EOps.eqn T rfl rfl rfl rfl rfl ?_
  intro b hb
  refine rn T 99 [] ?_
  cases b with
  | true =>
    have : p = [] := by
      cases p with
      | nil => rfl
      | cons x r => exact absurd (hb (by simp)) (by simp)
    subst this
    refine cts ?_
    refine rn T 99 [] ?_
    exact ret1 T rfl (by (repeat' apply And.intro) <;> first | trivial | rfl | assumption | omega | exact mT rfl | exact mT (by assumption) | exact mM rfl | exact mM (by assumption) | exact mI (by assumption) | exact mS (by assumption) | exact mU (by assumption) | (simp; done) | (simp [Mn.f0, Mn.f1, Mn.f2, Mn.f3, Mn.f4, Tn.f0]; done) | (simp [*]; done) | (simp [relT, eT_eq, eM_eq, PV.cells, Tn.f0, Mn.f4, *]; done) | (simp; omega)) rfl
  | false =>
    refine cfs ?_
    refine rn T 99 [] ?_
    exact ret1 T rfl (by (repeat' apply And.intro) <;> first | trivial | rfl | assumption | omega | exact mT rfl | exact mT (by assumption) | exact mM rfl | exact mM (by assumption) | exact mI (by assumption) | exact mS (by assumption) | exact mU (by assumption) | (simp; done) | (simp [Mn.f0, Mn.f1, Mn.f2, Mn.f3, Mn.f4, Tn.f0]; done) | (simp [*]; done) | (simp [relT, eT_eq, eM_eq, PV.cells, Tn.f0, Mn.f4, *]; done) | (simp; omega)) rfl
theorem named2 (G : Nat → Option PV) (s : ByteArray) : PF Tryz.prog G 33 [ps s] (.p (pm ⟨2, 0, s, [], []⟩)) := by
  refine ⟨(by first | exact .p | exact .tp (fun x hx => by simp at hx; rcases hx with rfl | rfl <;> exact .p) | exact .tp (fun x hx => by simp at hx; rcases hx with rfl | rfl | rfl <;> exact .p)), bdy Tryz.func33 (fun _ => 0) rfl ?_⟩
  refine rn T 99 [] ?_
  refine rn T 99 [] ?_
  exact ret1 T rfl (by (repeat' apply And.intro) <;> first | trivial | rfl | assumption | omega | exact mT rfl | exact mT (by assumption) | exact mM rfl | exact mM (by assumption) | exact mI (by assumption) | exact mS (by assumption) | exact mU (by assumption) | (simp; done) | (simp [Mn.f0, Mn.f1, Mn.f2, Mn.f3, Mn.f4, Tn.f0]; done) | (simp [*]; done) | (simp [relT, eT_eq, eM_eq, PV.cells, Tn.f0, Mn.f4, *]; done) | (simp; omega)) rfl
theorem plain2 (G : Nat → Option PV) (t : Mn) : PF Tryz.prog G 76 [pm t] (.p (pb (t.f0 == 1 || t.f0 == 2))) := by
  obtain ⟨k, m, s, p, l⟩ := t
  show PF _ _ _ [.ag [pi k, pi m, ps s, .row 1 (p.map pi), .row 5 (l.map eM)]] (.p (pb (k == 1 || k == 2)))
  refine ⟨(by first | exact .p | exact .tp (fun x hx => by simp at hx; rcases hx with rfl | rfl <;> exact .p) | exact .tp (fun x hx => by simp at hx; rcases hx with rfl | rfl | rfl <;> exact .p)), bdy Tryz.func76 (fun _ => 0) rfl ?_⟩
  refine rn T 99 [] ?_
  refine rn T 4 [] ?_
  by_cases h : k = 1
  · subst h
    refine rn T 99 [] ?_
    exact ⟨[_], ⟨_, _, rfl, .inl rfl, rfl⟩, .p, rfl⟩
  · rw [show (k == 1) = false by simp [h]]
    refine rn T 99 [] ?_
    exact ⟨[_], ⟨_, _, rfl, .inl rfl, rfl⟩, .p, rfl⟩
def pok : Nat → Mn → Bool
  | 0, _ => true
  | n + 1, t => decide (t.f3.length ≤ 4) && t.f4.all (pok n)
theorem paths2 (G : Nat → Option PV) : ∀ (n : Nat) (t : Mn), dM n t = true → PF Tryz.prog G 34 [pm t] (.p (pb (pok n t))) := by
  intro n
  induction n with
  | zero => intro t h; cases h
  | succ n ih =>
    intro ⟨k, m, s, p, l⟩ h
    have hl : l.length ≤ 2 := dM_len h
    have ihx : ∀ x ∈ l, _ := fun x hx => ih x (by unfold dM at h; simp only [Bool.and_eq_true, List.all_eq_true] at h; exact h.2 x hx)
    show PF _ _ _ [.ag [pi k, pi m, ps s, .row 1 (p.map pi), .row 5 (l.map eM)]] (.p (pb (decide (p.length ≤ 4) && l.all (pok n))))
    refine ⟨(by first | exact .p | exact .tp (fun x hx => by simp at hx; rcases hx with rfl | rfl <;> exact .p) | exact .tp (fun x hx => by simp at hx; rcases hx with rfl | rfl | rfl <;> exact .p)), bdy Tryz.func34 (fun _ => 0) rfl ?_⟩
    refine rn T 99 [] ?_
    refine rn T 99 [] ?_
    by_cases hp : p.length ≤ 4
    · rw [decide_eq_true hp, Bool.true_and]
      refine cfq rfl (by simp; omega) ?_
      refine rn T 99 [] ?_
      refine lpw (fun i : Nat => MS.mk [(12, .p (pi i)), (11, .p (pi (l.map eM).length)), (10, .p (.row 5 (l.map eM))), (1, .ptr (.L 1) 0)] 20 [(1, .box 26 [.p (pi k), .p (pi m), .p (ps s), .p (.row 1 (p.map pi)), .p (.row 5 (l.map eM))])] []) (fun m i => m + i = l.length ∧ (l.take i).all (pok n) = true) (l.length) (0) (by simp) ?_
      intro m2 i ⟨h3, h4⟩
      refine op ?_
      refine rn T 99 [] ?_
      by_cases hi : i < l.length
      · obtain ⟨x, hx, hdd⟩ := drop_ix hi
        refine ctq rfl (by simp [hi]) ?_
        refine rn T 99 [pm x] ?_
        have hc := ihx x (List.mem_of_getElem? hx)
        refine rn T 99 [] ?_
        refine pcs (hc) ?_
        refine rn T 99 [] ?_
        cases hpx : pok n x with
        | true =>
          refine cfs ?_
          refine rn T 99 [] ?_
          rw [wkS (by omega)]
          refine nxt (m2 - 1) (i + 1) (⟨by omega, by rw [List.take_add_one, hx]; simp [h4, hpx]⟩)
        | false =>
          refine cts ?_
          refine rn T 99 [] ?_
          have : l.all (pok n) = false := by
            rw [List.all_eq_false]
            exact ⟨x, List.mem_of_getElem? hx, by simp [hpx]⟩
          rw [this]
          exact ⟨[_], ⟨_, _, rfl, .inl rfl, rfl⟩, .p, rfl⟩
      · refine cfq rfl (by simp [hi]) ?_
        refine rn T 99 [] ?_
        have : l.all (pok n) = true := by rw [← h4, List.take_of_length_le (by omega)]
        rw [this]
        exact ⟨[_], ⟨_, _, rfl, .inl rfl, rfl⟩, .p, rfl⟩
    · rw [decide_eq_false hp, Bool.false_and]
      refine ctq rfl (by simp; omega) ?_
      refine rn T 99 [] ?_
      exact ⟨[_], ⟨_, _, rfl, .inl rfl, rfl⟩, .p, rfl⟩
end Go.Proofs.YtglkkbgflnpjeaaGreatDoor.K
end
section
namespace Go.Proofs.YtglkkbgflnpjeaaGreatDoor.K
open Go Go.RowKit Go.Proofs.YtglkkbgflnpjeaaGreatDoor.En Go.Proofs.YtglkkbgflnpjeaaGreatDoor.Ty Go.Proofs.YtglkkbgflnpjeaaGreatDoor.B
set_option maxRecDepth 100000
set_option linter.unusedSimpArgs false
set_option linter.unusedVariables false
set_option pp.deepTerms false
set_option pp.deepTerms.threshold 8
set_option pp.maxSteps 1000
set_option maxHeartbeats 1000000
theorem equal2 (G : Nat → Option PV) (p q : List Int) (hp : p.length ≤ 100000) (hq : q.length ≤ 100000) : PF Tryz.prog G 78 [.row 1 (p.map pi), .row 1 (q.map pi)] (.p (pb (p == q))) := by
  refine ⟨(by first | exact .p | exact .tp (fun x hx => by simp at hx; rcases hx with rfl | rfl <;> exact .p) | exact .tp (fun x hx => by simp at hx; rcases hx with rfl | rfl | rfl <;> exact .p)), bdy Tryz.func78 (fun _ => 0) rfl ?_⟩
  refine rn T 99 [] ?_
  refine rn T 99 [] ?_
  by_cases hl : p.length = q.length
  · refine cfq rfl (by simp [hl]) ?_
    refine rn T 99 [] ?_
    refine lpw (fun i : Nat => MS.mk [(13, .p (pi i)), (12, .p (pi (p.map pi).length)), (0, .p (.row 1 (p.map pi))), (1, .p (.row 1 (q.map pi)))] 26 [] []) (fun m i => m + i = p.length ∧ p.take i = q.take i) (p.length) (0) (by simp) ?_
    intro m2 i ⟨h3, h4⟩
    refine op ?_
    refine rn T 99 [] ?_
    by_cases hi : i < p.length
    · obtain ⟨x, hx, _⟩ := drop_ix hi
      obtain ⟨y, hy, _⟩ := drop_ix (show i < q.length by omega)
      refine ctq rfl (by simp [hi]) ?_
      refine rn T 99 [] ?_; try (first | refine dr1 ?_ | refine dr2 ?_ | refine dr3 ?_ | refine dr4 ?_)
      refine rn T 99 [pi x, pi y] ?_
      by_cases hxy : x = y
      · subst hxy
        refine cfq rfl (by simp) ?_
        refine rn T 99 [] ?_
        rw [wkS (by omega)]
        refine nxt (m2 - 1) (i + 1) (⟨by omega, by rw [List.take_add_one, List.take_add_one, hx, hy, h4]⟩)
      · refine ctq rfl (by simp [hxy]) ?_
        refine rn T 99 [] ?_
        have : (p == q) = false := by
          rw [beq_eq_false_iff_ne]
          intro e
          subst e
          rw [hx] at hy
          cases hy
          exact hxy rfl
        rw [this]
        exact ⟨[_], ⟨_, _, rfl, .inl rfl, rfl⟩, .p, rfl⟩
    · refine cfq rfl (by simp [hi]) ?_
      refine rn T 99 [] ?_
      have : (p == q) = true := by
        rw [beq_iff_eq]
        rw [List.take_of_length_le (by omega), List.take_of_length_le (by omega)] at h4
        exact h4
      rw [this]
      exact ⟨[_], ⟨_, _, rfl, .inl rfl, rfl⟩, .p, rfl⟩
  · refine ctq rfl (by simp; omega) ?_
    refine rn T 99 [] ?_
    have : (p == q) = false := by
      rw [beq_eq_false_iff_ne]
      exact fun e => hl (by rw [e])
    rw [this]
    exact ⟨[_], ⟨_, _, rfl, .inl rfl, rfl⟩, .p, rfl⟩
def bgn (p q : List Int) : Bool := decide (q.length ≤ p.length) && (p.take q.length == q)
theorem begins2 (G : Nat → Option PV) (p q : List Int) (hp : p.length ≤ 100000) (hq : q.length ≤ 100000) : PF Tryz.prog G 77 [.row 1 (p.map pi), .row 1 (q.map pi)] (.p (pb (bgn p q))) := by
  refine ⟨(by first | exact .p | exact .tp (fun x hx => by simp at hx; rcases hx with rfl | rfl <;> exact .p) | exact .tp (fun x hx => by simp at hx; rcases hx with rfl | rfl | rfl <;> exact .p)), bdy Tryz.func77 (fun _ => 0) rfl ?_⟩
  refine rn T 99 [] ?_
  unfold bgn
  by_cases hl : q.length ≤ p.length
  · rw [decide_eq_true hl, Bool.true_and]
    refine rn T 6 [] ?_
    rw [show decide (((q.map pi).length : Int) ≤ ((p.map pi).length : Int)) = true by simp; omega]
    refine rn T 99 [] ?_
    have ce := equal2 G (p.take q.length) q (by rw [List.length_take]; omega) hq
    rw [show List.drop 0 (List.take ((List.map pi q).length : Int).toNat (List.map pi p)) = (p.take q.length).map pi by simp [List.map_take]]
    refine pcs (ce) ?_
    refine rn T 99 [] ?_
    exact ⟨[_], ⟨_, _, rfl, .inl rfl, rfl⟩, .p, rfl⟩
  · rw [decide_eq_false hl, Bool.false_and]
    refine rn T 6 [] ?_
    rw [show decide (((q.map pi).length : Int) ≤ ((p.map pi).length : Int)) = false by simp; omega]
    refine rn T 99 [] ?_
    exact ⟨[_], ⟨_, _, rfl, .inl rfl, rfl⟩, .p, rfl⟩
theorem atOf2 (G : Nat → Option PV) (p : List Int) (hp : p.length ≤ 100000) (t : Mn) : PF Tryz.prog G 74 [.row 1 (p.map pi), pm t] (.p (pm ⟨7, 0, ⟨#[]⟩, p, [t]⟩)) := by
  obtain ⟨k, m, s, q, l⟩ := t
  refine ⟨(by first | exact .p | exact .tp (fun x hx => by simp at hx; rcases hx with rfl | rfl <;> exact .p) | exact .tp (fun x hx => by simp at hx; rcases hx with rfl | rfl | rfl <;> exact .p)), bdy Tryz.func74 (fun _ => 0) rfl ?_⟩
  refine rn T 99 [] ?_; try (first | refine dr1 ?_ | refine dr2 ?_ | refine dr3 ?_ | refine dr4 ?_)
  refine rn T 99 [] ?_
  refine pcs (clone2 G p hp) ?_
  refine rn T 99 [] ?_
  exact ret1 T rfl (by (repeat' apply And.intro) <;> first | trivial | rfl | assumption | omega | exact mT rfl | exact mT (by assumption) | exact mM rfl | exact mM (by assumption) | exact mI (by assumption) | exact mS (by assumption) | exact mU (by assumption) | (simp; done) | (simp [Mn.f0, Mn.f1, Mn.f2, Mn.f3, Mn.f4, Tn.f0]; done) | (simp [*]; done) | (simp [relT, eT_eq, eM_eq, PV.cells, Tn.f0, Mn.f4, *]; done) | (simp; omega)) rfl
def shp (t : Mn) : PV :=
  if t.f0 = 1 then .ifc 139 (.ag [pi t.f1])
  else if t.f0 = 2 then .ifc 141 (.ag [ps t.f2])
  else if t.f0 = 7 then .ifc 128 (.ag (.row 1 (t.f3.map pi) :: (pm (t.f4.getD 0 ⟨0, 0, ⟨#[]⟩, [], []⟩)).cells))
  else if t.f0 = 8 then .ifc 131 (.ag (.row 1 (t.f3.map pi) :: ((pm (t.f4.getD 0 ⟨0, 0, ⟨#[]⟩, [], []⟩)).cells ++ (pm (t.f4.getD 1 ⟨0, 0, ⟨#[]⟩, [], []⟩)).cells)))
  else .ifc 125 (.ag (pi t.f0 :: ((pm (t.f4.getD 0 ⟨0, 0, ⟨#[]⟩, [], []⟩)).cells ++ (pm (t.f4.getD 1 ⟨0, 0, ⟨#[]⟩, [], []⟩)).cells)))
def arB (t : Mn) : Bool := if t.f0 = 1 ∨ t.f0 = 2 then true else if t.f0 = 7 then decide (t.f4.length = 1) else decide (t.f4.length = 2)
theorem arB_o {k m : Int} {s : ByteArray} {p : List Int} {l : List Mn} (h1 : k ≠ 1) (h2 : k ≠ 2) (h7 : k ≠ 7) : arB ⟨k, m, s, p, l⟩ = decide (l.length = 2) := by
  show (if k = 1 ∨ k = 2 then true else if k = 7 then _ else _) = _
  rw [if_neg (fun q => q.elim h1 h2), if_neg h7]
  rfl
theorem shp_o {k m : Int} {s : ByteArray} {p : List Int} {x y : Mn} (h1 : k ≠ 1) (h2 : k ≠ 2) (h7 : k ≠ 7) (h8 : k ≠ 8) : shp ⟨k, m, s, p, [x, y]⟩ = .ifc 125 (.ag (pi k :: ((pm x).cells ++ (pm y).cells))) := by
  show (if k = 1 then _ else if k = 2 then _ else if k = 7 then _ else if k = 8 then _ else _) = _
  rw [if_neg h1, if_neg h2, if_neg h7, if_neg h8]
  rfl
theorem of2 (G : Nat → Option PV) (t : Mn) (h : arB t = true) : PF Tryz.prog G 64 [pm t] (.p (shp t)) := by
  obtain ⟨k, m, s, p, l⟩ := t
  show PF _ _ _ [.ag [pi k, pi m, ps s, .row 1 (p.map pi), .row 5 (l.map eM)]] _
  refine ⟨(by first | exact .p | exact .tp (fun x hx => by simp at hx; rcases hx with rfl | rfl <;> exact .p) | exact .tp (fun x hx => by simp at hx; rcases hx with rfl | rfl | rfl <;> exact .p)), bdy Tryz.func64 (fun _ => 0) rfl ?_⟩
  refine rn T 99 [] ?_
  refine rn T 99 [] ?_
  refine rn T 99 [] ?_
  by_cases h1 : k = 1
  · subst h1
    refine cts ?_
    refine rn T 99 [] ?_
    exact ⟨[_], ⟨_, _, rfl, .inl rfl, rfl⟩, .p, rfl⟩
  refine cfq rfl (by simp [h1]) ?_
  refine rn T 99 [] ?_
  by_cases h2 : k = 2
  · subst h2
    refine cts ?_
    refine rn T 99 [] ?_
    exact ⟨[_], ⟨_, _, rfl, .inl rfl, rfl⟩, .p, rfl⟩
  refine cfq rfl (by simp [h2]) ?_
  refine rn T 99 [] ?_
  by_cases h7 : k = 7
  · subst h7
    obtain ⟨x, rfl⟩ : ∃ x, l = [x] := by
      have : l.length = 1 := of_decide_eq_true (show arB ⟨7, m, s, p, l⟩ = true from h)
      match l, this with
      | [x], _ => exact ⟨x, rfl⟩
    refine cts ?_; try (first | refine dr1 ?_ | refine dr2 ?_ | refine dr3 ?_ | refine dr4 ?_)
    refine rn T 99 [pm x] ?_
    exact ⟨[_], ⟨_, _, rfl, .inl rfl, rfl⟩, .p, rfl⟩
  refine cfq rfl (by simp [h7]) ?_
  refine rn T 99 [] ?_
  obtain ⟨x, y, rfl⟩ : ∃ x y, l = [x, y] := by
    have : l.length = 2 := by
      rw [arB_o h1 h2 h7] at h
      exact of_decide_eq_true h
    match l, this with
    | [x, y], _ => exact ⟨x, y, rfl⟩
  by_cases h8 : k = 8
  · subst h8
    refine cts ?_; try (first | refine dr1 ?_ | refine dr2 ?_ | refine dr3 ?_ | refine dr4 ?_)
    refine rn T 99 [pm x, pm y] ?_
    exact ⟨[_], ⟨_, _, rfl, .inl rfl, rfl⟩, .p, rfl⟩
  refine cfq rfl (by simp [h8]) ?_; try (first | refine dr1 ?_ | refine dr2 ?_ | refine dr3 ?_ | refine dr4 ?_)
  refine rn T 99 [pm x, pm y] ?_
  rw [shp_o h1 h2 h7 h8]
  exact ⟨[_], ⟨_, _, rfl, .inl rfl, rfl⟩, .p, rfl⟩
end Go.Proofs.YtglkkbgflnpjeaaGreatDoor.K
end
section
namespace Go.Proofs.YtglkkbgflnpjeaaGreatDoor.K
open Go Go.RowKit Go.Proofs.YtglkkbgflnpjeaaGreatDoor.En Go.Proofs.YtglkkbgflnpjeaaGreatDoor.Ty Go.Proofs.YtglkkbgflnpjeaaGreatDoor.B
set_option maxRecDepth 100000
set_option linter.unusedSimpArgs false
set_option linter.unusedVariables false
set_option pp.deepTerms false
set_option pp.deepTerms.threshold 8
set_option pp.maxSteps 1000
set_option maxHeartbeats 1000000
abbrev eT0 (a : Addr) : PV := .ifc 153 (.c (.pointer (some a)))
def GT (a : Addr) : Nat → Option PV := fun i => match Nat.beq i 0 with
  | true => some (eT0 a)
  | false => none
def opv (k x y : Int) : Int := if k = 3 then x + y else if k = 4 then x - y else if x < y then 1 else 0
def okN (n : Int) : Bool := decide (0 ≤ n ∧ n ≤ 9999)
theorem two2 (a : Addr) (k x y : Int) (hk : k = 3 ∨ k = 4 ∨ k = 5) (hx : 0 ≤ x ∧ x ≤ 9999) (hy : 0 ≤ y ∧ y ≤ 9999) :
    PF Tryz.prog (GT a) 73 [pi k, .ag [pi x, .row 1 []], .ag [pi y, .row 1 []]] (.tp [.p (.ag [pi (if okN (opv k x y) = true then opv k x y else 0), .row 1 []]), .p (if okN (opv k x y) = true then .c .nilIface else eT0 a)]) := by
  have hfin : ∀ n : Int, okN n = true ∨ okN n = false := fun n => by cases okN n <;> simp
  refine ⟨(by first | exact .p | exact .tp (fun x hx => by simp at hx; rcases hx with rfl | rfl <;> exact .p) | exact .tp (fun x hx => by simp at hx; rcases hx with rfl | rfl | rfl <;> exact .p)), bdy Tryz.func73 (fun _ => 0) rfl ?_⟩
  refine rn T 99 [] ?_
  refine rn T 99 [] ?_
  refine cfq rfl (by simp; omega) ?_
  refine rn T 99 [] ?_
  refine cfs ?_
  refine rn T 99 [] ?_
  refine rn T 99 [] ?_
  refine rn T 99 [] ?_
  rcases hk with rfl | rfl | rfl
  · refine cts ?_
    refine rn T 99 [] ?_
    have hn : opv 3 x y = (x + y) := by simp [opv]
    rw [hn]
    rw [wk (n := x + y) (by omega) (by omega)]
    by_cases h0 : (x + y) < 0
    · rw [show okN ((x + y)) = false from decide_eq_false (by omega), if_neg (by simp), if_neg (by simp)]
      refine rn T 3 [] ?_
      rw [show decide ((x + y) < 0) = true by simp [h0]]
      refine rn T 99 [] ?_
      refine cts ?_; try (first | refine dr1 ?_ | refine dr2 ?_ | refine dr3 ?_ | refine dr4 ?_)
      refine rn T 99 [] ?_
      exact rt2 T (.ag [pi 0, .row 1 []]) (eT0 a) rfl
    · refine rn T 3 [] ?_
      rw [show decide ((x + y) < 0) = false by simp [h0]]
      refine rn T 99 [] ?_
      by_cases h1 : (x + y) > 9999
      · rw [show okN ((x + y)) = false from decide_eq_false (by omega), if_neg (by simp), if_neg (by simp)]
        refine ctq rfl (by simp [h1]) ?_; try (first | refine dr1 ?_ | refine dr2 ?_ | refine dr3 ?_ | refine dr4 ?_)
        refine rn T 99 [] ?_
        exact rt2 T (.ag [pi 0, .row 1 []]) (eT0 a) rfl
      · rw [show okN ((x + y)) = true from decide_eq_true (by omega), if_pos rfl, if_pos rfl]
        refine cfq rfl (by simp [h1]) ?_
        refine rn T 99 [] ?_
        exact rt2 T (.ag [pi (x + y), .row 1 []]) (.c .nilIface) rfl
  · refine cfs ?_
    refine rn T 99 [] ?_
    refine cts ?_
    refine rn T 99 [] ?_
    have hn : opv 4 x y = (x - y) := by simp [opv]
    rw [hn]
    rw [wk (n := x - y) (by omega) (by omega)]
    by_cases h0 : (x - y) < 0
    · rw [show okN ((x - y)) = false from decide_eq_false (by omega), if_neg (by simp), if_neg (by simp)]
      refine rn T 3 [] ?_
      rw [show decide ((x - y) < 0) = true by simp [h0]]
      refine rn T 99 [] ?_
      refine cts ?_; try (first | refine dr1 ?_ | refine dr2 ?_ | refine dr3 ?_ | refine dr4 ?_)
      refine rn T 99 [] ?_
      exact rt2 T (.ag [pi 0, .row 1 []]) (eT0 a) rfl
    · refine rn T 3 [] ?_
      rw [show decide ((x - y) < 0) = false by simp [h0]]
      refine rn T 99 [] ?_
      by_cases h1 : (x - y) > 9999
      · rw [show okN ((x - y)) = false from decide_eq_false (by omega), if_neg (by simp), if_neg (by simp)]
        refine ctq rfl (by simp [h1]) ?_; try (first | refine dr1 ?_ | refine dr2 ?_ | refine dr3 ?_ | refine dr4 ?_)
        refine rn T 99 [] ?_
        exact rt2 T (.ag [pi 0, .row 1 []]) (eT0 a) rfl
      · rw [show okN ((x - y)) = true from decide_eq_true (by omega), if_pos rfl, if_pos rfl]
        refine cfq rfl (by simp [h1]) ?_
        refine rn T 99 [] ?_
        exact rt2 T (.ag [pi (x - y), .row 1 []]) (.c .nilIface) rfl
  · refine cfs ?_
    refine rn T 99 [] ?_
    refine cfs ?_
    refine rn T 99 [] ?_
    refine cts ?_
    refine rn T 99 [] ?_
    by_cases h : x < y
    · have hn : opv 5 x y = 1 := by simp [opv, h]
      rw [hn, show okN 1 = true from rfl, if_pos rfl, if_pos rfl]
      refine ctq rfl (by simp [h]) ?_
      refine rn T 99 [] ?_
      refine rn T 99 [] ?_
      refine cfs ?_
      refine rn T 99 [] ?_
      exact rt2 T (.ag [pi 1, .row 1 []]) (.c .nilIface) rfl
    · have hn : opv 5 x y = 0 := by simp [opv, h]
      rw [hn, show okN 0 = true from rfl, if_pos rfl, if_pos rfl]
      refine cfq rfl (by simp [h]) ?_
      refine rn T 99 [] ?_
      refine cfs ?_
      refine rn T 99 [] ?_
      exact rt2 T (.ag [pi 0, .row 1 []]) (.c .nilIface) rfl
theorem zero2 : (pm ⟨0, 0, ⟨#[]⟩, [], []⟩) = .ag [pi 0, pi 0, ps ⟨#[]⟩, .row 1 [], .row 5 []] := rfl
def sOp (k : Int) (x y : Mn) : Mn × Bool := if k = 6 ∨ x.f0 ≠ 1 ∨ y.f0 ≠ 1 then (⟨0, 0, ⟨#[]⟩, [], []⟩, false) else
  if okN (opv k x.f1 y.f1) = true then (⟨1, opv k x.f1 y.f1, ⟨#[]⟩, [], []⟩, true) else (⟨1, 0, ⟨#[]⟩, [], []⟩, false)
abbrev numB (t : Mn) : Prop := t.f0 = 1 → 0 ≤ t.f1 ∧ t.f1 ≤ 9999
theorem op2 (a : Addr) (k : Int) (x y : Mn) (hk : k = 3 ∨ k = 4 ∨ k = 5 ∨ k = 6) (hx : numB x) (hy : numB y) :
    PF Tryz.prog (GT a) 65 [.ag (pi k :: ((pm x).cells ++ (pm y).cells))] (.tp [.p (pm (sOp k x y).1), .p (pb (sOp k x y).2)]) := by
  obtain ⟨k1, m1, s1, p1, l1⟩ := x
  obtain ⟨k2, m2, s2, p2, l2⟩ := y
  show PF _ _ _ [.ag [pi k, pi k1, pi m1, ps s1, .row 1 (p1.map pi), .row 5 (l1.map eM), pi k2, pi m2, ps s2, .row 1 (p2.map pi), .row 5 (l2.map eM)]] _
  have hs : sOp k ⟨k1, m1, s1, p1, l1⟩ ⟨k2, m2, s2, p2, l2⟩ = if k = 6 ∨ k1 ≠ 1 ∨ k2 ≠ 1 then (⟨0, 0, ⟨#[]⟩, [], []⟩, false) else if okN (opv k m1 m2) = true then (⟨1, opv k m1 m2, ⟨#[]⟩, [], []⟩, true) else (⟨1, 0, ⟨#[]⟩, [], []⟩, false) := rfl
  rw [hs]
  refine ⟨(by first | exact .p | exact .tp (fun x hx => by simp at hx; rcases hx with rfl | rfl <;> exact .p) | exact .tp (fun x hx => by simp at hx; rcases hx with rfl | rfl | rfl <;> exact .p)), bdy Tryz.func65 (fun _ => 0) rfl ?_⟩
  refine rn T 99 [] ?_
  by_cases h6 : k = 6
  · subst h6
    rw [if_pos (.inl rfl)]
    refine rn T 99 [] ?_
    refine cts ?_
    refine rn T 99 [] ?_
    exact rt2 T (pm ⟨0, 0, ⟨#[]⟩, [], []⟩) (pb false) rfl
  refine rn T 4 [] ?_
  rw [show (k == 6) = false by simp [h6]]
  by_cases h1 : k1 = 1
  · subst h1
    by_cases h2 : k2 = 1
    · subst h2
      rw [if_neg (by simp [h6])]
      refine rn T 99 [] ?_
      refine cfs ?_
      refine rn T 99 [] ?_
      have c2 := two2 a k m1 m2 (by omega) (hx rfl) (hy rfl)
      refine rn T 99 [] ?_
      refine pcs (c2) ?_
      refine rn T 99 [] ?_; try (first | refine dr1 ?_ | refine dr2 ?_ | refine dr3 ?_ | refine dr4 ?_)
      cases ho : okN (opv k m1 m2) with
      | true =>
        rw [if_pos rfl, if_pos rfl, if_pos rfl]
        refine rn T 99 [] ?_
        exact rt2 T (pm ⟨1, opv k m1 m2, ⟨#[]⟩, [], []⟩) (pb true) rfl
      | false =>
        rw [if_neg (by simp), if_neg (by simp), if_neg (by simp)]
        refine rn T 99 [] ?_
        exact rt2 T (pm ⟨1, 0, ⟨#[]⟩, [], []⟩) (pb false) rfl
    · rw [if_pos (.inr (.inr h2))]
      refine rn T 10 [] ?_
      rw [show (k2 != 1) = true by simp [h2]]
      refine rn T 99 [] ?_
      refine cts ?_
      refine rn T 99 [] ?_
      exact rt2 T (pm ⟨0, 0, ⟨#[]⟩, [], []⟩) (pb false) rfl
  · rw [if_pos (.inr (.inl h1))]
    refine rn T 4 [] ?_
    rw [show (k1 != 1) = true by simp [h1]]
    refine rn T 99 [] ?_
    refine cts ?_
    refine rn T 99 [] ?_
    exact rt2 T (pm ⟨0, 0, ⟨#[]⟩, [], []⟩) (pb false) rfl
end Go.Proofs.YtglkkbgflnpjeaaGreatDoor.K
end
section
namespace Go.Proofs.YtglkkbgflnpjeaaGreatDoor.K
open Go Go.RowKit Go.Proofs.YtglkkbgflnpjeaaGreatDoor.En Go.Proofs.YtglkkbgflnpjeaaGreatDoor.Ty Go.Proofs.YtglkkbgflnpjeaaGreatDoor.B
set_option maxRecDepth 100000
set_option linter.unusedSimpArgs false
set_option linter.unusedVariables false
set_option pp.deepTerms false
set_option pp.deepTerms.threshold 8
set_option pp.maxSteps 1000
theorem word71 (G : Nat → Option PV) (s : List Int) (hs : Bytes s) {H0 : List AObj} (hH : HSh H0) (k : Int) (hk : 0 ≤ k) (hk1 : k ≤ 1099511627776) (l : List ByteArray) (hl : l ≠ []) :
    FE Tryz.prog G 28 [.ptr (.S 0) 0, .p (.row 1 (l.map ps))] (rdr s k :: H0) (fun r H' => ∃ v, v ∈ l ∧ r = .p (ps v) ∧ H' = rdr s (k + 1) :: H0) := by
  have hn : 0 < l.length := List.length_pos_iff.2 hl
  refine ⟨?_, _, _, ⟨l[0], List.getElem_mem hn, rfl, rfl⟩, .p, hsh_rdr hH⟩
  refine bdy Tryz.func28 (fun _ => 0) rfl ?_
  refine rn T 99 [] ?_
  refine rn T 99 [] ?_
  refine hes (pick G s hs k (l.map ps).length hk hk1 (by simp; omega) hH) ?_; rintro _ _ ⟨v, hv0, hv1, rfl, rfl⟩ _ _; refine op ?_
  have hv : v.toNat < l.length := by simp at hv1; omega
  have hx : (l.map ps)[v.toNat]? = some (ps l[v.toNat]) := by rw [List.getElem?_map, List.getElem?_eq_getElem hv, Option.map_some]
  refine rn T 99 [ps l[v.toNat]] ?_
  exact ⟨[_], ⟨_, _, rfl, .inl rfl, rfl⟩, .p, l[v.toNat], List.getElem_mem hv, rfl, rfl⟩
def OpenR (s : List Int) (k c : Int) (d : Nat) (r : TV) (H' : List AObj) : Prop := (∃ k', k ≤ k' ∧ k' ≤ k + c ∧ r = .ag [.nil] ∧ H' = [rdr s k']) ∨ (∃ a b k', dp d a = true ∧ dp d b = true ∧ k ≤ k' ∧ k' ≤ k + c ∧ r = .ag [.vw (.S 1) 2] ∧ H' = [rdr s k', .rw 1 56 [pt a, pt b]])
end Go.Proofs.YtglkkbgflnpjeaaGreatDoor.K
end
section
namespace Go.Proofs.YtglkkbgflnpjeaaGreatDoor.K
open Go Go.RowKit Go.Proofs.YtglkkbgflnpjeaaGreatDoor.En Go.Proofs.YtglkkbgflnpjeaaGreatDoor.Ty Go.Proofs.YtglkkbgflnpjeaaGreatDoor.B
set_option maxRecDepth 100000
set_option linter.unusedSimpArgs false
set_option linter.unusedVariables false
set_option pp.deepTerms false
set_option pp.deepTerms.threshold 8
set_option pp.maxSteps 1000
theorem hsh_rw {z : Nat} {t : Nat} {xs : List PV} {H : List AObj} (h : HSh H) : HSh (.rw z t xs :: H) := fun i o ho => by
  cases i with
  | zero =>
    simp only [List.getElem?_cons_zero, Option.some.injEq] at ho
    subst ho
    exact trivial
  | succ i => exact h i o (by simpa using ho)
def OpenM (d : Nat) (s : List Int) (k c : Int) (r : TV) (H' : List AObj) : Prop := ∃ (f0 f1 : Int) (f2 : ByteArray) (k' : Int), k ≤ k' ∧ k' ≤ k + c ∧
  ((r = .ag [.p (pi f0), .p (pi f1), .p (ps f2), .nil, .nil] ∧ H' = [rdr s k']) ∨
   ∃ (p : List Int) (l : List Mn) (P : TV), (l.length ≤ 2 ∧ l.all (dM d) = true) ∧ p.length ≤ 2 ∧ (P = .vw (.S 1) p.length ∨ P = .nil) ∧ r = .ag [.p (pi f0), .p (pi f1), .p (ps f2), P, .vw (.S 2) l.length] ∧ H' = [rdr s k', .rw 1 3 (p.map pi), .rw 5 26 (l.map eM)])
theorem term71v (G : Nat → Option PV) (s : List Int) (hs : Bytes s) (d : Nat) (hd : d + 1 ≤ 20) (k : Int) (hk : 0 ≤ k) (hk1 : k + 16 * 2 ^ (d + 1) ≤ 1099511627776) :
    FE Tryz.prog G 26 [.ptr (.S 0) 0, .p (pi (d + 1 : Nat))] [rdr s k] (OpenM (d + 1) s k (16 * 2 ^ (d + 1) - 8)) := by
    have h2 : (2 : Int) ^ (d + 1) = 2 * 2 ^ d := by rw [Int.pow_succ]; omega
    have h3 : (1 : Int) ≤ 2 ^ d := by
      have : (0 : Int) < 2 ^ d := Int.pow_pos (by omega)
      omega
    refine ⟨?_, _, _, ⟨0, 0, ⟨#[]⟩, k, by omega, by omega, .inl ⟨rfl, rfl⟩⟩, .ag (fun x hx => by simp at hx; rcases hx with rfl | rfl | rfl | rfl | rfl <;> first | exact .p | exact .nil), hsh_rdr hsh_nil⟩
    refine bdy Tryz.func26 (fun d => if d = 26 ∨ d = 48 ∨ d = 62 ∨ d = 74 ∨ d = 87 then 1 else 0) rfl ?_
    refine rn T 99 [] ?_
    refine rn T 3 [] ?_
    by_cases hd0 : d = 0
    · rw [show decide (((d + 1 : Nat) : Int) < 2) = true by simp; omega]
      refine rn T 99 [] ?_
      refine cts ?_
      refine rn T 99 [] ?_
      refine hes (pick G s hs (k) 3 (by omega) (by omega) (by omega) hsh_nil) ?_; rintro _ _ ⟨v, hv0, hv1, rfl, rfl⟩ _ _; refine op ?_
      refine rn T 99 [] ?_
      by_cases hv : v = 0
      · refine ctq rfl (by simp [hv]) ?_
        refine rn T 99 [] ?_
        refine hes (pick G s hs (k + 1) 4 (by omega) (by omega) (by omega) hsh_nil) ?_; rintro _ _ ⟨w, hw0, hw1, rfl, rfl⟩ _ _; refine op ?_
        refine rn T 99 [] ?_
        exact retL T (xs := [.ag [.p (pi 1), .p (pi w), .p (ps ⟨#[]⟩), .nil, .nil]]) rfl ⟨.inl rfl, trivial⟩ (.ag (fun x hx => by simp at hx; rcases hx with rfl | rfl | rfl | rfl | rfl <;> first | exact .p | exact .nil | exact .vw trivial)) ⟨_, _, _, k + 1 + 1, by omega, by omega, .inl ⟨rfl, rfl⟩⟩
      · refine cfq rfl (by simp [hv]) ?_
        refine rn T 99 [] ?_
        refine hes (pick G s hs (k + 1) 3 (by omega) (by omega) (by omega) hsh_nil) ?_; rintro _ _ ⟨w, hw0, hw1, rfl, rfl⟩ _ _; refine op ?_
        obtain rfl | rfl | rfl : w = 0 ∨ w = 1 ∨ w = 2 := by omega
        · refine rn T 99 [ps ⟨#[97]⟩] ?_
          exact retL T (xs := [.ag [.p (pi 2), .p (pi 0), .p (ps ⟨#[97]⟩), .nil, .nil]]) rfl ⟨.inl rfl, trivial⟩ (.ag (fun x hx => by simp at hx; rcases hx with rfl | rfl | rfl | rfl | rfl <;> first | exact .p | exact .nil | exact .vw trivial)) ⟨_, _, _, k + 1 + 1, by omega, by omega, .inl ⟨rfl, rfl⟩⟩
        · refine rn T 99 [ps ⟨#[98]⟩] ?_
          exact retL T (xs := [.ag [.p (pi 2), .p (pi 0), .p (ps ⟨#[98]⟩), .nil, .nil]]) rfl ⟨.inl rfl, trivial⟩ (.ag (fun x hx => by simp at hx; rcases hx with rfl | rfl | rfl | rfl | rfl <;> first | exact .p | exact .nil | exact .vw trivial)) ⟨_, _, _, k + 1 + 1, by omega, by omega, .inl ⟨rfl, rfl⟩⟩
        · refine rn T 99 [ps ⟨#[99]⟩] ?_
          exact retL T (xs := [.ag [.p (pi 2), .p (pi 0), .p (ps ⟨#[99]⟩), .nil, .nil]]) rfl ⟨.inl rfl, trivial⟩ (.ag (fun x hx => by simp at hx; rcases hx with rfl | rfl | rfl | rfl | rfl <;> first | exact .p | exact .nil | exact .vw trivial)) ⟨_, _, _, k + 1 + 1, by omega, by omega, .inl ⟨rfl, rfl⟩⟩
    · rw [show decide (((d + 1 : Nat) : Int) < 2) = false by simp; omega]
      refine rn T 99 [] ?_
      refine hes (pick G s hs k 4 hk (by omega) (by omega) hsh_nil) ?_; rintro _ _ ⟨u, hu0, hu1, rfl, rfl⟩ _ _; refine op ?_
      refine rn T 99 [] ?_
      by_cases hu : u = 0
      · subst hu
        refine cts ?_
        refine rn T 99 [] ?_
        refine hes (pick G s hs (k + 1) 3 (by omega) (by omega) (by omega) hsh_nil) ?_; rintro _ _ ⟨v, hv0, hv1, rfl, rfl⟩ _ _; refine op ?_
        refine rn T 99 [] ?_
        by_cases hv : v = 0
        · refine ctq rfl (by simp [hv]) ?_
          refine rn T 99 [] ?_
          refine hes (pick G s hs (k + 1 + 1) 4 (by omega) (by omega) (by omega) hsh_nil) ?_; rintro _ _ ⟨w, hw0, hw1, rfl, rfl⟩ _ _; refine op ?_
          refine rn T 99 [] ?_
          exact retL T (xs := [.ag [.p (pi 1), .p (pi w), .p (ps ⟨#[]⟩), .nil, .nil]]) rfl ⟨.inl rfl, trivial⟩ (.ag (fun x hx => by simp at hx; rcases hx with rfl | rfl | rfl | rfl | rfl <;> first | exact .p | exact .nil | exact .vw trivial)) ⟨_, _, _, k + 1 + 1 + 1, by omega, by omega, .inl ⟨rfl, rfl⟩⟩
        · refine cfq rfl (by simp [hv]) ?_
          refine rn T 99 [] ?_
          refine hes (pick G s hs (k + 1 + 1) 3 (by omega) (by omega) (by omega) hsh_nil) ?_; rintro _ _ ⟨w, hw0, hw1, rfl, rfl⟩ _ _; refine op ?_
          obtain rfl | rfl | rfl : w = 0 ∨ w = 1 ∨ w = 2 := by omega
          · refine rn T 99 [ps ⟨#[97]⟩] ?_
            exact retL T (xs := [.ag [.p (pi 2), .p (pi 0), .p (ps ⟨#[97]⟩), .nil, .nil]]) rfl ⟨.inl rfl, trivial⟩ (.ag (fun x hx => by simp at hx; rcases hx with rfl | rfl | rfl | rfl | rfl <;> first | exact .p | exact .nil | exact .vw trivial)) ⟨_, _, _, k + 1 + 1 + 1, by omega, by omega, .inl ⟨rfl, rfl⟩⟩
          · refine rn T 99 [ps ⟨#[98]⟩] ?_
            exact retL T (xs := [.ag [.p (pi 2), .p (pi 0), .p (ps ⟨#[98]⟩), .nil, .nil]]) rfl ⟨.inl rfl, trivial⟩ (.ag (fun x hx => by simp at hx; rcases hx with rfl | rfl | rfl | rfl | rfl <;> first | exact .p | exact .nil | exact .vw trivial)) ⟨_, _, _, k + 1 + 1 + 1, by omega, by omega, .inl ⟨rfl, rfl⟩⟩
          · refine rn T 99 [ps ⟨#[99]⟩] ?_
            exact retL T (xs := [.ag [.p (pi 2), .p (pi 0), .p (ps ⟨#[99]⟩), .nil, .nil]]) rfl ⟨.inl rfl, trivial⟩ (.ag (fun x hx => by simp at hx; rcases hx with rfl | rfl | rfl | rfl | rfl <;> first | exact .p | exact .nil | exact .vw trivial)) ⟨_, _, _, k + 1 + 1 + 1, by omega, by omega, .inl ⟨rfl, rfl⟩⟩
      · refine cfq rfl (by simp [hu]) ?_
        refine rn T 99 [] ?_
        refine rn T 99 [] ?_
        refine hes (pick G s hs (k + 1) 3 (by omega) (by omega) (by omega) (hsh_rw hsh_nil)) ?_; rintro _ _ ⟨n, hn0, hn1, rfl, rfl⟩ _ _; refine op ?_
        refine rn T 99 [] ?_
        refine AW.lp (fun x : List Int × Int × Int => MS.mk [(6, .p (pi x.2.2)), (5, .vw (.S 1) x.1.length), (0, .ptr (.S 0) 0), (1, .p (pi (d + 1 : Nat))), (4, .ptr (.L 4) 0)] 89 [(4, .box 26 [.p (pi 0), .p (pi 0), .p (ps ⟨#[]⟩), .nil, .nil])] [rdr s x.2.1, .rw 1 3 (x.1.map pi)]) (fun m x => (m : Int) = x.2.2 ∧ x.1.length + m ≤ 2 ∧ k + 2 ≤ x.2.1 ∧ x.2.1 + x.2.2 ≤ k + 4) n.toNat ([], k + 1 + 1, n) (by simp only [List.length_nil]; omega) (wk_of rfl rfl ⟨.inl rfl, .inl rfl, .inl rfl, .inl rfl, .inl rfl, trivial⟩ ⟨.inl rfl, trivial⟩) ?_
        intro m ⟨p, k', n'⟩ ⟨g1, g2, g3, g4⟩
        simp only at g1 g2 g3 g4
        refine op ?_
        refine rn T 99 [] ?_
        by_cases hm : m = 0
        · subst hm
          refine cfq rfl (by simp; omega) ?_
          refine rn T 99 [] ?_
          refine hes (pick G s hs k' 6 (by omega) (by omega) (by omega) (hsh_rw hsh_nil)) ?_; rintro _ _ ⟨v, hv0, hv1, rfl, rfl⟩ _ _; refine op ?_
          obtain rfl | rfl | rfl | rfl | rfl | rfl : v = 0 ∨ v = 1 ∨ v = 2 ∨ v = 3 ∨ v = 4 ∨ v = 5 := by omega
          · refine rn T 99 [] ?_
            refine cts ?_
            refine cts ?_
            refine rn T 99 [] ?_
            rw [wkP (by omega)]
            refine hes (term71 G s hs (hsh_rw hsh_nil) d (by omega) (k' + 1) (by omega) (by omega)) ?_; rintro _ _ ⟨t1, k1, h11, h12, h13, rfl, rfl⟩ _ _; refine op ?_
            refine rn T 99 [] ?_
            exact retL T (xs := [.ag [.p (pi 7), .p (pi 0), .p (ps ⟨#[]⟩), .vw (.S 1) p.length, .vw (.S 2) 1]]) rfl ⟨.inl rfl, trivial⟩ (.ag (fun x hx => by simp at hx; rcases hx with rfl | rfl | rfl | rfl | rfl <;> first | exact .p | exact .nil | exact .vw trivial)) ⟨_, _, _, k1, by omega, by omega, .inr ⟨p, [t1], .vw (.S 1) p.length, ⟨by simp, by simp [h11]⟩, by omega, .inl rfl, rfl, by simp only [List.map_cons, List.map_nil, eM_eq]; rfl⟩⟩
          · refine rn T 99 [] ?_
            refine cfs ?_
            refine rn T 99 [] ?_
            refine cts ?_
            refine rn T 99 [] ?_
            rw [wkP (by omega)]
            refine hes (term71 G s hs (hsh_rw hsh_nil) d (by omega) (k' + 1) (by omega) (by omega)) ?_; rintro _ _ ⟨t1, k1, h11, h12, h13, rfl, rfl⟩ _ _; refine op ?_
            refine rn T 99 [] ?_
            exact retL T (xs := [.ag [.p (pi 7), .p (pi 0), .p (ps ⟨#[]⟩), .vw (.S 1) p.length, .vw (.S 2) 1]]) rfl ⟨.inl rfl, trivial⟩ (.ag (fun x hx => by simp at hx; rcases hx with rfl | rfl | rfl | rfl | rfl <;> first | exact .p | exact .nil | exact .vw trivial)) ⟨_, _, _, k1, by omega, by omega, .inr ⟨p, [t1], .vw (.S 1) p.length, ⟨by simp, by simp [h11]⟩, by omega, .inl rfl, rfl, by simp only [List.map_cons, List.map_nil, eM_eq]; rfl⟩⟩
          · refine rn T 99 [] ?_
            refine cfs ?_
            refine rn T 99 [] ?_
            refine cfs ?_
            refine rn T 99 [] ?_
            refine cts ?_
            refine cts ?_
            refine rn T 99 [] ?_
            rw [wkP (by omega)]
            refine hes (term71 G s hs (hsh_rw hsh_nil) d (by omega) (k' + 1) (by omega) (by omega)) ?_; rintro _ _ ⟨t1, k1, h11, h12, h13, rfl, rfl⟩ _ _; refine op ?_
            refine rn T 99 [] ?_
            rw [wkP (by omega)]
            refine hes (term71 G s hs (hsh_rw hsh_nil) d (by omega) k1 (by omega) (by omega)) ?_; rintro _ _ ⟨t2, k2, h21, h22, h23, rfl, rfl⟩ _ _; refine op ?_
            refine rn T 99 [] ?_
            exact retL T (xs := [.ag [.p (pi 8), .p (pi 0), .p (ps ⟨#[]⟩), .vw (.S 1) p.length, .vw (.S 2) 2]]) rfl ⟨.inl rfl, trivial⟩ (.ag (fun x hx => by simp at hx; rcases hx with rfl | rfl | rfl | rfl | rfl <;> first | exact .p | exact .nil | exact .vw trivial)) ⟨_, _, _, k2, by omega, by omega, .inr ⟨p, [t1, t2], .vw (.S 1) p.length, ⟨by simp, by simp [h11, h21]⟩, by omega, .inl rfl, rfl, by simp only [List.map_cons, List.map_nil, eM_eq]; rfl⟩⟩
          · refine rn T 99 [] ?_
            refine cfs ?_
            refine rn T 99 [] ?_
            refine cfs ?_
            refine rn T 99 [] ?_
            refine cfs ?_
            refine rn T 99 [] ?_
            refine cts ?_
            refine rn T 99 [] ?_
            rw [wkP (by omega)]
            refine hes (term71 G s hs (hsh_rw hsh_nil) d (by omega) (k' + 1) (by omega) (by omega)) ?_; rintro _ _ ⟨t1, k1, h11, h12, h13, rfl, rfl⟩ _ _; refine op ?_
            refine rn T 99 [] ?_
            rw [wkP (by omega)]
            refine hes (term71 G s hs (hsh_rw hsh_nil) d (by omega) k1 (by omega) (by omega)) ?_; rintro _ _ ⟨t2, k2, h21, h22, h23, rfl, rfl⟩ _ _; refine op ?_
            refine rn T 99 [] ?_
            exact retL T (xs := [.ag [.p (pi 8), .p (pi 0), .p (ps ⟨#[]⟩), .vw (.S 1) p.length, .vw (.S 2) 2]]) rfl ⟨.inl rfl, trivial⟩ (.ag (fun x hx => by simp at hx; rcases hx with rfl | rfl | rfl | rfl | rfl <;> first | exact .p | exact .nil | exact .vw trivial)) ⟨_, _, _, k2, by omega, by omega, .inr ⟨p, [t1, t2], .vw (.S 1) p.length, ⟨by simp, by simp [h11, h21]⟩, by omega, .inl rfl, rfl, by simp only [List.map_cons, List.map_nil, eM_eq]; rfl⟩⟩
          · refine rn T 99 [] ?_
            refine cfs ?_
            refine rn T 99 [] ?_
            refine cfs ?_
            refine rn T 99 [] ?_
            refine cfs ?_
            refine rn T 99 [] ?_
            refine cfs ?_
            refine rn T 99 [] ?_
            refine cts ?_
            refine rn T 99 [] ?_
            rw [wkP (by omega)]
            refine hes (term71 G s hs (hsh_rw hsh_nil) d (by omega) (k' + 1) (by omega) (by omega)) ?_; rintro _ _ ⟨t1, k1, h11, h12, h13, rfl, rfl⟩ _ _; refine op ?_
            refine rn T 99 [] ?_
            rw [wkP (by omega)]
            refine hes (term71 G s hs (hsh_rw hsh_nil) d (by omega) k1 (by omega) (by omega)) ?_; rintro _ _ ⟨t2, k2, h21, h22, h23, rfl, rfl⟩ _ _; refine op ?_
            refine rn T 99 [] ?_
            exact retL T (xs := [.ag [.p (pi (6)), .p (pi 0), .p (ps ⟨#[]⟩), .nil, .vw (.S 2) 2]]) rfl ⟨.inl rfl, trivial⟩ (.ag (fun x hx => by simp at hx; rcases hx with rfl | rfl | rfl | rfl | rfl <;> first | exact .p | exact .nil | exact .vw trivial)) ⟨_, _, _, k2, by omega, by omega, .inr ⟨p, [t1, t2], .nil, ⟨by simp, by simp [h11, h21]⟩, by omega, .inr rfl, rfl, by simp only [List.map_cons, List.map_nil, eM_eq]; rfl⟩⟩
          · refine rn T 99 [] ?_
            refine cfs ?_
            refine rn T 99 [] ?_
            refine cfs ?_
            refine rn T 99 [] ?_
            refine cfs ?_
            refine rn T 99 [] ?_
            refine cfs ?_
            refine rn T 99 [] ?_
            refine cfs ?_
            refine rn T 99 [] ?_
            refine hes (pick G s hs (k' + 1) 3 (by omega) (by omega) (by omega) (hsh_rw hsh_nil)) ?_; rintro _ _ ⟨w, hw0, hw1, rfl, rfl⟩ _ _; refine op ?_
            refine rn T 1 [] ?_
            rw [wk (n := 3 + w) (by omega) (by omega)]
            refine rn T 99 [] ?_
            rw [wkP (by omega)]
            refine hes (term71 G s hs (hsh_rw hsh_nil) d (by omega) (k' + 1 + 1) (by omega) (by omega)) ?_; rintro _ _ ⟨t1, k1, h11, h12, h13, rfl, rfl⟩ _ _; refine op ?_
            refine rn T 99 [] ?_
            rw [wkP (by omega)]
            refine hes (term71 G s hs (hsh_rw hsh_nil) d (by omega) k1 (by omega) (by omega)) ?_; rintro _ _ ⟨t2, k2, h21, h22, h23, rfl, rfl⟩ _ _; refine op ?_
            refine rn T 99 [] ?_
            exact retL T (xs := [.ag [.p (pi (3 + w)), .p (pi 0), .p (ps ⟨#[]⟩), .nil, .vw (.S 2) 2]]) rfl ⟨.inl rfl, trivial⟩ (.ag (fun x hx => by simp at hx; rcases hx with rfl | rfl | rfl | rfl | rfl <;> first | exact .p | exact .nil | exact .vw trivial)) ⟨_, _, _, k2, by omega, by omega, .inr ⟨p, [t1, t2], .nil, ⟨by simp, by simp [h11, h21]⟩, by omega, .inr rfl, rfl, by simp only [List.map_cons, List.map_nil, eM_eq]; rfl⟩⟩
        · refine ctq rfl (by simp; omega) ?_
          refine rn T 99 [] ?_
          refine hes (pick G s hs k' 2 (by omega) (by omega) (by omega) (hsh_rw hsh_nil)) ?_; rintro _ _ ⟨v, hv0, hv1, rfl, rfl⟩ _ _; refine op ?_
          refine rn T 99 [] ?_
          refine rn T 99 [] ?_
          have hlen : p.length + [pi v].length = (p ++ [v]).length := by simp
          have hq : p.map pi ++ [pi v] = (p ++ [v]).map pi := by simp
          rw [List.length_map, hlen, hq, wk (n := n' - 1) (by omega) (by omega)]
          refine nxt (m - 1) ((p ++ [v], k' + 1, n' - 1)) (⟨by simp only; omega, by simp only [List.length_append, List.length_singleton]; omega, by simp only; omega, by simp only; omega⟩)
end Go.Proofs.YtglkkbgflnpjeaaGreatDoor.K
end
section
namespace Go.Proofs.YtglkkbgflnpjeaaGreatDoor.K
open Go Go.RowKit Go.Proofs.YtglkkbgflnpjeaaGreatDoor.En Go.Proofs.YtglkkbgflnpjeaaGreatDoor.Ty Go.Proofs.YtglkkbgflnpjeaaGreatDoor.B
set_option maxRecDepth 100000
set_option linter.unusedSimpArgs false
set_option linter.unusedVariables false
set_option pp.deepTerms false
set_option pp.deepTerms.threshold 8
set_option pp.maxSteps 1000
set_option maxHeartbeats 1000000
theorem intZero : (Tryz.prog.info? 3).map (·.zero) = some (some (.int .i64 0)) := by kernel_rfl
theorem intSize : (Tryz.prog.info? 3).map (·.size) = some 1 := by kernel_rfl
theorem intBytes : (Tryz.prog.info? 3).map (·.bytes) = some 8 := by kernel_rfl
theorem grow_calls (w : World) (n : Nat) (hn : 0 < n) (hb : n ≤ 100000) : Calls Tryz.prog 81 #[.slice none 0 0, .int .i64 n] w fun e w' =>
    ∃ cap cur, n ≤ cap ∧ cap ≤ maxLen ∧ e = .returned (.slice (some ⟨w.heap.size, 0, none⟩) 0 cap) ∧ w' = w.drew.alloc (.cells cur 3) ∧ cur.size = cap := by
  obtain ⟨i0, hi0, hz0⟩ := Option.map_eq_some_iff.1 intZero
  have hs0 : i0.size = 1 := by
    obtain ⟨j, hj, h⟩ := Option.map_eq_some_iff.1 intSize
    rw [hi0] at hj; cases hj; exact h
  have hb0 : i0.bytes = 8 := by
    obtain ⟨j, hj, h⟩ := Option.map_eq_some_iff.1 intBytes
    rw [hi0] at hj; cases hj; exact h
  have h1 : ¬ ((n : Int) < 0) := by omega
  have h2 : wrap64 (((0 : Nat) : Int) - ((0 : Nat) : Int)) = 0 := by unfold wrap64; omega
  have h3 : wrap64 ((n : Int) - 0) = (n : Int) := by unfold wrap64; omega
  have h4 : (n : Int) > 0 := by omega
  have hrz : ∀ ty, (Builtin.append_ #[23, 3] ty #[.slice none 0 0, .int .i64 (n : Int)]).run Tryz.prog w = _ := fun ty => by
    have h := Lib.run_append_grow_zeros w 23 3 ty 3 i0 _ .i64 .i64 Tryz.underlying23 Tryz.underlying3 hi0 hz0 none 0 0 [] (run_firstCells_none w.drew i0.size 0 0 0) n (by omega) (by omega) (by omega) (by omega)
      (by rw [hb0]; omega) (by rw [Nat.zero_add]; exact growslice_fits (by omega) (by rw [hb0]; omega))
    simp only [Nat.zero_add] at h
    exact h
  have hcap : n ≤ grownCap w n 0 3 := by have := grownCap_ge w n 0 3; exact this
  have hmax : grownCap w n 0 3 ≤ maxLen := grownCap_le_maxLen w n 0 3 (by unfold maxLen; omega)
  obtain ⟨cp, hcp⟩ : ∃ cp, cp = grownCap w n 0 3 := ⟨_, rfl⟩
  rw [← hcp] at hrz hcap hmax
  have hm63 : cp ≤ 9223372036854775807 := Nat.le_trans hmax (by decide)
  clear hcp
  go_enter Tryz.func81, Tryz.ntmps81
  go_wp2_with (at_builtin; refine Lib.wpList_append_run _ rfl _ _ _ _ rfl _ _ rfl rfl _ _ (hrz _) ?_)
  all_goals (go_ret; refine ⟨cp, hcap, hmax, rfl, _, rfl, ?_⟩; simp [Builtin.zeroCells, Value.cells]; omega)
theorem grow2 (G : Nat → Option PV) (n : Nat) (hn : 0 < n) (hb : n ≤ 100000) : FE Tryz.prog G 81 [.nil, .p (pi n)] [] (fun r H' => r = .vw (.S 0) 0 ∧ H' = [.rw 1 3 []]) := by
  refine ⟨⟨by kernel_rfl, fun w S g V hh hl hv => ?_⟩, _, _, ⟨rfl, rfl⟩, .vw trivial, hsh_rw hsh_nil⟩
  obtain ⟨v0, v1, rfl⟩ : ∃ v0 v1, V = [v0, v1] := by
    match V, hl with
    | [a, b], _ => exact ⟨a, b, rfl⟩
  have t0 := hv 0 _ v0 rfl rfl
  have t1 := hv 1 _ v1 rfl rfl
  cases t0
  cases t1 with | p t1 =>
  cases t1
  refine (grow_calls w n hn hb).mono ?_
  rintro e w' ⟨cap, cur, h1, h2, rfl, rfl, h3⟩
  have hheap : (w.drew.alloc (.cells cur 3)).heap = w.heap.push (.cells cur 3) := rfl
  have hold : ∀ b, b < w.heap.size → (w.drew.alloc (.cells cur 3)).heap[b]? = w.heap[b]? := fun b hb => by
    rw [hheap, Array.getElem?_push, if_neg (by omega)]
  have hcell : ∀ b k, b < w.heap.size → (w.drew.alloc (.cells cur 3)).cell? ⟨b, k, none⟩ = w.cell? ⟨b, k, none⟩ := fun b k hb => by
    unfold World.cell?
    rw [hold b hb]
  have hnew : (w.drew.alloc (.cells cur 3)).heap[w.heap.size]? = some (.cells cur 3 (0, 0)) := by rw [hheap]; simp
  refine ⟨.vw (.S 0) 0, [.rw 1 3 []], _, S, updG g (.S 0) (gvOf (.slice (some ⟨w.heap.size, 0, none⟩) 0 cap)), rfl, ⟨rfl, rfl⟩, .vw trivial, .vw (by show 0 < 1; omega) rfl (fun k hk => ?_), ?_, ?_, fun i hi => absurd hi (Nat.not_lt_zero _)⟩
  · cases hk
    exact ⟨Nat.le_refl _, fun _ => (updG_v _ _ _).symm⟩
  · refine ⟨fun i o ho => ?_, fun i j hne hi hj => ?_, fun b k hk => ?_, hsh_rw hsh_nil, fun i y hy => ?_⟩
    · cases i with
      | zero =>
        cases ho
        have hg : (henv [.rw 1 3 []] (w.drew.alloc (.cells cur 3)) S (updG g (.S 0) (gvOf (.slice (some ⟨w.heap.size, 0, none⟩) 0 cap)))).g (.S 0) = gvOf (.slice (some ⟨w.heap.size, 0, none⟩) 0 cap) := updG_same (g := g) (.S 0) _
        refine ⟨[], ?_, ?_, (fun x hx => by cases hx), (fun k y u hy => by simp [flat] at hy), ?_⟩
        · rw [hg]
          exact ⟨rfl, .inr ⟨w.heap.size, cap, cur, rfl, Nat.zero_le _, hnew, Nat.zero_le _, h2, by simpa using h3, by simp⟩⟩
        · rw [hg]; exact fun b => Iff.rfl
        · rw [hg]
          intro b hb k
          cases hb
          refine ⟨fun hk => ?_, fun hk => by simp at hk⟩
          have := hh.st _ _ hk
          exact absurd this (Nat.lt_irrefl _)
      | succ i => simp at ho
    · simp at hi hj; omega
    · have := hh.st b k hk
      show b < (w.heap.push _).size
      rw [Array.size_push]; omega
    · obtain ⟨u, q1, q2, q3, q4⟩ := hh.gl i y hy
      refine ⟨u, q1, (hcell i 0 (hh.st _ _ q1)).trans q2, q3, q4.move (fun b k hk => ⟨hk, hcell b k (hh.st b k hk)⟩)⟩
  · refine ⟨rfl, rfl, rfl, ?_, Nat.zero_le _, fun b hb _ => hold b hb, fun b k hk => ⟨hk, hcell b k (hh.st b k hk)⟩, fun b k hk => .inl hk, fun i hi b hb => ?_⟩
    · show w.heap.size ≤ (w.heap.push _).size
      rw [Array.size_push]; omega
    · obtain rfl : i = 0 := by simp at hi; omega
      rw [updG_same] at hb
      have hb : blk (.slice (some ⟨w.heap.size, 0, none⟩) 0 cap) = some b := hb
      cases hb
      exact .inl (Nat.le_refl _)
def cat (p q : List Int) : Nat → List Int
  | 0 => []
  | 1 => p
  | _ => p ++ q
theorem concat2 (G : Nat → Option PV) (p q : List Int) (hb : p.length + q.length ≤ 100000) (h0 : 0 < p.length + q.length) : PF Tryz.prog G 75 [.row 1 [.row 1 (p.map pi), .row 1 (q.map pi)]] (.p (.row 1 ((p ++ q).map pi))) := by
  refine ⟨(by first | exact .p | exact .tp (fun x hx => by simp at hx; rcases hx with rfl | rfl <;> exact .p) | exact .tp (fun x hx => by simp at hx; rcases hx with rfl | rfl | rfl <;> exact .p)), bdy Tryz.func75 (fun _ => 0) rfl ?_⟩
  refine rn T 99 [] ?_
  refine rn T 99 [] ?_
  refine rn T 99 [] ?_
  refine lpw (fun i : Nat => MS.mk [(11, .p (pi i)), (10, .p (pi 2)), (9, .p (.row 1 [.row 1 (p.map pi), .row 1 (q.map pi)])), (3, .p (pi (cat p q i).length)), (0, .p (.row 1 [.row 1 (p.map pi), .row 1 (q.map pi)]))] 36 [] []) (fun m i => m + i = 2) (2) (0) (by simp) ?_
  intro m i hi
  refine op ?_
  refine rn T 99 [] ?_
  obtain rfl | rfl | rfl : i = 0 ∨ i = 1 ∨ i = 2 := by omega
  · refine cts ?_
    refine rn T 99 [.row 1 (p.map pi)] ?_
    refine rn T 99 [] ?_
    rw [show ((cat p q 0).length : Int) + ((p.map pi).length : Int) = ((cat p q 1).length : Int) by simp [cat], wk (by omega) (by simp [cat]; omega)]
    refine rn T 99 [] ?_
    refine cfq rfl (by simp) ?_
    refine rn T 99 [] ?_
    rw [show (((0 : Nat) : Int) + 1) = ((1 : Nat) : Int) by rfl, wk (by omega) (by omega)]
    refine nxt (m - 1) (1) (by omega)
  · refine cts ?_
    refine rn T 99 [.row 1 (q.map pi)] ?_
    refine rn T 99 [] ?_
    rw [show ((cat p q 1).length : Int) + ((q.map pi).length : Int) = ((cat p q 2).length : Int) by simp [cat], wk (by omega) (by simp [cat]; omega)]
    refine rn T 99 [] ?_
    refine cfq rfl (by simp) ?_
    refine rn T 99 [] ?_
    rw [show (((1 : Nat) : Int) + 1) = ((2 : Nat) : Int) by rfl, wk (by omega) (by omega)]
    refine nxt (m - 1) (2) (by omega)
  · refine cfs ?_
    refine rn T 99 [] ?_
    have cg := grow2 G (p.length + q.length) h0 hb
    have e2 : ((cat p q 2).length : Int) = ((p.length + q.length : Nat) : Int) := by simp [cat]
    rw [e2]
    refine hes (cg) ?_; rintro _ _ ⟨rfl, rfl⟩ _ _; refine op ?_
    refine rn T 99 [] ?_
    refine rn T 99 [] ?_
    refine lpw (fun i : Nat => MS.mk [(27, .p (pi i)), (26, .p (pi 2)), (25, .p (.row 1 [.row 1 (p.map pi), .row 1 (q.map pi)])), (6, .vw (.S 0) (cat p q i).length)] 36 [] [.rw 1 3 ((cat p q i).map pi)]) (fun m i => m + i = 2) (2) (0) (by simp) ?_
    intro m i hi
    refine op ?_
    refine rn T 99 [] ?_
    obtain rfl | rfl | rfl : i = 0 ∨ i = 1 ∨ i = 2 := by omega
    · refine cts ?_
      refine rn T 99 [.row 1 (p.map pi)] ?_
      have q1 : (cat p q 0).length + p.length = (cat p q 1).length := by simp [cat]
      have q2 : (cat p q 1).length ≤ 100000 := by simp [cat]; omega
      refine rn T 99 [] ?_
      rw [show ((cat p q 0).map pi).length + (p.map pi).length = (cat p q 1).length by simp [cat], show (cat p q 0).map pi ++ p.map pi = (cat p q 1).map pi by simp [cat]]
      refine rn T 99 [] ?_
      rw [show (((0 : Nat) : Int) + 1) = ((1 : Nat) : Int) by rfl, wk (by omega) (by omega)]
      refine nxt (m - 1) (1) (by omega)
    · refine cts ?_
      refine rn T 99 [.row 1 (q.map pi)] ?_
      have q1 : (cat p q 1).length + q.length = (cat p q 2).length := by simp [cat]
      have q2 : (cat p q 2).length ≤ 100000 := by simp [cat]; omega
      refine rn T 99 [] ?_
      rw [show ((cat p q 1).map pi).length + (q.map pi).length = (cat p q 2).length by simp [cat], show (cat p q 1).map pi ++ q.map pi = (cat p q 2).map pi by simp [cat]]
      refine rn T 99 [] ?_
      rw [show (((1 : Nat) : Int) + 1) = ((2 : Nat) : Int) by rfl, wk (by omega) (by omega)]
      refine nxt (m - 1) (2) (by omega)
    · refine cfs ?_
      refine rn T 99 [] ?_
      exact rt1 T (.row 1 ((p ++ q).map pi)) rfl
end Go.Proofs.YtglkkbgflnpjeaaGreatDoor.K
end
section
namespace Go.Proofs.YtglkkbgflnpjeaaGreatDoor.K
open Go Go.RowKit Go.Proofs.YtglkkbgflnpjeaaGreatDoor.En Go.Proofs.YtglkkbgflnpjeaaGreatDoor.Ty Go.Proofs.YtglkkbgflnpjeaaGreatDoor.B
set_option maxRecDepth 100000
set_option linter.unusedSimpArgs false
set_option linter.unusedVariables false
set_option pp.deepTerms false
set_option pp.deepTerms.threshold 8
set_option pp.maxSteps 1000
set_option maxHeartbeats 1000000
abbrev zM : Mn := ⟨0, 0, ⟨#[]⟩, [], []⟩
abbrev atM (p : List Int) (t : Mn) : Mn := ⟨7, 0, ⟨#[]⟩, p, [t]⟩
def plB (t : Mn) : Bool := t.f0 == 1 || t.f0 == 2
def kid (t : Mn) (i : Nat) : Mn := t.f4.getD i zM
def sAt (p : List Int) (t : Mn) : Option Mn := match p with
  | [] => some t
  | i :: r => if t.f0 = 7 then some (atM (t.f3 ++ (i :: r)) (kid t 0))
    else if t.f0 = 8 then (if bgn (i :: r) t.f3 = true then (if plB (kid t 0) = true then some (atM ((i :: r).drop t.f3.length) (kid t 1)) else none)
      else if bgn t.f3 (i :: r) = false ∧ plB (kid t 1) = true then some (atM (i :: r) (kid t 0)) else none)
    else if t.f0 = 6 then (if i = 0 ∧ plB (kid t 1) = true then some (atM r (kid t 0)) else if i = 1 ∧ plB (kid t 0) = true then some (atM r (kid t 1)) else none)
    else none
theorem at2 (G : Nat → Option PV) (p : List Int) (t : Mn) (h : arB t = true) (hp : p.length ≤ 50000) (hq : t.f3.length ≤ 50000) :
    PF Tryz.prog G 66 [.ag (.row 1 (p.map pi) :: (pm t).cells)] (.tp [.p (pm ((sAt p t).getD zM)), .p (pb (sAt p t).isSome)]) := by
  have ho := of2 G t h
  obtain ⟨k, m, s, q, l⟩ := t
  have hq : q.length ≤ 50000 := hq
  show PF _ _ _ [.ag [.row 1 (p.map pi), pi k, pi m, ps s, .row 1 (q.map pi), .row 5 (l.map eM)]] _
  refine ⟨(by first | exact .p | exact .tp (fun x hx => by simp at hx; rcases hx with rfl | rfl <;> exact .p) | exact .tp (fun x hx => by simp at hx; rcases hx with rfl | rfl | rfl <;> exact .p)), bdy Tryz.func66 (fun _ => 0) rfl ?_⟩
  refine rn T 99 [] ?_
  refine rn T 99 [] ?_
  cases p with
  | nil =>
    refine cts ?_
    refine rn T 99 [] ?_
    exact rt2 T (pm ⟨k, m, s, q, l⟩) (pb true) rfl
  | cons i r =>
    refine cfq rfl (by simp; omega) ?_
    refine rn T 99 [] ?_
    by_cases h1 : k = 1
    · subst h1
      have hs : sAt (i :: r) ⟨1, m, s, q, l⟩ = none := rfl
      rw [hs]
      refine pcs (ho) ?_
      refine rn T 99 [] ?_
      refine cfs ?_
      refine rn T 99 [] ?_
      refine cfs ?_
      refine rn T 99 [] ?_
      refine cfs ?_
      refine rn T 99 [] ?_
      exact rt2 T (pm zM) (pb false) rfl
    by_cases h2 : k = 2
    · subst h2
      have hs : sAt (i :: r) ⟨2, m, s, q, l⟩ = none := rfl
      rw [hs]
      refine pcs (ho) ?_
      refine rn T 99 [] ?_
      refine cfs ?_
      refine rn T 99 [] ?_
      refine cfs ?_
      refine rn T 99 [] ?_
      refine cfs ?_
      refine rn T 99 [] ?_
      exact rt2 T (pm zM) (pb false) rfl
    by_cases h7 : k = 7
    · subst h7
      obtain ⟨x, rfl⟩ : ∃ x, l = [x] := by
        have : l.length = 1 := of_decide_eq_true (show arB ⟨7, m, s, q, l⟩ = true from h)
        match l, this with
        | [x], _ => exact ⟨x, rfl⟩
      have hs : sAt (i :: r) ⟨7, m, s, q, [x]⟩ = some (atM (q ++ (i :: r)) x) := rfl
      rw [hs]
      have ho7 : PF Tryz.prog G 64 [pm ⟨7, m, s, q, [x]⟩] (.p (.ifc 128 (.ag (.row 1 (q.map pi) :: (pm x).cells)))) := ho
      refine pcs (ho7) ?_
      refine rn T 99 [] ?_
      refine cts ?_
      refine rn T 99 [] ?_; try (first | refine dr1 ?_ | refine dr2 ?_ | refine dr3 ?_ | refine dr4 ?_)
      refine rn T 99 [] ?_
      have cc := concat2 G q (i :: r) (by omega) (by simp; omega)
      refine pcs (cc) ?_
      refine rn T 99 [] ?_
      have ca := atOf2 G (q ++ (i :: r)) (by simp at hp ⊢; omega) x
      refine pcs (ca) ?_
      refine rn T 99 [] ?_
      exact rt2 T (pm (atM (q ++ (i :: r)) x)) (pb true) rfl
    obtain ⟨x, y, rfl⟩ : ∃ x y, l = [x, y] := by
      have : l.length = 2 := by
        rw [arB_o h1 h2 h7] at h
        exact of_decide_eq_true h
      match l, this with
      | [x, y], _ => exact ⟨x, y, rfl⟩
    have px := plain2 G x
    have py := plain2 G y
    by_cases h8 : k = 8
    · subst h8
      have hs : sAt (i :: r) ⟨8, m, s, q, [x, y]⟩ = if bgn (i :: r) q = true then (if plB x = true then some (atM ((i :: r).drop q.length) y) else none) else if bgn q (i :: r) = false ∧ plB y = true then some (atM (i :: r) x) else none := rfl
      rw [hs]
      have ho8 : PF Tryz.prog G 64 [pm ⟨8, m, s, q, [x, y]⟩] (.p (.ifc 131 (.ag (.row 1 (q.map pi) :: ((pm x).cells ++ (pm y).cells))))) := ho
      refine pcs (ho8) ?_
      refine rn T 99 [] ?_
      refine cfs ?_
      refine rn T 99 [] ?_
      refine cfs ?_
      refine rn T 99 [] ?_
      refine cts ?_
      refine rn T 99 [] ?_
      refine rn T 99 [] ?_
      have c1 := begins2 G (i :: r) q (by omega) (by omega)
      cases hb : bgn (i :: r) q with
      | true =>
        rw [hb] at c1
        have hle : q.length ≤ (i :: r).length := by
          unfold bgn at hb
          simp only [Bool.and_eq_true, decide_eq_true_eq] at hb
          exact hb.1
        have hle' : q.length ≤ r.length + 1 := by simpa using hle
        refine pcs (c1) ?_
        rw [if_pos rfl]
        refine cts ?_
        refine rn T 99 [] ?_
        cases hx : plB x with
        | true =>
          rw [show (x.f0 == 1 || x.f0 == 2) = true from hx] at px
          refine pcs (px) ?_
          rw [if_pos rfl]
          refine cts ?_; try (first | refine dr1 ?_ | refine dr2 ?_ | refine dr3 ?_ | refine dr4 ?_)
          refine rn T 99 [] ?_
          rw [show List.take (List.map pi (i :: r)).length (List.map pi (i :: r)) = List.map pi (i :: r) from List.take_of_length_le (Nat.le_refl _), show List.drop ((q.map pi).length : Int).toNat (List.map pi (i :: r)) = ((i :: r).drop q.length).map pi by rw [List.map_drop]; simp]
          have ca := atOf2 G ((i :: r).drop q.length) (by rw [List.length_drop]; omega) y
          refine pcs (ca) ?_
          refine rn T 99 [] ?_
          exact rt2 T (pm (atM ((i :: r).drop q.length) y)) (pb true) rfl
        | false =>
          rw [show (x.f0 == 1 || x.f0 == 2) = false from hx] at px
          refine pcs (px) ?_
          rw [if_neg (by simp)]
          refine cfs ?_
          refine rn T 99 [] ?_
          exact rt2 T (pm zM) (pb false) rfl
      | false =>
        rw [hb] at c1
        refine pcs (c1) ?_
        rw [if_neg (by simp)]
        refine cfs ?_
        refine rn T 99 [] ?_
        have c2 := begins2 G q (i :: r) (by omega) (by omega)
        cases hb2 : bgn q (i :: r) with
        | true =>
          rw [hb2] at c2
          refine pcs (c2) ?_
          refine rn T 99 [] ?_
          rw [if_neg (by simp)]
          refine cfs ?_
          refine rn T 99 [] ?_
          exact rt2 T (pm zM) (pb false) rfl
        | false =>
          rw [hb2] at c2
          refine pcs (c2) ?_
          refine rn T 99 [] ?_
          cases hy : plB y with
          | true =>
            rw [show (y.f0 == 1 || y.f0 == 2) = true from hy] at py
            refine pcs (py) ?_
            refine rn T 99 [] ?_
            rw [if_pos ⟨rfl, rfl⟩]
            refine cts ?_
            refine rn T 99 [] ?_
            have ca := atOf2 G (i :: r) (by omega) x
            refine pcs (ca) ?_
            refine rn T 99 [] ?_
            exact rt2 T (pm (atM (i :: r) x)) (pb true) rfl
          | false =>
            rw [show (y.f0 == 1 || y.f0 == 2) = false from hy] at py
            refine pcs (py) ?_
            refine rn T 99 [] ?_
            rw [if_neg (by simp)]
            refine cfs ?_
            refine rn T 99 [] ?_
            exact rt2 T (pm zM) (pb false) rfl
    rw [shp_o h1 h2 h7 h8] at ho
    have hs : sAt (i :: r) ⟨k, m, s, q, [x, y]⟩ = if k = 6 then (if i = 0 ∧ plB y = true then some (atM r x) else if i = 1 ∧ plB x = true then some (atM r y) else none) else none := by
      show (if k = 7 then _ else if k = 8 then _ else _) = _
      rw [if_neg h7, if_neg h8]
      rfl
    rw [hs]
    refine pcs (ho) ?_
    refine rn T 99 [] ?_
    refine cfs ?_
    refine rn T 99 [] ?_
    refine cts ?_
    refine rn T 99 [] ?_
    refine rn T 99 [] ?_
    by_cases h6 : k = 6
    · subst h6
      rw [if_pos rfl]
      refine cfs ?_
      refine rn T 5 [pi i] ?_
      by_cases h0 : i = 0
      · subst h0
        cases hy : plB y with
        | true =>
          rw [show (y.f0 == 1 || y.f0 == 2) = true from hy] at py
          rw [if_pos ⟨rfl, rfl⟩]
          refine rn T 99 [] ?_
          refine pcs (py) ?_
          refine rn T 99 [] ?_
          refine cts ?_; try (first | refine dr1 ?_ | refine dr2 ?_ | refine dr3 ?_ | refine dr4 ?_)
          refine rn T 99 [] ?_
          rw [show List.drop (1 : Int).toNat (List.take (List.map pi (0 :: r)).length (List.map pi (0 :: r))) = r.map pi by simp; exact List.take_of_length_le (by simp)]
          have ca := atOf2 G r (by simp at hp; omega) x
          refine pcs (ca) ?_
          refine rn T 99 [] ?_
          exact rt2 T (pm (atM r x)) (pb true) rfl
        | false =>
          rw [show (y.f0 == 1 || y.f0 == 2) = false from hy] at py
          rw [if_neg (by simp), if_neg (by simp)]
          refine rn T 99 [] ?_
          refine pcs (py) ?_
          refine rn T 99 [] ?_
          refine cfs ?_
          refine rn T 99 [pi 0] ?_
          refine cfs ?_
          refine rn T 99 [] ?_
          exact rt2 T (pm zM) (pb false) rfl
      · rw [show (i == 0) = false by simp [h0], if_neg (fun q => h0 q.1)]
        refine rn T 99 [] ?_
        refine cfs ?_
        refine rn T 5 [pi i] ?_
        by_cases h1' : i = 1
        · subst h1'
          cases hx : plB x with
          | true =>
            rw [show (x.f0 == 1 || x.f0 == 2) = true from hx] at px
            rw [if_pos ⟨rfl, rfl⟩]
            refine rn T 99 [] ?_
            refine pcs (px) ?_
            refine rn T 99 [] ?_
            refine cts ?_; try (first | refine dr1 ?_ | refine dr2 ?_ | refine dr3 ?_ | refine dr4 ?_)
            refine rn T 99 [] ?_
            rw [show List.drop (1 : Int).toNat (List.take (List.map pi (1 :: r)).length (List.map pi (1 :: r))) = r.map pi by simp; exact List.take_of_length_le (by simp)]
            have ca := atOf2 G r (by simp at hp; omega) y
            refine pcs (ca) ?_
            refine rn T 99 [] ?_
            exact rt2 T (pm (atM r y)) (pb true) rfl
          | false =>
            rw [show (x.f0 == 1 || x.f0 == 2) = false from hx] at px
            rw [if_neg (by simp)]
            refine rn T 99 [] ?_
            refine pcs (px) ?_
            refine rn T 99 [] ?_
            refine cfs ?_
            refine rn T 99 [] ?_
            exact rt2 T (pm zM) (pb false) rfl
        · rw [show (i == 1) = false by simp [h1'], if_neg (fun q => h1' q.1)]
          refine rn T 99 [] ?_
          refine cfs ?_
          refine rn T 99 [] ?_
          exact rt2 T (pm zM) (pb false) rfl
    · rw [if_neg h6]
      refine ctq rfl (by simp [h6]) ?_
      refine rn T 99 [] ?_
      exact rt2 T (pm zM) (pb false) rfl
end Go.Proofs.YtglkkbgflnpjeaaGreatDoor.K
end
section
namespace Go.Proofs.YtglkkbgflnpjeaaGreatDoor.En
set_option linter.unusedVariables false
set_option linter.unusedSimpArgs false
open Go Go.RowKit Go.Proofs.YtglkkbgflnpjeaaGreatDoor.PA
variable {P : Program} {G : Nat → Option PV} {md : Nat → Nat}
theorem EOps.taz {hbs : Nat → Bool} {ops : Array Oper} {K : St → Prop} {r : List Oper} {i : Nat} {l : List (Nat × TV)} {n : Nat} {o : List (Nat × AObj)} {H : List AObj} {d t xt t' : Nat} {y : PV} {x : Operand} {ty : TypeId} {pos : String} {af : Array Edge} {gd : Option (Nat × Bool)} {F : Array Field} {zs : List Value}
    (hf : hbs 4294967296 = true) (hg : gtM ops.toList l n gd = true) (hx : evM l x = some (.p (.ifc t' y))) (hne : Nat.beq t' t = false) (hd : P.underlying t = some (.struct F)) (hZ : (P.info? t).bind (·.zero) = some (.agg zs.toArray)) (h1 : zs.all (fun u => u.oneCell') = true) (hdn : Nat.blt d n = true)
    (k : EOps P hbs ops (i + 1) r ((MS.mk ((d, .tp [.ag (zs.map cv), .p (.c (.bool false))]) :: l) n o H).st G md) K) :
    EOps P hbs ops i (⟨some d, .typeAssert x xt t true, ty, pos, af, gd⟩ :: r) ((MS.mk l n o H).st G md) K := by
  refine EOps.sem hf (want_of hg) (fun E a w S g hr Q => ?_)
  have hX := hr.eval x
  rw [show ((MS.mk l n o H).st G md).ev x = _ from evM_ev hx] at hX
  have hz : (zeroValue t).run P w = .ok (.agg zs.toArray) w := by
    cases hi : P.info? t with
    | none => rw [hi] at hZ; cases hZ
    | some i => rw [hi] at hZ; simp only [Option.bind_some] at hZ; simp [zeroValue, typeInfo, hi, hZ]
  have hne' : t' ≠ t := fun e => by rw [e, Nat.beq_refl] at hne; cases hne
  have h1' : ∀ u ∈ zs, u.oneCell' = true := fun u hu => List.all_eq_true.1 h1 u hu
  generalize hXe : a.eval x = X at hX
  cases hX with | p hX =>
  cases hX with
  | @ifc _ _ u hu =>
  have hrun : (execOp a.eval ⟨some d, .typeAssert x xt t true, ty, pos, af, gd⟩).run P w = .ok (.value (.tuple #[.agg zs.toArray, .bool false])) w := by
    simp [execOp, hXe, Instr.typeAssert, run_underlying hd, hne', hz]
  unfold Oper.wp
  rw [hrun, Oper.upon_value]
  have hput := hr.put (v := .tp [.ag (zs.map cv), .p (.c (.bool false))]) (V := .tuple #[.agg zs.toArray, .bool false]) (.tp (A := [.agg zs.toArray, .bool false]) rfl (fun k y q hy hq => ?_)) (some d)
  · rw [st_put hdn] at hput
    exact ⟨_, S, g, k, hput⟩
  · match k with
    | 0 =>
      simp at hy hq
      subst hy; subst hq
      have hc := CRep.consts (Γ := ((MS.mk l n o H).st G md).env w S g) h1'
      exact .ag hc.len hc.get h1'
    | 1 => simp at hy hq; subst hy; subst hq; exact .p (.c rfl)
    | k + 2 => simp at hy
end Go.Proofs.YtglkkbgflnpjeaaGreatDoor.En
end
section
namespace Go.Proofs.YtglkkbgflnpjeaaGreatDoor.K
open Go Go.RowKit Go.Proofs.YtglkkbgflnpjeaaGreatDoor.En Go.Proofs.YtglkkbgflnpjeaaGreatDoor.Ty Go.Proofs.YtglkkbgflnpjeaaGreatDoor.B
set_option maxRecDepth 100000
set_option linter.unusedSimpArgs false
set_option linter.unusedVariables false
set_option pp.deepTerms false
set_option pp.deepTerms.threshold 8
set_option pp.maxSteps 1000
set_option maxHeartbeats 1000000
def sPut (p : List Int) (x y : Mn) : Option Mn := if p = [] ∧ plB x = true then some y else if x.f0 = 8 ∧ x.f3 = p ∧ plB (kid x 1) = true then some ⟨8, 0, ⟨#[]⟩, p, [kid x 0, y]⟩ else none
theorem putZero : (Tryz.prog.info? 131).bind (·.zero) = some (.agg [Value.slice none 0 0, .int .i64 0, .int .i64 0, .string ⟨#[]⟩, .slice none 0 0, .slice none 0 0, .int .i64 0, .int .i64 0, .string ⟨#[]⟩, .slice none 0 0, .slice none 0 0].toArray) := by kernel_rfl
theorem put2 (G : Nat → Option PV) (p : List Int) (x y : Mn) (h : arB x = true) (hp : p.length ≤ 50000) (hq : x.f3.length ≤ 50000) :
    PF Tryz.prog G 67 [.ag (.row 1 (p.map pi) :: ((pm x).cells ++ (pm y).cells))] (.tp [.p (pm ((sPut p x y).getD zM)), .p (pb (sPut p x y).isSome)]) := by
  have px := plain2 G x
  have ho := of2 G x h
  have rest : ∀ (hn : ¬ (p = [] ∧ plB x = true)), sPut p x y = if x.f0 = 8 ∧ x.f3 = p ∧ plB (kid x 1) = true then some ⟨8, 0, ⟨#[]⟩, p, [kid x 0, y]⟩ else none := fun hn => by
    unfold sPut
    rw [if_neg hn]
  obtain ⟨k, m, s, q, l⟩ := x
  have hq : q.length ≤ 50000 := hq
  refine ⟨(by first | exact .p | exact .tp (fun x hx => by simp at hx; rcases hx with rfl | rfl <;> exact .p) | exact .tp (fun x hx => by simp at hx; rcases hx with rfl | rfl | rfl <;> exact .p)), bdy Tryz.func67 (fun _ => 0) rfl ?_⟩
  refine rn T 99 [] ?_
  refine rn T 3 [] ?_
  by_cases hp0 : p = []
  · subst hp0
    refine rn T 99 [] ?_
    cases hx : plB ⟨k, m, s, q, l⟩ with
    | true =>
      rw [show ((⟨k, m, s, q, l⟩ : Mn).f0 == 1 || (⟨k, m, s, q, l⟩ : Mn).f0 == 2) = true from hx] at px
      have hs : sPut [] ⟨k, m, s, q, l⟩ y = some y := by unfold sPut; rw [if_pos ⟨rfl, hx⟩]
      rw [hs]
      refine pcs (px) ?_
      refine rn T 99 [] ?_
      refine cts ?_
      refine rn T 99 [] ?_
      exact rt2 T (pm y) (pb true) rfl
    | false =>
      rw [show ((⟨k, m, s, q, l⟩ : Mn).f0 == 1 || (⟨k, m, s, q, l⟩ : Mn).f0 == 2) = false from hx] at px
      have HN : ¬ (([] : List Int) = [] ∧ plB ⟨k, m, s, q, l⟩ = true) := fun q => by rw [hx] at q; cases q.2
      refine pcs (px) ?_
      refine rn T 99 [] ?_
      refine cfs ?_
      rw [rest HN]
      refine rn T 99 [] ?_
      by_cases h1 : k = 1
      · subst h1
        rw [if_neg (fun q => by cases q.1)]
        refine pcs (ho) ?_
        refine EOps.taz rfl rfl rfl rfl Tryz.underlying131 putZero rfl rfl ?_
        refine rn T 99 [] ?_
        refine rn T 99 [] ?_
        refine cfs ?_
        refine rn T 99 [] ?_
        exact rt2 T (pm zM) (pb false) rfl
      by_cases h2 : k = 2
      · subst h2
        rw [if_neg (fun q => by cases q.1)]
        refine pcs (ho) ?_
        refine EOps.taz rfl rfl rfl rfl Tryz.underlying131 putZero rfl rfl ?_
        refine rn T 99 [] ?_
        refine rn T 99 [] ?_
        refine cfs ?_
        refine rn T 99 [] ?_
        exact rt2 T (pm zM) (pb false) rfl
      by_cases h7 : k = 7
      · subst h7
        rw [if_neg (fun q => by cases q.1)]
        refine pcs (ho) ?_
        refine EOps.taz rfl rfl rfl rfl Tryz.underlying131 putZero rfl rfl ?_
        refine rn T 99 [] ?_
        refine rn T 99 [] ?_
        refine cfs ?_
        refine rn T 99 [] ?_
        exact rt2 T (pm zM) (pb false) rfl
      obtain ⟨a, b, rfl⟩ : ∃ a b, l = [a, b] := by
        have : l.length = 2 := by
          rw [arB_o h1 h2 h7] at h
          exact of_decide_eq_true h
        match l, this with
        | [a, b], _ => exact ⟨a, b, rfl⟩
      by_cases h8 : k = 8
      · subst h8
        have ho8 : PF Tryz.prog G 64 [pm ⟨8, m, s, q, [a, b]⟩] (.p (.ifc 131 (.ag (.row 1 (q.map pi) :: ((pm a).cells ++ (pm b).cells))))) := ho
        have pbb := plain2 G b
        have ce := equal2 G q [] (by omega) (by simp)
        refine pcs (ho8) ?_
        refine rn T 99 [] ?_
        refine rn T 99 [] ?_
        cases he : (q == []) with
        | true =>
          rw [he] at ce
          have he' : q = [] := by simpa using he
          refine pcs (ce) ?_
          refine rn T 99 [] ?_
          cases hb : plB b with
          | true =>
            rw [show (b.f0 == 1 || b.f0 == 2) = true from hb] at pbb
            refine pcs (pbb) ?_
            refine rn T 99 [] ?_
            rw [if_pos ⟨rfl, he', hb⟩]
            refine cts ?_; try (first | refine dr1 ?_ | refine dr2 ?_ | refine dr3 ?_ | refine dr4 ?_)
            refine rn T 99 [] ?_
            have cc := clone2 G [] (by simp)
            refine pcs (cc) ?_
            refine rn T 99 [] ?_
            exact rt2 T (pm ⟨8, 0, ⟨#[]⟩, [], [a, y]⟩) (pb true) rfl
          | false =>
            rw [show (b.f0 == 1 || b.f0 == 2) = false from hb] at pbb
            refine pcs (pbb) ?_
            refine rn T 99 [] ?_
            rw [if_neg (fun q => by have := q.2.2; rw [show plB (kid ⟨8, m, s, _, [a, b]⟩ 1) = plB b from rfl, hb] at this; cases this)]
            refine cfs ?_
            refine rn T 99 [] ?_
            exact rt2 T (pm zM) (pb false) rfl
        | false =>
          rw [he] at ce
          refine pcs (ce) ?_
          refine rn T 99 [] ?_
          rw [if_neg (fun hh => by have h3 : q = [] := hh.2.1; rw [h3] at he; simp at he)]
          refine cfs ?_
          refine rn T 99 [] ?_
          exact rt2 T (pm zM) (pb false) rfl
      rw [shp_o h1 h2 h7 h8] at ho
      rw [if_neg (fun q => h8 q.1)]
      refine pcs (ho) ?_
      refine EOps.taz rfl rfl rfl rfl Tryz.underlying131 putZero rfl rfl ?_
      refine rn T 99 [] ?_
      refine rn T 99 [] ?_
      refine cfs ?_
      refine rn T 99 [] ?_
      exact rt2 T (pm zM) (pb false) rfl
  · have HN : ¬ (p = [] ∧ plB ⟨k, m, s, q, l⟩ = true) := fun q => hp0 q.1
    have hp1 : (((p.map pi).length : Int) == 0) = false := by
      rw [beq_eq_false_iff_ne]
      intro e
      exact hp0 (List.length_eq_zero_iff.1 (by simpa using e))
    refine rn T 1 [] ?_
    rw [hp1]
    refine rn T 99 [] ?_
    refine cfs ?_
    rw [rest HN]
    refine rn T 99 [] ?_
    by_cases h1 : k = 1
    · subst h1
      rw [if_neg (fun q => by cases q.1)]
      refine pcs (ho) ?_
      refine EOps.taz rfl rfl rfl rfl Tryz.underlying131 putZero rfl rfl ?_
      refine rn T 99 [] ?_
      refine rn T 99 [] ?_
      refine cfs ?_
      refine rn T 99 [] ?_
      exact rt2 T (pm zM) (pb false) rfl
    by_cases h2 : k = 2
    · subst h2
      rw [if_neg (fun q => by cases q.1)]
      refine pcs (ho) ?_
      refine EOps.taz rfl rfl rfl rfl Tryz.underlying131 putZero rfl rfl ?_
      refine rn T 99 [] ?_
      refine rn T 99 [] ?_
      refine cfs ?_
      refine rn T 99 [] ?_
      exact rt2 T (pm zM) (pb false) rfl
    by_cases h7 : k = 7
    · subst h7
      rw [if_neg (fun q => by cases q.1)]
      refine pcs (ho) ?_
      refine EOps.taz rfl rfl rfl rfl Tryz.underlying131 putZero rfl rfl ?_
      refine rn T 99 [] ?_
      refine rn T 99 [] ?_
      refine cfs ?_
      refine rn T 99 [] ?_
      exact rt2 T (pm zM) (pb false) rfl
    obtain ⟨a, b, rfl⟩ : ∃ a b, l = [a, b] := by
      have : l.length = 2 := by
        rw [arB_o h1 h2 h7] at h
        exact of_decide_eq_true h
      match l, this with
      | [a, b], _ => exact ⟨a, b, rfl⟩
    by_cases h8 : k = 8
    · subst h8
      have ho8 : PF Tryz.prog G 64 [pm ⟨8, m, s, q, [a, b]⟩] (.p (.ifc 131 (.ag (.row 1 (q.map pi) :: ((pm a).cells ++ (pm b).cells))))) := ho
      have pbb := plain2 G b
      have ce := equal2 G q p (by omega) (by omega)
      refine pcs (ho8) ?_
      refine rn T 99 [] ?_
      refine rn T 99 [] ?_
      cases he : (q == p) with
      | true =>
        rw [he] at ce
        have he' : q = p := by simpa using he
        refine pcs (ce) ?_
        refine rn T 99 [] ?_
        cases hb : plB b with
        | true =>
          rw [show (b.f0 == 1 || b.f0 == 2) = true from hb] at pbb
          refine pcs (pbb) ?_
          refine rn T 99 [] ?_
          rw [if_pos ⟨rfl, he', hb⟩]
          refine cts ?_; try (first | refine dr1 ?_ | refine dr2 ?_ | refine dr3 ?_ | refine dr4 ?_)
          refine rn T 99 [] ?_
          have cc := clone2 G p (by omega)
          refine pcs (cc) ?_
          refine rn T 99 [] ?_
          exact rt2 T (pm ⟨8, 0, ⟨#[]⟩, p, [a, y]⟩) (pb true) rfl
        | false =>
          rw [show (b.f0 == 1 || b.f0 == 2) = false from hb] at pbb
          refine pcs (pbb) ?_
          refine rn T 99 [] ?_
          rw [if_neg (fun q => by have := q.2.2; rw [show plB (kid ⟨8, m, s, _, [a, b]⟩ 1) = plB b from rfl, hb] at this; cases this)]
          refine cfs ?_
          refine rn T 99 [] ?_
          exact rt2 T (pm zM) (pb false) rfl
      | false =>
        rw [he] at ce
        refine pcs (ce) ?_
        refine rn T 99 [] ?_
        rw [if_neg (fun hh => by have h3 : q = p := hh.2.1; rw [h3] at he; simp at he)]
        refine cfs ?_
        refine rn T 99 [] ?_
        exact rt2 T (pm zM) (pb false) rfl
    rw [shp_o h1 h2 h7 h8] at ho
    rw [if_neg (fun q => h8 q.1)]
    refine pcs (ho) ?_
    refine EOps.taz rfl rfl rfl rfl Tryz.underlying131 putZero rfl rfl ?_
    refine rn T 99 [] ?_
    refine rn T 99 [] ?_
    refine cfs ?_
    refine rn T 99 [] ?_
    exact rt2 T (pm zM) (pb false) rfl
end Go.Proofs.YtglkkbgflnpjeaaGreatDoor.K
end
section
namespace Go.Proofs.YtglkkbgflnpjeaaGreatDoor.K
open Go Go.RowKit Go.Proofs.YtglkkbgflnpjeaaGreatDoor.En Go.Proofs.YtglkkbgflnpjeaaGreatDoor.Ty Go.Proofs.YtglkkbgflnpjeaaGreatDoor.B
set_option maxRecDepth 100000
set_option linter.unusedSimpArgs false
set_option linter.unusedVariables false
set_option pp.deepTerms false
set_option pp.deepTerms.threshold 8
set_option pp.maxSteps 1000
set_option maxHeartbeats 1000000
def stp (t : Mn) : Mn × Bool :=
  if t.f0 = 1 ∨ t.f0 = 2 then (zM, false)
  else if t.f0 = 7 then ((sAt t.f3 (kid t 0)).getD zM, (sAt t.f3 (kid t 0)).isSome)
  else if t.f0 = 8 then ((sPut t.f3 (kid t 0) (kid t 1)).getD zM, (sPut t.f3 (kid t 0) (kid t 1)).isSome)
  else sOp t.f0 (kid t 0) (kid t 1)
structure OkS (t : Mn) : Prop where
  ar : arB t = true
  kd : 1 ≤ t.f0 ∧ t.f0 ≤ 8
  pa : t.f3.length ≤ 50000
  ks : ∀ x ∈ t.f4, arB x = true ∧ x.f3.length ≤ 50000 ∧ numB x
theorem step2 (a : Addr) (t : Mn) (h : OkS t) : PF Tryz.prog (GT a) 53 [pm t] (.tp [.p (pm (stp t).1), .p (pb (stp t).2)]) := by
  have ho := of2 (GT a) t h.ar
  obtain ⟨k, m, s, p, l⟩ := t
  have hp : p.length ≤ 50000 := h.pa
  have hk : 1 ≤ k ∧ k ≤ 8 := h.kd
  have har := h.ar
  show PF _ _ _ [.ag [pi k, pi m, ps s, .row 1 (p.map pi), .row 5 (l.map eM)]] _
  refine ⟨(by first | exact .p | exact .tp (fun x hx => by simp at hx; rcases hx with rfl | rfl <;> exact .p) | exact .tp (fun x hx => by simp at hx; rcases hx with rfl | rfl | rfl <;> exact .p)), bdy Tryz.func53 (fun _ => 0) rfl ?_⟩
  refine rn T 99 [] ?_
  refine rn T 99 [] ?_
  by_cases h1 : k = 1
  · subst h1
    refine pcs (ho) ?_
    refine rn T 99 [] ?_
    refine cfs ?_
    refine rn T 99 [] ?_
    refine cfs ?_
    refine rn T 99 [] ?_
    refine cfs ?_
    refine rn T 99 [] ?_
    exact rt2 T (pm zM) (pb false) rfl
  by_cases h2 : k = 2
  · subst h2
    refine pcs (ho) ?_
    refine rn T 99 [] ?_
    refine cfs ?_
    refine rn T 99 [] ?_
    refine cfs ?_
    refine rn T 99 [] ?_
    refine cfs ?_
    refine rn T 99 [] ?_
    exact rt2 T (pm zM) (pb false) rfl
  by_cases h7 : k = 7
  · subst h7
    obtain ⟨x, rfl⟩ : ∃ x, l = [x] := by
      have : l.length = 1 := of_decide_eq_true (show arB ⟨7, m, s, p, l⟩ = true from har)
      match l, this with
      | [x], _ => exact ⟨x, rfl⟩
    obtain ⟨q1, q2, q3⟩ := h.ks x (by simp [Mn.f4])
    have ho7 : PF Tryz.prog (GT a) 64 [pm ⟨7, m, s, p, [x]⟩] (.p (.ifc 128 (.ag (.row 1 (p.map pi) :: (pm x).cells)))) := ho
    have hs : stp ⟨7, m, s, p, [x]⟩ = ((sAt p x).getD zM, (sAt p x).isSome) := rfl
    rw [hs]
    have ca := at2 (GT a) p x q1 hp q2
    refine pcs (ho7) ?_
    refine rn T 99 [] ?_
    refine cfs ?_
    refine rn T 99 [] ?_
    refine cts ?_
    refine rn T 99 [] ?_
    refine rn T 99 [] ?_
    refine pcs (ca) ?_
    refine rn T 99 [] ?_
    exact rt2 T (pm ((sAt p x).getD zM)) (pb (sAt p x).isSome) rfl
  obtain ⟨x, y, rfl⟩ : ∃ x y, l = [x, y] := by
    have : l.length = 2 := by
      rw [arB_o h1 h2 h7] at har
      exact of_decide_eq_true har
    match l, this with
    | [x, y], _ => exact ⟨x, y, rfl⟩
  obtain ⟨q1, q2, q3⟩ := h.ks x (by simp [Mn.f4])
  obtain ⟨r1, r2, r3⟩ := h.ks y (by simp [Mn.f4])
  by_cases h8 : k = 8
  · subst h8
    have ho8 : PF Tryz.prog (GT a) 64 [pm ⟨8, m, s, p, [x, y]⟩] (.p (.ifc 131 (.ag (.row 1 (p.map pi) :: ((pm x).cells ++ (pm y).cells))))) := ho
    have hs : stp ⟨8, m, s, p, [x, y]⟩ = ((sPut p x y).getD zM, (sPut p x y).isSome) := rfl
    rw [hs]
    have ca := put2 (GT a) p x y q1 hp q2
    refine pcs (ho8) ?_
    refine rn T 99 [] ?_
    refine cfs ?_
    refine rn T 99 [] ?_
    refine cfs ?_
    refine rn T 99 [] ?_
    refine cts ?_
    refine rn T 99 [] ?_
    refine rn T 99 [] ?_
    refine pcs (ca) ?_
    refine rn T 99 [] ?_
    exact rt2 T (pm ((sPut p x y).getD zM)) (pb (sPut p x y).isSome) rfl
  have hs : stp ⟨k, m, s, p, [x, y]⟩ = sOp k x y := by
    show (if k = 1 ∨ k = 2 then _ else if k = 7 then _ else if k = 8 then _ else _) = _
    rw [if_neg (fun q => q.elim h1 h2), if_neg h7, if_neg h8]
    rfl
  rw [hs]
  rw [shp_o h1 h2 h7 h8] at ho
  have co := op2 a k x y (by omega) q3 r3
  refine pcs (ho) ?_
  refine rn T 99 [] ?_
  refine cts ?_
  refine rn T 99 [] ?_
  refine rn T 99 [] ?_
  refine pcs (co) ?_
  refine rn T 99 [] ?_
  exact rt2 T (pm (sOp k x y).1) (pb (sOp k x y).2) rfl
end Go.Proofs.YtglkkbgflnpjeaaGreatDoor.K
end
section
namespace Go.Proofs.YtglkkbgflnpjeaaGreatDoor.K
open Go Go.RowKit Go.Proofs.YtglkkbgflnpjeaaGreatDoor.En Go.Proofs.YtglkkbgflnpjeaaGreatDoor.Ty Go.Proofs.YtglkkbgflnpjeaaGreatDoor.B
set_option maxRecDepth 100000
set_option linter.unusedSimpArgs false
set_option linter.unusedVariables false
set_option pp.deepTerms false
set_option pp.deepTerms.threshold 8
set_option pp.maxSteps 1000
set_option maxHeartbeats 1000000
theorem plain1 (G : Nat → Option PV) (t : Mn) : PF Tryz.prog G 39 [pm t] (.p (pb (t.f0 == 1 || t.f0 == 2))) := by
  obtain ⟨k, m, s, p, l⟩ := t
  show PF _ _ _ [.ag [pi k, pi m, ps s, .row 1 (p.map pi), .row 5 (l.map eM)]] (.p (pb (k == 1 || k == 2)))
  refine ⟨(by first | exact .p | exact .tp (fun x hx => by simp at hx; rcases hx with rfl | rfl <;> exact .p) | exact .tp (fun x hx => by simp at hx; rcases hx with rfl | rfl | rfl <;> exact .p)), bdy Tryz.func39 (fun _ => 0) rfl ?_⟩
  refine rn T 99 [] ?_
  refine rn T 4 [] ?_
  by_cases h : k = 1
  · subst h
    refine rn T 99 [] ?_
    exact ⟨[_], ⟨_, _, rfl, .inl rfl, rfl⟩, .p, rfl⟩
  · rw [show (k == 1) = false by simp [h]]
    refine rn T 99 [] ?_
    exact ⟨[_], ⟨_, _, rfl, .inl rfl, rfl⟩, .p, rfl⟩
theorem ints2 (G : Nat → Option PV) (p q : List Int) (hp : p.length ≤ 100000) (hq : q.length ≤ 100000) : PF Tryz.prog G 12 [.row 1 (p.map pi), .row 1 (q.map pi)] (.p (pb (p == q))) := by
  refine ⟨(by first | exact .p | exact .tp (fun x hx => by simp at hx; rcases hx with rfl | rfl <;> exact .p) | exact .tp (fun x hx => by simp at hx; rcases hx with rfl | rfl | rfl <;> exact .p)), bdy Tryz.func12 (fun _ => 0) rfl ?_⟩
  refine rn T 99 [] ?_
  refine rn T 99 [] ?_
  by_cases hl : p.length = q.length
  · refine cfq rfl (by simp [hl]) ?_
    refine rn T 99 [] ?_
    refine lpw (fun i : Nat => MS.mk [(5, .p (pi i)), (0, .p (.row 1 (p.map pi))), (1, .p (.row 1 (q.map pi)))] 26 [] []) (fun m i => m + i = p.length ∧ p.take i = q.take i) (p.length) (0) (by simp) ?_
    intro m2 i ⟨h3, h4⟩
    refine op ?_
    refine rn T 99 [] ?_
    by_cases hi : i < p.length
    · obtain ⟨x, hx, _⟩ := drop_ix hi
      obtain ⟨y, hy, _⟩ := drop_ix (show i < q.length by omega)
      refine ctq rfl (by simp [hi]) ?_; try (first | refine dr1 ?_ | refine dr2 ?_ | refine dr3 ?_ | refine dr4 ?_)
      refine rn T 99 [pi x, pi y] ?_
      by_cases hxy : x = y
      · subst hxy
        refine cfq rfl (by simp) ?_
        refine rn T 99 [] ?_
        rw [wkS (by omega)]
        refine nxt (m2 - 1) (i + 1) (⟨by omega, by rw [List.take_add_one, List.take_add_one, hx, hy, h4]⟩)
      · refine ctq rfl (by simp [hxy]) ?_
        refine rn T 99 [] ?_
        have : (p == q) = false := by
          rw [beq_eq_false_iff_ne]
          intro e
          subst e
          rw [hx] at hy
          cases hy
          exact hxy rfl
        rw [this]
        exact ⟨[_], ⟨_, _, rfl, .inl rfl, rfl⟩, .p, rfl⟩
    · refine cfq rfl (by simp [hi]) ?_
      refine rn T 99 [] ?_
      have : (p == q) = true := by
        rw [beq_iff_eq]
        rw [List.take_of_length_le (by omega), List.take_of_length_le (by omega)] at h4
        exact h4
      rw [this]
      exact ⟨[_], ⟨_, _, rfl, .inl rfl, rfl⟩, .p, rfl⟩
  · refine ctq rfl (by simp; omega) ?_
    refine rn T 99 [] ?_
    have : (p == q) = false := by
      rw [beq_eq_false_iff_ne]
      exact fun e => hl (by rw [e])
    rw [this]
    exact ⟨[_], ⟨_, _, rfl, .inl rfl, rfl⟩, .p, rfl⟩
theorem meet1 (G : Nat → Option PV) (p q : List Int) (hp : p.length ≤ 100000) (hl : p.length = q.length) : PF Tryz.prog G 57 [.row 1 (p.map pi), .row 1 (q.map pi)] (.p (pb (p == q))) := by
  refine ⟨(by first | exact .p | exact .tp (fun x hx => by simp at hx; rcases hx with rfl | rfl <;> exact .p) | exact .tp (fun x hx => by simp at hx; rcases hx with rfl | rfl | rfl <;> exact .p)), bdy Tryz.func57 (fun _ => 0) rfl ?_⟩
  refine rn T 99 [] ?_
  refine rn T 99 [] ?_
  refine lpw (fun i : Nat => MS.mk [(5, .p (pi i)), (0, .p (.row 1 (p.map pi))), (1, .p (.row 1 (q.map pi)))] 27 [] []) (fun m i => m + i = p.length ∧ p.take i = q.take i) (p.length) (0) (by simp) ?_
  intro m2 i ⟨h3, h4⟩
  refine op ?_
  refine rn T 4 [] ?_
  by_cases hi : i < p.length
  · obtain ⟨x, hx, _⟩ := drop_ix hi
    obtain ⟨y, hy, _⟩ := drop_ix (show i < q.length by omega)
    rw [show decide ((i : Int) < ((p.map pi).length : Int)) = true by simp [hi]]
    refine rn T 99 [] ?_
    refine ctq rfl (by simp; omega) ?_; try (first | refine dr1 ?_ | refine dr2 ?_ | refine dr3 ?_ | refine dr4 ?_)
    refine rn T 99 [pi x, pi y] ?_
    by_cases hxy : x = y
    · subst hxy
      refine cfq rfl (by simp) ?_
      refine rn T 99 [] ?_
      rw [wkS (by omega)]
      refine nxt (m2 - 1) (i + 1) (⟨by omega, by rw [List.take_add_one, List.take_add_one, hx, hy, h4]⟩)
    · refine ctq rfl (by simp [hxy]) ?_
      refine rn T 99 [] ?_
      have : (p == q) = false := by
        rw [beq_eq_false_iff_ne]
        intro e
        subst e
        rw [hx] at hy
        cases hy
        exact hxy rfl
      rw [this]
      exact ⟨[_], ⟨_, _, rfl, .inl rfl, rfl⟩, .p, rfl⟩
  · rw [show decide ((i : Int) < ((p.map pi).length : Int)) = false by simp [hi]]
    refine rn T 99 [] ?_
    refine cfs ?_
    refine rn T 99 [] ?_
    have : (p == q) = true := by
      rw [beq_iff_eq]
      rw [List.take_of_length_le (by omega), List.take_of_length_le (by omega)] at h4
      exact h4
    rw [this]
    exact ⟨[_], ⟨_, _, rfl, .inl rfl, rfl⟩, .p, rfl⟩
def opv' (k x y : Int) : Int := if k = 3 then x + y else if k = 4 then x - y else if x < y then 1 else 0
def okO (k x y : Int) : Bool := if k = 3 then decide (x + y ≤ 9999) else if k = 4 then decide (y ≤ x) else true
theorem opn1 (G : Nat → Option PV) (k x y : Int) (hx : 0 ≤ x ∧ x ≤ 9999) (hy : 0 ≤ y ∧ y ≤ 9999) : PF Tryz.prog G 42 [pi k, pi x, pi y] (.tp [.p (pi (opv' k x y)), .p (pb (okO k x y))]) := by
  unfold opv' okO
  refine ⟨(by first | exact .p | exact .tp (fun x hx => by simp at hx; rcases hx with rfl | rfl <;> exact .p) | exact .tp (fun x hx => by simp at hx; rcases hx with rfl | rfl | rfl <;> exact .p)), bdy Tryz.func42 (fun _ => 0) rfl ?_⟩
  refine rn T 99 [] ?_
  refine rn T 99 [] ?_
  refine rn T 99 [] ?_
  by_cases h3 : k = 3
  · subst h3
    refine cts ?_
    refine rn T 99 [] ?_
    rw [wk (by omega) (by omega)]
    exact rt2 T (pi (x + y)) (pb (decide (x + y ≤ 9999))) rfl
  rw [if_neg h3, if_neg h3]
  refine cfq rfl (by simp [h3]) ?_
  refine rn T 99 [] ?_
  by_cases h4 : k = 4
  · subst h4
    refine cts ?_
    refine rn T 99 [] ?_
    rw [wk (by omega) (by omega)]
    exact rt2 T (pi (x - y)) (pb (decide (y ≤ x))) rfl
  rw [if_neg h4, if_neg h4]
  refine cfq rfl (by simp [h4]) ?_
  refine rn T 99 [] ?_
  by_cases hxy : x < y
  · rw [if_pos hxy]
    refine ctq rfl (by simp [hxy]) ?_
    refine rn T 99 [] ?_
    exact rt2 T (pi 1) (pb true) rfl
  · rw [if_neg hxy]
    refine cfq rfl (by simp [hxy]) ?_
    refine rn T 99 [] ?_
    exact rt2 T (pi 0) (pb true) rfl
end Go.Proofs.YtglkkbgflnpjeaaGreatDoor.K
end
section
namespace Go.Proofs.YtglkkbgflnpjeaaGreatDoor.K
open Go Go.RowKit Go.Proofs.YtglkkbgflnpjeaaGreatDoor.En Go.Proofs.YtglkkbgflnpjeaaGreatDoor.Ty Go.Proofs.YtglkkbgflnpjeaaGreatDoor.B
set_option maxRecDepth 100000
set_option linter.unusedSimpArgs false
set_option linter.unusedVariables false
set_option pp.deepTerms false
set_option pp.deepTerms.threshold 8
set_option pp.maxSteps 1000
set_option maxHeartbeats 1000000
def dP : Nat → Mn → Bool
  | 0, _ => false
  | n + 1, t => decide (t.f4.length ≤ 2) && decide (t.f3.length ≤ 50000) && t.f4.all (dP n)
theorem dP_inv {n : Nat} {k m : Int} {s : ByteArray} {p : List Int} {l : List Mn} (h : dP (n + 1) ⟨k, m, s, p, l⟩ = true) : l.length ≤ 2 ∧ p.length ≤ 50000 ∧ ∀ x ∈ l, dP n x = true := by
  unfold dP at h
  simp only [Bool.and_eq_true, decide_eq_true_eq, List.all_eq_true] at h
  exact ⟨h.1.1, h.1.2, h.2⟩
theorem take_eM {l : List Mn} {i : Nat} {x : Mn} (h : l[i]? = some x) : (l.take i).map eM ++ [pm x] = (l.take (i + 1)).map eM := by
  rw [List.take_add_one, h, List.map_append]
  simp [eM_eq]
theorem copyM1 (G : Nat → Option PV) : ∀ (n : Nat) (t : Mn), dP n t = true → PF Tryz.prog G 19 [pm t] (.p (pm t)) := by
  intro n
  induction n with
  | zero => intro t h; cases h
  | succ n ih =>
    intro ⟨k, m, s, p, l⟩ h
    obtain ⟨hl, hp, hk⟩ := dP_inv h
    have ihx : ∀ x ∈ l, _ := fun x hx => ih x (hk x hx)
    show PF _ _ _ [.ag [pi k, pi m, ps s, .row 1 (p.map pi), .row 5 (l.map eM)]] (.p (.ag [pi k, pi m, ps s, .row 1 (p.map pi), .row 5 (l.map eM)]))
    refine ⟨(by first | exact .p | exact .tp (fun x hx => by simp at hx; rcases hx with rfl | rfl <;> exact .p) | exact .tp (fun x hx => by simp at hx; rcases hx with rfl | rfl | rfl <;> exact .p)), bdy Tryz.func19 (fun d => if d = 32 then 1 else 0) rfl ?_⟩
    refine rn T 99 [] ?_; try (first | refine dr1 ?_ | refine dr2 ?_ | refine dr3 ?_ | refine dr4 ?_)
    refine rn T 99 [] ?_
    refine rn T 99 [] ?_
    refine lpw (fun i : Nat => (match i with | 0 => MS.mk [(4, .p (pi 0)), (1, .ptr (.L 1) 0), (3, .ptr (.L 3) 0), (2, .ptr (.L 2) 0)] 35 [(3, .box 26 [.p (pi k), .p (pi m), .p (ps s), .vw (.L 11) (([] : List PV).length + (p.map pi).length), .nil]), (11, .rw 1 3 ([] ++ p.map pi)), (1, .box 26 [.p (pi k), .p (pi m), .p (ps s), .p (.row 1 (p.map pi)), .p (.row 5 (l.map eM))]), (2, .box 26 [.p (pi 0), .p (pi 0), .p (ps ⟨#[]⟩), .nil, .nil])] [] | j + 1 => MS.mk [(4, .p (pi (j + 1 : Nat))), (1, .ptr (.L 1) 0), (3, .ptr (.L 3) 0), (2, .ptr (.L 2) 0)] 35 [(3, .box 26 [.p (pi k), .p (pi m), .p (ps s), .vw (.L 11) (([] : List PV).length + (p.map pi).length), .vw (.S 0) (j + 1)]), (11, .rw 1 3 ([] ++ p.map pi)), (1, .box 26 [.p (pi k), .p (pi m), .p (ps s), .p (.row 1 (p.map pi)), .p (.row 5 (l.map eM))]), (2, .box 26 [.p (pi 0), .p (pi 0), .p (ps ⟨#[]⟩), .nil, .nil])] [.rw 5 26 ((l.take (j + 1)).map eM)])) (fun m i => m + i = l.length) (l.length) (0) (by simp) ?_
    intro m2 i h1
    cases i with
    | zero =>
      refine op ?_
      refine rn T 99 [] ?_
      by_cases hi : 0 < l.length
      · obtain ⟨x, hx, hd⟩ := drop_ix hi
        refine ctq rfl (by simp [hi]) ?_; try (first | refine dr1 ?_ | refine dr2 ?_ | refine dr3 ?_ | refine dr4 ?_)
        refine rn T 99 [pm x] ?_
        refine pcs (ihx x (List.mem_of_getElem? hx)) ?_
        refine rn T 99 [] ?_
        refine rn T 99 [] ?_
        have ht : [pm x] = (l.take (0 + 1)).map eM := take_eM hx
        refine nxt (m2 - 1) (1) (by omega)
      · refine cfq rfl (by simp [hi]) ?_
        refine rn T 99 [] ?_
        obtain rfl := List.eq_nil_of_length_eq_zero (show l.length = 0 by omega)
        exact ret1 T rfl (by (repeat' apply And.intro) <;> first | trivial | rfl | assumption | omega | exact mT rfl | exact mT (by assumption) | exact mM rfl | exact mM (by assumption) | exact mI (by assumption) | exact mS (by assumption) | exact mU (by assumption) | (simp; done) | (simp [Mn.f0, Mn.f1, Mn.f2, Mn.f3, Mn.f4, Tn.f0]; done) | (simp [*]; done) | (simp [relT, eT_eq, eM_eq, PV.cells, Tn.f0, Mn.f4, *]; done) | (simp; omega)) rfl
    | succ i =>
      have hq : ((l.take (i + 1)).map eM).length = i + 1 := by simp; omega
      refine op ?_
      refine rn T 99 [] ?_
      by_cases hi : i + 1 < l.length
      · obtain ⟨x, hx, hd⟩ := drop_ix hi
        refine ctq rfl (by simp; omega) ?_; try (first | refine dr1 ?_ | refine dr2 ?_ | refine dr3 ?_ | refine dr4 ?_)
        refine rn T 99 [pm x] ?_
        refine pcs (ihx x (List.mem_of_getElem? hx)) ?_
        refine rn T 99 [] ?_
        refine rn T 99 [] ?_
        rw [hq, wkS (by omega)]
        have ht := take_eM hx
        refine nxt (m2 - 1) (i + 1 + 1) (by omega)
      · refine cfq rfl (by simp; omega) ?_
        refine rn T 99 [] ?_
        have ht : l.take (i + 1) = l := List.take_of_length_le (by omega)
        exact ret1 T rfl (by (repeat' apply And.intro) <;> first | trivial | rfl | assumption | omega | exact mT rfl | exact mT (by assumption) | exact mM rfl | exact mM (by assumption) | exact mI (by assumption) | exact mS (by assumption) | exact mU (by assumption) | (simp; done) | (simp [Mn.f0, Mn.f1, Mn.f2, Mn.f3, Mn.f4, Tn.f0]; done) | (simp [*]; done) | (simp [relT, eT_eq, eM_eq, PV.cells, Tn.f0, Mn.f4, *]; done) | (simp; omega)) rfl
def eqMs (f : Mn → Mn → Bool) : List Mn → List Mn → Bool
  | x :: l, y :: r => f x y && eqMs f l r
  | _, _ => true
def eqM : Nat → Mn → Mn → Bool
  | 0, _, _ => true
  | n + 1, a, b => !(a.f0 != b.f0) && !(a.f1 != b.f1) && (a.f2 == b.f2) && (a.f3 == b.f3) && !((a.f4.length : Int) != (b.f4.length : Int)) && eqMs (eqM n) a.f4 b.f4
theorem eqMs_drop {f : Mn → Mn → Bool} : ∀ {l r : List Mn} {i : Nat} {x y : Mn}, l[i]? = some x → r[i]? = some y → eqMs f (l.drop i) (r.drop i) = (f x y && eqMs f (l.drop (i + 1)) (r.drop (i + 1)))
  | [], _, i, _, _, h, _ => by simp at h
  | _ :: _, [], i, _, _, _, h => by simp at h
  | a :: l, b :: r, 0, x, y, h1, h2 => by simp at h1 h2; subst h1; subst h2; rfl
  | a :: l, b :: r, i + 1, x, y, h1, h2 => by
    simp only [List.getElem?_cons_succ] at h1 h2
    simp only [List.drop_succ_cons]
    exact eqMs_drop h1 h2
theorem lhM (G : Nat → Option PV) : ∀ (n : Nat) (a b : Mn), dP n a = true → dP n b = true → PF Tryz.prog G 5 [pm a, pm b] (.p (pb (eqM n a b))) := by
  intro n
  induction n with
  | zero => intro a b h; cases h
  | succ n ih =>
    intro ⟨k1, m1, s1, p1, l1⟩ ⟨k2, m2, s2, p2, l2⟩ h1 h2
    obtain ⟨hl1, hp1, hk1⟩ := dP_inv h1
    obtain ⟨hl2, hp2, hk2⟩ := dP_inv h2
    show PF _ _ _ [.ag [pi k1, pi m1, ps s1, .row 1 (p1.map pi), .row 5 (l1.map eM)], .ag [pi k2, pi m2, ps s2, .row 1 (p2.map pi), .row 5 (l2.map eM)]] (.p (pb (!(k1 != k2) && !(m1 != m2) && (s1 == s2) && (p1 == p2) && !((l1.length : Int) != (l2.length : Int)) && eqMs (eqM n) l1 l2)))
    have ci := ints2 G p1 p2 (by omega) (by omega)
    refine ⟨(by first | exact .p | exact .tp (fun x hx => by simp at hx; rcases hx with rfl | rfl <;> exact .p) | exact .tp (fun x hx => by simp at hx; rcases hx with rfl | rfl | rfl <;> exact .p)), bdy Tryz.func5 (fun _ => 0) rfl ?_⟩
    refine rn T 99 [] ?_
    refine rn T 5 [] ?_
    cases e1 : (k1 != k2) with
    | true =>
      refine rn T 99 [] ?_
      refine cts ?_
      refine rn T 99 [] ?_
      exact ⟨[_], ⟨_, _, rfl, .inl rfl, rfl⟩, .p, rfl⟩
    | false =>
    refine rn T 6 [] ?_
    cases e2 : (m1 != m2) with
    | true =>
      refine rn T 99 [] ?_
      refine cts ?_
      refine rn T 99 [] ?_
      exact ⟨[_], ⟨_, _, rfl, .inl rfl, rfl⟩, .p, rfl⟩
    | false =>
    refine rn T 7 [] ?_
    cases e3 : (s1 == s2) with
    | false =>
      refine rn T 99 [] ?_
      refine cts ?_
      refine rn T 99 [] ?_
      exact ⟨[_], ⟨_, _, rfl, .inl rfl, rfl⟩, .p, rfl⟩
    | true =>
    refine rn T 99 [] ?_
    cases e4 : (p1 == p2) with
    | false =>
      rw [e4] at ci
      refine pcs (ci) ?_
      refine rn T 99 [] ?_
      refine cts ?_
      refine rn T 99 [] ?_
      exact ⟨[_], ⟨_, _, rfl, .inl rfl, rfl⟩, .p, rfl⟩
    | true =>
    rw [e4] at ci
    refine pcs (ci) ?_
    refine rn T 10 [] ?_
    have hlm : (((l1.map eM).length : Int) != ((l2.map eM).length : Int)) = ((l1.length : Int) != (l2.length : Int)) := by rw [List.length_map, List.length_map]
    cases e5 : ((l1.length : Int) != (l2.length : Int)) with
    | true =>
      rw [e5] at hlm
      rw [hlm]
      refine rn T 99 [] ?_
      refine cts ?_
      refine rn T 99 [] ?_
      exact ⟨[_], ⟨_, _, rfl, .inl rfl, rfl⟩, .p, rfl⟩
    | false =>
    rw [e5] at hlm
    rw [hlm]
    refine rn T 99 [] ?_
    refine cfs ?_
    refine rn T 99 [] ?_
    have hll : l1.length = l2.length := by
      have : (l1.length : Int) = (l2.length : Int) := by simpa using e5
      omega
    simp only [Bool.not_false, Bool.true_and]
    refine lpw (fun i : Nat => MS.mk [(5, .p (pi i)), (2, .ptr (.L 2) 0), (3, .ptr (.L 3) 0)] 61 [(2, .box 26 [.p (pi k1), .p (pi m1), .p (ps s1), .p (.row 1 (p1.map pi)), .p (.row 5 (l1.map eM))]), (3, .box 26 [.p (pi k2), .p (pi m2), .p (ps s2), .p (.row 1 (p2.map pi)), .p (.row 5 (l2.map eM))])] []) (fun m i => m + i = l1.length ∧ eqMs (eqM n) l1 l2 = eqMs (eqM n) (l1.drop i) (l2.drop i)) (l1.length) (0) (by simp) ?_
    intro m3 i ⟨h3, h4⟩
    refine op ?_
    refine rn T 99 [] ?_
    by_cases hi : i < l1.length
    · obtain ⟨x, hx, _⟩ := drop_ix hi
      obtain ⟨y, hy, _⟩ := drop_ix (show i < l2.length by omega)
      refine ctq rfl (by simp [hi]) ?_; try (first | refine dr1 ?_ | refine dr2 ?_ | refine dr3 ?_ | refine dr4 ?_)
      refine rn T 99 [pm x, pm y] ?_
      have hc := ih x y (hk1 x (List.mem_of_getElem? hx)) (hk2 y (List.mem_of_getElem? hy))
      rw [eqMs_drop hx hy] at h4
      cases exy : eqM n x y with
      | true =>
        rw [exy] at hc h4
        refine pcs (hc) ?_
        refine rn T 99 [] ?_
        refine cfs ?_
        refine rn T 99 [] ?_
        rw [wkS (by omega)]
        refine nxt (m3 - 1) (i + 1) (⟨by omega, by rw [h4, Bool.true_and]⟩)
      | false =>
        rw [exy] at hc h4
        refine pcs (hc) ?_
        refine rn T 99 [] ?_
        refine cts ?_
        refine rn T 99 [] ?_
        rw [h4]
        exact ⟨[_], ⟨_, _, rfl, .inl rfl, rfl⟩, .p, rfl⟩
    · refine cfq rfl (by simp [hi]) ?_
      refine rn T 99 [] ?_
      rw [h4, List.drop_eq_nil_of_le (by omega)]
      exact ⟨[_], ⟨_, _, rfl, .inl rfl, rfl⟩, .p, rfl⟩
end Go.Proofs.YtglkkbgflnpjeaaGreatDoor.K
end
section
namespace Go.Proofs.YtglkkbgflnpjeaaGreatDoor.K
open Go Go.RowKit Go.Proofs.YtglkkbgflnpjeaaGreatDoor.En Go.Proofs.YtglkkbgflnpjeaaGreatDoor.Ty Go.Proofs.YtglkkbgflnpjeaaGreatDoor.B
set_option maxRecDepth 100000
set_option linter.unusedSimpArgs false
set_option linter.unusedVariables false
set_option maxHeartbeats 1000000
theorem bb_eq {s t : ByteArray} : (s == t) = true ↔ s = t := by
  obtain ⟨a⟩ := s
  obtain ⟨b⟩ := t
  constructor
  · intro h
    have h : (a == b) = true := h
    rw [eq_of_beq h]
  · intro h
    cases h
    show (a == a) = true
    simp
mutual
def msz : Mn → Nat
  | ⟨_, _, _, _, l⟩ => 1 + mszs l
def mszs : List Mn → Nat
  | [] => 0
  | x :: l => msz x + mszs l
end
mutual
def mpl : Mn → Nat
  | ⟨_, _, _, p, l⟩ => p.length + mpls l
def mpls : List Mn → Nat
  | [] => 0
  | x :: l => mpl x + mpls l
end
mutual
def mnm : Mn → List ByteArray
  | ⟨k, _, s, _, l⟩ => if k = 2 then [s] else mnms l
def mnms : List Mn → List ByteArray
  | [] => []
  | x :: l => mnm x ++ mnms l
end
theorem msz_mk {k m : Int} {s : ByteArray} {p : List Int} {l : List Mn} : msz ⟨k, m, s, p, l⟩ = 1 + mszs l := by unfold msz; rfl
theorem mszs_nil : mszs [] = 0 := by unfold mszs; rfl
theorem mszs_cons {x : Mn} {l : List Mn} : mszs (x :: l) = msz x + mszs l := by rw [mszs]
theorem mpl_mk {k m : Int} {s : ByteArray} {p : List Int} {l : List Mn} : mpl ⟨k, m, s, p, l⟩ = p.length + mpls l := by unfold mpl; rfl
theorem mpls_nil : mpls [] = 0 := by unfold mpls; rfl
theorem mpls_cons {x : Mn} {l : List Mn} : mpls (x :: l) = mpl x + mpls l := by rw [mpls]
theorem mnm_mk {k m : Int} {s : ByteArray} {p : List Int} {l : List Mn} : mnm ⟨k, m, s, p, l⟩ = if k = 2 then [s] else mnms l := by unfold mnm; rfl
theorem mnms_nil : mnms [] = [] := by unfold mnms; rfl
theorem mnms_cons {x : Mn} {l : List Mn} : mnms (x :: l) = mnm x ++ mnms l := by rw [mnms]
def okH (t : Mn) : Bool :=
  if t.f0 = 1 then decide (0 ≤ t.f1 ∧ t.f1 ≤ 9999) && (t.f2 == ⟨#[]⟩) && decide (t.f3 = []) && decide (t.f4.length = 0)
  else if t.f0 = 2 then pw t.f2 && decide (t.f1 = 0) && decide (t.f3 = []) && decide (t.f4.length = 0)
  else if t.f0 = 3 ∨ t.f0 = 4 ∨ t.f0 = 5 ∨ t.f0 = 6 then decide (t.f1 = 0) && (t.f2 == ⟨#[]⟩) && decide (t.f3 = []) && decide (t.f4.length = 2)
  else if t.f0 = 7 then t.f3.all bitB && decide (t.f1 = 0) && (t.f2 == ⟨#[]⟩) && decide (t.f4.length = 1)
  else if t.f0 = 8 then t.f3.all bitB && decide (t.f1 = 0) && (t.f2 == ⟨#[]⟩) && decide (t.f4.length = 2)
  else false
def okD : Nat → Mn → Bool
  | 0, _ => false
  | n + 1, t => okH t && t.f4.all (okD n)
inductive OkF : Mn → Prop
  | num {m : Int} (h : 0 ≤ m ∧ m ≤ 9999) : OkF ⟨1, m, ⟨#[]⟩, [], []⟩
  | name {s : ByteArray} (h : pw s = true) : OkF ⟨2, 0, s, [], []⟩
  | op {k : Int} {x y : Mn} (h : k = 3 ∨ k = 4 ∨ k = 5 ∨ k = 6) : OkF ⟨k, 0, ⟨#[]⟩, [], [x, y]⟩
  | at {p : List Int} {x : Mn} (h : p.all bitB = true) : OkF ⟨7, 0, ⟨#[]⟩, p, [x]⟩
  | put {p : List Int} {x y : Mn} (h : p.all bitB = true) : OkF ⟨8, 0, ⟨#[]⟩, p, [x, y]⟩
theorem len1 {l : List Mn} (h : l.length = 1) : ∃ x, l = [x] := match l, h with
  | [x], _ => ⟨x, rfl⟩
theorem len2 {l : List Mn} (h : l.length = 2) : ∃ x y, l = [x, y] := match l, h with
  | [x, y], _ => ⟨x, y, rfl⟩
theorem okF_of {t : Mn} (h : okH t = true) : OkF t := by
  obtain ⟨k, m, s, p, l⟩ := t
  have h : (if k = 1 then decide (0 ≤ m ∧ m ≤ 9999) && (s == ⟨#[]⟩) && decide (p = []) && decide (l.length = 0)
  else if k = 2 then pw s && decide (m = 0) && decide (p = []) && decide (l.length = 0)
  else if k = 3 ∨ k = 4 ∨ k = 5 ∨ k = 6 then decide (m = 0) && (s == ⟨#[]⟩) && decide (p = []) && decide (l.length = 2)
  else if k = 7 then p.all bitB && decide (m = 0) && (s == ⟨#[]⟩) && decide (l.length = 1)
  else if k = 8 then p.all bitB && decide (m = 0) && (s == ⟨#[]⟩) && decide (l.length = 2)
  else false) = true := h
  split at h
  · rename_i hk
    simp only [Bool.and_eq_true, decide_eq_true_eq, bb_eq] at h
    obtain ⟨⟨⟨h1, rfl⟩, rfl⟩, h4⟩ := h
    obtain rfl := List.eq_nil_of_length_eq_zero h4
    subst hk
    exact .num h1
  split at h
  · rename_i hk
    simp only [Bool.and_eq_true, decide_eq_true_eq, bb_eq] at h
    obtain ⟨⟨⟨h1, rfl⟩, rfl⟩, h4⟩ := h
    obtain rfl := List.eq_nil_of_length_eq_zero h4
    subst hk
    exact .name h1
  split at h
  · rename_i hk
    simp only [Bool.and_eq_true, decide_eq_true_eq, bb_eq] at h
    obtain ⟨⟨⟨rfl, rfl⟩, rfl⟩, h4⟩ := h
    obtain ⟨x, y, rfl⟩ := len2 h4
    exact .op hk
  split at h
  · rename_i hk
    simp only [Bool.and_eq_true, decide_eq_true_eq, bb_eq] at h
    obtain ⟨⟨⟨h1, rfl⟩, rfl⟩, h4⟩ := h
    obtain ⟨x, rfl⟩ := len1 h4
    subst hk
    exact .at h1
  split at h
  · rename_i hk
    simp only [Bool.and_eq_true, decide_eq_true_eq, bb_eq] at h
    obtain ⟨⟨⟨h1, rfl⟩, rfl⟩, h4⟩ := h
    obtain ⟨x, y, rfl⟩ := len2 h4
    subst hk
    exact .put h1
  cases h
theorem OkF.okH {t : Mn} (h : OkF t) : okH t = true := by
  cases h with
  | @num m h => show (decide (0 ≤ m ∧ m ≤ 9999) && true && true && true) = true; rw [decide_eq_true h]; rfl
  | @name s h => show (pw s && true && true && true) = true; rw [h]; rfl
  | op h => rcases h with rfl | rfl | rfl | rfl <;> rfl
  | @«at» p x h => show (p.all bitB && true && true && true) = true; rw [h]; rfl
  | @put p x y h => show (p.all bitB && true && true && true) = true; rw [h]; rfl
theorem okD_inv {n : Nat} {t : Mn} (h : okD n t = true) : ∃ m, n = m + 1 ∧ OkF t ∧ ∀ x ∈ t.f4, okD m x = true := by
  cases n with
  | zero => cases h
  | succ m =>
    unfold okD at h
    rw [Bool.and_eq_true, List.all_eq_true] at h
    exact ⟨m, rfl, okF_of h.1, h.2⟩
theorem okD_mk {n : Nat} {t : Mn} (h1 : OkF t) (h2 : ∀ x ∈ t.f4, okD n x = true) : okD (n + 1) t = true := by
  unfold okD
  rw [Bool.and_eq_true, List.all_eq_true]
  exact ⟨h1.okH, h2⟩
theorem okD_mono : ∀ {n m : Nat} {t : Mn}, okD n t = true → n ≤ m → okD m t = true
  | 0, _, _, h, _ => by cases h
  | n + 1, 0, _, _, h => by omega
  | n + 1, m + 1, t, h, hle => by
    unfold okD at h ⊢
    rw [Bool.and_eq_true, List.all_eq_true] at h ⊢
    exact ⟨h.1, fun x hx => okD_mono (h.2 x hx) (by omega)⟩
theorem okD_tk {nm : ByteArray → Bool} (hn : ∀ s, nm s = true → pw s = true) : ∀ {n : Nat} {t : Mn}, tk nm n t = true → okD n t = true
  | 0, _, h => by cases h
  | n + 1, ⟨k, m, s, p, l⟩, h => by
    rw [tk_eq, Bool.and_eq_true, List.all_eq_true] at h
    refine okD_mk ?_ (fun x hx => okD_tk hn (h.2 x hx))
    have h := h.1
    by_cases k1 : k = 1
    · subst k1; rw [tkH_1] at h; simp only [Bool.and_eq_true, decide_eq_true_eq, bb_eq] at h
      obtain ⟨⟨⟨h1, rfl⟩, h3⟩, h4⟩ := h
      obtain rfl := List.eq_nil_of_length_eq_zero h3
      obtain rfl := List.eq_nil_of_length_eq_zero h4
      exact .num h1
    by_cases k2 : k = 2
    · subst k2; rw [tkH_2] at h; simp only [Bool.and_eq_true, decide_eq_true_eq, bb_eq] at h
      obtain ⟨⟨⟨h1, rfl⟩, h3⟩, h4⟩ := h
      obtain rfl := List.eq_nil_of_length_eq_zero h3
      obtain rfl := List.eq_nil_of_length_eq_zero h4
      exact .name (hn _ h1)
    by_cases k3 : k = 3 ∨ k = 4 ∨ k = 5 ∨ k = 6
    · rw [tkH_3 _ _ _ _ _ _ k3] at h; simp only [Bool.and_eq_true, decide_eq_true_eq, bb_eq] at h
      obtain ⟨⟨⟨rfl, rfl⟩, h3⟩, h4⟩ := h
      obtain rfl := List.eq_nil_of_length_eq_zero h3
      obtain ⟨x, y, rfl⟩ := len2 h4
      exact .op k3
    by_cases k7 : k = 7
    · subst k7; rw [tkH_7] at h; unfold pathB at h; simp only [Bool.and_eq_true, decide_eq_true_eq, bb_eq] at h
      obtain ⟨⟨⟨⟨_, h1⟩, rfl⟩, rfl⟩, h4⟩ := h
      obtain ⟨x, rfl⟩ := len1 h4
      exact .at h1
    by_cases k8 : k = 8
    · subst k8; rw [tkH_8] at h; unfold pathB at h; simp only [Bool.and_eq_true, decide_eq_true_eq, bb_eq] at h
      obtain ⟨⟨⟨⟨_, h1⟩, rfl⟩, rfl⟩, h4⟩ := h
      obtain ⟨x, y, rfl⟩ := len2 h4
      exact .put h1
    rw [tkH_o _ _ _ _ _ _ k1 k2 k3 k7 k8] at h
    cases h
theorem tk_okD {nm : ByteArray → Bool} (hn : ∀ s, pw s = true → nm s = true) : ∀ {n d : Nat} {t : Mn}, n ≤ d → okD n t = true → pok d t = true → tk nm n t = true
  | 0, _, _, _, h, _ => by cases h
  | n + 1, 0, _, hd, _, _ => by omega
  | n + 1, d + 1, t, hd, h, hp => by
    obtain ⟨m, hm, hf, hk⟩ := okD_inv h
    cases hm
    unfold pok at hp
    rw [Bool.and_eq_true, decide_eq_true_eq, List.all_eq_true] at hp
    have hkk : t.f4.all (tk nm n) = true := by
      rw [List.all_eq_true]
      exact fun x hx => tk_okD hn (by omega) (hk x hx) (hp.2 x hx)
    have hp1 := hp.1
    unfold tk
    rw [hkk, Bool.and_true]
    cases hf with
    | @num m q => show (decide (0 ≤ m ∧ m ≤ 9999) && true && true && true) = true; rw [decide_eq_true q]; rfl
    | @name s q => show (nm s && true && true && true) = true; rw [hn _ q]; rfl
    | op q => rcases q with rfl | rfl | rfl | rfl <;> rfl
    | @«at» p x q => show (decide (p.length ≤ 4) && p.all bitB && true && true && true) = true; rw [q, decide_eq_true (show p.length ≤ 4 from hp1)]; rfl
    | @put p x y q => show (decide (p.length ≤ 4) && p.all bitB && true && true && true) = true; rw [q, decide_eq_true (show p.length ≤ 4 from hp1)]; rfl
theorem OkF.arB {t : Mn} (h : OkF t) : arB t = true := by
  cases h with
  | num h => rfl
  | name h => rfl
  | op h => rcases h with rfl | rfl | rfl | rfl <;> rfl
  | «at» h => rfl
  | put h => rfl
theorem OkF.kd {t : Mn} (h : OkF t) : 1 ≤ t.f0 ∧ t.f0 ≤ 8 := by
  cases h with
  | num h => exact show (1 : Int) ≤ 1 ∧ (1 : Int) ≤ 8 by decide
  | name h => exact show (1 : Int) ≤ 2 ∧ (2 : Int) ≤ 8 by decide
  | @op k x y h => exact show (1 : Int) ≤ k ∧ k ≤ 8 by omega
  | «at» h => exact show (1 : Int) ≤ 7 ∧ (7 : Int) ≤ 8 by decide
  | put h => exact show (1 : Int) ≤ 8 ∧ (8 : Int) ≤ 8 by decide
theorem OkF.nb {t : Mn} (h : OkF t) : numB t := by
  cases h with
  | num h => exact fun _ => h
  | name h => intro e; cases (show (2 : Int) = 1 from e)
  | op h => intro e; have e : _ = (1 : Int) := e; rcases h with rfl | rfl | rfl | rfl <;> cases e
  | «at» h => intro e; cases (show (7 : Int) = 1 from e)
  | put h => intro e; cases (show (8 : Int) = 1 from e)
theorem mpls_mem : ∀ {l : List Mn} {x : Mn}, x ∈ l → mpl x ≤ mpls l
  | [], _, h => by cases h
  | y :: l, x, h => by
    rw [mpls_cons]
    rcases List.mem_cons.1 h with rfl | h
    · omega
    · have := mpls_mem h; omega
theorem mpl_kid {t x : Mn} (h : x ∈ t.f4) : mpl x + t.f3.length ≤ mpl t := by
  obtain ⟨k, m, s, p, l⟩ := t
  rw [mpl_mk]
  have h2 : mpl x ≤ mpls l := mpls_mem h
  show mpl x + p.length ≤ p.length + mpls l
  omega
theorem mpl_path {t : Mn} : t.f3.length ≤ mpl t := by
  obtain ⟨k, m, s, p, l⟩ := t
  rw [mpl_mk]
  show p.length ≤ p.length + mpls l
  omega
theorem okS_of {n : Nat} {t : Mn} (h : okD n t = true) (hp : mpl t ≤ 50000) : OkS t := by
  obtain ⟨m, rfl, hf, hk⟩ := okD_inv h
  refine ⟨hf.arB, hf.kd, Nat.le_trans mpl_path hp, fun x hx => ?_⟩
  obtain ⟨_, _, hx2, _⟩ := okD_inv (hk x hx)
  have h1 := mpl_kid hx
  have h2 := mpl_path (t := x)
  exact ⟨hx2.arB, by omega, hx2.nb⟩
theorem mszs_mem : ∀ {l : List Mn} {x : Mn}, x ∈ l → msz x ≤ mszs l
  | [], _, h => by cases h
  | y :: l, x, h => by
    rw [mszs_cons]
    rcases List.mem_cons.1 h with rfl | h
    · omega
    · have := mszs_mem h; omega
theorem mnms_mem : ∀ {l : List Mn} {x : Mn}, x ∈ l → ∀ s ∈ mnm x, s ∈ mnms l
  | [], _, h, _, _ => by cases h
  | y :: l, x, h, s, hs => by
    rw [mnms_cons, List.mem_append]
    rcases List.mem_cons.1 h with rfl | h
    · exact .inl hs
    · exact .inr (mnms_mem h s hs)
theorem msz_pos (t : Mn) : 1 ≤ msz t := by
  obtain ⟨k, m, s, p, l⟩ := t
  rw [msz_mk]; omega
theorem plB_kid {t : Mn} (h : OkF t) : plB t = true → t.f4 = [] := by
  intro hp
  cases h with
  | num h => rfl
  | name h => rfl
  | op h => rcases h with rfl | rfl | rfl | rfl <;> cases hp
  | «at» h => cases hp
  | put h => cases hp
theorem kidF {t y : Mn} (hf : OkF t) (hy : y ∈ t.f4) : msz y < msz t ∧ mpl y + t.f3.length ≤ mpl t ∧ ∀ s ∈ mnm y, s ∈ mnm t := by
  refine ⟨?_, mpl_kid hy, ?_⟩
  · obtain ⟨k, m, s, p, l⟩ := t
    have := mszs_mem (l := l) hy
    rw [msz_mk]; omega
  · obtain ⟨k, m, s, p, l⟩ := t
    intro u hu
    rw [mnm_mk]
    have h2 : k ≠ 2 := by
      rintro rfl
      have := plB_kid hf rfl
      rw [this] at hy
      cases hy
    rw [if_neg h2]
    exact mnms_mem (l := l) hy u hu
def whlF : Nat → Mn → Mn
  | 0, t => t
  | n + 1, t => if (stp t).2 = true then whlF n (stp t).1 else t
theorem whlF_t {n : Nat} {t : Mn} (h : (stp t).2 = true) : whlF (n + 1) t = whlF n (stp t).1 := by
  show (if (stp t).2 = true then _ else _) = _
  rw [if_pos h]
theorem whlF_f {n : Nat} {t : Mn} (h : (stp t).2 = false) : whlF n t = t := by
  cases n with
  | zero => rfl
  | succ n =>
    show (if (stp t).2 = true then _ else _) = _
    rw [if_neg (by rw [h]; simp)]
def smD : Nat → Mn → Bool
  | 0, _ => true
  | n + 1, t => !(stp t).2 && t.f4.all (smD n)
theorem smD_inv {n : Nat} {t : Mn} (h : smD (n + 1) t = true) : (stp t).2 = false ∧ ∀ x ∈ t.f4, smD n x = true := by
  unfold smD at h
  rw [Bool.and_eq_true, List.all_eq_true] at h
  exact ⟨by simpa using h.1, h.2⟩
theorem smD_mk {n : Nat} {t : Mn} (h1 : (stp t).2 = false) (h2 : ∀ x ∈ t.f4, smD n x = true) : smD (n + 1) t = true := by
  unfold smD
  rw [Bool.and_eq_true, List.all_eq_true]
  exact ⟨by simp [h1], h2⟩
theorem smD_mono : ∀ {n m : Nat} {t : Mn}, okD n t = true → smD n t = true → n ≤ m → smD m t = true
  | 0, _, _, h, _, _ => by cases h
  | n + 1, 0, _, _, _, h => by omega
  | n + 1, m + 1, t, ho, h, hle => by
    obtain ⟨_, e, _, hk⟩ := okD_inv ho
    cases e
    obtain ⟨h1, h2⟩ := smD_inv h
    exact smD_mk h1 (fun x hx => smD_mono (hk x hx) (h2 x hx) (by omega))
theorem stp_at {p : List Int} {x : Mn} : stp ⟨7, 0, ⟨#[]⟩, p, [x]⟩ = ((sAt p x).getD zM, (sAt p x).isSome) := rfl
theorem stp_put {p : List Int} {x y : Mn} : stp ⟨8, 0, ⟨#[]⟩, p, [x, y]⟩ = ((sPut p x y).getD zM, (sPut p x y).isSome) := rfl
theorem stp_op {k : Int} {x y : Mn} (h : k = 3 ∨ k = 4 ∨ k = 5 ∨ k = 6) : stp ⟨k, 0, ⟨#[]⟩, [], [x, y]⟩ = sOp k x y := by
  rcases h with rfl | rfl | rfl | rfl <;> rfl
theorem stp_num {m : Int} : stp ⟨1, m, ⟨#[]⟩, [], []⟩ = (zM, false) := rfl
theorem stp_name {s : ByteArray} : stp ⟨2, 0, s, [], []⟩ = (zM, false) := rfl
theorem sAt_at {i : Int} {r q : List Int} {a : Mn} : sAt (i :: r) ⟨7, 0, ⟨#[]⟩, q, [a]⟩ = some (atM (q ++ (i :: r)) a) := rfl
theorem sAt_put {i : Int} {r q : List Int} {a b : Mn} : sAt (i :: r) ⟨8, 0, ⟨#[]⟩, q, [a, b]⟩ = if bgn (i :: r) q = true then (if plB a = true then some (atM ((i :: r).drop q.length) b) else none) else if bgn q (i :: r) = false ∧ plB b = true then some (atM (i :: r) a) else none := rfl
theorem sAt_op {i : Int} {r : List Int} {k : Int} {a b : Mn} (h : k = 3 ∨ k = 4 ∨ k = 5 ∨ k = 6) : sAt (i :: r) ⟨k, 0, ⟨#[]⟩, [], [a, b]⟩ = if k = 6 then (if i = 0 ∧ plB b = true then some (atM r a) else if i = 1 ∧ plB a = true then some (atM r b) else none) else none := by
  rcases h with rfl | rfl | rfl | rfl <;> rfl
theorem sPut_put {p q : List Int} {a b y : Mn} : sPut p ⟨8, 0, ⟨#[]⟩, q, [a, b]⟩ y = if q = p ∧ plB b = true then some ⟨8, 0, ⟨#[]⟩, p, [a, y]⟩ else none := by
  have e : sPut p ⟨8, 0, ⟨#[]⟩, q, [a, b]⟩ y = if p = [] ∧ (false = true) then some y else if (8 : Int) = 8 ∧ q = p ∧ plB b = true then some ⟨8, 0, ⟨#[]⟩, p, [a, y]⟩ else none := rfl
  rw [e, if_neg (by simp)]
  by_cases h : q = p ∧ plB b = true
  · rw [if_pos ⟨rfl, h⟩, if_pos h]
  · rw [if_neg (fun q => h q.2), if_neg h]
theorem sPut_o {p : List Int} {x y : Mn} (h : x.f0 ≠ 8) : sPut p x y = if p = [] ∧ plB x = true then some y else none := by
  unfold sPut
  rw [if_neg (c := x.f0 = 8 ∧ _) (fun q => h q.1)]
structure Stp (n : Nat) (t u : Mn) : Prop where
  ok : okD n u = true
  sm : ∀ x ∈ u.f4, smD (n - 1) x = true
  sz : msz u < msz t
  pl : mpl u ≤ mpl t
  nm : ∀ s ∈ mnm u, s ∈ mnm t
theorem mpl_at {p : List Int} {x : Mn} : mpl (atM p x) = p.length + mpl x := by rw [mpl_mk, mpls_cons, mpls_nil]; omega
theorem msz_at {p : List Int} {x : Mn} : msz (atM p x) = 1 + msz x := by rw [msz_mk, mszs_cons, mszs_nil]; omega
theorem mnm_at {p : List Int} {x : Mn} : mnm (atM p x) = mnm x := by rw [mnm_mk, if_neg (by decide), mnms_cons, mnms_nil, List.append_nil]
theorem okD_at {n : Nat} {p : List Int} {x : Mn} (hp : p.all bitB = true) (h : okD n x = true) : okD (n + 1) (atM p x) = true := okD_mk (.at hp) (fun y hy => by
  obtain rfl := List.mem_singleton.1 (show y ∈ [x] from hy)
  exact h)
theorem stp_atM {n : Nat} {t x y : Mn} {p p' : List Int} (ht : t = atM p x) (hx : okD n x = true) (hs : smD n x = true) (hy : y ∈ x.f4) (hb : p'.all bitB = true) (hl : p'.length ≤ p.length + x.f3.length) : Stp (n + 1) t (atM p' y) := by
  subst ht
  obtain ⟨m, rfl, hf, hk⟩ := okD_inv hx
  obtain ⟨hs1, hs2⟩ := smD_inv hs
  obtain ⟨k1, k2, k3⟩ := kidF hf hy
  refine ⟨okD_at hb (okD_mono (hk y hy) (by omega)), fun z hz => ?_, by rw [msz_at, msz_at]; omega, by rw [mpl_at, mpl_at]; omega, by rw [mnm_at, mnm_at]; exact k3⟩
  obtain rfl := List.mem_singleton.1 (show z ∈ [y] from hz)
  exact smD_mono (hk z hy) (hs2 z hy) (by omega)
theorem stp_inv {n : Nat} {t : Mn} (h : okD (n + 1) t = true) (hs : ∀ x ∈ t.f4, smD n x = true) (ht : (stp t).2 = true) : Stp (n + 1) t (stp t).1 := by
  obtain ⟨_, e, hf, hk⟩ := okD_inv h
  cases e
  cases hf with
  | num h => cases ht
  | name h => cases ht
  | @op k x y hk3 =>
    rw [stp_op hk3] at ht ⊢
    unfold sOp at ht ⊢
    by_cases c : k = 6 ∨ x.f0 ≠ 1 ∨ y.f0 ≠ 1
    · rw [if_pos c] at ht; cases ht
    · rw [if_neg c] at ht ⊢
      by_cases c2 : okN (opv k x.f1 y.f1) = true
      · rw [if_pos c2]
        unfold okN at c2
        rw [decide_eq_true_eq] at c2
        refine ⟨okD_mk (.num c2) (fun z hz => by cases hz), (fun z hz => by cases hz), ?_, ?_, ?_⟩
        · rw [msz_mk, msz_mk, mszs_cons, mszs_nil]; have := msz_pos x; omega
        · rw [mpl_mk, mpls_nil]; simp
        · intro s hs; rw [mnm_mk, if_neg (by decide), mnms_nil] at hs; cases hs
      · rw [if_neg c2] at ht; cases ht
  | @«at» p x hb =>
    have hx := hk x (List.mem_singleton.2 rfl)
    have hsx := hs x (List.mem_singleton.2 rfl)
    rw [stp_at] at ht ⊢
    cases p with
    | nil =>
      show Stp _ _ x
      refine ⟨okD_mono hx (by omega), fun z hz => ?_, by rw [msz_mk, mszs_cons, mszs_nil]; omega, by rw [mpl_mk, mpls_cons, mpls_nil]; omega, ?_⟩
      · obtain ⟨m, rfl, hf, hk2⟩ := okD_inv hx
        exact smD_mono (hk2 z hz) ((smD_inv hsx).2 z hz) (by omega)
      · intro s hs; rw [mnm_mk, if_neg (by decide), mnms_cons]; exact List.mem_append_left _ hs
    | cons i r =>
      obtain ⟨m, rfl, hf, hk2⟩ := okD_inv hx
      have hr : r.all bitB = true := by rw [List.all_cons, Bool.and_eq_true] at hb; exact hb.2
      cases hf with
      | num h => cases ht
      | name h => cases ht
      | @op k a b hk3 =>
        rw [sAt_op hk3] at ht ⊢
        by_cases h6 : k = 6
        · rw [if_pos h6] at ht ⊢
          by_cases c1 : i = 0 ∧ plB b = true
          · rw [if_pos c1]
            exact stp_atM rfl hx hsx (List.mem_cons_self ..) hr (by simp [List.length_cons]; omega)
          · rw [if_neg c1] at ht ⊢
            by_cases c2 : i = 1 ∧ plB a = true
            · rw [if_pos c2]
              exact stp_atM rfl hx hsx (List.mem_cons_of_mem _ (List.mem_singleton.2 rfl)) hr (by simp [List.length_cons]; omega)
            · rw [if_neg c2] at ht; cases ht
        · rw [if_neg h6] at ht; cases ht
      | @«at» q a hq =>
        rw [sAt_at]
        exact stp_atM rfl hx hsx (List.mem_singleton.2 rfl) (by rw [List.all_append, hq, hb]; rfl) (by simp [Mn.f3]; omega)
      | @put q a b hq =>
        rw [sAt_put] at ht ⊢
        by_cases c1 : bgn (i :: r) q = true
        · rw [if_pos c1] at ht ⊢
          by_cases c2 : plB a = true
          · rw [if_pos c2]
            refine stp_atM rfl hx hsx (List.mem_cons_of_mem _ (List.mem_singleton.2 rfl)) ?_ (by rw [List.length_drop]; omega)
            rw [List.all_eq_true] at hb ⊢
            exact fun z hz => hb z (List.mem_of_mem_drop hz)
          · rw [if_neg c2] at ht; cases ht
        · rw [if_neg c1] at ht ⊢
          by_cases c2 : bgn q (i :: r) = false ∧ plB b = true
          · rw [if_pos c2]
            exact stp_atM rfl hx hsx (List.mem_cons_self ..) hb (by omega)
          · rw [if_neg c2] at ht; cases ht
  | @put p x y hb =>
    have hx := hk x (List.mem_cons_self ..)
    have hy := hk y (List.mem_cons_of_mem _ (List.mem_singleton.2 rfl))
    have hsx := hs x (List.mem_cons_self ..)
    have hsy := hs y (List.mem_cons_of_mem _ (List.mem_singleton.2 rfl))
    rw [stp_put] at ht ⊢
    have hput : ∀ z, z = x ∨ z = y → z ∈ (⟨8, 0, ⟨#[]⟩, p, [x, y]⟩ : Mn).f4 := fun z hz => by
      show z ∈ [x, y]
      rcases hz with rfl | rfl <;> simp
    by_cases h8 : x.f0 = 8
    · obtain ⟨m, rfl, hf, hk2⟩ := okD_inv hx
      cases hf with
      | num h => cases h8
      | name h => cases h8
      | op hq => have h8 : _ = (8 : Int) := h8; rcases hq with rfl | rfl | rfl | rfl <;> cases h8
      | «at» h => cases h8
      | @put q a b hq =>
        rw [sPut_put] at ht ⊢
        by_cases c : q = p ∧ plB b = true
        · rw [if_pos c]
          have ha := hk2 a (List.mem_cons_self ..)
          have hsa := (smD_inv hsx).2 a (List.mem_cons_self ..)
          obtain ⟨k1, k2, k3⟩ := kidF (t := ⟨8, 0, ⟨#[]⟩, q, [a, b]⟩) (y := a) (.put hq) (List.mem_cons_self ..)
          refine ⟨okD_mk (.put hb) (fun z hz => ?_), fun z hz => ?_, ?_, ?_, ?_⟩
          · rcases List.mem_cons.1 (show z ∈ [a, y] from hz) with rfl | hz
            · exact okD_mono ha (by omega)
            · obtain rfl := List.mem_singleton.1 hz; exact hy
          · rcases List.mem_cons.1 (show z ∈ [a, y] from hz) with rfl | hz
            · exact smD_mono ha hsa (by omega)
            · obtain rfl := List.mem_singleton.1 hz; exact hsy
          · show msz ⟨8, 0, ⟨#[]⟩, p, [a, y]⟩ < _
            rw [msz_mk, mszs_cons, mszs_cons, mszs_nil, msz_mk, mszs_cons, mszs_cons, mszs_nil]; omega
          · show mpl ⟨8, 0, ⟨#[]⟩, p, [a, y]⟩ ≤ _
            rw [mpl_mk, mpls_cons, mpls_cons, mpls_nil, mpl_mk, mpls_cons, mpls_cons, mpls_nil]; omega
          · show ∀ s ∈ mnm ⟨8, 0, ⟨#[]⟩, p, [a, y]⟩, _
            intro s hs
            rw [mnm_mk, if_neg (by decide), mnms_cons, mnms_cons, mnms_nil, List.append_nil, List.mem_append] at hs ⊢
            exact hs.imp (k3 s) id
        · rw [if_neg c] at ht; cases ht
    · rw [sPut_o h8] at ht ⊢
      by_cases c : p = [] ∧ plB x = true
      · rw [if_pos c]
        show Stp _ _ y
        refine ⟨okD_mono hy (by omega), fun z hz => ?_, by rw [msz_mk, mszs_cons, mszs_cons, mszs_nil]; omega, by rw [mpl_mk, mpls_cons, mpls_cons, mpls_nil]; omega, ?_⟩
        · obtain ⟨m, rfl, hf, hk2⟩ := okD_inv hy
          exact smD_mono (hk2 z hz) ((smD_inv hsy).2 z hz) (by omega)
        · intro s hs; rw [mnm_mk, if_neg (by decide), mnms_cons, mnms_cons]; exact List.mem_append_right _ (List.mem_append_left _ hs)
      · rw [if_neg c] at ht; cases ht
theorem whlF_inv : ∀ {f n : Nat} {t : Mn}, msz t ≤ f → okD (n + 1) t = true → (∀ x ∈ t.f4, smD n x = true) → okD (n + 1) (whlF f t) = true ∧ smD (n + 1) (whlF f t) = true ∧ mpl (whlF f t) ≤ mpl t ∧ ∀ s ∈ mnm (whlF f t), s ∈ mnm t
  | 0, _, t, h, _, _ => by have := msz_pos t; omega
  | f + 1, n, t, h, ho, hs => by
    cases e : (stp t).2 with
    | false =>
      rw [whlF_f e]
      exact ⟨ho, smD_mk e hs, Nat.le_refl _, fun s h => h⟩
    | true =>
      rw [whlF_t e]
      obtain ⟨q1, q2, q3, q4, q5⟩ := stp_inv ho hs e
      obtain ⟨r1, r2, r3, r4⟩ := whlF_inv (f := f) (n := n) (t := (stp t).1) (by omega) q1 q2
      exact ⟨r1, r2, Nat.le_trans r3 q4, fun s h => q5 s (r4 s h)⟩
def smp : Nat → Mn → Mn
  | 0, t => t
  | n + 1, t => whlF (msz ⟨t.f0, t.f1, t.f2, t.f3, t.f4.map (smp n)⟩) ⟨t.f0, t.f1, t.f2, t.f3, t.f4.map (smp n)⟩
theorem smp_eq {n : Nat} {k m : Int} {s : ByteArray} {p : List Int} {l : List Mn} : smp (n + 1) ⟨k, m, s, p, l⟩ = whlF (msz ⟨k, m, s, p, l.map (smp n)⟩) ⟨k, m, s, p, l.map (smp n)⟩ := rfl
theorem smp_leaf {n : Nat} {t : Mn} (hf : OkF t) (h : plB t = true) : smp n t = t := by
  cases n with
  | zero => rfl
  | succ n =>
    cases hf with
    | num h => exact whlF_f rfl
    | name h => exact whlF_f rfl
    | op hq => rcases hq with rfl | rfl | rfl | rfl <;> cases h
    | «at» h2 => cases h
    | put h2 => cases h
theorem okF_map {k m : Int} {s : ByteArray} {p : List Int} {l l' : List Mn} (h : OkF ⟨k, m, s, p, l⟩) (hl : l'.length = l.length) : OkF ⟨k, m, s, p, l'⟩ := by
  cases h with
  | num h => obtain rfl := List.eq_nil_of_length_eq_zero hl; exact .num h
  | name h => obtain rfl := List.eq_nil_of_length_eq_zero hl; exact .name h
  | op h => obtain ⟨x, y, rfl⟩ := len2 hl; exact .op h
  | «at» h => obtain ⟨x, rfl⟩ := len1 hl; exact .at h
  | put h => obtain ⟨x, y, rfl⟩ := len2 hl; exact .put h
theorem mpls_map {f : Mn → Mn} : ∀ {l : List Mn}, (∀ x ∈ l, mpl (f x) ≤ mpl x) → mpls (l.map f) ≤ mpls l
  | [], _ => by rw [List.map_nil]; exact Nat.le_refl _
  | x :: l, h => by
    rw [List.map_cons, mpls_cons, mpls_cons]
    have h1 := h x (by simp)
    have h2 := mpls_map (f := f) (l := l) (fun y hy => h y (by simp [hy]))
    omega
theorem mnms_map {f : Mn → Mn} : ∀ {l : List Mn}, (∀ x ∈ l, ∀ s ∈ mnm (f x), s ∈ mnm x) → ∀ s ∈ mnms (l.map f), s ∈ mnms l
  | [], _, s, hs => hs
  | x :: l, h, s, hs => by
    rw [List.map_cons, mnms_cons, List.mem_append] at hs
    rw [mnms_cons, List.mem_append]
    exact hs.imp (h x (by simp) s) (mnms_map (f := f) (l := l) (fun y hy => h y (by simp [hy])) s)
theorem smp_inv : ∀ {n : Nat} {t : Mn}, okD n t = true → okD n (smp n t) = true ∧ smD n (smp n t) = true ∧ mpl (smp n t) ≤ mpl t ∧ ∀ s ∈ mnm (smp n t), s ∈ mnm t
  | 0, _, h => by cases h
  | n + 1, ⟨k, m, s, p, l⟩, h => by
    obtain ⟨_, e, hf, hk⟩ := okD_inv h
    cases e
    have hk : ∀ x ∈ l, okD n x = true := hk
    rw [smp_eq]
    have h1 : okD (n + 1) ⟨k, m, s, p, l.map (smp n)⟩ = true := okD_mk (okF_map hf (by simp)) (fun y hy => by
      obtain ⟨x, hx, rfl⟩ := List.mem_map.1 (show y ∈ l.map (smp n) from hy)
      exact (smp_inv (hk x hx)).1)
    obtain ⟨r1, r2, r3, r4⟩ := whlF_inv (Nat.le_refl (msz ⟨k, m, s, p, l.map (smp n)⟩)) h1 (fun y hy => by
      obtain ⟨x, hx, rfl⟩ := List.mem_map.1 (show y ∈ l.map (smp n) from hy)
      exact (smp_inv (hk x hx)).2.1)
    refine ⟨r1, r2, Nat.le_trans r3 ?_, fun u hu => ?_⟩
    · rw [mpl_mk, mpl_mk]
      have := mpls_map (f := smp n) (l := l) (fun x hx => (smp_inv (hk x hx)).2.2.1)
      omega
    · have hu := r4 u hu
      rw [mnm_mk] at hu ⊢
      by_cases h2 : k = 2
      · rw [if_pos h2] at hu ⊢; exact hu
      · rw [if_neg h2] at hu ⊢
        exact mnms_map (f := smp n) (fun x hx => (smp_inv (hk x hx)).2.2.2) u hu
theorem map_id {f : Mn → Mn} : ∀ {l : List Mn}, (∀ x ∈ l, f x = x) → l.map f = l
  | [], _ => rfl
  | x :: l, h => by rw [List.map_cons, h x (by simp), map_id (fun y hy => h y (by simp [hy]))]
theorem smp_id : ∀ {n : Nat} {t : Mn}, smD n t = true → smp n t = t
  | 0, _, _ => rfl
  | n + 1, ⟨k, m, s, p, l⟩, h => by
    obtain ⟨h1, h2⟩ := smD_inv h
    have e : l.map (smp n) = l := map_id (fun x hx => smp_id (h2 x hx))
    rw [smp_eq, e]
    exact whlF_f h1
end Go.Proofs.YtglkkbgflnpjeaaGreatDoor.K
end
section
namespace Go.Proofs.YtglkkbgflnpjeaaGreatDoor.En
set_option linter.unusedVariables false
set_option linter.unusedSimpArgs false
open Go Go.RowKit Go.Proofs.YtglkkbgflnpjeaaGreatDoor.PA
variable {P : Program} {G : Nat → Option PV} {md : Nat → Nat}
theorem AW.anyW {X : Type} (s : X → (Nat → Bool) → MS) (I : X → (Nat → Bool) → Prop) (x0 : X) {id : Nat} {ops : Array Oper} {Q : Exit → St → Prop} {σ : St} (h0 : I x0 (fun _ => false)) (hw : Wk σ ((s x0 (fun _ => false)).st G md))
    (hstep : ∀ (l : Nat → Bool) (i : Nat) (o : Oper) (x : X), ops[i]? = some o → l i = false → (∀ e ∈ o.after.toList, Region.binds .any e = true → l e.on = true) → I x l → Step1 P o ((s x l).st G md) (fun τ => ∃ x', I x' (upB l i) ∧ Wk τ ((s x' (upB l i)).st G md)))
    (hQ : ∀ τ τ' : St, Wk τ τ' → Q .normal τ' → Q .normal τ) (hend : ∀ l x, (∀ i, i < ops.size → l i = true) → I x l → Q .normal ((s x l).st G md))
    (hm : P.follows .mixedOrders = true) (hg : (ops.toList.all fun o => o.guard.isNone && o.after.toList.all fun e => true) = true)
    (hb : ((List.range ops.size).all fun i => match ops[i]? with | some o => o.after.toList.all (fun e => !Region.binds .any e || Nat.blt e.on i) | none => false) = true) : AW P (.region id ops true) Q σ :=
  AW.anyF (fun l τ => ∃ x, I x l ∧ Wk τ ((s x l).st G md)) hm hg hb ⟨x0, h0, hw⟩ (fun l τ hl ⟨x, h1, h2⟩ => hQ _ _ h2 (hend l x hl h1))
    (fun l i o ho hl hd τ ⟨x, h1, h2⟩ E a w S g hr Q' => hstep l i o x ho hl hd h1 E a w S g (hr.weak h2) Q')
theorem st_ob {l : List (Nat × TV)} {n : Nat} {o : List (Nat × AObj)} {H : List AObj} : ((MS.mk l n o H).st G md).ob = obM o H := by funext m; exact obM_ob m
theorem flatten_set {α : Type} {z : Nat} : ∀ {xs : List (List α)}, (∀ x ∈ xs, x.length = z) → ∀ {i j : Nat} {c : List α} {v : α}, xs[i]? = some c → j < z → (xs.set i (c.set j v)).flatten = xs.flatten.set (i * z + j) v
  | [], _, i, j, c, v, h, _ => by simp at h
  | x :: xs, hz, 0, j, c, v, h, hj => by
    simp only [List.getElem?_cons_zero, Option.some.injEq] at h
    subst h
    have : x.length = z := hz x (by simp)
    rw [List.set_cons_zero, List.flatten_cons, List.flatten_cons, Nat.zero_mul, Nat.zero_add, List.set_append, if_pos (by omega)]
  | x :: xs, hz, i + 1, j, c, v, h, hj => by
    simp only [List.getElem?_cons_succ] at h
    have hx : x.length = z := hz x (by simp)
    rw [List.set_cons_succ, List.flatten_cons, List.flatten_cons, flatten_set (fun y hy => hz y (by simp [hy])) h hj, List.set_append, if_neg (by rw [hx, Nat.succ_mul]; omega), hx, show (i + 1) * z + j - z = i * z + j by rw [Nat.succ_mul]; omega]
theorem ghSplit (i j m : Nat) {l : List (Nat × TV)} {nt : Nat} {o : List (Nat × AObj)} {H : List AObj} {d z z' : Nat} {t t' : TypeId} {ks : List Nm} {xs : List (List TV)} {c : List TV} {vs : List PV}
    (hd : lkN o d = some (.ow z t ks xs)) (hc : xs[i]? = some c) (hj : c[j]? = some (.o (.own z' t' vs))) (hf : (freT m l && freO m o) = true) {E : Ent} {a : Act} {w : World} {S : Nat → Nat → Prop} {g : Nm → GV} (h : Rep E ((MS.mk l nt o H).st G md) a w S g) :
    ∃ S' g', Rep E ((MS.mk l nt ((m, .ow z' t' [] (ocs vs)) :: (d, .ow z t (.L m :: ks) (xs.set i (c.set j (.vw (.L m) vs.length)))) :: o) H).st G md) a w S' g' := by
  rw [Bool.and_eq_true] at hf
  have hn : ((MS.mk l nt o H).st G md).ob (.L d) = some (.ow z t ks xs) := by rw [st_ob]; exact hd
  obtain ⟨p1, p2, fl, F, o1, o2, _⟩ := h.ob (.L d) _ hn
  have hcz : c.length = z := o2 c (List.mem_of_getElem? hc)
  have hjl : j < c.length := (List.getElem?_eq_some_iff.1 hj).1
  have hil : i < xs.length := (List.getElem?_eq_some_iff.1 hc).1
  have hmem : ∀ x ∈ xs.set i (c.set j (.vw (.L m) vs.length)), x = c.set j (.vw (.L m) vs.length) ∨ x ∈ xs := fun x hx => by
    rcases List.mem_or_eq_of_mem_set hx with h | h
    · exact .inr h
    · exact .inl h
  have hz : ∀ x ∈ xs.set i (c.set j (.vw (.L m) vs.length)), x.length = z := fun x hx => by
    rcases hmem x hx with rfl | h
    · rw [List.length_set]; exact hcz
    · exact o2 x h
  have key := h.split (n := .L d) (m := .L m) (z' := z') (t' := t') (ks' := .L m :: ks) (xs' := xs.set i (c.set j (.vw (.L m) vs.length))) (vs := vs) (q := i * z + j) hn (fresh_of hf.1 hf.2)
    (by rw [flatten_get o2 hc j (by omega)]; exact hj) (flatten_set o2 hc (by omega)) hz (by rw [List.length_set]) (fun y hy x hx => ?_) (fun k hk => ?_) (fun i e => by cases e)
  · obtain ⟨S', g', hr⟩ := key
    rw [st_set, st_addL] at hr
    exact ⟨S', g', hr⟩
  · have hall : ∀ x ∈ c, x.All (· ∈ (Nm.L m :: ks)) := fun x hx => (p2 c (List.mem_of_getElem? hc) x hx).mono (fun q hq => List.mem_cons_of_mem _ hq)
    rcases hmem y hy with rfl | h
    · rcases List.mem_or_eq_of_mem_set hx with h | h
      · exact hall x h
      · rw [h]; exact .vw (List.mem_cons_self ..)
    · exact (p2 y h x hx).mono (fun q hq => List.mem_cons_of_mem _ hq)
  · rcases List.mem_cons.1 hk with h | h
    · exact .inr h
    · exact .inl h
theorem ghAbsorb (i j : Nat) {n m : Nat} (vs' : List PV) {l : List (Nat × TV)} {nt : Nat} {o : List (Nat × AObj)} {H : List AObj} {z z' : Nat} {t t' : TypeId} {ks ks2 : List Nm} {xs : List (List TV)} {c : List TV} {vs : List PV} (hnm : n ≠ m)
    (hn : H[n]? = some (.ow z t ks xs)) (hm : H[m]? = some (.ow z' t' ks2 (ocs vs))) (hc : xs[i]? = some c) (hj : c[j]? = some (.vw (.S m) vs.length)) (hv : xs.set i (c.set j (.o (.own z' t' vs))) = ocs vs')
    {E : Ent} {a : Act} {w : World} {S : Nat → Nat → Prop} {g : Nm → GV} (h : Rep E ((MS.mk l nt o H).st G md) a w S g) :
    ∃ S' g', Rep E ((MS.mk l nt o ((H.set n (.ow z t [] (ocs vs'))).set m .gone)).st G md) a w S' g' := by
  have hn' : ((MS.mk l nt o H).st G md).ob (.S n) = some (.ow z t ks xs) := hn
  have hm' : ((MS.mk l nt o H).st G md).ob (.S m) = some (.ow z' t' ks2 (ocs vs)) := hm
  obtain ⟨p1, p2, fl, F, o1, o2, _⟩ := h.ob (.S n) _ hn'
  have hcz : c.length = z := o2 c (List.mem_of_getElem? hc)
  have hjl : j < c.length := (List.getElem?_eq_some_iff.1 hj).1
  have key := h.absorb (n := .S n) (m := .S m) (ks' := []) (xs' := ocs vs') (q := i * z + j) (fun e => hnm (by cases e; rfl)) hn' hm' (by rw [flatten_get o2 hc j (by omega)]; exact hj)
    (by rw [← hv]; exact flatten_set o2 hc (by omega)) (fun y hy => ?_) (by rw [← hv, List.length_set]) (fun y hy x hx => ?_) (fun k hk => by cases hk)
  · obtain ⟨S', g', hr⟩ := key
    exact ⟨S', g', hr⟩
  · rw [← hv] at hy
    rcases List.mem_or_eq_of_mem_set hy with h | h
    · exact o2 y h
    · rw [h, List.length_set]; exact hcz
  · obtain ⟨v, _, rfl⟩ := List.mem_map.1 hy
    obtain ⟨u, _, rfl⟩ := List.mem_map.1 hx
    exact oc_all u
theorem EOps.split (i j m : Nat) {hbs : Nat → Bool} {ops : Array Oper} {K : St → Prop} {r : List Oper} {ii : Nat} {l : List (Nat × TV)} {nt : Nat} {o : List (Nat × AObj)} {H : List AObj} {d z z' : Nat} {t t' : TypeId} {ks : List Nm} {xs : List (List TV)} {c : List TV} {vs : List PV}
    (hd : lkN o d = some (.ow z t ks xs)) (hc : xs[i]? = some c) (hj : c[j]? = some (.o (.own z' t' vs))) (hf : (freT m l && freO m o) = true) (hb : hbs 4294967296 = true)
    (k : EOps P hbs ops ii r ((MS.mk l nt ((m, .ow z' t' [] (ocs vs)) :: (d, .ow z t (.L m :: ks) (xs.set i (c.set j (.vw (.L m) vs.length)))) :: o) H).st G md) K) : EOps P hbs ops ii r ((MS.mk l nt o H).st G md) K :=
  EOps.gh hb (fun E a w S g hr => ghSplit i j m hd hc hj hf hr) k
theorem EOps.ldO (T : Tab P) {hbs : Nat → Bool} {ops : Array Oper} {K : St → Prop} {r : List Oper} {i : Nat} {l : List (Nat × TV)} {n : Nat} {o : List (Nat × AObj)} {H : List AObj} {d t : Nat} {x : Operand} {ty : TypeId} {pos : String} {af : Array Edge} {nm : Nm} {len z ix k e : Nat} {ks : List Nm} {xs : List (List TV)} {c : List TV}
    (hx : evM l x = some (.ip nm len z ix 0)) (hn : obM o H nm = some (.ow z e ks xs)) (hlen : xs.length = len) (hc : xs[ix]? = some c) (hl : T.lay t = some (true, k)) (hk : c.length = k) (hno : ∀ y ∈ c, noO y) (hal : ∀ y ∈ c, y.All (· ∈ ks)) (hd : Nat.blt d n = true)
    (kk : EOps P hbs ops (i + 1) r ((MS.mk ((d, .ag c) :: l) n o H).st G md) K) : EOps P hbs ops i (⟨some d, .load t x, ty, pos, af, none⟩ :: r) ((MS.mk l n o H).st G md) K := by
  refine EOps.cons rfl ?_
  refine ⟨.ag c, ?_, by rw [st_put hd]; exact kk⟩
  show LoadV P ((MS.mk l n o H).st G md).ob t (((MS.mk l n o H).st G md).ev x) (.ag c)
  rw [evM_ev (s := MS.mk l n o H) hx, st_ob]
  simp only [LoadV, hn]
  refine ⟨hlen, by first | rfl | trivial, c, hc, ?_⟩
  rw [T.hlay _ _ hl]
  show 0 + k ≤ c.length ∧ (∀ y ∈ (c.drop 0).take k, noO y ∧ y.All (· ∈ ks)) ∧ (TV.ag c = .ag ((c.drop 0).take k) ∨ ∃ r : List PV, (c.drop 0).take k = r.map TV.p ∧ TV.ag c = .p (.ag r))
  have e : (List.drop 0 c).take k = c := by rw [List.drop_zero]; exact List.take_of_length_le (by omega)
  rw [e]
  exact ⟨by omega, fun y hy => ⟨hno y hy, hal y hy⟩, .inl rfl⟩
theorem wk_l {l l' : List (Nat × TV)} {n : Nat} {o : List (Nat × AObj)} {H : List AObj} (hl : wkL (obM o H) l l') : Wk ((MS.mk l n o H).st G md) ((MS.mk l' n o H).st G md) := by
  have h := wk_of (G := G) (md := md) (s := MS.mk l n o H) (τ := MS.mk l' n [] H) rfl rfl hl True.intro
  exact ⟨rfl, rfl, rfl, h.tm, fun t => .inr (.inl rfl)⟩
theorem EOps.rvM {hbs : Nat → Bool} {ops : Array Oper} {K : St → Prop} {r : List Oper} {i : Nat} {l : List (Nat × TV)} {n : Nat} {o : List (Nat × AObj)} {H : List AObj} {d : Nat} {opn : Go.Op} {ty : TypeId} {pos : String} {af : Array Edge} {v : TV}
    (hf : hbs 4294967296 = true) (h : RV P (obM o H) ((MS.mk l n o H).st G md).ev v opn) (hd : Nat.blt d n = true) (k : EOps P hbs ops (i + 1) r ((MS.mk ((d, v) :: l) n o H).st G md) K) : EOps P hbs ops i (⟨some d, opn, ty, pos, af, none⟩ :: r) ((MS.mk l n o H).st G md) K :=
  EOps.sem hf (by unfold WantT; rfl) (fun E a w S g hr Q => OStep.sound (hb := true) hr (OStep.rv v (by rw [st_ob]; exact h) (by rw [st_put hd]; exact k)) Q)
theorem EOps.ldC (T : Tab P) {hbs : Nat → Bool} {ops : Array Oper} {K : St → Prop} {r : List Oper} {i : Nat} {l : List (Nat × TV)} {n : Nat} {o : List (Nat × AObj)} {H : List AObj} {d t : Nat} {x : Operand} {ty : TypeId} {pos : String} {af : Array Edge} {m off k t' : Nat} {c : List TV} {v : TV}
    (hf : hbs 4294967296 = true) (hx : evM l x = some (.ptr (.L m) off)) (hn : lkN o m = some (.box t' c)) (hl : T.lay t = some (false, k)) (hc : c[off]? = some v) (hd : Nat.blt d n = true) (kk : EOps P hbs ops (i + 1) r ((MS.mk ((d, v) :: l) n o H).st G md) K) :
    EOps P hbs ops i (⟨some d, .load t x, ty, pos, af, none⟩ :: r) ((MS.mk l n o H).st G md) K := by
  refine EOps.rvM hf ?_ hd kk
  show LoadV P (obM o H) t (((MS.mk l n o H).st G md).ev x) v
  rw [evM_ev (s := MS.mk l n o H) hx]
  have hn : obM o H (.L m) = some (.box t' c) := hn
  simp only [LoadV, hn]
  rw [T.hlay _ _ hl]
  exact hc
theorem EOps.ldB (T : Tab P) {hbs : Nat → Bool} {ops : Array Oper} {K : St → Prop} {r : List Oper} {i : Nat} {l : List (Nat × TV)} {n : Nat} {o : List (Nat × AObj)} {H : List AObj} {d t : Nat} {x : Operand} {ty : TypeId} {pos : String} {af : Array Edge} {m k t' : Nat} {c : List TV}
    (hf : hbs 4294967296 = true) (hx : evM l x = some (.ptr (.L m) 0)) (hn : lkN o m = some (.box t' c)) (hl : T.lay t = some (true, k)) (hk : c.length = k) (hd : Nat.blt d n = true) (kk : EOps P hbs ops (i + 1) r ((MS.mk ((d, .ag c) :: l) n o H).st G md) K) :
    EOps P hbs ops i (⟨some d, .load t x, ty, pos, af, none⟩ :: r) ((MS.mk l n o H).st G md) K := by
  refine EOps.rvM hf ?_ hd kk
  show LoadV P (obM o H) t (((MS.mk l n o H).st G md).ev x) (.ag c)
  rw [evM_ev (s := MS.mk l n o H) hx]
  have hn : obM o H (.L m) = some (.box t' c) := hn
  simp only [LoadV, hn]
  rw [T.hlay _ _ hl]
  show 0 + k ≤ c.length ∧ TV.ag c = .ag ((c.drop 0).take k)
  exact ⟨by omega, by rw [List.drop_zero, List.take_of_length_le (by omega)]⟩
theorem EOps.ixO (T : Tab P) {hbs : Nat → Bool} {ops : Array Oper} {K : St → Prop} {r : List Oper} {i : Nat} {l : List (Nat × TV)} {n : Nat} {o : List (Nat × AObj)} {H : List AObj} {d t : Nat} {x y : Operand} {ty : TypeId} {pos : String} {af : Array Edge} {nm : Nm} {len e z e' : Nat} {b : Bool} {ik : IntKind} {j : Int} {ks : List Nm} {xs : List (List TV)}
    (hf : hbs 4294967296 = true) (hx : evM l x = some (.vw nm len)) (hy : evM l y = some (.p (.c (.int ik j)))) (hn : obM o H nm = some (.ow z e' ks xs)) (hlen : xs.length = len) (hs : T.sl t = some e) (hl : T.lay e = some (b, z)) (hj : 0 ≤ j ∧ j < len) (hd : Nat.blt d n = true) (kk : EOps P hbs ops (i + 1) r ((MS.mk ((d, .ip nm len z j.toNat 0) :: l) n o H).st G md) K) :
    EOps P hbs ops i (⟨some d, .indexAddr t x y, ty, pos, af, none⟩ :: r) ((MS.mk l n o H).st G md) K := by
  refine EOps.rvM hf ?_ hd kk
  show IndexV P (obM o H) t (((MS.mk l n o H).st G md).ev x) (((MS.mk l n o H).st G md).ev y) _
  rw [evM_ev (s := MS.mk l n o H) hx, evM_ev (s := MS.mk l n o H) hy]
  exact .inr (.inr ⟨nm, len, e, b, z, ik, j, e', ks, xs, rfl, hn, hlen, T.hsl _ _ hs, T.hlay _ _ hl, rfl, hj.1, hj.2, rfl⟩)
theorem AW.scope {c : Code} {Q : Exit → St → Prop} {σ : St} (hq : ∀ i τ, ¬ Q (.goto i) τ) (h : AW P c Q σ) : AW P (.scope c) Q σ := by
  intro E a w S g hr
  refine wp_scope_straight (wp_mono (h E a w S g hr) ?_)
  rintro e a' w' ⟨τ, S', g', h1, h2⟩
  cases e with
  | normal => exact ⟨τ, S', g', h1, h2⟩
  | exit i => exact ⟨τ, S', g', h1, h2⟩
  | goto i => exact hq i τ h1
  | ret => exact ⟨τ, S', g', h1, h2⟩
  | panic i => exact ⟨τ, S', g', h1, h2⟩
  | outgrown => exact ⟨τ, S', g', h1, h2⟩
theorem AW.scopeE {c : Code} {rs : List ResultVar} {R : TV → List AObj → Prop} {σ : St} (h : AW P c (En.Ends P rs R) σ) : AW P (.scope c) (En.Ends P rs R) σ := AW.scope (fun i τ h => h) h
theorem AW.lbl {l : Nat} {y : Code} {Q : Exit → St → Prop} {σ : St} (h : AW P y Q σ) : AW P (.seq (.label l) y) Q σ := AW.seq (fun E a w S g hr => wp_label ⟨σ, S, g, h, hr⟩)
instance opSc {c : Code} {rs : List ResultVar} {R : TV → List AObj → Prop} {σ : St} {B : Prop} [Op (AW P c (En.Ends P rs R) σ) B] : Op (AW P (.scope c) (En.Ends P rs R) σ) B := ⟨fun k => AW.scopeE (op k)⟩
instance opLb {l : Nat} {y : Code} {Q : Exit → St → Prop} {σ : St} {B : Prop} [Op (AW P y Q σ) B] : Op (AW P (.seq (.label l) y) Q σ) B := ⟨fun k => AW.lbl (op k)⟩
theorem ownSt_st {d : Nat} {o : AObj} {args : List TV} {n : Nat} : ownSt G md d o args n = (MS.mk (initL 0 args) n [(d, o)] [.gone]).st G md := by
  have h1 := init_st (G := G) (md := md) (H := [.gone]) (args := args) (n := n)
  have h2 : (init G md [.gone] args n).tm = lkT (initL 0 args) := by rw [h1]; rfl
  have h3 : updT (fun _ => none) d (some o) = lkN [(d, o)] := by
    funext t
    rw [updT_eq]
    show _ = match Nat.beq t d with | true => some o | false => none
    by_cases e : t = d
    · subst e; rw [if_pos rfl, Nat.beq_refl]
    · rw [if_neg e]
      cases h : Nat.beq t d with
      | true => exact absurd (Nat.eq_of_beq_eq_true h) e
      | false => rfl
  show St.mk _ _ _ _ _ _ = St.mk _ _ _ _ _ _
  rw [h3, ← h2]
  rfl
theorem bdyO (d : Nat) {f : FuncId} {fn : Func} {c : Code} {args : List TV} (args' : List TV) {z t : Nat} {xs : List (List TV)} {R : TV → List AObj → Prop} (hf : P.funcs[f]? = some fn) (md : Nat → Nat) (hb : fn.body = some c) {B : Prop} [Op (AW P c (Ends P fn.results.toList R) ((MS.mk (initL 0 args') fn.ntmps [(d, .ow z t [] xs)] [.gone]).st G md)) B] (h : B)
    (hl : args'.length = args.length) (hr : ∀ (k : Nat) x y, args'[k]? = some x → args[k]? = some y → rnF (.L d) x y) (hcall : callable P f = true) (hn : Nat.ble args.length fn.ntmps = true) (hA : shBs args = true) : FC P G f args [.ow z t [] xs] R :=
  FC.of_body md hcall hf hb (Nat.le_of_ble_eq_true hn) (shBs_spec args hA) (own0 hl hr (by rw [ownSt_st]; exact op h))
end Go.Proofs.YtglkkbgflnpjeaaGreatDoor.En
end
section
namespace Go.Proofs.YtglkkbgflnpjeaaGreatDoor.K
open Go Go.RowKit Go.Proofs.YtglkkbgflnpjeaaGreatDoor.En Go.Proofs.YtglkkbgflnpjeaaGreatDoor.Ty Go.Proofs.YtglkkbgflnpjeaaGreatDoor.B
set_option maxRecDepth 100000
set_option linter.unusedSimpArgs false
set_option linter.unusedVariables false
set_option pp.deepTerms false
set_option pp.deepTerms.threshold 8
set_option pp.maxSteps 1000
set_option maxHeartbeats 1000000
def ownN : Nat → Mn → PV
  | 0, t => pm t
  | n + 1, ⟨k, m, s, p, []⟩ => pm ⟨k, m, s, p, []⟩
  | n + 1, ⟨k, m, s, p, x :: l⟩ => .ag [pi k, pi m, ps s, .row 1 (p.map pi), .own 5 26 ((x :: l).map (ownN n))]
theorem ownN_leaf {n : Nat} {k m : Int} {s : ByteArray} {p : List Int} : ownN n ⟨k, m, s, p, []⟩ = pm ⟨k, m, s, p, []⟩ := by cases n <;> rfl
theorem ownN_node {n : Nat} {k m : Int} {s : ByteArray} {p : List Int} {x : Mn} {l : List Mn} : ownN (n + 1) ⟨k, m, s, p, x :: l⟩ = .ag [pi k, pi m, ps s, .row 1 (p.map pi), .own 5 26 ((x :: l).map (ownN n))] := rfl
def rowA (n : Nat) (l : List Mn) (i : Nat) : List PV := (l.take i).map (fun x => pm (smp n x)) ++ (l.drop i).map (ownN n)
theorem rowA_len {n : Nat} {l : List Mn} {i : Nat} : (rowA n l i).length = l.length := by
  unfold rowA
  simp
  omega
theorem rowA_0 {n : Nat} {l : List Mn} : rowA n l 0 = l.map (ownN n) := rfl
theorem rowA_get {n : Nat} {l : List Mn} {i : Nat} {x : Mn} (h : l[i]? = some x) : (rowA n l i)[i]? = some (ownN n x) := by
  unfold rowA
  have hi : i < l.length := (List.getElem?_eq_some_iff.1 h).1
  rw [List.getElem?_append_right (by simp; omega)]
  simp [List.getElem?_drop, Nat.min_eq_left (Nat.le_of_lt hi), h]
theorem rowA_set {n : Nat} {l : List Mn} {i : Nat} {x : Mn} (h : l[i]? = some x) : (rowA n l i).set i (pm (smp n x)) = rowA n l (i + 1) := by
  unfold rowA
  have hi : i < l.length := (List.getElem?_eq_some_iff.1 h).1
  obtain ⟨_, rfl⟩ := List.getElem?_eq_some_iff.1 h
  have hlen : ((l.take i).map (fun x => pm (smp n x))).length = i := by simp; omega
  rw [List.set_append_right _ _ (by omega), hlen, Nat.sub_self, List.drop_eq_getElem_cons hi, List.map_cons, List.set_cons_zero, List.take_add_one, List.getElem?_eq_getElem hi, List.map_append, List.append_assoc]
  rfl
theorem rowA_end {n : Nat} {l : List Mn} : rowA n l l.length = (l.map (smp n)).map eM := by
  unfold rowA
  rw [List.take_length, List.drop_length, List.map_nil, List.append_nil, List.map_map]
  refine List.map_congr_left (fun x hx => ?_)
  show pm (smp n x) = eM (smp n x)
  rw [eM_eq]
theorem pm_cells (t : Mn) : (pm t).cells.map TV.p = (pm t).cells.map oc := by
  obtain ⟨k, m, s, p, l⟩ := t
  rfl
theorem ocs_set {vs : List PV} {i : Nat} {v : PV} : ocs (vs.set i v) = (ocs vs).set i (v.cells.map oc) := by
  unfold ocs
  rw [List.map_set]
theorem ocs_get {vs : List PV} {i : Nat} {v : PV} (h : vs[i]? = some v) : (ocs vs)[i]? = some (v.cells.map oc) := by
  unfold ocs
  rw [List.getElem?_map, h]
  rfl
theorem frz_pm : ∀ (t : Mn), frz (eM t) = eM t ∧ okF (eM t) = true := fun t => by
  obtain ⟨k, m, s, p, l⟩ := t
  exact ⟨rfl, rfl⟩
theorem frzM (l : List Mn) : (l.map eM).map frz = l.map eM := by
  rw [List.map_map]
  exact List.map_congr_left (fun t _ => (frz_pm t).1)
theorem okM (l : List Mn) : okFs (l.map eM) = true := by
  rw [okFs_all, List.all_eq_true]
  intro y hy
  obtain ⟨t, _, rfl⟩ := List.mem_map.1 hy
  exact (frz_pm t).2
theorem zM5 (l : List Mn) : ∀ v ∈ l.map eM, v.cells.length = 5 := fun v hv => by
  obtain ⟨⟨_, _, _, _, _⟩, _, rfl⟩ := List.mem_map.1 hv
  rfl
theorem AW.cut {P : Program} {x y : Code} {Q : Exit → St → Prop} {σ : St} (R : St → Prop) (h1 : AW P x (fun e τ => e = .normal ∧ R τ) σ) (h2 : ∀ τ, R τ → AW P y Q τ) : AW P (.seq x y) Q σ :=
  AW.seq (h1.mono (fun e τ h => by obtain ⟨rfl, h⟩ := h; exact h2 τ h))
def kkA : Nat → List Nm
  | 0 => []
  | 1 => [.L 101]
  | _ => [.L 102, .L 101]
theorem EOps.cut {P : Program} {hbs : Nat → Bool} {ops : Array Oper} {K : St → Prop} {i : Nat} {l : List Oper} {σ : St} (R : St → Prop) (hf : hbs 4294967296 = true) (h1 : EOps P hbs ops i l σ R) (h2 : ∀ τ, R τ → K τ) : EOps P hbs ops i l σ K := by
  rw [EOps.flag hf] at h1 ⊢
  exact fun hl E a w S g hr Q hQ => h1 hl E a w S g hr Q (fun a w ⟨τ, S', g', q1, q2⟩ => hQ a w ⟨τ, S', g', h2 τ q1, q2⟩)
theorem EOps.pc1 {P : Program} {G : Nat → Option PV} {md : Nat → Nat} {hbs : Nat → Bool} {ops : Array Oper} {K : St → Prop} {r : List Oper} {i : Nat} {l : List (Nat × TV)} {n : Nat} {o : List (Nat × AObj)} {H : List AObj} {d t : Nat} {ats : Array TypeId} {ty : TypeId} {pos : String} {af : Array Edge} {f : FuncId} {x : TV} {z : PV} {v : TV}
    (hf : hbs 4294967296 = true) (hx : evM l (.tmp t) = some x) (hz : relT (obM o H) x z) (hc : PF P G f [z] v) (hd : Nat.blt d n = true) (k : EOps P hbs ops (i + 1) r ((MS.mk ((d, v) :: l) n o H).st G md) K) :
    EOps P hbs ops i (⟨some d, .call ⟨.value (.func f), #[.tmp t], ats⟩, ty, pos, af, none⟩ :: r) ((MS.mk l n o H).st G md) K :=
  EOps.sem hf (by unfold WantT; rfl) (fun E a w S g hr Q => OStep.sound (hb := true) hr (OStep.pcall f (.func f) #[.tmp t] ats [z] v rfl rfl rfl (fun k q y hq hy => by
    match k with
    | 0 =>
      cases hq
      cases hy
      rw [evM_ev (s := MS.mk l n o H) hx, st_ob]
      exact relT_pv _ _ _ hz
    | k + 1 => cases hq) hc (by rw [st_put hd]; exact k)) Q)
def KidC (G : Nat → Option PV) (md : Nat → Nat) (o o' : List (Nat × AObj)) (v : TV) (y : PV) : Prop := ∀ (l : List (Nat × TV)) (ty : TypeId) (pos : String) (af : Array Edge) (K : St → Prop), evM l (.tmp 18) = some v →
  K ((MS.mk ((19, .p y) :: l) 31 o' [.gone]).st G md) → EOps Tryz.prog (fun _ => true) #[⟨some 19, .call ⟨.value (.func 31), #[.tmp 18], #[26]⟩, ty, pos, af, none⟩] 0 [⟨some 19, .call ⟨.value (.func 31), #[.tmp 18], #[26]⟩, ty, pos, af, none⟩] ((MS.mk l 31 o [.gone]).st G md) K
def MidR (G : Nat → Option PV) (md : Nat → Nat) (bx1 bx2 : List TV) (len i : Nat) (vs : List PV) (y : PV) (τ : St) : Prop := ∃ (o o' : List (Nat × AObj)) (c : List TV) (ks : List Nm) (xs : List (List TV)) (cc : List TV),
  Wk τ ((MS.mk [(3, .p (pi i)), (4, .ptr (.L 4) 0), (1, .ptr (.L 1) 0), (2, .ptr (.L 2) 0), (10, .p (pi i)), (9, .p (pi len)), (8, .vw (.L 40) len)] 31 o [.gone]).st G md) ∧
  lkN o 1 = some (.box 26 bx1) ∧ lkN o 4 = some (.box 26 c) ∧ c.length = 5 ∧ lkN o' 1 = some (.box 26 bx1) ∧ lkN o' 2 = some (.box 26 bx2) ∧ lkN o' 40 = some (.ow 5 26 ks xs) ∧ lkN o 40 = some (.ow 5 26 ks xs) ∧ (∀ q ∈ ks, q ∈ kkA (i + 1)) ∧ xs.length = len ∧ xs[i]? = some cc ∧ cc.length = 5 ∧ xs.set i (y.cells.map oc) = ocs vs ∧ KidC G md o o' (.ag c) y
theorem MidR.of0 {G : Nat → Option PV} {md : Nat → Nat} {bx1 bx2 : List TV} {len i : Nat} {vs : List PV} {y : PV} {τ : St} {o : List (Nat × AObj)} {c : List TV} {ks : List Nm} {xs : List (List TV)} {cc : List TV}
    (hw : Wk τ ((MS.mk [(3, .p (pi i)), (4, .ptr (.L 4) 0), (1, .ptr (.L 1) 0), (2, .ptr (.L 2) 0), (10, .p (pi i)), (9, .p (pi len)), (8, .vw (.L 40) len)] 31 o [.gone]).st G md)) (f1 : lkN o 1 = some (.box 26 bx1)) (f4 : lkN o 4 = some (.box 26 c)) (fc : c.length = 5) (f2 : lkN o 2 = some (.box 26 bx2)) (f40 : lkN o 40 = some (.ow 5 26 ks xs)) (hks : ∀ q ∈ ks, q ∈ kkA (i + 1)) (hl : xs.length = len) (hcc : xs[i]? = some cc) (h5 : cc.length = 5) (hs : xs.set i (y.cells.map oc) = ocs vs) (hk : KidC G md o o (.ag c) y) : MidR G md bx1 bx2 len i vs y τ :=
  ⟨o, o, c, ks, xs, cc, hw, f1, f4, fc, f1, f2, f40, f40, hks, hl, hcc, h5, hs, hk⟩
theorem MidR.of1 (d : Nat) {G : Nat → Option PV} {md : Nat → Nat} {bx1 bx2 : List TV} {len i : Nat} {vs : List PV} {y : PV} {τ : St} {o : List (Nat × AObj)} {c : List TV} {ks : List Nm} {xs : List (List TV)} {cc : List TV}
    (hw : Wk τ ((MS.mk [(3, .p (pi i)), (4, .ptr (.L 4) 0), (1, .ptr (.L 1) 0), (2, .ptr (.L 2) 0), (10, .p (pi i)), (9, .p (pi len)), (8, .vw (.L 40) len)] 31 o [.gone]).st G md)) (f1 : lkN o 1 = some (.box 26 bx1)) (f4 : lkN o 4 = some (.box 26 c)) (fc : c.length = 5) (f2 : lkN o 2 = some (.box 26 bx2)) (f40 : lkN o 40 = some (.ow 5 26 ks xs)) (hks : ∀ q ∈ ks, q ∈ kkA (i + 1)) (hl : xs.length = len) (hcc : xs[i]? = some cc) (h5 : cc.length = 5) (hs : xs.set i (y.cells.map oc) = ocs vs) (hd : (Nat.beq 1 d || Nat.beq 2 d || Nat.beq 40 d) = false) (hk : KidC G md o ((d, .gone) :: o) (.ag c) y) : MidR G md bx1 bx2 len i vs y τ := by
  simp only [Bool.or_eq_false_iff] at hd
  have key : ∀ t, Nat.beq t d = false → lkN ((d, AObj.gone) :: o) t = lkN o t := fun t ht => by
    show (match Nat.beq t d with | true => some AObj.gone | false => lkN o t) = _
    rw [ht]
  exact ⟨o, _, c, ks, xs, cc, hw, f1, f4, fc, (key 1 hd.1.1).trans f1, (key 2 hd.1.2).trans f2, (key 40 hd.2).trans f40, f40, hks, hl, hcc, h5, hs, hk⟩
theorem whole2 (a : Addr) : ∀ (n : Nat) (t : Mn), okD n t = true → mpl t ≤ 50000 → (t.f4 = [] → PF Tryz.prog (GT a) 31 [pm t] (.p (pm (smp n t)))) ∧
    (∀ m, n = m + 1 → t.f4 ≠ [] → FC Tryz.prog (GT a) 31 [.ag [.p (pi t.f0), .p (pi t.f1), .p (ps t.f2), .p (.row 1 (t.f3.map pi)), .vw (.S 0) t.f4.length]] [.ow 5 26 [] (ocs (t.f4.map (ownN m)))] (fun r H' => r = .p (pm (smp n t)) ∧ H' = [.gone])) := by
  intro n
  induction n with
  | zero => intro t h; cases h
  | succ n ih =>
    intro ⟨k, m, s, p, l⟩ ho hpl
    obtain ⟨_, e, hf, hk⟩ := okD_inv ho
    cases e
    have hk : ∀ x ∈ l, okD n x = true := hk
    have hplk : ∀ x ∈ l, mpl x ≤ 50000 := fun x hx => by
      have := mpl_kid (t := ⟨k, m, s, p, l⟩) (x := x) hx
      omega
    have hl2 : l.length ≤ 2 := by
      cases hf <;> simp
    have hR : smp (n + 1) ⟨k, m, s, p, l⟩ = whlF (msz ⟨k, m, s, p, l.map (smp n)⟩) ⟨k, m, s, p, l.map (smp n)⟩ := smp_eq
    have hI : okD (n + 1) ⟨k, m, s, p, l.map (smp n)⟩ = true ∧ (∀ x ∈ l.map (smp n), smD n x = true) ∧ mpl ⟨k, m, s, p, l.map (smp n)⟩ ≤ 50000 := by
      refine ⟨okD_mk (okF_map hf (by simp)) (fun y hy => ?_), fun y hy => ?_, ?_⟩
      · obtain ⟨x, hx, rfl⟩ := List.mem_map.1 (show y ∈ l.map (smp n) from hy)
        exact (smp_inv (hk x hx)).1
      · obtain ⟨x, hx, rfl⟩ := List.mem_map.1 hy
        exact (smp_inv (hk x hx)).2.1
      · rw [mpl_mk] at hpl ⊢
        have := mpls_map (f := smp n) (l := l) (fun x hx => (smp_inv (hk x hx)).2.2.1)
        omega
    rw [hR]
    refine ⟨fun hnil => ?_, fun m' hm hne => ?_⟩
    · have hnil : l = [] := hnil
      subst hnil
      show PF _ _ _ [.ag [pi k, pi m, ps s, .row 1 (p.map pi), .row 5 []]] _
      refine ⟨(by first | exact .p | exact .tp (fun x hx => by simp at hx; rcases hx with rfl | rfl <;> exact .p) | exact .tp (fun x hx => by simp at hx; rcases hx with rfl | rfl | rfl <;> exact .p)), bdy Tryz.func31 (fun _ => 0) rfl ?_⟩
      refine rn T 99 [] ?_
      refine rn T 99 [] ?_
      refine lpw (fun i : Nat => MS.mk [(10, .p (pi 0)), (9, .p (pi 0)), (1, .ptr (.L 1) 0), (2, .ptr (.L 2) 0)] 31 [(1, .box 26 [.p (pi k), .p (pi m), .p (ps s), .p (.row 1 (p.map pi)), .p (.row 5 [])]), (2, .box 26 [.p (pi 0), .p (pi 0), .p (ps ⟨#[]⟩), .nil, .nil])] []) (fun m i => True) (0) (0) (trivial) ?_
      intro m2 i _
      refine op ?_
      refine rn T 99 [] ?_
      refine cfs ?_
      refine lpw (fun u : Mn => MS.mk [(1, .ptr (.L 1) 0), (2, .ptr (.L 2) 0)] 31 [(1, .box 26 [.p (pi u.f0), .p (pi u.f1), .p (ps u.f2), .p (.row 1 (u.f3.map pi)), .p (.row 5 (u.f4.map eM))]), (2, .box 26 [.p (pi 0), .p (pi 0), .p (ps ⟨#[]⟩), .nil, .nil])] []) (fun f u => msz u ≤ f ∧ okD (n + 1) u = true ∧ (∀ x ∈ u.f4, smD n x = true) ∧ mpl u ≤ 50000 ∧ whlF f u = whlF (msz ⟨k, m, s, p, ([] : List Mn).map (smp n)⟩) ⟨k, m, s, p, ([] : List Mn).map (smp n)⟩) (msz ⟨k, m, s, p, ([] : List Mn).map (smp n)⟩) (⟨k, m, s, p, []⟩) (⟨Nat.le_refl _, hI.1, hI.2.1, hI.2.2, rfl⟩) ?_
      intro f ⟨k, m, s, p, l⟩ ⟨q1, q2, q3, q4, q5⟩
      have cs := step2 a ⟨k, m, s, p, l⟩ (okS_of q2 q4)
      rw [← q5]
      refine op ?_
      obtain ⟨u, hu⟩ : ∃ u, u = (stp ⟨k, m, s, p, l⟩).1 := ⟨_, rfl⟩
      rw [← hu] at cs
      cases hst : (stp ⟨k, m, s, p, l⟩).2 with
      | false =>
        rw [hst] at cs
        obtain ⟨k', m', s', p', l'⟩ := u
        refine rn T 99 [] ?_
        refine pcs (cs) ?_
        refine rn T 99 [] ?_
        refine rn T 99 [] ?_
        refine cts ?_
        refine rn T 99 [] ?_
        rw [whlF_f hst]
        exact rt1 T (pm ⟨k, m, s, p, l⟩) (rfl)
      | true =>
        have hi := stp_inv q2 q3 hst
        rw [← hu] at hi
        have hw : whlF f ⟨k, m, s, p, l⟩ = whlF (f - 1) u := by
          obtain ⟨f', rfl⟩ : ∃ f', f = f' + 1 := ⟨f - 1, by have := msz_pos ⟨k, m, s, p, l⟩; omega⟩
          rw [whlF_t hst, ← hu]; rfl
        have hf1 : 1 ≤ f := by have := msz_pos ⟨k, m, s, p, l⟩; omega
        have hpl2 := hi.pl
        have hsz2 := hi.sz
        rw [hst] at cs
        rw [hw]
        obtain ⟨k', m', s', p', l'⟩ := u
        refine rn T 99 [] ?_
        refine pcs (cs) ?_
        refine rn T 99 [] ?_
        refine rn T 99 [] ?_
        refine cfs ?_
        refine rn T 99 [] ?_
        refine nxt (f - 1) (⟨k', m', s', p', l'⟩) (⟨by omega, hi.ok, hi.sm, by omega, rfl⟩)
    · cases hm
      have hne : l ≠ [] := hne
      show FC _ _ _ [.ag [.p (pi k), .p (pi m), .p (ps s), .p (.row 1 (p.map pi)), .vw (.S 0) l.length]] [.ow 5 26 [] (ocs (l.map (ownN n)))] _
      have hcal : callable Tryz.prog 31 = true := by kernel_rfl
      refine bdyO 40 [.ag [.p (pi k), .p (pi m), .p (ps s), .p (.row 1 (p.map pi)), .vw (.L 40) l.length]] Tryz.func31 (fun _ => 0) rfl ?_ rfl (fun i x y hx hy => by match i with | 0 => cases hx; cases hy; exact .inr ⟨_, _, rfl, rfl, rfl, fun i x y hx hy => by match i with | 0 => cases hx; cases hy; exact .inl ⟨_, rfl, rfl⟩ | 1 => cases hx; cases hy; exact .inl ⟨_, rfl, rfl⟩ | 2 => cases hx; cases hy; exact .inl ⟨_, rfl, rfl⟩ | 3 => cases hx; cases hy; exact .inl ⟨_, rfl, rfl⟩ | 4 => cases hx; cases hy; exact .inr ⟨_, rfl, rfl⟩ | j + 5 => cases hx⟩ | j + 1 => cases hx) hcal rfl rfl
      have hlen : ∀ i, (ocs (rowA n l i)).length = l.length := fun i => by show (List.map _ _).length = _; rw [List.length_map, rowA_len]
      have hlen0 : (ocs (l.map (ownN n))).length = l.length := hlen 0
      refine rn T 99 [] ?_
      refine rn T 99 [] ?_
      refine lpw (fun i : Nat => MS.mk [(10, .p (pi i)), (9, .p (pi l.length)), (8, .vw (.L 40) l.length), (1, .ptr (.L 1) 0), (2, .ptr (.L 2) 0)] 31 [(40, .ow 5 26 (kkA i) (ocs (rowA n l i))), (1, .box 26 [.p (pi k), .p (pi m), .p (ps s), .p (.row 1 (p.map pi)), .vw (.L 40) l.length]), (2, .box 26 [.p (pi 0), .p (pi 0), .p (ps ⟨#[]⟩), .nil, .nil])] [.gone]) (fun m i => m + i = l.length) (l.length) (0) (by simp) ?_
      intro m2 i h1
      refine op ?_
      refine rn T 99 [] ?_
      by_cases hi : i < l.length
      · refine ctq rfl (by simp [hi]) ?_
        obtain ⟨x, hx, _⟩ := drop_ix hi
        have hxm := List.mem_of_getElem? hx
        have hg := ocs_get (rowA_get (n := n) hx)
        have hs := rowA_set (n := n) hx
        have hih := ih x (hk x hxm) (hplk x hxm)
        have hln := hlen i
        have hkx := hk x hxm
        have hix : i = 0 ∨ i = 1 := by omega
        refine EOps.cut (MidR (GT a) (fun _ => 0) [.p (pi k), .p (pi m), .p (ps s), .p (.row 1 (p.map pi)), .vw (.L 40) l.length] [.p (pi 0), .p (pi 0), .p (ps ⟨#[]⟩), .nil, .nil] l.length i (rowA n l (i + 1)) (pm (smp n x))) rfl ?_ ?_
        · obtain ⟨k1, m1, s1, p1, l1⟩ := x
          cases l1 with
          | nil =>
            rw [ownN_leaf] at hg
            have hg : (ocs (rowA n l i))[i]? = some [.p (pi k1), .p (pi m1), .p (ps s1), .p (.row 1 (p1.map pi)), .p (.row 5 [])] := hg
            have hst : (ocs (rowA n l i)).set i ((pm (smp n ⟨k1, m1, s1, p1, []⟩)).cells.map oc) = ocs (rowA n l (i + 1)) := by rw [← ocs_set, hs]
            have hcall := hih.1 rfl
            have hks : ∀ i, ∀ q ∈ kkA i, q ∈ kkA (i + 1) := fun i q hq => by match i with | 0 => cases hq | 1 => exact List.mem_cons_of_mem _ hq | j + 2 => exact hq
            have hks := hks i
            rcases hix with rfl | rfl
            · refine rn T 99 [pm ⟨k1, m1, s1, p1, []⟩] ?_
              refine MidR.of0 (wk_l ⟨.inl rfl, .inl rfl, .inl rfl, .inl rfl, .inl rfl, .inl rfl, .inl rfl, trivial⟩) rfl rfl rfl rfl rfl hks hln hg rfl hst ?_
              intro l ty pos af K hv hK
              exact EOps.pc1 rfl hv (by (repeat' apply And.intro) <;> first | trivial | rfl) hcall rfl (EOps.nil hK)
            · refine rn T 99 [pm ⟨k1, m1, s1, p1, []⟩] ?_
              refine MidR.of0 (wk_l ⟨.inl rfl, .inl rfl, .inl rfl, .inl rfl, .inl rfl, .inl rfl, .inl rfl, trivial⟩) rfl rfl rfl rfl rfl hks hln hg rfl hst ?_
              intro l ty pos af K hv hK
              exact EOps.pc1 rfl hv (by (repeat' apply And.intro) <;> first | trivial | rfl) hcall rfl (EOps.nil hK)
          | cons y1 l1 =>
            obtain ⟨n', rfl, _, _⟩ := okD_inv hkx
            have hg : (ocs (rowA (n' + 1) l i))[i]? = some [.p (pi k1), .p (pi m1), .p (ps s1), .p (.row 1 (p1.map pi)), .o (.own 5 26 ((y1 :: l1).map (ownN n')))] := hg
            have hst : ∀ c, ((ocs (rowA (n' + 1) l i)).set i c).set i ((pm (smp (n' + 1) ⟨k1, m1, s1, p1, y1 :: l1⟩)).cells.map oc) = ocs (rowA (n' + 1) l (i + 1)) := fun c => by rw [List.set_set, ← ocs_set, hs]
            have hl3 : ∀ {c}, ((ocs (rowA (n' + 1) l i)).set i c).length = l.length := fun {c} => by rw [List.length_set]; exact hln
            have hcall := hih.2 n' rfl (by intro e; cases e)
            have hcall : FC Tryz.prog (GT a) 31 [.ag [.p (pi k1), .p (pi m1), .p (ps s1), .p (.row 1 (p1.map pi)), .vw (.S 0) ((y1 :: l1).map (ownN n')).length]] [.ow 5 26 [] (ocs ((y1 :: l1).map (ownN n')))] (fun r H' => r = .p (pm (smp (n' + 1) ⟨k1, m1, s1, p1, y1 :: l1⟩)) ∧ H' = [.gone]) := by rw [List.length_map]; exact hcall
            rcases hix with rfl | rfl
            · refine rn T 2 [] ?_
              refine EOps.split (d := 40) 0 4 101 rfl hg rfl rfl rfl ?_
              refine EOps.ldO T (nm := .L 40) (c := [.p (pi k1), .p (pi m1), .p (ps s1), .p (.row 1 (p1.map pi)), .vw (.L 101) ((y1 :: l1).map (ownN n')).length]) rfl rfl hl3 (List.getElem?_set_self (by omega)) rfl rfl (fun y hy => by simp only [List.mem_cons, List.not_mem_nil, or_false] at hy; rcases hy with rfl | rfl | rfl | rfl | rfl <;> trivial) (fun y hy => by simp only [List.mem_cons, List.not_mem_nil, or_false] at hy; rcases hy with rfl | rfl | rfl | rfl | rfl <;> first | exact .p | exact .vw (List.mem_cons_self ..)) rfl ?_
              refine rn T 99 [] ?_
              refine MidR.of1 101 (wk_l ⟨.inl rfl, .inl rfl, .inl rfl, .inl rfl, .inl rfl, .inl rfl, .inl rfl, trivial⟩) rfl rfl rfl rfl rfl (fun q hq => hq) hl3 (List.getElem?_set_self (by omega)) rfl (hst _) rfl ?_
              intro l ty pos af K hv hK
              refine EOps.rc rfl rfl rfl rfl (n := .L 101) (by rw [st_ob]; rfl) [.ag [.p (pi k1), .p (pi m1), .p (ps s1), .p (.row 1 (p1.map pi)), .vw (.S 0) ((y1 :: l1).map (ownN n')).length]] rfl (fun j q y hq hy => by match j with | 0 => cases hq; cases hy; rw [evM_ev hv]; exact .inr ⟨_, _, rfl, rfl, rfl, fun i x y hx hy => by match i with | 0 => cases hx; cases hy; exact .inl ⟨_, rfl, relT_pv _ _ _ rfl⟩ | 1 => cases hx; cases hy; exact .inl ⟨_, rfl, relT_pv _ _ _ rfl⟩ | 2 => cases hx; cases hy; exact .inl ⟨_, rfl, relT_pv _ _ _ rfl⟩ | 3 => cases hx; cases hy; exact .inl ⟨_, rfl, relT_pv _ _ _ rfl⟩ | 4 => cases hx; cases hy; exact .inr ⟨_, rfl, rfl⟩ | j + 5 => cases hx⟩ | j + 1 => cases hq) hcall (fun r H' hr => by rw [hr.1]; exact .p) (fun v H' hr => ?_)
              rw [hr.1, st_set, st_put rfl]
              exact EOps.nil hK
            · refine rn T 2 [] ?_
              refine EOps.split (d := 40) 1 4 102 rfl hg rfl rfl rfl ?_
              refine EOps.ldO T (nm := .L 40) (c := [.p (pi k1), .p (pi m1), .p (ps s1), .p (.row 1 (p1.map pi)), .vw (.L 102) ((y1 :: l1).map (ownN n')).length]) rfl rfl hl3 (List.getElem?_set_self (by omega)) rfl rfl (fun y hy => by simp only [List.mem_cons, List.not_mem_nil, or_false] at hy; rcases hy with rfl | rfl | rfl | rfl | rfl <;> trivial) (fun y hy => by simp only [List.mem_cons, List.not_mem_nil, or_false] at hy; rcases hy with rfl | rfl | rfl | rfl | rfl <;> first | exact .p | exact .vw (List.mem_cons_self ..)) rfl ?_
              refine rn T 99 [] ?_
              refine MidR.of1 102 (wk_l ⟨.inl rfl, .inl rfl, .inl rfl, .inl rfl, .inl rfl, .inl rfl, .inl rfl, trivial⟩) rfl rfl rfl rfl rfl (fun q hq => hq) hl3 (List.getElem?_set_self (by omega)) rfl (hst _) rfl ?_
              intro l ty pos af K hv hK
              refine EOps.rc rfl rfl rfl rfl (n := .L 102) (by rw [st_ob]; rfl) [.ag [.p (pi k1), .p (pi m1), .p (ps s1), .p (.row 1 (p1.map pi)), .vw (.S 0) ((y1 :: l1).map (ownN n')).length]] rfl (fun j q y hq hy => by match j with | 0 => cases hq; cases hy; rw [evM_ev hv]; exact .inr ⟨_, _, rfl, rfl, rfl, fun i x y hx hy => by match i with | 0 => cases hx; cases hy; exact .inl ⟨_, rfl, relT_pv _ _ _ rfl⟩ | 1 => cases hx; cases hy; exact .inl ⟨_, rfl, relT_pv _ _ _ rfl⟩ | 2 => cases hx; cases hy; exact .inl ⟨_, rfl, relT_pv _ _ _ rfl⟩ | 3 => cases hx; cases hy; exact .inl ⟨_, rfl, relT_pv _ _ _ rfl⟩ | 4 => cases hx; cases hy; exact .inr ⟨_, rfl, rfl⟩ | j + 5 => cases hx⟩ | j + 1 => cases hq) hcall (fun r H' hr => by rw [hr.1]; exact .p) (fun v H' hr => ?_)
              rw [hr.1, st_set, st_put rfl]
              exact EOps.nil hK
        · rintro τ ⟨o, o', c, ks, xs, cc, hw, f1, f4, fc, g1, g2, g40, f40, fks, fl, fcc, fcl, fset, fcall⟩
          refine AW.weak hw ?_
          obtain ⟨r, hr⟩ : ∃ r, r = smp n x := ⟨_, rfl⟩
          rw [← hr] at fset fcall
          obtain ⟨k1, m1, s1, p1, l1⟩ := r
          refine AW.anyW (X := Unit) (fun _ b => MS.mk [(15, bif b 0 then .ptr (.L 1) 4 else .u), (16, bif b 1 then .vw (.L 40) l.length else .u), (17, bif b 2 then .p (pi i) else .u), (18, bif b 3 then .ag c else .u), (19, bif b 4 then .p (pm ⟨k1, m1, s1, p1, l1⟩) else .u), (20, bif b 5 then .ip (.L 40) l.length 5 i 0 else .u), (3, .p (pi i)), (4, .ptr (.L 4) 0), (1, .ptr (.L 1) 0), (2, .ptr (.L 2) 0), (10, .p (pi i)), (9, .p (pi l.length)), (8, .vw (.L 40) l.length)] 31 (bif b 6 then (40, .ow 5 26 (kkA (i + 1)) (ocs (rowA n l (i + 1)))) :: o' else bif b 4 then o' else o) [.gone]) (fun _ b => (b 6 = true → b 5 = true) ∧ (b 5 = true → b 4 = true) ∧ (b 4 = true → b 3 = true)) () (by exact ⟨(fun h => by cases h), (fun h => by cases h), (fun h => by cases h)⟩) (wk_l ⟨.inl rfl, .inl rfl, .inl rfl, .inl rfl, .inl rfl, .inl rfl, .inl rfl, .inl rfl, .inl rfl, .inl rfl, .inl rfl, .inl rfl, .inl rfl, trivial⟩) ?_ (fun τ τ' h q => AW.weak h q) ?_ (by kernel_rfl) rfl (by kernel_rfl)
          · intro b j o1 _ ho1 hb hd ⟨i1, i2, i3⟩
            have hj : j < 7 := (Array.getElem?_eq_some_iff.1 ho1).1
            have hc6 : b 6 = false → b 4 = false → (bif b 6 then (40, .ow 5 26 (kkA (i + 1)) (ocs (rowA n l (i + 1)))) :: o' else bif b 4 then o' else o) = o := fun h1 h2 => by rw [h1, h2]; rfl
            rcases (show j = 0 ∨ j = 1 ∨ j = 2 ∨ j = 3 ∨ j = 4 ∨ j = 5 ∨ j = 6 by omega) with rfl | rfl | rfl | rfl | rfl | rfl | rfl
            all_goals cases ho1
            all_goals refine Step1.of rfl ?_
            · refine rn T 99 [] ?_
              exact ⟨(), ⟨i1, i2, i3⟩, wk_l ⟨.inl rfl, .inl rfl, .inl rfl, .inl rfl, .inl rfl, .inl rfl, .inl rfl, .inl rfl, .inl rfl, .inl rfl, .inl rfl, .inl rfl, .inl rfl, trivial⟩⟩
            · have d0 : b 0 = true := hd ⟨0, .data⟩ (by simp) rfl
              refine EOps.ldC T rfl (m := 1) (off := 4) (t' := 26) (v := .vw (.L 40) l.length) (by show some (bif b 0 then _ else _) = _; rw [d0]; rfl) (c := [.p (pi k), .p (pi m), .p (ps s), .p (.row 1 (p.map pi)), .vw (.L 40) l.length]) (by cases h6 : b 6 <;> cases h4 : b 4 <;> first | exact g1 | exact f1) rfl rfl rfl (EOps.nil ?_)
              exact ⟨(), ⟨i1, i2, i3⟩, wk_l ⟨.inl rfl, .inl rfl, .inl rfl, .inl rfl, .inl rfl, .inl rfl, .inl rfl, .inl rfl, .inl rfl, .inl rfl, .inl rfl, .inl rfl, .inl rfl, trivial⟩⟩
            · refine rn T 99 [] ?_
              exact ⟨(), ⟨i1, i2, i3⟩, wk_l ⟨.inl rfl, .inl rfl, .inl rfl, .inl rfl, .inl rfl, .inl rfl, .inl rfl, .inl rfl, .inl rfl, .inl rfl, .inl rfl, .inl rfl, .inl rfl, trivial⟩⟩
            · have e4 : b 4 = false := by
                cases h4 : b 4 with
                | false => rfl
                | true => rw [i3 h4] at hb; cases hb
              have e5 : b 5 = false := by
                cases h5 : b 5 with
                | false => rfl
                | true => rw [i2 h5] at e4; cases e4
              have e6 : b 6 = false := by
                cases h6 : b 6 with
                | false => rfl
                | true => rw [i1 h6] at e5; cases e5
              refine EOps.ldB T rfl (m := 4) (t' := 26) (k := 5) (c := c) rfl (by rw [hc6 e6 e4]; exact f4) rfl fc rfl (EOps.nil ?_)
              exact ⟨(), ⟨i1, i2, fun _ => rfl⟩, wk_l ⟨.inl rfl, .inl rfl, .inl rfl, .inl rfl, .inl rfl, .inl rfl, .inl rfl, .inl rfl, .inl rfl, .inl rfl, .inl rfl, .inl rfl, .inl rfl, trivial⟩⟩
            · have e5 : b 5 = false := by
                cases h5 : b 5 with
                | false => rfl
                | true => rw [i2 h5] at hb; cases hb
              have e6 : b 6 = false := by
                cases h6 : b 6 with
                | false => rfl
                | true => rw [i1 h6] at e5; cases e5
              have d3 : b 3 = true := hd ⟨3, .data⟩ (by simp) rfl
              rw [hc6 e6 hb]
              refine fcall _ _ _ _ _ (by show some (bif b 3 then _ else _) = _; rw [d3]; rfl) ?_
              refine ⟨(), ⟨i1, fun _ => rfl, fun _ => d3⟩, ?_⟩
              show Wk _ ((MS.mk _ 31 (bif b 6 then _ else o') _).st _ _)
              rw [e6]
              exact wk_l ⟨.inl rfl, .inl rfl, .inl rfl, .inl rfl, .inl rfl, .inl rfl, .inl rfl, .inl rfl, .inl rfl, .inl rfl, .inl rfl, .inl rfl, .inl rfl, trivial⟩
            · have d1 : b 1 = true := hd ⟨1, .data⟩ (by simp) rfl
              have d2 : b 2 = true := hd ⟨2, .data⟩ (by simp) rfl
              have d4 : b 4 = true := hd ⟨4, .phase⟩ (by simp) rfl
              have e6 : b 6 = false := by
                cases h6 : b 6 with
                | false => rfl
                | true => rw [i1 h6] at hb; cases hb
              refine EOps.ixO T (nm := .L 40) (len := l.length) (e := 26) (z := 5) (e' := 26) (b := true) (ik := .i64) (j := i) (ks := ks) (xs := xs) rfl (by show some (bif b 1 then _ else _) = _; rw [d1]; rfl) (by show some (bif b 2 then _ else _) = _; rw [d2]; rfl) (by rw [e6, d4]; exact g40) fl rfl rfl ⟨by omega, by omega⟩ rfl (EOps.nil ?_)
              refine ⟨(), ⟨fun _ => rfl, fun _ => d4, i3⟩, ?_⟩
              exact wk_l ⟨.inl rfl, .inl rfl, .inl rfl, .inl rfl, .inl rfl, .inl rfl, .inl rfl, .inl rfl, .inl rfl, .inl rfl, .inl rfl, .inl rfl, .inl rfl, trivial⟩
            · have d5 : b 5 = true := hd ⟨5, .data⟩ (by simp) rfl
              have d4 : b 4 = true := i2 d5
              refine EOps.so T (kkA (i + 1)) cc (nm := .L 40) (len := l.length) (ix := i) (off := 0) (z := 5) (e := 26) (b := true) (sz := 5) (ks := ks) (xs := xs) (Y := .p (pm ⟨k1, m1, s1, p1, l1⟩)) rfl rfl (by show some (bif b 5 then _ else _) = _; rw [d5]; rfl) (by show some (bif b 4 then _ else _) = _; rw [d4]; rfl) (by rw [hb, d4]; exact g40) rfl fl fcc (by trivial) rfl (by omega) fks (fun y hy => by simp [tcells] at hy; rcases hy with rfl | rfl | rfl | rfl | rfl <;> exact .p) (fun q hq => by match i, hq with | 0, hq => (obtain rfl := List.mem_singleton.1 hq; trivial) | j + 1, hq => (rcases List.mem_cons.1 hq with rfl | hq; trivial; obtain rfl := List.mem_singleton.1 hq; trivial)) (fun j hj => by cases hj) (EOps.nil ?_)
              have e : splice cc 0 (tcells (.p (pm ⟨k1, m1, s1, p1, l1⟩))) = (pm ⟨k1, m1, s1, p1, l1⟩).cells.map oc := by
                match cc, fcl with
                | [_, _, _, _, _], _ => rfl
              rw [e, fset]
              refine ⟨(), ⟨fun _ => d5, fun _ => d4, i3⟩, ?_⟩
              have eo : (bif b 6 then (40, AObj.ow 5 26 (kkA (i + 1)) (ocs (rowA n l (i + 1)))) :: o' else bif b 4 then o' else o) = o' := by rw [hb, d4]; rfl
              rw [eo]
              exact wk_l ⟨.inl rfl, .inl rfl, .inl rfl, .inl rfl, .inl rfl, .inl rfl, .inl rfl, .inl rfl, .inl rfl, .inl rfl, .inl rfl, .inl rfl, .inl rfl, trivial⟩
          · intro b x hall ⟨i1, i2, i3⟩
            have a0 := hall 0 (by decide)
            have a1 := hall 1 (by decide)
            have a2 := hall 2 (by decide)
            have a3 := hall 3 (by decide)
            have a4 := hall 4 (by decide)
            have a5 := hall 5 (by decide)
            have a6 := hall 6 (by decide)
            simp only [a0, a1, a2, a3, a4, a5, a6, cond_true]
            refine op ?_
            refine rn T 99 [] ?_
            rw [wkS (by omega)]
            exact RoundM.next (m2 - 1) (i + 1) (by omega) (by omega) rfl rfl ⟨.inl rfl, .inl rfl, .inl rfl, .inl rfl, .inl rfl, trivial⟩ ⟨.inl rfl, .inl g1, .inl g2, trivial⟩
      · refine cfq rfl (by simp [hi]) ?_
        have hil : i = l.length := by omega
        subst hil
        have er : ocs (rowA n l l.length) = ((l.map (smp n)).map eM).map (fun y => y.cells.map oc) := by rw [rowA_end]
        rw [er]
        obtain ⟨l0, hl0⟩ : ∃ l0, l0 = l.map (smp n) := ⟨_, rfl⟩
        have hlen2 : l.length = (l0.map eM).length := by rw [hl0]; simp
        rw [hlen2]
        rw [← hl0] at hI ⊢
        refine AW.fz 40 (l0.map eM) (l0.map eM) rfl rfl (okM l0) (frzM l0) (zM5 l0) ?_
        refine lpw (fun u : Mn => MS.mk [(1, .ptr (.L 1) 0), (2, .ptr (.L 2) 0)] 31 [(1, .box 26 [.p (pi u.f0), .p (pi u.f1), .p (ps u.f2), .p (.row 1 (u.f3.map pi)), .p (.row 5 (u.f4.map eM))]), (2, .box 26 [.p (pi 0), .p (pi 0), .p (ps ⟨#[]⟩), .nil, .nil])] [.gone]) (fun f u => msz u ≤ f ∧ okD (n + 1) u = true ∧ (∀ x ∈ u.f4, smD n x = true) ∧ mpl u ≤ 50000 ∧ whlF f u = whlF (msz ⟨k, m, s, p, l0⟩) ⟨k, m, s, p, l0⟩) (msz ⟨k, m, s, p, l0⟩) (⟨k, m, s, p, l0⟩) (⟨Nat.le_refl _, hI.1, hI.2.1, hI.2.2, rfl⟩) ?_ rfl rfl ⟨.inl rfl, .inl rfl, trivial⟩ ⟨.inr ⟨_, _, _, rfl, rfl, .inl rfl, .inl rfl, .inl rfl, .inl rfl, .inr ⟨.row 5 (l0.map eM), relT_pv _ _ _ ⟨rfl, rfl, rfl⟩, rfl⟩, trivial⟩, .inl rfl, trivial⟩
        intro f ⟨k, m, s, p, l⟩ ⟨q1, q2, q3, q4, q5⟩
        have cs := step2 a ⟨k, m, s, p, l⟩ (okS_of q2 q4)
        rw [← q5]
        refine op ?_
        obtain ⟨u, hu⟩ : ∃ u, u = (stp ⟨k, m, s, p, l⟩).1 := ⟨_, rfl⟩
        rw [← hu] at cs
        cases hst : (stp ⟨k, m, s, p, l⟩).2 with
        | false =>
          rw [hst] at cs
          obtain ⟨k', m', s', p', l'⟩ := u
          refine rn T 99 [] ?_
          refine pcs (cs) ?_
          refine rn T 99 [] ?_
          refine rn T 99 [] ?_
          refine cts ?_
          refine rn T 99 [] ?_
          rw [whlF_f hst]
          exact rt1 T (pm ⟨k, m, s, p, l⟩) (⟨rfl, rfl⟩)
        | true =>
          have hi := stp_inv q2 q3 hst
          rw [← hu] at hi
          have hw : whlF f ⟨k, m, s, p, l⟩ = whlF (f - 1) u := by
            obtain ⟨f', rfl⟩ : ∃ f', f = f' + 1 := ⟨f - 1, by have := msz_pos ⟨k, m, s, p, l⟩; omega⟩
            rw [whlF_t hst, ← hu]; rfl
          have hf1 : 1 ≤ f := by have := msz_pos ⟨k, m, s, p, l⟩; omega
          have hpl2 := hi.pl
          have hsz2 := hi.sz
          rw [hst] at cs
          rw [hw]
          obtain ⟨k', m', s', p', l'⟩ := u
          refine rn T 99 [] ?_
          refine pcs (cs) ?_
          refine rn T 99 [] ?_
          refine rn T 99 [] ?_
          refine cfs ?_
          refine rn T 99 [] ?_
          refine nxt (f - 1) (⟨k', m', s', p', l'⟩) (⟨by omega, hi.ok, hi.sm, by omega, rfl⟩)
end Go.Proofs.YtglkkbgflnpjeaaGreatDoor.K
end
section
namespace Go.Proofs.YtglkkbgflnpjeaaGreatDoor.En
set_option linter.unusedVariables false
set_option linter.unusedSimpArgs false
open Go Go.RowKit Go.Proofs.YtglkkbgflnpjeaaGreatDoor.PA
variable {P : Program} {E : Ent} {σ : St} {a : Act} {w : World} {S : Nat → Nat → Prop} {g : Nm → GV}
mutual
def rnT (f : Nm → Nm) : TV → TV
  | .p v => .p v
  | .o v => .o v
  | .ip n len z i off => .ip (f n) len z i off
  | .u => .u
  | .nil => .nil
  | .ag l => .ag (rnTs f l)
  | .tp l => .tp (rnTs f l)
  | .ptr n off => .ptr (f n) off
  | .pe l => .pe l
  | .vw n len => .vw (f n) len
  | .sl n len => .sl (f n) len
  | .mp n => .mp (f n)
  | .fn g l => .fn g (rnTs f l)
  | .bf g l => .bf g (rnTs f l)
def rnTs (f : Nm → Nm) : List TV → List TV
  | [] => []
  | x :: l => rnT f x :: rnTs f l
end
theorem rnTs_map (f : Nm → Nm) : ∀ l, rnTs f l = l.map (rnT f)
  | [] => by unfold rnTs; rfl
  | x :: l => by unfold rnTs; rw [rnTs_map f l]; rfl
theorem rnTs_len (f : Nm → Nm) (l : List TV) : (rnTs f l).length = l.length := by rw [rnTs_map]; simp
theorem rnTs_get (f : Nm → Nm) (l : List TV) (k : Nat) : (rnTs f l)[k]? = l[k]?.map (rnT f) := by rw [rnTs_map, List.getElem?_map]
theorem TRep.ren {Γ Γ' : Env} {f : Nm → Nm} {q : Nm → Prop} (hS : ∀ b i, Γ.S b i → Γ'.S b i ∧ Γ'.w.cell? ⟨b, i, none⟩ = Γ.w.cell? ⟨b, i, none⟩) (hf : ∀ n, n.lt Γ.nH → q n → (Γ'.g (f n)).v = (Γ.g n).v ∧ (Γ'.ln (f n) = none ∨ Γ'.ln (f n) = Γ.ln n) ∧ (f n).lt Γ'.nH) {v : TV} {V : Value}
    (h : TRep Γ v V) (hq : v.All q) : TRep Γ' (rnT f v) V := by
  induction h with
  | p h => unfold rnT; exact .p (h.move hS)
  | u => unfold rnT; exact .u
  | nil => unfold rnT; exact .nil
  | ag hs h h1 ih =>
    cases hq with
    | ag hq =>
      unfold rnT
      refine .ag (by rw [rnTs_len]; exact hs) (fun k y u hy hu => ?_) h1
      rw [rnTs_get] at hy
      obtain ⟨y0, hy0, rfl⟩ := Option.map_eq_some_iff.1 hy
      exact ih k y0 u hy0 hu (hq y0 (List.mem_of_getElem? hy0))
  | tp hs h ih =>
    cases hq with
    | tp hq =>
      unfold rnT
      refine .tp (by rw [rnTs_len]; exact hs) (fun k y u hy hu => ?_)
      rw [rnTs_get] at hy
      obtain ⟨y0, hy0, rfl⟩ := Option.map_eq_some_iff.1 hy
      exact ih k y0 u hy0 hu (hq y0 (List.mem_of_getElem? hy0))
  | ptr hn h =>
    cases hq with
    | ptr hq => unfold rnT; obtain ⟨e1, _, e3⟩ := hf _ hn hq; exact .ptr e3 (e1.trans h)
  | pe U h =>
    unfold rnT
    refine .pe U (fun k y hy => ?_)
    obtain ⟨h1, h2, h3, h4⟩ := h k y hy
    obtain ⟨h5, h6⟩ := hS _ _ h1
    exact ⟨h5, h6.trans h2, h3, h4.move hS⟩
  | vw hn h1 h =>
    cases hq with
    | vw hq =>
      unfold rnT
      obtain ⟨e1, e2, e3⟩ := hf _ hn hq
      refine .vw e3 h1 (fun k hk => ?_)
      rcases e2 with e2 | e2
      · rw [e2] at hk; cases hk
      · rw [e2] at hk
        exact ⟨(h k hk).1, fun e => ((h k hk).2 e).trans e1.symm⟩
  | ip hn h =>
    cases hq with
    | ip hq =>
      unfold rnT
      obtain ⟨e1, e2, e3⟩ := hf _ hn hq
      refine .ip e3 (fun k hk => ?_)
      rcases e2 with e2 | e2
      · rw [e2] at hk; cases hk
      · rw [e2] at hk
        exact ⟨(h k hk).1, fun e => by obtain ⟨c, hc⟩ := (h k hk).2 e; exact ⟨c, e1.trans hc⟩⟩
  | sl hn hc h =>
    cases hq with
    | sl hq => unfold rnT; obtain ⟨e1, _, e3⟩ := hf _ hn hq; exact .sl e3 hc (e1.trans h)
  | mp hn h =>
    cases hq with
    | mp hq => unfold rnT; obtain ⟨e1, _, e3⟩ := hf _ hn hq; exact .mp e3 (e1.trans h)
  | fn hs h ih =>
    cases hq with
    | fn hq =>
      unfold rnT
      refine .fn (by rw [rnTs_len]; exact hs) (fun k y u hy hu => ?_)
      rw [rnTs_get] at hy
      obtain ⟨y0, hy0, rfl⟩ := Option.map_eq_some_iff.1 hy
      exact ih k y0 u hy0 hu (hq y0 (List.mem_of_getElem? hy0))
  | bf hs h ih =>
    cases hq with
    | bf hq =>
      unfold rnT
      refine .bf (by rw [rnTs_len]; exact hs) (fun k y u hy hu => ?_)
      rw [rnTs_get] at hy
      obtain ⟨y0, hy0, rfl⟩ := Option.map_eq_some_iff.1 hy
      exact ih k y0 u hy0 hu (hq y0 (List.mem_of_getElem? hy0))
theorem TRep.unren {Γ Γ' : Env} {f : Nm → Nm} {q : Nm → Prop} (hS : ∀ b i, Γ.S b i → Γ'.S b i ∧ Γ'.w.cell? ⟨b, i, none⟩ = Γ.w.cell? ⟨b, i, none⟩) (hf : ∀ n, q n → (Γ'.g n).v = (Γ.g (f n)).v ∧ (Γ'.ln n = none ∨ Γ'.ln n = Γ.ln (f n)) ∧ n.lt Γ'.nH) {y : TV} (hy : y.All q) :
    ∀ {V : Value}, TRep Γ (rnT f y) V → TRep Γ' y V := by
  induction hy with
  | p => intro V h; unfold rnT at h; cases h with | p h => exact .p (h.move hS)
  | o => intro V h; unfold rnT at h; cases h
  | ip hq =>
    intro V h; unfold rnT at h
    obtain ⟨e1, e2, e3⟩ := hf _ hq
    cases h with
    | ip hn h =>
      refine .ip e3 (fun k hk => ?_)
      rcases e2 with e2 | e2
      · rw [e2] at hk; cases hk
      · rw [e2] at hk
        exact ⟨(h k hk).1, fun e => by obtain ⟨c, hc⟩ := (h k hk).2 e; exact ⟨c, e1.trans hc⟩⟩
  | u => intro V h; exact .u
  | nil => intro V h; unfold rnT at h; cases h; exact .nil
  | @ag l hq ih =>
    intro V h; unfold rnT at h
    cases h with
    | ag hs h h1 =>
      refine .ag (by rw [rnTs_len] at hs; exact hs) (fun k y u hy hu => ih y (List.mem_of_getElem? hy) (h k _ u (by rw [rnTs_get, hy]; rfl) hu)) h1
  | @tp l hq ih =>
    intro V h; unfold rnT at h
    cases h with
    | tp hs h =>
      refine .tp (by rw [rnTs_len] at hs; exact hs) (fun k y u hy hu => ih y (List.mem_of_getElem? hy) (h k _ u (by rw [rnTs_get, hy]; rfl) hu))
  | ptr hq =>
    intro V h; unfold rnT at h
    obtain ⟨e1, e2, e3⟩ := hf _ hq
    cases h with | ptr hn h => exact .ptr e3 (e1.trans h)
  | pe =>
    intro V h; unfold rnT at h
    cases h with
    | pe U h =>
      refine .pe U (fun k y hy => ?_)
      obtain ⟨h1, h2, h3, h4⟩ := h k y hy
      obtain ⟨h5, h6⟩ := hS _ _ h1
      exact ⟨h5, h6.trans h2, h3, h4.move hS⟩
  | vw hq =>
    intro V h; unfold rnT at h
    obtain ⟨e1, e2, e3⟩ := hf _ hq
    cases h with
    | vw hn h1 h =>
      refine .vw e3 h1 (fun k hk => ?_)
      rcases e2 with e2 | e2
      · rw [e2] at hk; cases hk
      · rw [e2] at hk
        exact ⟨(h k hk).1, fun e => ((h k hk).2 e).trans e1.symm⟩
  | sl hq =>
    intro V h; unfold rnT at h
    obtain ⟨e1, e2, e3⟩ := hf _ hq
    cases h with | sl hn hc h => exact .sl e3 hc (e1.trans h)
  | mp hq =>
    intro V h; unfold rnT at h
    obtain ⟨e1, e2, e3⟩ := hf _ hq
    cases h with | mp hn h => exact .mp e3 (e1.trans h)
  | @fn f' l hq ih =>
    intro V h; unfold rnT at h
    cases h with
    | fn hs h =>
      refine .fn (by rw [rnTs_len] at hs; exact hs) (fun k y u hy hu => ih y (List.mem_of_getElem? hy) (h k _ u (by rw [rnTs_get, hy]; rfl) hu))
  | @bf f' l hq ih =>
    intro V h; unfold rnT at h
    cases h with
    | bf hs h =>
      refine .bf (by rw [rnTs_len] at hs; exact hs) (fun k y u hy hu => ih y (List.mem_of_getElem? hy) (h k _ u (by rw [rnTs_get, hy]; rfl) hu))
theorem TV.all_all {ι : Type} {q : ι → Nm → Prop} {v : TV} (h0 : v.All (fun _ => True)) : (∀ i, v.All (q i)) → v.All (fun n => ∀ i, q i n) := by
  induction h0 with
  | p => exact fun _ => .p
  | o => exact fun _ => .o
  | ip _ => exact fun h => .ip (fun i => by cases h i; assumption)
  | u => exact fun _ => .u
  | nil => exact fun _ => .nil
  | ag _ ih => exact fun h => .ag (fun x hx => ih x hx (fun i => by cases h i with | ag h => exact h x hx))
  | tp _ ih => exact fun h => .tp (fun x hx => ih x hx (fun i => by cases h i with | tp h => exact h x hx))
  | ptr _ => exact fun h => .ptr (fun i => by cases h i; assumption)
  | pe => exact fun _ => .pe
  | vw _ => exact fun h => .vw (fun i => by cases h i; assumption)
  | sl _ => exact fun h => .sl (fun i => by cases h i; assumption)
  | mp _ => exact fun h => .mp (fun i => by cases h i; assumption)
  | fn _ ih => exact fun h => .fn (fun x hx => ih x hx (fun i => by cases h i with | fn h => exact h x hx))
  | bf _ ih => exact fun h => .bf (fun x hx => ih x hx (fun i => by cases h i with | bf h => exact h x hx))
theorem AObj.all_all {ι : Type} {q : ι → Nm → Prop} {o : AObj} (h : ∀ i, o.All (q i)) : o.All (fun n => ∀ i, q i n) := by
  cases o with
  | box t l => exact fun x hx => TV.all_all (TV.all_true x) (fun i => h i x hx)
  | rw => trivial
  | mp => trivial
  | ow z t ks xs => exact fun n hn i => h i n hn
  | gone => trivial
def cloO : AObj → Prop
  | .box _ l => ∀ x ∈ l, x.All (fun _ => False)
  | .ow _ _ ks _ => ks = []
  | _ => True
theorem ORep.clo2 {Γ Γ' : Env} {n n' : Nm} {o : AObj} (h : ORep Γ n o) (hc : cloO o) (hg : Γ'.g n' = Γ.g n) (hw : Γ'.w = Γ.w) (hS : Γ'.S = Γ.S) : ORep Γ' n' o := by
  cases o with
  | box t l =>
    obtain ⟨b, arr, h1, h2, h3, h4, h5, h6, h7⟩ := h
    exact ⟨b, arr, by rw [hg]; exact h1, by rw [hg]; exact h2, by rw [hw]; exact h3, h4, fun k y u hy hu => (h5 k y u hy hu).move' hw hS (hc y (List.mem_of_getElem? hy)), h6, by rw [hS]; exact h7⟩
  | rw z t xs =>
    obtain ⟨fl, h1, h2, h3, h4, h5⟩ := h
    exact ⟨fl, by rw [hg, hw]; exact h1, by rw [hg]; exact h2, h3, by rw [hw, hS]; exact h4, by rw [hg, hS]; exact h5⟩
  | mp es =>
    obtain ⟨b, vs, h1, h2, h3, h4, h5⟩ := h
    exact ⟨b, vs, by rw [hg]; exact h1, by rw [hg]; exact h2, by rw [hw]; exact h3, h4, by rw [hw, hS]; exact h5⟩
  | ow z t ks xs =>
    obtain rfl : ks = [] := hc
    exact h.clo hg hw hS
  | gone => intro b; rw [hg]; exact h b
section
open Classical
noncomputable def gAft (g g' : Nm → GV) (ρ : Nat → Nm) (k : Nat) : Nm → GV := fun n => if h : ∃ i, i < k ∧ n = ρ i then g' (.S (Classical.choose h)) else g n
theorem gAft_in {g g' : Nm → GV} {ρ : Nat → Nm} {k i : Nat} (hinj : ∀ i j, i < k → j < k → ρ i = ρ j → i = j) (hi : i < k) : gAft g g' ρ k (ρ i) = g' (.S i) := by
  have h : ∃ j, j < k ∧ ρ i = ρ j := ⟨i, hi, rfl⟩
  unfold gAft
  rw [dif_pos h]
  obtain ⟨h1, h2⟩ := Classical.choose_spec h
  exact congrArg (fun j => g' (.S j)) (hinj _ _ hi h1 h2).symm
theorem gAft_out {g g' : Nm → GV} {ρ : Nat → Nm} {k : Nat} {n : Nm} (h : ∀ i, i < k → n ≠ ρ i) : gAft g g' ρ k n = g n := by
  unfold gAft
  rw [dif_neg (fun ⟨i, h1, h2⟩ => h i h1 h2)]
end
theorem Rep.callG (h : Rep E σ a w S g) {σ' : St} {k : Nat} {ρ : Nat → Nm} {w' : World} {S' : Nat → Nat → Prop} {g0 g' : Nm → GV} {G : Nat → Option PV} {H H' : List AObj} (hk : k ≤ H'.length) (hinj : ∀ i j, i < H'.length → j < H'.length → ρ i = ρ j → i = j) (hL : ∀ i, i < H'.length → ∃ t, ρ i = .L t)
    (hold : ∀ i, i < k → σ.ob (ρ i) = H[i]? ∧ (H[i]?).isSome) (hnew : ∀ i, k ≤ i → i < H'.length → Fresh σ (ρ i)) (h1 : ∀ i, i < H'.length → σ'.ob (ρ i) = H'[i]?) (h2 : ∀ n, (∀ i, i < H'.length → n ≠ ρ i) → σ'.ob n = σ.ob n) (htm : σ'.tm = σ.tm) (hnt : σ'.nt = σ.nt) (hG : σ'.G = σ.G) (hHH : σ'.H = σ.H)
    (hcl : ∀ (i : Nat) o, H'[i]? = some o → cloO o) (hg0 : ∀ i, i < k → g0 (.S i) = g (ρ i)) (hh : HRep G H' w' S' g') (he : Evol w S g0 k w' S' g' H'.length) (hnm : ∀ i, i < k → NmOk (henv H w S g0) (henv H' w' S' g') (.S i)) :
    Rep E σ' a w' S' (gAft g g' ρ H'.length) := by
  obtain ⟨gX, hX⟩ : ∃ gX, gX = gAft g g' ρ H'.length := ⟨_, rfl⟩
  have hin : ∀ i, i < H'.length → gX (ρ i) = g' (.S i) := fun i hi => by rw [hX]; exact gAft_in hinj hi
  have hout : ∀ n, (∀ i, i < H'.length → n ≠ ρ i) → gX n = g n := fun n hn => by rw [hX]; exact gAft_out hn
  rw [← hX]
  have hcas : ∀ n, (∃ i, i < H'.length ∧ n = ρ i) ∨ ∀ i, i < H'.length → n ≠ ρ i := fun n => by
    by_cases c : ∃ i, i < H'.length ∧ n = ρ i
    · exact .inl c
    · exact .inr (fun i hi e => c ⟨i, hi, e⟩)
  have holdS : ∀ i, i < k → (σ.ob (ρ i)).isSome := fun i hi => by rw [(hold i hi).1]; exact (hold i hi).2
  have hS0 : ∀ i, (.S i : Nm) = .S i ∧ ∀ j, j < H'.length → (.S i : Nm) ≠ ρ j := fun i => ⟨rfl, fun j hj e => by obtain ⟨t, ht⟩ := hL j hj; rw [ht] at e; cases e⟩
  have hsrc : ∀ i, i < H'.length → ∀ b, (g' (.S i)).B b → w.heap.size ≤ b ∨ ∃ j, j < k ∧ (g (ρ j)).B b := fun i hi b hb => by
    rcases he.own i hi b hb with q | ⟨j, hj, q⟩
    · exact .inl q
    · rw [hg0 j hj] at q; exact .inr ⟨j, hj, q⟩
  have hnewS : ∀ b i, S' b i → S b i ∨ w.heap.size ≤ b ∨ ∃ j, j < k ∧ (g (ρ j)).B b := fun b i hb => by
    rcases he.new b i hb with q | q | ⟨j, hj, q⟩
    · exact .inl q
    · exact .inr (.inl q)
    · rw [hg0 j hj] at q; exact .inr (.inr ⟨j, hj, q⟩)
  have hblk : ∀ b, b < w.heap.size → (∀ j, j < k → ¬ (g (ρ j)).B b) → w'.heap[b]? = w.heap[b]? := fun b hb hno => he.block b hb (fun i hi q => by rw [hg0 i hi] at q; exact hno i hi q)
  have hown : ∀ j, j < k → ∀ b, (g (ρ j)).B b → E.w.heap.size ≤ b ∨ ∃ i, i < E.n ∧ (E.g (.S i)).B b := fun j hj b hb => h.owner (holdS j hj) hb
  have hN : ∀ n, (∀ i, k ≤ i → i < H'.length → n ≠ ρ i) → NmOk (σ.env w S g) (σ'.env w' S' gX) n := by
    intro n hn
    rcases hcas n with ⟨i, hi, rfl⟩ | hc
    · have hik : i < k := Nat.lt_of_not_le (fun q => hn i q hi rfl)
      have e1 : (gX (ρ i)).v = (g' (.S i)).v := by rw [hin i hi]
      have e2 : (g0 (.S i)).v = (g (ρ i)).v := by rw [hg0 i hik]
      have e3 : (σ'.env w' S' gX).ln (ρ i) = (henv H' w' S' g').ln (.S i) := by
        show (σ'.ob (ρ i)).bind AObj.ln = (H'[i]?).bind AObj.ln
        rw [h1 i hi]
      have e4 : (σ.env w S g).ln (ρ i) = (henv H w S g0).ln (.S i) := by
        show (σ.ob (ρ i)).bind AObj.ln = (H[i]?).bind AObj.ln
        rw [(hold i hik).1]
      rcases hnm i hik with ⟨q1, q2⟩ | ⟨⟨x, y, z, q1⟩, q2⟩
      · exact .inl ⟨e1.trans (q1.trans e2), by rw [e3, e4]; exact q2⟩
      · exact .inr ⟨⟨x, y, z, e2.symm.trans q1⟩, by rw [e3, e4]; exact q2⟩
    · refine .inl ⟨by show (gX n).v = _; rw [hout n hc]; rfl, .inr ?_⟩
      show (σ'.ob n).bind AObj.ln = (σ.ob n).bind AObj.ln
      rw [h2 n hc]
  have hAllF : ∀ v : TV, (∀ d, Fresh σ (.L d) → v.All (· ≠ .L d)) → v.All (fun n => ∀ i, k ≤ i → i < H'.length → n ≠ ρ i) := fun v hv => by
    refine (TV.all_all (q := fun (i : {i // k ≤ i ∧ i < H'.length}) n => n ≠ ρ i.1) (TV.all_true v) (fun ⟨i, q1, q2⟩ => ?_)).mono (fun n hn i q1 q2 => hn ⟨i, q1, q2⟩)
    obtain ⟨t, ht⟩ := hL i q2
    have := hv t (ht ▸ hnew i q1 q2)
    rw [← ht] at this
    exact this
  have hHl : (σ.env w S g).nH ≤ (σ'.env w' S' gX).nH := by show σ.H.length ≤ σ'.H.length; rw [hHH]; exact Nat.le_refl _
  refine ⟨fun t => ?_, h.nt.trans hnt.symm, h.df, ?_, ?_, hh.st, ?_, fun i o ho => h.hs i o (by rw [hHH] at ho; exact ho), ?_, ?_, fun i hi => (h.nm i hi).trans (hN (.S i) (fun j _ hj => (hS0 i).2 j hj)), hG.trans h.eG⟩
  · rw [htm]
    exact (h.tm t).move (Γ' := σ'.env w' S' gX) he.stb hHl (fun n _ hn => hN n hn) (hAllF _ (fun d hd => hd.2.1 t))
  · intro n o ho
    rcases hcas n with ⟨i, hi, rfl⟩ | hc
    · rw [h1 i hi] at ho
      exact ORep.clo2 (hh.ob i o ho) (Γ' := σ'.env w' S' gX) (hcl i o ho) (hin i hi) rfl rfl
    · rw [h2 n hc] at ho
      refine (h.ob n o ho).move (Γ' := σ'.env w' S' gX) (q := fun n => ∀ i, k ≤ i → i < H'.length → n ≠ ρ i) he.stb hHl (fun n _ hn => hN n hn) ?_ (hout n hc) (fun b hb => ?_)
      · refine (AObj.all_all (q := fun (i : {i // k ≤ i ∧ i < H'.length}) n => n ≠ ρ i.1) (fun ⟨i, q1, q2⟩ => ?_)).mono (fun n hn i q1 q2 => hn ⟨i, q1, q2⟩)
        obtain ⟨t, ht⟩ := hL i q2
        have hfr : Fresh σ (.L t) := ht ▸ hnew i q1 q2
        show o.All (· ≠ ρ i)
        rw [ht]
        cases n with
        | L s => exact hfr.2.2 s o ho
        | S s => exact (h.hs s o ho).mono (fun m hm e => by subst e; exact hm)
      · have hlt := (h.ob n o ho).lt hb
        have hno : ∀ j, j < k → ¬ (g (ρ j)).B b := fun j hj q => h.dj n (ρ j) (hc j (Nat.lt_of_lt_of_le hj hk)) (by rw [ho]; rfl) (holdS j hj) b hb q
        refine ⟨hblk b hlt hno, fun i hi => ?_⟩
        rcases hnewS b i hi with q | q | ⟨j, hj, q⟩
        · exact q
        · have q : w.heap.size ≤ b := q
          have hlt : b < w.heap.size := hlt
          omega
        · exact absurd q (hno j hj)
  · intro n m hne s1 s2 b b1 b2
    have key : ∀ i, i < H'.length → ∀ n, (∀ j, j < H'.length → n ≠ ρ j) → (σ'.ob n).isSome → (g n).B b → (g' (.S i)).B b → False := by
      intro i hi n hn hs q1 q2
      rw [h2 n hn] at hs
      obtain ⟨o, ho⟩ := Option.isSome_iff_exists.1 hs
      have hlt := (h.ob n o ho).lt q1
      rcases hsrc i hi b q2 with q | ⟨j, hj, q⟩
      · have hlt : b < w.heap.size := hlt
        omega
      · exact h.dj n (ρ j) (hn j (Nat.lt_of_lt_of_le hj hk)) hs (holdS j hj) b q1 q
    rcases hcas n with ⟨i, hi, rfl⟩ | hc
    · rw [hin i hi] at b1
      rcases hcas m with ⟨j, hj, rfl⟩ | hd
      · rw [hin j hj] at b2
        exact hh.dj i j (fun e => hne (by rw [e])) hi hj b b1 b2
      · rw [hout m hd] at b2
        exact key i hi m hd s2 b2 b1
    · rw [hout n hc] at b1
      rcases hcas m with ⟨j, hj, rfl⟩ | hd
      · rw [hin j hj] at b2
        exact key j hj n hc s1 b1 b2
      · rw [hout m hd] at b2
        rw [h2 n hc] at s1
        rw [h2 m hd] at s2
        exact h.dj n m hne s1 s2 b b1 b2
  · intro t ht b hb
    rcases hcas (.L t) with ⟨i, hi, e⟩ | hc
    · rw [e, hin i hi] at hb
      rcases hsrc i hi b hb with q | ⟨j, hj, q⟩
      · exact .inl (Nat.le_trans h.ev.size q)
      · exact hown j hj b q
    · rw [hout _ hc] at hb
      have e : σ'.ob (.L t) = σ.ob (.L t) := h2 _ hc
      exact h.owner (m := .L t) (by rw [← e]; exact ht) hb
  · refine ⟨he.os.trans h.ev.os, he.tape.trans h.ev.tape, he.output.trans h.ev.output, Nat.le_trans h.ev.size he.size, by rw [hHH]; exact h.ev.n, fun b hb hno => ?_, fun b i hb => ?_, fun b i hb => ?_, fun i hi b hb => ?_⟩
    · refine (hblk b (Nat.lt_of_lt_of_le hb h.ev.size) (fun j hj q => ?_)).trans (h.ev.block b hb hno)
      rcases hown j hj b q with q1 | ⟨i, q1, q2⟩
      · omega
      · exact hno i q1 q2
    · obtain ⟨q1, q2⟩ := h.ev.stb b i hb
      obtain ⟨q3, q4⟩ := he.stb b i q1
      exact ⟨q3, q4.trans q2⟩
    · rcases hnewS b i hb with q | q | ⟨j, hj, q⟩
      · exact h.ev.new b i q
      · exact .inr (.inl (Nat.le_trans h.ev.size q))
      · exact .inr (hown j hj b q)
    · rw [hHH] at hi
      rw [hout _ (hS0 i).2] at hb
      exact h.ev.own i hi b hb
  · intro i y hy
    rw [hG] at hy
    obtain ⟨u, q1, q2, q3, q4⟩ := h.gl i y hy
    obtain ⟨q5, q6⟩ := he.stb _ _ q1
    exact ⟨u, q5, q6.trans q2, q3, q4.move he.stb⟩
mutual
def slB (k : Nat) : TV → Bool
  | .p _ => true
  | .o _ => true
  | .ip n _ _ _ _ => slN k n
  | .u => true
  | .nil => true
  | .ag l => slBs k l
  | .tp l => slBs k l
  | .ptr n _ => slN k n
  | .pe _ => true
  | .vw n _ => slN k n
  | .sl n _ => slN k n
  | .mp n => slN k n
  | .fn _ l => slBs k l
  | .bf _ l => slBs k l
def slBs (k : Nat) : List TV → Bool
  | [] => true
  | x :: l => slB k x && slBs k l
def slN (k : Nat) : Nm → Bool
  | .L _ => false
  | .S i => Nat.blt i k
end
theorem slN_spec {k : Nat} {n : Nm} (h : slN k n = true) : ∃ i, i < k ∧ n = .S i := by
  cases n with
  | L t => unfold slN at h; cases h
  | S i => unfold slN at h; exact ⟨i, Nat.le_of_ble_eq_true h, rfl⟩
mutual
theorem slB_spec (k : Nat) : ∀ (v : TV), slB k v = true → v.All (fun n => ∃ i, i < k ∧ n = .S i)
  | .p _, _ => .p
  | .o _, _ => .o
  | .ip n _ _ _ _, h => .ip (slN_spec (by unfold slB at h; exact h))
  | .u, _ => .u
  | .nil, _ => .nil
  | .ag l, h => .ag (slBs_spec k l (by unfold slB at h; exact h))
  | .tp l, h => .tp (slBs_spec k l (by unfold slB at h; exact h))
  | .ptr n _, h => .ptr (slN_spec (by unfold slB at h; exact h))
  | .pe _, _ => .pe
  | .vw n _, h => .vw (slN_spec (by unfold slB at h; exact h))
  | .sl n _, h => .sl (slN_spec (by unfold slB at h; exact h))
  | .mp n, h => .mp (slN_spec (by unfold slB at h; exact h))
  | .fn _ l, h => .fn (slBs_spec k l (by unfold slB at h; exact h))
  | .bf _ l, h => .bf (slBs_spec k l (by unfold slB at h; exact h))
theorem slBs_spec (k : Nat) : ∀ (l : List TV), slBs k l = true → ∀ x ∈ l, x.All (fun n => ∃ i, i < k ∧ n = .S i)
  | [], _ => fun x hx => by cases hx
  | y :: l, h => by
    unfold slBs at h
    rw [Bool.and_eq_true] at h
    have h1 := slB_spec k y h.1
    have h2 := slBs_spec k l h.2
    intro x hx
    rcases List.mem_cons.1 hx with e | hx
    · subst e; exact h1
    · exact h2 x hx
end
theorem evL_len {l : List (Nat × TV)} : ∀ {xs : List Operand} {vs : List TV}, evL l xs = some vs → vs.length = xs.length
  | [], vs, h => by cases h; rfl
  | x :: r, vs, h => by
    unfold evL at h
    split at h
    · split at h
      · rename_i hr
        cases h
        simp [evL_len hr]
      · cases h
    · cases h
theorem evL_get {l : List (Nat × TV)} : ∀ {xs : List Operand} {vs : List TV} (_ : evL l xs = some vs) {k : Nat} {q : Operand} {v : TV}, xs[k]? = some q → vs[k]? = some v → evM l q = some v
  | [], vs, h, k, q, v, hq, _ => by simp at hq
  | x :: r, vs, h, k, q, v, hq, hv => by
    unfold evL at h
    split at h
    · rename_i hx
      split at h
      · rename_i hr
        cases h
        cases k with
        | zero => cases hq; cases hv; exact hx
        | succ k => exact evL_get hr hq hv
      · cases h
    · cases h
def rhoN (ns : List Nat) : Nm → Nm
  | .S i => .L (ns.getD i 0)
  | .L t => .L t
def zipO : List Nat → List AObj → List (Nat × AObj)
  | n :: ns, o :: H => (n, o) :: zipO ns H
  | _, _ => []
theorem getD_at {l : List Nat} {i : Nat} (h : i < l.length) : l.getD i 0 = l[i] := by simp [List.getD, h]
theorem lkN_zip : ∀ {ns : List Nat} {H : List AObj} {o : List (Nat × AObj)} {i : Nat}, ns.Nodup → H.length = ns.length → i < ns.length → lkN (zipO ns H ++ o) (ns.getD i 0) = H[i]?
  | [], _, _, _, _, _, h => by simp at h
  | n :: ns, [], _, _, _, h, _ => by simp at h
  | n :: ns, x :: H, o, 0, _, _, _ => by
    show (match Nat.beq n n with | true => some x | false => _) = some x
    rw [Nat.beq_refl]
  | n :: ns, x :: H, o, i + 1, hnd, hl, hi => by
    have hi : i < ns.length := by simpa using hi
    have hne : ns.getD i 0 ≠ n := fun e => (List.nodup_cons.1 hnd).1 (by rw [← e, getD_at hi]; exact List.getElem_mem hi)
    show (match Nat.beq (ns.getD i 0) n with | true => some x | false => lkN (zipO ns H ++ o) (ns.getD i 0)) = H[i]?
    cases e : Nat.beq (ns.getD i 0) n with
    | true => exact absurd (Nat.eq_of_beq_eq_true e) hne
    | false => exact lkN_zip (List.nodup_cons.1 hnd).2 (by simpa using hl) hi
theorem lkN_zip_out : ∀ {ns : List Nat} {H : List AObj} {o : List (Nat × AObj)} {t : Nat}, (∀ n ∈ ns, t ≠ n) → lkN (zipO ns H ++ o) t = lkN o t
  | [], _, _, _, _ => rfl
  | n :: ns, [], _, _, _ => rfl
  | n :: ns, x :: H, o, t, h => by
    show (match Nat.beq t n with | true => some x | false => lkN (zipO ns H ++ o) t) = _
    cases e : Nat.beq t n with
    | true => exact absurd (Nat.eq_of_beq_eq_true e) (h n (by simp))
    | false => exact lkN_zip_out (fun m hm => h m (by simp [hm]))
def freTs (ms : List Nat) (l : List (Nat × TV)) : Bool := ms.all fun m => freT m l
def freOs (ms : List Nat) (o : List (Nat × AObj)) : Bool := ms.all fun m => freO m o
def relC (ob : Nm → Option AObj) (f : Nm → Nm) (x y : TV) : Prop := (∃ v, y = .p v ∧ relT ob x v) ∨ x = rnT f y
def relCs (ob : Nm → Option AObj) (f : Nm → Nm) : List TV → List TV → Prop
  | [], [] => True
  | x :: xs, y :: ys => relC ob f x y ∧ relCs ob f xs ys
  | _, _ => False
def relA (ob : Nm → Option AObj) (f : Nm → Nm) (x y : TV) : Prop := relC ob f x y ∨ ∃ l l', x = .ag l ∧ y = .ag l' ∧ relCs ob f l l'
def relAs (ob : Nm → Option AObj) (f : Nm → Nm) : List TV → List TV → Prop
  | [], [] => True
  | x :: xs, y :: ys => relA ob f x y ∧ relAs ob f xs ys
  | _, _ => False
theorem relCs_get {ob : Nm → Option AObj} {f : Nm → Nm} : ∀ {xs ys : List TV}, relCs ob f xs ys → xs.length = ys.length ∧ ∀ (k : Nat) x y, xs[k]? = some x → ys[k]? = some y → relC ob f x y
  | [], [], _ => ⟨rfl, fun k x y h => by simp at h⟩
  | x :: xs, y :: ys, h => by
    obtain ⟨h1, h2⟩ := relCs_get h.2
    refine ⟨by simp [h1], fun k x' y' hx hy => ?_⟩
    cases k with
    | zero => cases hx; cases hy; exact h.1
    | succ k => exact h2 k x' y' hx hy
  | [], _ :: _, h => h.elim
  | _ :: _, [], h => h.elim
theorem relAs_get {ob : Nm → Option AObj} {f : Nm → Nm} : ∀ {xs ys : List TV}, relAs ob f xs ys → xs.length = ys.length ∧ ∀ (k : Nat) x y, xs[k]? = some x → ys[k]? = some y → relA ob f x y
  | [], [], _ => ⟨rfl, fun k x y h => by simp at h⟩
  | x :: xs, y :: ys, h => by
    obtain ⟨h1, h2⟩ := relAs_get h.2
    refine ⟨by simp [h1], fun k x' y' hx hy => ?_⟩
    cases k with
    | zero => cases hx; cases hy; exact h.1
    | succ k => exact h2 k x' y' hx hy
  | [], _ :: _, h => h.elim
  | _ :: _, [], h => h.elim
theorem relC.sound {ob : Nm → Option AObj} {f : Nm → Nm} {Γ Γ' : Env} (hob : Obs Γ ob) (hw : Γ'.w = Γ.w) (hS : Γ'.S = Γ.S) {q : Nm → Prop} (hf : ∀ n, q n → (Γ'.g n).v = (Γ.g (f n)).v ∧ (Γ'.ln n = none ∨ Γ'.ln n = Γ.ln (f n)) ∧ n.lt Γ'.nH) {x y : TV} {V : Value} (h : relC ob f x y) (hy : y.All q) (hx : TRep Γ x V) : TRep Γ' y V := by
  rcases h with ⟨v, rfl, h⟩ | rfl
  · have h2 := (relT_pv _ _ _ h).sound hob hx
    exact .p (by rw [hw, hS]; exact h2)
  · exact TRep.unren (Γ := Γ) (Γ' := Γ') (fun b i hb => ⟨by rw [hS]; exact hb, by rw [hw]⟩) hf hy hx
theorem relA.sound {ob : Nm → Option AObj} {f : Nm → Nm} {Γ Γ' : Env} (hob : Obs Γ ob) (hw : Γ'.w = Γ.w) (hS : Γ'.S = Γ.S) {q : Nm → Prop} (hf : ∀ n, q n → (Γ'.g n).v = (Γ.g (f n)).v ∧ (Γ'.ln n = none ∨ Γ'.ln n = Γ.ln (f n)) ∧ n.lt Γ'.nH) {x y : TV} {V : Value} (h : relA ob f x y) (hy : y.All q) (hx : TRep Γ x V) : TRep Γ' y V := by
  rcases h with h | ⟨l, l', rfl, rfl, h⟩
  · exact h.sound hob hw hS hf hy hx
  · obtain ⟨h1, h2⟩ := relCs_get h
    cases hy with
    | ag hy =>
    cases hx with
    | ag hs hx h3 =>
      refine .ag (hs.trans h1) (fun k y u hyk hu => ?_) h3
      have hk : k < l.length := by rw [h1]; exact (List.getElem?_eq_some_iff.1 hyk).1
      exact (h2 k _ y (List.getElem?_eq_getElem hk) hyk).sound hob hw hS hf (hy y (List.mem_of_getElem? hyk)) (hx k _ u (List.getElem?_eq_getElem hk) hu)
theorem EOps.cg {G : Nat → Option PV} {md : Nat → Nat} {hbs : Nat → Bool} {ops : Array Oper} {K : St → Prop} {r : List Oper} {i : Nat} {l : List (Nat × TV)} {n : Nat} {o : List (Nat × AObj)} {H : List AObj} {d : Nat} {x : Operand} {args : Array Operand} {ats : Array TypeId} {ty : TypeId} {pos : String} {af : Array Edge} {f : FuncId}
    (ns ms : List Nat) (Hc : List AObj) (vs ys : List TV) {R : TV → List AObj → Prop} (hc : FC P G f ys Hc R) (hf : hbs 4294967296 = true) (hx : evM l x = some (.fn f [])) (hv : evL l args.toList = some vs) (hr : relAs (obM o H) (rhoN (ns ++ ms)) vs ys) (hsl : slBs Hc.length ys = true)
    (hn : (ns.map (lkN o)) = Hc.map some) (hclo : ∀ o ∈ Hc, cloO o) (hnd : (ns ++ ms).Nodup) (hfr : (freTs ms l && freOs ms o && Nat.blt d n) = true) (hR : ∀ r H', R r H' → (∀ o ∈ H', cloO o) ∧ H'.length = ns.length + ms.length)
    (k : ∀ v H', R v H' → EOps P hbs ops (i + 1) r ((MS.mk ((d, rnT (rhoN (ns ++ ms)) v) :: l) n (zipO (ns ++ ms) H' ++ o) H).st G md) K) :
    EOps P hbs ops i (⟨some d, .call ⟨.value x, args, ats⟩, ty, pos, af, none⟩ :: r) ((MS.mk l n o H).st G md) K := by
  simp only [Bool.and_eq_true] at hfr
  obtain ⟨⟨hf1, hf2⟩, hdn⟩ := hfr
  have hnl : ns.length = Hc.length := by have := congrArg List.length hn; simpa using this
  refine EOps.sem hf (by unfold WantT; rfl) (fun E a w S g h Q => ?_)
  have hev := h.eval
  unfold Oper.wp
  have hx2 := hev x
  rw [show ((MS.mk l n o H).st G md).ev x = _ from evM_ev hx] at hx2
  generalize hX : a.eval x = X at hx2
  cases hx2 with
  | @fn _ _ A hs hA =>
  obtain rfl : A = [] := List.eq_nil_of_length_eq_zero hs
  have hrun : (execOp a.eval ⟨some d, .call ⟨.value x, args, ats⟩, ty, pos, af, none⟩).run P w = .ok (.enter f (args.toList.map a.eval).toArray) w := by
    simp [execOp, resolve, hX, Deferred.ofValue, invoke, callable_run hc.1, ← Array.toList_map]
  rw [hrun, Oper.upon_enter]
  obtain ⟨hl1, hr2⟩ := relAs_get hr
  have hvl : vs.length = args.toList.length := evL_len hv
  obtain ⟨g0, hg0⟩ : ∃ g0 : Nm → GV, g0 = fun m => g (rhoN (ns ++ ms) m) := ⟨_, rfl⟩
  have hold : ∀ j, j < ns.length → lkN o ((ns ++ ms).getD j 0) = Hc[j]? ∧ (Hc[j]?).isSome := fun j hj => by
    have h1 : (ns.map (lkN o))[j]? = (Hc.map some)[j]? := by rw [hn]
    rw [List.getElem?_map, List.getElem?_map, List.getElem?_eq_getElem hj, List.getElem?_eq_getElem (by omega)] at h1
    have h2 : (ns ++ ms).getD j 0 = ns[j] := by rw [getD_at (by simp; omega), List.getElem_append_left hj]
    rw [h2, List.getElem?_eq_getElem (show j < Hc.length by omega)]
    exact ⟨by simpa using h1, rfl⟩
  have hob : ((MS.mk l n o H).st G md).ob = obM o H := st_ob
  have hrho : ∀ j, g0 (.S j) = g (.L ((ns ++ ms).getD j 0)) := fun j => by rw [hg0]; rfl
  have hgetne : ∀ i j, i < (ns ++ ms).length → j < (ns ++ ms).length → (Nm.L ((ns ++ ms).getD i 0)) = .L ((ns ++ ms).getD j 0) → i = j := fun i j hi hj e => by
    have e : (ns ++ ms).getD i 0 = (ns ++ ms).getD j 0 := by injection e
    rw [getD_at hi, getD_at hj] at e
    exact (List.getElem_inj hnd).1 e
  have hhr : HRep G Hc w S g0 := by
    refine ⟨fun j o' hj => ?_, fun j1 j2 hne h1 h2 => ?_, h.st, fun j o' hj => ?_, h.gl⟩
    · have hjl : j < ns.length := by rw [hnl]; exact (List.getElem?_eq_some_iff.1 hj).1
      have h3 : ((MS.mk l n o H).st G md).ob (.L ((ns ++ ms).getD j 0)) = some o' := by rw [hob]; exact (hold j hjl).1.trans hj
      exact ORep.clo2 (h.ob _ o' h3) (Γ' := henv Hc w S g0) (hclo o' (List.mem_of_getElem? hj)) (hrho j) rfl rfl
    · rw [hrho, hrho]
      have q1 : ∀ j, j < Hc.length → (((MS.mk l n o H).st G md).ob (.L ((ns ++ ms).getD j 0))).isSome := fun j hj => by
        rw [hob]
        show (lkN o _).isSome = true
        rw [(hold j (by omega)).1]; exact (hold j (by omega)).2
      exact h.dj _ _ (fun e => hne (hgetne j1 j2 (by simp; omega) (by simp; omega) e)) (q1 j1 h1) (q1 j2 h2)
    · have := hclo o' (List.mem_of_getElem? hj)
      cases o' with
      | box t l => exact fun x hx => (this x hx).mono (fun _ q => q.elim)
      | rw => trivial
      | mp => trivial
      | ow z t ks xs => obtain rfl : ks = [] := this; exact fun k hk => by cases hk
      | gone => trivial
  have hlnE : ∀ j, j < Hc.length → (henv Hc w S g0).ln (.S j) = (((MS.mk l n o H).st G md).env w S g).ln (rhoN (ns ++ ms) (.S j)) := fun j hj => by
    show (Hc[j]?).bind AObj.ln = (((MS.mk l n o H).st G md).ob (.L ((ns ++ ms).getD j 0))).bind AObj.ln
    rw [hob]
    show _ = (lkN o _).bind AObj.ln
    rw [(hold j (by omega)).1]
  refine (hc.2 w S g0 (args.toList.map a.eval) hhr (by rw [List.length_map, ← hvl, hl1]) (fun k y V hy hV => ?_)).mono ?_
  · rw [List.getElem?_map] at hV
    obtain ⟨q, hq, rfl⟩ := Option.map_eq_some_iff.1 hV
    have hk : k < vs.length := by rw [hl1]; exact (List.getElem?_eq_some_iff.1 hy).1
    have h4 := hr2 k _ y (List.getElem?_eq_getElem hk) hy
    have h5 := evL_get hv hq (List.getElem?_eq_getElem hk)
    have h6 : TRep (((MS.mk l n o H).st G md).env w S g) vs[k] (a.eval q) := by
      have := hev q
      rwa [show ((MS.mk l n o H).st G md).ev q = _ from evM_ev h5] at this
    refine h4.sound (Γ := ((MS.mk l n o H).st G md).env w S g) (Γ' := henv Hc w S g0) (by rw [← hob]; exact h.obs) rfl rfl (q := fun n => ∃ i, i < Hc.length ∧ n = .S i) ?_ (slBs_spec _ _ hsl y (List.mem_of_getElem? hy)) h6
    rintro m ⟨j, hj, rfl⟩
    exact ⟨by show (g0 (.S j)).v = _; rw [hg0]; rfl, .inr (hlnE j hj), hj⟩
  · rintro e w' ⟨r', H', v, S', g', rfl, h1, h2, h3, h4, h5, h6⟩
    obtain ⟨hcl, hlen⟩ := hR r' H' h1
    have hlen2 : H'.length = (ns ++ ms).length := by rw [List.length_append]; exact hlen
    have hms : ∀ j, ns.length ≤ j → j < H'.length → (ns ++ ms).getD j 0 ∈ ms := fun j h1 h2 => by
      rw [getD_at (by omega), List.getElem_append_right h1]
      exact List.getElem_mem _
    have hrep : Rep E ((MS.mk l n (zipO (ns ++ ms) H' ++ o) H).st G md) a w' S' (gAft g g' (fun j => .L ((ns ++ ms).getD j 0)) H'.length) := by
      refine h.callG (σ' := (MS.mk l n (zipO (ns ++ ms) H' ++ o) H).st G md) (k := ns.length) (ρ := fun j => .L ((ns ++ ms).getD j 0)) (H := Hc) (H' := H') (g0 := g0) (by omega) (fun i j hi hj e => hgetne i j (by omega) (by omega) e) (fun i hi => ⟨_, rfl⟩) (fun i hi => ?_) (fun i hi hi2 => ?_) (fun i hi => ?_) (fun m hm => ?_) rfl rfl rfl rfl (fun i o' hi => hcl o' (List.mem_of_getElem? hi)) (fun i hi => hrho i) h4 (by rw [hnl]; exact h5) (fun i hi => h6 i (by omega))
      · rw [hob]; exact hold i hi
      · have hm := hms i hi hi2
        unfold freTs at hf1
        unfold freOs at hf2
        exact fresh_of (List.all_eq_true.1 hf1 _ hm) (List.all_eq_true.1 hf2 _ hm)
      · rw [st_ob]; exact lkN_zip hnd hlen2 (by omega)
      · rw [st_ob, hob]
        cases m with
        | S j => rfl
        | L t =>
          refine lkN_zip_out (fun n hn e => ?_)
          obtain ⟨j, hj, rfl⟩ := List.mem_iff_getElem.1 hn
          exact hm j (by omega) (by rw [e, getD_at hj])
    have hput := hrep.put (v := rnT (rhoN (ns ++ ms)) r') (V := v) ?_ (some d)
    · rw [st_put hdn] at hput
      exact ⟨_, _, _, k r' H' h1, hput⟩
    · refine TRep.ren (Γ := henv H' w' S' g') (Γ' := ((MS.mk l n (zipO (ns ++ ms) H' ++ o) H).st G md).env w' S' (gAft g g' (fun j => .L ((ns ++ ms).getD j 0)) H'.length)) (q := Nm.isS) (fun b i hb => ⟨hb, rfl⟩) (fun m hm hq => ?_) h3 h2
      cases m with
      | L t => exact hq.elim
      | S j =>
        have hj : j < H'.length := hm
        refine ⟨?_, .inr ?_, trivial⟩
        · show (gAft g g' (fun j => .L ((ns ++ ms).getD j 0)) H'.length (.L ((ns ++ ms).getD j 0))).v = _
          rw [gAft_in (ρ := fun j => .L ((ns ++ ms).getD j 0)) (fun i j hi hj e => hgetne i j (by omega) (by omega) e) hj]
          rfl
        · show (((MS.mk l n (zipO (ns ++ ms) H' ++ o) H).st G md).ob (.L ((ns ++ ms).getD j 0))).bind AObj.ln = (H'[j]?).bind AObj.ln
          rw [st_ob]
          show (lkN _ _).bind AObj.ln = _
          rw [lkN_zip hnd hlen2 (by omega)]
def pubN (m j : Nat) : Nm → Nm
  | .L t => match Nat.beq t m with
    | true => .S j
    | false => .L t
  | .S i => .S i
theorem pubN_m (m j : Nat) : pubN m j (.L m) = .S j := by
  show (match Nat.beq m m with | true => Nm.S j | false => Nm.L m) = _
  rw [Nat.beq_refl]
theorem pubN_o (m j : Nat) {p : Nm} (h : p ≠ .L m) : pubN m j p = p := by
  cases p with
  | S i => rfl
  | L t =>
    show (match Nat.beq t m with | true => Nm.S j | false => Nm.L t) = _
    cases e3 : Nat.beq t m with
    | true => exact absurd (by rw [Nat.eq_of_beq_eq_true e3]) h
    | false => rfl
def pubO (f : Nm → Nm) : List (Nat × AObj) → List (Nat × AObj)
  | [] => []
  | (t, .box ty l) :: r => (t, .box ty (rnTs f l)) :: pubO f r
  | (t, x) :: r => (t, x) :: pubO f r
def pubT (f : Nm → Nm) : List (Nat × TV) → List (Nat × TV)
  | [] => []
  | (t, v) :: r => (t, rnT f v) :: pubT f r
def pubK (m : Nat) : List (Nat × AObj) → Bool
  | [] => true
  | (_, .ow _ _ ks _) :: r => nmBs m ks && pubK m r
  | (_, _) :: r => pubK m r
theorem lkN_pubT (f : Nm → Nm) : ∀ (l : List (Nat × TV)) (t : Nat), lkT (pubT f l) t = rnT f (lkT l t)
  | [], t => by show TV.u = rnT f .u; unfold rnT; rfl
  | (d, v) :: l, t => by
    have ih := lkN_pubT f l t
    unfold lkT at ih ⊢
    show (match (match Nat.beq t d with | true => some (rnT f v) | false => lkN (pubT f l) t) with | some v => v | none => TV.u) = rnT f (match (match Nat.beq t d with | true => some v | false => lkN l t) with | some v => v | none => TV.u)
    cases Nat.beq t d with
    | true => rfl
    | false => exact ih
def pubX (f : Nm → Nm) : AObj → AObj
  | .box ty l => .box ty (rnTs f l)
  | x => x
theorem lkN_pubO (f : Nm → Nm) : ∀ (o : List (Nat × AObj)) (t : Nat), lkN (pubO f o) t = (lkN o t).map (pubX f)
  | [], t => rfl
  | (d, x) :: o, t => by
    have ih := lkN_pubO f o t
    have e : pubO f ((d, x) :: o) = (d, pubX f x) :: pubO f o := by cases x <;> rfl
    rw [e]
    show (match Nat.beq t d with | true => some (pubX f x) | false => lkN (pubO f o) t) = Option.map (pubX f) (match Nat.beq t d with | true => some x | false => lkN o t)
    cases Nat.beq t d with
    | true => rfl
    | false => exact ih
theorem nmBs_ne {m : Nat} : ∀ {ks : List Nm}, nmBs m ks = true → ∀ k ∈ ks, k ≠ .L m := fun {ks} h k hk e => nmBs_spec m ks h k hk e
theorem pubK_ne {m : Nat} : ∀ {o : List (Nat × AObj)} {t : Nat} {z ty : Nat} {ks : List Nm} {xs : List (List TV)}, pubK m o = true → lkN o t = some (.ow z ty ks xs) → ∀ k ∈ ks, k ≠ .L m
  | [], _, _, _, _, _, _, h => by cases h
  | (d, x) :: o, t, z, ty, ks, xs, hk, h => by
    have h : (match Nat.beq t d with | true => some x | false => lkN o t) = some (.ow z ty ks xs) := h
    cases e : Nat.beq t d with
    | true =>
      rw [e] at h
      cases h
      unfold pubK at hk
      rw [Bool.and_eq_true] at hk
      exact nmBs_ne hk.1
    | false =>
      rw [e] at h
      refine pubK_ne (o := o) ?_ h
      cases x <;> unfold pubK at hk <;> first | exact hk | (rw [Bool.and_eq_true] at hk; exact hk.2)
theorem pubX_ln (f : Nm → Nm) (x : AObj) : (pubX f x).ln = x.ln := by cases x <;> rfl
theorem ghPub {G : Nat → Option PV} {md : Nat → Nat} (m : Nat) {l : List (Nat × TV)} {n : Nat} {o : List (Nat × AObj)} {H : List AObj} {x : AObj} (hm : lkN o m = some x) (hc : cloO x) (hk : pubK m o = true) (h : Rep E ((MS.mk l n o H).st G md) a w S g) :
    ∃ S' g', Rep E ((MS.mk (pubT (pubN m H.length) l) n ((m, .gone) :: pubO (pubN m H.length) o) (H ++ [x])).st G md) a w S' g' := by
  obtain ⟨σ, hσ⟩ : ∃ σ, σ = (MS.mk l n o H).st G md := ⟨_, rfl⟩
  obtain ⟨σ', hσ'⟩ : ∃ σ', σ' = (MS.mk (pubT (pubN m H.length) l) n ((m, .gone) :: pubO (pubN m H.length) o) (H ++ [x])).st G md := ⟨_, rfl⟩
  obtain ⟨g', hg'⟩ : ∃ g' : Nm → GV, g' = updG (updG g (.S H.length) (g (.L m))) (.L m) ⟨(g (.L m)).v, fun _ => False⟩ := ⟨_, rfl⟩
  have gm : g' (.L m) = ⟨(g (.L m)).v, fun _ => False⟩ := by rw [hg']; exact updG_same _ _ _
  have gj : g' (.S H.length) = g (.L m) := by rw [hg']; unfold updG; rw [if_neg (by simp), if_pos rfl]
  have go : ∀ p, p ≠ .L m → p ≠ .S H.length → g' p = g p := fun p h1 h2 => by rw [hg']; unfold updG; rw [if_neg h1, if_neg h2]
  have ob : ∀ p, σ.ob p = obM o H p := fun p => by rw [hσ]; exact obM_ob p
  have obm : σ'.ob (.L m) = some .gone := by
    rw [hσ', obM_ob]
    show (match Nat.beq m m with | true => some AObj.gone | false => _) = _
    rw [Nat.beq_refl]
  have obL : ∀ t, t ≠ m → σ'.ob (.L t) = (lkN o t).map (pubX (pubN m H.length)) := fun t ht => by
    rw [hσ', obM_ob, ← lkN_pubO]
    show (match Nat.beq t m with | true => some AObj.gone | false => lkN (pubO (pubN m H.length) o) t) = _
    cases e : Nat.beq t m with
    | true => exact absurd (Nat.eq_of_beq_eq_true e) ht
    | false => rfl
  have obj : σ'.ob (.S H.length) = some x := by
    rw [hσ', obM_ob]
    show (H ++ [x])[H.length]? = some x
    simp
  have obS : ∀ i, i < H.length → σ'.ob (.S i) = H[i]? := fun i hi => by
    rw [hσ', obM_ob]
    show (H ++ [x])[i]? = _
    rw [List.getElem?_append_left hi]
  have hH : σ.H = H := by rw [hσ]; rfl
  have hH' : σ'.H = H ++ [x] := by rw [hσ']; rfl
  rw [← hσ']
  rw [← hσ] at h
  have hxm : σ.ob (.L m) = some x := (ob _).trans hm
  have hN : ∀ p, p ≠ .L m → p.lt H.length → NmOk (σ.env w S g) (σ'.env w S g') p := by
    intro p h1 h2
    cases p with
    | L t =>
      refine .inl ⟨by show (g' (.L t)).v = _; rw [go _ h1 (by simp)]; rfl, .inr ?_⟩
      show (σ'.ob (.L t)).bind AObj.ln = (σ.ob (.L t)).bind AObj.ln
      rw [obL t (fun e => h1 (by rw [e])), ob]
      show ((lkN o t).map _).bind _ = (lkN o t).bind _
      cases lkN o t with
      | none => rfl
      | some y => exact pubX_ln _ y
    | S i =>
      have hi : i < H.length := h2
      refine .inl ⟨by show (g' (.S i)).v = _; rw [go _ h1 (fun e => by cases e; omega)]; rfl, .inr ?_⟩
      show (σ'.ob (.S i)).bind AObj.ln = (σ.ob (.S i)).bind AObj.ln
      rw [obS i hi, ob]; rfl
  have hR : ∀ p, p.lt (σ.env w S g).nH → True → ((σ'.env w S g').g (pubN m H.length p)).v = ((σ.env w S g).g p).v ∧ ((σ'.env w S g').ln (pubN m H.length p) = none ∨ (σ'.env w S g').ln (pubN m H.length p) = (σ.env w S g).ln p) ∧ (pubN m H.length p).lt (σ'.env w S g').nH := by
    intro p hp _
    have hp : p.lt H.length := by rw [← hH]; exact hp
    have hn2 : (σ'.env w S g').nH = H.length + 1 := by show σ'.H.length = _; rw [hH']; simp
    by_cases e : p = .L m
    · subst e
      have e2 := pubN_m m H.length
      rw [e2]
      refine ⟨by show (g' (.S H.length)).v = _; rw [gj]; rfl, .inr ?_, by rw [hn2]; exact Nat.lt_succ_self _⟩
      show (σ'.ob (.S H.length)).bind AObj.ln = (σ.ob (.L m)).bind AObj.ln
      rw [obj, hxm]
    · have e2 := pubN_o m H.length e
      rw [e2]
      rcases hN p e hp with ⟨q1, q2⟩ | ⟨q1, q2⟩
      · exact ⟨q1, q2, Nm.lt_mono hp (by rw [hn2]; omega)⟩
      · refine ⟨?_, ?_, Nm.lt_mono hp (by rw [hn2]; omega)⟩
        · show (g' p).v = (g p).v
          rw [go p e (fun e3 => by subst e3; exact Nat.lt_irrefl _ hp)]
        · rcases q2 with q2 | ⟨k, k', q2, q3, q4⟩
          · exact .inl q2
          · exfalso
            have : (σ'.env w S g').ln p = (σ.env w S g).ln p := by
              show (σ'.ob p).bind AObj.ln = (σ.ob p).bind AObj.ln
              cases p with
              | L t =>
                rw [obL t (fun e3 => e (by rw [e3])), ob]
                show ((lkN o t).map _).bind _ = (lkN o t).bind _
                cases lkN o t with
                | none => rfl
                | some y => exact pubX_ln _ y
              | S i => rw [obS i hp, ob]; rfl
            rw [this, q2] at q3
            cases q3
            omega
  have hmv : ∀ {v : TV} {V : Value}, TRep (σ.env w S g) v V → TRep (σ'.env w S g') (rnT (pubN m H.length) v) V := fun hv => TRep.ren (Γ := σ.env w S g) (Γ' := σ'.env w S g') (q := fun _ => True) (fun b i hb => ⟨hb, rfl⟩) hR hv (hAllT _)
  have hso : ∀ p, p ≠ .L m → p ≠ .S H.length → (σ'.ob p).isSome → (σ.ob p).isSome := fun p h1 h2 hs => by
    cases p with
    | L t =>
      rw [obL t (fun e => h1 (by rw [e]))] at hs
      rw [ob]
      show (lkN o t).isSome = true
      simpa using hs
    | S i =>
      by_cases hi : i < H.length
      · rw [obS i hi] at hs; rw [ob]; exact hs
      · exfalso
        have : i < σ'.H.length := by
          obtain ⟨y, hy⟩ := Option.isSome_iff_exists.1 hs
          exact (List.getElem?_eq_some_iff.1 (show σ'.H[i]? = some y from hy)).1
        rw [hH'] at this
        simp at this
        exact h2 (by rw [show i = H.length by omega])
  have hgB : ∀ p b, (σ'.ob p).isSome → (g' p).B b → ∃ p0, (p0 = p ∧ p ≠ .L m ∧ p ≠ .S H.length ∨ p0 = .L m ∧ p = .S H.length) ∧ (σ.ob p0).isSome ∧ (g p0).B b := by
    intro p b hs hb
    by_cases e1 : p = .L m
    · subst e1; rw [gm] at hb; exact hb.elim
    · by_cases e2 : p = .S H.length
      · subst e2; rw [gj] at hb; exact ⟨.L m, .inr ⟨rfl, rfl⟩, by rw [hxm]; rfl, hb⟩
      · rw [go p e1 e2] at hb; exact ⟨p, .inl ⟨rfl, e1, e2⟩, hso p e1 e2 hs, hb⟩
  refine ⟨S, g', h.re (σ' := σ') (by rw [hσ, hσ']; rfl) (by rw [hσ, hσ']; rfl) (by rw [hH, hH']; simp) (fun t V hv => ?_) (fun b k hk => hk) (fun b k hk => .inl hk) ?_ ?_ ?_ ?_ (fun i hi => hN (.S i) (by simp) (by rw [hH] at hi; exact hi))⟩
  · have e : σ'.tm t = rnT (pubN m H.length) (σ.tm t) := by rw [hσ, hσ']; exact lkN_pubT _ l t
    rw [e]
    exact hmv hv
  · intro p y hy
    by_cases e1 : p = .L m
    · subst e1
      rw [obm] at hy
      cases hy
      intro b hb
      have hb : (g' (.L m)).B b := hb
      rw [gm] at hb
      exact hb
    by_cases e2 : p = .S H.length
    · subst e2
      rw [obj] at hy
      cases hy
      exact ORep.clo2 (h.ob (.L m) x hxm) (Γ' := σ'.env w S g') hc gj rfl rfl
    have hgp := go p e1 e2
    cases p with
    | S i =>
      have hi : i < H.length := by
        have : i < σ'.H.length := (List.getElem?_eq_some_iff.1 (show σ'.H[i]? = some y from hy)).1
        rw [hH'] at this
        simp at this
        have : i ≠ H.length := fun e => e2 (by rw [e])
        omega
      have hy2 : σ.ob (.S i) = some y := by rw [ob]; rw [obS i hi] at hy; exact hy
      refine ORep.move (Γ := σ.env w S g) (Γ' := σ'.env w S g') (q := Nm.isS) (fun b i hb => ⟨hb, rfl⟩) (by show σ.H.length ≤ σ'.H.length; rw [hH, hH']; simp) (fun p h1 h2 => hN p (fun e => by subst e; exact h2) (by rw [← hH]; exact h1)) (h.ob _ y hy2) (h.hs i y hy2) hgp (fun b hb => ⟨rfl, fun k hk => hk⟩)
    | L t =>
      have ht : t ≠ m := fun e => e1 (by rw [e])
      rw [obL t ht] at hy
      obtain ⟨y0, hy0, rfl⟩ := Option.map_eq_some_iff.1 hy
      have hy2 : σ.ob (.L t) = some y0 := by rw [ob]; exact hy0
      have hrep := h.ob _ y0 hy2
      have hmove : y0.All (fun k => k ≠ .L m) → ORep (σ'.env w S g') (.L t) y0 := fun hq => ORep.move (Γ := σ.env w S g) (Γ' := σ'.env w S g') (q := fun k => k ≠ .L m) (fun b i hb => ⟨hb, rfl⟩) (by show σ.H.length ≤ σ'.H.length; rw [hH, hH']; simp) (fun p h1 h2 => hN p h2 (by rw [← hH]; exact h1)) hrep hq hgp (fun b hb => ⟨rfl, fun k hk => hk⟩)
      cases y0 with
      | box ty l =>
        obtain ⟨b, arr, h1, h2, h3, h4, h5, h6, h7⟩ := hrep
        refine ⟨b, arr, ?_, ?_, h3, ?_, fun k y u hy hu => ?_, h6, h7⟩
        · show (g' (.L t)).v = _; rw [hgp]; exact h1
        · show ∀ b', (g' (.L t)).B b' ↔ _; rw [hgp]; exact h2
        · rw [h4, rnTs_len]
        · rw [rnTs_get] at hy
          obtain ⟨y0, hy0, rfl⟩ := Option.map_eq_some_iff.1 hy
          exact hmv (h5 k y0 u hy0 hu)
      | rw z t xs => exact hmove trivial
      | mp es => exact hmove trivial
      | ow z t ks xs => exact hmove (pubK_ne hk hy0)
      | gone => exact hmove trivial
  · intro p q hne h1 h2 b b1 b2
    obtain ⟨p0, c1, s1, d1⟩ := hgB p b h1 b1
    obtain ⟨q0, c2, s2, d2⟩ := hgB q b h2 b2
    refine h.dj p0 q0 (fun e => ?_) s1 s2 b d1 d2
    rcases c1 with ⟨rfl, c3, c4⟩ | ⟨rfl, c3⟩
    · rcases c2 with ⟨rfl, c5, c6⟩ | ⟨rfl, c5⟩
      · exact hne e
      · exact c3 e
    · rcases c2 with ⟨rfl, c5, c6⟩ | ⟨rfl, c5⟩
      · exact c5 e.symm
      · exact hne (c3.trans c5.symm)
  · intro p hs b hb
    obtain ⟨p0, _, s1, d1⟩ := hgB p b hs hb
    exact ⟨p0, s1, d1⟩
  · intro i y hy
    rw [hH'] at hy
    by_cases hi : i < H.length
    · rw [List.getElem?_append_left hi] at hy
      exact h.hs i y (by rw [hH]; exact hy)
    · rw [List.getElem?_append_right (by omega)] at hy
      have : y = x := by
        cases e : i - H.length with
        | zero => rw [e] at hy; simpa using hy.symm
        | succ k => rw [e] at hy; simp at hy
      subst this
      cases y with
      | box t l => exact fun z hz => (hc z hz).mono (fun _ q => q.elim)
      | rw => trivial
      | mp => trivial
      | ow z t ks xs => obtain rfl : ks = [] := hc; exact fun k hk => by cases hk
      | gone => trivial
theorem AW.pub {G : Nat → Option PV} {md : Nat → Nat} (m : Nat) {l : List (Nat × TV)} {n : Nat} {o : List (Nat × AObj)} {H : List AObj} {x : AObj} {c : Code} {Q : Exit → St → Prop} (hm : lkN o m = some x) (hc : cloO x) (hk : pubK m o = true)
    (k : AW P c Q ((MS.mk (pubT (pubN m H.length) l) n ((m, .gone) :: pubO (pubN m H.length) o) (H ++ [x])).st G md)) : AW P c Q ((MS.mk l n o H).st G md) := AW.gh (fun E a w S g h => ghPub m hm hc hk h) k
theorem EOps.pub {G : Nat → Option PV} {md : Nat → Nat} (m : Nat) {l : List (Nat × TV)} {n : Nat} {o : List (Nat × AObj)} {H : List AObj} {x : AObj} {hbs : Nat → Bool} {ops : Array Oper} {K : St → Prop} {r : List Oper} {i : Nat} (hf : hbs 4294967296 = true) (hm : lkN o m = some x) (hc : cloO x) (hk : pubK m o = true)
    (k : EOps P hbs ops i r ((MS.mk (pubT (pubN m H.length) l) n ((m, .gone) :: pubO (pubN m H.length) o) (H ++ [x])).st G md) K) : EOps P hbs ops i r ((MS.mk l n o H).st G md) K := EOps.gh hf (fun E a w S g h => ghPub m hm hc hk h) k
theorem ghAbsL {G : Nat → Option PV} {md : Nat → Nat} (n m i j : Nat) (vs' : List PV) {l : List (Nat × TV)} {nt : Nat} {o : List (Nat × AObj)} {H : List AObj} {z z' : Nat} {t t' : TypeId} {ks ks2 : List Nm} {xs : List (List TV)} {c : List TV} {vs : List PV} (hnm : Nat.beq n m = false)
    (hn : lkN o n = some (.ow z t ks xs)) (hm : lkN o m = some (.ow z' t' ks2 (ocs vs))) (hc : xs[i]? = some c) (hj : c[j]? = some (.vw (.L m) vs.length)) (hv : xs.set i (c.set j (.o (.own z' t' vs))) = ocs vs')
    (h : Rep E ((MS.mk l nt o H).st G md) a w S g) :
    ∃ S' g', Rep E ((MS.mk l nt ((m, .gone) :: (n, .ow z t [] (ocs vs')) :: o) H).st G md) a w S' g' := by
  have hn' : ((MS.mk l nt o H).st G md).ob (.L n) = some (.ow z t ks xs) := by rw [st_ob]; exact hn
  have hm' : ((MS.mk l nt o H).st G md).ob (.L m) = some (.ow z' t' ks2 (ocs vs)) := by rw [st_ob]; exact hm
  obtain ⟨p1, p2, fl, F, o1, o2, _⟩ := h.ob (.L n) _ hn'
  have hcz : c.length = z := o2 c (List.mem_of_getElem? hc)
  have hjl : j < c.length := (List.getElem?_eq_some_iff.1 hj).1
  have key := h.absorb (n := .L n) (m := .L m) (ks' := []) (xs' := ocs vs') (q := i * z + j) (fun e => by cases e; rw [Nat.beq_refl] at hnm; cases hnm) hn' hm' (by rw [flatten_get o2 hc j (by omega)]; exact hj)
    (by rw [← hv]; exact flatten_set o2 hc (by omega)) (fun y hy => ?_) (by rw [← hv, List.length_set]) (fun y hy x hx => ?_) (fun k hk => by cases hk)
  · obtain ⟨S', g', hr⟩ := key
    rw [st_set, st_set] at hr
    exact ⟨S', g', hr⟩
  · rw [← hv] at hy
    rcases List.mem_or_eq_of_mem_set hy with h | h
    · exact o2 y h
    · rw [h, List.length_set]; exact hcz
  · obtain ⟨v, _, rfl⟩ := List.mem_map.1 hy
    obtain ⟨u, _, rfl⟩ := List.mem_map.1 hx
    exact oc_all u
theorem AW.anyD {G : Nat → Option PV} {md : Nat → Nat} {X : Type} (s : X → (Nat → Bool) → MS) (I : X → (Nat → Bool) → Prop) (x0 : X) {id : Nat} {ops : Array Oper} {Q : Exit → St → Prop} {σ : St} (h0 : I x0 (fun _ => false)) (hw : Wk σ ((s x0 (fun _ => false)).st G md))
    (hstep : ∀ (l : Nat → Bool) (i : Nat) (o : Oper) (x : X), ops[i]? = some o → l i = false → (∀ (p : Nat) e, o.after.toList[p]? = some e → Region.binds .any e = true → l e.on = true) → (∀ (k : Nat) o', ops[k]? = some o' → ∀ (p : Nat) e, o'.after.toList[p]? = some e → Region.binds .any e = true → l e.on = false → l k = false) → I x l → Step1 P o ((s x l).st G md) (fun τ => ∃ x', I x' (upB l i) ∧ Wk τ ((s x' (upB l i)).st G md)))
    (hQ : ∀ τ τ' : St, Wk τ τ' → Q .normal τ' → Q .normal τ) (hend : ∀ l x, (∀ i, i < ops.size → l i = true) → I x l → Q .normal ((s x l).st G md))
    (hm : P.follows .mixedOrders = true) (hg : (ops.toList.all fun o => o.guard.isNone && o.after.toList.all fun e => true) = true)
    (hb : ((List.range ops.size).all fun i => match ops[i]? with | some o => o.after.toList.all (fun e => !Region.binds .any e || Nat.blt e.on i) | none => false) = true) : AW P (.region id ops true) Q σ := by
  refine AW.anyW s (fun x l => I x l ∧ ∀ (k : Nat) o', ops[k]? = some o' → l k = true → ∀ e ∈ o'.after.toList, Region.binds .any e = true → l e.on = true) x0 ⟨h0, fun _ _ _ h => by cases h⟩ hw ?_ hQ (fun l x h1 h2 => hend l x h1 h2.1) hm hg hb
  intro l i o x ho hl hd ⟨hI, hc⟩ E a w S g hr Q'
  refine Oper.wp_mono (fun a' w' ⟨τ, S', g', ⟨x', q1, q2⟩, q3⟩ => ⟨τ, S', g', ⟨x', ⟨q1, ?c1⟩, q2⟩, q3⟩) (hstep l i o x ho hl (fun p e hp hb => hd e (List.mem_of_getElem? hp) hb) (fun k o' hk p e hp hb he => ?c2) hI E a w S g hr Q')
  case c1 =>
    intro k o' hk hl' e he hb
    rw [upB_eq] at hl' ⊢
    by_cases e1 : e.on = i
    · rw [if_pos e1]
    · rw [if_neg e1]
      by_cases e2 : k = i
      · subst e2; rw [ho] at hk; cases hk; exact hd e he hb
      · rw [if_neg e2] at hl'; exact hc k o' hk hl' e he hb
  case c2 =>
    cases h : l k with
    | false => rfl
    | true => rw [hc k o' hk h e (List.mem_of_getElem? hp) hb] at he; cases he
theorem EOps.ap0L {G : Nat → Option PV} {md : Nat → Nat} (T : Tab P) (ks : List Nm) {ys : List (List TV)} {hbs : Nat → Bool} {ops : Array Oper} {K : St → Prop} {r : List Oper} {i : Nat} {l : List (Nat × TV)} {n : Nat} {o : List (Nat × AObj)} {H : List AObj} {d : Nat} {s x : Operand} {t : TypeId} {ty : TypeId} {pos : String} {af : Array Edge} {gd : Option (Nat × Bool)} {e z by_ : Nat} {b : Bool} {zs : List Value} {X : TV} (m : Nat)
    (hf : hbs 4294967296 = true) (hg : gtM ops.toList l n gd = true) (hs : evM l s = some .nil) (hx : evM l x = some X) (he : T.sl t = some e) (hl : T.lay e = some (b, z)) (hz : T.zer e = some zs) (hby : T.byt e = some by_) (hq : (Nat.beq zs.length z && Nat.blt 0 z && Nat.blt 0 by_ && Nat.blt d n) = true)
    (hfr : (freT m l && freO m o && nmBs m ks) = true) (hsrc : srcM (obM o H) z X ys) (hk2 : ∀ y ∈ ys.flatten, y.All (· ∈ ks)) (hkl : ∀ k ∈ ks, k.lt H.length) (hby2 : ys.length * by_ ≤ 140737488355328)
    (k : EOps P hbs ops (i + 1) r ((MS.mk ((d, .vw (.L m) ys.length) :: l) n ((m, .ow z e ks ys) :: o) H).st G md) K) :
    EOps P hbs ops i (⟨some d, .call ⟨.builtin .append, #[s, x], #[t, t]⟩, ty, pos, af, gd⟩ :: r) ((MS.mk l n o H).st G md) K := by
  simp only [Bool.and_eq_true] at hq hfr
  obtain ⟨⟨⟨c1, c2⟩, c3⟩, c4⟩ := hq
  obtain ⟨⟨f1, f2⟩, f3⟩ := hfr
  have hb : 0 < by_ := Nat.le_of_ble_eq_true c3
  have hok : AppOk P t e z ys.length := ⟨T.hsl _ _ he, ⟨b, T.hlay _ _ hl⟩, ⟨zs, (T.hzer _ _ hz).1, Nat.eq_of_beq_eq_true c1⟩, Nat.le_of_ble_eq_true c2, ⟨by_, T.hbyt _ _ hby, hby2⟩, Nat.le_trans (Nat.le_mul_of_pos_right _ hb) hby2⟩
  have hobm : ((MS.mk l n o H).st G md).ob = obM o H := by funext m; exact obM_ob m
  have hfz : Fresh ((MS.mk l n o H).st G md) (.L m) := fresh_of f1 f2
  refine EOps.sem hf (want_of hg) (fun E a w S g hr Q => ?_)
  have hev := hr.eval
  have hXr := hev x
  rw [show ((MS.mk l n o H).st G md).ev x = X from evM_ev hx] at hXr
  obtain ⟨ad, c, news, hsr⟩ := hsrc.sound (by rw [← hobm]; exact hr.obs) hXr
  obtain ⟨v', w', r1, r2, r4⟩ := hr.grow0Ow (P := P) (ty := ty) (ks := ks) hfz hok hsr hk2 hkl (fun k hk e => nmBs_ne f3 k hk e) (fun j e => by cases e)
  have hsv : a.eval s = .slice none 0 0 := by
    have h0 := hev s
    rw [show ((MS.mk l n o H).st G md).ev s = .nil from evM_ev hs] at h0
    generalize a.eval s = Y at h0
    cases h0; rfl
  have hrun : (execOp a.eval ⟨some d, .call ⟨.builtin .append, #[s, x], #[t, t]⟩, ty, pos, af, gd⟩).run P w = .ok (.value v') w' := by
    simp [execOp, resolve, invoke, builtin, hsv, r1]
  unfold Oper.wp
  rw [hrun, Oper.upon_value]
  have hput := r4.put (v := .vw (.L m) ys.length) (V := v') (.vw trivial r2 (fun k' hk' => ?_)) (some d)
  · rw [st_addL, st_put c4] at hput
    exact ⟨_, S, _, k, hput⟩
  · have e' : ((((MS.mk l n o H).st G md).add (.L m) (.ow z e ks ys)).ob (.L m)).bind AObj.ln = some k' := hk'
    rw [add_same _ hfz] at e'
    simp only [Option.bind_some, AObj.ln, Option.some.injEq] at e'
    exact ⟨Nat.le_of_eq e', fun _ => (updG_v _ _ _).symm⟩
theorem EOps.absL {G : Nat → Option PV} {md : Nat → Nat} (n m i j : Nat) (vs' : List PV) {l : List (Nat × TV)} {nt : Nat} {o : List (Nat × AObj)} {H : List AObj} {z z' : Nat} {t t' : TypeId} {ks ks2 : List Nm} {xs : List (List TV)} {c : List TV} {vs : List PV} {hbs : Nat → Bool} {ops : Array Oper} {K : St → Prop} {r : List Oper} {ii : Nat} (hf : hbs 4294967296 = true) (hnm : Nat.beq n m = false)
    (hn : lkN o n = some (.ow z t ks xs)) (hm : lkN o m = some (.ow z' t' ks2 (ocs vs))) (hc : xs[i]? = some c) (hj : c[j]? = some (.vw (.L m) vs.length)) (hv : xs.set i (c.set j (.o (.own z' t' vs))) = ocs vs')
    (k : EOps P hbs ops ii r ((MS.mk l nt ((m, .gone) :: (n, .ow z t [] (ocs vs')) :: o) H).st G md) K) : EOps P hbs ops ii r ((MS.mk l nt o H).st G md) K := EOps.gh hf (fun E a w S g h => ghAbsL n m i j vs' hnm hn hm hc hj hv h) k
theorem AW.absL {G : Nat → Option PV} {md : Nat → Nat} (n m i j : Nat) (vs' : List PV) {l : List (Nat × TV)} {nt : Nat} {o : List (Nat × AObj)} {H : List AObj} {z z' : Nat} {t t' : TypeId} {ks ks2 : List Nm} {xs : List (List TV)} {c : List TV} {vs : List PV} {C : Code} {Q : Exit → St → Prop} (hnm : Nat.beq n m = false)
    (hn : lkN o n = some (.ow z t ks xs)) (hm : lkN o m = some (.ow z' t' ks2 (ocs vs))) (hc : xs[i]? = some c) (hj : c[j]? = some (.vw (.L m) vs.length)) (hv : xs.set i (c.set j (.o (.own z' t' vs))) = ocs vs')
    (k : AW P C Q ((MS.mk l nt ((m, .gone) :: (n, .ow z t [] (ocs vs')) :: o) H).st G md)) : AW P C Q ((MS.mk l nt o H).st G md) := AW.gh (fun E a w S g h => ghAbsL n m i j vs' hnm hn hm hc hj hv h) k
end Go.Proofs.YtglkkbgflnpjeaaGreatDoor.En
end
