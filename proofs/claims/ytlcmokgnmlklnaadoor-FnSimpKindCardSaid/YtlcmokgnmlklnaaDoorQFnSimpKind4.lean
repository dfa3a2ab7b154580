-- YtlcmokgnmlklnaaDoor's texts for the statement FnSimpKind, one behind the other (merge.py).
import Derived.Test.YtlcmokgnmlklnaaDoorQFnSimpKind3
import Derived.Scope
import Derived.Test.YtlcmokgnmlklnaaDoorQFnSimpKind2
import Derived.Below
import Derived.Stop.LaidErr
import Derived.MakeChecks
import Derived.Test.YtlcmokgnmlklnaaDoorRows
import Derived.WalkKit
import Derived.ProofKit
import Derived.OpenShut
import Derived.ShutString
import Derived.ChangeOld
import Derived.ChangeSlices
import Derived.Carry
import Derived.OpenVars
import Derived.SizedLaws
import Derived.Test.YtlcmokgnmlklnaaDoorCards
import Derived.Test.YtlcmokgnmlklnaaDoorTie
import Derived.SevenTiedAt
import Derived.LaidMore
import Derived.LaidLaws
import Derived.Handed
import Derived.Stop.Joined
import Derived.Lib.LaidTab
section
namespace Go.Proofs.YtlcmokgnmlklnaaDoor.En
set_option linter.unusedVariables false
set_option linter.unusedSimpArgs false
open Go Go.RowKit Go.Proofs.YtlcmokgnmlklnaaDoor.PA
variable {P : Program} {G : Nat → Option PV} {md : Nat → Nat}
theorem AW.anyW {X : Type} (s : X → (Nat → Bool) → MS) (I : X → (Nat → Bool) → Prop) (x0 : X) {id : Nat} {ops : Array Oper} {Q : Exit → St → Prop} {σ : St} (h0 : I x0 (fun _ => false)) (hw : Wk σ ((s x0 (fun _ => false)).st G md))
    (hstep : ∀ (l : Nat → Bool) (i : Nat) (o : Oper) (x : X), ops[i]? = some o → l i = false → (∀ e ∈ o.after.toList, Region.binds .any e = true → l e.on = true) → I x l → Step1 P o ((s x l).st G md) (fun τ => ∃ x', I x' (upB l i) ∧ Wk τ ((s x' (upB l i)).st G md)))
    (hQ : ∀ τ τ' : St, Wk τ τ' → Q .normal τ' → Q .normal τ) (hend : ∀ l x, (∀ i, i < ops.size → l i = true) → I x l → Q .normal ((s x l).st G md))
    (hm : P.follows .mixedOrders = true) (hg : (ops.toList.all fun o => o.guard.isNone && o.after.toList.all fun e => true) = true)
    (hb : ((List.range ops.size).all fun i => match ops[i]? with | some o => o.after.toList.all (fun e => !Region.binds .any e || Nat.blt e.on i) | none => false) = true) : AW P (.region id ops true) Q σ :=
  AW.anyF (fun l τ => ∃ x, I x l ∧ Wk τ ((s x l).st G md)) hm hg hb ⟨x0, h0, hw⟩ (fun l τ hl ⟨x, h1, h2⟩ => hQ _ _ h2 (hend l x hl h1))
    (fun l i o ho hl hd τ ⟨x, h1, h2⟩ E a w S g hr Q' => hstep l i o x ho hl hd h1 E a w S g (hr.weak h2) Q')
theorem st_ob {l : List (Nat × TV)} {n : Nat} {o : List (Nat × AObj)} {H : List AObj} : ((MS.mk l n o H).st G md).ob = obM o H := by funext m; exact obM_ob m
theorem flatten_set {α : Type} {z : Nat} : ∀ {xs : List (List α)}, (∀ x ∈ xs, x.length = z) → ∀ {i j : Nat} {c : List α} {v : α}, xs[i]? = some c → j < z → (xs.set i (c.set j v)).flatten = xs.flatten.set (i * z + j) v
  | [], _, i, j, c, v, h, _ => by simp at h
  | x :: xs, hz, 0, j, c, v, h, hj => by
    simp only [List.getElem?_cons_zero, Option.some.injEq] at h
    subst h
    have : x.length = z := hz x (by simp)
    rw [List.set_cons_zero, List.flatten_cons, List.flatten_cons, Nat.zero_mul, Nat.zero_add, List.set_append, if_pos (by omega)]
  | x :: xs, hz, i + 1, j, c, v, h, hj => by
    simp only [List.getElem?_cons_succ] at h
    have hx : x.length = z := hz x (by simp)
    rw [List.set_cons_succ, List.flatten_cons, List.flatten_cons, flatten_set (fun y hy => hz y (by simp [hy])) h hj, List.set_append, if_neg (by rw [hx, Nat.succ_mul]; omega), hx, show (i + 1) * z + j - z = i * z + j by rw [Nat.succ_mul]; omega]
theorem ghSplit (i j m : Nat) {l : List (Nat × TV)} {nt : Nat} {o : List (Nat × AObj)} {H : List AObj} {d z z' : Nat} {t t' : TypeId} {ks : List Nm} {xs : List (List TV)} {c : List TV} {vs : List PV}
    (hd : lkN o d = some (.ow z t ks xs)) (hc : xs[i]? = some c) (hj : c[j]? = some (.o (.own z' t' vs))) (hf : (freT m l && freO m o) = true) {E : Ent} {a : Act} {w : World} {S : Nat → Nat → Prop} {g : Nm → GV} (h : Rep E ((MS.mk l nt o H).st G md) a w S g) :
    ∃ S' g', Rep E ((MS.mk l nt ((m, .ow z' t' [] (ocs vs)) :: (d, .ow z t (.L m :: ks) (xs.set i (c.set j (.vw (.L m) vs.length)))) :: o) H).st G md) a w S' g' := by
  rw [Bool.and_eq_true] at hf
  have hn : ((MS.mk l nt o H).st G md).ob (.L d) = some (.ow z t ks xs) := by rw [st_ob]; exact hd
  obtain ⟨p1, p2, fl, F, o1, o2, _⟩ := h.ob (.L d) _ hn
  have hcz : c.length = z := o2 c (List.mem_of_getElem? hc)
  have hjl : j < c.length := (List.getElem?_eq_some_iff.1 hj).1
  have hil : i < xs.length := (List.getElem?_eq_some_iff.1 hc).1
  have hmem : ∀ x ∈ xs.set i (c.set j (.vw (.L m) vs.length)), x = c.set j (.vw (.L m) vs.length) ∨ x ∈ xs := fun x hx => by
    rcases List.mem_or_eq_of_mem_set hx with h | h
    · exact .inr h
    · exact .inl h
  have hz : ∀ x ∈ xs.set i (c.set j (.vw (.L m) vs.length)), x.length = z := fun x hx => by
    rcases hmem x hx with rfl | h
    · rw [List.length_set]; exact hcz
    · exact o2 x h
  have key := h.split (n := .L d) (m := .L m) (z' := z') (t' := t') (ks' := .L m :: ks) (xs' := xs.set i (c.set j (.vw (.L m) vs.length))) (vs := vs) (q := i * z + j) hn (fresh_of hf.1 hf.2)
    (by rw [flatten_get o2 hc j (by omega)]; exact hj) (flatten_set o2 hc (by omega)) hz (by rw [List.length_set]) (fun y hy x hx => ?_) (fun k hk => ?_) (fun i e => by cases e)
  · obtain ⟨S', g', hr⟩ := key
    rw [st_set, st_addL] at hr
    exact ⟨S', g', hr⟩
  · have hall : ∀ x ∈ c, x.All (· ∈ (Nm.L m :: ks)) := fun x hx => (p2 c (List.mem_of_getElem? hc) x hx).mono (fun q hq => List.mem_cons_of_mem _ hq)
    rcases hmem y hy with rfl | h
    · rcases List.mem_or_eq_of_mem_set hx with h | h
      · exact hall x h
      · rw [h]; exact .vw (List.mem_cons_self ..)
    · exact (p2 y h x hx).mono (fun q hq => List.mem_cons_of_mem _ hq)
  · rcases List.mem_cons.1 hk with h | h
    · exact .inr h
    · exact .inl h
theorem ghAbsorb (i j : Nat) {n m : Nat} (vs' : List PV) {l : List (Nat × TV)} {nt : Nat} {o : List (Nat × AObj)} {H : List AObj} {z z' : Nat} {t t' : TypeId} {ks ks2 : List Nm} {xs : List (List TV)} {c : List TV} {vs : List PV} (hnm : n ≠ m)
    (hn : H[n]? = some (.ow z t ks xs)) (hm : H[m]? = some (.ow z' t' ks2 (ocs vs))) (hc : xs[i]? = some c) (hj : c[j]? = some (.vw (.S m) vs.length)) (hv : xs.set i (c.set j (.o (.own z' t' vs))) = ocs vs')
    {E : Ent} {a : Act} {w : World} {S : Nat → Nat → Prop} {g : Nm → GV} (h : Rep E ((MS.mk l nt o H).st G md) a w S g) :
    ∃ S' g', Rep E ((MS.mk l nt o ((H.set n (.ow z t [] (ocs vs'))).set m .gone)).st G md) a w S' g' := by
  have hn' : ((MS.mk l nt o H).st G md).ob (.S n) = some (.ow z t ks xs) := hn
  have hm' : ((MS.mk l nt o H).st G md).ob (.S m) = some (.ow z' t' ks2 (ocs vs)) := hm
  obtain ⟨p1, p2, fl, F, o1, o2, _⟩ := h.ob (.S n) _ hn'
  have hcz : c.length = z := o2 c (List.mem_of_getElem? hc)
  have hjl : j < c.length := (List.getElem?_eq_some_iff.1 hj).1
  have key := h.absorb (n := .S n) (m := .S m) (ks' := []) (xs' := ocs vs') (q := i * z + j) (fun e => hnm (by cases e; rfl)) hn' hm' (by rw [flatten_get o2 hc j (by omega)]; exact hj)
    (by rw [← hv]; exact flatten_set o2 hc (by omega)) (fun y hy => ?_) (by rw [← hv, List.length_set]) (fun y hy x hx => ?_) (fun k hk => by cases hk)
  · obtain ⟨S', g', hr⟩ := key
    exact ⟨S', g', hr⟩
  · rw [← hv] at hy
    rcases List.mem_or_eq_of_mem_set hy with h | h
    · exact o2 y h
    · rw [h, List.length_set]; exact hcz
  · obtain ⟨v, _, rfl⟩ := List.mem_map.1 hy
    obtain ⟨u, _, rfl⟩ := List.mem_map.1 hx
    exact oc_all u
theorem EOps.split (i j m : Nat) {hbs : Nat → Bool} {ops : Array Oper} {K : St → Prop} {r : List Oper} {ii : Nat} {l : List (Nat × TV)} {nt : Nat} {o : List (Nat × AObj)} {H : List AObj} {d z z' : Nat} {t t' : TypeId} {ks : List Nm} {xs : List (List TV)} {c : List TV} {vs : List PV}
    (hd : lkN o d = some (.ow z t ks xs)) (hc : xs[i]? = some c) (hj : c[j]? = some (.o (.own z' t' vs))) (hf : (freT m l && freO m o) = true) (hb : hbs 4294967296 = true)
    (k : EOps P hbs ops ii r ((MS.mk l nt ((m, .ow z' t' [] (ocs vs)) :: (d, .ow z t (.L m :: ks) (xs.set i (c.set j (.vw (.L m) vs.length)))) :: o) H).st G md) K) : EOps P hbs ops ii r ((MS.mk l nt o H).st G md) K :=
  EOps.gh hb (fun E a w S g hr => ghSplit i j m hd hc hj hf hr) k
theorem EOps.ldO (T : Tab P) {hbs : Nat → Bool} {ops : Array Oper} {K : St → Prop} {r : List Oper} {i : Nat} {l : List (Nat × TV)} {n : Nat} {o : List (Nat × AObj)} {H : List AObj} {d t : Nat} {x : Operand} {ty : TypeId} {pos : String} {af : Array Edge} {nm : Nm} {len z ix k e : Nat} {ks : List Nm} {xs : List (List TV)} {c : List TV}
    (hx : evM l x = some (.ip nm len z ix 0)) (hn : obM o H nm = some (.ow z e ks xs)) (hlen : xs.length = len) (hc : xs[ix]? = some c) (hl : T.lay t = some (true, k)) (hk : c.length = k) (hno : ∀ y ∈ c, noO y) (hal : ∀ y ∈ c, y.All (· ∈ ks)) (hd : Nat.blt d n = true)
    (kk : EOps P hbs ops (i + 1) r ((MS.mk ((d, .ag c) :: l) n o H).st G md) K) : EOps P hbs ops i (⟨some d, .load t x, ty, pos, af, none⟩ :: r) ((MS.mk l n o H).st G md) K := by
  refine EOps.cons rfl ?_
  refine ⟨.ag c, ?_, by rw [st_put hd]; exact kk⟩
  show LoadV P ((MS.mk l n o H).st G md).ob t (((MS.mk l n o H).st G md).ev x) (.ag c)
  rw [evM_ev (s := MS.mk l n o H) hx, st_ob]
  simp only [LoadV, hn]
  refine ⟨hlen, by first | rfl | trivial, c, hc, ?_⟩
  rw [T.hlay _ _ hl]
  show 0 + k ≤ c.length ∧ (∀ y ∈ (c.drop 0).take k, noO y ∧ y.All (· ∈ ks)) ∧ (TV.ag c = .ag ((c.drop 0).take k) ∨ ∃ r : List PV, (c.drop 0).take k = r.map TV.p ∧ TV.ag c = .p (.ag r))
  have e : (List.drop 0 c).take k = c := by rw [List.drop_zero]; exact List.take_of_length_le (by omega)
  rw [e]
  exact ⟨by omega, fun y hy => ⟨hno y hy, hal y hy⟩, .inl rfl⟩
theorem wk_l {l l' : List (Nat × TV)} {n : Nat} {o : List (Nat × AObj)} {H : List AObj} (hl : wkL (obM o H) l l') : Wk ((MS.mk l n o H).st G md) ((MS.mk l' n o H).st G md) := by
  have h := wk_of (G := G) (md := md) (s := MS.mk l n o H) (τ := MS.mk l' n [] H) rfl rfl hl True.intro
  exact ⟨rfl, rfl, rfl, h.tm, fun t => .inr (.inl rfl)⟩
theorem EOps.rvM {hbs : Nat → Bool} {ops : Array Oper} {K : St → Prop} {r : List Oper} {i : Nat} {l : List (Nat × TV)} {n : Nat} {o : List (Nat × AObj)} {H : List AObj} {d : Nat} {opn : Go.Op} {ty : TypeId} {pos : String} {af : Array Edge} {v : TV}
    (hf : hbs 4294967296 = true) (h : RV P (obM o H) ((MS.mk l n o H).st G md).ev v opn) (hd : Nat.blt d n = true) (k : EOps P hbs ops (i + 1) r ((MS.mk ((d, v) :: l) n o H).st G md) K) : EOps P hbs ops i (⟨some d, opn, ty, pos, af, none⟩ :: r) ((MS.mk l n o H).st G md) K :=
  EOps.sem hf (by unfold WantT; rfl) (fun E a w S g hr Q => OStep.sound (hb := true) hr (OStep.rv v (by rw [st_ob]; exact h) (by rw [st_put hd]; exact k)) Q)
theorem EOps.ldC (T : Tab P) {hbs : Nat → Bool} {ops : Array Oper} {K : St → Prop} {r : List Oper} {i : Nat} {l : List (Nat × TV)} {n : Nat} {o : List (Nat × AObj)} {H : List AObj} {d t : Nat} {x : Operand} {ty : TypeId} {pos : String} {af : Array Edge} {m off k t' : Nat} {c : List TV} {v : TV}
    (hf : hbs 4294967296 = true) (hx : evM l x = some (.ptr (.L m) off)) (hn : lkN o m = some (.box t' c)) (hl : T.lay t = some (false, k)) (hc : c[off]? = some v) (hd : Nat.blt d n = true) (kk : EOps P hbs ops (i + 1) r ((MS.mk ((d, v) :: l) n o H).st G md) K) :
    EOps P hbs ops i (⟨some d, .load t x, ty, pos, af, none⟩ :: r) ((MS.mk l n o H).st G md) K := by
  refine EOps.rvM hf ?_ hd kk
  show LoadV P (obM o H) t (((MS.mk l n o H).st G md).ev x) v
  rw [evM_ev (s := MS.mk l n o H) hx]
  have hn : obM o H (.L m) = some (.box t' c) := hn
  simp only [LoadV, hn]
  rw [T.hlay _ _ hl]
  exact hc
theorem EOps.ldB (T : Tab P) {hbs : Nat → Bool} {ops : Array Oper} {K : St → Prop} {r : List Oper} {i : Nat} {l : List (Nat × TV)} {n : Nat} {o : List (Nat × AObj)} {H : List AObj} {d t : Nat} {x : Operand} {ty : TypeId} {pos : String} {af : Array Edge} {m k t' : Nat} {c : List TV}
    (hf : hbs 4294967296 = true) (hx : evM l x = some (.ptr (.L m) 0)) (hn : lkN o m = some (.box t' c)) (hl : T.lay t = some (true, k)) (hk : c.length = k) (hd : Nat.blt d n = true) (kk : EOps P hbs ops (i + 1) r ((MS.mk ((d, .ag c) :: l) n o H).st G md) K) :
    EOps P hbs ops i (⟨some d, .load t x, ty, pos, af, none⟩ :: r) ((MS.mk l n o H).st G md) K := by
  refine EOps.rvM hf ?_ hd kk
  show LoadV P (obM o H) t (((MS.mk l n o H).st G md).ev x) (.ag c)
  rw [evM_ev (s := MS.mk l n o H) hx]
  have hn : obM o H (.L m) = some (.box t' c) := hn
  simp only [LoadV, hn]
  rw [T.hlay _ _ hl]
  show 0 + k ≤ c.length ∧ TV.ag c = .ag ((c.drop 0).take k)
  exact ⟨by omega, by rw [List.drop_zero, List.take_of_length_le (by omega)]⟩
theorem EOps.ixO (T : Tab P) {hbs : Nat → Bool} {ops : Array Oper} {K : St → Prop} {r : List Oper} {i : Nat} {l : List (Nat × TV)} {n : Nat} {o : List (Nat × AObj)} {H : List AObj} {d t : Nat} {x y : Operand} {ty : TypeId} {pos : String} {af : Array Edge} {nm : Nm} {len e z e' : Nat} {b : Bool} {ik : IntKind} {j : Int} {ks : List Nm} {xs : List (List TV)}
    (hf : hbs 4294967296 = true) (hx : evM l x = some (.vw nm len)) (hy : evM l y = some (.p (.c (.int ik j)))) (hn : obM o H nm = some (.ow z e' ks xs)) (hlen : xs.length = len) (hs : T.sl t = some e) (hl : T.lay e = some (b, z)) (hj : 0 ≤ j ∧ j < len) (hd : Nat.blt d n = true) (kk : EOps P hbs ops (i + 1) r ((MS.mk ((d, .ip nm len z j.toNat 0) :: l) n o H).st G md) K) :
    EOps P hbs ops i (⟨some d, .indexAddr t x y, ty, pos, af, none⟩ :: r) ((MS.mk l n o H).st G md) K := by
  refine EOps.rvM hf ?_ hd kk
  show IndexV P (obM o H) t (((MS.mk l n o H).st G md).ev x) (((MS.mk l n o H).st G md).ev y) _
  rw [evM_ev (s := MS.mk l n o H) hx, evM_ev (s := MS.mk l n o H) hy]
  exact .inr (.inr ⟨nm, len, e, b, z, ik, j, e', ks, xs, rfl, hn, hlen, T.hsl _ _ hs, T.hlay _ _ hl, rfl, hj.1, hj.2, rfl⟩)
theorem AW.scope {c : Code} {Q : Exit → St → Prop} {σ : St} (hq : ∀ i τ, ¬ Q (.goto i) τ) (h : AW P c Q σ) : AW P (.scope c) Q σ := by
  intro E a w S g hr
  refine wp_scope_straight (wp_mono (h E a w S g hr) ?_)
  rintro e a' w' ⟨τ, S', g', h1, h2⟩
  cases e with
  | normal => exact ⟨τ, S', g', h1, h2⟩
  | exit i => exact ⟨τ, S', g', h1, h2⟩
  | goto i => exact hq i τ h1
  | ret => exact ⟨τ, S', g', h1, h2⟩
  | panic i => exact ⟨τ, S', g', h1, h2⟩
  | outgrown => exact ⟨τ, S', g', h1, h2⟩
theorem AW.scopeE {c : Code} {rs : List ResultVar} {R : TV → List AObj → Prop} {σ : St} (h : AW P c (En.Ends P rs R) σ) : AW P (.scope c) (En.Ends P rs R) σ := AW.scope (fun i τ h => h) h
theorem AW.lbl {l : Nat} {y : Code} {Q : Exit → St → Prop} {σ : St} (h : AW P y Q σ) : AW P (.seq (.label l) y) Q σ := AW.seq (fun E a w S g hr => wp_label ⟨σ, S, g, h, hr⟩)
instance opSc {c : Code} {rs : List ResultVar} {R : TV → List AObj → Prop} {σ : St} {B : Prop} [Op (AW P c (En.Ends P rs R) σ) B] : Op (AW P (.scope c) (En.Ends P rs R) σ) B := ⟨fun k => AW.scopeE (op k)⟩
instance opLb {l : Nat} {y : Code} {Q : Exit → St → Prop} {σ : St} {B : Prop} [Op (AW P y Q σ) B] : Op (AW P (.seq (.label l) y) Q σ) B := ⟨fun k => AW.lbl (op k)⟩
theorem ownSt_st {d : Nat} {o : AObj} {args : List TV} {n : Nat} : ownSt G md d o args n = (MS.mk (initL 0 args) n [(d, o)] [.gone]).st G md := by
  have h1 := init_st (G := G) (md := md) (H := [.gone]) (args := args) (n := n)
  have h2 : (init G md [.gone] args n).tm = lkT (initL 0 args) := by rw [h1]; rfl
  have h3 : updT (fun _ => none) d (some o) = lkN [(d, o)] := by
    funext t
    rw [updT_eq]
    show _ = match Nat.beq t d with | true => some o | false => none
    by_cases e : t = d
    · subst e; rw [if_pos rfl, Nat.beq_refl]
    · rw [if_neg e]
      cases h : Nat.beq t d with
      | true => exact absurd (Nat.eq_of_beq_eq_true h) e
      | false => rfl
  show St.mk _ _ _ _ _ _ = St.mk _ _ _ _ _ _
  rw [h3, ← h2]
  rfl
theorem bdyO (d : Nat) {f : FuncId} {fn : Func} {c : Code} {args : List TV} (args' : List TV) {z t : Nat} {xs : List (List TV)} {R : TV → List AObj → Prop} (hf : P.funcs[f]? = some fn) (md : Nat → Nat) (hb : fn.body = some c) {B : Prop} [Op (AW P c (Ends P fn.results.toList R) ((MS.mk (initL 0 args') fn.ntmps [(d, .ow z t [] xs)] [.gone]).st G md)) B] (h : B)
    (hl : args'.length = args.length) (hr : ∀ (k : Nat) x y, args'[k]? = some x → args[k]? = some y → rnF (.L d) x y) (hcall : callable P f = true) (hn : Nat.ble args.length fn.ntmps = true) (hA : shBs args = true) : FC P G f args [.ow z t [] xs] R :=
  FC.of_body md hcall hf hb (Nat.le_of_ble_eq_true hn) (shBs_spec args hA) (own0 hl hr (by rw [ownSt_st]; exact op h))
end Go.Proofs.YtlcmokgnmlklnaaDoor.En
end
section
namespace Go.Proofs.YtlcmokgnmlklnaaDoor.K
open Go Go.RowKit Go.Proofs.YtlcmokgnmlklnaaDoor.En Go.Proofs.YtlcmokgnmlklnaaDoor.Ty Go.Proofs.YtlcmokgnmlklnaaDoor.B
set_option maxRecDepth 100000
set_option linter.unusedSimpArgs false
set_option linter.unusedVariables false
set_option pp.deepTerms false
set_option pp.deepTerms.threshold 8
set_option pp.maxSteps 1000
set_option maxHeartbeats 1000000
def ownN : Nat → Mn → PV
  | 0, t => pm t
  | n + 1, ⟨k, m, s, p, []⟩ => pm ⟨k, m, s, p, []⟩
  | n + 1, ⟨k, m, s, p, x :: l⟩ => .ag [pi k, pi m, ps s, .row 1 (p.map pi), .own 5 28 ((x :: l).map (ownN n))]
theorem ownN_leaf {n : Nat} {k m : Int} {s : ByteArray} {p : List Int} : ownN n ⟨k, m, s, p, []⟩ = pm ⟨k, m, s, p, []⟩ := by cases n <;> rfl
theorem ownN_node {n : Nat} {k m : Int} {s : ByteArray} {p : List Int} {x : Mn} {l : List Mn} : ownN (n + 1) ⟨k, m, s, p, x :: l⟩ = .ag [pi k, pi m, ps s, .row 1 (p.map pi), .own 5 28 ((x :: l).map (ownN n))] := rfl
def rowA (n : Nat) (l : List Mn) (i : Nat) : List PV := (l.take i).map (fun x => pm (smp n x)) ++ (l.drop i).map (ownN n)
theorem rowA_len {n : Nat} {l : List Mn} {i : Nat} : (rowA n l i).length = l.length := by
  unfold rowA
  simp
  omega
theorem rowA_0 {n : Nat} {l : List Mn} : rowA n l 0 = l.map (ownN n) := rfl
theorem rowA_get {n : Nat} {l : List Mn} {i : Nat} {x : Mn} (h : l[i]? = some x) : (rowA n l i)[i]? = some (ownN n x) := by
  unfold rowA
  have hi : i < l.length := (List.getElem?_eq_some_iff.1 h).1
  rw [List.getElem?_append_right (by simp; omega)]
  simp [List.getElem?_drop, Nat.min_eq_left (Nat.le_of_lt hi), h]
theorem rowA_set {n : Nat} {l : List Mn} {i : Nat} {x : Mn} (h : l[i]? = some x) : (rowA n l i).set i (pm (smp n x)) = rowA n l (i + 1) := by
  unfold rowA
  have hi : i < l.length := (List.getElem?_eq_some_iff.1 h).1
  obtain ⟨_, rfl⟩ := List.getElem?_eq_some_iff.1 h
  have hlen : ((l.take i).map (fun x => pm (smp n x))).length = i := by simp; omega
  rw [List.set_append_right _ _ (by omega), hlen, Nat.sub_self, List.drop_eq_getElem_cons hi, List.map_cons, List.set_cons_zero, List.take_add_one, List.getElem?_eq_getElem hi, List.map_append, List.append_assoc]
  rfl
theorem rowA_end {n : Nat} {l : List Mn} : rowA n l l.length = (l.map (smp n)).map eM := by
  unfold rowA
  rw [List.take_length, List.drop_length, List.map_nil, List.append_nil, List.map_map]
  refine List.map_congr_left (fun x hx => ?_)
  show pm (smp n x) = eM (smp n x)
  rw [eM_eq]
theorem pm_cells (t : Mn) : (pm t).cells.map TV.p = (pm t).cells.map oc := by
  obtain ⟨k, m, s, p, l⟩ := t
  rfl
theorem ocs_set {vs : List PV} {i : Nat} {v : PV} : ocs (vs.set i v) = (ocs vs).set i (v.cells.map oc) := by
  unfold ocs
  rw [List.map_set]
theorem ocs_get {vs : List PV} {i : Nat} {v : PV} (h : vs[i]? = some v) : (ocs vs)[i]? = some (v.cells.map oc) := by
  unfold ocs
  rw [List.getElem?_map, h]
  rfl
theorem frz_pm : ∀ (t : Mn), frz (eM t) = eM t ∧ okF (eM t) = true := fun t => by
  obtain ⟨k, m, s, p, l⟩ := t
  exact ⟨rfl, rfl⟩
theorem frzM (l : List Mn) : (l.map eM).map frz = l.map eM := by
  rw [List.map_map]
  exact List.map_congr_left (fun t _ => (frz_pm t).1)
theorem okM (l : List Mn) : okFs (l.map eM) = true := by
  rw [okFs_all, List.all_eq_true]
  intro y hy
  obtain ⟨t, _, rfl⟩ := List.mem_map.1 hy
  exact (frz_pm t).2
theorem zM5 (l : List Mn) : ∀ v ∈ l.map eM, v.cells.length = 5 := fun v hv => by
  obtain ⟨⟨_, _, _, _, _⟩, _, rfl⟩ := List.mem_map.1 hv
  rfl
theorem AW.cut {P : Program} {x y : Code} {Q : Exit → St → Prop} {σ : St} (R : St → Prop) (h1 : AW P x (fun e τ => e = .normal ∧ R τ) σ) (h2 : ∀ τ, R τ → AW P y Q τ) : AW P (.seq x y) Q σ :=
  AW.seq (h1.mono (fun e τ h => by obtain ⟨rfl, h⟩ := h; exact h2 τ h))
def kkA : Nat → List Nm
  | 0 => []
  | 1 => [.L 101]
  | _ => [.L 102, .L 101]
theorem EOps.cut {P : Program} {hbs : Nat → Bool} {ops : Array Oper} {K : St → Prop} {i : Nat} {l : List Oper} {σ : St} (R : St → Prop) (hf : hbs 4294967296 = true) (h1 : EOps P hbs ops i l σ R) (h2 : ∀ τ, R τ → K τ) : EOps P hbs ops i l σ K := by
  rw [EOps.flag hf] at h1 ⊢
  exact fun hl E a w S g hr Q hQ => h1 hl E a w S g hr Q (fun a w ⟨τ, S', g', q1, q2⟩ => hQ a w ⟨τ, S', g', h2 τ q1, q2⟩)
theorem EOps.pc1 {P : Program} {G : Nat → Option PV} {md : Nat → Nat} {hbs : Nat → Bool} {ops : Array Oper} {K : St → Prop} {r : List Oper} {i : Nat} {l : List (Nat × TV)} {n : Nat} {o : List (Nat × AObj)} {H : List AObj} {d t : Nat} {ats : Array TypeId} {ty : TypeId} {pos : String} {af : Array Edge} {f : FuncId} {x : TV} {z : PV} {v : TV}
    (hf : hbs 4294967296 = true) (hx : evM l (.tmp t) = some x) (hz : relT (obM o H) x z) (hc : PF P G f [z] v) (hd : Nat.blt d n = true) (k : EOps P hbs ops (i + 1) r ((MS.mk ((d, v) :: l) n o H).st G md) K) :
    EOps P hbs ops i (⟨some d, .call ⟨.value (.func f), #[.tmp t], ats⟩, ty, pos, af, none⟩ :: r) ((MS.mk l n o H).st G md) K :=
  EOps.sem hf (by unfold WantT; rfl) (fun E a w S g hr Q => OStep.sound (hb := true) hr (OStep.pcall f (.func f) #[.tmp t] ats [z] v rfl rfl rfl (fun k q y hq hy => by
    match k with
    | 0 =>
      cases hq
      cases hy
      rw [evM_ev (s := MS.mk l n o H) hx, st_ob]
      exact relT_pv _ _ _ hz
    | k + 1 => cases hq) hc (by rw [st_put hd]; exact k)) Q)
def KidC (G : Nat → Option PV) (md : Nat → Nat) (o o' : List (Nat × AObj)) (v : TV) (y : PV) : Prop := ∀ (l : List (Nat × TV)) (ty : TypeId) (pos : String) (af : Array Edge) (K : St → Prop), evM l (.tmp 18) = some v →
  K ((MS.mk ((19, .p y) :: l) 31 o' [.gone]).st G md) → EOps Tryd.prog (fun _ => true) #[⟨some 19, .call ⟨.value (.func 47), #[.tmp 18], #[28]⟩, ty, pos, af, none⟩] 0 [⟨some 19, .call ⟨.value (.func 47), #[.tmp 18], #[28]⟩, ty, pos, af, none⟩] ((MS.mk l 31 o [.gone]).st G md) K
def MidR (G : Nat → Option PV) (md : Nat → Nat) (bx1 bx2 : List TV) (len i : Nat) (vs : List PV) (y : PV) (τ : St) : Prop := ∃ (o o' : List (Nat × AObj)) (c : List TV) (ks : List Nm) (xs : List (List TV)) (cc : List TV),
  Wk τ ((MS.mk [(3, .p (pi i)), (4, .ptr (.L 4) 0), (1, .ptr (.L 1) 0), (2, .ptr (.L 2) 0), (10, .p (pi i)), (9, .p (pi len)), (8, .vw (.L 40) len)] 31 o [.gone]).st G md) ∧
  lkN o 1 = some (.box 28 bx1) ∧ lkN o 4 = some (.box 28 c) ∧ c.length = 5 ∧ lkN o' 1 = some (.box 28 bx1) ∧ lkN o' 2 = some (.box 28 bx2) ∧ lkN o' 40 = some (.ow 5 28 ks xs) ∧ lkN o 40 = some (.ow 5 28 ks xs) ∧ (∀ q ∈ ks, q ∈ kkA (i + 1)) ∧ xs.length = len ∧ xs[i]? = some cc ∧ cc.length = 5 ∧ xs.set i (y.cells.map oc) = ocs vs ∧ KidC G md o o' (.ag c) y
theorem MidR.of0 {G : Nat → Option PV} {md : Nat → Nat} {bx1 bx2 : List TV} {len i : Nat} {vs : List PV} {y : PV} {τ : St} {o : List (Nat × AObj)} {c : List TV} {ks : List Nm} {xs : List (List TV)} {cc : List TV}
    (hw : Wk τ ((MS.mk [(3, .p (pi i)), (4, .ptr (.L 4) 0), (1, .ptr (.L 1) 0), (2, .ptr (.L 2) 0), (10, .p (pi i)), (9, .p (pi len)), (8, .vw (.L 40) len)] 31 o [.gone]).st G md)) (f1 : lkN o 1 = some (.box 28 bx1)) (f4 : lkN o 4 = some (.box 28 c)) (fc : c.length = 5) (f2 : lkN o 2 = some (.box 28 bx2)) (f40 : lkN o 40 = some (.ow 5 28 ks xs)) (hks : ∀ q ∈ ks, q ∈ kkA (i + 1)) (hl : xs.length = len) (hcc : xs[i]? = some cc) (h5 : cc.length = 5) (hs : xs.set i (y.cells.map oc) = ocs vs) (hk : KidC G md o o (.ag c) y) : MidR G md bx1 bx2 len i vs y τ :=
  ⟨o, o, c, ks, xs, cc, hw, f1, f4, fc, f1, f2, f40, f40, hks, hl, hcc, h5, hs, hk⟩
theorem MidR.of1 (d : Nat) {G : Nat → Option PV} {md : Nat → Nat} {bx1 bx2 : List TV} {len i : Nat} {vs : List PV} {y : PV} {τ : St} {o : List (Nat × AObj)} {c : List TV} {ks : List Nm} {xs : List (List TV)} {cc : List TV}
    (hw : Wk τ ((MS.mk [(3, .p (pi i)), (4, .ptr (.L 4) 0), (1, .ptr (.L 1) 0), (2, .ptr (.L 2) 0), (10, .p (pi i)), (9, .p (pi len)), (8, .vw (.L 40) len)] 31 o [.gone]).st G md)) (f1 : lkN o 1 = some (.box 28 bx1)) (f4 : lkN o 4 = some (.box 28 c)) (fc : c.length = 5) (f2 : lkN o 2 = some (.box 28 bx2)) (f40 : lkN o 40 = some (.ow 5 28 ks xs)) (hks : ∀ q ∈ ks, q ∈ kkA (i + 1)) (hl : xs.length = len) (hcc : xs[i]? = some cc) (h5 : cc.length = 5) (hs : xs.set i (y.cells.map oc) = ocs vs) (hd : (Nat.beq 1 d || Nat.beq 2 d || Nat.beq 40 d) = false) (hk : KidC G md o ((d, .gone) :: o) (.ag c) y) : MidR G md bx1 bx2 len i vs y τ := by
  simp only [Bool.or_eq_false_iff] at hd
  have key : ∀ t, Nat.beq t d = false → lkN ((d, AObj.gone) :: o) t = lkN o t := fun t ht => by
    show (match Nat.beq t d with | true => some AObj.gone | false => lkN o t) = _
    rw [ht]
  exact ⟨o, _, c, ks, xs, cc, hw, f1, f4, fc, (key 1 hd.1.1).trans f1, (key 2 hd.1.2).trans f2, (key 40 hd.2).trans f40, f40, hks, hl, hcc, h5, hs, hk⟩
theorem whole2 (a : Addr) : ∀ (n : Nat) (t : Mn), okD n t = true → mpl t ≤ 50000 → (t.f4 = [] → PF Tryd.prog (GT a) 47 [pm t] (.p (pm (smp n t)))) ∧
    (∀ m, n = m + 1 → t.f4 ≠ [] → FC Tryd.prog (GT a) 47 [.ag [.p (pi t.f0), .p (pi t.f1), .p (ps t.f2), .p (.row 1 (t.f3.map pi)), .vw (.S 0) t.f4.length]] [.ow 5 28 [] (ocs (t.f4.map (ownN m)))] (fun r H' => r = .p (pm (smp n t)) ∧ H' = [.gone])) := by
  intro n
  induction n with
  | zero => intro t h; cases h
  | succ n ih =>
    intro ⟨k, m, s, p, l⟩ ho hpl
    obtain ⟨_, e, hf, hk⟩ := okD_inv ho
    cases e
    have hk : ∀ x ∈ l, okD n x = true := hk
    have hplk : ∀ x ∈ l, mpl x ≤ 50000 := fun x hx => by
      have := mpl_kid (t := ⟨k, m, s, p, l⟩) (x := x) hx
      omega
    have hl2 : l.length ≤ 2 := by
      cases hf <;> simp
    have hR : smp (n + 1) ⟨k, m, s, p, l⟩ = whlF (msz ⟨k, m, s, p, l.map (smp n)⟩) ⟨k, m, s, p, l.map (smp n)⟩ := smp_eq
    have hI : okD (n + 1) ⟨k, m, s, p, l.map (smp n)⟩ = true ∧ (∀ x ∈ l.map (smp n), smD n x = true) ∧ mpl ⟨k, m, s, p, l.map (smp n)⟩ ≤ 50000 := by
      refine ⟨okD_mk (okF_map hf (by simp)) (fun y hy => ?_), fun y hy => ?_, ?_⟩
      · obtain ⟨x, hx, rfl⟩ := List.mem_map.1 (show y ∈ l.map (smp n) from hy)
        exact (smp_inv (hk x hx)).1
      · obtain ⟨x, hx, rfl⟩ := List.mem_map.1 hy
        exact (smp_inv (hk x hx)).2.1
      · rw [mpl_mk] at hpl ⊢
        have := mpls_map (f := smp n) (l := l) (fun x hx => (smp_inv (hk x hx)).2.2.1)
        omega
    rw [hR]
    refine ⟨fun hnil => ?_, fun m' hm hne => ?_⟩
    · have hnil : l = [] := hnil
      subst hnil
      show PF _ _ _ [.ag [pi k, pi m, ps s, .row 1 (p.map pi), .row 5 []]] _
      refine ⟨(by first | exact .p | exact .tp (fun x hx => by simp at hx; rcases hx with rfl | rfl <;> exact .p) | exact .tp (fun x hx => by simp at hx; rcases hx with rfl | rfl | rfl <;> exact .p)), bdy Tryd.func47 (fun _ => 0) rfl ?_⟩
      refine rn T 99 [] ?_
      refine rn T 99 [] ?_
      refine lpw (fun i : Nat => MS.mk [(10, .p (pi 0)), (9, .p (pi 0)), (1, .ptr (.L 1) 0), (2, .ptr (.L 2) 0)] 31 [(1, .box 28 [.p (pi k), .p (pi m), .p (ps s), .p (.row 1 (p.map pi)), .p (.row 5 [])]), (2, .box 28 [.p (pi 0), .p (pi 0), .p (ps ⟨#[]⟩), .nil, .nil])] []) (fun m i => True) (0) (0) (trivial) ?_
      intro m2 i _
      refine op ?_
      refine rn T 99 [] ?_
      refine cfs ?_
      refine lpw (fun u : Mn => MS.mk [(1, .ptr (.L 1) 0), (2, .ptr (.L 2) 0)] 31 [(1, .box 28 [.p (pi u.f0), .p (pi u.f1), .p (ps u.f2), .p (.row 1 (u.f3.map pi)), .p (.row 5 (u.f4.map eM))]), (2, .box 28 [.p (pi 0), .p (pi 0), .p (ps ⟨#[]⟩), .nil, .nil])] []) (fun f u => msz u ≤ f ∧ okD (n + 1) u = true ∧ (∀ x ∈ u.f4, smD n x = true) ∧ mpl u ≤ 50000 ∧ whlF f u = whlF (msz ⟨k, m, s, p, ([] : List Mn).map (smp n)⟩) ⟨k, m, s, p, ([] : List Mn).map (smp n)⟩) (msz ⟨k, m, s, p, ([] : List Mn).map (smp n)⟩) (⟨k, m, s, p, []⟩) (⟨Nat.le_refl _, hI.1, hI.2.1, hI.2.2, rfl⟩) ?_
      intro f ⟨k, m, s, p, l⟩ ⟨q1, q2, q3, q4, q5⟩
      have cs := step2 a ⟨k, m, s, p, l⟩ (okS_of q2 q4)
      rw [← q5]
      refine op ?_
      obtain ⟨u, hu⟩ : ∃ u, u = (stp ⟨k, m, s, p, l⟩).1 := ⟨_, rfl⟩
      rw [← hu] at cs
      cases hst : (stp ⟨k, m, s, p, l⟩).2 with
      | false =>
        rw [hst] at cs
        obtain ⟨k', m', s', p', l'⟩ := u
        refine rn T 99 [] ?_
        refine pcs (cs) ?_
        refine rn T 99 [] ?_
        refine rn T 99 [] ?_
        refine cts ?_
        refine rn T 99 [] ?_
        rw [whlF_f hst]
        exact rt1 T (pm ⟨k, m, s, p, l⟩) (rfl)
      | true =>
        have hi := stp_inv q2 q3 hst
        rw [← hu] at hi
        have hw : whlF f ⟨k, m, s, p, l⟩ = whlF (f - 1) u := by
          obtain ⟨f', rfl⟩ : ∃ f', f = f' + 1 := ⟨f - 1, by have := msz_pos ⟨k, m, s, p, l⟩; omega⟩
          rw [whlF_t hst, ← hu]; rfl
        have hf1 : 1 ≤ f := by have := msz_pos ⟨k, m, s, p, l⟩; omega
        have hpl2 := hi.pl
        have hsz2 := hi.sz
        rw [hst] at cs
        rw [hw]
        obtain ⟨k', m', s', p', l'⟩ := u
        refine rn T 99 [] ?_
        refine pcs (cs) ?_
        refine rn T 99 [] ?_
        refine rn T 99 [] ?_
        refine cfs ?_
        refine rn T 99 [] ?_
        refine nxt (f - 1) (⟨k', m', s', p', l'⟩) (⟨by omega, hi.ok, hi.sm, by omega, rfl⟩)
    · cases hm
      have hne : l ≠ [] := hne
      show FC _ _ _ [.ag [.p (pi k), .p (pi m), .p (ps s), .p (.row 1 (p.map pi)), .vw (.S 0) l.length]] [.ow 5 28 [] (ocs (l.map (ownN n)))] _
      have hcal : callable Tryd.prog 47 = true := by kernel_rfl
      refine bdyO 40 [.ag [.p (pi k), .p (pi m), .p (ps s), .p (.row 1 (p.map pi)), .vw (.L 40) l.length]] Tryd.func47 (fun _ => 0) rfl ?_ rfl (fun i x y hx hy => by match i with | 0 => cases hx; cases hy; exact .inr ⟨_, _, rfl, rfl, rfl, fun i x y hx hy => by match i with | 0 => cases hx; cases hy; exact .inl ⟨_, rfl, rfl⟩ | 1 => cases hx; cases hy; exact .inl ⟨_, rfl, rfl⟩ | 2 => cases hx; cases hy; exact .inl ⟨_, rfl, rfl⟩ | 3 => cases hx; cases hy; exact .inl ⟨_, rfl, rfl⟩ | 4 => cases hx; cases hy; exact .inr ⟨_, rfl, rfl⟩ | j + 5 => cases hx⟩ | j + 1 => cases hx) hcal rfl rfl
      have hlen : ∀ i, (ocs (rowA n l i)).length = l.length := fun i => by show (List.map _ _).length = _; rw [List.length_map, rowA_len]
      have hlen0 : (ocs (l.map (ownN n))).length = l.length := hlen 0
      refine rn T 99 [] ?_
      refine rn T 99 [] ?_
      refine lpw (fun i : Nat => MS.mk [(10, .p (pi i)), (9, .p (pi l.length)), (8, .vw (.L 40) l.length), (1, .ptr (.L 1) 0), (2, .ptr (.L 2) 0)] 31 [(40, .ow 5 28 (kkA i) (ocs (rowA n l i))), (1, .box 28 [.p (pi k), .p (pi m), .p (ps s), .p (.row 1 (p.map pi)), .vw (.L 40) l.length]), (2, .box 28 [.p (pi 0), .p (pi 0), .p (ps ⟨#[]⟩), .nil, .nil])] [.gone]) (fun m i => m + i = l.length) (l.length) (0) (by simp) ?_
      intro m2 i h1
      refine op ?_
      refine rn T 99 [] ?_
      by_cases hi : i < l.length
      · refine ctq rfl (by simp [hi]) ?_
        obtain ⟨x, hx, _⟩ := drop_ix hi
        have hxm := List.mem_of_getElem? hx
        have hg := ocs_get (rowA_get (n := n) hx)
        have hs := rowA_set (n := n) hx
        have hih := ih x (hk x hxm) (hplk x hxm)
        have hln := hlen i
        have hkx := hk x hxm
        have hix : i = 0 ∨ i = 1 := by omega
        refine EOps.cut (MidR (GT a) (fun _ => 0) [.p (pi k), .p (pi m), .p (ps s), .p (.row 1 (p.map pi)), .vw (.L 40) l.length] [.p (pi 0), .p (pi 0), .p (ps ⟨#[]⟩), .nil, .nil] l.length i (rowA n l (i + 1)) (pm (smp n x))) rfl ?_ ?_
        · obtain ⟨k1, m1, s1, p1, l1⟩ := x
          cases l1 with
          | nil =>
            rw [ownN_leaf] at hg
            have hg : (ocs (rowA n l i))[i]? = some [.p (pi k1), .p (pi m1), .p (ps s1), .p (.row 1 (p1.map pi)), .p (.row 5 [])] := hg
            have hst : (ocs (rowA n l i)).set i ((pm (smp n ⟨k1, m1, s1, p1, []⟩)).cells.map oc) = ocs (rowA n l (i + 1)) := by rw [← ocs_set, hs]
            have hcall := hih.1 rfl
            have hks : ∀ i, ∀ q ∈ kkA i, q ∈ kkA (i + 1) := fun i q hq => by match i with | 0 => cases hq | 1 => exact List.mem_cons_of_mem _ hq | j + 2 => exact hq
            have hks := hks i
            rcases hix with rfl | rfl
            · refine rn T 99 [pm ⟨k1, m1, s1, p1, []⟩] ?_
              refine MidR.of0 (wk_l ⟨.inl rfl, .inl rfl, .inl rfl, .inl rfl, .inl rfl, .inl rfl, .inl rfl, trivial⟩) rfl rfl rfl rfl rfl hks hln hg rfl hst ?_
              intro l ty pos af K hv hK
              exact EOps.pc1 rfl hv (by (repeat' apply And.intro) <;> first | trivial | rfl) hcall rfl (EOps.nil hK)
            · refine rn T 99 [pm ⟨k1, m1, s1, p1, []⟩] ?_
              refine MidR.of0 (wk_l ⟨.inl rfl, .inl rfl, .inl rfl, .inl rfl, .inl rfl, .inl rfl, .inl rfl, trivial⟩) rfl rfl rfl rfl rfl hks hln hg rfl hst ?_
              intro l ty pos af K hv hK
              exact EOps.pc1 rfl hv (by (repeat' apply And.intro) <;> first | trivial | rfl) hcall rfl (EOps.nil hK)
          | cons y1 l1 =>
            obtain ⟨n', rfl, _, _⟩ := okD_inv hkx
            have hg : (ocs (rowA (n' + 1) l i))[i]? = some [.p (pi k1), .p (pi m1), .p (ps s1), .p (.row 1 (p1.map pi)), .o (.own 5 28 ((y1 :: l1).map (ownN n')))] := hg
            have hst : ∀ c, ((ocs (rowA (n' + 1) l i)).set i c).set i ((pm (smp (n' + 1) ⟨k1, m1, s1, p1, y1 :: l1⟩)).cells.map oc) = ocs (rowA (n' + 1) l (i + 1)) := fun c => by rw [List.set_set, ← ocs_set, hs]
            have hl3 : ∀ {c}, ((ocs (rowA (n' + 1) l i)).set i c).length = l.length := fun {c} => by rw [List.length_set]; exact hln
            have hcall := hih.2 n' rfl (by intro e; cases e)
            have hcall : FC Tryd.prog (GT a) 47 [.ag [.p (pi k1), .p (pi m1), .p (ps s1), .p (.row 1 (p1.map pi)), .vw (.S 0) ((y1 :: l1).map (ownN n')).length]] [.ow 5 28 [] (ocs ((y1 :: l1).map (ownN n')))] (fun r H' => r = .p (pm (smp (n' + 1) ⟨k1, m1, s1, p1, y1 :: l1⟩)) ∧ H' = [.gone]) := by rw [List.length_map]; exact hcall
            rcases hix with rfl | rfl
            · refine rn T 2 [] ?_
              refine EOps.split (d := 40) 0 4 101 rfl hg rfl rfl rfl ?_
              refine EOps.ldO T (nm := .L 40) (c := [.p (pi k1), .p (pi m1), .p (ps s1), .p (.row 1 (p1.map pi)), .vw (.L 101) ((y1 :: l1).map (ownN n')).length]) rfl rfl hl3 (List.getElem?_set_self (by omega)) rfl rfl (fun y hy => by simp only [List.mem_cons, List.not_mem_nil, or_false] at hy; rcases hy with rfl | rfl | rfl | rfl | rfl <;> trivial) (fun y hy => by simp only [List.mem_cons, List.not_mem_nil, or_false] at hy; rcases hy with rfl | rfl | rfl | rfl | rfl <;> first | exact .p | exact .vw (List.mem_cons_self ..)) rfl ?_
              refine rn T 99 [] ?_
              refine MidR.of1 101 (wk_l ⟨.inl rfl, .inl rfl, .inl rfl, .inl rfl, .inl rfl, .inl rfl, .inl rfl, trivial⟩) rfl rfl rfl rfl rfl (fun q hq => hq) hl3 (List.getElem?_set_self (by omega)) rfl (hst _) rfl ?_
              intro l ty pos af K hv hK
              refine EOps.rc rfl rfl rfl rfl (n := .L 101) (by rw [st_ob]; rfl) [.ag [.p (pi k1), .p (pi m1), .p (ps s1), .p (.row 1 (p1.map pi)), .vw (.S 0) ((y1 :: l1).map (ownN n')).length]] rfl (fun j q y hq hy => by match j with | 0 => cases hq; cases hy; rw [evM_ev hv]; exact .inr ⟨_, _, rfl, rfl, rfl, fun i x y hx hy => by match i with | 0 => cases hx; cases hy; exact .inl ⟨_, rfl, relT_pv _ _ _ rfl⟩ | 1 => cases hx; cases hy; exact .inl ⟨_, rfl, relT_pv _ _ _ rfl⟩ | 2 => cases hx; cases hy; exact .inl ⟨_, rfl, relT_pv _ _ _ rfl⟩ | 3 => cases hx; cases hy; exact .inl ⟨_, rfl, relT_pv _ _ _ rfl⟩ | 4 => cases hx; cases hy; exact .inr ⟨_, rfl, rfl⟩ | j + 5 => cases hx⟩ | j + 1 => cases hq) hcall (fun r H' hr => by rw [hr.1]; exact .p) (fun v H' hr => ?_)
              rw [hr.1, st_set, st_put rfl]
              exact EOps.nil hK
            · refine rn T 2 [] ?_
              refine EOps.split (d := 40) 1 4 102 rfl hg rfl rfl rfl ?_
              refine EOps.ldO T (nm := .L 40) (c := [.p (pi k1), .p (pi m1), .p (ps s1), .p (.row 1 (p1.map pi)), .vw (.L 102) ((y1 :: l1).map (ownN n')).length]) rfl rfl hl3 (List.getElem?_set_self (by omega)) rfl rfl (fun y hy => by simp only [List.mem_cons, List.not_mem_nil, or_false] at hy; rcases hy with rfl | rfl | rfl | rfl | rfl <;> trivial) (fun y hy => by simp only [List.mem_cons, List.not_mem_nil, or_false] at hy; rcases hy with rfl | rfl | rfl | rfl | rfl <;> first | exact .p | exact .vw (List.mem_cons_self ..)) rfl ?_
              refine rn T 99 [] ?_
              refine MidR.of1 102 (wk_l ⟨.inl rfl, .inl rfl, .inl rfl, .inl rfl, .inl rfl, .inl rfl, .inl rfl, trivial⟩) rfl rfl rfl rfl rfl (fun q hq => hq) hl3 (List.getElem?_set_self (by omega)) rfl (hst _) rfl ?_
              intro l ty pos af K hv hK
              refine EOps.rc rfl rfl rfl rfl (n := .L 102) (by rw [st_ob]; rfl) [.ag [.p (pi k1), .p (pi m1), .p (ps s1), .p (.row 1 (p1.map pi)), .vw (.S 0) ((y1 :: l1).map (ownN n')).length]] rfl (fun j q y hq hy => by match j with | 0 => cases hq; cases hy; rw [evM_ev hv]; exact .inr ⟨_, _, rfl, rfl, rfl, fun i x y hx hy => by match i with | 0 => cases hx; cases hy; exact .inl ⟨_, rfl, relT_pv _ _ _ rfl⟩ | 1 => cases hx; cases hy; exact .inl ⟨_, rfl, relT_pv _ _ _ rfl⟩ | 2 => cases hx; cases hy; exact .inl ⟨_, rfl, relT_pv _ _ _ rfl⟩ | 3 => cases hx; cases hy; exact .inl ⟨_, rfl, relT_pv _ _ _ rfl⟩ | 4 => cases hx; cases hy; exact .inr ⟨_, rfl, rfl⟩ | j + 5 => cases hx⟩ | j + 1 => cases hq) hcall (fun r H' hr => by rw [hr.1]; exact .p) (fun v H' hr => ?_)
              rw [hr.1, st_set, st_put rfl]
              exact EOps.nil hK
        · rintro τ ⟨o, o', c, ks, xs, cc, hw, f1, f4, fc, g1, g2, g40, f40, fks, fl, fcc, fcl, fset, fcall⟩
          refine AW.weak hw ?_
          obtain ⟨r, hr⟩ : ∃ r, r = smp n x := ⟨_, rfl⟩
          rw [← hr] at fset fcall
          obtain ⟨k1, m1, s1, p1, l1⟩ := r
          refine AW.anyW (X := Unit) (fun _ b => MS.mk [(15, bif b 0 then .ptr (.L 1) 4 else .u), (16, bif b 1 then .vw (.L 40) l.length else .u), (17, bif b 2 then .p (pi i) else .u), (18, bif b 3 then .ag c else .u), (19, bif b 4 then .p (pm ⟨k1, m1, s1, p1, l1⟩) else .u), (20, bif b 5 then .ip (.L 40) l.length 5 i 0 else .u), (3, .p (pi i)), (4, .ptr (.L 4) 0), (1, .ptr (.L 1) 0), (2, .ptr (.L 2) 0), (10, .p (pi i)), (9, .p (pi l.length)), (8, .vw (.L 40) l.length)] 31 (bif b 6 then (40, .ow 5 28 (kkA (i + 1)) (ocs (rowA n l (i + 1)))) :: o' else bif b 4 then o' else o) [.gone]) (fun _ b => (b 6 = true → b 5 = true) ∧ (b 5 = true → b 4 = true) ∧ (b 4 = true → b 3 = true)) () (by exact ⟨(fun h => by cases h), (fun h => by cases h), (fun h => by cases h)⟩) (wk_l ⟨.inl rfl, .inl rfl, .inl rfl, .inl rfl, .inl rfl, .inl rfl, .inl rfl, .inl rfl, .inl rfl, .inl rfl, .inl rfl, .inl rfl, .inl rfl, trivial⟩) ?_ (fun τ τ' h q => AW.weak h q) ?_ (by kernel_rfl) rfl (by kernel_rfl)
          · intro b j o1 _ ho1 hb hd ⟨i1, i2, i3⟩
            have hj : j < 7 := (Array.getElem?_eq_some_iff.1 ho1).1
            have hc6 : b 6 = false → b 4 = false → (bif b 6 then (40, .ow 5 28 (kkA (i + 1)) (ocs (rowA n l (i + 1)))) :: o' else bif b 4 then o' else o) = o := fun h1 h2 => by rw [h1, h2]; rfl
            rcases (show j = 0 ∨ j = 1 ∨ j = 2 ∨ j = 3 ∨ j = 4 ∨ j = 5 ∨ j = 6 by omega) with rfl | rfl | rfl | rfl | rfl | rfl | rfl
            all_goals cases ho1
            all_goals refine Step1.of rfl ?_
            · refine rn T 99 [] ?_
              exact ⟨(), ⟨i1, i2, i3⟩, wk_l ⟨.inl rfl, .inl rfl, .inl rfl, .inl rfl, .inl rfl, .inl rfl, .inl rfl, .inl rfl, .inl rfl, .inl rfl, .inl rfl, .inl rfl, .inl rfl, trivial⟩⟩
            · have d0 : b 0 = true := hd ⟨0, .data⟩ (by simp) rfl
              refine EOps.ldC T rfl (m := 1) (off := 4) (t' := 28) (v := .vw (.L 40) l.length) (by show some (bif b 0 then _ else _) = _; rw [d0]; rfl) (c := [.p (pi k), .p (pi m), .p (ps s), .p (.row 1 (p.map pi)), .vw (.L 40) l.length]) (by cases h6 : b 6 <;> cases h4 : b 4 <;> first | exact g1 | exact f1) rfl rfl rfl (EOps.nil ?_)
              exact ⟨(), ⟨i1, i2, i3⟩, wk_l ⟨.inl rfl, .inl rfl, .inl rfl, .inl rfl, .inl rfl, .inl rfl, .inl rfl, .inl rfl, .inl rfl, .inl rfl, .inl rfl, .inl rfl, .inl rfl, trivial⟩⟩
            · refine rn T 99 [] ?_
              exact ⟨(), ⟨i1, i2, i3⟩, wk_l ⟨.inl rfl, .inl rfl, .inl rfl, .inl rfl, .inl rfl, .inl rfl, .inl rfl, .inl rfl, .inl rfl, .inl rfl, .inl rfl, .inl rfl, .inl rfl, trivial⟩⟩
            · have e4 : b 4 = false := by
                cases h4 : b 4 with
                | false => rfl
                | true => rw [i3 h4] at hb; cases hb
              have e5 : b 5 = false := by
                cases h5 : b 5 with
                | false => rfl
                | true => rw [i2 h5] at e4; cases e4
              have e6 : b 6 = false := by
                cases h6 : b 6 with
                | false => rfl
                | true => rw [i1 h6] at e5; cases e5
              refine EOps.ldB T rfl (m := 4) (t' := 28) (k := 5) (c := c) rfl (by rw [hc6 e6 e4]; exact f4) rfl fc rfl (EOps.nil ?_)
              exact ⟨(), ⟨i1, i2, fun _ => rfl⟩, wk_l ⟨.inl rfl, .inl rfl, .inl rfl, .inl rfl, .inl rfl, .inl rfl, .inl rfl, .inl rfl, .inl rfl, .inl rfl, .inl rfl, .inl rfl, .inl rfl, trivial⟩⟩
            · have e5 : b 5 = false := by
                cases h5 : b 5 with
                | false => rfl
                | true => rw [i2 h5] at hb; cases hb
              have e6 : b 6 = false := by
                cases h6 : b 6 with
                | false => rfl
                | true => rw [i1 h6] at e5; cases e5
              have d3 : b 3 = true := hd ⟨3, .data⟩ (by simp) rfl
              rw [hc6 e6 hb]
              refine fcall _ _ _ _ _ (by show some (bif b 3 then _ else _) = _; rw [d3]; rfl) ?_
              refine ⟨(), ⟨i1, fun _ => rfl, fun _ => d3⟩, ?_⟩
              show Wk _ ((MS.mk _ 31 (bif b 6 then _ else o') _).st _ _)
              rw [e6]
              exact wk_l ⟨.inl rfl, .inl rfl, .inl rfl, .inl rfl, .inl rfl, .inl rfl, .inl rfl, .inl rfl, .inl rfl, .inl rfl, .inl rfl, .inl rfl, .inl rfl, trivial⟩
            · have d1 : b 1 = true := hd ⟨1, .data⟩ (by simp) rfl
              have d2 : b 2 = true := hd ⟨2, .data⟩ (by simp) rfl
              have d4 : b 4 = true := hd ⟨4, .phase⟩ (by simp) rfl
              have e6 : b 6 = false := by
                cases h6 : b 6 with
                | false => rfl
                | true => rw [i1 h6] at hb; cases hb
              refine EOps.ixO T (nm := .L 40) (len := l.length) (e := 28) (z := 5) (e' := 28) (b := true) (ik := .i64) (j := i) (ks := ks) (xs := xs) rfl (by show some (bif b 1 then _ else _) = _; rw [d1]; rfl) (by show some (bif b 2 then _ else _) = _; rw [d2]; rfl) (by rw [e6, d4]; exact g40) fl rfl rfl ⟨by omega, by omega⟩ rfl (EOps.nil ?_)
              refine ⟨(), ⟨fun _ => rfl, fun _ => d4, i3⟩, ?_⟩
              exact wk_l ⟨.inl rfl, .inl rfl, .inl rfl, .inl rfl, .inl rfl, .inl rfl, .inl rfl, .inl rfl, .inl rfl, .inl rfl, .inl rfl, .inl rfl, .inl rfl, trivial⟩
            · have d5 : b 5 = true := hd ⟨5, .data⟩ (by simp) rfl
              have d4 : b 4 = true := i2 d5
              refine EOps.so T (kkA (i + 1)) cc (nm := .L 40) (len := l.length) (ix := i) (off := 0) (z := 5) (e := 28) (b := true) (sz := 5) (ks := ks) (xs := xs) (Y := .p (pm ⟨k1, m1, s1, p1, l1⟩)) rfl rfl (by show some (bif b 5 then _ else _) = _; rw [d5]; rfl) (by show some (bif b 4 then _ else _) = _; rw [d4]; rfl) (by rw [hb, d4]; exact g40) rfl fl fcc (by trivial) rfl (by omega) fks (fun y hy => by simp [tcells] at hy; rcases hy with rfl | rfl | rfl | rfl | rfl <;> exact .p) (fun q hq => by match i, hq with | 0, hq => (obtain rfl := List.mem_singleton.1 hq; trivial) | j + 1, hq => (rcases List.mem_cons.1 hq with rfl | hq; trivial; obtain rfl := List.mem_singleton.1 hq; trivial)) (fun j hj => by cases hj) (EOps.nil ?_)
              have e : splice cc 0 (tcells (.p (pm ⟨k1, m1, s1, p1, l1⟩))) = (pm ⟨k1, m1, s1, p1, l1⟩).cells.map oc := by
                match cc, fcl with
                | [_, _, _, _, _], _ => rfl
              rw [e, fset]
              refine ⟨(), ⟨fun _ => d5, fun _ => d4, i3⟩, ?_⟩
              have eo : (bif b 6 then (40, AObj.ow 5 28 (kkA (i + 1)) (ocs (rowA n l (i + 1)))) :: o' else bif b 4 then o' else o) = o' := by rw [hb, d4]; rfl
              rw [eo]
              exact wk_l ⟨.inl rfl, .inl rfl, .inl rfl, .inl rfl, .inl rfl, .inl rfl, .inl rfl, .inl rfl, .inl rfl, .inl rfl, .inl rfl, .inl rfl, .inl rfl, trivial⟩
          · intro b x hall ⟨i1, i2, i3⟩
            have a0 := hall 0 (by decide)
            have a1 := hall 1 (by decide)
            have a2 := hall 2 (by decide)
            have a3 := hall 3 (by decide)
            have a4 := hall 4 (by decide)
            have a5 := hall 5 (by decide)
            have a6 := hall 6 (by decide)
            simp only [a0, a1, a2, a3, a4, a5, a6, cond_true]
            refine op ?_
            refine rn T 99 [] ?_
            rw [wkS (by omega)]
            exact RoundM.next (m2 - 1) (i + 1) (by omega) (by omega) rfl rfl ⟨.inl rfl, .inl rfl, .inl rfl, .inl rfl, .inl rfl, trivial⟩ ⟨.inl rfl, .inl g1, .inl g2, trivial⟩
      · refine cfq rfl (by simp [hi]) ?_
        have hil : i = l.length := by omega
        subst hil
        have er : ocs (rowA n l l.length) = ((l.map (smp n)).map eM).map (fun y => y.cells.map oc) := by rw [rowA_end]
        rw [er]
        obtain ⟨l0, hl0⟩ : ∃ l0, l0 = l.map (smp n) := ⟨_, rfl⟩
        have hlen2 : l.length = (l0.map eM).length := by rw [hl0]; simp
        rw [hlen2]
        rw [← hl0] at hI ⊢
        refine AW.fz 40 (l0.map eM) (l0.map eM) rfl rfl (okM l0) (frzM l0) (zM5 l0) ?_
        refine lpw (fun u : Mn => MS.mk [(1, .ptr (.L 1) 0), (2, .ptr (.L 2) 0)] 31 [(1, .box 28 [.p (pi u.f0), .p (pi u.f1), .p (ps u.f2), .p (.row 1 (u.f3.map pi)), .p (.row 5 (u.f4.map eM))]), (2, .box 28 [.p (pi 0), .p (pi 0), .p (ps ⟨#[]⟩), .nil, .nil])] [.gone]) (fun f u => msz u ≤ f ∧ okD (n + 1) u = true ∧ (∀ x ∈ u.f4, smD n x = true) ∧ mpl u ≤ 50000 ∧ whlF f u = whlF (msz ⟨k, m, s, p, l0⟩) ⟨k, m, s, p, l0⟩) (msz ⟨k, m, s, p, l0⟩) (⟨k, m, s, p, l0⟩) (⟨Nat.le_refl _, hI.1, hI.2.1, hI.2.2, rfl⟩) ?_ rfl rfl ⟨.inl rfl, .inl rfl, trivial⟩ ⟨.inr ⟨_, _, _, rfl, rfl, .inl rfl, .inl rfl, .inl rfl, .inl rfl, .inr ⟨.row 5 (l0.map eM), relT_pv _ _ _ ⟨rfl, rfl, rfl⟩, rfl⟩, trivial⟩, .inl rfl, trivial⟩
        intro f ⟨k, m, s, p, l⟩ ⟨q1, q2, q3, q4, q5⟩
        have cs := step2 a ⟨k, m, s, p, l⟩ (okS_of q2 q4)
        rw [← q5]
        refine op ?_
        obtain ⟨u, hu⟩ : ∃ u, u = (stp ⟨k, m, s, p, l⟩).1 := ⟨_, rfl⟩
        rw [← hu] at cs
        cases hst : (stp ⟨k, m, s, p, l⟩).2 with
        | false =>
          rw [hst] at cs
          obtain ⟨k', m', s', p', l'⟩ := u
          refine rn T 99 [] ?_
          refine pcs (cs) ?_
          refine rn T 99 [] ?_
          refine rn T 99 [] ?_
          refine cts ?_
          refine rn T 99 [] ?_
          rw [whlF_f hst]
          exact rt1 T (pm ⟨k, m, s, p, l⟩) (⟨rfl, rfl⟩)
        | true =>
          have hi := stp_inv q2 q3 hst
          rw [← hu] at hi
          have hw : whlF f ⟨k, m, s, p, l⟩ = whlF (f - 1) u := by
            obtain ⟨f', rfl⟩ : ∃ f', f = f' + 1 := ⟨f - 1, by have := msz_pos ⟨k, m, s, p, l⟩; omega⟩
            rw [whlF_t hst, ← hu]; rfl
          have hf1 : 1 ≤ f := by have := msz_pos ⟨k, m, s, p, l⟩; omega
          have hpl2 := hi.pl
          have hsz2 := hi.sz
          rw [hst] at cs
          rw [hw]
          obtain ⟨k', m', s', p', l'⟩ := u
          refine rn T 99 [] ?_
          refine pcs (cs) ?_
          refine rn T 99 [] ?_
          refine rn T 99 [] ?_
          refine cfs ?_
          refine rn T 99 [] ?_
          refine nxt (f - 1) (⟨k', m', s', p', l'⟩) (⟨by omega, hi.ok, hi.sm, by omega, rfl⟩)
end Go.Proofs.YtlcmokgnmlklnaaDoor.K
end
section
namespace Go.Proofs.YtlcmokgnmlklnaaDoor.En
set_option linter.unusedVariables false
set_option linter.unusedSimpArgs false
open Go Go.RowKit Go.Proofs.YtlcmokgnmlklnaaDoor.PA
variable {P : Program} {E : Ent} {σ : St} {a : Act} {w : World} {S : Nat → Nat → Prop} {g : Nm → GV}
mutual
def rnT (f : Nm → Nm) : TV → TV
  | .p v => .p v
  | .o v => .o v
  | .ip n len z i off => .ip (f n) len z i off
  | .u => .u
  | .nil => .nil
  | .ag l => .ag (rnTs f l)
  | .tp l => .tp (rnTs f l)
  | .ptr n off => .ptr (f n) off
  | .pe l => .pe l
  | .vw n len => .vw (f n) len
  | .sl n len => .sl (f n) len
  | .mp n => .mp (f n)
  | .fn g l => .fn g (rnTs f l)
def rnTs (f : Nm → Nm) : List TV → List TV
  | [] => []
  | x :: l => rnT f x :: rnTs f l
end
theorem rnTs_map (f : Nm → Nm) : ∀ l, rnTs f l = l.map (rnT f)
  | [] => by unfold rnTs; rfl
  | x :: l => by unfold rnTs; rw [rnTs_map f l]; rfl
theorem rnTs_len (f : Nm → Nm) (l : List TV) : (rnTs f l).length = l.length := by rw [rnTs_map]; simp
theorem rnTs_get (f : Nm → Nm) (l : List TV) (k : Nat) : (rnTs f l)[k]? = l[k]?.map (rnT f) := by rw [rnTs_map, List.getElem?_map]
theorem TRep.ren {Γ Γ' : Env} {f : Nm → Nm} {q : Nm → Prop} (hS : ∀ b i, Γ.S b i → Γ'.S b i ∧ Γ'.w.cell? ⟨b, i, none⟩ = Γ.w.cell? ⟨b, i, none⟩) (hf : ∀ n, n.lt Γ.nH → q n → (Γ'.g (f n)).v = (Γ.g n).v ∧ (Γ'.ln (f n) = none ∨ Γ'.ln (f n) = Γ.ln n) ∧ (f n).lt Γ'.nH) {v : TV} {V : Value}
    (h : TRep Γ v V) (hq : v.All q) : TRep Γ' (rnT f v) V := by
  induction h with
  | p h => unfold rnT; exact .p (h.move hS)
  | u => unfold rnT; exact .u
  | nil => unfold rnT; exact .nil
  | ag hs h h1 ih =>
    cases hq with
    | ag hq =>
      unfold rnT
      refine .ag (by rw [rnTs_len]; exact hs) (fun k y u hy hu => ?_) h1
      rw [rnTs_get] at hy
      obtain ⟨y0, hy0, rfl⟩ := Option.map_eq_some_iff.1 hy
      exact ih k y0 u hy0 hu (hq y0 (List.mem_of_getElem? hy0))
  | tp hs h ih =>
    cases hq with
    | tp hq =>
      unfold rnT
      refine .tp (by rw [rnTs_len]; exact hs) (fun k y u hy hu => ?_)
      rw [rnTs_get] at hy
      obtain ⟨y0, hy0, rfl⟩ := Option.map_eq_some_iff.1 hy
      exact ih k y0 u hy0 hu (hq y0 (List.mem_of_getElem? hy0))
  | ptr hn h =>
    cases hq with
    | ptr hq => unfold rnT; obtain ⟨e1, _, e3⟩ := hf _ hn hq; exact .ptr e3 (e1.trans h)
  | pe U h =>
    unfold rnT
    refine .pe U (fun k y hy => ?_)
    obtain ⟨h1, h2, h3, h4⟩ := h k y hy
    obtain ⟨h5, h6⟩ := hS _ _ h1
    exact ⟨h5, h6.trans h2, h3, h4.move hS⟩
  | vw hn h1 h =>
    cases hq with
    | vw hq =>
      unfold rnT
      obtain ⟨e1, e2, e3⟩ := hf _ hn hq
      refine .vw e3 h1 (fun k hk => ?_)
      rcases e2 with e2 | e2
      · rw [e2] at hk; cases hk
      · rw [e2] at hk
        exact ⟨(h k hk).1, fun e => ((h k hk).2 e).trans e1.symm⟩
  | ip hn h =>
    cases hq with
    | ip hq =>
      unfold rnT
      obtain ⟨e1, e2, e3⟩ := hf _ hn hq
      refine .ip e3 (fun k hk => ?_)
      rcases e2 with e2 | e2
      · rw [e2] at hk; cases hk
      · rw [e2] at hk
        exact ⟨(h k hk).1, fun e => by obtain ⟨c, hc⟩ := (h k hk).2 e; exact ⟨c, e1.trans hc⟩⟩
  | sl hn hc h =>
    cases hq with
    | sl hq => unfold rnT; obtain ⟨e1, _, e3⟩ := hf _ hn hq; exact .sl e3 hc (e1.trans h)
  | mp hn h =>
    cases hq with
    | mp hq => unfold rnT; obtain ⟨e1, _, e3⟩ := hf _ hn hq; exact .mp e3 (e1.trans h)
  | fn hs h ih =>
    cases hq with
    | fn hq =>
      unfold rnT
      refine .fn (by rw [rnTs_len]; exact hs) (fun k y u hy hu => ?_)
      rw [rnTs_get] at hy
      obtain ⟨y0, hy0, rfl⟩ := Option.map_eq_some_iff.1 hy
      exact ih k y0 u hy0 hu (hq y0 (List.mem_of_getElem? hy0))
theorem TRep.unren {Γ Γ' : Env} {f : Nm → Nm} {q : Nm → Prop} (hS : ∀ b i, Γ.S b i → Γ'.S b i ∧ Γ'.w.cell? ⟨b, i, none⟩ = Γ.w.cell? ⟨b, i, none⟩) (hf : ∀ n, q n → (Γ'.g n).v = (Γ.g (f n)).v ∧ (Γ'.ln n = none ∨ Γ'.ln n = Γ.ln (f n)) ∧ n.lt Γ'.nH) {y : TV} (hy : y.All q) :
    ∀ {V : Value}, TRep Γ (rnT f y) V → TRep Γ' y V := by
  induction hy with
  | p => intro V h; unfold rnT at h; cases h with | p h => exact .p (h.move hS)
  | o => intro V h; unfold rnT at h; cases h
  | ip hq =>
    intro V h; unfold rnT at h
    obtain ⟨e1, e2, e3⟩ := hf _ hq
    cases h with
    | ip hn h =>
      refine .ip e3 (fun k hk => ?_)
      rcases e2 with e2 | e2
      · rw [e2] at hk; cases hk
      · rw [e2] at hk
        exact ⟨(h k hk).1, fun e => by obtain ⟨c, hc⟩ := (h k hk).2 e; exact ⟨c, e1.trans hc⟩⟩
  | u => intro V h; exact .u
  | nil => intro V h; unfold rnT at h; cases h; exact .nil
  | @ag l hq ih =>
    intro V h; unfold rnT at h
    cases h with
    | ag hs h h1 =>
      refine .ag (by rw [rnTs_len] at hs; exact hs) (fun k y u hy hu => ih y (List.mem_of_getElem? hy) (h k _ u (by rw [rnTs_get, hy]; rfl) hu)) h1
  | @tp l hq ih =>
    intro V h; unfold rnT at h
    cases h with
    | tp hs h =>
      refine .tp (by rw [rnTs_len] at hs; exact hs) (fun k y u hy hu => ih y (List.mem_of_getElem? hy) (h k _ u (by rw [rnTs_get, hy]; rfl) hu))
  | ptr hq =>
    intro V h; unfold rnT at h
    obtain ⟨e1, e2, e3⟩ := hf _ hq
    cases h with | ptr hn h => exact .ptr e3 (e1.trans h)
  | pe =>
    intro V h; unfold rnT at h
    cases h with
    | pe U h =>
      refine .pe U (fun k y hy => ?_)
      obtain ⟨h1, h2, h3, h4⟩ := h k y hy
      obtain ⟨h5, h6⟩ := hS _ _ h1
      exact ⟨h5, h6.trans h2, h3, h4.move hS⟩
  | vw hq =>
    intro V h; unfold rnT at h
    obtain ⟨e1, e2, e3⟩ := hf _ hq
    cases h with
    | vw hn h1 h =>
      refine .vw e3 h1 (fun k hk => ?_)
      rcases e2 with e2 | e2
      · rw [e2] at hk; cases hk
      · rw [e2] at hk
        exact ⟨(h k hk).1, fun e => ((h k hk).2 e).trans e1.symm⟩
  | sl hq =>
    intro V h; unfold rnT at h
    obtain ⟨e1, e2, e3⟩ := hf _ hq
    cases h with | sl hn hc h => exact .sl e3 hc (e1.trans h)
  | mp hq =>
    intro V h; unfold rnT at h
    obtain ⟨e1, e2, e3⟩ := hf _ hq
    cases h with | mp hn h => exact .mp e3 (e1.trans h)
  | @fn f' l hq ih =>
    intro V h; unfold rnT at h
    cases h with
    | fn hs h =>
      refine .fn (by rw [rnTs_len] at hs; exact hs) (fun k y u hy hu => ih y (List.mem_of_getElem? hy) (h k _ u (by rw [rnTs_get, hy]; rfl) hu))
theorem TV.all_all {ι : Type} {q : ι → Nm → Prop} {v : TV} (h0 : v.All (fun _ => True)) : (∀ i, v.All (q i)) → v.All (fun n => ∀ i, q i n) := by
  induction h0 with
  | p => exact fun _ => .p
  | o => exact fun _ => .o
  | ip _ => exact fun h => .ip (fun i => by cases h i; assumption)
  | u => exact fun _ => .u
  | nil => exact fun _ => .nil
  | ag _ ih => exact fun h => .ag (fun x hx => ih x hx (fun i => by cases h i with | ag h => exact h x hx))
  | tp _ ih => exact fun h => .tp (fun x hx => ih x hx (fun i => by cases h i with | tp h => exact h x hx))
  | ptr _ => exact fun h => .ptr (fun i => by cases h i; assumption)
  | pe => exact fun _ => .pe
  | vw _ => exact fun h => .vw (fun i => by cases h i; assumption)
  | sl _ => exact fun h => .sl (fun i => by cases h i; assumption)
  | mp _ => exact fun h => .mp (fun i => by cases h i; assumption)
  | fn _ ih => exact fun h => .fn (fun x hx => ih x hx (fun i => by cases h i with | fn h => exact h x hx))
theorem AObj.all_all {ι : Type} {q : ι → Nm → Prop} {o : AObj} (h : ∀ i, o.All (q i)) : o.All (fun n => ∀ i, q i n) := by
  cases o with
  | box t l => exact fun x hx => TV.all_all (TV.all_true x) (fun i => h i x hx)
  | rw => trivial
  | mp => trivial
  | ow z t ks xs => exact fun n hn i => h i n hn
  | gone => trivial
def cloO : AObj → Prop
  | .box _ l => ∀ x ∈ l, x.All (fun _ => False)
  | .ow _ _ ks _ => ks = []
  | _ => True
theorem ORep.clo2 {Γ Γ' : Env} {n n' : Nm} {o : AObj} (h : ORep Γ n o) (hc : cloO o) (hg : Γ'.g n' = Γ.g n) (hw : Γ'.w = Γ.w) (hS : Γ'.S = Γ.S) : ORep Γ' n' o := by
  cases o with
  | box t l =>
    obtain ⟨b, arr, h1, h2, h3, h4, h5, h6, h7⟩ := h
    exact ⟨b, arr, by rw [hg]; exact h1, by rw [hg]; exact h2, by rw [hw]; exact h3, h4, fun k y u hy hu => (h5 k y u hy hu).move' hw hS (hc y (List.mem_of_getElem? hy)), h6, by rw [hS]; exact h7⟩
  | rw z t xs =>
    obtain ⟨fl, h1, h2, h3, h4, h5⟩ := h
    exact ⟨fl, by rw [hg, hw]; exact h1, by rw [hg]; exact h2, h3, by rw [hw, hS]; exact h4, by rw [hg, hS]; exact h5⟩
  | mp es =>
    obtain ⟨b, vs, h1, h2, h3, h4, h5⟩ := h
    exact ⟨b, vs, by rw [hg]; exact h1, by rw [hg]; exact h2, by rw [hw]; exact h3, h4, by rw [hw, hS]; exact h5⟩
  | ow z t ks xs =>
    obtain rfl : ks = [] := hc
    exact h.clo hg hw hS
  | gone => intro b; rw [hg]; exact h b
section
open Classical
noncomputable def gAft (g g' : Nm → GV) (ρ : Nat → Nm) (k : Nat) : Nm → GV := fun n => if h : ∃ i, i < k ∧ n = ρ i then g' (.S (Classical.choose h)) else g n
theorem gAft_in {g g' : Nm → GV} {ρ : Nat → Nm} {k i : Nat} (hinj : ∀ i j, i < k → j < k → ρ i = ρ j → i = j) (hi : i < k) : gAft g g' ρ k (ρ i) = g' (.S i) := by
  have h : ∃ j, j < k ∧ ρ i = ρ j := ⟨i, hi, rfl⟩
  unfold gAft
  rw [dif_pos h]
  obtain ⟨h1, h2⟩ := Classical.choose_spec h
  exact congrArg (fun j => g' (.S j)) (hinj _ _ hi h1 h2).symm
theorem gAft_out {g g' : Nm → GV} {ρ : Nat → Nm} {k : Nat} {n : Nm} (h : ∀ i, i < k → n ≠ ρ i) : gAft g g' ρ k n = g n := by
  unfold gAft
  rw [dif_neg (fun ⟨i, h1, h2⟩ => h i h1 h2)]
end
theorem Rep.callG (h : Rep E σ a w S g) {σ' : St} {k : Nat} {ρ : Nat → Nm} {w' : World} {S' : Nat → Nat → Prop} {g0 g' : Nm → GV} {G : Nat → Option PV} {H H' : List AObj} (hk : k ≤ H'.length) (hinj : ∀ i j, i < H'.length → j < H'.length → ρ i = ρ j → i = j) (hL : ∀ i, i < H'.length → ∃ t, ρ i = .L t)
    (hold : ∀ i, i < k → σ.ob (ρ i) = H[i]? ∧ (H[i]?).isSome) (hnew : ∀ i, k ≤ i → i < H'.length → Fresh σ (ρ i)) (h1 : ∀ i, i < H'.length → σ'.ob (ρ i) = H'[i]?) (h2 : ∀ n, (∀ i, i < H'.length → n ≠ ρ i) → σ'.ob n = σ.ob n) (htm : σ'.tm = σ.tm) (hnt : σ'.nt = σ.nt) (hG : σ'.G = σ.G) (hHH : σ'.H = σ.H)
    (hcl : ∀ (i : Nat) o, H'[i]? = some o → cloO o) (hg0 : ∀ i, i < k → g0 (.S i) = g (ρ i)) (hh : HRep G H' w' S' g') (he : Evol w S g0 k w' S' g' H'.length) (hnm : ∀ i, i < k → NmOk (henv H w S g0) (henv H' w' S' g') (.S i)) :
    Rep E σ' a w' S' (gAft g g' ρ H'.length) := by
  obtain ⟨gX, hX⟩ : ∃ gX, gX = gAft g g' ρ H'.length := ⟨_, rfl⟩
  have hin : ∀ i, i < H'.length → gX (ρ i) = g' (.S i) := fun i hi => by rw [hX]; exact gAft_in hinj hi
  have hout : ∀ n, (∀ i, i < H'.length → n ≠ ρ i) → gX n = g n := fun n hn => by rw [hX]; exact gAft_out hn
  rw [← hX]
  have hcas : ∀ n, (∃ i, i < H'.length ∧ n = ρ i) ∨ ∀ i, i < H'.length → n ≠ ρ i := fun n => by
    by_cases c : ∃ i, i < H'.length ∧ n = ρ i
    · exact .inl c
    · exact .inr (fun i hi e => c ⟨i, hi, e⟩)
  have holdS : ∀ i, i < k → (σ.ob (ρ i)).isSome := fun i hi => by rw [(hold i hi).1]; exact (hold i hi).2
  have hS0 : ∀ i, (.S i : Nm) = .S i ∧ ∀ j, j < H'.length → (.S i : Nm) ≠ ρ j := fun i => ⟨rfl, fun j hj e => by obtain ⟨t, ht⟩ := hL j hj; rw [ht] at e; cases e⟩
  have hsrc : ∀ i, i < H'.length → ∀ b, (g' (.S i)).B b → w.heap.size ≤ b ∨ ∃ j, j < k ∧ (g (ρ j)).B b := fun i hi b hb => by
    rcases he.own i hi b hb with q | ⟨j, hj, q⟩
    · exact .inl q
    · rw [hg0 j hj] at q; exact .inr ⟨j, hj, q⟩
  have hnewS : ∀ b i, S' b i → S b i ∨ w.heap.size ≤ b ∨ ∃ j, j < k ∧ (g (ρ j)).B b := fun b i hb => by
    rcases he.new b i hb with q | q | ⟨j, hj, q⟩
    · exact .inl q
    · exact .inr (.inl q)
    · rw [hg0 j hj] at q; exact .inr (.inr ⟨j, hj, q⟩)
  have hblk : ∀ b, b < w.heap.size → (∀ j, j < k → ¬ (g (ρ j)).B b) → w'.heap[b]? = w.heap[b]? := fun b hb hno => he.block b hb (fun i hi q => by rw [hg0 i hi] at q; exact hno i hi q)
  have hown : ∀ j, j < k → ∀ b, (g (ρ j)).B b → E.w.heap.size ≤ b ∨ ∃ i, i < E.n ∧ (E.g (.S i)).B b := fun j hj b hb => h.owner (holdS j hj) hb
  have hN : ∀ n, (∀ i, k ≤ i → i < H'.length → n ≠ ρ i) → NmOk (σ.env w S g) (σ'.env w' S' gX) n := by
    intro n hn
    rcases hcas n with ⟨i, hi, rfl⟩ | hc
    · have hik : i < k := Nat.lt_of_not_le (fun q => hn i q hi rfl)
      have e1 : (gX (ρ i)).v = (g' (.S i)).v := by rw [hin i hi]
      have e2 : (g0 (.S i)).v = (g (ρ i)).v := by rw [hg0 i hik]
      have e3 : (σ'.env w' S' gX).ln (ρ i) = (henv H' w' S' g').ln (.S i) := by
        show (σ'.ob (ρ i)).bind AObj.ln = (H'[i]?).bind AObj.ln
        rw [h1 i hi]
      have e4 : (σ.env w S g).ln (ρ i) = (henv H w S g0).ln (.S i) := by
        show (σ.ob (ρ i)).bind AObj.ln = (H[i]?).bind AObj.ln
        rw [(hold i hik).1]
      rcases hnm i hik with ⟨q1, q2⟩ | ⟨⟨x, y, z, q1⟩, q2⟩
      · exact .inl ⟨e1.trans (q1.trans e2), by rw [e3, e4]; exact q2⟩
      · exact .inr ⟨⟨x, y, z, e2.symm.trans q1⟩, by rw [e3, e4]; exact q2⟩
    · refine .inl ⟨by show (gX n).v = _; rw [hout n hc]; rfl, .inr ?_⟩
      show (σ'.ob n).bind AObj.ln = (σ.ob n).bind AObj.ln
      rw [h2 n hc]
  have hAllF : ∀ v : TV, (∀ d, Fresh σ (.L d) → v.All (· ≠ .L d)) → v.All (fun n => ∀ i, k ≤ i → i < H'.length → n ≠ ρ i) := fun v hv => by
    refine (TV.all_all (q := fun (i : {i // k ≤ i ∧ i < H'.length}) n => n ≠ ρ i.1) (TV.all_true v) (fun ⟨i, q1, q2⟩ => ?_)).mono (fun n hn i q1 q2 => hn ⟨i, q1, q2⟩)
    obtain ⟨t, ht⟩ := hL i q2
    have := hv t (ht ▸ hnew i q1 q2)
    rw [← ht] at this
    exact this
  have hHl : (σ.env w S g).nH ≤ (σ'.env w' S' gX).nH := by show σ.H.length ≤ σ'.H.length; rw [hHH]; exact Nat.le_refl _
  refine ⟨fun t => ?_, h.nt.trans hnt.symm, h.df, ?_, ?_, hh.st, ?_, fun i o ho => h.hs i o (by rw [hHH] at ho; exact ho), ?_, ?_, fun i hi => (h.nm i hi).trans (hN (.S i) (fun j _ hj => (hS0 i).2 j hj)), hG.trans h.eG⟩
  · rw [htm]
    exact (h.tm t).move (Γ' := σ'.env w' S' gX) he.stb hHl (fun n _ hn => hN n hn) (hAllF _ (fun d hd => hd.2.1 t))
  · intro n o ho
    rcases hcas n with ⟨i, hi, rfl⟩ | hc
    · rw [h1 i hi] at ho
      exact ORep.clo2 (hh.ob i o ho) (Γ' := σ'.env w' S' gX) (hcl i o ho) (hin i hi) rfl rfl
    · rw [h2 n hc] at ho
      refine (h.ob n o ho).move (Γ' := σ'.env w' S' gX) (q := fun n => ∀ i, k ≤ i → i < H'.length → n ≠ ρ i) he.stb hHl (fun n _ hn => hN n hn) ?_ (hout n hc) (fun b hb => ?_)
      · refine (AObj.all_all (q := fun (i : {i // k ≤ i ∧ i < H'.length}) n => n ≠ ρ i.1) (fun ⟨i, q1, q2⟩ => ?_)).mono (fun n hn i q1 q2 => hn ⟨i, q1, q2⟩)
        obtain ⟨t, ht⟩ := hL i q2
        have hfr : Fresh σ (.L t) := ht ▸ hnew i q1 q2
        show o.All (· ≠ ρ i)
        rw [ht]
        cases n with
        | L s => exact hfr.2.2 s o ho
        | S s => exact (h.hs s o ho).mono (fun m hm e => by subst e; exact hm)
      · have hlt := (h.ob n o ho).lt hb
        have hno : ∀ j, j < k → ¬ (g (ρ j)).B b := fun j hj q => h.dj n (ρ j) (hc j (Nat.lt_of_lt_of_le hj hk)) (by rw [ho]; rfl) (holdS j hj) b hb q
        refine ⟨hblk b hlt hno, fun i hi => ?_⟩
        rcases hnewS b i hi with q | q | ⟨j, hj, q⟩
        · exact q
        · have q : w.heap.size ≤ b := q
          have hlt : b < w.heap.size := hlt
          omega
        · exact absurd q (hno j hj)
  · intro n m hne s1 s2 b b1 b2
    have key : ∀ i, i < H'.length → ∀ n, (∀ j, j < H'.length → n ≠ ρ j) → (σ'.ob n).isSome → (g n).B b → (g' (.S i)).B b → False := by
      intro i hi n hn hs q1 q2
      rw [h2 n hn] at hs
      obtain ⟨o, ho⟩ := Option.isSome_iff_exists.1 hs
      have hlt := (h.ob n o ho).lt q1
      rcases hsrc i hi b q2 with q | ⟨j, hj, q⟩
      · have hlt : b < w.heap.size := hlt
        omega
      · exact h.dj n (ρ j) (hn j (Nat.lt_of_lt_of_le hj hk)) hs (holdS j hj) b q1 q
    rcases hcas n with ⟨i, hi, rfl⟩ | hc
    · rw [hin i hi] at b1
      rcases hcas m with ⟨j, hj, rfl⟩ | hd
      · rw [hin j hj] at b2
        exact hh.dj i j (fun e => hne (by rw [e])) hi hj b b1 b2
      · rw [hout m hd] at b2
        exact key i hi m hd s2 b2 b1
    · rw [hout n hc] at b1
      rcases hcas m with ⟨j, hj, rfl⟩ | hd
      · rw [hin j hj] at b2
        exact key j hj n hc s1 b1 b2
      · rw [hout m hd] at b2
        rw [h2 n hc] at s1
        rw [h2 m hd] at s2
        exact h.dj n m hne s1 s2 b b1 b2
  · intro t ht b hb
    rcases hcas (.L t) with ⟨i, hi, e⟩ | hc
    · rw [e, hin i hi] at hb
      rcases hsrc i hi b hb with q | ⟨j, hj, q⟩
      · exact .inl (Nat.le_trans h.ev.size q)
      · exact hown j hj b q
    · rw [hout _ hc] at hb
      have e : σ'.ob (.L t) = σ.ob (.L t) := h2 _ hc
      exact h.owner (m := .L t) (by rw [← e]; exact ht) hb
  · refine ⟨he.os.trans h.ev.os, he.tape.trans h.ev.tape, he.output.trans h.ev.output, Nat.le_trans h.ev.size he.size, by rw [hHH]; exact h.ev.n, fun b hb hno => ?_, fun b i hb => ?_, fun b i hb => ?_, fun i hi b hb => ?_⟩
    · refine (hblk b (Nat.lt_of_lt_of_le hb h.ev.size) (fun j hj q => ?_)).trans (h.ev.block b hb hno)
      rcases hown j hj b q with q1 | ⟨i, q1, q2⟩
      · omega
      · exact hno i q1 q2
    · obtain ⟨q1, q2⟩ := h.ev.stb b i hb
      obtain ⟨q3, q4⟩ := he.stb b i q1
      exact ⟨q3, q4.trans q2⟩
    · rcases hnewS b i hb with q | q | ⟨j, hj, q⟩
      · exact h.ev.new b i q
      · exact .inr (.inl (Nat.le_trans h.ev.size q))
      · exact .inr (hown j hj b q)
    · rw [hHH] at hi
      rw [hout _ (hS0 i).2] at hb
      exact h.ev.own i hi b hb
  · intro i y hy
    rw [hG] at hy
    obtain ⟨u, q1, q2, q3, q4⟩ := h.gl i y hy
    obtain ⟨q5, q6⟩ := he.stb _ _ q1
    exact ⟨u, q5, q6.trans q2, q3, q4.move he.stb⟩
mutual
def slB (k : Nat) : TV → Bool
  | .p _ => true
  | .o _ => true
  | .ip n _ _ _ _ => slN k n
  | .u => true
  | .nil => true
  | .ag l => slBs k l
  | .tp l => slBs k l
  | .ptr n _ => slN k n
  | .pe _ => true
  | .vw n _ => slN k n
  | .sl n _ => slN k n
  | .mp n => slN k n
  | .fn _ l => slBs k l
def slBs (k : Nat) : List TV → Bool
  | [] => true
  | x :: l => slB k x && slBs k l
def slN (k : Nat) : Nm → Bool
  | .L _ => false
  | .S i => Nat.blt i k
end
theorem slN_spec {k : Nat} {n : Nm} (h : slN k n = true) : ∃ i, i < k ∧ n = .S i := by
  cases n with
  | L t => unfold slN at h; cases h
  | S i => unfold slN at h; exact ⟨i, Nat.le_of_ble_eq_true h, rfl⟩
mutual
theorem slB_spec (k : Nat) : ∀ (v : TV), slB k v = true → v.All (fun n => ∃ i, i < k ∧ n = .S i)
  | .p _, _ => .p
  | .o _, _ => .o
  | .ip n _ _ _ _, h => .ip (slN_spec (by unfold slB at h; exact h))
  | .u, _ => .u
  | .nil, _ => .nil
  | .ag l, h => .ag (slBs_spec k l (by unfold slB at h; exact h))
  | .tp l, h => .tp (slBs_spec k l (by unfold slB at h; exact h))
  | .ptr n _, h => .ptr (slN_spec (by unfold slB at h; exact h))
  | .pe _, _ => .pe
  | .vw n _, h => .vw (slN_spec (by unfold slB at h; exact h))
  | .sl n _, h => .sl (slN_spec (by unfold slB at h; exact h))
  | .mp n, h => .mp (slN_spec (by unfold slB at h; exact h))
  | .fn _ l, h => .fn (slBs_spec k l (by unfold slB at h; exact h))
theorem slBs_spec (k : Nat) : ∀ (l : List TV), slBs k l = true → ∀ x ∈ l, x.All (fun n => ∃ i, i < k ∧ n = .S i)
  | [], _ => fun x hx => by cases hx
  | y :: l, h => by
    unfold slBs at h
    rw [Bool.and_eq_true] at h
    have h1 := slB_spec k y h.1
    have h2 := slBs_spec k l h.2
    intro x hx
    rcases List.mem_cons.1 hx with e | hx
    · subst e; exact h1
    · exact h2 x hx
end
theorem evL_len {l : List (Nat × TV)} : ∀ {xs : List Operand} {vs : List TV}, evL l xs = some vs → vs.length = xs.length
  | [], vs, h => by cases h; rfl
  | x :: r, vs, h => by
    unfold evL at h
    split at h
    · split at h
      · rename_i hr
        cases h
        simp [evL_len hr]
      · cases h
    · cases h
theorem evL_get {l : List (Nat × TV)} : ∀ {xs : List Operand} {vs : List TV} (_ : evL l xs = some vs) {k : Nat} {q : Operand} {v : TV}, xs[k]? = some q → vs[k]? = some v → evM l q = some v
  | [], vs, h, k, q, v, hq, _ => by simp at hq
  | x :: r, vs, h, k, q, v, hq, hv => by
    unfold evL at h
    split at h
    · rename_i hx
      split at h
      · rename_i hr
        cases h
        cases k with
        | zero => cases hq; cases hv; exact hx
        | succ k => exact evL_get hr hq hv
      · cases h
    · cases h
def rhoN (ns : List Nat) : Nm → Nm
  | .S i => .L (ns.getD i 0)
  | .L t => .L t
def zipO : List Nat → List AObj → List (Nat × AObj)
  | n :: ns, o :: H => (n, o) :: zipO ns H
  | _, _ => []
theorem getD_at {l : List Nat} {i : Nat} (h : i < l.length) : l.getD i 0 = l[i] := by simp [List.getD, h]
theorem lkN_zip : ∀ {ns : List Nat} {H : List AObj} {o : List (Nat × AObj)} {i : Nat}, ns.Nodup → H.length = ns.length → i < ns.length → lkN (zipO ns H ++ o) (ns.getD i 0) = H[i]?
  | [], _, _, _, _, _, h => by simp at h
  | n :: ns, [], _, _, _, h, _ => by simp at h
  | n :: ns, x :: H, o, 0, _, _, _ => by
    show (match Nat.beq n n with | true => some x | false => _) = some x
    rw [Nat.beq_refl]
  | n :: ns, x :: H, o, i + 1, hnd, hl, hi => by
    have hi : i < ns.length := by simpa using hi
    have hne : ns.getD i 0 ≠ n := fun e => (List.nodup_cons.1 hnd).1 (by rw [← e, getD_at hi]; exact List.getElem_mem hi)
    show (match Nat.beq (ns.getD i 0) n with | true => some x | false => lkN (zipO ns H ++ o) (ns.getD i 0)) = H[i]?
    cases e : Nat.beq (ns.getD i 0) n with
    | true => exact absurd (Nat.eq_of_beq_eq_true e) hne
    | false => exact lkN_zip (List.nodup_cons.1 hnd).2 (by simpa using hl) hi
theorem lkN_zip_out : ∀ {ns : List Nat} {H : List AObj} {o : List (Nat × AObj)} {t : Nat}, (∀ n ∈ ns, t ≠ n) → lkN (zipO ns H ++ o) t = lkN o t
  | [], _, _, _, _ => rfl
  | n :: ns, [], _, _, _ => rfl
  | n :: ns, x :: H, o, t, h => by
    show (match Nat.beq t n with | true => some x | false => lkN (zipO ns H ++ o) t) = _
    cases e : Nat.beq t n with
    | true => exact absurd (Nat.eq_of_beq_eq_true e) (h n (by simp))
    | false => exact lkN_zip_out (fun m hm => h m (by simp [hm]))
def freTs (ms : List Nat) (l : List (Nat × TV)) : Bool := ms.all fun m => freT m l
def freOs (ms : List Nat) (o : List (Nat × AObj)) : Bool := ms.all fun m => freO m o
def relC (ob : Nm → Option AObj) (f : Nm → Nm) (x y : TV) : Prop := (∃ v, y = .p v ∧ relT ob x v) ∨ x = rnT f y
def relCs (ob : Nm → Option AObj) (f : Nm → Nm) : List TV → List TV → Prop
  | [], [] => True
  | x :: xs, y :: ys => relC ob f x y ∧ relCs ob f xs ys
  | _, _ => False
def relA (ob : Nm → Option AObj) (f : Nm → Nm) (x y : TV) : Prop := relC ob f x y ∨ ∃ l l', x = .ag l ∧ y = .ag l' ∧ relCs ob f l l'
def relAs (ob : Nm → Option AObj) (f : Nm → Nm) : List TV → List TV → Prop
  | [], [] => True
  | x :: xs, y :: ys => relA ob f x y ∧ relAs ob f xs ys
  | _, _ => False
theorem relCs_get {ob : Nm → Option AObj} {f : Nm → Nm} : ∀ {xs ys : List TV}, relCs ob f xs ys → xs.length = ys.length ∧ ∀ (k : Nat) x y, xs[k]? = some x → ys[k]? = some y → relC ob f x y
  | [], [], _ => ⟨rfl, fun k x y h => by simp at h⟩
  | x :: xs, y :: ys, h => by
    obtain ⟨h1, h2⟩ := relCs_get h.2
    refine ⟨by simp [h1], fun k x' y' hx hy => ?_⟩
    cases k with
    | zero => cases hx; cases hy; exact h.1
    | succ k => exact h2 k x' y' hx hy
  | [], _ :: _, h => h.elim
  | _ :: _, [], h => h.elim
theorem relAs_get {ob : Nm → Option AObj} {f : Nm → Nm} : ∀ {xs ys : List TV}, relAs ob f xs ys → xs.length = ys.length ∧ ∀ (k : Nat) x y, xs[k]? = some x → ys[k]? = some y → relA ob f x y
  | [], [], _ => ⟨rfl, fun k x y h => by simp at h⟩
  | x :: xs, y :: ys, h => by
    obtain ⟨h1, h2⟩ := relAs_get h.2
    refine ⟨by simp [h1], fun k x' y' hx hy => ?_⟩
    cases k with
    | zero => cases hx; cases hy; exact h.1
    | succ k => exact h2 k x' y' hx hy
  | [], _ :: _, h => h.elim
  | _ :: _, [], h => h.elim
theorem relC.sound {ob : Nm → Option AObj} {f : Nm → Nm} {Γ Γ' : Env} (hob : Obs Γ ob) (hw : Γ'.w = Γ.w) (hS : Γ'.S = Γ.S) {q : Nm → Prop} (hf : ∀ n, q n → (Γ'.g n).v = (Γ.g (f n)).v ∧ (Γ'.ln n = none ∨ Γ'.ln n = Γ.ln (f n)) ∧ n.lt Γ'.nH) {x y : TV} {V : Value} (h : relC ob f x y) (hy : y.All q) (hx : TRep Γ x V) : TRep Γ' y V := by
  rcases h with ⟨v, rfl, h⟩ | rfl
  · have h2 := (relT_pv _ _ _ h).sound hob hx
    exact .p (by rw [hw, hS]; exact h2)
  · exact TRep.unren (Γ := Γ) (Γ' := Γ') (fun b i hb => ⟨by rw [hS]; exact hb, by rw [hw]⟩) hf hy hx
theorem relA.sound {ob : Nm → Option AObj} {f : Nm → Nm} {Γ Γ' : Env} (hob : Obs Γ ob) (hw : Γ'.w = Γ.w) (hS : Γ'.S = Γ.S) {q : Nm → Prop} (hf : ∀ n, q n → (Γ'.g n).v = (Γ.g (f n)).v ∧ (Γ'.ln n = none ∨ Γ'.ln n = Γ.ln (f n)) ∧ n.lt Γ'.nH) {x y : TV} {V : Value} (h : relA ob f x y) (hy : y.All q) (hx : TRep Γ x V) : TRep Γ' y V := by
  rcases h with h | ⟨l, l', rfl, rfl, h⟩
  · exact h.sound hob hw hS hf hy hx
  · obtain ⟨h1, h2⟩ := relCs_get h
    cases hy with
    | ag hy =>
    cases hx with
    | ag hs hx h3 =>
      refine .ag (hs.trans h1) (fun k y u hyk hu => ?_) h3
      have hk : k < l.length := by rw [h1]; exact (List.getElem?_eq_some_iff.1 hyk).1
      exact (h2 k _ y (List.getElem?_eq_getElem hk) hyk).sound hob hw hS hf (hy y (List.mem_of_getElem? hyk)) (hx k _ u (List.getElem?_eq_getElem hk) hu)
theorem EOps.cg {G : Nat → Option PV} {md : Nat → Nat} {hbs : Nat → Bool} {ops : Array Oper} {K : St → Prop} {r : List Oper} {i : Nat} {l : List (Nat × TV)} {n : Nat} {o : List (Nat × AObj)} {H : List AObj} {d : Nat} {x : Operand} {args : Array Operand} {ats : Array TypeId} {ty : TypeId} {pos : String} {af : Array Edge} {f : FuncId}
    (ns ms : List Nat) (Hc : List AObj) (vs ys : List TV) {R : TV → List AObj → Prop} (hc : FC P G f ys Hc R) (hf : hbs 4294967296 = true) (hx : evM l x = some (.fn f [])) (hv : evL l args.toList = some vs) (hr : relAs (obM o H) (rhoN (ns ++ ms)) vs ys) (hsl : slBs Hc.length ys = true)
    (hn : (ns.map (lkN o)) = Hc.map some) (hclo : ∀ o ∈ Hc, cloO o) (hnd : (ns ++ ms).Nodup) (hfr : (freTs ms l && freOs ms o && Nat.blt d n) = true) (hR : ∀ r H', R r H' → (∀ o ∈ H', cloO o) ∧ H'.length = ns.length + ms.length)
    (k : ∀ v H', R v H' → EOps P hbs ops (i + 1) r ((MS.mk ((d, rnT (rhoN (ns ++ ms)) v) :: l) n (zipO (ns ++ ms) H' ++ o) H).st G md) K) :
    EOps P hbs ops i (⟨some d, .call ⟨.value x, args, ats⟩, ty, pos, af, none⟩ :: r) ((MS.mk l n o H).st G md) K := by
  simp only [Bool.and_eq_true] at hfr
  obtain ⟨⟨hf1, hf2⟩, hdn⟩ := hfr
  have hnl : ns.length = Hc.length := by have := congrArg List.length hn; simpa using this
  refine EOps.sem hf (by unfold WantT; rfl) (fun E a w S g h Q => ?_)
  have hev := h.eval
  unfold Oper.wp
  have hx2 := hev x
  rw [show ((MS.mk l n o H).st G md).ev x = _ from evM_ev hx] at hx2
  generalize hX : a.eval x = X at hx2
  cases hx2 with
  | @fn _ _ A hs hA =>
  obtain rfl : A = [] := List.eq_nil_of_length_eq_zero hs
  have hrun : (execOp a.eval ⟨some d, .call ⟨.value x, args, ats⟩, ty, pos, af, none⟩).run P w = .ok (.enter f (args.toList.map a.eval).toArray) w := by
    simp [execOp, resolve, hX, Deferred.ofValue, invoke, callable_run hc.1, ← Array.toList_map]
  rw [hrun, Oper.upon_enter]
  obtain ⟨hl1, hr2⟩ := relAs_get hr
  have hvl : vs.length = args.toList.length := evL_len hv
  obtain ⟨g0, hg0⟩ : ∃ g0 : Nm → GV, g0 = fun m => g (rhoN (ns ++ ms) m) := ⟨_, rfl⟩
  have hold : ∀ j, j < ns.length → lkN o ((ns ++ ms).getD j 0) = Hc[j]? ∧ (Hc[j]?).isSome := fun j hj => by
    have h1 : (ns.map (lkN o))[j]? = (Hc.map some)[j]? := by rw [hn]
    rw [List.getElem?_map, List.getElem?_map, List.getElem?_eq_getElem hj, List.getElem?_eq_getElem (by omega)] at h1
    have h2 : (ns ++ ms).getD j 0 = ns[j] := by rw [getD_at (by simp; omega), List.getElem_append_left hj]
    rw [h2, List.getElem?_eq_getElem (show j < Hc.length by omega)]
    exact ⟨by simpa using h1, rfl⟩
  have hob : ((MS.mk l n o H).st G md).ob = obM o H := st_ob
  have hrho : ∀ j, g0 (.S j) = g (.L ((ns ++ ms).getD j 0)) := fun j => by rw [hg0]; rfl
  have hgetne : ∀ i j, i < (ns ++ ms).length → j < (ns ++ ms).length → (Nm.L ((ns ++ ms).getD i 0)) = .L ((ns ++ ms).getD j 0) → i = j := fun i j hi hj e => by
    have e : (ns ++ ms).getD i 0 = (ns ++ ms).getD j 0 := by injection e
    rw [getD_at hi, getD_at hj] at e
    exact (List.getElem_inj hnd).1 e
  have hhr : HRep G Hc w S g0 := by
    refine ⟨fun j o' hj => ?_, fun j1 j2 hne h1 h2 => ?_, h.st, fun j o' hj => ?_, h.gl⟩
    · have hjl : j < ns.length := by rw [hnl]; exact (List.getElem?_eq_some_iff.1 hj).1
      have h3 : ((MS.mk l n o H).st G md).ob (.L ((ns ++ ms).getD j 0)) = some o' := by rw [hob]; exact (hold j hjl).1.trans hj
      exact ORep.clo2 (h.ob _ o' h3) (Γ' := henv Hc w S g0) (hclo o' (List.mem_of_getElem? hj)) (hrho j) rfl rfl
    · rw [hrho, hrho]
      have q1 : ∀ j, j < Hc.length → (((MS.mk l n o H).st G md).ob (.L ((ns ++ ms).getD j 0))).isSome := fun j hj => by
        rw [hob]
        show (lkN o _).isSome = true
        rw [(hold j (by omega)).1]; exact (hold j (by omega)).2
      exact h.dj _ _ (fun e => hne (hgetne j1 j2 (by simp; omega) (by simp; omega) e)) (q1 j1 h1) (q1 j2 h2)
    · have := hclo o' (List.mem_of_getElem? hj)
      cases o' with
      | box t l => exact fun x hx => (this x hx).mono (fun _ q => q.elim)
      | rw => trivial
      | mp => trivial
      | ow z t ks xs => obtain rfl : ks = [] := this; exact fun k hk => by cases hk
      | gone => trivial
  have hlnE : ∀ j, j < Hc.length → (henv Hc w S g0).ln (.S j) = (((MS.mk l n o H).st G md).env w S g).ln (rhoN (ns ++ ms) (.S j)) := fun j hj => by
    show (Hc[j]?).bind AObj.ln = (((MS.mk l n o H).st G md).ob (.L ((ns ++ ms).getD j 0))).bind AObj.ln
    rw [hob]
    show _ = (lkN o _).bind AObj.ln
    rw [(hold j (by omega)).1]
  refine (hc.2 w S g0 (args.toList.map a.eval) hhr (by rw [List.length_map, ← hvl, hl1]) (fun k y V hy hV => ?_)).mono ?_
  · rw [List.getElem?_map] at hV
    obtain ⟨q, hq, rfl⟩ := Option.map_eq_some_iff.1 hV
    have hk : k < vs.length := by rw [hl1]; exact (List.getElem?_eq_some_iff.1 hy).1
    have h4 := hr2 k _ y (List.getElem?_eq_getElem hk) hy
    have h5 := evL_get hv hq (List.getElem?_eq_getElem hk)
    have h6 : TRep (((MS.mk l n o H).st G md).env w S g) vs[k] (a.eval q) := by
      have := hev q
      rwa [show ((MS.mk l n o H).st G md).ev q = _ from evM_ev h5] at this
    refine h4.sound (Γ := ((MS.mk l n o H).st G md).env w S g) (Γ' := henv Hc w S g0) (by rw [← hob]; exact h.obs) rfl rfl (q := fun n => ∃ i, i < Hc.length ∧ n = .S i) ?_ (slBs_spec _ _ hsl y (List.mem_of_getElem? hy)) h6
    rintro m ⟨j, hj, rfl⟩
    exact ⟨by show (g0 (.S j)).v = _; rw [hg0]; rfl, .inr (hlnE j hj), hj⟩
  · rintro e w' ⟨r', H', v, S', g', rfl, h1, h2, h3, h4, h5, h6⟩
    obtain ⟨hcl, hlen⟩ := hR r' H' h1
    have hlen2 : H'.length = (ns ++ ms).length := by rw [List.length_append]; exact hlen
    have hms : ∀ j, ns.length ≤ j → j < H'.length → (ns ++ ms).getD j 0 ∈ ms := fun j h1 h2 => by
      rw [getD_at (by omega), List.getElem_append_right h1]
      exact List.getElem_mem _
    have hrep : Rep E ((MS.mk l n (zipO (ns ++ ms) H' ++ o) H).st G md) a w' S' (gAft g g' (fun j => .L ((ns ++ ms).getD j 0)) H'.length) := by
      refine h.callG (σ' := (MS.mk l n (zipO (ns ++ ms) H' ++ o) H).st G md) (k := ns.length) (ρ := fun j => .L ((ns ++ ms).getD j 0)) (H := Hc) (H' := H') (g0 := g0) (by omega) (fun i j hi hj e => hgetne i j (by omega) (by omega) e) (fun i hi => ⟨_, rfl⟩) (fun i hi => ?_) (fun i hi hi2 => ?_) (fun i hi => ?_) (fun m hm => ?_) rfl rfl rfl rfl (fun i o' hi => hcl o' (List.mem_of_getElem? hi)) (fun i hi => hrho i) h4 (by rw [hnl]; exact h5) (fun i hi => h6 i (by omega))
      · rw [hob]; exact hold i hi
      · have hm := hms i hi hi2
        unfold freTs at hf1
        unfold freOs at hf2
        exact fresh_of (List.all_eq_true.1 hf1 _ hm) (List.all_eq_true.1 hf2 _ hm)
      · rw [st_ob]; exact lkN_zip hnd hlen2 (by omega)
      · rw [st_ob, hob]
        cases m with
        | S j => rfl
        | L t =>
          refine lkN_zip_out (fun n hn e => ?_)
          obtain ⟨j, hj, rfl⟩ := List.mem_iff_getElem.1 hn
          exact hm j (by omega) (by rw [e, getD_at hj])
    have hput := hrep.put (v := rnT (rhoN (ns ++ ms)) r') (V := v) ?_ (some d)
    · rw [st_put hdn] at hput
      exact ⟨_, _, _, k r' H' h1, hput⟩
    · refine TRep.ren (Γ := henv H' w' S' g') (Γ' := ((MS.mk l n (zipO (ns ++ ms) H' ++ o) H).st G md).env w' S' (gAft g g' (fun j => .L ((ns ++ ms).getD j 0)) H'.length)) (q := Nm.isS) (fun b i hb => ⟨hb, rfl⟩) (fun m hm hq => ?_) h3 h2
      cases m with
      | L t => exact hq.elim
      | S j =>
        have hj : j < H'.length := hm
        refine ⟨?_, .inr ?_, trivial⟩
        · show (gAft g g' (fun j => .L ((ns ++ ms).getD j 0)) H'.length (.L ((ns ++ ms).getD j 0))).v = _
          rw [gAft_in (ρ := fun j => .L ((ns ++ ms).getD j 0)) (fun i j hi hj e => hgetne i j (by omega) (by omega) e) hj]
          rfl
        · show (((MS.mk l n (zipO (ns ++ ms) H' ++ o) H).st G md).ob (.L ((ns ++ ms).getD j 0))).bind AObj.ln = (H'[j]?).bind AObj.ln
          rw [st_ob]
          show (lkN _ _).bind AObj.ln = _
          rw [lkN_zip hnd hlen2 (by omega)]
def pubN (m j : Nat) : Nm → Nm
  | .L t => match Nat.beq t m with
    | true => .S j
    | false => .L t
  | .S i => .S i
theorem pubN_m (m j : Nat) : pubN m j (.L m) = .S j := by
  show (match Nat.beq m m with | true => Nm.S j | false => Nm.L m) = _
  rw [Nat.beq_refl]
theorem pubN_o (m j : Nat) {p : Nm} (h : p ≠ .L m) : pubN m j p = p := by
  cases p with
  | S i => rfl
  | L t =>
    show (match Nat.beq t m with | true => Nm.S j | false => Nm.L t) = _
    cases e3 : Nat.beq t m with
    | true => exact absurd (by rw [Nat.eq_of_beq_eq_true e3]) h
    | false => rfl
def pubO (f : Nm → Nm) : List (Nat × AObj) → List (Nat × AObj)
  | [] => []
  | (t, .box ty l) :: r => (t, .box ty (rnTs f l)) :: pubO f r
  | (t, x) :: r => (t, x) :: pubO f r
def pubT (f : Nm → Nm) : List (Nat × TV) → List (Nat × TV)
  | [] => []
  | (t, v) :: r => (t, rnT f v) :: pubT f r
def pubK (m : Nat) : List (Nat × AObj) → Bool
  | [] => true
  | (_, .ow _ _ ks _) :: r => nmBs m ks && pubK m r
  | (_, _) :: r => pubK m r
theorem lkN_pubT (f : Nm → Nm) : ∀ (l : List (Nat × TV)) (t : Nat), lkT (pubT f l) t = rnT f (lkT l t)
  | [], t => by show TV.u = rnT f .u; unfold rnT; rfl
  | (d, v) :: l, t => by
    have ih := lkN_pubT f l t
    unfold lkT at ih ⊢
    show (match (match Nat.beq t d with | true => some (rnT f v) | false => lkN (pubT f l) t) with | some v => v | none => TV.u) = rnT f (match (match Nat.beq t d with | true => some v | false => lkN l t) with | some v => v | none => TV.u)
    cases Nat.beq t d with
    | true => rfl
    | false => exact ih
def pubX (f : Nm → Nm) : AObj → AObj
  | .box ty l => .box ty (rnTs f l)
  | x => x
theorem lkN_pubO (f : Nm → Nm) : ∀ (o : List (Nat × AObj)) (t : Nat), lkN (pubO f o) t = (lkN o t).map (pubX f)
  | [], t => rfl
  | (d, x) :: o, t => by
    have ih := lkN_pubO f o t
    have e : pubO f ((d, x) :: o) = (d, pubX f x) :: pubO f o := by cases x <;> rfl
    rw [e]
    show (match Nat.beq t d with | true => some (pubX f x) | false => lkN (pubO f o) t) = Option.map (pubX f) (match Nat.beq t d with | true => some x | false => lkN o t)
    cases Nat.beq t d with
    | true => rfl
    | false => exact ih
theorem nmBs_ne {m : Nat} : ∀ {ks : List Nm}, nmBs m ks = true → ∀ k ∈ ks, k ≠ .L m := fun {ks} h k hk e => nmBs_spec m ks h k hk e
theorem pubK_ne {m : Nat} : ∀ {o : List (Nat × AObj)} {t : Nat} {z ty : Nat} {ks : List Nm} {xs : List (List TV)}, pubK m o = true → lkN o t = some (.ow z ty ks xs) → ∀ k ∈ ks, k ≠ .L m
  | [], _, _, _, _, _, _, h => by cases h
  | (d, x) :: o, t, z, ty, ks, xs, hk, h => by
    have h : (match Nat.beq t d with | true => some x | false => lkN o t) = some (.ow z ty ks xs) := h
    cases e : Nat.beq t d with
    | true =>
      rw [e] at h
      cases h
      unfold pubK at hk
      rw [Bool.and_eq_true] at hk
      exact nmBs_ne hk.1
    | false =>
      rw [e] at h
      refine pubK_ne (o := o) ?_ h
      cases x <;> unfold pubK at hk <;> first | exact hk | (rw [Bool.and_eq_true] at hk; exact hk.2)
theorem pubX_ln (f : Nm → Nm) (x : AObj) : (pubX f x).ln = x.ln := by cases x <;> rfl
theorem ghPub {G : Nat → Option PV} {md : Nat → Nat} (m : Nat) {l : List (Nat × TV)} {n : Nat} {o : List (Nat × AObj)} {H : List AObj} {x : AObj} (hm : lkN o m = some x) (hc : cloO x) (hk : pubK m o = true) (h : Rep E ((MS.mk l n o H).st G md) a w S g) :
    ∃ S' g', Rep E ((MS.mk (pubT (pubN m H.length) l) n ((m, .gone) :: pubO (pubN m H.length) o) (H ++ [x])).st G md) a w S' g' := by
  obtain ⟨σ, hσ⟩ : ∃ σ, σ = (MS.mk l n o H).st G md := ⟨_, rfl⟩
  obtain ⟨σ', hσ'⟩ : ∃ σ', σ' = (MS.mk (pubT (pubN m H.length) l) n ((m, .gone) :: pubO (pubN m H.length) o) (H ++ [x])).st G md := ⟨_, rfl⟩
  obtain ⟨g', hg'⟩ : ∃ g' : Nm → GV, g' = updG (updG g (.S H.length) (g (.L m))) (.L m) ⟨(g (.L m)).v, fun _ => False⟩ := ⟨_, rfl⟩
  have gm : g' (.L m) = ⟨(g (.L m)).v, fun _ => False⟩ := by rw [hg']; exact updG_same _ _ _
  have gj : g' (.S H.length) = g (.L m) := by rw [hg']; unfold updG; rw [if_neg (by simp), if_pos rfl]
  have go : ∀ p, p ≠ .L m → p ≠ .S H.length → g' p = g p := fun p h1 h2 => by rw [hg']; unfold updG; rw [if_neg h1, if_neg h2]
  have ob : ∀ p, σ.ob p = obM o H p := fun p => by rw [hσ]; exact obM_ob p
  have obm : σ'.ob (.L m) = some .gone := by
    rw [hσ', obM_ob]
    show (match Nat.beq m m with | true => some AObj.gone | false => _) = _
    rw [Nat.beq_refl]
  have obL : ∀ t, t ≠ m → σ'.ob (.L t) = (lkN o t).map (pubX (pubN m H.length)) := fun t ht => by
    rw [hσ', obM_ob, ← lkN_pubO]
    show (match Nat.beq t m with | true => some AObj.gone | false => lkN (pubO (pubN m H.length) o) t) = _
    cases e : Nat.beq t m with
    | true => exact absurd (Nat.eq_of_beq_eq_true e) ht
    | false => rfl
  have obj : σ'.ob (.S H.length) = some x := by
    rw [hσ', obM_ob]
    show (H ++ [x])[H.length]? = some x
    simp
  have obS : ∀ i, i < H.length → σ'.ob (.S i) = H[i]? := fun i hi => by
    rw [hσ', obM_ob]
    show (H ++ [x])[i]? = _
    rw [List.getElem?_append_left hi]
  have hH : σ.H = H := by rw [hσ]; rfl
  have hH' : σ'.H = H ++ [x] := by rw [hσ']; rfl
  rw [← hσ']
  rw [← hσ] at h
  have hxm : σ.ob (.L m) = some x := (ob _).trans hm
  have hN : ∀ p, p ≠ .L m → p.lt H.length → NmOk (σ.env w S g) (σ'.env w S g') p := by
    intro p h1 h2
    cases p with
    | L t =>
      refine .inl ⟨by show (g' (.L t)).v = _; rw [go _ h1 (by simp)]; rfl, .inr ?_⟩
      show (σ'.ob (.L t)).bind AObj.ln = (σ.ob (.L t)).bind AObj.ln
      rw [obL t (fun e => h1 (by rw [e])), ob]
      show ((lkN o t).map _).bind _ = (lkN o t).bind _
      cases lkN o t with
      | none => rfl
      | some y => exact pubX_ln _ y
    | S i =>
      have hi : i < H.length := h2
      refine .inl ⟨by show (g' (.S i)).v = _; rw [go _ h1 (fun e => by cases e; omega)]; rfl, .inr ?_⟩
      show (σ'.ob (.S i)).bind AObj.ln = (σ.ob (.S i)).bind AObj.ln
      rw [obS i hi, ob]; rfl
  have hR : ∀ p, p.lt (σ.env w S g).nH → True → ((σ'.env w S g').g (pubN m H.length p)).v = ((σ.env w S g).g p).v ∧ ((σ'.env w S g').ln (pubN m H.length p) = none ∨ (σ'.env w S g').ln (pubN m H.length p) = (σ.env w S g).ln p) ∧ (pubN m H.length p).lt (σ'.env w S g').nH := by
    intro p hp _
    have hp : p.lt H.length := by rw [← hH]; exact hp
    have hn2 : (σ'.env w S g').nH = H.length + 1 := by show σ'.H.length = _; rw [hH']; simp
    by_cases e : p = .L m
    · subst e
      have e2 := pubN_m m H.length
      rw [e2]
      refine ⟨by show (g' (.S H.length)).v = _; rw [gj]; rfl, .inr ?_, by rw [hn2]; exact Nat.lt_succ_self _⟩
      show (σ'.ob (.S H.length)).bind AObj.ln = (σ.ob (.L m)).bind AObj.ln
      rw [obj, hxm]
    · have e2 := pubN_o m H.length e
      rw [e2]
      rcases hN p e hp with ⟨q1, q2⟩ | ⟨q1, q2⟩
      · exact ⟨q1, q2, Nm.lt_mono hp (by rw [hn2]; omega)⟩
      · refine ⟨?_, ?_, Nm.lt_mono hp (by rw [hn2]; omega)⟩
        · show (g' p).v = (g p).v
          rw [go p e (fun e3 => by subst e3; exact Nat.lt_irrefl _ hp)]
        · rcases q2 with q2 | ⟨k, k', q2, q3, q4⟩
          · exact .inl q2
          · exfalso
            have : (σ'.env w S g').ln p = (σ.env w S g).ln p := by
              show (σ'.ob p).bind AObj.ln = (σ.ob p).bind AObj.ln
              cases p with
              | L t =>
                rw [obL t (fun e3 => e (by rw [e3])), ob]
                show ((lkN o t).map _).bind _ = (lkN o t).bind _
                cases lkN o t with
                | none => rfl
                | some y => exact pubX_ln _ y
              | S i => rw [obS i hp, ob]; rfl
            rw [this, q2] at q3
            cases q3
            omega
  have hmv : ∀ {v : TV} {V : Value}, TRep (σ.env w S g) v V → TRep (σ'.env w S g') (rnT (pubN m H.length) v) V := fun hv => TRep.ren (Γ := σ.env w S g) (Γ' := σ'.env w S g') (q := fun _ => True) (fun b i hb => ⟨hb, rfl⟩) hR hv (hAllT _)
  have hso : ∀ p, p ≠ .L m → p ≠ .S H.length → (σ'.ob p).isSome → (σ.ob p).isSome := fun p h1 h2 hs => by
    cases p with
    | L t =>
      rw [obL t (fun e => h1 (by rw [e]))] at hs
      rw [ob]
      show (lkN o t).isSome = true
      simpa using hs
    | S i =>
      by_cases hi : i < H.length
      · rw [obS i hi] at hs; rw [ob]; exact hs
      · exfalso
        have : i < σ'.H.length := by
          obtain ⟨y, hy⟩ := Option.isSome_iff_exists.1 hs
          exact (List.getElem?_eq_some_iff.1 (show σ'.H[i]? = some y from hy)).1
        rw [hH'] at this
        simp at this
        exact h2 (by rw [show i = H.length by omega])
  have hgB : ∀ p b, (σ'.ob p).isSome → (g' p).B b → ∃ p0, (p0 = p ∧ p ≠ .L m ∧ p ≠ .S H.length ∨ p0 = .L m ∧ p = .S H.length) ∧ (σ.ob p0).isSome ∧ (g p0).B b := by
    intro p b hs hb
    by_cases e1 : p = .L m
    · subst e1; rw [gm] at hb; exact hb.elim
    · by_cases e2 : p = .S H.length
      · subst e2; rw [gj] at hb; exact ⟨.L m, .inr ⟨rfl, rfl⟩, by rw [hxm]; rfl, hb⟩
      · rw [go p e1 e2] at hb; exact ⟨p, .inl ⟨rfl, e1, e2⟩, hso p e1 e2 hs, hb⟩
  refine ⟨S, g', h.re (σ' := σ') (by rw [hσ, hσ']; rfl) (by rw [hσ, hσ']; rfl) (by rw [hH, hH']; simp) (fun t V hv => ?_) (fun b k hk => hk) (fun b k hk => .inl hk) ?_ ?_ ?_ ?_ (fun i hi => hN (.S i) (by simp) (by rw [hH] at hi; exact hi))⟩
  · have e : σ'.tm t = rnT (pubN m H.length) (σ.tm t) := by rw [hσ, hσ']; exact lkN_pubT _ l t
    rw [e]
    exact hmv hv
  · intro p y hy
    by_cases e1 : p = .L m
    · subst e1
      rw [obm] at hy
      cases hy
      intro b hb
      have hb : (g' (.L m)).B b := hb
      rw [gm] at hb
      exact hb
    by_cases e2 : p = .S H.length
    · subst e2
      rw [obj] at hy
      cases hy
      exact ORep.clo2 (h.ob (.L m) x hxm) (Γ' := σ'.env w S g') hc gj rfl rfl
    have hgp := go p e1 e2
    cases p with
    | S i =>
      have hi : i < H.length := by
        have : i < σ'.H.length := (List.getElem?_eq_some_iff.1 (show σ'.H[i]? = some y from hy)).1
        rw [hH'] at this
        simp at this
        have : i ≠ H.length := fun e => e2 (by rw [e])
        omega
      have hy2 : σ.ob (.S i) = some y := by rw [ob]; rw [obS i hi] at hy; exact hy
      refine ORep.move (Γ := σ.env w S g) (Γ' := σ'.env w S g') (q := Nm.isS) (fun b i hb => ⟨hb, rfl⟩) (by show σ.H.length ≤ σ'.H.length; rw [hH, hH']; simp) (fun p h1 h2 => hN p (fun e => by subst e; exact h2) (by rw [← hH]; exact h1)) (h.ob _ y hy2) (h.hs i y hy2) hgp (fun b hb => ⟨rfl, fun k hk => hk⟩)
    | L t =>
      have ht : t ≠ m := fun e => e1 (by rw [e])
      rw [obL t ht] at hy
      obtain ⟨y0, hy0, rfl⟩ := Option.map_eq_some_iff.1 hy
      have hy2 : σ.ob (.L t) = some y0 := by rw [ob]; exact hy0
      have hrep := h.ob _ y0 hy2
      have hmove : y0.All (fun k => k ≠ .L m) → ORep (σ'.env w S g') (.L t) y0 := fun hq => ORep.move (Γ := σ.env w S g) (Γ' := σ'.env w S g') (q := fun k => k ≠ .L m) (fun b i hb => ⟨hb, rfl⟩) (by show σ.H.length ≤ σ'.H.length; rw [hH, hH']; simp) (fun p h1 h2 => hN p h2 (by rw [← hH]; exact h1)) hrep hq hgp (fun b hb => ⟨rfl, fun k hk => hk⟩)
      cases y0 with
      | box ty l =>
        obtain ⟨b, arr, h1, h2, h3, h4, h5, h6, h7⟩ := hrep
        refine ⟨b, arr, ?_, ?_, h3, ?_, fun k y u hy hu => ?_, h6, h7⟩
        · show (g' (.L t)).v = _; rw [hgp]; exact h1
        · show ∀ b', (g' (.L t)).B b' ↔ _; rw [hgp]; exact h2
        · rw [h4, rnTs_len]
        · rw [rnTs_get] at hy
          obtain ⟨y0, hy0, rfl⟩ := Option.map_eq_some_iff.1 hy
          exact hmv (h5 k y0 u hy0 hu)
      | rw z t xs => exact hmove trivial
      | mp es => exact hmove trivial
      | ow z t ks xs => exact hmove (pubK_ne hk hy0)
      | gone => exact hmove trivial
  · intro p q hne h1 h2 b b1 b2
    obtain ⟨p0, c1, s1, d1⟩ := hgB p b h1 b1
    obtain ⟨q0, c2, s2, d2⟩ := hgB q b h2 b2
    refine h.dj p0 q0 (fun e => ?_) s1 s2 b d1 d2
    rcases c1 with ⟨rfl, c3, c4⟩ | ⟨rfl, c3⟩
    · rcases c2 with ⟨rfl, c5, c6⟩ | ⟨rfl, c5⟩
      · exact hne e
      · exact c3 e
    · rcases c2 with ⟨rfl, c5, c6⟩ | ⟨rfl, c5⟩
      · exact c5 e.symm
      · exact hne (c3.trans c5.symm)
  · intro p hs b hb
    obtain ⟨p0, _, s1, d1⟩ := hgB p b hs hb
    exact ⟨p0, s1, d1⟩
  · intro i y hy
    rw [hH'] at hy
    by_cases hi : i < H.length
    · rw [List.getElem?_append_left hi] at hy
      exact h.hs i y (by rw [hH]; exact hy)
    · rw [List.getElem?_append_right (by omega)] at hy
      have : y = x := by
        cases e : i - H.length with
        | zero => rw [e] at hy; simpa using hy.symm
        | succ k => rw [e] at hy; simp at hy
      subst this
      cases y with
      | box t l => exact fun z hz => (hc z hz).mono (fun _ q => q.elim)
      | rw => trivial
      | mp => trivial
      | ow z t ks xs => obtain rfl : ks = [] := hc; exact fun k hk => by cases hk
      | gone => trivial
theorem AW.pub {G : Nat → Option PV} {md : Nat → Nat} (m : Nat) {l : List (Nat × TV)} {n : Nat} {o : List (Nat × AObj)} {H : List AObj} {x : AObj} {c : Code} {Q : Exit → St → Prop} (hm : lkN o m = some x) (hc : cloO x) (hk : pubK m o = true)
    (k : AW P c Q ((MS.mk (pubT (pubN m H.length) l) n ((m, .gone) :: pubO (pubN m H.length) o) (H ++ [x])).st G md)) : AW P c Q ((MS.mk l n o H).st G md) := AW.gh (fun E a w S g h => ghPub m hm hc hk h) k
theorem EOps.pub {G : Nat → Option PV} {md : Nat → Nat} (m : Nat) {l : List (Nat × TV)} {n : Nat} {o : List (Nat × AObj)} {H : List AObj} {x : AObj} {hbs : Nat → Bool} {ops : Array Oper} {K : St → Prop} {r : List Oper} {i : Nat} (hf : hbs 4294967296 = true) (hm : lkN o m = some x) (hc : cloO x) (hk : pubK m o = true)
    (k : EOps P hbs ops i r ((MS.mk (pubT (pubN m H.length) l) n ((m, .gone) :: pubO (pubN m H.length) o) (H ++ [x])).st G md) K) : EOps P hbs ops i r ((MS.mk l n o H).st G md) K := EOps.gh hf (fun E a w S g h => ghPub m hm hc hk h) k
theorem ghAbsL {G : Nat → Option PV} {md : Nat → Nat} (n m i j : Nat) (vs' : List PV) {l : List (Nat × TV)} {nt : Nat} {o : List (Nat × AObj)} {H : List AObj} {z z' : Nat} {t t' : TypeId} {ks ks2 : List Nm} {xs : List (List TV)} {c : List TV} {vs : List PV} (hnm : Nat.beq n m = false)
    (hn : lkN o n = some (.ow z t ks xs)) (hm : lkN o m = some (.ow z' t' ks2 (ocs vs))) (hc : xs[i]? = some c) (hj : c[j]? = some (.vw (.L m) vs.length)) (hv : xs.set i (c.set j (.o (.own z' t' vs))) = ocs vs')
    (h : Rep E ((MS.mk l nt o H).st G md) a w S g) :
    ∃ S' g', Rep E ((MS.mk l nt ((m, .gone) :: (n, .ow z t [] (ocs vs')) :: o) H).st G md) a w S' g' := by
  have hn' : ((MS.mk l nt o H).st G md).ob (.L n) = some (.ow z t ks xs) := by rw [st_ob]; exact hn
  have hm' : ((MS.mk l nt o H).st G md).ob (.L m) = some (.ow z' t' ks2 (ocs vs)) := by rw [st_ob]; exact hm
  obtain ⟨p1, p2, fl, F, o1, o2, _⟩ := h.ob (.L n) _ hn'
  have hcz : c.length = z := o2 c (List.mem_of_getElem? hc)
  have hjl : j < c.length := (List.getElem?_eq_some_iff.1 hj).1
  have key := h.absorb (n := .L n) (m := .L m) (ks' := []) (xs' := ocs vs') (q := i * z + j) (fun e => by cases e; rw [Nat.beq_refl] at hnm; cases hnm) hn' hm' (by rw [flatten_get o2 hc j (by omega)]; exact hj)
    (by rw [← hv]; exact flatten_set o2 hc (by omega)) (fun y hy => ?_) (by rw [← hv, List.length_set]) (fun y hy x hx => ?_) (fun k hk => by cases hk)
  · obtain ⟨S', g', hr⟩ := key
    rw [st_set, st_set] at hr
    exact ⟨S', g', hr⟩
  · rw [← hv] at hy
    rcases List.mem_or_eq_of_mem_set hy with h | h
    · exact o2 y h
    · rw [h, List.length_set]; exact hcz
  · obtain ⟨v, _, rfl⟩ := List.mem_map.1 hy
    obtain ⟨u, _, rfl⟩ := List.mem_map.1 hx
    exact oc_all u
theorem AW.anyD {G : Nat → Option PV} {md : Nat → Nat} {X : Type} (s : X → (Nat → Bool) → MS) (I : X → (Nat → Bool) → Prop) (x0 : X) {id : Nat} {ops : Array Oper} {Q : Exit → St → Prop} {σ : St} (h0 : I x0 (fun _ => false)) (hw : Wk σ ((s x0 (fun _ => false)).st G md))
    (hstep : ∀ (l : Nat → Bool) (i : Nat) (o : Oper) (x : X), ops[i]? = some o → l i = false → (∀ (p : Nat) e, o.after.toList[p]? = some e → Region.binds .any e = true → l e.on = true) → (∀ (k : Nat) o', ops[k]? = some o' → ∀ (p : Nat) e, o'.after.toList[p]? = some e → Region.binds .any e = true → l e.on = false → l k = false) → I x l → Step1 P o ((s x l).st G md) (fun τ => ∃ x', I x' (upB l i) ∧ Wk τ ((s x' (upB l i)).st G md)))
    (hQ : ∀ τ τ' : St, Wk τ τ' → Q .normal τ' → Q .normal τ) (hend : ∀ l x, (∀ i, i < ops.size → l i = true) → I x l → Q .normal ((s x l).st G md))
    (hm : P.follows .mixedOrders = true) (hg : (ops.toList.all fun o => o.guard.isNone && o.after.toList.all fun e => true) = true)
    (hb : ((List.range ops.size).all fun i => match ops[i]? with | some o => o.after.toList.all (fun e => !Region.binds .any e || Nat.blt e.on i) | none => false) = true) : AW P (.region id ops true) Q σ := by
  refine AW.anyW s (fun x l => I x l ∧ ∀ (k : Nat) o', ops[k]? = some o' → l k = true → ∀ e ∈ o'.after.toList, Region.binds .any e = true → l e.on = true) x0 ⟨h0, fun _ _ _ h => by cases h⟩ hw ?_ hQ (fun l x h1 h2 => hend l x h1 h2.1) hm hg hb
  intro l i o x ho hl hd ⟨hI, hc⟩ E a w S g hr Q'
  refine Oper.wp_mono (fun a' w' ⟨τ, S', g', ⟨x', q1, q2⟩, q3⟩ => ⟨τ, S', g', ⟨x', ⟨q1, ?c1⟩, q2⟩, q3⟩) (hstep l i o x ho hl (fun p e hp hb => hd e (List.mem_of_getElem? hp) hb) (fun k o' hk p e hp hb he => ?c2) hI E a w S g hr Q')
  case c1 =>
    intro k o' hk hl' e he hb
    rw [upB_eq] at hl' ⊢
    by_cases e1 : e.on = i
    · rw [if_pos e1]
    · rw [if_neg e1]
      by_cases e2 : k = i
      · subst e2; rw [ho] at hk; cases hk; exact hd e he hb
      · rw [if_neg e2] at hl'; exact hc k o' hk hl' e he hb
  case c2 =>
    cases h : l k with
    | false => rfl
    | true => rw [hc k o' hk h e (List.mem_of_getElem? hp) hb] at he; cases he
theorem EOps.ap0L {G : Nat → Option PV} {md : Nat → Nat} (T : Tab P) (ks : List Nm) {ys : List (List TV)} {hbs : Nat → Bool} {ops : Array Oper} {K : St → Prop} {r : List Oper} {i : Nat} {l : List (Nat × TV)} {n : Nat} {o : List (Nat × AObj)} {H : List AObj} {d : Nat} {s x : Operand} {t : TypeId} {ty : TypeId} {pos : String} {af : Array Edge} {gd : Option (Nat × Bool)} {e z by_ : Nat} {b : Bool} {zs : List Value} {X : TV} (m : Nat)
    (hf : hbs 4294967296 = true) (hg : gtM ops.toList l n gd = true) (hs : evM l s = some .nil) (hx : evM l x = some X) (he : T.sl t = some e) (hl : T.lay e = some (b, z)) (hz : T.zer e = some zs) (hby : T.byt e = some by_) (hq : (Nat.beq zs.length z && Nat.blt 0 z && Nat.blt 0 by_ && Nat.blt d n) = true)
    (hfr : (freT m l && freO m o && nmBs m ks) = true) (hsrc : srcM (obM o H) z X ys) (hk2 : ∀ y ∈ ys.flatten, y.All (· ∈ ks)) (hkl : ∀ k ∈ ks, k.lt H.length) (hby2 : ys.length * by_ ≤ 140737488355328)
    (k : EOps P hbs ops (i + 1) r ((MS.mk ((d, .vw (.L m) ys.length) :: l) n ((m, .ow z e ks ys) :: o) H).st G md) K) :
    EOps P hbs ops i (⟨some d, .call ⟨.builtin .append, #[s, x], #[t, t]⟩, ty, pos, af, gd⟩ :: r) ((MS.mk l n o H).st G md) K := by
  simp only [Bool.and_eq_true] at hq hfr
  obtain ⟨⟨⟨c1, c2⟩, c3⟩, c4⟩ := hq
  obtain ⟨⟨f1, f2⟩, f3⟩ := hfr
  have hb : 0 < by_ := Nat.le_of_ble_eq_true c3
  have hok : AppOk P t e z ys.length := ⟨T.hsl _ _ he, ⟨b, T.hlay _ _ hl⟩, ⟨zs, (T.hzer _ _ hz).1, Nat.eq_of_beq_eq_true c1⟩, Nat.le_of_ble_eq_true c2, ⟨by_, T.hbyt _ _ hby, hby2⟩, Nat.le_trans (Nat.le_mul_of_pos_right _ hb) hby2⟩
  have hobm : ((MS.mk l n o H).st G md).ob = obM o H := by funext m; exact obM_ob m
  have hfz : Fresh ((MS.mk l n o H).st G md) (.L m) := fresh_of f1 f2
  refine EOps.sem hf (want_of hg) (fun E a w S g hr Q => ?_)
  have hev := hr.eval
  have hXr := hev x
  rw [show ((MS.mk l n o H).st G md).ev x = X from evM_ev hx] at hXr
  obtain ⟨ad, c, news, hsr⟩ := hsrc.sound (by rw [← hobm]; exact hr.obs) hXr
  obtain ⟨v', w', r1, r2, r4⟩ := hr.grow0Ow (P := P) (ty := ty) (ks := ks) hfz hok hsr hk2 hkl (fun k hk e => nmBs_ne f3 k hk e) (fun j e => by cases e)
  have hsv : a.eval s = .slice none 0 0 := by
    have h0 := hev s
    rw [show ((MS.mk l n o H).st G md).ev s = .nil from evM_ev hs] at h0
    generalize a.eval s = Y at h0
    cases h0; rfl
  have hrun : (execOp a.eval ⟨some d, .call ⟨.builtin .append, #[s, x], #[t, t]⟩, ty, pos, af, gd⟩).run P w = .ok (.value v') w' := by
    simp [execOp, resolve, invoke, builtin, hsv, r1]
  unfold Oper.wp
  rw [hrun, Oper.upon_value]
  have hput := r4.put (v := .vw (.L m) ys.length) (V := v') (.vw trivial r2 (fun k' hk' => ?_)) (some d)
  · rw [st_addL, st_put c4] at hput
    exact ⟨_, S, _, k, hput⟩
  · have e' : ((((MS.mk l n o H).st G md).add (.L m) (.ow z e ks ys)).ob (.L m)).bind AObj.ln = some k' := hk'
    rw [add_same _ hfz] at e'
    simp only [Option.bind_some, AObj.ln, Option.some.injEq] at e'
    exact ⟨Nat.le_of_eq e', fun _ => (updG_v _ _ _).symm⟩
theorem EOps.absL {G : Nat → Option PV} {md : Nat → Nat} (n m i j : Nat) (vs' : List PV) {l : List (Nat × TV)} {nt : Nat} {o : List (Nat × AObj)} {H : List AObj} {z z' : Nat} {t t' : TypeId} {ks ks2 : List Nm} {xs : List (List TV)} {c : List TV} {vs : List PV} {hbs : Nat → Bool} {ops : Array Oper} {K : St → Prop} {r : List Oper} {ii : Nat} (hf : hbs 4294967296 = true) (hnm : Nat.beq n m = false)
    (hn : lkN o n = some (.ow z t ks xs)) (hm : lkN o m = some (.ow z' t' ks2 (ocs vs))) (hc : xs[i]? = some c) (hj : c[j]? = some (.vw (.L m) vs.length)) (hv : xs.set i (c.set j (.o (.own z' t' vs))) = ocs vs')
    (k : EOps P hbs ops ii r ((MS.mk l nt ((m, .gone) :: (n, .ow z t [] (ocs vs')) :: o) H).st G md) K) : EOps P hbs ops ii r ((MS.mk l nt o H).st G md) K := EOps.gh hf (fun E a w S g h => ghAbsL n m i j vs' hnm hn hm hc hj hv h) k
theorem AW.absL {G : Nat → Option PV} {md : Nat → Nat} (n m i j : Nat) (vs' : List PV) {l : List (Nat × TV)} {nt : Nat} {o : List (Nat × AObj)} {H : List AObj} {z z' : Nat} {t t' : TypeId} {ks ks2 : List Nm} {xs : List (List TV)} {c : List TV} {vs : List PV} {C : Code} {Q : Exit → St → Prop} (hnm : Nat.beq n m = false)
    (hn : lkN o n = some (.ow z t ks xs)) (hm : lkN o m = some (.ow z' t' ks2 (ocs vs))) (hc : xs[i]? = some c) (hj : c[j]? = some (.vw (.L m) vs.length)) (hv : xs.set i (c.set j (.o (.own z' t' vs))) = ocs vs')
    (k : AW P C Q ((MS.mk l nt ((m, .gone) :: (n, .ow z t [] (ocs vs')) :: o) H).st G md)) : AW P C Q ((MS.mk l nt o H).st G md) := AW.gh (fun E a w S g h => ghAbsL n m i j vs' hnm hn hm hc hj hv h) k
end Go.Proofs.YtlcmokgnmlklnaaDoor.En
end
section
namespace Go.Proofs.YtlcmokgnmlklnaaDoor.K
open Go Go.RowKit Go.Proofs.YtlcmokgnmlklnaaDoor.En Go.Proofs.YtlcmokgnmlklnaaDoor.Ty Go.Proofs.YtlcmokgnmlklnaaDoor.B
set_option maxRecDepth 100000
set_option linter.unusedSimpArgs false
set_option linter.unusedVariables false
set_option pp.deepTerms false
set_option pp.deepTerms.threshold 8
set_option pp.maxSteps 1000
set_option maxHeartbeats 1000000
theorem own_app {n : Nat} {l : List Mn} {i : Nat} {x : Mn} {c : List TV} (h : l[i]? = some x) (hc : (ownN n x).cells.map oc = c) : ocs ((l.take i).map (ownN n)) ++ [c] = ocs ((l.take (i + 1)).map (ownN n)) := by
  subst hc
  rw [List.take_add_one, h, List.map_append]
  unfold ocs
  rw [List.map_append]
  rfl
theorem set_last {α : Type} {A : List α} {i : Nat} (h : A.length = i) (c c' : α) : (A ++ [c]).set i c' = A ++ [c'] := by
  subst h
  rw [List.set_append_right _ _ (Nat.le_refl _), Nat.sub_self]
  rfl
theorem get_last {α : Type} {A : List α} {i : Nat} (h : A.length = i) (c : α) : (A ++ [c])[i]? = some c := by
  subst h
  simp
theorem ocs_len {n i : Nat} {l : List Mn} (h : i ≤ l.length) : (ocs ((l.take i).map (ownN n))).length = i := by
  unfold ocs
  simp
  omega
def cpR (n : Nat) (t : Mn) (r : TV) (H' : List AObj) : Prop := r = .ag [.p (pi t.f0), .p (pi t.f1), .p (ps t.f2), .p (.row 1 (t.f3.map pi)), .vw (.S 0) (t.f4.map (ownN n)).length] ∧ H' = [.ow 5 28 [] (ocs (t.f4.map (ownN n)))]
theorem copyM2 (G : Nat → Option PV) : ∀ (n : Nat) (t : Mn), okD n t = true → mpl t ≤ 50000 → (t.f4 = [] → FC Tryd.prog G 48 [.p (pm t), .fn 49 []] [] (fun r H' => r = .p (pm t) ∧ H' = [])) ∧
    (∀ m, n = m + 1 → t.f4 ≠ [] → FC Tryd.prog G 48 [.p (pm t), .fn 49 []] [] (cpR m t)) := by
  intro n
  induction n with
  | zero => intro t h; cases h
  | succ n ih =>
    intro ⟨k, m, s, p, l⟩ ho hpl
    obtain ⟨_, e, hf, hk⟩ := okD_inv ho
    cases e
    have hk : ∀ x ∈ l, okD n x = true := hk
    have hplk : ∀ x ∈ l, mpl x ≤ 50000 := fun x hx => by
      have := mpl_kid (t := ⟨k, m, s, p, l⟩) (x := x) hx
      omega
    have hp : p.length ≤ 50000 := by rw [mpl_mk] at hpl; omega
    have cc := clone2 G p (by omega)
    refine ⟨fun hnil => ?_, fun m' hm hne => ?_⟩
    · have hnil : l = [] := hnil
      subst hnil
      show FC _ _ _ [.p (.ag [pi k, pi m, ps s, .row 1 (p.map pi), .row 5 []]), _] _ _
      refine bdy Tryd.func48 (fun _ => 0) rfl ?_
      refine rn T 99 [] ?_
      refine rn T 99 [] ?_
      by_cases h2 : k = 2
      · subst h2
        obtain ⟨rfl, rfl⟩ : m = 0 ∧ p = [] := by cases hf with | name h => exact ⟨rfl, rfl⟩
        refine cts ?_
        refine rn T 99 [] ?_
        refine pcs (named2 G s) ?_
        refine rn T 99 [] ?_
        exact rt1 T (pm ⟨2, 0, s, [], []⟩) (⟨rfl, rfl⟩)
      · have hs : s = ⟨#[]⟩ := by cases hf with | num h => rfl | name h => exact absurd rfl h2
        subst hs
        refine cfq rfl (by simp [h2]) ?_; try (first | refine dr1 ?_ | refine dr2 ?_ | refine dr3 ?_ | refine dr4 ?_)
        refine rn T 99 [] ?_
        refine pcs (cc) ?_
        refine rn T 99 [] ?_
        refine rn T 99 [] ?_
        refine lpw (fun i : Nat => MS.mk [(26, .p (pi 0)), (25, .p (pi 0)), (2, .ptr (.L 2) 0), (4, .ptr (.L 4) 0), (5, .ptr (.L 5) 0)] 40 [(5, .box 28 [.p (pi k), .p (pi m), .p (ps ⟨#[]⟩), .p (.row 1 (p.map pi)), .nil]), (4, .box 28 [.p (pi 0), .p (pi 0), .p (ps ⟨#[]⟩), .nil, .nil])] []) (fun m i => True) (0) (0) (trivial) ?_
        intro m2 i _
        refine op ?_
        refine rn T 99 [] ?_
        refine cfs ?_
        refine rn T 99 [] ?_
        exact rt1 T (pm ⟨k, m, ⟨#[]⟩, p, []⟩) (⟨rfl, rfl⟩)
    · cases hm
      have hne : l ≠ [] := hne
      have h2 : k ≠ 2 := fun e => by
        subst e
        cases hf with
        | name h => exact hne rfl
        | op h => rcases h with h | h | h | h <;> cases h
      have hs : s = ⟨#[]⟩ := by cases hf <;> first | rfl | exact absurd rfl h2
      have hl2 : l.length ≤ 2 := by cases hf <;> simp
      subst hs
      show FC _ _ _ [.p (.ag [pi k, pi m, ps ⟨#[]⟩, .row 1 (p.map pi), .row 5 (l.map eM)]), _] _ _
      refine bdy Tryd.func48 (fun _ => 0) rfl ?_
      refine rn T 99 [] ?_
      refine rn T 99 [] ?_
      refine cfq rfl (by simp [h2]) ?_; try (first | refine dr1 ?_ | refine dr2 ?_ | refine dr3 ?_ | refine dr4 ?_)
      refine rn T 99 [] ?_
      refine pcs (cc) ?_
      refine rn T 99 [] ?_
      refine rn T 99 [] ?_
      refine lpw (fun i : Nat => (match i with | 0 => MS.mk [(26, .p (pi 0)), (25, .p (pi (l.map eM).length)), (24, .p (.row 5 (l.map eM))), (1, .fn 49 []), (2, .ptr (.L 2) 0), (4, .ptr (.L 4) 0), (5, .ptr (.L 5) 0)] 40 [(5, .box 28 [.p (pi k), .p (pi m), .p (ps ⟨#[]⟩), .p (.row 1 (p.map pi)), .nil]), (4, .box 28 [.p (pi 0), .p (pi 0), .p (ps ⟨#[]⟩), .nil, .nil])] [] | j + 1 => MS.mk [(26, .p (pi (j + 1 : Nat))), (25, .p (pi (l.map eM).length)), (24, .p (.row 5 (l.map eM))), (1, .fn 49 []), (2, .ptr (.L 2) 0), (4, .ptr (.L 4) 0), (5, .ptr (.L 5) 0)] 40 [(5, .box 28 [.p (pi k), .p (pi m), .p (ps ⟨#[]⟩), .p (.row 1 (p.map pi)), .vw (.L 36) (j + 1)]), (4, .box 28 [.p (pi 0), .p (pi 0), .p (ps ⟨#[]⟩), .nil, .nil]), (36, .ow 5 28 [] (ocs ((l.take (j + 1)).map (ownN n))))] [])) (fun m i => m + i = l.length) (l.length) (0) (by simp) ?_
      intro m2 i h1
      cases i with
      | zero =>
        refine op ?_
        refine rn T 99 [] ?_
        have hi : 0 < l.length := by cases l with | nil => exact absurd rfl hne | cons a b => simp
        refine ctq rfl (by simp [hi]) ?_
        obtain ⟨x, hx, _⟩ := drop_ix hi
        have hxm := List.mem_of_getElem? hx
        have hih := ih x (hk x hxm) (hplk x hxm)
        have hkx := hk x hxm
        have happ : ∀ c, (ownN n x).cells.map oc = c → [c] = ocs ((l.take (0 + 1)).map (ownN n)) := fun c hc => own_app (n := n) hx hc
        obtain ⟨k1, m1, s1, p1, l1⟩ := x
        refine rn T 99 [pm ⟨k1, m1, s1, p1, l1⟩] ?_
        cases l1 with
        | nil =>
          have hcall := hih.1 rfl
          have hap := happ (tcells (.p (pm ⟨k1, m1, s1, p1, []⟩))) (by rw [ownN_leaf]; rfl)
          refine AW.anyD (X := Unit) (fun _ b => MS.mk [(30, bif b 0 then .ptr (.L 5) 4 else .u), (31, bif b 1 then .nil else .u), (32, bif b 2 then .ag [.p (pi k1), .p (pi m1), .p (ps s1), .p (.row 1 (p1.map pi)), .p (.row 5 (([] : List Mn).map eM))] else .u), (33, bif b 3 then .fn 49 [] else .u), (34, bif b 4 then .p (pm ⟨k1, m1, s1, p1, []⟩) else .u), (35, bif b 5 then .vw (.L 35) 1 else .u), (36, bif b 6 then .vw (.L 36) (0 + 1) else .u), (37, bif b 7 then .ptr (.L 5) 4 else .u), (26, .p (pi 0)), (25, .p (pi (l.map eM).length)), (24, .p (.row 5 (l.map eM))), (1, .fn 49 []), (2, .ptr (.L 2) 0), (4, .ptr (.L 4) 0), (5, .ptr (.L 5) 0), (7, .ptr (.L 7) 0)] (40) (bif b 8 then (5, .box 28 [.p (pi k), .p (pi m), .p (ps ⟨#[]⟩), .p (.row 1 (p.map pi)), .vw (.L 36) (0 + 1)]) :: (36, .ow 5 28 [] ( [tcells (.p (pm ⟨k1, m1, s1, p1, []⟩))])) :: (35, .ow 5 28 [] [tcells (.p (pm ⟨k1, m1, s1, p1, []⟩))]) ::  (7, .box 28 [.p (pi k1), .p (pi m1), .p (ps s1), .p (.row 1 (p1.map pi)), .p (.row 5 (([] : List Mn).map eM))]) :: (4, .box 28 [.p (pi 0), .p (pi 0), .p (ps ⟨#[]⟩), .nil, .nil]) :: [] else (bif b 6 then (36, .ow 5 28 [] ( [tcells (.p (pm ⟨k1, m1, s1, p1, []⟩))])) :: (35, .ow 5 28 [] [tcells (.p (pm ⟨k1, m1, s1, p1, []⟩))]) ::  (7, .box 28 [.p (pi k1), .p (pi m1), .p (ps s1), .p (.row 1 (p1.map pi)), .p (.row 5 (([] : List Mn).map eM))]) :: (5, .box 28 [.p (pi k), .p (pi m), .p (ps ⟨#[]⟩), .p (.row 1 (p.map pi)), .nil]) :: (4, .box 28 [.p (pi 0), .p (pi 0), .p (ps ⟨#[]⟩), .nil, .nil]) :: [] else (bif b 5 then (35, .ow 5 28 [] [tcells (.p (pm ⟨k1, m1, s1, p1, []⟩))]) ::  (7, .box 28 [.p (pi k1), .p (pi m1), .p (ps s1), .p (.row 1 (p1.map pi)), .p (.row 5 (([] : List Mn).map eM))]) :: (5, .box 28 [.p (pi k), .p (pi m), .p (ps ⟨#[]⟩), .p (.row 1 (p.map pi)), .nil]) :: (4, .box 28 [.p (pi 0), .p (pi 0), .p (ps ⟨#[]⟩), .nil, .nil]) :: [] else (bif b 4 then  (7, .box 28 [.p (pi k1), .p (pi m1), .p (ps s1), .p (.row 1 (p1.map pi)), .p (.row 5 (([] : List Mn).map eM))]) :: (5, .box 28 [.p (pi k), .p (pi m), .p (ps ⟨#[]⟩), .p (.row 1 (p.map pi)), .nil]) :: (4, .box 28 [.p (pi 0), .p (pi 0), .p (ps ⟨#[]⟩), .nil, .nil]) :: [] else ((7, .box 28 [.p (pi k1), .p (pi m1), .p (ps s1), .p (.row 1 (p1.map pi)), .p (.row 5 (([] : List Mn).map eM))]) :: (5, .box 28 [.p (pi k), .p (pi m), .p (ps ⟨#[]⟩), .p (.row 1 (p.map pi)), .nil]) :: (4, .box 28 [.p (pi 0), .p (pi 0), .p (ps ⟨#[]⟩), .nil, .nil]) :: []))))) ([])) (fun _ _ => True) () trivial (wk_of rfl rfl (by (repeat' apply And.intro) <;> first | exact trivial | exact .inl rfl) (by (repeat' apply And.intro) <;> first | exact trivial | exact .inl rfl)) ?_ (fun τ τ' h q => AW.weak h q) ?_ (by kernel_rfl) rfl (by kernel_rfl)
          · intro b j o1 _ ho1 hb hd hcl _
            have hj : j < 9 := (Array.getElem?_eq_some_iff.1 ho1).1
            rcases (show j = 0 ∨ j = 1 ∨ j = 2 ∨ j = 3 ∨ j = 4 ∨ j = 5 ∨ j = 6 ∨ j = 7 ∨ j = 8 by omega) with rfl | rfl | rfl | rfl | rfl | rfl | rfl | rfl | rfl
            all_goals cases ho1
            all_goals refine Step1.of rfl ?_
            · have fF1 : b 1 = false := hcl 1 _ rfl 0 _ rfl rfl hb
              have fF6 : b 6 = false := hcl 6 _ rfl 0 _ rfl rfl fF1
              have fF7 : b 7 = false := hcl 7 _ rfl 0 _ rfl rfl hb
              have fF8 : b 8 = false := hcl 8 _ rfl 0 _ rfl rfl fF7
              simp only [upB_eq, ↓reduceIte, Nat.reduceEqDiff, hb, cond_true, cond_false, fF1, fF6, fF7, fF8]
              refine rn T 99 [] ?_
              first | exact ⟨(), trivial, wk_l (by (repeat' apply And.intro) <;> first | exact trivial | exact .inl rfl)⟩ | exact ⟨(), trivial, wk_of rfl rfl (by (repeat' apply And.intro) <;> first | exact trivial | exact .inl rfl) (by (repeat' apply And.intro) <;> first | exact trivial | exact .inl rfl)⟩
            · have fT0 : b 0 = true := hd 0 _ rfl rfl
              have fF6 : b 6 = false := hcl 6 _ rfl 0 _ rfl rfl hb
              have fF7 : b 7 = false := hcl 7 _ rfl 1 _ rfl rfl hb
              have fF8 : b 8 = false := hcl 8 _ rfl 0 _ rfl rfl fF7
              simp only [upB_eq, ↓reduceIte, Nat.reduceEqDiff, hb, cond_true, cond_false, fT0, fF6, fF7, fF8]
              refine EOps.ldC T rfl (m := 5) (off := 4) (t' := 28) (c := [.p (pi k), .p (pi m), .p (ps ⟨#[]⟩), .p (.row 1 (p.map pi)), .nil]) (v := .nil) rfl (by cases b 5 <;> cases b 4 <;> rfl) rfl rfl rfl (EOps.nil ?_)
              first | exact ⟨(), trivial, wk_l (by (repeat' apply And.intro) <;> first | exact trivial | exact .inl rfl)⟩ | exact ⟨(), trivial, wk_of rfl rfl (by (repeat' apply And.intro) <;> first | exact trivial | exact .inl rfl) (by (repeat' apply And.intro) <;> first | exact trivial | exact .inl rfl)⟩
            · have fF4 : b 4 = false := hcl 4 _ rfl 0 _ rfl rfl hb
              have fF5 : b 5 = false := hcl 5 _ rfl 0 _ rfl rfl fF4
              have fF6 : b 6 = false := hcl 6 _ rfl 1 _ rfl rfl fF5
              have fF7 : b 7 = false := hcl 7 _ rfl 2 _ rfl rfl hb
              have fF8 : b 8 = false := hcl 8 _ rfl 0 _ rfl rfl fF7
              simp only [upB_eq, ↓reduceIte, Nat.reduceEqDiff, hb, cond_true, cond_false, fF4, fF5, fF6, fF7, fF8]
              refine rn T 99 [] ?_
              first | exact ⟨(), trivial, wk_l (by (repeat' apply And.intro) <;> first | exact trivial | exact .inl rfl)⟩ | exact ⟨(), trivial, wk_of rfl rfl (by (repeat' apply And.intro) <;> first | exact trivial | exact .inl rfl) (by (repeat' apply And.intro) <;> first | exact trivial | exact .inl rfl)⟩
            · have fF4 : b 4 = false := hcl 4 _ rfl 1 _ rfl rfl hb
              have fF5 : b 5 = false := hcl 5 _ rfl 0 _ rfl rfl fF4
              have fF6 : b 6 = false := hcl 6 _ rfl 1 _ rfl rfl fF5
              have fF7 : b 7 = false := hcl 7 _ rfl 3 _ rfl rfl hb
              have fF8 : b 8 = false := hcl 8 _ rfl 0 _ rfl rfl fF7
              simp only [upB_eq, ↓reduceIte, Nat.reduceEqDiff, hb, cond_true, cond_false, fF4, fF5, fF6, fF7, fF8]
              refine rn T 99 [] ?_
              first | exact ⟨(), trivial, wk_l (by (repeat' apply And.intro) <;> first | exact trivial | exact .inl rfl)⟩ | exact ⟨(), trivial, wk_of rfl rfl (by (repeat' apply And.intro) <;> first | exact trivial | exact .inl rfl) (by (repeat' apply And.intro) <;> first | exact trivial | exact .inl rfl)⟩
            · have fT3 : b 3 = true := hd 1 _ rfl rfl
              have fT2 : b 2 = true := hd 0 _ rfl rfl
              have fF5 : b 5 = false := hcl 5 _ rfl 0 _ rfl rfl hb
              have fF6 : b 6 = false := hcl 6 _ rfl 1 _ rfl rfl fF5
              have fF7 : b 7 = false := hcl 7 _ rfl 4 _ rfl rfl hb
              have fF8 : b 8 = false := hcl 8 _ rfl 0 _ rfl rfl fF7
              simp only [upB_eq, ↓reduceIte, Nat.reduceEqDiff, hb, cond_true, cond_false, fT3, fT2, fF5, fF6, fF7, fF8]
              refine EOps.cg [] [] [] [.ag [.p (pi k1), .p (pi m1), .p (ps s1), .p (.row 1 (p1.map pi)), .p (.row 5 (([] : List Mn).map eM))], .fn 49 []] [.p (pm ⟨k1, m1, s1, p1, ([] : List Mn)⟩), .fn 49 []] hcall rfl rfl rfl ⟨.inl (.inl ⟨_, rfl, by (repeat' apply And.intro) <;> first | trivial | rfl⟩), .inl (.inr rfl), trivial⟩ rfl rfl (by simp) (by decide) (by cases b 0 <;> cases b 1 <;> rfl) (by rintro _ _ ⟨rfl, rfl⟩; exact ⟨by simp, rfl⟩) ?_
              rintro _ _ ⟨rfl, rfl⟩
              refine EOps.nil ?_
              first | exact ⟨(), trivial, wk_l (by (repeat' apply And.intro) <;> first | exact trivial | exact .inl rfl)⟩ | exact ⟨(), trivial, wk_of rfl rfl (by (repeat' apply And.intro) <;> first | exact trivial | exact .inl rfl) (by (repeat' apply And.intro) <;> first | exact trivial | exact .inl rfl)⟩
            · have fT4 : b 4 = true := hd 0 _ rfl rfl
              have fT3 : b 3 = true := by
                cases h : b 3 with
                | true => rfl
                | false => rw [hcl 4 _ rfl 1 _ rfl rfl h] at fT4; cases fT4
              have fT2 : b 2 = true := by
                cases h : b 2 with
                | true => rfl
                | false => rw [hcl 4 _ rfl 0 _ rfl rfl h] at fT4; cases fT4
              have fF6 : b 6 = false := hcl 6 _ rfl 1 _ rfl rfl hb
              have fF7 : b 7 = false := hcl 7 _ rfl 5 _ rfl rfl hb
              have fF8 : b 8 = false := hcl 8 _ rfl 0 _ rfl rfl fF7
              simp only [upB_eq, ↓reduceIte, Nat.reduceEqDiff, hb, cond_true, cond_false, fT4, fT3, fT2, fF6, fF7, fF8]
              refine EOps.bs T [] (e := 28) (z := 5) (b := true) (vs := [.p (pm ⟨k1, m1, s1, p1, []⟩)]) rfl rfl rfl rfl rfl (by decide) rfl (fun v hv => by obtain rfl := List.mem_singleton.1 hv; exact ⟨trivial, rfl, fun x hx => by simp [tcells] at hx; rcases hx with rfl | rfl | rfl | rfl | rfl <;> first | exact .p | exact .vw (List.mem_cons_self ..)⟩) (by cases b 0 <;> cases b 1 <;> rfl) (fun m hm => by simp at hm; try (subst hm; trivial)) (EOps.nil ?_)
              first | exact ⟨(), trivial, wk_l (by (repeat' apply And.intro) <;> first | exact trivial | exact .inl rfl)⟩ | exact ⟨(), trivial, wk_of rfl rfl (by (repeat' apply And.intro) <;> first | exact trivial | exact .inl rfl) (by (repeat' apply And.intro) <;> first | exact trivial | exact .inl rfl)⟩
            · have fT5 : b 5 = true := hd 1 _ rfl rfl
              have fT4 : b 4 = true := hd 2 _ rfl rfl
              have fT3 : b 3 = true := by
                cases h : b 3 with
                | true => rfl
                | false => rw [hcl 4 _ rfl 1 _ rfl rfl h] at fT4; cases fT4
              have fT2 : b 2 = true := by
                cases h : b 2 with
                | true => rfl
                | false => rw [hcl 4 _ rfl 0 _ rfl rfl h] at fT4; cases fT4
              have fT1 : b 1 = true := hd 0 _ rfl rfl
              have fT0 : b 0 = true := by
                cases h : b 0 with
                | true => rfl
                | false => rw [hcl 1 _ rfl 0 _ rfl rfl h] at fT1; cases fT1
              have fF7 : b 7 = false := hcl 7 _ rfl 6 _ rfl rfl hb
              have fF8 : b 8 = false := hcl 8 _ rfl 0 _ rfl rfl fF7
              simp only [upB_eq, ↓reduceIte, Nat.reduceEqDiff, hb, cond_true, cond_false, fT5, fT4, fT3, fT2, fT1, fT0, fF7, fF8]
              refine EOps.ap0L T [] 36 (ys := [tcells (.p (pm ⟨k1, m1, s1, p1, []⟩))]) rfl rfl rfl rfl rfl rfl rfl rfl (by decide) rfl (.inr ⟨.L 35, 1, 28, [], rfl, rfl, rfl, fun y hy => by simp [tcells] at hy; rcases hy with rfl | rfl | rfl | rfl | rfl <;> trivial⟩) (fun y hy => by simp [tcells] at hy; rcases hy with rfl | rfl | rfl | rfl | rfl <;> first | exact .p | exact .vw (List.mem_cons_self ..)) (fun m hm => by simp at hm; try (subst hm; trivial)) (by show 1 * _ ≤ _; decide) (EOps.nil ?_)
              first | exact ⟨(), trivial, wk_l (by (repeat' apply And.intro) <;> first | exact trivial | exact .inl rfl)⟩ | exact ⟨(), trivial, wk_of rfl rfl (by (repeat' apply And.intro) <;> first | exact trivial | exact .inl rfl) (by (repeat' apply And.intro) <;> first | exact trivial | exact .inl rfl)⟩
            · have fT6 : b 6 = true := hd 6 _ rfl rfl
              have fT5 : b 5 = true := hd 5 _ rfl rfl
              have fT4 : b 4 = true := hd 4 _ rfl rfl
              have fT3 : b 3 = true := hd 3 _ rfl rfl
              have fT2 : b 2 = true := hd 2 _ rfl rfl
              have fT1 : b 1 = true := hd 1 _ rfl rfl
              have fT0 : b 0 = true := hd 0 _ rfl rfl
              have fF8 : b 8 = false := hcl 8 _ rfl 0 _ rfl rfl hb
              simp only [upB_eq, ↓reduceIte, Nat.reduceEqDiff, hb, cond_true, cond_false, fT6, fT5, fT4, fT3, fT2, fT1, fT0, fF8]
              refine rn T 99 [] ?_
              first | exact ⟨(), trivial, wk_l (by (repeat' apply And.intro) <;> first | exact trivial | exact .inl rfl)⟩ | exact ⟨(), trivial, wk_of rfl rfl (by (repeat' apply And.intro) <;> first | exact trivial | exact .inl rfl) (by (repeat' apply And.intro) <;> first | exact trivial | exact .inl rfl)⟩
            · have fT7 : b 7 = true := hd 0 _ rfl rfl
              have fT6 : b 6 = true := hd 1 _ rfl rfl
              have fT5 : b 5 = true := hd 8 _ rfl rfl
              have fT4 : b 4 = true := hd 7 _ rfl rfl
              have fT3 : b 3 = true := hd 6 _ rfl rfl
              have fT2 : b 2 = true := hd 5 _ rfl rfl
              have fT1 : b 1 = true := hd 4 _ rfl rfl
              have fT0 : b 0 = true := hd 3 _ rfl rfl
              simp only [upB_eq, ↓reduceIte, Nat.reduceEqDiff, hb, cond_true, cond_false, fT7, fT6, fT5, fT4, fT3, fT2, fT1, fT0]
              refine rn T 99 [] ?_
              first | exact ⟨(), trivial, wk_l (by (repeat' apply And.intro) <;> first | exact trivial | exact .inl rfl)⟩ | exact ⟨(), trivial, wk_of rfl rfl (by (repeat' apply And.intro) <;> first | exact trivial | exact .inl rfl) (by (repeat' apply And.intro) <;> first | exact trivial | exact .inl rfl)⟩
          · intro b _ hall _
            have fT0 := hall 0 (by decide)
            have fT1 := hall 1 (by decide)
            have fT2 := hall 2 (by decide)
            have fT3 := hall 3 (by decide)
            have fT4 := hall 4 (by decide)
            have fT5 := hall 5 (by decide)
            have fT6 := hall 6 (by decide)
            have fT7 := hall 7 (by decide)
            have fT8 := hall 8 (by decide)
            simp only [cond_true, fT0, fT1, fT2, fT3, fT4, fT5, fT6, fT7, fT8]
            refine op ?_
            refine rn T 99 [] ?_
            rw [hap]
            refine nxt (m2 - 1) (1) (by omega)
        | cons y1 l1 =>
          obtain ⟨n', rfl, _, _⟩ := okD_inv hkx
          have hcall := hih.2 n' rfl (by intro e; cases e)
          have hap := happ _ rfl
          refine AW.anyD (X := Unit) (fun _ b => MS.mk [(30, bif b 0 then .ptr (.L 5) 4 else .u), (31, bif b 1 then .nil else .u), (32, bif b 2 then .ag [.p (pi k1), .p (pi m1), .p (ps s1), .p (.row 1 (p1.map pi)), .p (.row 5 ((y1 :: l1).map eM))] else .u), (33, bif b 3 then .fn 49 [] else .u), (34, bif b 4 then .ag [.p (pi k1), .p (pi m1), .p (ps s1), .p (.row 1 (p1.map pi)), .vw (.L 101) ((y1 :: l1).map (ownN n')).length] else .u), (35, bif b 5 then .vw (.L 35) 1 else .u), (36, bif b 6 then .vw (.L 36) (0 + 1) else .u), (37, bif b 7 then .ptr (.L 5) 4 else .u), (26, .p (pi 0)), (25, .p (pi (l.map eM).length)), (24, .p (.row 5 (l.map eM))), (1, .fn 49 []), (2, .ptr (.L 2) 0), (4, .ptr (.L 4) 0), (5, .ptr (.L 5) 0), (7, .ptr (.L 7) 0)] (40) (bif b 8 then (5, .box 28 [.p (pi k), .p (pi m), .p (ps ⟨#[]⟩), .p (.row 1 (p.map pi)), .vw (.L 36) (0 + 1)]) :: (36, .ow 5 28 [.L 101] ( [tcells (.ag [.p (pi k1), .p (pi m1), .p (ps s1), .p (.row 1 (p1.map pi)), .vw (.L 101) ((y1 :: l1).map (ownN n')).length])])) :: (35, .ow 5 28 [.L 101] [tcells (.ag [.p (pi k1), .p (pi m1), .p (ps s1), .p (.row 1 (p1.map pi)), .vw (.L 101) ((y1 :: l1).map (ownN n')).length])]) :: (101, .ow 5 28 [] (ocs ((y1 :: l1).map (ownN n')))) :: (7, .box 28 [.p (pi k1), .p (pi m1), .p (ps s1), .p (.row 1 (p1.map pi)), .p (.row 5 ((y1 :: l1).map eM))]) :: (4, .box 28 [.p (pi 0), .p (pi 0), .p (ps ⟨#[]⟩), .nil, .nil]) :: [] else (bif b 6 then (36, .ow 5 28 [.L 101] ( [tcells (.ag [.p (pi k1), .p (pi m1), .p (ps s1), .p (.row 1 (p1.map pi)), .vw (.L 101) ((y1 :: l1).map (ownN n')).length])])) :: (35, .ow 5 28 [.L 101] [tcells (.ag [.p (pi k1), .p (pi m1), .p (ps s1), .p (.row 1 (p1.map pi)), .vw (.L 101) ((y1 :: l1).map (ownN n')).length])]) :: (101, .ow 5 28 [] (ocs ((y1 :: l1).map (ownN n')))) :: (7, .box 28 [.p (pi k1), .p (pi m1), .p (ps s1), .p (.row 1 (p1.map pi)), .p (.row 5 ((y1 :: l1).map eM))]) :: (5, .box 28 [.p (pi k), .p (pi m), .p (ps ⟨#[]⟩), .p (.row 1 (p.map pi)), .nil]) :: (4, .box 28 [.p (pi 0), .p (pi 0), .p (ps ⟨#[]⟩), .nil, .nil]) :: [] else (bif b 5 then (35, .ow 5 28 [.L 101] [tcells (.ag [.p (pi k1), .p (pi m1), .p (ps s1), .p (.row 1 (p1.map pi)), .vw (.L 101) ((y1 :: l1).map (ownN n')).length])]) :: (101, .ow 5 28 [] (ocs ((y1 :: l1).map (ownN n')))) :: (7, .box 28 [.p (pi k1), .p (pi m1), .p (ps s1), .p (.row 1 (p1.map pi)), .p (.row 5 ((y1 :: l1).map eM))]) :: (5, .box 28 [.p (pi k), .p (pi m), .p (ps ⟨#[]⟩), .p (.row 1 (p.map pi)), .nil]) :: (4, .box 28 [.p (pi 0), .p (pi 0), .p (ps ⟨#[]⟩), .nil, .nil]) :: [] else (bif b 4 then (101, .ow 5 28 [] (ocs ((y1 :: l1).map (ownN n')))) :: (7, .box 28 [.p (pi k1), .p (pi m1), .p (ps s1), .p (.row 1 (p1.map pi)), .p (.row 5 ((y1 :: l1).map eM))]) :: (5, .box 28 [.p (pi k), .p (pi m), .p (ps ⟨#[]⟩), .p (.row 1 (p.map pi)), .nil]) :: (4, .box 28 [.p (pi 0), .p (pi 0), .p (ps ⟨#[]⟩), .nil, .nil]) :: [] else ((7, .box 28 [.p (pi k1), .p (pi m1), .p (ps s1), .p (.row 1 (p1.map pi)), .p (.row 5 ((y1 :: l1).map eM))]) :: (5, .box 28 [.p (pi k), .p (pi m), .p (ps ⟨#[]⟩), .p (.row 1 (p.map pi)), .nil]) :: (4, .box 28 [.p (pi 0), .p (pi 0), .p (ps ⟨#[]⟩), .nil, .nil]) :: []))))) ([])) (fun _ _ => True) () trivial (wk_of rfl rfl (by (repeat' apply And.intro) <;> first | exact trivial | exact .inl rfl) (by (repeat' apply And.intro) <;> first | exact trivial | exact .inl rfl)) ?_ (fun τ τ' h q => AW.weak h q) ?_ (by kernel_rfl) rfl (by kernel_rfl)
          · intro b j o1 _ ho1 hb hd hcl _
            have hj : j < 9 := (Array.getElem?_eq_some_iff.1 ho1).1
            rcases (show j = 0 ∨ j = 1 ∨ j = 2 ∨ j = 3 ∨ j = 4 ∨ j = 5 ∨ j = 6 ∨ j = 7 ∨ j = 8 by omega) with rfl | rfl | rfl | rfl | rfl | rfl | rfl | rfl | rfl
            all_goals cases ho1
            all_goals refine Step1.of rfl ?_
            · have fF1 : b 1 = false := hcl 1 _ rfl 0 _ rfl rfl hb
              have fF6 : b 6 = false := hcl 6 _ rfl 0 _ rfl rfl fF1
              have fF7 : b 7 = false := hcl 7 _ rfl 0 _ rfl rfl hb
              have fF8 : b 8 = false := hcl 8 _ rfl 0 _ rfl rfl fF7
              simp only [upB_eq, ↓reduceIte, Nat.reduceEqDiff, hb, cond_true, cond_false, fF1, fF6, fF7, fF8]
              refine rn T 99 [] ?_
              first | exact ⟨(), trivial, wk_l (by (repeat' apply And.intro) <;> first | exact trivial | exact .inl rfl)⟩ | exact ⟨(), trivial, wk_of rfl rfl (by (repeat' apply And.intro) <;> first | exact trivial | exact .inl rfl) (by (repeat' apply And.intro) <;> first | exact trivial | exact .inl rfl)⟩
            · have fT0 : b 0 = true := hd 0 _ rfl rfl
              have fF6 : b 6 = false := hcl 6 _ rfl 0 _ rfl rfl hb
              have fF7 : b 7 = false := hcl 7 _ rfl 1 _ rfl rfl hb
              have fF8 : b 8 = false := hcl 8 _ rfl 0 _ rfl rfl fF7
              simp only [upB_eq, ↓reduceIte, Nat.reduceEqDiff, hb, cond_true, cond_false, fT0, fF6, fF7, fF8]
              refine EOps.ldC T rfl (m := 5) (off := 4) (t' := 28) (c := [.p (pi k), .p (pi m), .p (ps ⟨#[]⟩), .p (.row 1 (p.map pi)), .nil]) (v := .nil) rfl (by cases b 5 <;> cases b 4 <;> rfl) rfl rfl rfl (EOps.nil ?_)
              first | exact ⟨(), trivial, wk_l (by (repeat' apply And.intro) <;> first | exact trivial | exact .inl rfl)⟩ | exact ⟨(), trivial, wk_of rfl rfl (by (repeat' apply And.intro) <;> first | exact trivial | exact .inl rfl) (by (repeat' apply And.intro) <;> first | exact trivial | exact .inl rfl)⟩
            · have fF4 : b 4 = false := hcl 4 _ rfl 0 _ rfl rfl hb
              have fF5 : b 5 = false := hcl 5 _ rfl 0 _ rfl rfl fF4
              have fF6 : b 6 = false := hcl 6 _ rfl 1 _ rfl rfl fF5
              have fF7 : b 7 = false := hcl 7 _ rfl 2 _ rfl rfl hb
              have fF8 : b 8 = false := hcl 8 _ rfl 0 _ rfl rfl fF7
              simp only [upB_eq, ↓reduceIte, Nat.reduceEqDiff, hb, cond_true, cond_false, fF4, fF5, fF6, fF7, fF8]
              refine rn T 99 [] ?_
              first | exact ⟨(), trivial, wk_l (by (repeat' apply And.intro) <;> first | exact trivial | exact .inl rfl)⟩ | exact ⟨(), trivial, wk_of rfl rfl (by (repeat' apply And.intro) <;> first | exact trivial | exact .inl rfl) (by (repeat' apply And.intro) <;> first | exact trivial | exact .inl rfl)⟩
            · have fF4 : b 4 = false := hcl 4 _ rfl 1 _ rfl rfl hb
              have fF5 : b 5 = false := hcl 5 _ rfl 0 _ rfl rfl fF4
              have fF6 : b 6 = false := hcl 6 _ rfl 1 _ rfl rfl fF5
              have fF7 : b 7 = false := hcl 7 _ rfl 3 _ rfl rfl hb
              have fF8 : b 8 = false := hcl 8 _ rfl 0 _ rfl rfl fF7
              simp only [upB_eq, ↓reduceIte, Nat.reduceEqDiff, hb, cond_true, cond_false, fF4, fF5, fF6, fF7, fF8]
              refine rn T 99 [] ?_
              first | exact ⟨(), trivial, wk_l (by (repeat' apply And.intro) <;> first | exact trivial | exact .inl rfl)⟩ | exact ⟨(), trivial, wk_of rfl rfl (by (repeat' apply And.intro) <;> first | exact trivial | exact .inl rfl) (by (repeat' apply And.intro) <;> first | exact trivial | exact .inl rfl)⟩
            · have fT3 : b 3 = true := hd 1 _ rfl rfl
              have fT2 : b 2 = true := hd 0 _ rfl rfl
              have fF5 : b 5 = false := hcl 5 _ rfl 0 _ rfl rfl hb
              have fF6 : b 6 = false := hcl 6 _ rfl 1 _ rfl rfl fF5
              have fF7 : b 7 = false := hcl 7 _ rfl 4 _ rfl rfl hb
              have fF8 : b 8 = false := hcl 8 _ rfl 0 _ rfl rfl fF7
              simp only [upB_eq, ↓reduceIte, Nat.reduceEqDiff, hb, cond_true, cond_false, fT3, fT2, fF5, fF6, fF7, fF8]
              refine EOps.cg [] [101] [] [.ag [.p (pi k1), .p (pi m1), .p (ps s1), .p (.row 1 (p1.map pi)), .p (.row 5 ((y1 :: l1).map eM))], .fn 49 []] [.p (pm ⟨k1, m1, s1, p1, (y1 :: l1)⟩), .fn 49 []] hcall rfl rfl rfl ⟨.inl (.inl ⟨_, rfl, by (repeat' apply And.intro) <;> first | trivial | rfl⟩), .inl (.inr rfl), trivial⟩ rfl rfl (by simp) (by decide) (by cases b 0 <;> cases b 1 <;> rfl) (by rintro _ _ ⟨rfl, rfl⟩; exact ⟨by simp [cloO], rfl⟩) ?_
              rintro _ _ ⟨rfl, rfl⟩
              refine EOps.nil ?_
              first | exact ⟨(), trivial, wk_l (by (repeat' apply And.intro) <;> first | exact trivial | exact .inl rfl)⟩ | exact ⟨(), trivial, wk_of rfl rfl (by (repeat' apply And.intro) <;> first | exact trivial | exact .inl rfl) (by (repeat' apply And.intro) <;> first | exact trivial | exact .inl rfl)⟩
            · have fT4 : b 4 = true := hd 0 _ rfl rfl
              have fT3 : b 3 = true := by
                cases h : b 3 with
                | true => rfl
                | false => rw [hcl 4 _ rfl 1 _ rfl rfl h] at fT4; cases fT4
              have fT2 : b 2 = true := by
                cases h : b 2 with
                | true => rfl
                | false => rw [hcl 4 _ rfl 0 _ rfl rfl h] at fT4; cases fT4
              have fF6 : b 6 = false := hcl 6 _ rfl 1 _ rfl rfl hb
              have fF7 : b 7 = false := hcl 7 _ rfl 5 _ rfl rfl hb
              have fF8 : b 8 = false := hcl 8 _ rfl 0 _ rfl rfl fF7
              simp only [upB_eq, ↓reduceIte, Nat.reduceEqDiff, hb, cond_true, cond_false, fT4, fT3, fT2, fF6, fF7, fF8]
              refine EOps.bs T [.L 101] (e := 28) (z := 5) (b := true) (vs := [.ag [.p (pi k1), .p (pi m1), .p (ps s1), .p (.row 1 (p1.map pi)), .vw (.L 101) ((y1 :: l1).map (ownN n')).length]]) rfl rfl rfl rfl rfl (by decide) rfl (fun v hv => by obtain rfl := List.mem_singleton.1 hv; exact ⟨trivial, rfl, fun x hx => by simp [tcells] at hx; rcases hx with rfl | rfl | rfl | rfl | rfl <;> first | exact .p | exact .vw (List.mem_cons_self ..)⟩) (by cases b 0 <;> cases b 1 <;> rfl) (fun m hm => by simp at hm; try (subst hm; trivial)) (EOps.nil ?_)
              first | exact ⟨(), trivial, wk_l (by (repeat' apply And.intro) <;> first | exact trivial | exact .inl rfl)⟩ | exact ⟨(), trivial, wk_of rfl rfl (by (repeat' apply And.intro) <;> first | exact trivial | exact .inl rfl) (by (repeat' apply And.intro) <;> first | exact trivial | exact .inl rfl)⟩
            · have fT5 : b 5 = true := hd 1 _ rfl rfl
              have fT4 : b 4 = true := hd 2 _ rfl rfl
              have fT3 : b 3 = true := by
                cases h : b 3 with
                | true => rfl
                | false => rw [hcl 4 _ rfl 1 _ rfl rfl h] at fT4; cases fT4
              have fT2 : b 2 = true := by
                cases h : b 2 with
                | true => rfl
                | false => rw [hcl 4 _ rfl 0 _ rfl rfl h] at fT4; cases fT4
              have fT1 : b 1 = true := hd 0 _ rfl rfl
              have fT0 : b 0 = true := by
                cases h : b 0 with
                | true => rfl
                | false => rw [hcl 1 _ rfl 0 _ rfl rfl h] at fT1; cases fT1
              have fF7 : b 7 = false := hcl 7 _ rfl 6 _ rfl rfl hb
              have fF8 : b 8 = false := hcl 8 _ rfl 0 _ rfl rfl fF7
              simp only [upB_eq, ↓reduceIte, Nat.reduceEqDiff, hb, cond_true, cond_false, fT5, fT4, fT3, fT2, fT1, fT0, fF7, fF8]
              refine EOps.ap0L T [.L 101] 36 (ys := [tcells (.ag [.p (pi k1), .p (pi m1), .p (ps s1), .p (.row 1 (p1.map pi)), .vw (.L 101) ((y1 :: l1).map (ownN n')).length])]) rfl rfl rfl rfl rfl rfl rfl rfl (by decide) rfl (.inr ⟨.L 35, 1, 28, [.L 101], rfl, rfl, rfl, fun y hy => by simp [tcells] at hy; rcases hy with rfl | rfl | rfl | rfl | rfl <;> trivial⟩) (fun y hy => by simp [tcells] at hy; rcases hy with rfl | rfl | rfl | rfl | rfl <;> first | exact .p | exact .vw (List.mem_cons_self ..)) (fun m hm => by simp at hm; try (subst hm; trivial)) (by show 1 * _ ≤ _; decide) (EOps.nil ?_)
              first | exact ⟨(), trivial, wk_l (by (repeat' apply And.intro) <;> first | exact trivial | exact .inl rfl)⟩ | exact ⟨(), trivial, wk_of rfl rfl (by (repeat' apply And.intro) <;> first | exact trivial | exact .inl rfl) (by (repeat' apply And.intro) <;> first | exact trivial | exact .inl rfl)⟩
            · have fT6 : b 6 = true := hd 6 _ rfl rfl
              have fT5 : b 5 = true := hd 5 _ rfl rfl
              have fT4 : b 4 = true := hd 4 _ rfl rfl
              have fT3 : b 3 = true := hd 3 _ rfl rfl
              have fT2 : b 2 = true := hd 2 _ rfl rfl
              have fT1 : b 1 = true := hd 1 _ rfl rfl
              have fT0 : b 0 = true := hd 0 _ rfl rfl
              have fF8 : b 8 = false := hcl 8 _ rfl 0 _ rfl rfl hb
              simp only [upB_eq, ↓reduceIte, Nat.reduceEqDiff, hb, cond_true, cond_false, fT6, fT5, fT4, fT3, fT2, fT1, fT0, fF8]
              refine rn T 99 [] ?_
              first | exact ⟨(), trivial, wk_l (by (repeat' apply And.intro) <;> first | exact trivial | exact .inl rfl)⟩ | exact ⟨(), trivial, wk_of rfl rfl (by (repeat' apply And.intro) <;> first | exact trivial | exact .inl rfl) (by (repeat' apply And.intro) <;> first | exact trivial | exact .inl rfl)⟩
            · have fT7 : b 7 = true := hd 0 _ rfl rfl
              have fT6 : b 6 = true := hd 1 _ rfl rfl
              have fT5 : b 5 = true := hd 8 _ rfl rfl
              have fT4 : b 4 = true := hd 7 _ rfl rfl
              have fT3 : b 3 = true := hd 6 _ rfl rfl
              have fT2 : b 2 = true := hd 5 _ rfl rfl
              have fT1 : b 1 = true := hd 4 _ rfl rfl
              have fT0 : b 0 = true := hd 3 _ rfl rfl
              simp only [upB_eq, ↓reduceIte, Nat.reduceEqDiff, hb, cond_true, cond_false, fT7, fT6, fT5, fT4, fT3, fT2, fT1, fT0]
              refine rn T 99 [] ?_
              first | exact ⟨(), trivial, wk_l (by (repeat' apply And.intro) <;> first | exact trivial | exact .inl rfl)⟩ | exact ⟨(), trivial, wk_of rfl rfl (by (repeat' apply And.intro) <;> first | exact trivial | exact .inl rfl) (by (repeat' apply And.intro) <;> first | exact trivial | exact .inl rfl)⟩
          · intro b _ hall _
            have fT0 := hall 0 (by decide)
            have fT1 := hall 1 (by decide)
            have fT2 := hall 2 (by decide)
            have fT3 := hall 3 (by decide)
            have fT4 := hall 4 (by decide)
            have fT5 := hall 5 (by decide)
            have fT6 := hall 6 (by decide)
            have fT7 := hall 7 (by decide)
            have fT8 := hall 8 (by decide)
            simp only [cond_true, fT0, fT1, fT2, fT3, fT4, fT5, fT6, fT7, fT8]
            refine op ?_
            refine EOps.absL 36 101 0 4 ((l.take 1).map (ownN (n' + 1))) rfl rfl rfl rfl rfl rfl hap ?_
            refine rn T 99 [] ?_
            refine nxt (m2 - 1) (1) (by omega)
      | succ i =>
        have hln : (ocs ((l.take (i + 1)).map (ownN n))).length = i + 1 := ocs_len (by omega)
        refine op ?_
        refine rn T 99 [] ?_
        by_cases hi : i + 1 < l.length
        · refine ctq rfl (by simp; omega) ?_
          obtain ⟨x, hx, _⟩ := drop_ix hi
          have hxm := List.mem_of_getElem? hx
          have hih := ih x (hk x hxm) (hplk x hxm)
          have hkx := hk x hxm
          have happ : ∀ c, (ownN n x).cells.map oc = c → ocs ((l.take (i + 1)).map (ownN n)) ++ [c] = ocs ((l.take (i + 1 + 1)).map (ownN n)) := fun c hc => own_app (n := n) hx hc
          obtain ⟨k1, m1, s1, p1, l1⟩ := x
          refine rn T 99 [pm ⟨k1, m1, s1, p1, l1⟩] ?_
          cases l1 with
          | nil =>
            have hcall := hih.1 rfl
            have hap := happ (tcells (.p (pm ⟨k1, m1, s1, p1, []⟩))) (by rw [ownN_leaf]; rfl)
            refine AW.anyD (X := Unit) (fun _ b => MS.mk [(30, bif b 0 then .ptr (.L 5) 4 else .u), (31, bif b 1 then .vw (.L 36) (i + 1) else .u), (32, bif b 2 then .ag [.p (pi k1), .p (pi m1), .p (ps s1), .p (.row 1 (p1.map pi)), .p (.row 5 (([] : List Mn).map eM))] else .u), (33, bif b 3 then .fn 49 [] else .u), (34, bif b 4 then .p (pm ⟨k1, m1, s1, p1, []⟩) else .u), (35, bif b 5 then .vw (.L 35) 1 else .u), (36, bif b 6 then .vw (.L 36) ((i + 1 : Nat) + 1) else .u), (37, bif b 7 then .ptr (.L 5) 4 else .u), (26, .p (pi (i + 1 : Nat))), (25, .p (pi (l.map eM).length)), (24, .p (.row 5 (l.map eM))), (1, .fn 49 []), (2, .ptr (.L 2) 0), (4, .ptr (.L 4) 0), (5, .ptr (.L 5) 0), (7, .ptr (.L 7) 0)] (40) (bif b 8 then (5, .box 28 [.p (pi k), .p (pi m), .p (ps ⟨#[]⟩), .p (.row 1 (p.map pi)), .vw (.L 36) ((i + 1 : Nat) + 1)]) :: (36, .ow 5 28 [] (ocs ((l.take (i + 1)).map (ownN n)) ++ [tcells (.p (pm ⟨k1, m1, s1, p1, []⟩))])) :: (35, .ow 5 28 [] [tcells (.p (pm ⟨k1, m1, s1, p1, []⟩))]) ::  (7, .box 28 [.p (pi k1), .p (pi m1), .p (ps s1), .p (.row 1 (p1.map pi)), .p (.row 5 (([] : List Mn).map eM))]) :: (4, .box 28 [.p (pi 0), .p (pi 0), .p (ps ⟨#[]⟩), .nil, .nil]) :: [] else (bif b 6 then (36, .ow 5 28 [] (ocs ((l.take (i + 1)).map (ownN n)) ++ [tcells (.p (pm ⟨k1, m1, s1, p1, []⟩))])) :: (35, .ow 5 28 [] [tcells (.p (pm ⟨k1, m1, s1, p1, []⟩))]) ::  (7, .box 28 [.p (pi k1), .p (pi m1), .p (ps s1), .p (.row 1 (p1.map pi)), .p (.row 5 (([] : List Mn).map eM))]) :: (5, .box 28 [.p (pi k), .p (pi m), .p (ps ⟨#[]⟩), .p (.row 1 (p.map pi)), .vw (.L 36) (i + 1)]) :: (4, .box 28 [.p (pi 0), .p (pi 0), .p (ps ⟨#[]⟩), .nil, .nil]) :: [] else (bif b 5 then (35, .ow 5 28 [] [tcells (.p (pm ⟨k1, m1, s1, p1, []⟩))]) ::  (7, .box 28 [.p (pi k1), .p (pi m1), .p (ps s1), .p (.row 1 (p1.map pi)), .p (.row 5 (([] : List Mn).map eM))]) :: (5, .box 28 [.p (pi k), .p (pi m), .p (ps ⟨#[]⟩), .p (.row 1 (p.map pi)), .vw (.L 36) (i + 1)]) :: (4, .box 28 [.p (pi 0), .p (pi 0), .p (ps ⟨#[]⟩), .nil, .nil]) :: [(36, .ow 5 28 [] (ocs ((l.take (i + 1)).map (ownN n))))] else (bif b 4 then  (7, .box 28 [.p (pi k1), .p (pi m1), .p (ps s1), .p (.row 1 (p1.map pi)), .p (.row 5 (([] : List Mn).map eM))]) :: (5, .box 28 [.p (pi k), .p (pi m), .p (ps ⟨#[]⟩), .p (.row 1 (p.map pi)), .vw (.L 36) (i + 1)]) :: (4, .box 28 [.p (pi 0), .p (pi 0), .p (ps ⟨#[]⟩), .nil, .nil]) :: [(36, .ow 5 28 [] (ocs ((l.take (i + 1)).map (ownN n))))] else ((7, .box 28 [.p (pi k1), .p (pi m1), .p (ps s1), .p (.row 1 (p1.map pi)), .p (.row 5 (([] : List Mn).map eM))]) :: (5, .box 28 [.p (pi k), .p (pi m), .p (ps ⟨#[]⟩), .p (.row 1 (p.map pi)), .vw (.L 36) (i + 1)]) :: (4, .box 28 [.p (pi 0), .p (pi 0), .p (ps ⟨#[]⟩), .nil, .nil]) :: [(36, .ow 5 28 [] (ocs ((l.take (i + 1)).map (ownN n))))]))))) ([])) (fun _ _ => True) () trivial (wk_of rfl rfl (by (repeat' apply And.intro) <;> first | exact trivial | exact .inl rfl) (by (repeat' apply And.intro) <;> first | exact trivial | exact .inl rfl)) ?_ (fun τ τ' h q => AW.weak h q) ?_ (by kernel_rfl) rfl (by kernel_rfl)
            · intro b j o1 _ ho1 hb hd hcl _
              have hj : j < 9 := (Array.getElem?_eq_some_iff.1 ho1).1
              rcases (show j = 0 ∨ j = 1 ∨ j = 2 ∨ j = 3 ∨ j = 4 ∨ j = 5 ∨ j = 6 ∨ j = 7 ∨ j = 8 by omega) with rfl | rfl | rfl | rfl | rfl | rfl | rfl | rfl | rfl
              all_goals cases ho1
              all_goals refine Step1.of rfl ?_
              · have fF1 : b 1 = false := hcl 1 _ rfl 0 _ rfl rfl hb
                have fF6 : b 6 = false := hcl 6 _ rfl 0 _ rfl rfl fF1
                have fF7 : b 7 = false := hcl 7 _ rfl 0 _ rfl rfl hb
                have fF8 : b 8 = false := hcl 8 _ rfl 0 _ rfl rfl fF7
                simp only [upB_eq, ↓reduceIte, Nat.reduceEqDiff, hb, cond_true, cond_false, fF1, fF6, fF7, fF8]
                refine rn T 99 [] ?_
                first | exact ⟨(), trivial, wk_l (by (repeat' apply And.intro) <;> first | exact trivial | exact .inl rfl)⟩ | exact ⟨(), trivial, wk_of rfl rfl (by (repeat' apply And.intro) <;> first | exact trivial | exact .inl rfl) (by (repeat' apply And.intro) <;> first | exact trivial | exact .inl rfl)⟩
              · have fT0 : b 0 = true := hd 0 _ rfl rfl
                have fF6 : b 6 = false := hcl 6 _ rfl 0 _ rfl rfl hb
                have fF7 : b 7 = false := hcl 7 _ rfl 1 _ rfl rfl hb
                have fF8 : b 8 = false := hcl 8 _ rfl 0 _ rfl rfl fF7
                simp only [upB_eq, ↓reduceIte, Nat.reduceEqDiff, hb, cond_true, cond_false, fT0, fF6, fF7, fF8]
                refine EOps.ldC T rfl (m := 5) (off := 4) (t' := 28) (c := [.p (pi k), .p (pi m), .p (ps ⟨#[]⟩), .p (.row 1 (p.map pi)), .vw (.L 36) (i + 1)]) (v := .vw (.L 36) (i + 1)) rfl (by cases b 5 <;> cases b 4 <;> rfl) rfl rfl rfl (EOps.nil ?_)
                first | exact ⟨(), trivial, wk_l (by (repeat' apply And.intro) <;> first | exact trivial | exact .inl rfl)⟩ | exact ⟨(), trivial, wk_of rfl rfl (by (repeat' apply And.intro) <;> first | exact trivial | exact .inl rfl) (by (repeat' apply And.intro) <;> first | exact trivial | exact .inl rfl)⟩
              · have fF4 : b 4 = false := hcl 4 _ rfl 0 _ rfl rfl hb
                have fF5 : b 5 = false := hcl 5 _ rfl 0 _ rfl rfl fF4
                have fF6 : b 6 = false := hcl 6 _ rfl 1 _ rfl rfl fF5
                have fF7 : b 7 = false := hcl 7 _ rfl 2 _ rfl rfl hb
                have fF8 : b 8 = false := hcl 8 _ rfl 0 _ rfl rfl fF7
                simp only [upB_eq, ↓reduceIte, Nat.reduceEqDiff, hb, cond_true, cond_false, fF4, fF5, fF6, fF7, fF8]
                refine rn T 99 [] ?_
                first | exact ⟨(), trivial, wk_l (by (repeat' apply And.intro) <;> first | exact trivial | exact .inl rfl)⟩ | exact ⟨(), trivial, wk_of rfl rfl (by (repeat' apply And.intro) <;> first | exact trivial | exact .inl rfl) (by (repeat' apply And.intro) <;> first | exact trivial | exact .inl rfl)⟩
              · have fF4 : b 4 = false := hcl 4 _ rfl 1 _ rfl rfl hb
                have fF5 : b 5 = false := hcl 5 _ rfl 0 _ rfl rfl fF4
                have fF6 : b 6 = false := hcl 6 _ rfl 1 _ rfl rfl fF5
                have fF7 : b 7 = false := hcl 7 _ rfl 3 _ rfl rfl hb
                have fF8 : b 8 = false := hcl 8 _ rfl 0 _ rfl rfl fF7
                simp only [upB_eq, ↓reduceIte, Nat.reduceEqDiff, hb, cond_true, cond_false, fF4, fF5, fF6, fF7, fF8]
                refine rn T 99 [] ?_
                first | exact ⟨(), trivial, wk_l (by (repeat' apply And.intro) <;> first | exact trivial | exact .inl rfl)⟩ | exact ⟨(), trivial, wk_of rfl rfl (by (repeat' apply And.intro) <;> first | exact trivial | exact .inl rfl) (by (repeat' apply And.intro) <;> first | exact trivial | exact .inl rfl)⟩
              · have fT3 : b 3 = true := hd 1 _ rfl rfl
                have fT2 : b 2 = true := hd 0 _ rfl rfl
                have fF5 : b 5 = false := hcl 5 _ rfl 0 _ rfl rfl hb
                have fF6 : b 6 = false := hcl 6 _ rfl 1 _ rfl rfl fF5
                have fF7 : b 7 = false := hcl 7 _ rfl 4 _ rfl rfl hb
                have fF8 : b 8 = false := hcl 8 _ rfl 0 _ rfl rfl fF7
                simp only [upB_eq, ↓reduceIte, Nat.reduceEqDiff, hb, cond_true, cond_false, fT3, fT2, fF5, fF6, fF7, fF8]
                refine EOps.cg [] [] [] [.ag [.p (pi k1), .p (pi m1), .p (ps s1), .p (.row 1 (p1.map pi)), .p (.row 5 (([] : List Mn).map eM))], .fn 49 []] [.p (pm ⟨k1, m1, s1, p1, ([] : List Mn)⟩), .fn 49 []] hcall rfl rfl rfl ⟨.inl (.inl ⟨_, rfl, by (repeat' apply And.intro) <;> first | trivial | rfl⟩), .inl (.inr rfl), trivial⟩ rfl rfl (by simp) (by decide) (by cases b 0 <;> cases b 1 <;> rfl) (by rintro _ _ ⟨rfl, rfl⟩; exact ⟨by simp, rfl⟩) ?_
                rintro _ _ ⟨rfl, rfl⟩
                refine EOps.nil ?_
                first | exact ⟨(), trivial, wk_l (by (repeat' apply And.intro) <;> first | exact trivial | exact .inl rfl)⟩ | exact ⟨(), trivial, wk_of rfl rfl (by (repeat' apply And.intro) <;> first | exact trivial | exact .inl rfl) (by (repeat' apply And.intro) <;> first | exact trivial | exact .inl rfl)⟩
              · have fT4 : b 4 = true := hd 0 _ rfl rfl
                have fT3 : b 3 = true := by
                  cases h : b 3 with
                  | true => rfl
                  | false => rw [hcl 4 _ rfl 1 _ rfl rfl h] at fT4; cases fT4
                have fT2 : b 2 = true := by
                  cases h : b 2 with
                  | true => rfl
                  | false => rw [hcl 4 _ rfl 0 _ rfl rfl h] at fT4; cases fT4
                have fF6 : b 6 = false := hcl 6 _ rfl 1 _ rfl rfl hb
                have fF7 : b 7 = false := hcl 7 _ rfl 5 _ rfl rfl hb
                have fF8 : b 8 = false := hcl 8 _ rfl 0 _ rfl rfl fF7
                simp only [upB_eq, ↓reduceIte, Nat.reduceEqDiff, hb, cond_true, cond_false, fT4, fT3, fT2, fF6, fF7, fF8]
                refine EOps.bs T [] (e := 28) (z := 5) (b := true) (vs := [.p (pm ⟨k1, m1, s1, p1, []⟩)]) rfl rfl rfl rfl rfl (by decide) rfl (fun v hv => by obtain rfl := List.mem_singleton.1 hv; exact ⟨trivial, rfl, fun x hx => by simp [tcells] at hx; rcases hx with rfl | rfl | rfl | rfl | rfl <;> first | exact .p | exact .vw (List.mem_cons_self ..)⟩) (by cases b 0 <;> cases b 1 <;> rfl) (fun m hm => by simp at hm; try (subst hm; trivial)) (EOps.nil ?_)
                first | exact ⟨(), trivial, wk_l (by (repeat' apply And.intro) <;> first | exact trivial | exact .inl rfl)⟩ | exact ⟨(), trivial, wk_of rfl rfl (by (repeat' apply And.intro) <;> first | exact trivial | exact .inl rfl) (by (repeat' apply And.intro) <;> first | exact trivial | exact .inl rfl)⟩
              · have fT5 : b 5 = true := hd 1 _ rfl rfl
                have fT4 : b 4 = true := hd 2 _ rfl rfl
                have fT3 : b 3 = true := by
                  cases h : b 3 with
                  | true => rfl
                  | false => rw [hcl 4 _ rfl 1 _ rfl rfl h] at fT4; cases fT4
                have fT2 : b 2 = true := by
                  cases h : b 2 with
                  | true => rfl
                  | false => rw [hcl 4 _ rfl 0 _ rfl rfl h] at fT4; cases fT4
                have fT1 : b 1 = true := hd 0 _ rfl rfl
                have fT0 : b 0 = true := by
                  cases h : b 0 with
                  | true => rfl
                  | false => rw [hcl 1 _ rfl 0 _ rfl rfl h] at fT1; cases fT1
                have fF7 : b 7 = false := hcl 7 _ rfl 6 _ rfl rfl hb
                have fF8 : b 8 = false := hcl 8 _ rfl 0 _ rfl rfl fF7
                simp only [upB_eq, ↓reduceIte, Nat.reduceEqDiff, hb, cond_true, cond_false, fT5, fT4, fT3, fT2, fT1, fT0, fF7, fF8]
                refine EOps.ap T [] (nm := .L 36) (ys := [tcells (.p (pm ⟨k1, m1, s1, p1, []⟩))]) (xs := ocs ((l.take (i + 1)).map (ownN n))) (ks := []) rfl rfl rfl rfl rfl rfl rfl rfl rfl (by decide) hln (.inr ⟨.L 35, 1, 28, [], rfl, rfl, rfl, fun y hy => by simp [tcells] at hy; rcases hy with rfl | rfl | rfl | rfl | rfl <;> trivial⟩) (fun m hm => by cases hm) (fun y hy => by simp [tcells] at hy; rcases hy with rfl | rfl | rfl | rfl | rfl <;> first | exact .p | exact .vw (List.mem_cons_self ..)) (fun m hm => by simp at hm; try (subst hm; trivial)) (fun j hj => by cases hj) (by rw [hln]; exact Nat.le_trans (Nat.mul_le_mul_right _ (show i + 1 + 1 ≤ 2 by omega)) (by decide)) (EOps.nil ?_); rw [hln]
                first | exact ⟨(), trivial, wk_l (by (repeat' apply And.intro) <;> first | exact trivial | exact .inl rfl)⟩ | exact ⟨(), trivial, wk_of rfl rfl (by (repeat' apply And.intro) <;> first | exact trivial | exact .inl rfl) (by (repeat' apply And.intro) <;> first | exact trivial | exact .inl rfl)⟩
              · have fT6 : b 6 = true := hd 6 _ rfl rfl
                have fT5 : b 5 = true := hd 5 _ rfl rfl
                have fT4 : b 4 = true := hd 4 _ rfl rfl
                have fT3 : b 3 = true := hd 3 _ rfl rfl
                have fT2 : b 2 = true := hd 2 _ rfl rfl
                have fT1 : b 1 = true := hd 1 _ rfl rfl
                have fT0 : b 0 = true := hd 0 _ rfl rfl
                have fF8 : b 8 = false := hcl 8 _ rfl 0 _ rfl rfl hb
                simp only [upB_eq, ↓reduceIte, Nat.reduceEqDiff, hb, cond_true, cond_false, fT6, fT5, fT4, fT3, fT2, fT1, fT0, fF8]
                refine rn T 99 [] ?_
                first | exact ⟨(), trivial, wk_l (by (repeat' apply And.intro) <;> first | exact trivial | exact .inl rfl)⟩ | exact ⟨(), trivial, wk_of rfl rfl (by (repeat' apply And.intro) <;> first | exact trivial | exact .inl rfl) (by (repeat' apply And.intro) <;> first | exact trivial | exact .inl rfl)⟩
              · have fT7 : b 7 = true := hd 0 _ rfl rfl
                have fT6 : b 6 = true := hd 1 _ rfl rfl
                have fT5 : b 5 = true := hd 8 _ rfl rfl
                have fT4 : b 4 = true := hd 7 _ rfl rfl
                have fT3 : b 3 = true := hd 6 _ rfl rfl
                have fT2 : b 2 = true := hd 5 _ rfl rfl
                have fT1 : b 1 = true := hd 4 _ rfl rfl
                have fT0 : b 0 = true := hd 3 _ rfl rfl
                simp only [upB_eq, ↓reduceIte, Nat.reduceEqDiff, hb, cond_true, cond_false, fT7, fT6, fT5, fT4, fT3, fT2, fT1, fT0]
                refine rn T 99 [] ?_
                first | exact ⟨(), trivial, wk_l (by (repeat' apply And.intro) <;> first | exact trivial | exact .inl rfl)⟩ | exact ⟨(), trivial, wk_of rfl rfl (by (repeat' apply And.intro) <;> first | exact trivial | exact .inl rfl) (by (repeat' apply And.intro) <;> first | exact trivial | exact .inl rfl)⟩
            · intro b _ hall _
              have fT0 := hall 0 (by decide)
              have fT1 := hall 1 (by decide)
              have fT2 := hall 2 (by decide)
              have fT3 := hall 3 (by decide)
              have fT4 := hall 4 (by decide)
              have fT5 := hall 5 (by decide)
              have fT6 := hall 6 (by decide)
              have fT7 := hall 7 (by decide)
              have fT8 := hall 8 (by decide)
              simp only [cond_true, fT0, fT1, fT2, fT3, fT4, fT5, fT6, fT7, fT8]
              refine op ?_
              refine rn T 99 [] ?_
              rw [hap, wkS (by omega)]
              refine nxt (m2 - 1) (i + 1 + 1) (by omega)
          | cons y1 l1 =>
            obtain ⟨n', rfl, _, _⟩ := okD_inv hkx
            have hcall := hih.2 n' rfl (by intro e; cases e)
            have hap := happ _ rfl
            refine AW.anyD (X := Unit) (fun _ b => MS.mk [(30, bif b 0 then .ptr (.L 5) 4 else .u), (31, bif b 1 then .vw (.L 36) (i + 1) else .u), (32, bif b 2 then .ag [.p (pi k1), .p (pi m1), .p (ps s1), .p (.row 1 (p1.map pi)), .p (.row 5 ((y1 :: l1).map eM))] else .u), (33, bif b 3 then .fn 49 [] else .u), (34, bif b 4 then .ag [.p (pi k1), .p (pi m1), .p (ps s1), .p (.row 1 (p1.map pi)), .vw (.L 101) ((y1 :: l1).map (ownN n')).length] else .u), (35, bif b 5 then .vw (.L 35) 1 else .u), (36, bif b 6 then .vw (.L 36) ((i + 1 : Nat) + 1) else .u), (37, bif b 7 then .ptr (.L 5) 4 else .u), (26, .p (pi (i + 1 : Nat))), (25, .p (pi (l.map eM).length)), (24, .p (.row 5 (l.map eM))), (1, .fn 49 []), (2, .ptr (.L 2) 0), (4, .ptr (.L 4) 0), (5, .ptr (.L 5) 0), (7, .ptr (.L 7) 0)] (40) (bif b 8 then (5, .box 28 [.p (pi k), .p (pi m), .p (ps ⟨#[]⟩), .p (.row 1 (p.map pi)), .vw (.L 36) ((i + 1 : Nat) + 1)]) :: (36, .ow 5 28 [.L 101] (ocs ((l.take (i + 1)).map (ownN (n' + 1))) ++ [tcells (.ag [.p (pi k1), .p (pi m1), .p (ps s1), .p (.row 1 (p1.map pi)), .vw (.L 101) ((y1 :: l1).map (ownN n')).length])])) :: (35, .ow 5 28 [.L 101] [tcells (.ag [.p (pi k1), .p (pi m1), .p (ps s1), .p (.row 1 (p1.map pi)), .vw (.L 101) ((y1 :: l1).map (ownN n')).length])]) :: (101, .ow 5 28 [] (ocs ((y1 :: l1).map (ownN n')))) :: (7, .box 28 [.p (pi k1), .p (pi m1), .p (ps s1), .p (.row 1 (p1.map pi)), .p (.row 5 ((y1 :: l1).map eM))]) :: (4, .box 28 [.p (pi 0), .p (pi 0), .p (ps ⟨#[]⟩), .nil, .nil]) :: [] else (bif b 6 then (36, .ow 5 28 [.L 101] (ocs ((l.take (i + 1)).map (ownN (n' + 1))) ++ [tcells (.ag [.p (pi k1), .p (pi m1), .p (ps s1), .p (.row 1 (p1.map pi)), .vw (.L 101) ((y1 :: l1).map (ownN n')).length])])) :: (35, .ow 5 28 [.L 101] [tcells (.ag [.p (pi k1), .p (pi m1), .p (ps s1), .p (.row 1 (p1.map pi)), .vw (.L 101) ((y1 :: l1).map (ownN n')).length])]) :: (101, .ow 5 28 [] (ocs ((y1 :: l1).map (ownN n')))) :: (7, .box 28 [.p (pi k1), .p (pi m1), .p (ps s1), .p (.row 1 (p1.map pi)), .p (.row 5 ((y1 :: l1).map eM))]) :: (5, .box 28 [.p (pi k), .p (pi m), .p (ps ⟨#[]⟩), .p (.row 1 (p.map pi)), .vw (.L 36) (i + 1)]) :: (4, .box 28 [.p (pi 0), .p (pi 0), .p (ps ⟨#[]⟩), .nil, .nil]) :: [] else (bif b 5 then (35, .ow 5 28 [.L 101] [tcells (.ag [.p (pi k1), .p (pi m1), .p (ps s1), .p (.row 1 (p1.map pi)), .vw (.L 101) ((y1 :: l1).map (ownN n')).length])]) :: (101, .ow 5 28 [] (ocs ((y1 :: l1).map (ownN n')))) :: (7, .box 28 [.p (pi k1), .p (pi m1), .p (ps s1), .p (.row 1 (p1.map pi)), .p (.row 5 ((y1 :: l1).map eM))]) :: (5, .box 28 [.p (pi k), .p (pi m), .p (ps ⟨#[]⟩), .p (.row 1 (p.map pi)), .vw (.L 36) (i + 1)]) :: (4, .box 28 [.p (pi 0), .p (pi 0), .p (ps ⟨#[]⟩), .nil, .nil]) :: [(36, .ow 5 28 [] (ocs ((l.take (i + 1)).map (ownN (n' + 1)))))] else (bif b 4 then (101, .ow 5 28 [] (ocs ((y1 :: l1).map (ownN n')))) :: (7, .box 28 [.p (pi k1), .p (pi m1), .p (ps s1), .p (.row 1 (p1.map pi)), .p (.row 5 ((y1 :: l1).map eM))]) :: (5, .box 28 [.p (pi k), .p (pi m), .p (ps ⟨#[]⟩), .p (.row 1 (p.map pi)), .vw (.L 36) (i + 1)]) :: (4, .box 28 [.p (pi 0), .p (pi 0), .p (ps ⟨#[]⟩), .nil, .nil]) :: [(36, .ow 5 28 [] (ocs ((l.take (i + 1)).map (ownN (n' + 1)))))] else ((7, .box 28 [.p (pi k1), .p (pi m1), .p (ps s1), .p (.row 1 (p1.map pi)), .p (.row 5 ((y1 :: l1).map eM))]) :: (5, .box 28 [.p (pi k), .p (pi m), .p (ps ⟨#[]⟩), .p (.row 1 (p.map pi)), .vw (.L 36) (i + 1)]) :: (4, .box 28 [.p (pi 0), .p (pi 0), .p (ps ⟨#[]⟩), .nil, .nil]) :: [(36, .ow 5 28 [] (ocs ((l.take (i + 1)).map (ownN (n' + 1)))))]))))) ([])) (fun _ _ => True) () trivial (wk_of rfl rfl (by (repeat' apply And.intro) <;> first | exact trivial | exact .inl rfl) (by (repeat' apply And.intro) <;> first | exact trivial | exact .inl rfl)) ?_ (fun τ τ' h q => AW.weak h q) ?_ (by kernel_rfl) rfl (by kernel_rfl)
            · intro b j o1 _ ho1 hb hd hcl _
              have hj : j < 9 := (Array.getElem?_eq_some_iff.1 ho1).1
              rcases (show j = 0 ∨ j = 1 ∨ j = 2 ∨ j = 3 ∨ j = 4 ∨ j = 5 ∨ j = 6 ∨ j = 7 ∨ j = 8 by omega) with rfl | rfl | rfl | rfl | rfl | rfl | rfl | rfl | rfl
              all_goals cases ho1
              all_goals refine Step1.of rfl ?_
              · have fF1 : b 1 = false := hcl 1 _ rfl 0 _ rfl rfl hb
                have fF6 : b 6 = false := hcl 6 _ rfl 0 _ rfl rfl fF1
                have fF7 : b 7 = false := hcl 7 _ rfl 0 _ rfl rfl hb
                have fF8 : b 8 = false := hcl 8 _ rfl 0 _ rfl rfl fF7
                simp only [upB_eq, ↓reduceIte, Nat.reduceEqDiff, hb, cond_true, cond_false, fF1, fF6, fF7, fF8]
                refine rn T 99 [] ?_
                first | exact ⟨(), trivial, wk_l (by (repeat' apply And.intro) <;> first | exact trivial | exact .inl rfl)⟩ | exact ⟨(), trivial, wk_of rfl rfl (by (repeat' apply And.intro) <;> first | exact trivial | exact .inl rfl) (by (repeat' apply And.intro) <;> first | exact trivial | exact .inl rfl)⟩
              · have fT0 : b 0 = true := hd 0 _ rfl rfl
                have fF6 : b 6 = false := hcl 6 _ rfl 0 _ rfl rfl hb
                have fF7 : b 7 = false := hcl 7 _ rfl 1 _ rfl rfl hb
                have fF8 : b 8 = false := hcl 8 _ rfl 0 _ rfl rfl fF7
                simp only [upB_eq, ↓reduceIte, Nat.reduceEqDiff, hb, cond_true, cond_false, fT0, fF6, fF7, fF8]
                refine EOps.ldC T rfl (m := 5) (off := 4) (t' := 28) (c := [.p (pi k), .p (pi m), .p (ps ⟨#[]⟩), .p (.row 1 (p.map pi)), .vw (.L 36) (i + 1)]) (v := .vw (.L 36) (i + 1)) rfl (by cases b 5 <;> cases b 4 <;> rfl) rfl rfl rfl (EOps.nil ?_)
                first | exact ⟨(), trivial, wk_l (by (repeat' apply And.intro) <;> first | exact trivial | exact .inl rfl)⟩ | exact ⟨(), trivial, wk_of rfl rfl (by (repeat' apply And.intro) <;> first | exact trivial | exact .inl rfl) (by (repeat' apply And.intro) <;> first | exact trivial | exact .inl rfl)⟩
              · have fF4 : b 4 = false := hcl 4 _ rfl 0 _ rfl rfl hb
                have fF5 : b 5 = false := hcl 5 _ rfl 0 _ rfl rfl fF4
                have fF6 : b 6 = false := hcl 6 _ rfl 1 _ rfl rfl fF5
                have fF7 : b 7 = false := hcl 7 _ rfl 2 _ rfl rfl hb
                have fF8 : b 8 = false := hcl 8 _ rfl 0 _ rfl rfl fF7
                simp only [upB_eq, ↓reduceIte, Nat.reduceEqDiff, hb, cond_true, cond_false, fF4, fF5, fF6, fF7, fF8]
                refine rn T 99 [] ?_
                first | exact ⟨(), trivial, wk_l (by (repeat' apply And.intro) <;> first | exact trivial | exact .inl rfl)⟩ | exact ⟨(), trivial, wk_of rfl rfl (by (repeat' apply And.intro) <;> first | exact trivial | exact .inl rfl) (by (repeat' apply And.intro) <;> first | exact trivial | exact .inl rfl)⟩
              · have fF4 : b 4 = false := hcl 4 _ rfl 1 _ rfl rfl hb
                have fF5 : b 5 = false := hcl 5 _ rfl 0 _ rfl rfl fF4
                have fF6 : b 6 = false := hcl 6 _ rfl 1 _ rfl rfl fF5
                have fF7 : b 7 = false := hcl 7 _ rfl 3 _ rfl rfl hb
                have fF8 : b 8 = false := hcl 8 _ rfl 0 _ rfl rfl fF7
                simp only [upB_eq, ↓reduceIte, Nat.reduceEqDiff, hb, cond_true, cond_false, fF4, fF5, fF6, fF7, fF8]
                refine rn T 99 [] ?_
                first | exact ⟨(), trivial, wk_l (by (repeat' apply And.intro) <;> first | exact trivial | exact .inl rfl)⟩ | exact ⟨(), trivial, wk_of rfl rfl (by (repeat' apply And.intro) <;> first | exact trivial | exact .inl rfl) (by (repeat' apply And.intro) <;> first | exact trivial | exact .inl rfl)⟩
              · have fT3 : b 3 = true := hd 1 _ rfl rfl
                have fT2 : b 2 = true := hd 0 _ rfl rfl
                have fF5 : b 5 = false := hcl 5 _ rfl 0 _ rfl rfl hb
                have fF6 : b 6 = false := hcl 6 _ rfl 1 _ rfl rfl fF5
                have fF7 : b 7 = false := hcl 7 _ rfl 4 _ rfl rfl hb
                have fF8 : b 8 = false := hcl 8 _ rfl 0 _ rfl rfl fF7
                simp only [upB_eq, ↓reduceIte, Nat.reduceEqDiff, hb, cond_true, cond_false, fT3, fT2, fF5, fF6, fF7, fF8]
                refine EOps.cg [] [101] [] [.ag [.p (pi k1), .p (pi m1), .p (ps s1), .p (.row 1 (p1.map pi)), .p (.row 5 ((y1 :: l1).map eM))], .fn 49 []] [.p (pm ⟨k1, m1, s1, p1, (y1 :: l1)⟩), .fn 49 []] hcall rfl rfl rfl ⟨.inl (.inl ⟨_, rfl, by (repeat' apply And.intro) <;> first | trivial | rfl⟩), .inl (.inr rfl), trivial⟩ rfl rfl (by simp) (by decide) (by cases b 0 <;> cases b 1 <;> rfl) (by rintro _ _ ⟨rfl, rfl⟩; exact ⟨by simp [cloO], rfl⟩) ?_
                rintro _ _ ⟨rfl, rfl⟩
                refine EOps.nil ?_
                first | exact ⟨(), trivial, wk_l (by (repeat' apply And.intro) <;> first | exact trivial | exact .inl rfl)⟩ | exact ⟨(), trivial, wk_of rfl rfl (by (repeat' apply And.intro) <;> first | exact trivial | exact .inl rfl) (by (repeat' apply And.intro) <;> first | exact trivial | exact .inl rfl)⟩
              · have fT4 : b 4 = true := hd 0 _ rfl rfl
                have fT3 : b 3 = true := by
                  cases h : b 3 with
                  | true => rfl
                  | false => rw [hcl 4 _ rfl 1 _ rfl rfl h] at fT4; cases fT4
                have fT2 : b 2 = true := by
                  cases h : b 2 with
                  | true => rfl
                  | false => rw [hcl 4 _ rfl 0 _ rfl rfl h] at fT4; cases fT4
                have fF6 : b 6 = false := hcl 6 _ rfl 1 _ rfl rfl hb
                have fF7 : b 7 = false := hcl 7 _ rfl 5 _ rfl rfl hb
                have fF8 : b 8 = false := hcl 8 _ rfl 0 _ rfl rfl fF7
                simp only [upB_eq, ↓reduceIte, Nat.reduceEqDiff, hb, cond_true, cond_false, fT4, fT3, fT2, fF6, fF7, fF8]
                refine EOps.bs T [.L 101] (e := 28) (z := 5) (b := true) (vs := [.ag [.p (pi k1), .p (pi m1), .p (ps s1), .p (.row 1 (p1.map pi)), .vw (.L 101) ((y1 :: l1).map (ownN n')).length]]) rfl rfl rfl rfl rfl (by decide) rfl (fun v hv => by obtain rfl := List.mem_singleton.1 hv; exact ⟨trivial, rfl, fun x hx => by simp [tcells] at hx; rcases hx with rfl | rfl | rfl | rfl | rfl <;> first | exact .p | exact .vw (List.mem_cons_self ..)⟩) (by cases b 0 <;> cases b 1 <;> rfl) (fun m hm => by simp at hm; try (subst hm; trivial)) (EOps.nil ?_)
                first | exact ⟨(), trivial, wk_l (by (repeat' apply And.intro) <;> first | exact trivial | exact .inl rfl)⟩ | exact ⟨(), trivial, wk_of rfl rfl (by (repeat' apply And.intro) <;> first | exact trivial | exact .inl rfl) (by (repeat' apply And.intro) <;> first | exact trivial | exact .inl rfl)⟩
              · have fT5 : b 5 = true := hd 1 _ rfl rfl
                have fT4 : b 4 = true := hd 2 _ rfl rfl
                have fT3 : b 3 = true := by
                  cases h : b 3 with
                  | true => rfl
                  | false => rw [hcl 4 _ rfl 1 _ rfl rfl h] at fT4; cases fT4
                have fT2 : b 2 = true := by
                  cases h : b 2 with
                  | true => rfl
                  | false => rw [hcl 4 _ rfl 0 _ rfl rfl h] at fT4; cases fT4
                have fT1 : b 1 = true := hd 0 _ rfl rfl
                have fT0 : b 0 = true := by
                  cases h : b 0 with
                  | true => rfl
                  | false => rw [hcl 1 _ rfl 0 _ rfl rfl h] at fT1; cases fT1
                have fF7 : b 7 = false := hcl 7 _ rfl 6 _ rfl rfl hb
                have fF8 : b 8 = false := hcl 8 _ rfl 0 _ rfl rfl fF7
                simp only [upB_eq, ↓reduceIte, Nat.reduceEqDiff, hb, cond_true, cond_false, fT5, fT4, fT3, fT2, fT1, fT0, fF7, fF8]
                refine EOps.ap T [.L 101] (nm := .L 36) (ys := [tcells (.ag [.p (pi k1), .p (pi m1), .p (ps s1), .p (.row 1 (p1.map pi)), .vw (.L 101) ((y1 :: l1).map (ownN n')).length])]) (xs := ocs ((l.take (i + 1)).map (ownN (n' + 1)))) (ks := []) rfl rfl rfl rfl rfl rfl rfl rfl rfl (by decide) hln (.inr ⟨.L 35, 1, 28, [.L 101], rfl, rfl, rfl, fun y hy => by simp [tcells] at hy; rcases hy with rfl | rfl | rfl | rfl | rfl <;> trivial⟩) (fun m hm => by cases hm) (fun y hy => by simp [tcells] at hy; rcases hy with rfl | rfl | rfl | rfl | rfl <;> first | exact .p | exact .vw (List.mem_cons_self ..)) (fun m hm => by simp at hm; try (subst hm; trivial)) (fun j hj => by cases hj) (by rw [hln]; exact Nat.le_trans (Nat.mul_le_mul_right _ (show i + 1 + 1 ≤ 2 by omega)) (by decide)) (EOps.nil ?_); rw [hln]
                first | exact ⟨(), trivial, wk_l (by (repeat' apply And.intro) <;> first | exact trivial | exact .inl rfl)⟩ | exact ⟨(), trivial, wk_of rfl rfl (by (repeat' apply And.intro) <;> first | exact trivial | exact .inl rfl) (by (repeat' apply And.intro) <;> first | exact trivial | exact .inl rfl)⟩
              · have fT6 : b 6 = true := hd 6 _ rfl rfl
                have fT5 : b 5 = true := hd 5 _ rfl rfl
                have fT4 : b 4 = true := hd 4 _ rfl rfl
                have fT3 : b 3 = true := hd 3 _ rfl rfl
                have fT2 : b 2 = true := hd 2 _ rfl rfl
                have fT1 : b 1 = true := hd 1 _ rfl rfl
                have fT0 : b 0 = true := hd 0 _ rfl rfl
                have fF8 : b 8 = false := hcl 8 _ rfl 0 _ rfl rfl hb
                simp only [upB_eq, ↓reduceIte, Nat.reduceEqDiff, hb, cond_true, cond_false, fT6, fT5, fT4, fT3, fT2, fT1, fT0, fF8]
                refine rn T 99 [] ?_
                first | exact ⟨(), trivial, wk_l (by (repeat' apply And.intro) <;> first | exact trivial | exact .inl rfl)⟩ | exact ⟨(), trivial, wk_of rfl rfl (by (repeat' apply And.intro) <;> first | exact trivial | exact .inl rfl) (by (repeat' apply And.intro) <;> first | exact trivial | exact .inl rfl)⟩
              · have fT7 : b 7 = true := hd 0 _ rfl rfl
                have fT6 : b 6 = true := hd 1 _ rfl rfl
                have fT5 : b 5 = true := hd 8 _ rfl rfl
                have fT4 : b 4 = true := hd 7 _ rfl rfl
                have fT3 : b 3 = true := hd 6 _ rfl rfl
                have fT2 : b 2 = true := hd 5 _ rfl rfl
                have fT1 : b 1 = true := hd 4 _ rfl rfl
                have fT0 : b 0 = true := hd 3 _ rfl rfl
                simp only [upB_eq, ↓reduceIte, Nat.reduceEqDiff, hb, cond_true, cond_false, fT7, fT6, fT5, fT4, fT3, fT2, fT1, fT0]
                refine rn T 99 [] ?_
                first | exact ⟨(), trivial, wk_l (by (repeat' apply And.intro) <;> first | exact trivial | exact .inl rfl)⟩ | exact ⟨(), trivial, wk_of rfl rfl (by (repeat' apply And.intro) <;> first | exact trivial | exact .inl rfl) (by (repeat' apply And.intro) <;> first | exact trivial | exact .inl rfl)⟩
            · intro b _ hall _
              have fT0 := hall 0 (by decide)
              have fT1 := hall 1 (by decide)
              have fT2 := hall 2 (by decide)
              have fT3 := hall 3 (by decide)
              have fT4 := hall 4 (by decide)
              have fT5 := hall 5 (by decide)
              have fT6 := hall 6 (by decide)
              have fT7 := hall 7 (by decide)
              have fT8 := hall 8 (by decide)
              simp only [cond_true, fT0, fT1, fT2, fT3, fT4, fT5, fT6, fT7, fT8]
              refine op ?_
              refine EOps.absL 36 101 (i + 1) 4 ((l.take (i + 1 + 1)).map (ownN (n' + 1))) rfl rfl rfl rfl (get_last hln _) rfl (by rw [set_last hln]; exact hap) ?_
              refine rn T 99 [] ?_
              rw [wkS (by omega)]
              refine nxt (m2 - 1) (i + 1 + 1) (by omega)
        · refine cfq rfl (by simp; omega) ?_
          have hil : l.take (i + 1) = l := List.take_of_length_le (by omega)
          have hil2 : i + 1 = l.length := by omega
          rw [hil, hil2]
          refine EOps.pub 36 rfl rfl rfl rfl ?_
          refine rn T 99 [] ?_
          refine retL T (xs := [.ag [.p (pi k), .p (pi m), .p (ps ⟨#[]⟩), .p (.row 1 (p.map pi)), .vw (.S 0) l.length]]) rfl ⟨.inl rfl, trivial⟩ (.ag (fun x hx => by simp only [List.mem_cons, List.not_mem_nil, or_false] at hx; rcases hx with rfl | rfl | rfl | rfl | rfl <;> first | exact .p | exact .vw trivial)) ⟨?_, rfl⟩
          show TV.ag [_, _, _, _, .vw (.S 0) l.length] = .ag [_, _, _, _, .vw (.S 0) (l.map (ownN n)).length]
          rw [List.length_map]
          rfl
end Go.Proofs.YtlcmokgnmlklnaaDoor.K
end
section
namespace Go.Proofs.YtlcmokgnmlklnaaDoor.K
open Go Go.RowKit Go.Proofs.YtlcmokgnmlklnaaDoor.En Go.Proofs.YtlcmokgnmlklnaaDoor.Ty Go.Proofs.YtlcmokgnmlklnaaDoor.B
set_option maxRecDepth 100000
set_option linter.unusedSimpArgs false
set_option linter.unusedVariables false
set_option pp.deepTerms false
set_option pp.deepTerms.threshold 8
set_option pp.maxSteps 1000
set_option maxHeartbeats 1000000
theorem termOk0 (G : Nat → Option PV) {H : List AObj} (hH : HSh H) (fid : FuncId) (bd : ByteArray → Bool) (hb : ∀ s, FE Tryd.prog G fid (.p (ps s) :: []) H (RB (bd s) H)) :
    ∀ (n : Nat), n ≤ 1000 → ∀ (t : Mn), FE Tryd.prog G 24 [.p (pm t), .p (pi n), .fn fid []] H (RB (tk (fun s => pw s && bd s) n t) H) := by
  intro n
  induction n with
  | zero =>
    intro _ t
    refine ⟨?_, RB_ne _ hH⟩
    refine bdy Tryd.func24 (fun _ => 0) rfl ?_
    refine rn T 99 [] ?_
    refine rn T 99 [] ?_
    refine cts ?_
    refine rn T 99 [] ?_
    exact ⟨[_], ⟨_, _, rfl, .inl rfl, rfl⟩, .p, rfl, rfl⟩
  | succ n ih =>
    intro hn ⟨k, m, s, p, l⟩
    refine ⟨?_, RB_ne _ hH⟩
    let nmf : ByteArray → Bool := fun s => pw s && bd s
    show FC _ _ _ [.p (.ag [pi k, pi m, ps s, .row 1 (p.map pi), .row 5 (l.map eM)]), _, _] _ _
    refine bdy Tryd.func24 (fun _ => 0) rfl ?_
    refine rn T 99 [] ?_
    refine rn T 99 [] ?_
    refine cfq rfl (by simp; omega) ?_
    refine rn T 99 [] ?_
    refine rn T 99 [] ?_
    refine rn T 99 [] ?_
    by_cases k1 : k = 1
    · subst k1
      refine cts ?_
      repeat' (first | (with_reducible refine n16 ?_) | (with_reducible refine EOps.ci ?_; first | refine EOps.one T [] rfl (by first | exact True.intro | exact ⟨True.intro, True.intro⟩) ?_ | (refine EOps.sp rfl ?_ ?_ <;> intro hc_ <;> rw [hc_] <;> first | replace hc_ := of_decide_eq_true hc_ | replace hc_ := of_decide_eq_false hc_ | replace hc_ := of_decide_eq_false (Eq.mp (Bool.not_eq_true' _) hc_) | replace hc_ := of_decide_eq_true (Eq.mp (Bool.not_eq_false' _) hc_) | skip)))
      all_goals (refine op ?_)
      all_goals (try ((refine cts ?_); (refine rn T 99 [] ?_); (exact ⟨[_], ⟨_, _, rfl, .inl rfl, rfl⟩, .p, RB_of (c := false) (by rw [tk_eq, tkH_1]; refine Bool.eq_false_iff.2 (fun hq => ?_); simp only [Bool.and_eq_true, decide_eq_true_eq] at hq; first | omega | (simp at *; done) | (simp at *; omega) | simp_all | (simp_all; omega)) ⟨rfl, rfl⟩⟩); done))
      by_cases hm : m > 9999
      · refine ctq rfl (by simp [hm]) ?_
        refine rn T 99 [] ?_
        exact ⟨[_], ⟨_, _, rfl, .inl rfl, rfl⟩, .p, RB_of (c := false) (by rw [tk_eq, tkH_1]; refine Bool.eq_false_iff.2 (fun hq => ?_); simp only [Bool.and_eq_true, decide_eq_true_eq] at hq; first | omega | (simp at *; done) | (simp at *; omega) | simp_all | (simp_all; omega)) ⟨rfl, rfl⟩⟩
      · refine cfq rfl (by simp [hm]) ?_
        refine rn T 99 [] ?_
        repeat' (first | (with_reducible refine n16 ?_) | (with_reducible refine EOps.ci ?_; first | refine EOps.one T [] rfl (by first | exact True.intro | exact ⟨True.intro, True.intro⟩) ?_ | (refine EOps.sp rfl ?_ ?_ <;> intro hc_ <;> rw [hc_] <;> first | replace hc_ := of_decide_eq_true hc_ | replace hc_ := of_decide_eq_false hc_ | replace hc_ := of_decide_eq_false (Eq.mp (Bool.not_eq_true' _) hc_) | replace hc_ := of_decide_eq_true (Eq.mp (Bool.not_eq_false' _) hc_) | skip)))
        all_goals (refine op ?_)
        all_goals (try ((refine cts ?_); (refine rn T 99 [] ?_); (exact ⟨[_], ⟨_, _, rfl, .inl rfl, rfl⟩, .p, RB_of (c := false) (by rw [tk_eq, tkH_1]; refine Bool.eq_false_iff.2 (fun hq => ?_); simp only [Bool.and_eq_true, decide_eq_true_eq] at hq; first | omega | (simp at *; done) | (simp at *; omega) | simp_all | (simp_all; omega)) ⟨rfl, rfl⟩⟩); done))
        by_cases hk : l.length = 0
        · refine cfq rfl (by simp [hk]) ?_
          refine rn T 99 [] ?_
          refine lpw (fun i : Nat => MS.mk [(82, .p (pi i)), (81, .p (pi (l.map eM).length)), (80, .p (.row 5 (l.map eM))), (2, .fn fid []), (1, .p (pi (n + 1 : Nat)))] 93 [] H) (fun m i => m + i = l.length ∧ (l.drop i).all (tk nmf n) = l.all (tk nmf n)) (l.length) (0) (by simp) ?_
          intro m2 i ⟨h1, h2⟩
          refine op ?_
          refine rn T 99 [] ?_
          by_cases hi : i < l.length
          · obtain ⟨x, hx, hd⟩ := drop_ix hi
            rw [hd, List.all_cons] at h2
            refine ctq rfl (by simp [hi]) ?_
            refine rn T 99 [pm x] ?_
            refine rn T 99 [] ?_
            rw [wkP (by omega)]
            refine hes (ih (by omega) x) ?_; rintro _ _ ⟨rfl, rfl⟩ _ _; refine op ?_
            refine rn T 99 [] ?_
            cases hx2 : tk nmf n x with
            | false =>
              refine ctq rfl (by simp [nmf] at hx2; simp [hx2]) ?_
              refine rn T 99 [] ?_
              exact ⟨[_], ⟨_, _, rfl, .inl rfl, rfl⟩, .p, RB_of (c := false) (by rw [tk_eq, ← h2, hx2]; simp) ⟨rfl, rfl⟩⟩
            | true =>
              rw [hx2, Bool.true_and] at h2
              refine cfq rfl (by simp [nmf] at hx2; simp [hx2]) ?_
              refine rn T 99 [] ?_
              rw [wkS (by omega)]
              refine nxt (m2 - 1) (i + 1) (⟨by omega, h2⟩)
          · refine cfq rfl (by simp [hi]) ?_
            refine rn T 99 [] ?_
            exact ⟨[_], ⟨_, _, rfl, .inl rfl, rfl⟩, .p, RB_of (c := true) (by rw [tk_eq, tkH_1, ← h2, List.drop_eq_nil_of_le (by omega)]; simp only [List.all_nil, Bool.and_true, Bool.and_eq_true, decide_eq_true_eq]; (repeat' apply And.intro) <;> first | omega | assumption | (simp at *; assumption) | (simp at *; omega) | (simp_all; done) | (simp_all; omega)) ⟨rfl, rfl⟩⟩
        · refine ctq rfl (by simp only [List.length_map, bne_iff_ne, ne_eq]; omega) ?_
          refine rn T 99 [] ?_
          exact ⟨[_], ⟨_, _, rfl, .inl rfl, rfl⟩, .p, RB_of (c := false) (by rw [tk_eq, tkH_1]; refine Bool.eq_false_iff.2 (fun hq => ?_); simp only [Bool.and_eq_true, decide_eq_true_eq] at hq; first | omega | (simp at *; done) | (simp at *; omega) | simp_all | (simp_all; omega)) ⟨rfl, rfl⟩⟩
    · refine cfq rfl (by simp [k1]) ?_
      refine rn T 99 [] ?_
      by_cases k2 : k = 2
      · subst k2
        refine cts ?_
        cases hw : pw s with
        | false =>
          have hc := word2 G s
          rw [hw] at hc
          refine rn T 99 [] ?_
          refine pcs (hc) ?_
          refine rn T 99 [] ?_
          refine cts ?_
          refine rn T 99 [] ?_
          exact ⟨[_], ⟨_, _, rfl, .inl rfl, rfl⟩, .p, RB_of (c := false) (by rw [tk_eq, tkH_2]; simp [hw]) ⟨rfl, rfl⟩⟩
        | true =>
          have hc := word2 G s
          rw [hw] at hc
          refine rn T 99 [] ?_
          refine pcs (hc) ?_
          refine rn T 99 [] ?_
          refine hes (hb s) ?_; rintro _ _ ⟨rfl, rfl⟩ _ _; refine op ?_
          refine rn T 99 [] ?_
          cases hbd : bd s with
          | false =>
            refine ctq rfl (by simp [hbd]) ?_
            refine rn T 99 [] ?_
            exact ⟨[_], ⟨_, _, rfl, .inl rfl, rfl⟩, .p, RB_of (c := false) (by rw [tk_eq, tkH_2]; simp [hbd]) ⟨rfl, rfl⟩⟩
          | true =>
            refine cfq rfl (by simp [hbd]) ?_
            refine rn T 99 [] ?_
            repeat' (first | (with_reducible refine n16 ?_) | (with_reducible refine EOps.ci ?_; first | refine EOps.one T [] rfl (by first | exact True.intro | exact ⟨True.intro, True.intro⟩) ?_ | (refine EOps.sp rfl ?_ ?_ <;> intro hc_ <;> rw [hc_] <;> first | replace hc_ := of_decide_eq_true hc_ | replace hc_ := of_decide_eq_false hc_ | replace hc_ := of_decide_eq_false (Eq.mp (Bool.not_eq_true' _) hc_) | replace hc_ := of_decide_eq_true (Eq.mp (Bool.not_eq_false' _) hc_) | skip)))
            all_goals (refine op ?_)
            all_goals (try ((refine cts ?_); (refine rn T 99 [] ?_); (exact ⟨[_], ⟨_, _, rfl, .inl rfl, rfl⟩, .p, RB_of (c := false) (by rw [tk_eq, tkH_2]; refine Bool.eq_false_iff.2 (fun hq => ?_); simp only [Bool.and_eq_true, decide_eq_true_eq] at hq; first | omega | (simp at *; done) | (simp at *; omega) | simp_all | (simp_all; omega)) ⟨rfl, rfl⟩⟩); done))
            by_cases hk : l.length = 0
            · refine cfq rfl (by simp [hk]) ?_
              refine rn T 99 [] ?_
              refine lpw (fun i : Nat => MS.mk [(82, .p (pi i)), (81, .p (pi (l.map eM).length)), (80, .p (.row 5 (l.map eM))), (2, .fn fid []), (1, .p (pi (n + 1 : Nat)))] 93 [] H) (fun m i => m + i = l.length ∧ (l.drop i).all (tk nmf n) = l.all (tk nmf n)) (l.length) (0) (by simp) ?_
              intro m2 i ⟨h1, h2⟩
              refine op ?_
              refine rn T 99 [] ?_
              by_cases hi : i < l.length
              · obtain ⟨x, hx, hd⟩ := drop_ix hi
                rw [hd, List.all_cons] at h2
                refine ctq rfl (by simp [hi]) ?_
                refine rn T 99 [pm x] ?_
                refine rn T 99 [] ?_
                rw [wkP (by omega)]
                refine hes (ih (by omega) x) ?_; rintro _ _ ⟨rfl, rfl⟩ _ _; refine op ?_
                refine rn T 99 [] ?_
                cases hx2 : tk nmf n x with
                | false =>
                  refine ctq rfl (by simp [nmf] at hx2; simp [hx2]) ?_
                  refine rn T 99 [] ?_
                  exact ⟨[_], ⟨_, _, rfl, .inl rfl, rfl⟩, .p, RB_of (c := false) (by rw [tk_eq, ← h2, hx2]; simp) ⟨rfl, rfl⟩⟩
                | true =>
                  rw [hx2, Bool.true_and] at h2
                  refine cfq rfl (by simp [nmf] at hx2; simp [hx2]) ?_
                  refine rn T 99 [] ?_
                  rw [wkS (by omega)]
                  refine nxt (m2 - 1) (i + 1) (⟨by omega, h2⟩)
              · refine cfq rfl (by simp [hi]) ?_
                refine rn T 99 [] ?_
                exact ⟨[_], ⟨_, _, rfl, .inl rfl, rfl⟩, .p, RB_of (c := true) (by rw [tk_eq, tkH_2, ← h2, List.drop_eq_nil_of_le (by omega)]; simp only [List.all_nil, Bool.and_true, Bool.and_eq_true, decide_eq_true_eq]; (repeat' apply And.intro) <;> first | omega | assumption | (simp at *; assumption) | (simp at *; omega) | (simp_all; done) | (simp_all; omega)) ⟨rfl, rfl⟩⟩
            · refine ctq rfl (by simp only [List.length_map, bne_iff_ne, ne_eq]; omega) ?_
              refine rn T 99 [] ?_
              exact ⟨[_], ⟨_, _, rfl, .inl rfl, rfl⟩, .p, RB_of (c := false) (by rw [tk_eq, tkH_2]; refine Bool.eq_false_iff.2 (fun hq => ?_); simp only [Bool.and_eq_true, decide_eq_true_eq] at hq; first | omega | (simp at *; done) | (simp at *; omega) | simp_all | (simp_all; omega)) ⟨rfl, rfl⟩⟩
      · refine cfq rfl (by simp [k2]) ?_
        refine rn T 99 [] ?_
        by_cases k3 : k = 3 ∨ k = 4 ∨ k = 5 ∨ k = 6
        · rcases k3 with rfl | rfl | rfl | rfl
          · refine cts ?_
            refine cts ?_
            refine rn T 99 [] ?_
            repeat' (first | (with_reducible refine n16 ?_) | (with_reducible refine EOps.ci ?_; first | refine EOps.one T [] rfl (by first | exact True.intro | exact ⟨True.intro, True.intro⟩) ?_ | (refine EOps.sp rfl ?_ ?_ <;> intro hc_ <;> rw [hc_] <;> first | replace hc_ := of_decide_eq_true hc_ | replace hc_ := of_decide_eq_false hc_ | replace hc_ := of_decide_eq_false (Eq.mp (Bool.not_eq_true' _) hc_) | replace hc_ := of_decide_eq_true (Eq.mp (Bool.not_eq_false' _) hc_) | skip)))
            all_goals (refine op ?_)
            all_goals (try ((refine cts ?_); (refine rn T 99 [] ?_); (exact ⟨[_], ⟨_, _, rfl, .inl rfl, rfl⟩, .p, RB_of (c := false) (by rw [tk_eq, tkH_3 _ 3 m s p l (by decide)]; refine Bool.eq_false_iff.2 (fun hq => ?_); simp only [Bool.and_eq_true, decide_eq_true_eq] at hq; first | omega | (simp at *; done) | (simp at *; omega) | simp_all | (simp_all; omega)) ⟨rfl, rfl⟩⟩); done))
            by_cases hk : l.length = 2
            · refine cfq rfl (by simp [hk]) ?_
              refine rn T 99 [] ?_
              refine lpw (fun i : Nat => MS.mk [(82, .p (pi i)), (81, .p (pi (l.map eM).length)), (80, .p (.row 5 (l.map eM))), (2, .fn fid []), (1, .p (pi (n + 1 : Nat)))] 93 [] H) (fun m i => m + i = l.length ∧ (l.drop i).all (tk nmf n) = l.all (tk nmf n)) (l.length) (0) (by simp) ?_
              intro m2 i ⟨h1, h2⟩
              refine op ?_
              refine rn T 99 [] ?_
              by_cases hi : i < l.length
              · obtain ⟨x, hx, hd⟩ := drop_ix hi
                rw [hd, List.all_cons] at h2
                refine ctq rfl (by simp [hi]) ?_
                refine rn T 99 [pm x] ?_
                refine rn T 99 [] ?_
                rw [wkP (by omega)]
                refine hes (ih (by omega) x) ?_; rintro _ _ ⟨rfl, rfl⟩ _ _; refine op ?_
                refine rn T 99 [] ?_
                cases hx2 : tk nmf n x with
                | false =>
                  refine ctq rfl (by simp [nmf] at hx2; simp [hx2]) ?_
                  refine rn T 99 [] ?_
                  exact ⟨[_], ⟨_, _, rfl, .inl rfl, rfl⟩, .p, RB_of (c := false) (by rw [tk_eq, ← h2, hx2]; simp) ⟨rfl, rfl⟩⟩
                | true =>
                  rw [hx2, Bool.true_and] at h2
                  refine cfq rfl (by simp [nmf] at hx2; simp [hx2]) ?_
                  refine rn T 99 [] ?_
                  rw [wkS (by omega)]
                  refine nxt (m2 - 1) (i + 1) (⟨by omega, h2⟩)
              · refine cfq rfl (by simp [hi]) ?_
                refine rn T 99 [] ?_
                exact ⟨[_], ⟨_, _, rfl, .inl rfl, rfl⟩, .p, RB_of (c := true) (by rw [tk_eq, tkH_3 _ 3 m s p l (by decide), ← h2, List.drop_eq_nil_of_le (by omega)]; simp only [List.all_nil, Bool.and_true, Bool.and_eq_true, decide_eq_true_eq]; (repeat' apply And.intro) <;> first | omega | assumption | (simp at *; assumption) | (simp at *; omega) | (simp_all; done) | (simp_all; omega)) ⟨rfl, rfl⟩⟩
            · refine ctq rfl (by simp only [List.length_map, bne_iff_ne, ne_eq]; omega) ?_
              refine rn T 99 [] ?_
              exact ⟨[_], ⟨_, _, rfl, .inl rfl, rfl⟩, .p, RB_of (c := false) (by rw [tk_eq, tkH_3 _ 3 m s p l (by decide)]; refine Bool.eq_false_iff.2 (fun hq => ?_); simp only [Bool.and_eq_true, decide_eq_true_eq] at hq; first | omega | (simp at *; done) | (simp at *; omega) | simp_all | (simp_all; omega)) ⟨rfl, rfl⟩⟩
          · refine cfs ?_
            refine rn T 99 [] ?_
            refine cts ?_
            refine cts ?_
            refine rn T 99 [] ?_
            repeat' (first | (with_reducible refine n16 ?_) | (with_reducible refine EOps.ci ?_; first | refine EOps.one T [] rfl (by first | exact True.intro | exact ⟨True.intro, True.intro⟩) ?_ | (refine EOps.sp rfl ?_ ?_ <;> intro hc_ <;> rw [hc_] <;> first | replace hc_ := of_decide_eq_true hc_ | replace hc_ := of_decide_eq_false hc_ | replace hc_ := of_decide_eq_false (Eq.mp (Bool.not_eq_true' _) hc_) | replace hc_ := of_decide_eq_true (Eq.mp (Bool.not_eq_false' _) hc_) | skip)))
            all_goals (refine op ?_)
            all_goals (try ((refine cts ?_); (refine rn T 99 [] ?_); (exact ⟨[_], ⟨_, _, rfl, .inl rfl, rfl⟩, .p, RB_of (c := false) (by rw [tk_eq, tkH_3 _ 4 m s p l (by decide)]; refine Bool.eq_false_iff.2 (fun hq => ?_); simp only [Bool.and_eq_true, decide_eq_true_eq] at hq; first | omega | (simp at *; done) | (simp at *; omega) | simp_all | (simp_all; omega)) ⟨rfl, rfl⟩⟩); done))
            by_cases hk : l.length = 2
            · refine cfq rfl (by simp [hk]) ?_
              refine rn T 99 [] ?_
              refine lpw (fun i : Nat => MS.mk [(82, .p (pi i)), (81, .p (pi (l.map eM).length)), (80, .p (.row 5 (l.map eM))), (2, .fn fid []), (1, .p (pi (n + 1 : Nat)))] 93 [] H) (fun m i => m + i = l.length ∧ (l.drop i).all (tk nmf n) = l.all (tk nmf n)) (l.length) (0) (by simp) ?_
              intro m2 i ⟨h1, h2⟩
              refine op ?_
              refine rn T 99 [] ?_
              by_cases hi : i < l.length
              · obtain ⟨x, hx, hd⟩ := drop_ix hi
                rw [hd, List.all_cons] at h2
                refine ctq rfl (by simp [hi]) ?_
                refine rn T 99 [pm x] ?_
                refine rn T 99 [] ?_
                rw [wkP (by omega)]
                refine hes (ih (by omega) x) ?_; rintro _ _ ⟨rfl, rfl⟩ _ _; refine op ?_
                refine rn T 99 [] ?_
                cases hx2 : tk nmf n x with
                | false =>
                  refine ctq rfl (by simp [nmf] at hx2; simp [hx2]) ?_
                  refine rn T 99 [] ?_
                  exact ⟨[_], ⟨_, _, rfl, .inl rfl, rfl⟩, .p, RB_of (c := false) (by rw [tk_eq, ← h2, hx2]; simp) ⟨rfl, rfl⟩⟩
                | true =>
                  rw [hx2, Bool.true_and] at h2
                  refine cfq rfl (by simp [nmf] at hx2; simp [hx2]) ?_
                  refine rn T 99 [] ?_
                  rw [wkS (by omega)]
                  refine nxt (m2 - 1) (i + 1) (⟨by omega, h2⟩)
              · refine cfq rfl (by simp [hi]) ?_
                refine rn T 99 [] ?_
                exact ⟨[_], ⟨_, _, rfl, .inl rfl, rfl⟩, .p, RB_of (c := true) (by rw [tk_eq, tkH_3 _ 4 m s p l (by decide), ← h2, List.drop_eq_nil_of_le (by omega)]; simp only [List.all_nil, Bool.and_true, Bool.and_eq_true, decide_eq_true_eq]; (repeat' apply And.intro) <;> first | omega | assumption | (simp at *; assumption) | (simp at *; omega) | (simp_all; done) | (simp_all; omega)) ⟨rfl, rfl⟩⟩
            · refine ctq rfl (by simp only [List.length_map, bne_iff_ne, ne_eq]; omega) ?_
              refine rn T 99 [] ?_
              exact ⟨[_], ⟨_, _, rfl, .inl rfl, rfl⟩, .p, RB_of (c := false) (by rw [tk_eq, tkH_3 _ 4 m s p l (by decide)]; refine Bool.eq_false_iff.2 (fun hq => ?_); simp only [Bool.and_eq_true, decide_eq_true_eq] at hq; first | omega | (simp at *; done) | (simp at *; omega) | simp_all | (simp_all; omega)) ⟨rfl, rfl⟩⟩
          · refine cfs ?_
            refine rn T 99 [] ?_
            refine cfs ?_
            refine rn T 99 [] ?_
            refine cts ?_
            refine cts ?_
            refine rn T 99 [] ?_
            repeat' (first | (with_reducible refine n16 ?_) | (with_reducible refine EOps.ci ?_; first | refine EOps.one T [] rfl (by first | exact True.intro | exact ⟨True.intro, True.intro⟩) ?_ | (refine EOps.sp rfl ?_ ?_ <;> intro hc_ <;> rw [hc_] <;> first | replace hc_ := of_decide_eq_true hc_ | replace hc_ := of_decide_eq_false hc_ | replace hc_ := of_decide_eq_false (Eq.mp (Bool.not_eq_true' _) hc_) | replace hc_ := of_decide_eq_true (Eq.mp (Bool.not_eq_false' _) hc_) | skip)))
            all_goals (refine op ?_)
            all_goals (try ((refine cts ?_); (refine rn T 99 [] ?_); (exact ⟨[_], ⟨_, _, rfl, .inl rfl, rfl⟩, .p, RB_of (c := false) (by rw [tk_eq, tkH_3 _ 5 m s p l (by decide)]; refine Bool.eq_false_iff.2 (fun hq => ?_); simp only [Bool.and_eq_true, decide_eq_true_eq] at hq; first | omega | (simp at *; done) | (simp at *; omega) | simp_all | (simp_all; omega)) ⟨rfl, rfl⟩⟩); done))
            by_cases hk : l.length = 2
            · refine cfq rfl (by simp [hk]) ?_
              refine rn T 99 [] ?_
              refine lpw (fun i : Nat => MS.mk [(82, .p (pi i)), (81, .p (pi (l.map eM).length)), (80, .p (.row 5 (l.map eM))), (2, .fn fid []), (1, .p (pi (n + 1 : Nat)))] 93 [] H) (fun m i => m + i = l.length ∧ (l.drop i).all (tk nmf n) = l.all (tk nmf n)) (l.length) (0) (by simp) ?_
              intro m2 i ⟨h1, h2⟩
              refine op ?_
              refine rn T 99 [] ?_
              by_cases hi : i < l.length
              · obtain ⟨x, hx, hd⟩ := drop_ix hi
                rw [hd, List.all_cons] at h2
                refine ctq rfl (by simp [hi]) ?_
                refine rn T 99 [pm x] ?_
                refine rn T 99 [] ?_
                rw [wkP (by omega)]
                refine hes (ih (by omega) x) ?_; rintro _ _ ⟨rfl, rfl⟩ _ _; refine op ?_
                refine rn T 99 [] ?_
                cases hx2 : tk nmf n x with
                | false =>
                  refine ctq rfl (by simp [nmf] at hx2; simp [hx2]) ?_
                  refine rn T 99 [] ?_
                  exact ⟨[_], ⟨_, _, rfl, .inl rfl, rfl⟩, .p, RB_of (c := false) (by rw [tk_eq, ← h2, hx2]; simp) ⟨rfl, rfl⟩⟩
                | true =>
                  rw [hx2, Bool.true_and] at h2
                  refine cfq rfl (by simp [nmf] at hx2; simp [hx2]) ?_
                  refine rn T 99 [] ?_
                  rw [wkS (by omega)]
                  refine nxt (m2 - 1) (i + 1) (⟨by omega, h2⟩)
              · refine cfq rfl (by simp [hi]) ?_
                refine rn T 99 [] ?_
                exact ⟨[_], ⟨_, _, rfl, .inl rfl, rfl⟩, .p, RB_of (c := true) (by rw [tk_eq, tkH_3 _ 5 m s p l (by decide), ← h2, List.drop_eq_nil_of_le (by omega)]; simp only [List.all_nil, Bool.and_true, Bool.and_eq_true, decide_eq_true_eq]; (repeat' apply And.intro) <;> first | omega | assumption | (simp at *; assumption) | (simp at *; omega) | (simp_all; done) | (simp_all; omega)) ⟨rfl, rfl⟩⟩
            · refine ctq rfl (by simp only [List.length_map, bne_iff_ne, ne_eq]; omega) ?_
              refine rn T 99 [] ?_
              exact ⟨[_], ⟨_, _, rfl, .inl rfl, rfl⟩, .p, RB_of (c := false) (by rw [tk_eq, tkH_3 _ 5 m s p l (by decide)]; refine Bool.eq_false_iff.2 (fun hq => ?_); simp only [Bool.and_eq_true, decide_eq_true_eq] at hq; first | omega | (simp at *; done) | (simp at *; omega) | simp_all | (simp_all; omega)) ⟨rfl, rfl⟩⟩
          · refine cfs ?_
            refine rn T 99 [] ?_
            refine cfs ?_
            refine rn T 99 [] ?_
            refine cfs ?_
            refine rn T 99 [] ?_
            refine cts ?_
            refine rn T 99 [] ?_
            repeat' (first | (with_reducible refine n16 ?_) | (with_reducible refine EOps.ci ?_; first | refine EOps.one T [] rfl (by first | exact True.intro | exact ⟨True.intro, True.intro⟩) ?_ | (refine EOps.sp rfl ?_ ?_ <;> intro hc_ <;> rw [hc_] <;> first | replace hc_ := of_decide_eq_true hc_ | replace hc_ := of_decide_eq_false hc_ | replace hc_ := of_decide_eq_false (Eq.mp (Bool.not_eq_true' _) hc_) | replace hc_ := of_decide_eq_true (Eq.mp (Bool.not_eq_false' _) hc_) | skip)))
            all_goals (refine op ?_)
            all_goals (try ((refine cts ?_); (refine rn T 99 [] ?_); (exact ⟨[_], ⟨_, _, rfl, .inl rfl, rfl⟩, .p, RB_of (c := false) (by rw [tk_eq, tkH_3 _ 6 m s p l (by decide)]; refine Bool.eq_false_iff.2 (fun hq => ?_); simp only [Bool.and_eq_true, decide_eq_true_eq] at hq; first | omega | (simp at *; done) | (simp at *; omega) | simp_all | (simp_all; omega)) ⟨rfl, rfl⟩⟩); done))
            by_cases hk : l.length = 2
            · refine cfq rfl (by simp [hk]) ?_
              refine rn T 99 [] ?_
              refine lpw (fun i : Nat => MS.mk [(82, .p (pi i)), (81, .p (pi (l.map eM).length)), (80, .p (.row 5 (l.map eM))), (2, .fn fid []), (1, .p (pi (n + 1 : Nat)))] 93 [] H) (fun m i => m + i = l.length ∧ (l.drop i).all (tk nmf n) = l.all (tk nmf n)) (l.length) (0) (by simp) ?_
              intro m2 i ⟨h1, h2⟩
              refine op ?_
              refine rn T 99 [] ?_
              by_cases hi : i < l.length
              · obtain ⟨x, hx, hd⟩ := drop_ix hi
                rw [hd, List.all_cons] at h2
                refine ctq rfl (by simp [hi]) ?_
                refine rn T 99 [pm x] ?_
                refine rn T 99 [] ?_
                rw [wkP (by omega)]
                refine hes (ih (by omega) x) ?_; rintro _ _ ⟨rfl, rfl⟩ _ _; refine op ?_
                refine rn T 99 [] ?_
                cases hx2 : tk nmf n x with
                | false =>
                  refine ctq rfl (by simp [nmf] at hx2; simp [hx2]) ?_
                  refine rn T 99 [] ?_
                  exact ⟨[_], ⟨_, _, rfl, .inl rfl, rfl⟩, .p, RB_of (c := false) (by rw [tk_eq, ← h2, hx2]; simp) ⟨rfl, rfl⟩⟩
                | true =>
                  rw [hx2, Bool.true_and] at h2
                  refine cfq rfl (by simp [nmf] at hx2; simp [hx2]) ?_
                  refine rn T 99 [] ?_
                  rw [wkS (by omega)]
                  refine nxt (m2 - 1) (i + 1) (⟨by omega, h2⟩)
              · refine cfq rfl (by simp [hi]) ?_
                refine rn T 99 [] ?_
                exact ⟨[_], ⟨_, _, rfl, .inl rfl, rfl⟩, .p, RB_of (c := true) (by rw [tk_eq, tkH_3 _ 6 m s p l (by decide), ← h2, List.drop_eq_nil_of_le (by omega)]; simp only [List.all_nil, Bool.and_true, Bool.and_eq_true, decide_eq_true_eq]; (repeat' apply And.intro) <;> first | omega | assumption | (simp at *; assumption) | (simp at *; omega) | (simp_all; done) | (simp_all; omega)) ⟨rfl, rfl⟩⟩
            · refine ctq rfl (by simp only [List.length_map, bne_iff_ne, ne_eq]; omega) ?_
              refine rn T 99 [] ?_
              exact ⟨[_], ⟨_, _, rfl, .inl rfl, rfl⟩, .p, RB_of (c := false) (by rw [tk_eq, tkH_3 _ 6 m s p l (by decide)]; refine Bool.eq_false_iff.2 (fun hq => ?_); simp only [Bool.and_eq_true, decide_eq_true_eq] at hq; first | omega | (simp at *; done) | (simp at *; omega) | simp_all | (simp_all; omega)) ⟨rfl, rfl⟩⟩
        · refine cfq rfl (by simp; omega) ?_
          refine rn T 99 [] ?_
          refine cfq rfl (by simp; omega) ?_
          refine rn T 99 [] ?_
          refine cfq rfl (by simp; omega) ?_
          refine rn T 99 [] ?_
          refine cfq rfl (by simp; omega) ?_
          refine rn T 99 [] ?_
          by_cases k7 : k = 7
          · subst k7
            refine cts ?_
            refine cts ?_
            have hc := path2 G p
            cases hp : pathB p with
            | false =>
              rw [hp] at hc
              refine rn T 99 [] ?_
              refine pcs (hc) ?_
              refine rn T 99 [] ?_
              refine cts ?_
              refine rn T 99 [] ?_
              exact ⟨[_], ⟨_, _, rfl, .inl rfl, rfl⟩, .p, RB_of (c := false) (by rw [tk_eq, tkH_7]; simp [hp]) ⟨rfl, rfl⟩⟩
            | true =>
              rw [hp] at hc
              refine rn T 99 [] ?_
              refine pcs (hc) ?_
              refine rn T 99 [] ?_
              refine cfs ?_
              refine rn T 99 [] ?_
              refine rn T 99 [] ?_
              rw [show IntKind.i64.wrap (IntKind.i64.wrap (1 + 7) - 7) = 1 from rfl]
              repeat' (first | (with_reducible refine n16 ?_) | (with_reducible refine EOps.ci ?_; first | refine EOps.one T [] rfl (by first | exact True.intro | exact ⟨True.intro, True.intro⟩) ?_ | (refine EOps.sp rfl ?_ ?_ <;> intro hc_ <;> rw [hc_] <;> first | replace hc_ := of_decide_eq_true hc_ | replace hc_ := of_decide_eq_false hc_ | replace hc_ := of_decide_eq_false (Eq.mp (Bool.not_eq_true' _) hc_) | replace hc_ := of_decide_eq_true (Eq.mp (Bool.not_eq_false' _) hc_) | skip)))
              all_goals (refine op ?_)
              all_goals (try ((refine cts ?_); (refine rn T 99 [] ?_); (exact ⟨[_], ⟨_, _, rfl, .inl rfl, rfl⟩, .p, RB_of (c := false) (by rw [tk_eq, tkH_7]; refine Bool.eq_false_iff.2 (fun hq => ?_); simp only [Bool.and_eq_true, decide_eq_true_eq] at hq; first | omega | (simp at *; done) | (simp at *; omega) | simp_all | (simp_all; omega)) ⟨rfl, rfl⟩⟩); done))
              by_cases hk : l.length = 1
              · refine cfq rfl (by simp [hk]) ?_
                refine rn T 99 [] ?_
                refine lpw (fun i : Nat => MS.mk [(82, .p (pi i)), (81, .p (pi (l.map eM).length)), (80, .p (.row 5 (l.map eM))), (2, .fn fid []), (1, .p (pi (n + 1 : Nat)))] 93 [] H) (fun m i => m + i = l.length ∧ (l.drop i).all (tk nmf n) = l.all (tk nmf n)) (l.length) (0) (by simp) ?_
                intro m2 i ⟨h1, h2⟩
                refine op ?_
                refine rn T 99 [] ?_
                by_cases hi : i < l.length
                · obtain ⟨x, hx, hd⟩ := drop_ix hi
                  rw [hd, List.all_cons] at h2
                  refine ctq rfl (by simp [hi]) ?_
                  refine rn T 99 [pm x] ?_
                  refine rn T 99 [] ?_
                  rw [wkP (by omega)]
                  refine hes (ih (by omega) x) ?_; rintro _ _ ⟨rfl, rfl⟩ _ _; refine op ?_
                  refine rn T 99 [] ?_
                  cases hx2 : tk nmf n x with
                  | false =>
                    refine ctq rfl (by simp [nmf] at hx2; simp [hx2]) ?_
                    refine rn T 99 [] ?_
                    exact ⟨[_], ⟨_, _, rfl, .inl rfl, rfl⟩, .p, RB_of (c := false) (by rw [tk_eq, ← h2, hx2]; simp) ⟨rfl, rfl⟩⟩
                  | true =>
                    rw [hx2, Bool.true_and] at h2
                    refine cfq rfl (by simp [nmf] at hx2; simp [hx2]) ?_
                    refine rn T 99 [] ?_
                    rw [wkS (by omega)]
                    refine nxt (m2 - 1) (i + 1) (⟨by omega, h2⟩)
                · refine cfq rfl (by simp [hi]) ?_
                  refine rn T 99 [] ?_
                  exact ⟨[_], ⟨_, _, rfl, .inl rfl, rfl⟩, .p, RB_of (c := true) (by rw [tk_eq, tkH_7, ← h2, List.drop_eq_nil_of_le (by omega)]; simp only [List.all_nil, Bool.and_true, Bool.and_eq_true, decide_eq_true_eq]; (repeat' apply And.intro) <;> first | omega | assumption | (simp at *; assumption) | (simp at *; omega) | (simp_all; done) | (simp_all; omega)) ⟨rfl, rfl⟩⟩
              · refine ctq rfl (by simp only [List.length_map, bne_iff_ne, ne_eq]; omega) ?_
                refine rn T 99 [] ?_
                exact ⟨[_], ⟨_, _, rfl, .inl rfl, rfl⟩, .p, RB_of (c := false) (by rw [tk_eq, tkH_7]; refine Bool.eq_false_iff.2 (fun hq => ?_); simp only [Bool.and_eq_true, decide_eq_true_eq] at hq; first | omega | (simp at *; done) | (simp at *; omega) | simp_all | (simp_all; omega)) ⟨rfl, rfl⟩⟩
          · refine cfq rfl (by simp [k7]) ?_
            refine rn T 99 [] ?_
            by_cases k8 : k = 8
            · subst k8
              refine cts ?_
              have hc := path2 G p
              cases hp : pathB p with
              | false =>
                rw [hp] at hc
                refine rn T 99 [] ?_
                refine pcs (hc) ?_
                refine rn T 99 [] ?_
                refine cts ?_
                refine rn T 99 [] ?_
                exact ⟨[_], ⟨_, _, rfl, .inl rfl, rfl⟩, .p, RB_of (c := false) (by rw [tk_eq, tkH_8]; simp [hp]) ⟨rfl, rfl⟩⟩
              | true =>
                rw [hp] at hc
                refine rn T 99 [] ?_
                refine pcs (hc) ?_
                refine rn T 99 [] ?_
                refine cfs ?_
                refine rn T 99 [] ?_
                refine rn T 99 [] ?_
                rw [show IntKind.i64.wrap (IntKind.i64.wrap (1 + 8) - 7) = 2 from rfl]
                repeat' (first | (with_reducible refine n16 ?_) | (with_reducible refine EOps.ci ?_; first | refine EOps.one T [] rfl (by first | exact True.intro | exact ⟨True.intro, True.intro⟩) ?_ | (refine EOps.sp rfl ?_ ?_ <;> intro hc_ <;> rw [hc_] <;> first | replace hc_ := of_decide_eq_true hc_ | replace hc_ := of_decide_eq_false hc_ | replace hc_ := of_decide_eq_false (Eq.mp (Bool.not_eq_true' _) hc_) | replace hc_ := of_decide_eq_true (Eq.mp (Bool.not_eq_false' _) hc_) | skip)))
                all_goals (refine op ?_)
                all_goals (try ((refine cts ?_); (refine rn T 99 [] ?_); (exact ⟨[_], ⟨_, _, rfl, .inl rfl, rfl⟩, .p, RB_of (c := false) (by rw [tk_eq, tkH_8]; refine Bool.eq_false_iff.2 (fun hq => ?_); simp only [Bool.and_eq_true, decide_eq_true_eq] at hq; first | omega | (simp at *; done) | (simp at *; omega) | simp_all | (simp_all; omega)) ⟨rfl, rfl⟩⟩); done))
                by_cases hk : l.length = 2
                · refine cfq rfl (by simp [hk]) ?_
                  refine rn T 99 [] ?_
                  refine lpw (fun i : Nat => MS.mk [(82, .p (pi i)), (81, .p (pi (l.map eM).length)), (80, .p (.row 5 (l.map eM))), (2, .fn fid []), (1, .p (pi (n + 1 : Nat)))] 93 [] H) (fun m i => m + i = l.length ∧ (l.drop i).all (tk nmf n) = l.all (tk nmf n)) (l.length) (0) (by simp) ?_
                  intro m2 i ⟨h1, h2⟩
                  refine op ?_
                  refine rn T 99 [] ?_
                  by_cases hi : i < l.length
                  · obtain ⟨x, hx, hd⟩ := drop_ix hi
                    rw [hd, List.all_cons] at h2
                    refine ctq rfl (by simp [hi]) ?_
                    refine rn T 99 [pm x] ?_
                    refine rn T 99 [] ?_
                    rw [wkP (by omega)]
                    refine hes (ih (by omega) x) ?_; rintro _ _ ⟨rfl, rfl⟩ _ _; refine op ?_
                    refine rn T 99 [] ?_
                    cases hx2 : tk nmf n x with
                    | false =>
                      refine ctq rfl (by simp [nmf] at hx2; simp [hx2]) ?_
                      refine rn T 99 [] ?_
                      exact ⟨[_], ⟨_, _, rfl, .inl rfl, rfl⟩, .p, RB_of (c := false) (by rw [tk_eq, ← h2, hx2]; simp) ⟨rfl, rfl⟩⟩
                    | true =>
                      rw [hx2, Bool.true_and] at h2
                      refine cfq rfl (by simp [nmf] at hx2; simp [hx2]) ?_
                      refine rn T 99 [] ?_
                      rw [wkS (by omega)]
                      refine nxt (m2 - 1) (i + 1) (⟨by omega, h2⟩)
                  · refine cfq rfl (by simp [hi]) ?_
                    refine rn T 99 [] ?_
                    exact ⟨[_], ⟨_, _, rfl, .inl rfl, rfl⟩, .p, RB_of (c := true) (by rw [tk_eq, tkH_8, ← h2, List.drop_eq_nil_of_le (by omega)]; simp only [List.all_nil, Bool.and_true, Bool.and_eq_true, decide_eq_true_eq]; (repeat' apply And.intro) <;> first | omega | assumption | (simp at *; assumption) | (simp at *; omega) | (simp_all; done) | (simp_all; omega)) ⟨rfl, rfl⟩⟩
                · refine ctq rfl (by simp only [List.length_map, bne_iff_ne, ne_eq]; omega) ?_
                  refine rn T 99 [] ?_
                  exact ⟨[_], ⟨_, _, rfl, .inl rfl, rfl⟩, .p, RB_of (c := false) (by rw [tk_eq, tkH_8]; refine Bool.eq_false_iff.2 (fun hq => ?_); simp only [Bool.and_eq_true, decide_eq_true_eq] at hq; first | omega | (simp at *; done) | (simp at *; omega) | simp_all | (simp_all; omega)) ⟨rfl, rfl⟩⟩
            · refine cfq rfl (by simp [k8]) ?_
              refine rn T 99 [] ?_
              exact ⟨[_], ⟨_, _, rfl, .inl rfl, rfl⟩, .p, RB_of (c := false) (by rw [tk_eq, tkH_o _ k m s p l k1 k2 k3 k7 k8]; rfl) ⟨rfl, rfl⟩⟩
end Go.Proofs.YtlcmokgnmlklnaaDoor.K
end
section
namespace Go.Proofs.YtlcmokgnmlklnaaDoor.K
open Go Go.RowKit Go.Proofs.YtlcmokgnmlklnaaDoor.En Go.Proofs.YtlcmokgnmlklnaaDoor.Ty Go.Proofs.YtlcmokgnmlklnaaDoor.B
set_option maxRecDepth 100000
set_option linter.unusedSimpArgs false
set_option linter.unusedVariables false
set_option pp.deepTerms false
set_option pp.deepTerms.threshold 8
set_option pp.maxSteps 1000
set_option maxHeartbeats 1000000
theorem frzO : ∀ (n : Nat) (t : Mn), frz (ownN n t) = eM t ∧ okF (ownN n t) = true
  | 0, t => by
    have h := frz_pm t
    rw [eM_eq] at h ⊢
    exact h
  | n + 1, ⟨k, m, s, p, []⟩ => by
    have h := frz_pm ⟨k, m, s, p, []⟩
    rw [eM_eq] at h ⊢
    exact h
  | n + 1, ⟨k, m, s, p, x :: l⟩ => by
    have h := frzO n
    rw [eM_eq, ownN_node]
    constructor
    · show PV.ag [pi k, pi m, ps s, .row 1 (p.map pi), .row 5 (frzs ((x :: l).map (ownN n)))] = .ag [pi k, pi m, ps s, .row 1 (p.map pi), .row 5 ((x :: l).map eM)]
      have e : frzs ((x :: l).map (ownN n)) = (x :: l).map eM := by
        rw [frzs_map, List.map_map]
        exact List.map_congr_left (fun y _ => (h y).1)
      rw [e]
    · show (true && (true && (true && (true && (okFs ((x :: l).map (ownN n)) && true))))) = true
      rw [okFs_all]
      simp only [Bool.true_and, Bool.and_true, List.all_eq_true]
      intro y hy
      obtain ⟨z, _, rfl⟩ := List.mem_map.1 hy
      exact (h z).2
theorem frzOs (n : Nat) (l : List Mn) : (l.map (ownN n)).map frz = l.map eM := by
  rw [List.map_map]
  exact List.map_congr_left (fun t _ => (frzO n t).1)
theorem okOs (n : Nat) (l : List Mn) : okFs (l.map (ownN n)) = true := by
  rw [okFs_all, List.all_eq_true]
  intro y hy
  obtain ⟨t, _, rfl⟩ := List.mem_map.1 hy
  exact (frzO n t).2
theorem dM_okD : ∀ {n : Nat} {t : Mn}, okD n t = true → dM n t = true
  | 0, _, h => by cases h
  | n + 1, ⟨k, m, s, p, l⟩, h => by
    obtain ⟨_, e, hf, hk⟩ := okD_inv h
    cases e
    refine dMl ⟨by cases hf <;> simp, ?_⟩
    rw [List.all_eq_true]
    exact fun x hx => dM_okD (hk x hx)
def sOk (t : Mn) : Mn := if pok 8 (smp 8 t) = true then smp 8 t else t
def simT (t : Mn) : Mn := if tk pw 8 t = true then sOk t else zM
theorem simpOk2 (a : Addr) (t : Mn) (ho : okD 8 t = true) (hpl : mpl t ≤ 50000) : PF Tryd.prog (GT a) 29 [pm t] (.p (pm (sOk t))) := by
  have hc := copyM2 (GT a) 8 t ho hpl
  have hw := whole2 a 8 t ho hpl
  have hs := smp_inv ho
  have cp := paths2 (GT a) 8 (smp 8 t) (dM_okD hs.1)
  obtain ⟨r, hr⟩ : ∃ r, r = smp 8 t := ⟨_, rfl⟩
  have e : sOk t = if pok 8 r = true then r else t := by rw [hr]; rfl
  rw [e]
  rw [← hr] at cp hw
  obtain ⟨k1, m1, s1, p1, l1⟩ := r
  obtain ⟨k, m, s, p, l⟩ := t
  show PF _ _ _ [.ag [pi k, pi m, ps s, .row 1 (p.map pi), .row 5 (l.map eM)]] _
  refine ⟨(by first | exact .p | exact .tp (fun x hx => by simp at hx; rcases hx with rfl | rfl <;> exact .p) | exact .tp (fun x hx => by simp at hx; rcases hx with rfl | rfl | rfl <;> exact .p)), bdy Tryd.func29 (fun _ => 0) rfl ?_⟩
  refine rn T 99 [] ?_
  refine rn T 1 [] ?_
  cases l with
  | nil =>
    have hc := hc.1 rfl
    have hw := hw.1 rfl
    refine EOps.cg [] [] [] [.ag [.p (pi k), .p (pi m), .p (ps s), .p (.row 1 (p.map pi)), .p (.row 5 (([] : List Mn).map eM))], .fn 49 []] [.p (pm ⟨k, m, s, p, []⟩), .fn 49 []] hc rfl rfl rfl ⟨.inl (.inl ⟨_, rfl, by (repeat' apply And.intro) <;> first | trivial | rfl⟩), .inl (.inr rfl), trivial⟩ rfl rfl (by simp) (by decide) rfl (by rintro _ _ ⟨rfl, rfl⟩; exact ⟨by simp, rfl⟩) ?_
    rintro _ _ ⟨rfl, rfl⟩
    refine pcs (hw) ?_
    refine rn T 99 [] ?_
    refine rn T 99 [] ?_
    cases hp : pok 8 ⟨k1, m1, s1, p1, l1⟩ with
    | true =>
      rw [hp] at cp
      rw [if_pos rfl]
      refine pcs (cp) ?_
      refine rn T 99 [] ?_
      refine cfs ?_
      refine rn T 99 [] ?_
      exact ret1 T rfl (by (repeat' apply And.intro) <;> first | trivial | rfl | assumption | omega | exact mT rfl | exact mT (by assumption) | exact mM rfl | exact mM (by assumption) | exact mI (by assumption) | exact mS (by assumption) | exact mU (by assumption) | (simp; done) | (simp [Mn.f0, Mn.f1, Mn.f2, Mn.f3, Mn.f4, Tn.f0]; done) | (simp [*]; done) | (simp [relT, eT_eq, eM_eq, PV.cells, Tn.f0, Mn.f4, *]; done) | (simp; omega)) rfl
    | false =>
      rw [hp] at cp
      rw [if_neg (by simp)]
      refine pcs (cp) ?_
      refine rn T 99 [] ?_
      refine cts ?_
      refine rn T 1 [] ?_
      refine EOps.cg [] [] [] [.ag [.p (pi k), .p (pi m), .p (ps s), .p (.row 1 (p.map pi)), .p (.row 5 (([] : List Mn).map eM))], .fn 49 []] [.p (pm ⟨k, m, s, p, []⟩), .fn 49 []] hc rfl rfl rfl ⟨.inl (.inl ⟨_, rfl, by (repeat' apply And.intro) <;> first | trivial | rfl⟩), .inl (.inr rfl), trivial⟩ rfl rfl (by simp) (by decide) rfl (by rintro _ _ ⟨rfl, rfl⟩; exact ⟨by simp, rfl⟩) ?_
      rintro _ _ ⟨rfl, rfl⟩
      refine rn T 99 [] ?_
      exact ret1 T rfl (by (repeat' apply And.intro) <;> first | trivial | rfl | assumption | omega | exact mT rfl | exact mT (by assumption) | exact mM rfl | exact mM (by assumption) | exact mI (by assumption) | exact mS (by assumption) | exact mU (by assumption) | (simp; done) | (simp [Mn.f0, Mn.f1, Mn.f2, Mn.f3, Mn.f4, Tn.f0]; done) | (simp [*]; done) | (simp [relT, eT_eq, eM_eq, PV.cells, Tn.f0, Mn.f4, *]; done) | (simp; omega)) rfl
  | cons x l =>
    have hc := hc.2 7 rfl (by intro h; cases h)
    have hw := hw.2 7 rfl (by intro h; cases h)
    have hc : FC Tryd.prog (GT a) 48 [.p (pm ⟨k, m, s, p, x :: l⟩), .fn 49 []] [] (fun r H' => r = .ag [.p (pi k), .p (pi m), .p (ps s), .p (.row 1 (p.map pi)), .vw (.S 0) ((x :: l).map eM).length] ∧ H' = [.ow 5 28 [] (ocs ((x :: l).map (ownN 7)))]) := hc.mono (fun r H' h => ⟨by rw [h.1, List.length_map, List.length_map]; rfl, h.2⟩)
    have hw : FC Tryd.prog (GT a) 47 [.ag [.p (pi k), .p (pi m), .p (ps s), .p (.row 1 (p.map pi)), .vw (.S 0) ((x :: l).map eM).length]] [.ow 5 28 [] (ocs ((x :: l).map (ownN 7)))] (fun r H' => r = .p (pm ⟨k1, m1, s1, p1, l1⟩) ∧ H' = [.gone]) := by rw [List.length_map]; exact hw
    refine EOps.cg [] [101] [] [.ag [.p (pi k), .p (pi m), .p (ps s), .p (.row 1 (p.map pi)), .p (.row 5 ((x :: l).map eM))], .fn 49 []] [.p (pm ⟨k, m, s, p, x :: l⟩), .fn 49 []] hc rfl rfl rfl ⟨.inl (.inl ⟨_, rfl, by (repeat' apply And.intro) <;> first | trivial | rfl⟩), .inl (.inr rfl), trivial⟩ rfl rfl (by simp) (by decide) rfl (by rintro _ _ ⟨rfl, rfl⟩; exact ⟨by simp [cloO], rfl⟩) ?_
    rintro _ _ ⟨rfl, rfl⟩
    refine EOps.cg [101] [] [.ow 5 28 [] (ocs ((x :: l).map (ownN 7)))] [.ag [.p (pi k), .p (pi m), .p (ps s), .p (.row 1 (p.map pi)), .vw (.L 101) ((x :: l).map eM).length]] [.ag [.p (pi k), .p (pi m), .p (ps s), .p (.row 1 (p.map pi)), .vw (.S 0) ((x :: l).map eM).length]] hw rfl rfl rfl ⟨.inl (.inr rfl), trivial⟩ rfl rfl (by simp [cloO]) (by decide) rfl (by rintro _ _ ⟨rfl, rfl⟩; exact ⟨by simp [cloO], rfl⟩) ?_
    rintro _ _ ⟨rfl, rfl⟩
    refine rn T 99 [] ?_
    refine rn T 99 [] ?_
    cases hp : pok 8 ⟨k1, m1, s1, p1, l1⟩ with
    | true =>
      rw [hp] at cp
      rw [if_pos rfl]
      refine pcs (cp) ?_
      refine rn T 99 [] ?_
      refine cfs ?_
      refine rn T 99 [] ?_
      exact ret1 T rfl (by (repeat' apply And.intro) <;> first | trivial | rfl | assumption | omega | exact mT rfl | exact mT (by assumption) | exact mM rfl | exact mM (by assumption) | exact mI (by assumption) | exact mS (by assumption) | exact mU (by assumption) | (simp; done) | (simp [Mn.f0, Mn.f1, Mn.f2, Mn.f3, Mn.f4, Tn.f0]; done) | (simp [*]; done) | (simp [relT, eT_eq, eM_eq, PV.cells, Tn.f0, Mn.f4, *]; done) | (simp; omega)) rfl
    | false =>
      rw [hp] at cp
      rw [if_neg (by simp)]
      refine pcs (cp) ?_
      refine rn T 99 [] ?_
      refine cts ?_
      refine rn T 1 [] ?_
      refine EOps.cg [] [102] [] [.ag [.p (pi k), .p (pi m), .p (ps s), .p (.row 1 (p.map pi)), .p (.row 5 ((x :: l).map eM))], .fn 49 []] [.p (pm ⟨k, m, s, p, x :: l⟩), .fn 49 []] hc rfl rfl rfl ⟨.inl (.inl ⟨_, rfl, by (repeat' apply And.intro) <;> first | trivial | rfl⟩), .inl (.inr rfl), trivial⟩ rfl rfl (by simp) (by decide) rfl (by rintro _ _ ⟨rfl, rfl⟩; exact ⟨by simp [cloO], rfl⟩) ?_
      rintro _ _ ⟨rfl, rfl⟩
      refine EOps.fz 102 ((x :: l).map (ownN 7)) ((x :: l).map eM) rfl rfl rfl (okOs 7 _) (frzOs 7 _) (zM5 _) ?_
      refine rn T 99 [] ?_
      exact ret1 T rfl (by (repeat' apply And.intro) <;> first | trivial | rfl | assumption | omega | exact mT rfl | exact mT (by assumption) | exact mM rfl | exact mM (by assumption) | exact mI (by assumption) | exact mS (by assumption) | exact mU (by assumption) | (simp; done) | (simp [Mn.f0, Mn.f1, Mn.f2, Mn.f3, Mn.f4, Tn.f0]; done) | (simp [*]; done) | (simp [relT, eT_eq, eM_eq, PV.cells, Tn.f0, Mn.f4, *]; done) | (simp; omega)) rfl
theorem mpls_all {l : List Mn} {c : Nat} (h : ∀ x ∈ l, mpl x ≤ c) : mpls l ≤ c * l.length := by
  induction l with
  | nil => rw [mpls_nil]; omega
  | cons x l ih =>
    rw [mpls_cons, List.length_cons, Nat.mul_succ]
    have h1 := h x (by simp)
    have h2 := ih (fun y hy => h y (by simp [hy]))
    omega
theorem mpl_tk {nm : ByteArray → Bool} : ∀ {n : Nat} {t : Mn}, tk nm n t = true → mpl t + 4 ≤ 4 * 2 ^ n
  | 0, _, h => by cases h
  | n + 1, ⟨k, m, s, p, l⟩, h => by
    rw [tk_eq, Bool.and_eq_true, List.all_eq_true] at h
    obtain ⟨h1, h2⟩ := tkH_sz h.1
    have hp : p.length ≤ 4 := by unfold pathB at h2; simp only [Bool.and_eq_true, decide_eq_true_eq] at h2; exact h2.1
    have h3 := mpls_all (l := l) (c := 4 * 2 ^ n - 4) (fun x hx => by have := mpl_tk (h.2 x hx); omega)
    have h4 : (4 * 2 ^ n - 4) * l.length ≤ (4 * 2 ^ n - 4) * 2 := Nat.mul_le_mul_left _ h1
    have h5 : 1 ≤ 2 ^ n := Nat.one_le_two_pow
    rw [mpl_mk, Nat.pow_succ]
    omega
theorem simp2 (a : Addr) (t : Mn) : PF Tryd.prog (GT a) 8 [pm t] (.p (pm (simT t))) := by
  have hb : ∀ s, FE Tryd.prog (GT a) 28 (.p (ps s) :: []) [] (RB true []) := fun s => by
    refine ⟨?_, RB_ne _ hsh_nil⟩
    refine bdy Tryd.func28 (fun _ => 0) rfl ?_
    refine rn T 99 [] ?_
    refine rn T 99 [] ?_
    exact ⟨[_], ⟨_, _, rfl, .inl rfl, rfl⟩, .p, ⟨rfl, rfl⟩⟩
  have ho := termOk0 (GT a) hsh_nil 28 (fun _ => true) hb 8 (by omega) t
  have e : (fun s => pw s && (fun _ => true) s) = pw := by funext s; simp
  rw [e] at ho
  obtain ⟨v, hv⟩ : ∃ v, v = simT t := ⟨_, rfl⟩
  rw [← hv]
  unfold simT at hv
  have hok : tk pw 8 t = true → PF Tryd.prog (GT a) 29 [pm t] (.p (pm (sOk t))) := fun h => simpOk2 a t (okD_tk (fun _ h => h) h) (by have := mpl_tk h; omega)
  obtain ⟨k, m, s, p, l⟩ := t
  show PF _ _ _ [.ag [pi k, pi m, ps s, .row 1 (p.map pi), .row 5 (l.map eM)]] _
  refine ⟨(by first | exact .p | exact .tp (fun x hx => by simp at hx; rcases hx with rfl | rfl <;> exact .p) | exact .tp (fun x hx => by simp at hx; rcases hx with rfl | rfl | rfl <;> exact .p)), bdy Tryd.func8 (fun _ => 0) rfl ?_⟩
  refine rn T 99 [] ?_
  refine rn T 99 [] ?_
  refine hes (ho) ?_; rintro _ _ ⟨rfl, rfl⟩ _ _; refine op ?_
  cases h : tk pw 8 ⟨k, m, s, p, l⟩ with
  | true =>
    rw [h, if_pos rfl] at hv
    subst hv
    refine rn T 99 [] ?_
    refine cfs ?_
    refine rn T 99 [] ?_
    refine pcs (hok h) ?_
    refine rn T 99 [] ?_
    exact ret1 T rfl (by (repeat' apply And.intro) <;> first | trivial | rfl | assumption | omega | exact mT rfl | exact mT (by assumption) | exact mM rfl | exact mM (by assumption) | exact mI (by assumption) | exact mS (by assumption) | exact mU (by assumption) | (simp; done) | (simp [Mn.f0, Mn.f1, Mn.f2, Mn.f3, Mn.f4, Tn.f0]; done) | (simp [*]; done) | (simp [relT, eT_eq, eM_eq, PV.cells, Tn.f0, Mn.f4, *]; done) | (simp; omega)) rfl
  | false =>
    rw [h, if_neg (by simp)] at hv
    subst hv
    refine rn T 99 [] ?_
    refine cts ?_
    refine rn T 99 [] ?_
    exact ret1 T rfl (by (repeat' apply And.intro) <;> first | trivial | rfl | assumption | omega | exact mT rfl | exact mT (by assumption) | exact mM rfl | exact mM (by assumption) | exact mI (by assumption) | exact mS (by assumption) | exact mU (by assumption) | (simp; done) | (simp [Mn.f0, Mn.f1, Mn.f2, Mn.f3, Mn.f4, Tn.f0]; done) | (simp [*]; done) | (simp [relT, eT_eq, eM_eq, PV.cells, Tn.f0, Mn.f4, *]; done) | (simp; omega)) rfl
end Go.Proofs.YtlcmokgnmlklnaaDoor.K
end
section
namespace Go.Proofs.YtlcmokgnmlklnaaDoor.K
open Go Go.RowKit Go.Proofs.YtlcmokgnmlklnaaDoor.En Go.Proofs.YtlcmokgnmlklnaaDoor.Ty Go.Proofs.YtlcmokgnmlklnaaDoor.B
set_option maxRecDepth 100000
set_option linter.unusedSimpArgs false
set_option linter.unusedVariables false
set_option pp.deepTerms false
set_option pp.deepTerms.threshold 8
set_option pp.maxSteps 1000
set_option maxHeartbeats 1000000
theorem dM_kids {n : Nat} {k m : Int} {s : ByteArray} {p : List Int} {l : List Mn} (h : dM (n + 1) ⟨k, m, s, p, l⟩ = true) : l.length ≤ 2 ∧ ∀ x ∈ l, dM n x = true := by
  unfold dM at h
  simp only [Bool.and_eq_true, decide_eq_true_eq, List.all_eq_true] at h
  exact h
theorem all_drop {f : Mn → Bool} {l : List Mn} {i : Nat} {x : Mn} (h : l[i]? = some x) (h2 : (l.take i).all f = true) : (l.take (i + 1)).all f = f x := by
  rw [List.take_add_one, h]
  simp [h2]
theorem mnms_app : ∀ {l r : List Mn}, mnms (l ++ r) = mnms l ++ mnms r
  | [], r => by rw [mnms_nil]; rfl
  | x :: l, r => by rw [List.cons_append, mnms_cons, mnms_cons, mnms_app, List.append_assoc]
theorem mnms_take {l : List Mn} {i : Nat} {x : Mn} (h : l[i]? = some x) : mnms (l.take (i + 1)) = mnms (l.take i) ++ mnm x := by
  rw [List.take_add_one, h, mnms_app]
  show _ ++ mnms [x] = _
  rw [mnms_cons, mnms_nil, List.append_nil]
theorem mnms_len {c : Nat} : ∀ {l : List Mn}, (∀ x ∈ l, (mnm x).length ≤ c) → (mnms l).length ≤ c * l.length
  | [], _ => by rw [mnms_nil]; simp
  | x :: l, h => by
    rw [mnms_cons, List.length_append, List.length_cons, Nat.mul_succ]
    have h1 := h x (by simp)
    have h2 := mnms_len (l := l) (fun y hy => h y (by simp [hy]))
    omega
theorem mnm_len : ∀ {n : Nat} {t : Mn}, dM n t = true → (mnm t).length ≤ 2 ^ n
  | 0, _, h => by cases h
  | n + 1, ⟨k, m, s, p, l⟩, h => by
    obtain ⟨hl, hk⟩ := dM_kids h
    have h5 : 1 ≤ 2 ^ n := Nat.one_le_two_pow
    rw [mnm_mk]
    by_cases h2 : k = 2
    · rw [if_pos h2]
      exact Nat.one_le_two_pow
    · rw [if_neg h2]
      have h3 := mnms_len (fun x hx => mnm_len (hk x hx))
      have h4 : 2 ^ n * l.length ≤ 2 ^ n * 2 := Nat.mul_le_mul_left _ hl
      rw [Nat.pow_succ]
      omega
theorem mnm_all : ∀ {n : Nat} {t : Mn} {f : ByteArray → Bool}, tk f n t = true → (mnm t).all f = true
  | 0, _, _, h => by cases h
  | n + 1, ⟨k, m, s, p, l⟩, f, h => by
    rw [tk_eq, Bool.and_eq_true, List.all_eq_true] at h
    rw [mnm_mk]
    by_cases h2 : k = 2
    · subst h2
      have h := h.1
      rw [tkH_2] at h
      simp only [Bool.and_eq_true] at h
      rw [if_pos rfl]
      simp [h.1.1.1]
    · rw [if_neg h2]
      have key : ∀ r : List Mn, (∀ x ∈ r, x ∈ l) → (mnms r).all f = true := by
        intro r
        induction r with
        | nil => intro _; rw [mnms_nil]; rfl
        | cons x r ih =>
          intro hr
          rw [mnms_cons, List.all_append, mnm_all (h.2 x (hr x (by simp))), ih (fun y hy => hr y (by simp [hy]))]
          rfl
      exact key l (fun x hx => hx)
theorem tk_mono {f g : ByteArray → Bool} : ∀ {n : Nat} {t : Mn}, (∀ s ∈ mnm t, f s = true → g s = true) → tk f n t = true → tk g n t = true
  | 0, _, _, h => by cases h
  | n + 1, ⟨k, m, s, p, l⟩, hfg, h => by
    rw [tk_eq, Bool.and_eq_true, List.all_eq_true] at h ⊢
    by_cases h2 : k = 2
    · subst h2
      have h0 := h.1
      rw [tkH_2] at h0 ⊢
      simp only [Bool.and_eq_true, decide_eq_true_eq] at h0 ⊢
      refine ⟨⟨⟨⟨hfg s (by rw [mnm_mk, if_pos rfl]; simp) h0.1.1.1, h0.1.1.2⟩, h0.1.2⟩, h0.2⟩, fun x hx => ?_⟩
      obtain rfl := List.eq_nil_of_length_eq_zero h0.2
      cases hx
    · refine ⟨?_, fun x hx => tk_mono (fun s hs => hfg s (by rw [mnm_mk, if_neg h2]; exact mnms_mem hx s hs)) (h.2 x hx)⟩
      have h0 := h.1
      have e : tkH g ⟨k, m, s, p, l⟩ = tkH f ⟨k, m, s, p, l⟩ := by
        unfold tkH
        rw [if_neg (c := (⟨k, m, s, p, l⟩ : Mn).f0 = 2) h2, if_neg (c := (⟨k, m, s, p, l⟩ : Mn).f0 = 2) h2]
      rw [e]; exact h0
theorem hasS_mem {l : List ByteArray} {v : ByteArray} : hasS l v = true ↔ v ∈ l := by
  unfold hasS
  rw [List.any_eq_true]
  exact ⟨fun ⟨x, h1, h2⟩ => by rw [bq_eq.1 h2]; exact h1, fun h => ⟨v, h, bq_eq.2 rfl⟩⟩
theorem okOwn (n : Nat) (t : Mn) : ((mnm t).all pw && tk (hasS (mnm t)) n t) = tk pw n t := by
  rw [Bool.eq_iff_iff, Bool.and_eq_true]
  constructor
  · rintro ⟨h1, h2⟩
    rw [List.all_eq_true] at h1
    exact tk_mono (fun s hs _ => h1 s hs) h2
  · intro h
    exact ⟨mnm_all h, tk_mono (fun s hs _ => hasS_mem.2 hs) h⟩
end Go.Proofs.YtlcmokgnmlklnaaDoor.K
end
section
namespace Go.Proofs.YtlcmokgnmlklnaaDoor.K
open Go Go.RowKit Go.Proofs.YtlcmokgnmlklnaaDoor.En Go.Proofs.YtlcmokgnmlklnaaDoor.Ty Go.Proofs.YtlcmokgnmlklnaaDoor.B
set_option maxRecDepth 100000
set_option linter.unusedSimpArgs false
set_option linter.unusedVariables false
set_option pp.deepTerms false
set_option pp.deepTerms.threshold 8
set_option pp.maxSteps 1000
set_option maxHeartbeats 1000000
theorem whl_at {f : Nat} {p : List Int} {x u : Mn} (h : sAt p x = some u) : whlF (f + 1) (atM p x) = whlF f u := by
  have e : stp (atM p x) = ((sAt p x).getD zM, (sAt p x).isSome) := rfl
  rw [whlF_t (by rw [e, h]; rfl), e, h]
  rfl
theorem whl_at0 {f : Nat} {p : List Int} {x : Mn} (h : sAt p x = none) : whlF f (atM p x) = atM p x := by
  have e : stp (atM p x) = ((sAt p x).getD zM, (sAt p x).isSome) := rfl
  exact whlF_f (by rw [e, h]; rfl)
theorem bitB_of {i : Int} {r : List Int} (h : (i :: r).all bitB = true) : (i = 0 ∨ i = 1) ∧ r.all bitB = true := by
  rw [List.all_cons, Bool.and_eq_true] at h
  refine ⟨?_, h.2⟩
  have := h.1
  unfold bitB at this
  simp only [Bool.or_eq_true, Bool.and_eq_true, decide_eq_true_eq, beq_iff_eq] at this
  omega
theorem bgn_t {p q : List Int} (h1 : q.length ≤ p.length) (h2 : p.take q.length = q) : bgn p q = true := by
  unfold bgn
  rw [decide_eq_true h1, h2]
  simp
theorem bgn_f1 {p q : List Int} (h1 : p.length < q.length) : bgn p q = false := by
  unfold bgn
  rw [decide_eq_false (by omega)]
  rfl
theorem bgn_f2 {p q : List Int} {j : Nat} {x y : Int} (hx : p[j]? = some x) (hy : q[j]? = some y) (h : x ≠ y) : bgn p q = false := by
  rw [Bool.eq_false_iff]
  intro hb
  unfold bgn at hb
  rw [Bool.and_eq_true, beq_iff_eq] at hb
  have hj : j < q.length := (List.getElem?_eq_some_iff.1 hy).1
  have h2 : (p.take q.length)[j]? = some y := by rw [hb.2]; exact hy
  rw [List.getElem?_take, if_pos hj, hx] at h2
  cases h2
  exact h rfl
end Go.Proofs.YtlcmokgnmlklnaaDoor.K
end
section
namespace Go.Proofs.YtlcmokgnmlklnaaDoor.K
open Go Go.RowKit Go.Proofs.YtlcmokgnmlklnaaDoor.En Go.Proofs.YtlcmokgnmlklnaaDoor.Ty Go.Proofs.YtlcmokgnmlklnaaDoor.B
set_option maxRecDepth 100000
set_option linter.unusedSimpArgs false
set_option linter.unusedVariables false
set_option pp.deepTerms false
set_option pp.deepTerms.threshold 8
set_option pp.maxSteps 1000
set_option maxHeartbeats 1000000
theorem whl_put {f : Nat} {p : List Int} {x y u : Mn} (h : sPut p x y = some u) : whlF (f + 1) ⟨8, 0, ⟨#[]⟩, p, [x, y]⟩ = whlF f u := by
  have e : stp ⟨8, 0, ⟨#[]⟩, p, [x, y]⟩ = ((sPut p x y).getD zM, (sPut p x y).isSome) := rfl
  rw [whlF_t (by rw [e, h]; rfl), e, h]
  rfl
theorem whl_put0 {f : Nat} {p : List Int} {x y : Mn} (h : sPut p x y = none) : whlF f ⟨8, 0, ⟨#[]⟩, p, [x, y]⟩ = ⟨8, 0, ⟨#[]⟩, p, [x, y]⟩ := by
  have e : stp ⟨8, 0, ⟨#[]⟩, p, [x, y]⟩ = ((sPut p x y).getD zM, (sPut p x y).isSome) := rfl
  exact whlF_f (by rw [e, h]; rfl)
theorem msz_put {p : List Int} {x y : Mn} : msz ⟨8, 0, ⟨#[]⟩, p, [x, y]⟩ = 1 + msz x + msz y := by rw [msz_mk, mszs_cons, mszs_cons, mszs_nil]; omega
end Go.Proofs.YtlcmokgnmlklnaaDoor.K
end
section
namespace Go.Proofs.YtlcmokgnmlklnaaDoor.K
open Go Go.RowKit Go.Proofs.YtlcmokgnmlklnaaDoor.En Go.Proofs.YtlcmokgnmlklnaaDoor.Ty Go.Proofs.YtlcmokgnmlklnaaDoor.B
set_option maxRecDepth 100000
set_option linter.unusedSimpArgs false
set_option linter.unusedVariables false
set_option pp.deepTerms false
set_option pp.deepTerms.threshold 8
set_option pp.maxSteps 1000
set_option maxHeartbeats 1000000
theorem smps_app {n i : Nat} {l : List Mn} {x : Mn} (h : l[i]? = some x) : (((l.take i).map (smp n)).map eM) ++ [pm (smp n x)] = ((l.take (i + 1)).map (smp n)).map eM := by
  rw [List.take_add_one, h, List.map_append, List.map_append]
  simp [eM_eq]
theorem dP_okD : ∀ {n : Nat} {t : Mn}, okD n t = true → mpl t ≤ 50000 → dP n t = true
  | 0, _, h, _ => by cases h
  | n + 1, ⟨k, m, s, p, l⟩, h, hp => by
    obtain ⟨_, e, hf, hk⟩ := okD_inv h
    cases e
    rw [mpl_mk] at hp
    unfold dP
    simp only [Bool.and_eq_true, decide_eq_true_eq, List.all_eq_true]
    exact ⟨⟨by cases hf <;> simp [Mn.f4], by show p.length ≤ 50000; omega⟩, fun x hx => dP_okD (hk x hx) (by have : mpl x ≤ mpls l := mpls_mem hx; omega)⟩
theorem opOk {k x y : Int} (hk : k = 3 ∨ k = 4 ∨ k = 5) (hx : 0 ≤ x ∧ x ≤ 9999) (hy : 0 ≤ y ∧ y ≤ 9999) : okN (opv k x y) = okO k x y := by
  unfold okN opv okO
  rcases hk with rfl | rfl | rfl
  · rw [if_pos rfl, if_pos rfl]
    rw [decide_eq_decide]; omega
  · rw [if_neg (by decide), if_pos rfl, if_neg (by decide), if_pos rfl]
    rw [decide_eq_decide]; omega
  · rw [if_neg (show ¬ (5 : Int) = 3 by decide), if_neg (show ¬ (5 : Int) = 4 by decide), if_neg (show ¬ (5 : Int) = 3 by decide), if_neg (show ¬ (5 : Int) = 4 by decide)]
    split <;> rfl
theorem whl_op {f : Nat} {k : Int} {x y : Mn} (hk : k = 3 ∨ k = 4 ∨ k = 5 ∨ k = 6) (h : (sOp k x y).2 = true) : whlF (f + 1) ⟨k, 0, ⟨#[]⟩, [], [x, y]⟩ = whlF f (sOp k x y).1 := by
  rw [whlF_t (by rw [stp_op hk, h]), stp_op hk]
theorem whl_op0 {f : Nat} {k : Int} {x y : Mn} (hk : k = 3 ∨ k = 4 ∨ k = 5 ∨ k = 6) (h : (sOp k x y).2 = false) : whlF f ⟨k, 0, ⟨#[]⟩, [], [x, y]⟩ = ⟨k, 0, ⟨#[]⟩, [], [x, y]⟩ := whlF_f (by rw [stp_op hk, h])
end Go.Proofs.YtlcmokgnmlklnaaDoor.K
end
section
namespace Go.Proofs.YtlcmokgnmlklnaaDoor.K
open Go Go.RowKit Go.Proofs.YtlcmokgnmlklnaaDoor.En Go.Proofs.YtlcmokgnmlklnaaDoor.Ty Go.Proofs.YtlcmokgnmlklnaaDoor.B
set_option maxRecDepth 100000
set_option linter.unusedSimpArgs false
set_option linter.unusedVariables false
set_option pp.deepTerms false
set_option pp.deepTerms.threshold 8
set_option pp.maxSteps 1000
set_option maxHeartbeats 1000000
theorem eqMs_refl {f : Mn → Mn → Bool} : ∀ {l : List Mn}, (∀ x ∈ l, f x x = true) → eqMs f l l = true
  | [], _ => rfl
  | x :: l, h => by
    unfold eqMs
    rw [h x (by simp), eqMs_refl (fun y hy => h y (by simp [hy]))]
    rfl
theorem eqM_refl : ∀ (n : Nat) (t : Mn), eqM n t t = true
  | 0, _ => rfl
  | n + 1, t => by
    unfold eqM
    rw [eqMs_refl (fun x _ => eqM_refl n x)]
    simp [bb_eq.2]
theorem simT_zM : simT zM = zM := rfl
theorem simT_inv (t : Mn) : simT t = zM ∨ (tk pw 8 t = true ∧ tk pw 8 (simT t) = true ∧ simT (simT t) = simT t ∧ mpl (simT t) ≤ 50000 ∧ ∀ s ∈ mnm (simT t), s ∈ mnm t) := by
  by_cases h : tk pw 8 t = true
  · right
    have ho : okD 8 t = true := okD_tk (fun _ h => h) h
    have hpl : mpl t ≤ 50000 := by have := mpl_tk h; omega
    have e : simT t = sOk t := by unfold simT; rw [if_pos h]
    obtain ⟨q1, q2, q3, q4⟩ := smp_inv ho
    by_cases hp : pok 8 (smp 8 t) = true
    · have e2 : sOk t = smp 8 t := by unfold sOk; rw [if_pos hp]
      have h2 : tk pw 8 (smp 8 t) = true := tk_okD (fun _ h => h) (Nat.le_refl 8) q1 hp
      rw [e, e2]
      refine ⟨h, h2, ?_, by omega, q4⟩
      unfold simT sOk
      rw [if_pos h2, smp_id q2, if_pos hp]
    · have e2 : sOk t = t := by unfold sOk; rw [if_neg hp]
      rw [e2] at e
      rw [e, e]
      exact ⟨h, h, rfl, hpl, fun s hs => hs⟩
  · left
    unfold simT
    rw [if_neg h]
theorem simT_ok (t : Mn) : dP 8 (simT t) = true ∧ simT (simT t) = simT t ∧ ∀ s ∈ mnm (simT t), s ∈ mnm t := by
  rcases simT_inv t with h | ⟨h1, h2, h3, h4, h5⟩
  · rw [h]
    exact ⟨rfl, rfl, fun s hs => by rw [show zM = (⟨0, 0, ⟨#[]⟩, [], []⟩ : Mn) from rfl, mnm_mk, if_neg (by decide), mnms_nil] at hs; cases hs⟩
  · exact ⟨dP_okD (okD_tk (fun _ h => h) h2) h4, h3, h5⟩
end Go.Proofs.YtlcmokgnmlklnaaDoor.K
end
section
namespace Go.Proofs.YtlcmokgnmlklnaaDoor.K
open Go Go.RowKit Go.Proofs.YtlcmokgnmlklnaaDoor.En Go.Proofs.YtlcmokgnmlklnaaDoor.Ty Go.Proofs.YtlcmokgnmlklnaaDoor.B
set_option maxRecDepth 100000
set_option linter.unusedSimpArgs false
set_option linter.unusedVariables false
set_option pp.deepTerms false
set_option pp.deepTerms.threshold 8
set_option pp.maxSteps 1000
set_option maxHeartbeats 1000000
theorem PF.gmono {P : Program} {G G' : Nat → Option PV} {f : FuncId} {xs : List PV} {r : TV} (h : PF P G f xs r) (hG : ∀ i y, G i = some y → G' i = some y) : PF P G' f xs r := by
  refine ⟨h.1, h.2.1, fun w S g V hh hl hv => (h.2.2 w S g V ⟨hh.ob, hh.dj, hh.st, hh.hs, fun i y hy => hh.gl i y (hG i y hy)⟩ hl hv).mono ?_⟩
  rintro e w' ⟨r', H', v, S', g', h1, h2, h3, h4, h5, h6, h7⟩
  refine ⟨r', H', v, S', g', h1, h2, h3, h4, ⟨h5.ob, h5.dj, h5.st, h5.hs, fun i y hy => ?_⟩, h6, h7⟩
  obtain ⟨u, q1, q2, q3, q4⟩ := hh.gl i y hy
  obtain ⟨q5, q6⟩ := h6.stb _ _ q1
  exact ⟨u, q5, q6.trans q2, q3, q4.move h6.stb⟩
def GB (a b : Addr) : Nat → Option PV := fun i => (GE a i).or (GT b i)
theorem GB_e {a b : Addr} (i : Nat) (y : PV) (h : GE a i = some y) : GB a b i = some y := by unfold GB; rw [h]; rfl
theorem GB_t {a b : Addr} (i : Nat) (y : PV) (h : GT b i = some y) : GB a b i = some y := by
  unfold GB
  have hi : i = 1 := by
    unfold GT at h
    split at h
    · rename_i e; exact Nat.eq_of_beq_eq_true e
    · cases h
  subst hi
  exact h
def kS (env : ByteArray → Ty) (t : Mn) (u : Ty) : Prop := ∃ n, kd env n t = some u
theorem kd_le (env : ByteArray → Ty) {n : Nat} {t : Mn} {u : Ty} (h : kd env n t = some u) : ∀ m, n ≤ m → kd env m t = some u := by
  intro m hm
  induction m with
  | zero => obtain rfl : n = 0 := by omega
            exact h
  | succ m ih =>
    by_cases e : n = m + 1
    · subst e; exact h
    · exact kd_succ env m t u (ih (by omega))
theorem kS_fun {env : ByteArray → Ty} {t : Mn} {u v : Ty} (h : kS env t u) (k : kS env t v) : u = v := by
  obtain ⟨n, h⟩ := h
  obtain ⟨m, k⟩ := k
  have h1 := kd_le env h (max n m) (by omega)
  have h2 := kd_le env k (max n m) (by omega)
  rw [h1] at h2
  cases h2
  rfl
theorem kS_num {env : ByteArray → Ty} {m : Int} {s : ByteArray} {p : List Int} {l : List Mn} : kS env ⟨1, m, s, p, l⟩ [] := ⟨1, rfl⟩
theorem kd1 (env : ByteArray → Ty) (n : Nat) (k m : Int) (s : ByteArray) (p : List Int) (x : Mn) (h1 : k ≠ 1) (h2 : k ≠ 2) : kd env (n + 1) ⟨k, m, s, p, [x]⟩ = (kd env n x).bind fun a => kk k p [⟨a⟩] := by
  show (if k = 1 then some [] else if k = 2 then some (env s) else match kds (kd env n) [x] with | none => none | some ts => kk k p ts) = _
  rw [if_neg h1, if_neg h2, kds_cons]
  cases kd env n x with
  | none => rfl
  | some a => rfl
theorem kd2 (env : ByteArray → Ty) (n : Nat) (k m : Int) (s : ByteArray) (p : List Int) (x y : Mn) (h1 : k ≠ 1) (h2 : k ≠ 2) : kd env (n + 1) ⟨k, m, s, p, [x, y]⟩ = (kd env n x).bind fun a => (kd env n y).bind fun b => kk k p [⟨a⟩, ⟨b⟩] := by
  show (if k = 1 then some [] else if k = 2 then some (env s) else match kds (kd env n) [x, y] with | none => none | some ts => kk k p ts) = _
  rw [if_neg h1, if_neg h2, kds_cons]
  cases kd env n x with
  | none => rfl
  | some a =>
    rw [Option.bind_some, kds_cons]
    cases kd env n y with
    | none => rfl
    | some b => rfl
theorem kS1 {env : ByteArray → Ty} {k m : Int} {s : ByteArray} {p : List Int} {x : Mn} {u : Ty} (h1 : k ≠ 1) (h2 : k ≠ 2) : kS env ⟨k, m, s, p, [x]⟩ u ↔ ∃ a, kS env x a ∧ kk k p [⟨a⟩] = some u := by
  constructor
  · rintro ⟨n, h⟩
    cases n with
    | zero => cases h
    | succ n =>
      rw [kd1 env n k m s p x h1 h2] at h
      obtain ⟨a, ha, h⟩ := Option.bind_eq_some_iff.1 h
      exact ⟨a, ⟨n, ha⟩, h⟩
  · rintro ⟨a, ⟨n, ha⟩, h⟩
    exact ⟨n + 1, by rw [kd1 env n k m s p x h1 h2, ha]; exact h⟩
theorem kS2 {env : ByteArray → Ty} {k m : Int} {s : ByteArray} {p : List Int} {x y : Mn} {u : Ty} (h1 : k ≠ 1) (h2 : k ≠ 2) : kS env ⟨k, m, s, p, [x, y]⟩ u ↔ ∃ a b, kS env x a ∧ kS env y b ∧ kk k p [⟨a⟩, ⟨b⟩] = some u := by
  constructor
  · rintro ⟨n, h⟩
    cases n with
    | zero => cases h
    | succ n =>
      rw [kd2 env n k m s p x y h1 h2] at h
      obtain ⟨a, ha, h⟩ := Option.bind_eq_some_iff.1 h
      obtain ⟨b, hb, h⟩ := Option.bind_eq_some_iff.1 h
      exact ⟨a, b, ⟨n, ha⟩, ⟨n, hb⟩, h⟩
  · rintro ⟨a, b, ⟨n, ha⟩, ⟨n', hb⟩, h⟩
    refine ⟨max n n' + 1, ?_⟩
    rw [kd2 env _ k m s p x y h1 h2, kd_le env ha (max n n') (by omega), kd_le env hb (max n n') (by omega)]
    exact h
theorem kk_at {p : List Int} {a u : Ty} : kk 7 p [⟨a⟩] = some u ↔ pf p a = some u := Iff.rfl
theorem kk_put {p : List Int} {a b u : Ty} : kk 8 p [⟨a⟩, ⟨b⟩] = some u ↔ u = a ∧ ∃ x, pf p a = some x ∧ teq 4 x b = true := by
  show (match pf p a with | some x => if teq 4 x b = true then some a else none | none => none) = some u ↔ _
  cases pf p a with
  | none => simp
  | some x =>
    show (if teq 4 x b = true then some a else none) = some u ↔ u = a ∧ ∃ x', some x = some x' ∧ teq 4 x' b = true
    by_cases h : teq 4 x b = true
    · rw [if_pos h]
      simp only [Option.some.injEq]
      exact ⟨fun e => ⟨e.symm, x, rfl, h⟩, fun e => e.1.symm⟩
    · rw [if_neg h]
      exact ⟨fun e => (by cases e), fun ⟨_, y, e, h2⟩ => by cases e; exact absurd h2 h⟩
theorem kk_pair {p : List Int} {a b u : Ty} : kk 6 p [⟨a⟩, ⟨b⟩] = some u ↔ u = [⟨a⟩, ⟨b⟩] ∧ dp 4 [⟨a⟩, ⟨b⟩] = true := by
  show (if dp 4 [(⟨a⟩ : Tn), ⟨b⟩] = true then some [(⟨a⟩ : Tn), ⟨b⟩] else none) = some u ↔ _
  by_cases h : dp 4 [(⟨a⟩ : Tn), ⟨b⟩] = true
  · rw [if_pos h]
    simp only [Option.some.injEq]
    exact ⟨fun e => ⟨e.symm, h⟩, fun e => e.1.symm⟩
  · rw [if_neg h]
    exact ⟨fun e => (by cases e), fun ⟨_, h2⟩ => absurd h2 h⟩
theorem kS_at {env : ByteArray → Ty} {p : List Int} {x : Mn} {u : Ty} : kS env (atM p x) u ↔ ∃ a, kS env x a ∧ pf p a = some u := kS1 (by decide) (by decide)
theorem kS_put {env : ByteArray → Ty} {p : List Int} {x y : Mn} {u : Ty} : kS env ⟨8, 0, ⟨#[]⟩, p, [x, y]⟩ u ↔ kS env x u ∧ ∃ b, kS env y b ∧ ∃ q, pf p u = some q ∧ teq 4 q b = true := by
  rw [kS2 (by decide) (by decide)]
  constructor
  · rintro ⟨a, b, h1, h2, h3⟩
    obtain ⟨rfl, x, h4, h5⟩ := kk_put.1 h3
    exact ⟨h1, b, h2, x, h4, h5⟩
  · rintro ⟨h1, b, h2, x, h4, h5⟩
    exact ⟨u, b, h1, h2, kk_put.2 ⟨rfl, x, h4, h5⟩⟩
theorem stp_kS {env : ByteArray → Ty} {n : Nat} {t : Mn} {u : Ty} (ho : okD n t = true) (hs : (stp t).2 = true) (h : kS env t u) : kS env (stp t).1 u := by
  obtain ⟨m, rfl, hf, hk⟩ := okD_inv ho
  cases hf with
  | num h => cases hs
  | name h => cases hs
  | @op k x y hk3 =>
    rw [stp_op hk3] at hs ⊢
    obtain ⟨a, b, h1, h2, h3⟩ := (kS2 (by rcases hk3 with rfl | rfl | rfl | rfl <;> decide) (by rcases hk3 with rfl | rfl | rfl | rfl <;> decide)).1 h
    unfold sOp at hs ⊢
    by_cases c : k = 6 ∨ x.f0 ≠ 1 ∨ y.f0 ≠ 1
    · rw [if_pos c] at hs; cases hs
    · rw [if_neg c] at hs ⊢
      by_cases c2 : okN (opv k x.f1 y.f1) = true
      · rw [if_pos c2]
        have hu : u = [] := by
          have h6 : k ≠ 6 := fun e => c (.inl e)
          unfold kk at h3
          rw [if_neg (by rcases hk3 with rfl | rfl | rfl | rfl <;> decide), if_neg (by rcases hk3 with rfl | rfl | rfl | rfl <;> decide), if_neg h6] at h3
          simp only at h3
          split at h3
          · cases h3; rfl
          · cases h3
        rw [hu]
        exact kS_num
      · rw [if_neg c2] at hs; cases hs
  | @«at» p x hb =>
    rw [stp_at] at hs ⊢
    obtain ⟨a, ha, hp⟩ := kS_at.1 h
    cases p with
    | nil =>
      rw [pf_nil] at hp
      cases hp
      exact ha
    | cons i r =>
      obtain ⟨_, _, hf2, _⟩ := okD_inv (hk x (List.mem_singleton.2 rfl))
      cases hf2 with
      | num h => cases hs
      | name h => cases hs
      | @op k x y hk3 =>
        rw [sAt_op hk3] at hs ⊢
        by_cases h6 : k = 6
        · subst h6
          obtain ⟨c, d, hc, hd, hcd⟩ := (kS2 (by decide) (by decide)).1 ha
          obtain ⟨rfl, _⟩ := kk_pair.1 hcd
          rw [pf_two] at hp
          rw [if_pos rfl] at hs ⊢
          by_cases c1 : i = 0 ∧ plB y = true
          · rw [if_pos c1]
            rw [if_pos c1.1] at hp
            exact kS_at.2 ⟨c, hc, hp⟩
          · rw [if_neg c1] at hs ⊢
            by_cases c2 : i = 1 ∧ plB x = true
            · rw [if_pos c2]
              rw [if_neg (by omega), if_pos c2.1] at hp
              exact kS_at.2 ⟨d, hd, hp⟩
            · rw [if_neg c2] at hs; cases hs
        · rw [if_neg h6] at hs; cases hs
      | @«at» q y hq =>
        rw [sAt_at]
        obtain ⟨b, hb2, hq2⟩ := kS_at.1 ha
        exact kS_at.2 ⟨b, hb2, by rw [pf_app, hq2]; exact hp⟩
      | @put q x y hq =>
        rw [sAt_put] at hs ⊢
        obtain ⟨h1, b, h2, z, h3, h4⟩ := kS_put.1 ha
        by_cases c1 : bgn (i :: r) q = true
        · rw [if_pos c1] at hs ⊢
          by_cases c2 : plB x = true
          · rw [if_pos c2]
            have e : i :: r = q ++ (i :: r).drop q.length := by
              unfold bgn at c1
              rw [Bool.and_eq_true, beq_iff_eq] at c1
              rw [← c1.2, List.length_take]
              have : min q.length (i :: r).length = q.length := Nat.min_eq_left (by simpa using c1.1)
              rw [this, List.take_append_drop]
            rw [e, pf_app, h3, Option.bind_some] at hp
            rw [teq_eq 4 z b h4] at hp
            exact kS_at.2 ⟨b, h2, hp⟩
          · rw [if_neg c2] at hs; cases hs
        · rw [if_neg c1] at hs ⊢
          by_cases c2 : bgn q (i :: r) = false ∧ plB y = true
          · rw [if_pos c2]
            exact kS_at.2 ⟨a, h1, hp⟩
          · rw [if_neg c2] at hs; cases hs
  | @put p x y hb =>
    rw [stp_put] at hs ⊢
    obtain ⟨h1, b, h2, z, h3, h4⟩ := kS_put.1 h
    by_cases h8 : x.f0 = 8
    · obtain ⟨_, _, hf2, _⟩ := okD_inv (hk x (List.mem_cons_self ..))
      cases hf2 with
      | num h => cases h8
      | name h => cases h8
      | op hq => have h8 : _ = (8 : Int) := h8; rcases hq with rfl | rfl | rfl | rfl <;> cases h8
      | «at» h => cases h8
      | @put q c d hq =>
        rw [sPut_put] at hs ⊢
        by_cases c1 : q = p ∧ plB d = true
        · rw [if_pos c1]
          exact kS_put.2 ⟨(kS_put.1 h1).1, b, h2, z, h3, h4⟩
        · rw [if_neg c1] at hs; cases hs
    · rw [sPut_o h8] at hs ⊢
      by_cases c1 : p = [] ∧ plB x = true
      · rw [if_pos c1]
        rw [c1.1, pf_nil] at h3
        cases h3
        rw [teq_eq 4 u b h4]
        exact h2
      · rw [if_neg c1] at hs; cases hs
theorem whl_kS {env : ByteArray → Ty} {u : Ty} : ∀ {f n : Nat} {t : Mn}, okD (n + 1) t = true → (∀ x ∈ t.f4, smD n x = true) → kS env t u → kS env (whlF f t) u
  | 0, _, _, _, _, h => h
  | f + 1, n, t, ho, hs, h => by
    cases e : (stp t).2 with
    | false => rw [whlF_f e]; exact h
    | true =>
      rw [whlF_t e]
      obtain ⟨q1, q2, _, _, _⟩ := stp_inv ho hs e
      exact whl_kS q1 q2 (stp_kS ho e h)
theorem kS_map {env : ByteArray → Ty} {k m : Int} {s : ByteArray} {p : List Int} {l : List Mn} {f : Mn → Mn} {u : Ty} (hf : OkF ⟨k, m, s, p, l⟩) (hk : ∀ x ∈ l, ∀ v, kS env x v → kS env (f x) v) (h : kS env ⟨k, m, s, p, l⟩ u) : kS env ⟨k, m, s, p, l.map f⟩ u := by
  cases hf with
  | num h' => exact h
  | name h' => exact h
  | @op k x y hk3 =>
    have n1 : k ≠ 1 := by rcases hk3 with rfl | rfl | rfl | rfl <;> decide
    have n2 : k ≠ 2 := by rcases hk3 with rfl | rfl | rfl | rfl <;> decide
    obtain ⟨a, b, h1, h2, h3⟩ := (kS2 n1 n2).1 h
    exact (kS2 n1 n2).2 ⟨a, b, hk x (by simp) a h1, hk y (by simp) b h2, h3⟩
  | @«at» p x hb =>
    obtain ⟨a, h1, h3⟩ := (kS1 (by decide) (by decide)).1 h
    exact (kS1 (by decide) (by decide)).2 ⟨a, hk x (by simp) a h1, h3⟩
  | @put p x y hb =>
    obtain ⟨a, b, h1, h2, h3⟩ := (kS2 (by decide) (by decide)).1 h
    exact (kS2 (by decide) (by decide)).2 ⟨a, b, hk x (by simp) a h1, hk y (by simp) b h2, h3⟩
theorem smp_kS {env : ByteArray → Ty} : ∀ {n : Nat} {t : Mn}, okD n t = true → ∀ {u : Ty}, kS env t u → kS env (smp n t) u
  | 0, _, h, _, _ => by cases h
  | n + 1, ⟨k, m, s, p, l⟩, h, u, hu => by
    obtain ⟨_, e, hf, hk⟩ := okD_inv h
    cases e
    have hk : ∀ x ∈ l, okD n x = true := hk
    rw [smp_eq]
    refine whl_kS (n := n) (okD_mk (okF_map hf (by simp)) (fun y hy => ?_)) (fun y hy => ?_) (kS_map hf (fun x hx v hv => smp_kS (hk x hx) hv) hu)
    · obtain ⟨x, hx, rfl⟩ := List.mem_map.1 (show y ∈ l.map (smp n) from hy)
      exact (smp_inv (hk x hx)).1
    · obtain ⟨x, hx, rfl⟩ := List.mem_map.1 (show y ∈ l.map (smp n) from hy)
      exact (smp_inv (hk x hx)).2.1
theorem kdsE {f g : Mn → Option Ty} : ∀ (l : List Mn), (∀ x ∈ l, f x = g x) → kds f l = kds g l
  | [], _ => rfl
  | x :: l, h => by rw [kds_cons, kds_cons, h x (by simp), kdsE l (fun y hy => h y (by simp [hy]))]
theorem kd_okD {env : ByteArray → Ty} : ∀ {n m : Nat} {t : Mn}, okD n t = true → n ≤ m → kd env m t = kd env n t
  | 0, _, _, h, _ => by cases h
  | n + 1, 0, _, _, h => by omega
  | n + 1, m + 1, ⟨k, mm, s, p, l⟩, ho, h => by
    obtain ⟨_, e, _, hk⟩ := okD_inv ho
    cases e
    have e : kds (kd env m) l = kds (kd env n) l := kdsE l (fun x hx => kd_okD (hk x hx) (by omega))
    show (if k = 1 then some [] else if k = 2 then some (env s) else match kds (kd env m) l with | none => none | some ts => kk k p ts) = (if k = 1 then some [] else if k = 2 then some (env s) else match kds (kd env n) l with | none => none | some ts => kk k p ts)
    rw [e]
theorem kS_okD {env : ByteArray → Ty} {n : Nat} {t : Mn} {u : Ty} (ho : okD n t = true) (h : kS env t u) : kd env n t = some u := by
  obtain ⟨m, h⟩ := h
  have h1 := kd_le env h (max n m) (by omega)
  rw [← kd_okD (env := env) ho (show n ≤ max n m by omega)]
  exact h1
theorem KT_simp {ns : List ByteArray} {ts : List Tn} {t : Mn} {u : Ty} (h : KT ns ts t = some u) : KT ns ts (simT t) = some u := by
  unfold KT at h
  split at h
  · rename_i hc
    obtain ⟨h1, h2, h3, h4⟩ := hc
    have hpw : tk pw 8 t = true := tk_mono (fun s _ hs => by simp only [Bool.and_eq_true] at hs; exact hs.1) h4
    have ho : okD 8 t = true := okD_tk (fun _ h => h) hpw
    obtain ⟨q1, q2, q3, q4⟩ := smp_inv ho
    have e : simT t = sOk t := by unfold simT; rw [if_pos hpw]
    rw [e]
    unfold sOk
    by_cases hp : pok 8 (smp 8 t) = true
    · rw [if_pos hp]
      have ht2 : tk pw 8 (smp 8 t) = true := tk_okD (fun _ h => h) (Nat.le_refl 8) q1 hp
      have hal := mnm_all h4
      rw [List.all_eq_true] at hal
      have ht3 : tk (fun s => pw s && hasS ns s) 8 (smp 8 t) = true := tk_mono (fun s hs _ => hal s (q4 s hs)) ht2
      unfold KT
      rw [if_pos ⟨h1, h2, h3, ht3⟩]
      exact kS_okD q1 (smp_kS ho ⟨8, h⟩)
    · rw [if_neg hp]
      unfold KT
      rw [if_pos ⟨h1, h2, h3, h4⟩]
      exact h
  · cases h
theorem simpKindLaw (a b : Addr) (c : List Int) (hl : ∀ x ∈ c, 0 ≤ x ∧ x ≤ 255) (hl2 : c.length ≤ 9223372036854775807) :
    FC Tryd.prog (GB a b) 3 [.p (.row 1 (c.map pu))] [] (fun r _ => r = .p (pb true)) := by
  refine bdy Tryd.func3 (fun _ => 0) rfl ?_
  refine rn T 99 [] ?_
  refine rn T 99 [] ?_
  by_cases hc : c.length > 1048576
  · refine ctq rfl (by simp; omega) ?_
    refine rn T 99 [] ?_
    exact rt1 T (pb true) rfl
  · refine cfq rfl (by simp; omega) ?_
    refine rn T 99 [] ?_
    refine hes (draw71K (GB a b) c hl hl2) ?_; rintro _ _ ⟨ns, ts, t, g0, g2, g3, g4, rfl⟩ _ _; refine op ?_
    rename_i H1 hA1 hH1
    have g1 : ns.length ≤ 3 := by rcases g0 with rfl | rfl <;> decide
    have q1 := kt1 (GB a b) ns ts t (by omega)
    have q2 := PF.gmono (kt2 a ns ts t (by omega)) (GB_e (b := b))
    have q4 := PF.gmono (kt2 a ns ts (simT t) (by omega)) (GB_e (b := b))
    have q3 := PF.gmono (simp2 b t) (GB_t (a := a))
    have hks := fun u (h : KT ns ts t = some u) => KT_simp h
    obtain ⟨v, hv⟩ : ∃ v, v = simT t := ⟨_, rfl⟩
    rw [← hv] at q3 q4 hks
    clear hv
    cases h6 : KT ns ts t with
    | none =>
      rw [h6] at q1 q2
      obtain ⟨k, m, s, p, l⟩ := t
      refine rn T 99 [] ?_
      refine rn T 99 [] ?_
      refine pcs (q1) ?_
      refine rn T 99 [] ?_
      refine rn T 99 [] ?_
      refine pcs (q2) ?_
      refine rn T 99 [] ?_
      refine rn T 99 [] ?_
      have q5 := lh (GB a b) 4 [] [] rfl rfl
      refine pcs (q5) ?_
      refine rn T 99 [] ?_
      refine cts ?_
      refine rn T 99 [] ?_
      refine pcs (q5) ?_
      refine rn T 99 [] ?_
      exact rt1 T (pb true) rfl
    | some u =>
      rw [h6] at q1 q2
      rw [hks u h6] at q4
      simp only [Option.getD_some] at q1 q2 q4
      have hd := KT_dp h6
      have q5 := lh (GB a b) 4 u u hd hd
      rw [teq_refl 4 u hd] at q5
      obtain ⟨k1, m1, s1, p1, l1⟩ := v
      obtain ⟨k, m, s, p, l⟩ := t
      refine rn T 99 [] ?_
      refine rn T 99 [] ?_
      refine pcs (q1) ?_
      refine rn T 99 [] ?_
      refine rn T 99 [] ?_
      refine pcs (q2) ?_
      refine rn T 99 [] ?_
      refine rn T 99 [] ?_
      refine pcs (q5) ?_
      refine rn T 99 [] ?_
      refine cfs ?_
      refine rn T 99 [] ?_
      refine pcs (q3) ?_
      refine pcs (q4) ?_
      refine rn T 99 [] ?_
      refine rn T 99 [] ?_
      refine pcs (q5) ?_
      refine rn T 99 [] ?_
      exact rt1 T (pb true) rfl
end Go.Proofs.YtlcmokgnmlklnaaDoor.K
end
section
namespace Go.Proofs.YtlcmokgnmlklnaaDoor.K
open Go Go.RowKit Go.Proofs.YtlcmokgnmlklnaaDoor.En Go.Proofs.YtlcmokgnmlklnaaDoor.Ty Go.Proofs.YtlcmokgnmlklnaaDoor.B
set_option maxRecDepth 100000
set_option linter.unusedSimpArgs false
set_option linter.unusedVariables false
def IsRow (k : IntKind) (w : World) (a : Option Addr) (len cap : Nat) (zs : List Int) : Prop :=
  (a = none ∧ len = 0 ∧ cap = 0 ∧ zs = []) ∨
  ∃ x, a = some x ∧ len ≤ cap ∧ cap ≤ maxLen ∧ zs.length = cap ∧ (∀ i, i < zs.length → w.cell? (x.add i) = some (.int k (zs.getD i 0))) ∧ ∀ n ∈ zs, (Lit.int k n).wf = true
abbrev olds (w : World) : Nat → Nat → Prop := fun b _ => b < w.heap.size
theorem cell_lt {w : World} {a : Addr} {v : Value} (h : w.cell? a = some v) : a.block < w.heap.size ∧ a.spot = none := by
  unfold World.cell? at h
  cases hb : w.heap[a.block]? with
  | none => rw [hb] at h; cases h
  | some o =>
    rw [hb] at h
    refine ⟨(Array.getElem?_eq_some_iff.1 hb).1, ?_⟩
    cases o with
    | cells c e f =>
      simp only at h
      cases hs : a.spot with
      | none => rfl
      | some s => rw [hs] at h; simp at h
    | _ => cases h
theorem prep_row {k : IntKind} {w : World} {a : Option Addr} {len cap : Nat} {zs : List Int} (h : IsRow k w a len cap zs) : ∃ c : List Int, (∀ n ∈ c, (Lit.int k n).wf = true) ∧ c.length ≤ 9223372036854775807 ∧ PRep w (olds w) (.row 1 (c.map fun n => .c (.int k n))) (.slice a len cap) := by
  rcases h with ⟨rfl, rfl, rfl, rfl⟩ | ⟨x, rfl, h1, h2, h3, h4, h5⟩
  · exact ⟨[], by simp, by simp, .nl⟩
  · refine ⟨zs.take len, fun n hn => h5 n (List.mem_of_mem_take hn), (by rw [List.length_take]; have : cap ≤ 9223372036854775807 := Nat.le_trans h2 (by decide); omega), ?_⟩
    by_cases h0 : len = 0
    · subst h0
      exact .nl
    · have hx := cell_lt (h4 0 (by omega))
      simp only [Addr.add, if_pos] at hx
      obtain ⟨b, off, sp⟩ := x
      obtain ⟨hx1, rfl⟩ := hx
      have hadd : ∀ i, (Addr.add ⟨b, off, none⟩ i) = ⟨b, off + i, none⟩ := fun i => by
        unfold Addr.add
        split
        · rename_i e; subst e; rfl
        · rfl
      have hlen : ((zs.take len).map fun n => PV.c (.int k n)).length = len := by simp; omega
      have hp := PRep.row (w := w) (S := olds w) (z := 1) (xs := (zs.take len).map fun n => PV.c (.int k n)) (b := b) (off := off) (c := cap) (fun i => .int k (zs.getD i 0)) (by rw [hlen]; exact h1) (fun y hy => by
        obtain ⟨n, _, rfl⟩ := List.mem_map.1 hy; rfl) (fun i y hy => ?_) (fun i hi => ⟨hx1, by rw [← hadd]; exact h4 i (by rw [hlen] at hi; omega), rfl⟩)
      · rw [hlen] at hp; exact hp
      · have hfl : flat ((zs.take len).map fun n => PV.c (.int k n)) = (zs.take len).map fun n => PV.c (.int k n) := by
          generalize zs.take len = l
          induction l with
          | nil => rfl
          | cons x l ih => show _ :: flat _ = _; rw [ih]; rfl
        rw [hfl, List.getElem?_map] at hy
        cases hz : (zs.take len)[i]? with
        | none => rw [hz] at hy; cases hy
        | some n =>
          rw [hz] at hy
          cases hy
          have hi : i < len := by have := (List.getElem?_eq_some_iff.1 hz).1; rw [List.length_take] at this; omega
          rw [List.getElem?_take_of_lt hi] at hz
          have : zs.getD i 0 = n := by simp [List.getD, hz]
          rw [this]
          exact .c rfl
theorem FC.row {P : Program} {G : Nat → Option PV} {f : FuncId} {xs : List PV} {c : Value} (h : FC P G f (xs.map .p) [] (fun r _ => r = .p (.c c))) (w : World) (V : List Value) (hl : V.length = xs.length) (hv : ∀ (k : Nat) x v, xs[k]? = some x → V[k]? = some v → PRep w (olds w) x v)
    (hG : ∀ i y, G i = some y → ∃ u, w.cell? ⟨i, 0, none⟩ = some u ∧ u.oneCell' = true ∧ PRep w (olds w) y u) : Calls P f V.toArray w fun e w' => e = .returned c ∧ Below w.heap.size w w' := by
  refine (h.2 w (olds w) (fun _ => ⟨.nilIface, fun _ => False⟩) V ⟨(fun i o ho => by cases ho), (fun i j _ hi => absurd hi (Nat.not_lt_zero _)), (fun b k hb => hb), (fun i o ho => by cases ho), (fun i y hy => ?_)⟩ (by simpa using hl) (fun k x v hx hv' => ?_)).mono ?_
  · obtain ⟨u, h1, h2, h3⟩ := hG i y hy
    exact ⟨u, (cell_lt h1).1, h1, h2, h3⟩
  · rw [List.getElem?_map] at hx
    cases hx2 : xs[k]? with
    | none => rw [hx2] at hx; cases hx
    | some y => rw [hx2] at hx; cases hx; exact .p (hv k y v hx2 hv')
  · rintro e w' ⟨r, H', v, S', g', rfl, rfl, _, hr, _, he, _⟩
    cases hr with | p hr =>
    cases hr
    exact ⟨rfl, he.os, he.tape, he.output, he.size, fun k hk => he.block k hk (fun i hi => absurd hi (Nat.not_lt_zero _))⟩
theorem gB_ok {w : World} {a b : Addr} (h0 : w.cell? ⟨0, 0, none⟩ = some (.iface 128 (.pointer (some a)))) (h1 : w.cell? ⟨1, 0, none⟩ = some (.iface 128 (.pointer (some b)))) : ∀ i y, GB a b i = some y → ∃ u, w.cell? ⟨i, 0, none⟩ = some u ∧ u.oneCell' = true ∧ PRep w (olds w) y u := by
  intro i y hy
  unfold GB at hy
  cases h : GE a i with
  | some z =>
    rw [h] at hy
    cases hy
    unfold GE at h
    split at h
    · cases h; exact ⟨_, h0, rfl, .ifc (.c rfl)⟩
    · cases h
  | none =>
    rw [h] at hy
    have hy : GT b i = some y := hy
    unfold GT at hy
    split at hy
    · rename_i e
      cases hy
      have hi := Nat.eq_of_beq_eq_true e
      subst hi
      exact ⟨_, h1, rfl, .ifc (.c rfl)⟩
    · cases hy
theorem sentNamed : Tryd.prog.globalNamed "loop.example/handfast/impl.errKindNone" = some 0 := by kernel_rfl
theorem sentNamed' : Tryd.prog.globalNamed "loop.example/handfast/impl.errPureFail" = some 1 := by kernel_rfl
theorem sentType : (Tryd.prog.globals[0]?).map (·.type) = some 60 := by kernel_rfl
theorem sentType' : (Tryd.prog.globals[1]?).map (·.type) = some 60 := by kernel_rfl
theorem sentRow (u : TypeId) (h : Tryd.prog.typeName? 3 u = some "*errors.errorString") : u = 128 :=
  typeName_ptr_named (nm := "errors.errorString") (by rw [show "*" ++ "errors.errorString" = "*errors.errorString" by decide]; kernel_rfl) (by kernel_rfl) (by decide) u (by rw [show "*" ++ "errors.errorString" = "*errors.errorString" by decide]; exact h)
theorem sentCells : Tryd.prog.cellsOf 156 = 1 := by kernel_rfl
theorem sentCellsS : Tryd.prog.cellsOf 9 = 1 := by kernel_rfl
theorem sent_of2 {W : World} {text text' : List UInt8} (h : laidMetH Tryd.prog [("loop.example/handfast/impl.errPureFail", .iface "*errors.errorString" (.ptr (.agg [.lit (.string text')]))), ("loop.example/handfast/impl.errKindNone", .iface "*errors.errorString" (.ptr (.agg [.lit (.string text)])))] W) :
    ∃ a b, (W.cell? ⟨0, 0, none⟩ = some (.iface 128 (.pointer (some a))) ∧ W.cell? ⟨1, 0, none⟩ = some (.iface 128 (.pointer (some b)))) ∧ W.var? Tryd.prog "loop.example/handfast/impl.errKindNone" = some #[.iface 128 (.pointer (some a))] ∧ W.var? Tryd.prog "loop.example/handfast/impl.errPureFail" = some #[.iface 128 (.pointer (some b))] := by
  rw [MakeChecks.laidMetH_plain _ _ _ rfl] at h
  obtain ⟨b, s, hv, _⟩ := laid_sentinel h sentNamed' sentType' Tryd.underlying60 sentRow Tryd.underlying128 Tryd.underlying156 rfl rfl Tryd.underlying9 sentCells sentCellsS
  obtain ⟨a, s2, hv2, _⟩ := laid_sentinel h.tail sentNamed sentType Tryd.underlying60 sentRow Tryd.underlying128 Tryd.underlying156 rfl rfl Tryd.underlying9 sentCells sentCellsS
  exact ⟨a, b, ⟨by simpa using World.var?_cell sentNamed hv2 0, by simpa using World.var?_cell sentNamed' hv 0⟩, hv2, hv⟩
end Go.Proofs.YtlcmokgnmlklnaaDoor.K
end
section
namespace Go.Proofs.YtlcmokgnmlklnaaDoor.fnSimpKind
open Go.ChangeShapes Go.WideShapes Go.ChangeAt Go.RowKit Go.Proofs.YtlcmokgnmlklnaaDoor.K Go.Proofs.YtlcmokgnmlklnaaDoor.En Go.Proofs.YtlcmokgnmlklnaaDoor.Ty
set_option linter.unusedVariables false
theorem own : ownKnob Tryd.prog.godebug = none := by kernel_rfl
theorem laidOut : laidOutB Tryd.prog = true := by kernel_rfl
theorem wf8 {n : Int} (h : (Lit.int .u8 n).wf = true) : 0 ≤ n ∧ n ≤ 255 := bounds_u8 h
theorem door_met (os : Os) (args : Array Value) : laidMetH Tryd.prog Rows.fnSimpKindRow.laid ((World.doorLaid Tryd.prog 400 os).forCall (fun _ _ => 0) ⟨#[], args, []⟩).memory :=
  laidMetH_of_parts3 (fuel := 8) (laidMet_of_run' 8 (by kernel_rfl) (by kernel_rfl)) (by kernel_rfl) (by kernel_rfl)
set_option maxRecDepth 100000 in
theorem lifted (os : Os) (started : os.Started) (H : Type) (enc : TypeId × Value → H) :
    ReturnsInHanded {} Tryd.checked os 3 .any (fun w args => (Rows.fnSimpKindSpec.pre enc Tryd.prog Tryd.f3 [] false w args ∧ laidMetH Tryd.prog Rows.fnSimpKindRow.laid w) ∧ sizedMet enc Tryd.prog Tryd.f3 (OpenSpec.ofChange Rows.fnSimpKindSpec) false w args) (Rows.fnSimpKindSpec.post enc Tryd.prog Tryd.f3 false true false false) := by
  refine returnsInHanded_of_change_and (C := Tryd.checked) (X := fun w _ => laidMetH Tryd.prog Rows.fnSimpKindRow.laid w) (fun _ _ _ hh h => h.of_heap hh) own started (by kernel_rfl) Tryd.func3
    (ChangeSpec.witness_shaped (enc := enc) (C := Tryd.checked) (os := os) (X := fun w _ => laidMetH Tryd.prog Rows.fnSimpKindRow.laid w) false (World.doorLaid Tryd.prog 400 os) #[.slice none 0 0] 8 rfl (World.shaped_of_RefB (by kernel_rfl) (by kernel_rfl)) (by kernel_rfl) (by kernel_rfl) (by kernel_rfl) (door_met os _)) ?_
  intro W base args ds gs before hval0 hW hcnd hsz0 hL _
  have hval : ∀ (j : Nat) t v, Tryd.f3.params[j]? = some t → args[j]? = some v → Value.okWide Tryd.prog W .any base t v := hval0
  have hW' := hW
  obtain ⟨p, q, hA0, hV0, rfl, hfz, hnd⟩ := hW
  have hA : DataW.TrodAll enc Tryd.prog W 0 (fun _ => true) true Tryd.f3.params.toList args.toList ds p := hA0
  have hV : DataW.TrodVars enc Tryd.prog W (fun _ => true) ["loop.example/handfast/impl.errKindNone", "loop.example/handfast/impl.errPureFail"] gs q := hV0
  rw [Tryd.params3] at hA hval
  obtain ⟨v0, vs0, d0, ds0, p0, q0, hargs, rfl, rfl, h0, r0⟩ := trodAll_cons hA
  obtain ⟨rfl, rfl, rfl⟩ := trodAll_nil r0
  obtain rfl : args = #[v0] := by cases args; simp_all
  obtain ⟨ad, bd, had, hva, hvb⟩ := sent_of2 hL
  obtain ⟨rfl, rfl⟩ := hV.unique (vars_read2 enc sentNamed sentType Tryd.underlying60 hva trivial sentNamed' sentType' Tryd.underlying60 hvb trivial _)
  have k0 := h0
  have lt0 : ∀ x ∈ p0, x.block < W.heap.size := by obtain ⟨m, hm⟩ := k0; exact DataW.trod_lt m _ _ _ hm
  obtain ⟨a0, len0, cap0, rfl⟩ := okWide_slice Tryd.underlying22 (hval 0 22 v0 rfl rfl)
  obtain ⟨z0, w0⟩ : ∃ zs, IsRow .u8 W a0 len0 cap0 zs := by
    obtain ⟨fuel, hf⟩ := h0
    rcases open_ints Tryd.underlying22 Tryd.underlying5 (by kernel_rfl) hf with ⟨hcs, _⟩ | ⟨x, l, c, zs, hcs, _, hl, hm, hz, _, hcell, hwz⟩
    · simp [Value.cells] at hcs
      obtain ⟨rfl, rfl, rfl⟩ := hcs
      exact ⟨[], .inl ⟨rfl, rfl, rfl, rfl⟩⟩
    · simp [Value.cells] at hcs
      obtain ⟨rfl, rfl, rfl⟩ := hcs
      exact ⟨zs, .inr ⟨_, rfl, hl, hm, by simpa using hz, hcell, hwz⟩⟩
  obtain ⟨c0, cw0, cl0, cp0⟩ := prep_row w0
  clear hA0 hval0 hsz0
  have hfc := simpKindLaw ad bd c0 (fun x hx => wf8 (cw0 x hx)) cl0
  have hvs : ∀ (k : Nat) x v, ([.row 1 (c0.map fun n => .c (.int .u8 n))] : List En.PV)[k]? = some x → [Value.slice a0 len0 cap0][k]? = some v → En.PRep W (olds W) x v := by
    intro k x v hx hv
    match k, hx, hv with
    | 0, rfl, rfl => exact cp0
    | k + 1, hx, hv => simp at hx
  have hrun := FC.row hfc W _ rfl hvs (gB_ok had.1 had.2)
  refine hrun.mono fun e W' ⟨he, bel⟩ => ?_
  subst he
  exact ⟨_, rfl, _, _, _, [], _, _, hW', trodAll_mk1 (shut_bool Tryd.underlying4 _), (trodAll_cons_mk (Below.trod laidOut (by kernel_rfl) (of_decide_eq_true (by kernel_rfl)) k0 bel lt0) trodAll_mk0), Below.trodVars laidOut bel (by kernel_rfl) hV, bel.frame _, fun h => by cases h⟩
theorem over : Rows.fnSimpKindRow.holds Tryd.pinned (OpenSpec.ofChange Rows.fnSimpKindSpec) :=
  OpenClaim.holds_of_wide 3 Tryd.f3 rfl rfl rfl rfl rfl rfl rfl ⟨rfl, rfl, rfl, rfl, rfl⟩ rfl rfl rfl rfl rfl (by kernel_rfl) Tryd.func3 (by kernel_rfl)
    (of_decide_eq_true (by kernel_rfl)) (by unfold Func.isWrapper; first | (rw [if_pos (by decide +kernel)]; kernel_rfl) | (rw [if_neg (by decide +kernel)]; exact ⟨rfl, rfl⟩))
    (fun os started H enc _ => lifted os started H enc)
theorem proved : Rows.FnSimpKindCardSaid :=
  Claim7.holds_tied_plain_at .later [] [.sentinel, .sentinel] true (true, "0482e75dd4b8abaddf3e6ace281d0a371e8179bcacbd180b156089e95c897eb2") true
    over (fun _ h => by cases h) (by kernel_rfl) (fun _ h => by cases h) fnSimpKind_row_tie rfl ⟨rfl, rfl⟩ (by kernel_rfl) rfl
    (fun f fn hf hfn => by
      obtain rfl : f = 3 := Option.some.inj ((show Tryd.prog.funcNamed "loop.example/handfast/laws.FnSimpKind" = some 3 by kernel_rfl).symm.trans hf) |>.symm
      obtain rfl : fn = Tryd.f3 := (Option.some.inj (Tryd.func3.symm.trans hfn)).symm
      exact ⟨by kernel_rfl, fun j t ht => by
        rw [Tryd.params3] at ht
        have hm : t ∈ [22] := by simpa using Array.mem_of_getElem? ht
        have hall : ([22].all fun u => !Tryd.prog.wantsStandIn u) = true := by kernel_rfl
        exact (show Tryd.prog.wantsStandIn t = false by simpa using List.all_eq_true.1 hall t hm)⟩)
    (by kernel_rfl)
#print axioms proved
end Go.Proofs.YtlcmokgnmlklnaaDoor.fnSimpKind
namespace Go.Proofs.YtlcmokgnmlklnaaDoor
theorem fnSimpKind_holds : Rows.FnSimpKindCardSaid := fnSimpKind.proved
end Go.Proofs.YtlcmokgnmlklnaaDoor
end
