-- YtglkkbgflnpjeaaGreatDoor's texts for the statement FnSimpNum, one behind the other (merge.py).
import Derived.Test.YtglkkbgflnpjeaaGreatDoorQFnSimpNum0
import Derived.Test.YtglkkbgflnpjeaaGreatDoorQFnSimpNum1
import Derived.Test.YtglkkbgflnpjeaaGreatDoorProg
section
namespace Go.Proofs.YtglkkbgflnpjeaaGreatDoor.En
set_option linter.unusedVariables false
set_option linter.unusedSimpArgs false
open Go Go.RowKit Go.Proofs.YtglkkbgflnpjeaaGreatDoor.PA
variable {P : Program} {E : Ent} {σ : St} {a : Act} {w : World} {S : Nat → Nat → Prop} {g : Nm → GV}
theorem Rep.owner (h : Rep E σ a w S g) {m : Nm} (hm : (σ.ob m).isSome) {b : Nat} (hb : (g m).B b) : E.w.heap.size ≤ b ∨ ∃ j, j < E.n ∧ (E.g (.S j)).B b := by
  cases m with
  | L t => exact h.lo t hm b hb
  | S i =>
    obtain ⟨o, ho⟩ := Option.isSome_iff_exists.1 hm
    exact h.ev.own i (List.getElem?_eq_some_iff.1 ho).1 b hb
theorem Rep.re (h : Rep E σ a w S g) {σ' : St} {S' : Nat → Nat → Prop} {g' : Nm → GV} (hnt : σ'.nt = σ.nt) (hG : σ'.G = σ.G) (hH : σ.H.length ≤ σ'.H.length)
    (htm : ∀ t V, TRep (σ.env w S g) (σ.tm t) V → TRep (σ'.env w S' g') (σ'.tm t) V)
    (hS : ∀ b k, S b k → S' b k) (hS2 : ∀ b k, S' b k → S b k ∨ ∃ n, (σ.ob n).isSome ∧ (g n).B b)
    (hob : ∀ n o, σ'.ob n = some o → ORep (σ'.env w S' g') n o)
    (hdj : ∀ n m, n ≠ m → (σ'.ob n).isSome → (σ'.ob m).isSome → ∀ b, (g' n).B b → ¬ (g' m).B b)
    (hB : ∀ n, (σ'.ob n).isSome → ∀ b, (g' n).B b → ∃ m, (σ.ob m).isSome ∧ (g m).B b)
    (hs : ∀ (i : Nat) (o : AObj), σ'.H[i]? = some o → o.All Nm.isS)
    (hN : ∀ i, i < σ.H.length → NmOk (σ.env w S g) (σ'.env w S' g') (.S i)) : Rep E σ' a w S' g' where
  tm := fun t => htm t _ (h.tm t)
  nt := h.nt.trans hnt.symm
  df := h.df
  ob := hob
  dj := hdj
  st := fun b k hk => by
    rcases hS2 b k hk with q | ⟨n, q1, q2⟩
    · exact h.st b k q
    · obtain ⟨o, ho⟩ := Option.isSome_iff_exists.1 q1
      exact (h.ob n o ho).lt q2
  lo := fun t ht b hb => by
    obtain ⟨m, q1, q2⟩ := hB (.L t) ht b hb
    exact h.owner q1 q2
  hs := hs
  ev := ⟨h.ev.os, h.ev.tape, h.ev.output, h.ev.size, Nat.le_trans h.ev.n hH, h.ev.block, fun b k hk => ⟨hS b k (h.ev.stb b k hk).1, (h.ev.stb b k hk).2⟩, fun b k hk => by
    rcases hS2 b k hk with q | ⟨n, q1, q2⟩
    · exact h.ev.new b k q
    · exact .inr (h.owner q1 q2), fun i hi b hb => by
    obtain ⟨m, q1, q2⟩ := hB (.S i) (by show (σ'.H[i]?).isSome = true; simp [hi]) b hb
    exact h.owner q1 q2⟩
  gl := fun i y hy => by
    rw [hG] at hy
    obtain ⟨u, h1, h2, h3, h4⟩ := h.gl i y hy
    exact ⟨u, hS _ _ h1, h2, h3, h4.move (fun b k hk => ⟨hS b k hk, rfl⟩)⟩
  nm := fun i hi => (h.nm i hi).trans (hN i (Nat.lt_of_lt_of_le hi h.ev.n))
  eG := hG.trans h.eG
mutual
def frz : PV → PV
  | .own z _ xs => .row z (frzs xs)
  | .ag l => .ag (frzs l)
  | .c v => .c v
  | .ifc t v => .ifc t v
  | .row z xs => .row z xs
  | .any => .any
def frzs : List PV → List PV
  | [] => []
  | x :: xs => frz x :: frzs xs
end
mutual
def okF : PV → Bool
  | .own _ _ xs => okFs xs
  | .ag l => okFs l
  | .any => false
  | .c _ => true
  | .ifc _ _ => true
  | .row _ _ => true
def okFs : List PV → Bool
  | [] => true
  | x :: xs => okF x && okFs xs
end
theorem frzs_map : ∀ l, frzs l = l.map frz
  | [] => by unfold frzs; rfl
  | x :: l => by unfold frzs; rw [frzs_map l]; rfl
theorem okFs_all : ∀ l, okFs l = l.all okF
  | [] => by unfold okFs; rfl
  | x :: l => by unfold okFs; rw [okFs_all l]; rfl
theorem frz_cells (v : PV) : (frz v).cells = v.cells.map frz := by
  cases v <;> simp [frz, PV.cells, frzs_map]
theorem okF_cells (v : PV) (h : okF v = true) : ∀ y ∈ v.cells, okF y = true := by
  cases v with
  | ag l =>
    unfold okF at h
    rw [okFs_all, List.all_eq_true] at h
    exact h
  | c => intro y hy; simp [PV.cells] at hy; subst hy; exact h
  | ifc => intro y hy; simp [PV.cells] at hy; subst hy; exact h
  | row => intro y hy; simp [PV.cells] at hy; subst hy; exact h
  | own => intro y hy; simp [PV.cells] at hy; subst hy; exact h
  | any => unfold okF at h; cases h
theorem flat_frz (xs : List PV) : flat (xs.map frz) = (flat xs).map frz := by
  induction xs with
  | nil => rfl
  | cons x xs ih => rw [List.map_cons, flat_cons, flat_cons, ih, List.map_append, frz_cells]
theorem PRep.frz {v : PV} {V : Value} (h : PRep w S v V) : En.frz v = v := by
  induction h with
  | c => rfl
  | @ag l A hs h h1 ih =>
    unfold En.frz
    rw [frzs_map]
    congr 1
    refine List.ext_getElem? (fun k => ?_)
    rw [List.getElem?_map]
    cases hk : l[k]? with
    | none => rfl
    | some y =>
      have hlt : k < A.length := by rw [hs]; exact (List.getElem?_eq_some_iff.1 hk).1
      rw [Option.map_some, ih k y _ hk (List.getElem?_eq_getElem hlt)]
  | ifc => rfl
  | nl => rfl
  | row => rfl
theorem LRep.frz {v : PV} {V : Value} {B : Nat → Prop} (h : LRep w S v V B) : okF v = true → ∀ {S' : Nat → Nat → Prop}, (∀ b k, S b k → S' b k) → (∀ b k, B b → S' b k) → PRep w S' (En.frz v) V := by
  induction h with
  | p h hB =>
    intro _ S' h1 _
    rw [h.frz]
    exact h.move (fun b k hk => ⟨h1 b k hk, rfl⟩)
  | any h hB => intro ho; unfold okF at ho; cases ho
  | @ag l A B F hs h h1 hd hB ih =>
    intro ho S' g1 g2
    have hok : ∀ y ∈ l, okF y = true := okF_cells (.ag l) ho
    unfold En.frz
    rw [frzs_map]
    refine .ag (by simpa using hs) (fun k y u hy hu => ?_) h1
    rw [List.getElem?_map] at hy
    cases hk : l[k]? with
    | none => rw [hk] at hy; cases hy
    | some x =>
      rw [hk] at hy
      cases hy
      exact ih k x u hk hu (hok x (List.mem_of_getElem? hk)) g1 (fun b j hb => g2 b j ((hB b).2 ⟨k, (List.getElem?_eq_some_iff.1 hk).1, hb⟩))
  | @own z t xs V B fl F hown hz h h1 hd hb hB ih =>
    intro hok S' g1 g2
    have hokx : ∀ x ∈ xs, okF x = true := by unfold okF at hok; rw [okFs_all, List.all_eq_true] at hok; exact hok
    have hokf : ∀ y ∈ flat xs, okF y = true := by
      intro y hy
      obtain ⟨x, hx, hyx⟩ := List.mem_flatMap.1 hy
      exact okF_cells x (hokx x hx) y hyx
    unfold En.frz
    rw [frzs_map]
    rcases hown.2 with ⟨e1, e2⟩ | ⟨gb, cap, cur, e1, e2, e3, e4, e5, e6, e7⟩
    · obtain rfl := List.length_eq_zero_iff.1 e2
      rw [e1]; exact .nl
    · have hln : (xs.map En.frz).length = xs.length := by simp
      have hfx : (flat xs).length = fl.length := by rw [flat_len hz, hown.1]
      rw [e1]
      have key := PRep.row (w := w) (S := S') (z := z) (xs := xs.map En.frz) (b := gb) (off := 0) (c := cap) (fun k => fl.getD k undef) (by simpa using e4) ?_ ?_ ?_
      · simpa using key
      · intro x hx
        obtain ⟨y, hy, rfl⟩ := List.mem_map.1 hx
        rw [frz_cells, List.length_map]; exact hz y hy
      · intro k y hy
        rw [flat_frz, List.getElem?_map] at hy
        cases hk : (flat xs)[k]? with
        | none => rw [hk] at hy; cases hy
        | some x =>
          rw [hk] at hy
          cases hy
          have hk2 : k < fl.length := by rw [← hfx]; exact (List.getElem?_eq_some_iff.1 hk).1
          have := ih k x _ hk (List.getElem?_eq_getElem hk2) (hokf x (List.mem_of_getElem? hk)) g1 (fun b j hF => g2 b j ((hB b).2 (.inr ⟨k, hk2, hF⟩)))
          simpa [List.getD, List.getElem?_eq_getElem hk2] using this
      · intro k hk
        have hk2 : k < fl.length := by rw [hown.1]; simpa using hk
        have hcell := World.ownsRow.cells (h := hown) (g := gb) (by rw [e1]; rfl) k _ (List.getElem?_eq_getElem hk2)
        rw [Addr.add_mid] at hcell
        refine ⟨g2 _ _ ((hB gb).2 (.inl (by rw [e1]; rfl))), ?_, ?_⟩
        · rw [hcell]; simp [List.getD, List.getElem?_eq_getElem hk2]
        · have := h1 _ (List.getElem_mem hk2)
          simpa [List.getD, List.getElem?_eq_getElem hk2] using this
def FrzC (ob : Nm → Option AObj) (c : TV) (y : PV) : Prop := (∃ v, c = .o v ∧ okF v = true ∧ y = frz v) ∨ (noO c ∧ ToPV ob c y)
theorem Rep.freeze (h : Rep E σ a w S g) {n : Nm} {z : Nat} {t : TypeId} {ks : List Nm} {xs : List (List TV)} (hn : σ.ob n = some (.ow z t ks xs)) {vs : List PV} (hl : vs.length = xs.length) (hz : ∀ v ∈ vs, v.cells.length = z)
    (hc : ∀ (k : Nat) c y, xs.flatten[k]? = some c → (flat vs)[k]? = some y → FrzC σ.ob c y) : ∃ S' g', Rep E (σ.set n (.rw z t vs)) a w S' g' := by
  have hob := h.obs
  obtain ⟨_, _, fl, F, o1, o2, o3, o4, o5, o6, o7, o8⟩ := h.ob n _ hn
  have o1' : w.ownsRow 0 t z (g n).v xs.length fl := o1
  have o7' : ∀ b, (g n).B b ↔ blk (g n).v = some b ∨ ∃ k, k < fl.length ∧ F k b := o7
  have o8' : ∀ b, (g n).B b → ∀ k, ¬ S b k := o8
  have o6' : ∀ k b, k < fl.length → F k b → blk (g n).v ≠ some b := o6
  let S' : Nat → Nat → Prop := fun b k => S b k ∨ ((g n).B b ∧ (blk (g n).v = some b → k < xs.length * z))
  let g' : Nm → GV := updG g n (gvOf (g n).v)
  have hgn : g' n = gvOf (g n).v := updG_same _ _ _
  have hgo : ∀ m, m ≠ n → g' m = g m := fun m hm => if_neg hm
  have hgv : ∀ m, (g' m).v = (g m).v := fun m => by
    by_cases e : m = n
    · rw [e, hgn]; rfl
    · rw [hgo m e]
  have hgB : ∀ m b, (g' m).B b → (g m).B b := fun m b hb => by
    by_cases e : m = n
    · subst e; rw [hgn] at hb; exact (o7' b).2 (.inl hb)
    · rwa [hgo m e] at hb
  have hN : ∀ m, NmOk (σ.env w S g) ((σ.set n (.rw z t vs)).env w S' g') m := by
    intro m
    refine .inl ⟨hgv m, .inr ?_⟩
    show ((σ.set n _).ob m).bind AObj.ln = (σ.ob m).bind AObj.ln
    by_cases e : m = n
    · subst e; rw [set_same _ hn, hn]; simp [AObj.ln, hl]
    · rw [set_other _ e]
  have hmove : ∀ (v : TV) V, TRep (σ.env w S g) v V → TRep ((σ.set n (.rw z t vs)).env w S' g') v V := fun v V hv =>
    TRep.move (Γ := σ.env w S g) (Γ' := (σ.set n (.rw z t vs)).env w S' g') (q := fun _ => True) (fun b k hk => ⟨Or.inl hk, rfl⟩) (Nat.le_of_eq (set_H _).symm) (fun m _ _ => hN m) hv (hAllT v)
  refine ⟨S', g', h.re (set_nt _) (set_G _) (Nat.le_of_eq (set_H _).symm) (fun t V hv => by rw [set_tm]; exact hmove _ _ hv) (fun b k hk => .inl hk) (fun b k hk => hk.imp id (fun q => ⟨n, by rw [hn]; rfl, q.1⟩)) ?_ ?_ ?_ ?_ (fun i _ => hN (.S i))⟩
  · intro m o ho
    by_cases e : m = n
    · subst e
      rw [set_same _ hn] at ho
      cases ho
      have hg2 : ((σ.set m (.rw z t vs)).env w S' g').g m = gvOf (g m).v := hgn
      refine ⟨fl, ?_, ?_, hz, ?_, ?_⟩
      · rw [hg2, hl]; exact o1'
      · rw [hg2]; exact fun b => Iff.rfl
      · intro k y u hy hu
        have hk : k < xs.flatten.length := by rw [flatten_len o2, ← o1'.1]; exact (List.getElem?_eq_some_iff.1 hu).1
        have h0 := o3 k _ u (List.getElem?_eq_getElem hk) hu
        have h1 := hc k _ y (List.getElem?_eq_getElem hk) hy
        have hku : k < fl.length := (List.getElem?_eq_some_iff.1 hu).1
        refine ⟨?_, o4 u (List.mem_of_getElem? hu)⟩
        generalize xs.flatten[k] = c at h0 h1
        rcases h1 with ⟨v, rfl, h2, rfl⟩ | ⟨h2, h3⟩
        · cases h0 with
          | t h _ => cases h
          | o h0 =>
            refine h0.frz h2 (fun b j hj => .inl hj) (fun b j hF => .inr ⟨(o7' b).2 (.inr ⟨k, hku, hF⟩), fun e => absurd e (o6' k b hku hF)⟩)
        · cases h0 with
          | t h0 _ => exact (h3.sound hob h0).move (fun b j hj => ⟨.inl hj, rfl⟩)
          | o _ => exact h2.elim
      · rw [hg2]
        intro b hb k
        refine ⟨fun hk => ?_, fun hk => .inr ⟨(o7' b).2 (.inl hb), fun _ => by rw [← hl]; exact hk⟩⟩
        rcases hk with hk | hk
        · exact absurd hk (o8' b ((o7' b).2 (.inl hb)) k)
        · rw [hl]; exact hk.2 hb
    · rw [set_other _ e] at ho
      refine ORep.move (Γ := σ.env w S g) (Γ' := (σ.set n (.rw z t vs)).env w S' g') (q := fun _ => True) (fun b k hk => ⟨Or.inl hk, rfl⟩) (Nat.le_of_eq (set_H _).symm) (fun m _ _ => hN m) (h.ob m o ho) (hAllO o) (hgo m e) (fun b hb => ⟨rfl, fun k hk => ?_⟩)
      rcases hk with hk | hk
      · exact hk
      · exact absurd hk.1 (h.dj m n e (by rw [ho]; rfl) (by rw [hn]; rfl) b hb)
  · intro m1 m2 hne h1 h2 b b1 b2
    have hso : ∀ m, ((σ.set n (.rw z t vs)).ob m).isSome → (σ.ob m).isSome := fun m hm => by
      by_cases e : m = n
      · rw [e, hn]; rfl
      · rwa [set_other _ e] at hm
    exact h.dj m1 m2 hne (hso _ h1) (hso _ h2) b (hgB _ _ b1) (hgB _ _ b2)
  · intro m hm b hb
    refine ⟨m, ?_, hgB _ _ hb⟩
    by_cases e : m = n
    · rw [e, hn]; rfl
    · rwa [set_other _ e] at hm
  · intro i o ho
    by_cases e : Nm.S i = n
    · subst e
      rw [show (σ.set (.S i) (.rw z t vs)).H[i]? = some (.rw z t vs) from set_same _ hn] at ho
      cases ho
      trivial
    · rw [show (σ.set n (.rw z t vs)).H[i]? = σ.H[i]? from set_other _ e] at ho
      exact h.hs i o ho
end Go.Proofs.YtglkkbgflnpjeaaGreatDoor.En
end
section
namespace Go.Proofs.YtglkkbgflnpjeaaGreatDoor.En
set_option linter.unusedVariables false
set_option linter.unusedSimpArgs false
open Go Go.RowKit Go.Proofs.YtglkkbgflnpjeaaGreatDoor.PA
section
variable {P : Program} {E : Ent} {σ : St} {a : Act} {w : World} {S : Nat → Nat → Prop} {g : Nm → GV}
theorem Rep.litOw (h : Rep E σ a w S g) {t d len : Nat} {parts : Array (Nat × Operand)} {e z : Nat} {b : Bool} {ks : List Nm} (ht : P.underlying t = some (.slice e)) (hl : lay P e = some (b, z)) (hzz : zer P e ≠ none) (hz0 : 0 < z) (hn : len * z ≤ 16777216)
    (hi : parts.toList.map (·.1) = List.range len) (hc : ∀ q ∈ parts.toList, hasCells (σ.ev q.2) ∧ (tcells (σ.ev q.2)).length = z) (hf : Fresh σ (.L d)) (hks : ∀ q ∈ parts.toList, ∀ x ∈ tcells (σ.ev q.2), x.All (· ∈ ks)) (hkl : ∀ n ∈ ks, n.lt σ.H.length) (hkd : ∀ n ∈ ks, n ≠ .L d)
    {o : Oper} (ho : o.op = .buildSlice t len parts) :
    ∃ w' g', (execOp a.eval o).run P w = .ok (.value (.slice (some ⟨w.heap.size, 0, none⟩) len len)) w' ∧ (g' (.L d)).v = .slice (some ⟨w.heap.size, 0, none⟩) len len ∧ Rep E (σ.add (.L d) (.ow z e ks (parts.toList.map fun q => tcells (σ.ev q.2)))) a w' S g' := by
  have hev := h.eval
  obtain ⟨zs, hzs⟩ := Option.ne_none_iff_exists'.1 hzz
  obtain ⟨Z, z1, z2, _⟩ := zer_run (w := w) hzs
  have hsz : (sizeOf e).run P w = .ok z w := lay_size hl w
  have hpl : parts.toList.length = len := by have := congrArg List.length hi; simpa using this
  have hrp : ∀ q ∈ parts.toList, CRep (σ.env w S g) (tcells (σ.ev q.2)) (a.eval q.2).cells.toList := fun q hq => tcells_rep (hev q.2) (hc q hq).1
  have hVs : ∀ V ∈ parts.toList.map (fun q => a.eval q.2), V.cells.size = z := by
    intro V hV
    obtain ⟨q, hq, rfl⟩ := List.mem_map.1 hV
    rw [← (hc q hq).2, ← (hrp q hq).len]; simp
  have hparts : (parts.map fun (i, x) => (i, a.eval x)).toList = (List.range' 0 (parts.toList.map (fun q => a.eval q.2)).length).zip (parts.toList.map (fun q => a.eval q.2)) := by
    rw [List.length_map, hpl, ← List.range_eq_range', ← hi, Array.toList_map, List.zip_map']
  obtain ⟨A', f1, f2⟩ := fill_seq (z := z) (parts.toList.map (fun q => a.eval q.2)) 0 ((Array.range (len * z)).map (fun i => (if len * z = 0 then #[] else Z.cells)[i % (if len * z = 0 then #[] else Z.cells).size]!)) [] hVs (by simp) (by simp) (by simp [hpl])
  rw [← hparts] at f1
  have hcr : ∀ l : List (Nat × Operand), (∀ q ∈ l, q ∈ parts.toList) → CRep (σ.env w S g) (l.map fun q => tcells (σ.ev q.2)).flatten ((l.map (fun q => a.eval q.2)).flatMap (fun V => V.cells.toList)) := by
    intro l
    induction l with
    | nil => intro _; exact ⟨rfl, fun k y u hy => by simp at hy, fun u hu => by simp at hu⟩
    | cons q l ih =>
      intro hq
      simp only [List.map_cons, List.flatten_cons, List.flatMap_cons]
      exact (hrp q (hq q (by simp))).append (ih (fun q' hq' => hq q' (by simp [hq'])))
  have hcrep : CRep (σ.env w S g) (parts.toList.map fun q => tcells (σ.ev q.2)).flatten A'.toList := by rw [f2, List.nil_append]; exact hcr _ (fun _ h => h)
  have hzl : ∀ x ∈ parts.toList.map (fun q => tcells (σ.ev q.2)), x.length = z := by
    intro x hx
    obtain ⟨q, hq, rfl⟩ := List.mem_map.1 hx
    exact (hc q hq).2
  have hAl : A'.size = len * z := by
    have := hcrep.len
    rw [flatten_len hzl, List.length_map, hpl] at this
    simpa using this
  have hr : (execOp a.eval o).run P w = .ok (.value (.slice (some ⟨w.heap.size, 0, none⟩) len len)) (w.alloc (.cells A' e)) := by
    by_cases h0 : len * z = 0
    · simp [h0] at f1
      simp [execOp, ho, Instr.buildSlice, run_underlying ht, hsz, h0, f1, Go.newRow]
    · simp [h0] at f1
      have hn' : ¬ (16777216 < len * z) := by omega
      simp [execOp, ho, Instr.buildSlice, run_underlying ht, hsz, h0, hn', z1, f1, Go.newRow]
  have hnew := h.newOw hf (z := z) (t := e) (ks := ks) (xs := parts.toList.map fun q => tcells (σ.ev q.2)) (v := .slice (some ⟨w.heap.size, 0, none⟩) len len) (w' := w.alloc (.cells A' e)) (fl := A'.toList) (World.grownBy_alloc w _ _)
    (by rw [List.length_map, hpl]; exact World.ownsRow_lit w A' len (Nat.le_refl _) (by simp only [maxLen]; have : len ≤ len * z := Nat.le_mul_of_pos_right len hz0; omega) hAl) hzl hcrep
    (fun x hx => by
      obtain ⟨c, hcm, hxc⟩ := List.mem_flatten.1 hx
      obtain ⟨q, hq, rfl⟩ := List.mem_map.1 hcm
      exact hks q hq x hxc) hkl hkd (fun i e => by cases e)
  exact ⟨_, _, hr, by rw [updG_v], hnew⟩
end
section
variable {P : Program} {G : Nat → Option PV} {md : Nat → Nat}
theorem want_of {ops : Array Oper} {l : List (Nat × TV)} {n : Nat} {o : List (Nat × AObj)} {H : List AObj} {op : Oper} (hg : gtM ops.toList l n op.guard = true) : WantT ops ((MS.mk l n o H).st G md) op true := by
  unfold WantT
  cases e : op.guard with
  | none => rfl
  | some q =>
    obtain ⟨j, want⟩ := q
    rw [e] at hg
    unfold gtM at hg
    simp only at hg
    split at hg
    · rename_i t ht
      split at hg
      · rename_i v hl hlt
        split at hg
        · rename_i b hb
          subst hg
          exact ⟨t, by simpa using ht, Nat.le_of_ble_eq_true hlt, by rw [show ((MS.mk l n o H).st G md).tm t = v from (by show lkT l t = _; unfold lkT; rw [hl])]; exact hb⟩
        · cases hg
      · cases hg
    · cases hg
def inKs (ks : List Nm) (v : TV) : Prop := v.All (· ∈ ks)
theorem EOps.bs (T : Tab P) (ks : List Nm) {hbs : Nat → Bool} {ops : Array Oper} {K : St → Prop} {r : List Oper} {i : Nat} {l : List (Nat × TV)} {n : Nat} {o : List (Nat × AObj)} {H : List AObj} {d t len : Nat} {parts : Array (Nat × Operand)} {ty : TypeId} {pos : String} {af : Array Edge} {gd : Option (Nat × Bool)} {e z : Nat} {b : Bool} {vs : List TV}
    (hf : hbs 4294967296 = true) (hg : gtM ops.toList l n gd = true) (he : T.sl t = some e) (hl : T.lay e = some (b, z)) (hz : (T.zer e).isSome = true) (hq : (Nat.blt 0 z && Nat.ble (len * z) 16777216 && decide (parts.toList.map (·.1) = List.range len)) = true)
    (hv : evL l (parts.toList.map (·.2)) = some vs) (hc : ∀ v ∈ vs, hasCells v ∧ (tcells v).length = z ∧ ∀ x ∈ tcells v, x.All (· ∈ ks)) (hfr : (freT d l && freO d o && nmBs d ks && Nat.blt d n) = true) (hkl : ∀ m ∈ ks, m.lt H.length)
    (k : EOps P hbs ops (i + 1) r ((MS.mk ((d, .vw (.L d) len) :: l) n ((d, .ow z e ks (vs.map tcells)) :: o) H).st G md) K) :
    EOps P hbs ops i (⟨some d, .buildSlice t len parts, ty, pos, af, gd⟩ :: r) ((MS.mk l n o H).st G md) K := by
  simp only [Bool.and_eq_true, decide_eq_true_eq] at hq hfr
  obtain ⟨⟨q1, q2⟩, q3⟩ := hq
  obtain ⟨⟨⟨f1, f2⟩, f3⟩, f4⟩ := hfr
  have hvs := evL_spec (G := G) (md := md) (s := MS.mk l n o H) hv
  have hpl : parts.toList.length = len := by have := congrArg List.length q3; simpa using this
  have hmem : ∀ q ∈ parts.toList, ((MS.mk l n o H).st G md).ev q.2 ∈ vs := by
    intro q hq
    rw [← hvs, List.map_map]
    exact List.mem_map.2 ⟨q, hq, rfl⟩
  have hfz : Fresh ((MS.mk l n o H).st G md) (.L d) := fresh_of f1 f2
  refine EOps.sem hf (want_of hg) (fun E a w S g hr Q => ?_)
  obtain ⟨w', g', r1, r2, r3⟩ := hr.litOw (P := P) (ks := ks) (T.hsl _ _ he) (T.hlay _ _ hl) (by
      cases hzz : T.zer e with
      | none => rw [hzz] at hz; cases hz
      | some zs => rw [(T.hzer _ _ hzz).1]; simp) (Nat.le_of_ble_eq_true q1) (Nat.le_of_ble_eq_true q2) q3 (fun q hq => ⟨(hc _ (hmem q hq)).1, (hc _ (hmem q hq)).2.1⟩) hfz (fun q hq x hx => (hc _ (hmem q hq)).2.2 x hx) hkl (nmBs_spec d ks f3) (o := ⟨some d, .buildSlice t len parts, ty, pos, af, gd⟩) rfl
  unfold Oper.wp
  rw [r1, Oper.upon_value]
  have hadd : ((MS.mk l n o H).st G md).add (.L d) (.ow z e ks (parts.toList.map fun q => tcells (((MS.mk l n o H).st G md).ev q.2))) = (MS.mk l n ((d, .ow z e ks (vs.map tcells)) :: o) H).st G md := by
    rw [← hvs, List.map_map, List.map_map]
    exact st_addL
  have hput := r3.put (v := .vw (.L d) len) (V := .slice (some ⟨w.heap.size, 0, none⟩) len len) (.vw trivial rfl (fun k' hk' => ?_)) (some d)
  · rw [hadd, st_put f4] at hput
    exact ⟨_, S, g', k, hput⟩
  · have e' : ((((MS.mk l n o H).st G md).add (.L d) (.ow z e ks (parts.toList.map fun q => tcells (((MS.mk l n o H).st G md).ev q.2)))).ob (.L d)).bind AObj.ln = some k' := hk'
    rw [add_same _ hfz] at e'
    simp only [Option.bind_some, AObj.ln, List.length_map, hpl, Option.some.injEq] at e'
    exact ⟨Nat.le_of_eq e', fun _ => r2.symm⟩
def srcM (ob : Nm → Option AObj) (z : Nat) (x : TV) (ys : List (List TV)) : Prop :=
  (∃ ps, RowOf ob x z ps ∧ ys = ps.map fun y => y.cells.map TV.p) ∨ (∃ nm len t ks, x = .vw nm len ∧ ob nm = some (.ow z t ks ys) ∧ ys.length = len ∧ ∀ y ∈ ys.flatten, noO y)
theorem srcM.sound {Γ : Env} {ob : Nm → Option AObj} (hob : Obs Γ ob) {z : Nat} {x : TV} {ys : List (List TV)} (h : srcM ob z x ys) {X : Value} (hx : TRep Γ x X) : ∃ ad c news, SrcRow Γ z ys X ad c news := by
  rcases h with ⟨ps, h1, rfl⟩ | ⟨nm, len, t, ks, rfl, h1, h2, h3⟩
  · exact SrcRow.pure (h1.sound hob hx)
  · cases hx with
    | vw hn _ hg =>
      have hV := (hg ys.length (by rw [hob.ln, h1]; rfl)).2 h2.symm
      rw [hV]
      exact SrcRow.ow (hob.rep nm _ h1) h3
theorem EOps.ap (T : Tab P) (ks' : List Nm) {ys : List (List TV)} {hbs : Nat → Bool} {ops : Array Oper} {K : St → Prop} {r : List Oper} {i : Nat} {l : List (Nat × TV)} {n : Nat} {o : List (Nat × AObj)} {H : List AObj} {d : Nat} {s x : Operand} {t : TypeId} {ty : TypeId} {pos : String} {af : Array Edge} {gd : Option (Nat × Bool)} {e z by_ : Nat} {b : Bool} {zs : List Value} {nm : Nm} {len : Nat} {ks : List Nm} {xs : List (List TV)} {X : TV}
    (hf : hbs 4294967296 = true) (hg : gtM ops.toList l n gd = true) (hs : evM l s = some (.vw nm len)) (hn : obM o H nm = some (.ow z e ks xs)) (hx : evM l x = some X) (he : T.sl t = some e) (hl : T.lay e = some (b, z)) (hz : T.zer e = some zs) (hby : T.byt e = some by_) (hq : (Nat.beq zs.length z && Nat.blt 0 z && Nat.blt 0 by_ && Nat.blt d n) = true)
    (hlen : xs.length = len) (hsrc : srcM (obM o H) z X ys) (hk1 : ∀ m ∈ ks, m ∈ ks') (hk2 : ∀ y ∈ ys.flatten, y.All (· ∈ ks')) (hkl : ∀ m ∈ ks', m.lt H.length) (hkS : ∀ j, nm = .S j → ∀ m ∈ ks', m.isS) (hby2 : (xs.length + ys.length) * by_ ≤ 140737488355328)
    (k : EOps P hbs ops (i + 1) r ((MS.mk ((d, .vw nm (xs.length + ys.length)) :: l) n (setM nm (.ow z e ks' (xs ++ ys)) o H).1 (setM nm (.ow z e ks' (xs ++ ys)) o H).2).st G md) K) :
    EOps P hbs ops i (⟨some d, .call ⟨.builtin .append, #[s, x], #[t, t]⟩, ty, pos, af, gd⟩ :: r) ((MS.mk l n o H).st G md) K := by
  simp only [Bool.and_eq_true] at hq
  obtain ⟨⟨⟨c1, c2⟩, c3⟩, c4⟩ := hq
  have hb : 0 < by_ := Nat.le_of_ble_eq_true c3
  have hok : AppOk P t e z (xs.length + ys.length) := ⟨T.hsl _ _ he, ⟨b, T.hlay _ _ hl⟩, ⟨zs, (T.hzer _ _ hz).1, Nat.eq_of_beq_eq_true c1⟩, Nat.le_of_ble_eq_true c2, ⟨by_, T.hbyt _ _ hby, hby2⟩, Nat.le_trans (Nat.le_mul_of_pos_right _ hb) hby2⟩
  have hobm : ((MS.mk l n o H).st G md).ob = obM o H := by funext m; exact obM_ob m
  refine EOps.sem hf (want_of hg) (fun E a w S g hr Q => ?_)
  have hev := hr.eval
  have hm : ((MS.mk l n o H).st G md).ob nm = some (.ow z e ks xs) := by rw [hobm]; exact hn
  have hXr := hev x
  rw [show ((MS.mk l n o H).st G md).ev x = X from evM_ev hx] at hXr
  obtain ⟨ad, c, news, hsr⟩ := hsrc.sound (by rw [← hobm]; exact hr.obs) hXr
  obtain ⟨v', w', g', r1, r2, r3, r4⟩ := hr.growOw (P := P) (ty := ty) (ks' := ks') hm hok hsr hk1 hk2 hkl hkS
  have hsv : a.eval s = (g nm).v := by
    have h0 := hev s
    rw [show ((MS.mk l n o H).st G md).ev s = .vw nm len from evM_ev hs] at h0
    cases h0 with
    | vw _ _ h0 => exact (h0 xs.length (by show (((MS.mk l n o H).st G md).ob nm).bind AObj.ln = _; rw [hm]; rfl)).2 hlen.symm
  have hrun : (execOp a.eval ⟨some d, .call ⟨.builtin .append, #[s, x], #[t, t]⟩, ty, pos, af, gd⟩).run P w = .ok (.value v') w' := by
    simp [execOp, resolve, invoke, builtin, hsv, r1]
  unfold Oper.wp
  rw [hrun, Oper.upon_value]
  have hput := r4.put (v := .vw nm (xs.length + ys.length)) (V := v') (.vw ?_ r2 (fun k' hk' => ?_)) (some d)
  · rw [st_set, st_put c4] at hput
    exact ⟨_, S, g', k, hput⟩
  · show nm.lt (((MS.mk l n o H).st G md).set nm _).H.length
    rw [set_H]; exact ob_lt hm
  · have e' : ((((MS.mk l n o H).st G md).set nm (.ow z e ks' (xs ++ ys))).ob nm).bind AObj.ln = some k' := hk'
    rw [set_same _ hm] at e'
    simp only [Option.bind_some, AObj.ln, List.length_append, Option.some.injEq] at e'
    exact ⟨Nat.le_of_eq e', fun _ => r3.symm⟩
theorem EOps.ap0 (T : Tab P) (ks : List Nm) {ys : List (List TV)} {hbs : Nat → Bool} {ops : Array Oper} {K : St → Prop} {r : List Oper} {i : Nat} {l : List (Nat × TV)} {n : Nat} {o : List (Nat × AObj)} {H : List AObj} {d : Nat} {s x : Operand} {t : TypeId} {ty : TypeId} {pos : String} {af : Array Edge} {gd : Option (Nat × Bool)} {e z by_ : Nat} {b : Bool} {zs : List Value} {X : TV}
    (hf : hbs 4294967296 = true) (hg : gtM ops.toList l n gd = true) (hs : evM l s = some .nil) (hx : evM l x = some X) (he : T.sl t = some e) (hl : T.lay e = some (b, z)) (hz : T.zer e = some zs) (hby : T.byt e = some by_) (hq : (Nat.beq zs.length z && Nat.blt 0 z && Nat.blt 0 by_ && Nat.blt d n) = true)
    (hfr : (freT d l && freO d o && nmBs d ks) = true) (hsrc : srcM (obM o H) z X ys) (hk2 : ∀ y ∈ ys.flatten, y.All (· ∈ ks)) (hkl : ∀ m ∈ ks, m.lt H.length) (hby2 : ys.length * by_ ≤ 140737488355328)
    (k : EOps P hbs ops (i + 1) r ((MS.mk ((d, .vw (.L d) ys.length) :: l) n ((d, .ow z e ks ys) :: o) H).st G md) K) :
    EOps P hbs ops i (⟨some d, .call ⟨.builtin .append, #[s, x], #[t, t]⟩, ty, pos, af, gd⟩ :: r) ((MS.mk l n o H).st G md) K := by
  simp only [Bool.and_eq_true] at hq hfr
  obtain ⟨⟨⟨c1, c2⟩, c3⟩, c4⟩ := hq
  obtain ⟨⟨f1, f2⟩, f3⟩ := hfr
  have hb : 0 < by_ := Nat.le_of_ble_eq_true c3
  have hok : AppOk P t e z ys.length := ⟨T.hsl _ _ he, ⟨b, T.hlay _ _ hl⟩, ⟨zs, (T.hzer _ _ hz).1, Nat.eq_of_beq_eq_true c1⟩, Nat.le_of_ble_eq_true c2, ⟨by_, T.hbyt _ _ hby, hby2⟩, Nat.le_trans (Nat.le_mul_of_pos_right _ hb) hby2⟩
  have hobm : ((MS.mk l n o H).st G md).ob = obM o H := by funext m; exact obM_ob m
  have hfz : Fresh ((MS.mk l n o H).st G md) (.L d) := fresh_of f1 f2
  refine EOps.sem hf (want_of hg) (fun E a w S g hr Q => ?_)
  have hev := hr.eval
  have hXr := hev x
  rw [show ((MS.mk l n o H).st G md).ev x = X from evM_ev hx] at hXr
  obtain ⟨ad, c, news, hsr⟩ := hsrc.sound (by rw [← hobm]; exact hr.obs) hXr
  obtain ⟨v', w', r1, r2, r4⟩ := hr.grow0Ow (P := P) (ty := ty) (ks := ks) hfz hok hsr hk2 hkl (nmBs_spec d ks f3) (fun j e => by cases e)
  have hsv : a.eval s = .slice none 0 0 := by
    have h0 := hev s
    rw [show ((MS.mk l n o H).st G md).ev s = .nil from evM_ev hs] at h0
    generalize a.eval s = Y at h0
    cases h0; rfl
  have hrun : (execOp a.eval ⟨some d, .call ⟨.builtin .append, #[s, x], #[t, t]⟩, ty, pos, af, gd⟩).run P w = .ok (.value v') w' := by
    simp [execOp, resolve, invoke, builtin, hsv, r1]
  unfold Oper.wp
  rw [hrun, Oper.upon_value]
  have hput := r4.put (v := .vw (.L d) ys.length) (V := v') (.vw trivial r2 (fun k' hk' => ?_)) (some d)
  · rw [st_addL, st_put c4] at hput
    exact ⟨_, S, _, k, hput⟩
  · have e' : ((((MS.mk l n o H).st G md).add (.L d) (.ow z e ks ys)).ob (.L d)).bind AObj.ln = some k' := hk'
    rw [add_same _ hfz] at e'
    simp only [Option.bind_some, AObj.ln, Option.some.injEq] at e'
    exact ⟨Nat.le_of_eq e', fun _ => (updG_v _ _ _).symm⟩
theorem EOps.so (T : Tab P) (ks' : List Nm) (c : List TV) {hbs : Nat → Bool} {ops : Array Oper} {K : St → Prop} {r : List Oper} {i : Nat} {l : List (Nat × TV)} {n : Nat} {o : List (Nat × AObj)} {H : List AObj} {t : Nat} {x y : Operand} {ty : TypeId} {pos : String} {af : Array Edge} {gd : Option (Nat × Bool)} {z e : Nat} {b : Bool} {sz : Nat} {nm : Nm} {len ix off : Nat} {ks : List Nm} {xs : List (List TV)} {Y : TV}
    (hf : hbs 4294967296 = true) (hg : gtM ops.toList l n gd = true) (hx : evM l x = some (.ip nm len z ix off)) (hy : evM l y = some Y) (hn : obM o H nm = some (.ow z e ks xs)) (hl : T.lay t = some (b, sz)) (hlen : xs.length = len) (hc : xs[ix]? = some c) (hY : hasCells Y) (hsz : (tcells Y).length = sz) (hoff : off + sz ≤ c.length)
    (hk1 : ∀ m ∈ ks, m ∈ ks') (hk2 : ∀ y ∈ tcells Y, y.All (· ∈ ks')) (hkl : ∀ m ∈ ks', m.lt H.length) (hkS : ∀ j, nm = .S j → ∀ m ∈ ks', m.isS)
    (k : EOps P hbs ops (i + 1) r ((MS.mk l n (setM nm (.ow z e ks' (xs.set ix (splice c off (tcells Y)))) o H).1 (setM nm (.ow z e ks' (xs.set ix (splice c off (tcells Y)))) o H).2).st G md) K) :
    EOps P hbs ops i (⟨none, .store t x y, ty, pos, af, gd⟩ :: r) ((MS.mk l n o H).st G md) K := by
  have hobm : ((MS.mk l n o H).st G md).ob = obM o H := by funext m; exact obM_ob m
  refine EOps.sem hf (want_of hg) (fun E a w S g hr Q => ?_)
  have hev := hr.eval
  have hm : ((MS.mk l n o H).st G md).ob nm = some (.ow z e ks xs) := by rw [hobm]; exact hn
  have hXr := hev x
  rw [show ((MS.mk l n o H).st G md).ev x = _ from evM_ev hx] at hXr
  have hYr := hev y
  rw [show ((MS.mk l n o H).st G md).ev y = Y from evM_ev hy] at hYr
  have hYc := tcells_rep hYr hY
  generalize hX : a.eval x = X at hXr
  cases hXr with
  | @ip _ _ _ _ _ bb hnl h0 =>
  obtain ⟨cap, hgm⟩ := (h0 xs.length (by show (((MS.mk l n o H).st G md).ob nm).bind AObj.ln = _; rw [hm]; rfl)).2 hlen.symm
  have hgm' : (g nm).v = .slice (some ⟨bb, 0, none⟩) xs.length cap := by rw [hlen]; exact hgm
  obtain ⟨w', g', r1, r2⟩ := hr.setOw (P := P) (ks' := ks') hm hc hYc (by rw [hsz]; exact hoff) hk1 hk2 hkl hkS hgm'
  have hszV : (a.eval y).cells.size = sz := by rw [← hsz, ← hYc.len]; simp
  have hrun : (execOp a.eval ⟨none, .store t x y, ty, pos, af, gd⟩).run P w = .ok .skip w' := by
    have hs : (sizeOf t).run P w = .ok sz w := lay_size (T.hlay _ _ hl) w
    simp [execOp, Instr.storeAt, hX, Instr.sureAddr, storeVar, hs, hszV, r1]
  unfold Oper.wp
  rw [hrun, Oper.upon_skip]
  have hput := r2.put (v := .u) (V := undef) .u none
  rw [st_set] at hput
  exact ⟨_, S, g', k, hput⟩
theorem flat_oc (ys : List PV) : (ys.map fun y => y.cells.map oc).flatten = (flat ys).map oc := by
  induction ys with
  | nil => rfl
  | cons y ys ih => rw [List.map_cons, List.flatten_cons, ih, flat_cons, List.map_append]
theorem EOps.fz (n : Nat) (ys : List PV) (vs : List PV) {hbs : Nat → Bool} {ops : Array Oper} {K : St → Prop} {r : List Oper} {i : Nat} {l : List (Nat × TV)} {nt : Nat} {o : List (Nat × AObj)} {H : List AObj} {z e : Nat} {ks : List Nm} {xs : List (List TV)}
    (hf : hbs 4294967296 = true) (hn : lkN o n = some (.ow z e ks xs)) (hxs : xs = ys.map fun y => y.cells.map oc) (hok : okFs ys = true) (hvs : ys.map frz = vs) (hz : ∀ v ∈ vs, v.cells.length = z)
    (k : EOps P hbs ops i r ((MS.mk l nt ((n, .rw z e vs) :: o) H).st G md) K) : EOps P hbs ops i r ((MS.mk l nt o H).st G md) K := by
  refine EOps.gh hf (fun E a w S g hr => ?_) k
  have hm : ((MS.mk l nt o H).st G md).ob (.L n) = some (.ow z e ks xs) := hn
  subst hvs
  subst hxs
  have hok' : ∀ y ∈ ys, okF y = true := by rw [okFs_all, List.all_eq_true] at hok; exact hok
  have := hr.freeze (vs := ys.map frz) hm (by simp) hz (fun k c y hc hy => ?_)
  · rwa [st_set] at this
  · rw [flat_frz, List.getElem?_map] at hy
    cases hk : (flat ys)[k]? with
    | none => rw [hk] at hy; cases hy
    | some x =>
      rw [hk] at hy
      cases hy
      have hfl : (ys.map fun y => y.cells.map oc).flatten = (flat ys).map oc := by
        exact flat_oc ys
      rw [hfl, List.getElem?_map, hk] at hc
      cases hc
      have hx : x ∈ flat ys := List.mem_of_getElem? hk
      obtain ⟨y, hy, hxy⟩ := List.mem_flatMap.1 hx
      have hokx := okF_cells y (hok' y hy) x hxy
      unfold oc
      cases hp : plainB x with
      | false => exact .inl ⟨x, rfl, hokx, rfl⟩
      | true =>
        refine .inr ⟨trivial, ?_⟩
        have : frz x = x := by cases x <;> first | rfl | (unfold plainB at hp; cases hp)
        rw [this]; exact .p
theorem AW.fz (n : Nat) (ys : List PV) (vs : List PV) {c : Code} {Q : Exit → St → Prop} {l : List (Nat × TV)} {nt : Nat} {o : List (Nat × AObj)} {H : List AObj} {z e : Nat} {ks : List Nm} {xs : List (List TV)}
    (hn : lkN o n = some (.ow z e ks xs)) (hxs : xs = ys.map fun y => y.cells.map oc) (hok : okFs ys = true) (hvs : ys.map frz = vs) (hz : ∀ v ∈ vs, v.cells.length = z)
    (k : AW P c Q ((MS.mk l nt ((n, .rw z e vs) :: o) H).st G md)) : AW P c Q ((MS.mk l nt o H).st G md) := by
  refine AW.gh (fun E a w S g hr => ?_) k
  have h1 := EOps.fz (P := P) (G := G) (md := md) (hbs := fun _ => true) (ops := #[]) (i := 0) (r := []) (K := fun τ => τ = (MS.mk l nt ((n, .rw z e vs) :: o) H).st G md) n ys vs rfl hn hxs hok hvs hz (EOps.nil rfl)
  rw [EOps.flag rfl] at h1
  have h2 := h1 rfl E a w S g hr (fun _ a' w' => a' = a ∧ w' = w → ∃ S' g', Rep E ((MS.mk l nt ((n, .rw z e vs) :: o) H).st G md) a w S' g') (fun a' w' ⟨τ, S', g', k1, k2⟩ ⟨e1, e2⟩ => by subst k1; subst e1; subst e2; exact ⟨S', g', k2⟩)
  exact h2 ⟨rfl, rfl⟩
theorem EOps.apP (T : Tab P) (ps : List PV) {hbs : Nat → Bool} {ops : Array Oper} {K : St → Prop} {r : List Oper} {i : Nat} {l : List (Nat × TV)} {n : Nat} {o : List (Nat × AObj)} {H : List AObj} {d : Nat} {s x : Operand} {t : TypeId} {ty : TypeId} {pos : String} {af : Array Edge} {gd : Option (Nat × Bool)} {e z by_ : Nat} {b : Bool} {zs : List Value} {m : Nat} {len : Nat} {ks : List Nm} {xs : List (List TV)} {X : TV}
    (hf : hbs 4294967296 = true) (hg : gtM ops.toList l n gd = true) (hs : evM l s = some (.vw (.L m) len)) (hn : lkN o m = some (.ow z e ks xs)) (hx : evM l x = some X) (he : T.sl t = some e) (hl : T.lay e = some (b, z)) (hz : T.zer e = some zs) (hby : T.byt e = some by_) (hq : (Nat.beq zs.length z && Nat.blt 0 z && Nat.blt 0 by_ && Nat.blt d n) = true)
    (hlen : xs.length = len) (hsrc : RowOf (obM o H) X z ps) (hkl : ∀ m ∈ ks, m.lt H.length) (hby2 : (xs.length + ps.length) * by_ ≤ 140737488355328)
    (k : EOps P hbs ops (i + 1) r ((MS.mk ((d, .vw (.L m) (xs.length + ps.length)) :: l) n ((m, .ow z e ks (xs ++ ps.map fun y => y.cells.map TV.p)) :: o) H).st G md) K) :
    EOps P hbs ops i (⟨some d, .call ⟨.builtin .append, #[s, x], #[t, t]⟩, ty, pos, af, gd⟩ :: r) ((MS.mk l n o H).st G md) K := by
  refine EOps.ap T ks (ys := ps.map fun y => y.cells.map TV.p) hf hg hs hn hx he hl hz hby hq hlen (.inl ⟨ps, hsrc, rfl⟩) (fun _ h => h) (fun y hy => ?_) hkl (fun j e => by cases e) (by simpa using hby2) (by simpa [setM] using k)
  obtain ⟨c, hc, hyc⟩ := List.mem_flatten.1 hy
  obtain ⟨q, _, rfl⟩ := List.mem_map.1 hc
  obtain ⟨q2, _, rfl⟩ := List.mem_map.1 hyc
  exact .p
theorem EOps.soP (T : Tab P) (y : PV) (c : List TV) {hbs : Nat → Bool} {ops : Array Oper} {K : St → Prop} {r : List Oper} {i : Nat} {l : List (Nat × TV)} {n : Nat} {o : List (Nat × AObj)} {H : List AObj} {t : Nat} {x yo : Operand} {ty : TypeId} {pos : String} {af : Array Edge} {gd : Option (Nat × Bool)} {z e : Nat} {b : Bool} {sz : Nat} {m : Nat} {len ix off : Nat} {ks : List Nm} {xs : List (List TV)}
    (hf : hbs 4294967296 = true) (hg : gtM ops.toList l n gd = true) (hx : evM l x = some (.ip (.L m) len z ix off)) {Y : TV} (hY0 : evM l yo = some Y) (hY1 : relT (obM o H) Y y) (hn : lkN o m = some (.ow z e ks xs)) (hl : T.lay t = some (b, sz)) (hlen : xs.length = len) (hc : xs[ix]? = some c) (hsz : y.cells.length = sz) (hoff : off + sz ≤ c.length) (hkl : ∀ m ∈ ks, m.lt H.length)
    (k : EOps P hbs ops (i + 1) r ((MS.mk l n ((m, .ow z e ks (xs.set ix (splice c off (y.cells.map TV.p)))) :: o) H).st G md) K) :
    EOps P hbs ops i (⟨none, .store t x yo, ty, pos, af, gd⟩ :: r) ((MS.mk l n o H).st G md) K := by
  have hobm : ((MS.mk l n o H).st G md).ob = obM o H := by funext m; exact obM_ob m
  refine EOps.sem hf (want_of hg) (fun E a w S g hr Q => ?_)
  have hev := hr.eval
  have hm : ((MS.mk l n o H).st G md).ob (.L m) = some (.ow z e ks xs) := hn
  have hXr := hev x
  rw [show ((MS.mk l n o H).st G md).ev x = _ from evM_ev hx] at hXr
  have hYr := hev yo
  rw [show ((MS.mk l n o H).st G md).ev yo = Y from evM_ev hY0] at hYr
  have hYp := (relT_pv _ _ _ hY1).sound (by rw [← hobm]; exact hr.obs) hYr
  have hpc := PC.of_prep hYp
  have hYc : CRep (((MS.mk l n o H).st G md).env w S g) (y.cells.map TV.p) (a.eval yo).cells.toList := ⟨by rw [hpc.len]; simp, fun k y' u hy hu => by
    rw [List.getElem?_map] at hy
    cases hk : y.cells[k]? with
    | none => rw [hk] at hy; cases hy
    | some q => rw [hk] at hy; cases hy; exact .p (hpc.get k q u hk hu).1, hpc.one⟩
  generalize hX : a.eval x = X at hXr
  cases hXr with
  | @ip _ _ _ _ _ bb hnl h0 =>
  obtain ⟨cap, hgm⟩ := (h0 xs.length (by show (((MS.mk l n o H).st G md).ob (.L m)).bind AObj.ln = _; rw [hm]; rfl)).2 hlen.symm
  have hgm' : (g (.L m)).v = .slice (some ⟨bb, 0, none⟩) xs.length cap := by rw [hlen]; exact hgm
  obtain ⟨w', g', r1, r2⟩ := hr.setOw (P := P) (ks' := ks) hm hc hYc (by simpa [hsz] using hoff) (fun _ h => h) (fun x hx => by obtain ⟨q, _, rfl⟩ := List.mem_map.1 hx; exact .p) hkl (fun j e => by cases e) hgm'
  have hszV : (a.eval yo).cells.size = sz := by rw [← hsz, ← hpc.len]; simp
  have hrun : (execOp a.eval ⟨none, .store t x yo, ty, pos, af, gd⟩).run P w = .ok .skip w' := by
    have hs : (sizeOf t).run P w = .ok sz w := lay_size (T.hlay _ _ hl) w
    simp [execOp, Instr.storeAt, hX, Instr.sureAddr, storeVar, hs, hszV, r1]
  unfold Oper.wp
  rw [hrun, Oper.upon_skip]
  have hput := r2.put (v := .u) (V := undef) .u none
  rw [st_set] at hput
  exact ⟨_, S, g', k, hput⟩
end
end Go.Proofs.YtglkkbgflnpjeaaGreatDoor.En
end
section
namespace Go.Proofs.YtglkkbgflnpjeaaGreatDoor.En
set_option linter.unusedVariables false
set_option linter.unusedSimpArgs false
open Go Go.RowKit Go.Proofs.YtglkkbgflnpjeaaGreatDoor.PA
class Op (A : Prop) (B : outParam Prop) : Prop where
  h : B → A
theorem op {A B : Prop} [i : Op A B] (k : B) : A := i.h k
class NeC (i j : Nat) : Prop where
  h : Nat.beq j i = false
instance NeC.a (j : Nat) : NeC 0 (j + 1) := ⟨rfl⟩
instance NeC.b (i : Nat) : NeC (i + 1) 0 := ⟨rfl⟩
instance NeC.c (i j : Nat) [h : NeC i j] : NeC (i + 1) (j + 1) := ⟨h.h⟩
section
variable {P : Program} {G : Nat → Option PV} {md : Nat → Nat} {σ : St} {Q : Exit → St → Prop} {B : Prop}
instance (priority := low) op0 {A : Prop} : Op A A := ⟨id⟩
instance op1 {x y z : Code} [Op (AW P x (Then P y (Then P z Q)) σ) B] : Op (AW P (.seq (.seq x y) z) Q σ) B := ⟨fun k => n1 (op k)⟩
instance op2 {c : Operand} {x y z : Code} : Op (AW P (.seq (.cond c x y) z) Q σ) (AW P (.cond c x y) (Then P z Q) σ) := ⟨n2⟩
instance op3 {i : Nat} {c z : Code} [Op (AW P c (InBlock i (Then P z Q)) σ) B] : Op (AW P (.seq (.block i c) z) Q σ) B := ⟨fun k => n3 (op k)⟩
instance op4 {c z : Code} : Op (AW P (.seq (.loop c) z) Q σ) (AW P (.loop c) (Then P z Q) σ) := ⟨n4⟩
instance op5 {z : Code} [Op (AW P z Q σ) B] : Op (AW P (.seq .skip z) Q σ) B := ⟨fun k => n5 (op k)⟩
instance op6 [Op (Q .normal σ) B] : Op (AW P .skip Q σ) B := ⟨fun k => n6 (op k)⟩
instance op7 {i : Nat} [Op (Q (.exit i) σ) B] : Op (AW P (.exit i) Q σ) B := ⟨fun k => n7 (op k)⟩
instance op8 {i : Nat} {c : Code} [Op (AW P c (InBlock i Q) σ) B] : Op (AW P (.block i c) Q σ) B := ⟨fun k => n8 (op k)⟩
instance op10 {z : Code} [Op (AW P z Q σ) B] : Op (Then P z Q .normal σ) B := ⟨fun k => n10 (op k)⟩
instance op11 {z : Code} {i : Nat} [Op (Q (.exit i) σ) B] : Op (Then P z Q (.exit i) σ) B := ⟨fun k => n11 (op k)⟩
instance op12 {i : Nat} [Op (Q .normal σ) B] : Op (InBlock i Q .normal σ) B := ⟨fun k => n12 (op k)⟩
instance op13 {i : Nat} [Op (Q .normal σ) B] : Op (InBlock i Q (.exit i) σ) B := ⟨fun k => n13 (by simp) (op k)⟩
instance op14 {i j : Nat} [h : NeC i j] [Op (Q (.exit j) σ) B] : Op (InBlock i Q (.exit j) σ) B := ⟨fun k => n14 h.h (op k)⟩
instance op15 {α : Type} {s0 : α → MS} {F : Nat → α → Prop} {n i : Nat} [Op (Q (.exit i) σ) B] : Op (RoundM G md s0 F n Q (.exit i) σ) B := ⟨fun k => n15 (op k)⟩
instance op16 {hbs : Nat → Bool} {ops : Array Oper} {K : St → Prop} {i : Nat} [Op (K σ) B] : Op (EOps P hbs ops i [] σ K) B := ⟨fun k => n16 (op k)⟩
instance op17 {id : Nat} {ops : Array Oper} {y : Code} : Op (AW P (.seq (.region id ops false) y) Q σ) (EOps P (fun _ => true) ops 0 ops.toList σ (fun τ => AW P y Q τ)) := ⟨n17⟩
instance op18 {id : Nat} {ops : Array Oper} : Op (AW P (.region id ops false) Q σ) (EOps P (fun _ => true) ops 0 ops.toList σ (fun τ => Q .normal τ)) := ⟨n18⟩
instance op21 {z : Code} [Op (Q .ret σ) B] : Op (Then P z Q .ret σ) B := ⟨fun k => n21 (op k)⟩
instance op22 {i : Nat} [Op (Q .ret σ) B] : Op (InBlock i Q .ret σ) B := ⟨fun k => n22 (op k)⟩
instance op23 {α : Type} {s0 : α → MS} {F : Nat → α → Prop} {n : Nat} [Op (Q .ret σ) B] : Op (RoundM G md s0 F n Q .ret σ) B := ⟨fun k => n23 (op k)⟩
instance op24 [Op (Q .ret σ) B] : Op (AW P .ret Q σ) B := ⟨fun k => n24 (op k)⟩
theorem dr1 {id : Nat} {ops : Array Oper} {y : Code} {s : MS} (h : EOps P (fun i => Nat.blt i 4294967296) ops 0 ops.toList (s.st G md) (fun τ => AW P y Q τ)) (hm : P.follows .mixedOrders = true := by kernel_rfl) (hc : chkB md (fun i => Nat.blt i 4294967296) (flS md s.n (ownT s.l []) ⟨klT s.l, blT s.o⟩ ops) ops = true := by rfl) (ha : apB md ops = true := by kernel_rfl)
    (hn : ops.toList.all (fun o => match newL md o with | some d => freT d s.l && freO d s.o | none => true) = true := by rfl) : AW P (.seq (.region id ops true) y) Q (s.st G md) := n25 hm hc ha hn h
theorem dr2 {id : Nat} {ops : Array Oper} {s : MS} (h : EOps P (fun i => Nat.blt i 4294967296) ops 0 ops.toList (s.st G md) (fun τ => Q .normal τ)) (hm : P.follows .mixedOrders = true := by kernel_rfl) (hc : chkB md (fun i => Nat.blt i 4294967296) (flS md s.n (ownT s.l []) ⟨klT s.l, blT s.o⟩ ops) ops = true := by rfl) (ha : apB md ops = true := by kernel_rfl)
    (hn : ops.toList.all (fun o => match newL md o with | some d => freT d s.l && freO d s.o | none => true) = true := by rfl) : AW P (.region id ops true) Q (s.st G md) := n26 hm hc ha hn h
theorem dr3 {id : Nat} {ops : Array Oper} {y : Code} {s : MS} (h : EOps P (fun _ => false) ops 0 ops.toList (s.st G md) (fun τ => AW P y Q τ)) (hm : P.follows .mixedOrders = true := by kernel_rfl) (hc : chkB md (fun _ => false) noFl ops = true := by decide +kernel) (ha : apB md ops = true := by kernel_rfl)
    (hn : ops.toList.all (fun o => match newL md o with | some d => freT d s.l && freO d s.o | none => true) = true := by rfl) : AW P (.seq (.region id ops true) y) Q (s.st G md) := n19 hm hc ha hn h
theorem dr4 {id : Nat} {ops : Array Oper} {s : MS} (h : EOps P (fun _ => false) ops 0 ops.toList (s.st G md) (fun τ => Q .normal τ)) (hm : P.follows .mixedOrders = true := by kernel_rfl) (hc : chkB md (fun _ => false) noFl ops = true := by decide +kernel) (ha : apB md ops = true := by kernel_rfl)
    (hn : ops.toList.all (fun o => match newL md o with | some d => freT d s.l && freO d s.o | none => true) = true := by rfl) : AW P (.region id ops true) Q (s.st G md) := n20 hm hc ha hn h
theorem rn (T : Tab P) {hbs : Nat → Bool} {ops : Array Oper} {K : St → Prop} {l : List Oper} {i : Nat} {s : MS} (m : Nat) (h : List PV) {s' : MS} {h' : List PV} {i' : Nat} {r' : List Oper} {q' : Prop} [Op (EOps P hbs ops i' r' (s'.st G md) K) B] (k : B)
    (hr : runM T G md ops.toList m l i s h True = ((s', h'), (i', r'), q') := by rfl) (hq : q' := by (repeat' apply And.intro) <;> first | trivial | rfl | assumption | omega | exact mT rfl | exact mT (by assumption) | exact mM rfl | exact mM (by assumption) | exact mI (by assumption) | exact mS (by assumption) | exact mU (by assumption) | (simp; done) | (simp [Mn.f0, Mn.f1, Mn.f2, Mn.f3, Mn.f4, Tn.f0]; done) | (simp [*]; done) | (simp [relT, eT_eq, eM_eq, PV.cells, Tn.f0, Mn.f4, *]; done) | (simp; omega)) : EOps P hbs ops i l (s.st G md) K := EOps.run T m h hr hq (op k)
theorem pcs {hbs : Nat → Bool} {ops : Array Oper} {K : St → Prop} {r : List Oper} {i : Nat} {l : List (Nat × TV)} {n : Nat} {o : List (Nat × AObj)} {H : List AObj} {d : Nat} {x : Operand} {args : Array Operand} {ats : Array TypeId} {ty : TypeId} {pos : String} {af : Array Edge} {f : FuncId} {xs : List PV} {q : Prop} {v : TV} {gd : Option (Nat × Bool)}
    (hc : PF P G f xs v) [Op (EOps P hbs ops (i + 1) r ((MS.mk ((d, v) :: l) n o H).st G md) K) B] (k : B)
    (hg : gtM ops.toList l n gd = true := by rfl) (ha : argsM ⟨l, n, o, H⟩ x args.toList = some ((f, xs), q) := by rfl) (hq : q := by (repeat' apply And.intro) <;> first | trivial | rfl | assumption | omega | exact mT rfl | exact mT (by assumption) | exact mM rfl | exact mM (by assumption) | exact mI (by assumption) | exact mS (by assumption) | exact mU (by assumption) | (simp; done) | (simp [Mn.f0, Mn.f1, Mn.f2, Mn.f3, Mn.f4, Tn.f0]; done) | (simp [*]; done) | (simp [relT, eT_eq, eM_eq, PV.cells, Tn.f0, Mn.f4, *]; done) | (simp; omega)) (hd : Nat.blt d n = true := by rfl) :
    EOps P hbs ops i (⟨some d, .call ⟨.value x, args, ats⟩, ty, pos, af, gd⟩ :: r) ((MS.mk l n o H).st G md) K := EOps.pc hg ha hq hd hc (op k)
theorem pqs {hbs : Nat → Bool} {ops : Array Oper} {K : St → Prop} {r : List Oper} {i : Nat} {l : List (Nat × TV)} {n : Nat} {o : List (Nat × AObj)} {H : List AObj} {d : Nat} {x : Operand} {args : Array Operand} {ats : Array TypeId} {ty : TypeId} {pos : String} {af : Array Edge} {f : FuncId} {xs : List PV} {vs : List TV} {v : TV} {gd : Option (Nat × Bool)}
    (hc : PF P G f xs v) [Op (EOps P hbs ops (i + 1) r ((MS.mk ((d, v) :: l) n o H).st G md) K) B] (k : B)
    (hg : gtM ops.toList l n gd = true := by rfl) (hx : evM l x = some (.fn f []) := by rfl) (ha : evL l args.toList = some vs := by rfl) (hr : relTs (obM o H) vs xs := by (repeat' apply And.intro) <;> first | trivial | rfl | assumption | omega | exact mT rfl | exact mT (by assumption) | exact mM rfl | exact mM (by assumption) | exact mI (by assumption) | exact mS (by assumption) | exact mU (by assumption) | (simp; done) | (simp [Mn.f0, Mn.f1, Mn.f2, Mn.f3, Mn.f4, Tn.f0]; done) | (simp [*]; done) | (simp [relT, eT_eq, eM_eq, PV.cells, Tn.f0, Mn.f4, *]; done) | (simp; omega)) (hd : Nat.blt d n = true := by rfl) :
    EOps P hbs ops i (⟨some d, .call ⟨.value x, args, ats⟩, ty, pos, af, gd⟩ :: r) ((MS.mk l n o H).st G md) K := EOps.pq hg hx ha hr hd hc (op k)
theorem ivs {hbs : Nat → Bool} {ops : Array Oper} {K : St → Prop} {r : List Oper} {i : Nat} {l : List (Nat × TV)} {n : Nat} {o : List (Nat × AObj)} {H : List AObj} {d : Nat} {x : Operand} {m : String} {args : Array Operand} {ats : Array TypeId} {ty : TypeId} {pos : String} {af : Array Edge} {f : FuncId} {t : TypeId} {u : PV} {xs : List PV} {vs : List TV} {v : TV} {gd : Option (Nat × Bool)}
    (hc : PF P G f (u :: xs) v) [Op (EOps P hbs ops (i + 1) r ((MS.mk ((d, v) :: l) n o H).st G md) K) B] (k : B)
    (hg : gtM ops.toList l n gd = true := by rfl) (hx : evM l x = some (.p (.ifc t u)) := by rfl) (hm : MethOk P t m f := by exact (fun _ _ _ => by kernel_rfl)) (ha : evL l args.toList = some vs := by rfl) (hr : relTs (obM o H) vs xs := by (repeat' apply And.intro) <;> first | trivial | rfl | assumption | omega | exact mT rfl | exact mT (by assumption) | exact mM rfl | exact mM (by assumption) | exact mI (by assumption) | exact mS (by assumption) | exact mU (by assumption) | (simp; done) | (simp [Mn.f0, Mn.f1, Mn.f2, Mn.f3, Mn.f4, Tn.f0]; done) | (simp [*]; done) | (simp [relT, eT_eq, eM_eq, PV.cells, Tn.f0, Mn.f4, *]; done) | (simp; omega)) (hd : Nat.blt d n = true := by rfl) :
    EOps P hbs ops i (⟨some d, .call ⟨.invoke x m, args, ats⟩, ty, pos, af, gd⟩ :: r) ((MS.mk l n o H).st G md) K := EOps.iq hg hx hm ha hr hd hc (op k)
def FE (P : Program) (G : Nat → Option PV) (f : FuncId) (args : List TV) (H : List AObj) (R : TV → List AObj → Prop) : Prop := FC P G f args H R ∧ ∃ r H', R r H' ∧ r.All Nm.isS ∧ HSh H'
theorem EOps.he {hbs : Nat → Bool} {ops : Array Oper} {K : St → Prop} {r : List Oper} {i : Nat} {l : List (Nat × TV)} {n : Nat} {o : List (Nat × AObj)} {H : List AObj} {d : Nat} {x : Operand} {args : Array Operand} {ats : Array TypeId} {ty : TypeId} {pos : String} {af : Array Edge} {f : FuncId} {vs xs : List TV} {R : TV → List AObj → Prop} {gd : Option (Nat × Bool)}
    (hb : hbs i = true) (hg : gtM ops.toList l n gd = true) (ha : argsH ⟨l, n, o, H⟩ x args.toList = some (f, vs)) (hv : RelL (obM o H) vs xs) (hs : shBs xs = true) (hd : Nat.blt d n = true) (hc : FE P G f xs H R)
    (k : ∀ v H', R v H' → v.All Nm.isS → HSh H' → EOps P hbs ops (i + 1) r ((MS.mk ((d, v) :: l) n o H').st G md) K) :
    EOps P hbs ops i (⟨some d, .call ⟨.value x, args, ats⟩, ty, pos, af, gd⟩ :: r) ((MS.mk l n o H).st G md) K := EOps.hc hb hg ha hv hs hd hc.1 hc.2 k
theorem hes {hbs : Nat → Bool} {ops : Array Oper} {K : St → Prop} {r : List Oper} {i : Nat} {l : List (Nat × TV)} {n : Nat} {o : List (Nat × AObj)} {H : List AObj} {d : Nat} {x : Operand} {args : Array Operand} {ats : Array TypeId} {ty : TypeId} {pos : String} {af : Array Edge} {f : FuncId} {vs xs : List TV} {R : TV → List AObj → Prop} {gd : Option (Nat × Bool)}
    (hc : FE P G f xs H R) (k : ∀ v H', R v H' → v.All Nm.isS → HSh H' → EOps P hbs ops (i + 1) r ((MS.mk ((d, v) :: l) n o H').st G md) K)
    (hb : hbs i = true := by rfl) (hg : gtM ops.toList l n gd = true := by rfl) (ha : argsH ⟨l, n, o, H⟩ x args.toList = some (f, vs) := by rfl) (hv : RelL (obM o H) vs xs := by (repeat' apply And.intro) <;> first | exact trivial | exact .inl rfl | rfl | (refine .inr ⟨_, ?_, rfl⟩; exact relT_pv _ _ _ (by (repeat' apply And.intro) <;> first | trivial | rfl)) | exact .inl (congrArg (fun q => some (AObj.rw _ _ q)) (by assumption)) | exact .inl (congrArg (fun q => some (AObj.ow _ _ _ q)) (by assumption)) | (refine .inl ?_; simp [*]; done)) (hs : shBs xs = true := by rfl) (hd : Nat.blt d n = true := by rfl) :
    EOps P hbs ops i (⟨some d, .call ⟨.value x, args, ats⟩, ty, pos, af, gd⟩ :: r) ((MS.mk l n o H).st G md) K := EOps.he hb hg ha hv hs hd hc k
theorem cts {c : Operand} {x y : Code} {s : MS} [Op (AW P x Q (s.st G md)) B] (h : B) (hc : evM s.l c = some (.p (.c (.bool true))) := by rfl) : AW P (.cond c x y) Q (s.st G md) := ct hc (op h)
theorem cfs {c : Operand} {x y : Code} {s : MS} [Op (AW P y Q (s.st G md)) B] (h : B) (hc : evM s.l c = some (.p (.c (.bool false))) := by rfl) : AW P (.cond c x y) Q (s.st G md) := cf hc (op h)
theorem ctq {c : Operand} {x y : Code} {s : MS} {b : Bool} (hc : evM s.l c = some (.p (.c (.bool b)))) (hb : b = true) [Op (AW P x Q (s.st G md)) B] (h : B) : AW P (.cond c x y) Q (s.st G md) := ctp hc hb (op h)
theorem cfq {c : Operand} {x y : Code} {s : MS} {b : Bool} (hc : evM s.l c = some (.p (.c (.bool b)))) (hb : b = false) [Op (AW P y Q (s.st G md)) B] (h : B) : AW P (.cond c x y) Q (s.st G md) := cfp hc hb (op h)
theorem lpw {α : Type} {c : Code} {s : MS} (s0 : α → MS) (F : Nat → α → Prop) (n : Nat) (x : α) (h0 : F n x) (h : ∀ n x, F n x → AW P c (RoundM G md s0 F n Q) ((s0 x).st G md))
    (hn : (s0 x).n = s.n := by rfl) (hH : (s0 x).H = s.H := by rfl) (hl : wkL (obM s.o s.H) s.l (s0 x).l := by (repeat' apply And.intro) <;> first | exact trivial | exact .inl rfl | rfl | (refine .inr ⟨_, ?_, rfl⟩; exact relT_pv _ _ _ (by (repeat' apply And.intro) <;> first | trivial | rfl)) | exact .inl (congrArg (fun q => some (AObj.rw _ _ q)) (by assumption)) | exact .inl (congrArg (fun q => some (AObj.ow _ _ _ q)) (by assumption)) | (refine .inl ?_; simp [*]; done)) (ho : wkO (obM s.o s.H) s.o (s0 x).o := by (repeat' apply And.intro) <;> first | exact trivial | exact .inl rfl | rfl | (refine .inr ⟨_, ?_, rfl⟩; exact relT_pv _ _ _ (by (repeat' apply And.intro) <;> first | trivial | rfl)) | exact .inl (congrArg (fun q => some (AObj.rw _ _ q)) (by assumption)) | exact .inl (congrArg (fun q => some (AObj.ow _ _ _ q)) (by assumption)) | (refine .inl ?_; simp [*]; done)) : AW P (.loop c) Q (s.st G md) := AW.lp s0 F n x h0 (wk_of hn hH hl ho) h
theorem nxt {α : Type} {s0 : α → MS} {F : Nat → α → Prop} {n : Nat} {s : MS} (m : Nat) (x : α) (hF : F m x) (hlt : m < n := by omega) (hn : (s0 x).n = s.n := by rfl) (hH : (s0 x).H = s.H := by first | rfl | exact congrArg (fun q => [AObj.rw _ _ q]) (by symm; assumption))
    (hl : wkL (obM s.o s.H) s.l (s0 x).l := by (repeat' apply And.intro) <;> first | exact trivial | exact .inl rfl | rfl | (refine .inr ⟨_, ?_, rfl⟩; exact relT_pv _ _ _ (by (repeat' apply And.intro) <;> first | trivial | rfl)) | exact .inl (congrArg (fun q => some (AObj.rw _ _ q)) (by assumption)) | exact .inl (congrArg (fun q => some (AObj.ow _ _ _ q)) (by assumption)) | (refine .inl ?_; simp [*]; done)) (ho : wkO (obM s.o s.H) s.o (s0 x).o := by (repeat' apply And.intro) <;> first | exact trivial | exact .inl rfl | rfl | (refine .inr ⟨_, ?_, rfl⟩; exact relT_pv _ _ _ (by (repeat' apply And.intro) <;> first | trivial | rfl)) | exact .inl (congrArg (fun q => some (AObj.rw _ _ q)) (by assumption)) | exact .inl (congrArg (fun q => some (AObj.ow _ _ _ q)) (by assumption)) | (refine .inl ?_; simp [*]; done)) : RoundM G md s0 F n Q .normal (s.st G md) := RoundM.next m x hlt hF hn hH hl ho
theorem rt1 (T : Tab P) {rs : List ResultVar} {R : TV → List AObj → Prop} {s : MS} {vs : List TV} (y : PV) (hR : R (.p y) s.H) (h : resV T s rs = some vs := by rfl) (hr : relTs (obM s.o s.H) vs [y] := by (repeat' apply And.intro) <;> first | trivial | rfl | assumption | omega | exact mT rfl | exact mT (by assumption) | exact mM rfl | exact mM (by assumption) | exact mI (by assumption) | exact mS (by assumption) | exact mU (by assumption) | (simp; done) | (simp [Mn.f0, Mn.f1, Mn.f2, Mn.f3, Mn.f4, Tn.f0]; done) | (simp [*]; done) | (simp [relT, eT_eq, eM_eq, PV.cells, Tn.f0, Mn.f4, *]; done) | (simp; omega)) : Ends P rs R .ret (s.st G md) := ret1 T h hr hR
theorem rt2 (T : Tab P) {rs : List ResultVar} {R : TV → List AObj → Prop} {s : MS} {vs : List TV} (y z : PV) (hR : R (.tp [.p y, .p z]) s.H) (h : resV T s rs = some vs := by rfl) (hr : relTs (obM s.o s.H) vs [y, z] := by (repeat' apply And.intro) <;> first | trivial | rfl | assumption | omega | exact mT rfl | exact mT (by assumption) | exact mM rfl | exact mM (by assumption) | exact mI (by assumption) | exact mS (by assumption) | exact mU (by assumption) | (simp; done) | (simp [Mn.f0, Mn.f1, Mn.f2, Mn.f3, Mn.f4, Tn.f0]; done) | (simp [*]; done) | (simp [relT, eT_eq, eM_eq, PV.cells, Tn.f0, Mn.f4, *]; done) | (simp; omega)) : Ends P rs R .ret (s.st G md) := ret2 T h hr hR
theorem rt3 (T : Tab P) {rs : List ResultVar} {R : TV → List AObj → Prop} {s : MS} {vs : List TV} (y z u : PV) (hR : R (.tp [.p y, .p z, .p u]) s.H) (h : resV T s rs = some vs := by rfl) (hr : relTs (obM s.o s.H) vs [y, z, u] := by (repeat' apply And.intro) <;> first | trivial | rfl | assumption | omega | exact mT rfl | exact mT (by assumption) | exact mM rfl | exact mM (by assumption) | exact mI (by assumption) | exact mS (by assumption) | exact mU (by assumption) | (simp; done) | (simp [Mn.f0, Mn.f1, Mn.f2, Mn.f3, Mn.f4, Tn.f0]; done) | (simp [*]; done) | (simp [relT, eT_eq, eM_eq, PV.cells, Tn.f0, Mn.f4, *]; done) | (simp; omega)) : Ends P rs R .ret (s.st G md) := ret3 T h hr hR
theorem bdy {f : FuncId} {fn : Func} {c : Code} {args : List TV} {H : List AObj} {R : TV → List AObj → Prop} (hf : P.funcs[f]? = some fn) (md : Nat → Nat) (hb : fn.body = some c) [Op (AW P c (Ends P fn.results.toList R) ((MS.mk (initL 0 args) fn.ntmps [] H).st G md)) B] (h : B)
    (hcall : callable P f = true := by kernel_rfl) (hn : Nat.ble args.length fn.ntmps = true := by rfl) (hA : shBs args = true := by rfl) : FC P G f args H R := FC.body md hcall hf hb hn hA (op h)
theorem bs0 (T : Tab P) {hbs : Nat → Bool} {ops : Array Oper} {K : St → Prop} {r : List Oper} {i : Nat} {l : List (Nat × TV)} {n : Nat} {o : List (Nat × AObj)} {H : List AObj} {d t : Nat} {parts : Array (Nat × Operand)} {ty : TypeId} {pos : String} {af : Array Edge} {gd : Option (Nat × Bool)} {e z : Nat} {b : Bool}
    [Op (EOps P hbs ops (i + 1) r ((MS.mk ((d, .vw (.L d) 0) :: l) n ((d, .ow z e [] []) :: o) H).st G md) K) B] (k : B)
    (hf : hbs 4294967296 = true := by rfl) (hg : gtM ops.toList l n gd = true := by rfl) (he : T.sl t = some e := by rfl) (hl : T.lay e = some (b, z) := by rfl) (hz : (T.zer e).isSome = true := by rfl) (hq : (Nat.blt 0 z && Nat.ble (0 * z) 16777216 && decide (parts.toList.map (·.1) = List.range 0)) = true := by kernel_rfl)
    (hv : evL l (parts.toList.map (·.2)) = some [] := by rfl) (hfr : (freT d l && freO d o && nmBs d [] && Nat.blt d n) = true := by kernel_rfl) :
    EOps P hbs ops i (⟨some d, .buildSlice t 0 parts, ty, pos, af, gd⟩ :: r) ((MS.mk l n o H).st G md) K := EOps.bs T [] hf hg he hl hz hq hv (fun v hv => by cases hv) hfr (fun m hm => by cases hm) (show EOps P hbs ops (i + 1) r ((MS.mk ((d, .vw (.L d) 0) :: l) n ((d, .ow z e [] []) :: o) H).st G md) K from op k)
theorem aps (T : Tab P) (ps : List PV) {hbs : Nat → Bool} {ops : Array Oper} {K : St → Prop} {r : List Oper} {i : Nat} {l : List (Nat × TV)} {n : Nat} {o : List (Nat × AObj)} {H : List AObj} {d : Nat} {s x : Operand} {t : TypeId} {ty : TypeId} {pos : String} {af : Array Edge} {gd : Option (Nat × Bool)} {e z by_ : Nat} {b : Bool} {zs : List Value} {m : Nat} {len : Nat} {xs : List (List TV)} {X : TV}
    [Op (EOps P hbs ops (i + 1) r ((MS.mk ((d, .vw (.L m) (xs.length + ps.length)) :: l) n ((m, .ow z e [] (xs ++ ps.map fun y => y.cells.map TV.p)) :: o) H).st G md) K) B] (k : B)
    (hf : hbs 4294967296 = true := by rfl) (hg : gtM ops.toList l n gd = true := by rfl) (hs : evM l s = some (.vw (.L m) len) := by rfl) (hn : lkN o m = some (.ow z e [] xs) := by rfl) (hx : evM l x = some X := by rfl) (he : T.sl t = some e := by rfl) (hl : T.lay e = some (b, z) := by rfl) (hz : T.zer e = some zs := by rfl) (hby : T.byt e = some by_ := by rfl)
    (hq : (Nat.beq zs.length z && Nat.blt 0 z && Nat.blt 0 by_ && Nat.blt d n) = true := by kernel_rfl)
    (hlen : xs.length = len := by first | rfl | (simp; done)) (hsrc : RowOf (obM o H) X z ps := by first | exact ⟨rfl, rfl⟩ | exact ⟨rfl, rfl, rfl⟩ | rfl) (hby2 : (xs.length + ps.length) * by_ ≤ 140737488355328 := by simp; try omega) :
    EOps P hbs ops i (⟨some d, .call ⟨.builtin .append, #[s, x], #[t, t]⟩, ty, pos, af, gd⟩ :: r) ((MS.mk l n o H).st G md) K := EOps.apP T ps hf hg hs hn hx he hl hz hby hq hlen hsrc (fun m hm => by cases hm) hby2 (op k)
theorem sos (T : Tab P) (y : PV) (c : List TV) {hbs : Nat → Bool} {ops : Array Oper} {K : St → Prop} {r : List Oper} {i : Nat} {l : List (Nat × TV)} {n : Nat} {o : List (Nat × AObj)} {H : List AObj} {t : Nat} {x yo : Operand} {ty : TypeId} {pos : String} {af : Array Edge} {gd : Option (Nat × Bool)} {z e : Nat} {b : Bool} {sz : Nat} {m : Nat} {len ix off : Nat} {xs : List (List TV)} {Y : TV} (hx : evM l x = some (.ip (.L m) len z ix off)) (hn : lkN o m = some (.ow z e [] xs)) (hc : xs[ix]? = some c)
    (k : EOps P hbs ops (i + 1) r ((MS.mk l n ((m, .ow z e [] (xs.set ix (splice c off (y.cells.map TV.p)))) :: o) H).st G md) K)
    (hf : hbs 4294967296 = true := by rfl) (hg : gtM ops.toList l n gd = true := by rfl) (hY0 : evM l yo = some Y := by rfl) (hY1 : relT (obM o H) Y y := by (repeat' apply And.intro) <;> first | trivial | rfl | assumption | omega | exact mT rfl | exact mT (by assumption) | exact mM rfl | exact mM (by assumption) | exact mI (by assumption) | exact mS (by assumption) | exact mU (by assumption) | (simp; done) | (simp [Mn.f0, Mn.f1, Mn.f2, Mn.f3, Mn.f4, Tn.f0]; done) | (simp [*]; done) | (simp [relT, eT_eq, eM_eq, PV.cells, Tn.f0, Mn.f4, *]; done) | (simp; omega)) (hl : T.lay t = some (b, sz) := by rfl) (hlen : xs.length = len := by first | rfl | (simp; done)) (hsz : y.cells.length = sz := by rfl) (hoff : off + sz ≤ c.length := by exact (Nat.le_of_ble_eq_true rfl)) :
    EOps P hbs ops i (⟨none, .store t x yo, ty, pos, af, gd⟩ :: r) ((MS.mk l n o H).st G md) K := EOps.soP T y c hf hg hx hY0 hY1 hn hl hlen hc hsz hoff (fun m hm => by cases hm) k
end
end Go.Proofs.YtglkkbgflnpjeaaGreatDoor.En
end
section
namespace Go.Proofs.YtglkkbgflnpjeaaGreatDoor.B
set_option linter.unusedVariables false
set_option linter.unusedSimpArgs false
open Go Go.RowKit Go.Proofs.YtglkkbgflnpjeaaGreatDoor.En
inductive Tn where
  | mk (f0 : List Tn)
def Tn.f0 : Tn → List Tn
  | ⟨l⟩ => l
abbrev Ty := List Tn
inductive Mn where
  | mk (f0 f1 : Int) (f2 : ByteArray) (f3 : List Int) (f4 : List Mn)
def Mn.f0 : Mn → Int
  | ⟨a, _, _, _, _⟩ => a
def Mn.f1 : Mn → Int
  | ⟨_, a, _, _, _⟩ => a
def Mn.f2 : Mn → ByteArray
  | ⟨_, _, a, _, _⟩ => a
def Mn.f3 : Mn → List Int
  | ⟨_, _, _, a, _⟩ => a
def Mn.f4 : Mn → List Mn
  | ⟨_, _, _, _, a⟩ => a
mutual
def eT : Tn → PV
  | ⟨l⟩ => .ag [.row 1 (eTs l)]
def eTs : List Tn → List PV
  | [] => []
  | t :: l => eT t :: eTs l
end
theorem eTs_map : ∀ l, eTs l = l.map eT
  | [] => rfl
  | t :: l => by unfold eTs; rw [eTs_map l]; rfl
abbrev pt (l : List Tn) : PV := .ag [.row 1 (l.map eT)]
theorem eT_eq (t : Tn) : eT t = pt t.f0 := by cases t; unfold eT; rw [eTs_map]; rfl
theorem mT {l : List Tn} {i : Nat} {x : Tn} (h : l[i]? = some x) : (l.map eT)[i]? = some (pt x.f0) := by rw [List.getElem?_map, h, Option.map_some, eT_eq]
mutual
def eM : Mn → PV
  | ⟨a, b, s, p, l⟩ => .ag [pi a, pi b, ps s, .row 1 (p.map pi), .row 5 (eMs l)]
def eMs : List Mn → List PV
  | [] => []
  | t :: l => eM t :: eMs l
end
theorem eMs_map : ∀ l, eMs l = l.map eM
  | [] => rfl
  | t :: l => by unfold eMs; rw [eMs_map l]; rfl
abbrev pm (t : Mn) : PV := .ag [pi t.f0, pi t.f1, ps t.f2, .row 1 (t.f3.map pi), .row 5 (t.f4.map eM)]
theorem eM_eq (t : Mn) : eM t = pm t := by cases t; unfold eM; rw [eMs_map]; rfl
theorem mM {l : List Mn} {i : Nat} {x : Mn} (h : l[i]? = some x) : (l.map eM)[i]? = some (pm x) := by rw [List.getElem?_map, h, Option.map_some, eM_eq]
theorem mI {l : List Int} {i : Nat} {x : Int} (h : l[i]? = some x) : (l.map pi)[i]? = some (pi x) := by rw [List.getElem?_map, h, Option.map_some]
theorem mS {l : List ByteArray} {i : Nat} {x : ByteArray} (h : l[i]? = some x) : (l.map ps)[i]? = some (ps x) := by rw [List.getElem?_map, h, Option.map_some]
def dp : Nat → Ty → Bool
  | 0, _ => false
  | _ + 1, [] => true
  | n + 1, [a, b] => dp n a.f0 && dp n b.f0
  | _ + 1, _ => false
theorem dp_nil (n : Nat) : dp (n + 1) [] = true := rfl
theorem dp_two (n : Nat) (a b : Tn) : dp (n + 1) [a, b] = (dp n a.f0 && dp n b.f0) := rfl
theorem dp_odd (n : Nat) (l : Ty) (h0 : l.length ≠ 0) (h2 : l.length ≠ 2) : dp n l = false := by
  cases n with
  | zero => rfl
  | succ n =>
    match l with
    | [] => simp at h0
    | [_] => rfl
    | [_, _] => simp at h2
    | _ :: _ :: _ :: _ => rfl
theorem two_of {l : Ty} (h : l.length = 2) : ∃ a b, l = [a, b] := by
  match l with
  | [a, b] => exact ⟨a, b, rfl⟩
theorem shp (l : Ty) : l = [] ∨ (∃ a b, l = [a, b]) ∨ (l.length ≠ 0 ∧ l.length ≠ 2) := by
  match l with
  | [] => exact .inl rfl
  | [_] => exact .inr (.inr ⟨by simp, by simp⟩)
  | [a, b] => exact .inr (.inl ⟨a, b, rfl⟩)
  | _ :: _ :: _ :: _ => exact .inr (.inr ⟨by simp, by simp⟩)
def teq : Nat → Ty → Ty → Bool
  | _ + 1, [], [] => true
  | n + 1, [a, b], [c, d] => teq n a.f0 c.f0 && teq n b.f0 d.f0
  | _, _, _ => false
theorem teq_eq : ∀ (n : Nat) (a b : Ty), teq n a b = true → a = b := by
  intro n
  induction n with
  | zero => intro a b h; simp [teq] at h
  | succ n ih =>
    intro a b h
    unfold teq at h
    split at h
    · rfl
    · rename_i m x y z u he
      cases he
      rw [Bool.and_eq_true] at h
      have h1 := ih _ _ h.1
      have h2 := ih _ _ h.2
      cases x; cases y; cases z; cases u
      simp only [Tn.f0] at h1 h2
      subst h1
      subst h2
      rfl
    · cases h
theorem teq_refl : ∀ (n : Nat) (a : Ty), dp n a = true → teq n a a = true := by
  intro n
  induction n with
  | zero => intro a h; simp [dp] at h
  | succ n ih =>
    intro a h
    rcases shp a with rfl | ⟨a1, a2, rfl⟩ | ⟨h0, h2⟩
    · rfl
    · rw [dp_two, Bool.and_eq_true] at h
      show (teq n a1.f0 a1.f0 && teq n a2.f0 a2.f0) = true
      rw [ih _ h.1, ih _ h.2]; rfl
    · rw [dp_odd _ _ h0 h2] at h; cases h
def pf : List Int → Ty → Option Ty
  | [], t => some t
  | i :: r, [a, b] => if i = 0 then pf r a.f0 else if i = 1 then pf r b.f0 else none
  | _ :: _, _ => none
theorem pf_nil (t : Ty) : pf [] t = some t := by cases t <;> rfl
theorem pf_two (i : Int) (r : List Int) (a b : Tn) : pf (i :: r) [a, b] = if i = 0 then pf r a.f0 else if i = 1 then pf r b.f0 else none := rfl
theorem pf_odd (i : Int) (r : List Int) (t : Ty) (h : t.length ≠ 2) : pf (i :: r) t = none := by
  match t with
  | [] => rfl
  | [_] => rfl
  | [_, _] => simp at h
  | _ :: _ :: _ :: _ => rfl
theorem pf_app (p q : List Int) : ∀ t, pf (p ++ q) t = (pf p t).bind (pf q) := by
  induction p with
  | nil => intro t; rw [List.nil_append, pf_nil]; rfl
  | cons i r ih =>
    intro t
    by_cases h : t.length = 2
    · obtain ⟨a, b, rfl⟩ := two_of h
      rw [List.cons_append, pf_two, pf_two]
      split
      · exact ih _
      · split
        · exact ih _
        · rfl
    · rw [List.cons_append, pf_odd _ _ _ h, pf_odd _ _ _ h]; rfl
theorem dp_succ : ∀ (n : Nat) (t : Ty), dp n t = true → dp (n + 1) t = true := by
  intro n
  induction n with
  | zero => intro t h; simp [dp] at h
  | succ n ih =>
    intro t h
    rcases shp t with rfl | ⟨a, b, rfl⟩ | ⟨h0, h2⟩
    · rfl
    · rw [dp_two, Bool.and_eq_true] at h ⊢
      exact ⟨ih _ h.1, ih _ h.2⟩
    · rw [dp_odd _ _ h0 h2] at h; cases h
theorem dp_pf (n : Nat) : ∀ (p : List Int) (t u : Ty), dp n t = true → pf p t = some u → dp n u = true := by
  intro p
  induction p with
  | nil => intro t u h e; rw [pf_nil] at e; cases e; exact h
  | cons i r ih =>
    intro t u h e
    by_cases h2 : t.length = 2
    · obtain ⟨a, b, rfl⟩ := two_of h2
      cases n with
      | zero => simp [dp] at h
      | succ n =>
        rw [dp_two, Bool.and_eq_true] at h
        rw [pf_two] at e
        split at e
        · exact ih _ _ (dp_succ _ _ h.1) e
        · split at e
          · exact ih _ _ (dp_succ _ _ h.2) e
          · cases e
    · rw [pf_odd _ _ _ h2] at e; cases e
def at_ (o : Option Ty) : Ty × Bool := match o with | some u => (u, true) | none => ([], false)
def tat (t : Ty) (p : List Int) : Ty × Bool := if dp 4 t = true then at_ (pf p t) else ([], false)
theorem tat_ok (t : Ty) (p : List Int) : dp 4 (tat t p).1 = true := by
  unfold tat
  split
  · rename_i d
    cases e : pf p t with
    | none => rfl
    | some u => exact dp_pf 4 _ _ _ d e
  · rfl
theorem cmp_odd {l : Ty} (h : l.length ≠ 2) : ((((l.map eT).length : Nat) : Int) == 2) = false := by simp; omega
theorem cmp_nz {l : Ty} (h : l.length ≠ 0) : ((((l.map eT).length : Nat) : Int) == 0) = false := by simp; intro e; exact h (by simp [e])
theorem teq_len (n : Nat) (a b : Ty) (h : a.length ≠ b.length) : teq n a b = false := by
  cases h2 : teq n a b with
  | false => rfl
  | true => exact absurd (by rw [teq_eq n a b h2]) h
end Go.Proofs.YtglkkbgflnpjeaaGreatDoor.B
end
section
namespace Go.Proofs.YtglkkbgflnpjeaaGreatDoor.Ty
open Go Go.Proofs.YtglkkbgflnpjeaaGreatDoor.En
set_option maxRecDepth 100000
theorem lay2 : lay Tryz.prog 2 = some (false, 1) := by kernel_rfl
theorem zer2 : zer Tryz.prog 2 = some [(.int .i64 0)] := by kernel_rfl
theorem zrv2 : (Tryz.prog.info? 2).bind (·.zero) = some (.int .i64 0) := by kernel_rfl
theorem byt2 : byt Tryz.prog 2 = some 8 := by kernel_rfl
theorem und2 : Tryz.prog.underlying 2 = some (.int .i64) := by kernel_rfl
theorem con2 : Tryz.prog.concrete 2 = true := by kernel_rfl
theorem lay3 : lay Tryz.prog 3 = some (false, 1) := by kernel_rfl
theorem zer3 : zer Tryz.prog 3 = some [(.int .i64 0)] := by kernel_rfl
theorem zrv3 : (Tryz.prog.info? 3).bind (·.zero) = some (.int .i64 0) := by kernel_rfl
theorem byt3 : byt Tryz.prog 3 = some 8 := by kernel_rfl
theorem und3 : Tryz.prog.underlying 3 = some (.int .i64) := by kernel_rfl
theorem con3 : Tryz.prog.concrete 3 = true := by kernel_rfl
theorem lay4 : lay Tryz.prog 4 = some (false, 1) := by kernel_rfl
theorem zer4 : zer Tryz.prog 4 = some [(.bool false)] := by kernel_rfl
theorem zrv4 : (Tryz.prog.info? 4).bind (·.zero) = some (.bool false) := by kernel_rfl
theorem byt4 : byt Tryz.prog 4 = some 1 := by kernel_rfl
theorem und4 : Tryz.prog.underlying 4 = some .bool := by kernel_rfl
theorem con4 : Tryz.prog.concrete 4 = true := by kernel_rfl
theorem lay5 : lay Tryz.prog 5 = some (false, 1) := by kernel_rfl
theorem zer5 : zer Tryz.prog 5 = some [(.int .u8 0)] := by kernel_rfl
theorem zrv5 : (Tryz.prog.info? 5).bind (·.zero) = some (.int .u8 0) := by kernel_rfl
theorem byt5 : byt Tryz.prog 5 = some 1 := by kernel_rfl
theorem und5 : Tryz.prog.underlying 5 = some (.int .u8) := by kernel_rfl
theorem con5 : Tryz.prog.concrete 5 = true := by kernel_rfl
theorem lay6 : lay Tryz.prog 6 = some (false, 1) := by kernel_rfl
theorem zer6 : zer Tryz.prog 6 = some [(.int .u8 0)] := by kernel_rfl
theorem zrv6 : (Tryz.prog.info? 6).bind (·.zero) = some (.int .u8 0) := by kernel_rfl
theorem byt6 : byt Tryz.prog 6 = some 1 := by kernel_rfl
theorem und6 : Tryz.prog.underlying 6 = some (.int .u8) := by kernel_rfl
theorem con6 : Tryz.prog.concrete 6 = true := by kernel_rfl
theorem lay7 : lay Tryz.prog 7 = some (true, 4) := by kernel_rfl
theorem zer7 : zer Tryz.prog 7 = some [(.int .i64 0), (.int .i64 0), (.bool false), (.int .u8 0)] := by kernel_rfl
theorem zrv7 : (Tryz.prog.info? 7).bind (·.zero) = some (.agg #[(.int .i64 0), (.int .i64 0), (.bool false), (.int .u8 0)]) := by kernel_rfl
theorem byt7 : byt Tryz.prog 7 = some 24 := by kernel_rfl
theorem fld7 : flds Tryz.prog 7 = some [(0, 1, false), (1, 1, false), (2, 1, false), (3, 1, false)] := by kernel_rfl
theorem con7 : Tryz.prog.concrete 7 = true := by kernel_rfl
theorem lay8 : lay Tryz.prog 8 = some (true, 4) := by kernel_rfl
theorem zer8 : zer Tryz.prog 8 = some [(.int .i64 0), (.int .i64 0), (.bool false), (.int .u8 0)] := by kernel_rfl
theorem zrv8 : (Tryz.prog.info? 8).bind (·.zero) = some (.agg #[(.int .i64 0), (.int .i64 0), (.bool false), (.int .u8 0)]) := by kernel_rfl
theorem byt8 : byt Tryz.prog 8 = some 24 := by kernel_rfl
theorem fld8 : flds Tryz.prog 8 = some [(0, 1, false), (1, 1, false), (2, 1, false), (3, 1, false)] := by kernel_rfl
theorem con8 : Tryz.prog.concrete 8 = true := by kernel_rfl
theorem lay9 : lay Tryz.prog 9 = some (false, 1) := by kernel_rfl
theorem zer9 : zer Tryz.prog 9 = some [(.string ByteArray.empty)] := by kernel_rfl
theorem zrv9 : (Tryz.prog.info? 9).bind (·.zero) = some (.string ByteArray.empty) := by kernel_rfl
theorem byt9 : byt Tryz.prog 9 = some 16 := by kernel_rfl
theorem und9 : Tryz.prog.underlying 9 = some .string := by kernel_rfl
theorem con9 : Tryz.prog.concrete 9 = true := by kernel_rfl
theorem lay10 : lay Tryz.prog 10 = some (false, 1) := by kernel_rfl
theorem zer10 : zer Tryz.prog 10 = some [(.string ByteArray.empty)] := by kernel_rfl
theorem zrv10 : (Tryz.prog.info? 10).bind (·.zero) = some (.string ByteArray.empty) := by kernel_rfl
theorem byt10 : byt Tryz.prog 10 = some 16 := by kernel_rfl
theorem und10 : Tryz.prog.underlying 10 = some .string := by kernel_rfl
theorem con10 : Tryz.prog.concrete 10 = true := by kernel_rfl
theorem lay11 : lay Tryz.prog 11 = some (false, 1) := by kernel_rfl
theorem zer11 : zer Tryz.prog 11 = some [(.string ByteArray.empty)] := by kernel_rfl
theorem zrv11 : (Tryz.prog.info? 11).bind (·.zero) = some (.string ByteArray.empty) := by kernel_rfl
theorem byt11 : byt Tryz.prog 11 = some 16 := by kernel_rfl
theorem und11 : Tryz.prog.underlying 11 = some .string := by kernel_rfl
theorem con11 : Tryz.prog.concrete 11 = true := by kernel_rfl
theorem lay12 : lay Tryz.prog 12 = some (false, 1) := by kernel_rfl
theorem zer12 : zer Tryz.prog 12 = some [(.int .u64 0)] := by kernel_rfl
theorem zrv12 : (Tryz.prog.info? 12).bind (·.zero) = some (.int .u64 0) := by kernel_rfl
theorem byt12 : byt Tryz.prog 12 = some 8 := by kernel_rfl
theorem und12 : Tryz.prog.underlying 12 = some (.int .u64) := by kernel_rfl
theorem con12 : Tryz.prog.concrete 12 = true := by kernel_rfl
theorem lay13 : lay Tryz.prog 13 = some (true, 2) := by kernel_rfl
theorem zer13 : zer Tryz.prog 13 = some [(.string ByteArray.empty), (.int .u64 0)] := by kernel_rfl
theorem zrv13 : (Tryz.prog.info? 13).bind (·.zero) = some (.agg #[(.string ByteArray.empty), (.int .u64 0)]) := by kernel_rfl
theorem byt13 : byt Tryz.prog 13 = some 24 := by kernel_rfl
theorem fld13 : flds Tryz.prog 13 = some [(0, 1, false), (1, 1, false)] := by kernel_rfl
theorem con13 : Tryz.prog.concrete 13 = true := by kernel_rfl
theorem lay14 : lay Tryz.prog 14 = some (true, 2) := by kernel_rfl
theorem zer14 : zer Tryz.prog 14 = some [(.string ByteArray.empty), (.int .u64 0)] := by kernel_rfl
theorem zrv14 : (Tryz.prog.info? 14).bind (·.zero) = some (.agg #[(.string ByteArray.empty), (.int .u64 0)]) := by kernel_rfl
theorem byt14 : byt Tryz.prog 14 = some 24 := by kernel_rfl
theorem fld14 : flds Tryz.prog 14 = some [(0, 1, false), (1, 1, false)] := by kernel_rfl
theorem con14 : Tryz.prog.concrete 14 = true := by kernel_rfl
theorem lay15 : lay Tryz.prog 15 = some (false, 1) := by kernel_rfl
theorem zer15 : zer Tryz.prog 15 = some [(.pointer none)] := by kernel_rfl
theorem zrv15 : (Tryz.prog.info? 15).bind (·.zero) = some (.pointer none) := by kernel_rfl
theorem byt15 : byt Tryz.prog 15 = some 8 := by kernel_rfl
theorem und15 : Tryz.prog.underlying 15 = some (.pointer 156) := by kernel_rfl
theorem con15 : Tryz.prog.concrete 15 = true := by kernel_rfl
theorem lay16 : lay Tryz.prog 16 = some (false, 1) := by kernel_rfl
theorem zer16 : zer Tryz.prog 16 = some [(.pointer none)] := by kernel_rfl
theorem zrv16 : (Tryz.prog.info? 16).bind (·.zero) = some (.pointer none) := by kernel_rfl
theorem byt16 : byt Tryz.prog 16 = some 8 := by kernel_rfl
theorem und16 : Tryz.prog.underlying 16 = some (.pointer 159) := by kernel_rfl
theorem con16 : Tryz.prog.concrete 16 = true := by kernel_rfl
theorem lay17 : lay Tryz.prog 17 = some (false, 1) := by kernel_rfl
theorem zer17 : zer Tryz.prog 17 = some [(.pointer none)] := by kernel_rfl
theorem zrv17 : (Tryz.prog.info? 17).bind (·.zero) = some (.pointer none) := by kernel_rfl
theorem byt17 : byt Tryz.prog 17 = some 8 := by kernel_rfl
theorem und17 : Tryz.prog.underlying 17 = some (.pointer 169) := by kernel_rfl
theorem con17 : Tryz.prog.concrete 17 = true := by kernel_rfl
theorem lay18 : lay Tryz.prog 18 = some (true, 1) := by kernel_rfl
theorem zer18 : zer Tryz.prog 18 = some [(.pointer none)] := by kernel_rfl
theorem zrv18 : (Tryz.prog.info? 18).bind (·.zero) = some (.agg #[(.pointer none)]) := by kernel_rfl
theorem byt18 : byt Tryz.prog 18 = some 8 := by kernel_rfl
theorem fld18 : flds Tryz.prog 18 = some [(0, 1, false)] := by kernel_rfl
theorem con18 : Tryz.prog.concrete 18 = true := by kernel_rfl
theorem lay19 : lay Tryz.prog 19 = some (true, 1) := by kernel_rfl
theorem zer19 : zer Tryz.prog 19 = some [(.pointer none)] := by kernel_rfl
theorem zrv19 : (Tryz.prog.info? 19).bind (·.zero) = some (.agg #[(.pointer none)]) := by kernel_rfl
theorem byt19 : byt Tryz.prog 19 = some 8 := by kernel_rfl
theorem fld19 : flds Tryz.prog 19 = some [(0, 1, false)] := by kernel_rfl
theorem con19 : Tryz.prog.concrete 19 = true := by kernel_rfl
theorem lay20 : lay Tryz.prog 20 = some (false, 1) := by kernel_rfl
theorem zer20 : zer Tryz.prog 20 = some [.nilIface] := by kernel_rfl
theorem zrv20 : (Tryz.prog.info? 20).bind (·.zero) = some .nilIface := by kernel_rfl
theorem byt20 : byt Tryz.prog 20 = some 16 := by kernel_rfl
theorem und20 : Tryz.prog.underlying 20 = some (.interface #[]) := by kernel_rfl
theorem lay21 : lay Tryz.prog 21 = some (false, 1) := by kernel_rfl
theorem zer21 : zer Tryz.prog 21 = some [(.int .i32 0)] := by kernel_rfl
theorem zrv21 : (Tryz.prog.info? 21).bind (·.zero) = some (.int .i32 0) := by kernel_rfl
theorem byt21 : byt Tryz.prog 21 = some 4 := by kernel_rfl
theorem und21 : Tryz.prog.underlying 21 = some (.int .i32) := by kernel_rfl
theorem con21 : Tryz.prog.concrete 21 = true := by kernel_rfl
theorem lay22 : lay Tryz.prog 22 = some (false, 1) := by kernel_rfl
theorem zer22 : zer Tryz.prog 22 = some [(.slice none 0 0)] := by kernel_rfl
theorem zrv22 : (Tryz.prog.info? 22).bind (·.zero) = some (.slice none 0 0) := by kernel_rfl
theorem byt22 : byt Tryz.prog 22 = some 24 := by kernel_rfl
theorem und22 : Tryz.prog.underlying 22 = some (.slice 5) := by kernel_rfl
theorem con22 : Tryz.prog.concrete 22 = true := by kernel_rfl
theorem lay23 : lay Tryz.prog 23 = some (false, 1) := by kernel_rfl
theorem zer23 : zer Tryz.prog 23 = some [(.slice none 0 0)] := by kernel_rfl
theorem zrv23 : (Tryz.prog.info? 23).bind (·.zero) = some (.slice none 0 0) := by kernel_rfl
theorem byt23 : byt Tryz.prog 23 = some 24 := by kernel_rfl
theorem und23 : Tryz.prog.underlying 23 = some (.slice 3) := by kernel_rfl
theorem con23 : Tryz.prog.concrete 23 = true := by kernel_rfl
theorem lay24 : lay Tryz.prog 24 = some (false, 1) := by kernel_rfl
theorem zer24 : zer Tryz.prog 24 = some [(.slice none 0 0)] := by kernel_rfl
theorem zrv24 : (Tryz.prog.info? 24).bind (·.zero) = some (.slice none 0 0) := by kernel_rfl
theorem byt24 : byt Tryz.prog 24 = some 24 := by kernel_rfl
theorem und24 : Tryz.prog.underlying 24 = some (.slice 26) := by kernel_rfl
theorem con24 : Tryz.prog.concrete 24 = true := by kernel_rfl
theorem lay25 : lay Tryz.prog 25 = some (true, 5) := by kernel_rfl
theorem zer25 : zer Tryz.prog 25 = some [(.int .i64 0), (.int .i64 0), (.string ByteArray.empty), (.slice none 0 0), (.slice none 0 0)] := by kernel_rfl
theorem zrv25 : (Tryz.prog.info? 25).bind (·.zero) = some (.agg #[(.int .i64 0), (.int .i64 0), (.string ByteArray.empty), (.slice none 0 0), (.slice none 0 0)]) := by kernel_rfl
theorem byt25 : byt Tryz.prog 25 = some 80 := by kernel_rfl
theorem fld25 : flds Tryz.prog 25 = some [(0, 1, false), (1, 1, false), (2, 1, false), (3, 1, false), (4, 1, false)] := by kernel_rfl
theorem con25 : Tryz.prog.concrete 25 = true := by kernel_rfl
theorem lay26 : lay Tryz.prog 26 = some (true, 5) := by kernel_rfl
theorem zer26 : zer Tryz.prog 26 = some [(.int .i64 0), (.int .i64 0), (.string ByteArray.empty), (.slice none 0 0), (.slice none 0 0)] := by kernel_rfl
theorem zrv26 : (Tryz.prog.info? 26).bind (·.zero) = some (.agg #[(.int .i64 0), (.int .i64 0), (.string ByteArray.empty), (.slice none 0 0), (.slice none 0 0)]) := by kernel_rfl
theorem byt26 : byt Tryz.prog 26 = some 80 := by kernel_rfl
theorem fld26 : flds Tryz.prog 26 = some [(0, 1, false), (1, 1, false), (2, 1, false), (3, 1, false), (4, 1, false)] := by kernel_rfl
theorem con26 : Tryz.prog.concrete 26 = true := by kernel_rfl
theorem lay30 : lay Tryz.prog 30 = some (false, 1) := by kernel_rfl
theorem zer30 : zer Tryz.prog 30 = some [(.slice none 0 0)] := by kernel_rfl
theorem zrv30 : (Tryz.prog.info? 30).bind (·.zero) = some (.slice none 0 0) := by kernel_rfl
theorem byt30 : byt Tryz.prog 30 = some 24 := by kernel_rfl
theorem und30 : Tryz.prog.underlying 30 = some (.slice 36) := by kernel_rfl
theorem con30 : Tryz.prog.concrete 30 = true := by kernel_rfl
theorem lay33 : lay Tryz.prog 33 = some (false, 1) := by kernel_rfl
theorem zer33 : zer Tryz.prog 33 = some [(.slice none 0 0)] := by kernel_rfl
theorem zrv33 : (Tryz.prog.info? 33).bind (·.zero) = some (.slice none 0 0) := by kernel_rfl
theorem byt33 : byt Tryz.prog 33 = some 24 := by kernel_rfl
theorem und33 : Tryz.prog.underlying 33 = some (.slice 51) := by kernel_rfl
theorem con33 : Tryz.prog.concrete 33 = true := by kernel_rfl
theorem lay35 : lay Tryz.prog 35 = some (true, 2) := by kernel_rfl
theorem zer35 : zer Tryz.prog 35 = some [(.int .i64 0), (.slice none 0 0)] := by kernel_rfl
theorem zrv35 : (Tryz.prog.info? 35).bind (·.zero) = some (.agg #[(.int .i64 0), (.slice none 0 0)]) := by kernel_rfl
theorem byt35 : byt Tryz.prog 35 = some 32 := by kernel_rfl
theorem fld35 : flds Tryz.prog 35 = some [(0, 1, false), (1, 1, false)] := by kernel_rfl
theorem con35 : Tryz.prog.concrete 35 = true := by kernel_rfl
theorem lay36 : lay Tryz.prog 36 = some (true, 2) := by kernel_rfl
theorem zer36 : zer Tryz.prog 36 = some [(.int .i64 0), (.slice none 0 0)] := by kernel_rfl
theorem zrv36 : (Tryz.prog.info? 36).bind (·.zero) = some (.agg #[(.int .i64 0), (.slice none 0 0)]) := by kernel_rfl
theorem byt36 : byt Tryz.prog 36 = some 32 := by kernel_rfl
theorem fld36 : flds Tryz.prog 36 = some [(0, 1, false), (1, 1, false)] := by kernel_rfl
theorem con36 : Tryz.prog.concrete 36 = true := by kernel_rfl
theorem lay39 : lay Tryz.prog 39 = some (false, 1) := by kernel_rfl
theorem zer39 : zer Tryz.prog 39 = some [(.pointer none)] := by kernel_rfl
theorem zrv39 : (Tryz.prog.info? 39).bind (·.zero) = some (.pointer none) := by kernel_rfl
theorem byt39 : byt Tryz.prog 39 = some 8 := by kernel_rfl
theorem und39 : Tryz.prog.underlying 39 = some (.pointer 69) := by kernel_rfl
theorem con39 : Tryz.prog.concrete 39 = true := by kernel_rfl
theorem lay46 : lay Tryz.prog 46 = some (false, 1) := by kernel_rfl
theorem zer46 : zer Tryz.prog 46 = some [(.slice none 0 0)] := by kernel_rfl
theorem zrv46 : (Tryz.prog.info? 46).bind (·.zero) = some (.slice none 0 0) := by kernel_rfl
theorem byt46 : byt Tryz.prog 46 = some 24 := by kernel_rfl
theorem und46 : Tryz.prog.underlying 46 = some (.slice 9) := by kernel_rfl
theorem con46 : Tryz.prog.concrete 46 = true := by kernel_rfl
theorem lay47 : lay Tryz.prog 47 = some (false, 1) := by kernel_rfl
theorem zer47 : zer Tryz.prog 47 = some [(.slice none 0 0)] := by kernel_rfl
theorem zrv47 : (Tryz.prog.info? 47).bind (·.zero) = some (.slice none 0 0) := by kernel_rfl
theorem byt47 : byt Tryz.prog 47 = some 24 := by kernel_rfl
theorem und47 : Tryz.prog.underlying 47 = some (.slice 105) := by kernel_rfl
theorem con47 : Tryz.prog.concrete 47 = true := by kernel_rfl
theorem lay48 : lay Tryz.prog 48 = some (true, 2) := by kernel_rfl
theorem zer48 : zer Tryz.prog 48 = some [(.slice none 0 0), (.slice none 0 0)] := by kernel_rfl
theorem zrv48 : (Tryz.prog.info? 48).bind (·.zero) = some (.agg #[(.slice none 0 0), (.slice none 0 0)]) := by kernel_rfl
theorem byt48 : byt Tryz.prog 48 = some 48 := by kernel_rfl
theorem fld48 : flds Tryz.prog 48 = some [(0, 1, false), (1, 1, false)] := by kernel_rfl
theorem con48 : Tryz.prog.concrete 48 = true := by kernel_rfl
theorem lay49 : lay Tryz.prog 49 = some (true, 2) := by kernel_rfl
theorem zer49 : zer Tryz.prog 49 = some [(.slice none 0 0), (.slice none 0 0)] := by kernel_rfl
theorem zrv49 : (Tryz.prog.info? 49).bind (·.zero) = some (.agg #[(.slice none 0 0), (.slice none 0 0)]) := by kernel_rfl
theorem byt49 : byt Tryz.prog 49 = some 48 := by kernel_rfl
theorem fld49 : flds Tryz.prog 49 = some [(0, 1, false), (1, 1, false)] := by kernel_rfl
theorem con49 : Tryz.prog.concrete 49 = true := by kernel_rfl
theorem lay50 : lay Tryz.prog 50 = some (true, 4) := by kernel_rfl
theorem zer50 : zer Tryz.prog 50 = some [(.string ByteArray.empty), (.slice none 0 0), (.slice none 0 0), (.slice none 0 0)] := by kernel_rfl
theorem zrv50 : (Tryz.prog.info? 50).bind (·.zero) = some (.agg #[(.string ByteArray.empty), (.slice none 0 0), (.slice none 0 0), (.slice none 0 0)]) := by kernel_rfl
theorem byt50 : byt Tryz.prog 50 = some 88 := by kernel_rfl
theorem fld50 : flds Tryz.prog 50 = some [(0, 1, false), (1, 1, false), (2, 2, true)] := by kernel_rfl
theorem con50 : Tryz.prog.concrete 50 = true := by kernel_rfl
theorem lay51 : lay Tryz.prog 51 = some (true, 4) := by kernel_rfl
theorem zer51 : zer Tryz.prog 51 = some [(.string ByteArray.empty), (.slice none 0 0), (.slice none 0 0), (.slice none 0 0)] := by kernel_rfl
theorem zrv51 : (Tryz.prog.info? 51).bind (·.zero) = some (.agg #[(.string ByteArray.empty), (.slice none 0 0), (.slice none 0 0), (.slice none 0 0)]) := by kernel_rfl
theorem byt51 : byt Tryz.prog 51 = some 88 := by kernel_rfl
theorem fld51 : flds Tryz.prog 51 = some [(0, 1, false), (1, 1, false), (2, 2, true)] := by kernel_rfl
theorem con51 : Tryz.prog.concrete 51 = true := by kernel_rfl
theorem lay54 : lay Tryz.prog 54 = some (false, 1) := by kernel_rfl
theorem zer54 : zer Tryz.prog 54 = some [(.slice none 0 0)] := by kernel_rfl
theorem zrv54 : (Tryz.prog.info? 54).bind (·.zero) = some (.slice none 0 0) := by kernel_rfl
theorem byt54 : byt Tryz.prog 54 = some 24 := by kernel_rfl
theorem und54 : Tryz.prog.underlying 54 = some (.slice 56) := by kernel_rfl
theorem con54 : Tryz.prog.concrete 54 = true := by kernel_rfl
theorem lay55 : lay Tryz.prog 55 = some (true, 1) := by kernel_rfl
theorem zer55 : zer Tryz.prog 55 = some [(.slice none 0 0)] := by kernel_rfl
theorem zrv55 : (Tryz.prog.info? 55).bind (·.zero) = some (.agg #[(.slice none 0 0)]) := by kernel_rfl
theorem byt55 : byt Tryz.prog 55 = some 24 := by kernel_rfl
theorem fld55 : flds Tryz.prog 55 = some [(0, 1, false)] := by kernel_rfl
theorem con55 : Tryz.prog.concrete 55 = true := by kernel_rfl
theorem lay56 : lay Tryz.prog 56 = some (true, 1) := by kernel_rfl
theorem zer56 : zer Tryz.prog 56 = some [(.slice none 0 0)] := by kernel_rfl
theorem zrv56 : (Tryz.prog.info? 56).bind (·.zero) = some (.agg #[(.slice none 0 0)]) := by kernel_rfl
theorem byt56 : byt Tryz.prog 56 = some 24 := by kernel_rfl
theorem fld56 : flds Tryz.prog 56 = some [(0, 1, false)] := by kernel_rfl
theorem con56 : Tryz.prog.concrete 56 = true := by kernel_rfl
theorem lay59 : lay Tryz.prog 59 = some (false, 1) := by kernel_rfl
theorem zer59 : zer Tryz.prog 59 = some [.nilIface] := by kernel_rfl
theorem zrv59 : (Tryz.prog.info? 59).bind (·.zero) = some .nilIface := by kernel_rfl
theorem byt59 : byt Tryz.prog 59 = some 16 := by kernel_rfl
theorem und59 : Tryz.prog.underlying 59 = some (.interface #[("Error", 154)]) := by kernel_rfl
theorem lay60 : lay Tryz.prog 60 = some (false, 1) := by kernel_rfl
theorem zer60 : zer Tryz.prog 60 = some [.nilIface] := by kernel_rfl
theorem zrv60 : (Tryz.prog.info? 60).bind (·.zero) = some .nilIface := by kernel_rfl
theorem byt60 : byt Tryz.prog 60 = some 16 := by kernel_rfl
theorem und60 : Tryz.prog.underlying 60 = some (.interface #[("Error", 154)]) := by kernel_rfl
theorem lay68 : lay Tryz.prog 68 = some (true, 2) := by kernel_rfl
theorem zer68 : zer Tryz.prog 68 = some [(.slice none 0 0), (.int .i64 0)] := by kernel_rfl
theorem zrv68 : (Tryz.prog.info? 68).bind (·.zero) = some (.agg #[(.slice none 0 0), (.int .i64 0)]) := by kernel_rfl
theorem byt68 : byt Tryz.prog 68 = some 32 := by kernel_rfl
theorem fld68 : flds Tryz.prog 68 = some [(0, 1, false), (1, 1, false)] := by kernel_rfl
theorem con68 : Tryz.prog.concrete 68 = true := by kernel_rfl
theorem lay69 : lay Tryz.prog 69 = some (true, 2) := by kernel_rfl
theorem zer69 : zer Tryz.prog 69 = some [(.slice none 0 0), (.int .i64 0)] := by kernel_rfl
theorem zrv69 : (Tryz.prog.info? 69).bind (·.zero) = some (.agg #[(.slice none 0 0), (.int .i64 0)]) := by kernel_rfl
theorem byt69 : byt Tryz.prog 69 = some 32 := by kernel_rfl
theorem fld69 : flds Tryz.prog 69 = some [(0, 1, false), (1, 1, false)] := by kernel_rfl
theorem con69 : Tryz.prog.concrete 69 = true := by kernel_rfl
theorem lay81 : lay Tryz.prog 81 = some (false, 1) := by kernel_rfl
theorem zer81 : zer Tryz.prog 81 = some [(.map none)] := by kernel_rfl
theorem zrv81 : (Tryz.prog.info? 81).bind (·.zero) = some (.map none) := by kernel_rfl
theorem byt81 : byt Tryz.prog 81 = some 8 := by kernel_rfl
theorem und81 : Tryz.prog.underlying 81 = some (.map 9 3) := by kernel_rfl
theorem con81 : Tryz.prog.concrete 81 = true := by kernel_rfl
theorem lay82 : lay Tryz.prog 82 = some (true, 2) := by kernel_rfl
theorem zer82 : zer Tryz.prog 82 = some [(.slice none 0 0), (.map none)] := by kernel_rfl
theorem zrv82 : (Tryz.prog.info? 82).bind (·.zero) = some (.agg #[(.slice none 0 0), (.map none)]) := by kernel_rfl
theorem byt82 : byt Tryz.prog 82 = some 32 := by kernel_rfl
theorem fld82 : flds Tryz.prog 82 = some [(0, 1, false), (1, 1, false)] := by kernel_rfl
theorem con82 : Tryz.prog.concrete 82 = true := by kernel_rfl
theorem lay83 : lay Tryz.prog 83 = some (true, 2) := by kernel_rfl
theorem zer83 : zer Tryz.prog 83 = some [(.slice none 0 0), (.map none)] := by kernel_rfl
theorem zrv83 : (Tryz.prog.info? 83).bind (·.zero) = some (.agg #[(.slice none 0 0), (.map none)]) := by kernel_rfl
theorem byt83 : byt Tryz.prog 83 = some 32 := by kernel_rfl
theorem fld83 : flds Tryz.prog 83 = some [(0, 1, false), (1, 1, false)] := by kernel_rfl
theorem con83 : Tryz.prog.concrete 83 = true := by kernel_rfl
theorem lay89 : lay Tryz.prog 89 = some (false, 1) := by kernel_rfl
theorem zer89 : zer Tryz.prog 89 = some [(.map none)] := by kernel_rfl
theorem zrv89 : (Tryz.prog.info? 89).bind (·.zero) = some (.map none) := by kernel_rfl
theorem byt89 : byt Tryz.prog 89 = some 8 := by kernel_rfl
theorem und89 : Tryz.prog.underlying 89 = some (.map 9 36) := by kernel_rfl
theorem con89 : Tryz.prog.concrete 89 = true := by kernel_rfl
theorem lay90 : lay Tryz.prog 90 = some (false, 1) := by kernel_rfl
theorem zer90 : zer Tryz.prog 90 = some [(.map none)] := by kernel_rfl
theorem zrv90 : (Tryz.prog.info? 90).bind (·.zero) = some (.map none) := by kernel_rfl
theorem byt90 : byt Tryz.prog 90 = some 8 := by kernel_rfl
theorem und90 : Tryz.prog.underlying 90 = some (.map 9 36) := by kernel_rfl
theorem con90 : Tryz.prog.concrete 90 = true := by kernel_rfl
theorem lay92 : lay Tryz.prog 92 = some (false, 1) := by kernel_rfl
theorem zer92 : zer Tryz.prog 92 = some [.nilIface] := by kernel_rfl
theorem zrv92 : (Tryz.prog.info? 92).bind (·.zero) = some .nilIface := by kernel_rfl
theorem byt92 : byt Tryz.prog 92 = some 16 := by kernel_rfl
theorem und92 : Tryz.prog.underlying 92 = some (.interface #[("AssignableTo", 171), ("Comparable", 95), ("Elem", 172), ("Implements", 171), ("Kind", 173), ("Name", 154), ("PkgPath", 154), ("Size", 174), ("String", 154), ("internal/reflectlite.common", 175), ("internal/reflectlite.uncommon", 176)]) := by kernel_rfl
theorem lay93 : lay Tryz.prog 93 = some (false, 1) := by kernel_rfl
theorem zer93 : zer Tryz.prog 93 = some [.nilIface] := by kernel_rfl
theorem zrv93 : (Tryz.prog.info? 93).bind (·.zero) = some .nilIface := by kernel_rfl
theorem byt93 : byt Tryz.prog 93 = some 16 := by kernel_rfl
theorem und93 : Tryz.prog.underlying 93 = some (.interface #[("AssignableTo", 171), ("Comparable", 95), ("Elem", 172), ("Implements", 171), ("Kind", 173), ("Name", 154), ("PkgPath", 154), ("Size", 174), ("String", 154), ("internal/reflectlite.common", 175), ("internal/reflectlite.uncommon", 176)]) := by kernel_rfl
theorem lay104 : lay Tryz.prog 104 = some (true, 8) := by kernel_rfl
theorem zer104 : zer Tryz.prog 104 = some [(.int .i64 0), (.slice none 0 0), (.string ByteArray.empty), (.slice none 0 0), (.slice none 0 0), (.slice none 0 0), (.slice none 0 0), (.slice none 0 0)] := by kernel_rfl
theorem zrv104 : (Tryz.prog.info? 104).bind (·.zero) = some (.agg #[(.int .i64 0), (.slice none 0 0), (.string ByteArray.empty), (.slice none 0 0), (.slice none 0 0), (.slice none 0 0), (.slice none 0 0), (.slice none 0 0)]) := by kernel_rfl
theorem byt104 : byt Tryz.prog 104 = some 168 := by kernel_rfl
theorem fld104 : flds Tryz.prog 104 = some [(0, 1, false), (1, 1, false), (2, 1, false), (3, 1, false), (4, 2, true), (6, 2, true)] := by kernel_rfl
theorem con104 : Tryz.prog.concrete 104 = true := by kernel_rfl
theorem lay105 : lay Tryz.prog 105 = some (true, 8) := by kernel_rfl
theorem zer105 : zer Tryz.prog 105 = some [(.int .i64 0), (.slice none 0 0), (.string ByteArray.empty), (.slice none 0 0), (.slice none 0 0), (.slice none 0 0), (.slice none 0 0), (.slice none 0 0)] := by kernel_rfl
theorem zrv105 : (Tryz.prog.info? 105).bind (·.zero) = some (.agg #[(.int .i64 0), (.slice none 0 0), (.string ByteArray.empty), (.slice none 0 0), (.slice none 0 0), (.slice none 0 0), (.slice none 0 0), (.slice none 0 0)]) := by kernel_rfl
theorem byt105 : byt Tryz.prog 105 = some 168 := by kernel_rfl
theorem fld105 : flds Tryz.prog 105 = some [(0, 1, false), (1, 1, false), (2, 1, false), (3, 1, false), (4, 2, true), (6, 2, true)] := by kernel_rfl
theorem con105 : Tryz.prog.concrete 105 = true := by kernel_rfl
theorem lay110 : lay Tryz.prog 110 = some (true, 1) := by kernel_rfl
theorem zer110 : zer Tryz.prog 110 = some [(.pointer none)] := by kernel_rfl
theorem zrv110 : (Tryz.prog.info? 110).bind (·.zero) = some (.agg #[(.pointer none)]) := by kernel_rfl
theorem byt110 : byt Tryz.prog 110 = some 8 := by kernel_rfl
theorem fld110 : flds Tryz.prog 110 = some [(0, 1, false)] := by kernel_rfl
theorem con110 : Tryz.prog.concrete 110 = true := by kernel_rfl
theorem lay111 : lay Tryz.prog 111 = some (true, 1) := by kernel_rfl
theorem zer111 : zer Tryz.prog 111 = some [(.pointer none)] := by kernel_rfl
theorem zrv111 : (Tryz.prog.info? 111).bind (·.zero) = some (.agg #[(.pointer none)]) := by kernel_rfl
theorem byt111 : byt Tryz.prog 111 = some 8 := by kernel_rfl
theorem fld111 : flds Tryz.prog 111 = some [(0, 1, false)] := by kernel_rfl
theorem con111 : Tryz.prog.concrete 111 = true := by kernel_rfl
theorem lay112 : lay Tryz.prog 112 = some (false, 1) := by kernel_rfl
theorem zer112 : zer Tryz.prog 112 = some [(.pointer none)] := by kernel_rfl
theorem zrv112 : (Tryz.prog.info? 112).bind (·.zero) = some (.pointer none) := by kernel_rfl
theorem byt112 : byt Tryz.prog 112 = some 8 := by kernel_rfl
theorem und112 : Tryz.prog.underlying 112 = some (.pointer 178) := by kernel_rfl
theorem con112 : Tryz.prog.concrete 112 = true := by kernel_rfl
theorem lay113 : lay Tryz.prog 113 = some (false, 1) := by kernel_rfl
theorem zer113 : zer Tryz.prog 113 = some [.nilIface] := by kernel_rfl
theorem zrv113 : (Tryz.prog.info? 113).bind (·.zero) = some .nilIface := by kernel_rfl
theorem byt113 : byt Tryz.prog 113 = some 16 := by kernel_rfl
theorem und113 : Tryz.prog.underlying 113 = some (.interface #[("Is", 115)]) := by kernel_rfl
theorem lay116 : lay Tryz.prog 116 = some (false, 1) := by kernel_rfl
theorem zer116 : zer Tryz.prog 116 = some [.nilIface] := by kernel_rfl
theorem zrv116 : (Tryz.prog.info? 116).bind (·.zero) = some .nilIface := by kernel_rfl
theorem byt116 : byt Tryz.prog 116 = some 16 := by kernel_rfl
theorem und116 : Tryz.prog.underlying 116 = some (.interface #[("Unwrap", 117)]) := by kernel_rfl
theorem lay118 : lay Tryz.prog 118 = some (false, 1) := by kernel_rfl
theorem zer118 : zer Tryz.prog 118 = some [.nilIface] := by kernel_rfl
theorem zrv118 : (Tryz.prog.info? 118).bind (·.zero) = some .nilIface := by kernel_rfl
theorem byt118 : byt Tryz.prog 118 = some 16 := by kernel_rfl
theorem und118 : Tryz.prog.underlying 118 = some (.interface #[("Unwrap", 120)]) := by kernel_rfl
theorem lay119 : lay Tryz.prog 119 = some (false, 1) := by kernel_rfl
theorem zer119 : zer Tryz.prog 119 = some [(.slice none 0 0)] := by kernel_rfl
theorem zrv119 : (Tryz.prog.info? 119).bind (·.zero) = some (.slice none 0 0) := by kernel_rfl
theorem byt119 : byt Tryz.prog 119 = some 24 := by kernel_rfl
theorem und119 : Tryz.prog.underlying 119 = some (.slice 60) := by kernel_rfl
theorem con119 : Tryz.prog.concrete 119 = true := by kernel_rfl
theorem lay121 : lay Tryz.prog 121 = some (false, 1) := by kernel_rfl
theorem zer121 : zer Tryz.prog 121 = some [.nilIface] := by kernel_rfl
theorem zrv121 : (Tryz.prog.info? 121).bind (·.zero) = some .nilIface := by kernel_rfl
theorem byt121 : byt Tryz.prog 121 = some 16 := by kernel_rfl
theorem und121 : Tryz.prog.underlying 121 = some (.interface #[("loop.example/handfast/impl.termShaped", 1)]) := by kernel_rfl
theorem lay122 : lay Tryz.prog 122 = some (false, 1) := by kernel_rfl
theorem zer122 : zer Tryz.prog 122 = some [.nilIface] := by kernel_rfl
theorem zrv122 : (Tryz.prog.info? 122).bind (·.zero) = some .nilIface := by kernel_rfl
theorem byt122 : byt Tryz.prog 122 = some 16 := by kernel_rfl
theorem und122 : Tryz.prog.underlying 122 = some (.interface #[("loop.example/handfast/impl.termShaped", 1)]) := by kernel_rfl
theorem lay124 : lay Tryz.prog 124 = some (true, 11) := by kernel_rfl
theorem zer124 : zer Tryz.prog 124 = some [(.int .i64 0), (.int .i64 0), (.int .i64 0), (.string ByteArray.empty), (.slice none 0 0), (.slice none 0 0), (.int .i64 0), (.int .i64 0), (.string ByteArray.empty), (.slice none 0 0), (.slice none 0 0)] := by kernel_rfl
theorem zrv124 : (Tryz.prog.info? 124).bind (·.zero) = some (.agg #[(.int .i64 0), (.int .i64 0), (.int .i64 0), (.string ByteArray.empty), (.slice none 0 0), (.slice none 0 0), (.int .i64 0), (.int .i64 0), (.string ByteArray.empty), (.slice none 0 0), (.slice none 0 0)]) := by kernel_rfl
theorem byt124 : byt Tryz.prog 124 = some 168 := by kernel_rfl
theorem fld124 : flds Tryz.prog 124 = some [(0, 1, false), (1, 5, true), (6, 5, true)] := by kernel_rfl
theorem con124 : Tryz.prog.concrete 124 = true := by kernel_rfl
theorem lay125 : lay Tryz.prog 125 = some (true, 11) := by kernel_rfl
theorem zer125 : zer Tryz.prog 125 = some [(.int .i64 0), (.int .i64 0), (.int .i64 0), (.string ByteArray.empty), (.slice none 0 0), (.slice none 0 0), (.int .i64 0), (.int .i64 0), (.string ByteArray.empty), (.slice none 0 0), (.slice none 0 0)] := by kernel_rfl
theorem zrv125 : (Tryz.prog.info? 125).bind (·.zero) = some (.agg #[(.int .i64 0), (.int .i64 0), (.int .i64 0), (.string ByteArray.empty), (.slice none 0 0), (.slice none 0 0), (.int .i64 0), (.int .i64 0), (.string ByteArray.empty), (.slice none 0 0), (.slice none 0 0)]) := by kernel_rfl
theorem byt125 : byt Tryz.prog 125 = some 168 := by kernel_rfl
theorem fld125 : flds Tryz.prog 125 = some [(0, 1, false), (1, 5, true), (6, 5, true)] := by kernel_rfl
theorem con125 : Tryz.prog.concrete 125 = true := by kernel_rfl
theorem lay127 : lay Tryz.prog 127 = some (true, 6) := by kernel_rfl
theorem zer127 : zer Tryz.prog 127 = some [(.slice none 0 0), (.int .i64 0), (.int .i64 0), (.string ByteArray.empty), (.slice none 0 0), (.slice none 0 0)] := by kernel_rfl
theorem zrv127 : (Tryz.prog.info? 127).bind (·.zero) = some (.agg #[(.slice none 0 0), (.int .i64 0), (.int .i64 0), (.string ByteArray.empty), (.slice none 0 0), (.slice none 0 0)]) := by kernel_rfl
theorem byt127 : byt Tryz.prog 127 = some 104 := by kernel_rfl
theorem fld127 : flds Tryz.prog 127 = some [(0, 1, false), (1, 5, true)] := by kernel_rfl
theorem con127 : Tryz.prog.concrete 127 = true := by kernel_rfl
theorem lay128 : lay Tryz.prog 128 = some (true, 6) := by kernel_rfl
theorem zer128 : zer Tryz.prog 128 = some [(.slice none 0 0), (.int .i64 0), (.int .i64 0), (.string ByteArray.empty), (.slice none 0 0), (.slice none 0 0)] := by kernel_rfl
theorem zrv128 : (Tryz.prog.info? 128).bind (·.zero) = some (.agg #[(.slice none 0 0), (.int .i64 0), (.int .i64 0), (.string ByteArray.empty), (.slice none 0 0), (.slice none 0 0)]) := by kernel_rfl
theorem byt128 : byt Tryz.prog 128 = some 104 := by kernel_rfl
theorem fld128 : flds Tryz.prog 128 = some [(0, 1, false), (1, 5, true)] := by kernel_rfl
theorem con128 : Tryz.prog.concrete 128 = true := by kernel_rfl
theorem lay130 : lay Tryz.prog 130 = some (true, 11) := by kernel_rfl
theorem zer130 : zer Tryz.prog 130 = some [(.slice none 0 0), (.int .i64 0), (.int .i64 0), (.string ByteArray.empty), (.slice none 0 0), (.slice none 0 0), (.int .i64 0), (.int .i64 0), (.string ByteArray.empty), (.slice none 0 0), (.slice none 0 0)] := by kernel_rfl
theorem zrv130 : (Tryz.prog.info? 130).bind (·.zero) = some (.agg #[(.slice none 0 0), (.int .i64 0), (.int .i64 0), (.string ByteArray.empty), (.slice none 0 0), (.slice none 0 0), (.int .i64 0), (.int .i64 0), (.string ByteArray.empty), (.slice none 0 0), (.slice none 0 0)]) := by kernel_rfl
theorem byt130 : byt Tryz.prog 130 = some 184 := by kernel_rfl
theorem fld130 : flds Tryz.prog 130 = some [(0, 1, false), (1, 5, true), (6, 5, true)] := by kernel_rfl
theorem con130 : Tryz.prog.concrete 130 = true := by kernel_rfl
theorem lay131 : lay Tryz.prog 131 = some (true, 11) := by kernel_rfl
theorem zer131 : zer Tryz.prog 131 = some [(.slice none 0 0), (.int .i64 0), (.int .i64 0), (.string ByteArray.empty), (.slice none 0 0), (.slice none 0 0), (.int .i64 0), (.int .i64 0), (.string ByteArray.empty), (.slice none 0 0), (.slice none 0 0)] := by kernel_rfl
theorem zrv131 : (Tryz.prog.info? 131).bind (·.zero) = some (.agg #[(.slice none 0 0), (.int .i64 0), (.int .i64 0), (.string ByteArray.empty), (.slice none 0 0), (.slice none 0 0), (.int .i64 0), (.int .i64 0), (.string ByteArray.empty), (.slice none 0 0), (.slice none 0 0)]) := by kernel_rfl
theorem byt131 : byt Tryz.prog 131 = some 184 := by kernel_rfl
theorem fld131 : flds Tryz.prog 131 = some [(0, 1, false), (1, 5, true), (6, 5, true)] := by kernel_rfl
theorem con131 : Tryz.prog.concrete 131 = true := by kernel_rfl
theorem lay138 : lay Tryz.prog 138 = some (true, 1) := by kernel_rfl
theorem zer138 : zer Tryz.prog 138 = some [(.int .i64 0)] := by kernel_rfl
theorem zrv138 : (Tryz.prog.info? 138).bind (·.zero) = some (.agg #[(.int .i64 0)]) := by kernel_rfl
theorem byt138 : byt Tryz.prog 138 = some 8 := by kernel_rfl
theorem fld138 : flds Tryz.prog 138 = some [(0, 1, false)] := by kernel_rfl
theorem con138 : Tryz.prog.concrete 138 = true := by kernel_rfl
theorem lay139 : lay Tryz.prog 139 = some (true, 1) := by kernel_rfl
theorem zer139 : zer Tryz.prog 139 = some [(.int .i64 0)] := by kernel_rfl
theorem zrv139 : (Tryz.prog.info? 139).bind (·.zero) = some (.agg #[(.int .i64 0)]) := by kernel_rfl
theorem byt139 : byt Tryz.prog 139 = some 8 := by kernel_rfl
theorem fld139 : flds Tryz.prog 139 = some [(0, 1, false)] := by kernel_rfl
theorem con139 : Tryz.prog.concrete 139 = true := by kernel_rfl
theorem lay140 : lay Tryz.prog 140 = some (true, 1) := by kernel_rfl
theorem zer140 : zer Tryz.prog 140 = some [(.string ByteArray.empty)] := by kernel_rfl
theorem zrv140 : (Tryz.prog.info? 140).bind (·.zero) = some (.agg #[(.string ByteArray.empty)]) := by kernel_rfl
theorem byt140 : byt Tryz.prog 140 = some 16 := by kernel_rfl
theorem fld140 : flds Tryz.prog 140 = some [(0, 1, false)] := by kernel_rfl
theorem con140 : Tryz.prog.concrete 140 = true := by kernel_rfl
theorem lay141 : lay Tryz.prog 141 = some (true, 1) := by kernel_rfl
theorem zer141 : zer Tryz.prog 141 = some [(.string ByteArray.empty)] := by kernel_rfl
theorem zrv141 : (Tryz.prog.info? 141).bind (·.zero) = some (.agg #[(.string ByteArray.empty)]) := by kernel_rfl
theorem byt141 : byt Tryz.prog 141 = some 16 := by kernel_rfl
theorem fld141 : flds Tryz.prog 141 = some [(0, 1, false)] := by kernel_rfl
theorem con141 : Tryz.prog.concrete 141 = true := by kernel_rfl
theorem lay148 : lay Tryz.prog 148 = some (false, 1) := by kernel_rfl
theorem zer148 : zer Tryz.prog 148 = some [(.slice none 0 0)] := by kernel_rfl
theorem zrv148 : (Tryz.prog.info? 148).bind (·.zero) = some (.slice none 0 0) := by kernel_rfl
theorem byt148 : byt Tryz.prog 148 = some 24 := by kernel_rfl
theorem und148 : Tryz.prog.underlying 148 = some (.slice 23) := by kernel_rfl
theorem con148 : Tryz.prog.concrete 148 = true := by kernel_rfl
theorem lay153 : lay Tryz.prog 153 = some (false, 1) := by kernel_rfl
theorem zer153 : zer Tryz.prog 153 = some [(.pointer none)] := by kernel_rfl
theorem zrv153 : (Tryz.prog.info? 153).bind (·.zero) = some (.pointer none) := by kernel_rfl
theorem byt153 : byt Tryz.prog 153 = some 8 := by kernel_rfl
theorem und153 : Tryz.prog.underlying 153 = some (.pointer 180) := by kernel_rfl
theorem con153 : Tryz.prog.concrete 153 = true := by kernel_rfl
theorem lay155 : lay Tryz.prog 155 = some (true, 4) := by kernel_rfl
theorem zer155 : zer Tryz.prog 155 = some [(.pointer none), (.pointer none), (.pointer none), (.string ByteArray.empty)] := by kernel_rfl
theorem zrv155 : (Tryz.prog.info? 155).bind (·.zero) = some (.agg #[(.pointer none), (.pointer none), (.pointer none), (.string ByteArray.empty)]) := by kernel_rfl
theorem byt155 : byt Tryz.prog 155 = some 40 := by kernel_rfl
theorem fld155 : flds Tryz.prog 155 = some [(0, 1, false), (1, 1, false), (2, 1, false), (3, 1, false)] := by kernel_rfl
theorem con155 : Tryz.prog.concrete 155 = true := by kernel_rfl
theorem lay156 : lay Tryz.prog 156 = some (true, 4) := by kernel_rfl
theorem zer156 : zer Tryz.prog 156 = some [(.pointer none), (.pointer none), (.pointer none), (.string ByteArray.empty)] := by kernel_rfl
theorem zrv156 : (Tryz.prog.info? 156).bind (·.zero) = some (.agg #[(.pointer none), (.pointer none), (.pointer none), (.string ByteArray.empty)]) := by kernel_rfl
theorem byt156 : byt Tryz.prog 156 = some 40 := by kernel_rfl
theorem fld156 : flds Tryz.prog 156 = some [(0, 1, false), (1, 1, false), (2, 1, false), (3, 1, false)] := by kernel_rfl
theorem con156 : Tryz.prog.concrete 156 = true := by kernel_rfl
theorem lay161 : lay Tryz.prog 161 = some (false, 1) := by kernel_rfl
theorem zer161 : zer Tryz.prog 161 = some [(.int .u32 0)] := by kernel_rfl
theorem zrv161 : (Tryz.prog.info? 161).bind (·.zero) = some (.int .u32 0) := by kernel_rfl
theorem byt161 : byt Tryz.prog 161 = some 4 := by kernel_rfl
theorem und161 : Tryz.prog.underlying 161 = some (.int .u32) := by kernel_rfl
theorem con161 : Tryz.prog.concrete 161 = true := by kernel_rfl
theorem lay162 : lay Tryz.prog 162 = some (false, 1) := by kernel_rfl
theorem zer162 : zer Tryz.prog 162 = some [(.int .u8 0)] := by kernel_rfl
theorem zrv162 : (Tryz.prog.info? 162).bind (·.zero) = some (.int .u8 0) := by kernel_rfl
theorem byt162 : byt Tryz.prog 162 = some 1 := by kernel_rfl
theorem und162 : Tryz.prog.underlying 162 = some (.int .u8) := by kernel_rfl
theorem con162 : Tryz.prog.concrete 162 = true := by kernel_rfl
theorem lay163 : lay Tryz.prog 163 = some (false, 1) := by kernel_rfl
theorem zer163 : zer Tryz.prog 163 = some [(.int .u8 0)] := by kernel_rfl
theorem zrv163 : (Tryz.prog.info? 163).bind (·.zero) = some (.int .u8 0) := by kernel_rfl
theorem byt163 : byt Tryz.prog 163 = some 1 := by kernel_rfl
theorem und163 : Tryz.prog.underlying 163 = some (.int .u8) := by kernel_rfl
theorem con163 : Tryz.prog.concrete 163 = true := by kernel_rfl
theorem lay165 : lay Tryz.prog 165 = some (false, 1) := by kernel_rfl
theorem zer165 : zer Tryz.prog 165 = some [(.pointer none)] := by kernel_rfl
theorem zrv165 : (Tryz.prog.info? 165).bind (·.zero) = some (.pointer none) := by kernel_rfl
theorem byt165 : byt Tryz.prog 165 = some 8 := by kernel_rfl
theorem und165 : Tryz.prog.underlying 165 = some (.pointer 5) := by kernel_rfl
theorem con165 : Tryz.prog.concrete 165 = true := by kernel_rfl
theorem lay166 : lay Tryz.prog 166 = some (false, 1) := by kernel_rfl
theorem zer166 : zer Tryz.prog 166 = some [(.int .i32 0)] := by kernel_rfl
theorem zrv166 : (Tryz.prog.info? 166).bind (·.zero) = some (.int .i32 0) := by kernel_rfl
theorem byt166 : byt Tryz.prog 166 = some 4 := by kernel_rfl
theorem und166 : Tryz.prog.underlying 166 = some (.int .i32) := by kernel_rfl
theorem con166 : Tryz.prog.concrete 166 = true := by kernel_rfl
theorem lay167 : lay Tryz.prog 167 = some (false, 1) := by kernel_rfl
theorem zer167 : zer Tryz.prog 167 = some [(.int .i32 0)] := by kernel_rfl
theorem zrv167 : (Tryz.prog.info? 167).bind (·.zero) = some (.int .i32 0) := by kernel_rfl
theorem byt167 : byt Tryz.prog 167 = some 4 := by kernel_rfl
theorem und167 : Tryz.prog.underlying 167 = some (.int .i32) := by kernel_rfl
theorem con167 : Tryz.prog.concrete 167 = true := by kernel_rfl
theorem lay168 : lay Tryz.prog 168 = some (true, 11) := by kernel_rfl
theorem zer168 : zer Tryz.prog 168 = some [(.int .u64 0), (.int .u64 0), (.int .u32 0), (.int .u8 0), (.int .u8 0), (.int .u8 0), (.int .u8 0), .nilFunc, (.pointer none), (.int .i32 0), (.int .i32 0)] := by kernel_rfl
theorem zrv168 : (Tryz.prog.info? 168).bind (·.zero) = some (.agg #[(.int .u64 0), (.int .u64 0), (.int .u32 0), (.int .u8 0), (.int .u8 0), (.int .u8 0), (.int .u8 0), .nilFunc, (.pointer none), (.int .i32 0), (.int .i32 0)]) := by kernel_rfl
theorem byt168 : byt Tryz.prog 168 = some 48 := by kernel_rfl
theorem fld168 : flds Tryz.prog 168 = some [(0, 1, false), (1, 1, false), (2, 1, false), (3, 1, false), (4, 1, false), (5, 1, false), (6, 1, false), (7, 1, false), (8, 1, false), (9, 1, false), (10, 1, false)] := by kernel_rfl
theorem con168 : Tryz.prog.concrete 168 = true := by kernel_rfl
theorem lay169 : lay Tryz.prog 169 = some (true, 11) := by kernel_rfl
theorem zer169 : zer Tryz.prog 169 = some [(.int .u64 0), (.int .u64 0), (.int .u32 0), (.int .u8 0), (.int .u8 0), (.int .u8 0), (.int .u8 0), .nilFunc, (.pointer none), (.int .i32 0), (.int .i32 0)] := by kernel_rfl
theorem zrv169 : (Tryz.prog.info? 169).bind (·.zero) = some (.agg #[(.int .u64 0), (.int .u64 0), (.int .u32 0), (.int .u8 0), (.int .u8 0), (.int .u8 0), (.int .u8 0), .nilFunc, (.pointer none), (.int .i32 0), (.int .i32 0)]) := by kernel_rfl
theorem byt169 : byt Tryz.prog 169 = some 48 := by kernel_rfl
theorem fld169 : flds Tryz.prog 169 = some [(0, 1, false), (1, 1, false), (2, 1, false), (3, 1, false), (4, 1, false), (5, 1, false), (6, 1, false), (7, 1, false), (8, 1, false), (9, 1, false), (10, 1, false)] := by kernel_rfl
theorem con169 : Tryz.prog.concrete 169 = true := by kernel_rfl
theorem lay177 : lay Tryz.prog 177 = some (true, 2) := by kernel_rfl
theorem zer177 : zer Tryz.prog 177 = some [(.string ByteArray.empty), (.int .u8 0)] := by kernel_rfl
theorem zrv177 : (Tryz.prog.info? 177).bind (·.zero) = some (.agg #[(.string ByteArray.empty), (.int .u8 0)]) := by kernel_rfl
theorem byt177 : byt Tryz.prog 177 = some 24 := by kernel_rfl
theorem fld177 : flds Tryz.prog 177 = some [(0, 1, false), (1, 1, false)] := by kernel_rfl
theorem con177 : Tryz.prog.concrete 177 = true := by kernel_rfl
theorem lay178 : lay Tryz.prog 178 = some (true, 2) := by kernel_rfl
theorem zer178 : zer Tryz.prog 178 = some [(.string ByteArray.empty), (.int .u8 0)] := by kernel_rfl
theorem zrv178 : (Tryz.prog.info? 178).bind (·.zero) = some (.agg #[(.string ByteArray.empty), (.int .u8 0)]) := by kernel_rfl
theorem byt178 : byt Tryz.prog 178 = some 24 := by kernel_rfl
theorem fld178 : flds Tryz.prog 178 = some [(0, 1, false), (1, 1, false)] := by kernel_rfl
theorem con178 : Tryz.prog.concrete 178 = true := by kernel_rfl
theorem lay179 : lay Tryz.prog 179 = some (true, 1) := by kernel_rfl
theorem zer179 : zer Tryz.prog 179 = some [(.string ByteArray.empty)] := by kernel_rfl
theorem zrv179 : (Tryz.prog.info? 179).bind (·.zero) = some (.agg #[(.string ByteArray.empty)]) := by kernel_rfl
theorem byt179 : byt Tryz.prog 179 = some 16 := by kernel_rfl
theorem fld179 : flds Tryz.prog 179 = some [(0, 1, false)] := by kernel_rfl
theorem con179 : Tryz.prog.concrete 179 = true := by kernel_rfl
theorem lay180 : lay Tryz.prog 180 = some (true, 1) := by kernel_rfl
theorem zer180 : zer Tryz.prog 180 = some [(.string ByteArray.empty)] := by kernel_rfl
theorem zrv180 : (Tryz.prog.info? 180).bind (·.zero) = some (.agg #[(.string ByteArray.empty)]) := by kernel_rfl
theorem byt180 : byt Tryz.prog 180 = some 16 := by kernel_rfl
theorem fld180 : flds Tryz.prog 180 = some [(0, 1, false)] := by kernel_rfl
theorem con180 : Tryz.prog.concrete 180 = true := by kernel_rfl
theorem lay181 : lay Tryz.prog 181 = some (false, 1) := by kernel_rfl
theorem zer181 : zer Tryz.prog 181 = some [(.pointer none)] := by kernel_rfl
theorem zrv181 : (Tryz.prog.info? 181).bind (·.zero) = some (.pointer none) := by kernel_rfl
theorem byt181 : byt Tryz.prog 181 = some 8 := by kernel_rfl
theorem con181 : Tryz.prog.concrete 181 = true := by kernel_rfl
theorem lay182 : lay Tryz.prog 182 = some (false, 1) := by kernel_rfl
theorem zer182 : zer Tryz.prog 182 = some [(.pointer none)] := by kernel_rfl
theorem zrv182 : (Tryz.prog.info? 182).bind (·.zero) = some (.pointer none) := by kernel_rfl
theorem byt182 : byt Tryz.prog 182 = some 8 := by kernel_rfl
theorem und182 : Tryz.prog.underlying 182 = some (.pointer 186) := by kernel_rfl
theorem con182 : Tryz.prog.concrete 182 = true := by kernel_rfl
theorem lay184 : lay Tryz.prog 184 = some (false, 1) := by kernel_rfl
theorem zer184 : zer Tryz.prog 184 = some [(.int .u16 0)] := by kernel_rfl
theorem zrv184 : (Tryz.prog.info? 184).bind (·.zero) = some (.int .u16 0) := by kernel_rfl
theorem byt184 : byt Tryz.prog 184 = some 2 := by kernel_rfl
theorem und184 : Tryz.prog.underlying 184 = some (.int .u16) := by kernel_rfl
theorem con184 : Tryz.prog.concrete 184 = true := by kernel_rfl
theorem lay185 : lay Tryz.prog 185 = some (true, 5) := by kernel_rfl
theorem zer185 : zer Tryz.prog 185 = some [(.int .i32 0), (.int .u16 0), (.int .u16 0), (.int .u32 0), (.int .u32 0)] := by kernel_rfl
theorem zrv185 : (Tryz.prog.info? 185).bind (·.zero) = some (.agg #[(.int .i32 0), (.int .u16 0), (.int .u16 0), (.int .u32 0), (.int .u32 0)]) := by kernel_rfl
theorem byt185 : byt Tryz.prog 185 = some 16 := by kernel_rfl
theorem fld185 : flds Tryz.prog 185 = some [(0, 1, false), (1, 1, false), (2, 1, false), (3, 1, false), (4, 1, false)] := by kernel_rfl
theorem con185 : Tryz.prog.concrete 185 = true := by kernel_rfl
theorem lay186 : lay Tryz.prog 186 = some (true, 5) := by kernel_rfl
theorem zer186 : zer Tryz.prog 186 = some [(.int .i32 0), (.int .u16 0), (.int .u16 0), (.int .u32 0), (.int .u32 0)] := by kernel_rfl
theorem zrv186 : (Tryz.prog.info? 186).bind (·.zero) = some (.agg #[(.int .i32 0), (.int .u16 0), (.int .u16 0), (.int .u32 0), (.int .u32 0)]) := by kernel_rfl
theorem byt186 : byt Tryz.prog 186 = some 16 := by kernel_rfl
theorem fld186 : flds Tryz.prog 186 = some [(0, 1, false), (1, 1, false), (2, 1, false), (3, 1, false), (4, 1, false)] := by kernel_rfl
theorem con186 : Tryz.prog.concrete 186 = true := by kernel_rfl
theorem lay187 : lay Tryz.prog 187 = some (false, 1) := by kernel_rfl
theorem zer187 : zer Tryz.prog 187 = some [(.slice none 0 0)] := by kernel_rfl
theorem zrv187 : (Tryz.prog.info? 187).bind (·.zero) = some (.slice none 0 0) := by kernel_rfl
theorem byt187 : byt Tryz.prog 187 = some 24 := by kernel_rfl
theorem und187 : Tryz.prog.underlying 187 = some (.slice 190) := by kernel_rfl
theorem con187 : Tryz.prog.concrete 187 = true := by kernel_rfl
theorem lay188 : lay Tryz.prog 188 = some (false, 1) := by kernel_rfl
theorem zer188 : zer Tryz.prog 188 = some [(.int .i32 0)] := by kernel_rfl
theorem zrv188 : (Tryz.prog.info? 188).bind (·.zero) = some (.int .i32 0) := by kernel_rfl
theorem byt188 : byt Tryz.prog 188 = some 4 := by kernel_rfl
theorem und188 : Tryz.prog.underlying 188 = some (.int .i32) := by kernel_rfl
theorem con188 : Tryz.prog.concrete 188 = true := by kernel_rfl
theorem lay189 : lay Tryz.prog 189 = some (true, 4) := by kernel_rfl
theorem zer189 : zer Tryz.prog 189 = some [(.int .i32 0), (.int .i32 0), (.int .i32 0), (.int .i32 0)] := by kernel_rfl
theorem zrv189 : (Tryz.prog.info? 189).bind (·.zero) = some (.agg #[(.int .i32 0), (.int .i32 0), (.int .i32 0), (.int .i32 0)]) := by kernel_rfl
theorem byt189 : byt Tryz.prog 189 = some 16 := by kernel_rfl
theorem fld189 : flds Tryz.prog 189 = some [(0, 1, false), (1, 1, false), (2, 1, false), (3, 1, false)] := by kernel_rfl
theorem con189 : Tryz.prog.concrete 189 = true := by kernel_rfl
theorem lay190 : lay Tryz.prog 190 = some (true, 4) := by kernel_rfl
theorem zer190 : zer Tryz.prog 190 = some [(.int .i32 0), (.int .i32 0), (.int .i32 0), (.int .i32 0)] := by kernel_rfl
theorem zrv190 : (Tryz.prog.info? 190).bind (·.zero) = some (.agg #[(.int .i32 0), (.int .i32 0), (.int .i32 0), (.int .i32 0)]) := by kernel_rfl
theorem byt190 : byt Tryz.prog 190 = some 16 := by kernel_rfl
theorem fld190 : flds Tryz.prog 190 = some [(0, 1, false), (1, 1, false), (2, 1, false), (3, 1, false)] := by kernel_rfl
theorem con190 : Tryz.prog.concrete 190 = true := by kernel_rfl
def layL : List (Nat × (Bool × Nat)) := [(2, (false, 1)), (3, (false, 1)), (4, (false, 1)), (5, (false, 1)), (6, (false, 1)), (7, (true, 4)), (8, (true, 4)), (9, (false, 1)), (10, (false, 1)), (11, (false, 1)), (12, (false, 1)), (13, (true, 2)), (14, (true, 2)), (15, (false, 1)), (16, (false, 1)), (17, (false, 1)), (18, (true, 1)), (19, (true, 1)), (20, (false, 1)), (21, (false, 1)), (22, (false, 1)), (23, (false, 1)), (24, (false, 1)), (25, (true, 5)), (26, (true, 5)), (30, (false, 1)), (33, (false, 1)), (35, (true, 2)), (36, (true, 2)), (39, (false, 1)), (46, (false, 1)), (47, (false, 1)), (48, (true, 2)), (49, (true, 2)), (50, (true, 4)), (51, (true, 4)), (54, (false, 1)), (55, (true, 1)), (56, (true, 1)), (59, (false, 1)), (60, (false, 1)), (68, (true, 2)), (69, (true, 2)), (81, (false, 1)), (82, (true, 2)), (83, (true, 2)), (89, (false, 1)), (90, (false, 1)), (92, (false, 1)), (93, (false, 1)), (104, (true, 8)), (105, (true, 8)), (110, (true, 1)), (111, (true, 1)), (112, (false, 1)), (113, (false, 1)), (116, (false, 1)), (118, (false, 1)), (119, (false, 1)), (121, (false, 1)), (122, (false, 1)), (124, (true, 11)), (125, (true, 11)), (127, (true, 6)), (128, (true, 6)), (130, (true, 11)), (131, (true, 11)), (138, (true, 1)), (139, (true, 1)), (140, (true, 1)), (141, (true, 1)), (148, (false, 1)), (153, (false, 1)), (155, (true, 4)), (156, (true, 4)), (161, (false, 1)), (162, (false, 1)), (163, (false, 1)), (165, (false, 1)), (166, (false, 1)), (167, (false, 1)), (168, (true, 11)), (169, (true, 11)), (177, (true, 2)), (178, (true, 2)), (179, (true, 1)), (180, (true, 1)), (181, (false, 1)), (182, (false, 1)), (184, (false, 1)), (185, (true, 5)), (186, (true, 5)), (187, (false, 1)), (188, (false, 1)), (189, (true, 4)), (190, (true, 4))]
theorem layK : layL.all (fun p => lay Tryz.prog p.1 == some p.2) = true := by kernel_rfl
def fldL : List (Nat × List (Nat × Nat × Bool)) := [(7, [(0, 1, false), (1, 1, false), (2, 1, false), (3, 1, false)]), (8, [(0, 1, false), (1, 1, false), (2, 1, false), (3, 1, false)]), (13, [(0, 1, false), (1, 1, false)]), (14, [(0, 1, false), (1, 1, false)]), (18, [(0, 1, false)]), (19, [(0, 1, false)]), (25, [(0, 1, false), (1, 1, false), (2, 1, false), (3, 1, false), (4, 1, false)]), (26, [(0, 1, false), (1, 1, false), (2, 1, false), (3, 1, false), (4, 1, false)]), (35, [(0, 1, false), (1, 1, false)]), (36, [(0, 1, false), (1, 1, false)]), (48, [(0, 1, false), (1, 1, false)]), (49, [(0, 1, false), (1, 1, false)]), (50, [(0, 1, false), (1, 1, false), (2, 2, true)]), (51, [(0, 1, false), (1, 1, false), (2, 2, true)]), (55, [(0, 1, false)]), (56, [(0, 1, false)]), (68, [(0, 1, false), (1, 1, false)]), (69, [(0, 1, false), (1, 1, false)]), (82, [(0, 1, false), (1, 1, false)]), (83, [(0, 1, false), (1, 1, false)]), (104, [(0, 1, false), (1, 1, false), (2, 1, false), (3, 1, false), (4, 2, true), (6, 2, true)]), (105, [(0, 1, false), (1, 1, false), (2, 1, false), (3, 1, false), (4, 2, true), (6, 2, true)]), (110, [(0, 1, false)]), (111, [(0, 1, false)]), (124, [(0, 1, false), (1, 5, true), (6, 5, true)]), (125, [(0, 1, false), (1, 5, true), (6, 5, true)]), (127, [(0, 1, false), (1, 5, true)]), (128, [(0, 1, false), (1, 5, true)]), (130, [(0, 1, false), (1, 5, true), (6, 5, true)]), (131, [(0, 1, false), (1, 5, true), (6, 5, true)]), (138, [(0, 1, false)]), (139, [(0, 1, false)]), (140, [(0, 1, false)]), (141, [(0, 1, false)]), (155, [(0, 1, false), (1, 1, false), (2, 1, false), (3, 1, false)]), (156, [(0, 1, false), (1, 1, false), (2, 1, false), (3, 1, false)]), (168, [(0, 1, false), (1, 1, false), (2, 1, false), (3, 1, false), (4, 1, false), (5, 1, false), (6, 1, false), (7, 1, false), (8, 1, false), (9, 1, false), (10, 1, false)]), (169, [(0, 1, false), (1, 1, false), (2, 1, false), (3, 1, false), (4, 1, false), (5, 1, false), (6, 1, false), (7, 1, false), (8, 1, false), (9, 1, false), (10, 1, false)]), (177, [(0, 1, false), (1, 1, false)]), (178, [(0, 1, false), (1, 1, false)]), (179, [(0, 1, false)]), (180, [(0, 1, false)]), (185, [(0, 1, false), (1, 1, false), (2, 1, false), (3, 1, false), (4, 1, false)]), (186, [(0, 1, false), (1, 1, false), (2, 1, false), (3, 1, false), (4, 1, false)]), (189, [(0, 1, false), (1, 1, false), (2, 1, false), (3, 1, false)]), (190, [(0, 1, false), (1, 1, false), (2, 1, false), (3, 1, false)])]
theorem fldK : fldL.all (fun p => flds Tryz.prog p.1 == some p.2) = true := by kernel_rfl
def zerL : List (Nat × List Value) := [(2, [(.int .i64 0)]), (3, [(.int .i64 0)]), (4, [(.bool false)]), (5, [(.int .u8 0)]), (6, [(.int .u8 0)]), (7, [(.int .i64 0), (.int .i64 0), (.bool false), (.int .u8 0)]), (8, [(.int .i64 0), (.int .i64 0), (.bool false), (.int .u8 0)]), (9, [(.string ByteArray.empty)]), (10, [(.string ByteArray.empty)]), (11, [(.string ByteArray.empty)]), (12, [(.int .u64 0)]), (13, [(.string ByteArray.empty), (.int .u64 0)]), (14, [(.string ByteArray.empty), (.int .u64 0)]), (15, [(.pointer none)]), (16, [(.pointer none)]), (17, [(.pointer none)]), (18, [(.pointer none)]), (19, [(.pointer none)]), (20, [.nilIface]), (21, [(.int .i32 0)]), (22, [(.slice none 0 0)]), (23, [(.slice none 0 0)]), (24, [(.slice none 0 0)]), (25, [(.int .i64 0), (.int .i64 0), (.string ByteArray.empty), (.slice none 0 0), (.slice none 0 0)]), (26, [(.int .i64 0), (.int .i64 0), (.string ByteArray.empty), (.slice none 0 0), (.slice none 0 0)]), (30, [(.slice none 0 0)]), (33, [(.slice none 0 0)]), (35, [(.int .i64 0), (.slice none 0 0)]), (36, [(.int .i64 0), (.slice none 0 0)]), (39, [(.pointer none)]), (46, [(.slice none 0 0)]), (47, [(.slice none 0 0)]), (48, [(.slice none 0 0), (.slice none 0 0)]), (49, [(.slice none 0 0), (.slice none 0 0)]), (50, [(.string ByteArray.empty), (.slice none 0 0), (.slice none 0 0), (.slice none 0 0)]), (51, [(.string ByteArray.empty), (.slice none 0 0), (.slice none 0 0), (.slice none 0 0)]), (54, [(.slice none 0 0)]), (55, [(.slice none 0 0)]), (56, [(.slice none 0 0)]), (59, [.nilIface]), (60, [.nilIface]), (68, [(.slice none 0 0), (.int .i64 0)]), (69, [(.slice none 0 0), (.int .i64 0)]), (81, [(.map none)]), (82, [(.slice none 0 0), (.map none)]), (83, [(.slice none 0 0), (.map none)]), (89, [(.map none)]), (90, [(.map none)]), (92, [.nilIface]), (93, [.nilIface]), (104, [(.int .i64 0), (.slice none 0 0), (.string ByteArray.empty), (.slice none 0 0), (.slice none 0 0), (.slice none 0 0), (.slice none 0 0), (.slice none 0 0)]), (105, [(.int .i64 0), (.slice none 0 0), (.string ByteArray.empty), (.slice none 0 0), (.slice none 0 0), (.slice none 0 0), (.slice none 0 0), (.slice none 0 0)]), (110, [(.pointer none)]), (111, [(.pointer none)]), (112, [(.pointer none)]), (113, [.nilIface]), (116, [.nilIface]), (118, [.nilIface]), (119, [(.slice none 0 0)]), (121, [.nilIface]), (122, [.nilIface]), (124, [(.int .i64 0), (.int .i64 0), (.int .i64 0), (.string ByteArray.empty), (.slice none 0 0), (.slice none 0 0), (.int .i64 0), (.int .i64 0), (.string ByteArray.empty), (.slice none 0 0), (.slice none 0 0)]), (125, [(.int .i64 0), (.int .i64 0), (.int .i64 0), (.string ByteArray.empty), (.slice none 0 0), (.slice none 0 0), (.int .i64 0), (.int .i64 0), (.string ByteArray.empty), (.slice none 0 0), (.slice none 0 0)]), (127, [(.slice none 0 0), (.int .i64 0), (.int .i64 0), (.string ByteArray.empty), (.slice none 0 0), (.slice none 0 0)]), (128, [(.slice none 0 0), (.int .i64 0), (.int .i64 0), (.string ByteArray.empty), (.slice none 0 0), (.slice none 0 0)]), (130, [(.slice none 0 0), (.int .i64 0), (.int .i64 0), (.string ByteArray.empty), (.slice none 0 0), (.slice none 0 0), (.int .i64 0), (.int .i64 0), (.string ByteArray.empty), (.slice none 0 0), (.slice none 0 0)]), (131, [(.slice none 0 0), (.int .i64 0), (.int .i64 0), (.string ByteArray.empty), (.slice none 0 0), (.slice none 0 0), (.int .i64 0), (.int .i64 0), (.string ByteArray.empty), (.slice none 0 0), (.slice none 0 0)]), (138, [(.int .i64 0)]), (139, [(.int .i64 0)]), (140, [(.string ByteArray.empty)]), (141, [(.string ByteArray.empty)]), (148, [(.slice none 0 0)]), (153, [(.pointer none)]), (155, [(.pointer none), (.pointer none), (.pointer none), (.string ByteArray.empty)]), (156, [(.pointer none), (.pointer none), (.pointer none), (.string ByteArray.empty)]), (161, [(.int .u32 0)]), (162, [(.int .u8 0)]), (163, [(.int .u8 0)]), (165, [(.pointer none)]), (166, [(.int .i32 0)]), (167, [(.int .i32 0)]), (168, [(.int .u64 0), (.int .u64 0), (.int .u32 0), (.int .u8 0), (.int .u8 0), (.int .u8 0), (.int .u8 0), .nilFunc, (.pointer none), (.int .i32 0), (.int .i32 0)]), (169, [(.int .u64 0), (.int .u64 0), (.int .u32 0), (.int .u8 0), (.int .u8 0), (.int .u8 0), (.int .u8 0), .nilFunc, (.pointer none), (.int .i32 0), (.int .i32 0)]), (177, [(.string ByteArray.empty), (.int .u8 0)]), (178, [(.string ByteArray.empty), (.int .u8 0)]), (179, [(.string ByteArray.empty)]), (180, [(.string ByteArray.empty)]), (181, [(.pointer none)]), (182, [(.pointer none)]), (184, [(.int .u16 0)]), (185, [(.int .i32 0), (.int .u16 0), (.int .u16 0), (.int .u32 0), (.int .u32 0)]), (186, [(.int .i32 0), (.int .u16 0), (.int .u16 0), (.int .u32 0), (.int .u32 0)]), (187, [(.slice none 0 0)]), (188, [(.int .i32 0)]), (189, [(.int .i32 0), (.int .i32 0), (.int .i32 0), (.int .i32 0)]), (190, [(.int .i32 0), (.int .i32 0), (.int .i32 0), (.int .i32 0)])]
def zerA : List (Nat × List Value) → Prop
  | [] => True
  | p :: r => (zer Tryz.prog p.1 = some p.2) ∧ zerA r
theorem zerM : ∀ {l : List (Nat × List Value)}, zerA l → ∀ p ∈ l, zer Tryz.prog p.1 = some p.2
  | [], _, p, h => by cases h
  | q :: r, ha, p, h => by
    rcases List.mem_cons.1 h with e | h
    · exact e ▸ ha.1
    · exact zerM ha.2 p h
theorem zerK : zerA zerL := ⟨zer2, zer3, zer4, zer5, zer6, zer7, zer8, zer9, zer10, zer11, zer12, zer13, zer14, zer15, zer16, zer17, zer18, zer19, zer20, zer21, zer22, zer23, zer24, zer25, zer26, zer30, zer33, zer35, zer36, zer39, zer46, zer47, zer48, zer49, zer50, zer51, zer54, zer55, zer56, zer59, zer60, zer68, zer69, zer81, zer82, zer83, zer89, zer90, zer92, zer93, zer104, zer105, zer110, zer111, zer112, zer113, zer116, zer118, zer119, zer121, zer122, zer124, zer125, zer127, zer128, zer130, zer131, zer138, zer139, zer140, zer141, zer148, zer153, zer155, zer156, zer161, zer162, zer163, zer165, zer166, zer167, zer168, zer169, zer177, zer178, zer179, zer180, zer181, zer182, zer184, zer185, zer186, zer187, zer188, zer189, zer190, trivial⟩
theorem zerO : zerL.all (fun p => p.2.all (·.oneCell')) = true := by rfl
def zpvL : List (Nat × PV) := [(2, (.c (.int .i64 0))), (3, (.c (.int .i64 0))), (4, (.c (.bool false))), (5, (.c (.int .u8 0))), (6, (.c (.int .u8 0))), (7, (.ag [(.c (.int .i64 0)), (.c (.int .i64 0)), (.c (.bool false)), (.c (.int .u8 0))])), (8, (.ag [(.c (.int .i64 0)), (.c (.int .i64 0)), (.c (.bool false)), (.c (.int .u8 0))])), (9, (.c (.string ByteArray.empty))), (10, (.c (.string ByteArray.empty))), (11, (.c (.string ByteArray.empty))), (12, (.c (.int .u64 0))), (13, (.ag [(.c (.string ByteArray.empty)), (.c (.int .u64 0))])), (14, (.ag [(.c (.string ByteArray.empty)), (.c (.int .u64 0))])), (15, (.c (.pointer none))), (16, (.c (.pointer none))), (17, (.c (.pointer none))), (18, (.ag [(.c (.pointer none))])), (19, (.ag [(.c (.pointer none))])), (20, (.c .nilIface)), (21, (.c (.int .i32 0))), (22, (.row 1 [])), (23, (.row 1 [])), (24, (.row 1 [])), (25, (.ag [(.c (.int .i64 0)), (.c (.int .i64 0)), (.c (.string ByteArray.empty)), (.row 1 []), (.row 1 [])])), (26, (.ag [(.c (.int .i64 0)), (.c (.int .i64 0)), (.c (.string ByteArray.empty)), (.row 1 []), (.row 1 [])])), (30, (.row 1 [])), (33, (.row 1 [])), (35, (.ag [(.c (.int .i64 0)), (.row 1 [])])), (36, (.ag [(.c (.int .i64 0)), (.row 1 [])])), (39, (.c (.pointer none))), (46, (.row 1 [])), (47, (.row 1 [])), (48, (.ag [(.row 1 []), (.row 1 [])])), (49, (.ag [(.row 1 []), (.row 1 [])])), (50, (.ag [(.c (.string ByteArray.empty)), (.row 1 []), (.row 1 []), (.row 1 [])])), (51, (.ag [(.c (.string ByteArray.empty)), (.row 1 []), (.row 1 []), (.row 1 [])])), (54, (.row 1 [])), (55, (.ag [(.row 1 [])])), (56, (.ag [(.row 1 [])])), (59, (.c .nilIface)), (60, (.c .nilIface)), (68, (.ag [(.row 1 []), (.c (.int .i64 0))])), (69, (.ag [(.row 1 []), (.c (.int .i64 0))])), (81, (.c (.map none))), (82, (.ag [(.row 1 []), (.c (.map none))])), (83, (.ag [(.row 1 []), (.c (.map none))])), (89, (.c (.map none))), (90, (.c (.map none))), (92, (.c .nilIface)), (93, (.c .nilIface)), (104, (.ag [(.c (.int .i64 0)), (.row 1 []), (.c (.string ByteArray.empty)), (.row 1 []), (.row 1 []), (.row 1 []), (.row 1 []), (.row 1 [])])), (105, (.ag [(.c (.int .i64 0)), (.row 1 []), (.c (.string ByteArray.empty)), (.row 1 []), (.row 1 []), (.row 1 []), (.row 1 []), (.row 1 [])])), (110, (.ag [(.c (.pointer none))])), (111, (.ag [(.c (.pointer none))])), (112, (.c (.pointer none))), (113, (.c .nilIface)), (116, (.c .nilIface)), (118, (.c .nilIface)), (119, (.row 1 [])), (121, (.c .nilIface)), (122, (.c .nilIface)), (124, (.ag [(.c (.int .i64 0)), (.c (.int .i64 0)), (.c (.int .i64 0)), (.c (.string ByteArray.empty)), (.row 1 []), (.row 1 []), (.c (.int .i64 0)), (.c (.int .i64 0)), (.c (.string ByteArray.empty)), (.row 1 []), (.row 1 [])])), (125, (.ag [(.c (.int .i64 0)), (.c (.int .i64 0)), (.c (.int .i64 0)), (.c (.string ByteArray.empty)), (.row 1 []), (.row 1 []), (.c (.int .i64 0)), (.c (.int .i64 0)), (.c (.string ByteArray.empty)), (.row 1 []), (.row 1 [])])), (127, (.ag [(.row 1 []), (.c (.int .i64 0)), (.c (.int .i64 0)), (.c (.string ByteArray.empty)), (.row 1 []), (.row 1 [])])), (128, (.ag [(.row 1 []), (.c (.int .i64 0)), (.c (.int .i64 0)), (.c (.string ByteArray.empty)), (.row 1 []), (.row 1 [])])), (130, (.ag [(.row 1 []), (.c (.int .i64 0)), (.c (.int .i64 0)), (.c (.string ByteArray.empty)), (.row 1 []), (.row 1 []), (.c (.int .i64 0)), (.c (.int .i64 0)), (.c (.string ByteArray.empty)), (.row 1 []), (.row 1 [])])), (131, (.ag [(.row 1 []), (.c (.int .i64 0)), (.c (.int .i64 0)), (.c (.string ByteArray.empty)), (.row 1 []), (.row 1 []), (.c (.int .i64 0)), (.c (.int .i64 0)), (.c (.string ByteArray.empty)), (.row 1 []), (.row 1 [])])), (138, (.ag [(.c (.int .i64 0))])), (139, (.ag [(.c (.int .i64 0))])), (140, (.ag [(.c (.string ByteArray.empty))])), (141, (.ag [(.c (.string ByteArray.empty))])), (148, (.row 1 [])), (153, (.c (.pointer none))), (155, (.ag [(.c (.pointer none)), (.c (.pointer none)), (.c (.pointer none)), (.c (.string ByteArray.empty))])), (156, (.ag [(.c (.pointer none)), (.c (.pointer none)), (.c (.pointer none)), (.c (.string ByteArray.empty))])), (161, (.c (.int .u32 0))), (162, (.c (.int .u8 0))), (163, (.c (.int .u8 0))), (165, (.c (.pointer none))), (166, (.c (.int .i32 0))), (167, (.c (.int .i32 0))), (168, (.ag [(.c (.int .u64 0)), (.c (.int .u64 0)), (.c (.int .u32 0)), (.c (.int .u8 0)), (.c (.int .u8 0)), (.c (.int .u8 0)), (.c (.int .u8 0)), (.c .nilFunc), (.c (.pointer none)), (.c (.int .i32 0)), (.c (.int .i32 0))])), (169, (.ag [(.c (.int .u64 0)), (.c (.int .u64 0)), (.c (.int .u32 0)), (.c (.int .u8 0)), (.c (.int .u8 0)), (.c (.int .u8 0)), (.c (.int .u8 0)), (.c .nilFunc), (.c (.pointer none)), (.c (.int .i32 0)), (.c (.int .i32 0))])), (177, (.ag [(.c (.string ByteArray.empty)), (.c (.int .u8 0))])), (178, (.ag [(.c (.string ByteArray.empty)), (.c (.int .u8 0))])), (179, (.ag [(.c (.string ByteArray.empty))])), (180, (.ag [(.c (.string ByteArray.empty))])), (181, (.c (.pointer none))), (182, (.c (.pointer none))), (184, (.c (.int .u16 0))), (185, (.ag [(.c (.int .i32 0)), (.c (.int .u16 0)), (.c (.int .u16 0)), (.c (.int .u32 0)), (.c (.int .u32 0))])), (186, (.ag [(.c (.int .i32 0)), (.c (.int .u16 0)), (.c (.int .u16 0)), (.c (.int .u32 0)), (.c (.int .u32 0))])), (187, (.row 1 [])), (188, (.c (.int .i32 0))), (189, (.ag [(.c (.int .i32 0)), (.c (.int .i32 0)), (.c (.int .i32 0)), (.c (.int .i32 0))])), (190, (.ag [(.c (.int .i32 0)), (.c (.int .i32 0)), (.c (.int .i32 0)), (.c (.int .i32 0))]))]
def zpvA : List (Nat × PV) → Prop
  | [] => True
  | p :: r => (ZeroP Tryz.prog p.1 p.2) ∧ zpvA r
theorem zpvM : ∀ {l : List (Nat × PV)}, zpvA l → ∀ p ∈ l, ZeroP Tryz.prog p.1 p.2
  | [], _, p, h => by cases h
  | q :: r, ha, p, h => by
    rcases List.mem_cons.1 h with e | h
    · exact e ▸ ha.1
    · exact zpvM ha.2 p h
theorem zpvK : zpvA zpvL := ⟨⟨_, zrv2, .inr ⟨rfl, rfl⟩⟩, ⟨_, zrv3, .inr ⟨rfl, rfl⟩⟩, ⟨_, zrv4, .inr ⟨rfl, rfl⟩⟩, ⟨_, zrv5, .inr ⟨rfl, rfl⟩⟩, ⟨_, zrv6, .inr ⟨rfl, rfl⟩⟩, ⟨_, zrv7, .inl ⟨_, rfl, by simp [Value.oneCell'], rfl⟩⟩, ⟨_, zrv8, .inl ⟨_, rfl, by simp [Value.oneCell'], rfl⟩⟩, ⟨_, zrv9, .inr ⟨rfl, rfl⟩⟩, ⟨_, zrv10, .inr ⟨rfl, rfl⟩⟩, ⟨_, zrv11, .inr ⟨rfl, rfl⟩⟩, ⟨_, zrv12, .inr ⟨rfl, rfl⟩⟩, ⟨_, zrv13, .inl ⟨_, rfl, by simp [Value.oneCell'], rfl⟩⟩, ⟨_, zrv14, .inl ⟨_, rfl, by simp [Value.oneCell'], rfl⟩⟩, ⟨_, zrv15, .inr ⟨rfl, rfl⟩⟩, ⟨_, zrv16, .inr ⟨rfl, rfl⟩⟩, ⟨_, zrv17, .inr ⟨rfl, rfl⟩⟩, ⟨_, zrv18, .inl ⟨_, rfl, by simp [Value.oneCell'], rfl⟩⟩, ⟨_, zrv19, .inl ⟨_, rfl, by simp [Value.oneCell'], rfl⟩⟩, ⟨_, zrv20, .inr ⟨rfl, rfl⟩⟩, ⟨_, zrv21, .inr ⟨rfl, rfl⟩⟩, ⟨_, zrv22, .inr ⟨rfl, rfl⟩⟩, ⟨_, zrv23, .inr ⟨rfl, rfl⟩⟩, ⟨_, zrv24, .inr ⟨rfl, rfl⟩⟩, ⟨_, zrv25, .inl ⟨_, rfl, by simp [Value.oneCell'], rfl⟩⟩, ⟨_, zrv26, .inl ⟨_, rfl, by simp [Value.oneCell'], rfl⟩⟩, ⟨_, zrv30, .inr ⟨rfl, rfl⟩⟩, ⟨_, zrv33, .inr ⟨rfl, rfl⟩⟩, ⟨_, zrv35, .inl ⟨_, rfl, by simp [Value.oneCell'], rfl⟩⟩, ⟨_, zrv36, .inl ⟨_, rfl, by simp [Value.oneCell'], rfl⟩⟩, ⟨_, zrv39, .inr ⟨rfl, rfl⟩⟩, ⟨_, zrv46, .inr ⟨rfl, rfl⟩⟩, ⟨_, zrv47, .inr ⟨rfl, rfl⟩⟩, ⟨_, zrv48, .inl ⟨_, rfl, by simp [Value.oneCell'], rfl⟩⟩, ⟨_, zrv49, .inl ⟨_, rfl, by simp [Value.oneCell'], rfl⟩⟩, ⟨_, zrv50, .inl ⟨_, rfl, by simp [Value.oneCell'], rfl⟩⟩, ⟨_, zrv51, .inl ⟨_, rfl, by simp [Value.oneCell'], rfl⟩⟩, ⟨_, zrv54, .inr ⟨rfl, rfl⟩⟩, ⟨_, zrv55, .inl ⟨_, rfl, by simp [Value.oneCell'], rfl⟩⟩, ⟨_, zrv56, .inl ⟨_, rfl, by simp [Value.oneCell'], rfl⟩⟩, ⟨_, zrv59, .inr ⟨rfl, rfl⟩⟩, ⟨_, zrv60, .inr ⟨rfl, rfl⟩⟩, ⟨_, zrv68, .inl ⟨_, rfl, by simp [Value.oneCell'], rfl⟩⟩, ⟨_, zrv69, .inl ⟨_, rfl, by simp [Value.oneCell'], rfl⟩⟩, ⟨_, zrv81, .inr ⟨rfl, rfl⟩⟩, ⟨_, zrv82, .inl ⟨_, rfl, by simp [Value.oneCell'], rfl⟩⟩, ⟨_, zrv83, .inl ⟨_, rfl, by simp [Value.oneCell'], rfl⟩⟩, ⟨_, zrv89, .inr ⟨rfl, rfl⟩⟩, ⟨_, zrv90, .inr ⟨rfl, rfl⟩⟩, ⟨_, zrv92, .inr ⟨rfl, rfl⟩⟩, ⟨_, zrv93, .inr ⟨rfl, rfl⟩⟩, ⟨_, zrv104, .inl ⟨_, rfl, by simp [Value.oneCell'], rfl⟩⟩, ⟨_, zrv105, .inl ⟨_, rfl, by simp [Value.oneCell'], rfl⟩⟩, ⟨_, zrv110, .inl ⟨_, rfl, by simp [Value.oneCell'], rfl⟩⟩, ⟨_, zrv111, .inl ⟨_, rfl, by simp [Value.oneCell'], rfl⟩⟩, ⟨_, zrv112, .inr ⟨rfl, rfl⟩⟩, ⟨_, zrv113, .inr ⟨rfl, rfl⟩⟩, ⟨_, zrv116, .inr ⟨rfl, rfl⟩⟩, ⟨_, zrv118, .inr ⟨rfl, rfl⟩⟩, ⟨_, zrv119, .inr ⟨rfl, rfl⟩⟩, ⟨_, zrv121, .inr ⟨rfl, rfl⟩⟩, ⟨_, zrv122, .inr ⟨rfl, rfl⟩⟩, ⟨_, zrv124, .inl ⟨_, rfl, by simp [Value.oneCell'], rfl⟩⟩, ⟨_, zrv125, .inl ⟨_, rfl, by simp [Value.oneCell'], rfl⟩⟩, ⟨_, zrv127, .inl ⟨_, rfl, by simp [Value.oneCell'], rfl⟩⟩, ⟨_, zrv128, .inl ⟨_, rfl, by simp [Value.oneCell'], rfl⟩⟩, ⟨_, zrv130, .inl ⟨_, rfl, by simp [Value.oneCell'], rfl⟩⟩, ⟨_, zrv131, .inl ⟨_, rfl, by simp [Value.oneCell'], rfl⟩⟩, ⟨_, zrv138, .inl ⟨_, rfl, by simp [Value.oneCell'], rfl⟩⟩, ⟨_, zrv139, .inl ⟨_, rfl, by simp [Value.oneCell'], rfl⟩⟩, ⟨_, zrv140, .inl ⟨_, rfl, by simp [Value.oneCell'], rfl⟩⟩, ⟨_, zrv141, .inl ⟨_, rfl, by simp [Value.oneCell'], rfl⟩⟩, ⟨_, zrv148, .inr ⟨rfl, rfl⟩⟩, ⟨_, zrv153, .inr ⟨rfl, rfl⟩⟩, ⟨_, zrv155, .inl ⟨_, rfl, by simp [Value.oneCell'], rfl⟩⟩, ⟨_, zrv156, .inl ⟨_, rfl, by simp [Value.oneCell'], rfl⟩⟩, ⟨_, zrv161, .inr ⟨rfl, rfl⟩⟩, ⟨_, zrv162, .inr ⟨rfl, rfl⟩⟩, ⟨_, zrv163, .inr ⟨rfl, rfl⟩⟩, ⟨_, zrv165, .inr ⟨rfl, rfl⟩⟩, ⟨_, zrv166, .inr ⟨rfl, rfl⟩⟩, ⟨_, zrv167, .inr ⟨rfl, rfl⟩⟩, ⟨_, zrv168, .inl ⟨_, rfl, by simp [Value.oneCell'], rfl⟩⟩, ⟨_, zrv169, .inl ⟨_, rfl, by simp [Value.oneCell'], rfl⟩⟩, ⟨_, zrv177, .inl ⟨_, rfl, by simp [Value.oneCell'], rfl⟩⟩, ⟨_, zrv178, .inl ⟨_, rfl, by simp [Value.oneCell'], rfl⟩⟩, ⟨_, zrv179, .inl ⟨_, rfl, by simp [Value.oneCell'], rfl⟩⟩, ⟨_, zrv180, .inl ⟨_, rfl, by simp [Value.oneCell'], rfl⟩⟩, ⟨_, zrv181, .inr ⟨rfl, rfl⟩⟩, ⟨_, zrv182, .inr ⟨rfl, rfl⟩⟩, ⟨_, zrv184, .inr ⟨rfl, rfl⟩⟩, ⟨_, zrv185, .inl ⟨_, rfl, by simp [Value.oneCell'], rfl⟩⟩, ⟨_, zrv186, .inl ⟨_, rfl, by simp [Value.oneCell'], rfl⟩⟩, ⟨_, zrv187, .inr ⟨rfl, rfl⟩⟩, ⟨_, zrv188, .inr ⟨rfl, rfl⟩⟩, ⟨_, zrv189, .inl ⟨_, rfl, by simp [Value.oneCell'], rfl⟩⟩, ⟨_, zrv190, .inl ⟨_, rfl, by simp [Value.oneCell'], rfl⟩⟩, trivial⟩
def slL : List (Nat × Nat) := [(22, 5), (23, 3), (24, 26), (30, 36), (33, 51), (46, 9), (47, 105), (54, 56), (119, 60), (148, 23), (187, 190)]
def slA : List (Nat × Nat) → Prop
  | [] => True
  | p :: r => (Tryz.prog.underlying p.1 = some (.slice p.2)) ∧ slA r
theorem slM : ∀ {l : List (Nat × Nat)}, slA l → ∀ p ∈ l, Tryz.prog.underlying p.1 = some (.slice p.2)
  | [], _, p, h => by cases h
  | q :: r, ha, p, h => by
    rcases List.mem_cons.1 h with e | h
    · exact e ▸ ha.1
    · exact slM ha.2 p h
theorem slK : slA slL := ⟨und22, und23, und24, und30, und33, und46, und47, und54, und119, und148, und187, trivial⟩
def intL : List (Nat × IntKind) := [(2, .i64), (3, .i64), (5, .u8), (6, .u8), (12, .u64), (21, .i32), (161, .u32), (162, .u8), (163, .u8), (166, .i32), (167, .i32), (184, .u16), (188, .i32)]
def intA : List (Nat × IntKind) → Prop
  | [] => True
  | p :: r => (Tryz.prog.underlying p.1 = some (.int p.2)) ∧ intA r
theorem intM : ∀ {l : List (Nat × IntKind)}, intA l → ∀ p ∈ l, Tryz.prog.underlying p.1 = some (.int p.2)
  | [], _, p, h => by cases h
  | q :: r, ha, p, h => by
    rcases List.mem_cons.1 h with e | h
    · exact e ▸ ha.1
    · exact intM ha.2 p h
theorem intK : intA intL := ⟨und2, und3, und5, und6, und12, und21, und161, und162, und163, und166, und167, und184, und188, trivial⟩
def strL : List (Nat × Unit) := [(9, ()), (10, ()), (11, ())]
def strA : List (Nat × Unit) → Prop
  | [] => True
  | p :: r => (Tryz.prog.underlying p.1 = some .string) ∧ strA r
theorem strM : ∀ {l : List (Nat × Unit)}, strA l → ∀ p ∈ l, Tryz.prog.underlying p.1 = some .string
  | [], _, p, h => by cases h
  | q :: r, ha, p, h => by
    rcases List.mem_cons.1 h with e | h
    · exact e ▸ ha.1
    · exact strM ha.2 p h
theorem strK : strA strL := ⟨und9, und10, und11, trivial⟩
def booL : List (Nat × Unit) := [(4, ())]
def booA : List (Nat × Unit) → Prop
  | [] => True
  | p :: r => (Tryz.prog.underlying p.1 = some .bool) ∧ booA r
theorem booM : ∀ {l : List (Nat × Unit)}, booA l → ∀ p ∈ l, Tryz.prog.underlying p.1 = some .bool
  | [], _, p, h => by cases h
  | q :: r, ha, p, h => by
    rcases List.mem_cons.1 h with e | h
    · exact e ▸ ha.1
    · exact booM ha.2 p h
theorem booK : booA booL := ⟨und4, trivial⟩
def ifcL : List (Nat × Unit) := [(20, ()), (59, ()), (60, ()), (92, ()), (93, ()), (113, ()), (116, ()), (118, ()), (121, ()), (122, ())]
def ifcA : List (Nat × Unit) → Prop
  | [] => True
  | p :: r => (∃ ms, Tryz.prog.underlying p.1 = some (.interface ms)) ∧ ifcA r
theorem ifcM : ∀ {l : List (Nat × Unit)}, ifcA l → ∀ p ∈ l, ∃ ms, Tryz.prog.underlying p.1 = some (.interface ms)
  | [], _, p, h => by cases h
  | q :: r, ha, p, h => by
    rcases List.mem_cons.1 h with e | h
    · exact e ▸ ha.1
    · exact ifcM ha.2 p h
theorem ifcK : ifcA ifcL := ⟨⟨_, und20⟩, ⟨_, und59⟩, ⟨_, und60⟩, ⟨_, und92⟩, ⟨_, und93⟩, ⟨_, und113⟩, ⟨_, und116⟩, ⟨_, und118⟩, ⟨_, und121⟩, ⟨_, und122⟩, trivial⟩
def conL : List (Nat × Unit) := [(2, ()), (3, ()), (4, ()), (5, ()), (6, ()), (7, ()), (8, ()), (9, ()), (10, ()), (11, ()), (12, ()), (13, ()), (14, ()), (15, ()), (16, ()), (17, ()), (18, ()), (19, ()), (21, ()), (22, ()), (23, ()), (24, ()), (25, ()), (26, ()), (30, ()), (33, ()), (35, ()), (36, ()), (39, ()), (46, ()), (47, ()), (48, ()), (49, ()), (50, ()), (51, ()), (54, ()), (55, ()), (56, ()), (68, ()), (69, ()), (81, ()), (82, ()), (83, ()), (89, ()), (90, ()), (104, ()), (105, ()), (110, ()), (111, ()), (112, ()), (119, ()), (124, ()), (125, ()), (127, ()), (128, ()), (130, ()), (131, ()), (138, ()), (139, ()), (140, ()), (141, ()), (148, ()), (153, ()), (155, ()), (156, ()), (161, ()), (162, ()), (163, ()), (165, ()), (166, ()), (167, ()), (168, ()), (169, ()), (177, ()), (178, ()), (179, ()), (180, ()), (181, ()), (182, ()), (184, ()), (185, ()), (186, ()), (187, ()), (188, ()), (189, ()), (190, ())]
def conA : List (Nat × Unit) → Prop
  | [] => True
  | p :: r => (Tryz.prog.concrete p.1 = true) ∧ conA r
theorem conM : ∀ {l : List (Nat × Unit)}, conA l → ∀ p ∈ l, Tryz.prog.concrete p.1 = true
  | [], _, p, h => by cases h
  | q :: r, ha, p, h => by
    rcases List.mem_cons.1 h with e | h
    · exact e ▸ ha.1
    · exact conM ha.2 p h
theorem conK : conA conL := ⟨con2, con3, con4, con5, con6, con7, con8, con9, con10, con11, con12, con13, con14, con15, con16, con17, con18, con19, con21, con22, con23, con24, con25, con26, con30, con33, con35, con36, con39, con46, con47, con48, con49, con50, con51, con54, con55, con56, con68, con69, con81, con82, con83, con89, con90, con104, con105, con110, con111, con112, con119, con124, con125, con127, con128, con130, con131, con138, con139, con140, con141, con148, con153, con155, con156, con161, con162, con163, con165, con166, con167, con168, con169, con177, con178, con179, con180, con181, con182, con184, con185, con186, con187, con188, con189, con190, trivial⟩
def bytL : List (Nat × Nat) := [(2, 8), (3, 8), (4, 1), (5, 1), (6, 1), (7, 24), (8, 24), (9, 16), (10, 16), (11, 16), (12, 8), (13, 24), (14, 24), (15, 8), (16, 8), (17, 8), (18, 8), (19, 8), (20, 16), (21, 4), (22, 24), (23, 24), (24, 24), (25, 80), (26, 80), (30, 24), (33, 24), (35, 32), (36, 32), (39, 8), (46, 24), (47, 24), (48, 48), (49, 48), (50, 88), (51, 88), (54, 24), (55, 24), (56, 24), (59, 16), (60, 16), (68, 32), (69, 32), (81, 8), (82, 32), (83, 32), (89, 8), (90, 8), (92, 16), (93, 16), (104, 168), (105, 168), (110, 8), (111, 8), (112, 8), (113, 16), (116, 16), (118, 16), (119, 24), (121, 16), (122, 16), (124, 168), (125, 168), (127, 104), (128, 104), (130, 184), (131, 184), (138, 8), (139, 8), (140, 16), (141, 16), (148, 24), (153, 8), (155, 40), (156, 40), (161, 4), (162, 1), (163, 1), (165, 8), (166, 4), (167, 4), (168, 48), (169, 48), (177, 24), (178, 24), (179, 16), (180, 16), (181, 8), (182, 8), (184, 2), (185, 16), (186, 16), (187, 24), (188, 4), (189, 16), (190, 16)]
theorem bytK : bytL.all (fun p => byt Tryz.prog p.1 == some p.2) = true := by kernel_rfl
def mpL : List (Nat × Nat) := [(81, 3), (89, 36), (90, 36)]
def mpA : List (Nat × Nat) → Prop
  | [] => True
  | p :: r => (∃ k, Tryz.prog.underlying p.1 = some (.map k p.2) ∧ Tryz.prog.underlying k = some .string) ∧ mpA r
theorem mpM : ∀ {l : List (Nat × Nat)}, mpA l → ∀ p ∈ l, ∃ k, Tryz.prog.underlying p.1 = some (.map k p.2) ∧ Tryz.prog.underlying k = some .string
  | [], _, p, h => by cases h
  | q :: r, ha, p, h => by
    rcases List.mem_cons.1 h with e | h
    · exact e ▸ ha.1
    · exact mpM ha.2 p h
theorem mpK : mpA mpL := ⟨⟨9, und81, und9⟩, ⟨9, und89, und9⟩, ⟨9, und90, und9⟩, trivial⟩
theorem of_all {α : Type} [BEq α] [LawfulBEq α] {f : Nat → Option α} {l : List (Nat × α)} (h : l.all (fun p => f p.1 == some p.2) = true) {t : Nat} {x : α} (hx : lkN l t = some x) : f t = some x := by
  have := List.all_eq_true.1 h _ (lkN_mem hx)
  simpa using this
def T : Tab Tryz.prog where
  lay t := lkN layL t
  hlay t x h := of_all layK h
  flds t := lkN fldL t
  hflds t x h := of_all fldK h
  zer t := lkN zerL t
  hzer t x h := ⟨zerM zerK _ (lkN_mem h), fun u hu => List.all_eq_true.1 (List.all_eq_true.1 zerO _ (lkN_mem h)) u hu⟩
  sl t := lkN slL t
  hsl t e h := slM slK _ (lkN_mem h)
  str t := (lkN strL t).isSome
  hstr t h := by obtain ⟨x, hx⟩ := Option.isSome_iff_exists.1 h; exact strM strK _ (lkN_mem hx)
  boo t := (lkN booL t).isSome
  hboo t h := by obtain ⟨x, hx⟩ := Option.isSome_iff_exists.1 h; exact booM booK _ (lkN_mem hx)
  int t := lkN intL t
  hint t k h := intM intK _ (lkN_mem h)
  ifc t := (lkN ifcL t).isSome
  hifc t h := by obtain ⟨x, hx⟩ := Option.isSome_iff_exists.1 h; exact ifcM ifcK _ (lkN_mem hx)
  con t := (lkN conL t).isSome
  hcon t h := by obtain ⟨x, hx⟩ := Option.isSome_iff_exists.1 h; exact conM conK _ (lkN_mem hx)
  byt t := lkN bytL t
  hbyt t x h := of_all bytK h
  mp t := lkN mpL t
  hmp t e h := mpM mpK _ (lkN_mem h)
  zpv t := lkN zpvL t
  hzpv t y h := zpvM zpvK _ (lkN_mem h)
end Go.Proofs.YtglkkbgflnpjeaaGreatDoor.Ty
end
section
namespace Go.Proofs.YtglkkbgflnpjeaaGreatDoor.K
open Go Go.RowKit Go.Proofs.YtglkkbgflnpjeaaGreatDoor.En Go.Proofs.YtglkkbgflnpjeaaGreatDoor.Ty Go.Proofs.YtglkkbgflnpjeaaGreatDoor.B
set_option maxRecDepth 100000
set_option linter.unusedSimpArgs false
set_option linter.unusedVariables false
set_option pp.deepTerms false
set_option pp.deepTerms.threshold 8
set_option pp.maxSteps 1000
end Go.Proofs.YtglkkbgflnpjeaaGreatDoor.K
end
section
namespace Go.Proofs.YtglkkbgflnpjeaaGreatDoor.K
open Go Go.RowKit Go.Proofs.YtglkkbgflnpjeaaGreatDoor.En Go.Proofs.YtglkkbgflnpjeaaGreatDoor.Ty Go.Proofs.YtglkkbgflnpjeaaGreatDoor.B
set_option maxRecDepth 100000
set_option linter.unusedSimpArgs false
set_option linter.unusedVariables false
set_option pp.deepTerms false
set_option pp.deepTerms.threshold 8
set_option pp.maxSteps 1000
theorem teq_zip (n : Nat) (a b : List Tn) (ha : dp (n + 1) a = true) (hb : dp (n + 1) b = true) (hl : a.length = b.length) : teq (n + 1) a b = (a.zip b).all fun p => teq n p.1.f0 p.2.f0 := by
  rcases shp a with rfl | ⟨a1, a2, rfl⟩ | ⟨h0, h2⟩
  · obtain rfl := List.eq_nil_of_length_eq_zero hl.symm
    rfl
  · obtain ⟨b1, b2, rfl⟩ := two_of hl.symm
    show (teq n a1.f0 b1.f0 && teq n a2.f0 b2.f0) = _
    simp
  · rw [dp_odd _ _ h0 h2] at ha; cases ha
theorem dp_mem (n : Nat) (l : List Tn) (h : dp (n + 1) l = true) {x : Tn} {i : Nat} (hx : l[i]? = some x) : dp n x.f0 = true := by
  rcases shp l with rfl | ⟨a1, a2, rfl⟩ | ⟨h0, h2⟩
  · simp at hx
  · rw [dp_two, Bool.and_eq_true] at h
    match i, hx with
    | 0, hx => cases hx; exact h.1
    | 1, hx => cases hx; exact h.2
  · rw [dp_odd _ _ h0 h2] at h; cases h
theorem dp_len (n : Nat) (l : List Tn) (h : dp n l = true) : l.length ≤ 2 := by
  rcases shp l with rfl | ⟨a1, a2, rfl⟩ | ⟨h0, h2⟩
  · simp
  · simp
  · rw [dp_odd _ _ h0 h2] at h; cases h
theorem same2 (G : Nat → Option PV) : ∀ (n : Nat) (a b : List Tn), dp n a = true → dp n b = true → PF Tryz.prog G 83 [pt a, pt b] (.p (pb (teq n a b))) := by
  intro n
  induction n with
  | zero => intro a b h; simp [dp] at h
  | succ n ih =>
    intro a b ha hb
    have la := dp_len _ _ ha
    refine ⟨(by first | exact .p | exact .tp (fun x hx => by simp at hx; rcases hx with rfl | rfl <;> exact .p) | exact .tp (fun x hx => by simp at hx; rcases hx with rfl | rfl | rfl <;> exact .p)), bdy Tryz.func83 (fun _ => 0) rfl ?_⟩
    refine rn T 99 [] ?_
    refine rn T 99 [] ?_
    by_cases hl : a.length = b.length
    · rw [teq_zip n a b ha hb hl]
      refine cfq rfl (by simp [hl]) ?_
      refine rn T 99 [] ?_
      refine lpw (fun i : Nat => MS.mk [(16, .p (pi i)), (15, .p (pi (a.map eT).length)), (2, .ptr (.L 2) 0), (3, .ptr (.L 3) 0)] 32 [(3, .box 56 [.p (.row 1 (b.map eT))]), (2, .box 56 [.p (.row 1 (a.map eT))])] []) (fun m i => m + i = a.length ∧ ((a.drop i).zip (b.drop i)).all (fun p => teq n p.1.f0 p.2.f0) = (a.zip b).all (fun p => teq n p.1.f0 p.2.f0)) (a.length) (0) (by simp) ?_
      intro m i ⟨h1, h2⟩
      refine op ?_
      refine rn T 99 [] ?_
      by_cases hi : i < a.length
      · obtain ⟨x, hx, hd⟩ := drop_ix hi
        obtain ⟨y, hy, hd'⟩ := drop_ix (l := b) (i := i) (by omega)
        rw [hd, hd', List.zip_cons_cons, List.all_cons] at h2
        refine ctq rfl (by simp [hi]) ?_
        refine rn T 99 [] ?_; try (first | refine dr3 ?_ | refine dr4 ?_)
        refine rn T 99 [pt x.f0, pt y.f0] ?_
        have hc := ih x.f0 y.f0 (dp_mem n a ha hx) (dp_mem n b hb hy)
        revert hc h2
        simp only
        cases teq n x.f0 y.f0 with
        | false =>
          intro h2 hc
          refine pcs (hc) ?_
          refine rn T 99 [] ?_
          refine cts ?_
          refine rn T 99 [] ?_
          rw [← h2]
          exact ⟨[_], ⟨_, _, rfl, .inl rfl, rfl⟩, .p, rfl⟩
        | true =>
          intro h2 hc
          refine pcs (hc) ?_
          refine rn T 99 [] ?_
          refine cfs ?_
          refine rn T 99 [] ?_
          rw [wkS (by omega)]
          refine nxt (m - 1) (i + 1) (⟨by omega, by simpa using h2⟩)
      · refine cfq rfl (by simp [hi]) ?_
        refine rn T 99 [] ?_
        rw [← h2, show a.drop i = [] from List.drop_eq_nil_of_le (by omega)]
        exact ⟨[_], ⟨_, _, rfl, .inl rfl, rfl⟩, .p, rfl⟩
    · rw [teq_len _ _ _ hl]
      refine ctq rfl (by simp; omega) ?_
      refine rn T 99 [] ?_
      exact ⟨[_], ⟨_, _, rfl, .inl rfl, rfl⟩, .p, rfl⟩
theorem l6In (G : Nat → Option PV) (n a b : Int) : PF Tryz.prog G 55 [pi n, pi a, pi b] (.p (pb (decide (n ≥ a) && decide (n ≤ b)))) := by
  refine ⟨(by first | exact .p | exact .tp (fun x hx => by simp at hx; rcases hx with rfl | rfl <;> exact .p) | exact .tp (fun x hx => by simp at hx; rcases hx with rfl | rfl | rfl <;> exact .p)), bdy Tryz.func55 (fun _ => 0) rfl ?_⟩
  refine rn T 99 [] ?_
  cases h : decide (n ≥ a) with
  | true =>
    refine rn T 4 [] ?_
    rw [h]
    refine rn T 99 [] ?_
    exact ⟨[_], ⟨_, _, rfl, .inl rfl, rfl⟩, .p, rfl⟩
  | false =>
    refine rn T 4 [] ?_
    rw [h]
    refine rn T 99 [] ?_
    exact ⟨[_], ⟨_, _, rfl, .inl rfl, rfl⟩, .p, rfl⟩
end Go.Proofs.YtglkkbgflnpjeaaGreatDoor.K
end
section
namespace Go.Proofs.YtglkkbgflnpjeaaGreatDoor.K
open Go Go.RowKit Go.Proofs.YtglkkbgflnpjeaaGreatDoor.En Go.Proofs.YtglkkbgflnpjeaaGreatDoor.Ty Go.Proofs.YtglkkbgflnpjeaaGreatDoor.B
set_option maxRecDepth 100000
set_option linter.unusedSimpArgs false
set_option linter.unusedVariables false
set_option pp.deepTerms false
set_option pp.deepTerms.threshold 8
set_option pp.maxSteps 1000
theorem take_eT {l : List Tn} {i : Nat} {x : Tn} (h : l[i]? = some x) : (l.take i).map eT ++ [pt x.f0] = (l.take (i + 1)).map eT := by
  rw [List.take_add_one, h, List.map_append]
  simp [eT_eq]
end Go.Proofs.YtglkkbgflnpjeaaGreatDoor.K
end
section

end
section
namespace Go.Proofs.YtglkkbgflnpjeaaGreatDoor.K
open Go Go.RowKit Go.Proofs.YtglkkbgflnpjeaaGreatDoor.En Go.Proofs.YtglkkbgflnpjeaaGreatDoor.Ty Go.Proofs.YtglkkbgflnpjeaaGreatDoor.B
set_option maxRecDepth 100000
set_option linter.unusedSimpArgs false
set_option linter.unusedVariables false
set_option pp.deepTerms false
set_option pp.deepTerms.threshold 8
set_option pp.maxSteps 1000
end Go.Proofs.YtglkkbgflnpjeaaGreatDoor.K
end
section
namespace Go.Proofs.YtglkkbgflnpjeaaGreatDoor.K
open Go Go.RowKit Go.Proofs.YtglkkbgflnpjeaaGreatDoor.En Go.Proofs.YtglkkbgflnpjeaaGreatDoor.Ty Go.Proofs.YtglkkbgflnpjeaaGreatDoor.B
set_option maxRecDepth 100000
set_option linter.unusedSimpArgs false
set_option linter.unusedVariables false
set_option pp.deepTerms false
set_option pp.deepTerms.threshold 8
set_option pp.maxSteps 1000
def chB (c : Nat) : Bool := decide ((97 ≤ c ∧ c ≤ 122) ∨ (65 ≤ c ∧ c ≤ 90) ∨ (48 ≤ c ∧ c ≤ 57) ∨ c = 95)
def chs (l : List UInt8) : Bool := l.all (fun b => chB b.toNat)
def pw (s : ByteArray) : Bool := decide (1 ≤ s.size) && decide (s.size ≤ 12) && chs s.data.toList
theorem byte_ix {s : ByteArray} {i : Nat} (h : i < s.size) : ∃ b, s.data.getD i 0 = b ∧ s.data.toList.drop i = b :: s.data.toList.drop (i + 1) := by
  refine ⟨s.data.getD i 0, rfl, ?_⟩
  have h' : i < s.data.toList.length := by simpa using h
  rw [List.drop_eq_getElem_cons h']
  congr 1
  have h2 : i < s.data.size := h
  simp only [Array.getD, h2, dif_pos, Array.getElem_toList]
  rfl
theorem word1 (G : Nat → Option PV) (s : ByteArray) : PF Tryz.prog G 37 [ps s] (.p (pb (pw s))) := by
  refine ⟨(by first | exact .p | exact .tp (fun x hx => by simp at hx; rcases hx with rfl | rfl <;> exact .p) | exact .tp (fun x hx => by simp at hx; rcases hx with rfl | rfl | rfl <;> exact .p)), bdy Tryz.func37 (fun _ => 0) rfl ?_⟩
  refine rn T 99 [] ?_
  unfold pw
  by_cases h1 : 1 ≤ s.size
  · by_cases h2 : s.size ≤ 12
    · rw [decide_eq_true h1, decide_eq_true h2, Bool.true_and, Bool.true_and]
      refine rn T 3 [] ?_
      rw [show decide ((s.size : Int) < 1) = false by simp; omega]
      refine rn T 99 [] ?_
      refine cfq rfl (by simp; omega) ?_
      refine rn T 99 [] ?_
      refine lpw (fun i : Nat => MS.mk [(3, .p (pi i)), (0, .p (ps s))] 48 [] []) (fun m i => m + i = s.size ∧ chs (s.data.toList.drop i) = chs s.data.toList) (s.size) (0) (by simp) ?_
      intro m i ⟨h3, h4⟩
      refine op ?_
      refine rn T 99 [] ?_
      by_cases hi : i < s.size
      · obtain ⟨b, hb, hd⟩ := byte_ix hi
        rw [hd, chs, List.all_cons] at h4
        refine ctq rfl (by simp [hi]) ?_
        refine rn T 99 [] ?_
        show EOps _ _ _ _ _ (MS.st _ _ (MS.mk ((4, .p (.c (.int .u8 ((s.data.getD i 0).toNat : Int)))) :: _) _ _ _)) _
        rw [hb]
        obtain ⟨c, hcc⟩ : ∃ c : Int, (b.toNat : Int) = c := ⟨_, rfl⟩
        rw [hcc]
        by_cases hc : chB b.toNat = true
        · have hc2 : (97 ≤ b.toNat ∧ b.toNat ≤ 122) ∨ (65 ≤ b.toNat ∧ b.toNat ≤ 90) ∨ (48 ≤ b.toNat ∧ b.toNat ≤ 57) ∨ b.toNat = 95 := of_decide_eq_true hc
          repeat' (first | (with_reducible refine n16 ?_) | (with_reducible refine EOps.ci ?_; first | refine EOps.one T [] rfl (by first | exact True.intro | exact ⟨True.intro, True.intro⟩) ?_ | (refine EOps.sp rfl ?_ ?_ <;> intro hc_ <;> rw [hc_] <;> first | replace hc_ := of_decide_eq_true hc_ | replace hc_ := of_decide_eq_false hc_ | replace hc_ := of_decide_eq_false (Eq.mp (Bool.not_eq_true' _) hc_) | replace hc_ := of_decide_eq_true (Eq.mp (Bool.not_eq_false' _) hc_) | skip)))
          all_goals (refine cfq rfl (by first | rfl | (exfalso; omega) | (simp; omega)) ?_)
          all_goals (refine rn T 99 [] ?_)
          all_goals (rw [wkS (by omega)])
          all_goals (refine nxt (m - 1) (i + 1) (⟨by omega, by rw [← h4, hc]; rfl⟩))
        · have hc' : chB b.toNat = false := by simpa using hc
          have hc2 : ¬ ((97 ≤ b.toNat ∧ b.toNat ≤ 122) ∨ (65 ≤ b.toNat ∧ b.toNat ≤ 90) ∨ (48 ≤ b.toNat ∧ b.toNat ≤ 57) ∨ b.toNat = 95) := of_decide_eq_false hc'
          rw [← h4, hc', Bool.false_and]
          repeat' (first | (with_reducible refine n16 ?_) | (with_reducible refine EOps.ci ?_; first | refine EOps.one T [] rfl (by first | exact True.intro | exact ⟨True.intro, True.intro⟩) ?_ | (refine EOps.sp rfl ?_ ?_ <;> intro hc_ <;> rw [hc_] <;> first | replace hc_ := of_decide_eq_true hc_ | replace hc_ := of_decide_eq_false hc_ | replace hc_ := of_decide_eq_false (Eq.mp (Bool.not_eq_true' _) hc_) | replace hc_ := of_decide_eq_true (Eq.mp (Bool.not_eq_false' _) hc_) | skip)))
          all_goals (refine ctq rfl (by first | rfl | (exfalso; omega) | (simp; omega)) ?_)
          all_goals (refine rn T 99 [] ?_)
          all_goals (exact ⟨[_], ⟨_, _, rfl, .inl rfl, rfl⟩, .p, rfl⟩)
      · refine cfq rfl (by simp [hi]) ?_
        refine rn T 99 [] ?_
        rw [← h4, List.drop_eq_nil_of_le (by simp; omega)]
        exact ⟨[_], ⟨_, _, rfl, .inl rfl, rfl⟩, .p, rfl⟩
    · rw [decide_eq_false h2, Bool.and_false, Bool.false_and]
      refine rn T 3 [] ?_
      rw [show decide ((s.size : Int) < 1) = false by simp; omega]
      refine rn T 99 [] ?_
      refine ctq rfl (by simp; omega) ?_
      refine rn T 99 [] ?_
      exact ⟨[_], ⟨_, _, rfl, .inl rfl, rfl⟩, .p, rfl⟩
  · rw [decide_eq_false h1, Bool.false_and, Bool.false_and]
    refine rn T 3 [] ?_
    rw [show decide ((s.size : Int) < 1) = true by simp; omega]
    refine rn T 99 [] ?_
    refine cts ?_
    refine rn T 99 [] ?_
    exact ⟨[_], ⟨_, _, rfl, .inl rfl, rfl⟩, .p, rfl⟩
end Go.Proofs.YtglkkbgflnpjeaaGreatDoor.K
end
section
namespace Go.Proofs.YtglkkbgflnpjeaaGreatDoor.K
open Go Go.RowKit Go.Proofs.YtglkkbgflnpjeaaGreatDoor.En Go.Proofs.YtglkkbgflnpjeaaGreatDoor.Ty Go.Proofs.YtglkkbgflnpjeaaGreatDoor.B
set_option maxRecDepth 100000
set_option linter.unusedSimpArgs false
set_option linter.unusedVariables false
set_option pp.deepTerms false
set_option pp.deepTerms.threshold 8
set_option pp.maxSteps 1000
theorem word2 (G : Nat → Option PV) (s : ByteArray) : PF Tryz.prog G 29 [ps s] (.p (pb (pw s))) := by
  refine ⟨(by first | exact .p | exact .tp (fun x hx => by simp at hx; rcases hx with rfl | rfl <;> exact .p) | exact .tp (fun x hx => by simp at hx; rcases hx with rfl | rfl | rfl <;> exact .p)), bdy Tryz.func29 (fun _ => 0) rfl ?_⟩
  refine rn T 99 [] ?_
  unfold pw
  by_cases h1 : 1 ≤ s.size
  · by_cases h2 : s.size ≤ 12
    · rw [decide_eq_true h1, decide_eq_true h2, Bool.true_and, Bool.true_and]
      refine rn T 3 [] ?_
      rw [show decide ((s.size : Int) < 1) = false by simp; omega]
      refine rn T 99 [] ?_
      refine cfq rfl (by simp; omega) ?_
      refine rn T 99 [] ?_
      refine lpw (fun i : Nat => MS.mk [(16, .p (pi i)), (15, .p (pi s.size)), (0, .p (ps s))] 51 [] []) (fun m i => m + i = s.size ∧ chs (s.data.toList.drop i) = chs s.data.toList) (s.size) (0) (by simp) ?_
      intro m i ⟨h3, h4⟩
      refine op ?_
      refine rn T 99 [] ?_
      by_cases hi : i < s.size
      · obtain ⟨b, hb, hd⟩ := byte_ix hi
        rw [hd, chs, List.all_cons] at h4
        refine ctq rfl (by simp [hi]) ?_
        refine rn T 99 [] ?_
        refine rn T 99 [] ?_
        show EOps _ _ _ _ _ (MS.st _ _ (MS.mk ((4, .p (.c (.int .u8 ((s.data.getD i 0).toNat : Int)))) :: _) _ _ _)) _
        rw [hb]
        obtain ⟨c, hcc⟩ : ∃ c : Int, (b.toNat : Int) = c := ⟨_, rfl⟩
        rw [hcc]
        by_cases hc : chB b.toNat = true
        · have hc2 : (97 ≤ b.toNat ∧ b.toNat ≤ 122) ∨ (65 ≤ b.toNat ∧ b.toNat ≤ 90) ∨ (48 ≤ b.toNat ∧ b.toNat ≤ 57) ∨ b.toNat = 95 := of_decide_eq_true hc
          repeat' (first | (with_reducible refine n16 ?_) | (with_reducible refine EOps.ci ?_; first | refine EOps.one T [] rfl (by first | exact True.intro | exact ⟨True.intro, True.intro⟩) ?_ | (refine EOps.sp rfl ?_ ?_ <;> intro hc_ <;> rw [hc_] <;> first | replace hc_ := of_decide_eq_true hc_ | replace hc_ := of_decide_eq_false hc_ | replace hc_ := of_decide_eq_false (Eq.mp (Bool.not_eq_true' _) hc_) | replace hc_ := of_decide_eq_true (Eq.mp (Bool.not_eq_false' _) hc_) | skip)))
          all_goals (refine op ?_)
          all_goals (repeat' (first | (with_reducible refine n16 ?_) | (with_reducible refine EOps.ci ?_; first | refine EOps.one T [] rfl (by first | exact True.intro | exact ⟨True.intro, True.intro⟩) ?_ | (refine EOps.sp rfl ?_ ?_ <;> intro hc_ <;> rw [hc_] <;> first | replace hc_ := of_decide_eq_true hc_ | replace hc_ := of_decide_eq_false hc_ | replace hc_ := of_decide_eq_false (Eq.mp (Bool.not_eq_true' _) hc_) | replace hc_ := of_decide_eq_true (Eq.mp (Bool.not_eq_false' _) hc_) | skip))))
          all_goals (refine cfq rfl (by first | rfl | (exfalso; omega) | (simp; omega)) ?_)
          all_goals (refine rn T 99 [] ?_)
          all_goals (rw [wkS (by omega)])
          all_goals (refine nxt (m - 1) (i + 1) (⟨by omega, by rw [← h4, hc]; rfl⟩))
        · have hc' : chB b.toNat = false := by simpa using hc
          have hc2 : ¬ ((97 ≤ b.toNat ∧ b.toNat ≤ 122) ∨ (65 ≤ b.toNat ∧ b.toNat ≤ 90) ∨ (48 ≤ b.toNat ∧ b.toNat ≤ 57) ∨ b.toNat = 95) := of_decide_eq_false hc'
          rw [← h4, hc', Bool.false_and]
          repeat' (first | (with_reducible refine n16 ?_) | (with_reducible refine EOps.ci ?_; first | refine EOps.one T [] rfl (by first | exact True.intro | exact ⟨True.intro, True.intro⟩) ?_ | (refine EOps.sp rfl ?_ ?_ <;> intro hc_ <;> rw [hc_] <;> first | replace hc_ := of_decide_eq_true hc_ | replace hc_ := of_decide_eq_false hc_ | replace hc_ := of_decide_eq_false (Eq.mp (Bool.not_eq_true' _) hc_) | replace hc_ := of_decide_eq_true (Eq.mp (Bool.not_eq_false' _) hc_) | skip)))
          all_goals (refine op ?_)
          all_goals (repeat' (first | (with_reducible refine n16 ?_) | (with_reducible refine EOps.ci ?_; first | refine EOps.one T [] rfl (by first | exact True.intro | exact ⟨True.intro, True.intro⟩) ?_ | (refine EOps.sp rfl ?_ ?_ <;> intro hc_ <;> rw [hc_] <;> first | replace hc_ := of_decide_eq_true hc_ | replace hc_ := of_decide_eq_false hc_ | replace hc_ := of_decide_eq_false (Eq.mp (Bool.not_eq_true' _) hc_) | replace hc_ := of_decide_eq_true (Eq.mp (Bool.not_eq_false' _) hc_) | skip))))
          all_goals (refine ctq rfl (by first | rfl | (exfalso; omega) | (simp; omega)) ?_)
          all_goals (refine rn T 99 [] ?_)
          all_goals (exact ⟨[_], ⟨_, _, rfl, .inl rfl, rfl⟩, .p, rfl⟩)
      · refine cfq rfl (by simp [hi]) ?_
        refine rn T 99 [] ?_
        rw [← h4, List.drop_eq_nil_of_le (by simp; omega)]
        exact ⟨[_], ⟨_, _, rfl, .inl rfl, rfl⟩, .p, rfl⟩
    · rw [decide_eq_false h2, Bool.and_false, Bool.false_and]
      refine rn T 3 [] ?_
      rw [show decide ((s.size : Int) < 1) = false by simp; omega]
      refine rn T 99 [] ?_
      refine ctq rfl (by simp; omega) ?_
      refine rn T 99 [] ?_
      exact ⟨[_], ⟨_, _, rfl, .inl rfl, rfl⟩, .p, rfl⟩
  · rw [decide_eq_false h1, Bool.false_and, Bool.false_and]
    refine rn T 3 [] ?_
    rw [show decide ((s.size : Int) < 1) = true by simp; omega]
    refine rn T 99 [] ?_
    refine cts ?_
    refine rn T 99 [] ?_
    exact ⟨[_], ⟨_, _, rfl, .inl rfl, rfl⟩, .p, rfl⟩
theorem bq_eq {a b : ByteArray} : (a == b) = true ↔ a = b := by
  rw [show (a == b) = (a.data == b.data) from rfl, beq_iff_eq]
  cases a; cases b; simp
theorem bq_symm (a b : ByteArray) : (a == b) = (b == a) := by
  rw [Bool.eq_iff_iff, bq_eq, bq_eq]
  exact ⟨Eq.symm, Eq.symm⟩
def ixF (v : ByteArray) : List ByteArray → Nat → Int
  | [], _ => -1
  | x :: r, i => if (v == x) = true then i else ixF v r (i + 1)
def hasS (l : List ByteArray) (v : ByteArray) : Bool := l.any (fun x => v == x)
theorem ixF_has (v : ByteArray) : ∀ (l : List ByteArray) (i : Nat), decide (ixF v l i ≥ 0) = hasS l v
  | [], i => rfl
  | x :: r, i => by
    unfold ixF hasS
    rw [List.any_cons]
    cases h : (v == x) with
    | true => simp
    | false => rw [if_neg (by simp), Bool.false_or]; exact ixF_has v r (i + 1)
theorem index2 (G : Nat → Option PV) (l : List ByteArray) (v : ByteArray) (hl : l.length ≤ 1000) : PF Tryz.prog G 68 [.row 1 (l.map ps), ps v] (.p (pi (ixF v l 0))) := by
  refine ⟨(by first | exact .p | exact .tp (fun x hx => by simp at hx; rcases hx with rfl | rfl <;> exact .p) | exact .tp (fun x hx => by simp at hx; rcases hx with rfl | rfl | rfl <;> exact .p)), bdy Tryz.func68 (fun _ => 0) rfl ?_⟩
  refine rn T 99 [] ?_
  refine rn T 99 [] ?_
  refine lpw (fun i : Nat => MS.mk [(8, .p (pi i)), (7, .p (pi (l.map ps).length)), (0, .p (.row 1 (l.map ps))), (1, .p (ps v))] 19 [] []) (fun m i => m + i = l.length ∧ ixF v (l.drop i) i = ixF v l 0) (l.length) (0) (by simp) ?_
  intro m i ⟨h1, h2⟩
  refine op ?_
  refine rn T 99 [] ?_
  by_cases hi : i < l.length
  · obtain ⟨x, hx, hd⟩ := drop_ix hi
    rw [hd, ixF] at h2
    refine ctq rfl (by simp [hi]) ?_
    refine rn T 99 [] ?_
    refine rn T 99 [ps x] ?_
    cases hv : (v == x) with
    | true =>
      rw [hv, if_pos rfl] at h2
      refine cts ?_
      refine rn T 99 [] ?_
      rw [← h2]
      exact ⟨[_], ⟨_, _, rfl, .inl rfl, rfl⟩, .p, rfl⟩
    | false =>
      rw [hv, if_neg (by simp)] at h2
      refine cfs ?_
      refine rn T 99 [] ?_
      rw [wkS (by omega)]
      refine nxt (m - 1) (i + 1) (⟨by omega, h2⟩)
  · refine cfq rfl (by simp [hi]) ?_
    refine rn T 99 [] ?_
    rw [List.drop_eq_nil_of_le (by omega)] at h2
    rw [← h2]
    exact ⟨[_], ⟨_, _, rfl, .inl rfl, rfl⟩, .p, rfl⟩
theorem contains2 (G : Nat → Option PV) (l : List ByteArray) (v : ByteArray) (hl : l.length ≤ 1000) : PF Tryz.prog G 58 [.row 1 (l.map ps), ps v] (.p (pb (hasS l v))) := by
  refine ⟨(by first | exact .p | exact .tp (fun x hx => by simp at hx; rcases hx with rfl | rfl <;> exact .p) | exact .tp (fun x hx => by simp at hx; rcases hx with rfl | rfl | rfl <;> exact .p)), bdy Tryz.func58 (fun _ => 0) rfl ?_⟩
  refine rn T 99 [] ?_
  refine rn T 99 [] ?_
  refine pcs (index2 G l v hl) ?_
  refine rn T 99 [] ?_
  rw [← ixF_has v l 0]
  exact ⟨[_], ⟨_, _, rfl, .inl rfl, rfl⟩, .p, rfl⟩
theorem has1 (G : Nat → Option PV) (l : List ByteArray) (v : ByteArray) (hl : l.length ≤ 1000) : PF Tryz.prog G 56 [.row 1 (l.map ps), ps v] (.p (pb (hasS l v))) := by
  refine ⟨(by first | exact .p | exact .tp (fun x hx => by simp at hx; rcases hx with rfl | rfl <;> exact .p) | exact .tp (fun x hx => by simp at hx; rcases hx with rfl | rfl | rfl <;> exact .p)), bdy Tryz.func56 (fun _ => 0) rfl ?_⟩
  refine rn T 99 [] ?_
  refine rn T 99 [] ?_
  refine lpw (fun i : Nat => MS.mk [(5, .p (pi i)), (0, .p (.row 1 (l.map ps))), (1, .p (ps v))] 18 [] []) (fun m i => m + i = l.length ∧ hasS (l.drop i) v = hasS l v) (l.length) (0) (by simp) ?_
  intro m i ⟨h1, h2⟩
  refine op ?_
  refine rn T 99 [] ?_
  by_cases hi : i < l.length
  · obtain ⟨x, hx, hd⟩ := drop_ix hi
    rw [hd, hasS, List.any_cons] at h2
    refine ctq rfl (by simp [hi]) ?_
    refine rn T 99 [ps x] ?_
    rw [bq_symm x v]
    cases hv : (v == x) with
    | true =>
      rw [hv, Bool.true_or] at h2
      refine cts ?_
      refine rn T 99 [] ?_
      rw [← h2]
      exact ⟨[_], ⟨_, _, rfl, .inl rfl, rfl⟩, .p, rfl⟩
    | false =>
      rw [hv, Bool.false_or] at h2
      refine cfs ?_
      refine rn T 99 [] ?_
      rw [wkS (by omega)]
      refine nxt (m - 1) (i + 1) (⟨by omega, h2⟩)
  · refine cfq rfl (by simp [hi]) ?_
    refine rn T 99 [] ?_
    rw [List.drop_eq_nil_of_le (by omega)] at h2
    rw [← h2]
    exact ⟨[_], ⟨_, _, rfl, .inl rfl, rfl⟩, .p, rfl⟩
end Go.Proofs.YtglkkbgflnpjeaaGreatDoor.K
end
section
namespace Go.Proofs.YtglkkbgflnpjeaaGreatDoor.K
open Go Go.RowKit Go.Proofs.YtglkkbgflnpjeaaGreatDoor.En Go.Proofs.YtglkkbgflnpjeaaGreatDoor.Ty Go.Proofs.YtglkkbgflnpjeaaGreatDoor.B
set_option maxRecDepth 100000
set_option linter.unusedSimpArgs false
set_option linter.unusedVariables false
set_option pp.deepTerms false
set_option pp.deepTerms.threshold 8
set_option pp.maxSteps 1000
def nsF (pre : List ByteArray) : List ByteArray → Bool
  | [] => true
  | x :: r => (pw x && !hasS pre x) && nsF (pre ++ [x]) r
def nsB (l : List ByteArray) : Bool := decide (l.length ≤ 60) && nsF [] l
theorem take_app {α : Type} {l : List α} {i : Nat} {x : α} (h : l[i]? = some x) : l.take i ++ [x] = l.take (i + 1) := by
  rw [List.take_add_one, h]; rfl
theorem names2 (G : Nat → Option PV) (l : List ByteArray) : PF Tryz.prog G 43 [.row 1 (l.map ps)] (.p (pb (nsB l))) := by
  refine ⟨(by first | exact .p | exact .tp (fun x hx => by simp at hx; rcases hx with rfl | rfl <;> exact .p) | exact .tp (fun x hx => by simp at hx; rcases hx with rfl | rfl | rfl <;> exact .p)), bdy Tryz.func43 (fun _ => 0) rfl ?_⟩
  refine rn T 99 [] ?_
  refine rn T 99 [] ?_
  unfold nsB
  by_cases hl : l.length ≤ 60
  · rw [decide_eq_true hl, Bool.true_and]
    refine cfq rfl (by simp; omega) ?_
    refine rn T 99 [] ?_
    refine lpw (fun i : Nat => MS.mk [(10, .p (pi i)), (9, .p (pi (l.map ps).length)), (8, .p (.row 1 (l.map ps))), (0, .p (.row 1 (l.map ps)))] 26 [] []) (fun m i => m + i = l.length ∧ nsF (l.take i) (l.drop i) = nsF [] l) (l.length) (0) (by simp) ?_
    intro m i ⟨h1, h2⟩
    refine op ?_
    refine rn T 99 [] ?_
    by_cases hi : i < l.length
    · obtain ⟨x, hx, hd⟩ := drop_ix hi
      rw [hd, nsF] at h2
      refine ctq rfl (by simp [hi]) ?_
      refine rn T 99 [ps x] ?_
      have hw := word2 G x
      have hh := contains2 G (l.take i) x (by simp; omega)
      refine rn T 1 [] ?_
      revert hw hh h2
      cases pw x with
      | false =>
        intro h2 hw hh
        refine pcs (hw) ?_
        refine rn T 99 [] ?_
        refine cts ?_
        refine rn T 99 [] ?_
        rw [← h2]
        exact ⟨[_], ⟨_, _, rfl, .inl rfl, rfl⟩, .p, rfl⟩
      | true =>
        cases hasS (l.take i) x with
        | true =>
          intro h2 hw hh
          refine pcs (hw) ?_
          refine rn T 99 [] ?_
          refine pqs (hh) ?_
          refine rn T 99 [] ?_
          refine cts ?_
          refine rn T 99 [] ?_
          rw [← h2]
          exact ⟨[_], ⟨_, _, rfl, .inl rfl, rfl⟩, .p, rfl⟩
        | false =>
          intro h2 hw hh
          rw [take_app hx] at h2
          refine pcs (hw) ?_
          refine rn T 99 [] ?_
          refine pqs (hh) ?_
          refine rn T 99 [] ?_
          refine cfs ?_
          refine rn T 99 [] ?_
          rw [wkS (by omega)]
          refine nxt (m - 1) (i + 1) (⟨by omega, by simpa using h2⟩)
    · refine cfq rfl (by simp [hi]) ?_
      refine rn T 99 [] ?_
      rw [List.drop_eq_nil_of_le (by omega)] at h2
      rw [← h2]
      exact ⟨[_], ⟨_, _, rfl, .inl rfl, rfl⟩, .p, rfl⟩
  · rw [decide_eq_false hl, Bool.false_and]
    refine ctq rfl (by simp; omega) ?_
    refine rn T 99 [] ?_
    exact ⟨[_], ⟨_, _, rfl, .inl rfl, rfl⟩, .p, rfl⟩
def bitB (x : Int) : Bool := decide (0 ≤ x ∧ x ≤ 1)
def pathB (p : List Int) : Bool := decide (p.length ≤ 4) && p.all bitB
theorem path2 (G : Nat → Option PV) (p : List Int) : PF Tryz.prog G 30 [.row 1 (p.map pi)] (.p (pb (pathB p))) := by
  refine ⟨(by first | exact .p | exact .tp (fun x hx => by simp at hx; rcases hx with rfl | rfl <;> exact .p) | exact .tp (fun x hx => by simp at hx; rcases hx with rfl | rfl | rfl <;> exact .p)), bdy Tryz.func30 (fun _ => 0) rfl ?_⟩
  refine rn T 99 [] ?_
  refine rn T 99 [] ?_
  unfold pathB
  by_cases hl : p.length ≤ 4
  · rw [decide_eq_true hl, Bool.true_and]
    refine cfq rfl (by simp; omega) ?_
    refine rn T 99 [] ?_
    refine lpw (fun i : Nat => MS.mk [(10, .p (pi i)), (9, .p (pi (p.map pi).length)), (8, .p (.row 1 (p.map pi)))] 21 [] []) (fun m i => m + i = p.length ∧ (p.drop i).all bitB = p.all bitB) (p.length) (0) (by simp) ?_
    intro m i ⟨h1, h2⟩
    refine op ?_
    refine rn T 99 [] ?_
    by_cases hi : i < p.length
    · obtain ⟨x, hx, hd⟩ := drop_ix hi
      rw [hd, List.all_cons] at h2
      refine ctq rfl (by simp [hi]) ?_
      refine rn T 99 [pi x] ?_
      by_cases hb : 0 ≤ x ∧ x ≤ 1
      · rw [show bitB x = true from decide_eq_true hb, Bool.true_and] at h2
        repeat' (first | (with_reducible refine n16 ?_) | (with_reducible refine EOps.ci ?_; first | refine EOps.one T [] rfl (by first | exact True.intro | exact ⟨True.intro, True.intro⟩) ?_ | (refine EOps.sp rfl ?_ ?_ <;> intro hc_ <;> rw [hc_] <;> first | replace hc_ := of_decide_eq_true hc_ | replace hc_ := of_decide_eq_false hc_ | replace hc_ := of_decide_eq_false (Eq.mp (Bool.not_eq_true' _) hc_) | replace hc_ := of_decide_eq_true (Eq.mp (Bool.not_eq_false' _) hc_) | skip)))
        all_goals (refine cfq rfl (by first | rfl | (exfalso; omega) | (simp; omega)) ?_)
        all_goals (refine rn T 99 [] ?_)
        all_goals (rw [wkS (by omega)])
        all_goals (refine nxt (m - 1) (i + 1) (⟨by omega, h2⟩))
      · rw [show bitB x = false from decide_eq_false hb, Bool.false_and] at h2
        rw [← h2]
        repeat' (first | (with_reducible refine n16 ?_) | (with_reducible refine EOps.ci ?_; first | refine EOps.one T [] rfl (by first | exact True.intro | exact ⟨True.intro, True.intro⟩) ?_ | (refine EOps.sp rfl ?_ ?_ <;> intro hc_ <;> rw [hc_] <;> first | replace hc_ := of_decide_eq_true hc_ | replace hc_ := of_decide_eq_false hc_ | replace hc_ := of_decide_eq_false (Eq.mp (Bool.not_eq_true' _) hc_) | replace hc_ := of_decide_eq_true (Eq.mp (Bool.not_eq_false' _) hc_) | skip)))
        all_goals (refine ctq rfl (by first | rfl | (exfalso; omega) | (simp; omega)) ?_)
        all_goals (refine rn T 99 [] ?_)
        all_goals (exact ⟨[_], ⟨_, _, rfl, .inl rfl, rfl⟩, .p, rfl⟩)
    · refine cfq rfl (by simp [hi]) ?_
      refine rn T 99 [] ?_
      rw [List.drop_eq_nil_of_le (by omega)] at h2
      rw [← h2]
      exact ⟨[_], ⟨_, _, rfl, .inl rfl, rfl⟩, .p, rfl⟩
  · rw [decide_eq_false hl, Bool.false_and]
    refine ctq rfl (by simp; omega) ?_
    refine rn T 99 [] ?_
    exact ⟨[_], ⟨_, _, rfl, .inl rfl, rfl⟩, .p, rfl⟩
end Go.Proofs.YtglkkbgflnpjeaaGreatDoor.K
end
section
namespace Go.Proofs.YtglkkbgflnpjeaaGreatDoor.K
open Go Go.RowKit Go.Proofs.YtglkkbgflnpjeaaGreatDoor.En Go.Proofs.YtglkkbgflnpjeaaGreatDoor.Ty Go.Proofs.YtglkkbgflnpjeaaGreatDoor.B
set_option maxRecDepth 100000
set_option linter.unusedSimpArgs false
set_option linter.unusedVariables false
set_option pp.deepTerms false
set_option pp.deepTerms.threshold 8
set_option pp.maxSteps 1000
def Bytes (s : List Int) : Prop := s.length ≤ 2000 ∧ ∀ x ∈ s, 0 ≤ x ∧ x ≤ 255
theorem xor_nonneg (a b : Nat) (ha : a < 2 ^ 62) (hb : b < 2 ^ 62) : 0 ≤ Go.bits .xor .i64 a b := by
  have hp : (2 : Nat) ^ 62 ≤ 2 ^ IntKind.i64.bits := Nat.pow_le_pow_right (by decide) (by decide)
  have ha' : a % 2 ^ IntKind.i64.bits = a := Nat.mod_eq_of_lt (Nat.lt_of_lt_of_le ha hp)
  have hb' : b % 2 ^ IntKind.i64.bits = b := Nat.mod_eq_of_lt (Nat.lt_of_lt_of_le hb hp)
  simp only [Go.bits, BitVec.ofInt_natCast, BitVec.toNat_xor, BitVec.toNat_ofNat, ha', hb']
  rw [IntKind.wrap_i64]
  have := Nat.xor_lt_two_pow ha hb
  omega
theorem xor_nonneg' (x y : Int) (hx : 0 ≤ x) (hx1 : x < 4611686018427387904) (hy : 0 ≤ y) (hy1 : y < 4611686018427387904) : 0 ≤ Go.bits .xor .i64 x y := by
  obtain ⟨a, rfl⟩ := Int.eq_ofNat_of_zero_le hx
  obtain ⟨b, rfl⟩ := Int.eq_ofNat_of_zero_le hy
  exact xor_nonneg a b (by omega) (by omega)
theorem tmod_range (x n : Int) (hx : 0 ≤ x) (hn : 1 ≤ n) : 0 ≤ Int.tmod x n ∧ Int.tmod x n < n := by
  rw [Int.tmod_eq_emod_of_nonneg hx]
  exact ⟨Int.emod_nonneg _ (by omega), Int.emod_lt_of_pos _ (by omega)⟩
theorem tdiv_range (x n : Int) (hx : 0 ≤ x) (hn : 1 ≤ n) : 0 ≤ Int.tdiv x n ∧ Int.tdiv x n ≤ x := by
  rw [Int.tdiv_eq_ediv_of_nonneg hx]
  exact ⟨Int.ediv_nonneg hx (by omega), Int.ediv_le_self _ hx⟩
abbrev pu (n : Int) : PV := .c (.int .u8 n)
abbrev rdr (s : List Int) (k : Int) : AObj := .box 69 [.p (.row 1 (s.map pu)), .p (pi k)]
theorem mU {l : List Int} {i : Int} {x : Int} (h : l[i.toNat]? = some x) : (l.map pu)[i.toNat]? = some (pu x) := by rw [List.getElem?_map, h, Option.map_some]
theorem at_byte {s : List Int} (h : Bytes s) {i : Int} (h0 : 0 ≤ i) (h1 : i < s.length) : ∃ x, s[i.toNat]? = some x ∧ 0 ≤ x ∧ x ≤ 255 := by
  have hi : i.toNat < s.length := by omega
  exact ⟨s[i.toNat], List.getElem?_eq_getElem hi, h.2 _ (List.getElem_mem hi)⟩
theorem hsh_nil : HSh [] := fun i o h => by simp at h
theorem hsh_rdr {s : List Int} {k : Int} {H : List AObj} (h : HSh H) : HSh (rdr s k :: H) := fun i o ho => by
  cases i with
  | zero =>
    simp only [List.getElem?_cons_zero, Option.some.injEq] at ho
    subst ho
    intro c hc
    simp at hc
    rcases hc with rfl | rfl <;> exact .p
  | succ i => exact h i o (by simpa using ho)
theorem pickC (G : Nat → Option PV) (s : List Int) (hs : Bytes s) (k n : Int) (hk : 0 ≤ k) (hk1 : k ≤ 1099511627776) (hn : 1 ≤ n) (H0 : List AObj) : FC Tryz.prog G 27 [.ptr (.S 0) 0, .p (pi n)] (rdr s k :: H0) (fun r H' => ∃ v, 0 ≤ v ∧ v < n ∧ r = .p (pi v) ∧ H' = rdr s (k + 1) :: H0) := by
  refine bdy Tryz.func27 (fun _ => 0) rfl ?_
  refine rn T 99 [] ?_
  refine rn T 99 [] ?_
  rw [wk (n := k + 1) (by omega) (by omega)]
  refine rn T 2 [] ?_
  rw [show decide (n < 1) = false by simp; omega]
  refine rn T 99 [] ?_
  by_cases h0 : s.length = 0
  · obtain rfl := List.eq_nil_of_length_eq_zero h0
    refine cts ?_
    refine rn T 99 [] ?_
    exact ⟨[_], ⟨_, _, rfl, .inl rfl, rfl⟩, .p, 0, by omega, by omega, rfl, rfl⟩
  · have hl := hs.1
    refine cfq rfl (by simp; intro h; exact h0 (by simp [h])) ?_
    refine rn T 99 [] ?_
    rw [show IntKind.i64.wrap (k + 1 - 1) = k by rw [wk (by omega) (by omega)]; omega]
    refine rn T 99 [] ?_
    by_cases hlt : k < (s.length : Int)
    · obtain ⟨x, hx, hx0, hx1⟩ := at_byte hs hk hlt
      refine ctq rfl (by simp; omega) ?_
      refine rn T 8 [pu x] ?_
      rw [wk (n := x) (by omega) (by omega)]
      refine rn T 99 [] ?_
      have hq := tmod_range x n hx0 hn
      exact ⟨[_], ⟨_, _, rfl, .inl rfl, rfl⟩, .p, _, hq.1, hq.2, rfl, rfl⟩
    · refine cfq rfl (by simp; omega) ?_; try (first | refine dr1 ?_ | refine dr2 ?_ | refine dr3 ?_ | refine dr4 ?_)
      have m1 := tmod_range k (s.length : Int) hk (by omega)
      have m2 := tmod_range (k * 7 + 3) (s.length : Int) (by omega) (by omega)
      have d1 := tdiv_range k (s.length : Int) hk (by omega)
      obtain ⟨a, ha, ha0, ha1⟩ := at_byte hs m1.1 m1.2
      obtain ⟨c, hc, hc0, hc1⟩ := at_byte hs m2.1 m2.2
      have hz : (s.length : Int) ≠ 0 := by omega
      refine rn T 10 [] ?_
      rw [List.length_map]
      refine rn T 2 [pu a] ?_
      refine rn T 15 [] ?_
      rw [List.length_map, wk (n := k * 7) (by omega) (by omega), wk (n := k * 7 + 3) (by omega) (by omega), wk (n := a) (by omega) (by omega), wk (n := a * 131) (by omega) (by omega)]
      refine rn T 2 [pu c] ?_
      refine rn T 13 [] ?_
      rw [List.length_map, wk (n := c) (by omega) (by omega), wk (n := c * 1117) (by omega) (by omega), wk (n := a * 131 + c * 1117) (by omega) (by omega), wk (n := k * 29) (by omega) (by omega), wk (n := a * 131 + c * 1117 + k * 29) (by omega) (by omega)]
      refine rn T 1 [] ?_
      generalize Int.tdiv k (s.length : Int) = d at *
      rw [wk (n := d) (by omega) (by omega)]
      refine rn T 2 [] ?_
      rw [wk (n := d * 53) (by omega) (by omega), wk (n := a * 131 + c * 1117 + k * 29 + d * 53) (by omega) (by omega)]
      generalize hx : a * 131 + c * 1117 + k * 29 + d * 53 = x at *
      have d2 := tdiv_range x 64 (by omega) (by omega)
      refine rn T 99 [] ?_
      refine rn T 3 [] ?_
      rw [wk (n := Int.tdiv x 64) (by omega) (by omega)]
      refine rn T 99 [] ?_
      have hxor := xor_nonneg' x (Int.tdiv x 64) (by omega) (by omega) d2.1 (by omega)
      have hq := tmod_range (Go.bits .xor .i64 x (Int.tdiv x 64)) n hxor hn
      refine rn T 99 [] ?_
      exact ⟨[_], ⟨_, _, rfl, .inl rfl, rfl⟩, .p, _, hq.1, hq.2, rfl, rfl⟩
theorem pick (G : Nat → Option PV) (s : List Int) (hs : Bytes s) (k n : Int) (hk : 0 ≤ k) (hk1 : k ≤ 1099511627776) (hn : 1 ≤ n) {H0 : List AObj} (hH : HSh H0) : FE Tryz.prog G 27 [.ptr (.S 0) 0, .p (pi n)] (rdr s k :: H0) (fun r H' => ∃ v, 0 ≤ v ∧ v < n ∧ r = .p (pi v) ∧ H' = rdr s (k + 1) :: H0) :=
  ⟨pickC G s hs k n hk hk1 hn H0, _, _, ⟨0, by omega, by omega, rfl, rfl⟩, .p, hsh_rdr hH⟩
end Go.Proofs.YtglkkbgflnpjeaaGreatDoor.K
end
section
namespace Go.Proofs.YtglkkbgflnpjeaaGreatDoor.K
open Go Go.RowKit Go.Proofs.YtglkkbgflnpjeaaGreatDoor.En Go.Proofs.YtglkkbgflnpjeaaGreatDoor.Ty Go.Proofs.YtglkkbgflnpjeaaGreatDoor.B
set_option maxRecDepth 100000
set_option linter.unusedSimpArgs false
set_option linter.unusedVariables false
set_option pp.deepTerms false
set_option pp.deepTerms.threshold 8
set_option pp.maxSteps 1000
set_option maxHeartbeats 1000000
def tkH (nm : ByteArray → Bool) (t : Mn) : Bool :=
  if t.f0 = 1 then decide (0 ≤ t.f1 ∧ t.f1 ≤ 9999) && (t.f2 == ⟨#[]⟩) && decide (t.f3.length = 0) && decide (t.f4.length = 0)
  else if t.f0 = 2 then nm t.f2 && decide (t.f1 = 0) && decide (t.f3.length = 0) && decide (t.f4.length = 0)
  else if t.f0 = 3 ∨ t.f0 = 4 ∨ t.f0 = 5 ∨ t.f0 = 6 then decide (t.f1 = 0) && (t.f2 == ⟨#[]⟩) && decide (t.f3.length = 0) && decide (t.f4.length = 2)
  else if t.f0 = 7 then pathB t.f3 && decide (t.f1 = 0) && (t.f2 == ⟨#[]⟩) && decide (t.f4.length = 1)
  else if t.f0 = 8 then pathB t.f3 && decide (t.f1 = 0) && (t.f2 == ⟨#[]⟩) && decide (t.f4.length = 2)
  else false
def tk (nm : ByteArray → Bool) : Nat → Mn → Bool
  | 0, _ => false
  | n + 1, t => tkH nm t && t.f4.all (tk nm n)
theorem tk_eq (nm : ByteArray → Bool) (n : Nat) (k m : Int) (s : ByteArray) (p : List Int) (l : List Mn) : tk nm (n + 1) ⟨k, m, s, p, l⟩ = (tkH nm ⟨k, m, s, p, l⟩ && l.all (tk nm n)) := rfl
theorem tkH_1 (nm : ByteArray → Bool) (m : Int) (s : ByteArray) (p : List Int) (l : List Mn) : tkH nm ⟨1, m, s, p, l⟩ = (decide (0 ≤ m ∧ m ≤ 9999) && (s == ⟨#[]⟩) && decide (p.length = 0) && decide (l.length = 0)) := rfl
theorem tkH_2 (nm : ByteArray → Bool) (m : Int) (s : ByteArray) (p : List Int) (l : List Mn) : tkH nm ⟨2, m, s, p, l⟩ = (nm s && decide (m = 0) && decide (p.length = 0) && decide (l.length = 0)) := rfl
theorem tkH_3 (nm : ByteArray → Bool) (k m : Int) (s : ByteArray) (p : List Int) (l : List Mn) (h : k = 3 ∨ k = 4 ∨ k = 5 ∨ k = 6) : tkH nm ⟨k, m, s, p, l⟩ = (decide (m = 0) && (s == ⟨#[]⟩) && decide (p.length = 0) && decide (l.length = 2)) := by
  rcases h with rfl | rfl | rfl | rfl <;> rfl
theorem tkH_7 (nm : ByteArray → Bool) (m : Int) (s : ByteArray) (p : List Int) (l : List Mn) : tkH nm ⟨7, m, s, p, l⟩ = (pathB p && decide (m = 0) && (s == ⟨#[]⟩) && decide (l.length = 1)) := rfl
theorem tkH_8 (nm : ByteArray → Bool) (m : Int) (s : ByteArray) (p : List Int) (l : List Mn) : tkH nm ⟨8, m, s, p, l⟩ = (pathB p && decide (m = 0) && (s == ⟨#[]⟩) && decide (l.length = 2)) := rfl
theorem tkH_o (nm : ByteArray → Bool) (k m : Int) (s : ByteArray) (p : List Int) (l : List Mn) (h1 : k ≠ 1) (h2 : k ≠ 2) (h3 : ¬ (k = 3 ∨ k = 4 ∨ k = 5 ∨ k = 6)) (h7 : k ≠ 7) (h8 : k ≠ 8) : tkH nm ⟨k, m, s, p, l⟩ = false := by
  unfold tkH
  rw [if_neg (by exact h1), if_neg (by exact h2), if_neg (by exact h3), if_neg (by exact h7), if_neg (by exact h8)]
abbrev RB (b : Bool) (H : List AObj) : TV → List AObj → Prop := fun r H' => r = .p (pb b) ∧ H = H'
theorem RB_ne (b : Bool) {H : List AObj} (hH : HSh H) : ∃ r H', RB b H r H' ∧ r.All Nm.isS ∧ HSh H' := ⟨_, _, ⟨rfl, rfl⟩, .p, hH⟩
theorem RB_of {b c : Bool} {H : List AObj} {r : TV} {H' : List AObj} (h : b = c) (k : RB c H r H') : RB b H r H' := by rw [h]; exact k
theorem termOk2 (G : Nat → Option PV) {H : List AObj} (hH : HSh H) (fid : FuncId) (ci : Nat) (bd : ByteArray → Bool) (hb : ∀ s, FE Tryz.prog G fid (.p (ps s) :: [.ptr (.S ci) 0]) H (RB (bd s) H)) :
    ∀ (n : Nat), n ≤ 1000 → ∀ (t : Mn), FE Tryz.prog G 13 [.p (pm t), .p (pi n), .fn fid [.ptr (.S ci) 0]] H (RB (tk (fun s => pw s && bd s) n t) H) := by
  intro n
  induction n with
  | zero =>
    intro _ t
    refine ⟨?_, RB_ne _ hH⟩
    refine bdy Tryz.func13 (fun _ => 0) rfl ?_
    refine rn T 99 [] ?_
    refine rn T 99 [] ?_
    refine cts ?_
    refine rn T 99 [] ?_
    exact ⟨[_], ⟨_, _, rfl, .inl rfl, rfl⟩, .p, rfl, rfl⟩
  | succ n ih =>
    intro hn ⟨k, m, s, p, l⟩
    refine ⟨?_, RB_ne _ hH⟩
    let nmf : ByteArray → Bool := fun s => pw s && bd s
    show FC _ _ _ [.p (.ag [pi k, pi m, ps s, .row 1 (p.map pi), .row 5 (l.map eM)]), _, _] _ _
    refine bdy Tryz.func13 (fun _ => 0) rfl ?_
    refine rn T 99 [] ?_
    refine rn T 99 [] ?_
    refine cfq rfl (by simp; omega) ?_
    refine rn T 99 [] ?_
    refine rn T 99 [] ?_
    refine rn T 99 [] ?_
    by_cases k1 : k = 1
    · subst k1
      refine cts ?_
      repeat' (first | (with_reducible refine n16 ?_) | (with_reducible refine EOps.ci ?_; first | refine EOps.one T [] rfl (by first | exact True.intro | exact ⟨True.intro, True.intro⟩) ?_ | (refine EOps.sp rfl ?_ ?_ <;> intro hc_ <;> rw [hc_] <;> first | replace hc_ := of_decide_eq_true hc_ | replace hc_ := of_decide_eq_false hc_ | replace hc_ := of_decide_eq_false (Eq.mp (Bool.not_eq_true' _) hc_) | replace hc_ := of_decide_eq_true (Eq.mp (Bool.not_eq_false' _) hc_) | skip)))
      all_goals (refine op ?_)
      all_goals (try ((refine cts ?_); (refine rn T 99 [] ?_); (exact ⟨[_], ⟨_, _, rfl, .inl rfl, rfl⟩, .p, RB_of (c := false) (by rw [tk_eq, tkH_1]; refine Bool.eq_false_iff.2 (fun hq => ?_); simp only [Bool.and_eq_true, decide_eq_true_eq] at hq; first | omega | (simp at *; done) | (simp at *; omega) | simp_all | (simp_all; omega)) ⟨rfl, rfl⟩⟩); done))
      by_cases hm : m > 9999
      · refine ctq rfl (by simp [hm]) ?_
        refine rn T 99 [] ?_
        exact ⟨[_], ⟨_, _, rfl, .inl rfl, rfl⟩, .p, RB_of (c := false) (by rw [tk_eq, tkH_1]; refine Bool.eq_false_iff.2 (fun hq => ?_); simp only [Bool.and_eq_true, decide_eq_true_eq] at hq; first | omega | (simp at *; done) | (simp at *; omega) | simp_all | (simp_all; omega)) ⟨rfl, rfl⟩⟩
      · refine cfq rfl (by simp [hm]) ?_
        refine rn T 99 [] ?_
        repeat' (first | (with_reducible refine n16 ?_) | (with_reducible refine EOps.ci ?_; first | refine EOps.one T [] rfl (by first | exact True.intro | exact ⟨True.intro, True.intro⟩) ?_ | (refine EOps.sp rfl ?_ ?_ <;> intro hc_ <;> rw [hc_] <;> first | replace hc_ := of_decide_eq_true hc_ | replace hc_ := of_decide_eq_false hc_ | replace hc_ := of_decide_eq_false (Eq.mp (Bool.not_eq_true' _) hc_) | replace hc_ := of_decide_eq_true (Eq.mp (Bool.not_eq_false' _) hc_) | skip)))
        all_goals (refine op ?_)
        all_goals (try ((refine cts ?_); (refine rn T 99 [] ?_); (exact ⟨[_], ⟨_, _, rfl, .inl rfl, rfl⟩, .p, RB_of (c := false) (by rw [tk_eq, tkH_1]; refine Bool.eq_false_iff.2 (fun hq => ?_); simp only [Bool.and_eq_true, decide_eq_true_eq] at hq; first | omega | (simp at *; done) | (simp at *; omega) | simp_all | (simp_all; omega)) ⟨rfl, rfl⟩⟩); done))
        by_cases hk : l.length = 0
        · refine cfq rfl (by simp [hk]) ?_
          refine rn T 99 [] ?_
          refine lpw (fun i : Nat => MS.mk [(82, .p (pi i)), (81, .p (pi (l.map eM).length)), (80, .p (.row 5 (l.map eM))), (2, .fn fid [.ptr (.S ci) 0]), (1, .p (pi (n + 1 : Nat)))] 93 [] H) (fun m i => m + i = l.length ∧ (l.drop i).all (tk nmf n) = l.all (tk nmf n)) (l.length) (0) (by simp) ?_
          intro m2 i ⟨h1, h2⟩
          refine op ?_
          refine rn T 99 [] ?_
          by_cases hi : i < l.length
          · obtain ⟨x, hx, hd⟩ := drop_ix hi
            rw [hd, List.all_cons] at h2
            refine ctq rfl (by simp [hi]) ?_
            refine rn T 99 [pm x] ?_
            refine rn T 99 [] ?_
            rw [wkP (by omega)]
            refine hes (ih (by omega) x) ?_; rintro _ _ ⟨rfl, rfl⟩ _ _; refine op ?_
            refine rn T 99 [] ?_
            cases hx2 : tk nmf n x with
            | false =>
              refine ctq rfl (by simp [nmf] at hx2; simp [hx2]) ?_
              refine rn T 99 [] ?_
              exact ⟨[_], ⟨_, _, rfl, .inl rfl, rfl⟩, .p, RB_of (c := false) (by rw [tk_eq, ← h2, hx2]; simp) ⟨rfl, rfl⟩⟩
            | true =>
              rw [hx2, Bool.true_and] at h2
              refine cfq rfl (by simp [nmf] at hx2; simp [hx2]) ?_
              refine rn T 99 [] ?_
              rw [wkS (by omega)]
              refine nxt (m2 - 1) (i + 1) (⟨by omega, h2⟩)
          · refine cfq rfl (by simp [hi]) ?_
            refine rn T 99 [] ?_
            exact ⟨[_], ⟨_, _, rfl, .inl rfl, rfl⟩, .p, RB_of (c := true) (by rw [tk_eq, tkH_1, ← h2, List.drop_eq_nil_of_le (by omega)]; simp only [List.all_nil, Bool.and_true, Bool.and_eq_true, decide_eq_true_eq]; (repeat' apply And.intro) <;> first | omega | assumption | (simp at *; assumption) | (simp at *; omega) | (simp_all; done) | (simp_all; omega)) ⟨rfl, rfl⟩⟩
        · refine ctq rfl (by simp only [List.length_map, bne_iff_ne, ne_eq]; omega) ?_
          refine rn T 99 [] ?_
          exact ⟨[_], ⟨_, _, rfl, .inl rfl, rfl⟩, .p, RB_of (c := false) (by rw [tk_eq, tkH_1]; refine Bool.eq_false_iff.2 (fun hq => ?_); simp only [Bool.and_eq_true, decide_eq_true_eq] at hq; first | omega | (simp at *; done) | (simp at *; omega) | simp_all | (simp_all; omega)) ⟨rfl, rfl⟩⟩
    · refine cfq rfl (by simp [k1]) ?_
      refine rn T 99 [] ?_
      by_cases k2 : k = 2
      · subst k2
        refine cts ?_
        cases hw : pw s with
        | false =>
          have hc := word2 G s
          rw [hw] at hc
          refine rn T 99 [] ?_
          refine pcs (hc) ?_
          refine rn T 99 [] ?_
          refine cts ?_
          refine rn T 99 [] ?_
          exact ⟨[_], ⟨_, _, rfl, .inl rfl, rfl⟩, .p, RB_of (c := false) (by rw [tk_eq, tkH_2]; simp [hw]) ⟨rfl, rfl⟩⟩
        | true =>
          have hc := word2 G s
          rw [hw] at hc
          refine rn T 99 [] ?_
          refine pcs (hc) ?_
          refine rn T 99 [] ?_
          refine hes (hb s) ?_; rintro _ _ ⟨rfl, rfl⟩ _ _; refine op ?_
          refine rn T 99 [] ?_
          cases hbd : bd s with
          | false =>
            refine ctq rfl (by simp [hbd]) ?_
            refine rn T 99 [] ?_
            exact ⟨[_], ⟨_, _, rfl, .inl rfl, rfl⟩, .p, RB_of (c := false) (by rw [tk_eq, tkH_2]; simp [hbd]) ⟨rfl, rfl⟩⟩
          | true =>
            refine cfq rfl (by simp [hbd]) ?_
            refine rn T 99 [] ?_
            repeat' (first | (with_reducible refine n16 ?_) | (with_reducible refine EOps.ci ?_; first | refine EOps.one T [] rfl (by first | exact True.intro | exact ⟨True.intro, True.intro⟩) ?_ | (refine EOps.sp rfl ?_ ?_ <;> intro hc_ <;> rw [hc_] <;> first | replace hc_ := of_decide_eq_true hc_ | replace hc_ := of_decide_eq_false hc_ | replace hc_ := of_decide_eq_false (Eq.mp (Bool.not_eq_true' _) hc_) | replace hc_ := of_decide_eq_true (Eq.mp (Bool.not_eq_false' _) hc_) | skip)))
            all_goals (refine op ?_)
            all_goals (try ((refine cts ?_); (refine rn T 99 [] ?_); (exact ⟨[_], ⟨_, _, rfl, .inl rfl, rfl⟩, .p, RB_of (c := false) (by rw [tk_eq, tkH_2]; refine Bool.eq_false_iff.2 (fun hq => ?_); simp only [Bool.and_eq_true, decide_eq_true_eq] at hq; first | omega | (simp at *; done) | (simp at *; omega) | simp_all | (simp_all; omega)) ⟨rfl, rfl⟩⟩); done))
            by_cases hk : l.length = 0
            · refine cfq rfl (by simp [hk]) ?_
              refine rn T 99 [] ?_
              refine lpw (fun i : Nat => MS.mk [(82, .p (pi i)), (81, .p (pi (l.map eM).length)), (80, .p (.row 5 (l.map eM))), (2, .fn fid [.ptr (.S ci) 0]), (1, .p (pi (n + 1 : Nat)))] 93 [] H) (fun m i => m + i = l.length ∧ (l.drop i).all (tk nmf n) = l.all (tk nmf n)) (l.length) (0) (by simp) ?_
              intro m2 i ⟨h1, h2⟩
              refine op ?_
              refine rn T 99 [] ?_
              by_cases hi : i < l.length
              · obtain ⟨x, hx, hd⟩ := drop_ix hi
                rw [hd, List.all_cons] at h2
                refine ctq rfl (by simp [hi]) ?_
                refine rn T 99 [pm x] ?_
                refine rn T 99 [] ?_
                rw [wkP (by omega)]
                refine hes (ih (by omega) x) ?_; rintro _ _ ⟨rfl, rfl⟩ _ _; refine op ?_
                refine rn T 99 [] ?_
                cases hx2 : tk nmf n x with
                | false =>
                  refine ctq rfl (by simp [nmf] at hx2; simp [hx2]) ?_
                  refine rn T 99 [] ?_
                  exact ⟨[_], ⟨_, _, rfl, .inl rfl, rfl⟩, .p, RB_of (c := false) (by rw [tk_eq, ← h2, hx2]; simp) ⟨rfl, rfl⟩⟩
                | true =>
                  rw [hx2, Bool.true_and] at h2
                  refine cfq rfl (by simp [nmf] at hx2; simp [hx2]) ?_
                  refine rn T 99 [] ?_
                  rw [wkS (by omega)]
                  refine nxt (m2 - 1) (i + 1) (⟨by omega, h2⟩)
              · refine cfq rfl (by simp [hi]) ?_
                refine rn T 99 [] ?_
                exact ⟨[_], ⟨_, _, rfl, .inl rfl, rfl⟩, .p, RB_of (c := true) (by rw [tk_eq, tkH_2, ← h2, List.drop_eq_nil_of_le (by omega)]; simp only [List.all_nil, Bool.and_true, Bool.and_eq_true, decide_eq_true_eq]; (repeat' apply And.intro) <;> first | omega | assumption | (simp at *; assumption) | (simp at *; omega) | (simp_all; done) | (simp_all; omega)) ⟨rfl, rfl⟩⟩
            · refine ctq rfl (by simp only [List.length_map, bne_iff_ne, ne_eq]; omega) ?_
              refine rn T 99 [] ?_
              exact ⟨[_], ⟨_, _, rfl, .inl rfl, rfl⟩, .p, RB_of (c := false) (by rw [tk_eq, tkH_2]; refine Bool.eq_false_iff.2 (fun hq => ?_); simp only [Bool.and_eq_true, decide_eq_true_eq] at hq; first | omega | (simp at *; done) | (simp at *; omega) | simp_all | (simp_all; omega)) ⟨rfl, rfl⟩⟩
      · refine cfq rfl (by simp [k2]) ?_
        refine rn T 99 [] ?_
        by_cases k3 : k = 3 ∨ k = 4 ∨ k = 5 ∨ k = 6
        · rcases k3 with rfl | rfl | rfl | rfl
          · refine cts ?_
            refine cts ?_
            refine rn T 99 [] ?_
            repeat' (first | (with_reducible refine n16 ?_) | (with_reducible refine EOps.ci ?_; first | refine EOps.one T [] rfl (by first | exact True.intro | exact ⟨True.intro, True.intro⟩) ?_ | (refine EOps.sp rfl ?_ ?_ <;> intro hc_ <;> rw [hc_] <;> first | replace hc_ := of_decide_eq_true hc_ | replace hc_ := of_decide_eq_false hc_ | replace hc_ := of_decide_eq_false (Eq.mp (Bool.not_eq_true' _) hc_) | replace hc_ := of_decide_eq_true (Eq.mp (Bool.not_eq_false' _) hc_) | skip)))
            all_goals (refine op ?_)
            all_goals (try ((refine cts ?_); (refine rn T 99 [] ?_); (exact ⟨[_], ⟨_, _, rfl, .inl rfl, rfl⟩, .p, RB_of (c := false) (by rw [tk_eq, tkH_3 _ 3 m s p l (by decide)]; refine Bool.eq_false_iff.2 (fun hq => ?_); simp only [Bool.and_eq_true, decide_eq_true_eq] at hq; first | omega | (simp at *; done) | (simp at *; omega) | simp_all | (simp_all; omega)) ⟨rfl, rfl⟩⟩); done))
            by_cases hk : l.length = 2
            · refine cfq rfl (by simp [hk]) ?_
              refine rn T 99 [] ?_
              refine lpw (fun i : Nat => MS.mk [(82, .p (pi i)), (81, .p (pi (l.map eM).length)), (80, .p (.row 5 (l.map eM))), (2, .fn fid [.ptr (.S ci) 0]), (1, .p (pi (n + 1 : Nat)))] 93 [] H) (fun m i => m + i = l.length ∧ (l.drop i).all (tk nmf n) = l.all (tk nmf n)) (l.length) (0) (by simp) ?_
              intro m2 i ⟨h1, h2⟩
              refine op ?_
              refine rn T 99 [] ?_
              by_cases hi : i < l.length
              · obtain ⟨x, hx, hd⟩ := drop_ix hi
                rw [hd, List.all_cons] at h2
                refine ctq rfl (by simp [hi]) ?_
                refine rn T 99 [pm x] ?_
                refine rn T 99 [] ?_
                rw [wkP (by omega)]
                refine hes (ih (by omega) x) ?_; rintro _ _ ⟨rfl, rfl⟩ _ _; refine op ?_
                refine rn T 99 [] ?_
                cases hx2 : tk nmf n x with
                | false =>
                  refine ctq rfl (by simp [nmf] at hx2; simp [hx2]) ?_
                  refine rn T 99 [] ?_
                  exact ⟨[_], ⟨_, _, rfl, .inl rfl, rfl⟩, .p, RB_of (c := false) (by rw [tk_eq, ← h2, hx2]; simp) ⟨rfl, rfl⟩⟩
                | true =>
                  rw [hx2, Bool.true_and] at h2
                  refine cfq rfl (by simp [nmf] at hx2; simp [hx2]) ?_
                  refine rn T 99 [] ?_
                  rw [wkS (by omega)]
                  refine nxt (m2 - 1) (i + 1) (⟨by omega, h2⟩)
              · refine cfq rfl (by simp [hi]) ?_
                refine rn T 99 [] ?_
                exact ⟨[_], ⟨_, _, rfl, .inl rfl, rfl⟩, .p, RB_of (c := true) (by rw [tk_eq, tkH_3 _ 3 m s p l (by decide), ← h2, List.drop_eq_nil_of_le (by omega)]; simp only [List.all_nil, Bool.and_true, Bool.and_eq_true, decide_eq_true_eq]; (repeat' apply And.intro) <;> first | omega | assumption | (simp at *; assumption) | (simp at *; omega) | (simp_all; done) | (simp_all; omega)) ⟨rfl, rfl⟩⟩
            · refine ctq rfl (by simp only [List.length_map, bne_iff_ne, ne_eq]; omega) ?_
              refine rn T 99 [] ?_
              exact ⟨[_], ⟨_, _, rfl, .inl rfl, rfl⟩, .p, RB_of (c := false) (by rw [tk_eq, tkH_3 _ 3 m s p l (by decide)]; refine Bool.eq_false_iff.2 (fun hq => ?_); simp only [Bool.and_eq_true, decide_eq_true_eq] at hq; first | omega | (simp at *; done) | (simp at *; omega) | simp_all | (simp_all; omega)) ⟨rfl, rfl⟩⟩
          · refine cfs ?_
            refine rn T 99 [] ?_
            refine cts ?_
            refine cts ?_
            refine rn T 99 [] ?_
            repeat' (first | (with_reducible refine n16 ?_) | (with_reducible refine EOps.ci ?_; first | refine EOps.one T [] rfl (by first | exact True.intro | exact ⟨True.intro, True.intro⟩) ?_ | (refine EOps.sp rfl ?_ ?_ <;> intro hc_ <;> rw [hc_] <;> first | replace hc_ := of_decide_eq_true hc_ | replace hc_ := of_decide_eq_false hc_ | replace hc_ := of_decide_eq_false (Eq.mp (Bool.not_eq_true' _) hc_) | replace hc_ := of_decide_eq_true (Eq.mp (Bool.not_eq_false' _) hc_) | skip)))
            all_goals (refine op ?_)
            all_goals (try ((refine cts ?_); (refine rn T 99 [] ?_); (exact ⟨[_], ⟨_, _, rfl, .inl rfl, rfl⟩, .p, RB_of (c := false) (by rw [tk_eq, tkH_3 _ 4 m s p l (by decide)]; refine Bool.eq_false_iff.2 (fun hq => ?_); simp only [Bool.and_eq_true, decide_eq_true_eq] at hq; first | omega | (simp at *; done) | (simp at *; omega) | simp_all | (simp_all; omega)) ⟨rfl, rfl⟩⟩); done))
            by_cases hk : l.length = 2
            · refine cfq rfl (by simp [hk]) ?_
              refine rn T 99 [] ?_
              refine lpw (fun i : Nat => MS.mk [(82, .p (pi i)), (81, .p (pi (l.map eM).length)), (80, .p (.row 5 (l.map eM))), (2, .fn fid [.ptr (.S ci) 0]), (1, .p (pi (n + 1 : Nat)))] 93 [] H) (fun m i => m + i = l.length ∧ (l.drop i).all (tk nmf n) = l.all (tk nmf n)) (l.length) (0) (by simp) ?_
              intro m2 i ⟨h1, h2⟩
              refine op ?_
              refine rn T 99 [] ?_
              by_cases hi : i < l.length
              · obtain ⟨x, hx, hd⟩ := drop_ix hi
                rw [hd, List.all_cons] at h2
                refine ctq rfl (by simp [hi]) ?_
                refine rn T 99 [pm x] ?_
                refine rn T 99 [] ?_
                rw [wkP (by omega)]
                refine hes (ih (by omega) x) ?_; rintro _ _ ⟨rfl, rfl⟩ _ _; refine op ?_
                refine rn T 99 [] ?_
                cases hx2 : tk nmf n x with
                | false =>
                  refine ctq rfl (by simp [nmf] at hx2; simp [hx2]) ?_
                  refine rn T 99 [] ?_
                  exact ⟨[_], ⟨_, _, rfl, .inl rfl, rfl⟩, .p, RB_of (c := false) (by rw [tk_eq, ← h2, hx2]; simp) ⟨rfl, rfl⟩⟩
                | true =>
                  rw [hx2, Bool.true_and] at h2
                  refine cfq rfl (by simp [nmf] at hx2; simp [hx2]) ?_
                  refine rn T 99 [] ?_
                  rw [wkS (by omega)]
                  refine nxt (m2 - 1) (i + 1) (⟨by omega, h2⟩)
              · refine cfq rfl (by simp [hi]) ?_
                refine rn T 99 [] ?_
                exact ⟨[_], ⟨_, _, rfl, .inl rfl, rfl⟩, .p, RB_of (c := true) (by rw [tk_eq, tkH_3 _ 4 m s p l (by decide), ← h2, List.drop_eq_nil_of_le (by omega)]; simp only [List.all_nil, Bool.and_true, Bool.and_eq_true, decide_eq_true_eq]; (repeat' apply And.intro) <;> first | omega | assumption | (simp at *; assumption) | (simp at *; omega) | (simp_all; done) | (simp_all; omega)) ⟨rfl, rfl⟩⟩
            · refine ctq rfl (by simp only [List.length_map, bne_iff_ne, ne_eq]; omega) ?_
              refine rn T 99 [] ?_
              exact ⟨[_], ⟨_, _, rfl, .inl rfl, rfl⟩, .p, RB_of (c := false) (by rw [tk_eq, tkH_3 _ 4 m s p l (by decide)]; refine Bool.eq_false_iff.2 (fun hq => ?_); simp only [Bool.and_eq_true, decide_eq_true_eq] at hq; first | omega | (simp at *; done) | (simp at *; omega) | simp_all | (simp_all; omega)) ⟨rfl, rfl⟩⟩
          · refine cfs ?_
            refine rn T 99 [] ?_
            refine cfs ?_
            refine rn T 99 [] ?_
            refine cts ?_
            refine cts ?_
            refine rn T 99 [] ?_
            repeat' (first | (with_reducible refine n16 ?_) | (with_reducible refine EOps.ci ?_; first | refine EOps.one T [] rfl (by first | exact True.intro | exact ⟨True.intro, True.intro⟩) ?_ | (refine EOps.sp rfl ?_ ?_ <;> intro hc_ <;> rw [hc_] <;> first | replace hc_ := of_decide_eq_true hc_ | replace hc_ := of_decide_eq_false hc_ | replace hc_ := of_decide_eq_false (Eq.mp (Bool.not_eq_true' _) hc_) | replace hc_ := of_decide_eq_true (Eq.mp (Bool.not_eq_false' _) hc_) | skip)))
            all_goals (refine op ?_)
            all_goals (try ((refine cts ?_); (refine rn T 99 [] ?_); (exact ⟨[_], ⟨_, _, rfl, .inl rfl, rfl⟩, .p, RB_of (c := false) (by rw [tk_eq, tkH_3 _ 5 m s p l (by decide)]; refine Bool.eq_false_iff.2 (fun hq => ?_); simp only [Bool.and_eq_true, decide_eq_true_eq] at hq; first | omega | (simp at *; done) | (simp at *; omega) | simp_all | (simp_all; omega)) ⟨rfl, rfl⟩⟩); done))
            by_cases hk : l.length = 2
            · refine cfq rfl (by simp [hk]) ?_
              refine rn T 99 [] ?_
              refine lpw (fun i : Nat => MS.mk [(82, .p (pi i)), (81, .p (pi (l.map eM).length)), (80, .p (.row 5 (l.map eM))), (2, .fn fid [.ptr (.S ci) 0]), (1, .p (pi (n + 1 : Nat)))] 93 [] H) (fun m i => m + i = l.length ∧ (l.drop i).all (tk nmf n) = l.all (tk nmf n)) (l.length) (0) (by simp) ?_
              intro m2 i ⟨h1, h2⟩
              refine op ?_
              refine rn T 99 [] ?_
              by_cases hi : i < l.length
              · obtain ⟨x, hx, hd⟩ := drop_ix hi
                rw [hd, List.all_cons] at h2
                refine ctq rfl (by simp [hi]) ?_
                refine rn T 99 [pm x] ?_
                refine rn T 99 [] ?_
                rw [wkP (by omega)]
                refine hes (ih (by omega) x) ?_; rintro _ _ ⟨rfl, rfl⟩ _ _; refine op ?_
                refine rn T 99 [] ?_
                cases hx2 : tk nmf n x with
                | false =>
                  refine ctq rfl (by simp [nmf] at hx2; simp [hx2]) ?_
                  refine rn T 99 [] ?_
                  exact ⟨[_], ⟨_, _, rfl, .inl rfl, rfl⟩, .p, RB_of (c := false) (by rw [tk_eq, ← h2, hx2]; simp) ⟨rfl, rfl⟩⟩
                | true =>
                  rw [hx2, Bool.true_and] at h2
                  refine cfq rfl (by simp [nmf] at hx2; simp [hx2]) ?_
                  refine rn T 99 [] ?_
                  rw [wkS (by omega)]
                  refine nxt (m2 - 1) (i + 1) (⟨by omega, h2⟩)
              · refine cfq rfl (by simp [hi]) ?_
                refine rn T 99 [] ?_
                exact ⟨[_], ⟨_, _, rfl, .inl rfl, rfl⟩, .p, RB_of (c := true) (by rw [tk_eq, tkH_3 _ 5 m s p l (by decide), ← h2, List.drop_eq_nil_of_le (by omega)]; simp only [List.all_nil, Bool.and_true, Bool.and_eq_true, decide_eq_true_eq]; (repeat' apply And.intro) <;> first | omega | assumption | (simp at *; assumption) | (simp at *; omega) | (simp_all; done) | (simp_all; omega)) ⟨rfl, rfl⟩⟩
            · refine ctq rfl (by simp only [List.length_map, bne_iff_ne, ne_eq]; omega) ?_
              refine rn T 99 [] ?_
              exact ⟨[_], ⟨_, _, rfl, .inl rfl, rfl⟩, .p, RB_of (c := false) (by rw [tk_eq, tkH_3 _ 5 m s p l (by decide)]; refine Bool.eq_false_iff.2 (fun hq => ?_); simp only [Bool.and_eq_true, decide_eq_true_eq] at hq; first | omega | (simp at *; done) | (simp at *; omega) | simp_all | (simp_all; omega)) ⟨rfl, rfl⟩⟩
          · refine cfs ?_
            refine rn T 99 [] ?_
            refine cfs ?_
            refine rn T 99 [] ?_
            refine cfs ?_
            refine rn T 99 [] ?_
            refine cts ?_
            refine rn T 99 [] ?_
            repeat' (first | (with_reducible refine n16 ?_) | (with_reducible refine EOps.ci ?_; first | refine EOps.one T [] rfl (by first | exact True.intro | exact ⟨True.intro, True.intro⟩) ?_ | (refine EOps.sp rfl ?_ ?_ <;> intro hc_ <;> rw [hc_] <;> first | replace hc_ := of_decide_eq_true hc_ | replace hc_ := of_decide_eq_false hc_ | replace hc_ := of_decide_eq_false (Eq.mp (Bool.not_eq_true' _) hc_) | replace hc_ := of_decide_eq_true (Eq.mp (Bool.not_eq_false' _) hc_) | skip)))
            all_goals (refine op ?_)
            all_goals (try ((refine cts ?_); (refine rn T 99 [] ?_); (exact ⟨[_], ⟨_, _, rfl, .inl rfl, rfl⟩, .p, RB_of (c := false) (by rw [tk_eq, tkH_3 _ 6 m s p l (by decide)]; refine Bool.eq_false_iff.2 (fun hq => ?_); simp only [Bool.and_eq_true, decide_eq_true_eq] at hq; first | omega | (simp at *; done) | (simp at *; omega) | simp_all | (simp_all; omega)) ⟨rfl, rfl⟩⟩); done))
            by_cases hk : l.length = 2
            · refine cfq rfl (by simp [hk]) ?_
              refine rn T 99 [] ?_
              refine lpw (fun i : Nat => MS.mk [(82, .p (pi i)), (81, .p (pi (l.map eM).length)), (80, .p (.row 5 (l.map eM))), (2, .fn fid [.ptr (.S ci) 0]), (1, .p (pi (n + 1 : Nat)))] 93 [] H) (fun m i => m + i = l.length ∧ (l.drop i).all (tk nmf n) = l.all (tk nmf n)) (l.length) (0) (by simp) ?_
              intro m2 i ⟨h1, h2⟩
              refine op ?_
              refine rn T 99 [] ?_
              by_cases hi : i < l.length
              · obtain ⟨x, hx, hd⟩ := drop_ix hi
                rw [hd, List.all_cons] at h2
                refine ctq rfl (by simp [hi]) ?_
                refine rn T 99 [pm x] ?_
                refine rn T 99 [] ?_
                rw [wkP (by omega)]
                refine hes (ih (by omega) x) ?_; rintro _ _ ⟨rfl, rfl⟩ _ _; refine op ?_
                refine rn T 99 [] ?_
                cases hx2 : tk nmf n x with
                | false =>
                  refine ctq rfl (by simp [nmf] at hx2; simp [hx2]) ?_
                  refine rn T 99 [] ?_
                  exact ⟨[_], ⟨_, _, rfl, .inl rfl, rfl⟩, .p, RB_of (c := false) (by rw [tk_eq, ← h2, hx2]; simp) ⟨rfl, rfl⟩⟩
                | true =>
                  rw [hx2, Bool.true_and] at h2
                  refine cfq rfl (by simp [nmf] at hx2; simp [hx2]) ?_
                  refine rn T 99 [] ?_
                  rw [wkS (by omega)]
                  refine nxt (m2 - 1) (i + 1) (⟨by omega, h2⟩)
              · refine cfq rfl (by simp [hi]) ?_
                refine rn T 99 [] ?_
                exact ⟨[_], ⟨_, _, rfl, .inl rfl, rfl⟩, .p, RB_of (c := true) (by rw [tk_eq, tkH_3 _ 6 m s p l (by decide), ← h2, List.drop_eq_nil_of_le (by omega)]; simp only [List.all_nil, Bool.and_true, Bool.and_eq_true, decide_eq_true_eq]; (repeat' apply And.intro) <;> first | omega | assumption | (simp at *; assumption) | (simp at *; omega) | (simp_all; done) | (simp_all; omega)) ⟨rfl, rfl⟩⟩
            · refine ctq rfl (by simp only [List.length_map, bne_iff_ne, ne_eq]; omega) ?_
              refine rn T 99 [] ?_
              exact ⟨[_], ⟨_, _, rfl, .inl rfl, rfl⟩, .p, RB_of (c := false) (by rw [tk_eq, tkH_3 _ 6 m s p l (by decide)]; refine Bool.eq_false_iff.2 (fun hq => ?_); simp only [Bool.and_eq_true, decide_eq_true_eq] at hq; first | omega | (simp at *; done) | (simp at *; omega) | simp_all | (simp_all; omega)) ⟨rfl, rfl⟩⟩
        · refine cfq rfl (by simp; omega) ?_
          refine rn T 99 [] ?_
          refine cfq rfl (by simp; omega) ?_
          refine rn T 99 [] ?_
          refine cfq rfl (by simp; omega) ?_
          refine rn T 99 [] ?_
          refine cfq rfl (by simp; omega) ?_
          refine rn T 99 [] ?_
          by_cases k7 : k = 7
          · subst k7
            refine cts ?_
            refine cts ?_
            have hc := path2 G p
            cases hp : pathB p with
            | false =>
              rw [hp] at hc
              refine rn T 99 [] ?_
              refine pcs (hc) ?_
              refine rn T 99 [] ?_
              refine cts ?_
              refine rn T 99 [] ?_
              exact ⟨[_], ⟨_, _, rfl, .inl rfl, rfl⟩, .p, RB_of (c := false) (by rw [tk_eq, tkH_7]; simp [hp]) ⟨rfl, rfl⟩⟩
            | true =>
              rw [hp] at hc
              refine rn T 99 [] ?_
              refine pcs (hc) ?_
              refine rn T 99 [] ?_
              refine cfs ?_
              refine rn T 99 [] ?_
              refine rn T 99 [] ?_
              rw [show IntKind.i64.wrap (IntKind.i64.wrap (1 + 7) - 7) = 1 from rfl]
              repeat' (first | (with_reducible refine n16 ?_) | (with_reducible refine EOps.ci ?_; first | refine EOps.one T [] rfl (by first | exact True.intro | exact ⟨True.intro, True.intro⟩) ?_ | (refine EOps.sp rfl ?_ ?_ <;> intro hc_ <;> rw [hc_] <;> first | replace hc_ := of_decide_eq_true hc_ | replace hc_ := of_decide_eq_false hc_ | replace hc_ := of_decide_eq_false (Eq.mp (Bool.not_eq_true' _) hc_) | replace hc_ := of_decide_eq_true (Eq.mp (Bool.not_eq_false' _) hc_) | skip)))
              all_goals (refine op ?_)
              all_goals (try ((refine cts ?_); (refine rn T 99 [] ?_); (exact ⟨[_], ⟨_, _, rfl, .inl rfl, rfl⟩, .p, RB_of (c := false) (by rw [tk_eq, tkH_7]; refine Bool.eq_false_iff.2 (fun hq => ?_); simp only [Bool.and_eq_true, decide_eq_true_eq] at hq; first | omega | (simp at *; done) | (simp at *; omega) | simp_all | (simp_all; omega)) ⟨rfl, rfl⟩⟩); done))
              by_cases hk : l.length = 1
              · refine cfq rfl (by simp [hk]) ?_
                refine rn T 99 [] ?_
                refine lpw (fun i : Nat => MS.mk [(82, .p (pi i)), (81, .p (pi (l.map eM).length)), (80, .p (.row 5 (l.map eM))), (2, .fn fid [.ptr (.S ci) 0]), (1, .p (pi (n + 1 : Nat)))] 93 [] H) (fun m i => m + i = l.length ∧ (l.drop i).all (tk nmf n) = l.all (tk nmf n)) (l.length) (0) (by simp) ?_
                intro m2 i ⟨h1, h2⟩
                refine op ?_
                refine rn T 99 [] ?_
                by_cases hi : i < l.length
                · obtain ⟨x, hx, hd⟩ := drop_ix hi
                  rw [hd, List.all_cons] at h2
                  refine ctq rfl (by simp [hi]) ?_
                  refine rn T 99 [pm x] ?_
                  refine rn T 99 [] ?_
                  rw [wkP (by omega)]
                  refine hes (ih (by omega) x) ?_; rintro _ _ ⟨rfl, rfl⟩ _ _; refine op ?_
                  refine rn T 99 [] ?_
                  cases hx2 : tk nmf n x with
                  | false =>
                    refine ctq rfl (by simp [nmf] at hx2; simp [hx2]) ?_
                    refine rn T 99 [] ?_
                    exact ⟨[_], ⟨_, _, rfl, .inl rfl, rfl⟩, .p, RB_of (c := false) (by rw [tk_eq, ← h2, hx2]; simp) ⟨rfl, rfl⟩⟩
                  | true =>
                    rw [hx2, Bool.true_and] at h2
                    refine cfq rfl (by simp [nmf] at hx2; simp [hx2]) ?_
                    refine rn T 99 [] ?_
                    rw [wkS (by omega)]
                    refine nxt (m2 - 1) (i + 1) (⟨by omega, h2⟩)
                · refine cfq rfl (by simp [hi]) ?_
                  refine rn T 99 [] ?_
                  exact ⟨[_], ⟨_, _, rfl, .inl rfl, rfl⟩, .p, RB_of (c := true) (by rw [tk_eq, tkH_7, ← h2, List.drop_eq_nil_of_le (by omega)]; simp only [List.all_nil, Bool.and_true, Bool.and_eq_true, decide_eq_true_eq]; (repeat' apply And.intro) <;> first | omega | assumption | (simp at *; assumption) | (simp at *; omega) | (simp_all; done) | (simp_all; omega)) ⟨rfl, rfl⟩⟩
              · refine ctq rfl (by simp only [List.length_map, bne_iff_ne, ne_eq]; omega) ?_
                refine rn T 99 [] ?_
                exact ⟨[_], ⟨_, _, rfl, .inl rfl, rfl⟩, .p, RB_of (c := false) (by rw [tk_eq, tkH_7]; refine Bool.eq_false_iff.2 (fun hq => ?_); simp only [Bool.and_eq_true, decide_eq_true_eq] at hq; first | omega | (simp at *; done) | (simp at *; omega) | simp_all | (simp_all; omega)) ⟨rfl, rfl⟩⟩
          · refine cfq rfl (by simp [k7]) ?_
            refine rn T 99 [] ?_
            by_cases k8 : k = 8
            · subst k8
              refine cts ?_
              have hc := path2 G p
              cases hp : pathB p with
              | false =>
                rw [hp] at hc
                refine rn T 99 [] ?_
                refine pcs (hc) ?_
                refine rn T 99 [] ?_
                refine cts ?_
                refine rn T 99 [] ?_
                exact ⟨[_], ⟨_, _, rfl, .inl rfl, rfl⟩, .p, RB_of (c := false) (by rw [tk_eq, tkH_8]; simp [hp]) ⟨rfl, rfl⟩⟩
              | true =>
                rw [hp] at hc
                refine rn T 99 [] ?_
                refine pcs (hc) ?_
                refine rn T 99 [] ?_
                refine cfs ?_
                refine rn T 99 [] ?_
                refine rn T 99 [] ?_
                rw [show IntKind.i64.wrap (IntKind.i64.wrap (1 + 8) - 7) = 2 from rfl]
                repeat' (first | (with_reducible refine n16 ?_) | (with_reducible refine EOps.ci ?_; first | refine EOps.one T [] rfl (by first | exact True.intro | exact ⟨True.intro, True.intro⟩) ?_ | (refine EOps.sp rfl ?_ ?_ <;> intro hc_ <;> rw [hc_] <;> first | replace hc_ := of_decide_eq_true hc_ | replace hc_ := of_decide_eq_false hc_ | replace hc_ := of_decide_eq_false (Eq.mp (Bool.not_eq_true' _) hc_) | replace hc_ := of_decide_eq_true (Eq.mp (Bool.not_eq_false' _) hc_) | skip)))
                all_goals (refine op ?_)
                all_goals (try ((refine cts ?_); (refine rn T 99 [] ?_); (exact ⟨[_], ⟨_, _, rfl, .inl rfl, rfl⟩, .p, RB_of (c := false) (by rw [tk_eq, tkH_8]; refine Bool.eq_false_iff.2 (fun hq => ?_); simp only [Bool.and_eq_true, decide_eq_true_eq] at hq; first | omega | (simp at *; done) | (simp at *; omega) | simp_all | (simp_all; omega)) ⟨rfl, rfl⟩⟩); done))
                by_cases hk : l.length = 2
                · refine cfq rfl (by simp [hk]) ?_
                  refine rn T 99 [] ?_
                  refine lpw (fun i : Nat => MS.mk [(82, .p (pi i)), (81, .p (pi (l.map eM).length)), (80, .p (.row 5 (l.map eM))), (2, .fn fid [.ptr (.S ci) 0]), (1, .p (pi (n + 1 : Nat)))] 93 [] H) (fun m i => m + i = l.length ∧ (l.drop i).all (tk nmf n) = l.all (tk nmf n)) (l.length) (0) (by simp) ?_
                  intro m2 i ⟨h1, h2⟩
                  refine op ?_
                  refine rn T 99 [] ?_
                  by_cases hi : i < l.length
                  · obtain ⟨x, hx, hd⟩ := drop_ix hi
                    rw [hd, List.all_cons] at h2
                    refine ctq rfl (by simp [hi]) ?_
                    refine rn T 99 [pm x] ?_
                    refine rn T 99 [] ?_
                    rw [wkP (by omega)]
                    refine hes (ih (by omega) x) ?_; rintro _ _ ⟨rfl, rfl⟩ _ _; refine op ?_
                    refine rn T 99 [] ?_
                    cases hx2 : tk nmf n x with
                    | false =>
                      refine ctq rfl (by simp [nmf] at hx2; simp [hx2]) ?_
                      refine rn T 99 [] ?_
                      exact ⟨[_], ⟨_, _, rfl, .inl rfl, rfl⟩, .p, RB_of (c := false) (by rw [tk_eq, ← h2, hx2]; simp) ⟨rfl, rfl⟩⟩
                    | true =>
                      rw [hx2, Bool.true_and] at h2
                      refine cfq rfl (by simp [nmf] at hx2; simp [hx2]) ?_
                      refine rn T 99 [] ?_
                      rw [wkS (by omega)]
                      refine nxt (m2 - 1) (i + 1) (⟨by omega, h2⟩)
                  · refine cfq rfl (by simp [hi]) ?_
                    refine rn T 99 [] ?_
                    exact ⟨[_], ⟨_, _, rfl, .inl rfl, rfl⟩, .p, RB_of (c := true) (by rw [tk_eq, tkH_8, ← h2, List.drop_eq_nil_of_le (by omega)]; simp only [List.all_nil, Bool.and_true, Bool.and_eq_true, decide_eq_true_eq]; (repeat' apply And.intro) <;> first | omega | assumption | (simp at *; assumption) | (simp at *; omega) | (simp_all; done) | (simp_all; omega)) ⟨rfl, rfl⟩⟩
                · refine ctq rfl (by simp only [List.length_map, bne_iff_ne, ne_eq]; omega) ?_
                  refine rn T 99 [] ?_
                  exact ⟨[_], ⟨_, _, rfl, .inl rfl, rfl⟩, .p, RB_of (c := false) (by rw [tk_eq, tkH_8]; refine Bool.eq_false_iff.2 (fun hq => ?_); simp only [Bool.and_eq_true, decide_eq_true_eq] at hq; first | omega | (simp at *; done) | (simp at *; omega) | simp_all | (simp_all; omega)) ⟨rfl, rfl⟩⟩
            · refine cfq rfl (by simp [k8]) ?_
              refine rn T 99 [] ?_
              exact ⟨[_], ⟨_, _, rfl, .inl rfl, rfl⟩, .p, RB_of (c := false) (by rw [tk_eq, tkH_o _ k m s p l k1 k2 k3 k7 k8]; rfl) ⟨rfl, rfl⟩⟩
end Go.Proofs.YtglkkbgflnpjeaaGreatDoor.K
end
section
namespace Go.Proofs.YtglkkbgflnpjeaaGreatDoor.K
open Go Go.RowKit Go.Proofs.YtglkkbgflnpjeaaGreatDoor.En Go.Proofs.YtglkkbgflnpjeaaGreatDoor.Ty Go.Proofs.YtglkkbgflnpjeaaGreatDoor.B
set_option maxRecDepth 100000
set_option linter.unusedSimpArgs false
set_option linter.unusedVariables false
set_option pp.deepTerms false
set_option pp.deepTerms.threshold 8
set_option pp.maxSteps 1000
theorem openC (G : Nat → Option PV) (l : List Int) (hl : ∀ x ∈ l, 0 ≤ x ∧ x ≤ 255) (hl2 : l.length ≤ 9223372036854775807) : FE Tryz.prog G 11 [.p (.row 1 (l.map pu))] [] (fun r H' => ∃ s, Bytes s ∧ r = .ptr (.S 0) 0 ∧ H' = [rdr s 0]) := by
  refine ⟨?_, _, _, ⟨[], ⟨by simp, by simp⟩, rfl, rfl⟩, .ptr trivial, hsh_rdr hsh_nil⟩
  refine bdy Tryz.func11 (fun d => if d = 10 then 1 else 0) rfl ?_
  refine rn T 99 [] ?_
  refine rn T 99 [] ?_
  by_cases h : l.length > 2000
  · refine ctq rfl (by simp; omega) ?_
    refine rn T 99 [] ?_
    refine rn T 99 [] ?_
    exact ⟨[_], ⟨_, _, rfl, .inl rfl, rfl⟩, .ptr trivial, l.take 2000, ⟨by simp; omega, fun x hx => hl x (List.mem_of_mem_take hx)⟩, rfl, by
      show _ = [AObj.box _ [.p (.row 1 ((l.take 2000).map pu)), .p (pi 0)]]
      rw [List.map_take]
      rfl⟩
  · refine cfq rfl (by simp; omega) ?_
    refine rn T 99 [] ?_
    exact ⟨[_], ⟨_, _, rfl, .inl rfl, rfl⟩, .ptr trivial, l, ⟨by omega, hl⟩, rfl, rfl⟩
end Go.Proofs.YtglkkbgflnpjeaaGreatDoor.K
end
section
namespace Go.Proofs.YtglkkbgflnpjeaaGreatDoor.K
open Go Go.RowKit Go.Proofs.YtglkkbgflnpjeaaGreatDoor.En Go.Proofs.YtglkkbgflnpjeaaGreatDoor.Ty Go.Proofs.YtglkkbgflnpjeaaGreatDoor.B
set_option maxRecDepth 100000
set_option linter.unusedSimpArgs false
set_option linter.unusedVariables false
set_option pp.deepTerms false
set_option pp.deepTerms.threshold 8
set_option pp.maxSteps 1000
def dM : Nat → Mn → Bool
  | 0, _ => false
  | n + 1, t => decide (t.f4.length ≤ 2) && t.f4.all (dM n)
theorem dM_len {n : Nat} {t : Mn} (h : dM n t = true) : t.f4.length ≤ 2 := by
  cases n with
  | zero => cases h
  | succ n => unfold dM at h; simp only [Bool.and_eq_true, decide_eq_true_eq] at h; exact h.1
theorem dM_mono : ∀ {n m : Nat} {t : Mn}, dM n t = true → n ≤ m → dM m t = true
  | 0, _, _, h, _ => by cases h
  | n + 1, 0, _, _, hm => absurd hm (by omega)
  | n + 1, m + 1, t, h, hm => by
    unfold dM at h ⊢
    simp only [Bool.and_eq_true, List.all_eq_true] at h ⊢
    exact ⟨h.1, fun x hx => dM_mono (h.2 x hx) (by omega)⟩
theorem dM0 {n : Nat} {k m : Int} {s : ByteArray} {p : List Int} : dM (n + 1) ⟨k, m, s, p, []⟩ = true := rfl
theorem dM1 {n : Nat} {k m : Int} {s : ByteArray} {p : List Int} {x : Mn} (h : dM n x = true) : dM (n + 1) ⟨k, m, s, p, [x]⟩ = true := by
  show (decide (1 ≤ 2) && (dM n x && true)) = true
  rw [h]; rfl
theorem dM2 {n : Nat} {k m : Int} {s : ByteArray} {p : List Int} {x y : Mn} (h : dM n x = true) (h2 : dM n y = true) : dM (n + 1) ⟨k, m, s, p, [x, y]⟩ = true := by
  show (decide (2 ≤ 2) && (dM n x && (dM n y && true))) = true
  rw [h, h2]; rfl
theorem dMl {n : Nat} {k m : Int} {s : ByteArray} {p : List Int} {l : List Mn} (h : l.length ≤ 2 ∧ l.all (dM n) = true) : dM (n + 1) ⟨k, m, s, p, l⟩ = true := by
  show (decide (l.length ≤ 2) && l.all (dM n)) = true
  rw [h.2, decide_eq_true h.1]; rfl
def TermR (d : Nat) (s : List Int) (k c : Int) (H0 : List AObj) (r : TV) (H' : List AObj) : Prop := ∃ (t : Mn) (k' : Int), dM (d + 1) t = true ∧ k ≤ k' ∧ k' ≤ k + c ∧ r = .p (pm t) ∧ H' = rdr s k' :: H0
theorem TermR.ne {d : Nat} {s : List Int} {k c : Int} {H0 : List AObj} (hc : 0 ≤ c) (hH : HSh H0) : ∃ r H', TermR d s k c H0 r H' ∧ r.All Nm.isS ∧ HSh H' := ⟨_, _, ⟨⟨0, 0, ⟨#[]⟩, [], []⟩, k, dM0, by omega, by omega, rfl, rfl⟩, .p, hsh_rdr hH⟩
theorem term71 (G : Nat → Option PV) (s : List Int) (hs : Bytes s) {H0 : List AObj} (hH : HSh H0) : ∀ (d : Nat), d ≤ 20 → ∀ (k : Int), 0 ≤ k → k + 16 * 2 ^ d ≤ 1099511627776 →
    FE Tryz.prog G 26 [.ptr (.S 0) 0, .p (pi d)] (rdr s k :: H0) (TermR d s k (16 * 2 ^ d - 8) H0) := by
  intro d
  induction d with
  | zero =>
    intro _ k hk hk1
    simp only [Int.pow_zero] at hk1 ⊢
    refine ⟨?_, TermR.ne (by omega) hH⟩
    refine bdy Tryz.func26 (fun _ => 0) rfl ?_
    refine rn T 99 [] ?_
    refine rn T 99 [] ?_
    refine cts ?_
    refine rn T 99 [] ?_
    refine hes (pick G s hs k 3 hk (by omega) (by omega) hH) ?_; rintro _ _ ⟨v, hv0, hv1, rfl, rfl⟩ _ _; refine op ?_
    refine rn T 99 [] ?_
    by_cases hv : v = 0
    · refine ctq rfl (by simp [hv]) ?_
      refine rn T 99 [] ?_
      refine hes (pick G s hs (k + 1) 4 (by omega) (by omega) (by omega) hH) ?_; rintro _ _ ⟨w, hw0, hw1, rfl, rfl⟩ _ _; refine op ?_
      refine rn T 99 [] ?_
      exact rt1 T (pm ⟨1, w, ⟨#[]⟩, [], []⟩) (⟨_, k + 1 + 1, dM0, by omega, by omega, rfl, rfl⟩)
    · refine cfq rfl (by simp [hv]) ?_
      refine rn T 99 [] ?_
      refine hes (pick G s hs (k + 1) 3 (by omega) (by omega) (by omega) hH) ?_; rintro _ _ ⟨w, hw0, hw1, rfl, rfl⟩ _ _; refine op ?_
      obtain rfl | rfl | rfl : w = 0 ∨ w = 1 ∨ w = 2 := by omega
      · refine rn T 99 [ps ⟨#[97]⟩] ?_
        exact rt1 T (pm ⟨2, 0, ⟨#[97]⟩, [], []⟩) (⟨_, k + 1 + 1, dM0, by omega, by omega, rfl, rfl⟩)
      · refine rn T 99 [ps ⟨#[98]⟩] ?_
        exact rt1 T (pm ⟨2, 0, ⟨#[98]⟩, [], []⟩) (⟨_, k + 1 + 1, dM0, by omega, by omega, rfl, rfl⟩)
      · refine rn T 99 [ps ⟨#[99]⟩] ?_
        exact rt1 T (pm ⟨2, 0, ⟨#[99]⟩, [], []⟩) (⟨_, k + 1 + 1, dM0, by omega, by omega, rfl, rfl⟩)
  | succ d ih =>
    intro hd k hk hk1
    have h2 : (2 : Int) ^ (d + 1) = 2 * 2 ^ d := by rw [Int.pow_succ]; omega
    have h3 : (1 : Int) ≤ 2 ^ d := by
      have : (0 : Int) < 2 ^ d := Int.pow_pos (by omega)
      omega
    refine ⟨?_, TermR.ne (by omega) hH⟩
    refine bdy Tryz.func26 (fun _ => 0) rfl ?_
    refine rn T 99 [] ?_
    refine rn T 3 [] ?_
    by_cases hd0 : d = 0
    · rw [show decide (((d + 1 : Nat) : Int) < 2) = true by simp; omega]
      refine rn T 99 [] ?_
      refine cts ?_
      refine rn T 99 [] ?_
      refine hes (pick G s hs (k) 3 (by omega) (by omega) (by omega) hH) ?_; rintro _ _ ⟨v, hv0, hv1, rfl, rfl⟩ _ _; refine op ?_
      refine rn T 99 [] ?_
      by_cases hv : v = 0
      · refine ctq rfl (by simp [hv]) ?_
        refine rn T 99 [] ?_
        refine hes (pick G s hs (k + 1) 4 (by omega) (by omega) (by omega) hH) ?_; rintro _ _ ⟨w, hw0, hw1, rfl, rfl⟩ _ _; refine op ?_
        refine rn T 99 [] ?_
        exact rt1 T (pm ⟨1, w, ⟨#[]⟩, [], []⟩) (⟨_, k + 1 + 1, dM0, by omega, by omega, rfl, rfl⟩)
      · refine cfq rfl (by simp [hv]) ?_
        refine rn T 99 [] ?_
        refine hes (pick G s hs (k + 1) 3 (by omega) (by omega) (by omega) hH) ?_; rintro _ _ ⟨w, hw0, hw1, rfl, rfl⟩ _ _; refine op ?_
        obtain rfl | rfl | rfl : w = 0 ∨ w = 1 ∨ w = 2 := by omega
        · refine rn T 99 [ps ⟨#[97]⟩] ?_
          exact rt1 T (pm ⟨2, 0, ⟨#[97]⟩, [], []⟩) (⟨_, k + 1 + 1, dM0, by omega, by omega, rfl, rfl⟩)
        · refine rn T 99 [ps ⟨#[98]⟩] ?_
          exact rt1 T (pm ⟨2, 0, ⟨#[98]⟩, [], []⟩) (⟨_, k + 1 + 1, dM0, by omega, by omega, rfl, rfl⟩)
        · refine rn T 99 [ps ⟨#[99]⟩] ?_
          exact rt1 T (pm ⟨2, 0, ⟨#[99]⟩, [], []⟩) (⟨_, k + 1 + 1, dM0, by omega, by omega, rfl, rfl⟩)
    · rw [show decide (((d + 1 : Nat) : Int) < 2) = false by simp; omega]
      refine rn T 99 [] ?_
      refine hes (pick G s hs k 4 hk (by omega) (by omega) hH) ?_; rintro _ _ ⟨u, hu0, hu1, rfl, rfl⟩ _ _; refine op ?_
      refine rn T 99 [] ?_
      by_cases hu : u = 0
      · subst hu
        refine cts ?_
        refine rn T 99 [] ?_
        refine hes (pick G s hs (k + 1) 3 (by omega) (by omega) (by omega) hH) ?_; rintro _ _ ⟨v, hv0, hv1, rfl, rfl⟩ _ _; refine op ?_
        refine rn T 99 [] ?_
        by_cases hv : v = 0
        · refine ctq rfl (by simp [hv]) ?_
          refine rn T 99 [] ?_
          refine hes (pick G s hs (k + 1 + 1) 4 (by omega) (by omega) (by omega) hH) ?_; rintro _ _ ⟨w, hw0, hw1, rfl, rfl⟩ _ _; refine op ?_
          refine rn T 99 [] ?_
          exact rt1 T (pm ⟨1, w, ⟨#[]⟩, [], []⟩) (⟨_, k + 1 + 1 + 1, dM0, by omega, by omega, rfl, rfl⟩)
        · refine cfq rfl (by simp [hv]) ?_
          refine rn T 99 [] ?_
          refine hes (pick G s hs (k + 1 + 1) 3 (by omega) (by omega) (by omega) hH) ?_; rintro _ _ ⟨w, hw0, hw1, rfl, rfl⟩ _ _; refine op ?_
          obtain rfl | rfl | rfl : w = 0 ∨ w = 1 ∨ w = 2 := by omega
          · refine rn T 99 [ps ⟨#[97]⟩] ?_
            exact rt1 T (pm ⟨2, 0, ⟨#[97]⟩, [], []⟩) (⟨_, k + 1 + 1 + 1, dM0, by omega, by omega, rfl, rfl⟩)
          · refine rn T 99 [ps ⟨#[98]⟩] ?_
            exact rt1 T (pm ⟨2, 0, ⟨#[98]⟩, [], []⟩) (⟨_, k + 1 + 1 + 1, dM0, by omega, by omega, rfl, rfl⟩)
          · refine rn T 99 [ps ⟨#[99]⟩] ?_
            exact rt1 T (pm ⟨2, 0, ⟨#[99]⟩, [], []⟩) (⟨_, k + 1 + 1 + 1, dM0, by omega, by omega, rfl, rfl⟩)
      · refine cfq rfl (by simp [hu]) ?_
        refine rn T 99 [] ?_
        refine rn T 99 [] ?_
        refine hes (pick G s hs (k + 1) 3 (by omega) (by omega) (by omega) hH) ?_; rintro _ _ ⟨n, hn0, hn1, rfl, rfl⟩ _ _; refine op ?_
        refine rn T 99 [] ?_
        refine AW.lp (fun x : List Int × Int × Int => MS.mk [(6, .p (pi x.2.2)), (5, .vw (.L 26) x.1.length), (0, .ptr (.S 0) 0), (1, .p (pi (d + 1 : Nat))), (4, .ptr (.L 4) 0)] 89 [(26, .rw 1 3 (x.1.map pi)), (4, .box 26 [.p (pi 0), .p (pi 0), .p (ps ⟨#[]⟩), .nil, .nil])] (rdr s x.2.1 :: H0)) (fun m x => (m : Int) = x.2.2 ∧ x.1.length + m ≤ 2 ∧ k + 2 ≤ x.2.1 ∧ x.2.1 + x.2.2 ≤ k + 4) n.toNat ([], k + 1 + 1, n) (by simp only [List.length_nil]; omega) (wk_of rfl rfl ⟨.inl rfl, .inl rfl, .inl rfl, .inl rfl, .inl rfl, trivial⟩ ⟨.inl rfl, .inl rfl, trivial⟩) ?_
        intro m ⟨p, k', n'⟩ ⟨g1, g2, g3, g4⟩
        simp only at g1 g2 g3 g4
        refine op ?_
        refine rn T 99 [] ?_
        by_cases hm : m = 0
        · subst hm
          refine cfq rfl (by simp; omega) ?_
          refine rn T 99 [] ?_
          refine hes (pick G s hs k' 6 (by omega) (by omega) (by omega) hH) ?_; rintro _ _ ⟨v, hv0, hv1, rfl, rfl⟩ _ _; refine op ?_
          obtain rfl | rfl | rfl | rfl | rfl | rfl : v = 0 ∨ v = 1 ∨ v = 2 ∨ v = 3 ∨ v = 4 ∨ v = 5 := by omega
          · refine rn T 99 [] ?_
            refine cts ?_
            refine cts ?_
            refine rn T 99 [] ?_
            rw [wkP (by omega)]
            refine hes (ih (by omega) (k' + 1) (by omega) (by omega)) ?_; rintro _ _ ⟨t1, k1, h11, h12, h13, rfl, rfl⟩ _ _; refine op ?_
            refine rn T 99 [] ?_
            exact rt1 T (pm ⟨7, 0, ⟨#[]⟩, p, [t1]⟩) (⟨_, k1, dM1 h11, by omega, by omega, rfl, rfl⟩)
          · refine rn T 99 [] ?_
            refine cfs ?_
            refine rn T 99 [] ?_
            refine cts ?_
            refine rn T 99 [] ?_
            rw [wkP (by omega)]
            refine hes (ih (by omega) (k' + 1) (by omega) (by omega)) ?_; rintro _ _ ⟨t1, k1, h11, h12, h13, rfl, rfl⟩ _ _; refine op ?_
            refine rn T 99 [] ?_
            exact rt1 T (pm ⟨7, 0, ⟨#[]⟩, p, [t1]⟩) (⟨_, k1, dM1 h11, by omega, by omega, rfl, rfl⟩)
          · refine rn T 99 [] ?_
            refine cfs ?_
            refine rn T 99 [] ?_
            refine cfs ?_
            refine rn T 99 [] ?_
            refine cts ?_
            refine cts ?_
            refine rn T 99 [] ?_
            rw [wkP (by omega)]
            refine hes (ih (by omega) (k' + 1) (by omega) (by omega)) ?_; rintro _ _ ⟨t1, k1, h11, h12, h13, rfl, rfl⟩ _ _; refine op ?_
            refine rn T 99 [] ?_
            rw [wkP (by omega)]
            refine hes (ih (by omega) k1 (by omega) (by omega)) ?_; rintro _ _ ⟨t2, k2, h21, h22, h23, rfl, rfl⟩ _ _; refine op ?_
            refine rn T 99 [] ?_
            exact rt1 T (pm ⟨8, 0, ⟨#[]⟩, p, [t1, t2]⟩) (⟨_, k2, dM2 h11 h21, by omega, by omega, rfl, rfl⟩)
          · refine rn T 99 [] ?_
            refine cfs ?_
            refine rn T 99 [] ?_
            refine cfs ?_
            refine rn T 99 [] ?_
            refine cfs ?_
            refine rn T 99 [] ?_
            refine cts ?_
            refine rn T 99 [] ?_
            rw [wkP (by omega)]
            refine hes (ih (by omega) (k' + 1) (by omega) (by omega)) ?_; rintro _ _ ⟨t1, k1, h11, h12, h13, rfl, rfl⟩ _ _; refine op ?_
            refine rn T 99 [] ?_
            rw [wkP (by omega)]
            refine hes (ih (by omega) k1 (by omega) (by omega)) ?_; rintro _ _ ⟨t2, k2, h21, h22, h23, rfl, rfl⟩ _ _; refine op ?_
            refine rn T 99 [] ?_
            exact rt1 T (pm ⟨8, 0, ⟨#[]⟩, p, [t1, t2]⟩) (⟨_, k2, dM2 h11 h21, by omega, by omega, rfl, rfl⟩)
          · refine rn T 99 [] ?_
            refine cfs ?_
            refine rn T 99 [] ?_
            refine cfs ?_
            refine rn T 99 [] ?_
            refine cfs ?_
            refine rn T 99 [] ?_
            refine cfs ?_
            refine rn T 99 [] ?_
            refine cts ?_
            refine rn T 99 [] ?_
            rw [wkP (by omega)]
            refine hes (ih (by omega) (k' + 1) (by omega) (by omega)) ?_; rintro _ _ ⟨t1, k1, h11, h12, h13, rfl, rfl⟩ _ _; refine op ?_
            refine rn T 99 [] ?_
            rw [wkP (by omega)]
            refine hes (ih (by omega) k1 (by omega) (by omega)) ?_; rintro _ _ ⟨t2, k2, h21, h22, h23, rfl, rfl⟩ _ _; refine op ?_
            refine rn T 99 [] ?_
            exact rt1 T (pm ⟨6, 0, ⟨#[]⟩, [], [t1, t2]⟩) (⟨_, k2, dM2 h11 h21, by omega, by omega, rfl, rfl⟩)
          · refine rn T 99 [] ?_
            refine cfs ?_
            refine rn T 99 [] ?_
            refine cfs ?_
            refine rn T 99 [] ?_
            refine cfs ?_
            refine rn T 99 [] ?_
            refine cfs ?_
            refine rn T 99 [] ?_
            refine cfs ?_
            refine rn T 99 [] ?_
            refine hes (pick G s hs (k' + 1) 3 (by omega) (by omega) (by omega) hH) ?_; rintro _ _ ⟨w, hw0, hw1, rfl, rfl⟩ _ _; refine op ?_
            refine rn T 1 [] ?_
            rw [wk (n := 3 + w) (by omega) (by omega)]
            refine rn T 99 [] ?_
            rw [wkP (by omega)]
            refine hes (ih (by omega) (k' + 1 + 1) (by omega) (by omega)) ?_; rintro _ _ ⟨t1, k1, h11, h12, h13, rfl, rfl⟩ _ _; refine op ?_
            refine rn T 99 [] ?_
            rw [wkP (by omega)]
            refine hes (ih (by omega) k1 (by omega) (by omega)) ?_; rintro _ _ ⟨t2, k2, h21, h22, h23, rfl, rfl⟩ _ _; refine op ?_
            refine rn T 99 [] ?_
            exact rt1 T (pm ⟨3 + w, 0, ⟨#[]⟩, [], [t1, t2]⟩) (⟨_, k2, dM2 h11 h21, by omega, by omega, rfl, rfl⟩)
        · refine ctq rfl (by simp; omega) ?_
          refine rn T 99 [] ?_
          refine hes (pick G s hs k' 2 (by omega) (by omega) (by omega) hH) ?_; rintro _ _ ⟨v, hv0, hv1, rfl, rfl⟩ _ _; refine op ?_
          refine rn T 99 [] ?_
          refine rn T 99 [] ?_
          have hlen : p.length + [pi v].length = (p ++ [v]).length := by simp
          have hq : p.map pi ++ [pi v] = (p ++ [v]).map pi := by simp
          rw [List.length_map, hlen, wk (n := n' - 1) (by omega) (by omega)]
          refine nxt (m - 1) ((p ++ [v], k' + 1, n' - 1)) (⟨by simp only; omega, by simp only [List.length_append, List.length_singleton]; omega, by simp only; omega, by simp only; omega⟩)
end Go.Proofs.YtglkkbgflnpjeaaGreatDoor.K
end
section
namespace Go.Proofs.YtglkkbgflnpjeaaGreatDoor.En
set_option linter.unusedVariables false
set_option linter.unusedSimpArgs false
open Go Go.RowKit Go.Proofs.YtglkkbgflnpjeaaGreatDoor.PA
variable {P : Program} {E : Ent} {σ : St} {a : Act} {w : World} {S : Nat → Nat → Prop} {g : Nm → GV}
abbrev ocs (vs : List PV) : List (List TV) := vs.map fun y => y.cells.map oc
theorem ocs_flat (vs : List PV) : (ocs vs).flatten = (flat vs).map oc := flat_oc vs
theorem LRep.plain {v : PV} {V : Value} {B : Nat → Prop} (h : LRep w S v V B) : plainB v = true → PRep w S v V ∧ ∀ b, ¬ B b := by
  induction h with
  | p h hB => exact fun _ => ⟨h, hB⟩
  | any h hB => intro hp; unfold plainB at hp; cases hp
  | ag F hs h h1 hd hB ih => intro hp; unfold plainB at hp; cases hp
  | own fl F ho hz h h1 hd hb hB ih => intro hp; unfold plainB at hp; cases hp
theorem oc_all {q : Nm → Prop} (y : PV) : (oc y).All q := by
  unfold oc
  split
  · exact .p
  · exact .o
theorem cell_l {Γ : Env} {y : PV} {u : Value} {F : Nat → Prop} (h : CellRep Γ (oc y) u F) : LRep Γ.w Γ.S y u F := by
  unfold oc at h
  split at h
  · cases h with | t h hF => cases h with | p h => exact .p h hF
  · cases h with
    | t h _ => cases h
    | o h => exact h
theorem Rep.absorb (h : Rep E σ a w S g) {n m : Nm} {z z' : Nat} {t t' : TypeId} {ks ks2 ks' : List Nm} {xs xs' : List (List TV)} {vs : List PV} {q : Nat} (hnm : n ≠ m) (hn : σ.ob n = some (.ow z t ks xs)) (hm : σ.ob m = some (.ow z' t' ks2 (ocs vs)))
    (hq : xs.flatten[q]? = some (.vw m vs.length)) (hx : xs'.flatten = xs.flatten.set q (.o (.own z' t' vs))) (hz : ∀ x ∈ xs', x.length = z) (hl : xs'.length = xs.length) (hk : ∀ c ∈ xs', ∀ x ∈ c, x.All (· ∈ ks')) (hks : ∀ k ∈ ks', k ∈ ks) :
    ∃ S' g', Rep E ((σ.set n (.ow z t ks' xs')).set m .gone) a w S' g' := by
  obtain ⟨p1, p2, fl, F, o1, o2, o3, o4, o5, o6, o7, o8⟩ := h.ob n _ hn
  obtain ⟨_, _, fl2, F2, r1, r2, r3, r4, r5, r6, r7, r8⟩ := h.ob m _ hm
  have o1' : w.ownsRow 0 t z (g n).v xs.length fl := o1
  have r1' : w.ownsRow 0 t' z' (g m).v (ocs vs).length fl2 := r1
  have o7' : ∀ b, (g n).B b ↔ blk (g n).v = some b ∨ ∃ k, k < fl.length ∧ F k b := o7
  have r7' : ∀ b, (g m).B b ↔ blk (g m).v = some b ∨ ∃ k, k < fl2.length ∧ F2 k b := r7
  have o8' : ∀ b, (g n).B b → ∀ k, ¬ S b k := o8
  have r8' : ∀ b, (g m).B b → ∀ k, ¬ S b k := r8
  have o6' : ∀ k b, k < fl.length → F k b → blk (g n).v ≠ some b := o6
  have r6' : ∀ k b, k < fl2.length → F2 k b → blk (g m).v ≠ some b := r6
  have hns : (σ.ob n).isSome := by rw [hn]; rfl
  have hms : (σ.ob m).isSome := by rw [hm]; rfl
  have hsm : ((σ.set n (.ow z t ks' xs')).ob m) = some (.ow z' t' ks2 (ocs vs)) := by rw [set_other _ (fun e => hnm e.symm)]; exact hm
  let g' : Nm → GV := updG (updG g n ⟨(g n).v, fun b => (g n).B b ∨ (g m).B b⟩) m ⟨(g m).v, fun _ => False⟩
  have hgm : g' m = ⟨(g m).v, fun _ => False⟩ := updG_same _ _ _
  have hgn : g' n = ⟨(g n).v, fun b => (g n).B b ∨ (g m).B b⟩ := by
    show updG (updG g n _) m _ n = _
    unfold updG
    rw [if_neg hnm, if_pos rfl]
  have hgo : ∀ p, p ≠ n → p ≠ m → g' p = g p := fun p h1 h2 => by
    show updG (updG g n _) m _ p = _
    unfold updG
    rw [if_neg h2, if_neg h1]
  have hob' : ∀ p, p ≠ n → p ≠ m → ((σ.set n (.ow z t ks' xs')).set m .gone).ob p = σ.ob p := fun p h1 h2 => by rw [set_other _ h2, set_other _ h1]
  have hobn : ((σ.set n (.ow z t ks' xs')).set m .gone).ob n = some (.ow z t ks' xs') := by rw [set_other _ hnm, set_same _ hn]
  have hobm : ((σ.set n (.ow z t ks' xs')).set m .gone).ob m = some .gone := set_same _ hsm
  have hHl : ((σ.set n (.ow z t ks' xs')).set m .gone).H.length = σ.H.length := by rw [set_H, set_H]
  have hgv : ∀ p, (g' p).v = (g p).v := fun p => by
    by_cases e1 : p = m
    · rw [e1, hgm]
    · by_cases e2 : p = n
      · rw [e2, hgn]
      · rw [hgo p e2 e1]
  have hN : ∀ p, NmOk (σ.env w S g) (((σ.set n (.ow z t ks' xs')).set m .gone).env w S g') p := by
    intro p
    refine .inl ⟨hgv p, ?_⟩
    show (((σ.set n (.ow z t ks' xs')).set m .gone).ob p).bind AObj.ln = none ∨ (((σ.set n (.ow z t ks' xs')).set m .gone).ob p).bind AObj.ln = (σ.ob p).bind AObj.ln
    by_cases e1 : p = m
    · left; rw [e1, hobm]; rfl
    · by_cases e2 : p = n
      · right; rw [e2, hobn, hn]; simp [AObj.ln, hl]
      · right; rw [hob' p e2 e1]
  have hmove : ∀ (v : TV) V, TRep (σ.env w S g) v V → TRep (((σ.set n (.ow z t ks' xs')).set m .gone).env w S g') v V := fun v V hv =>
    TRep.move (Γ := σ.env w S g) (Γ' := ((σ.set n (.ow z t ks' xs')).set m .gone).env w S g') (q := fun _ => True) (fun b k hk => ⟨hk, rfl⟩) (Nat.le_of_eq hHl.symm) (fun m _ _ => hN m) hv (hAllT v)
  have hgB : ∀ p b, (g' p).B b → (p ≠ m) ∧ ((g p).B b ∨ (p = n ∧ (g m).B b)) := fun p b hb => by
    by_cases e1 : p = m
    · subst e1; rw [hgm] at hb; exact hb.elim
    · refine ⟨e1, ?_⟩
      by_cases e2 : p = n
      · subst e2; rw [hgn] at hb; exact hb.imp id (fun q => ⟨rfl, q⟩)
      · rw [hgo p e2 e1] at hb; exact .inl hb
  have hso : ∀ p, (((σ.set n (.ow z t ks' xs')).set m .gone).ob p).isSome → (σ.ob p).isSome := fun p hp => by
    by_cases e1 : p = m
    · rw [e1]; exact hms
    · by_cases e2 : p = n
      · rw [e2]; exact hns
      · rwa [hob' p e2 e1] at hp
  have hlen : xs.flatten.length = fl.length := by rw [flatten_len o2, o1'.1]
  have hql : q < fl.length := by rw [← hlen]; exact (List.getElem?_eq_some_iff.1 hq).1
  have hdj : ∀ b, (g n).B b → ¬ (g m).B b := h.dj n m hnm hns hms
  refine ⟨S, g', h.re (by rw [set_nt, set_nt]) (by rw [set_G, set_G]) (Nat.le_of_eq hHl.symm) (fun t V hv => by rw [set_tm, set_tm]; exact hmove _ _ hv) (fun b k hk => hk) (fun b k hk => .inl hk) ?_ ?_ ?_ ?_ (fun i _ => hN (.S i))⟩
  · intro p o ho
    by_cases e1 : p = m
    · subst e1
      rw [hobm] at ho
      cases ho
      intro b hb
      have hb : (g' p).B b := hb
      rw [hgm] at hb
      exact hb
    · by_cases e2 : p = n
      · subst e2
        rw [hobn] at ho
        cases ho
        have hg2 : ((((σ.set p (.ow z t ks' xs')).set m .gone).env w S g').g p) = ⟨(g p).v, fun b => (g p).B b ∨ (g m).B b⟩ := hgn
        refine ⟨fun k hk => Nm.lt_mono (p1 k (hks k hk)) (Nat.le_of_eq hHl.symm), hk, fl, fun k => if k = q then (g m).B else F k, ?_, hz, ?_, o4, ?_, ?_, ?_, ?_⟩
        · rw [hg2, hl]; exact o1'
        · intro k y u hy hu
          rw [hx] at hy
          by_cases ek : k = q
          · subst ek
            have hkx : k < xs.flatten.length := by rw [hlen]; exact (List.getElem?_eq_some_iff.1 hu).1
            rw [List.getElem?_set_self hkx] at hy
            cases hy
            show CellRep _ _ u (if k = k then (g m).B else F k)
            rw [if_pos rfl]
            refine .o ?_
            have h0 := o3 k _ u hq hu
            cases h0 with | t h0 _ =>
            cases h0 with | vw _ _ h0 =>
            have hln : (σ.env w S g).ln m = some vs.length := by
              show (σ.ob m).bind AObj.ln = _
              rw [hm]; simp [AObj.ln]
            have hV := (h0 _ hln).2 rfl
            rw [hV]
            have hl3 : (ocs vs).length = vs.length := by simp
            refine LRep.own fl2 F2 (by rw [← hl3]; exact r1') (fun y hy => ?_) (fun k y u hy hu => ?_) r4 r5 r6' r7'
            · have := r2 _ (List.mem_map.2 ⟨y, hy, rfl⟩)
              simpa using this
            · have hy2 : (ocs vs).flatten[k]? = some (oc y) := by rw [ocs_flat, List.getElem?_map, hy]; rfl
              exact cell_l (Γ := σ.env w S g) (r3 k _ u hy2 hu)
          · rw [List.getElem?_set_ne (fun e => ek e.symm)] at hy
            have h0 := o3 k y u hy hu
            show CellRep _ _ u (if k = q then (g m).B else F k)
            rw [if_neg ek]
            exact h0.move (Γ := σ.env w S g) (Γ' := ((σ.set p (.ow z t ks' xs')).set m .gone).env w S g') (q := fun _ => True) (fun b k hk => ⟨hk, rfl⟩) (Nat.le_of_eq hHl.symm) (fun m _ _ => hN m) (hAllT _) (fun b _ => rfl)
        · intro i j b hi hj hij h1 h2
          have h1 : (if i = q then (g m).B else F i) b := h1
          have h2 : (if j = q then (g m).B else F j) b := h2
          by_cases ei : i = q
          · rw [if_pos ei] at h1
            rw [if_neg (fun e => hij (ei.trans e.symm))] at h2
            exact hdj b ((o7' b).2 (.inr ⟨j, hj, h2⟩)) h1
          · rw [if_neg ei] at h1
            by_cases ej : j = q
            · rw [if_pos ej] at h2
              exact hdj b ((o7' b).2 (.inr ⟨i, hi, h1⟩)) h2
            · rw [if_neg ej] at h2
              exact o5 i j b hi hj hij h1 h2
        · intro i b hi h1
          have h1 : (if i = q then (g m).B else F i) b := h1
          rw [hg2]
          intro e
          by_cases ei : i = q
          · rw [if_pos ei] at h1
            exact hdj b ((o7' b).2 (.inl e)) h1
          · rw [if_neg ei] at h1
            exact o6' i b hi h1 e
        · intro b
          rw [hg2]
          constructor
          · rintro (hb | hb)
            · rcases (o7' b).1 hb with e | ⟨k, hk, hF⟩
              · exact .inl e
              · by_cases ek : k = q
                · subst ek
                  exfalso
                  have hkx : k < xs.flatten.length := by rw [hlen]; exact hk
                  have h0 := o3 k _ fl[k] hq (List.getElem?_eq_getElem hk)
                  cases h0 with | t h0 hF0 => exact hF0 b hF
                · exact .inr ⟨k, hk, by show (if k = q then (g m).B else F k) b; rw [if_neg ek]; exact hF⟩
            · exact .inr ⟨q, hql, by show (if q = q then (g m).B else F q) b; rw [if_pos rfl]; exact hb⟩
          · rintro (e | ⟨k, hk, hF⟩)
            · exact .inl ((o7' b).2 (.inl e))
            · have hF : (if k = q then (g m).B else F k) b := hF
              by_cases ek : k = q
              · rw [if_pos ek] at hF; exact .inr hF
              · rw [if_neg ek] at hF; exact .inl ((o7' b).2 (.inr ⟨k, hk, hF⟩))
        · rw [hg2]
          intro b hb k hk
          rcases hb with hb | hb
          · exact o8' b hb k hk
          · exact r8' b hb k hk
      · rw [hob' p e2 e1] at ho
        exact ORep.move (Γ := σ.env w S g) (Γ' := ((σ.set n (.ow z t ks' xs')).set m .gone).env w S g') (q := fun _ => True) (fun b k hk => ⟨hk, rfl⟩) (Nat.le_of_eq hHl.symm) (fun m _ _ => hN m) (h.ob p o ho) (hAllO o) (hgo p e2 e1) (fun b hb => ⟨rfl, fun k hk => hk⟩)
  · intro p1' p2' hne h1 h2 b b1 b2
    obtain ⟨c1, d1⟩ := hgB p1' b b1
    obtain ⟨c2, d2⟩ := hgB p2' b b2
    rcases d1 with d1 | ⟨rfl, d1⟩
    · rcases d2 with d2 | ⟨rfl, d2⟩
      · exact h.dj p1' p2' hne (hso _ h1) (hso _ h2) b d1 d2
      · exact h.dj p1' m c1 (hso _ h1) hms b d1 d2
    · rcases d2 with d2 | ⟨e, _⟩
      · exact h.dj p2' m c2 (hso _ h2) hms b d2 d1
      · exact hne e.symm
  · intro p hp b hb
    obtain ⟨c1, d1⟩ := hgB p b hb
    rcases d1 with d1 | ⟨rfl, d1⟩
    · exact ⟨p, hso p hp, d1⟩
    · exact ⟨m, hms, d1⟩
  · intro i o ho
    by_cases e1 : Nm.S i = m
    · subst e1
      rw [show ((σ.set n (.ow z t ks' xs')).set (.S i) .gone).H[i]? = some .gone from hobm] at ho
      cases ho
      trivial
    · by_cases e2 : Nm.S i = n
      · subst e2
        rw [show ((σ.set (.S i) (.ow z t ks' xs')).set m .gone).H[i]? = some (.ow z t ks' xs') from hobn] at ho
        cases ho
        exact fun k hk => h.hs i _ hn k (hks k hk)
      · rw [show ((σ.set n (.ow z t ks' xs')).set m .gone).H[i]? = σ.H[i]? from hob' _ e2 e1] at ho
        exact h.hs i o ho
theorem l_cell {Γ : Env} {y : PV} {u : Value} {F : Nat → Prop} (h : LRep Γ.w Γ.S y u F) : CellRep Γ (oc y) u F := by
  unfold oc
  split
  · rename_i hp
    obtain ⟨h1, h2⟩ := h.plain hp
    exact .t (.p h1) h2
  · exact .o h
theorem Rep.split (h : Rep E σ a w S g) {n m : Nm} {z z' : Nat} {t t' : TypeId} {ks ks' : List Nm} {xs xs' : List (List TV)} {vs : List PV} {q : Nat} (hn : σ.ob n = some (.ow z t ks xs)) (hm : Fresh σ m)
    (hq : xs.flatten[q]? = some (.o (.own z' t' vs))) (hx : xs'.flatten = xs.flatten.set q (.vw m vs.length)) (hz : ∀ x ∈ xs', x.length = z) (hl : xs'.length = xs.length) (hk : ∀ c ∈ xs', ∀ x ∈ c, x.All (· ∈ ks')) (hks : ∀ k ∈ ks', k ∈ ks ∨ k = m) (hSm : ∀ i, n = .S i → ∃ j, m = .S j) :
    ∃ S' g', Rep E ((σ.set n (.ow z t ks' xs')).add m (.ow z' t' [] (ocs vs))) a w S' g' := by
  have hns : (σ.ob n).isSome := by rw [hn]; rfl
  have hmn : σ.ob m = none := hm.gone
  have hne : n ≠ m := fun e => by rw [e, hmn] at hn; cases hn
  obtain ⟨p1, p2, fl, F, o1, o2, o3, o4, o5, o6, o7, o8⟩ := h.ob n _ hn
  have o1' : w.ownsRow 0 t z (g n).v xs.length fl := o1
  have o7' : ∀ b, (g n).B b ↔ blk (g n).v = some b ∨ ∃ k, k < fl.length ∧ F k b := o7
  have o8' : ∀ b, (g n).B b → ∀ k, ¬ S b k := o8
  have o6' : ∀ k b, k < fl.length → F k b → blk (g n).v ≠ some b := o6
  have hlen : xs.flatten.length = fl.length := by rw [flatten_len o2, o1'.1]
  have hql : q < fl.length := by rw [← hlen]; exact (List.getElem?_eq_some_iff.1 hq).1
  have hcell := o3 q _ fl[q] hq (List.getElem?_eq_getElem hql)
  obtain ⟨V, hV⟩ : ∃ V, V = fl[q] := ⟨_, rfl⟩
  rw [← hV] at hcell
  have hLR : LRep w S (.own z' t' vs) V (F q) := by
    cases hcell with
    | t h _ => cases h
    | o h => exact h
  obtain ⟨fl2, F2, r1, r2, r3, r4, r5, r6, r7⟩ : ∃ (fl2 : List Value) (F2 : Nat → Nat → Prop), w.ownsRow 0 t' z' V vs.length fl2 ∧ (∀ x ∈ vs, x.cells.length = z') ∧ (∀ (k : Nat) y u, (flat vs)[k]? = some y → fl2[k]? = some u → LRep w S y u (F2 k)) ∧ (∀ u ∈ fl2, u.oneCell' = true) ∧
      (∀ i j b, i < fl2.length → j < fl2.length → i ≠ j → F2 i b → ¬ F2 j b) ∧ (∀ i b, i < fl2.length → F2 i b → blk V ≠ some b) ∧ (∀ b, F q b ↔ blk V = some b ∨ ∃ k, k < fl2.length ∧ F2 k b) := by
    cases hLR with
    | p h hB => cases h
    | own fl2 F2 a1 a2 a3 a4 a5 a6 a7 => exact ⟨fl2, F2, a1, a2, a3, a4, a5, a6, a7⟩
  have hFn : ∀ b, F q b → (g n).B b := fun b hb => (o7' b).2 (.inr ⟨q, hql, hb⟩)
  have hfs : Fresh (σ.set n (.ow z t ks' xs')) m ∨ True := .inr trivial
  let τ := (σ.set n (.ow z t ks' xs')).add m (.ow z' t' [] (ocs vs))
  have hobm : τ.ob m = some (.ow z' t' [] (ocs vs)) := by
    cases m with
    | L d => show updT _ d _ d = _; rw [updT_eq]; exact if_pos rfl
    | S i =>
      obtain rfl : i = σ.H.length := hm
      show ((σ.set n (.ow z t ks' xs')).H ++ [AObj.ow z' t' [] (ocs vs)])[σ.H.length]? = _
      rw [List.getElem?_append_right (by rw [set_H]; omega), set_H]; simp
  have hobo : ∀ p, p ≠ m → τ.ob p = (σ.set n (.ow z t ks' xs')).ob p := by
    intro p hp
    cases m with
    | L d =>
      cases p with
      | L e => show updT _ d _ e = _; rw [updT_eq]; exact if_neg (fun q => hp (by rw [q]))
      | S i => rfl
    | S i =>
      obtain rfl : i = σ.H.length := hm
      cases p with
      | L e => rfl
      | S j =>
        have hj : j ≠ σ.H.length := fun q => hp (by rw [q])
        show ((σ.set n (.ow z t ks' xs')).H ++ [AObj.ow z' t' [] (ocs vs)])[j]? = (σ.set n (.ow z t ks' xs')).H[j]?
        by_cases hlt : j < (σ.set n (.ow z t ks' xs')).H.length
        · rw [List.getElem?_append_left hlt]
        · rw [set_H] at hlt
          rw [List.getElem?_eq_none (by simp [set_H]; omega), List.getElem?_eq_none (by rw [set_H]; omega)]
  have hobn : τ.ob n = some (.ow z t ks' xs') := by rw [hobo n hne, set_same _ hn]
  have hobp : ∀ p, p ≠ m → p ≠ n → τ.ob p = σ.ob p := fun p h1 h2 => by rw [hobo p h1, set_other _ h2]
  have hHl : σ.H.length ≤ τ.H.length := by have := add_H (σ := σ.set n (.ow z t ks' xs')) (m := m) (.ow z' t' [] (ocs vs)); rw [set_H] at this; exact this
  have hmlt : m.lt τ.H.length := by
    cases m with
    | L d => trivial
    | S i => exact (List.getElem?_eq_some_iff.1 (show τ.H[i]? = some _ from hobm)).1
  let g' : Nm → GV := updG (updG g n ⟨(g n).v, fun b => (g n).B b ∧ ¬ F q b⟩) m ⟨V, F q⟩
  have hgm : g' m = ⟨V, F q⟩ := updG_same _ _ _
  have hgn : g' n = ⟨(g n).v, fun b => (g n).B b ∧ ¬ F q b⟩ := by
    show updG (updG g n _) m _ n = _
    unfold updG
    rw [if_neg hne, if_pos rfl]
  have hgo : ∀ p, p ≠ m → p ≠ n → g' p = g p := fun p h1 h2 => by
    show updG (updG g n _) m _ p = _
    unfold updG
    rw [if_neg h1, if_neg h2]
  have hN : ∀ p, p ≠ m → NmOk (σ.env w S g) (τ.env w S g') p := by
    intro p hp
    by_cases e : p = n
    · subst e
      refine .inl ⟨by show (g' p).v = _; rw [hgn]; rfl, .inr ?_⟩
      show (τ.ob p).bind AObj.ln = (σ.ob p).bind AObj.ln
      rw [hobn, hn]; simp [AObj.ln, hl]
    · refine .inl ⟨by show (g' p).v = _; rw [hgo p hp e]; rfl, .inr ?_⟩
      show (τ.ob p).bind AObj.ln = (σ.ob p).bind AObj.ln
      rw [hobp p hp e]
  have hNq : ∀ p, p.lt σ.H.length → p ≠ m → NmOk (σ.env w S g) (τ.env w S g') p := fun p _ hp => hN p hp
  have hNl : ∀ p, p.lt σ.H.length → (∃ i, m = .S i) → NmOk (σ.env w S g) (τ.env w S g') p := fun p hp ⟨i, e⟩ => hN p (fun e2 => by
    subst e2; subst e
    obtain rfl : i = σ.H.length := hm
    exact Nat.lt_irrefl _ hp)
  have hmv : ∀ (v : TV) V', v.All (· ≠ m) ∨ (∃ i, m = .S i) → TRep (σ.env w S g) v V' → TRep (τ.env w S g') v V' := fun v V' hv ht => by
    rcases hv with hv | hv
    · exact TRep.move (Γ := σ.env w S g) (Γ' := τ.env w S g') (q := (· ≠ m)) (fun b k hk => ⟨hk, rfl⟩) hHl (fun p h1 h2 => hNq p h1 h2) ht hv
    · exact TRep.move (Γ := σ.env w S g) (Γ' := τ.env w S g') (q := fun _ => True) (fun b k hk => ⟨hk, rfl⟩) hHl (fun p h1 _ => hNl p h1 hv) ht (hAllT v)
  have hclean : ∀ t, (σ.tm t).All (· ≠ m) ∨ ∃ i, m = .S i := fun t => by
    cases m with
    | L d => exact .inl (hm.2.1 t)
    | S i => exact .inr ⟨i, rfl⟩
  have hcleano : ∀ p (o : AObj), σ.ob p = some o → o.All (· ≠ m) ∨ ∃ i, m = .S i := fun p o ho => by
    cases m with
    | L d =>
      cases p with
      | L e => exact .inl (hm.2.2 e o ho)
      | S i => exact .inl ((h.hs i o ho).mono (fun x hx e => by subst e; exact hx))
    | S i => exact .inr ⟨i, rfl⟩
  have hmvo : ∀ p (o : AObj), σ.ob p = some o → g' p = g p → ORep (τ.env w S g') p o := fun p o ho hgp => by
    rcases hcleano p o ho with hv | hv
    · exact ORep.move (Γ := σ.env w S g) (Γ' := τ.env w S g') (q := (· ≠ m)) (fun b k hk => ⟨hk, rfl⟩) hHl (fun p h1 h2 => hNq p h1 h2) (h.ob p o ho) hv hgp (fun b hb => ⟨rfl, fun k hk => hk⟩)
    · exact ORep.move (Γ := σ.env w S g) (Γ' := τ.env w S g') (q := fun _ => True) (fun b k hk => ⟨hk, rfl⟩) hHl (fun p h1 _ => hNl p h1 hv) (h.ob p o ho) (hAllO o) hgp (fun b hb => ⟨rfl, fun k hk => hk⟩)
  have hgB : ∀ p b, (g' p).B b → (p = m ∧ F q b) ∨ (p ≠ m ∧ (g p).B b ∧ (p = n → ¬ F q b)) := fun p b hb => by
    by_cases e1 : p = m
    · subst e1; rw [hgm] at hb; exact .inl ⟨rfl, hb⟩
    · by_cases e2 : p = n
      · subst e2; rw [hgn] at hb; exact .inr ⟨e1, hb.1, fun _ => hb.2⟩
      · rw [hgo p e1 e2] at hb; exact .inr ⟨e1, hb, fun e => absurd e e2⟩
  have hso : ∀ p, p ≠ m → (τ.ob p).isSome → (σ.ob p).isSome := fun p hp hs => by
    by_cases e2 : p = n
    · rw [e2]; exact hns
    · rwa [hobp p hp e2] at hs
  refine ⟨S, g', h.re (σ' := τ) (by rw [show τ.nt = _ from add_nt _ _, set_nt]) (by rw [show τ.G = _ from add_G _ _, set_G]) hHl (fun t V' hv => ?_) (fun b k hk => hk) (fun b k hk => .inl hk) ?_ ?_ ?_ ?_ (fun i hi => hN (.S i) (fun e => ?_))⟩
  · have e : τ.tm t = σ.tm t := by
      cases m <;> (cases n <;> rfl)
    rw [e]; exact hmv _ _ (hclean t) hv
  · intro p o ho
    by_cases e1 : p = m
    · subst e1
      rw [hobm] at ho
      cases ho
      have hg2 : (τ.env w S g').g p = ⟨V, F q⟩ := hgm
      refine ⟨(fun k hk => by cases hk), fun c hc x hx => ?_, fl2, F2, ?_, fun c hc => ?_, fun k y u hy hu => ?_, r4, r5, ?_, ?_, ?_⟩
      · obtain ⟨y, _, rfl⟩ := List.mem_map.1 hc
        obtain ⟨u, _, rfl⟩ := List.mem_map.1 hx
        exact oc_all u
      · rw [hg2]
        show w.ownsRow 0 t' z' V (ocs vs).length fl2
        rw [show (ocs vs).length = vs.length by simp]
        exact r1
      · obtain ⟨y, hy, rfl⟩ := List.mem_map.1 hc
        simpa using r2 y hy
      · rw [ocs_flat, List.getElem?_map] at hy
        cases hz2 : (flat vs)[k]? with
        | none => rw [hz2] at hy; cases hy
        | some y' =>
          rw [hz2] at hy
          cases hy
          exact l_cell (Γ := τ.env w S g') (r3 k y' u hz2 hu)
      · rw [hg2]; exact r6
      · rw [hg2]; exact r7
      · rw [hg2]; exact fun b hb k hk => o8' b (hFn b hb) k hk
    · by_cases e2 : p = n
      · subst e2
        rw [hobn] at ho
        cases ho
        have hg2 : (τ.env w S g').g p = ⟨(g p).v, fun b => (g p).B b ∧ ¬ F q b⟩ := hgn
        refine ⟨fun k hk => ?_, hk, fl, fun k b => k ≠ q ∧ F k b, ?_, hz, ?_, o4, ?_, ?_, ?_, ?_⟩
        · rcases hks k hk with h1 | rfl
          · exact Nm.lt_mono (p1 k h1) hHl
          · exact hmlt
        · rw [hg2, hl]; exact o1'
        · intro k y u hy hu
          rw [hx] at hy
          by_cases ek : k = q
          · subst ek
            have hkx : k < xs.flatten.length := by rw [hlen]; exact hql
            rw [List.getElem?_set_self hkx] at hy
            cases hy
            rw [List.getElem?_eq_getElem hql] at hu
            cases hu
            refine .t (.vw hmlt (o4 _ (List.getElem_mem hql)) (fun k2 hk2 => ?_)) (fun b hb => hb.1 rfl)
            have hln : (τ.env w S g').ln m = some vs.length := by
              show (τ.ob m).bind AObj.ln = _
              rw [hobm]; simp [AObj.ln]
            rw [hln] at hk2
            cases hk2
            exact ⟨Nat.le_refl _, fun _ => by show fl[k] = (g' m).v; rw [hgm]; exact hV.symm⟩
          · rw [List.getElem?_set_ne (fun e => ek e.symm)] at hy
            have h0 := o3 k y u hy hu
            have hxc : (AObj.ow z t ks xs).All (· ≠ m) ∨ ∃ i, m = .S i := hcleano p _ hn
            have hyk : y.All (· ∈ ks) := by
              obtain ⟨c, hc, hyc⟩ := List.mem_flatten.1 (List.mem_of_getElem? hy)
              exact p2 c hc y hyc
            have h0' : CellRep (τ.env w S g') y u (F k) := by
              cases h0 with
              | t h0 hF =>
                refine .t (hmv y u ?_ h0) hF
                rcases hxc with hv | hv
                · exact .inl (hyk.mono (fun x hx => hv x hx))
                · exact .inr hv
              | o h0 => exact .o h0
            cases h0' with
            | t h0 hF => exact .t h0 (fun b hb => hF b hb.2)
            | o h0 =>
              refine .o ?_
              have e3 : F k = fun b => k ≠ q ∧ F k b := by funext b; exact propext ⟨fun hb => ⟨ek, hb⟩, fun hb => hb.2⟩
              show LRep w S _ u (fun b => k ≠ q ∧ F k b)
              rw [← e3]; exact h0
        · intro i j b hi hj hij h1 h2
          exact o5 i j b hi hj hij h1.2 h2.2
        · intro i b hi h1
          rw [hg2]
          exact o6' i b hi h1.2
        · intro b
          rw [hg2]
          constructor
          · rintro ⟨hb, hnq⟩
            rcases (o7' b).1 hb with e | ⟨k, hk, hF⟩
            · exact .inl e
            · exact .inr ⟨k, hk, fun e => hnq (by rw [← e]; exact hF), hF⟩
          · rintro (e | ⟨k, hk, hF⟩)
            · exact ⟨(o7' b).2 (.inl e), fun hF => o6' q b hql hF e⟩
            · exact ⟨(o7' b).2 (.inr ⟨k, hk, hF.2⟩), fun hFq => o5 k q b hk hql hF.1 hF.2 hFq⟩
        · rw [hg2]
          exact fun b hb k hk => o8' b hb.1 k hk
      · rw [hobp p e1 e2] at ho
        exact hmvo p o ho (hgo p e1 e2)
  · intro q1 q2 hne2 h1 h2 b b1 b2
    rcases hgB q1 b b1 with ⟨rfl, d1⟩ | ⟨c1, d1, f1⟩
    · rcases hgB q2 b b2 with ⟨e, _⟩ | ⟨c2, d2, f2⟩
      · exact hne2 e.symm
      · by_cases e : q2 = n
        · exact f2 e d1
        · exact h.dj q2 n e (hso q2 c2 h2) hns b d2 (hFn b d1)
    · rcases hgB q2 b b2 with ⟨rfl, d2⟩ | ⟨c2, d2, f2⟩
      · by_cases e : q1 = n
        · exact f1 e d2
        · exact h.dj q1 n e (hso q1 c1 h1) hns b d1 (hFn b d2)
      · exact h.dj q1 q2 hne2 (hso q1 c1 h1) (hso q2 c2 h2) b d1 d2
  · intro p hp b hb
    rcases hgB p b hb with ⟨_, d1⟩ | ⟨c1, d1, _⟩
    · exact ⟨n, hns, hFn b d1⟩
    · exact ⟨p, hso p c1 hp, d1⟩
  · intro i o ho
    by_cases e1 : Nm.S i = m
    · subst e1
      rw [show τ.H[i]? = some _ from hobm] at ho
      cases ho
      exact fun k hk => by cases hk
    · by_cases e2 : Nm.S i = n
      · subst e2
        rw [show τ.H[i]? = some _ from hobn] at ho
        cases ho
        obtain ⟨j, rfl⟩ := hSm i rfl
        exact fun k hk => (hks k hk).elim (fun h1 => h.hs i _ hn k h1) (fun e => by subst e; trivial)
      · rw [show τ.H[i]? = σ.H[i]? from hobp _ e1 e2] at ho
        exact h.hs i o ho
  · subst e
    obtain rfl : i = σ.H.length := hm
    exact Nat.lt_irrefl _ hi
theorem Rep.callO (h : Rep E σ a w S g) {n : Nm} {o0 : AObj} (hn : σ.ob n = some o0) {N' : Nat} {w' : World} {S' : Nat → Nat → Prop} {g0 g' : Nm → GV} (hg0 : g0 (.S 0) = g n) (hst : ∀ b k, S' b k → b < w'.heap.size) (he : Evol w S g0 1 w' S' g' N') :
    Rep E (σ.set n .gone) a w' S' (updG g n ⟨(g n).v, fun _ => False⟩) := by
  have hns : (σ.ob n).isSome := by rw [hn]; rfl
  let gX : Nm → GV := updG g n ⟨(g n).v, fun _ => False⟩
  have hgn : gX n = ⟨(g n).v, fun _ => False⟩ := updG_same _ _ _
  have hgo : ∀ p, p ≠ n → gX p = g p := fun p hp => if_neg hp
  have hB : ∀ p b, (gX p).B b → p ≠ n ∧ (g p).B b := fun p b hb => by
    by_cases e : p = n
    · subst e; rw [hgn] at hb; exact hb.elim
    · rw [hgo p e] at hb; exact ⟨e, hb⟩
  have hso : ∀ p, ((σ.set n .gone).ob p).isSome → (σ.ob p).isSome := fun p hp => by
    by_cases e : p = n
    · rw [e]; exact hns
    · rwa [set_other _ e] at hp
  have hHl : (σ.set n .gone).H.length = σ.H.length := set_H _
  have hN : ∀ p, NmOk (σ.env w S g) ((σ.set n .gone).env w' S' gX) p := by
    intro p
    by_cases e : p = n
    · subst e
      refine .inl ⟨by show (gX p).v = _; rw [hgn]; rfl, .inl ?_⟩
      show ((σ.set p .gone).ob p).bind AObj.ln = none
      rw [set_same _ hn]; rfl
    · refine .inl ⟨by show (gX p).v = _; rw [hgo p e]; rfl, .inr ?_⟩
      show ((σ.set n .gone).ob p).bind AObj.ln = (σ.ob p).bind AObj.ln
      rw [set_other _ e]
  have hblk : ∀ b, b < w.heap.size → ¬ (g n).B b → w'.heap[b]? = w.heap[b]? := fun b hb hnb => he.block b hb (fun i hi => by
    obtain rfl : i = 0 := by omega
    rw [hg0]; exact hnb)
  have hnew : ∀ b k, S' b k → S b k ∨ w.heap.size ≤ b ∨ (g n).B b := by
    intro b k hk
    rcases he.new b k hk with q | q | ⟨j, q1, q2⟩
    · exact .inl q
    · exact .inr (.inl q)
    · obtain rfl : j = 0 := by omega
      rw [hg0] at q2
      exact .inr (.inr q2)
  have hown : ∀ b, (g n).B b → E.w.heap.size ≤ b ∨ ∃ j, j < E.n ∧ (E.g (.S j)).B b := fun b hb => h.owner hns hb
  refine ⟨fun t => ?_, h.nt.trans (set_nt _).symm, h.df, ?_, fun p q hne h1 h2 b b1 b2 => h.dj p q hne (hso p h1) (hso q h2) b (hB p b b1).2 (hB q b b2).2, hst, ?_, ?_, ?_, ?_, fun i hi => (h.nm i hi).trans (hN (.S i)), (set_G _).trans h.eG⟩
  · rw [set_tm]
    exact (h.tm t).move (Γ' := (σ.set n .gone).env w' S' gX) (q := fun _ => True) he.stb (Nat.le_of_eq hHl.symm) (fun p _ _ => hN p) (hAllT _)
  · intro p o ho
    by_cases e : p = n
    · subst e
      rw [set_same _ hn] at ho
      cases ho
      intro b hb
      exact (hB p b hb).1 rfl
    · rw [set_other _ e] at ho
      refine (h.ob p o ho).move (Γ' := (σ.set n .gone).env w' S' gX) (q := fun _ => True) he.stb (Nat.le_of_eq hHl.symm) (fun p _ _ => hN p) (hAllO o) (hgo p e) (fun b hb => ?_)
      have hlt : b < w.heap.size := (h.ob p o ho).lt hb
      have hnb : ¬ (g n).B b := fun q => h.dj p n e (by rw [ho]; rfl) hns b hb q
      refine ⟨hblk b hlt hnb, fun k hk => ?_⟩
      rcases hnew b k hk with q | q | q
      · exact q
      · have q : w.heap.size ≤ b := q
        omega
      · exact absurd q hnb
  · intro t ht b hb
    obtain ⟨_, h2⟩ := hB (.L t) b hb
    exact h.owner (m := .L t) (hso (.L t) ht) h2
  · intro i o ho
    by_cases e : Nm.S i = n
    · subst e
      rw [show (σ.set (.S i) .gone).H[i]? = some .gone from set_same _ hn] at ho
      cases ho
      trivial
    · rw [show (σ.set n .gone).H[i]? = σ.H[i]? from set_other _ e] at ho
      exact h.hs i o ho
  · refine ⟨he.os.trans h.ev.os, he.tape.trans h.ev.tape, he.output.trans h.ev.output, Nat.le_trans h.ev.size he.size, by rw [hHl]; exact h.ev.n, fun b hb hno => ?_, fun b k hk => ?_, fun b k hk => ?_, fun i hi b hb => ?_⟩
    · refine (hblk b (Nat.lt_of_lt_of_le hb h.ev.size) (fun q => ?_)).trans (h.ev.block b hb hno)
      rcases hown b q with h1 | ⟨j, h1, h2⟩
      · omega
      · exact hno j h1 h2
    · obtain ⟨h1, h2⟩ := h.ev.stb b k hk
      obtain ⟨h3, h4⟩ := he.stb b k h1
      exact ⟨h3, h4.trans h2⟩
    · rcases hnew b k hk with q | q | q
      · exact h.ev.new b k q
      · exact .inr (.inl (Nat.le_trans h.ev.size q))
      · exact .inr (hown b q)
    · rw [hHl] at hi
      exact h.ev.own i hi b (hB _ b hb).2
  · intro i y hy
    rw [set_G] at hy
    obtain ⟨u, h1, h2, h3, h4⟩ := h.gl i y hy
    obtain ⟨h5, h6⟩ := he.stb _ _ h1
    exact ⟨u, h5, h6.trans h2, h3, h4.move he.stb⟩
theorem ORep.clo {Γ Γ' : Env} {n n' : Nm} {z t : Nat} {xs : List (List TV)} (h : ORep Γ n (.ow z t [] xs)) (hg : Γ'.g n' = Γ.g n) (hw : Γ'.w = Γ.w) (hS : Γ'.S = Γ.S) : ORep Γ' n' (.ow z t [] xs) := by
  obtain ⟨_, p2, fl, F, o1, o2, o3, o4, o5, o6, o7, o8⟩ := h
  refine ⟨(fun k hk => by cases hk), p2, fl, F, by rw [hg, hw]; exact o1, o2, fun k y u hy hu => ?_, o4, o5, by rw [hg]; exact o6, by rw [hg]; exact o7, by rw [hg, hS]; exact o8⟩
  have hyk : y.All (fun _ => False) := by
    obtain ⟨c, hc, hyc⟩ := List.mem_flatten.1 (List.mem_of_getElem? hy)
    exact (p2 c hc y hyc).mono (fun x hx => by cases hx)
  cases o3 k y u hy hu with
  | t h hF => exact .t (h.move' hw hS hyk) hF
  | o h => exact .o (by rw [hw, hS]; exact h)
def rnS (ob : Nm → Option AObj) (n : Nm) (x y : TV) : Prop := (∃ v, y = .p v ∧ ToPV ob x v) ∨ ∃ len, x = .vw n len ∧ y = .vw (.S 0) len
def rnA (ob : Nm → Option AObj) (n : Nm) (x y : TV) : Prop := rnS ob n x y ∨ ∃ l l', x = .ag l ∧ y = .ag l' ∧ l.length = l'.length ∧ ∀ (k : Nat) y' v, l[k]? = some y' → l'[k]? = some v → rnS ob n y' v
theorem rnS.sound (h : Rep E σ a w S g) {n : Nm} {o0 : AObj} (hn : σ.ob n = some o0) {x y : TV} {V : Value} (hr : rnS σ.ob n x y) (hx : TRep (σ.env w S g) x V) : TRep (henv [o0] w S (fun _ => g n)) y V := by
  rcases hr with ⟨v, rfl, hv⟩ | ⟨len, rfl, rfl⟩
  · exact .p (hv.sound h.obs hx)
  · cases hx with
    | vw h1 h2 h3 =>
      refine .vw (by show 0 < 1; omega) h2 (fun k hk => ?_)
      have hk : o0.ln = some k := hk
      exact h3 k (by show (σ.ob n).bind AObj.ln = _; rw [hn]; exact hk)
theorem rnA.sound (h : Rep E σ a w S g) {n : Nm} {o0 : AObj} (hn : σ.ob n = some o0) {x y : TV} {V : Value} (hr : rnA σ.ob n x y) (hx : TRep (σ.env w S g) x V) : TRep (henv [o0] w S (fun _ => g n)) y V := by
  rcases hr with hr | ⟨l, l', rfl, rfl, hl, hr⟩
  · exact hr.sound h hn hx
  · cases hx with
    | ag hs h2 h3 =>
      refine .ag (hs.trans hl) (fun k y u hy hu => ?_) h3
      have hk : k < l.length := by rw [hl]; exact (List.getElem?_eq_some_iff.1 hy).1
      exact (hr k _ y (List.getElem?_eq_getElem hk) hy).sound h hn (h2 k _ u (List.getElem?_eq_getElem hk) hu)
theorem EOps.rc {hbs : Nat → Bool} {ops : Array Oper} {i : Nat} {o : Oper} {r : List Oper} {K : St → Prop} (hf : hbs 4294967296 = true) (hg : o.guard = none) {f : FuncId} {x : Operand} {args : Array Operand} {ats : Array TypeId} (ho : o.op = .call { callee := .value x, args := args, argTypes := ats })
    (hx : σ.ev x = .fn f []) {n : Nm} {z t : Nat} {xs : List (List TV)} (hn : σ.ob n = some (.ow z t [] xs)) (ys : List TV) (hl : ys.length = args.size) (hr : ∀ (k : Nat) q y, args.toList[k]? = some q → ys[k]? = some y → rnA σ.ob n (σ.ev q) y) {R : TV → List AObj → Prop} (hc : FC P σ.G f ys [.ow z t [] xs] R)
    (hR : ∀ r H', R r H' → r.All (fun _ => False)) (k : ∀ v H', R v H' → EOps P hbs ops (i + 1) r ((σ.set n .gone).put o.dst v) K) : EOps P hbs ops i (o :: r) σ K := by
  refine EOps.sem hf (by unfold WantT; rw [hg]) (fun E a w S g h Q => ?_)
  have hev := h.eval
  unfold Oper.wp
  have hx2 := hev x
  rw [hx] at hx2
  generalize hX : a.eval x = X at hx2
  cases hx2 with
  | @fn _ _ A hs hA =>
  obtain rfl : A = [] := List.eq_nil_of_length_eq_zero hs
  have hrun : (execOp a.eval o).run P w = .ok (.enter f (args.toList.map a.eval).toArray) w := by
    simp [execOp, ho, resolve, hX, Deferred.ofValue, invoke, callable_run hc.1, ← Array.toList_map]
  rw [hrun, Oper.upon_enter]
  have hhr : HRep σ.G [.ow z t [] xs] w S (fun _ => g n) := by
    refine ⟨fun j o' hj => ?_, fun j1 j2 hne h1 h2 => ?_, h.st, fun j o' hj => ?_, h.gl⟩
    · cases j with
      | zero => cases hj; exact (h.ob n _ hn).clo rfl rfl rfl
      | succ j => simp at hj
    · simp at h1 h2; omega
    · cases j with
      | zero => cases hj; exact fun k hk => by cases hk
      | succ j => simp at hj
  refine (hc.2 w S (fun _ => g n) (args.toList.map a.eval) hhr (by simp [hl]) (fun k y V hy hV => ?_)).mono ?_
  · rw [List.getElem?_map] at hV
    cases hq : args.toList[k]? with
    | none => rw [hq] at hV; cases hV
    | some q =>
      rw [hq] at hV
      cases hV
      exact (hr k q y hq hy).sound h hn (hev q)
  · rintro e w' ⟨r', H', v, S', g', rfl, h1, h2, h3, h4, h5, h6⟩
    have hcl := hR r' H' h1
    have hrep := h.callO hn (g0 := fun _ => g n) rfl h4.st h5
    exact ⟨_, _, _, k r' H' h1, hrep.put (TRep.move' (Γ := henv H' w' S' g') (Γ' := (σ.set n .gone).env w' S' (updG g n ⟨(g n).v, fun _ => False⟩)) rfl rfl h3 hcl) o.dst⟩
def rnE (n : Nm) (x y : TV) : Prop := (∃ v, x = .p v ∧ y = .p v) ∨ ∃ len, x = .vw n len ∧ y = .vw (.S 0) len
def rnF (n : Nm) (x y : TV) : Prop := rnE n x y ∨ ∃ l l', x = .ag l ∧ y = .ag l' ∧ l.length = l'.length ∧ ∀ (k : Nat) x' y', l[k]? = some x' → l'[k]? = some y' → rnE n x' y'
def ownSt (G : Nat → Option PV) (md : Nat → Nat) (d : Nat) (o : AObj) (args : List TV) (nt : Nat) : St := { tm := fun t => args.getD t .u, nt := nt, lm := updT (fun _ => none) d (some o), H := [.gone], G := G, md := md }
theorem own0 {G : Nat → Option PV} {md : Nat → Nat} {c : Code} {Q : Exit → St → Prop} {args args' : List TV} {nt z t d : Nat} {xs : List (List TV)} (hl : args'.length = args.length) (hr : ∀ (k : Nat) x y, args'[k]? = some x → args[k]? = some y → rnF (.L d) x y)
    (k : AW P c Q (ownSt G md d (.ow z t [] xs) args' nt)) : AW P c Q (init G md [.ow z t [] xs] args nt) := by
  refine AW.gh (fun E a w S g h => ?_) k
  obtain ⟨σ', hσ⟩ : ∃ σ', σ' = ownSt G md d (.ow z t [] xs) args' nt := ⟨_, rfl⟩
  obtain ⟨g', hg'⟩ : ∃ g' : Nm → GV, g' = updG (updG g (.S 0) ⟨(g (.S 0)).v, fun _ => False⟩) (.L d) (g (.S 0)) := ⟨_, rfl⟩
  have hgL : g' (.L d) = g (.S 0) := by rw [hg']; exact updG_same _ _ _
  have hgS : g' (.S 0) = ⟨(g (.S 0)).v, fun _ => False⟩ := by
    rw [hg']
    unfold updG
    rw [if_neg (by simp), if_pos rfl]
  have hobL : σ'.ob (.L d) = some (.ow z t [] xs) := by
    rw [hσ]
    show updT (fun _ => none) d (some (AObj.ow z t [] xs)) d = _
    rw [updT_eq, if_pos rfl]
  have hon : ∀ n o, σ'.ob n = some o → (n = .L d ∧ o = .ow z t [] xs) ∨ (n = .S 0 ∧ o = .gone) := by
    intro n o ho
    rw [hσ] at ho
    cases n with
    | L e =>
      have ho : updT (fun _ => none) d (some (AObj.ow z t [] xs)) e = some o := ho
      rw [updT_eq] at ho
      split at ho
      · rename_i e2; cases ho; exact .inl ⟨by rw [e2], rfl⟩
      · cases ho
    | S i =>
      have ho : ([AObj.gone] : List AObj)[i]? = some o := ho
      cases i with
      | zero => cases ho; exact .inr ⟨rfl, rfl⟩
      | succ i => simp at ho
  have h0 : ORep ((init G md [.ow z t [] xs] args nt).env w S g) (.S 0) (.ow z t [] xs) := h.ob (.S 0) _ rfl
  have hH : σ'.H = [.gone] := by rw [hσ]; rfl
  have hN : ∀ i, i < 1 → NmOk ((init G md [.ow z t [] xs] args nt).env w S g) (σ'.env w S g') (.S i) := by
    intro i hi
    obtain rfl : i = 0 := by omega
    refine .inl ⟨by show (g' (.S 0)).v = _; rw [hgS]; rfl, .inl ?_⟩
    show ((σ'.H)[0]?).bind AObj.ln = none
    rw [hH]; rfl
  have cellS : ∀ {x y : TV} {V : Value}, rnE (.L d) x y → TRep ((init G md [.ow z t [] xs] args nt).env w S g) y V → TRep (σ'.env w S g') x V := by
    intro x y V hr hy
    rcases hr with ⟨v, rfl, rfl⟩ | ⟨len, rfl, rfl⟩
    · cases hy with
      | p hy => exact .p hy
    · cases hy with
      | vw h1 h2 h3 =>
        refine .vw trivial h2 (fun k hk => ?_)
        have hk : AObj.ln (.ow z t [] xs) = some k := by
          have : (σ'.ob (.L d)).bind AObj.ln = some k := hk
          rw [hobL] at this; exact this
        show len ≤ k ∧ (len = k → V = (g' (.L d)).v)
        rw [hgL]
        exact h3 k hk
  have cellF : ∀ {x y : TV} {V : Value}, rnF (.L d) x y → TRep ((init G md [.ow z t [] xs] args nt).env w S g) y V → TRep (σ'.env w S g') x V := by
    intro x y V hr hy
    rcases hr with hr | ⟨l, l', rfl, rfl, hl, hr⟩
    · exact cellS hr hy
    · cases hy with
      | ag hs h2 h3 =>
        refine .ag (hs.trans hl.symm) (fun k y u hy hu => ?_) h3
        have hk : k < l'.length := by rw [← hl]; exact (List.getElem?_eq_some_iff.1 hy).1
        exact cellS (hr k y _ hy (List.getElem?_eq_getElem hk)) (h2 k _ u (List.getElem?_eq_getElem hk) hu)
  have hgB : ∀ n, (σ'.ob n).isSome → ∀ b, (g' n).B b → n = .L d ∧ (g (.S 0)).B b := by
    intro n hs b hb
    obtain ⟨o, ho⟩ := Option.isSome_iff_exists.1 hs
    rcases hon n o ho with ⟨rfl, rfl⟩ | ⟨rfl, rfl⟩
    · rw [hgL] at hb; exact ⟨rfl, hb⟩
    · rw [hgS] at hb; exact hb.elim
  rw [← hσ]
  refine ⟨S, g', h.re (σ' := σ') (by rw [hσ]; rfl) (by rw [hσ]; rfl) (by rw [hH]; exact Nat.le_refl _) (fun t V hv => ?_) (fun b k hk => hk) (fun b k hk => .inl hk) ?_ ?_ ?_ ?_ hN⟩
  · have e1 : σ'.tm t = args'.getD t .u := by rw [hσ]; rfl
    have hv : TRep _ (args.getD t .u) V := hv
    rw [e1]
    by_cases ht : t < args.length
    · have e2 : args'.getD t .u = args'[t]'(by omega) := by simp [List.getD, show t < args'.length by omega]
      have e3 : args.getD t .u = args[t] := by simp [List.getD, ht]
      rw [e3] at hv
      rw [e2]
      exact cellF (hr t _ _ (List.getElem?_eq_getElem (by omega)) (List.getElem?_eq_getElem ht)) hv
    · have e2 : args'.getD t .u = .u := by simp [List.getD, List.getElem?_eq_none (show args'.length ≤ t by omega)]
      rw [e2]; exact .u
  · intro n o ho
    rcases hon n o ho with ⟨rfl, rfl⟩ | ⟨rfl, rfl⟩
    · exact ORep.clo (Γ' := σ'.env w S g') h0 hgL rfl rfl
    · intro b hb
      have hb : (g' (.S 0)).B b := hb
      rw [hgS] at hb
      exact hb
  · intro n m hne h1 h2 b b1 b2
    obtain ⟨e1, _⟩ := hgB n h1 b b1
    obtain ⟨e2, _⟩ := hgB m h2 b b2
    exact hne (e1.trans e2.symm)
  · intro n hs b hb
    obtain ⟨_, hb⟩ := hgB n hs b hb
    exact ⟨.S 0, rfl, hb⟩
  · intro i o ho
    rw [hH] at ho
    cases i with
    | zero => cases ho; trivial
    | succ i => simp at ho
theorem HRep.rep {G : Nat → Option PV} {H : List AObj} (hh : HRep G H w S g) : Rep ⟨w, S, g, hln H, H.length, G⟩ (init G (fun _ => 0) H [] 0) { tmps := #[], defers := [] } w S g := by
  have hlnE : ∀ n, (init G (fun _ => 0) H [] 0).ln n = hln H n := by intro n; cases n <;> rfl
  have henvE : (init G (fun _ => 0) H [] 0).env w S g = henv H w S g := by
    unfold St.env henv
    have : (init G (fun _ => 0) H [] 0).ln = hln H := funext hlnE
    rw [this]; rfl
  refine ⟨fun t => ?_, rfl, rfl, ?_, ?_, hh.st, (fun t ht => by cases ht), hh.hs, Evol.refl _ _ _ _, hh.gl, fun i hi => ?_, rfl⟩
  · have : (init G (fun _ => 0) H [] 0).tm t = .u := by show ([] : List TV).getD t .u = .u; simp
    rw [this]; exact .u
  · intro n o ho
    cases n with
    | L t => cases ho
    | S i => rw [henvE]; exact hh.ob i o ho
  · intro n m hne h1 h2
    cases n with
    | L t => cases h1
    | S i =>
      cases m with
      | L t => cases h2
      | S j =>
        have hi : i < H.length := by obtain ⟨o, ho⟩ := Option.isSome_iff_exists.1 h1; exact (List.getElem?_eq_some_iff.1 ho).1
        have hj : j < H.length := by obtain ⟨o, ho⟩ := Option.isSome_iff_exists.1 h2; exact (List.getElem?_eq_some_iff.1 ho).1
        exact hh.dj i j (fun e => hne (by rw [e])) hi hj
  · rw [henvE]; exact NmOk.refl _ _
theorem rnE.sound {Γ Γ' : Env} (hw : Γ'.w = Γ.w) (hS : Γ'.S = Γ.S) {n : Nm} (hg : Γ'.g (.S 0) = Γ.g n) (hln : Γ'.ln (.S 0) = Γ.ln n) (hlt : (Nm.S 0).lt Γ'.nH) {x y : TV} {V : Value} (hr : rnE n x y) (hx : TRep Γ x V) : TRep Γ' y V := by
  rcases hr with ⟨v, rfl, rfl⟩ | ⟨len, rfl, rfl⟩
  · cases hx with
    | p hx => exact .p (by rw [hw, hS]; exact hx)
  · cases hx with
    | vw h1 h2 h3 => exact .vw hlt h2 (fun k hk => by rw [hln] at hk; rw [hg]; exact h3 k hk)
theorem rnF.sound {Γ Γ' : Env} (hw : Γ'.w = Γ.w) (hS : Γ'.S = Γ.S) {n : Nm} (hg : Γ'.g (.S 0) = Γ.g n) (hln : Γ'.ln (.S 0) = Γ.ln n) (hlt : (Nm.S 0).lt Γ'.nH) {x y : TV} {V : Value} (hr : rnF n x y) (hx : TRep Γ x V) : TRep Γ' y V := by
  rcases hr with hr | ⟨l, l', rfl, rfl, hl, hr⟩
  · exact hr.sound hw hS hg hln hlt hx
  · cases hx with
    | ag hs h2 h3 =>
      refine .ag (hs.trans hl) (fun k y u hy hu => ?_) h3
      have hk : k < l.length := by rw [hl]; exact (List.getElem?_eq_some_iff.1 hy).1
      exact (hr k _ y (List.getElem?_eq_getElem hk) hy).sound hw hS hg hln hlt (h2 k _ u (List.getElem?_eq_getElem hk) hu)
theorem FC.frame {G : Nat → Option PV} {f : FuncId} {ys : List TV} {z t : Nat} {xs : List (List TV)} {R : TV → List AObj → Prop} (hc : FC P G f ys [.ow z t [] xs] R) (hR : ∀ r H', R r H' → r.All (fun _ => False)) {H : List AObj} {i : Nat} (hi : H[i]? = some (.ow z t [] xs)) {args : List TV} (hl : args.length = ys.length)
    (hr : ∀ (k : Nat) x y, args[k]? = some x → ys[k]? = some y → rnF (.S i) x y) : FC P G f args H (fun r H' => (∃ H0, R r H0) ∧ H' = H.set i .gone) := by
  refine ⟨hc.1, fun w S g V hh hlV hv => ?_⟩
  have hrep := hh.rep
  have hn : (init G (fun _ => 0) H [] 0).ob (.S i) = some (.ow z t [] xs) := hi
  have hob : ORep (henv H w S g) (.S i) (.ow z t [] xs) := hh.ob i _ hi
  have hhr : HRep G [.ow z t [] xs] w S (fun _ => g (.S i)) := by
    refine ⟨fun j o' hj => ?_, fun j1 j2 hne h1 h2 => ?_, hh.st, fun j o' hj => ?_, hh.gl⟩
    · cases j with
      | zero => cases hj; exact hob.clo rfl rfl rfl
      | succ j => simp at hj
    · simp at h1 h2; omega
    · cases j with
      | zero => cases hj; exact fun k hk => by cases hk
      | succ j => simp at hj
  refine (hc.2 w S (fun _ => g (.S i)) V hhr (by rw [hlV, hl]) (fun k y v hy hV => ?_)).mono ?_
  · have hk : k < args.length := by rw [hl]; exact (List.getElem?_eq_some_iff.1 hy).1
    refine (hr k _ y (List.getElem?_eq_getElem hk) hy).sound (Γ := henv H w S g) (Γ' := henv [.ow z t [] xs] w S (fun _ => g (.S i))) rfl rfl rfl ?_ (by show 0 < 1; omega) (hv k _ v (List.getElem?_eq_getElem hk) hV)
    show AObj.ln (.ow z t [] xs) = (H[i]?).bind AObj.ln
    rw [hi]; rfl
  · rintro e w' ⟨r', H', v, S', g', rfl, h1, h2, h3, h4, h5, h6⟩
    have hcl := hR r' H' h1
    have hrep2 := hrep.callO hn (g0 := fun _ => g (.S i)) rfl h4.st h5
    have hset : ((init G (fun _ => 0) H [] 0).set (.S i) .gone).H = H.set i .gone := rfl
    have hH2 := hrep2.heap
    have hev := hrep2.ev
    refine ⟨r', H.set i .gone, v, S', updG g (.S i) ⟨(g (.S i)).v, fun _ => False⟩, rfl, ⟨⟨H', h1⟩, rfl⟩, hcl.mono (fun _ q => q.elim), TRep.move' (Γ := henv H' w' S' g') (Γ' := henv (H.set i .gone) w' S' (updG g (.S i) ⟨(g (.S i)).v, fun _ => False⟩)) rfl rfl h3 hcl, hH2, hev, fun j hj => ?_⟩
    exact (hrep2.nm j hj).trans (env_S _ _ _ _ j).1
end Go.Proofs.YtglkkbgflnpjeaaGreatDoor.En
end
