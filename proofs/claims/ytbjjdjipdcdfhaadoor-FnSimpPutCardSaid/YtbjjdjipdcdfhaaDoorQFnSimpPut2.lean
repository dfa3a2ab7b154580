-- YtbjjdjipdcdfhaaDoor's texts for the statement FnSimpPut, one behind the other (merge.py).
import Derived.Test.YtbjjdjipdcdfhaaDoorQFnSimpPut0
import Derived.Test.YtbjjdjipdcdfhaaDoorQFnSimpPut1
import Derived.Test.YtbjjdjipdcdfhaaDoorProg
import Derived.Lib.SliceRun
section
namespace Go.Proofs.YtbjjdjipdcdfhaaDoor.En
set_option linter.unusedVariables false
set_option linter.unusedSimpArgs false
open Go Go.RowKit Go.Proofs.YtbjjdjipdcdfhaaDoor.PA
variable {P : Program} {E : Ent} {σ : St} {a : Act} {w : World} {S : Nat → Nat → Prop} {g : Nm → GV}
theorem Rep.owner (h : Rep E σ a w S g) {m : Nm} (hm : (σ.ob m).isSome) {b : Nat} (hb : (g m).B b) : E.w.heap.size ≤ b ∨ ∃ j, j < E.n ∧ (E.g (.S j)).B b := by
  cases m with
  | L t => exact h.lo t hm b hb
  | S i =>
    obtain ⟨o, ho⟩ := Option.isSome_iff_exists.1 hm
    exact h.ev.own i (List.getElem?_eq_some_iff.1 ho).1 b hb
theorem Rep.re (h : Rep E σ a w S g) {σ' : St} {S' : Nat → Nat → Prop} {g' : Nm → GV} (hnt : σ'.nt = σ.nt) (hG : σ'.G = σ.G) (hH : σ.H.length ≤ σ'.H.length)
    (htm : ∀ t V, TRep (σ.env w S g) (σ.tm t) V → TRep (σ'.env w S' g') (σ'.tm t) V)
    (hS : ∀ b k, S b k → S' b k) (hS2 : ∀ b k, S' b k → S b k ∨ ∃ n, (σ.ob n).isSome ∧ (g n).B b)
    (hob : ∀ n o, σ'.ob n = some o → ORep (σ'.env w S' g') n o)
    (hdj : ∀ n m, n ≠ m → (σ'.ob n).isSome → (σ'.ob m).isSome → ∀ b, (g' n).B b → ¬ (g' m).B b)
    (hB : ∀ n, (σ'.ob n).isSome → ∀ b, (g' n).B b → ∃ m, (σ.ob m).isSome ∧ (g m).B b)
    (hs : ∀ (i : Nat) (o : AObj), σ'.H[i]? = some o → o.All Nm.isS)
    (hN : ∀ i, i < σ.H.length → NmOk (σ.env w S g) (σ'.env w S' g') (.S i)) : Rep E σ' a w S' g' where
  tm := fun t => htm t _ (h.tm t)
  nt := h.nt.trans hnt.symm
  df := h.df
  ob := hob
  dj := hdj
  st := fun b k hk => by
    rcases hS2 b k hk with q | ⟨n, q1, q2⟩
    · exact h.st b k q
    · obtain ⟨o, ho⟩ := Option.isSome_iff_exists.1 q1
      exact (h.ob n o ho).lt q2
  lo := fun t ht b hb => by
    obtain ⟨m, q1, q2⟩ := hB (.L t) ht b hb
    exact h.owner q1 q2
  hs := hs
  ev := ⟨h.ev.os, h.ev.tape, h.ev.output, h.ev.size, Nat.le_trans h.ev.n hH, h.ev.block, fun b k hk => ⟨hS b k (h.ev.stb b k hk).1, (h.ev.stb b k hk).2⟩, fun b k hk => by
    rcases hS2 b k hk with q | ⟨n, q1, q2⟩
    · exact h.ev.new b k q
    · exact .inr (h.owner q1 q2), fun i hi b hb => by
    obtain ⟨m, q1, q2⟩ := hB (.S i) (by show (σ'.H[i]?).isSome = true; simp [hi]) b hb
    exact h.owner q1 q2⟩
  gl := fun i y hy => by
    rw [hG] at hy
    obtain ⟨u, h1, h2, h3, h4⟩ := h.gl i y hy
    exact ⟨u, hS _ _ h1, h2, h3, h4.move (fun b k hk => ⟨hS b k hk, rfl⟩)⟩
  nm := fun i hi => (h.nm i hi).trans (hN i (Nat.lt_of_lt_of_le hi h.ev.n))
  eG := hG.trans h.eG
mutual
def frz : PV → PV
  | .own z _ xs => .row z (frzs xs)
  | .ag l => .ag (frzs l)
  | .c v => .c v
  | .ifc t v => .ifc t v
  | .row z xs => .row z xs
  | .any => .any
def frzs : List PV → List PV
  | [] => []
  | x :: xs => frz x :: frzs xs
end
mutual
def okF : PV → Bool
  | .own _ _ xs => okFs xs
  | .ag l => okFs l
  | .any => false
  | .c _ => true
  | .ifc _ _ => true
  | .row _ _ => true
def okFs : List PV → Bool
  | [] => true
  | x :: xs => okF x && okFs xs
end
theorem frzs_map : ∀ l, frzs l = l.map frz
  | [] => by unfold frzs; rfl
  | x :: l => by unfold frzs; rw [frzs_map l]; rfl
theorem okFs_all : ∀ l, okFs l = l.all okF
  | [] => by unfold okFs; rfl
  | x :: l => by unfold okFs; rw [okFs_all l]; rfl
theorem frz_cells (v : PV) : (frz v).cells = v.cells.map frz := by
  cases v <;> simp [frz, PV.cells, frzs_map]
theorem okF_cells (v : PV) (h : okF v = true) : ∀ y ∈ v.cells, okF y = true := by
  cases v with
  | ag l =>
    unfold okF at h
    rw [okFs_all, List.all_eq_true] at h
    exact h
  | c => intro y hy; simp [PV.cells] at hy; subst hy; exact h
  | ifc => intro y hy; simp [PV.cells] at hy; subst hy; exact h
  | row => intro y hy; simp [PV.cells] at hy; subst hy; exact h
  | own => intro y hy; simp [PV.cells] at hy; subst hy; exact h
  | any => unfold okF at h; cases h
theorem flat_frz (xs : List PV) : flat (xs.map frz) = (flat xs).map frz := by
  induction xs with
  | nil => rfl
  | cons x xs ih => rw [List.map_cons, flat_cons, flat_cons, ih, List.map_append, frz_cells]
theorem PRep.frz {v : PV} {V : Value} (h : PRep w S v V) : En.frz v = v := by
  induction h with
  | c => rfl
  | @ag l A hs h h1 ih =>
    unfold En.frz
    rw [frzs_map]
    congr 1
    refine List.ext_getElem? (fun k => ?_)
    rw [List.getElem?_map]
    cases hk : l[k]? with
    | none => rfl
    | some y =>
      have hlt : k < A.length := by rw [hs]; exact (List.getElem?_eq_some_iff.1 hk).1
      rw [Option.map_some, ih k y _ hk (List.getElem?_eq_getElem hlt)]
  | ifc => rfl
  | nl => rfl
  | row => rfl
theorem LRep.frz {v : PV} {V : Value} {B : Nat → Prop} (h : LRep w S v V B) : okF v = true → ∀ {S' : Nat → Nat → Prop}, (∀ b k, S b k → S' b k) → (∀ b k, B b → S' b k) → PRep w S' (En.frz v) V := by
  induction h with
  | p h hB =>
    intro _ S' h1 _
    rw [h.frz]
    exact h.move (fun b k hk => ⟨h1 b k hk, rfl⟩)
  | any h hB => intro ho; unfold okF at ho; cases ho
  | @ag l A B F hs h h1 hd hB ih =>
    intro ho S' g1 g2
    have hok : ∀ y ∈ l, okF y = true := okF_cells (.ag l) ho
    unfold En.frz
    rw [frzs_map]
    refine .ag (by simpa using hs) (fun k y u hy hu => ?_) h1
    rw [List.getElem?_map] at hy
    cases hk : l[k]? with
    | none => rw [hk] at hy; cases hy
    | some x =>
      rw [hk] at hy
      cases hy
      exact ih k x u hk hu (hok x (List.mem_of_getElem? hk)) g1 (fun b j hb => g2 b j ((hB b).2 ⟨k, (List.getElem?_eq_some_iff.1 hk).1, hb⟩))
  | @own z t xs V B fl F hown hz h h1 hd hb hB ih =>
    intro hok S' g1 g2
    have hokx : ∀ x ∈ xs, okF x = true := by unfold okF at hok; rw [okFs_all, List.all_eq_true] at hok; exact hok
    have hokf : ∀ y ∈ flat xs, okF y = true := by
      intro y hy
      obtain ⟨x, hx, hyx⟩ := List.mem_flatMap.1 hy
      exact okF_cells x (hokx x hx) y hyx
    unfold En.frz
    rw [frzs_map]
    rcases hown.2 with ⟨e1, e2⟩ | ⟨gb, cap, cur, e1, e2, e3, e4, e5, e6, e7⟩
    · obtain rfl := List.length_eq_zero_iff.1 e2
      rw [e1]; exact .nl
    · have hln : (xs.map En.frz).length = xs.length := by simp
      have hfx : (flat xs).length = fl.length := by rw [flat_len hz, hown.1]
      rw [e1]
      have key := PRep.row (w := w) (S := S') (z := z) (xs := xs.map En.frz) (b := gb) (off := 0) (c := cap) (fun k => fl.getD k undef) (by simpa using e4) ?_ ?_ ?_
      · simpa using key
      · intro x hx
        obtain ⟨y, hy, rfl⟩ := List.mem_map.1 hx
        rw [frz_cells, List.length_map]; exact hz y hy
      · intro k y hy
        rw [flat_frz, List.getElem?_map] at hy
        cases hk : (flat xs)[k]? with
        | none => rw [hk] at hy; cases hy
        | some x =>
          rw [hk] at hy
          cases hy
          have hk2 : k < fl.length := by rw [← hfx]; exact (List.getElem?_eq_some_iff.1 hk).1
          have := ih k x _ hk (List.getElem?_eq_getElem hk2) (hokf x (List.mem_of_getElem? hk)) g1 (fun b j hF => g2 b j ((hB b).2 (.inr ⟨k, hk2, hF⟩)))
          simpa [List.getD, List.getElem?_eq_getElem hk2] using this
      · intro k hk
        have hk2 : k < fl.length := by rw [hown.1]; simpa using hk
        have hcell := World.ownsRow.cells (h := hown) (g := gb) (by rw [e1]; rfl) k _ (List.getElem?_eq_getElem hk2)
        rw [Addr.add_mid] at hcell
        refine ⟨g2 _ _ ((hB gb).2 (.inl (by rw [e1]; rfl))), ?_, ?_⟩
        · rw [hcell]; simp [List.getD, List.getElem?_eq_getElem hk2]
        · have := h1 _ (List.getElem_mem hk2)
          simpa [List.getD, List.getElem?_eq_getElem hk2] using this
def FrzC (ob : Nm → Option AObj) (c : TV) (y : PV) : Prop := (∃ v, c = .o v ∧ okF v = true ∧ y = frz v) ∨ (noO c ∧ ToPV ob c y)
theorem Rep.freeze (h : Rep E σ a w S g) {n : Nm} {z : Nat} {t : TypeId} {ks : List Nm} {xs : List (List TV)} (hn : σ.ob n = some (.ow z t ks xs)) {vs : List PV} (hl : vs.length = xs.length) (hz : ∀ v ∈ vs, v.cells.length = z)
    (hc : ∀ (k : Nat) c y, xs.flatten[k]? = some c → (flat vs)[k]? = some y → FrzC σ.ob c y) : ∃ S' g', Rep E (σ.set n (.rw z t vs)) a w S' g' := by
  have hob := h.obs
  obtain ⟨_, _, fl, F, o1, o2, o3, o4, o5, o6, o7, o8⟩ := h.ob n _ hn
  have o1' : w.ownsRow 0 t z (g n).v xs.length fl := o1
  have o7' : ∀ b, (g n).B b ↔ blk (g n).v = some b ∨ ∃ k, k < fl.length ∧ F k b := o7
  have o8' : ∀ b, (g n).B b → ∀ k, ¬ S b k := o8
  have o6' : ∀ k b, k < fl.length → F k b → blk (g n).v ≠ some b := o6
  let S' : Nat → Nat → Prop := fun b k => S b k ∨ ((g n).B b ∧ (blk (g n).v = some b → k < xs.length * z))
  let g' : Nm → GV := updG g n (gvOf (g n).v)
  have hgn : g' n = gvOf (g n).v := updG_same _ _ _
  have hgo : ∀ m, m ≠ n → g' m = g m := fun m hm => if_neg hm
  have hgv : ∀ m, (g' m).v = (g m).v := fun m => by
    by_cases e : m = n
    · rw [e, hgn]; rfl
    · rw [hgo m e]
  have hgB : ∀ m b, (g' m).B b → (g m).B b := fun m b hb => by
    by_cases e : m = n
    · subst e; rw [hgn] at hb; exact (o7' b).2 (.inl hb)
    · rwa [hgo m e] at hb
  have hN : ∀ m, NmOk (σ.env w S g) ((σ.set n (.rw z t vs)).env w S' g') m := by
    intro m
    refine .inl ⟨hgv m, .inr ?_⟩
    show ((σ.set n _).ob m).bind AObj.ln = (σ.ob m).bind AObj.ln
    by_cases e : m = n
    · subst e; rw [set_same _ hn, hn]; simp [AObj.ln, hl]
    · rw [set_other _ e]
  have hmove : ∀ (v : TV) V, TRep (σ.env w S g) v V → TRep ((σ.set n (.rw z t vs)).env w S' g') v V := fun v V hv =>
    TRep.move (Γ := σ.env w S g) (Γ' := (σ.set n (.rw z t vs)).env w S' g') (q := fun _ => True) (fun b k hk => ⟨Or.inl hk, rfl⟩) (Nat.le_of_eq (set_H _).symm) (fun m _ _ => hN m) hv (hAllT v)
  refine ⟨S', g', h.re (set_nt _) (set_G _) (Nat.le_of_eq (set_H _).symm) (fun t V hv => by rw [set_tm]; exact hmove _ _ hv) (fun b k hk => .inl hk) (fun b k hk => hk.imp id (fun q => ⟨n, by rw [hn]; rfl, q.1⟩)) ?_ ?_ ?_ ?_ (fun i _ => hN (.S i))⟩
  · intro m o ho
    by_cases e : m = n
    · subst e
      rw [set_same _ hn] at ho
      cases ho
      have hg2 : ((σ.set m (.rw z t vs)).env w S' g').g m = gvOf (g m).v := hgn
      refine ⟨fl, ?_, ?_, hz, ?_, ?_⟩
      · rw [hg2, hl]; exact o1'
      · rw [hg2]; exact fun b => Iff.rfl
      · intro k y u hy hu
        have hk : k < xs.flatten.length := by rw [flatten_len o2, ← o1'.1]; exact (List.getElem?_eq_some_iff.1 hu).1
        have h0 := o3 k _ u (List.getElem?_eq_getElem hk) hu
        have h1 := hc k _ y (List.getElem?_eq_getElem hk) hy
        have hku : k < fl.length := (List.getElem?_eq_some_iff.1 hu).1
        refine ⟨?_, o4 u (List.mem_of_getElem? hu)⟩
        generalize xs.flatten[k] = c at h0 h1
        rcases h1 with ⟨v, rfl, h2, rfl⟩ | ⟨h2, h3⟩
        · cases h0 with
          | t h _ => cases h
          | o h0 =>
            refine h0.frz h2 (fun b j hj => .inl hj) (fun b j hF => .inr ⟨(o7' b).2 (.inr ⟨k, hku, hF⟩), fun e => absurd e (o6' k b hku hF)⟩)
        · cases h0 with
          | t h0 _ => exact (h3.sound hob h0).move (fun b j hj => ⟨.inl hj, rfl⟩)
          | o _ => exact h2.elim
      · rw [hg2]
        intro b hb k
        refine ⟨fun hk => ?_, fun hk => .inr ⟨(o7' b).2 (.inl hb), fun _ => by rw [← hl]; exact hk⟩⟩
        rcases hk with hk | hk
        · exact absurd hk (o8' b ((o7' b).2 (.inl hb)) k)
        · rw [hl]; exact hk.2 hb
    · rw [set_other _ e] at ho
      refine ORep.move (Γ := σ.env w S g) (Γ' := (σ.set n (.rw z t vs)).env w S' g') (q := fun _ => True) (fun b k hk => ⟨Or.inl hk, rfl⟩) (Nat.le_of_eq (set_H _).symm) (fun m _ _ => hN m) (h.ob m o ho) (hAllO o) (hgo m e) (fun b hb => ⟨rfl, fun k hk => ?_⟩)
      rcases hk with hk | hk
      · exact hk
      · exact absurd hk.1 (h.dj m n e (by rw [ho]; rfl) (by rw [hn]; rfl) b hb)
  · intro m1 m2 hne h1 h2 b b1 b2
    have hso : ∀ m, ((σ.set n (.rw z t vs)).ob m).isSome → (σ.ob m).isSome := fun m hm => by
      by_cases e : m = n
      · rw [e, hn]; rfl
      · rwa [set_other _ e] at hm
    exact h.dj m1 m2 hne (hso _ h1) (hso _ h2) b (hgB _ _ b1) (hgB _ _ b2)
  · intro m hm b hb
    refine ⟨m, ?_, hgB _ _ hb⟩
    by_cases e : m = n
    · rw [e, hn]; rfl
    · rwa [set_other _ e] at hm
  · intro i o ho
    by_cases e : Nm.S i = n
    · subst e
      rw [show (σ.set (.S i) (.rw z t vs)).H[i]? = some (.rw z t vs) from set_same _ hn] at ho
      cases ho
      trivial
    · rw [show (σ.set n (.rw z t vs)).H[i]? = σ.H[i]? from set_other _ e] at ho
      exact h.hs i o ho
end Go.Proofs.YtbjjdjipdcdfhaaDoor.En
end
section
namespace Go.Proofs.YtbjjdjipdcdfhaaDoor.En
set_option linter.unusedVariables false
set_option linter.unusedSimpArgs false
open Go Go.RowKit Go.Proofs.YtbjjdjipdcdfhaaDoor.PA
section
variable {P : Program} {E : Ent} {σ : St} {a : Act} {w : World} {S : Nat → Nat → Prop} {g : Nm → GV}
theorem Rep.litOw (h : Rep E σ a w S g) {t d len : Nat} {parts : Array (Nat × Operand)} {e z : Nat} {b : Bool} {ks : List Nm} (ht : P.underlying t = some (.slice e)) (hl : lay P e = some (b, z)) (hzz : zer P e ≠ none) (hz0 : 0 < z) (hn : len * z ≤ 16777216)
    (hi : parts.toList.map (·.1) = List.range len) (hc : ∀ q ∈ parts.toList, hasCells (σ.ev q.2) ∧ (tcells (σ.ev q.2)).length = z) (hf : Fresh σ (.L d)) (hks : ∀ q ∈ parts.toList, ∀ x ∈ tcells (σ.ev q.2), x.All (· ∈ ks)) (hkl : ∀ n ∈ ks, n.lt σ.H.length) (hkd : ∀ n ∈ ks, n ≠ .L d)
    {o : Oper} (ho : o.op = .buildSlice t len parts) :
    ∃ w' g', (execOp a.eval o).run P w = .ok (.value (.slice (some ⟨w.heap.size, 0, none⟩) len len)) w' ∧ (g' (.L d)).v = .slice (some ⟨w.heap.size, 0, none⟩) len len ∧ Rep E (σ.add (.L d) (.ow z e ks (parts.toList.map fun q => tcells (σ.ev q.2)))) a w' S g' := by
  have hev := h.eval
  obtain ⟨zs, hzs⟩ := Option.ne_none_iff_exists'.1 hzz
  obtain ⟨Z, z1, z2, _⟩ := zer_run (w := w) hzs
  have hsz : (sizeOf e).run P w = .ok z w := lay_size hl w
  have hpl : parts.toList.length = len := by have := congrArg List.length hi; simpa using this
  have hrp : ∀ q ∈ parts.toList, CRep (σ.env w S g) (tcells (σ.ev q.2)) (a.eval q.2).cells.toList := fun q hq => tcells_rep (hev q.2) (hc q hq).1
  have hVs : ∀ V ∈ parts.toList.map (fun q => a.eval q.2), V.cells.size = z := by
    intro V hV
    obtain ⟨q, hq, rfl⟩ := List.mem_map.1 hV
    rw [← (hc q hq).2, ← (hrp q hq).len]; simp
  have hparts : (parts.map fun (i, x) => (i, a.eval x)).toList = (List.range' 0 (parts.toList.map (fun q => a.eval q.2)).length).zip (parts.toList.map (fun q => a.eval q.2)) := by
    rw [List.length_map, hpl, ← List.range_eq_range', ← hi, Array.toList_map, List.zip_map']
  obtain ⟨A', f1, f2⟩ := fill_seq (z := z) (parts.toList.map (fun q => a.eval q.2)) 0 ((Array.range (len * z)).map (fun i => (if len * z = 0 then #[] else Z.cells)[i % (if len * z = 0 then #[] else Z.cells).size]!)) [] hVs (by simp) (by simp) (by simp [hpl])
  rw [← hparts] at f1
  have hcr : ∀ l : List (Nat × Operand), (∀ q ∈ l, q ∈ parts.toList) → CRep (σ.env w S g) (l.map fun q => tcells (σ.ev q.2)).flatten ((l.map (fun q => a.eval q.2)).flatMap (fun V => V.cells.toList)) := by
    intro l
    induction l with
    | nil => intro _; exact ⟨rfl, fun k y u hy => by simp at hy, fun u hu => by simp at hu⟩
    | cons q l ih =>
      intro hq
      simp only [List.map_cons, List.flatten_cons, List.flatMap_cons]
      exact (hrp q (hq q (by simp))).append (ih (fun q' hq' => hq q' (by simp [hq'])))
  have hcrep : CRep (σ.env w S g) (parts.toList.map fun q => tcells (σ.ev q.2)).flatten A'.toList := by rw [f2, List.nil_append]; exact hcr _ (fun _ h => h)
  have hzl : ∀ x ∈ parts.toList.map (fun q => tcells (σ.ev q.2)), x.length = z := by
    intro x hx
    obtain ⟨q, hq, rfl⟩ := List.mem_map.1 hx
    exact (hc q hq).2
  have hAl : A'.size = len * z := by
    have := hcrep.len
    rw [flatten_len hzl, List.length_map, hpl] at this
    simpa using this
  have hr : (execOp a.eval o).run P w = .ok (.value (.slice (some ⟨w.heap.size, 0, none⟩) len len)) (w.alloc (.cells A' e)) := by
    by_cases h0 : len * z = 0
    · simp [h0] at f1
      simp [execOp, ho, Instr.buildSlice, run_underlying ht, hsz, h0, f1, Go.newRow]
    · simp [h0] at f1
      have hn' : ¬ (16777216 < len * z) := by omega
      simp [execOp, ho, Instr.buildSlice, run_underlying ht, hsz, h0, hn', z1, f1, Go.newRow]
  have hnew := h.newOw hf (z := z) (t := e) (ks := ks) (xs := parts.toList.map fun q => tcells (σ.ev q.2)) (v := .slice (some ⟨w.heap.size, 0, none⟩) len len) (w' := w.alloc (.cells A' e)) (fl := A'.toList) (World.grownBy_alloc w _ _)
    (by rw [List.length_map, hpl]; exact World.ownsRow_lit w A' len (Nat.le_refl _) (by simp only [maxLen]; have : len ≤ len * z := Nat.le_mul_of_pos_right len hz0; omega) hAl) hzl hcrep
    (fun x hx => by
      obtain ⟨c, hcm, hxc⟩ := List.mem_flatten.1 hx
      obtain ⟨q, hq, rfl⟩ := List.mem_map.1 hcm
      exact hks q hq x hxc) hkl hkd (fun i e => by cases e)
  exact ⟨_, _, hr, by rw [updG_v], hnew⟩
end
section
variable {P : Program} {G : Nat → Option PV} {md : Nat → Nat}
theorem want_of {ops : Array Oper} {l : List (Nat × TV)} {n : Nat} {o : List (Nat × AObj)} {H : List AObj} {op : Oper} (hg : gtM ops.toList l n op.guard = true) : WantT ops ((MS.mk l n o H).st G md) op true := by
  unfold WantT
  cases e : op.guard with
  | none => rfl
  | some q =>
    obtain ⟨j, want⟩ := q
    rw [e] at hg
    unfold gtM at hg
    simp only at hg
    split at hg
    · rename_i t ht
      split at hg
      · rename_i v hl hlt
        split at hg
        · rename_i b hb
          subst hg
          exact ⟨t, by simpa using ht, Nat.le_of_ble_eq_true hlt, by rw [show ((MS.mk l n o H).st G md).tm t = v from (by show lkT l t = _; unfold lkT; rw [hl])]; exact hb⟩
        · cases hg
      · cases hg
    · cases hg
def inKs (ks : List Nm) (v : TV) : Prop := v.All (· ∈ ks)
theorem EOps.bs (T : Tab P) (ks : List Nm) {hbs : Nat → Bool} {ops : Array Oper} {K : St → Prop} {r : List Oper} {i : Nat} {l : List (Nat × TV)} {n : Nat} {o : List (Nat × AObj)} {H : List AObj} {d t len : Nat} {parts : Array (Nat × Operand)} {ty : TypeId} {pos : String} {af : Array Edge} {gd : Option (Nat × Bool)} {e z : Nat} {b : Bool} {vs : List TV}
    (hf : hbs 4294967296 = true) (hg : gtM ops.toList l n gd = true) (he : T.sl t = some e) (hl : T.lay e = some (b, z)) (hz : (T.zer e).isSome = true) (hq : (Nat.blt 0 z && Nat.ble (len * z) 16777216 && decide (parts.toList.map (·.1) = List.range len)) = true)
    (hv : evL l (parts.toList.map (·.2)) = some vs) (hc : ∀ v ∈ vs, hasCells v ∧ (tcells v).length = z ∧ ∀ x ∈ tcells v, x.All (· ∈ ks)) (hfr : (freT d l && freO d o && nmBs d ks && Nat.blt d n) = true) (hkl : ∀ m ∈ ks, m.lt H.length)
    (k : EOps P hbs ops (i + 1) r ((MS.mk ((d, .vw (.L d) len) :: l) n ((d, .ow z e ks (vs.map tcells)) :: o) H).st G md) K) :
    EOps P hbs ops i (⟨some d, .buildSlice t len parts, ty, pos, af, gd⟩ :: r) ((MS.mk l n o H).st G md) K := by
  simp only [Bool.and_eq_true, decide_eq_true_eq] at hq hfr
  obtain ⟨⟨q1, q2⟩, q3⟩ := hq
  obtain ⟨⟨⟨f1, f2⟩, f3⟩, f4⟩ := hfr
  have hvs := evL_spec (G := G) (md := md) (s := MS.mk l n o H) hv
  have hpl : parts.toList.length = len := by have := congrArg List.length q3; simpa using this
  have hmem : ∀ q ∈ parts.toList, ((MS.mk l n o H).st G md).ev q.2 ∈ vs := by
    intro q hq
    rw [← hvs, List.map_map]
    exact List.mem_map.2 ⟨q, hq, rfl⟩
  have hfz : Fresh ((MS.mk l n o H).st G md) (.L d) := fresh_of f1 f2
  refine EOps.sem hf (want_of hg) (fun E a w S g hr Q => ?_)
  obtain ⟨w', g', r1, r2, r3⟩ := hr.litOw (P := P) (ks := ks) (T.hsl _ _ he) (T.hlay _ _ hl) (by
      cases hzz : T.zer e with
      | none => rw [hzz] at hz; cases hz
      | some zs => rw [(T.hzer _ _ hzz).1]; simp) (Nat.le_of_ble_eq_true q1) (Nat.le_of_ble_eq_true q2) q3 (fun q hq => ⟨(hc _ (hmem q hq)).1, (hc _ (hmem q hq)).2.1⟩) hfz (fun q hq x hx => (hc _ (hmem q hq)).2.2 x hx) hkl (nmBs_spec d ks f3) (o := ⟨some d, .buildSlice t len parts, ty, pos, af, gd⟩) rfl
  unfold Oper.wp
  rw [r1, Oper.upon_value]
  have hadd : ((MS.mk l n o H).st G md).add (.L d) (.ow z e ks (parts.toList.map fun q => tcells (((MS.mk l n o H).st G md).ev q.2))) = (MS.mk l n ((d, .ow z e ks (vs.map tcells)) :: o) H).st G md := by
    rw [← hvs, List.map_map, List.map_map]
    exact st_addL
  have hput := r3.put (v := .vw (.L d) len) (V := .slice (some ⟨w.heap.size, 0, none⟩) len len) (.vw trivial rfl (fun k' hk' => ?_)) (some d)
  · rw [hadd, st_put f4] at hput
    exact ⟨_, S, g', k, hput⟩
  · have e' : ((((MS.mk l n o H).st G md).add (.L d) (.ow z e ks (parts.toList.map fun q => tcells (((MS.mk l n o H).st G md).ev q.2)))).ob (.L d)).bind AObj.ln = some k' := hk'
    rw [add_same _ hfz] at e'
    simp only [Option.bind_some, AObj.ln, List.length_map, hpl, Option.some.injEq] at e'
    exact ⟨Nat.le_of_eq e', fun _ => r2.symm⟩
def srcM (ob : Nm → Option AObj) (z : Nat) (x : TV) (ys : List (List TV)) : Prop :=
  (∃ ps, RowOf ob x z ps ∧ ys = ps.map fun y => y.cells.map TV.p) ∨ (∃ nm len t ks, x = .vw nm len ∧ ob nm = some (.ow z t ks ys) ∧ ys.length = len ∧ ∀ y ∈ ys.flatten, noO y)
theorem srcM.sound {Γ : Env} {ob : Nm → Option AObj} (hob : Obs Γ ob) {z : Nat} {x : TV} {ys : List (List TV)} (h : srcM ob z x ys) {X : Value} (hx : TRep Γ x X) : ∃ ad c news, SrcRow Γ z ys X ad c news := by
  rcases h with ⟨ps, h1, rfl⟩ | ⟨nm, len, t, ks, rfl, h1, h2, h3⟩
  · exact SrcRow.pure (h1.sound hob hx)
  · cases hx with
    | vw hn _ hg =>
      have hV := (hg ys.length (by rw [hob.ln, h1]; rfl)).2 h2.symm
      rw [hV]
      exact SrcRow.ow (hob.rep nm _ h1) h3
theorem EOps.ap (T : Tab P) (ks' : List Nm) {ys : List (List TV)} {hbs : Nat → Bool} {ops : Array Oper} {K : St → Prop} {r : List Oper} {i : Nat} {l : List (Nat × TV)} {n : Nat} {o : List (Nat × AObj)} {H : List AObj} {d : Nat} {s x : Operand} {t : TypeId} {ty : TypeId} {pos : String} {af : Array Edge} {gd : Option (Nat × Bool)} {e z by_ : Nat} {b : Bool} {zs : List Value} {nm : Nm} {len : Nat} {ks : List Nm} {xs : List (List TV)} {X : TV}
    (hf : hbs 4294967296 = true) (hg : gtM ops.toList l n gd = true) (hs : evM l s = some (.vw nm len)) (hn : obM o H nm = some (.ow z e ks xs)) (hx : evM l x = some X) (he : T.sl t = some e) (hl : T.lay e = some (b, z)) (hz : T.zer e = some zs) (hby : T.byt e = some by_) (hq : (Nat.beq zs.length z && Nat.blt 0 z && Nat.blt 0 by_ && Nat.blt d n) = true)
    (hlen : xs.length = len) (hsrc : srcM (obM o H) z X ys) (hk1 : ∀ m ∈ ks, m ∈ ks') (hk2 : ∀ y ∈ ys.flatten, y.All (· ∈ ks')) (hkl : ∀ m ∈ ks', m.lt H.length) (hkS : ∀ j, nm = .S j → ∀ m ∈ ks', m.isS) (hby2 : (xs.length + ys.length) * by_ ≤ 140737488355328)
    (k : EOps P hbs ops (i + 1) r ((MS.mk ((d, .vw nm (xs.length + ys.length)) :: l) n (setM nm (.ow z e ks' (xs ++ ys)) o H).1 (setM nm (.ow z e ks' (xs ++ ys)) o H).2).st G md) K) :
    EOps P hbs ops i (⟨some d, .call ⟨.builtin .append, #[s, x], #[t, t]⟩, ty, pos, af, gd⟩ :: r) ((MS.mk l n o H).st G md) K := by
  simp only [Bool.and_eq_true] at hq
  obtain ⟨⟨⟨c1, c2⟩, c3⟩, c4⟩ := hq
  have hb : 0 < by_ := Nat.le_of_ble_eq_true c3
  have hok : AppOk P t e z (xs.length + ys.length) := ⟨T.hsl _ _ he, ⟨b, T.hlay _ _ hl⟩, ⟨zs, (T.hzer _ _ hz).1, Nat.eq_of_beq_eq_true c1⟩, Nat.le_of_ble_eq_true c2, ⟨by_, T.hbyt _ _ hby, hby2⟩, Nat.le_trans (Nat.le_mul_of_pos_right _ hb) hby2⟩
  have hobm : ((MS.mk l n o H).st G md).ob = obM o H := by funext m; exact obM_ob m
  refine EOps.sem hf (want_of hg) (fun E a w S g hr Q => ?_)
  have hev := hr.eval
  have hm : ((MS.mk l n o H).st G md).ob nm = some (.ow z e ks xs) := by rw [hobm]; exact hn
  have hXr := hev x
  rw [show ((MS.mk l n o H).st G md).ev x = X from evM_ev hx] at hXr
  obtain ⟨ad, c, news, hsr⟩ := hsrc.sound (by rw [← hobm]; exact hr.obs) hXr
  obtain ⟨v', w', g', r1, r2, r3, r4⟩ := hr.growOw (P := P) (ty := ty) (ks' := ks') hm hok hsr hk1 hk2 hkl hkS
  have hsv : a.eval s = (g nm).v := by
    have h0 := hev s
    rw [show ((MS.mk l n o H).st G md).ev s = .vw nm len from evM_ev hs] at h0
    cases h0 with
    | vw _ _ h0 => exact (h0 xs.length (by show (((MS.mk l n o H).st G md).ob nm).bind AObj.ln = _; rw [hm]; rfl)).2 hlen.symm
  have hrun : (execOp a.eval ⟨some d, .call ⟨.builtin .append, #[s, x], #[t, t]⟩, ty, pos, af, gd⟩).run P w = .ok (.value v') w' := by
    simp [execOp, resolve, invoke, builtin, hsv, r1]
  unfold Oper.wp
  rw [hrun, Oper.upon_value]
  have hput := r4.put (v := .vw nm (xs.length + ys.length)) (V := v') (.vw ?_ r2 (fun k' hk' => ?_)) (some d)
  · rw [st_set, st_put c4] at hput
    exact ⟨_, S, g', k, hput⟩
  · show nm.lt (((MS.mk l n o H).st G md).set nm _).H.length
    rw [set_H]; exact ob_lt hm
  · have e' : ((((MS.mk l n o H).st G md).set nm (.ow z e ks' (xs ++ ys))).ob nm).bind AObj.ln = some k' := hk'
    rw [set_same _ hm] at e'
    simp only [Option.bind_some, AObj.ln, List.length_append, Option.some.injEq] at e'
    exact ⟨Nat.le_of_eq e', fun _ => r3.symm⟩
theorem EOps.ap0 (T : Tab P) (ks : List Nm) {ys : List (List TV)} {hbs : Nat → Bool} {ops : Array Oper} {K : St → Prop} {r : List Oper} {i : Nat} {l : List (Nat × TV)} {n : Nat} {o : List (Nat × AObj)} {H : List AObj} {d : Nat} {s x : Operand} {t : TypeId} {ty : TypeId} {pos : String} {af : Array Edge} {gd : Option (Nat × Bool)} {e z by_ : Nat} {b : Bool} {zs : List Value} {X : TV}
    (hf : hbs 4294967296 = true) (hg : gtM ops.toList l n gd = true) (hs : evM l s = some .nil) (hx : evM l x = some X) (he : T.sl t = some e) (hl : T.lay e = some (b, z)) (hz : T.zer e = some zs) (hby : T.byt e = some by_) (hq : (Nat.beq zs.length z && Nat.blt 0 z && Nat.blt 0 by_ && Nat.blt d n) = true)
    (hfr : (freT d l && freO d o && nmBs d ks) = true) (hsrc : srcM (obM o H) z X ys) (hk2 : ∀ y ∈ ys.flatten, y.All (· ∈ ks)) (hkl : ∀ m ∈ ks, m.lt H.length) (hby2 : ys.length * by_ ≤ 140737488355328)
    (k : EOps P hbs ops (i + 1) r ((MS.mk ((d, .vw (.L d) ys.length) :: l) n ((d, .ow z e ks ys) :: o) H).st G md) K) :
    EOps P hbs ops i (⟨some d, .call ⟨.builtin .append, #[s, x], #[t, t]⟩, ty, pos, af, gd⟩ :: r) ((MS.mk l n o H).st G md) K := by
  simp only [Bool.and_eq_true] at hq hfr
  obtain ⟨⟨⟨c1, c2⟩, c3⟩, c4⟩ := hq
  obtain ⟨⟨f1, f2⟩, f3⟩ := hfr
  have hb : 0 < by_ := Nat.le_of_ble_eq_true c3
  have hok : AppOk P t e z ys.length := ⟨T.hsl _ _ he, ⟨b, T.hlay _ _ hl⟩, ⟨zs, (T.hzer _ _ hz).1, Nat.eq_of_beq_eq_true c1⟩, Nat.le_of_ble_eq_true c2, ⟨by_, T.hbyt _ _ hby, hby2⟩, Nat.le_trans (Nat.le_mul_of_pos_right _ hb) hby2⟩
  have hobm : ((MS.mk l n o H).st G md).ob = obM o H := by funext m; exact obM_ob m
  have hfz : Fresh ((MS.mk l n o H).st G md) (.L d) := fresh_of f1 f2
  refine EOps.sem hf (want_of hg) (fun E a w S g hr Q => ?_)
  have hev := hr.eval
  have hXr := hev x
  rw [show ((MS.mk l n o H).st G md).ev x = X from evM_ev hx] at hXr
  obtain ⟨ad, c, news, hsr⟩ := hsrc.sound (by rw [← hobm]; exact hr.obs) hXr
  obtain ⟨v', w', r1, r2, r4⟩ := hr.grow0Ow (P := P) (ty := ty) (ks := ks) hfz hok hsr hk2 hkl (nmBs_spec d ks f3) (fun j e => by cases e)
  have hsv : a.eval s = .slice none 0 0 := by
    have h0 := hev s
    rw [show ((MS.mk l n o H).st G md).ev s = .nil from evM_ev hs] at h0
    generalize a.eval s = Y at h0
    cases h0; rfl
  have hrun : (execOp a.eval ⟨some d, .call ⟨.builtin .append, #[s, x], #[t, t]⟩, ty, pos, af, gd⟩).run P w = .ok (.value v') w' := by
    simp [execOp, resolve, invoke, builtin, hsv, r1]
  unfold Oper.wp
  rw [hrun, Oper.upon_value]
  have hput := r4.put (v := .vw (.L d) ys.length) (V := v') (.vw trivial r2 (fun k' hk' => ?_)) (some d)
  · rw [st_addL, st_put c4] at hput
    exact ⟨_, S, _, k, hput⟩
  · have e' : ((((MS.mk l n o H).st G md).add (.L d) (.ow z e ks ys)).ob (.L d)).bind AObj.ln = some k' := hk'
    rw [add_same _ hfz] at e'
    simp only [Option.bind_some, AObj.ln, Option.some.injEq] at e'
    exact ⟨Nat.le_of_eq e', fun _ => (updG_v _ _ _).symm⟩
theorem EOps.so (T : Tab P) (ks' : List Nm) (c : List TV) {hbs : Nat → Bool} {ops : Array Oper} {K : St → Prop} {r : List Oper} {i : Nat} {l : List (Nat × TV)} {n : Nat} {o : List (Nat × AObj)} {H : List AObj} {t : Nat} {x y : Operand} {ty : TypeId} {pos : String} {af : Array Edge} {gd : Option (Nat × Bool)} {z e : Nat} {b : Bool} {sz : Nat} {nm : Nm} {len ix off : Nat} {ks : List Nm} {xs : List (List TV)} {Y : TV}
    (hf : hbs 4294967296 = true) (hg : gtM ops.toList l n gd = true) (hx : evM l x = some (.ip nm len z ix off)) (hy : evM l y = some Y) (hn : obM o H nm = some (.ow z e ks xs)) (hl : T.lay t = some (b, sz)) (hlen : xs.length = len) (hc : xs[ix]? = some c) (hY : hasCells Y) (hsz : (tcells Y).length = sz) (hoff : off + sz ≤ c.length)
    (hk1 : ∀ m ∈ ks, m ∈ ks') (hk2 : ∀ y ∈ tcells Y, y.All (· ∈ ks')) (hkl : ∀ m ∈ ks', m.lt H.length) (hkS : ∀ j, nm = .S j → ∀ m ∈ ks', m.isS)
    (k : EOps P hbs ops (i + 1) r ((MS.mk l n (setM nm (.ow z e ks' (xs.set ix (splice c off (tcells Y)))) o H).1 (setM nm (.ow z e ks' (xs.set ix (splice c off (tcells Y)))) o H).2).st G md) K) :
    EOps P hbs ops i (⟨none, .store t x y, ty, pos, af, gd⟩ :: r) ((MS.mk l n o H).st G md) K := by
  have hobm : ((MS.mk l n o H).st G md).ob = obM o H := by funext m; exact obM_ob m
  refine EOps.sem hf (want_of hg) (fun E a w S g hr Q => ?_)
  have hev := hr.eval
  have hm : ((MS.mk l n o H).st G md).ob nm = some (.ow z e ks xs) := by rw [hobm]; exact hn
  have hXr := hev x
  rw [show ((MS.mk l n o H).st G md).ev x = _ from evM_ev hx] at hXr
  have hYr := hev y
  rw [show ((MS.mk l n o H).st G md).ev y = Y from evM_ev hy] at hYr
  have hYc := tcells_rep hYr hY
  generalize hX : a.eval x = X at hXr
  cases hXr with
  | @ip _ _ _ _ _ bb hnl h0 =>
  obtain ⟨cap, hgm⟩ := (h0 xs.length (by show (((MS.mk l n o H).st G md).ob nm).bind AObj.ln = _; rw [hm]; rfl)).2 hlen.symm
  have hgm' : (g nm).v = .slice (some ⟨bb, 0, none⟩) xs.length cap := by rw [hlen]; exact hgm
  obtain ⟨w', g', r1, r2⟩ := hr.setOw (P := P) (ks' := ks') hm hc hYc (by rw [hsz]; exact hoff) hk1 hk2 hkl hkS hgm'
  have hszV : (a.eval y).cells.size = sz := by rw [← hsz, ← hYc.len]; simp
  have hrun : (execOp a.eval ⟨none, .store t x y, ty, pos, af, gd⟩).run P w = .ok .skip w' := by
    have hs : (sizeOf t).run P w = .ok sz w := lay_size (T.hlay _ _ hl) w
    simp [execOp, Instr.storeAt, hX, Instr.sureAddr, storeVar, hs, hszV, r1]
  unfold Oper.wp
  rw [hrun, Oper.upon_skip]
  have hput := r2.put (v := .u) (V := undef) .u none
  rw [st_set] at hput
  exact ⟨_, S, g', k, hput⟩
theorem flat_oc (ys : List PV) : (ys.map fun y => y.cells.map oc).flatten = (flat ys).map oc := by
  induction ys with
  | nil => rfl
  | cons y ys ih => rw [List.map_cons, List.flatten_cons, ih, flat_cons, List.map_append]
theorem EOps.fz (n : Nat) (ys : List PV) (vs : List PV) {hbs : Nat → Bool} {ops : Array Oper} {K : St → Prop} {r : List Oper} {i : Nat} {l : List (Nat × TV)} {nt : Nat} {o : List (Nat × AObj)} {H : List AObj} {z e : Nat} {ks : List Nm} {xs : List (List TV)}
    (hf : hbs 4294967296 = true) (hn : lkN o n = some (.ow z e ks xs)) (hxs : xs = ys.map fun y => y.cells.map oc) (hok : okFs ys = true) (hvs : ys.map frz = vs) (hz : ∀ v ∈ vs, v.cells.length = z)
    (k : EOps P hbs ops i r ((MS.mk l nt ((n, .rw z e vs) :: o) H).st G md) K) : EOps P hbs ops i r ((MS.mk l nt o H).st G md) K := by
  refine EOps.gh hf (fun E a w S g hr => ?_) k
  have hm : ((MS.mk l nt o H).st G md).ob (.L n) = some (.ow z e ks xs) := hn
  subst hvs
  subst hxs
  have hok' : ∀ y ∈ ys, okF y = true := by rw [okFs_all, List.all_eq_true] at hok; exact hok
  have := hr.freeze (vs := ys.map frz) hm (by simp) hz (fun k c y hc hy => ?_)
  · rwa [st_set] at this
  · rw [flat_frz, List.getElem?_map] at hy
    cases hk : (flat ys)[k]? with
    | none => rw [hk] at hy; cases hy
    | some x =>
      rw [hk] at hy
      cases hy
      have hfl : (ys.map fun y => y.cells.map oc).flatten = (flat ys).map oc := by
        exact flat_oc ys
      rw [hfl, List.getElem?_map, hk] at hc
      cases hc
      have hx : x ∈ flat ys := List.mem_of_getElem? hk
      obtain ⟨y, hy, hxy⟩ := List.mem_flatMap.1 hx
      have hokx := okF_cells y (hok' y hy) x hxy
      unfold oc
      cases hp : plainB x with
      | false => exact .inl ⟨x, rfl, hokx, rfl⟩
      | true =>
        refine .inr ⟨trivial, ?_⟩
        have : frz x = x := by cases x <;> first | rfl | (unfold plainB at hp; cases hp)
        rw [this]; exact .p
theorem AW.fz (n : Nat) (ys : List PV) (vs : List PV) {c : Code} {Q : Exit → St → Prop} {l : List (Nat × TV)} {nt : Nat} {o : List (Nat × AObj)} {H : List AObj} {z e : Nat} {ks : List Nm} {xs : List (List TV)}
    (hn : lkN o n = some (.ow z e ks xs)) (hxs : xs = ys.map fun y => y.cells.map oc) (hok : okFs ys = true) (hvs : ys.map frz = vs) (hz : ∀ v ∈ vs, v.cells.length = z)
    (k : AW P c Q ((MS.mk l nt ((n, .rw z e vs) :: o) H).st G md)) : AW P c Q ((MS.mk l nt o H).st G md) := by
  refine AW.gh (fun E a w S g hr => ?_) k
  have h1 := EOps.fz (P := P) (G := G) (md := md) (hbs := fun _ => true) (ops := #[]) (i := 0) (r := []) (K := fun τ => τ = (MS.mk l nt ((n, .rw z e vs) :: o) H).st G md) n ys vs rfl hn hxs hok hvs hz (EOps.nil rfl)
  rw [EOps.flag rfl] at h1
  have h2 := h1 rfl E a w S g hr (fun _ a' w' => a' = a ∧ w' = w → ∃ S' g', Rep E ((MS.mk l nt ((n, .rw z e vs) :: o) H).st G md) a w S' g') (fun a' w' ⟨τ, S', g', k1, k2⟩ ⟨e1, e2⟩ => by subst k1; subst e1; subst e2; exact ⟨S', g', k2⟩)
  exact h2 ⟨rfl, rfl⟩
theorem EOps.apP (T : Tab P) (ps : List PV) {hbs : Nat → Bool} {ops : Array Oper} {K : St → Prop} {r : List Oper} {i : Nat} {l : List (Nat × TV)} {n : Nat} {o : List (Nat × AObj)} {H : List AObj} {d : Nat} {s x : Operand} {t : TypeId} {ty : TypeId} {pos : String} {af : Array Edge} {gd : Option (Nat × Bool)} {e z by_ : Nat} {b : Bool} {zs : List Value} {m : Nat} {len : Nat} {ks : List Nm} {xs : List (List TV)} {X : TV}
    (hf : hbs 4294967296 = true) (hg : gtM ops.toList l n gd = true) (hs : evM l s = some (.vw (.L m) len)) (hn : lkN o m = some (.ow z e ks xs)) (hx : evM l x = some X) (he : T.sl t = some e) (hl : T.lay e = some (b, z)) (hz : T.zer e = some zs) (hby : T.byt e = some by_) (hq : (Nat.beq zs.length z && Nat.blt 0 z && Nat.blt 0 by_ && Nat.blt d n) = true)
    (hlen : xs.length = len) (hsrc : RowOf (obM o H) X z ps) (hkl : ∀ m ∈ ks, m.lt H.length) (hby2 : (xs.length + ps.length) * by_ ≤ 140737488355328)
    (k : EOps P hbs ops (i + 1) r ((MS.mk ((d, .vw (.L m) (xs.length + ps.length)) :: l) n ((m, .ow z e ks (xs ++ ps.map fun y => y.cells.map TV.p)) :: o) H).st G md) K) :
    EOps P hbs ops i (⟨some d, .call ⟨.builtin .append, #[s, x], #[t, t]⟩, ty, pos, af, gd⟩ :: r) ((MS.mk l n o H).st G md) K := by
  refine EOps.ap T ks (ys := ps.map fun y => y.cells.map TV.p) hf hg hs hn hx he hl hz hby hq hlen (.inl ⟨ps, hsrc, rfl⟩) (fun _ h => h) (fun y hy => ?_) hkl (fun j e => by cases e) (by simpa using hby2) (by simpa [setM] using k)
  obtain ⟨c, hc, hyc⟩ := List.mem_flatten.1 hy
  obtain ⟨q, _, rfl⟩ := List.mem_map.1 hc
  obtain ⟨q2, _, rfl⟩ := List.mem_map.1 hyc
  exact .p
theorem EOps.soP (T : Tab P) (y : PV) (c : List TV) {hbs : Nat → Bool} {ops : Array Oper} {K : St → Prop} {r : List Oper} {i : Nat} {l : List (Nat × TV)} {n : Nat} {o : List (Nat × AObj)} {H : List AObj} {t : Nat} {x yo : Operand} {ty : TypeId} {pos : String} {af : Array Edge} {gd : Option (Nat × Bool)} {z e : Nat} {b : Bool} {sz : Nat} {m : Nat} {len ix off : Nat} {ks : List Nm} {xs : List (List TV)}
    (hf : hbs 4294967296 = true) (hg : gtM ops.toList l n gd = true) (hx : evM l x = some (.ip (.L m) len z ix off)) {Y : TV} (hY0 : evM l yo = some Y) (hY1 : relT (obM o H) Y y) (hn : lkN o m = some (.ow z e ks xs)) (hl : T.lay t = some (b, sz)) (hlen : xs.length = len) (hc : xs[ix]? = some c) (hsz : y.cells.length = sz) (hoff : off + sz ≤ c.length) (hkl : ∀ m ∈ ks, m.lt H.length)
    (k : EOps P hbs ops (i + 1) r ((MS.mk l n ((m, .ow z e ks (xs.set ix (splice c off (y.cells.map TV.p)))) :: o) H).st G md) K) :
    EOps P hbs ops i (⟨none, .store t x yo, ty, pos, af, gd⟩ :: r) ((MS.mk l n o H).st G md) K := by
  have hobm : ((MS.mk l n o H).st G md).ob = obM o H := by funext m; exact obM_ob m
  refine EOps.sem hf (want_of hg) (fun E a w S g hr Q => ?_)
  have hev := hr.eval
  have hm : ((MS.mk l n o H).st G md).ob (.L m) = some (.ow z e ks xs) := hn
  have hXr := hev x
  rw [show ((MS.mk l n o H).st G md).ev x = _ from evM_ev hx] at hXr
  have hYr := hev yo
  rw [show ((MS.mk l n o H).st G md).ev yo = Y from evM_ev hY0] at hYr
  have hYp := (relT_pv _ _ _ hY1).sound (by rw [← hobm]; exact hr.obs) hYr
  have hpc := PC.of_prep hYp
  have hYc : CRep (((MS.mk l n o H).st G md).env w S g) (y.cells.map TV.p) (a.eval yo).cells.toList := ⟨by rw [hpc.len]; simp, fun k y' u hy hu => by
    rw [List.getElem?_map] at hy
    cases hk : y.cells[k]? with
    | none => rw [hk] at hy; cases hy
    | some q => rw [hk] at hy; cases hy; exact .p (hpc.get k q u hk hu).1, hpc.one⟩
  generalize hX : a.eval x = X at hXr
  cases hXr with
  | @ip _ _ _ _ _ bb hnl h0 =>
  obtain ⟨cap, hgm⟩ := (h0 xs.length (by show (((MS.mk l n o H).st G md).ob (.L m)).bind AObj.ln = _; rw [hm]; rfl)).2 hlen.symm
  have hgm' : (g (.L m)).v = .slice (some ⟨bb, 0, none⟩) xs.length cap := by rw [hlen]; exact hgm
  obtain ⟨w', g', r1, r2⟩ := hr.setOw (P := P) (ks' := ks) hm hc hYc (by simpa [hsz] using hoff) (fun _ h => h) (fun x hx => by obtain ⟨q, _, rfl⟩ := List.mem_map.1 hx; exact .p) hkl (fun j e => by cases e) hgm'
  have hszV : (a.eval yo).cells.size = sz := by rw [← hsz, ← hpc.len]; simp
  have hrun : (execOp a.eval ⟨none, .store t x yo, ty, pos, af, gd⟩).run P w = .ok .skip w' := by
    have hs : (sizeOf t).run P w = .ok sz w := lay_size (T.hlay _ _ hl) w
    simp [execOp, Instr.storeAt, hX, Instr.sureAddr, storeVar, hs, hszV, r1]
  unfold Oper.wp
  rw [hrun, Oper.upon_skip]
  have hput := r2.put (v := .u) (V := undef) .u none
  rw [st_set] at hput
  exact ⟨_, S, g', k, hput⟩
end
end Go.Proofs.YtbjjdjipdcdfhaaDoor.En
end
section
namespace Go.Proofs.YtbjjdjipdcdfhaaDoor.En
set_option linter.unusedVariables false
set_option linter.unusedSimpArgs false
open Go Go.RowKit Go.Proofs.YtbjjdjipdcdfhaaDoor.PA
class Op (A : Prop) (B : outParam Prop) : Prop where
  h : B → A
theorem op {A B : Prop} [i : Op A B] (k : B) : A := i.h k
class NeC (i j : Nat) : Prop where
  h : Nat.beq j i = false
instance NeC.a (j : Nat) : NeC 0 (j + 1) := ⟨rfl⟩
instance NeC.b (i : Nat) : NeC (i + 1) 0 := ⟨rfl⟩
instance NeC.c (i j : Nat) [h : NeC i j] : NeC (i + 1) (j + 1) := ⟨h.h⟩
section
variable {P : Program} {G : Nat → Option PV} {md : Nat → Nat} {σ : St} {Q : Exit → St → Prop} {B : Prop}
instance (priority := low) op0 {A : Prop} : Op A A := ⟨id⟩
instance op1 {x y z : Code} [Op (AW P x (Then P y (Then P z Q)) σ) B] : Op (AW P (.seq (.seq x y) z) Q σ) B := ⟨fun k => n1 (op k)⟩
instance op2 {c : Operand} {x y z : Code} : Op (AW P (.seq (.cond c x y) z) Q σ) (AW P (.cond c x y) (Then P z Q) σ) := ⟨n2⟩
instance op3 {i : Nat} {c z : Code} [Op (AW P c (InBlock i (Then P z Q)) σ) B] : Op (AW P (.seq (.block i c) z) Q σ) B := ⟨fun k => n3 (op k)⟩
instance op4 {c z : Code} : Op (AW P (.seq (.loop c) z) Q σ) (AW P (.loop c) (Then P z Q) σ) := ⟨n4⟩
instance op5 {z : Code} [Op (AW P z Q σ) B] : Op (AW P (.seq .skip z) Q σ) B := ⟨fun k => n5 (op k)⟩
instance op6 [Op (Q .normal σ) B] : Op (AW P .skip Q σ) B := ⟨fun k => n6 (op k)⟩
instance op7 {i : Nat} [Op (Q (.exit i) σ) B] : Op (AW P (.exit i) Q σ) B := ⟨fun k => n7 (op k)⟩
instance op8 {i : Nat} {c : Code} [Op (AW P c (InBlock i Q) σ) B] : Op (AW P (.block i c) Q σ) B := ⟨fun k => n8 (op k)⟩
instance op10 {z : Code} [Op (AW P z Q σ) B] : Op (Then P z Q .normal σ) B := ⟨fun k => n10 (op k)⟩
instance op11 {z : Code} {i : Nat} [Op (Q (.exit i) σ) B] : Op (Then P z Q (.exit i) σ) B := ⟨fun k => n11 (op k)⟩
instance op12 {i : Nat} [Op (Q .normal σ) B] : Op (InBlock i Q .normal σ) B := ⟨fun k => n12 (op k)⟩
instance op13 {i : Nat} [Op (Q .normal σ) B] : Op (InBlock i Q (.exit i) σ) B := ⟨fun k => n13 (by simp) (op k)⟩
instance op14 {i j : Nat} [h : NeC i j] [Op (Q (.exit j) σ) B] : Op (InBlock i Q (.exit j) σ) B := ⟨fun k => n14 h.h (op k)⟩
instance op15 {α : Type} {s0 : α → MS} {F : Nat → α → Prop} {n i : Nat} [Op (Q (.exit i) σ) B] : Op (RoundM G md s0 F n Q (.exit i) σ) B := ⟨fun k => n15 (op k)⟩
instance op16 {hbs : Nat → Bool} {ops : Array Oper} {K : St → Prop} {i : Nat} [Op (K σ) B] : Op (EOps P hbs ops i [] σ K) B := ⟨fun k => n16 (op k)⟩
instance op17 {id : Nat} {ops : Array Oper} {y : Code} : Op (AW P (.seq (.region id ops false) y) Q σ) (EOps P (fun _ => true) ops 0 ops.toList σ (fun τ => AW P y Q τ)) := ⟨n17⟩
instance op18 {id : Nat} {ops : Array Oper} : Op (AW P (.region id ops false) Q σ) (EOps P (fun _ => true) ops 0 ops.toList σ (fun τ => Q .normal τ)) := ⟨n18⟩
instance op21 {z : Code} [Op (Q .ret σ) B] : Op (Then P z Q .ret σ) B := ⟨fun k => n21 (op k)⟩
instance op22 {i : Nat} [Op (Q .ret σ) B] : Op (InBlock i Q .ret σ) B := ⟨fun k => n22 (op k)⟩
instance op23 {α : Type} {s0 : α → MS} {F : Nat → α → Prop} {n : Nat} [Op (Q .ret σ) B] : Op (RoundM G md s0 F n Q .ret σ) B := ⟨fun k => n23 (op k)⟩
instance op24 [Op (Q .ret σ) B] : Op (AW P .ret Q σ) B := ⟨fun k => n24 (op k)⟩
theorem dr1 {id : Nat} {ops : Array Oper} {y : Code} {s : MS} (h : EOps P (fun i => Nat.blt i 4294967296) ops 0 ops.toList (s.st G md) (fun τ => AW P y Q τ)) (hm : P.follows .mixedOrders = true := by kernel_rfl) (hc : chkB md (fun i => Nat.blt i 4294967296) (flS md s.n (ownT s.l []) ⟨klT s.l, blT s.o⟩ ops) ops = true := by rfl) (ha : apB md ops = true := by kernel_rfl)
    (hn : ops.toList.all (fun o => match newL md o with | some d => freT d s.l && freO d s.o | none => true) = true := by rfl) : AW P (.seq (.region id ops true) y) Q (s.st G md) := n25 hm hc ha hn h
theorem dr2 {id : Nat} {ops : Array Oper} {s : MS} (h : EOps P (fun i => Nat.blt i 4294967296) ops 0 ops.toList (s.st G md) (fun τ => Q .normal τ)) (hm : P.follows .mixedOrders = true := by kernel_rfl) (hc : chkB md (fun i => Nat.blt i 4294967296) (flS md s.n (ownT s.l []) ⟨klT s.l, blT s.o⟩ ops) ops = true := by rfl) (ha : apB md ops = true := by kernel_rfl)
    (hn : ops.toList.all (fun o => match newL md o with | some d => freT d s.l && freO d s.o | none => true) = true := by rfl) : AW P (.region id ops true) Q (s.st G md) := n26 hm hc ha hn h
theorem dr3 {id : Nat} {ops : Array Oper} {y : Code} {s : MS} (h : EOps P (fun _ => false) ops 0 ops.toList (s.st G md) (fun τ => AW P y Q τ)) (hm : P.follows .mixedOrders = true := by kernel_rfl) (hc : chkB md (fun _ => false) noFl ops = true := by decide +kernel) (ha : apB md ops = true := by kernel_rfl)
    (hn : ops.toList.all (fun o => match newL md o with | some d => freT d s.l && freO d s.o | none => true) = true := by rfl) : AW P (.seq (.region id ops true) y) Q (s.st G md) := n19 hm hc ha hn h
theorem dr4 {id : Nat} {ops : Array Oper} {s : MS} (h : EOps P (fun _ => false) ops 0 ops.toList (s.st G md) (fun τ => Q .normal τ)) (hm : P.follows .mixedOrders = true := by kernel_rfl) (hc : chkB md (fun _ => false) noFl ops = true := by decide +kernel) (ha : apB md ops = true := by kernel_rfl)
    (hn : ops.toList.all (fun o => match newL md o with | some d => freT d s.l && freO d s.o | none => true) = true := by rfl) : AW P (.region id ops true) Q (s.st G md) := n20 hm hc ha hn h
theorem rn (T : Tab P) {hbs : Nat → Bool} {ops : Array Oper} {K : St → Prop} {l : List Oper} {i : Nat} {s : MS} (m : Nat) (h : List PV) {s' : MS} {h' : List PV} {i' : Nat} {r' : List Oper} {q' : Prop} [Op (EOps P hbs ops i' r' (s'.st G md) K) B] (k : B)
    (hr : runM T G md ops.toList m l i s h True = ((s', h'), (i', r'), q') := by rfl) (hq : q' := by (repeat' apply And.intro) <;> first | trivial | rfl | assumption | omega | exact mT rfl | exact mT (by assumption) | exact mM rfl | exact mM (by assumption) | exact mI (by assumption) | exact mS (by assumption) | exact mU (by assumption) | (simp; done) | (simp [Mn.f0, Mn.f1, Mn.f2, Mn.f3, Mn.f4, Tn.f0]; done) | (simp [*]; done) | (simp [relT, eT_eq, eM_eq, PV.cells, Tn.f0, Mn.f4, *]; done) | (simp; omega)) : EOps P hbs ops i l (s.st G md) K := EOps.run T m h hr hq (op k)
theorem pcs {hbs : Nat → Bool} {ops : Array Oper} {K : St → Prop} {r : List Oper} {i : Nat} {l : List (Nat × TV)} {n : Nat} {o : List (Nat × AObj)} {H : List AObj} {d : Nat} {x : Operand} {args : Array Operand} {ats : Array TypeId} {ty : TypeId} {pos : String} {af : Array Edge} {f : FuncId} {xs : List PV} {q : Prop} {v : TV} {gd : Option (Nat × Bool)}
    (hc : PF P G f xs v) [Op (EOps P hbs ops (i + 1) r ((MS.mk ((d, v) :: l) n o H).st G md) K) B] (k : B)
    (hg : gtM ops.toList l n gd = true := by rfl) (ha : argsM ⟨l, n, o, H⟩ x args.toList = some ((f, xs), q) := by rfl) (hq : q := by (repeat' apply And.intro) <;> first | trivial | rfl | assumption | omega | exact mT rfl | exact mT (by assumption) | exact mM rfl | exact mM (by assumption) | exact mI (by assumption) | exact mS (by assumption) | exact mU (by assumption) | (simp; done) | (simp [Mn.f0, Mn.f1, Mn.f2, Mn.f3, Mn.f4, Tn.f0]; done) | (simp [*]; done) | (simp [relT, eT_eq, eM_eq, PV.cells, Tn.f0, Mn.f4, *]; done) | (simp; omega)) (hd : Nat.blt d n = true := by rfl) :
    EOps P hbs ops i (⟨some d, .call ⟨.value x, args, ats⟩, ty, pos, af, gd⟩ :: r) ((MS.mk l n o H).st G md) K := EOps.pc hg ha hq hd hc (op k)
theorem pqs {hbs : Nat → Bool} {ops : Array Oper} {K : St → Prop} {r : List Oper} {i : Nat} {l : List (Nat × TV)} {n : Nat} {o : List (Nat × AObj)} {H : List AObj} {d : Nat} {x : Operand} {args : Array Operand} {ats : Array TypeId} {ty : TypeId} {pos : String} {af : Array Edge} {f : FuncId} {xs : List PV} {vs : List TV} {v : TV} {gd : Option (Nat × Bool)}
    (hc : PF P G f xs v) [Op (EOps P hbs ops (i + 1) r ((MS.mk ((d, v) :: l) n o H).st G md) K) B] (k : B)
    (hg : gtM ops.toList l n gd = true := by rfl) (hx : evM l x = some (.fn f []) := by rfl) (ha : evL l args.toList = some vs := by rfl) (hr : relTs (obM o H) vs xs := by (repeat' apply And.intro) <;> first | trivial | rfl | assumption | omega | exact mT rfl | exact mT (by assumption) | exact mM rfl | exact mM (by assumption) | exact mI (by assumption) | exact mS (by assumption) | exact mU (by assumption) | (simp; done) | (simp [Mn.f0, Mn.f1, Mn.f2, Mn.f3, Mn.f4, Tn.f0]; done) | (simp [*]; done) | (simp [relT, eT_eq, eM_eq, PV.cells, Tn.f0, Mn.f4, *]; done) | (simp; omega)) (hd : Nat.blt d n = true := by rfl) :
    EOps P hbs ops i (⟨some d, .call ⟨.value x, args, ats⟩, ty, pos, af, gd⟩ :: r) ((MS.mk l n o H).st G md) K := EOps.pq hg hx ha hr hd hc (op k)
theorem ivs {hbs : Nat → Bool} {ops : Array Oper} {K : St → Prop} {r : List Oper} {i : Nat} {l : List (Nat × TV)} {n : Nat} {o : List (Nat × AObj)} {H : List AObj} {d : Nat} {x : Operand} {m : String} {args : Array Operand} {ats : Array TypeId} {ty : TypeId} {pos : String} {af : Array Edge} {f : FuncId} {t : TypeId} {u : PV} {xs : List PV} {vs : List TV} {v : TV} {gd : Option (Nat × Bool)}
    (hc : PF P G f (u :: xs) v) [Op (EOps P hbs ops (i + 1) r ((MS.mk ((d, v) :: l) n o H).st G md) K) B] (k : B)
    (hg : gtM ops.toList l n gd = true := by rfl) (hx : evM l x = some (.p (.ifc t u)) := by rfl) (hm : MethOk P t m f := by exact (fun _ _ _ => by kernel_rfl)) (ha : evL l args.toList = some vs := by rfl) (hr : relTs (obM o H) vs xs := by (repeat' apply And.intro) <;> first | trivial | rfl | assumption | omega | exact mT rfl | exact mT (by assumption) | exact mM rfl | exact mM (by assumption) | exact mI (by assumption) | exact mS (by assumption) | exact mU (by assumption) | (simp; done) | (simp [Mn.f0, Mn.f1, Mn.f2, Mn.f3, Mn.f4, Tn.f0]; done) | (simp [*]; done) | (simp [relT, eT_eq, eM_eq, PV.cells, Tn.f0, Mn.f4, *]; done) | (simp; omega)) (hd : Nat.blt d n = true := by rfl) :
    EOps P hbs ops i (⟨some d, .call ⟨.invoke x m, args, ats⟩, ty, pos, af, gd⟩ :: r) ((MS.mk l n o H).st G md) K := EOps.iq hg hx hm ha hr hd hc (op k)
def FE (P : Program) (G : Nat → Option PV) (f : FuncId) (args : List TV) (H : List AObj) (R : TV → List AObj → Prop) : Prop := FC P G f args H R ∧ ∃ r H', R r H' ∧ r.All Nm.isS ∧ HSh H'
theorem EOps.he {hbs : Nat → Bool} {ops : Array Oper} {K : St → Prop} {r : List Oper} {i : Nat} {l : List (Nat × TV)} {n : Nat} {o : List (Nat × AObj)} {H : List AObj} {d : Nat} {x : Operand} {args : Array Operand} {ats : Array TypeId} {ty : TypeId} {pos : String} {af : Array Edge} {f : FuncId} {vs xs : List TV} {R : TV → List AObj → Prop} {gd : Option (Nat × Bool)}
    (hb : hbs i = true) (hg : gtM ops.toList l n gd = true) (ha : argsH ⟨l, n, o, H⟩ x args.toList = some (f, vs)) (hv : RelL (obM o H) vs xs) (hs : shBs xs = true) (hd : Nat.blt d n = true) (hc : FE P G f xs H R)
    (k : ∀ v H', R v H' → v.All Nm.isS → HSh H' → EOps P hbs ops (i + 1) r ((MS.mk ((d, v) :: l) n o H').st G md) K) :
    EOps P hbs ops i (⟨some d, .call ⟨.value x, args, ats⟩, ty, pos, af, gd⟩ :: r) ((MS.mk l n o H).st G md) K := EOps.hc hb hg ha hv hs hd hc.1 hc.2 k
theorem hes {hbs : Nat → Bool} {ops : Array Oper} {K : St → Prop} {r : List Oper} {i : Nat} {l : List (Nat × TV)} {n : Nat} {o : List (Nat × AObj)} {H : List AObj} {d : Nat} {x : Operand} {args : Array Operand} {ats : Array TypeId} {ty : TypeId} {pos : String} {af : Array Edge} {f : FuncId} {vs xs : List TV} {R : TV → List AObj → Prop} {gd : Option (Nat × Bool)}
    (hc : FE P G f xs H R) (k : ∀ v H', R v H' → v.All Nm.isS → HSh H' → EOps P hbs ops (i + 1) r ((MS.mk ((d, v) :: l) n o H').st G md) K)
    (hb : hbs i = true := by rfl) (hg : gtM ops.toList l n gd = true := by rfl) (ha : argsH ⟨l, n, o, H⟩ x args.toList = some (f, vs) := by rfl) (hv : RelL (obM o H) vs xs := by (repeat' apply And.intro) <;> first | exact trivial | exact .inl rfl | rfl | (refine .inr ⟨_, ?_, rfl⟩; exact relT_pv _ _ _ (by (repeat' apply And.intro) <;> first | trivial | rfl)) | exact .inl (congrArg (fun q => some (AObj.rw _ _ q)) (by assumption)) | exact .inl (congrArg (fun q => some (AObj.ow _ _ _ q)) (by assumption)) | (refine .inl ?_; simp [*]; done)) (hs : shBs xs = true := by rfl) (hd : Nat.blt d n = true := by rfl) :
    EOps P hbs ops i (⟨some d, .call ⟨.value x, args, ats⟩, ty, pos, af, gd⟩ :: r) ((MS.mk l n o H).st G md) K := EOps.he hb hg ha hv hs hd hc k
theorem cts {c : Operand} {x y : Code} {s : MS} [Op (AW P x Q (s.st G md)) B] (h : B) (hc : evM s.l c = some (.p (.c (.bool true))) := by rfl) : AW P (.cond c x y) Q (s.st G md) := ct hc (op h)
theorem cfs {c : Operand} {x y : Code} {s : MS} [Op (AW P y Q (s.st G md)) B] (h : B) (hc : evM s.l c = some (.p (.c (.bool false))) := by rfl) : AW P (.cond c x y) Q (s.st G md) := cf hc (op h)
theorem ctq {c : Operand} {x y : Code} {s : MS} {b : Bool} (hc : evM s.l c = some (.p (.c (.bool b)))) (hb : b = true) [Op (AW P x Q (s.st G md)) B] (h : B) : AW P (.cond c x y) Q (s.st G md) := ctp hc hb (op h)
theorem cfq {c : Operand} {x y : Code} {s : MS} {b : Bool} (hc : evM s.l c = some (.p (.c (.bool b)))) (hb : b = false) [Op (AW P y Q (s.st G md)) B] (h : B) : AW P (.cond c x y) Q (s.st G md) := cfp hc hb (op h)
theorem lpw {α : Type} {c : Code} {s : MS} (s0 : α → MS) (F : Nat → α → Prop) (n : Nat) (x : α) (h0 : F n x) (h : ∀ n x, F n x → AW P c (RoundM G md s0 F n Q) ((s0 x).st G md))
    (hn : (s0 x).n = s.n := by rfl) (hH : (s0 x).H = s.H := by rfl) (hl : wkL (obM s.o s.H) s.l (s0 x).l := by (repeat' apply And.intro) <;> first | exact trivial | exact .inl rfl | rfl | (refine .inr ⟨_, ?_, rfl⟩; exact relT_pv _ _ _ (by (repeat' apply And.intro) <;> first | trivial | rfl)) | exact .inl (congrArg (fun q => some (AObj.rw _ _ q)) (by assumption)) | exact .inl (congrArg (fun q => some (AObj.ow _ _ _ q)) (by assumption)) | (refine .inl ?_; simp [*]; done)) (ho : wkO (obM s.o s.H) s.o (s0 x).o := by (repeat' apply And.intro) <;> first | exact trivial | exact .inl rfl | rfl | (refine .inr ⟨_, ?_, rfl⟩; exact relT_pv _ _ _ (by (repeat' apply And.intro) <;> first | trivial | rfl)) | exact .inl (congrArg (fun q => some (AObj.rw _ _ q)) (by assumption)) | exact .inl (congrArg (fun q => some (AObj.ow _ _ _ q)) (by assumption)) | (refine .inl ?_; simp [*]; done)) : AW P (.loop c) Q (s.st G md) := AW.lp s0 F n x h0 (wk_of hn hH hl ho) h
theorem nxt {α : Type} {s0 : α → MS} {F : Nat → α → Prop} {n : Nat} {s : MS} (m : Nat) (x : α) (hF : F m x) (hlt : m < n := by omega) (hn : (s0 x).n = s.n := by rfl) (hH : (s0 x).H = s.H := by first | rfl | exact congrArg (fun q => [AObj.rw _ _ q]) (by symm; assumption))
    (hl : wkL (obM s.o s.H) s.l (s0 x).l := by (repeat' apply And.intro) <;> first | exact trivial | exact .inl rfl | rfl | (refine .inr ⟨_, ?_, rfl⟩; exact relT_pv _ _ _ (by (repeat' apply And.intro) <;> first | trivial | rfl)) | exact .inl (congrArg (fun q => some (AObj.rw _ _ q)) (by assumption)) | exact .inl (congrArg (fun q => some (AObj.ow _ _ _ q)) (by assumption)) | (refine .inl ?_; simp [*]; done)) (ho : wkO (obM s.o s.H) s.o (s0 x).o := by (repeat' apply And.intro) <;> first | exact trivial | exact .inl rfl | rfl | (refine .inr ⟨_, ?_, rfl⟩; exact relT_pv _ _ _ (by (repeat' apply And.intro) <;> first | trivial | rfl)) | exact .inl (congrArg (fun q => some (AObj.rw _ _ q)) (by assumption)) | exact .inl (congrArg (fun q => some (AObj.ow _ _ _ q)) (by assumption)) | (refine .inl ?_; simp [*]; done)) : RoundM G md s0 F n Q .normal (s.st G md) := RoundM.next m x hlt hF hn hH hl ho
theorem rt1 (T : Tab P) {rs : List ResultVar} {R : TV → List AObj → Prop} {s : MS} {vs : List TV} (y : PV) (hR : R (.p y) s.H) (h : resV T s rs = some vs := by rfl) (hr : relTs (obM s.o s.H) vs [y] := by (repeat' apply And.intro) <;> first | trivial | rfl | assumption | omega | exact mT rfl | exact mT (by assumption) | exact mM rfl | exact mM (by assumption) | exact mI (by assumption) | exact mS (by assumption) | exact mU (by assumption) | (simp; done) | (simp [Mn.f0, Mn.f1, Mn.f2, Mn.f3, Mn.f4, Tn.f0]; done) | (simp [*]; done) | (simp [relT, eT_eq, eM_eq, PV.cells, Tn.f0, Mn.f4, *]; done) | (simp; omega)) : Ends P rs R .ret (s.st G md) := ret1 T h hr hR
theorem rt2 (T : Tab P) {rs : List ResultVar} {R : TV → List AObj → Prop} {s : MS} {vs : List TV} (y z : PV) (hR : R (.tp [.p y, .p z]) s.H) (h : resV T s rs = some vs := by rfl) (hr : relTs (obM s.o s.H) vs [y, z] := by (repeat' apply And.intro) <;> first | trivial | rfl | assumption | omega | exact mT rfl | exact mT (by assumption) | exact mM rfl | exact mM (by assumption) | exact mI (by assumption) | exact mS (by assumption) | exact mU (by assumption) | (simp; done) | (simp [Mn.f0, Mn.f1, Mn.f2, Mn.f3, Mn.f4, Tn.f0]; done) | (simp [*]; done) | (simp [relT, eT_eq, eM_eq, PV.cells, Tn.f0, Mn.f4, *]; done) | (simp; omega)) : Ends P rs R .ret (s.st G md) := ret2 T h hr hR
theorem rt3 (T : Tab P) {rs : List ResultVar} {R : TV → List AObj → Prop} {s : MS} {vs : List TV} (y z u : PV) (hR : R (.tp [.p y, .p z, .p u]) s.H) (h : resV T s rs = some vs := by rfl) (hr : relTs (obM s.o s.H) vs [y, z, u] := by (repeat' apply And.intro) <;> first | trivial | rfl | assumption | omega | exact mT rfl | exact mT (by assumption) | exact mM rfl | exact mM (by assumption) | exact mI (by assumption) | exact mS (by assumption) | exact mU (by assumption) | (simp; done) | (simp [Mn.f0, Mn.f1, Mn.f2, Mn.f3, Mn.f4, Tn.f0]; done) | (simp [*]; done) | (simp [relT, eT_eq, eM_eq, PV.cells, Tn.f0, Mn.f4, *]; done) | (simp; omega)) : Ends P rs R .ret (s.st G md) := ret3 T h hr hR
theorem bdy {f : FuncId} {fn : Func} {c : Code} {args : List TV} {H : List AObj} {R : TV → List AObj → Prop} (hf : P.funcs[f]? = some fn) (md : Nat → Nat) (hb : fn.body = some c) [Op (AW P c (Ends P fn.results.toList R) ((MS.mk (initL 0 args) fn.ntmps [] H).st G md)) B] (h : B)
    (hcall : callable P f = true := by kernel_rfl) (hn : Nat.ble args.length fn.ntmps = true := by rfl) (hA : shBs args = true := by rfl) : FC P G f args H R := FC.body md hcall hf hb hn hA (op h)
theorem bs0 (T : Tab P) {hbs : Nat → Bool} {ops : Array Oper} {K : St → Prop} {r : List Oper} {i : Nat} {l : List (Nat × TV)} {n : Nat} {o : List (Nat × AObj)} {H : List AObj} {d t : Nat} {parts : Array (Nat × Operand)} {ty : TypeId} {pos : String} {af : Array Edge} {gd : Option (Nat × Bool)} {e z : Nat} {b : Bool}
    [Op (EOps P hbs ops (i + 1) r ((MS.mk ((d, .vw (.L d) 0) :: l) n ((d, .ow z e [] []) :: o) H).st G md) K) B] (k : B)
    (hf : hbs 4294967296 = true := by rfl) (hg : gtM ops.toList l n gd = true := by rfl) (he : T.sl t = some e := by rfl) (hl : T.lay e = some (b, z) := by rfl) (hz : (T.zer e).isSome = true := by rfl) (hq : (Nat.blt 0 z && Nat.ble (0 * z) 16777216 && decide (parts.toList.map (·.1) = List.range 0)) = true := by kernel_rfl)
    (hv : evL l (parts.toList.map (·.2)) = some [] := by rfl) (hfr : (freT d l && freO d o && nmBs d [] && Nat.blt d n) = true := by kernel_rfl) :
    EOps P hbs ops i (⟨some d, .buildSlice t 0 parts, ty, pos, af, gd⟩ :: r) ((MS.mk l n o H).st G md) K := EOps.bs T [] hf hg he hl hz hq hv (fun v hv => by cases hv) hfr (fun m hm => by cases hm) (show EOps P hbs ops (i + 1) r ((MS.mk ((d, .vw (.L d) 0) :: l) n ((d, .ow z e [] []) :: o) H).st G md) K from op k)
theorem aps (T : Tab P) (ps : List PV) {hbs : Nat → Bool} {ops : Array Oper} {K : St → Prop} {r : List Oper} {i : Nat} {l : List (Nat × TV)} {n : Nat} {o : List (Nat × AObj)} {H : List AObj} {d : Nat} {s x : Operand} {t : TypeId} {ty : TypeId} {pos : String} {af : Array Edge} {gd : Option (Nat × Bool)} {e z by_ : Nat} {b : Bool} {zs : List Value} {m : Nat} {len : Nat} {xs : List (List TV)} {X : TV}
    [Op (EOps P hbs ops (i + 1) r ((MS.mk ((d, .vw (.L m) (xs.length + ps.length)) :: l) n ((m, .ow z e [] (xs ++ ps.map fun y => y.cells.map TV.p)) :: o) H).st G md) K) B] (k : B)
    (hf : hbs 4294967296 = true := by rfl) (hg : gtM ops.toList l n gd = true := by rfl) (hs : evM l s = some (.vw (.L m) len) := by rfl) (hn : lkN o m = some (.ow z e [] xs) := by rfl) (hx : evM l x = some X := by rfl) (he : T.sl t = some e := by rfl) (hl : T.lay e = some (b, z) := by rfl) (hz : T.zer e = some zs := by rfl) (hby : T.byt e = some by_ := by rfl)
    (hq : (Nat.beq zs.length z && Nat.blt 0 z && Nat.blt 0 by_ && Nat.blt d n) = true := by kernel_rfl)
    (hlen : xs.length = len := by first | rfl | (simp; done)) (hsrc : RowOf (obM o H) X z ps := by first | exact ⟨rfl, rfl⟩ | exact ⟨rfl, rfl, rfl⟩ | rfl) (hby2 : (xs.length + ps.length) * by_ ≤ 140737488355328 := by simp; try omega) :
    EOps P hbs ops i (⟨some d, .call ⟨.builtin .append, #[s, x], #[t, t]⟩, ty, pos, af, gd⟩ :: r) ((MS.mk l n o H).st G md) K := EOps.apP T ps hf hg hs hn hx he hl hz hby hq hlen hsrc (fun m hm => by cases hm) hby2 (op k)
theorem sos (T : Tab P) (y : PV) (c : List TV) {hbs : Nat → Bool} {ops : Array Oper} {K : St → Prop} {r : List Oper} {i : Nat} {l : List (Nat × TV)} {n : Nat} {o : List (Nat × AObj)} {H : List AObj} {t : Nat} {x yo : Operand} {ty : TypeId} {pos : String} {af : Array Edge} {gd : Option (Nat × Bool)} {z e : Nat} {b : Bool} {sz : Nat} {m : Nat} {len ix off : Nat} {xs : List (List TV)} {Y : TV} (hx : evM l x = some (.ip (.L m) len z ix off)) (hn : lkN o m = some (.ow z e [] xs)) (hc : xs[ix]? = some c)
    (k : EOps P hbs ops (i + 1) r ((MS.mk l n ((m, .ow z e [] (xs.set ix (splice c off (y.cells.map TV.p)))) :: o) H).st G md) K)
    (hf : hbs 4294967296 = true := by rfl) (hg : gtM ops.toList l n gd = true := by rfl) (hY0 : evM l yo = some Y := by rfl) (hY1 : relT (obM o H) Y y := by (repeat' apply And.intro) <;> first | trivial | rfl | assumption | omega | exact mT rfl | exact mT (by assumption) | exact mM rfl | exact mM (by assumption) | exact mI (by assumption) | exact mS (by assumption) | exact mU (by assumption) | (simp; done) | (simp [Mn.f0, Mn.f1, Mn.f2, Mn.f3, Mn.f4, Tn.f0]; done) | (simp [*]; done) | (simp [relT, eT_eq, eM_eq, PV.cells, Tn.f0, Mn.f4, *]; done) | (simp; omega)) (hl : T.lay t = some (b, sz) := by rfl) (hlen : xs.length = len := by first | rfl | (simp; done)) (hsz : y.cells.length = sz := by rfl) (hoff : off + sz ≤ c.length := by exact (Nat.le_of_ble_eq_true rfl)) :
    EOps P hbs ops i (⟨none, .store t x yo, ty, pos, af, gd⟩ :: r) ((MS.mk l n o H).st G md) K := EOps.soP T y c hf hg hx hY0 hY1 hn hl hlen hc hsz hoff (fun m hm => by cases hm) k
end
end Go.Proofs.YtbjjdjipdcdfhaaDoor.En
end
section
namespace Go.Proofs.YtbjjdjipdcdfhaaDoor.B
set_option linter.unusedVariables false
set_option linter.unusedSimpArgs false
open Go Go.RowKit Go.Proofs.YtbjjdjipdcdfhaaDoor.En
inductive Tn where
  | mk (f0 : List Tn)
def Tn.f0 : Tn → List Tn
  | ⟨l⟩ => l
abbrev Ty := List Tn
inductive Mn where
  | mk (f0 f1 : Int) (f2 : ByteArray) (f3 : List Int) (f4 : List Mn)
def Mn.f0 : Mn → Int
  | ⟨a, _, _, _, _⟩ => a
def Mn.f1 : Mn → Int
  | ⟨_, a, _, _, _⟩ => a
def Mn.f2 : Mn → ByteArray
  | ⟨_, _, a, _, _⟩ => a
def Mn.f3 : Mn → List Int
  | ⟨_, _, _, a, _⟩ => a
def Mn.f4 : Mn → List Mn
  | ⟨_, _, _, _, a⟩ => a
mutual
def eT : Tn → PV
  | ⟨l⟩ => .ag [.row 1 (eTs l)]
def eTs : List Tn → List PV
  | [] => []
  | t :: l => eT t :: eTs l
end
theorem eTs_map : ∀ l, eTs l = l.map eT
  | [] => rfl
  | t :: l => by unfold eTs; rw [eTs_map l]; rfl
abbrev pt (l : List Tn) : PV := .ag [.row 1 (l.map eT)]
theorem eT_eq (t : Tn) : eT t = pt t.f0 := by cases t; unfold eT; rw [eTs_map]; rfl
theorem mT {l : List Tn} {i : Nat} {x : Tn} (h : l[i]? = some x) : (l.map eT)[i]? = some (pt x.f0) := by rw [List.getElem?_map, h, Option.map_some, eT_eq]
mutual
def eM : Mn → PV
  | ⟨a, b, s, p, l⟩ => .ag [pi a, pi b, ps s, .row 1 (p.map pi), .row 5 (eMs l)]
def eMs : List Mn → List PV
  | [] => []
  | t :: l => eM t :: eMs l
end
theorem eMs_map : ∀ l, eMs l = l.map eM
  | [] => rfl
  | t :: l => by unfold eMs; rw [eMs_map l]; rfl
abbrev pm (t : Mn) : PV := .ag [pi t.f0, pi t.f1, ps t.f2, .row 1 (t.f3.map pi), .row 5 (t.f4.map eM)]
theorem eM_eq (t : Mn) : eM t = pm t := by cases t; unfold eM; rw [eMs_map]; rfl
theorem mM {l : List Mn} {i : Nat} {x : Mn} (h : l[i]? = some x) : (l.map eM)[i]? = some (pm x) := by rw [List.getElem?_map, h, Option.map_some, eM_eq]
theorem mI {l : List Int} {i : Nat} {x : Int} (h : l[i]? = some x) : (l.map pi)[i]? = some (pi x) := by rw [List.getElem?_map, h, Option.map_some]
theorem mS {l : List ByteArray} {i : Nat} {x : ByteArray} (h : l[i]? = some x) : (l.map ps)[i]? = some (ps x) := by rw [List.getElem?_map, h, Option.map_some]
def dp : Nat → Ty → Bool
  | 0, _ => false
  | _ + 1, [] => true
  | n + 1, [a, b] => dp n a.f0 && dp n b.f0
  | _ + 1, _ => false
theorem dp_nil (n : Nat) : dp (n + 1) [] = true := rfl
theorem dp_two (n : Nat) (a b : Tn) : dp (n + 1) [a, b] = (dp n a.f0 && dp n b.f0) := rfl
theorem dp_odd (n : Nat) (l : Ty) (h0 : l.length ≠ 0) (h2 : l.length ≠ 2) : dp n l = false := by
  cases n with
  | zero => rfl
  | succ n =>
    match l with
    | [] => simp at h0
    | [_] => rfl
    | [_, _] => simp at h2
    | _ :: _ :: _ :: _ => rfl
theorem two_of {l : Ty} (h : l.length = 2) : ∃ a b, l = [a, b] := by
  match l with
  | [a, b] => exact ⟨a, b, rfl⟩
theorem shp (l : Ty) : l = [] ∨ (∃ a b, l = [a, b]) ∨ (l.length ≠ 0 ∧ l.length ≠ 2) := by
  match l with
  | [] => exact .inl rfl
  | [_] => exact .inr (.inr ⟨by simp, by simp⟩)
  | [a, b] => exact .inr (.inl ⟨a, b, rfl⟩)
  | _ :: _ :: _ :: _ => exact .inr (.inr ⟨by simp, by simp⟩)
def teq : Nat → Ty → Ty → Bool
  | _ + 1, [], [] => true
  | n + 1, [a, b], [c, d] => teq n a.f0 c.f0 && teq n b.f0 d.f0
  | _, _, _ => false
theorem teq_eq : ∀ (n : Nat) (a b : Ty), teq n a b = true → a = b := by
  intro n
  induction n with
  | zero => intro a b h; simp [teq] at h
  | succ n ih =>
    intro a b h
    unfold teq at h
    split at h
    · rfl
    · rename_i m x y z u he
      cases he
      rw [Bool.and_eq_true] at h
      have h1 := ih _ _ h.1
      have h2 := ih _ _ h.2
      cases x; cases y; cases z; cases u
      simp only [Tn.f0] at h1 h2
      subst h1
      subst h2
      rfl
    · cases h
theorem teq_refl : ∀ (n : Nat) (a : Ty), dp n a = true → teq n a a = true := by
  intro n
  induction n with
  | zero => intro a h; simp [dp] at h
  | succ n ih =>
    intro a h
    rcases shp a with rfl | ⟨a1, a2, rfl⟩ | ⟨h0, h2⟩
    · rfl
    · rw [dp_two, Bool.and_eq_true] at h
      show (teq n a1.f0 a1.f0 && teq n a2.f0 a2.f0) = true
      rw [ih _ h.1, ih _ h.2]; rfl
    · rw [dp_odd _ _ h0 h2] at h; cases h
def pf : List Int → Ty → Option Ty
  | [], t => some t
  | i :: r, [a, b] => if i = 0 then pf r a.f0 else if i = 1 then pf r b.f0 else none
  | _ :: _, _ => none
theorem pf_nil (t : Ty) : pf [] t = some t := by cases t <;> rfl
theorem pf_two (i : Int) (r : List Int) (a b : Tn) : pf (i :: r) [a, b] = if i = 0 then pf r a.f0 else if i = 1 then pf r b.f0 else none := rfl
theorem pf_odd (i : Int) (r : List Int) (t : Ty) (h : t.length ≠ 2) : pf (i :: r) t = none := by
  match t with
  | [] => rfl
  | [_] => rfl
  | [_, _] => simp at h
  | _ :: _ :: _ :: _ => rfl
theorem pf_app (p q : List Int) : ∀ t, pf (p ++ q) t = (pf p t).bind (pf q) := by
  induction p with
  | nil => intro t; rw [List.nil_append, pf_nil]; rfl
  | cons i r ih =>
    intro t
    by_cases h : t.length = 2
    · obtain ⟨a, b, rfl⟩ := two_of h
      rw [List.cons_append, pf_two, pf_two]
      split
      · exact ih _
      · split
        · exact ih _
        · rfl
    · rw [List.cons_append, pf_odd _ _ _ h, pf_odd _ _ _ h]; rfl
theorem dp_succ : ∀ (n : Nat) (t : Ty), dp n t = true → dp (n + 1) t = true := by
  intro n
  induction n with
  | zero => intro t h; simp [dp] at h
  | succ n ih =>
    intro t h
    rcases shp t with rfl | ⟨a, b, rfl⟩ | ⟨h0, h2⟩
    · rfl
    · rw [dp_two, Bool.and_eq_true] at h ⊢
      exact ⟨ih _ h.1, ih _ h.2⟩
    · rw [dp_odd _ _ h0 h2] at h; cases h
theorem dp_pf (n : Nat) : ∀ (p : List Int) (t u : Ty), dp n t = true → pf p t = some u → dp n u = true := by
  intro p
  induction p with
  | nil => intro t u h e; rw [pf_nil] at e; cases e; exact h
  | cons i r ih =>
    intro t u h e
    by_cases h2 : t.length = 2
    · obtain ⟨a, b, rfl⟩ := two_of h2
      cases n with
      | zero => simp [dp] at h
      | succ n =>
        rw [dp_two, Bool.and_eq_true] at h
        rw [pf_two] at e
        split at e
        · exact ih _ _ (dp_succ _ _ h.1) e
        · split at e
          · exact ih _ _ (dp_succ _ _ h.2) e
          · cases e
    · rw [pf_odd _ _ _ h2] at e; cases e
def at_ (o : Option Ty) : Ty × Bool := match o with | some u => (u, true) | none => ([], false)
def tat (t : Ty) (p : List Int) : Ty × Bool := if dp 4 t = true then at_ (pf p t) else ([], false)
theorem tat_ok (t : Ty) (p : List Int) : dp 4 (tat t p).1 = true := by
  unfold tat
  split
  · rename_i d
    cases e : pf p t with
    | none => rfl
    | some u => exact dp_pf 4 _ _ _ d e
  · rfl
theorem cmp_odd {l : Ty} (h : l.length ≠ 2) : ((((l.map eT).length : Nat) : Int) == 2) = false := by simp; omega
theorem cmp_nz {l : Ty} (h : l.length ≠ 0) : ((((l.map eT).length : Nat) : Int) == 0) = false := by simp; intro e; exact h (by simp [e])
theorem teq_len (n : Nat) (a b : Ty) (h : a.length ≠ b.length) : teq n a b = false := by
  cases h2 : teq n a b with
  | false => rfl
  | true => exact absurd (by rw [teq_eq n a b h2]) h
end Go.Proofs.YtbjjdjipdcdfhaaDoor.B
end
section
namespace Go.Proofs.YtbjjdjipdcdfhaaDoor.Ty
open Go Go.Proofs.YtbjjdjipdcdfhaaDoor.En
set_option maxRecDepth 100000
theorem lay2 : lay Tryd.prog 2 = some (false, 1) := by kernel_rfl
theorem zer2 : zer Tryd.prog 2 = some [(.int .i64 0)] := by kernel_rfl
theorem zrv2 : (Tryd.prog.info? 2).bind (·.zero) = some (.int .i64 0) := by kernel_rfl
theorem byt2 : byt Tryd.prog 2 = some 8 := by kernel_rfl
theorem und2 : Tryd.prog.underlying 2 = some (.int .i64) := by kernel_rfl
theorem con2 : Tryd.prog.concrete 2 = true := by kernel_rfl
theorem lay3 : lay Tryd.prog 3 = some (false, 1) := by kernel_rfl
theorem zer3 : zer Tryd.prog 3 = some [(.int .i64 0)] := by kernel_rfl
theorem zrv3 : (Tryd.prog.info? 3).bind (·.zero) = some (.int .i64 0) := by kernel_rfl
theorem byt3 : byt Tryd.prog 3 = some 8 := by kernel_rfl
theorem und3 : Tryd.prog.underlying 3 = some (.int .i64) := by kernel_rfl
theorem con3 : Tryd.prog.concrete 3 = true := by kernel_rfl
theorem lay4 : lay Tryd.prog 4 = some (false, 1) := by kernel_rfl
theorem zer4 : zer Tryd.prog 4 = some [(.bool false)] := by kernel_rfl
theorem zrv4 : (Tryd.prog.info? 4).bind (·.zero) = some (.bool false) := by kernel_rfl
theorem byt4 : byt Tryd.prog 4 = some 1 := by kernel_rfl
theorem und4 : Tryd.prog.underlying 4 = some .bool := by kernel_rfl
theorem con4 : Tryd.prog.concrete 4 = true := by kernel_rfl
theorem lay5 : lay Tryd.prog 5 = some (false, 1) := by kernel_rfl
theorem zer5 : zer Tryd.prog 5 = some [(.int .u8 0)] := by kernel_rfl
theorem zrv5 : (Tryd.prog.info? 5).bind (·.zero) = some (.int .u8 0) := by kernel_rfl
theorem byt5 : byt Tryd.prog 5 = some 1 := by kernel_rfl
theorem und5 : Tryd.prog.underlying 5 = some (.int .u8) := by kernel_rfl
theorem con5 : Tryd.prog.concrete 5 = true := by kernel_rfl
theorem lay6 : lay Tryd.prog 6 = some (false, 1) := by kernel_rfl
theorem zer6 : zer Tryd.prog 6 = some [(.int .u8 0)] := by kernel_rfl
theorem zrv6 : (Tryd.prog.info? 6).bind (·.zero) = some (.int .u8 0) := by kernel_rfl
theorem byt6 : byt Tryd.prog 6 = some 1 := by kernel_rfl
theorem und6 : Tryd.prog.underlying 6 = some (.int .u8) := by kernel_rfl
theorem con6 : Tryd.prog.concrete 6 = true := by kernel_rfl
theorem lay7 : lay Tryd.prog 7 = some (true, 4) := by kernel_rfl
theorem zer7 : zer Tryd.prog 7 = some [(.int .i64 0), (.int .i64 0), (.bool false), (.int .u8 0)] := by kernel_rfl
theorem zrv7 : (Tryd.prog.info? 7).bind (·.zero) = some (.agg #[(.int .i64 0), (.int .i64 0), (.bool false), (.int .u8 0)]) := by kernel_rfl
theorem byt7 : byt Tryd.prog 7 = some 24 := by kernel_rfl
theorem fld7 : flds Tryd.prog 7 = some [(0, 1, false), (1, 1, false), (2, 1, false), (3, 1, false)] := by kernel_rfl
theorem con7 : Tryd.prog.concrete 7 = true := by kernel_rfl
theorem lay8 : lay Tryd.prog 8 = some (true, 4) := by kernel_rfl
theorem zer8 : zer Tryd.prog 8 = some [(.int .i64 0), (.int .i64 0), (.bool false), (.int .u8 0)] := by kernel_rfl
theorem zrv8 : (Tryd.prog.info? 8).bind (·.zero) = some (.agg #[(.int .i64 0), (.int .i64 0), (.bool false), (.int .u8 0)]) := by kernel_rfl
theorem byt8 : byt Tryd.prog 8 = some 24 := by kernel_rfl
theorem fld8 : flds Tryd.prog 8 = some [(0, 1, false), (1, 1, false), (2, 1, false), (3, 1, false)] := by kernel_rfl
theorem con8 : Tryd.prog.concrete 8 = true := by kernel_rfl
theorem lay9 : lay Tryd.prog 9 = some (false, 1) := by kernel_rfl
theorem zer9 : zer Tryd.prog 9 = some [(.string ByteArray.empty)] := by kernel_rfl
theorem zrv9 : (Tryd.prog.info? 9).bind (·.zero) = some (.string ByteArray.empty) := by kernel_rfl
theorem byt9 : byt Tryd.prog 9 = some 16 := by kernel_rfl
theorem und9 : Tryd.prog.underlying 9 = some .string := by kernel_rfl
theorem con9 : Tryd.prog.concrete 9 = true := by kernel_rfl
theorem lay10 : lay Tryd.prog 10 = some (false, 1) := by kernel_rfl
theorem zer10 : zer Tryd.prog 10 = some [(.string ByteArray.empty)] := by kernel_rfl
theorem zrv10 : (Tryd.prog.info? 10).bind (·.zero) = some (.string ByteArray.empty) := by kernel_rfl
theorem byt10 : byt Tryd.prog 10 = some 16 := by kernel_rfl
theorem und10 : Tryd.prog.underlying 10 = some .string := by kernel_rfl
theorem con10 : Tryd.prog.concrete 10 = true := by kernel_rfl
theorem lay11 : lay Tryd.prog 11 = some (false, 1) := by kernel_rfl
theorem zer11 : zer Tryd.prog 11 = some [(.string ByteArray.empty)] := by kernel_rfl
theorem zrv11 : (Tryd.prog.info? 11).bind (·.zero) = some (.string ByteArray.empty) := by kernel_rfl
theorem byt11 : byt Tryd.prog 11 = some 16 := by kernel_rfl
theorem und11 : Tryd.prog.underlying 11 = some .string := by kernel_rfl
theorem con11 : Tryd.prog.concrete 11 = true := by kernel_rfl
theorem lay12 : lay Tryd.prog 12 = some (false, 1) := by kernel_rfl
theorem zer12 : zer Tryd.prog 12 = some [(.int .u64 0)] := by kernel_rfl
theorem zrv12 : (Tryd.prog.info? 12).bind (·.zero) = some (.int .u64 0) := by kernel_rfl
theorem byt12 : byt Tryd.prog 12 = some 8 := by kernel_rfl
theorem und12 : Tryd.prog.underlying 12 = some (.int .u64) := by kernel_rfl
theorem con12 : Tryd.prog.concrete 12 = true := by kernel_rfl
theorem lay13 : lay Tryd.prog 13 = some (true, 2) := by kernel_rfl
theorem zer13 : zer Tryd.prog 13 = some [(.string ByteArray.empty), (.int .u64 0)] := by kernel_rfl
theorem zrv13 : (Tryd.prog.info? 13).bind (·.zero) = some (.agg #[(.string ByteArray.empty), (.int .u64 0)]) := by kernel_rfl
theorem byt13 : byt Tryd.prog 13 = some 24 := by kernel_rfl
theorem fld13 : flds Tryd.prog 13 = some [(0, 1, false), (1, 1, false)] := by kernel_rfl
theorem con13 : Tryd.prog.concrete 13 = true := by kernel_rfl
theorem lay14 : lay Tryd.prog 14 = some (true, 2) := by kernel_rfl
theorem zer14 : zer Tryd.prog 14 = some [(.string ByteArray.empty), (.int .u64 0)] := by kernel_rfl
theorem zrv14 : (Tryd.prog.info? 14).bind (·.zero) = some (.agg #[(.string ByteArray.empty), (.int .u64 0)]) := by kernel_rfl
theorem byt14 : byt Tryd.prog 14 = some 24 := by kernel_rfl
theorem fld14 : flds Tryd.prog 14 = some [(0, 1, false), (1, 1, false)] := by kernel_rfl
theorem con14 : Tryd.prog.concrete 14 = true := by kernel_rfl
theorem lay15 : lay Tryd.prog 15 = some (false, 1) := by kernel_rfl
theorem zer15 : zer Tryd.prog 15 = some [(.pointer none)] := by kernel_rfl
theorem zrv15 : (Tryd.prog.info? 15).bind (·.zero) = some (.pointer none) := by kernel_rfl
theorem byt15 : byt Tryd.prog 15 = some 8 := by kernel_rfl
theorem und15 : Tryd.prog.underlying 15 = some (.pointer 111) := by kernel_rfl
theorem con15 : Tryd.prog.concrete 15 = true := by kernel_rfl
theorem lay16 : lay Tryd.prog 16 = some (false, 1) := by kernel_rfl
theorem zer16 : zer Tryd.prog 16 = some [(.pointer none)] := by kernel_rfl
theorem zrv16 : (Tryd.prog.info? 16).bind (·.zero) = some (.pointer none) := by kernel_rfl
theorem byt16 : byt Tryd.prog 16 = some 8 := by kernel_rfl
theorem und16 : Tryd.prog.underlying 16 = some (.pointer 114) := by kernel_rfl
theorem con16 : Tryd.prog.concrete 16 = true := by kernel_rfl
theorem lay17 : lay Tryd.prog 17 = some (false, 1) := by kernel_rfl
theorem zer17 : zer Tryd.prog 17 = some [(.pointer none)] := by kernel_rfl
theorem zrv17 : (Tryd.prog.info? 17).bind (·.zero) = some (.pointer none) := by kernel_rfl
theorem byt17 : byt Tryd.prog 17 = some 8 := by kernel_rfl
theorem und17 : Tryd.prog.underlying 17 = some (.pointer 124) := by kernel_rfl
theorem con17 : Tryd.prog.concrete 17 = true := by kernel_rfl
theorem lay18 : lay Tryd.prog 18 = some (true, 1) := by kernel_rfl
theorem zer18 : zer Tryd.prog 18 = some [(.pointer none)] := by kernel_rfl
theorem zrv18 : (Tryd.prog.info? 18).bind (·.zero) = some (.agg #[(.pointer none)]) := by kernel_rfl
theorem byt18 : byt Tryd.prog 18 = some 8 := by kernel_rfl
theorem fld18 : flds Tryd.prog 18 = some [(0, 1, false)] := by kernel_rfl
theorem con18 : Tryd.prog.concrete 18 = true := by kernel_rfl
theorem lay19 : lay Tryd.prog 19 = some (true, 1) := by kernel_rfl
theorem zer19 : zer Tryd.prog 19 = some [(.pointer none)] := by kernel_rfl
theorem zrv19 : (Tryd.prog.info? 19).bind (·.zero) = some (.agg #[(.pointer none)]) := by kernel_rfl
theorem byt19 : byt Tryd.prog 19 = some 8 := by kernel_rfl
theorem fld19 : flds Tryd.prog 19 = some [(0, 1, false)] := by kernel_rfl
theorem con19 : Tryd.prog.concrete 19 = true := by kernel_rfl
theorem lay20 : lay Tryd.prog 20 = some (false, 1) := by kernel_rfl
theorem zer20 : zer Tryd.prog 20 = some [.nilIface] := by kernel_rfl
theorem zrv20 : (Tryd.prog.info? 20).bind (·.zero) = some .nilIface := by kernel_rfl
theorem byt20 : byt Tryd.prog 20 = some 16 := by kernel_rfl
theorem und20 : Tryd.prog.underlying 20 = some (.interface #[]) := by kernel_rfl
theorem lay21 : lay Tryd.prog 21 = some (false, 1) := by kernel_rfl
theorem zer21 : zer Tryd.prog 21 = some [(.int .i32 0)] := by kernel_rfl
theorem zrv21 : (Tryd.prog.info? 21).bind (·.zero) = some (.int .i32 0) := by kernel_rfl
theorem byt21 : byt Tryd.prog 21 = some 4 := by kernel_rfl
theorem und21 : Tryd.prog.underlying 21 = some (.int .i32) := by kernel_rfl
theorem con21 : Tryd.prog.concrete 21 = true := by kernel_rfl
theorem lay22 : lay Tryd.prog 22 = some (false, 1) := by kernel_rfl
theorem zer22 : zer Tryd.prog 22 = some [(.slice none 0 0)] := by kernel_rfl
theorem zrv22 : (Tryd.prog.info? 22).bind (·.zero) = some (.slice none 0 0) := by kernel_rfl
theorem byt22 : byt Tryd.prog 22 = some 24 := by kernel_rfl
theorem und22 : Tryd.prog.underlying 22 = some (.slice 5) := by kernel_rfl
theorem con22 : Tryd.prog.concrete 22 = true := by kernel_rfl
theorem lay23 : lay Tryd.prog 23 = some (false, 1) := by kernel_rfl
theorem zer23 : zer Tryd.prog 23 = some [(.slice none 0 0)] := by kernel_rfl
theorem zrv23 : (Tryd.prog.info? 23).bind (·.zero) = some (.slice none 0 0) := by kernel_rfl
theorem byt23 : byt Tryd.prog 23 = some 24 := by kernel_rfl
theorem und23 : Tryd.prog.underlying 23 = some (.slice 3) := by kernel_rfl
theorem con23 : Tryd.prog.concrete 23 = true := by kernel_rfl
theorem lay24 : lay Tryd.prog 24 = some (false, 1) := by kernel_rfl
theorem zer24 : zer Tryd.prog 24 = some [(.slice none 0 0)] := by kernel_rfl
theorem zrv24 : (Tryd.prog.info? 24).bind (·.zero) = some (.slice none 0 0) := by kernel_rfl
theorem byt24 : byt Tryd.prog 24 = some 24 := by kernel_rfl
theorem und24 : Tryd.prog.underlying 24 = some (.slice 26) := by kernel_rfl
theorem con24 : Tryd.prog.concrete 24 = true := by kernel_rfl
theorem lay25 : lay Tryd.prog 25 = some (true, 5) := by kernel_rfl
theorem zer25 : zer Tryd.prog 25 = some [(.int .i64 0), (.int .i64 0), (.string ByteArray.empty), (.slice none 0 0), (.slice none 0 0)] := by kernel_rfl
theorem zrv25 : (Tryd.prog.info? 25).bind (·.zero) = some (.agg #[(.int .i64 0), (.int .i64 0), (.string ByteArray.empty), (.slice none 0 0), (.slice none 0 0)]) := by kernel_rfl
theorem byt25 : byt Tryd.prog 25 = some 80 := by kernel_rfl
theorem fld25 : flds Tryd.prog 25 = some [(0, 1, false), (1, 1, false), (2, 1, false), (3, 1, false), (4, 1, false)] := by kernel_rfl
theorem con25 : Tryd.prog.concrete 25 = true := by kernel_rfl
theorem lay26 : lay Tryd.prog 26 = some (true, 5) := by kernel_rfl
theorem zer26 : zer Tryd.prog 26 = some [(.int .i64 0), (.int .i64 0), (.string ByteArray.empty), (.slice none 0 0), (.slice none 0 0)] := by kernel_rfl
theorem zrv26 : (Tryd.prog.info? 26).bind (·.zero) = some (.agg #[(.int .i64 0), (.int .i64 0), (.string ByteArray.empty), (.slice none 0 0), (.slice none 0 0)]) := by kernel_rfl
theorem byt26 : byt Tryd.prog 26 = some 80 := by kernel_rfl
theorem fld26 : flds Tryd.prog 26 = some [(0, 1, false), (1, 1, false), (2, 1, false), (3, 1, false), (4, 1, false)] := by kernel_rfl
theorem con26 : Tryd.prog.concrete 26 = true := by kernel_rfl
theorem lay31 : lay Tryd.prog 31 = some (false, 1) := by kernel_rfl
theorem zer31 : zer Tryd.prog 31 = some [(.slice none 0 0)] := by kernel_rfl
theorem zrv31 : (Tryd.prog.info? 31).bind (·.zero) = some (.slice none 0 0) := by kernel_rfl
theorem byt31 : byt Tryd.prog 31 = some 24 := by kernel_rfl
theorem und31 : Tryd.prog.underlying 31 = some (.slice 9) := by kernel_rfl
theorem con31 : Tryd.prog.concrete 31 = true := by kernel_rfl
theorem lay35 : lay Tryd.prog 35 = some (false, 1) := by kernel_rfl
theorem zer35 : zer Tryd.prog 35 = some [(.slice none 0 0)] := by kernel_rfl
theorem zrv35 : (Tryd.prog.info? 35).bind (·.zero) = some (.slice none 0 0) := by kernel_rfl
theorem byt35 : byt Tryd.prog 35 = some 24 := by kernel_rfl
theorem und35 : Tryd.prog.underlying 35 = some (.slice 51) := by kernel_rfl
theorem con35 : Tryd.prog.concrete 35 = true := by kernel_rfl
theorem lay39 : lay Tryd.prog 39 = some (false, 1) := by kernel_rfl
theorem zer39 : zer Tryd.prog 39 = some [(.pointer none)] := by kernel_rfl
theorem zrv39 : (Tryd.prog.info? 39).bind (·.zero) = some (.pointer none) := by kernel_rfl
theorem byt39 : byt Tryd.prog 39 = some 8 := by kernel_rfl
theorem und39 : Tryd.prog.underlying 39 = some (.pointer 57) := by kernel_rfl
theorem con39 : Tryd.prog.concrete 39 = true := by kernel_rfl
theorem lay47 : lay Tryd.prog 47 = some (false, 1) := by kernel_rfl
theorem zer47 : zer Tryd.prog 47 = some [(.slice none 0 0)] := by kernel_rfl
theorem zrv47 : (Tryd.prog.info? 47).bind (·.zero) = some (.slice none 0 0) := by kernel_rfl
theorem byt47 : byt Tryd.prog 47 = some 24 := by kernel_rfl
theorem und47 : Tryd.prog.underlying 47 = some (.slice 69) := by kernel_rfl
theorem con47 : Tryd.prog.concrete 47 = true := by kernel_rfl
theorem lay48 : lay Tryd.prog 48 = some (true, 2) := by kernel_rfl
theorem zer48 : zer Tryd.prog 48 = some [(.slice none 0 0), (.slice none 0 0)] := by kernel_rfl
theorem zrv48 : (Tryd.prog.info? 48).bind (·.zero) = some (.agg #[(.slice none 0 0), (.slice none 0 0)]) := by kernel_rfl
theorem byt48 : byt Tryd.prog 48 = some 48 := by kernel_rfl
theorem fld48 : flds Tryd.prog 48 = some [(0, 1, false), (1, 1, false)] := by kernel_rfl
theorem con48 : Tryd.prog.concrete 48 = true := by kernel_rfl
theorem lay49 : lay Tryd.prog 49 = some (true, 2) := by kernel_rfl
theorem zer49 : zer Tryd.prog 49 = some [(.slice none 0 0), (.slice none 0 0)] := by kernel_rfl
theorem zrv49 : (Tryd.prog.info? 49).bind (·.zero) = some (.agg #[(.slice none 0 0), (.slice none 0 0)]) := by kernel_rfl
theorem byt49 : byt Tryd.prog 49 = some 48 := by kernel_rfl
theorem fld49 : flds Tryd.prog 49 = some [(0, 1, false), (1, 1, false)] := by kernel_rfl
theorem con49 : Tryd.prog.concrete 49 = true := by kernel_rfl
theorem lay50 : lay Tryd.prog 50 = some (true, 4) := by kernel_rfl
theorem zer50 : zer Tryd.prog 50 = some [(.string ByteArray.empty), (.slice none 0 0), (.slice none 0 0), (.slice none 0 0)] := by kernel_rfl
theorem zrv50 : (Tryd.prog.info? 50).bind (·.zero) = some (.agg #[(.string ByteArray.empty), (.slice none 0 0), (.slice none 0 0), (.slice none 0 0)]) := by kernel_rfl
theorem byt50 : byt Tryd.prog 50 = some 88 := by kernel_rfl
theorem fld50 : flds Tryd.prog 50 = some [(0, 1, false), (1, 1, false), (2, 2, true)] := by kernel_rfl
theorem con50 : Tryd.prog.concrete 50 = true := by kernel_rfl
theorem lay51 : lay Tryd.prog 51 = some (true, 4) := by kernel_rfl
theorem zer51 : zer Tryd.prog 51 = some [(.string ByteArray.empty), (.slice none 0 0), (.slice none 0 0), (.slice none 0 0)] := by kernel_rfl
theorem zrv51 : (Tryd.prog.info? 51).bind (·.zero) = some (.agg #[(.string ByteArray.empty), (.slice none 0 0), (.slice none 0 0), (.slice none 0 0)]) := by kernel_rfl
theorem byt51 : byt Tryd.prog 51 = some 88 := by kernel_rfl
theorem fld51 : flds Tryd.prog 51 = some [(0, 1, false), (1, 1, false), (2, 2, true)] := by kernel_rfl
theorem con51 : Tryd.prog.concrete 51 = true := by kernel_rfl
theorem lay56 : lay Tryd.prog 56 = some (true, 2) := by kernel_rfl
theorem zer56 : zer Tryd.prog 56 = some [(.slice none 0 0), (.int .i64 0)] := by kernel_rfl
theorem zrv56 : (Tryd.prog.info? 56).bind (·.zero) = some (.agg #[(.slice none 0 0), (.int .i64 0)]) := by kernel_rfl
theorem byt56 : byt Tryd.prog 56 = some 32 := by kernel_rfl
theorem fld56 : flds Tryd.prog 56 = some [(0, 1, false), (1, 1, false)] := by kernel_rfl
theorem con56 : Tryd.prog.concrete 56 = true := by kernel_rfl
theorem lay57 : lay Tryd.prog 57 = some (true, 2) := by kernel_rfl
theorem zer57 : zer Tryd.prog 57 = some [(.slice none 0 0), (.int .i64 0)] := by kernel_rfl
theorem zrv57 : (Tryd.prog.info? 57).bind (·.zero) = some (.agg #[(.slice none 0 0), (.int .i64 0)]) := by kernel_rfl
theorem byt57 : byt Tryd.prog 57 = some 32 := by kernel_rfl
theorem fld57 : flds Tryd.prog 57 = some [(0, 1, false), (1, 1, false)] := by kernel_rfl
theorem con57 : Tryd.prog.concrete 57 = true := by kernel_rfl
theorem lay68 : lay Tryd.prog 68 = some (true, 8) := by kernel_rfl
theorem zer68 : zer Tryd.prog 68 = some [(.int .i64 0), (.slice none 0 0), (.string ByteArray.empty), (.slice none 0 0), (.slice none 0 0), (.slice none 0 0), (.slice none 0 0), (.slice none 0 0)] := by kernel_rfl
theorem zrv68 : (Tryd.prog.info? 68).bind (·.zero) = some (.agg #[(.int .i64 0), (.slice none 0 0), (.string ByteArray.empty), (.slice none 0 0), (.slice none 0 0), (.slice none 0 0), (.slice none 0 0), (.slice none 0 0)]) := by kernel_rfl
theorem byt68 : byt Tryd.prog 68 = some 168 := by kernel_rfl
theorem fld68 : flds Tryd.prog 68 = some [(0, 1, false), (1, 1, false), (2, 1, false), (3, 1, false), (4, 2, true), (6, 2, true)] := by kernel_rfl
theorem con68 : Tryd.prog.concrete 68 = true := by kernel_rfl
theorem lay69 : lay Tryd.prog 69 = some (true, 8) := by kernel_rfl
theorem zer69 : zer Tryd.prog 69 = some [(.int .i64 0), (.slice none 0 0), (.string ByteArray.empty), (.slice none 0 0), (.slice none 0 0), (.slice none 0 0), (.slice none 0 0), (.slice none 0 0)] := by kernel_rfl
theorem zrv69 : (Tryd.prog.info? 69).bind (·.zero) = some (.agg #[(.int .i64 0), (.slice none 0 0), (.string ByteArray.empty), (.slice none 0 0), (.slice none 0 0), (.slice none 0 0), (.slice none 0 0), (.slice none 0 0)]) := by kernel_rfl
theorem byt69 : byt Tryd.prog 69 = some 168 := by kernel_rfl
theorem fld69 : flds Tryd.prog 69 = some [(0, 1, false), (1, 1, false), (2, 1, false), (3, 1, false), (4, 2, true), (6, 2, true)] := by kernel_rfl
theorem con69 : Tryd.prog.concrete 69 = true := by kernel_rfl
theorem lay75 : lay Tryd.prog 75 = some (false, 1) := by kernel_rfl
theorem zer75 : zer Tryd.prog 75 = some [.nilIface] := by kernel_rfl
theorem zrv75 : (Tryd.prog.info? 75).bind (·.zero) = some .nilIface := by kernel_rfl
theorem byt75 : byt Tryd.prog 75 = some 16 := by kernel_rfl
theorem und75 : Tryd.prog.underlying 75 = some (.interface #[("loop.example/handfast/impl.termShaped", 1)]) := by kernel_rfl
theorem lay76 : lay Tryd.prog 76 = some (false, 1) := by kernel_rfl
theorem zer76 : zer Tryd.prog 76 = some [.nilIface] := by kernel_rfl
theorem zrv76 : (Tryd.prog.info? 76).bind (·.zero) = some .nilIface := by kernel_rfl
theorem byt76 : byt Tryd.prog 76 = some 16 := by kernel_rfl
theorem und76 : Tryd.prog.underlying 76 = some (.interface #[("loop.example/handfast/impl.termShaped", 1)]) := by kernel_rfl
theorem lay78 : lay Tryd.prog 78 = some (true, 11) := by kernel_rfl
theorem zer78 : zer Tryd.prog 78 = some [(.int .i64 0), (.int .i64 0), (.int .i64 0), (.string ByteArray.empty), (.slice none 0 0), (.slice none 0 0), (.int .i64 0), (.int .i64 0), (.string ByteArray.empty), (.slice none 0 0), (.slice none 0 0)] := by kernel_rfl
theorem zrv78 : (Tryd.prog.info? 78).bind (·.zero) = some (.agg #[(.int .i64 0), (.int .i64 0), (.int .i64 0), (.string ByteArray.empty), (.slice none 0 0), (.slice none 0 0), (.int .i64 0), (.int .i64 0), (.string ByteArray.empty), (.slice none 0 0), (.slice none 0 0)]) := by kernel_rfl
theorem byt78 : byt Tryd.prog 78 = some 168 := by kernel_rfl
theorem fld78 : flds Tryd.prog 78 = some [(0, 1, false), (1, 5, true), (6, 5, true)] := by kernel_rfl
theorem con78 : Tryd.prog.concrete 78 = true := by kernel_rfl
theorem lay79 : lay Tryd.prog 79 = some (true, 11) := by kernel_rfl
theorem zer79 : zer Tryd.prog 79 = some [(.int .i64 0), (.int .i64 0), (.int .i64 0), (.string ByteArray.empty), (.slice none 0 0), (.slice none 0 0), (.int .i64 0), (.int .i64 0), (.string ByteArray.empty), (.slice none 0 0), (.slice none 0 0)] := by kernel_rfl
theorem zrv79 : (Tryd.prog.info? 79).bind (·.zero) = some (.agg #[(.int .i64 0), (.int .i64 0), (.int .i64 0), (.string ByteArray.empty), (.slice none 0 0), (.slice none 0 0), (.int .i64 0), (.int .i64 0), (.string ByteArray.empty), (.slice none 0 0), (.slice none 0 0)]) := by kernel_rfl
theorem byt79 : byt Tryd.prog 79 = some 168 := by kernel_rfl
theorem fld79 : flds Tryd.prog 79 = some [(0, 1, false), (1, 5, true), (6, 5, true)] := by kernel_rfl
theorem con79 : Tryd.prog.concrete 79 = true := by kernel_rfl
theorem lay81 : lay Tryd.prog 81 = some (true, 6) := by kernel_rfl
theorem zer81 : zer Tryd.prog 81 = some [(.slice none 0 0), (.int .i64 0), (.int .i64 0), (.string ByteArray.empty), (.slice none 0 0), (.slice none 0 0)] := by kernel_rfl
theorem zrv81 : (Tryd.prog.info? 81).bind (·.zero) = some (.agg #[(.slice none 0 0), (.int .i64 0), (.int .i64 0), (.string ByteArray.empty), (.slice none 0 0), (.slice none 0 0)]) := by kernel_rfl
theorem byt81 : byt Tryd.prog 81 = some 104 := by kernel_rfl
theorem fld81 : flds Tryd.prog 81 = some [(0, 1, false), (1, 5, true)] := by kernel_rfl
theorem con81 : Tryd.prog.concrete 81 = true := by kernel_rfl
theorem lay82 : lay Tryd.prog 82 = some (true, 6) := by kernel_rfl
theorem zer82 : zer Tryd.prog 82 = some [(.slice none 0 0), (.int .i64 0), (.int .i64 0), (.string ByteArray.empty), (.slice none 0 0), (.slice none 0 0)] := by kernel_rfl
theorem zrv82 : (Tryd.prog.info? 82).bind (·.zero) = some (.agg #[(.slice none 0 0), (.int .i64 0), (.int .i64 0), (.string ByteArray.empty), (.slice none 0 0), (.slice none 0 0)]) := by kernel_rfl
theorem byt82 : byt Tryd.prog 82 = some 104 := by kernel_rfl
theorem fld82 : flds Tryd.prog 82 = some [(0, 1, false), (1, 5, true)] := by kernel_rfl
theorem con82 : Tryd.prog.concrete 82 = true := by kernel_rfl
theorem lay84 : lay Tryd.prog 84 = some (true, 11) := by kernel_rfl
theorem zer84 : zer Tryd.prog 84 = some [(.slice none 0 0), (.int .i64 0), (.int .i64 0), (.string ByteArray.empty), (.slice none 0 0), (.slice none 0 0), (.int .i64 0), (.int .i64 0), (.string ByteArray.empty), (.slice none 0 0), (.slice none 0 0)] := by kernel_rfl
theorem zrv84 : (Tryd.prog.info? 84).bind (·.zero) = some (.agg #[(.slice none 0 0), (.int .i64 0), (.int .i64 0), (.string ByteArray.empty), (.slice none 0 0), (.slice none 0 0), (.int .i64 0), (.int .i64 0), (.string ByteArray.empty), (.slice none 0 0), (.slice none 0 0)]) := by kernel_rfl
theorem byt84 : byt Tryd.prog 84 = some 184 := by kernel_rfl
theorem fld84 : flds Tryd.prog 84 = some [(0, 1, false), (1, 5, true), (6, 5, true)] := by kernel_rfl
theorem con84 : Tryd.prog.concrete 84 = true := by kernel_rfl
theorem lay85 : lay Tryd.prog 85 = some (true, 11) := by kernel_rfl
theorem zer85 : zer Tryd.prog 85 = some [(.slice none 0 0), (.int .i64 0), (.int .i64 0), (.string ByteArray.empty), (.slice none 0 0), (.slice none 0 0), (.int .i64 0), (.int .i64 0), (.string ByteArray.empty), (.slice none 0 0), (.slice none 0 0)] := by kernel_rfl
theorem zrv85 : (Tryd.prog.info? 85).bind (·.zero) = some (.agg #[(.slice none 0 0), (.int .i64 0), (.int .i64 0), (.string ByteArray.empty), (.slice none 0 0), (.slice none 0 0), (.int .i64 0), (.int .i64 0), (.string ByteArray.empty), (.slice none 0 0), (.slice none 0 0)]) := by kernel_rfl
theorem byt85 : byt Tryd.prog 85 = some 184 := by kernel_rfl
theorem fld85 : flds Tryd.prog 85 = some [(0, 1, false), (1, 5, true), (6, 5, true)] := by kernel_rfl
theorem con85 : Tryd.prog.concrete 85 = true := by kernel_rfl
theorem lay87 : lay Tryd.prog 87 = some (true, 1) := by kernel_rfl
theorem zer87 : zer Tryd.prog 87 = some [(.int .i64 0)] := by kernel_rfl
theorem zrv87 : (Tryd.prog.info? 87).bind (·.zero) = some (.agg #[(.int .i64 0)]) := by kernel_rfl
theorem byt87 : byt Tryd.prog 87 = some 8 := by kernel_rfl
theorem fld87 : flds Tryd.prog 87 = some [(0, 1, false)] := by kernel_rfl
theorem con87 : Tryd.prog.concrete 87 = true := by kernel_rfl
theorem lay88 : lay Tryd.prog 88 = some (true, 1) := by kernel_rfl
theorem zer88 : zer Tryd.prog 88 = some [(.int .i64 0)] := by kernel_rfl
theorem zrv88 : (Tryd.prog.info? 88).bind (·.zero) = some (.agg #[(.int .i64 0)]) := by kernel_rfl
theorem byt88 : byt Tryd.prog 88 = some 8 := by kernel_rfl
theorem fld88 : flds Tryd.prog 88 = some [(0, 1, false)] := by kernel_rfl
theorem con88 : Tryd.prog.concrete 88 = true := by kernel_rfl
theorem lay89 : lay Tryd.prog 89 = some (true, 1) := by kernel_rfl
theorem zer89 : zer Tryd.prog 89 = some [(.string ByteArray.empty)] := by kernel_rfl
theorem zrv89 : (Tryd.prog.info? 89).bind (·.zero) = some (.agg #[(.string ByteArray.empty)]) := by kernel_rfl
theorem byt89 : byt Tryd.prog 89 = some 16 := by kernel_rfl
theorem fld89 : flds Tryd.prog 89 = some [(0, 1, false)] := by kernel_rfl
theorem con89 : Tryd.prog.concrete 89 = true := by kernel_rfl
theorem lay90 : lay Tryd.prog 90 = some (true, 1) := by kernel_rfl
theorem zer90 : zer Tryd.prog 90 = some [(.string ByteArray.empty)] := by kernel_rfl
theorem zrv90 : (Tryd.prog.info? 90).bind (·.zero) = some (.agg #[(.string ByteArray.empty)]) := by kernel_rfl
theorem byt90 : byt Tryd.prog 90 = some 16 := by kernel_rfl
theorem fld90 : flds Tryd.prog 90 = some [(0, 1, false)] := by kernel_rfl
theorem con90 : Tryd.prog.concrete 90 = true := by kernel_rfl
theorem lay91 : lay Tryd.prog 91 = some (false, 1) := by kernel_rfl
theorem zer91 : zer Tryd.prog 91 = some [(.slice none 0 0)] := by kernel_rfl
theorem zrv91 : (Tryd.prog.info? 91).bind (·.zero) = some (.slice none 0 0) := by kernel_rfl
theorem byt91 : byt Tryd.prog 91 = some 24 := by kernel_rfl
theorem und91 : Tryd.prog.underlying 91 = some (.slice 93) := by kernel_rfl
theorem con91 : Tryd.prog.concrete 91 = true := by kernel_rfl
theorem lay92 : lay Tryd.prog 92 = some (true, 2) := by kernel_rfl
theorem zer92 : zer Tryd.prog 92 = some [(.int .i64 0), (.slice none 0 0)] := by kernel_rfl
theorem zrv92 : (Tryd.prog.info? 92).bind (·.zero) = some (.agg #[(.int .i64 0), (.slice none 0 0)]) := by kernel_rfl
theorem byt92 : byt Tryd.prog 92 = some 32 := by kernel_rfl
theorem fld92 : flds Tryd.prog 92 = some [(0, 1, false), (1, 1, false)] := by kernel_rfl
theorem con92 : Tryd.prog.concrete 92 = true := by kernel_rfl
theorem lay93 : lay Tryd.prog 93 = some (true, 2) := by kernel_rfl
theorem zer93 : zer Tryd.prog 93 = some [(.int .i64 0), (.slice none 0 0)] := by kernel_rfl
theorem zrv93 : (Tryd.prog.info? 93).bind (·.zero) = some (.agg #[(.int .i64 0), (.slice none 0 0)]) := by kernel_rfl
theorem byt93 : byt Tryd.prog 93 = some 32 := by kernel_rfl
theorem fld93 : flds Tryd.prog 93 = some [(0, 1, false), (1, 1, false)] := by kernel_rfl
theorem con93 : Tryd.prog.concrete 93 = true := by kernel_rfl
theorem lay94 : lay Tryd.prog 94 = some (false, 1) := by kernel_rfl
theorem zer94 : zer Tryd.prog 94 = some [.nilIface] := by kernel_rfl
theorem zrv94 : (Tryd.prog.info? 94).bind (·.zero) = some .nilIface := by kernel_rfl
theorem byt94 : byt Tryd.prog 94 = some 16 := by kernel_rfl
theorem und94 : Tryd.prog.underlying 94 = some (.interface #[("Error", 109)]) := by kernel_rfl
theorem lay95 : lay Tryd.prog 95 = some (false, 1) := by kernel_rfl
theorem zer95 : zer Tryd.prog 95 = some [.nilIface] := by kernel_rfl
theorem zrv95 : (Tryd.prog.info? 95).bind (·.zero) = some .nilIface := by kernel_rfl
theorem byt95 : byt Tryd.prog 95 = some 16 := by kernel_rfl
theorem und95 : Tryd.prog.underlying 95 = some (.interface #[("Error", 109)]) := by kernel_rfl
theorem lay100 : lay Tryd.prog 100 = some (false, 1) := by kernel_rfl
theorem zer100 : zer Tryd.prog 100 = some [(.slice none 0 0)] := by kernel_rfl
theorem zrv100 : (Tryd.prog.info? 100).bind (·.zero) = some (.slice none 0 0) := by kernel_rfl
theorem byt100 : byt Tryd.prog 100 = some 24 := by kernel_rfl
theorem und100 : Tryd.prog.underlying 100 = some (.slice 102) := by kernel_rfl
theorem con100 : Tryd.prog.concrete 100 = true := by kernel_rfl
theorem lay101 : lay Tryd.prog 101 = some (true, 1) := by kernel_rfl
theorem zer101 : zer Tryd.prog 101 = some [(.slice none 0 0)] := by kernel_rfl
theorem zrv101 : (Tryd.prog.info? 101).bind (·.zero) = some (.agg #[(.slice none 0 0)]) := by kernel_rfl
theorem byt101 : byt Tryd.prog 101 = some 24 := by kernel_rfl
theorem fld101 : flds Tryd.prog 101 = some [(0, 1, false)] := by kernel_rfl
theorem con101 : Tryd.prog.concrete 101 = true := by kernel_rfl
theorem lay102 : lay Tryd.prog 102 = some (true, 1) := by kernel_rfl
theorem zer102 : zer Tryd.prog 102 = some [(.slice none 0 0)] := by kernel_rfl
theorem zrv102 : (Tryd.prog.info? 102).bind (·.zero) = some (.agg #[(.slice none 0 0)]) := by kernel_rfl
theorem byt102 : byt Tryd.prog 102 = some 24 := by kernel_rfl
theorem fld102 : flds Tryd.prog 102 = some [(0, 1, false)] := by kernel_rfl
theorem con102 : Tryd.prog.concrete 102 = true := by kernel_rfl
theorem lay105 : lay Tryd.prog 105 = some (false, 1) := by kernel_rfl
theorem zer105 : zer Tryd.prog 105 = some [(.slice none 0 0)] := by kernel_rfl
theorem zrv105 : (Tryd.prog.info? 105).bind (·.zero) = some (.slice none 0 0) := by kernel_rfl
theorem byt105 : byt Tryd.prog 105 = some 24 := by kernel_rfl
theorem und105 : Tryd.prog.underlying 105 = some (.slice 23) := by kernel_rfl
theorem con105 : Tryd.prog.concrete 105 = true := by kernel_rfl
theorem lay108 : lay Tryd.prog 108 = some (false, 1) := by kernel_rfl
theorem zer108 : zer Tryd.prog 108 = some [(.pointer none)] := by kernel_rfl
theorem zrv108 : (Tryd.prog.info? 108).bind (·.zero) = some (.pointer none) := by kernel_rfl
theorem byt108 : byt Tryd.prog 108 = some 8 := by kernel_rfl
theorem und108 : Tryd.prog.underlying 108 = some (.pointer 128) := by kernel_rfl
theorem con108 : Tryd.prog.concrete 108 = true := by kernel_rfl
theorem lay110 : lay Tryd.prog 110 = some (true, 4) := by kernel_rfl
theorem zer110 : zer Tryd.prog 110 = some [(.pointer none), (.pointer none), (.pointer none), (.string ByteArray.empty)] := by kernel_rfl
theorem zrv110 : (Tryd.prog.info? 110).bind (·.zero) = some (.agg #[(.pointer none), (.pointer none), (.pointer none), (.string ByteArray.empty)]) := by kernel_rfl
theorem byt110 : byt Tryd.prog 110 = some 40 := by kernel_rfl
theorem fld110 : flds Tryd.prog 110 = some [(0, 1, false), (1, 1, false), (2, 1, false), (3, 1, false)] := by kernel_rfl
theorem con110 : Tryd.prog.concrete 110 = true := by kernel_rfl
theorem lay111 : lay Tryd.prog 111 = some (true, 4) := by kernel_rfl
theorem zer111 : zer Tryd.prog 111 = some [(.pointer none), (.pointer none), (.pointer none), (.string ByteArray.empty)] := by kernel_rfl
theorem zrv111 : (Tryd.prog.info? 111).bind (·.zero) = some (.agg #[(.pointer none), (.pointer none), (.pointer none), (.string ByteArray.empty)]) := by kernel_rfl
theorem byt111 : byt Tryd.prog 111 = some 40 := by kernel_rfl
theorem fld111 : flds Tryd.prog 111 = some [(0, 1, false), (1, 1, false), (2, 1, false), (3, 1, false)] := by kernel_rfl
theorem con111 : Tryd.prog.concrete 111 = true := by kernel_rfl
theorem lay116 : lay Tryd.prog 116 = some (false, 1) := by kernel_rfl
theorem zer116 : zer Tryd.prog 116 = some [(.int .u32 0)] := by kernel_rfl
theorem zrv116 : (Tryd.prog.info? 116).bind (·.zero) = some (.int .u32 0) := by kernel_rfl
theorem byt116 : byt Tryd.prog 116 = some 4 := by kernel_rfl
theorem und116 : Tryd.prog.underlying 116 = some (.int .u32) := by kernel_rfl
theorem con116 : Tryd.prog.concrete 116 = true := by kernel_rfl
theorem lay117 : lay Tryd.prog 117 = some (false, 1) := by kernel_rfl
theorem zer117 : zer Tryd.prog 117 = some [(.int .u8 0)] := by kernel_rfl
theorem zrv117 : (Tryd.prog.info? 117).bind (·.zero) = some (.int .u8 0) := by kernel_rfl
theorem byt117 : byt Tryd.prog 117 = some 1 := by kernel_rfl
theorem und117 : Tryd.prog.underlying 117 = some (.int .u8) := by kernel_rfl
theorem con117 : Tryd.prog.concrete 117 = true := by kernel_rfl
theorem lay118 : lay Tryd.prog 118 = some (false, 1) := by kernel_rfl
theorem zer118 : zer Tryd.prog 118 = some [(.int .u8 0)] := by kernel_rfl
theorem zrv118 : (Tryd.prog.info? 118).bind (·.zero) = some (.int .u8 0) := by kernel_rfl
theorem byt118 : byt Tryd.prog 118 = some 1 := by kernel_rfl
theorem und118 : Tryd.prog.underlying 118 = some (.int .u8) := by kernel_rfl
theorem con118 : Tryd.prog.concrete 118 = true := by kernel_rfl
theorem lay120 : lay Tryd.prog 120 = some (false, 1) := by kernel_rfl
theorem zer120 : zer Tryd.prog 120 = some [(.pointer none)] := by kernel_rfl
theorem zrv120 : (Tryd.prog.info? 120).bind (·.zero) = some (.pointer none) := by kernel_rfl
theorem byt120 : byt Tryd.prog 120 = some 8 := by kernel_rfl
theorem und120 : Tryd.prog.underlying 120 = some (.pointer 5) := by kernel_rfl
theorem con120 : Tryd.prog.concrete 120 = true := by kernel_rfl
theorem lay121 : lay Tryd.prog 121 = some (false, 1) := by kernel_rfl
theorem zer121 : zer Tryd.prog 121 = some [(.int .i32 0)] := by kernel_rfl
theorem zrv121 : (Tryd.prog.info? 121).bind (·.zero) = some (.int .i32 0) := by kernel_rfl
theorem byt121 : byt Tryd.prog 121 = some 4 := by kernel_rfl
theorem und121 : Tryd.prog.underlying 121 = some (.int .i32) := by kernel_rfl
theorem con121 : Tryd.prog.concrete 121 = true := by kernel_rfl
theorem lay122 : lay Tryd.prog 122 = some (false, 1) := by kernel_rfl
theorem zer122 : zer Tryd.prog 122 = some [(.int .i32 0)] := by kernel_rfl
theorem zrv122 : (Tryd.prog.info? 122).bind (·.zero) = some (.int .i32 0) := by kernel_rfl
theorem byt122 : byt Tryd.prog 122 = some 4 := by kernel_rfl
theorem und122 : Tryd.prog.underlying 122 = some (.int .i32) := by kernel_rfl
theorem con122 : Tryd.prog.concrete 122 = true := by kernel_rfl
theorem lay123 : lay Tryd.prog 123 = some (true, 11) := by kernel_rfl
theorem zer123 : zer Tryd.prog 123 = some [(.int .u64 0), (.int .u64 0), (.int .u32 0), (.int .u8 0), (.int .u8 0), (.int .u8 0), (.int .u8 0), .nilFunc, (.pointer none), (.int .i32 0), (.int .i32 0)] := by kernel_rfl
theorem zrv123 : (Tryd.prog.info? 123).bind (·.zero) = some (.agg #[(.int .u64 0), (.int .u64 0), (.int .u32 0), (.int .u8 0), (.int .u8 0), (.int .u8 0), (.int .u8 0), .nilFunc, (.pointer none), (.int .i32 0), (.int .i32 0)]) := by kernel_rfl
theorem byt123 : byt Tryd.prog 123 = some 48 := by kernel_rfl
theorem fld123 : flds Tryd.prog 123 = some [(0, 1, false), (1, 1, false), (2, 1, false), (3, 1, false), (4, 1, false), (5, 1, false), (6, 1, false), (7, 1, false), (8, 1, false), (9, 1, false), (10, 1, false)] := by kernel_rfl
theorem con123 : Tryd.prog.concrete 123 = true := by kernel_rfl
theorem lay124 : lay Tryd.prog 124 = some (true, 11) := by kernel_rfl
theorem zer124 : zer Tryd.prog 124 = some [(.int .u64 0), (.int .u64 0), (.int .u32 0), (.int .u8 0), (.int .u8 0), (.int .u8 0), (.int .u8 0), .nilFunc, (.pointer none), (.int .i32 0), (.int .i32 0)] := by kernel_rfl
theorem zrv124 : (Tryd.prog.info? 124).bind (·.zero) = some (.agg #[(.int .u64 0), (.int .u64 0), (.int .u32 0), (.int .u8 0), (.int .u8 0), (.int .u8 0), (.int .u8 0), .nilFunc, (.pointer none), (.int .i32 0), (.int .i32 0)]) := by kernel_rfl
theorem byt124 : byt Tryd.prog 124 = some 48 := by kernel_rfl
theorem fld124 : flds Tryd.prog 124 = some [(0, 1, false), (1, 1, false), (2, 1, false), (3, 1, false), (4, 1, false), (5, 1, false), (6, 1, false), (7, 1, false), (8, 1, false), (9, 1, false), (10, 1, false)] := by kernel_rfl
theorem con124 : Tryd.prog.concrete 124 = true := by kernel_rfl
theorem lay127 : lay Tryd.prog 127 = some (true, 1) := by kernel_rfl
theorem zer127 : zer Tryd.prog 127 = some [(.string ByteArray.empty)] := by kernel_rfl
theorem zrv127 : (Tryd.prog.info? 127).bind (·.zero) = some (.agg #[(.string ByteArray.empty)]) := by kernel_rfl
theorem byt127 : byt Tryd.prog 127 = some 16 := by kernel_rfl
theorem fld127 : flds Tryd.prog 127 = some [(0, 1, false)] := by kernel_rfl
theorem con127 : Tryd.prog.concrete 127 = true := by kernel_rfl
theorem lay128 : lay Tryd.prog 128 = some (true, 1) := by kernel_rfl
theorem zer128 : zer Tryd.prog 128 = some [(.string ByteArray.empty)] := by kernel_rfl
theorem zrv128 : (Tryd.prog.info? 128).bind (·.zero) = some (.agg #[(.string ByteArray.empty)]) := by kernel_rfl
theorem byt128 : byt Tryd.prog 128 = some 16 := by kernel_rfl
theorem fld128 : flds Tryd.prog 128 = some [(0, 1, false)] := by kernel_rfl
theorem con128 : Tryd.prog.concrete 128 = true := by kernel_rfl
theorem lay129 : lay Tryd.prog 129 = some (false, 1) := by kernel_rfl
theorem zer129 : zer Tryd.prog 129 = some [(.pointer none)] := by kernel_rfl
theorem zrv129 : (Tryd.prog.info? 129).bind (·.zero) = some (.pointer none) := by kernel_rfl
theorem byt129 : byt Tryd.prog 129 = some 8 := by kernel_rfl
theorem con129 : Tryd.prog.concrete 129 = true := by kernel_rfl
def layL : List (Nat × (Bool × Nat)) := [(2, (false, 1)), (3, (false, 1)), (4, (false, 1)), (5, (false, 1)), (6, (false, 1)), (7, (true, 4)), (8, (true, 4)), (9, (false, 1)), (10, (false, 1)), (11, (false, 1)), (12, (false, 1)), (13, (true, 2)), (14, (true, 2)), (15, (false, 1)), (16, (false, 1)), (17, (false, 1)), (18, (true, 1)), (19, (true, 1)), (20, (false, 1)), (21, (false, 1)), (22, (false, 1)), (23, (false, 1)), (24, (false, 1)), (25, (true, 5)), (26, (true, 5)), (31, (false, 1)), (35, (false, 1)), (39, (false, 1)), (47, (false, 1)), (48, (true, 2)), (49, (true, 2)), (50, (true, 4)), (51, (true, 4)), (56, (true, 2)), (57, (true, 2)), (68, (true, 8)), (69, (true, 8)), (75, (false, 1)), (76, (false, 1)), (78, (true, 11)), (79, (true, 11)), (81, (true, 6)), (82, (true, 6)), (84, (true, 11)), (85, (true, 11)), (87, (true, 1)), (88, (true, 1)), (89, (true, 1)), (90, (true, 1)), (91, (false, 1)), (92, (true, 2)), (93, (true, 2)), (94, (false, 1)), (95, (false, 1)), (100, (false, 1)), (101, (true, 1)), (102, (true, 1)), (105, (false, 1)), (108, (false, 1)), (110, (true, 4)), (111, (true, 4)), (116, (false, 1)), (117, (false, 1)), (118, (false, 1)), (120, (false, 1)), (121, (false, 1)), (122, (false, 1)), (123, (true, 11)), (124, (true, 11)), (127, (true, 1)), (128, (true, 1)), (129, (false, 1))]
theorem layK : layL.all (fun p => lay Tryd.prog p.1 == some p.2) = true := by kernel_rfl
def fldL : List (Nat × List (Nat × Nat × Bool)) := [(7, [(0, 1, false), (1, 1, false), (2, 1, false), (3, 1, false)]), (8, [(0, 1, false), (1, 1, false), (2, 1, false), (3, 1, false)]), (13, [(0, 1, false), (1, 1, false)]), (14, [(0, 1, false), (1, 1, false)]), (18, [(0, 1, false)]), (19, [(0, 1, false)]), (25, [(0, 1, false), (1, 1, false), (2, 1, false), (3, 1, false), (4, 1, false)]), (26, [(0, 1, false), (1, 1, false), (2, 1, false), (3, 1, false), (4, 1, false)]), (48, [(0, 1, false), (1, 1, false)]), (49, [(0, 1, false), (1, 1, false)]), (50, [(0, 1, false), (1, 1, false), (2, 2, true)]), (51, [(0, 1, false), (1, 1, false), (2, 2, true)]), (56, [(0, 1, false), (1, 1, false)]), (57, [(0, 1, false), (1, 1, false)]), (68, [(0, 1, false), (1, 1, false), (2, 1, false), (3, 1, false), (4, 2, true), (6, 2, true)]), (69, [(0, 1, false), (1, 1, false), (2, 1, false), (3, 1, false), (4, 2, true), (6, 2, true)]), (78, [(0, 1, false), (1, 5, true), (6, 5, true)]), (79, [(0, 1, false), (1, 5, true), (6, 5, true)]), (81, [(0, 1, false), (1, 5, true)]), (82, [(0, 1, false), (1, 5, true)]), (84, [(0, 1, false), (1, 5, true), (6, 5, true)]), (85, [(0, 1, false), (1, 5, true), (6, 5, true)]), (87, [(0, 1, false)]), (88, [(0, 1, false)]), (89, [(0, 1, false)]), (90, [(0, 1, false)]), (92, [(0, 1, false), (1, 1, false)]), (93, [(0, 1, false), (1, 1, false)]), (101, [(0, 1, false)]), (102, [(0, 1, false)]), (110, [(0, 1, false), (1, 1, false), (2, 1, false), (3, 1, false)]), (111, [(0, 1, false), (1, 1, false), (2, 1, false), (3, 1, false)]), (123, [(0, 1, false), (1, 1, false), (2, 1, false), (3, 1, false), (4, 1, false), (5, 1, false), (6, 1, false), (7, 1, false), (8, 1, false), (9, 1, false), (10, 1, false)]), (124, [(0, 1, false), (1, 1, false), (2, 1, false), (3, 1, false), (4, 1, false), (5, 1, false), (6, 1, false), (7, 1, false), (8, 1, false), (9, 1, false), (10, 1, false)]), (127, [(0, 1, false)]), (128, [(0, 1, false)])]
theorem fldK : fldL.all (fun p => flds Tryd.prog p.1 == some p.2) = true := by kernel_rfl
def zerL : List (Nat × List Value) := [(2, [(.int .i64 0)]), (3, [(.int .i64 0)]), (4, [(.bool false)]), (5, [(.int .u8 0)]), (6, [(.int .u8 0)]), (7, [(.int .i64 0), (.int .i64 0), (.bool false), (.int .u8 0)]), (8, [(.int .i64 0), (.int .i64 0), (.bool false), (.int .u8 0)]), (9, [(.string ByteArray.empty)]), (10, [(.string ByteArray.empty)]), (11, [(.string ByteArray.empty)]), (12, [(.int .u64 0)]), (13, [(.string ByteArray.empty), (.int .u64 0)]), (14, [(.string ByteArray.empty), (.int .u64 0)]), (15, [(.pointer none)]), (16, [(.pointer none)]), (17, [(.pointer none)]), (18, [(.pointer none)]), (19, [(.pointer none)]), (20, [.nilIface]), (21, [(.int .i32 0)]), (22, [(.slice none 0 0)]), (23, [(.slice none 0 0)]), (24, [(.slice none 0 0)]), (25, [(.int .i64 0), (.int .i64 0), (.string ByteArray.empty), (.slice none 0 0), (.slice none 0 0)]), (26, [(.int .i64 0), (.int .i64 0), (.string ByteArray.empty), (.slice none 0 0), (.slice none 0 0)]), (31, [(.slice none 0 0)]), (35, [(.slice none 0 0)]), (39, [(.pointer none)]), (47, [(.slice none 0 0)]), (48, [(.slice none 0 0), (.slice none 0 0)]), (49, [(.slice none 0 0), (.slice none 0 0)]), (50, [(.string ByteArray.empty), (.slice none 0 0), (.slice none 0 0), (.slice none 0 0)]), (51, [(.string ByteArray.empty), (.slice none 0 0), (.slice none 0 0), (.slice none 0 0)]), (56, [(.slice none 0 0), (.int .i64 0)]), (57, [(.slice none 0 0), (.int .i64 0)]), (68, [(.int .i64 0), (.slice none 0 0), (.string ByteArray.empty), (.slice none 0 0), (.slice none 0 0), (.slice none 0 0), (.slice none 0 0), (.slice none 0 0)]), (69, [(.int .i64 0), (.slice none 0 0), (.string ByteArray.empty), (.slice none 0 0), (.slice none 0 0), (.slice none 0 0), (.slice none 0 0), (.slice none 0 0)]), (75, [.nilIface]), (76, [.nilIface]), (78, [(.int .i64 0), (.int .i64 0), (.int .i64 0), (.string ByteArray.empty), (.slice none 0 0), (.slice none 0 0), (.int .i64 0), (.int .i64 0), (.string ByteArray.empty), (.slice none 0 0), (.slice none 0 0)]), (79, [(.int .i64 0), (.int .i64 0), (.int .i64 0), (.string ByteArray.empty), (.slice none 0 0), (.slice none 0 0), (.int .i64 0), (.int .i64 0), (.string ByteArray.empty), (.slice none 0 0), (.slice none 0 0)]), (81, [(.slice none 0 0), (.int .i64 0), (.int .i64 0), (.string ByteArray.empty), (.slice none 0 0), (.slice none 0 0)]), (82, [(.slice none 0 0), (.int .i64 0), (.int .i64 0), (.string ByteArray.empty), (.slice none 0 0), (.slice none 0 0)]), (84, [(.slice none 0 0), (.int .i64 0), (.int .i64 0), (.string ByteArray.empty), (.slice none 0 0), (.slice none 0 0), (.int .i64 0), (.int .i64 0), (.string ByteArray.empty), (.slice none 0 0), (.slice none 0 0)]), (85, [(.slice none 0 0), (.int .i64 0), (.int .i64 0), (.string ByteArray.empty), (.slice none 0 0), (.slice none 0 0), (.int .i64 0), (.int .i64 0), (.string ByteArray.empty), (.slice none 0 0), (.slice none 0 0)]), (87, [(.int .i64 0)]), (88, [(.int .i64 0)]), (89, [(.string ByteArray.empty)]), (90, [(.string ByteArray.empty)]), (91, [(.slice none 0 0)]), (92, [(.int .i64 0), (.slice none 0 0)]), (93, [(.int .i64 0), (.slice none 0 0)]), (94, [.nilIface]), (95, [.nilIface]), (100, [(.slice none 0 0)]), (101, [(.slice none 0 0)]), (102, [(.slice none 0 0)]), (105, [(.slice none 0 0)]), (108, [(.pointer none)]), (110, [(.pointer none), (.pointer none), (.pointer none), (.string ByteArray.empty)]), (111, [(.pointer none), (.pointer none), (.pointer none), (.string ByteArray.empty)]), (116, [(.int .u32 0)]), (117, [(.int .u8 0)]), (118, [(.int .u8 0)]), (120, [(.pointer none)]), (121, [(.int .i32 0)]), (122, [(.int .i32 0)]), (123, [(.int .u64 0), (.int .u64 0), (.int .u32 0), (.int .u8 0), (.int .u8 0), (.int .u8 0), (.int .u8 0), .nilFunc, (.pointer none), (.int .i32 0), (.int .i32 0)]), (124, [(.int .u64 0), (.int .u64 0), (.int .u32 0), (.int .u8 0), (.int .u8 0), (.int .u8 0), (.int .u8 0), .nilFunc, (.pointer none), (.int .i32 0), (.int .i32 0)]), (127, [(.string ByteArray.empty)]), (128, [(.string ByteArray.empty)]), (129, [(.pointer none)])]
def zerA : List (Nat × List Value) → Prop
  | [] => True
  | p :: r => (zer Tryd.prog p.1 = some p.2) ∧ zerA r
theorem zerM : ∀ {l : List (Nat × List Value)}, zerA l → ∀ p ∈ l, zer Tryd.prog p.1 = some p.2
  | [], _, p, h => by cases h
  | q :: r, ha, p, h => by
    rcases List.mem_cons.1 h with e | h
    · exact e ▸ ha.1
    · exact zerM ha.2 p h
theorem zerK : zerA zerL := ⟨zer2, zer3, zer4, zer5, zer6, zer7, zer8, zer9, zer10, zer11, zer12, zer13, zer14, zer15, zer16, zer17, zer18, zer19, zer20, zer21, zer22, zer23, zer24, zer25, zer26, zer31, zer35, zer39, zer47, zer48, zer49, zer50, zer51, zer56, zer57, zer68, zer69, zer75, zer76, zer78, zer79, zer81, zer82, zer84, zer85, zer87, zer88, zer89, zer90, zer91, zer92, zer93, zer94, zer95, zer100, zer101, zer102, zer105, zer108, zer110, zer111, zer116, zer117, zer118, zer120, zer121, zer122, zer123, zer124, zer127, zer128, zer129, trivial⟩
theorem zerO : zerL.all (fun p => p.2.all (·.oneCell')) = true := by rfl
def zpvL : List (Nat × PV) := [(2, (.c (.int .i64 0))), (3, (.c (.int .i64 0))), (4, (.c (.bool false))), (5, (.c (.int .u8 0))), (6, (.c (.int .u8 0))), (7, (.ag [(.c (.int .i64 0)), (.c (.int .i64 0)), (.c (.bool false)), (.c (.int .u8 0))])), (8, (.ag [(.c (.int .i64 0)), (.c (.int .i64 0)), (.c (.bool false)), (.c (.int .u8 0))])), (9, (.c (.string ByteArray.empty))), (10, (.c (.string ByteArray.empty))), (11, (.c (.string ByteArray.empty))), (12, (.c (.int .u64 0))), (13, (.ag [(.c (.string ByteArray.empty)), (.c (.int .u64 0))])), (14, (.ag [(.c (.string ByteArray.empty)), (.c (.int .u64 0))])), (15, (.c (.pointer none))), (16, (.c (.pointer none))), (17, (.c (.pointer none))), (18, (.ag [(.c (.pointer none))])), (19, (.ag [(.c (.pointer none))])), (20, (.c .nilIface)), (21, (.c (.int .i32 0))), (22, (.row 1 [])), (23, (.row 1 [])), (24, (.row 1 [])), (25, (.ag [(.c (.int .i64 0)), (.c (.int .i64 0)), (.c (.string ByteArray.empty)), (.row 1 []), (.row 1 [])])), (26, (.ag [(.c (.int .i64 0)), (.c (.int .i64 0)), (.c (.string ByteArray.empty)), (.row 1 []), (.row 1 [])])), (31, (.row 1 [])), (35, (.row 1 [])), (39, (.c (.pointer none))), (47, (.row 1 [])), (48, (.ag [(.row 1 []), (.row 1 [])])), (49, (.ag [(.row 1 []), (.row 1 [])])), (50, (.ag [(.c (.string ByteArray.empty)), (.row 1 []), (.row 1 []), (.row 1 [])])), (51, (.ag [(.c (.string ByteArray.empty)), (.row 1 []), (.row 1 []), (.row 1 [])])), (56, (.ag [(.row 1 []), (.c (.int .i64 0))])), (57, (.ag [(.row 1 []), (.c (.int .i64 0))])), (68, (.ag [(.c (.int .i64 0)), (.row 1 []), (.c (.string ByteArray.empty)), (.row 1 []), (.row 1 []), (.row 1 []), (.row 1 []), (.row 1 [])])), (69, (.ag [(.c (.int .i64 0)), (.row 1 []), (.c (.string ByteArray.empty)), (.row 1 []), (.row 1 []), (.row 1 []), (.row 1 []), (.row 1 [])])), (75, (.c .nilIface)), (76, (.c .nilIface)), (78, (.ag [(.c (.int .i64 0)), (.c (.int .i64 0)), (.c (.int .i64 0)), (.c (.string ByteArray.empty)), (.row 1 []), (.row 1 []), (.c (.int .i64 0)), (.c (.int .i64 0)), (.c (.string ByteArray.empty)), (.row 1 []), (.row 1 [])])), (79, (.ag [(.c (.int .i64 0)), (.c (.int .i64 0)), (.c (.int .i64 0)), (.c (.string ByteArray.empty)), (.row 1 []), (.row 1 []), (.c (.int .i64 0)), (.c (.int .i64 0)), (.c (.string ByteArray.empty)), (.row 1 []), (.row 1 [])])), (81, (.ag [(.row 1 []), (.c (.int .i64 0)), (.c (.int .i64 0)), (.c (.string ByteArray.empty)), (.row 1 []), (.row 1 [])])), (82, (.ag [(.row 1 []), (.c (.int .i64 0)), (.c (.int .i64 0)), (.c (.string ByteArray.empty)), (.row 1 []), (.row 1 [])])), (84, (.ag [(.row 1 []), (.c (.int .i64 0)), (.c (.int .i64 0)), (.c (.string ByteArray.empty)), (.row 1 []), (.row 1 []), (.c (.int .i64 0)), (.c (.int .i64 0)), (.c (.string ByteArray.empty)), (.row 1 []), (.row 1 [])])), (85, (.ag [(.row 1 []), (.c (.int .i64 0)), (.c (.int .i64 0)), (.c (.string ByteArray.empty)), (.row 1 []), (.row 1 []), (.c (.int .i64 0)), (.c (.int .i64 0)), (.c (.string ByteArray.empty)), (.row 1 []), (.row 1 [])])), (87, (.ag [(.c (.int .i64 0))])), (88, (.ag [(.c (.int .i64 0))])), (89, (.ag [(.c (.string ByteArray.empty))])), (90, (.ag [(.c (.string ByteArray.empty))])), (91, (.row 1 [])), (92, (.ag [(.c (.int .i64 0)), (.row 1 [])])), (93, (.ag [(.c (.int .i64 0)), (.row 1 [])])), (94, (.c .nilIface)), (95, (.c .nilIface)), (100, (.row 1 [])), (101, (.ag [(.row 1 [])])), (102, (.ag [(.row 1 [])])), (105, (.row 1 [])), (108, (.c (.pointer none))), (110, (.ag [(.c (.pointer none)), (.c (.pointer none)), (.c (.pointer none)), (.c (.string ByteArray.empty))])), (111, (.ag [(.c (.pointer none)), (.c (.pointer none)), (.c (.pointer none)), (.c (.string ByteArray.empty))])), (116, (.c (.int .u32 0))), (117, (.c (.int .u8 0))), (118, (.c (.int .u8 0))), (120, (.c (.pointer none))), (121, (.c (.int .i32 0))), (122, (.c (.int .i32 0))), (123, (.ag [(.c (.int .u64 0)), (.c (.int .u64 0)), (.c (.int .u32 0)), (.c (.int .u8 0)), (.c (.int .u8 0)), (.c (.int .u8 0)), (.c (.int .u8 0)), (.c .nilFunc), (.c (.pointer none)), (.c (.int .i32 0)), (.c (.int .i32 0))])), (124, (.ag [(.c (.int .u64 0)), (.c (.int .u64 0)), (.c (.int .u32 0)), (.c (.int .u8 0)), (.c (.int .u8 0)), (.c (.int .u8 0)), (.c (.int .u8 0)), (.c .nilFunc), (.c (.pointer none)), (.c (.int .i32 0)), (.c (.int .i32 0))])), (127, (.ag [(.c (.string ByteArray.empty))])), (128, (.ag [(.c (.string ByteArray.empty))])), (129, (.c (.pointer none)))]
def zpvA : List (Nat × PV) → Prop
  | [] => True
  | p :: r => (ZeroP Tryd.prog p.1 p.2) ∧ zpvA r
theorem zpvM : ∀ {l : List (Nat × PV)}, zpvA l → ∀ p ∈ l, ZeroP Tryd.prog p.1 p.2
  | [], _, p, h => by cases h
  | q :: r, ha, p, h => by
    rcases List.mem_cons.1 h with e | h
    · exact e ▸ ha.1
    · exact zpvM ha.2 p h
theorem zpvK : zpvA zpvL := ⟨⟨_, zrv2, .inr ⟨rfl, rfl⟩⟩, ⟨_, zrv3, .inr ⟨rfl, rfl⟩⟩, ⟨_, zrv4, .inr ⟨rfl, rfl⟩⟩, ⟨_, zrv5, .inr ⟨rfl, rfl⟩⟩, ⟨_, zrv6, .inr ⟨rfl, rfl⟩⟩, ⟨_, zrv7, .inl ⟨_, rfl, by simp [Value.oneCell'], rfl⟩⟩, ⟨_, zrv8, .inl ⟨_, rfl, by simp [Value.oneCell'], rfl⟩⟩, ⟨_, zrv9, .inr ⟨rfl, rfl⟩⟩, ⟨_, zrv10, .inr ⟨rfl, rfl⟩⟩, ⟨_, zrv11, .inr ⟨rfl, rfl⟩⟩, ⟨_, zrv12, .inr ⟨rfl, rfl⟩⟩, ⟨_, zrv13, .inl ⟨_, rfl, by simp [Value.oneCell'], rfl⟩⟩, ⟨_, zrv14, .inl ⟨_, rfl, by simp [Value.oneCell'], rfl⟩⟩, ⟨_, zrv15, .inr ⟨rfl, rfl⟩⟩, ⟨_, zrv16, .inr ⟨rfl, rfl⟩⟩, ⟨_, zrv17, .inr ⟨rfl, rfl⟩⟩, ⟨_, zrv18, .inl ⟨_, rfl, by simp [Value.oneCell'], rfl⟩⟩, ⟨_, zrv19, .inl ⟨_, rfl, by simp [Value.oneCell'], rfl⟩⟩, ⟨_, zrv20, .inr ⟨rfl, rfl⟩⟩, ⟨_, zrv21, .inr ⟨rfl, rfl⟩⟩, ⟨_, zrv22, .inr ⟨rfl, rfl⟩⟩, ⟨_, zrv23, .inr ⟨rfl, rfl⟩⟩, ⟨_, zrv24, .inr ⟨rfl, rfl⟩⟩, ⟨_, zrv25, .inl ⟨_, rfl, by simp [Value.oneCell'], rfl⟩⟩, ⟨_, zrv26, .inl ⟨_, rfl, by simp [Value.oneCell'], rfl⟩⟩, ⟨_, zrv31, .inr ⟨rfl, rfl⟩⟩, ⟨_, zrv35, .inr ⟨rfl, rfl⟩⟩, ⟨_, zrv39, .inr ⟨rfl, rfl⟩⟩, ⟨_, zrv47, .inr ⟨rfl, rfl⟩⟩, ⟨_, zrv48, .inl ⟨_, rfl, by simp [Value.oneCell'], rfl⟩⟩, ⟨_, zrv49, .inl ⟨_, rfl, by simp [Value.oneCell'], rfl⟩⟩, ⟨_, zrv50, .inl ⟨_, rfl, by simp [Value.oneCell'], rfl⟩⟩, ⟨_, zrv51, .inl ⟨_, rfl, by simp [Value.oneCell'], rfl⟩⟩, ⟨_, zrv56, .inl ⟨_, rfl, by simp [Value.oneCell'], rfl⟩⟩, ⟨_, zrv57, .inl ⟨_, rfl, by simp [Value.oneCell'], rfl⟩⟩, ⟨_, zrv68, .inl ⟨_, rfl, by simp [Value.oneCell'], rfl⟩⟩, ⟨_, zrv69, .inl ⟨_, rfl, by simp [Value.oneCell'], rfl⟩⟩, ⟨_, zrv75, .inr ⟨rfl, rfl⟩⟩, ⟨_, zrv76, .inr ⟨rfl, rfl⟩⟩, ⟨_, zrv78, .inl ⟨_, rfl, by simp [Value.oneCell'], rfl⟩⟩, ⟨_, zrv79, .inl ⟨_, rfl, by simp [Value.oneCell'], rfl⟩⟩, ⟨_, zrv81, .inl ⟨_, rfl, by simp [Value.oneCell'], rfl⟩⟩, ⟨_, zrv82, .inl ⟨_, rfl, by simp [Value.oneCell'], rfl⟩⟩, ⟨_, zrv84, .inl ⟨_, rfl, by simp [Value.oneCell'], rfl⟩⟩, ⟨_, zrv85, .inl ⟨_, rfl, by simp [Value.oneCell'], rfl⟩⟩, ⟨_, zrv87, .inl ⟨_, rfl, by simp [Value.oneCell'], rfl⟩⟩, ⟨_, zrv88, .inl ⟨_, rfl, by simp [Value.oneCell'], rfl⟩⟩, ⟨_, zrv89, .inl ⟨_, rfl, by simp [Value.oneCell'], rfl⟩⟩, ⟨_, zrv90, .inl ⟨_, rfl, by simp [Value.oneCell'], rfl⟩⟩, ⟨_, zrv91, .inr ⟨rfl, rfl⟩⟩, ⟨_, zrv92, .inl ⟨_, rfl, by simp [Value.oneCell'], rfl⟩⟩, ⟨_, zrv93, .inl ⟨_, rfl, by simp [Value.oneCell'], rfl⟩⟩, ⟨_, zrv94, .inr ⟨rfl, rfl⟩⟩, ⟨_, zrv95, .inr ⟨rfl, rfl⟩⟩, ⟨_, zrv100, .inr ⟨rfl, rfl⟩⟩, ⟨_, zrv101, .inl ⟨_, rfl, by simp [Value.oneCell'], rfl⟩⟩, ⟨_, zrv102, .inl ⟨_, rfl, by simp [Value.oneCell'], rfl⟩⟩, ⟨_, zrv105, .inr ⟨rfl, rfl⟩⟩, ⟨_, zrv108, .inr ⟨rfl, rfl⟩⟩, ⟨_, zrv110, .inl ⟨_, rfl, by simp [Value.oneCell'], rfl⟩⟩, ⟨_, zrv111, .inl ⟨_, rfl, by simp [Value.oneCell'], rfl⟩⟩, ⟨_, zrv116, .inr ⟨rfl, rfl⟩⟩, ⟨_, zrv117, .inr ⟨rfl, rfl⟩⟩, ⟨_, zrv118, .inr ⟨rfl, rfl⟩⟩, ⟨_, zrv120, .inr ⟨rfl, rfl⟩⟩, ⟨_, zrv121, .inr ⟨rfl, rfl⟩⟩, ⟨_, zrv122, .inr ⟨rfl, rfl⟩⟩, ⟨_, zrv123, .inl ⟨_, rfl, by simp [Value.oneCell'], rfl⟩⟩, ⟨_, zrv124, .inl ⟨_, rfl, by simp [Value.oneCell'], rfl⟩⟩, ⟨_, zrv127, .inl ⟨_, rfl, by simp [Value.oneCell'], rfl⟩⟩, ⟨_, zrv128, .inl ⟨_, rfl, by simp [Value.oneCell'], rfl⟩⟩, ⟨_, zrv129, .inr ⟨rfl, rfl⟩⟩, trivial⟩
def slL : List (Nat × Nat) := [(22, 5), (23, 3), (24, 26), (31, 9), (35, 51), (47, 69), (91, 93), (100, 102), (105, 23)]
def slA : List (Nat × Nat) → Prop
  | [] => True
  | p :: r => (Tryd.prog.underlying p.1 = some (.slice p.2)) ∧ slA r
theorem slM : ∀ {l : List (Nat × Nat)}, slA l → ∀ p ∈ l, Tryd.prog.underlying p.1 = some (.slice p.2)
  | [], _, p, h => by cases h
  | q :: r, ha, p, h => by
    rcases List.mem_cons.1 h with e | h
    · exact e ▸ ha.1
    · exact slM ha.2 p h
theorem slK : slA slL := ⟨und22, und23, und24, und31, und35, und47, und91, und100, und105, trivial⟩
def intL : List (Nat × IntKind) := [(2, .i64), (3, .i64), (5, .u8), (6, .u8), (12, .u64), (21, .i32), (116, .u32), (117, .u8), (118, .u8), (121, .i32), (122, .i32)]
def intA : List (Nat × IntKind) → Prop
  | [] => True
  | p :: r => (Tryd.prog.underlying p.1 = some (.int p.2)) ∧ intA r
theorem intM : ∀ {l : List (Nat × IntKind)}, intA l → ∀ p ∈ l, Tryd.prog.underlying p.1 = some (.int p.2)
  | [], _, p, h => by cases h
  | q :: r, ha, p, h => by
    rcases List.mem_cons.1 h with e | h
    · exact e ▸ ha.1
    · exact intM ha.2 p h
theorem intK : intA intL := ⟨und2, und3, und5, und6, und12, und21, und116, und117, und118, und121, und122, trivial⟩
def strL : List (Nat × Unit) := [(9, ()), (10, ()), (11, ())]
def strA : List (Nat × Unit) → Prop
  | [] => True
  | p :: r => (Tryd.prog.underlying p.1 = some .string) ∧ strA r
theorem strM : ∀ {l : List (Nat × Unit)}, strA l → ∀ p ∈ l, Tryd.prog.underlying p.1 = some .string
  | [], _, p, h => by cases h
  | q :: r, ha, p, h => by
    rcases List.mem_cons.1 h with e | h
    · exact e ▸ ha.1
    · exact strM ha.2 p h
theorem strK : strA strL := ⟨und9, und10, und11, trivial⟩
def booL : List (Nat × Unit) := [(4, ())]
def booA : List (Nat × Unit) → Prop
  | [] => True
  | p :: r => (Tryd.prog.underlying p.1 = some .bool) ∧ booA r
theorem booM : ∀ {l : List (Nat × Unit)}, booA l → ∀ p ∈ l, Tryd.prog.underlying p.1 = some .bool
  | [], _, p, h => by cases h
  | q :: r, ha, p, h => by
    rcases List.mem_cons.1 h with e | h
    · exact e ▸ ha.1
    · exact booM ha.2 p h
theorem booK : booA booL := ⟨und4, trivial⟩
def ifcL : List (Nat × Unit) := [(20, ()), (75, ()), (76, ()), (94, ()), (95, ())]
def ifcA : List (Nat × Unit) → Prop
  | [] => True
  | p :: r => (∃ ms, Tryd.prog.underlying p.1 = some (.interface ms)) ∧ ifcA r
theorem ifcM : ∀ {l : List (Nat × Unit)}, ifcA l → ∀ p ∈ l, ∃ ms, Tryd.prog.underlying p.1 = some (.interface ms)
  | [], _, p, h => by cases h
  | q :: r, ha, p, h => by
    rcases List.mem_cons.1 h with e | h
    · exact e ▸ ha.1
    · exact ifcM ha.2 p h
theorem ifcK : ifcA ifcL := ⟨⟨_, und20⟩, ⟨_, und75⟩, ⟨_, und76⟩, ⟨_, und94⟩, ⟨_, und95⟩, trivial⟩
def conL : List (Nat × Unit) := [(2, ()), (3, ()), (4, ()), (5, ()), (6, ()), (7, ()), (8, ()), (9, ()), (10, ()), (11, ()), (12, ()), (13, ()), (14, ()), (15, ()), (16, ()), (17, ()), (18, ()), (19, ()), (21, ()), (22, ()), (23, ()), (24, ()), (25, ()), (26, ()), (31, ()), (35, ()), (39, ()), (47, ()), (48, ()), (49, ()), (50, ()), (51, ()), (56, ()), (57, ()), (68, ()), (69, ()), (78, ()), (79, ()), (81, ()), (82, ()), (84, ()), (85, ()), (87, ()), (88, ()), (89, ()), (90, ()), (91, ()), (92, ()), (93, ()), (100, ()), (101, ()), (102, ()), (105, ()), (108, ()), (110, ()), (111, ()), (116, ()), (117, ()), (118, ()), (120, ()), (121, ()), (122, ()), (123, ()), (124, ()), (127, ()), (128, ()), (129, ())]
def conA : List (Nat × Unit) → Prop
  | [] => True
  | p :: r => (Tryd.prog.concrete p.1 = true) ∧ conA r
theorem conM : ∀ {l : List (Nat × Unit)}, conA l → ∀ p ∈ l, Tryd.prog.concrete p.1 = true
  | [], _, p, h => by cases h
  | q :: r, ha, p, h => by
    rcases List.mem_cons.1 h with e | h
    · exact e ▸ ha.1
    · exact conM ha.2 p h
theorem conK : conA conL := ⟨con2, con3, con4, con5, con6, con7, con8, con9, con10, con11, con12, con13, con14, con15, con16, con17, con18, con19, con21, con22, con23, con24, con25, con26, con31, con35, con39, con47, con48, con49, con50, con51, con56, con57, con68, con69, con78, con79, con81, con82, con84, con85, con87, con88, con89, con90, con91, con92, con93, con100, con101, con102, con105, con108, con110, con111, con116, con117, con118, con120, con121, con122, con123, con124, con127, con128, con129, trivial⟩
def bytL : List (Nat × Nat) := [(2, 8), (3, 8), (4, 1), (5, 1), (6, 1), (7, 24), (8, 24), (9, 16), (10, 16), (11, 16), (12, 8), (13, 24), (14, 24), (15, 8), (16, 8), (17, 8), (18, 8), (19, 8), (20, 16), (21, 4), (22, 24), (23, 24), (24, 24), (25, 80), (26, 80), (31, 24), (35, 24), (39, 8), (47, 24), (48, 48), (49, 48), (50, 88), (51, 88), (56, 32), (57, 32), (68, 168), (69, 168), (75, 16), (76, 16), (78, 168), (79, 168), (81, 104), (82, 104), (84, 184), (85, 184), (87, 8), (88, 8), (89, 16), (90, 16), (91, 24), (92, 32), (93, 32), (94, 16), (95, 16), (100, 24), (101, 24), (102, 24), (105, 24), (108, 8), (110, 40), (111, 40), (116, 4), (117, 1), (118, 1), (120, 8), (121, 4), (122, 4), (123, 48), (124, 48), (127, 16), (128, 16), (129, 8)]
theorem bytK : bytL.all (fun p => byt Tryd.prog p.1 == some p.2) = true := by kernel_rfl
def mpL : List (Nat × Nat) := []
def mpA : List (Nat × Nat) → Prop
  | [] => True
  | p :: r => (∃ k, Tryd.prog.underlying p.1 = some (.map k p.2) ∧ Tryd.prog.underlying k = some .string) ∧ mpA r
theorem mpM : ∀ {l : List (Nat × Nat)}, mpA l → ∀ p ∈ l, ∃ k, Tryd.prog.underlying p.1 = some (.map k p.2) ∧ Tryd.prog.underlying k = some .string
  | [], _, p, h => by cases h
  | q :: r, ha, p, h => by
    rcases List.mem_cons.1 h with e | h
    · exact e ▸ ha.1
    · exact mpM ha.2 p h
theorem mpK : mpA mpL := trivial
theorem of_all {α : Type} [BEq α] [LawfulBEq α] {f : Nat → Option α} {l : List (Nat × α)} (h : l.all (fun p => f p.1 == some p.2) = true) {t : Nat} {x : α} (hx : lkN l t = some x) : f t = some x := by
  have := List.all_eq_true.1 h _ (lkN_mem hx)
  simpa using this
def T : Tab Tryd.prog where
  lay t := lkN layL t
  hlay t x h := of_all layK h
  flds t := lkN fldL t
  hflds t x h := of_all fldK h
  zer t := lkN zerL t
  hzer t x h := ⟨zerM zerK _ (lkN_mem h), fun u hu => List.all_eq_true.1 (List.all_eq_true.1 zerO _ (lkN_mem h)) u hu⟩
  sl t := lkN slL t
  hsl t e h := slM slK _ (lkN_mem h)
  str t := (lkN strL t).isSome
  hstr t h := by obtain ⟨x, hx⟩ := Option.isSome_iff_exists.1 h; exact strM strK _ (lkN_mem hx)
  boo t := (lkN booL t).isSome
  hboo t h := by obtain ⟨x, hx⟩ := Option.isSome_iff_exists.1 h; exact booM booK _ (lkN_mem hx)
  int t := lkN intL t
  hint t k h := intM intK _ (lkN_mem h)
  ifc t := (lkN ifcL t).isSome
  hifc t h := by obtain ⟨x, hx⟩ := Option.isSome_iff_exists.1 h; exact ifcM ifcK _ (lkN_mem hx)
  con t := (lkN conL t).isSome
  hcon t h := by obtain ⟨x, hx⟩ := Option.isSome_iff_exists.1 h; exact conM conK _ (lkN_mem hx)
  byt t := lkN bytL t
  hbyt t x h := of_all bytK h
  mp t := lkN mpL t
  hmp t e h := mpM mpK _ (lkN_mem h)
  zpv t := lkN zpvL t
  hzpv t y h := zpvM zpvK _ (lkN_mem h)
end Go.Proofs.YtbjjdjipdcdfhaaDoor.Ty
end
section
namespace Go.Proofs.YtbjjdjipdcdfhaaDoor.K
open Go Go.RowKit Go.Proofs.YtbjjdjipdcdfhaaDoor.En Go.Proofs.YtbjjdjipdcdfhaaDoor.Ty Go.Proofs.YtbjjdjipdcdfhaaDoor.B
set_option maxRecDepth 100000
set_option linter.unusedSimpArgs false
set_option linter.unusedVariables false
set_option pp.deepTerms false
set_option pp.deepTerms.threshold 8
set_option pp.maxSteps 1000
end Go.Proofs.YtbjjdjipdcdfhaaDoor.K
end
section
namespace Go.Proofs.YtbjjdjipdcdfhaaDoor.K
open Go Go.RowKit Go.Proofs.YtbjjdjipdcdfhaaDoor.En Go.Proofs.YtbjjdjipdcdfhaaDoor.Ty Go.Proofs.YtbjjdjipdcdfhaaDoor.B
set_option maxRecDepth 100000
set_option linter.unusedSimpArgs false
set_option linter.unusedVariables false
set_option pp.deepTerms false
set_option pp.deepTerms.threshold 8
set_option pp.maxSteps 1000
theorem teq_zip (n : Nat) (a b : List Tn) (ha : dp (n + 1) a = true) (hb : dp (n + 1) b = true) (hl : a.length = b.length) : teq (n + 1) a b = (a.zip b).all fun p => teq n p.1.f0 p.2.f0 := by
  rcases shp a with rfl | ⟨a1, a2, rfl⟩ | ⟨h0, h2⟩
  · obtain rfl := List.eq_nil_of_length_eq_zero hl.symm
    rfl
  · obtain ⟨b1, b2, rfl⟩ := two_of hl.symm
    show (teq n a1.f0 b1.f0 && teq n a2.f0 b2.f0) = _
    simp
  · rw [dp_odd _ _ h0 h2] at ha; cases ha
theorem dp_mem (n : Nat) (l : List Tn) (h : dp (n + 1) l = true) {x : Tn} {i : Nat} (hx : l[i]? = some x) : dp n x.f0 = true := by
  rcases shp l with rfl | ⟨a1, a2, rfl⟩ | ⟨h0, h2⟩
  · simp at hx
  · rw [dp_two, Bool.and_eq_true] at h
    match i, hx with
    | 0, hx => cases hx; exact h.1
    | 1, hx => cases hx; exact h.2
  · rw [dp_odd _ _ h0 h2] at h; cases h
theorem dp_len (n : Nat) (l : List Tn) (h : dp n l = true) : l.length ≤ 2 := by
  rcases shp l with rfl | ⟨a1, a2, rfl⟩ | ⟨h0, h2⟩
  · simp
  · simp
  · rw [dp_odd _ _ h0 h2] at h; cases h
theorem l6In (G : Nat → Option PV) (n a b : Int) : PF Tryd.prog G 49 [pi n, pi a, pi b] (.p (pb (decide (n ≥ a) && decide (n ≤ b)))) := by
  refine ⟨(by first | exact .p | exact .tp (fun x hx => by simp at hx; rcases hx with rfl | rfl <;> exact .p) | exact .tp (fun x hx => by simp at hx; rcases hx with rfl | rfl | rfl <;> exact .p)), bdy Tryd.func49 (fun _ => 0) rfl ?_⟩
  refine rn T 99 [] ?_
  cases h : decide (n ≥ a) with
  | true =>
    refine rn T 4 [] ?_
    rw [h]
    refine rn T 99 [] ?_
    exact ⟨[_], ⟨_, _, rfl, .inl rfl, rfl⟩, .p, rfl⟩
  | false =>
    refine rn T 4 [] ?_
    rw [h]
    refine rn T 99 [] ?_
    exact ⟨[_], ⟨_, _, rfl, .inl rfl, rfl⟩, .p, rfl⟩
end Go.Proofs.YtbjjdjipdcdfhaaDoor.K
end
section
namespace Go.Proofs.YtbjjdjipdcdfhaaDoor.K
open Go Go.RowKit Go.Proofs.YtbjjdjipdcdfhaaDoor.En Go.Proofs.YtbjjdjipdcdfhaaDoor.Ty Go.Proofs.YtbjjdjipdcdfhaaDoor.B
set_option maxRecDepth 100000
set_option linter.unusedSimpArgs false
set_option linter.unusedVariables false
set_option pp.deepTerms false
set_option pp.deepTerms.threshold 8
set_option pp.maxSteps 1000
theorem take_eT {l : List Tn} {i : Nat} {x : Tn} (h : l[i]? = some x) : (l.take i).map eT ++ [pt x.f0] = (l.take (i + 1)).map eT := by
  rw [List.take_add_one, h, List.map_append]
  simp [eT_eq]
end Go.Proofs.YtbjjdjipdcdfhaaDoor.K
end
section

end
section
namespace Go.Proofs.YtbjjdjipdcdfhaaDoor.K
open Go Go.RowKit Go.Proofs.YtbjjdjipdcdfhaaDoor.En Go.Proofs.YtbjjdjipdcdfhaaDoor.Ty Go.Proofs.YtbjjdjipdcdfhaaDoor.B
set_option maxRecDepth 100000
set_option linter.unusedSimpArgs false
set_option linter.unusedVariables false
set_option pp.deepTerms false
set_option pp.deepTerms.threshold 8
set_option pp.maxSteps 1000
end Go.Proofs.YtbjjdjipdcdfhaaDoor.K
end
section
namespace Go.Proofs.YtbjjdjipdcdfhaaDoor.K
open Go Go.RowKit Go.Proofs.YtbjjdjipdcdfhaaDoor.En Go.Proofs.YtbjjdjipdcdfhaaDoor.Ty Go.Proofs.YtbjjdjipdcdfhaaDoor.B
set_option maxRecDepth 100000
set_option linter.unusedSimpArgs false
set_option linter.unusedVariables false
set_option pp.deepTerms false
set_option pp.deepTerms.threshold 8
set_option pp.maxSteps 1000
def chB (c : Nat) : Bool := decide ((97 ≤ c ∧ c ≤ 122) ∨ (65 ≤ c ∧ c ≤ 90) ∨ (48 ≤ c ∧ c ≤ 57) ∨ c = 95)
def chs (l : List UInt8) : Bool := l.all (fun b => chB b.toNat)
def pw (s : ByteArray) : Bool := decide (1 ≤ s.size) && decide (s.size ≤ 12) && chs s.data.toList
theorem byte_ix {s : ByteArray} {i : Nat} (h : i < s.size) : ∃ b, s.data.getD i 0 = b ∧ s.data.toList.drop i = b :: s.data.toList.drop (i + 1) := by
  refine ⟨s.data.getD i 0, rfl, ?_⟩
  have h' : i < s.data.toList.length := by simpa using h
  rw [List.drop_eq_getElem_cons h']
  congr 1
  have h2 : i < s.data.size := h
  simp only [Array.getD, h2, dif_pos, Array.getElem_toList]
  rfl
theorem word1 (G : Nat → Option PV) (s : ByteArray) : PF Tryd.prog G 26 [ps s] (.p (pb (pw s))) := by
  refine ⟨(by first | exact .p | exact .tp (fun x hx => by simp at hx; rcases hx with rfl | rfl <;> exact .p) | exact .tp (fun x hx => by simp at hx; rcases hx with rfl | rfl | rfl <;> exact .p)), bdy Tryd.func26 (fun _ => 0) rfl ?_⟩
  refine rn T 99 [] ?_
  unfold pw
  by_cases h1 : 1 ≤ s.size
  · by_cases h2 : s.size ≤ 12
    · rw [decide_eq_true h1, decide_eq_true h2, Bool.true_and, Bool.true_and]
      refine rn T 3 [] ?_
      rw [show decide ((s.size : Int) < 1) = false by simp; omega]
      refine rn T 99 [] ?_
      refine cfq rfl (by simp; omega) ?_
      refine rn T 99 [] ?_
      refine lpw (fun i : Nat => MS.mk [(3, .p (pi i)), (0, .p (ps s))] 48 [] []) (fun m i => m + i = s.size ∧ chs (s.data.toList.drop i) = chs s.data.toList) (s.size) (0) (by simp) ?_
      intro m i ⟨h3, h4⟩
      refine op ?_
      refine rn T 99 [] ?_
      by_cases hi : i < s.size
      · obtain ⟨b, hb, hd⟩ := byte_ix hi
        rw [hd, chs, List.all_cons] at h4
        refine ctq rfl (by simp [hi]) ?_
        refine rn T 99 [] ?_
        show EOps _ _ _ _ _ (MS.st _ _ (MS.mk ((4, .p (.c (.int .u8 ((s.data.getD i 0).toNat : Int)))) :: _) _ _ _)) _
        rw [hb]
        obtain ⟨c, hcc⟩ : ∃ c : Int, (b.toNat : Int) = c := ⟨_, rfl⟩
        rw [hcc]
        by_cases hc : chB b.toNat = true
        · have hc2 : (97 ≤ b.toNat ∧ b.toNat ≤ 122) ∨ (65 ≤ b.toNat ∧ b.toNat ≤ 90) ∨ (48 ≤ b.toNat ∧ b.toNat ≤ 57) ∨ b.toNat = 95 := of_decide_eq_true hc
          repeat' (first | (with_reducible refine n16 ?_) | (with_reducible refine EOps.ci ?_; first | refine EOps.one T [] rfl (by first | exact True.intro | exact ⟨True.intro, True.intro⟩) ?_ | (refine EOps.sp rfl ?_ ?_ <;> intro hc_ <;> rw [hc_] <;> first | replace hc_ := of_decide_eq_true hc_ | replace hc_ := of_decide_eq_false hc_ | replace hc_ := of_decide_eq_false (Eq.mp (Bool.not_eq_true' _) hc_) | replace hc_ := of_decide_eq_true (Eq.mp (Bool.not_eq_false' _) hc_) | skip)))
          all_goals (refine cfq rfl (by first | rfl | (exfalso; omega) | (simp; omega)) ?_)
          all_goals (refine rn T 99 [] ?_)
          all_goals (rw [wkS (by omega)])
          all_goals (refine nxt (m - 1) (i + 1) (⟨by omega, by rw [← h4, hc]; rfl⟩))
        · have hc' : chB b.toNat = false := by simpa using hc
          have hc2 : ¬ ((97 ≤ b.toNat ∧ b.toNat ≤ 122) ∨ (65 ≤ b.toNat ∧ b.toNat ≤ 90) ∨ (48 ≤ b.toNat ∧ b.toNat ≤ 57) ∨ b.toNat = 95) := of_decide_eq_false hc'
          rw [← h4, hc', Bool.false_and]
          repeat' (first | (with_reducible refine n16 ?_) | (with_reducible refine EOps.ci ?_; first | refine EOps.one T [] rfl (by first | exact True.intro | exact ⟨True.intro, True.intro⟩) ?_ | (refine EOps.sp rfl ?_ ?_ <;> intro hc_ <;> rw [hc_] <;> first | replace hc_ := of_decide_eq_true hc_ | replace hc_ := of_decide_eq_false hc_ | replace hc_ := of_decide_eq_false (Eq.mp (Bool.not_eq_true' _) hc_) | replace hc_ := of_decide_eq_true (Eq.mp (Bool.not_eq_false' _) hc_) | skip)))
          all_goals (refine ctq rfl (by first | rfl | (exfalso; omega) | (simp; omega)) ?_)
          all_goals (refine rn T 99 [] ?_)
          all_goals (exact ⟨[_], ⟨_, _, rfl, .inl rfl, rfl⟩, .p, rfl⟩)
      · refine cfq rfl (by simp [hi]) ?_
        refine rn T 99 [] ?_
        rw [← h4, List.drop_eq_nil_of_le (by simp; omega)]
        exact ⟨[_], ⟨_, _, rfl, .inl rfl, rfl⟩, .p, rfl⟩
    · rw [decide_eq_false h2, Bool.and_false, Bool.false_and]
      refine rn T 3 [] ?_
      rw [show decide ((s.size : Int) < 1) = false by simp; omega]
      refine rn T 99 [] ?_
      refine ctq rfl (by simp; omega) ?_
      refine rn T 99 [] ?_
      exact ⟨[_], ⟨_, _, rfl, .inl rfl, rfl⟩, .p, rfl⟩
  · rw [decide_eq_false h1, Bool.false_and, Bool.false_and]
    refine rn T 3 [] ?_
    rw [show decide ((s.size : Int) < 1) = true by simp; omega]
    refine rn T 99 [] ?_
    refine cts ?_
    refine rn T 99 [] ?_
    exact ⟨[_], ⟨_, _, rfl, .inl rfl, rfl⟩, .p, rfl⟩
end Go.Proofs.YtbjjdjipdcdfhaaDoor.K
end
section
namespace Go.Proofs.YtbjjdjipdcdfhaaDoor.K
open Go Go.RowKit Go.Proofs.YtbjjdjipdcdfhaaDoor.En Go.Proofs.YtbjjdjipdcdfhaaDoor.Ty Go.Proofs.YtbjjdjipdcdfhaaDoor.B
set_option maxRecDepth 100000
set_option linter.unusedSimpArgs false
set_option linter.unusedVariables false
set_option pp.deepTerms false
set_option pp.deepTerms.threshold 8
set_option pp.maxSteps 1000
theorem word2 (G : Nat → Option PV) (s : ByteArray) : PF Tryd.prog G 32 [ps s] (.p (pb (pw s))) := by
  refine ⟨(by first | exact .p | exact .tp (fun x hx => by simp at hx; rcases hx with rfl | rfl <;> exact .p) | exact .tp (fun x hx => by simp at hx; rcases hx with rfl | rfl | rfl <;> exact .p)), bdy Tryd.func32 (fun _ => 0) rfl ?_⟩
  refine rn T 99 [] ?_
  unfold pw
  by_cases h1 : 1 ≤ s.size
  · by_cases h2 : s.size ≤ 12
    · rw [decide_eq_true h1, decide_eq_true h2, Bool.true_and, Bool.true_and]
      refine rn T 3 [] ?_
      rw [show decide ((s.size : Int) < 1) = false by simp; omega]
      refine rn T 99 [] ?_
      refine cfq rfl (by simp; omega) ?_
      refine rn T 99 [] ?_
      refine lpw (fun i : Nat => MS.mk [(16, .p (pi i)), (15, .p (pi s.size)), (0, .p (ps s))] 51 [] []) (fun m i => m + i = s.size ∧ chs (s.data.toList.drop i) = chs s.data.toList) (s.size) (0) (by simp) ?_
      intro m i ⟨h3, h4⟩
      refine op ?_
      refine rn T 99 [] ?_
      by_cases hi : i < s.size
      · obtain ⟨b, hb, hd⟩ := byte_ix hi
        rw [hd, chs, List.all_cons] at h4
        refine ctq rfl (by simp [hi]) ?_
        refine rn T 99 [] ?_
        refine rn T 99 [] ?_
        show EOps _ _ _ _ _ (MS.st _ _ (MS.mk ((4, .p (.c (.int .u8 ((s.data.getD i 0).toNat : Int)))) :: _) _ _ _)) _
        rw [hb]
        obtain ⟨c, hcc⟩ : ∃ c : Int, (b.toNat : Int) = c := ⟨_, rfl⟩
        rw [hcc]
        by_cases hc : chB b.toNat = true
        · have hc2 : (97 ≤ b.toNat ∧ b.toNat ≤ 122) ∨ (65 ≤ b.toNat ∧ b.toNat ≤ 90) ∨ (48 ≤ b.toNat ∧ b.toNat ≤ 57) ∨ b.toNat = 95 := of_decide_eq_true hc
          repeat' (first | (with_reducible refine n16 ?_) | (with_reducible refine EOps.ci ?_; first | refine EOps.one T [] rfl (by first | exact True.intro | exact ⟨True.intro, True.intro⟩) ?_ | (refine EOps.sp rfl ?_ ?_ <;> intro hc_ <;> rw [hc_] <;> first | replace hc_ := of_decide_eq_true hc_ | replace hc_ := of_decide_eq_false hc_ | replace hc_ := of_decide_eq_false (Eq.mp (Bool.not_eq_true' _) hc_) | replace hc_ := of_decide_eq_true (Eq.mp (Bool.not_eq_false' _) hc_) | skip)))
          all_goals (refine op ?_)
          all_goals (repeat' (first | (with_reducible refine n16 ?_) | (with_reducible refine EOps.ci ?_; first | refine EOps.one T [] rfl (by first | exact True.intro | exact ⟨True.intro, True.intro⟩) ?_ | (refine EOps.sp rfl ?_ ?_ <;> intro hc_ <;> rw [hc_] <;> first | replace hc_ := of_decide_eq_true hc_ | replace hc_ := of_decide_eq_false hc_ | replace hc_ := of_decide_eq_false (Eq.mp (Bool.not_eq_true' _) hc_) | replace hc_ := of_decide_eq_true (Eq.mp (Bool.not_eq_false' _) hc_) | skip))))
          all_goals (refine cfq rfl (by first | rfl | (exfalso; omega) | (simp; omega)) ?_)
          all_goals (refine rn T 99 [] ?_)
          all_goals (rw [wkS (by omega)])
          all_goals (refine nxt (m - 1) (i + 1) (⟨by omega, by rw [← h4, hc]; rfl⟩))
        · have hc' : chB b.toNat = false := by simpa using hc
          have hc2 : ¬ ((97 ≤ b.toNat ∧ b.toNat ≤ 122) ∨ (65 ≤ b.toNat ∧ b.toNat ≤ 90) ∨ (48 ≤ b.toNat ∧ b.toNat ≤ 57) ∨ b.toNat = 95) := of_decide_eq_false hc'
          rw [← h4, hc', Bool.false_and]
          repeat' (first | (with_reducible refine n16 ?_) | (with_reducible refine EOps.ci ?_; first | refine EOps.one T [] rfl (by first | exact True.intro | exact ⟨True.intro, True.intro⟩) ?_ | (refine EOps.sp rfl ?_ ?_ <;> intro hc_ <;> rw [hc_] <;> first | replace hc_ := of_decide_eq_true hc_ | replace hc_ := of_decide_eq_false hc_ | replace hc_ := of_decide_eq_false (Eq.mp (Bool.not_eq_true' _) hc_) | replace hc_ := of_decide_eq_true (Eq.mp (Bool.not_eq_false' _) hc_) | skip)))
          all_goals (refine op ?_)
          all_goals (repeat' (first | (with_reducible refine n16 ?_) | (with_reducible refine EOps.ci ?_; first | refine EOps.one T [] rfl (by first | exact True.intro | exact ⟨True.intro, True.intro⟩) ?_ | (refine EOps.sp rfl ?_ ?_ <;> intro hc_ <;> rw [hc_] <;> first | replace hc_ := of_decide_eq_true hc_ | replace hc_ := of_decide_eq_false hc_ | replace hc_ := of_decide_eq_false (Eq.mp (Bool.not_eq_true' _) hc_) | replace hc_ := of_decide_eq_true (Eq.mp (Bool.not_eq_false' _) hc_) | skip))))
          all_goals (refine ctq rfl (by first | rfl | (exfalso; omega) | (simp; omega)) ?_)
          all_goals (refine rn T 99 [] ?_)
          all_goals (exact ⟨[_], ⟨_, _, rfl, .inl rfl, rfl⟩, .p, rfl⟩)
      · refine cfq rfl (by simp [hi]) ?_
        refine rn T 99 [] ?_
        rw [← h4, List.drop_eq_nil_of_le (by simp; omega)]
        exact ⟨[_], ⟨_, _, rfl, .inl rfl, rfl⟩, .p, rfl⟩
    · rw [decide_eq_false h2, Bool.and_false, Bool.false_and]
      refine rn T 3 [] ?_
      rw [show decide ((s.size : Int) < 1) = false by simp; omega]
      refine rn T 99 [] ?_
      refine ctq rfl (by simp; omega) ?_
      refine rn T 99 [] ?_
      exact ⟨[_], ⟨_, _, rfl, .inl rfl, rfl⟩, .p, rfl⟩
  · rw [decide_eq_false h1, Bool.false_and, Bool.false_and]
    refine rn T 3 [] ?_
    rw [show decide ((s.size : Int) < 1) = true by simp; omega]
    refine rn T 99 [] ?_
    refine cts ?_
    refine rn T 99 [] ?_
    exact ⟨[_], ⟨_, _, rfl, .inl rfl, rfl⟩, .p, rfl⟩
theorem bq_eq {a b : ByteArray} : (a == b) = true ↔ a = b := by
  rw [show (a == b) = (a.data == b.data) from rfl, beq_iff_eq]
  cases a; cases b; simp
theorem bq_symm (a b : ByteArray) : (a == b) = (b == a) := by
  rw [Bool.eq_iff_iff, bq_eq, bq_eq]
  exact ⟨Eq.symm, Eq.symm⟩
def ixF (v : ByteArray) : List ByteArray → Nat → Int
  | [], _ => -1
  | x :: r, i => if (v == x) = true then i else ixF v r (i + 1)
def hasS (l : List ByteArray) (v : ByteArray) : Bool := l.any (fun x => v == x)
theorem ixF_has (v : ByteArray) : ∀ (l : List ByteArray) (i : Nat), decide (ixF v l i ≥ 0) = hasS l v
  | [], i => rfl
  | x :: r, i => by
    unfold ixF hasS
    rw [List.any_cons]
    cases h : (v == x) with
    | true => simp
    | false => rw [if_neg (by simp), Bool.false_or]; exact ixF_has v r (i + 1)
theorem has1 (G : Nat → Option PV) (l : List ByteArray) (v : ByteArray) (hl : l.length ≤ 1000) : PF Tryd.prog G 28 [.row 1 (l.map ps), ps v] (.p (pb (hasS l v))) := by
  refine ⟨(by first | exact .p | exact .tp (fun x hx => by simp at hx; rcases hx with rfl | rfl <;> exact .p) | exact .tp (fun x hx => by simp at hx; rcases hx with rfl | rfl | rfl <;> exact .p)), bdy Tryd.func28 (fun _ => 0) rfl ?_⟩
  refine rn T 99 [] ?_
  refine rn T 99 [] ?_
  refine lpw (fun i : Nat => MS.mk [(5, .p (pi i)), (0, .p (.row 1 (l.map ps))), (1, .p (ps v))] 18 [] []) (fun m i => m + i = l.length ∧ hasS (l.drop i) v = hasS l v) (l.length) (0) (by simp) ?_
  intro m i ⟨h1, h2⟩
  refine op ?_
  refine rn T 99 [] ?_
  by_cases hi : i < l.length
  · obtain ⟨x, hx, hd⟩ := drop_ix hi
    rw [hd, hasS, List.any_cons] at h2
    refine ctq rfl (by simp [hi]) ?_
    refine rn T 99 [ps x] ?_
    rw [bq_symm x v]
    cases hv : (v == x) with
    | true =>
      rw [hv, Bool.true_or] at h2
      refine cts ?_
      refine rn T 99 [] ?_
      rw [← h2]
      exact ⟨[_], ⟨_, _, rfl, .inl rfl, rfl⟩, .p, rfl⟩
    | false =>
      rw [hv, Bool.false_or] at h2
      refine cfs ?_
      refine rn T 99 [] ?_
      rw [wkS (by omega)]
      refine nxt (m - 1) (i + 1) (⟨by omega, h2⟩)
  · refine cfq rfl (by simp [hi]) ?_
    refine rn T 99 [] ?_
    rw [List.drop_eq_nil_of_le (by omega)] at h2
    rw [← h2]
    exact ⟨[_], ⟨_, _, rfl, .inl rfl, rfl⟩, .p, rfl⟩
end Go.Proofs.YtbjjdjipdcdfhaaDoor.K
end
section
namespace Go.Proofs.YtbjjdjipdcdfhaaDoor.K
open Go Go.RowKit Go.Proofs.YtbjjdjipdcdfhaaDoor.En Go.Proofs.YtbjjdjipdcdfhaaDoor.Ty Go.Proofs.YtbjjdjipdcdfhaaDoor.B
set_option maxRecDepth 100000
set_option linter.unusedSimpArgs false
set_option linter.unusedVariables false
set_option pp.deepTerms false
set_option pp.deepTerms.threshold 8
set_option pp.maxSteps 1000
def nsF (pre : List ByteArray) : List ByteArray → Bool
  | [] => true
  | x :: r => (pw x && !hasS pre x) && nsF (pre ++ [x]) r
def nsB (l : List ByteArray) : Bool := decide (l.length ≤ 60) && nsF [] l
theorem take_app {α : Type} {l : List α} {i : Nat} {x : α} (h : l[i]? = some x) : l.take i ++ [x] = l.take (i + 1) := by
  rw [List.take_add_one, h]; rfl
def bitB (x : Int) : Bool := decide (0 ≤ x ∧ x ≤ 1)
def pathB (p : List Int) : Bool := decide (p.length ≤ 4) && p.all bitB
theorem path2 (G : Nat → Option PV) (p : List Int) : PF Tryd.prog G 33 [.row 1 (p.map pi)] (.p (pb (pathB p))) := by
  refine ⟨(by first | exact .p | exact .tp (fun x hx => by simp at hx; rcases hx with rfl | rfl <;> exact .p) | exact .tp (fun x hx => by simp at hx; rcases hx with rfl | rfl | rfl <;> exact .p)), bdy Tryd.func33 (fun _ => 0) rfl ?_⟩
  refine rn T 99 [] ?_
  refine rn T 99 [] ?_
  unfold pathB
  by_cases hl : p.length ≤ 4
  · rw [decide_eq_true hl, Bool.true_and]
    refine cfq rfl (by simp; omega) ?_
    refine rn T 99 [] ?_
    refine lpw (fun i : Nat => MS.mk [(10, .p (pi i)), (9, .p (pi (p.map pi).length)), (8, .p (.row 1 (p.map pi)))] 21 [] []) (fun m i => m + i = p.length ∧ (p.drop i).all bitB = p.all bitB) (p.length) (0) (by simp) ?_
    intro m i ⟨h1, h2⟩
    refine op ?_
    refine rn T 99 [] ?_
    by_cases hi : i < p.length
    · obtain ⟨x, hx, hd⟩ := drop_ix hi
      rw [hd, List.all_cons] at h2
      refine ctq rfl (by simp [hi]) ?_
      refine rn T 99 [pi x] ?_
      by_cases hb : 0 ≤ x ∧ x ≤ 1
      · rw [show bitB x = true from decide_eq_true hb, Bool.true_and] at h2
        repeat' (first | (with_reducible refine n16 ?_) | (with_reducible refine EOps.ci ?_; first | refine EOps.one T [] rfl (by first | exact True.intro | exact ⟨True.intro, True.intro⟩) ?_ | (refine EOps.sp rfl ?_ ?_ <;> intro hc_ <;> rw [hc_] <;> first | replace hc_ := of_decide_eq_true hc_ | replace hc_ := of_decide_eq_false hc_ | replace hc_ := of_decide_eq_false (Eq.mp (Bool.not_eq_true' _) hc_) | replace hc_ := of_decide_eq_true (Eq.mp (Bool.not_eq_false' _) hc_) | skip)))
        all_goals (refine cfq rfl (by first | rfl | (exfalso; omega) | (simp; omega)) ?_)
        all_goals (refine rn T 99 [] ?_)
        all_goals (rw [wkS (by omega)])
        all_goals (refine nxt (m - 1) (i + 1) (⟨by omega, h2⟩))
      · rw [show bitB x = false from decide_eq_false hb, Bool.false_and] at h2
        rw [← h2]
        repeat' (first | (with_reducible refine n16 ?_) | (with_reducible refine EOps.ci ?_; first | refine EOps.one T [] rfl (by first | exact True.intro | exact ⟨True.intro, True.intro⟩) ?_ | (refine EOps.sp rfl ?_ ?_ <;> intro hc_ <;> rw [hc_] <;> first | replace hc_ := of_decide_eq_true hc_ | replace hc_ := of_decide_eq_false hc_ | replace hc_ := of_decide_eq_false (Eq.mp (Bool.not_eq_true' _) hc_) | replace hc_ := of_decide_eq_true (Eq.mp (Bool.not_eq_false' _) hc_) | skip)))
        all_goals (refine ctq rfl (by first | rfl | (exfalso; omega) | (simp; omega)) ?_)
        all_goals (refine rn T 99 [] ?_)
        all_goals (exact ⟨[_], ⟨_, _, rfl, .inl rfl, rfl⟩, .p, rfl⟩)
    · refine cfq rfl (by simp [hi]) ?_
      refine rn T 99 [] ?_
      rw [List.drop_eq_nil_of_le (by omega)] at h2
      rw [← h2]
      exact ⟨[_], ⟨_, _, rfl, .inl rfl, rfl⟩, .p, rfl⟩
  · rw [decide_eq_false hl, Bool.false_and]
    refine ctq rfl (by simp; omega) ?_
    refine rn T 99 [] ?_
    exact ⟨[_], ⟨_, _, rfl, .inl rfl, rfl⟩, .p, rfl⟩
end Go.Proofs.YtbjjdjipdcdfhaaDoor.K
end
section
namespace Go.Proofs.YtbjjdjipdcdfhaaDoor.K
open Go Go.RowKit Go.Proofs.YtbjjdjipdcdfhaaDoor.En Go.Proofs.YtbjjdjipdcdfhaaDoor.Ty Go.Proofs.YtbjjdjipdcdfhaaDoor.B
set_option maxRecDepth 100000
set_option linter.unusedSimpArgs false
set_option linter.unusedVariables false
set_option pp.deepTerms false
set_option pp.deepTerms.threshold 8
set_option pp.maxSteps 1000
def Bytes (s : List Int) : Prop := s.length ≤ 2000 ∧ ∀ x ∈ s, 0 ≤ x ∧ x ≤ 255
theorem xor_nonneg (a b : Nat) (ha : a < 2 ^ 62) (hb : b < 2 ^ 62) : 0 ≤ Go.bits .xor .i64 a b := by
  have hp : (2 : Nat) ^ 62 ≤ 2 ^ IntKind.i64.bits := Nat.pow_le_pow_right (by decide) (by decide)
  have ha' : a % 2 ^ IntKind.i64.bits = a := Nat.mod_eq_of_lt (Nat.lt_of_lt_of_le ha hp)
  have hb' : b % 2 ^ IntKind.i64.bits = b := Nat.mod_eq_of_lt (Nat.lt_of_lt_of_le hb hp)
  simp only [Go.bits, BitVec.ofInt_natCast, BitVec.toNat_xor, BitVec.toNat_ofNat, ha', hb']
  rw [IntKind.wrap_i64]
  have := Nat.xor_lt_two_pow ha hb
  omega
theorem xor_nonneg' (x y : Int) (hx : 0 ≤ x) (hx1 : x < 4611686018427387904) (hy : 0 ≤ y) (hy1 : y < 4611686018427387904) : 0 ≤ Go.bits .xor .i64 x y := by
  obtain ⟨a, rfl⟩ := Int.eq_ofNat_of_zero_le hx
  obtain ⟨b, rfl⟩ := Int.eq_ofNat_of_zero_le hy
  exact xor_nonneg a b (by omega) (by omega)
theorem tmod_range (x n : Int) (hx : 0 ≤ x) (hn : 1 ≤ n) : 0 ≤ Int.tmod x n ∧ Int.tmod x n < n := by
  rw [Int.tmod_eq_emod_of_nonneg hx]
  exact ⟨Int.emod_nonneg _ (by omega), Int.emod_lt_of_pos _ (by omega)⟩
theorem tdiv_range (x n : Int) (hx : 0 ≤ x) (hn : 1 ≤ n) : 0 ≤ Int.tdiv x n ∧ Int.tdiv x n ≤ x := by
  rw [Int.tdiv_eq_ediv_of_nonneg hx]
  exact ⟨Int.ediv_nonneg hx (by omega), Int.ediv_le_self _ hx⟩
abbrev pu (n : Int) : PV := .c (.int .u8 n)
abbrev rdr (s : List Int) (k : Int) : AObj := .box 57 [.p (.row 1 (s.map pu)), .p (pi k)]
theorem mU {l : List Int} {i : Int} {x : Int} (h : l[i.toNat]? = some x) : (l.map pu)[i.toNat]? = some (pu x) := by rw [List.getElem?_map, h, Option.map_some]
theorem at_byte {s : List Int} (h : Bytes s) {i : Int} (h0 : 0 ≤ i) (h1 : i < s.length) : ∃ x, s[i.toNat]? = some x ∧ 0 ≤ x ∧ x ≤ 255 := by
  have hi : i.toNat < s.length := by omega
  exact ⟨s[i.toNat], List.getElem?_eq_getElem hi, h.2 _ (List.getElem_mem hi)⟩
theorem hsh_nil : HSh [] := fun i o h => by simp at h
theorem hsh_rdr {s : List Int} {k : Int} {H : List AObj} (h : HSh H) : HSh (rdr s k :: H) := fun i o ho => by
  cases i with
  | zero =>
    simp only [List.getElem?_cons_zero, Option.some.injEq] at ho
    subst ho
    intro c hc
    simp at hc
    rcases hc with rfl | rfl <;> exact .p
  | succ i => exact h i o (by simpa using ho)
theorem pickC (G : Nat → Option PV) (s : List Int) (hs : Bytes s) (k n : Int) (hk : 0 ≤ k) (hk1 : k ≤ 1099511627776) (hn : 1 ≤ n) (H0 : List AObj) : FC Tryd.prog G 30 [.ptr (.S 0) 0, .p (pi n)] (rdr s k :: H0) (fun r H' => ∃ v, 0 ≤ v ∧ v < n ∧ r = .p (pi v) ∧ H' = rdr s (k + 1) :: H0) := by
  refine bdy Tryd.func30 (fun _ => 0) rfl ?_
  refine rn T 99 [] ?_
  refine rn T 99 [] ?_
  rw [wk (n := k + 1) (by omega) (by omega)]
  refine rn T 2 [] ?_
  rw [show decide (n < 1) = false by simp; omega]
  refine rn T 99 [] ?_
  by_cases h0 : s.length = 0
  · obtain rfl := List.eq_nil_of_length_eq_zero h0
    refine cts ?_
    refine rn T 99 [] ?_
    exact ⟨[_], ⟨_, _, rfl, .inl rfl, rfl⟩, .p, 0, by omega, by omega, rfl, rfl⟩
  · have hl := hs.1
    refine cfq rfl (by simp; intro h; exact h0 (by simp [h])) ?_
    refine rn T 99 [] ?_
    rw [show IntKind.i64.wrap (k + 1 - 1) = k by rw [wk (by omega) (by omega)]; omega]
    refine rn T 99 [] ?_
    by_cases hlt : k < (s.length : Int)
    · obtain ⟨x, hx, hx0, hx1⟩ := at_byte hs hk hlt
      refine ctq rfl (by simp; omega) ?_
      refine rn T 8 [pu x] ?_
      rw [wk (n := x) (by omega) (by omega)]
      refine rn T 99 [] ?_
      have hq := tmod_range x n hx0 hn
      exact ⟨[_], ⟨_, _, rfl, .inl rfl, rfl⟩, .p, _, hq.1, hq.2, rfl, rfl⟩
    · refine cfq rfl (by simp; omega) ?_; try (first | refine dr1 ?_ | refine dr2 ?_ | refine dr3 ?_ | refine dr4 ?_)
      have m1 := tmod_range k (s.length : Int) hk (by omega)
      have m2 := tmod_range (k * 7 + 3) (s.length : Int) (by omega) (by omega)
      have d1 := tdiv_range k (s.length : Int) hk (by omega)
      obtain ⟨a, ha, ha0, ha1⟩ := at_byte hs m1.1 m1.2
      obtain ⟨c, hc, hc0, hc1⟩ := at_byte hs m2.1 m2.2
      have hz : (s.length : Int) ≠ 0 := by omega
      refine rn T 10 [] ?_
      rw [List.length_map]
      refine rn T 2 [pu a] ?_
      refine rn T 15 [] ?_
      rw [List.length_map, wk (n := k * 7) (by omega) (by omega), wk (n := k * 7 + 3) (by omega) (by omega), wk (n := a) (by omega) (by omega), wk (n := a * 131) (by omega) (by omega)]
      refine rn T 2 [pu c] ?_
      refine rn T 13 [] ?_
      rw [List.length_map, wk (n := c) (by omega) (by omega), wk (n := c * 1117) (by omega) (by omega), wk (n := a * 131 + c * 1117) (by omega) (by omega), wk (n := k * 29) (by omega) (by omega), wk (n := a * 131 + c * 1117 + k * 29) (by omega) (by omega)]
      refine rn T 1 [] ?_
      generalize Int.tdiv k (s.length : Int) = d at *
      rw [wk (n := d) (by omega) (by omega)]
      refine rn T 2 [] ?_
      rw [wk (n := d * 53) (by omega) (by omega), wk (n := a * 131 + c * 1117 + k * 29 + d * 53) (by omega) (by omega)]
      generalize hx : a * 131 + c * 1117 + k * 29 + d * 53 = x at *
      have d2 := tdiv_range x 64 (by omega) (by omega)
      refine rn T 99 [] ?_
      refine rn T 3 [] ?_
      rw [wk (n := Int.tdiv x 64) (by omega) (by omega)]
      refine rn T 99 [] ?_
      have hxor := xor_nonneg' x (Int.tdiv x 64) (by omega) (by omega) d2.1 (by omega)
      have hq := tmod_range (Go.bits .xor .i64 x (Int.tdiv x 64)) n hxor hn
      refine rn T 99 [] ?_
      exact ⟨[_], ⟨_, _, rfl, .inl rfl, rfl⟩, .p, _, hq.1, hq.2, rfl, rfl⟩
theorem pick (G : Nat → Option PV) (s : List Int) (hs : Bytes s) (k n : Int) (hk : 0 ≤ k) (hk1 : k ≤ 1099511627776) (hn : 1 ≤ n) {H0 : List AObj} (hH : HSh H0) : FE Tryd.prog G 30 [.ptr (.S 0) 0, .p (pi n)] (rdr s k :: H0) (fun r H' => ∃ v, 0 ≤ v ∧ v < n ∧ r = .p (pi v) ∧ H' = rdr s (k + 1) :: H0) :=
  ⟨pickC G s hs k n hk hk1 hn H0, _, _, ⟨0, by omega, by omega, rfl, rfl⟩, .p, hsh_rdr hH⟩
end Go.Proofs.YtbjjdjipdcdfhaaDoor.K
end
section
namespace Go.Proofs.YtbjjdjipdcdfhaaDoor.K
open Go Go.RowKit Go.Proofs.YtbjjdjipdcdfhaaDoor.En Go.Proofs.YtbjjdjipdcdfhaaDoor.Ty Go.Proofs.YtbjjdjipdcdfhaaDoor.B
set_option maxRecDepth 100000
set_option linter.unusedSimpArgs false
set_option linter.unusedVariables false
set_option pp.deepTerms false
set_option pp.deepTerms.threshold 8
set_option pp.maxSteps 1000
set_option maxHeartbeats 1000000
def tkH (nm : ByteArray → Bool) (t : Mn) : Bool :=
  if t.f0 = 1 then decide (0 ≤ t.f1 ∧ t.f1 ≤ 9999) && (t.f2 == ⟨#[]⟩) && decide (t.f3.length = 0) && decide (t.f4.length = 0)
  else if t.f0 = 2 then nm t.f2 && decide (t.f1 = 0) && decide (t.f3.length = 0) && decide (t.f4.length = 0)
  else if t.f0 = 3 ∨ t.f0 = 4 ∨ t.f0 = 5 ∨ t.f0 = 6 then decide (t.f1 = 0) && (t.f2 == ⟨#[]⟩) && decide (t.f3.length = 0) && decide (t.f4.length = 2)
  else if t.f0 = 7 then pathB t.f3 && decide (t.f1 = 0) && (t.f2 == ⟨#[]⟩) && decide (t.f4.length = 1)
  else if t.f0 = 8 then pathB t.f3 && decide (t.f1 = 0) && (t.f2 == ⟨#[]⟩) && decide (t.f4.length = 2)
  else false
def tk (nm : ByteArray → Bool) : Nat → Mn → Bool
  | 0, _ => false
  | n + 1, t => tkH nm t && t.f4.all (tk nm n)
theorem tk_eq (nm : ByteArray → Bool) (n : Nat) (k m : Int) (s : ByteArray) (p : List Int) (l : List Mn) : tk nm (n + 1) ⟨k, m, s, p, l⟩ = (tkH nm ⟨k, m, s, p, l⟩ && l.all (tk nm n)) := rfl
theorem tkH_1 (nm : ByteArray → Bool) (m : Int) (s : ByteArray) (p : List Int) (l : List Mn) : tkH nm ⟨1, m, s, p, l⟩ = (decide (0 ≤ m ∧ m ≤ 9999) && (s == ⟨#[]⟩) && decide (p.length = 0) && decide (l.length = 0)) := rfl
theorem tkH_2 (nm : ByteArray → Bool) (m : Int) (s : ByteArray) (p : List Int) (l : List Mn) : tkH nm ⟨2, m, s, p, l⟩ = (nm s && decide (m = 0) && decide (p.length = 0) && decide (l.length = 0)) := rfl
theorem tkH_3 (nm : ByteArray → Bool) (k m : Int) (s : ByteArray) (p : List Int) (l : List Mn) (h : k = 3 ∨ k = 4 ∨ k = 5 ∨ k = 6) : tkH nm ⟨k, m, s, p, l⟩ = (decide (m = 0) && (s == ⟨#[]⟩) && decide (p.length = 0) && decide (l.length = 2)) := by
  rcases h with rfl | rfl | rfl | rfl <;> rfl
theorem tkH_7 (nm : ByteArray → Bool) (m : Int) (s : ByteArray) (p : List Int) (l : List Mn) : tkH nm ⟨7, m, s, p, l⟩ = (pathB p && decide (m = 0) && (s == ⟨#[]⟩) && decide (l.length = 1)) := rfl
theorem tkH_8 (nm : ByteArray → Bool) (m : Int) (s : ByteArray) (p : List Int) (l : List Mn) : tkH nm ⟨8, m, s, p, l⟩ = (pathB p && decide (m = 0) && (s == ⟨#[]⟩) && decide (l.length = 2)) := rfl
theorem tkH_o (nm : ByteArray → Bool) (k m : Int) (s : ByteArray) (p : List Int) (l : List Mn) (h1 : k ≠ 1) (h2 : k ≠ 2) (h3 : ¬ (k = 3 ∨ k = 4 ∨ k = 5 ∨ k = 6)) (h7 : k ≠ 7) (h8 : k ≠ 8) : tkH nm ⟨k, m, s, p, l⟩ = false := by
  unfold tkH
  rw [if_neg (by exact h1), if_neg (by exact h2), if_neg (by exact h3), if_neg (by exact h7), if_neg (by exact h8)]
abbrev RB (b : Bool) (H : List AObj) : TV → List AObj → Prop := fun r H' => r = .p (pb b) ∧ H = H'
theorem RB_ne (b : Bool) {H : List AObj} (hH : HSh H) : ∃ r H', RB b H r H' ∧ r.All Nm.isS ∧ HSh H' := ⟨_, _, ⟨rfl, rfl⟩, .p, hH⟩
theorem RB_of {b c : Bool} {H : List AObj} {r : TV} {H' : List AObj} (h : b = c) (k : RB c H r H') : RB b H r H' := by rw [h]; exact k
theorem termOk2 (G : Nat → Option PV) {H : List AObj} (hH : HSh H) (fid : FuncId) (ci : Nat) (bd : ByteArray → Bool) (hb : ∀ s, FE Tryd.prog G fid (.p (ps s) :: [.ptr (.S ci) 0]) H (RB (bd s) H)) :
    ∀ (n : Nat), n ≤ 1000 → ∀ (t : Mn), FE Tryd.prog G 17 [.p (pm t), .p (pi n), .fn fid [.ptr (.S ci) 0]] H (RB (tk (fun s => pw s && bd s) n t) H) := by
  intro n
  induction n with
  | zero =>
    intro _ t
    refine ⟨?_, RB_ne _ hH⟩
    refine bdy Tryd.func17 (fun _ => 0) rfl ?_
    refine rn T 99 [] ?_
    refine rn T 99 [] ?_
    refine cts ?_
    refine rn T 99 [] ?_
    exact ⟨[_], ⟨_, _, rfl, .inl rfl, rfl⟩, .p, rfl, rfl⟩
  | succ n ih =>
    intro hn ⟨k, m, s, p, l⟩
    refine ⟨?_, RB_ne _ hH⟩
    let nmf : ByteArray → Bool := fun s => pw s && bd s
    show FC _ _ _ [.p (.ag [pi k, pi m, ps s, .row 1 (p.map pi), .row 5 (l.map eM)]), _, _] _ _
    refine bdy Tryd.func17 (fun _ => 0) rfl ?_
    refine rn T 99 [] ?_
    refine rn T 99 [] ?_
    refine cfq rfl (by simp; omega) ?_
    refine rn T 99 [] ?_
    refine rn T 99 [] ?_
    refine rn T 99 [] ?_
    by_cases k1 : k = 1
    · subst k1
      refine cts ?_
      repeat' (first | (with_reducible refine n16 ?_) | (with_reducible refine EOps.ci ?_; first | refine EOps.one T [] rfl (by first | exact True.intro | exact ⟨True.intro, True.intro⟩) ?_ | (refine EOps.sp rfl ?_ ?_ <;> intro hc_ <;> rw [hc_] <;> first | replace hc_ := of_decide_eq_true hc_ | replace hc_ := of_decide_eq_false hc_ | replace hc_ := of_decide_eq_false (Eq.mp (Bool.not_eq_true' _) hc_) | replace hc_ := of_decide_eq_true (Eq.mp (Bool.not_eq_false' _) hc_) | skip)))
      all_goals (refine op ?_)
      all_goals (try ((refine cts ?_); (refine rn T 99 [] ?_); (exact ⟨[_], ⟨_, _, rfl, .inl rfl, rfl⟩, .p, RB_of (c := false) (by rw [tk_eq, tkH_1]; refine Bool.eq_false_iff.2 (fun hq => ?_); simp only [Bool.and_eq_true, decide_eq_true_eq] at hq; first | omega | (simp at *; done) | (simp at *; omega) | simp_all | (simp_all; omega)) ⟨rfl, rfl⟩⟩); done))
      by_cases hm : m > 9999
      · refine ctq rfl (by simp [hm]) ?_
        refine rn T 99 [] ?_
        exact ⟨[_], ⟨_, _, rfl, .inl rfl, rfl⟩, .p, RB_of (c := false) (by rw [tk_eq, tkH_1]; refine Bool.eq_false_iff.2 (fun hq => ?_); simp only [Bool.and_eq_true, decide_eq_true_eq] at hq; first | omega | (simp at *; done) | (simp at *; omega) | simp_all | (simp_all; omega)) ⟨rfl, rfl⟩⟩
      · refine cfq rfl (by simp [hm]) ?_
        refine rn T 99 [] ?_
        repeat' (first | (with_reducible refine n16 ?_) | (with_reducible refine EOps.ci ?_; first | refine EOps.one T [] rfl (by first | exact True.intro | exact ⟨True.intro, True.intro⟩) ?_ | (refine EOps.sp rfl ?_ ?_ <;> intro hc_ <;> rw [hc_] <;> first | replace hc_ := of_decide_eq_true hc_ | replace hc_ := of_decide_eq_false hc_ | replace hc_ := of_decide_eq_false (Eq.mp (Bool.not_eq_true' _) hc_) | replace hc_ := of_decide_eq_true (Eq.mp (Bool.not_eq_false' _) hc_) | skip)))
        all_goals (refine op ?_)
        all_goals (try ((refine cts ?_); (refine rn T 99 [] ?_); (exact ⟨[_], ⟨_, _, rfl, .inl rfl, rfl⟩, .p, RB_of (c := false) (by rw [tk_eq, tkH_1]; refine Bool.eq_false_iff.2 (fun hq => ?_); simp only [Bool.and_eq_true, decide_eq_true_eq] at hq; first | omega | (simp at *; done) | (simp at *; omega) | simp_all | (simp_all; omega)) ⟨rfl, rfl⟩⟩); done))
        by_cases hk : l.length = 0
        · refine cfq rfl (by simp [hk]) ?_
          refine rn T 99 [] ?_
          refine lpw (fun i : Nat => MS.mk [(82, .p (pi i)), (81, .p (pi (l.map eM).length)), (80, .p (.row 5 (l.map eM))), (2, .fn fid [.ptr (.S ci) 0]), (1, .p (pi (n + 1 : Nat)))] 93 [] H) (fun m i => m + i = l.length ∧ (l.drop i).all (tk nmf n) = l.all (tk nmf n)) (l.length) (0) (by simp) ?_
          intro m2 i ⟨h1, h2⟩
          refine op ?_
          refine rn T 99 [] ?_
          by_cases hi : i < l.length
          · obtain ⟨x, hx, hd⟩ := drop_ix hi
            rw [hd, List.all_cons] at h2
            refine ctq rfl (by simp [hi]) ?_
            refine rn T 99 [pm x] ?_
            refine rn T 99 [] ?_
            rw [wkP (by omega)]
            refine hes (ih (by omega) x) ?_; rintro _ _ ⟨rfl, rfl⟩ _ _; refine op ?_
            refine rn T 99 [] ?_
            cases hx2 : tk nmf n x with
            | false =>
              refine ctq rfl (by simp [nmf] at hx2; simp [hx2]) ?_
              refine rn T 99 [] ?_
              exact ⟨[_], ⟨_, _, rfl, .inl rfl, rfl⟩, .p, RB_of (c := false) (by rw [tk_eq, ← h2, hx2]; simp) ⟨rfl, rfl⟩⟩
            | true =>
              rw [hx2, Bool.true_and] at h2
              refine cfq rfl (by simp [nmf] at hx2; simp [hx2]) ?_
              refine rn T 99 [] ?_
              rw [wkS (by omega)]
              refine nxt (m2 - 1) (i + 1) (⟨by omega, h2⟩)
          · refine cfq rfl (by simp [hi]) ?_
            refine rn T 99 [] ?_
            exact ⟨[_], ⟨_, _, rfl, .inl rfl, rfl⟩, .p, RB_of (c := true) (by rw [tk_eq, tkH_1, ← h2, List.drop_eq_nil_of_le (by omega)]; simp only [List.all_nil, Bool.and_true, Bool.and_eq_true, decide_eq_true_eq]; (repeat' apply And.intro) <;> first | omega | assumption | (simp at *; assumption) | (simp at *; omega) | (simp_all; done) | (simp_all; omega)) ⟨rfl, rfl⟩⟩
        · refine ctq rfl (by simp only [List.length_map, bne_iff_ne, ne_eq]; omega) ?_
          refine rn T 99 [] ?_
          exact ⟨[_], ⟨_, _, rfl, .inl rfl, rfl⟩, .p, RB_of (c := false) (by rw [tk_eq, tkH_1]; refine Bool.eq_false_iff.2 (fun hq => ?_); simp only [Bool.and_eq_true, decide_eq_true_eq] at hq; first | omega | (simp at *; done) | (simp at *; omega) | simp_all | (simp_all; omega)) ⟨rfl, rfl⟩⟩
    · refine cfq rfl (by simp [k1]) ?_
      refine rn T 99 [] ?_
      by_cases k2 : k = 2
      · subst k2
        refine cts ?_
        cases hw : pw s with
        | false =>
          have hc := word2 G s
          rw [hw] at hc
          refine rn T 99 [] ?_
          refine pcs (hc) ?_
          refine rn T 99 [] ?_
          refine cts ?_
          refine rn T 99 [] ?_
          exact ⟨[_], ⟨_, _, rfl, .inl rfl, rfl⟩, .p, RB_of (c := false) (by rw [tk_eq, tkH_2]; simp [hw]) ⟨rfl, rfl⟩⟩
        | true =>
          have hc := word2 G s
          rw [hw] at hc
          refine rn T 99 [] ?_
          refine pcs (hc) ?_
          refine rn T 99 [] ?_
          refine hes (hb s) ?_; rintro _ _ ⟨rfl, rfl⟩ _ _; refine op ?_
          refine rn T 99 [] ?_
          cases hbd : bd s with
          | false =>
            refine ctq rfl (by simp [hbd]) ?_
            refine rn T 99 [] ?_
            exact ⟨[_], ⟨_, _, rfl, .inl rfl, rfl⟩, .p, RB_of (c := false) (by rw [tk_eq, tkH_2]; simp [hbd]) ⟨rfl, rfl⟩⟩
          | true =>
            refine cfq rfl (by simp [hbd]) ?_
            refine rn T 99 [] ?_
            repeat' (first | (with_reducible refine n16 ?_) | (with_reducible refine EOps.ci ?_; first | refine EOps.one T [] rfl (by first | exact True.intro | exact ⟨True.intro, True.intro⟩) ?_ | (refine EOps.sp rfl ?_ ?_ <;> intro hc_ <;> rw [hc_] <;> first | replace hc_ := of_decide_eq_true hc_ | replace hc_ := of_decide_eq_false hc_ | replace hc_ := of_decide_eq_false (Eq.mp (Bool.not_eq_true' _) hc_) | replace hc_ := of_decide_eq_true (Eq.mp (Bool.not_eq_false' _) hc_) | skip)))
            all_goals (refine op ?_)
            all_goals (try ((refine cts ?_); (refine rn T 99 [] ?_); (exact ⟨[_], ⟨_, _, rfl, .inl rfl, rfl⟩, .p, RB_of (c := false) (by rw [tk_eq, tkH_2]; refine Bool.eq_false_iff.2 (fun hq => ?_); simp only [Bool.and_eq_true, decide_eq_true_eq] at hq; first | omega | (simp at *; done) | (simp at *; omega) | simp_all | (simp_all; omega)) ⟨rfl, rfl⟩⟩); done))
            by_cases hk : l.length = 0
            · refine cfq rfl (by simp [hk]) ?_
              refine rn T 99 [] ?_
              refine lpw (fun i : Nat => MS.mk [(82, .p (pi i)), (81, .p (pi (l.map eM).length)), (80, .p (.row 5 (l.map eM))), (2, .fn fid [.ptr (.S ci) 0]), (1, .p (pi (n + 1 : Nat)))] 93 [] H) (fun m i => m + i = l.length ∧ (l.drop i).all (tk nmf n) = l.all (tk nmf n)) (l.length) (0) (by simp) ?_
              intro m2 i ⟨h1, h2⟩
              refine op ?_
              refine rn T 99 [] ?_
              by_cases hi : i < l.length
              · obtain ⟨x, hx, hd⟩ := drop_ix hi
                rw [hd, List.all_cons] at h2
                refine ctq rfl (by simp [hi]) ?_
                refine rn T 99 [pm x] ?_
                refine rn T 99 [] ?_
                rw [wkP (by omega)]
                refine hes (ih (by omega) x) ?_; rintro _ _ ⟨rfl, rfl⟩ _ _; refine op ?_
                refine rn T 99 [] ?_
                cases hx2 : tk nmf n x with
                | false =>
                  refine ctq rfl (by simp [nmf] at hx2; simp [hx2]) ?_
                  refine rn T 99 [] ?_
                  exact ⟨[_], ⟨_, _, rfl, .inl rfl, rfl⟩, .p, RB_of (c := false) (by rw [tk_eq, ← h2, hx2]; simp) ⟨rfl, rfl⟩⟩
                | true =>
                  rw [hx2, Bool.true_and] at h2
                  refine cfq rfl (by simp [nmf] at hx2; simp [hx2]) ?_
                  refine rn T 99 [] ?_
                  rw [wkS (by omega)]
                  refine nxt (m2 - 1) (i + 1) (⟨by omega, h2⟩)
              · refine cfq rfl (by simp [hi]) ?_
                refine rn T 99 [] ?_
                exact ⟨[_], ⟨_, _, rfl, .inl rfl, rfl⟩, .p, RB_of (c := true) (by rw [tk_eq, tkH_2, ← h2, List.drop_eq_nil_of_le (by omega)]; simp only [List.all_nil, Bool.and_true, Bool.and_eq_true, decide_eq_true_eq]; (repeat' apply And.intro) <;> first | omega | assumption | (simp at *; assumption) | (simp at *; omega) | (simp_all; done) | (simp_all; omega)) ⟨rfl, rfl⟩⟩
            · refine ctq rfl (by simp only [List.length_map, bne_iff_ne, ne_eq]; omega) ?_
              refine rn T 99 [] ?_
              exact ⟨[_], ⟨_, _, rfl, .inl rfl, rfl⟩, .p, RB_of (c := false) (by rw [tk_eq, tkH_2]; refine Bool.eq_false_iff.2 (fun hq => ?_); simp only [Bool.and_eq_true, decide_eq_true_eq] at hq; first | omega | (simp at *; done) | (simp at *; omega) | simp_all | (simp_all; omega)) ⟨rfl, rfl⟩⟩
      · refine cfq rfl (by simp [k2]) ?_
        refine rn T 99 [] ?_
        by_cases k3 : k = 3 ∨ k = 4 ∨ k = 5 ∨ k = 6
        · rcases k3 with rfl | rfl | rfl | rfl
          · refine cts ?_
            refine cts ?_
            refine rn T 99 [] ?_
            repeat' (first | (with_reducible refine n16 ?_) | (with_reducible refine EOps.ci ?_; first | refine EOps.one T [] rfl (by first | exact True.intro | exact ⟨True.intro, True.intro⟩) ?_ | (refine EOps.sp rfl ?_ ?_ <;> intro hc_ <;> rw [hc_] <;> first | replace hc_ := of_decide_eq_true hc_ | replace hc_ := of_decide_eq_false hc_ | replace hc_ := of_decide_eq_false (Eq.mp (Bool.not_eq_true' _) hc_) | replace hc_ := of_decide_eq_true (Eq.mp (Bool.not_eq_false' _) hc_) | skip)))
            all_goals (refine op ?_)
            all_goals (try ((refine cts ?_); (refine rn T 99 [] ?_); (exact ⟨[_], ⟨_, _, rfl, .inl rfl, rfl⟩, .p, RB_of (c := false) (by rw [tk_eq, tkH_3 _ 3 m s p l (by decide)]; refine Bool.eq_false_iff.2 (fun hq => ?_); simp only [Bool.and_eq_true, decide_eq_true_eq] at hq; first | omega | (simp at *; done) | (simp at *; omega) | simp_all | (simp_all; omega)) ⟨rfl, rfl⟩⟩); done))
            by_cases hk : l.length = 2
            · refine cfq rfl (by simp [hk]) ?_
              refine rn T 99 [] ?_
              refine lpw (fun i : Nat => MS.mk [(82, .p (pi i)), (81, .p (pi (l.map eM).length)), (80, .p (.row 5 (l.map eM))), (2, .fn fid [.ptr (.S ci) 0]), (1, .p (pi (n + 1 : Nat)))] 93 [] H) (fun m i => m + i = l.length ∧ (l.drop i).all (tk nmf n) = l.all (tk nmf n)) (l.length) (0) (by simp) ?_
              intro m2 i ⟨h1, h2⟩
              refine op ?_
              refine rn T 99 [] ?_
              by_cases hi : i < l.length
              · obtain ⟨x, hx, hd⟩ := drop_ix hi
                rw [hd, List.all_cons] at h2
                refine ctq rfl (by simp [hi]) ?_
                refine rn T 99 [pm x] ?_
                refine rn T 99 [] ?_
                rw [wkP (by omega)]
                refine hes (ih (by omega) x) ?_; rintro _ _ ⟨rfl, rfl⟩ _ _; refine op ?_
                refine rn T 99 [] ?_
                cases hx2 : tk nmf n x with
                | false =>
                  refine ctq rfl (by simp [nmf] at hx2; simp [hx2]) ?_
                  refine rn T 99 [] ?_
                  exact ⟨[_], ⟨_, _, rfl, .inl rfl, rfl⟩, .p, RB_of (c := false) (by rw [tk_eq, ← h2, hx2]; simp) ⟨rfl, rfl⟩⟩
                | true =>
                  rw [hx2, Bool.true_and] at h2
                  refine cfq rfl (by simp [nmf] at hx2; simp [hx2]) ?_
                  refine rn T 99 [] ?_
                  rw [wkS (by omega)]
                  refine nxt (m2 - 1) (i + 1) (⟨by omega, h2⟩)
              · refine cfq rfl (by simp [hi]) ?_
                refine rn T 99 [] ?_
                exact ⟨[_], ⟨_, _, rfl, .inl rfl, rfl⟩, .p, RB_of (c := true) (by rw [tk_eq, tkH_3 _ 3 m s p l (by decide), ← h2, List.drop_eq_nil_of_le (by omega)]; simp only [List.all_nil, Bool.and_true, Bool.and_eq_true, decide_eq_true_eq]; (repeat' apply And.intro) <;> first | omega | assumption | (simp at *; assumption) | (simp at *; omega) | (simp_all; done) | (simp_all; omega)) ⟨rfl, rfl⟩⟩
            · refine ctq rfl (by simp only [List.length_map, bne_iff_ne, ne_eq]; omega) ?_
              refine rn T 99 [] ?_
              exact ⟨[_], ⟨_, _, rfl, .inl rfl, rfl⟩, .p, RB_of (c := false) (by rw [tk_eq, tkH_3 _ 3 m s p l (by decide)]; refine Bool.eq_false_iff.2 (fun hq => ?_); simp only [Bool.and_eq_true, decide_eq_true_eq] at hq; first | omega | (simp at *; done) | (simp at *; omega) | simp_all | (simp_all; omega)) ⟨rfl, rfl⟩⟩
          · refine cfs ?_
            refine rn T 99 [] ?_
            refine cts ?_
            refine cts ?_
            refine rn T 99 [] ?_
            repeat' (first | (with_reducible refine n16 ?_) | (with_reducible refine EOps.ci ?_; first | refine EOps.one T [] rfl (by first | exact True.intro | exact ⟨True.intro, True.intro⟩) ?_ | (refine EOps.sp rfl ?_ ?_ <;> intro hc_ <;> rw [hc_] <;> first | replace hc_ := of_decide_eq_true hc_ | replace hc_ := of_decide_eq_false hc_ | replace hc_ := of_decide_eq_false (Eq.mp (Bool.not_eq_true' _) hc_) | replace hc_ := of_decide_eq_true (Eq.mp (Bool.not_eq_false' _) hc_) | skip)))
            all_goals (refine op ?_)
            all_goals (try ((refine cts ?_); (refine rn T 99 [] ?_); (exact ⟨[_], ⟨_, _, rfl, .inl rfl, rfl⟩, .p, RB_of (c := false) (by rw [tk_eq, tkH_3 _ 4 m s p l (by decide)]; refine Bool.eq_false_iff.2 (fun hq => ?_); simp only [Bool.and_eq_true, decide_eq_true_eq] at hq; first | omega | (simp at *; done) | (simp at *; omega) | simp_all | (simp_all; omega)) ⟨rfl, rfl⟩⟩); done))
            by_cases hk : l.length = 2
            · refine cfq rfl (by simp [hk]) ?_
              refine rn T 99 [] ?_
              refine lpw (fun i : Nat => MS.mk [(82, .p (pi i)), (81, .p (pi (l.map eM).length)), (80, .p (.row 5 (l.map eM))), (2, .fn fid [.ptr (.S ci) 0]), (1, .p (pi (n + 1 : Nat)))] 93 [] H) (fun m i => m + i = l.length ∧ (l.drop i).all (tk nmf n) = l.all (tk nmf n)) (l.length) (0) (by simp) ?_
              intro m2 i ⟨h1, h2⟩
              refine op ?_
              refine rn T 99 [] ?_
              by_cases hi : i < l.length
              · obtain ⟨x, hx, hd⟩ := drop_ix hi
                rw [hd, List.all_cons] at h2
                refine ctq rfl (by simp [hi]) ?_
                refine rn T 99 [pm x] ?_
                refine rn T 99 [] ?_
                rw [wkP (by omega)]
                refine hes (ih (by omega) x) ?_; rintro _ _ ⟨rfl, rfl⟩ _ _; refine op ?_
                refine rn T 99 [] ?_
                cases hx2 : tk nmf n x with
                | false =>
                  refine ctq rfl (by simp [nmf] at hx2; simp [hx2]) ?_
                  refine rn T 99 [] ?_
                  exact ⟨[_], ⟨_, _, rfl, .inl rfl, rfl⟩, .p, RB_of (c := false) (by rw [tk_eq, ← h2, hx2]; simp) ⟨rfl, rfl⟩⟩
                | true =>
                  rw [hx2, Bool.true_and] at h2
                  refine cfq rfl (by simp [nmf] at hx2; simp [hx2]) ?_
                  refine rn T 99 [] ?_
                  rw [wkS (by omega)]
                  refine nxt (m2 - 1) (i + 1) (⟨by omega, h2⟩)
              · refine cfq rfl (by simp [hi]) ?_
                refine rn T 99 [] ?_
                exact ⟨[_], ⟨_, _, rfl, .inl rfl, rfl⟩, .p, RB_of (c := true) (by rw [tk_eq, tkH_3 _ 4 m s p l (by decide), ← h2, List.drop_eq_nil_of_le (by omega)]; simp only [List.all_nil, Bool.and_true, Bool.and_eq_true, decide_eq_true_eq]; (repeat' apply And.intro) <;> first | omega | assumption | (simp at *; assumption) | (simp at *; omega) | (simp_all; done) | (simp_all; omega)) ⟨rfl, rfl⟩⟩
            · refine ctq rfl (by simp only [List.length_map, bne_iff_ne, ne_eq]; omega) ?_
              refine rn T 99 [] ?_
              exact ⟨[_], ⟨_, _, rfl, .inl rfl, rfl⟩, .p, RB_of (c := false) (by rw [tk_eq, tkH_3 _ 4 m s p l (by decide)]; refine Bool.eq_false_iff.2 (fun hq => ?_); simp only [Bool.and_eq_true, decide_eq_true_eq] at hq; first | omega | (simp at *; done) | (simp at *; omega) | simp_all | (simp_all; omega)) ⟨rfl, rfl⟩⟩
          · refine cfs ?_
            refine rn T 99 [] ?_
            refine cfs ?_
            refine rn T 99 [] ?_
            refine cts ?_
            refine cts ?_
            refine rn T 99 [] ?_
            repeat' (first | (with_reducible refine n16 ?_) | (with_reducible refine EOps.ci ?_; first | refine EOps.one T [] rfl (by first | exact True.intro | exact ⟨True.intro, True.intro⟩) ?_ | (refine EOps.sp rfl ?_ ?_ <;> intro hc_ <;> rw [hc_] <;> first | replace hc_ := of_decide_eq_true hc_ | replace hc_ := of_decide_eq_false hc_ | replace hc_ := of_decide_eq_false (Eq.mp (Bool.not_eq_true' _) hc_) | replace hc_ := of_decide_eq_true (Eq.mp (Bool.not_eq_false' _) hc_) | skip)))
            all_goals (refine op ?_)
            all_goals (try ((refine cts ?_); (refine rn T 99 [] ?_); (exact ⟨[_], ⟨_, _, rfl, .inl rfl, rfl⟩, .p, RB_of (c := false) (by rw [tk_eq, tkH_3 _ 5 m s p l (by decide)]; refine Bool.eq_false_iff.2 (fun hq => ?_); simp only [Bool.and_eq_true, decide_eq_true_eq] at hq; first | omega | (simp at *; done) | (simp at *; omega) | simp_all | (simp_all; omega)) ⟨rfl, rfl⟩⟩); done))
            by_cases hk : l.length = 2
            · refine cfq rfl (by simp [hk]) ?_
              refine rn T 99 [] ?_
              refine lpw (fun i : Nat => MS.mk [(82, .p (pi i)), (81, .p (pi (l.map eM).length)), (80, .p (.row 5 (l.map eM))), (2, .fn fid [.ptr (.S ci) 0]), (1, .p (pi (n + 1 : Nat)))] 93 [] H) (fun m i => m + i = l.length ∧ (l.drop i).all (tk nmf n) = l.all (tk nmf n)) (l.length) (0) (by simp) ?_
              intro m2 i ⟨h1, h2⟩
              refine op ?_
              refine rn T 99 [] ?_
              by_cases hi : i < l.length
              · obtain ⟨x, hx, hd⟩ := drop_ix hi
                rw [hd, List.all_cons] at h2
                refine ctq rfl (by simp [hi]) ?_
                refine rn T 99 [pm x] ?_
                refine rn T 99 [] ?_
                rw [wkP (by omega)]
                refine hes (ih (by omega) x) ?_; rintro _ _ ⟨rfl, rfl⟩ _ _; refine op ?_
                refine rn T 99 [] ?_
                cases hx2 : tk nmf n x with
                | false =>
                  refine ctq rfl (by simp [nmf] at hx2; simp [hx2]) ?_
                  refine rn T 99 [] ?_
                  exact ⟨[_], ⟨_, _, rfl, .inl rfl, rfl⟩, .p, RB_of (c := false) (by rw [tk_eq, ← h2, hx2]; simp) ⟨rfl, rfl⟩⟩
                | true =>
                  rw [hx2, Bool.true_and] at h2
                  refine cfq rfl (by simp [nmf] at hx2; simp [hx2]) ?_
                  refine rn T 99 [] ?_
                  rw [wkS (by omega)]
                  refine nxt (m2 - 1) (i + 1) (⟨by omega, h2⟩)
              · refine cfq rfl (by simp [hi]) ?_
                refine rn T 99 [] ?_
                exact ⟨[_], ⟨_, _, rfl, .inl rfl, rfl⟩, .p, RB_of (c := true) (by rw [tk_eq, tkH_3 _ 5 m s p l (by decide), ← h2, List.drop_eq_nil_of_le (by omega)]; simp only [List.all_nil, Bool.and_true, Bool.and_eq_true, decide_eq_true_eq]; (repeat' apply And.intro) <;> first | omega | assumption | (simp at *; assumption) | (simp at *; omega) | (simp_all; done) | (simp_all; omega)) ⟨rfl, rfl⟩⟩
            · refine ctq rfl (by simp only [List.length_map, bne_iff_ne, ne_eq]; omega) ?_
              refine rn T 99 [] ?_
              exact ⟨[_], ⟨_, _, rfl, .inl rfl, rfl⟩, .p, RB_of (c := false) (by rw [tk_eq, tkH_3 _ 5 m s p l (by decide)]; refine Bool.eq_false_iff.2 (fun hq => ?_); simp only [Bool.and_eq_true, decide_eq_true_eq] at hq; first | omega | (simp at *; done) | (simp at *; omega) | simp_all | (simp_all; omega)) ⟨rfl, rfl⟩⟩
          · refine cfs ?_
            refine rn T 99 [] ?_
            refine cfs ?_
            refine rn T 99 [] ?_
            refine cfs ?_
            refine rn T 99 [] ?_
            refine cts ?_
            refine rn T 99 [] ?_
            repeat' (first | (with_reducible refine n16 ?_) | (with_reducible refine EOps.ci ?_; first | refine EOps.one T [] rfl (by first | exact True.intro | exact ⟨True.intro, True.intro⟩) ?_ | (refine EOps.sp rfl ?_ ?_ <;> intro hc_ <;> rw [hc_] <;> first | replace hc_ := of_decide_eq_true hc_ | replace hc_ := of_decide_eq_false hc_ | replace hc_ := of_decide_eq_false (Eq.mp (Bool.not_eq_true' _) hc_) | replace hc_ := of_decide_eq_true (Eq.mp (Bool.not_eq_false' _) hc_) | skip)))
            all_goals (refine op ?_)
            all_goals (try ((refine cts ?_); (refine rn T 99 [] ?_); (exact ⟨[_], ⟨_, _, rfl, .inl rfl, rfl⟩, .p, RB_of (c := false) (by rw [tk_eq, tkH_3 _ 6 m s p l (by decide)]; refine Bool.eq_false_iff.2 (fun hq => ?_); simp only [Bool.and_eq_true, decide_eq_true_eq] at hq; first | omega | (simp at *; done) | (simp at *; omega) | simp_all | (simp_all; omega)) ⟨rfl, rfl⟩⟩); done))
            by_cases hk : l.length = 2
            · refine cfq rfl (by simp [hk]) ?_
              refine rn T 99 [] ?_
              refine lpw (fun i : Nat => MS.mk [(82, .p (pi i)), (81, .p (pi (l.map eM).length)), (80, .p (.row 5 (l.map eM))), (2, .fn fid [.ptr (.S ci) 0]), (1, .p (pi (n + 1 : Nat)))] 93 [] H) (fun m i => m + i = l.length ∧ (l.drop i).all (tk nmf n) = l.all (tk nmf n)) (l.length) (0) (by simp) ?_
              intro m2 i ⟨h1, h2⟩
              refine op ?_
              refine rn T 99 [] ?_
              by_cases hi : i < l.length
              · obtain ⟨x, hx, hd⟩ := drop_ix hi
                rw [hd, List.all_cons] at h2
                refine ctq rfl (by simp [hi]) ?_
                refine rn T 99 [pm x] ?_
                refine rn T 99 [] ?_
                rw [wkP (by omega)]
                refine hes (ih (by omega) x) ?_; rintro _ _ ⟨rfl, rfl⟩ _ _; refine op ?_
                refine rn T 99 [] ?_
                cases hx2 : tk nmf n x with
                | false =>
                  refine ctq rfl (by simp [nmf] at hx2; simp [hx2]) ?_
                  refine rn T 99 [] ?_
                  exact ⟨[_], ⟨_, _, rfl, .inl rfl, rfl⟩, .p, RB_of (c := false) (by rw [tk_eq, ← h2, hx2]; simp) ⟨rfl, rfl⟩⟩
                | true =>
                  rw [hx2, Bool.true_and] at h2
                  refine cfq rfl (by simp [nmf] at hx2; simp [hx2]) ?_
                  refine rn T 99 [] ?_
                  rw [wkS (by omega)]
                  refine nxt (m2 - 1) (i + 1) (⟨by omega, h2⟩)
              · refine cfq rfl (by simp [hi]) ?_
                refine rn T 99 [] ?_
                exact ⟨[_], ⟨_, _, rfl, .inl rfl, rfl⟩, .p, RB_of (c := true) (by rw [tk_eq, tkH_3 _ 6 m s p l (by decide), ← h2, List.drop_eq_nil_of_le (by omega)]; simp only [List.all_nil, Bool.and_true, Bool.and_eq_true, decide_eq_true_eq]; (repeat' apply And.intro) <;> first | omega | assumption | (simp at *; assumption) | (simp at *; omega) | (simp_all; done) | (simp_all; omega)) ⟨rfl, rfl⟩⟩
            · refine ctq rfl (by simp only [List.length_map, bne_iff_ne, ne_eq]; omega) ?_
              refine rn T 99 [] ?_
              exact ⟨[_], ⟨_, _, rfl, .inl rfl, rfl⟩, .p, RB_of (c := false) (by rw [tk_eq, tkH_3 _ 6 m s p l (by decide)]; refine Bool.eq_false_iff.2 (fun hq => ?_); simp only [Bool.and_eq_true, decide_eq_true_eq] at hq; first | omega | (simp at *; done) | (simp at *; omega) | simp_all | (simp_all; omega)) ⟨rfl, rfl⟩⟩
        · refine cfq rfl (by simp; omega) ?_
          refine rn T 99 [] ?_
          refine cfq rfl (by simp; omega) ?_
          refine rn T 99 [] ?_
          refine cfq rfl (by simp; omega) ?_
          refine rn T 99 [] ?_
          refine cfq rfl (by simp; omega) ?_
          refine rn T 99 [] ?_
          by_cases k7 : k = 7
          · subst k7
            refine cts ?_
            refine cts ?_
            have hc := path2 G p
            cases hp : pathB p with
            | false =>
              rw [hp] at hc
              refine rn T 99 [] ?_
              refine pcs (hc) ?_
              refine rn T 99 [] ?_
              refine cts ?_
              refine rn T 99 [] ?_
              exact ⟨[_], ⟨_, _, rfl, .inl rfl, rfl⟩, .p, RB_of (c := false) (by rw [tk_eq, tkH_7]; simp [hp]) ⟨rfl, rfl⟩⟩
            | true =>
              rw [hp] at hc
              refine rn T 99 [] ?_
              refine pcs (hc) ?_
              refine rn T 99 [] ?_
              refine cfs ?_
              refine rn T 99 [] ?_
              refine rn T 99 [] ?_
              rw [show IntKind.i64.wrap (IntKind.i64.wrap (1 + 7) - 7) = 1 from rfl]
              repeat' (first | (with_reducible refine n16 ?_) | (with_reducible refine EOps.ci ?_; first | refine EOps.one T [] rfl (by first | exact True.intro | exact ⟨True.intro, True.intro⟩) ?_ | (refine EOps.sp rfl ?_ ?_ <;> intro hc_ <;> rw [hc_] <;> first | replace hc_ := of_decide_eq_true hc_ | replace hc_ := of_decide_eq_false hc_ | replace hc_ := of_decide_eq_false (Eq.mp (Bool.not_eq_true' _) hc_) | replace hc_ := of_decide_eq_true (Eq.mp (Bool.not_eq_false' _) hc_) | skip)))
              all_goals (refine op ?_)
              all_goals (try ((refine cts ?_); (refine rn T 99 [] ?_); (exact ⟨[_], ⟨_, _, rfl, .inl rfl, rfl⟩, .p, RB_of (c := false) (by rw [tk_eq, tkH_7]; refine Bool.eq_false_iff.2 (fun hq => ?_); simp only [Bool.and_eq_true, decide_eq_true_eq] at hq; first | omega | (simp at *; done) | (simp at *; omega) | simp_all | (simp_all; omega)) ⟨rfl, rfl⟩⟩); done))
              by_cases hk : l.length = 1
              · refine cfq rfl (by simp [hk]) ?_
                refine rn T 99 [] ?_
                refine lpw (fun i : Nat => MS.mk [(82, .p (pi i)), (81, .p (pi (l.map eM).length)), (80, .p (.row 5 (l.map eM))), (2, .fn fid [.ptr (.S ci) 0]), (1, .p (pi (n + 1 : Nat)))] 93 [] H) (fun m i => m + i = l.length ∧ (l.drop i).all (tk nmf n) = l.all (tk nmf n)) (l.length) (0) (by simp) ?_
                intro m2 i ⟨h1, h2⟩
                refine op ?_
                refine rn T 99 [] ?_
                by_cases hi : i < l.length
                · obtain ⟨x, hx, hd⟩ := drop_ix hi
                  rw [hd, List.all_cons] at h2
                  refine ctq rfl (by simp [hi]) ?_
                  refine rn T 99 [pm x] ?_
                  refine rn T 99 [] ?_
                  rw [wkP (by omega)]
                  refine hes (ih (by omega) x) ?_; rintro _ _ ⟨rfl, rfl⟩ _ _; refine op ?_
                  refine rn T 99 [] ?_
                  cases hx2 : tk nmf n x with
                  | false =>
                    refine ctq rfl (by simp [nmf] at hx2; simp [hx2]) ?_
                    refine rn T 99 [] ?_
                    exact ⟨[_], ⟨_, _, rfl, .inl rfl, rfl⟩, .p, RB_of (c := false) (by rw [tk_eq, ← h2, hx2]; simp) ⟨rfl, rfl⟩⟩
                  | true =>
                    rw [hx2, Bool.true_and] at h2
                    refine cfq rfl (by simp [nmf] at hx2; simp [hx2]) ?_
                    refine rn T 99 [] ?_
                    rw [wkS (by omega)]
                    refine nxt (m2 - 1) (i + 1) (⟨by omega, h2⟩)
                · refine cfq rfl (by simp [hi]) ?_
                  refine rn T 99 [] ?_
                  exact ⟨[_], ⟨_, _, rfl, .inl rfl, rfl⟩, .p, RB_of (c := true) (by rw [tk_eq, tkH_7, ← h2, List.drop_eq_nil_of_le (by omega)]; simp only [List.all_nil, Bool.and_true, Bool.and_eq_true, decide_eq_true_eq]; (repeat' apply And.intro) <;> first | omega | assumption | (simp at *; assumption) | (simp at *; omega) | (simp_all; done) | (simp_all; omega)) ⟨rfl, rfl⟩⟩
              · refine ctq rfl (by simp only [List.length_map, bne_iff_ne, ne_eq]; omega) ?_
                refine rn T 99 [] ?_
                exact ⟨[_], ⟨_, _, rfl, .inl rfl, rfl⟩, .p, RB_of (c := false) (by rw [tk_eq, tkH_7]; refine Bool.eq_false_iff.2 (fun hq => ?_); simp only [Bool.and_eq_true, decide_eq_true_eq] at hq; first | omega | (simp at *; done) | (simp at *; omega) | simp_all | (simp_all; omega)) ⟨rfl, rfl⟩⟩
          · refine cfq rfl (by simp [k7]) ?_
            refine rn T 99 [] ?_
            by_cases k8 : k = 8
            · subst k8
              refine cts ?_
              have hc := path2 G p
              cases hp : pathB p with
              | false =>
                rw [hp] at hc
                refine rn T 99 [] ?_
                refine pcs (hc) ?_
                refine rn T 99 [] ?_
                refine cts ?_
                refine rn T 99 [] ?_
                exact ⟨[_], ⟨_, _, rfl, .inl rfl, rfl⟩, .p, RB_of (c := false) (by rw [tk_eq, tkH_8]; simp [hp]) ⟨rfl, rfl⟩⟩
              | true =>
                rw [hp] at hc
                refine rn T 99 [] ?_
                refine pcs (hc) ?_
                refine rn T 99 [] ?_
                refine cfs ?_
                refine rn T 99 [] ?_
                refine rn T 99 [] ?_
                rw [show IntKind.i64.wrap (IntKind.i64.wrap (1 + 8) - 7) = 2 from rfl]
                repeat' (first | (with_reducible refine n16 ?_) | (with_reducible refine EOps.ci ?_; first | refine EOps.one T [] rfl (by first | exact True.intro | exact ⟨True.intro, True.intro⟩) ?_ | (refine EOps.sp rfl ?_ ?_ <;> intro hc_ <;> rw [hc_] <;> first | replace hc_ := of_decide_eq_true hc_ | replace hc_ := of_decide_eq_false hc_ | replace hc_ := of_decide_eq_false (Eq.mp (Bool.not_eq_true' _) hc_) | replace hc_ := of_decide_eq_true (Eq.mp (Bool.not_eq_false' _) hc_) | skip)))
                all_goals (refine op ?_)
                all_goals (try ((refine cts ?_); (refine rn T 99 [] ?_); (exact ⟨[_], ⟨_, _, rfl, .inl rfl, rfl⟩, .p, RB_of (c := false) (by rw [tk_eq, tkH_8]; refine Bool.eq_false_iff.2 (fun hq => ?_); simp only [Bool.and_eq_true, decide_eq_true_eq] at hq; first | omega | (simp at *; done) | (simp at *; omega) | simp_all | (simp_all; omega)) ⟨rfl, rfl⟩⟩); done))
                by_cases hk : l.length = 2
                · refine cfq rfl (by simp [hk]) ?_
                  refine rn T 99 [] ?_
                  refine lpw (fun i : Nat => MS.mk [(82, .p (pi i)), (81, .p (pi (l.map eM).length)), (80, .p (.row 5 (l.map eM))), (2, .fn fid [.ptr (.S ci) 0]), (1, .p (pi (n + 1 : Nat)))] 93 [] H) (fun m i => m + i = l.length ∧ (l.drop i).all (tk nmf n) = l.all (tk nmf n)) (l.length) (0) (by simp) ?_
                  intro m2 i ⟨h1, h2⟩
                  refine op ?_
                  refine rn T 99 [] ?_
                  by_cases hi : i < l.length
                  · obtain ⟨x, hx, hd⟩ := drop_ix hi
                    rw [hd, List.all_cons] at h2
                    refine ctq rfl (by simp [hi]) ?_
                    refine rn T 99 [pm x] ?_
                    refine rn T 99 [] ?_
                    rw [wkP (by omega)]
                    refine hes (ih (by omega) x) ?_; rintro _ _ ⟨rfl, rfl⟩ _ _; refine op ?_
                    refine rn T 99 [] ?_
                    cases hx2 : tk nmf n x with
                    | false =>
                      refine ctq rfl (by simp [nmf] at hx2; simp [hx2]) ?_
                      refine rn T 99 [] ?_
                      exact ⟨[_], ⟨_, _, rfl, .inl rfl, rfl⟩, .p, RB_of (c := false) (by rw [tk_eq, ← h2, hx2]; simp) ⟨rfl, rfl⟩⟩
                    | true =>
                      rw [hx2, Bool.true_and] at h2
                      refine cfq rfl (by simp [nmf] at hx2; simp [hx2]) ?_
                      refine rn T 99 [] ?_
                      rw [wkS (by omega)]
                      refine nxt (m2 - 1) (i + 1) (⟨by omega, h2⟩)
                  · refine cfq rfl (by simp [hi]) ?_
                    refine rn T 99 [] ?_
                    exact ⟨[_], ⟨_, _, rfl, .inl rfl, rfl⟩, .p, RB_of (c := true) (by rw [tk_eq, tkH_8, ← h2, List.drop_eq_nil_of_le (by omega)]; simp only [List.all_nil, Bool.and_true, Bool.and_eq_true, decide_eq_true_eq]; (repeat' apply And.intro) <;> first | omega | assumption | (simp at *; assumption) | (simp at *; omega) | (simp_all; done) | (simp_all; omega)) ⟨rfl, rfl⟩⟩
                · refine ctq rfl (by simp only [List.length_map, bne_iff_ne, ne_eq]; omega) ?_
                  refine rn T 99 [] ?_
                  exact ⟨[_], ⟨_, _, rfl, .inl rfl, rfl⟩, .p, RB_of (c := false) (by rw [tk_eq, tkH_8]; refine Bool.eq_false_iff.2 (fun hq => ?_); simp only [Bool.and_eq_true, decide_eq_true_eq] at hq; first | omega | (simp at *; done) | (simp at *; omega) | simp_all | (simp_all; omega)) ⟨rfl, rfl⟩⟩
            · refine cfq rfl (by simp [k8]) ?_
              refine rn T 99 [] ?_
              exact ⟨[_], ⟨_, _, rfl, .inl rfl, rfl⟩, .p, RB_of (c := false) (by rw [tk_eq, tkH_o _ k m s p l k1 k2 k3 k7 k8]; rfl) ⟨rfl, rfl⟩⟩
end Go.Proofs.YtbjjdjipdcdfhaaDoor.K
end
section
namespace Go.Proofs.YtbjjdjipdcdfhaaDoor.K
open Go Go.RowKit Go.Proofs.YtbjjdjipdcdfhaaDoor.En Go.Proofs.YtbjjdjipdcdfhaaDoor.Ty Go.Proofs.YtbjjdjipdcdfhaaDoor.B
set_option maxRecDepth 100000
set_option linter.unusedSimpArgs false
set_option linter.unusedVariables false
set_option pp.deepTerms false
set_option pp.deepTerms.threshold 8
set_option pp.maxSteps 1000
theorem openC (G : Nat → Option PV) (l : List Int) (hl : ∀ x ∈ l, 0 ≤ x ∧ x ≤ 255) (hl2 : l.length ≤ 9223372036854775807) : FE Tryd.prog G 16 [.p (.row 1 (l.map pu))] [] (fun r H' => ∃ s, Bytes s ∧ r = .ptr (.S 0) 0 ∧ H' = [rdr s 0]) := by
  refine ⟨?_, _, _, ⟨[], ⟨by simp, by simp⟩, rfl, rfl⟩, .ptr trivial, hsh_rdr hsh_nil⟩
  refine bdy Tryd.func16 (fun d => if d = 10 then 1 else 0) rfl ?_
  refine rn T 99 [] ?_
  refine rn T 99 [] ?_
  by_cases h : l.length > 2000
  · refine ctq rfl (by simp; omega) ?_
    refine rn T 99 [] ?_
    refine rn T 99 [] ?_
    exact ⟨[_], ⟨_, _, rfl, .inl rfl, rfl⟩, .ptr trivial, l.take 2000, ⟨by simp; omega, fun x hx => hl x (List.mem_of_mem_take hx)⟩, rfl, by
      show _ = [AObj.box _ [.p (.row 1 ((l.take 2000).map pu)), .p (pi 0)]]
      rw [List.map_take]
      rfl⟩
  · refine cfq rfl (by simp; omega) ?_
    refine rn T 99 [] ?_
    exact ⟨[_], ⟨_, _, rfl, .inl rfl, rfl⟩, .ptr trivial, l, ⟨by omega, hl⟩, rfl, rfl⟩
end Go.Proofs.YtbjjdjipdcdfhaaDoor.K
end
section
namespace Go.Proofs.YtbjjdjipdcdfhaaDoor.K
open Go Go.RowKit Go.Proofs.YtbjjdjipdcdfhaaDoor.En Go.Proofs.YtbjjdjipdcdfhaaDoor.Ty Go.Proofs.YtbjjdjipdcdfhaaDoor.B
set_option maxRecDepth 100000
set_option linter.unusedSimpArgs false
set_option linter.unusedVariables false
set_option pp.deepTerms false
set_option pp.deepTerms.threshold 8
set_option pp.maxSteps 1000
def dM : Nat → Mn → Bool
  | 0, _ => false
  | n + 1, t => decide (t.f4.length ≤ 2) && t.f4.all (dM n)
theorem dM_len {n : Nat} {t : Mn} (h : dM n t = true) : t.f4.length ≤ 2 := by
  cases n with
  | zero => cases h
  | succ n => unfold dM at h; simp only [Bool.and_eq_true, decide_eq_true_eq] at h; exact h.1
theorem dM_mono : ∀ {n m : Nat} {t : Mn}, dM n t = true → n ≤ m → dM m t = true
  | 0, _, _, h, _ => by cases h
  | n + 1, 0, _, _, hm => absurd hm (by omega)
  | n + 1, m + 1, t, h, hm => by
    unfold dM at h ⊢
    simp only [Bool.and_eq_true, List.all_eq_true] at h ⊢
    exact ⟨h.1, fun x hx => dM_mono (h.2 x hx) (by omega)⟩
theorem dM0 {n : Nat} {k m : Int} {s : ByteArray} {p : List Int} : dM (n + 1) ⟨k, m, s, p, []⟩ = true := rfl
theorem dM1 {n : Nat} {k m : Int} {s : ByteArray} {p : List Int} {x : Mn} (h : dM n x = true) : dM (n + 1) ⟨k, m, s, p, [x]⟩ = true := by
  show (decide (1 ≤ 2) && (dM n x && true)) = true
  rw [h]; rfl
theorem dM2 {n : Nat} {k m : Int} {s : ByteArray} {p : List Int} {x y : Mn} (h : dM n x = true) (h2 : dM n y = true) : dM (n + 1) ⟨k, m, s, p, [x, y]⟩ = true := by
  show (decide (2 ≤ 2) && (dM n x && (dM n y && true))) = true
  rw [h, h2]; rfl
theorem dMl {n : Nat} {k m : Int} {s : ByteArray} {p : List Int} {l : List Mn} (h : l.length ≤ 2 ∧ l.all (dM n) = true) : dM (n + 1) ⟨k, m, s, p, l⟩ = true := by
  show (decide (l.length ≤ 2) && l.all (dM n)) = true
  rw [h.2, decide_eq_true h.1]; rfl
def TermR (d : Nat) (s : List Int) (k c : Int) (H0 : List AObj) (r : TV) (H' : List AObj) : Prop := ∃ (t : Mn) (k' : Int), dM (d + 1) t = true ∧ k ≤ k' ∧ k' ≤ k + c ∧ r = .p (pm t) ∧ H' = rdr s k' :: H0
theorem TermR.ne {d : Nat} {s : List Int} {k c : Int} {H0 : List AObj} (hc : 0 ≤ c) (hH : HSh H0) : ∃ r H', TermR d s k c H0 r H' ∧ r.All Nm.isS ∧ HSh H' := ⟨_, _, ⟨⟨0, 0, ⟨#[]⟩, [], []⟩, k, dM0, by omega, by omega, rfl, rfl⟩, .p, hsh_rdr hH⟩
theorem term71 (G : Nat → Option PV) (s : List Int) (hs : Bytes s) {H0 : List AObj} (hH : HSh H0) : ∀ (d : Nat), d ≤ 20 → ∀ (k : Int), 0 ≤ k → k + 16 * 2 ^ d ≤ 1099511627776 →
    FE Tryd.prog G 29 [.ptr (.S 0) 0, .p (pi d)] (rdr s k :: H0) (TermR d s k (16 * 2 ^ d - 8) H0) := by
  intro d
  induction d with
  | zero =>
    intro _ k hk hk1
    simp only [Int.pow_zero] at hk1 ⊢
    refine ⟨?_, TermR.ne (by omega) hH⟩
    refine bdy Tryd.func29 (fun _ => 0) rfl ?_
    refine rn T 99 [] ?_
    refine rn T 99 [] ?_
    refine cts ?_
    refine rn T 99 [] ?_
    refine hes (pick G s hs k 3 hk (by omega) (by omega) hH) ?_; rintro _ _ ⟨v, hv0, hv1, rfl, rfl⟩ _ _; refine op ?_
    refine rn T 99 [] ?_
    by_cases hv : v = 0
    · refine ctq rfl (by simp [hv]) ?_
      refine rn T 99 [] ?_
      refine hes (pick G s hs (k + 1) 4 (by omega) (by omega) (by omega) hH) ?_; rintro _ _ ⟨w, hw0, hw1, rfl, rfl⟩ _ _; refine op ?_
      refine rn T 99 [] ?_
      exact rt1 T (pm ⟨1, w, ⟨#[]⟩, [], []⟩) (⟨_, k + 1 + 1, dM0, by omega, by omega, rfl, rfl⟩)
    · refine cfq rfl (by simp [hv]) ?_
      refine rn T 99 [] ?_
      refine hes (pick G s hs (k + 1) 3 (by omega) (by omega) (by omega) hH) ?_; rintro _ _ ⟨w, hw0, hw1, rfl, rfl⟩ _ _; refine op ?_
      obtain rfl | rfl | rfl : w = 0 ∨ w = 1 ∨ w = 2 := by omega
      · refine rn T 99 [ps ⟨#[97]⟩] ?_
        exact rt1 T (pm ⟨2, 0, ⟨#[97]⟩, [], []⟩) (⟨_, k + 1 + 1, dM0, by omega, by omega, rfl, rfl⟩)
      · refine rn T 99 [ps ⟨#[98]⟩] ?_
        exact rt1 T (pm ⟨2, 0, ⟨#[98]⟩, [], []⟩) (⟨_, k + 1 + 1, dM0, by omega, by omega, rfl, rfl⟩)
      · refine rn T 99 [ps ⟨#[99]⟩] ?_
        exact rt1 T (pm ⟨2, 0, ⟨#[99]⟩, [], []⟩) (⟨_, k + 1 + 1, dM0, by omega, by omega, rfl, rfl⟩)
  | succ d ih =>
    intro hd k hk hk1
    have h2 : (2 : Int) ^ (d + 1) = 2 * 2 ^ d := by rw [Int.pow_succ]; omega
    have h3 : (1 : Int) ≤ 2 ^ d := by
      have : (0 : Int) < 2 ^ d := Int.pow_pos (by omega)
      omega
    refine ⟨?_, TermR.ne (by omega) hH⟩
    refine bdy Tryd.func29 (fun _ => 0) rfl ?_
    refine rn T 99 [] ?_
    refine rn T 3 [] ?_
    by_cases hd0 : d = 0
    · rw [show decide (((d + 1 : Nat) : Int) < 2) = true by simp; omega]
      refine rn T 99 [] ?_
      refine cts ?_
      refine rn T 99 [] ?_
      refine hes (pick G s hs (k) 3 (by omega) (by omega) (by omega) hH) ?_; rintro _ _ ⟨v, hv0, hv1, rfl, rfl⟩ _ _; refine op ?_
      refine rn T 99 [] ?_
      by_cases hv : v = 0
      · refine ctq rfl (by simp [hv]) ?_
        refine rn T 99 [] ?_
        refine hes (pick G s hs (k + 1) 4 (by omega) (by omega) (by omega) hH) ?_; rintro _ _ ⟨w, hw0, hw1, rfl, rfl⟩ _ _; refine op ?_
        refine rn T 99 [] ?_
        exact rt1 T (pm ⟨1, w, ⟨#[]⟩, [], []⟩) (⟨_, k + 1 + 1, dM0, by omega, by omega, rfl, rfl⟩)
      · refine cfq rfl (by simp [hv]) ?_
        refine rn T 99 [] ?_
        refine hes (pick G s hs (k + 1) 3 (by omega) (by omega) (by omega) hH) ?_; rintro _ _ ⟨w, hw0, hw1, rfl, rfl⟩ _ _; refine op ?_
        obtain rfl | rfl | rfl : w = 0 ∨ w = 1 ∨ w = 2 := by omega
        · refine rn T 99 [ps ⟨#[97]⟩] ?_
          exact rt1 T (pm ⟨2, 0, ⟨#[97]⟩, [], []⟩) (⟨_, k + 1 + 1, dM0, by omega, by omega, rfl, rfl⟩)
        · refine rn T 99 [ps ⟨#[98]⟩] ?_
          exact rt1 T (pm ⟨2, 0, ⟨#[98]⟩, [], []⟩) (⟨_, k + 1 + 1, dM0, by omega, by omega, rfl, rfl⟩)
        · refine rn T 99 [ps ⟨#[99]⟩] ?_
          exact rt1 T (pm ⟨2, 0, ⟨#[99]⟩, [], []⟩) (⟨_, k + 1 + 1, dM0, by omega, by omega, rfl, rfl⟩)
    · rw [show decide (((d + 1 : Nat) : Int) < 2) = false by simp; omega]
      refine rn T 99 [] ?_
      refine hes (pick G s hs k 4 hk (by omega) (by omega) hH) ?_; rintro _ _ ⟨u, hu0, hu1, rfl, rfl⟩ _ _; refine op ?_
      refine rn T 99 [] ?_
      by_cases hu : u = 0
      · subst hu
        refine cts ?_
        refine rn T 99 [] ?_
        refine hes (pick G s hs (k + 1) 3 (by omega) (by omega) (by omega) hH) ?_; rintro _ _ ⟨v, hv0, hv1, rfl, rfl⟩ _ _; refine op ?_
        refine rn T 99 [] ?_
        by_cases hv : v = 0
        · refine ctq rfl (by simp [hv]) ?_
          refine rn T 99 [] ?_
          refine hes (pick G s hs (k + 1 + 1) 4 (by omega) (by omega) (by omega) hH) ?_; rintro _ _ ⟨w, hw0, hw1, rfl, rfl⟩ _ _; refine op ?_
          refine rn T 99 [] ?_
          exact rt1 T (pm ⟨1, w, ⟨#[]⟩, [], []⟩) (⟨_, k + 1 + 1 + 1, dM0, by omega, by omega, rfl, rfl⟩)
        · refine cfq rfl (by simp [hv]) ?_
          refine rn T 99 [] ?_
          refine hes (pick G s hs (k + 1 + 1) 3 (by omega) (by omega) (by omega) hH) ?_; rintro _ _ ⟨w, hw0, hw1, rfl, rfl⟩ _ _; refine op ?_
          obtain rfl | rfl | rfl : w = 0 ∨ w = 1 ∨ w = 2 := by omega
          · refine rn T 99 [ps ⟨#[97]⟩] ?_
            exact rt1 T (pm ⟨2, 0, ⟨#[97]⟩, [], []⟩) (⟨_, k + 1 + 1 + 1, dM0, by omega, by omega, rfl, rfl⟩)
          · refine rn T 99 [ps ⟨#[98]⟩] ?_
            exact rt1 T (pm ⟨2, 0, ⟨#[98]⟩, [], []⟩) (⟨_, k + 1 + 1 + 1, dM0, by omega, by omega, rfl, rfl⟩)
          · refine rn T 99 [ps ⟨#[99]⟩] ?_
            exact rt1 T (pm ⟨2, 0, ⟨#[99]⟩, [], []⟩) (⟨_, k + 1 + 1 + 1, dM0, by omega, by omega, rfl, rfl⟩)
      · refine cfq rfl (by simp [hu]) ?_
        refine rn T 99 [] ?_
        refine rn T 99 [] ?_
        refine hes (pick G s hs (k + 1) 3 (by omega) (by omega) (by omega) hH) ?_; rintro _ _ ⟨n, hn0, hn1, rfl, rfl⟩ _ _; refine op ?_
        refine rn T 99 [] ?_
        refine AW.lp (fun x : List Int × Int × Int => MS.mk [(6, .p (pi x.2.2)), (5, .vw (.L 26) x.1.length), (0, .ptr (.S 0) 0), (1, .p (pi (d + 1 : Nat))), (4, .ptr (.L 4) 0)] 89 [(26, .rw 1 3 (x.1.map pi)), (4, .box 26 [.p (pi 0), .p (pi 0), .p (ps ⟨#[]⟩), .nil, .nil])] (rdr s x.2.1 :: H0)) (fun m x => (m : Int) = x.2.2 ∧ x.1.length + m ≤ 2 ∧ k + 2 ≤ x.2.1 ∧ x.2.1 + x.2.2 ≤ k + 4) n.toNat ([], k + 1 + 1, n) (by simp only [List.length_nil]; omega) (wk_of rfl rfl ⟨.inl rfl, .inl rfl, .inl rfl, .inl rfl, .inl rfl, trivial⟩ ⟨.inl rfl, .inl rfl, trivial⟩) ?_
        intro m ⟨p, k', n'⟩ ⟨g1, g2, g3, g4⟩
        simp only at g1 g2 g3 g4
        refine op ?_
        refine rn T 99 [] ?_
        by_cases hm : m = 0
        · subst hm
          refine cfq rfl (by simp; omega) ?_
          refine rn T 99 [] ?_
          refine hes (pick G s hs k' 6 (by omega) (by omega) (by omega) hH) ?_; rintro _ _ ⟨v, hv0, hv1, rfl, rfl⟩ _ _; refine op ?_
          obtain rfl | rfl | rfl | rfl | rfl | rfl : v = 0 ∨ v = 1 ∨ v = 2 ∨ v = 3 ∨ v = 4 ∨ v = 5 := by omega
          · refine rn T 99 [] ?_
            refine cts ?_
            refine cts ?_
            refine rn T 99 [] ?_
            rw [wkP (by omega)]
            refine hes (ih (by omega) (k' + 1) (by omega) (by omega)) ?_; rintro _ _ ⟨t1, k1, h11, h12, h13, rfl, rfl⟩ _ _; refine op ?_
            refine rn T 99 [] ?_
            exact rt1 T (pm ⟨7, 0, ⟨#[]⟩, p, [t1]⟩) (⟨_, k1, dM1 h11, by omega, by omega, rfl, rfl⟩)
          · refine rn T 99 [] ?_
            refine cfs ?_
            refine rn T 99 [] ?_
            refine cts ?_
            refine rn T 99 [] ?_
            rw [wkP (by omega)]
            refine hes (ih (by omega) (k' + 1) (by omega) (by omega)) ?_; rintro _ _ ⟨t1, k1, h11, h12, h13, rfl, rfl⟩ _ _; refine op ?_
            refine rn T 99 [] ?_
            exact rt1 T (pm ⟨7, 0, ⟨#[]⟩, p, [t1]⟩) (⟨_, k1, dM1 h11, by omega, by omega, rfl, rfl⟩)
          · refine rn T 99 [] ?_
            refine cfs ?_
            refine rn T 99 [] ?_
            refine cfs ?_
            refine rn T 99 [] ?_
            refine cts ?_
            refine cts ?_
            refine rn T 99 [] ?_
            rw [wkP (by omega)]
            refine hes (ih (by omega) (k' + 1) (by omega) (by omega)) ?_; rintro _ _ ⟨t1, k1, h11, h12, h13, rfl, rfl⟩ _ _; refine op ?_
            refine rn T 99 [] ?_
            rw [wkP (by omega)]
            refine hes (ih (by omega) k1 (by omega) (by omega)) ?_; rintro _ _ ⟨t2, k2, h21, h22, h23, rfl, rfl⟩ _ _; refine op ?_
            refine rn T 99 [] ?_
            exact rt1 T (pm ⟨8, 0, ⟨#[]⟩, p, [t1, t2]⟩) (⟨_, k2, dM2 h11 h21, by omega, by omega, rfl, rfl⟩)
          · refine rn T 99 [] ?_
            refine cfs ?_
            refine rn T 99 [] ?_
            refine cfs ?_
            refine rn T 99 [] ?_
            refine cfs ?_
            refine rn T 99 [] ?_
            refine cts ?_
            refine rn T 99 [] ?_
            rw [wkP (by omega)]
            refine hes (ih (by omega) (k' + 1) (by omega) (by omega)) ?_; rintro _ _ ⟨t1, k1, h11, h12, h13, rfl, rfl⟩ _ _; refine op ?_
            refine rn T 99 [] ?_
            rw [wkP (by omega)]
            refine hes (ih (by omega) k1 (by omega) (by omega)) ?_; rintro _ _ ⟨t2, k2, h21, h22, h23, rfl, rfl⟩ _ _; refine op ?_
            refine rn T 99 [] ?_
            exact rt1 T (pm ⟨8, 0, ⟨#[]⟩, p, [t1, t2]⟩) (⟨_, k2, dM2 h11 h21, by omega, by omega, rfl, rfl⟩)
          · refine rn T 99 [] ?_
            refine cfs ?_
            refine rn T 99 [] ?_
            refine cfs ?_
            refine rn T 99 [] ?_
            refine cfs ?_
            refine rn T 99 [] ?_
            refine cfs ?_
            refine rn T 99 [] ?_
            refine cts ?_
            refine rn T 99 [] ?_
            rw [wkP (by omega)]
            refine hes (ih (by omega) (k' + 1) (by omega) (by omega)) ?_; rintro _ _ ⟨t1, k1, h11, h12, h13, rfl, rfl⟩ _ _; refine op ?_
            refine rn T 99 [] ?_
            rw [wkP (by omega)]
            refine hes (ih (by omega) k1 (by omega) (by omega)) ?_; rintro _ _ ⟨t2, k2, h21, h22, h23, rfl, rfl⟩ _ _; refine op ?_
            refine rn T 99 [] ?_
            exact rt1 T (pm ⟨6, 0, ⟨#[]⟩, [], [t1, t2]⟩) (⟨_, k2, dM2 h11 h21, by omega, by omega, rfl, rfl⟩)
          · refine rn T 99 [] ?_
            refine cfs ?_
            refine rn T 99 [] ?_
            refine cfs ?_
            refine rn T 99 [] ?_
            refine cfs ?_
            refine rn T 99 [] ?_
            refine cfs ?_
            refine rn T 99 [] ?_
            refine cfs ?_
            refine rn T 99 [] ?_
            refine hes (pick G s hs (k' + 1) 3 (by omega) (by omega) (by omega) hH) ?_; rintro _ _ ⟨w, hw0, hw1, rfl, rfl⟩ _ _; refine op ?_
            refine rn T 1 [] ?_
            rw [wk (n := 3 + w) (by omega) (by omega)]
            refine rn T 99 [] ?_
            rw [wkP (by omega)]
            refine hes (ih (by omega) (k' + 1 + 1) (by omega) (by omega)) ?_; rintro _ _ ⟨t1, k1, h11, h12, h13, rfl, rfl⟩ _ _; refine op ?_
            refine rn T 99 [] ?_
            rw [wkP (by omega)]
            refine hes (ih (by omega) k1 (by omega) (by omega)) ?_; rintro _ _ ⟨t2, k2, h21, h22, h23, rfl, rfl⟩ _ _; refine op ?_
            refine rn T 99 [] ?_
            exact rt1 T (pm ⟨3 + w, 0, ⟨#[]⟩, [], [t1, t2]⟩) (⟨_, k2, dM2 h11 h21, by omega, by omega, rfl, rfl⟩)
        · refine ctq rfl (by simp; omega) ?_
          refine rn T 99 [] ?_
          refine hes (pick G s hs k' 2 (by omega) (by omega) (by omega) hH) ?_; rintro _ _ ⟨v, hv0, hv1, rfl, rfl⟩ _ _; refine op ?_
          refine rn T 99 [] ?_
          refine rn T 99 [] ?_
          have hlen : p.length + [pi v].length = (p ++ [v]).length := by simp
          have hq : p.map pi ++ [pi v] = (p ++ [v]).map pi := by simp
          rw [List.length_map, hlen, wk (n := n' - 1) (by omega) (by omega)]
          refine nxt (m - 1) ((p ++ [v], k' + 1, n' - 1)) (⟨by simp only; omega, by simp only [List.length_append, List.length_singleton]; omega, by simp only; omega, by simp only; omega⟩)
end Go.Proofs.YtbjjdjipdcdfhaaDoor.K
end
section
namespace Go.Proofs.YtbjjdjipdcdfhaaDoor.En
set_option linter.unusedVariables false
set_option linter.unusedSimpArgs false
open Go Go.RowKit Go.Proofs.YtbjjdjipdcdfhaaDoor.PA
variable {P : Program} {E : Ent} {σ : St} {a : Act} {w : World} {S : Nat → Nat → Prop} {g : Nm → GV}
abbrev ocs (vs : List PV) : List (List TV) := vs.map fun y => y.cells.map oc
theorem ocs_flat (vs : List PV) : (ocs vs).flatten = (flat vs).map oc := flat_oc vs
theorem LRep.plain {v : PV} {V : Value} {B : Nat → Prop} (h : LRep w S v V B) : plainB v = true → PRep w S v V ∧ ∀ b, ¬ B b := by
  induction h with
  | p h hB => exact fun _ => ⟨h, hB⟩
  | any h hB => intro hp; unfold plainB at hp; cases hp
  | ag F hs h h1 hd hB ih => intro hp; unfold plainB at hp; cases hp
  | own fl F ho hz h h1 hd hb hB ih => intro hp; unfold plainB at hp; cases hp
theorem oc_all {q : Nm → Prop} (y : PV) : (oc y).All q := by
  unfold oc
  split
  · exact .p
  · exact .o
theorem cell_l {Γ : Env} {y : PV} {u : Value} {F : Nat → Prop} (h : CellRep Γ (oc y) u F) : LRep Γ.w Γ.S y u F := by
  unfold oc at h
  split at h
  · cases h with | t h hF => cases h with | p h => exact .p h hF
  · cases h with
    | t h _ => cases h
    | o h => exact h
theorem Rep.absorb (h : Rep E σ a w S g) {n m : Nm} {z z' : Nat} {t t' : TypeId} {ks ks2 ks' : List Nm} {xs xs' : List (List TV)} {vs : List PV} {q : Nat} (hnm : n ≠ m) (hn : σ.ob n = some (.ow z t ks xs)) (hm : σ.ob m = some (.ow z' t' ks2 (ocs vs)))
    (hq : xs.flatten[q]? = some (.vw m vs.length)) (hx : xs'.flatten = xs.flatten.set q (.o (.own z' t' vs))) (hz : ∀ x ∈ xs', x.length = z) (hl : xs'.length = xs.length) (hk : ∀ c ∈ xs', ∀ x ∈ c, x.All (· ∈ ks')) (hks : ∀ k ∈ ks', k ∈ ks) :
    ∃ S' g', Rep E ((σ.set n (.ow z t ks' xs')).set m .gone) a w S' g' := by
  obtain ⟨p1, p2, fl, F, o1, o2, o3, o4, o5, o6, o7, o8⟩ := h.ob n _ hn
  obtain ⟨_, _, fl2, F2, r1, r2, r3, r4, r5, r6, r7, r8⟩ := h.ob m _ hm
  have o1' : w.ownsRow 0 t z (g n).v xs.length fl := o1
  have r1' : w.ownsRow 0 t' z' (g m).v (ocs vs).length fl2 := r1
  have o7' : ∀ b, (g n).B b ↔ blk (g n).v = some b ∨ ∃ k, k < fl.length ∧ F k b := o7
  have r7' : ∀ b, (g m).B b ↔ blk (g m).v = some b ∨ ∃ k, k < fl2.length ∧ F2 k b := r7
  have o8' : ∀ b, (g n).B b → ∀ k, ¬ S b k := o8
  have r8' : ∀ b, (g m).B b → ∀ k, ¬ S b k := r8
  have o6' : ∀ k b, k < fl.length → F k b → blk (g n).v ≠ some b := o6
  have r6' : ∀ k b, k < fl2.length → F2 k b → blk (g m).v ≠ some b := r6
  have hns : (σ.ob n).isSome := by rw [hn]; rfl
  have hms : (σ.ob m).isSome := by rw [hm]; rfl
  have hsm : ((σ.set n (.ow z t ks' xs')).ob m) = some (.ow z' t' ks2 (ocs vs)) := by rw [set_other _ (fun e => hnm e.symm)]; exact hm
  let g' : Nm → GV := updG (updG g n ⟨(g n).v, fun b => (g n).B b ∨ (g m).B b⟩) m ⟨(g m).v, fun _ => False⟩
  have hgm : g' m = ⟨(g m).v, fun _ => False⟩ := updG_same _ _ _
  have hgn : g' n = ⟨(g n).v, fun b => (g n).B b ∨ (g m).B b⟩ := by
    show updG (updG g n _) m _ n = _
    unfold updG
    rw [if_neg hnm, if_pos rfl]
  have hgo : ∀ p, p ≠ n → p ≠ m → g' p = g p := fun p h1 h2 => by
    show updG (updG g n _) m _ p = _
    unfold updG
    rw [if_neg h2, if_neg h1]
  have hob' : ∀ p, p ≠ n → p ≠ m → ((σ.set n (.ow z t ks' xs')).set m .gone).ob p = σ.ob p := fun p h1 h2 => by rw [set_other _ h2, set_other _ h1]
  have hobn : ((σ.set n (.ow z t ks' xs')).set m .gone).ob n = some (.ow z t ks' xs') := by rw [set_other _ hnm, set_same _ hn]
  have hobm : ((σ.set n (.ow z t ks' xs')).set m .gone).ob m = some .gone := set_same _ hsm
  have hHl : ((σ.set n (.ow z t ks' xs')).set m .gone).H.length = σ.H.length := by rw [set_H, set_H]
  have hgv : ∀ p, (g' p).v = (g p).v := fun p => by
    by_cases e1 : p = m
    · rw [e1, hgm]
    · by_cases e2 : p = n
      · rw [e2, hgn]
      · rw [hgo p e2 e1]
  have hN : ∀ p, NmOk (σ.env w S g) (((σ.set n (.ow z t ks' xs')).set m .gone).env w S g') p := by
    intro p
    refine .inl ⟨hgv p, ?_⟩
    show (((σ.set n (.ow z t ks' xs')).set m .gone).ob p).bind AObj.ln = none ∨ (((σ.set n (.ow z t ks' xs')).set m .gone).ob p).bind AObj.ln = (σ.ob p).bind AObj.ln
    by_cases e1 : p = m
    · left; rw [e1, hobm]; rfl
    · by_cases e2 : p = n
      · right; rw [e2, hobn, hn]; simp [AObj.ln, hl]
      · right; rw [hob' p e2 e1]
  have hmove : ∀ (v : TV) V, TRep (σ.env w S g) v V → TRep (((σ.set n (.ow z t ks' xs')).set m .gone).env w S g') v V := fun v V hv =>
    TRep.move (Γ := σ.env w S g) (Γ' := ((σ.set n (.ow z t ks' xs')).set m .gone).env w S g') (q := fun _ => True) (fun b k hk => ⟨hk, rfl⟩) (Nat.le_of_eq hHl.symm) (fun m _ _ => hN m) hv (hAllT v)
  have hgB : ∀ p b, (g' p).B b → (p ≠ m) ∧ ((g p).B b ∨ (p = n ∧ (g m).B b)) := fun p b hb => by
    by_cases e1 : p = m
    · subst e1; rw [hgm] at hb; exact hb.elim
    · refine ⟨e1, ?_⟩
      by_cases e2 : p = n
      · subst e2; rw [hgn] at hb; exact hb.imp id (fun q => ⟨rfl, q⟩)
      · rw [hgo p e2 e1] at hb; exact .inl hb
  have hso : ∀ p, (((σ.set n (.ow z t ks' xs')).set m .gone).ob p).isSome → (σ.ob p).isSome := fun p hp => by
    by_cases e1 : p = m
    · rw [e1]; exact hms
    · by_cases e2 : p = n
      · rw [e2]; exact hns
      · rwa [hob' p e2 e1] at hp
  have hlen : xs.flatten.length = fl.length := by rw [flatten_len o2, o1'.1]
  have hql : q < fl.length := by rw [← hlen]; exact (List.getElem?_eq_some_iff.1 hq).1
  have hdj : ∀ b, (g n).B b → ¬ (g m).B b := h.dj n m hnm hns hms
  refine ⟨S, g', h.re (by rw [set_nt, set_nt]) (by rw [set_G, set_G]) (Nat.le_of_eq hHl.symm) (fun t V hv => by rw [set_tm, set_tm]; exact hmove _ _ hv) (fun b k hk => hk) (fun b k hk => .inl hk) ?_ ?_ ?_ ?_ (fun i _ => hN (.S i))⟩
  · intro p o ho
    by_cases e1 : p = m
    · subst e1
      rw [hobm] at ho
      cases ho
      intro b hb
      have hb : (g' p).B b := hb
      rw [hgm] at hb
      exact hb
    · by_cases e2 : p = n
      · subst e2
        rw [hobn] at ho
        cases ho
        have hg2 : ((((σ.set p (.ow z t ks' xs')).set m .gone).env w S g').g p) = ⟨(g p).v, fun b => (g p).B b ∨ (g m).B b⟩ := hgn
        refine ⟨fun k hk => Nm.lt_mono (p1 k (hks k hk)) (Nat.le_of_eq hHl.symm), hk, fl, fun k => if k = q then (g m).B else F k, ?_, hz, ?_, o4, ?_, ?_, ?_, ?_⟩
        · rw [hg2, hl]; exact o1'
        · intro k y u hy hu
          rw [hx] at hy
          by_cases ek : k = q
          · subst ek
            have hkx : k < xs.flatten.length := by rw [hlen]; exact (List.getElem?_eq_some_iff.1 hu).1
            rw [List.getElem?_set_self hkx] at hy
            cases hy
            show CellRep _ _ u (if k = k then (g m).B else F k)
            rw [if_pos rfl]
            refine .o ?_
            have h0 := o3 k _ u hq hu
            cases h0 with | t h0 _ =>
            cases h0 with | vw _ _ h0 =>
            have hln : (σ.env w S g).ln m = some vs.length := by
              show (σ.ob m).bind AObj.ln = _
              rw [hm]; simp [AObj.ln]
            have hV := (h0 _ hln).2 rfl
            rw [hV]
            have hl3 : (ocs vs).length = vs.length := by simp
            refine LRep.own fl2 F2 (by rw [← hl3]; exact r1') (fun y hy => ?_) (fun k y u hy hu => ?_) r4 r5 r6' r7'
            · have := r2 _ (List.mem_map.2 ⟨y, hy, rfl⟩)
              simpa using this
            · have hy2 : (ocs vs).flatten[k]? = some (oc y) := by rw [ocs_flat, List.getElem?_map, hy]; rfl
              exact cell_l (Γ := σ.env w S g) (r3 k _ u hy2 hu)
          · rw [List.getElem?_set_ne (fun e => ek e.symm)] at hy
            have h0 := o3 k y u hy hu
            show CellRep _ _ u (if k = q then (g m).B else F k)
            rw [if_neg ek]
            exact h0.move (Γ := σ.env w S g) (Γ' := ((σ.set p (.ow z t ks' xs')).set m .gone).env w S g') (q := fun _ => True) (fun b k hk => ⟨hk, rfl⟩) (Nat.le_of_eq hHl.symm) (fun m _ _ => hN m) (hAllT _) (fun b _ => rfl)
        · intro i j b hi hj hij h1 h2
          have h1 : (if i = q then (g m).B else F i) b := h1
          have h2 : (if j = q then (g m).B else F j) b := h2
          by_cases ei : i = q
          · rw [if_pos ei] at h1
            rw [if_neg (fun e => hij (ei.trans e.symm))] at h2
            exact hdj b ((o7' b).2 (.inr ⟨j, hj, h2⟩)) h1
          · rw [if_neg ei] at h1
            by_cases ej : j = q
            · rw [if_pos ej] at h2
              exact hdj b ((o7' b).2 (.inr ⟨i, hi, h1⟩)) h2
            · rw [if_neg ej] at h2
              exact o5 i j b hi hj hij h1 h2
        · intro i b hi h1
          have h1 : (if i = q then (g m).B else F i) b := h1
          rw [hg2]
          intro e
          by_cases ei : i = q
          · rw [if_pos ei] at h1
            exact hdj b ((o7' b).2 (.inl e)) h1
          · rw [if_neg ei] at h1
            exact o6' i b hi h1 e
        · intro b
          rw [hg2]
          constructor
          · rintro (hb | hb)
            · rcases (o7' b).1 hb with e | ⟨k, hk, hF⟩
              · exact .inl e
              · by_cases ek : k = q
                · subst ek
                  exfalso
                  have hkx : k < xs.flatten.length := by rw [hlen]; exact hk
                  have h0 := o3 k _ fl[k] hq (List.getElem?_eq_getElem hk)
                  cases h0 with | t h0 hF0 => exact hF0 b hF
                · exact .inr ⟨k, hk, by show (if k = q then (g m).B else F k) b; rw [if_neg ek]; exact hF⟩
            · exact .inr ⟨q, hql, by show (if q = q then (g m).B else F q) b; rw [if_pos rfl]; exact hb⟩
          · rintro (e | ⟨k, hk, hF⟩)
            · exact .inl ((o7' b).2 (.inl e))
            · have hF : (if k = q then (g m).B else F k) b := hF
              by_cases ek : k = q
              · rw [if_pos ek] at hF; exact .inr hF
              · rw [if_neg ek] at hF; exact .inl ((o7' b).2 (.inr ⟨k, hk, hF⟩))
        · rw [hg2]
          intro b hb k hk
          rcases hb with hb | hb
          · exact o8' b hb k hk
          · exact r8' b hb k hk
      · rw [hob' p e2 e1] at ho
        exact ORep.move (Γ := σ.env w S g) (Γ' := ((σ.set n (.ow z t ks' xs')).set m .gone).env w S g') (q := fun _ => True) (fun b k hk => ⟨hk, rfl⟩) (Nat.le_of_eq hHl.symm) (fun m _ _ => hN m) (h.ob p o ho) (hAllO o) (hgo p e2 e1) (fun b hb => ⟨rfl, fun k hk => hk⟩)
  · intro p1' p2' hne h1 h2 b b1 b2
    obtain ⟨c1, d1⟩ := hgB p1' b b1
    obtain ⟨c2, d2⟩ := hgB p2' b b2
    rcases d1 with d1 | ⟨rfl, d1⟩
    · rcases d2 with d2 | ⟨rfl, d2⟩
      · exact h.dj p1' p2' hne (hso _ h1) (hso _ h2) b d1 d2
      · exact h.dj p1' m c1 (hso _ h1) hms b d1 d2
    · rcases d2 with d2 | ⟨e, _⟩
      · exact h.dj p2' m c2 (hso _ h2) hms b d2 d1
      · exact hne e.symm
  · intro p hp b hb
    obtain ⟨c1, d1⟩ := hgB p b hb
    rcases d1 with d1 | ⟨rfl, d1⟩
    · exact ⟨p, hso p hp, d1⟩
    · exact ⟨m, hms, d1⟩
  · intro i o ho
    by_cases e1 : Nm.S i = m
    · subst e1
      rw [show ((σ.set n (.ow z t ks' xs')).set (.S i) .gone).H[i]? = some .gone from hobm] at ho
      cases ho
      trivial
    · by_cases e2 : Nm.S i = n
      · subst e2
        rw [show ((σ.set (.S i) (.ow z t ks' xs')).set m .gone).H[i]? = some (.ow z t ks' xs') from hobn] at ho
        cases ho
        exact fun k hk => h.hs i _ hn k (hks k hk)
      · rw [show ((σ.set n (.ow z t ks' xs')).set m .gone).H[i]? = σ.H[i]? from hob' _ e2 e1] at ho
        exact h.hs i o ho
theorem l_cell {Γ : Env} {y : PV} {u : Value} {F : Nat → Prop} (h : LRep Γ.w Γ.S y u F) : CellRep Γ (oc y) u F := by
  unfold oc
  split
  · rename_i hp
    obtain ⟨h1, h2⟩ := h.plain hp
    exact .t (.p h1) h2
  · exact .o h
theorem Rep.split (h : Rep E σ a w S g) {n m : Nm} {z z' : Nat} {t t' : TypeId} {ks ks' : List Nm} {xs xs' : List (List TV)} {vs : List PV} {q : Nat} (hn : σ.ob n = some (.ow z t ks xs)) (hm : Fresh σ m)
    (hq : xs.flatten[q]? = some (.o (.own z' t' vs))) (hx : xs'.flatten = xs.flatten.set q (.vw m vs.length)) (hz : ∀ x ∈ xs', x.length = z) (hl : xs'.length = xs.length) (hk : ∀ c ∈ xs', ∀ x ∈ c, x.All (· ∈ ks')) (hks : ∀ k ∈ ks', k ∈ ks ∨ k = m) (hSm : ∀ i, n = .S i → ∃ j, m = .S j) :
    ∃ S' g', Rep E ((σ.set n (.ow z t ks' xs')).add m (.ow z' t' [] (ocs vs))) a w S' g' := by
  have hns : (σ.ob n).isSome := by rw [hn]; rfl
  have hmn : σ.ob m = none := hm.gone
  have hne : n ≠ m := fun e => by rw [e, hmn] at hn; cases hn
  obtain ⟨p1, p2, fl, F, o1, o2, o3, o4, o5, o6, o7, o8⟩ := h.ob n _ hn
  have o1' : w.ownsRow 0 t z (g n).v xs.length fl := o1
  have o7' : ∀ b, (g n).B b ↔ blk (g n).v = some b ∨ ∃ k, k < fl.length ∧ F k b := o7
  have o8' : ∀ b, (g n).B b → ∀ k, ¬ S b k := o8
  have o6' : ∀ k b, k < fl.length → F k b → blk (g n).v ≠ some b := o6
  have hlen : xs.flatten.length = fl.length := by rw [flatten_len o2, o1'.1]
  have hql : q < fl.length := by rw [← hlen]; exact (List.getElem?_eq_some_iff.1 hq).1
  have hcell := o3 q _ fl[q] hq (List.getElem?_eq_getElem hql)
  obtain ⟨V, hV⟩ : ∃ V, V = fl[q] := ⟨_, rfl⟩
  rw [← hV] at hcell
  have hLR : LRep w S (.own z' t' vs) V (F q) := by
    cases hcell with
    | t h _ => cases h
    | o h => exact h
  obtain ⟨fl2, F2, r1, r2, r3, r4, r5, r6, r7⟩ : ∃ (fl2 : List Value) (F2 : Nat → Nat → Prop), w.ownsRow 0 t' z' V vs.length fl2 ∧ (∀ x ∈ vs, x.cells.length = z') ∧ (∀ (k : Nat) y u, (flat vs)[k]? = some y → fl2[k]? = some u → LRep w S y u (F2 k)) ∧ (∀ u ∈ fl2, u.oneCell' = true) ∧
      (∀ i j b, i < fl2.length → j < fl2.length → i ≠ j → F2 i b → ¬ F2 j b) ∧ (∀ i b, i < fl2.length → F2 i b → blk V ≠ some b) ∧ (∀ b, F q b ↔ blk V = some b ∨ ∃ k, k < fl2.length ∧ F2 k b) := by
    cases hLR with
    | p h hB => cases h
    | own fl2 F2 a1 a2 a3 a4 a5 a6 a7 => exact ⟨fl2, F2, a1, a2, a3, a4, a5, a6, a7⟩
  have hFn : ∀ b, F q b → (g n).B b := fun b hb => (o7' b).2 (.inr ⟨q, hql, hb⟩)
  have hfs : Fresh (σ.set n (.ow z t ks' xs')) m ∨ True := .inr trivial
  let τ := (σ.set n (.ow z t ks' xs')).add m (.ow z' t' [] (ocs vs))
  have hobm : τ.ob m = some (.ow z' t' [] (ocs vs)) := by
    cases m with
    | L d => show updT _ d _ d = _; rw [updT_eq]; exact if_pos rfl
    | S i =>
      obtain rfl : i = σ.H.length := hm
      show ((σ.set n (.ow z t ks' xs')).H ++ [AObj.ow z' t' [] (ocs vs)])[σ.H.length]? = _
      rw [List.getElem?_append_right (by rw [set_H]; omega), set_H]; simp
  have hobo : ∀ p, p ≠ m → τ.ob p = (σ.set n (.ow z t ks' xs')).ob p := by
    intro p hp
    cases m with
    | L d =>
      cases p with
      | L e => show updT _ d _ e = _; rw [updT_eq]; exact if_neg (fun q => hp (by rw [q]))
      | S i => rfl
    | S i =>
      obtain rfl : i = σ.H.length := hm
      cases p with
      | L e => rfl
      | S j =>
        have hj : j ≠ σ.H.length := fun q => hp (by rw [q])
        show ((σ.set n (.ow z t ks' xs')).H ++ [AObj.ow z' t' [] (ocs vs)])[j]? = (σ.set n (.ow z t ks' xs')).H[j]?
        by_cases hlt : j < (σ.set n (.ow z t ks' xs')).H.length
        · rw [List.getElem?_append_left hlt]
        · rw [set_H] at hlt
          rw [List.getElem?_eq_none (by simp [set_H]; omega), List.getElem?_eq_none (by rw [set_H]; omega)]
  have hobn : τ.ob n = some (.ow z t ks' xs') := by rw [hobo n hne, set_same _ hn]
  have hobp : ∀ p, p ≠ m → p ≠ n → τ.ob p = σ.ob p := fun p h1 h2 => by rw [hobo p h1, set_other _ h2]
  have hHl : σ.H.length ≤ τ.H.length := by have := add_H (σ := σ.set n (.ow z t ks' xs')) (m := m) (.ow z' t' [] (ocs vs)); rw [set_H] at this; exact this
  have hmlt : m.lt τ.H.length := by
    cases m with
    | L d => trivial
    | S i => exact (List.getElem?_eq_some_iff.1 (show τ.H[i]? = some _ from hobm)).1
  let g' : Nm → GV := updG (updG g n ⟨(g n).v, fun b => (g n).B b ∧ ¬ F q b⟩) m ⟨V, F q⟩
  have hgm : g' m = ⟨V, F q⟩ := updG_same _ _ _
  have hgn : g' n = ⟨(g n).v, fun b => (g n).B b ∧ ¬ F q b⟩ := by
    show updG (updG g n _) m _ n = _
    unfold updG
    rw [if_neg hne, if_pos rfl]
  have hgo : ∀ p, p ≠ m → p ≠ n → g' p = g p := fun p h1 h2 => by
    show updG (updG g n _) m _ p = _
    unfold updG
    rw [if_neg h1, if_neg h2]
  have hN : ∀ p, p ≠ m → NmOk (σ.env w S g) (τ.env w S g') p := by
    intro p hp
    by_cases e : p = n
    · subst e
      refine .inl ⟨by show (g' p).v = _; rw [hgn]; rfl, .inr ?_⟩
      show (τ.ob p).bind AObj.ln = (σ.ob p).bind AObj.ln
      rw [hobn, hn]; simp [AObj.ln, hl]
    · refine .inl ⟨by show (g' p).v = _; rw [hgo p hp e]; rfl, .inr ?_⟩
      show (τ.ob p).bind AObj.ln = (σ.ob p).bind AObj.ln
      rw [hobp p hp e]
  have hNq : ∀ p, p.lt σ.H.length → p ≠ m → NmOk (σ.env w S g) (τ.env w S g') p := fun p _ hp => hN p hp
  have hNl : ∀ p, p.lt σ.H.length → (∃ i, m = .S i) → NmOk (σ.env w S g) (τ.env w S g') p := fun p hp ⟨i, e⟩ => hN p (fun e2 => by
    subst e2; subst e
    obtain rfl : i = σ.H.length := hm
    exact Nat.lt_irrefl _ hp)
  have hmv : ∀ (v : TV) V', v.All (· ≠ m) ∨ (∃ i, m = .S i) → TRep (σ.env w S g) v V' → TRep (τ.env w S g') v V' := fun v V' hv ht => by
    rcases hv with hv | hv
    · exact TRep.move (Γ := σ.env w S g) (Γ' := τ.env w S g') (q := (· ≠ m)) (fun b k hk => ⟨hk, rfl⟩) hHl (fun p h1 h2 => hNq p h1 h2) ht hv
    · exact TRep.move (Γ := σ.env w S g) (Γ' := τ.env w S g') (q := fun _ => True) (fun b k hk => ⟨hk, rfl⟩) hHl (fun p h1 _ => hNl p h1 hv) ht (hAllT v)
  have hclean : ∀ t, (σ.tm t).All (· ≠ m) ∨ ∃ i, m = .S i := fun t => by
    cases m with
    | L d => exact .inl (hm.2.1 t)
    | S i => exact .inr ⟨i, rfl⟩
  have hcleano : ∀ p (o : AObj), σ.ob p = some o → o.All (· ≠ m) ∨ ∃ i, m = .S i := fun p o ho => by
    cases m with
    | L d =>
      cases p with
      | L e => exact .inl (hm.2.2 e o ho)
      | S i => exact .inl ((h.hs i o ho).mono (fun x hx e => by subst e; exact hx))
    | S i => exact .inr ⟨i, rfl⟩
  have hmvo : ∀ p (o : AObj), σ.ob p = some o → g' p = g p → ORep (τ.env w S g') p o := fun p o ho hgp => by
    rcases hcleano p o ho with hv | hv
    · exact ORep.move (Γ := σ.env w S g) (Γ' := τ.env w S g') (q := (· ≠ m)) (fun b k hk => ⟨hk, rfl⟩) hHl (fun p h1 h2 => hNq p h1 h2) (h.ob p o ho) hv hgp (fun b hb => ⟨rfl, fun k hk => hk⟩)
    · exact ORep.move (Γ := σ.env w S g) (Γ' := τ.env w S g') (q := fun _ => True) (fun b k hk => ⟨hk, rfl⟩) hHl (fun p h1 _ => hNl p h1 hv) (h.ob p o ho) (hAllO o) hgp (fun b hb => ⟨rfl, fun k hk => hk⟩)
  have hgB : ∀ p b, (g' p).B b → (p = m ∧ F q b) ∨ (p ≠ m ∧ (g p).B b ∧ (p = n → ¬ F q b)) := fun p b hb => by
    by_cases e1 : p = m
    · subst e1; rw [hgm] at hb; exact .inl ⟨rfl, hb⟩
    · by_cases e2 : p = n
      · subst e2; rw [hgn] at hb; exact .inr ⟨e1, hb.1, fun _ => hb.2⟩
      · rw [hgo p e1 e2] at hb; exact .inr ⟨e1, hb, fun e => absurd e e2⟩
  have hso : ∀ p, p ≠ m → (τ.ob p).isSome → (σ.ob p).isSome := fun p hp hs => by
    by_cases e2 : p = n
    · rw [e2]; exact hns
    · rwa [hobp p hp e2] at hs
  refine ⟨S, g', h.re (σ' := τ) (by rw [show τ.nt = _ from add_nt _ _, set_nt]) (by rw [show τ.G = _ from add_G _ _, set_G]) hHl (fun t V' hv => ?_) (fun b k hk => hk) (fun b k hk => .inl hk) ?_ ?_ ?_ ?_ (fun i hi => hN (.S i) (fun e => ?_))⟩
  · have e : τ.tm t = σ.tm t := by
      cases m <;> (cases n <;> rfl)
    rw [e]; exact hmv _ _ (hclean t) hv
  · intro p o ho
    by_cases e1 : p = m
    · subst e1
      rw [hobm] at ho
      cases ho
      have hg2 : (τ.env w S g').g p = ⟨V, F q⟩ := hgm
      refine ⟨(fun k hk => by cases hk), fun c hc x hx => ?_, fl2, F2, ?_, fun c hc => ?_, fun k y u hy hu => ?_, r4, r5, ?_, ?_, ?_⟩
      · obtain ⟨y, _, rfl⟩ := List.mem_map.1 hc
        obtain ⟨u, _, rfl⟩ := List.mem_map.1 hx
        exact oc_all u
      · rw [hg2]
        show w.ownsRow 0 t' z' V (ocs vs).length fl2
        rw [show (ocs vs).length = vs.length by simp]
        exact r1
      · obtain ⟨y, hy, rfl⟩ := List.mem_map.1 hc
        simpa using r2 y hy
      · rw [ocs_flat, List.getElem?_map] at hy
        cases hz2 : (flat vs)[k]? with
        | none => rw [hz2] at hy; cases hy
        | some y' =>
          rw [hz2] at hy
          cases hy
          exact l_cell (Γ := τ.env w S g') (r3 k y' u hz2 hu)
      · rw [hg2]; exact r6
      · rw [hg2]; exact r7
      · rw [hg2]; exact fun b hb k hk => o8' b (hFn b hb) k hk
    · by_cases e2 : p = n
      · subst e2
        rw [hobn] at ho
        cases ho
        have hg2 : (τ.env w S g').g p = ⟨(g p).v, fun b => (g p).B b ∧ ¬ F q b⟩ := hgn
        refine ⟨fun k hk => ?_, hk, fl, fun k b => k ≠ q ∧ F k b, ?_, hz, ?_, o4, ?_, ?_, ?_, ?_⟩
        · rcases hks k hk with h1 | rfl
          · exact Nm.lt_mono (p1 k h1) hHl
          · exact hmlt
        · rw [hg2, hl]; exact o1'
        · intro k y u hy hu
          rw [hx] at hy
          by_cases ek : k = q
          · subst ek
            have hkx : k < xs.flatten.length := by rw [hlen]; exact hql
            rw [List.getElem?_set_self hkx] at hy
            cases hy
            rw [List.getElem?_eq_getElem hql] at hu
            cases hu
            refine .t (.vw hmlt (o4 _ (List.getElem_mem hql)) (fun k2 hk2 => ?_)) (fun b hb => hb.1 rfl)
            have hln : (τ.env w S g').ln m = some vs.length := by
              show (τ.ob m).bind AObj.ln = _
              rw [hobm]; simp [AObj.ln]
            rw [hln] at hk2
            cases hk2
            exact ⟨Nat.le_refl _, fun _ => by show fl[k] = (g' m).v; rw [hgm]; exact hV.symm⟩
          · rw [List.getElem?_set_ne (fun e => ek e.symm)] at hy
            have h0 := o3 k y u hy hu
            have hxc : (AObj.ow z t ks xs).All (· ≠ m) ∨ ∃ i, m = .S i := hcleano p _ hn
            have hyk : y.All (· ∈ ks) := by
              obtain ⟨c, hc, hyc⟩ := List.mem_flatten.1 (List.mem_of_getElem? hy)
              exact p2 c hc y hyc
            have h0' : CellRep (τ.env w S g') y u (F k) := by
              cases h0 with
              | t h0 hF =>
                refine .t (hmv y u ?_ h0) hF
                rcases hxc with hv | hv
                · exact .inl (hyk.mono (fun x hx => hv x hx))
                · exact .inr hv
              | o h0 => exact .o h0
            cases h0' with
            | t h0 hF => exact .t h0 (fun b hb => hF b hb.2)
            | o h0 =>
              refine .o ?_
              have e3 : F k = fun b => k ≠ q ∧ F k b := by funext b; exact propext ⟨fun hb => ⟨ek, hb⟩, fun hb => hb.2⟩
              show LRep w S _ u (fun b => k ≠ q ∧ F k b)
              rw [← e3]; exact h0
        · intro i j b hi hj hij h1 h2
          exact o5 i j b hi hj hij h1.2 h2.2
        · intro i b hi h1
          rw [hg2]
          exact o6' i b hi h1.2
        · intro b
          rw [hg2]
          constructor
          · rintro ⟨hb, hnq⟩
            rcases (o7' b).1 hb with e | ⟨k, hk, hF⟩
            · exact .inl e
            · exact .inr ⟨k, hk, fun e => hnq (by rw [← e]; exact hF), hF⟩
          · rintro (e | ⟨k, hk, hF⟩)
            · exact ⟨(o7' b).2 (.inl e), fun hF => o6' q b hql hF e⟩
            · exact ⟨(o7' b).2 (.inr ⟨k, hk, hF.2⟩), fun hFq => o5 k q b hk hql hF.1 hF.2 hFq⟩
        · rw [hg2]
          exact fun b hb k hk => o8' b hb.1 k hk
      · rw [hobp p e1 e2] at ho
        exact hmvo p o ho (hgo p e1 e2)
  · intro q1 q2 hne2 h1 h2 b b1 b2
    rcases hgB q1 b b1 with ⟨rfl, d1⟩ | ⟨c1, d1, f1⟩
    · rcases hgB q2 b b2 with ⟨e, _⟩ | ⟨c2, d2, f2⟩
      · exact hne2 e.symm
      · by_cases e : q2 = n
        · exact f2 e d1
        · exact h.dj q2 n e (hso q2 c2 h2) hns b d2 (hFn b d1)
    · rcases hgB q2 b b2 with ⟨rfl, d2⟩ | ⟨c2, d2, f2⟩
      · by_cases e : q1 = n
        · exact f1 e d2
        · exact h.dj q1 n e (hso q1 c1 h1) hns b d1 (hFn b d2)
      · exact h.dj q1 q2 hne2 (hso q1 c1 h1) (hso q2 c2 h2) b d1 d2
  · intro p hp b hb
    rcases hgB p b hb with ⟨_, d1⟩ | ⟨c1, d1, _⟩
    · exact ⟨n, hns, hFn b d1⟩
    · exact ⟨p, hso p c1 hp, d1⟩
  · intro i o ho
    by_cases e1 : Nm.S i = m
    · subst e1
      rw [show τ.H[i]? = some _ from hobm] at ho
      cases ho
      exact fun k hk => by cases hk
    · by_cases e2 : Nm.S i = n
      · subst e2
        rw [show τ.H[i]? = some _ from hobn] at ho
        cases ho
        obtain ⟨j, rfl⟩ := hSm i rfl
        exact fun k hk => (hks k hk).elim (fun h1 => h.hs i _ hn k h1) (fun e => by subst e; trivial)
      · rw [show τ.H[i]? = σ.H[i]? from hobp _ e1 e2] at ho
        exact h.hs i o ho
  · subst e
    obtain rfl : i = σ.H.length := hm
    exact Nat.lt_irrefl _ hi
theorem Rep.callO (h : Rep E σ a w S g) {n : Nm} {o0 : AObj} (hn : σ.ob n = some o0) {N' : Nat} {w' : World} {S' : Nat → Nat → Prop} {g0 g' : Nm → GV} (hg0 : g0 (.S 0) = g n) (hst : ∀ b k, S' b k → b < w'.heap.size) (he : Evol w S g0 1 w' S' g' N') :
    Rep E (σ.set n .gone) a w' S' (updG g n ⟨(g n).v, fun _ => False⟩) := by
  have hns : (σ.ob n).isSome := by rw [hn]; rfl
  let gX : Nm → GV := updG g n ⟨(g n).v, fun _ => False⟩
  have hgn : gX n = ⟨(g n).v, fun _ => False⟩ := updG_same _ _ _
  have hgo : ∀ p, p ≠ n → gX p = g p := fun p hp => if_neg hp
  have hB : ∀ p b, (gX p).B b → p ≠ n ∧ (g p).B b := fun p b hb => by
    by_cases e : p = n
    · subst e; rw [hgn] at hb; exact hb.elim
    · rw [hgo p e] at hb; exact ⟨e, hb⟩
  have hso : ∀ p, ((σ.set n .gone).ob p).isSome → (σ.ob p).isSome := fun p hp => by
    by_cases e : p = n
    · rw [e]; exact hns
    · rwa [set_other _ e] at hp
  have hHl : (σ.set n .gone).H.length = σ.H.length := set_H _
  have hN : ∀ p, NmOk (σ.env w S g) ((σ.set n .gone).env w' S' gX) p := by
    intro p
    by_cases e : p = n
    · subst e
      refine .inl ⟨by show (gX p).v = _; rw [hgn]; rfl, .inl ?_⟩
      show ((σ.set p .gone).ob p).bind AObj.ln = none
      rw [set_same _ hn]; rfl
    · refine .inl ⟨by show (gX p).v = _; rw [hgo p e]; rfl, .inr ?_⟩
      show ((σ.set n .gone).ob p).bind AObj.ln = (σ.ob p).bind AObj.ln
      rw [set_other _ e]
  have hblk : ∀ b, b < w.heap.size → ¬ (g n).B b → w'.heap[b]? = w.heap[b]? := fun b hb hnb => he.block b hb (fun i hi => by
    obtain rfl : i = 0 := by omega
    rw [hg0]; exact hnb)
  have hnew : ∀ b k, S' b k → S b k ∨ w.heap.size ≤ b ∨ (g n).B b := by
    intro b k hk
    rcases he.new b k hk with q | q | ⟨j, q1, q2⟩
    · exact .inl q
    · exact .inr (.inl q)
    · obtain rfl : j = 0 := by omega
      rw [hg0] at q2
      exact .inr (.inr q2)
  have hown : ∀ b, (g n).B b → E.w.heap.size ≤ b ∨ ∃ j, j < E.n ∧ (E.g (.S j)).B b := fun b hb => h.owner hns hb
  refine ⟨fun t => ?_, h.nt.trans (set_nt _).symm, h.df, ?_, fun p q hne h1 h2 b b1 b2 => h.dj p q hne (hso p h1) (hso q h2) b (hB p b b1).2 (hB q b b2).2, hst, ?_, ?_, ?_, ?_, fun i hi => (h.nm i hi).trans (hN (.S i)), (set_G _).trans h.eG⟩
  · rw [set_tm]
    exact (h.tm t).move (Γ' := (σ.set n .gone).env w' S' gX) (q := fun _ => True) he.stb (Nat.le_of_eq hHl.symm) (fun p _ _ => hN p) (hAllT _)
  · intro p o ho
    by_cases e : p = n
    · subst e
      rw [set_same _ hn] at ho
      cases ho
      intro b hb
      exact (hB p b hb).1 rfl
    · rw [set_other _ e] at ho
      refine (h.ob p o ho).move (Γ' := (σ.set n .gone).env w' S' gX) (q := fun _ => True) he.stb (Nat.le_of_eq hHl.symm) (fun p _ _ => hN p) (hAllO o) (hgo p e) (fun b hb => ?_)
      have hlt : b < w.heap.size := (h.ob p o ho).lt hb
      have hnb : ¬ (g n).B b := fun q => h.dj p n e (by rw [ho]; rfl) hns b hb q
      refine ⟨hblk b hlt hnb, fun k hk => ?_⟩
      rcases hnew b k hk with q | q | q
      · exact q
      · have q : w.heap.size ≤ b := q
        omega
      · exact absurd q hnb
  · intro t ht b hb
    obtain ⟨_, h2⟩ := hB (.L t) b hb
    exact h.owner (m := .L t) (hso (.L t) ht) h2
  · intro i o ho
    by_cases e : Nm.S i = n
    · subst e
      rw [show (σ.set (.S i) .gone).H[i]? = some .gone from set_same _ hn] at ho
      cases ho
      trivial
    · rw [show (σ.set n .gone).H[i]? = σ.H[i]? from set_other _ e] at ho
      exact h.hs i o ho
  · refine ⟨he.os.trans h.ev.os, he.tape.trans h.ev.tape, he.output.trans h.ev.output, Nat.le_trans h.ev.size he.size, by rw [hHl]; exact h.ev.n, fun b hb hno => ?_, fun b k hk => ?_, fun b k hk => ?_, fun i hi b hb => ?_⟩
    · refine (hblk b (Nat.lt_of_lt_of_le hb h.ev.size) (fun q => ?_)).trans (h.ev.block b hb hno)
      rcases hown b q with h1 | ⟨j, h1, h2⟩
      · omega
      · exact hno j h1 h2
    · obtain ⟨h1, h2⟩ := h.ev.stb b k hk
      obtain ⟨h3, h4⟩ := he.stb b k h1
      exact ⟨h3, h4.trans h2⟩
    · rcases hnew b k hk with q | q | q
      · exact h.ev.new b k q
      · exact .inr (.inl (Nat.le_trans h.ev.size q))
      · exact .inr (hown b q)
    · rw [hHl] at hi
      exact h.ev.own i hi b (hB _ b hb).2
  · intro i y hy
    rw [set_G] at hy
    obtain ⟨u, h1, h2, h3, h4⟩ := h.gl i y hy
    obtain ⟨h5, h6⟩ := he.stb _ _ h1
    exact ⟨u, h5, h6.trans h2, h3, h4.move he.stb⟩
theorem ORep.clo {Γ Γ' : Env} {n n' : Nm} {z t : Nat} {xs : List (List TV)} (h : ORep Γ n (.ow z t [] xs)) (hg : Γ'.g n' = Γ.g n) (hw : Γ'.w = Γ.w) (hS : Γ'.S = Γ.S) : ORep Γ' n' (.ow z t [] xs) := by
  obtain ⟨_, p2, fl, F, o1, o2, o3, o4, o5, o6, o7, o8⟩ := h
  refine ⟨(fun k hk => by cases hk), p2, fl, F, by rw [hg, hw]; exact o1, o2, fun k y u hy hu => ?_, o4, o5, by rw [hg]; exact o6, by rw [hg]; exact o7, by rw [hg, hS]; exact o8⟩
  have hyk : y.All (fun _ => False) := by
    obtain ⟨c, hc, hyc⟩ := List.mem_flatten.1 (List.mem_of_getElem? hy)
    exact (p2 c hc y hyc).mono (fun x hx => by cases hx)
  cases o3 k y u hy hu with
  | t h hF => exact .t (h.move' hw hS hyk) hF
  | o h => exact .o (by rw [hw, hS]; exact h)
def rnS (ob : Nm → Option AObj) (n : Nm) (x y : TV) : Prop := (∃ v, y = .p v ∧ ToPV ob x v) ∨ ∃ len, x = .vw n len ∧ y = .vw (.S 0) len
def rnA (ob : Nm → Option AObj) (n : Nm) (x y : TV) : Prop := rnS ob n x y ∨ ∃ l l', x = .ag l ∧ y = .ag l' ∧ l.length = l'.length ∧ ∀ (k : Nat) y' v, l[k]? = some y' → l'[k]? = some v → rnS ob n y' v
theorem rnS.sound (h : Rep E σ a w S g) {n : Nm} {o0 : AObj} (hn : σ.ob n = some o0) {x y : TV} {V : Value} (hr : rnS σ.ob n x y) (hx : TRep (σ.env w S g) x V) : TRep (henv [o0] w S (fun _ => g n)) y V := by
  rcases hr with ⟨v, rfl, hv⟩ | ⟨len, rfl, rfl⟩
  · exact .p (hv.sound h.obs hx)
  · cases hx with
    | vw h1 h2 h3 =>
      refine .vw (by show 0 < 1; omega) h2 (fun k hk => ?_)
      have hk : o0.ln = some k := hk
      exact h3 k (by show (σ.ob n).bind AObj.ln = _; rw [hn]; exact hk)
theorem rnA.sound (h : Rep E σ a w S g) {n : Nm} {o0 : AObj} (hn : σ.ob n = some o0) {x y : TV} {V : Value} (hr : rnA σ.ob n x y) (hx : TRep (σ.env w S g) x V) : TRep (henv [o0] w S (fun _ => g n)) y V := by
  rcases hr with hr | ⟨l, l', rfl, rfl, hl, hr⟩
  · exact hr.sound h hn hx
  · cases hx with
    | ag hs h2 h3 =>
      refine .ag (hs.trans hl) (fun k y u hy hu => ?_) h3
      have hk : k < l.length := by rw [hl]; exact (List.getElem?_eq_some_iff.1 hy).1
      exact (hr k _ y (List.getElem?_eq_getElem hk) hy).sound h hn (h2 k _ u (List.getElem?_eq_getElem hk) hu)
theorem EOps.rc {hbs : Nat → Bool} {ops : Array Oper} {i : Nat} {o : Oper} {r : List Oper} {K : St → Prop} (hf : hbs 4294967296 = true) (hg : o.guard = none) {f : FuncId} {x : Operand} {args : Array Operand} {ats : Array TypeId} (ho : o.op = .call { callee := .value x, args := args, argTypes := ats })
    (hx : σ.ev x = .fn f []) {n : Nm} {z t : Nat} {xs : List (List TV)} (hn : σ.ob n = some (.ow z t [] xs)) (ys : List TV) (hl : ys.length = args.size) (hr : ∀ (k : Nat) q y, args.toList[k]? = some q → ys[k]? = some y → rnA σ.ob n (σ.ev q) y) {R : TV → List AObj → Prop} (hc : FC P σ.G f ys [.ow z t [] xs] R)
    (hR : ∀ r H', R r H' → r.All (fun _ => False)) (k : ∀ v H', R v H' → EOps P hbs ops (i + 1) r ((σ.set n .gone).put o.dst v) K) : EOps P hbs ops i (o :: r) σ K := by
  refine EOps.sem hf (by unfold WantT; rw [hg]) (fun E a w S g h Q => ?_)
  have hev := h.eval
  unfold Oper.wp
  have hx2 := hev x
  rw [hx] at hx2
  generalize hX : a.eval x = X at hx2
  cases hx2 with
  | @fn _ _ A hs hA =>
  obtain rfl : A = [] := List.eq_nil_of_length_eq_zero hs
  have hrun : (execOp a.eval o).run P w = .ok (.enter f (args.toList.map a.eval).toArray) w := by
    simp [execOp, ho, resolve, hX, Deferred.ofValue, invoke, callable_run hc.1, ← Array.toList_map]
  rw [hrun, Oper.upon_enter]
  have hhr : HRep σ.G [.ow z t [] xs] w S (fun _ => g n) := by
    refine ⟨fun j o' hj => ?_, fun j1 j2 hne h1 h2 => ?_, h.st, fun j o' hj => ?_, h.gl⟩
    · cases j with
      | zero => cases hj; exact (h.ob n _ hn).clo rfl rfl rfl
      | succ j => simp at hj
    · simp at h1 h2; omega
    · cases j with
      | zero => cases hj; exact fun k hk => by cases hk
      | succ j => simp at hj
  refine (hc.2 w S (fun _ => g n) (args.toList.map a.eval) hhr (by simp [hl]) (fun k y V hy hV => ?_)).mono ?_
  · rw [List.getElem?_map] at hV
    cases hq : args.toList[k]? with
    | none => rw [hq] at hV; cases hV
    | some q =>
      rw [hq] at hV
      cases hV
      exact (hr k q y hq hy).sound h hn (hev q)
  · rintro e w' ⟨r', H', v, S', g', rfl, h1, h2, h3, h4, h5, h6⟩
    have hcl := hR r' H' h1
    have hrep := h.callO hn (g0 := fun _ => g n) rfl h4.st h5
    exact ⟨_, _, _, k r' H' h1, hrep.put (TRep.move' (Γ := henv H' w' S' g') (Γ' := (σ.set n .gone).env w' S' (updG g n ⟨(g n).v, fun _ => False⟩)) rfl rfl h3 hcl) o.dst⟩
def rnE (n : Nm) (x y : TV) : Prop := (∃ v, x = .p v ∧ y = .p v) ∨ ∃ len, x = .vw n len ∧ y = .vw (.S 0) len
def rnF (n : Nm) (x y : TV) : Prop := rnE n x y ∨ ∃ l l', x = .ag l ∧ y = .ag l' ∧ l.length = l'.length ∧ ∀ (k : Nat) x' y', l[k]? = some x' → l'[k]? = some y' → rnE n x' y'
def ownSt (G : Nat → Option PV) (md : Nat → Nat) (d : Nat) (o : AObj) (args : List TV) (nt : Nat) : St := { tm := fun t => args.getD t .u, nt := nt, lm := updT (fun _ => none) d (some o), H := [.gone], G := G, md := md }
theorem own0 {G : Nat → Option PV} {md : Nat → Nat} {c : Code} {Q : Exit → St → Prop} {args args' : List TV} {nt z t d : Nat} {xs : List (List TV)} (hl : args'.length = args.length) (hr : ∀ (k : Nat) x y, args'[k]? = some x → args[k]? = some y → rnF (.L d) x y)
    (k : AW P c Q (ownSt G md d (.ow z t [] xs) args' nt)) : AW P c Q (init G md [.ow z t [] xs] args nt) := by
  refine AW.gh (fun E a w S g h => ?_) k
  obtain ⟨σ', hσ⟩ : ∃ σ', σ' = ownSt G md d (.ow z t [] xs) args' nt := ⟨_, rfl⟩
  obtain ⟨g', hg'⟩ : ∃ g' : Nm → GV, g' = updG (updG g (.S 0) ⟨(g (.S 0)).v, fun _ => False⟩) (.L d) (g (.S 0)) := ⟨_, rfl⟩
  have hgL : g' (.L d) = g (.S 0) := by rw [hg']; exact updG_same _ _ _
  have hgS : g' (.S 0) = ⟨(g (.S 0)).v, fun _ => False⟩ := by
    rw [hg']
    unfold updG
    rw [if_neg (by simp), if_pos rfl]
  have hobL : σ'.ob (.L d) = some (.ow z t [] xs) := by
    rw [hσ]
    show updT (fun _ => none) d (some (AObj.ow z t [] xs)) d = _
    rw [updT_eq, if_pos rfl]
  have hon : ∀ n o, σ'.ob n = some o → (n = .L d ∧ o = .ow z t [] xs) ∨ (n = .S 0 ∧ o = .gone) := by
    intro n o ho
    rw [hσ] at ho
    cases n with
    | L e =>
      have ho : updT (fun _ => none) d (some (AObj.ow z t [] xs)) e = some o := ho
      rw [updT_eq] at ho
      split at ho
      · rename_i e2; cases ho; exact .inl ⟨by rw [e2], rfl⟩
      · cases ho
    | S i =>
      have ho : ([AObj.gone] : List AObj)[i]? = some o := ho
      cases i with
      | zero => cases ho; exact .inr ⟨rfl, rfl⟩
      | succ i => simp at ho
  have h0 : ORep ((init G md [.ow z t [] xs] args nt).env w S g) (.S 0) (.ow z t [] xs) := h.ob (.S 0) _ rfl
  have hH : σ'.H = [.gone] := by rw [hσ]; rfl
  have hN : ∀ i, i < 1 → NmOk ((init G md [.ow z t [] xs] args nt).env w S g) (σ'.env w S g') (.S i) := by
    intro i hi
    obtain rfl : i = 0 := by omega
    refine .inl ⟨by show (g' (.S 0)).v = _; rw [hgS]; rfl, .inl ?_⟩
    show ((σ'.H)[0]?).bind AObj.ln = none
    rw [hH]; rfl
  have cellS : ∀ {x y : TV} {V : Value}, rnE (.L d) x y → TRep ((init G md [.ow z t [] xs] args nt).env w S g) y V → TRep (σ'.env w S g') x V := by
    intro x y V hr hy
    rcases hr with ⟨v, rfl, rfl⟩ | ⟨len, rfl, rfl⟩
    · cases hy with
      | p hy => exact .p hy
    · cases hy with
      | vw h1 h2 h3 =>
        refine .vw trivial h2 (fun k hk => ?_)
        have hk : AObj.ln (.ow z t [] xs) = some k := by
          have : (σ'.ob (.L d)).bind AObj.ln = some k := hk
          rw [hobL] at this; exact this
        show len ≤ k ∧ (len = k → V = (g' (.L d)).v)
        rw [hgL]
        exact h3 k hk
  have cellF : ∀ {x y : TV} {V : Value}, rnF (.L d) x y → TRep ((init G md [.ow z t [] xs] args nt).env w S g) y V → TRep (σ'.env w S g') x V := by
    intro x y V hr hy
    rcases hr with hr | ⟨l, l', rfl, rfl, hl, hr⟩
    · exact cellS hr hy
    · cases hy with
      | ag hs h2 h3 =>
        refine .ag (hs.trans hl.symm) (fun k y u hy hu => ?_) h3
        have hk : k < l'.length := by rw [← hl]; exact (List.getElem?_eq_some_iff.1 hy).1
        exact cellS (hr k y _ hy (List.getElem?_eq_getElem hk)) (h2 k _ u (List.getElem?_eq_getElem hk) hu)
  have hgB : ∀ n, (σ'.ob n).isSome → ∀ b, (g' n).B b → n = .L d ∧ (g (.S 0)).B b := by
    intro n hs b hb
    obtain ⟨o, ho⟩ := Option.isSome_iff_exists.1 hs
    rcases hon n o ho with ⟨rfl, rfl⟩ | ⟨rfl, rfl⟩
    · rw [hgL] at hb; exact ⟨rfl, hb⟩
    · rw [hgS] at hb; exact hb.elim
  rw [← hσ]
  refine ⟨S, g', h.re (σ' := σ') (by rw [hσ]; rfl) (by rw [hσ]; rfl) (by rw [hH]; exact Nat.le_refl _) (fun t V hv => ?_) (fun b k hk => hk) (fun b k hk => .inl hk) ?_ ?_ ?_ ?_ hN⟩
  · have e1 : σ'.tm t = args'.getD t .u := by rw [hσ]; rfl
    have hv : TRep _ (args.getD t .u) V := hv
    rw [e1]
    by_cases ht : t < args.length
    · have e2 : args'.getD t .u = args'[t]'(by omega) := by simp [List.getD, show t < args'.length by omega]
      have e3 : args.getD t .u = args[t] := by simp [List.getD, ht]
      rw [e3] at hv
      rw [e2]
      exact cellF (hr t _ _ (List.getElem?_eq_getElem (by omega)) (List.getElem?_eq_getElem ht)) hv
    · have e2 : args'.getD t .u = .u := by simp [List.getD, List.getElem?_eq_none (show args'.length ≤ t by omega)]
      rw [e2]; exact .u
  · intro n o ho
    rcases hon n o ho with ⟨rfl, rfl⟩ | ⟨rfl, rfl⟩
    · exact ORep.clo (Γ' := σ'.env w S g') h0 hgL rfl rfl
    · intro b hb
      have hb : (g' (.S 0)).B b := hb
      rw [hgS] at hb
      exact hb
  · intro n m hne h1 h2 b b1 b2
    obtain ⟨e1, _⟩ := hgB n h1 b b1
    obtain ⟨e2, _⟩ := hgB m h2 b b2
    exact hne (e1.trans e2.symm)
  · intro n hs b hb
    obtain ⟨_, hb⟩ := hgB n hs b hb
    exact ⟨.S 0, rfl, hb⟩
  · intro i o ho
    rw [hH] at ho
    cases i with
    | zero => cases ho; trivial
    | succ i => simp at ho
theorem HRep.rep {G : Nat → Option PV} {H : List AObj} (hh : HRep G H w S g) : Rep ⟨w, S, g, hln H, H.length, G⟩ (init G (fun _ => 0) H [] 0) { tmps := #[], defers := [] } w S g := by
  have hlnE : ∀ n, (init G (fun _ => 0) H [] 0).ln n = hln H n := by intro n; cases n <;> rfl
  have henvE : (init G (fun _ => 0) H [] 0).env w S g = henv H w S g := by
    unfold St.env henv
    have : (init G (fun _ => 0) H [] 0).ln = hln H := funext hlnE
    rw [this]; rfl
  refine ⟨fun t => ?_, rfl, rfl, ?_, ?_, hh.st, (fun t ht => by cases ht), hh.hs, Evol.refl _ _ _ _, hh.gl, fun i hi => ?_, rfl⟩
  · have : (init G (fun _ => 0) H [] 0).tm t = .u := by show ([] : List TV).getD t .u = .u; simp
    rw [this]; exact .u
  · intro n o ho
    cases n with
    | L t => cases ho
    | S i => rw [henvE]; exact hh.ob i o ho
  · intro n m hne h1 h2
    cases n with
    | L t => cases h1
    | S i =>
      cases m with
      | L t => cases h2
      | S j =>
        have hi : i < H.length := by obtain ⟨o, ho⟩ := Option.isSome_iff_exists.1 h1; exact (List.getElem?_eq_some_iff.1 ho).1
        have hj : j < H.length := by obtain ⟨o, ho⟩ := Option.isSome_iff_exists.1 h2; exact (List.getElem?_eq_some_iff.1 ho).1
        exact hh.dj i j (fun e => hne (by rw [e])) hi hj
  · rw [henvE]; exact NmOk.refl _ _
theorem rnE.sound {Γ Γ' : Env} (hw : Γ'.w = Γ.w) (hS : Γ'.S = Γ.S) {n : Nm} (hg : Γ'.g (.S 0) = Γ.g n) (hln : Γ'.ln (.S 0) = Γ.ln n) (hlt : (Nm.S 0).lt Γ'.nH) {x y : TV} {V : Value} (hr : rnE n x y) (hx : TRep Γ x V) : TRep Γ' y V := by
  rcases hr with ⟨v, rfl, rfl⟩ | ⟨len, rfl, rfl⟩
  · cases hx with
    | p hx => exact .p (by rw [hw, hS]; exact hx)
  · cases hx with
    | vw h1 h2 h3 => exact .vw hlt h2 (fun k hk => by rw [hln] at hk; rw [hg]; exact h3 k hk)
theorem rnF.sound {Γ Γ' : Env} (hw : Γ'.w = Γ.w) (hS : Γ'.S = Γ.S) {n : Nm} (hg : Γ'.g (.S 0) = Γ.g n) (hln : Γ'.ln (.S 0) = Γ.ln n) (hlt : (Nm.S 0).lt Γ'.nH) {x y : TV} {V : Value} (hr : rnF n x y) (hx : TRep Γ x V) : TRep Γ' y V := by
  rcases hr with hr | ⟨l, l', rfl, rfl, hl, hr⟩
  · exact hr.sound hw hS hg hln hlt hx
  · cases hx with
    | ag hs h2 h3 =>
      refine .ag (hs.trans hl) (fun k y u hy hu => ?_) h3
      have hk : k < l.length := by rw [hl]; exact (List.getElem?_eq_some_iff.1 hy).1
      exact (hr k _ y (List.getElem?_eq_getElem hk) hy).sound hw hS hg hln hlt (h2 k _ u (List.getElem?_eq_getElem hk) hu)
theorem FC.frame {G : Nat → Option PV} {f : FuncId} {ys : List TV} {z t : Nat} {xs : List (List TV)} {R : TV → List AObj → Prop} (hc : FC P G f ys [.ow z t [] xs] R) (hR : ∀ r H', R r H' → r.All (fun _ => False)) {H : List AObj} {i : Nat} (hi : H[i]? = some (.ow z t [] xs)) {args : List TV} (hl : args.length = ys.length)
    (hr : ∀ (k : Nat) x y, args[k]? = some x → ys[k]? = some y → rnF (.S i) x y) : FC P G f args H (fun r H' => (∃ H0, R r H0) ∧ H' = H.set i .gone) := by
  refine ⟨hc.1, fun w S g V hh hlV hv => ?_⟩
  have hrep := hh.rep
  have hn : (init G (fun _ => 0) H [] 0).ob (.S i) = some (.ow z t [] xs) := hi
  have hob : ORep (henv H w S g) (.S i) (.ow z t [] xs) := hh.ob i _ hi
  have hhr : HRep G [.ow z t [] xs] w S (fun _ => g (.S i)) := by
    refine ⟨fun j o' hj => ?_, fun j1 j2 hne h1 h2 => ?_, hh.st, fun j o' hj => ?_, hh.gl⟩
    · cases j with
      | zero => cases hj; exact hob.clo rfl rfl rfl
      | succ j => simp at hj
    · simp at h1 h2; omega
    · cases j with
      | zero => cases hj; exact fun k hk => by cases hk
      | succ j => simp at hj
  refine (hc.2 w S (fun _ => g (.S i)) V hhr (by rw [hlV, hl]) (fun k y v hy hV => ?_)).mono ?_
  · have hk : k < args.length := by rw [hl]; exact (List.getElem?_eq_some_iff.1 hy).1
    refine (hr k _ y (List.getElem?_eq_getElem hk) hy).sound (Γ := henv H w S g) (Γ' := henv [.ow z t [] xs] w S (fun _ => g (.S i))) rfl rfl rfl ?_ (by show 0 < 1; omega) (hv k _ v (List.getElem?_eq_getElem hk) hV)
    show AObj.ln (.ow z t [] xs) = (H[i]?).bind AObj.ln
    rw [hi]; rfl
  · rintro e w' ⟨r', H', v, S', g', rfl, h1, h2, h3, h4, h5, h6⟩
    have hcl := hR r' H' h1
    have hrep2 := hrep.callO hn (g0 := fun _ => g (.S i)) rfl h4.st h5
    have hset : ((init G (fun _ => 0) H [] 0).set (.S i) .gone).H = H.set i .gone := rfl
    have hH2 := hrep2.heap
    have hev := hrep2.ev
    refine ⟨r', H.set i .gone, v, S', updG g (.S i) ⟨(g (.S i)).v, fun _ => False⟩, rfl, ⟨⟨H', h1⟩, rfl⟩, hcl.mono (fun _ q => q.elim), TRep.move' (Γ := henv H' w' S' g') (Γ' := henv (H.set i .gone) w' S' (updG g (.S i) ⟨(g (.S i)).v, fun _ => False⟩)) rfl rfl h3 hcl, hH2, hev, fun j hj => ?_⟩
    exact (hrep2.nm j hj).trans (env_S _ _ _ _ j).1
end Go.Proofs.YtbjjdjipdcdfhaaDoor.En
end
section
namespace Go.Proofs.YtbjjdjipdcdfhaaDoor.En
set_option linter.unusedVariables false
set_option linter.unusedSimpArgs false
open Go Go.RowKit Go.Proofs.YtbjjdjipdcdfhaaDoor.PA
variable {P : Program} {E : Ent} {σ : St} {a : Act} {w : World} {S : Nat → Nat → Prop} {g : Nm → GV}
def upB (l : Nat → Bool) (i : Nat) : Nat → Bool := fun j => match Nat.beq j i with
  | true => true
  | false => l j
theorem upB_eq (l : Nat → Bool) (i j : Nat) : upB l i j = (if j = i then true else l j) := by
  unfold upB
  by_cases e : j = i
  · subst e; rw [if_pos rfl, Nat.beq_refl]
  · rw [if_neg e]
    cases h : Nat.beq j i with
    | true => exact absurd (Nat.eq_of_beq_eq_true h) e
    | false => rfl
def Step1 (P : Program) (o : Oper) (σ : St) (K : St → Prop) : Prop := ∀ E a w S g, Rep E σ a w S g → ∀ Q : Exit → Act → World → Prop, o.wp P a w (fun a' w' => Beh E K a' w') Q
theorem AW.anyF {id : Nat} {ops : Array Oper} {Q : Exit → St → Prop} (F : (Nat → Bool) → St → Prop) (hm : P.follows .mixedOrders = true) (hg : (ops.toList.all fun o => o.guard.isNone && o.after.toList.all fun e => true) = true)
    (hb : ((List.range ops.size).all fun i => match ops[i]? with | some o => o.after.toList.all (fun e => !Region.binds .any e || Nat.blt e.on i) | none => false) = true)
    (h0 : F (fun _ => false) σ) (hend : ∀ l τ, (∀ i, i < ops.size → l i = true) → F l τ → Q .normal τ)
    (hstep : ∀ (l : Nat → Bool) (i : Nat) (o : Oper), ops[i]? = some o → l i = false → (∀ e ∈ o.after.toList, Region.binds .any e = true → l e.on = true) → ∀ τ, F l τ → Step1 P o τ (F (upB l i))) : AW P (.region id ops true) Q σ := by
  intro E a w S g hr
  refine wp_region_any hm ?_
  have hback : ∀ i o, ops[i]? = some o → ∀ e ∈ o.after.toList, Region.binds .any e = true → e.on < i := by
    intro i o ho e he hbb
    have h1 := List.all_eq_true.1 hb i (List.mem_range.2 (Array.getElem?_eq_some_iff.1 ho).1)
    rw [ho] at h1
    have h2 := List.all_eq_true.1 h1 e he
    rw [hbb] at h2
    simpa using h2
  have hgn : ∀ (i : Nat) (o : Oper), ops[i]? = some o → o.guard = none := by
    intro i o ho
    have h1 := List.all_eq_true.1 hg o (by
      obtain ⟨q1, q2⟩ := Array.getElem?_eq_some_iff.1 ho
      rw [← q2]
      exact Array.getElem_mem_toList q1)
    simp only [Bool.and_eq_true, Option.isNone_iff_eq_none] at h1
    exact h1.1
  have hready : ∀ (listed : Array Bool) i, i ∈ Region.ready .any ops listed ↔ i < ops.size ∧ listed.getD i true = false ∧ ∃ o, ops[i]? = some o ∧ ∀ e ∈ o.after.toList, Region.binds .any e = true → listed.getD e.on false = true := by
    intro listed i
    unfold Region.ready
    rw [List.mem_filter]
    constructor
    · rintro ⟨h1, h2⟩
      simp only [Bool.and_eq_true, Bool.not_eq_true'] at h2
      have hlt := List.mem_range.1 h1
      refine ⟨hlt, h2.1, ops[i], Array.getElem?_eq_getElem hlt, ?_⟩
      have h3 := h2.2
      rw [Array.getElem?_eq_getElem hlt] at h3
      simp only [Option.map_some, Option.getD_some] at h3
      intro e he hb
      have := Array.all_eq_true_iff_forall_mem.1 h3 e (by simpa using he)
      simpa [hb] using this
    · rintro ⟨h1, h2, o, ho, h3⟩
      refine ⟨List.mem_range.2 h1, ?_⟩
      simp only [Bool.and_eq_true, Bool.not_eq_true']
      refine ⟨h2, ?_⟩
      rw [ho]
      simp only [Option.map_some, Option.getD_some]
      refine Array.all_eq_true_iff_forall_mem.2 (fun e he => ?_)
      cases hb : Region.binds .any e with
      | false => rfl
      | true => simp [h3 e (by simpa using he) hb]
  have key : ∀ (fuel : Nat) (listed : Array Bool) (l : Nat → Bool) (τ : St) (a : Act) (w : World) (S : Nat → Nat → Prop) (g : Nm → GV), listed.size = ops.size → (pend ops.size listed).length = fuel → (∀ i, i < ops.size → listed.getD i true = l i) → F l τ → Rep E τ a w S g →
      wpAny P .any ops (fun e a' w' => Beh E (Q e) a' w') fuel listed a w := by
    intro fuel
    induction fuel with
    | zero =>
      intro listed l τ a w S g hsz hf hl hF h
      have hnil : pend ops.size listed = [] := List.length_eq_zero_iff.1 hf
      have hmem : ∀ i, i < ops.size → listed.getD i true = true := fun i hi => by
        cases hq : listed.getD i true with
        | true => rfl
        | false =>
          have : i ∈ pend ops.size listed := by simp only [pend, List.mem_filter, List.mem_range, Bool.not_eq_true']; exact ⟨hi, hq⟩
          rw [hnil] at this; cases this
      refine ⟨?_, ⟨τ, S, g, hend l τ (fun i hi => (hl i hi).symm.trans (hmem i hi)) hF, h⟩⟩
      refine List.eq_nil_iff_forall_not_mem.2 (fun i hi => ?_)
      obtain ⟨h1, h2, _⟩ := (hready listed i).1 hi
      rw [hmem i h1] at h2; cases h2
    | succ fuel ih =>
      intro listed l τ a w S g hsz hf hl hF h
      have hgetD : ∀ i, i < ops.size → ∀ d, listed.getD i d = l i := fun i hi d => by
        rw [← hl i hi]
        have : i < listed.size := by omega
        simp [Array.getD, this]
      refine ⟨fun hnone => ?_, fun i hi => ?_⟩
      · exfalso
        have hex : ∃ i, i ∈ pend ops.size listed := by
          cases hp : pend ops.size listed with
          | nil => rw [hp] at hf; cases hf
          | cons i r => exact ⟨i, by simp⟩
        have hmin : ∀ n i, i < n → i < ops.size → l i = false → ∃ j, j < ops.size ∧ l j = false ∧ ∀ k, k < j → l k = true := by
          intro n
          induction n with
          | zero => intro i hi; omega
          | succ n ihn =>
            intro i hin hi hli
            by_cases hall : ∃ k, k < i ∧ l k = false
            · obtain ⟨k, hk, hlk⟩ := hall
              exact ihn k (by omega) (by omega) hlk
            · refine ⟨i, hi, hli, fun k hk => ?_⟩
              cases hq : l k with
              | true => rfl
              | false => exact absurd ⟨k, hk, hq⟩ hall
        obtain ⟨i, hi⟩ := hex
        have hi2 : i < ops.size ∧ listed.getD i true = false := by simpa [pend] using hi
        obtain ⟨j, hj, hlj, hpre⟩ := hmin (i + 1) i (by omega) hi2.1 (by rw [← hl i hi2.1]; exact hi2.2)
        have : j ∈ Region.ready .any ops listed := (hready listed j).2 ⟨hj, by rw [hl j hj]; exact hlj, ops[j], Array.getElem?_eq_getElem hj, fun e he hbb => by
          have hlt := hback j _ (Array.getElem?_eq_getElem hj) e he hbb
          rw [hgetD e.on (by omega)]
          exact hpre e.on hlt⟩
        rw [hnone] at this; cases this
      · obtain ⟨h1, h2, o, ho, h3⟩ := (hready listed i).1 hi
        have hli : l i = false := by rw [← hl i h1]; exact h2
        have hst := hstep l i o ho hli (fun e he hbb => by
          have hlt := hback i o ho e he hbb
          rw [← hgetD e.on (by omega) false]
          exact h3 e he hbb) τ hF E a w S g h (fun e a' w' => Beh E (Q e) a' w')
        have hwp : wpOp P ops (fun e a' w' => Beh E (Q e) a' w') i (Beh E (F (upB l i))) a w := by
          unfold wpOp
          rw [ho]
          simp only [Region.wanted, hgn i o ho]
          exact .inl hst
        refine wpOp_mono (fun a' w' ⟨τ', S', g', k1, k2⟩ => ?_) hwp
        refine ih (listed.setIfInBounds i true) (upB l i) τ' a' w' S' g' (by simpa using hsz) ?_ (fun j hj => ?_) k1 k2
        · have hp1 : ∀ j, (listed.setIfInBounds i true).getD j true = (if j = i then true else listed.getD j true) := by
            intro j
            simp only [Array.getD_eq_getD_getElem?, Array.getElem?_setIfInBounds]
            by_cases e : i = j
            · subst e
              have : i < listed.size := by omega
              simp [this]
            · simp [e, Ne.symm e]
          have hperm : (pend ops.size (listed.setIfInBounds i true)).length + 1 = (pend ops.size listed).length := by
            unfold pend
            have : ∀ (n : Nat), i < n → ((List.range n).filter (fun j => !(listed.setIfInBounds i true).getD j true)).length + 1 = ((List.range n).filter (fun j => !listed.getD j true)).length := by
              intro n
              induction n with
              | zero => intro h; omega
              | succ n ihn =>
                intro hin
                rw [List.range_succ, List.filter_append, List.filter_append, List.length_append, List.length_append]
                by_cases e : i = n
                · subst e
                  have e1 : (List.range i).filter (fun j => !(listed.setIfInBounds i true).getD j true) = (List.range i).filter (fun j => !listed.getD j true) := by
                    refine List.filter_congr (fun j hj => ?_)
                    have := List.mem_range.1 hj
                    rw [hp1, if_neg (by omega)]
                  have e2 : ([i] : List Nat).filter (fun j => !(listed.setIfInBounds i true).getD j true) = [] := by
                    have q1 : (listed.setIfInBounds i true).getD i true = true := by rw [hp1, if_pos rfl]
                    simp only [List.filter_cons, List.filter_nil, q1]; rfl
                  have e3 : ([i] : List Nat).filter (fun j => !listed.getD j true) = [i] := by
                    simp only [List.filter_cons, List.filter_nil, h2]; rfl
                  rw [e1, e2, e3]; rfl
                · have := ihn (by omega)
                  have e2 : ([n] : List Nat).filter (fun j => !(listed.setIfInBounds i true).getD j true) = ([n] : List Nat).filter (fun j => !listed.getD j true) := by
                    have q1 : (listed.setIfInBounds i true).getD n true = listed.getD n true := by rw [hp1, if_neg (fun q => e q.symm)]
                    simp only [List.filter_cons, List.filter_nil, q1]
                  rw [e2]; omega
            exact this ops.size h1
          omega
        · simp only [Array.getD_eq_getD_getElem?, Array.getElem?_setIfInBounds]
          rw [upB_eq]
          by_cases e : i = j
          · subst e
            have : i < listed.size := by omega
            simp [this]
          · have := hl j hj
            simp only [Array.getD_eq_getD_getElem?] at this
            simp [e, Ne.symm e, this]
  have hp : (pend ops.size (Array.replicate ops.size false)).length = ops.size := by
    have : pend ops.size (Array.replicate ops.size false) = List.range ops.size := by
      unfold pend
      refine List.filter_eq_self.2 (fun i hi => ?_)
      have := List.mem_range.1 hi
      simp [Array.getD, this]
    rw [this]; simp
  exact key ops.size _ (fun _ => false) σ a _ S g (by simp) hp (fun i hi => by simp [Array.getD, hi]) h0 hr.drew
theorem wp_Q {o : Oper} {next : Act → World → Prop} {Q Q' : Exit → Act → World → Prop} (h : o.wp P a w next Q) (hp : ∀ c a w, Q (.panic c) a w → Q' (.panic c) a w) (ho : LetsOut Q → LetsOut Q') : o.wp P a w next Q' := by
  unfold Oper.wp at *
  generalize (execOp a.eval o).run P w = r at *
  cases r with
  | ok n w' =>
    cases n <;> simp only [Oper.upon] at h ⊢ <;>
      first
        | exact h
        | exact Calls.mono h (fun e w'' hq => by cases e <;> first | exact hq | exact hp _ _ _ hq | exact ho hq)
  | halt c w' => cases c <;> first | exact hp _ _ _ h | exact h
theorem Step1.of {o : Oper} {K : St → Prop} (hg : o.guard = none) (h : EOps P (fun _ => true) #[o] 0 [o] σ K) : Step1 P o σ K := by
  intro E a w S g hr Q
  rw [EOps.flag rfl] at h
  have h1 := h rfl E a w S g hr (fun e a' w' => e = .normal ∧ Beh E K a' w') (fun _ _ h => ⟨rfl, h⟩)
  have h2 : wpOps P #[o] (fun e a' w' => e = .normal ∧ Beh E K a' w') [0] a w := h1
  rw [wpOps_cons] at h2
  unfold wpOp at h2
  have h0 : (#[o] : Array Oper)[0]? = some o := rfl
  rw [h0] at h2
  simp only [Region.wanted, hg] at h2
  rcases h2 with h2 | ⟨_, a', w', q, _⟩
  · refine wp_Q (Oper.wp_mono (fun a' w' q => q.2) h2) (fun c a w q => by cases q.1) (fun ⟨a', w', q, _⟩ => by cases q)
  · cases q
section
variable {G : Nat → Option PV} {md : Nat → Nat}
theorem EOps.eqn (T : Tab P) {hbs : Nat → Bool} {ops : Array Oper} {K : St → Prop} {r : List Oper} {i : Nat} {l : List (Nat × TV)} {n : Nat} {o : List (Nat × AObj)} {H : List AObj} {d t ty2 : Nat} {x : Operand} {ty : TypeId} {pos : String} {af : Array Edge} {gd : Option (Nat × Bool)} {e z : Nat} {xs : List PV}
    (hf : hbs 4294967296 = true) (hg : gtM ops.toList l n gd = true) (hx : evM l x = some (.p (.row z xs))) (he : T.sl t = some e) (hd : Nat.blt d n = true)
    (k : ∀ b, (xs ≠ [] → b = false) → EOps P hbs ops (i + 1) r ((MS.mk ((d, .p (.c (.bool b))) :: l) n o H).st G md) K) :
    EOps P hbs ops i (⟨some d, .binOp .eql t x (.const (.slice none 0 0)) ty2, ty, pos, af, gd⟩ :: r) ((MS.mk l n o H).st G md) K := by
  refine EOps.sem hf (want_of hg) (fun E a w S g hr Q => ?_)
  have hev := hr.eval
  have hX := hev x
  rw [show ((MS.mk l n o H).st G md).ev x = _ from evM_ev hx] at hX
  have hsl : ∃ ad len c, a.eval x = .slice ad len c ∧ (xs ≠ [] → ad.isNone = false) := by
    generalize a.eval x = X at hX
    cases hX with
    | p hX =>
      cases hX with
      | nl => exact ⟨_, _, _, rfl, fun h => absurd rfl h⟩
      | row => exact ⟨_, _, _, rfl, fun _ => rfl⟩
  obtain ⟨ad, len, c, h1, h2⟩ := hsl
  have hrun : (execOp a.eval ⟨some d, .binOp .eql t x (.const (.slice none 0 0)) ty2, ty, pos, af, gd⟩).run P w = .ok (.value (.bool ad.isNone)) w := by
    have hc : a.eval (.const (.slice none 0 0)) = .slice none 0 0 := rfl
    have h3 : (do eqGuard .eql t x (.const (.slice none 0 0)) (a.eval x) (a.eval (.const (.slice none 0 0))); Go.binOp .eql t (a.eval x) (a.eval (.const (.slice none 0 0))) : Sem Value).run P w = .ok (.bool ad.isNone) w := by
      rw [h1, hc]
      simp [eqGuard, Lib.run_eql_slice_nil w t e ad len c 0 0 (T.hsl _ _ he)]
    simp only [execOp]
    rw [Sem.run_bind, h3]; rfl
  unfold Oper.wp
  rw [hrun, Oper.upon_value]
  have hput := hr.put (v := .p (.c (.bool ad.isNone))) (V := .bool ad.isNone) (.p (.c rfl)) (some d)
  rw [st_put hd] at hput
  exact ⟨_, S, g, k _ h2, hput⟩
theorem EOps.ap0S (T : Tab P) (ks : List Nm) {ys : List (List TV)} {hbs : Nat → Bool} {ops : Array Oper} {K : St → Prop} {r : List Oper} {i : Nat} {l : List (Nat × TV)} {n : Nat} {o : List (Nat × AObj)} {H : List AObj} {d : Nat} {s x : Operand} {t : TypeId} {ty : TypeId} {pos : String} {af : Array Edge} {gd : Option (Nat × Bool)} {e z by_ : Nat} {b : Bool} {zs : List Value} {X : TV}
    (hf : hbs 4294967296 = true) (hg : gtM ops.toList l n gd = true) (hs : evM l s = some .nil) (hx : evM l x = some X) (he : T.sl t = some e) (hl : T.lay e = some (b, z)) (hz : T.zer e = some zs) (hby : T.byt e = some by_) (hq : (Nat.beq zs.length z && Nat.blt 0 z && Nat.blt 0 by_ && Nat.blt d n) = true)
    (hks : ∀ m ∈ ks, m.isS) (hmd : md d ≠ 0) (hsrc : srcM (obM o H) z X ys) (hk2 : ∀ y ∈ ys.flatten, y.All (· ∈ ks)) (hkl : ∀ m ∈ ks, m.lt H.length) (hby2 : ys.length * by_ ≤ 140737488355328)
    (k : EOps P hbs ops (i + 1) r ((MS.mk ((d, .vw (.S H.length) ys.length) :: l) n o (H ++ [.ow z e ks ys])).st G md) K) :
    EOps P hbs ops i (⟨some d, .call ⟨.builtin .append, #[s, x], #[t, t]⟩, ty, pos, af, gd⟩ :: r) ((MS.mk l n o H).st G md) K := by
  simp only [Bool.and_eq_true] at hq
  obtain ⟨⟨⟨c1, c2⟩, c3⟩, c4⟩ := hq
  have hb : 0 < by_ := Nat.le_of_ble_eq_true c3
  have hok : AppOk P t e z ys.length := ⟨T.hsl _ _ he, ⟨b, T.hlay _ _ hl⟩, ⟨zs, (T.hzer _ _ hz).1, Nat.eq_of_beq_eq_true c1⟩, Nat.le_of_ble_eq_true c2, ⟨by_, T.hbyt _ _ hby, hby2⟩, Nat.le_trans (Nat.le_mul_of_pos_right _ hb) hby2⟩
  have hobm : ((MS.mk l n o H).st G md).ob = obM o H := by funext m; exact obM_ob m
  have hfz : Fresh ((MS.mk l n o H).st G md) (.S H.length) := rfl
  refine EOps.sem hf (want_of hg) (fun E a w S g hr Q => ?_)
  have hev := hr.eval
  have hXr := hev x
  rw [show ((MS.mk l n o H).st G md).ev x = X from evM_ev hx] at hXr
  obtain ⟨ad, c, news, hsr⟩ := hsrc.sound (by rw [← hobm]; exact hr.obs) hXr
  obtain ⟨v', w', r1, r2, r4⟩ := hr.grow0Ow (P := P) (ty := ty) (ks := ks) hfz hok hsr hk2 hkl (fun m hm e => by have := hkl m hm; rw [e] at this; exact Nat.lt_irrefl _ this) (fun j e => hks)
  have hsv : a.eval s = .slice none 0 0 := by
    have h0 := hev s
    rw [show ((MS.mk l n o H).st G md).ev s = .nil from evM_ev hs] at h0
    generalize a.eval s = Y at h0
    cases h0; rfl
  have hrun : (execOp a.eval ⟨some d, .call ⟨.builtin .append, #[s, x], #[t, t]⟩, ty, pos, af, gd⟩).run P w = .ok (.value v') w' := by
    simp [execOp, resolve, invoke, builtin, hsv, r1]
  unfold Oper.wp
  rw [hrun, Oper.upon_value]
  have hput := r4.put (v := .vw (.S H.length) ys.length) (V := v') (.vw (fresh_lt hfz _) r2 (fun k' hk' => ?_)) (some d)
  · rw [show ((MS.mk l n o H).st G md).add (.S H.length) (.ow z e ks ys) = (MS.mk l n o (H ++ [.ow z e ks ys])).st G md from rfl, st_put c4] at hput
    exact ⟨_, S, _, k, hput⟩
  · have e' : ((((MS.mk l n o H).st G md).add (.S H.length) (.ow z e ks ys)).ob (.S H.length)).bind AObj.ln = some k' := hk'
    rw [add_same _ hfz] at e'
    simp only [Option.bind_some, AObj.ln, Option.some.injEq] at e'
    exact ⟨Nat.le_of_eq e', fun _ => (updG_v _ _ _).symm⟩
end
end Go.Proofs.YtbjjdjipdcdfhaaDoor.En
end
section
namespace Go.Proofs.YtbjjdjipdcdfhaaDoor.K
open Go Go.RowKit Go.Proofs.YtbjjdjipdcdfhaaDoor.En Go.Proofs.YtbjjdjipdcdfhaaDoor.Ty Go.Proofs.YtbjjdjipdcdfhaaDoor.B
set_option maxRecDepth 100000
set_option linter.unusedSimpArgs false
set_option linter.unusedVariables false
set_option pp.deepTerms false
set_option pp.deepTerms.threshold 8
set_option pp.maxSteps 1000
set_option maxHeartbeats 1000000
theorem clone2 (G : Nat → Option PV) (p : List Int) (hp : p.length ≤ 100000) : PF Tryd.prog G 48 [.row 1 (p.map pi)] (.p (.row 1 (p.map pi))) := by
  refine ⟨(by first | exact .p | exact .tp (fun x hx => by simp at hx; rcases hx with rfl | rfl <;> exact .p) | exact .tp (fun x hx => by simp at hx; rcases hx with rfl | rfl | rfl <;> exact .p)), bdy Tryd.func48 (fun _ => 0) rfl ?_⟩
  refine rn T 99 [] ?_
  refine rn T 1 [] ?_
  refine EOps.eqn T rfl rfl rfl rfl rfl ?_
  intro b hb
  refine rn T 99 [] ?_
  cases b with
  | true =>
    have : p = [] := by
      cases p with
      | nil => rfl
      | cons x r => exact absurd (hb (by simp)) (by simp)
    subst this
    refine cts ?_
    refine rn T 99 [] ?_
    exact ret1 T rfl (by (repeat' apply And.intro) <;> first | trivial | rfl | assumption | omega | exact mT rfl | exact mT (by assumption) | exact mM rfl | exact mM (by assumption) | exact mI (by assumption) | exact mS (by assumption) | exact mU (by assumption) | (simp; done) | (simp [Mn.f0, Mn.f1, Mn.f2, Mn.f3, Mn.f4, Tn.f0]; done) | (simp [*]; done) | (simp [relT, eT_eq, eM_eq, PV.cells, Tn.f0, Mn.f4, *]; done) | (simp; omega)) rfl
  | false =>
    refine cfs ?_
    refine rn T 99 [] ?_
    exact ret1 T rfl (by (repeat' apply And.intro) <;> first | trivial | rfl | assumption | omega | exact mT rfl | exact mT (by assumption) | exact mM rfl | exact mM (by assumption) | exact mI (by assumption) | exact mS (by assumption) | exact mU (by assumption) | (simp; done) | (simp [Mn.f0, Mn.f1, Mn.f2, Mn.f3, Mn.f4, Tn.f0]; done) | (simp [*]; done) | (simp [relT, eT_eq, eM_eq, PV.cells, Tn.f0, Mn.f4, *]; done) | (simp; omega)) rfl
theorem named2 (G : Nat → Option PV) (s : ByteArray) : PF Tryd.prog G 36 [ps s] (.p (pm ⟨2, 0, s, [], []⟩)) := by
  refine ⟨(by first | exact .p | exact .tp (fun x hx => by simp at hx; rcases hx with rfl | rfl <;> exact .p) | exact .tp (fun x hx => by simp at hx; rcases hx with rfl | rfl | rfl <;> exact .p)), bdy Tryd.func36 (fun _ => 0) rfl ?_⟩
  refine rn T 99 [] ?_
  refine rn T 99 [] ?_
  exact ret1 T rfl (by (repeat' apply And.intro) <;> first | trivial | rfl | assumption | omega | exact mT rfl | exact mT (by assumption) | exact mM rfl | exact mM (by assumption) | exact mI (by assumption) | exact mS (by assumption) | exact mU (by assumption) | (simp; done) | (simp [Mn.f0, Mn.f1, Mn.f2, Mn.f3, Mn.f4, Tn.f0]; done) | (simp [*]; done) | (simp [relT, eT_eq, eM_eq, PV.cells, Tn.f0, Mn.f4, *]; done) | (simp; omega)) rfl
theorem plain2 (G : Nat → Option PV) (t : Mn) : PF Tryd.prog G 58 [pm t] (.p (pb (t.f0 == 1 || t.f0 == 2))) := by
  obtain ⟨k, m, s, p, l⟩ := t
  show PF _ _ _ [.ag [pi k, pi m, ps s, .row 1 (p.map pi), .row 5 (l.map eM)]] (.p (pb (k == 1 || k == 2)))
  refine ⟨(by first | exact .p | exact .tp (fun x hx => by simp at hx; rcases hx with rfl | rfl <;> exact .p) | exact .tp (fun x hx => by simp at hx; rcases hx with rfl | rfl | rfl <;> exact .p)), bdy Tryd.func58 (fun _ => 0) rfl ?_⟩
  refine rn T 99 [] ?_
  refine rn T 4 [] ?_
  by_cases h : k = 1
  · subst h
    refine rn T 99 [] ?_
    exact ⟨[_], ⟨_, _, rfl, .inl rfl, rfl⟩, .p, rfl⟩
  · rw [show (k == 1) = false by simp [h]]
    refine rn T 99 [] ?_
    exact ⟨[_], ⟨_, _, rfl, .inl rfl, rfl⟩, .p, rfl⟩
def pok : Nat → Mn → Bool
  | 0, _ => true
  | n + 1, t => decide (t.f3.length ≤ 4) && t.f4.all (pok n)
theorem paths2 (G : Nat → Option PV) : ∀ (n : Nat) (t : Mn), dM n t = true → PF Tryd.prog G 37 [pm t] (.p (pb (pok n t))) := by
  intro n
  induction n with
  | zero => intro t h; cases h
  | succ n ih =>
    intro ⟨k, m, s, p, l⟩ h
    have hl : l.length ≤ 2 := dM_len h
    have ihx : ∀ x ∈ l, _ := fun x hx => ih x (by unfold dM at h; simp only [Bool.and_eq_true, List.all_eq_true] at h; exact h.2 x hx)
    show PF _ _ _ [.ag [pi k, pi m, ps s, .row 1 (p.map pi), .row 5 (l.map eM)]] (.p (pb (decide (p.length ≤ 4) && l.all (pok n))))
    refine ⟨(by first | exact .p | exact .tp (fun x hx => by simp at hx; rcases hx with rfl | rfl <;> exact .p) | exact .tp (fun x hx => by simp at hx; rcases hx with rfl | rfl | rfl <;> exact .p)), bdy Tryd.func37 (fun _ => 0) rfl ?_⟩
    refine rn T 99 [] ?_
    refine rn T 99 [] ?_
    by_cases hp : p.length ≤ 4
    · rw [decide_eq_true hp, Bool.true_and]
      refine cfq rfl (by simp; omega) ?_
      refine rn T 99 [] ?_
      refine lpw (fun i : Nat => MS.mk [(12, .p (pi i)), (11, .p (pi (l.map eM).length)), (10, .p (.row 5 (l.map eM))), (1, .ptr (.L 1) 0)] 20 [(1, .box 26 [.p (pi k), .p (pi m), .p (ps s), .p (.row 1 (p.map pi)), .p (.row 5 (l.map eM))])] []) (fun m i => m + i = l.length ∧ (l.take i).all (pok n) = true) (l.length) (0) (by simp) ?_
      intro m2 i ⟨h3, h4⟩
      refine op ?_
      refine rn T 99 [] ?_
      by_cases hi : i < l.length
      · obtain ⟨x, hx, hdd⟩ := drop_ix hi
        refine ctq rfl (by simp [hi]) ?_
        refine rn T 99 [pm x] ?_
        have hc := ihx x (List.mem_of_getElem? hx)
        refine rn T 99 [] ?_
        refine pcs (hc) ?_
        refine rn T 99 [] ?_
        cases hpx : pok n x with
        | true =>
          refine cfs ?_
          refine rn T 99 [] ?_
          rw [wkS (by omega)]
          refine nxt (m2 - 1) (i + 1) (⟨by omega, by rw [List.take_add_one, hx]; simp [h4, hpx]⟩)
        | false =>
          refine cts ?_
          refine rn T 99 [] ?_
          have : l.all (pok n) = false := by
            rw [List.all_eq_false]
            exact ⟨x, List.mem_of_getElem? hx, by simp [hpx]⟩
          rw [this]
          exact ⟨[_], ⟨_, _, rfl, .inl rfl, rfl⟩, .p, rfl⟩
      · refine cfq rfl (by simp [hi]) ?_
        refine rn T 99 [] ?_
        have : l.all (pok n) = true := by rw [← h4, List.take_of_length_le (by omega)]
        rw [this]
        exact ⟨[_], ⟨_, _, rfl, .inl rfl, rfl⟩, .p, rfl⟩
    · rw [decide_eq_false hp, Bool.false_and]
      refine ctq rfl (by simp; omega) ?_
      refine rn T 99 [] ?_
      exact ⟨[_], ⟨_, _, rfl, .inl rfl, rfl⟩, .p, rfl⟩
end Go.Proofs.YtbjjdjipdcdfhaaDoor.K
end
