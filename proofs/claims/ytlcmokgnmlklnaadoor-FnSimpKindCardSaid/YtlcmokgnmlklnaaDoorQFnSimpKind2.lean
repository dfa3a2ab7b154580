-- YtlcmokgnmlklnaaDoor's texts for the statement FnSimpKind, one behind the other (merge.py).
import Derived.Test.YtlcmokgnmlklnaaDoorQFnSimpKind0
import Derived.Test.YtlcmokgnmlklnaaDoorQFnSimpKind1
import Derived.Test.YtlcmokgnmlklnaaDoorProg
import Derived.WalkKit
import Derived.LaidEql
import Derived.Stop.Asserts
import Derived.RowKitTokens
section
namespace Go.Proofs.YtlcmokgnmlklnaaDoor.En
set_option linter.unusedVariables false
set_option linter.unusedSimpArgs false
open Go Go.RowKit Go.Proofs.YtlcmokgnmlklnaaDoor.PA
variable {P : Program} {E : Ent} {σ : St} {a : Act} {w : World} {S : Nat → Nat → Prop} {g : Nm → GV}
theorem Rep.owner (h : Rep E σ a w S g) {m : Nm} (hm : (σ.ob m).isSome) {b : Nat} (hb : (g m).B b) : E.w.heap.size ≤ b ∨ ∃ j, j < E.n ∧ (E.g (.S j)).B b := by
  cases m with
  | L t => exact h.lo t hm b hb
  | S i =>
    obtain ⟨o, ho⟩ := Option.isSome_iff_exists.1 hm
    exact h.ev.own i (List.getElem?_eq_some_iff.1 ho).1 b hb
theorem Rep.re (h : Rep E σ a w S g) {σ' : St} {S' : Nat → Nat → Prop} {g' : Nm → GV} (hnt : σ'.nt = σ.nt) (hG : σ'.G = σ.G) (hH : σ.H.length ≤ σ'.H.length)
    (htm : ∀ t V, TRep (σ.env w S g) (σ.tm t) V → TRep (σ'.env w S' g') (σ'.tm t) V)
    (hS : ∀ b k, S b k → S' b k) (hS2 : ∀ b k, S' b k → S b k ∨ ∃ n, (σ.ob n).isSome ∧ (g n).B b)
    (hob : ∀ n o, σ'.ob n = some o → ORep (σ'.env w S' g') n o)
    (hdj : ∀ n m, n ≠ m → (σ'.ob n).isSome → (σ'.ob m).isSome → ∀ b, (g' n).B b → ¬ (g' m).B b)
    (hB : ∀ n, (σ'.ob n).isSome → ∀ b, (g' n).B b → ∃ m, (σ.ob m).isSome ∧ (g m).B b)
    (hs : ∀ (i : Nat) (o : AObj), σ'.H[i]? = some o → o.All Nm.isS)
    (hN : ∀ i, i < σ.H.length → NmOk (σ.env w S g) (σ'.env w S' g') (.S i)) : Rep E σ' a w S' g' where
  tm := fun t => htm t _ (h.tm t)
  nt := h.nt.trans hnt.symm
  df := h.df
  ob := hob
  dj := hdj
  st := fun b k hk => by
    rcases hS2 b k hk with q | ⟨n, q1, q2⟩
    · exact h.st b k q
    · obtain ⟨o, ho⟩ := Option.isSome_iff_exists.1 q1
      exact (h.ob n o ho).lt q2
  lo := fun t ht b hb => by
    obtain ⟨m, q1, q2⟩ := hB (.L t) ht b hb
    exact h.owner q1 q2
  hs := hs
  ev := ⟨h.ev.os, h.ev.tape, h.ev.output, h.ev.size, Nat.le_trans h.ev.n hH, h.ev.block, fun b k hk => ⟨hS b k (h.ev.stb b k hk).1, (h.ev.stb b k hk).2⟩, fun b k hk => by
    rcases hS2 b k hk with q | ⟨n, q1, q2⟩
    · exact h.ev.new b k q
    · exact .inr (h.owner q1 q2), fun i hi b hb => by
    obtain ⟨m, q1, q2⟩ := hB (.S i) (by show (σ'.H[i]?).isSome = true; simp [hi]) b hb
    exact h.owner q1 q2⟩
  gl := fun i y hy => by
    rw [hG] at hy
    obtain ⟨u, h1, h2, h3, h4⟩ := h.gl i y hy
    exact ⟨u, hS _ _ h1, h2, h3, h4.move (fun b k hk => ⟨hS b k hk, rfl⟩)⟩
  nm := fun i hi => (h.nm i hi).trans (hN i (Nat.lt_of_lt_of_le hi h.ev.n))
  eG := hG.trans h.eG
mutual
def frz : PV → PV
  | .own z _ xs => .row z (frzs xs)
  | .ag l => .ag (frzs l)
  | .c v => .c v
  | .ifc t v => .ifc t v
  | .row z xs => .row z xs
  | .any => .any
def frzs : List PV → List PV
  | [] => []
  | x :: xs => frz x :: frzs xs
end
mutual
def okF : PV → Bool
  | .own _ _ xs => okFs xs
  | .ag l => okFs l
  | .any => false
  | .c _ => true
  | .ifc _ _ => true
  | .row _ _ => true
def okFs : List PV → Bool
  | [] => true
  | x :: xs => okF x && okFs xs
end
theorem frzs_map : ∀ l, frzs l = l.map frz
  | [] => by unfold frzs; rfl
  | x :: l => by unfold frzs; rw [frzs_map l]; rfl
theorem okFs_all : ∀ l, okFs l = l.all okF
  | [] => by unfold okFs; rfl
  | x :: l => by unfold okFs; rw [okFs_all l]; rfl
theorem frz_cells (v : PV) : (frz v).cells = v.cells.map frz := by
  cases v <;> simp [frz, PV.cells, frzs_map]
theorem okF_cells (v : PV) (h : okF v = true) : ∀ y ∈ v.cells, okF y = true := by
  cases v with
  | ag l =>
    unfold okF at h
    rw [okFs_all, List.all_eq_true] at h
    exact h
  | c => intro y hy; simp [PV.cells] at hy; subst hy; exact h
  | ifc => intro y hy; simp [PV.cells] at hy; subst hy; exact h
  | row => intro y hy; simp [PV.cells] at hy; subst hy; exact h
  | own => intro y hy; simp [PV.cells] at hy; subst hy; exact h
  | any => unfold okF at h; cases h
theorem flat_frz (xs : List PV) : flat (xs.map frz) = (flat xs).map frz := by
  induction xs with
  | nil => rfl
  | cons x xs ih => rw [List.map_cons, flat_cons, flat_cons, ih, List.map_append, frz_cells]
theorem PRep.frz {v : PV} {V : Value} (h : PRep w S v V) : En.frz v = v := by
  induction h with
  | c => rfl
  | @ag l A hs h h1 ih =>
    unfold En.frz
    rw [frzs_map]
    congr 1
    refine List.ext_getElem? (fun k => ?_)
    rw [List.getElem?_map]
    cases hk : l[k]? with
    | none => rfl
    | some y =>
      have hlt : k < A.length := by rw [hs]; exact (List.getElem?_eq_some_iff.1 hk).1
      rw [Option.map_some, ih k y _ hk (List.getElem?_eq_getElem hlt)]
  | ifc => rfl
  | nl => rfl
  | row => rfl
theorem LRep.frz {v : PV} {V : Value} {B : Nat → Prop} (h : LRep w S v V B) : okF v = true → ∀ {S' : Nat → Nat → Prop}, (∀ b k, S b k → S' b k) → (∀ b k, B b → S' b k) → PRep w S' (En.frz v) V := by
  induction h with
  | p h hB =>
    intro _ S' h1 _
    rw [h.frz]
    exact h.move (fun b k hk => ⟨h1 b k hk, rfl⟩)
  | any h hB => intro ho; unfold okF at ho; cases ho
  | @ag l A B F hs h h1 hd hB ih =>
    intro ho S' g1 g2
    have hok : ∀ y ∈ l, okF y = true := okF_cells (.ag l) ho
    unfold En.frz
    rw [frzs_map]
    refine .ag (by simpa using hs) (fun k y u hy hu => ?_) h1
    rw [List.getElem?_map] at hy
    cases hk : l[k]? with
    | none => rw [hk] at hy; cases hy
    | some x =>
      rw [hk] at hy
      cases hy
      exact ih k x u hk hu (hok x (List.mem_of_getElem? hk)) g1 (fun b j hb => g2 b j ((hB b).2 ⟨k, (List.getElem?_eq_some_iff.1 hk).1, hb⟩))
  | @own z t xs V B fl F hown hz h h1 hd hb hB ih =>
    intro hok S' g1 g2
    have hokx : ∀ x ∈ xs, okF x = true := by unfold okF at hok; rw [okFs_all, List.all_eq_true] at hok; exact hok
    have hokf : ∀ y ∈ flat xs, okF y = true := by
      intro y hy
      obtain ⟨x, hx, hyx⟩ := List.mem_flatMap.1 hy
      exact okF_cells x (hokx x hx) y hyx
    unfold En.frz
    rw [frzs_map]
    rcases hown.2 with ⟨e1, e2⟩ | ⟨gb, cap, cur, e1, e2, e3, e4, e5, e6, e7⟩
    · obtain rfl := List.length_eq_zero_iff.1 e2
      rw [e1]; exact .nl
    · have hln : (xs.map En.frz).length = xs.length := by simp
      have hfx : (flat xs).length = fl.length := by rw [flat_len hz, hown.1]
      rw [e1]
      have key := PRep.row (w := w) (S := S') (z := z) (xs := xs.map En.frz) (b := gb) (off := 0) (c := cap) (fun k => fl.getD k undef) (by simpa using e4) ?_ ?_ ?_
      · simpa using key
      · intro x hx
        obtain ⟨y, hy, rfl⟩ := List.mem_map.1 hx
        rw [frz_cells, List.length_map]; exact hz y hy
      · intro k y hy
        rw [flat_frz, List.getElem?_map] at hy
        cases hk : (flat xs)[k]? with
        | none => rw [hk] at hy; cases hy
        | some x =>
          rw [hk] at hy
          cases hy
          have hk2 : k < fl.length := by rw [← hfx]; exact (List.getElem?_eq_some_iff.1 hk).1
          have := ih k x _ hk (List.getElem?_eq_getElem hk2) (hokf x (List.mem_of_getElem? hk)) g1 (fun b j hF => g2 b j ((hB b).2 (.inr ⟨k, hk2, hF⟩)))
          simpa [List.getD, List.getElem?_eq_getElem hk2] using this
      · intro k hk
        have hk2 : k < fl.length := by rw [hown.1]; simpa using hk
        have hcell := World.ownsRow.cells (h := hown) (g := gb) (by rw [e1]; rfl) k _ (List.getElem?_eq_getElem hk2)
        rw [Addr.add_mid] at hcell
        refine ⟨g2 _ _ ((hB gb).2 (.inl (by rw [e1]; rfl))), ?_, ?_⟩
        · rw [hcell]; simp [List.getD, List.getElem?_eq_getElem hk2]
        · have := h1 _ (List.getElem_mem hk2)
          simpa [List.getD, List.getElem?_eq_getElem hk2] using this
def FrzC (ob : Nm → Option AObj) (c : TV) (y : PV) : Prop := (∃ v, c = .o v ∧ okF v = true ∧ y = frz v) ∨ (noO c ∧ ToPV ob c y)
theorem Rep.freeze (h : Rep E σ a w S g) {n : Nm} {z : Nat} {t : TypeId} {ks : List Nm} {xs : List (List TV)} (hn : σ.ob n = some (.ow z t ks xs)) {vs : List PV} (hl : vs.length = xs.length) (hz : ∀ v ∈ vs, v.cells.length = z)
    (hc : ∀ (k : Nat) c y, xs.flatten[k]? = some c → (flat vs)[k]? = some y → FrzC σ.ob c y) : ∃ S' g', Rep E (σ.set n (.rw z t vs)) a w S' g' := by
  have hob := h.obs
  obtain ⟨_, _, fl, F, o1, o2, o3, o4, o5, o6, o7, o8⟩ := h.ob n _ hn
  have o1' : w.ownsRow 0 t z (g n).v xs.length fl := o1
  have o7' : ∀ b, (g n).B b ↔ blk (g n).v = some b ∨ ∃ k, k < fl.length ∧ F k b := o7
  have o8' : ∀ b, (g n).B b → ∀ k, ¬ S b k := o8
  have o6' : ∀ k b, k < fl.length → F k b → blk (g n).v ≠ some b := o6
  let S' : Nat → Nat → Prop := fun b k => S b k ∨ ((g n).B b ∧ (blk (g n).v = some b → k < xs.length * z))
  let g' : Nm → GV := updG g n (gvOf (g n).v)
  have hgn : g' n = gvOf (g n).v := updG_same _ _ _
  have hgo : ∀ m, m ≠ n → g' m = g m := fun m hm => if_neg hm
  have hgv : ∀ m, (g' m).v = (g m).v := fun m => by
    by_cases e : m = n
    · rw [e, hgn]; rfl
    · rw [hgo m e]
  have hgB : ∀ m b, (g' m).B b → (g m).B b := fun m b hb => by
    by_cases e : m = n
    · subst e; rw [hgn] at hb; exact (o7' b).2 (.inl hb)
    · rwa [hgo m e] at hb
  have hN : ∀ m, NmOk (σ.env w S g) ((σ.set n (.rw z t vs)).env w S' g') m := by
    intro m
    refine .inl ⟨hgv m, .inr ?_⟩
    show ((σ.set n _).ob m).bind AObj.ln = (σ.ob m).bind AObj.ln
    by_cases e : m = n
    · subst e; rw [set_same _ hn, hn]; simp [AObj.ln, hl]
    · rw [set_other _ e]
  have hmove : ∀ (v : TV) V, TRep (σ.env w S g) v V → TRep ((σ.set n (.rw z t vs)).env w S' g') v V := fun v V hv =>
    TRep.move (Γ := σ.env w S g) (Γ' := (σ.set n (.rw z t vs)).env w S' g') (q := fun _ => True) (fun b k hk => ⟨Or.inl hk, rfl⟩) (Nat.le_of_eq (set_H _).symm) (fun m _ _ => hN m) hv (hAllT v)
  refine ⟨S', g', h.re (set_nt _) (set_G _) (Nat.le_of_eq (set_H _).symm) (fun t V hv => by rw [set_tm]; exact hmove _ _ hv) (fun b k hk => .inl hk) (fun b k hk => hk.imp id (fun q => ⟨n, by rw [hn]; rfl, q.1⟩)) ?_ ?_ ?_ ?_ (fun i _ => hN (.S i))⟩
  · intro m o ho
    by_cases e : m = n
    · subst e
      rw [set_same _ hn] at ho
      cases ho
      have hg2 : ((σ.set m (.rw z t vs)).env w S' g').g m = gvOf (g m).v := hgn
      refine ⟨fl, ?_, ?_, hz, ?_, ?_⟩
      · rw [hg2, hl]; exact o1'
      · rw [hg2]; exact fun b => Iff.rfl
      · intro k y u hy hu
        have hk : k < xs.flatten.length := by rw [flatten_len o2, ← o1'.1]; exact (List.getElem?_eq_some_iff.1 hu).1
        have h0 := o3 k _ u (List.getElem?_eq_getElem hk) hu
        have h1 := hc k _ y (List.getElem?_eq_getElem hk) hy
        have hku : k < fl.length := (List.getElem?_eq_some_iff.1 hu).1
        refine ⟨?_, o4 u (List.mem_of_getElem? hu)⟩
        generalize xs.flatten[k] = c at h0 h1
        rcases h1 with ⟨v, rfl, h2, rfl⟩ | ⟨h2, h3⟩
        · cases h0 with
          | t h _ => cases h
          | o h0 =>
            refine h0.frz h2 (fun b j hj => .inl hj) (fun b j hF => .inr ⟨(o7' b).2 (.inr ⟨k, hku, hF⟩), fun e => absurd e (o6' k b hku hF)⟩)
        · cases h0 with
          | t h0 _ => exact (h3.sound hob h0).move (fun b j hj => ⟨.inl hj, rfl⟩)
          | o _ => exact h2.elim
      · rw [hg2]
        intro b hb k
        refine ⟨fun hk => ?_, fun hk => .inr ⟨(o7' b).2 (.inl hb), fun _ => by rw [← hl]; exact hk⟩⟩
        rcases hk with hk | hk
        · exact absurd hk (o8' b ((o7' b).2 (.inl hb)) k)
        · rw [hl]; exact hk.2 hb
    · rw [set_other _ e] at ho
      refine ORep.move (Γ := σ.env w S g) (Γ' := (σ.set n (.rw z t vs)).env w S' g') (q := fun _ => True) (fun b k hk => ⟨Or.inl hk, rfl⟩) (Nat.le_of_eq (set_H _).symm) (fun m _ _ => hN m) (h.ob m o ho) (hAllO o) (hgo m e) (fun b hb => ⟨rfl, fun k hk => ?_⟩)
      rcases hk with hk | hk
      · exact hk
      · exact absurd hk.1 (h.dj m n e (by rw [ho]; rfl) (by rw [hn]; rfl) b hb)
  · intro m1 m2 hne h1 h2 b b1 b2
    have hso : ∀ m, ((σ.set n (.rw z t vs)).ob m).isSome → (σ.ob m).isSome := fun m hm => by
      by_cases e : m = n
      · rw [e, hn]; rfl
      · rwa [set_other _ e] at hm
    exact h.dj m1 m2 hne (hso _ h1) (hso _ h2) b (hgB _ _ b1) (hgB _ _ b2)
  · intro m hm b hb
    refine ⟨m, ?_, hgB _ _ hb⟩
    by_cases e : m = n
    · rw [e, hn]; rfl
    · rwa [set_other _ e] at hm
  · intro i o ho
    by_cases e : Nm.S i = n
    · subst e
      rw [show (σ.set (.S i) (.rw z t vs)).H[i]? = some (.rw z t vs) from set_same _ hn] at ho
      cases ho
      trivial
    · rw [show (σ.set n (.rw z t vs)).H[i]? = σ.H[i]? from set_other _ e] at ho
      exact h.hs i o ho
end Go.Proofs.YtlcmokgnmlklnaaDoor.En
end
section
namespace Go.Proofs.YtlcmokgnmlklnaaDoor.En
set_option linter.unusedVariables false
set_option linter.unusedSimpArgs false
open Go Go.RowKit Go.Proofs.YtlcmokgnmlklnaaDoor.PA
section
variable {P : Program} {E : Ent} {σ : St} {a : Act} {w : World} {S : Nat → Nat → Prop} {g : Nm → GV}
theorem Rep.litOw (h : Rep E σ a w S g) {t d len : Nat} {parts : Array (Nat × Operand)} {e z : Nat} {b : Bool} {ks : List Nm} (ht : P.underlying t = some (.slice e)) (hl : lay P e = some (b, z)) (hzz : zer P e ≠ none) (hz0 : 0 < z) (hn : len * z ≤ 16777216)
    (hi : parts.toList.map (·.1) = List.range len) (hc : ∀ q ∈ parts.toList, hasCells (σ.ev q.2) ∧ (tcells (σ.ev q.2)).length = z) (hf : Fresh σ (.L d)) (hks : ∀ q ∈ parts.toList, ∀ x ∈ tcells (σ.ev q.2), x.All (· ∈ ks)) (hkl : ∀ n ∈ ks, n.lt σ.H.length) (hkd : ∀ n ∈ ks, n ≠ .L d)
    {o : Oper} (ho : o.op = .buildSlice t len parts) :
    ∃ w' g', (execOp a.eval o).run P w = .ok (.value (.slice (some ⟨w.heap.size, 0, none⟩) len len)) w' ∧ (g' (.L d)).v = .slice (some ⟨w.heap.size, 0, none⟩) len len ∧ Rep E (σ.add (.L d) (.ow z e ks (parts.toList.map fun q => tcells (σ.ev q.2)))) a w' S g' := by
  have hev := h.eval
  obtain ⟨zs, hzs⟩ := Option.ne_none_iff_exists'.1 hzz
  obtain ⟨Z, z1, z2, _⟩ := zer_run (w := w) hzs
  have hsz : (sizeOf e).run P w = .ok z w := lay_size hl w
  have hpl : parts.toList.length = len := by have := congrArg List.length hi; simpa using this
  have hrp : ∀ q ∈ parts.toList, CRep (σ.env w S g) (tcells (σ.ev q.2)) (a.eval q.2).cells.toList := fun q hq => tcells_rep (hev q.2) (hc q hq).1
  have hVs : ∀ V ∈ parts.toList.map (fun q => a.eval q.2), V.cells.size = z := by
    intro V hV
    obtain ⟨q, hq, rfl⟩ := List.mem_map.1 hV
    rw [← (hc q hq).2, ← (hrp q hq).len]; simp
  have hparts : (parts.map fun (i, x) => (i, a.eval x)).toList = (List.range' 0 (parts.toList.map (fun q => a.eval q.2)).length).zip (parts.toList.map (fun q => a.eval q.2)) := by
    rw [List.length_map, hpl, ← List.range_eq_range', ← hi, Array.toList_map, List.zip_map']
  obtain ⟨A', f1, f2⟩ := fill_seq (z := z) (parts.toList.map (fun q => a.eval q.2)) 0 ((Array.range (len * z)).map (fun i => (if len * z = 0 then #[] else Z.cells)[i % (if len * z = 0 then #[] else Z.cells).size]!)) [] hVs (by simp) (by simp) (by simp [hpl])
  rw [← hparts] at f1
  have hcr : ∀ l : List (Nat × Operand), (∀ q ∈ l, q ∈ parts.toList) → CRep (σ.env w S g) (l.map fun q => tcells (σ.ev q.2)).flatten ((l.map (fun q => a.eval q.2)).flatMap (fun V => V.cells.toList)) := by
    intro l
    induction l with
    | nil => intro _; exact ⟨rfl, fun k y u hy => by simp at hy, fun u hu => by simp at hu⟩
    | cons q l ih =>
      intro hq
      simp only [List.map_cons, List.flatten_cons, List.flatMap_cons]
      exact (hrp q (hq q (by simp))).append (ih (fun q' hq' => hq q' (by simp [hq'])))
  have hcrep : CRep (σ.env w S g) (parts.toList.map fun q => tcells (σ.ev q.2)).flatten A'.toList := by rw [f2, List.nil_append]; exact hcr _ (fun _ h => h)
  have hzl : ∀ x ∈ parts.toList.map (fun q => tcells (σ.ev q.2)), x.length = z := by
    intro x hx
    obtain ⟨q, hq, rfl⟩ := List.mem_map.1 hx
    exact (hc q hq).2
  have hAl : A'.size = len * z := by
    have := hcrep.len
    rw [flatten_len hzl, List.length_map, hpl] at this
    simpa using this
  have hr : (execOp a.eval o).run P w = .ok (.value (.slice (some ⟨w.heap.size, 0, none⟩) len len)) (w.alloc (.cells A' e)) := by
    by_cases h0 : len * z = 0
    · simp [h0] at f1
      simp [execOp, ho, Instr.buildSlice, run_underlying ht, hsz, h0, f1, Go.newRow]
    · simp [h0] at f1
      have hn' : ¬ (16777216 < len * z) := by omega
      simp [execOp, ho, Instr.buildSlice, run_underlying ht, hsz, h0, hn', z1, f1, Go.newRow]
  have hnew := h.newOw hf (z := z) (t := e) (ks := ks) (xs := parts.toList.map fun q => tcells (σ.ev q.2)) (v := .slice (some ⟨w.heap.size, 0, none⟩) len len) (w' := w.alloc (.cells A' e)) (fl := A'.toList) (World.grownBy_alloc w _ _)
    (by rw [List.length_map, hpl]; exact World.ownsRow_lit w A' len (Nat.le_refl _) (by simp only [maxLen]; have : len ≤ len * z := Nat.le_mul_of_pos_right len hz0; omega) hAl) hzl hcrep
    (fun x hx => by
      obtain ⟨c, hcm, hxc⟩ := List.mem_flatten.1 hx
      obtain ⟨q, hq, rfl⟩ := List.mem_map.1 hcm
      exact hks q hq x hxc) hkl hkd (fun i e => by cases e)
  exact ⟨_, _, hr, by rw [updG_v], hnew⟩
end
section
variable {P : Program} {G : Nat → Option PV} {md : Nat → Nat}
theorem want_of {ops : Array Oper} {l : List (Nat × TV)} {n : Nat} {o : List (Nat × AObj)} {H : List AObj} {op : Oper} (hg : gtM ops.toList l n op.guard = true) : WantT ops ((MS.mk l n o H).st G md) op true := by
  unfold WantT
  cases e : op.guard with
  | none => rfl
  | some q =>
    obtain ⟨j, want⟩ := q
    rw [e] at hg
    unfold gtM at hg
    simp only at hg
    split at hg
    · rename_i t ht
      split at hg
      · rename_i v hl hlt
        split at hg
        · rename_i b hb
          subst hg
          exact ⟨t, by simpa using ht, Nat.le_of_ble_eq_true hlt, by rw [show ((MS.mk l n o H).st G md).tm t = v from (by show lkT l t = _; unfold lkT; rw [hl])]; exact hb⟩
        · cases hg
      · cases hg
    · cases hg
def inKs (ks : List Nm) (v : TV) : Prop := v.All (· ∈ ks)
theorem EOps.bs (T : Tab P) (ks : List Nm) {hbs : Nat → Bool} {ops : Array Oper} {K : St → Prop} {r : List Oper} {i : Nat} {l : List (Nat × TV)} {n : Nat} {o : List (Nat × AObj)} {H : List AObj} {d t len : Nat} {parts : Array (Nat × Operand)} {ty : TypeId} {pos : String} {af : Array Edge} {gd : Option (Nat × Bool)} {e z : Nat} {b : Bool} {vs : List TV}
    (hf : hbs 4294967296 = true) (hg : gtM ops.toList l n gd = true) (he : T.sl t = some e) (hl : T.lay e = some (b, z)) (hz : (T.zer e).isSome = true) (hq : (Nat.blt 0 z && Nat.ble (len * z) 16777216 && decide (parts.toList.map (·.1) = List.range len)) = true)
    (hv : evL l (parts.toList.map (·.2)) = some vs) (hc : ∀ v ∈ vs, hasCells v ∧ (tcells v).length = z ∧ ∀ x ∈ tcells v, x.All (· ∈ ks)) (hfr : (freT d l && freO d o && nmBs d ks && Nat.blt d n) = true) (hkl : ∀ m ∈ ks, m.lt H.length)
    (k : EOps P hbs ops (i + 1) r ((MS.mk ((d, .vw (.L d) len) :: l) n ((d, .ow z e ks (vs.map tcells)) :: o) H).st G md) K) :
    EOps P hbs ops i (⟨some d, .buildSlice t len parts, ty, pos, af, gd⟩ :: r) ((MS.mk l n o H).st G md) K := by
  simp only [Bool.and_eq_true, decide_eq_true_eq] at hq hfr
  obtain ⟨⟨q1, q2⟩, q3⟩ := hq
  obtain ⟨⟨⟨f1, f2⟩, f3⟩, f4⟩ := hfr
  have hvs := evL_spec (G := G) (md := md) (s := MS.mk l n o H) hv
  have hpl : parts.toList.length = len := by have := congrArg List.length q3; simpa using this
  have hmem : ∀ q ∈ parts.toList, ((MS.mk l n o H).st G md).ev q.2 ∈ vs := by
    intro q hq
    rw [← hvs, List.map_map]
    exact List.mem_map.2 ⟨q, hq, rfl⟩
  have hfz : Fresh ((MS.mk l n o H).st G md) (.L d) := fresh_of f1 f2
  refine EOps.sem hf (want_of hg) (fun E a w S g hr Q => ?_)
  obtain ⟨w', g', r1, r2, r3⟩ := hr.litOw (P := P) (ks := ks) (T.hsl _ _ he) (T.hlay _ _ hl) (by
      cases hzz : T.zer e with
      | none => rw [hzz] at hz; cases hz
      | some zs => rw [(T.hzer _ _ hzz).1]; simp) (Nat.le_of_ble_eq_true q1) (Nat.le_of_ble_eq_true q2) q3 (fun q hq => ⟨(hc _ (hmem q hq)).1, (hc _ (hmem q hq)).2.1⟩) hfz (fun q hq x hx => (hc _ (hmem q hq)).2.2 x hx) hkl (nmBs_spec d ks f3) (o := ⟨some d, .buildSlice t len parts, ty, pos, af, gd⟩) rfl
  unfold Oper.wp
  rw [r1, Oper.upon_value]
  have hadd : ((MS.mk l n o H).st G md).add (.L d) (.ow z e ks (parts.toList.map fun q => tcells (((MS.mk l n o H).st G md).ev q.2))) = (MS.mk l n ((d, .ow z e ks (vs.map tcells)) :: o) H).st G md := by
    rw [← hvs, List.map_map, List.map_map]
    exact st_addL
  have hput := r3.put (v := .vw (.L d) len) (V := .slice (some ⟨w.heap.size, 0, none⟩) len len) (.vw trivial rfl (fun k' hk' => ?_)) (some d)
  · rw [hadd, st_put f4] at hput
    exact ⟨_, S, g', k, hput⟩
  · have e' : ((((MS.mk l n o H).st G md).add (.L d) (.ow z e ks (parts.toList.map fun q => tcells (((MS.mk l n o H).st G md).ev q.2)))).ob (.L d)).bind AObj.ln = some k' := hk'
    rw [add_same _ hfz] at e'
    simp only [Option.bind_some, AObj.ln, List.length_map, hpl, Option.some.injEq] at e'
    exact ⟨Nat.le_of_eq e', fun _ => r2.symm⟩
def srcM (ob : Nm → Option AObj) (z : Nat) (x : TV) (ys : List (List TV)) : Prop :=
  (∃ ps, RowOf ob x z ps ∧ ys = ps.map fun y => y.cells.map TV.p) ∨ (∃ nm len t ks, x = .vw nm len ∧ ob nm = some (.ow z t ks ys) ∧ ys.length = len ∧ ∀ y ∈ ys.flatten, noO y)
theorem srcM.sound {Γ : Env} {ob : Nm → Option AObj} (hob : Obs Γ ob) {z : Nat} {x : TV} {ys : List (List TV)} (h : srcM ob z x ys) {X : Value} (hx : TRep Γ x X) : ∃ ad c news, SrcRow Γ z ys X ad c news := by
  rcases h with ⟨ps, h1, rfl⟩ | ⟨nm, len, t, ks, rfl, h1, h2, h3⟩
  · exact SrcRow.pure (h1.sound hob hx)
  · cases hx with
    | vw hn _ hg =>
      have hV := (hg ys.length (by rw [hob.ln, h1]; rfl)).2 h2.symm
      rw [hV]
      exact SrcRow.ow (hob.rep nm _ h1) h3
theorem EOps.ap (T : Tab P) (ks' : List Nm) {ys : List (List TV)} {hbs : Nat → Bool} {ops : Array Oper} {K : St → Prop} {r : List Oper} {i : Nat} {l : List (Nat × TV)} {n : Nat} {o : List (Nat × AObj)} {H : List AObj} {d : Nat} {s x : Operand} {t : TypeId} {ty : TypeId} {pos : String} {af : Array Edge} {gd : Option (Nat × Bool)} {e z by_ : Nat} {b : Bool} {zs : List Value} {nm : Nm} {len : Nat} {ks : List Nm} {xs : List (List TV)} {X : TV}
    (hf : hbs 4294967296 = true) (hg : gtM ops.toList l n gd = true) (hs : evM l s = some (.vw nm len)) (hn : obM o H nm = some (.ow z e ks xs)) (hx : evM l x = some X) (he : T.sl t = some e) (hl : T.lay e = some (b, z)) (hz : T.zer e = some zs) (hby : T.byt e = some by_) (hq : (Nat.beq zs.length z && Nat.blt 0 z && Nat.blt 0 by_ && Nat.blt d n) = true)
    (hlen : xs.length = len) (hsrc : srcM (obM o H) z X ys) (hk1 : ∀ m ∈ ks, m ∈ ks') (hk2 : ∀ y ∈ ys.flatten, y.All (· ∈ ks')) (hkl : ∀ m ∈ ks', m.lt H.length) (hkS : ∀ j, nm = .S j → ∀ m ∈ ks', m.isS) (hby2 : (xs.length + ys.length) * by_ ≤ 140737488355328)
    (k : EOps P hbs ops (i + 1) r ((MS.mk ((d, .vw nm (xs.length + ys.length)) :: l) n (setM nm (.ow z e ks' (xs ++ ys)) o H).1 (setM nm (.ow z e ks' (xs ++ ys)) o H).2).st G md) K) :
    EOps P hbs ops i (⟨some d, .call ⟨.builtin .append, #[s, x], #[t, t]⟩, ty, pos, af, gd⟩ :: r) ((MS.mk l n o H).st G md) K := by
  simp only [Bool.and_eq_true] at hq
  obtain ⟨⟨⟨c1, c2⟩, c3⟩, c4⟩ := hq
  have hb : 0 < by_ := Nat.le_of_ble_eq_true c3
  have hok : AppOk P t e z (xs.length + ys.length) := ⟨T.hsl _ _ he, ⟨b, T.hlay _ _ hl⟩, ⟨zs, (T.hzer _ _ hz).1, Nat.eq_of_beq_eq_true c1⟩, Nat.le_of_ble_eq_true c2, ⟨by_, T.hbyt _ _ hby, hby2⟩, Nat.le_trans (Nat.le_mul_of_pos_right _ hb) hby2⟩
  have hobm : ((MS.mk l n o H).st G md).ob = obM o H := by funext m; exact obM_ob m
  refine EOps.sem hf (want_of hg) (fun E a w S g hr Q => ?_)
  have hev := hr.eval
  have hm : ((MS.mk l n o H).st G md).ob nm = some (.ow z e ks xs) := by rw [hobm]; exact hn
  have hXr := hev x
  rw [show ((MS.mk l n o H).st G md).ev x = X from evM_ev hx] at hXr
  obtain ⟨ad, c, news, hsr⟩ := hsrc.sound (by rw [← hobm]; exact hr.obs) hXr
  obtain ⟨v', w', g', r1, r2, r3, r4⟩ := hr.growOw (P := P) (ty := ty) (ks' := ks') hm hok hsr hk1 hk2 hkl hkS
  have hsv : a.eval s = (g nm).v := by
    have h0 := hev s
    rw [show ((MS.mk l n o H).st G md).ev s = .vw nm len from evM_ev hs] at h0
    cases h0 with
    | vw _ _ h0 => exact (h0 xs.length (by show (((MS.mk l n o H).st G md).ob nm).bind AObj.ln = _; rw [hm]; rfl)).2 hlen.symm
  have hrun : (execOp a.eval ⟨some d, .call ⟨.builtin .append, #[s, x], #[t, t]⟩, ty, pos, af, gd⟩).run P w = .ok (.value v') w' := by
    simp [execOp, resolve, invoke, builtin, hsv, r1]
  unfold Oper.wp
  rw [hrun, Oper.upon_value]
  have hput := r4.put (v := .vw nm (xs.length + ys.length)) (V := v') (.vw ?_ r2 (fun k' hk' => ?_)) (some d)
  · rw [st_set, st_put c4] at hput
    exact ⟨_, S, g', k, hput⟩
  · show nm.lt (((MS.mk l n o H).st G md).set nm _).H.length
    rw [set_H]; exact ob_lt hm
  · have e' : ((((MS.mk l n o H).st G md).set nm (.ow z e ks' (xs ++ ys))).ob nm).bind AObj.ln = some k' := hk'
    rw [set_same _ hm] at e'
    simp only [Option.bind_some, AObj.ln, List.length_append, Option.some.injEq] at e'
    exact ⟨Nat.le_of_eq e', fun _ => r3.symm⟩
theorem EOps.ap0 (T : Tab P) (ks : List Nm) {ys : List (List TV)} {hbs : Nat → Bool} {ops : Array Oper} {K : St → Prop} {r : List Oper} {i : Nat} {l : List (Nat × TV)} {n : Nat} {o : List (Nat × AObj)} {H : List AObj} {d : Nat} {s x : Operand} {t : TypeId} {ty : TypeId} {pos : String} {af : Array Edge} {gd : Option (Nat × Bool)} {e z by_ : Nat} {b : Bool} {zs : List Value} {X : TV}
    (hf : hbs 4294967296 = true) (hg : gtM ops.toList l n gd = true) (hs : evM l s = some .nil) (hx : evM l x = some X) (he : T.sl t = some e) (hl : T.lay e = some (b, z)) (hz : T.zer e = some zs) (hby : T.byt e = some by_) (hq : (Nat.beq zs.length z && Nat.blt 0 z && Nat.blt 0 by_ && Nat.blt d n) = true)
    (hfr : (freT d l && freO d o && nmBs d ks) = true) (hsrc : srcM (obM o H) z X ys) (hk2 : ∀ y ∈ ys.flatten, y.All (· ∈ ks)) (hkl : ∀ m ∈ ks, m.lt H.length) (hby2 : ys.length * by_ ≤ 140737488355328)
    (k : EOps P hbs ops (i + 1) r ((MS.mk ((d, .vw (.L d) ys.length) :: l) n ((d, .ow z e ks ys) :: o) H).st G md) K) :
    EOps P hbs ops i (⟨some d, .call ⟨.builtin .append, #[s, x], #[t, t]⟩, ty, pos, af, gd⟩ :: r) ((MS.mk l n o H).st G md) K := by
  simp only [Bool.and_eq_true] at hq hfr
  obtain ⟨⟨⟨c1, c2⟩, c3⟩, c4⟩ := hq
  obtain ⟨⟨f1, f2⟩, f3⟩ := hfr
  have hb : 0 < by_ := Nat.le_of_ble_eq_true c3
  have hok : AppOk P t e z ys.length := ⟨T.hsl _ _ he, ⟨b, T.hlay _ _ hl⟩, ⟨zs, (T.hzer _ _ hz).1, Nat.eq_of_beq_eq_true c1⟩, Nat.le_of_ble_eq_true c2, ⟨by_, T.hbyt _ _ hby, hby2⟩, Nat.le_trans (Nat.le_mul_of_pos_right _ hb) hby2⟩
  have hobm : ((MS.mk l n o H).st G md).ob = obM o H := by funext m; exact obM_ob m
  have hfz : Fresh ((MS.mk l n o H).st G md) (.L d) := fresh_of f1 f2
  refine EOps.sem hf (want_of hg) (fun E a w S g hr Q => ?_)
  have hev := hr.eval
  have hXr := hev x
  rw [show ((MS.mk l n o H).st G md).ev x = X from evM_ev hx] at hXr
  obtain ⟨ad, c, news, hsr⟩ := hsrc.sound (by rw [← hobm]; exact hr.obs) hXr
  obtain ⟨v', w', r1, r2, r4⟩ := hr.grow0Ow (P := P) (ty := ty) (ks := ks) hfz hok hsr hk2 hkl (nmBs_spec d ks f3) (fun j e => by cases e)
  have hsv : a.eval s = .slice none 0 0 := by
    have h0 := hev s
    rw [show ((MS.mk l n o H).st G md).ev s = .nil from evM_ev hs] at h0
    generalize a.eval s = Y at h0
    cases h0; rfl
  have hrun : (execOp a.eval ⟨some d, .call ⟨.builtin .append, #[s, x], #[t, t]⟩, ty, pos, af, gd⟩).run P w = .ok (.value v') w' := by
    simp [execOp, resolve, invoke, builtin, hsv, r1]
  unfold Oper.wp
  rw [hrun, Oper.upon_value]
  have hput := r4.put (v := .vw (.L d) ys.length) (V := v') (.vw trivial r2 (fun k' hk' => ?_)) (some d)
  · rw [st_addL, st_put c4] at hput
    exact ⟨_, S, _, k, hput⟩
  · have e' : ((((MS.mk l n o H).st G md).add (.L d) (.ow z e ks ys)).ob (.L d)).bind AObj.ln = some k' := hk'
    rw [add_same _ hfz] at e'
    simp only [Option.bind_some, AObj.ln, Option.some.injEq] at e'
    exact ⟨Nat.le_of_eq e', fun _ => (updG_v _ _ _).symm⟩
theorem EOps.so (T : Tab P) (ks' : List Nm) (c : List TV) {hbs : Nat → Bool} {ops : Array Oper} {K : St → Prop} {r : List Oper} {i : Nat} {l : List (Nat × TV)} {n : Nat} {o : List (Nat × AObj)} {H : List AObj} {t : Nat} {x y : Operand} {ty : TypeId} {pos : String} {af : Array Edge} {gd : Option (Nat × Bool)} {z e : Nat} {b : Bool} {sz : Nat} {nm : Nm} {len ix off : Nat} {ks : List Nm} {xs : List (List TV)} {Y : TV}
    (hf : hbs 4294967296 = true) (hg : gtM ops.toList l n gd = true) (hx : evM l x = some (.ip nm len z ix off)) (hy : evM l y = some Y) (hn : obM o H nm = some (.ow z e ks xs)) (hl : T.lay t = some (b, sz)) (hlen : xs.length = len) (hc : xs[ix]? = some c) (hY : hasCells Y) (hsz : (tcells Y).length = sz) (hoff : off + sz ≤ c.length)
    (hk1 : ∀ m ∈ ks, m ∈ ks') (hk2 : ∀ y ∈ tcells Y, y.All (· ∈ ks')) (hkl : ∀ m ∈ ks', m.lt H.length) (hkS : ∀ j, nm = .S j → ∀ m ∈ ks', m.isS)
    (k : EOps P hbs ops (i + 1) r ((MS.mk l n (setM nm (.ow z e ks' (xs.set ix (splice c off (tcells Y)))) o H).1 (setM nm (.ow z e ks' (xs.set ix (splice c off (tcells Y)))) o H).2).st G md) K) :
    EOps P hbs ops i (⟨none, .store t x y, ty, pos, af, gd⟩ :: r) ((MS.mk l n o H).st G md) K := by
  have hobm : ((MS.mk l n o H).st G md).ob = obM o H := by funext m; exact obM_ob m
  refine EOps.sem hf (want_of hg) (fun E a w S g hr Q => ?_)
  have hev := hr.eval
  have hm : ((MS.mk l n o H).st G md).ob nm = some (.ow z e ks xs) := by rw [hobm]; exact hn
  have hXr := hev x
  rw [show ((MS.mk l n o H).st G md).ev x = _ from evM_ev hx] at hXr
  have hYr := hev y
  rw [show ((MS.mk l n o H).st G md).ev y = Y from evM_ev hy] at hYr
  have hYc := tcells_rep hYr hY
  generalize hX : a.eval x = X at hXr
  cases hXr with
  | @ip _ _ _ _ _ bb hnl h0 =>
  obtain ⟨cap, hgm⟩ := (h0 xs.length (by show (((MS.mk l n o H).st G md).ob nm).bind AObj.ln = _; rw [hm]; rfl)).2 hlen.symm
  have hgm' : (g nm).v = .slice (some ⟨bb, 0, none⟩) xs.length cap := by rw [hlen]; exact hgm
  obtain ⟨w', g', r1, r2⟩ := hr.setOw (P := P) (ks' := ks') hm hc hYc (by rw [hsz]; exact hoff) hk1 hk2 hkl hkS hgm'
  have hszV : (a.eval y).cells.size = sz := by rw [← hsz, ← hYc.len]; simp
  have hrun : (execOp a.eval ⟨none, .store t x y, ty, pos, af, gd⟩).run P w = .ok .skip w' := by
    have hs : (sizeOf t).run P w = .ok sz w := lay_size (T.hlay _ _ hl) w
    simp [execOp, Instr.storeAt, hX, Instr.sureAddr, storeVar, hs, hszV, r1]
  unfold Oper.wp
  rw [hrun, Oper.upon_skip]
  have hput := r2.put (v := .u) (V := undef) .u none
  rw [st_set] at hput
  exact ⟨_, S, g', k, hput⟩
theorem flat_oc (ys : List PV) : (ys.map fun y => y.cells.map oc).flatten = (flat ys).map oc := by
  induction ys with
  | nil => rfl
  | cons y ys ih => rw [List.map_cons, List.flatten_cons, ih, flat_cons, List.map_append]
theorem EOps.fz (n : Nat) (ys : List PV) (vs : List PV) {hbs : Nat → Bool} {ops : Array Oper} {K : St → Prop} {r : List Oper} {i : Nat} {l : List (Nat × TV)} {nt : Nat} {o : List (Nat × AObj)} {H : List AObj} {z e : Nat} {ks : List Nm} {xs : List (List TV)}
    (hf : hbs 4294967296 = true) (hn : lkN o n = some (.ow z e ks xs)) (hxs : xs = ys.map fun y => y.cells.map oc) (hok : okFs ys = true) (hvs : ys.map frz = vs) (hz : ∀ v ∈ vs, v.cells.length = z)
    (k : EOps P hbs ops i r ((MS.mk l nt ((n, .rw z e vs) :: o) H).st G md) K) : EOps P hbs ops i r ((MS.mk l nt o H).st G md) K := by
  refine EOps.gh hf (fun E a w S g hr => ?_) k
  have hm : ((MS.mk l nt o H).st G md).ob (.L n) = some (.ow z e ks xs) := hn
  subst hvs
  subst hxs
  have hok' : ∀ y ∈ ys, okF y = true := by rw [okFs_all, List.all_eq_true] at hok; exact hok
  have := hr.freeze (vs := ys.map frz) hm (by simp) hz (fun k c y hc hy => ?_)
  · rwa [st_set] at this
  · rw [flat_frz, List.getElem?_map] at hy
    cases hk : (flat ys)[k]? with
    | none => rw [hk] at hy; cases hy
    | some x =>
      rw [hk] at hy
      cases hy
      have hfl : (ys.map fun y => y.cells.map oc).flatten = (flat ys).map oc := by
        exact flat_oc ys
      rw [hfl, List.getElem?_map, hk] at hc
      cases hc
      have hx : x ∈ flat ys := List.mem_of_getElem? hk
      obtain ⟨y, hy, hxy⟩ := List.mem_flatMap.1 hx
      have hokx := okF_cells y (hok' y hy) x hxy
      unfold oc
      cases hp : plainB x with
      | false => exact .inl ⟨x, rfl, hokx, rfl⟩
      | true =>
        refine .inr ⟨trivial, ?_⟩
        have : frz x = x := by cases x <;> first | rfl | (unfold plainB at hp; cases hp)
        rw [this]; exact .p
theorem AW.fz (n : Nat) (ys : List PV) (vs : List PV) {c : Code} {Q : Exit → St → Prop} {l : List (Nat × TV)} {nt : Nat} {o : List (Nat × AObj)} {H : List AObj} {z e : Nat} {ks : List Nm} {xs : List (List TV)}
    (hn : lkN o n = some (.ow z e ks xs)) (hxs : xs = ys.map fun y => y.cells.map oc) (hok : okFs ys = true) (hvs : ys.map frz = vs) (hz : ∀ v ∈ vs, v.cells.length = z)
    (k : AW P c Q ((MS.mk l nt ((n, .rw z e vs) :: o) H).st G md)) : AW P c Q ((MS.mk l nt o H).st G md) := by
  refine AW.gh (fun E a w S g hr => ?_) k
  have h1 := EOps.fz (P := P) (G := G) (md := md) (hbs := fun _ => true) (ops := #[]) (i := 0) (r := []) (K := fun τ => τ = (MS.mk l nt ((n, .rw z e vs) :: o) H).st G md) n ys vs rfl hn hxs hok hvs hz (EOps.nil rfl)
  rw [EOps.flag rfl] at h1
  have h2 := h1 rfl E a w S g hr (fun _ a' w' => a' = a ∧ w' = w → ∃ S' g', Rep E ((MS.mk l nt ((n, .rw z e vs) :: o) H).st G md) a w S' g') (fun a' w' ⟨τ, S', g', k1, k2⟩ ⟨e1, e2⟩ => by subst k1; subst e1; subst e2; exact ⟨S', g', k2⟩)
  exact h2 ⟨rfl, rfl⟩
theorem EOps.apP (T : Tab P) (ps : List PV) {hbs : Nat → Bool} {ops : Array Oper} {K : St → Prop} {r : List Oper} {i : Nat} {l : List (Nat × TV)} {n : Nat} {o : List (Nat × AObj)} {H : List AObj} {d : Nat} {s x : Operand} {t : TypeId} {ty : TypeId} {pos : String} {af : Array Edge} {gd : Option (Nat × Bool)} {e z by_ : Nat} {b : Bool} {zs : List Value} {m : Nat} {len : Nat} {ks : List Nm} {xs : List (List TV)} {X : TV}
    (hf : hbs 4294967296 = true) (hg : gtM ops.toList l n gd = true) (hs : evM l s = some (.vw (.L m) len)) (hn : lkN o m = some (.ow z e ks xs)) (hx : evM l x = some X) (he : T.sl t = some e) (hl : T.lay e = some (b, z)) (hz : T.zer e = some zs) (hby : T.byt e = some by_) (hq : (Nat.beq zs.length z && Nat.blt 0 z && Nat.blt 0 by_ && Nat.blt d n) = true)
    (hlen : xs.length = len) (hsrc : RowOf (obM o H) X z ps) (hkl : ∀ m ∈ ks, m.lt H.length) (hby2 : (xs.length + ps.length) * by_ ≤ 140737488355328)
    (k : EOps P hbs ops (i + 1) r ((MS.mk ((d, .vw (.L m) (xs.length + ps.length)) :: l) n ((m, .ow z e ks (xs ++ ps.map fun y => y.cells.map TV.p)) :: o) H).st G md) K) :
    EOps P hbs ops i (⟨some d, .call ⟨.builtin .append, #[s, x], #[t, t]⟩, ty, pos, af, gd⟩ :: r) ((MS.mk l n o H).st G md) K := by
  refine EOps.ap T ks (ys := ps.map fun y => y.cells.map TV.p) hf hg hs hn hx he hl hz hby hq hlen (.inl ⟨ps, hsrc, rfl⟩) (fun _ h => h) (fun y hy => ?_) hkl (fun j e => by cases e) (by simpa using hby2) (by simpa [setM] using k)
  obtain ⟨c, hc, hyc⟩ := List.mem_flatten.1 hy
  obtain ⟨q, _, rfl⟩ := List.mem_map.1 hc
  obtain ⟨q2, _, rfl⟩ := List.mem_map.1 hyc
  exact .p
theorem EOps.soP (T : Tab P) (y : PV) (c : List TV) {hbs : Nat → Bool} {ops : Array Oper} {K : St → Prop} {r : List Oper} {i : Nat} {l : List (Nat × TV)} {n : Nat} {o : List (Nat × AObj)} {H : List AObj} {t : Nat} {x yo : Operand} {ty : TypeId} {pos : String} {af : Array Edge} {gd : Option (Nat × Bool)} {z e : Nat} {b : Bool} {sz : Nat} {m : Nat} {len ix off : Nat} {ks : List Nm} {xs : List (List TV)}
    (hf : hbs 4294967296 = true) (hg : gtM ops.toList l n gd = true) (hx : evM l x = some (.ip (.L m) len z ix off)) {Y : TV} (hY0 : evM l yo = some Y) (hY1 : relT (obM o H) Y y) (hn : lkN o m = some (.ow z e ks xs)) (hl : T.lay t = some (b, sz)) (hlen : xs.length = len) (hc : xs[ix]? = some c) (hsz : y.cells.length = sz) (hoff : off + sz ≤ c.length) (hkl : ∀ m ∈ ks, m.lt H.length)
    (k : EOps P hbs ops (i + 1) r ((MS.mk l n ((m, .ow z e ks (xs.set ix (splice c off (y.cells.map TV.p)))) :: o) H).st G md) K) :
    EOps P hbs ops i (⟨none, .store t x yo, ty, pos, af, gd⟩ :: r) ((MS.mk l n o H).st G md) K := by
  have hobm : ((MS.mk l n o H).st G md).ob = obM o H := by funext m; exact obM_ob m
  refine EOps.sem hf (want_of hg) (fun E a w S g hr Q => ?_)
  have hev := hr.eval
  have hm : ((MS.mk l n o H).st G md).ob (.L m) = some (.ow z e ks xs) := hn
  have hXr := hev x
  rw [show ((MS.mk l n o H).st G md).ev x = _ from evM_ev hx] at hXr
  have hYr := hev yo
  rw [show ((MS.mk l n o H).st G md).ev yo = Y from evM_ev hY0] at hYr
  have hYp := (relT_pv _ _ _ hY1).sound (by rw [← hobm]; exact hr.obs) hYr
  have hpc := PC.of_prep hYp
  have hYc : CRep (((MS.mk l n o H).st G md).env w S g) (y.cells.map TV.p) (a.eval yo).cells.toList := ⟨by rw [hpc.len]; simp, fun k y' u hy hu => by
    rw [List.getElem?_map] at hy
    cases hk : y.cells[k]? with
    | none => rw [hk] at hy; cases hy
    | some q => rw [hk] at hy; cases hy; exact .p (hpc.get k q u hk hu).1, hpc.one⟩
  generalize hX : a.eval x = X at hXr
  cases hXr with
  | @ip _ _ _ _ _ bb hnl h0 =>
  obtain ⟨cap, hgm⟩ := (h0 xs.length (by show (((MS.mk l n o H).st G md).ob (.L m)).bind AObj.ln = _; rw [hm]; rfl)).2 hlen.symm
  have hgm' : (g (.L m)).v = .slice (some ⟨bb, 0, none⟩) xs.length cap := by rw [hlen]; exact hgm
  obtain ⟨w', g', r1, r2⟩ := hr.setOw (P := P) (ks' := ks) hm hc hYc (by simpa [hsz] using hoff) (fun _ h => h) (fun x hx => by obtain ⟨q, _, rfl⟩ := List.mem_map.1 hx; exact .p) hkl (fun j e => by cases e) hgm'
  have hszV : (a.eval yo).cells.size = sz := by rw [← hsz, ← hpc.len]; simp
  have hrun : (execOp a.eval ⟨none, .store t x yo, ty, pos, af, gd⟩).run P w = .ok .skip w' := by
    have hs : (sizeOf t).run P w = .ok sz w := lay_size (T.hlay _ _ hl) w
    simp [execOp, Instr.storeAt, hX, Instr.sureAddr, storeVar, hs, hszV, r1]
  unfold Oper.wp
  rw [hrun, Oper.upon_skip]
  have hput := r2.put (v := .u) (V := undef) .u none
  rw [st_set] at hput
  exact ⟨_, S, g', k, hput⟩
end
end Go.Proofs.YtlcmokgnmlklnaaDoor.En
end
section
namespace Go.Proofs.YtlcmokgnmlklnaaDoor.En
set_option linter.unusedVariables false
set_option linter.unusedSimpArgs false
open Go Go.RowKit Go.Proofs.YtlcmokgnmlklnaaDoor.PA
class Op (A : Prop) (B : outParam Prop) : Prop where
  h : B → A
theorem op {A B : Prop} [i : Op A B] (k : B) : A := i.h k
class NeC (i j : Nat) : Prop where
  h : Nat.beq j i = false
instance NeC.a (j : Nat) : NeC 0 (j + 1) := ⟨rfl⟩
instance NeC.b (i : Nat) : NeC (i + 1) 0 := ⟨rfl⟩
instance NeC.c (i j : Nat) [h : NeC i j] : NeC (i + 1) (j + 1) := ⟨h.h⟩
section
variable {P : Program} {G : Nat → Option PV} {md : Nat → Nat} {σ : St} {Q : Exit → St → Prop} {B : Prop}
instance (priority := low) op0 {A : Prop} : Op A A := ⟨id⟩
instance op1 {x y z : Code} [Op (AW P x (Then P y (Then P z Q)) σ) B] : Op (AW P (.seq (.seq x y) z) Q σ) B := ⟨fun k => n1 (op k)⟩
instance op2 {c : Operand} {x y z : Code} : Op (AW P (.seq (.cond c x y) z) Q σ) (AW P (.cond c x y) (Then P z Q) σ) := ⟨n2⟩
instance op3 {i : Nat} {c z : Code} [Op (AW P c (InBlock i (Then P z Q)) σ) B] : Op (AW P (.seq (.block i c) z) Q σ) B := ⟨fun k => n3 (op k)⟩
instance op4 {c z : Code} : Op (AW P (.seq (.loop c) z) Q σ) (AW P (.loop c) (Then P z Q) σ) := ⟨n4⟩
instance op5 {z : Code} [Op (AW P z Q σ) B] : Op (AW P (.seq .skip z) Q σ) B := ⟨fun k => n5 (op k)⟩
instance op6 [Op (Q .normal σ) B] : Op (AW P .skip Q σ) B := ⟨fun k => n6 (op k)⟩
instance op7 {i : Nat} [Op (Q (.exit i) σ) B] : Op (AW P (.exit i) Q σ) B := ⟨fun k => n7 (op k)⟩
instance op8 {i : Nat} {c : Code} [Op (AW P c (InBlock i Q) σ) B] : Op (AW P (.block i c) Q σ) B := ⟨fun k => n8 (op k)⟩
instance op10 {z : Code} [Op (AW P z Q σ) B] : Op (Then P z Q .normal σ) B := ⟨fun k => n10 (op k)⟩
instance op11 {z : Code} {i : Nat} [Op (Q (.exit i) σ) B] : Op (Then P z Q (.exit i) σ) B := ⟨fun k => n11 (op k)⟩
instance op12 {i : Nat} [Op (Q .normal σ) B] : Op (InBlock i Q .normal σ) B := ⟨fun k => n12 (op k)⟩
instance op13 {i : Nat} [Op (Q .normal σ) B] : Op (InBlock i Q (.exit i) σ) B := ⟨fun k => n13 (by simp) (op k)⟩
instance op14 {i j : Nat} [h : NeC i j] [Op (Q (.exit j) σ) B] : Op (InBlock i Q (.exit j) σ) B := ⟨fun k => n14 h.h (op k)⟩
instance op15 {α : Type} {s0 : α → MS} {F : Nat → α → Prop} {n i : Nat} [Op (Q (.exit i) σ) B] : Op (RoundM G md s0 F n Q (.exit i) σ) B := ⟨fun k => n15 (op k)⟩
instance op16 {hbs : Nat → Bool} {ops : Array Oper} {K : St → Prop} {i : Nat} [Op (K σ) B] : Op (EOps P hbs ops i [] σ K) B := ⟨fun k => n16 (op k)⟩
instance op17 {id : Nat} {ops : Array Oper} {y : Code} : Op (AW P (.seq (.region id ops false) y) Q σ) (EOps P (fun _ => true) ops 0 ops.toList σ (fun τ => AW P y Q τ)) := ⟨n17⟩
instance op18 {id : Nat} {ops : Array Oper} : Op (AW P (.region id ops false) Q σ) (EOps P (fun _ => true) ops 0 ops.toList σ (fun τ => Q .normal τ)) := ⟨n18⟩
instance op21 {z : Code} [Op (Q .ret σ) B] : Op (Then P z Q .ret σ) B := ⟨fun k => n21 (op k)⟩
instance op22 {i : Nat} [Op (Q .ret σ) B] : Op (InBlock i Q .ret σ) B := ⟨fun k => n22 (op k)⟩
instance op23 {α : Type} {s0 : α → MS} {F : Nat → α → Prop} {n : Nat} [Op (Q .ret σ) B] : Op (RoundM G md s0 F n Q .ret σ) B := ⟨fun k => n23 (op k)⟩
instance op24 [Op (Q .ret σ) B] : Op (AW P .ret Q σ) B := ⟨fun k => n24 (op k)⟩
theorem dr1 {id : Nat} {ops : Array Oper} {y : Code} {s : MS} (h : EOps P (fun i => Nat.blt i 4294967296) ops 0 ops.toList (s.st G md) (fun τ => AW P y Q τ)) (hm : P.follows .mixedOrders = true := by kernel_rfl) (hc : chkB md (fun i => Nat.blt i 4294967296) (flS md s.n (ownT s.l []) ⟨klT s.l, blT s.o⟩ ops) ops = true := by rfl) (ha : apB md ops = true := by kernel_rfl)
    (hn : ops.toList.all (fun o => match newL md o with | some d => freT d s.l && freO d s.o | none => true) = true := by rfl) : AW P (.seq (.region id ops true) y) Q (s.st G md) := n25 hm hc ha hn h
theorem dr2 {id : Nat} {ops : Array Oper} {s : MS} (h : EOps P (fun i => Nat.blt i 4294967296) ops 0 ops.toList (s.st G md) (fun τ => Q .normal τ)) (hm : P.follows .mixedOrders = true := by kernel_rfl) (hc : chkB md (fun i => Nat.blt i 4294967296) (flS md s.n (ownT s.l []) ⟨klT s.l, blT s.o⟩ ops) ops = true := by rfl) (ha : apB md ops = true := by kernel_rfl)
    (hn : ops.toList.all (fun o => match newL md o with | some d => freT d s.l && freO d s.o | none => true) = true := by rfl) : AW P (.region id ops true) Q (s.st G md) := n26 hm hc ha hn h
theorem dr3 {id : Nat} {ops : Array Oper} {y : Code} {s : MS} (h : EOps P (fun _ => false) ops 0 ops.toList (s.st G md) (fun τ => AW P y Q τ)) (hm : P.follows .mixedOrders = true := by kernel_rfl) (hc : chkB md (fun _ => false) noFl ops = true := by decide +kernel) (ha : apB md ops = true := by kernel_rfl)
    (hn : ops.toList.all (fun o => match newL md o with | some d => freT d s.l && freO d s.o | none => true) = true := by rfl) : AW P (.seq (.region id ops true) y) Q (s.st G md) := n19 hm hc ha hn h
theorem dr4 {id : Nat} {ops : Array Oper} {s : MS} (h : EOps P (fun _ => false) ops 0 ops.toList (s.st G md) (fun τ => Q .normal τ)) (hm : P.follows .mixedOrders = true := by kernel_rfl) (hc : chkB md (fun _ => false) noFl ops = true := by decide +kernel) (ha : apB md ops = true := by kernel_rfl)
    (hn : ops.toList.all (fun o => match newL md o with | some d => freT d s.l && freO d s.o | none => true) = true := by rfl) : AW P (.region id ops true) Q (s.st G md) := n20 hm hc ha hn h
theorem rn (T : Tab P) {hbs : Nat → Bool} {ops : Array Oper} {K : St → Prop} {l : List Oper} {i : Nat} {s : MS} (m : Nat) (h : List PV) {s' : MS} {h' : List PV} {i' : Nat} {r' : List Oper} {q' : Prop} [Op (EOps P hbs ops i' r' (s'.st G md) K) B] (k : B)
    (hr : runM T G md ops.toList m l i s h True = ((s', h'), (i', r'), q') := by rfl) (hq : q' := by (repeat' apply And.intro) <;> first | trivial | rfl | assumption | omega | exact mT rfl | exact mT (by assumption) | exact mM rfl | exact mM (by assumption) | exact mI (by assumption) | exact mS (by assumption) | exact mU (by assumption) | (simp; done) | (simp [Mn.f0, Mn.f1, Mn.f2, Mn.f3, Mn.f4, Tn.f0]; done) | (simp [*]; done) | (simp [relT, eT_eq, eM_eq, PV.cells, Tn.f0, Mn.f4, *]; done) | (simp; omega)) : EOps P hbs ops i l (s.st G md) K := EOps.run T m h hr hq (op k)
theorem pcs {hbs : Nat → Bool} {ops : Array Oper} {K : St → Prop} {r : List Oper} {i : Nat} {l : List (Nat × TV)} {n : Nat} {o : List (Nat × AObj)} {H : List AObj} {d : Nat} {x : Operand} {args : Array Operand} {ats : Array TypeId} {ty : TypeId} {pos : String} {af : Array Edge} {f : FuncId} {xs : List PV} {q : Prop} {v : TV} {gd : Option (Nat × Bool)}
    (hc : PF P G f xs v) [Op (EOps P hbs ops (i + 1) r ((MS.mk ((d, v) :: l) n o H).st G md) K) B] (k : B)
    (hg : gtM ops.toList l n gd = true := by rfl) (ha : argsM ⟨l, n, o, H⟩ x args.toList = some ((f, xs), q) := by rfl) (hq : q := by (repeat' apply And.intro) <;> first | trivial | rfl | assumption | omega | exact mT rfl | exact mT (by assumption) | exact mM rfl | exact mM (by assumption) | exact mI (by assumption) | exact mS (by assumption) | exact mU (by assumption) | (simp; done) | (simp [Mn.f0, Mn.f1, Mn.f2, Mn.f3, Mn.f4, Tn.f0]; done) | (simp [*]; done) | (simp [relT, eT_eq, eM_eq, PV.cells, Tn.f0, Mn.f4, *]; done) | (simp; omega)) (hd : Nat.blt d n = true := by rfl) :
    EOps P hbs ops i (⟨some d, .call ⟨.value x, args, ats⟩, ty, pos, af, gd⟩ :: r) ((MS.mk l n o H).st G md) K := EOps.pc hg ha hq hd hc (op k)
theorem pqs {hbs : Nat → Bool} {ops : Array Oper} {K : St → Prop} {r : List Oper} {i : Nat} {l : List (Nat × TV)} {n : Nat} {o : List (Nat × AObj)} {H : List AObj} {d : Nat} {x : Operand} {args : Array Operand} {ats : Array TypeId} {ty : TypeId} {pos : String} {af : Array Edge} {f : FuncId} {xs : List PV} {vs : List TV} {v : TV} {gd : Option (Nat × Bool)}
    (hc : PF P G f xs v) [Op (EOps P hbs ops (i + 1) r ((MS.mk ((d, v) :: l) n o H).st G md) K) B] (k : B)
    (hg : gtM ops.toList l n gd = true := by rfl) (hx : evM l x = some (.fn f []) := by rfl) (ha : evL l args.toList = some vs := by rfl) (hr : relTs (obM o H) vs xs := by (repeat' apply And.intro) <;> first | trivial | rfl | assumption | omega | exact mT rfl | exact mT (by assumption) | exact mM rfl | exact mM (by assumption) | exact mI (by assumption) | exact mS (by assumption) | exact mU (by assumption) | (simp; done) | (simp [Mn.f0, Mn.f1, Mn.f2, Mn.f3, Mn.f4, Tn.f0]; done) | (simp [*]; done) | (simp [relT, eT_eq, eM_eq, PV.cells, Tn.f0, Mn.f4, *]; done) | (simp; omega)) (hd : Nat.blt d n = true := by rfl) :
    EOps P hbs ops i (⟨some d, .call ⟨.value x, args, ats⟩, ty, pos, af, gd⟩ :: r) ((MS.mk l n o H).st G md) K := EOps.pq hg hx ha hr hd hc (op k)
theorem ivs {hbs : Nat → Bool} {ops : Array Oper} {K : St → Prop} {r : List Oper} {i : Nat} {l : List (Nat × TV)} {n : Nat} {o : List (Nat × AObj)} {H : List AObj} {d : Nat} {x : Operand} {m : String} {args : Array Operand} {ats : Array TypeId} {ty : TypeId} {pos : String} {af : Array Edge} {f : FuncId} {t : TypeId} {u : PV} {xs : List PV} {vs : List TV} {v : TV} {gd : Option (Nat × Bool)}
    (hc : PF P G f (u :: xs) v) [Op (EOps P hbs ops (i + 1) r ((MS.mk ((d, v) :: l) n o H).st G md) K) B] (k : B)
    (hg : gtM ops.toList l n gd = true := by rfl) (hx : evM l x = some (.p (.ifc t u)) := by rfl) (hm : MethOk P t m f := by exact (fun _ _ _ => by kernel_rfl)) (ha : evL l args.toList = some vs := by rfl) (hr : relTs (obM o H) vs xs := by (repeat' apply And.intro) <;> first | trivial | rfl | assumption | omega | exact mT rfl | exact mT (by assumption) | exact mM rfl | exact mM (by assumption) | exact mI (by assumption) | exact mS (by assumption) | exact mU (by assumption) | (simp; done) | (simp [Mn.f0, Mn.f1, Mn.f2, Mn.f3, Mn.f4, Tn.f0]; done) | (simp [*]; done) | (simp [relT, eT_eq, eM_eq, PV.cells, Tn.f0, Mn.f4, *]; done) | (simp; omega)) (hd : Nat.blt d n = true := by rfl) :
    EOps P hbs ops i (⟨some d, .call ⟨.invoke x m, args, ats⟩, ty, pos, af, gd⟩ :: r) ((MS.mk l n o H).st G md) K := EOps.iq hg hx hm ha hr hd hc (op k)
def FE (P : Program) (G : Nat → Option PV) (f : FuncId) (args : List TV) (H : List AObj) (R : TV → List AObj → Prop) : Prop := FC P G f args H R ∧ ∃ r H', R r H' ∧ r.All Nm.isS ∧ HSh H'
theorem EOps.he {hbs : Nat → Bool} {ops : Array Oper} {K : St → Prop} {r : List Oper} {i : Nat} {l : List (Nat × TV)} {n : Nat} {o : List (Nat × AObj)} {H : List AObj} {d : Nat} {x : Operand} {args : Array Operand} {ats : Array TypeId} {ty : TypeId} {pos : String} {af : Array Edge} {f : FuncId} {vs xs : List TV} {R : TV → List AObj → Prop} {gd : Option (Nat × Bool)}
    (hb : hbs i = true) (hg : gtM ops.toList l n gd = true) (ha : argsH ⟨l, n, o, H⟩ x args.toList = some (f, vs)) (hv : RelL (obM o H) vs xs) (hs : shBs xs = true) (hd : Nat.blt d n = true) (hc : FE P G f xs H R)
    (k : ∀ v H', R v H' → v.All Nm.isS → HSh H' → EOps P hbs ops (i + 1) r ((MS.mk ((d, v) :: l) n o H').st G md) K) :
    EOps P hbs ops i (⟨some d, .call ⟨.value x, args, ats⟩, ty, pos, af, gd⟩ :: r) ((MS.mk l n o H).st G md) K := EOps.hc hb hg ha hv hs hd hc.1 hc.2 k
theorem hes {hbs : Nat → Bool} {ops : Array Oper} {K : St → Prop} {r : List Oper} {i : Nat} {l : List (Nat × TV)} {n : Nat} {o : List (Nat × AObj)} {H : List AObj} {d : Nat} {x : Operand} {args : Array Operand} {ats : Array TypeId} {ty : TypeId} {pos : String} {af : Array Edge} {f : FuncId} {vs xs : List TV} {R : TV → List AObj → Prop} {gd : Option (Nat × Bool)}
    (hc : FE P G f xs H R) (k : ∀ v H', R v H' → v.All Nm.isS → HSh H' → EOps P hbs ops (i + 1) r ((MS.mk ((d, v) :: l) n o H').st G md) K)
    (hb : hbs i = true := by rfl) (hg : gtM ops.toList l n gd = true := by rfl) (ha : argsH ⟨l, n, o, H⟩ x args.toList = some (f, vs) := by rfl) (hv : RelL (obM o H) vs xs := by (repeat' apply And.intro) <;> first | exact trivial | exact .inl rfl | rfl | (refine .inr ⟨_, ?_, rfl⟩; exact relT_pv _ _ _ (by (repeat' apply And.intro) <;> first | trivial | rfl)) | exact .inl (congrArg (fun q => some (AObj.rw _ _ q)) (by assumption)) | exact .inl (congrArg (fun q => some (AObj.ow _ _ _ q)) (by assumption)) | (refine .inl ?_; simp [*]; done)) (hs : shBs xs = true := by rfl) (hd : Nat.blt d n = true := by rfl) :
    EOps P hbs ops i (⟨some d, .call ⟨.value x, args, ats⟩, ty, pos, af, gd⟩ :: r) ((MS.mk l n o H).st G md) K := EOps.he hb hg ha hv hs hd hc k
theorem cts {c : Operand} {x y : Code} {s : MS} [Op (AW P x Q (s.st G md)) B] (h : B) (hc : evM s.l c = some (.p (.c (.bool true))) := by rfl) : AW P (.cond c x y) Q (s.st G md) := ct hc (op h)
theorem cfs {c : Operand} {x y : Code} {s : MS} [Op (AW P y Q (s.st G md)) B] (h : B) (hc : evM s.l c = some (.p (.c (.bool false))) := by rfl) : AW P (.cond c x y) Q (s.st G md) := cf hc (op h)
theorem ctq {c : Operand} {x y : Code} {s : MS} {b : Bool} (hc : evM s.l c = some (.p (.c (.bool b)))) (hb : b = true) [Op (AW P x Q (s.st G md)) B] (h : B) : AW P (.cond c x y) Q (s.st G md) := ctp hc hb (op h)
theorem cfq {c : Operand} {x y : Code} {s : MS} {b : Bool} (hc : evM s.l c = some (.p (.c (.bool b)))) (hb : b = false) [Op (AW P y Q (s.st G md)) B] (h : B) : AW P (.cond c x y) Q (s.st G md) := cfp hc hb (op h)
theorem lpw {α : Type} {c : Code} {s : MS} (s0 : α → MS) (F : Nat → α → Prop) (n : Nat) (x : α) (h0 : F n x) (h : ∀ n x, F n x → AW P c (RoundM G md s0 F n Q) ((s0 x).st G md))
    (hn : (s0 x).n = s.n := by rfl) (hH : (s0 x).H = s.H := by rfl) (hl : wkL (obM s.o s.H) s.l (s0 x).l := by (repeat' apply And.intro) <;> first | exact trivial | exact .inl rfl | rfl | (refine .inr ⟨_, ?_, rfl⟩; exact relT_pv _ _ _ (by (repeat' apply And.intro) <;> first | trivial | rfl)) | exact .inl (congrArg (fun q => some (AObj.rw _ _ q)) (by assumption)) | exact .inl (congrArg (fun q => some (AObj.ow _ _ _ q)) (by assumption)) | (refine .inl ?_; simp [*]; done)) (ho : wkO (obM s.o s.H) s.o (s0 x).o := by (repeat' apply And.intro) <;> first | exact trivial | exact .inl rfl | rfl | (refine .inr ⟨_, ?_, rfl⟩; exact relT_pv _ _ _ (by (repeat' apply And.intro) <;> first | trivial | rfl)) | exact .inl (congrArg (fun q => some (AObj.rw _ _ q)) (by assumption)) | exact .inl (congrArg (fun q => some (AObj.ow _ _ _ q)) (by assumption)) | (refine .inl ?_; simp [*]; done)) : AW P (.loop c) Q (s.st G md) := AW.lp s0 F n x h0 (wk_of hn hH hl ho) h
theorem nxt {α : Type} {s0 : α → MS} {F : Nat → α → Prop} {n : Nat} {s : MS} (m : Nat) (x : α) (hF : F m x) (hlt : m < n := by omega) (hn : (s0 x).n = s.n := by rfl) (hH : (s0 x).H = s.H := by first | rfl | exact congrArg (fun q => [AObj.rw _ _ q]) (by symm; assumption))
    (hl : wkL (obM s.o s.H) s.l (s0 x).l := by (repeat' apply And.intro) <;> first | exact trivial | exact .inl rfl | rfl | (refine .inr ⟨_, ?_, rfl⟩; exact relT_pv _ _ _ (by (repeat' apply And.intro) <;> first | trivial | rfl)) | exact .inl (congrArg (fun q => some (AObj.rw _ _ q)) (by assumption)) | exact .inl (congrArg (fun q => some (AObj.ow _ _ _ q)) (by assumption)) | (refine .inl ?_; simp [*]; done)) (ho : wkO (obM s.o s.H) s.o (s0 x).o := by (repeat' apply And.intro) <;> first | exact trivial | exact .inl rfl | rfl | (refine .inr ⟨_, ?_, rfl⟩; exact relT_pv _ _ _ (by (repeat' apply And.intro) <;> first | trivial | rfl)) | exact .inl (congrArg (fun q => some (AObj.rw _ _ q)) (by assumption)) | exact .inl (congrArg (fun q => some (AObj.ow _ _ _ q)) (by assumption)) | (refine .inl ?_; simp [*]; done)) : RoundM G md s0 F n Q .normal (s.st G md) := RoundM.next m x hlt hF hn hH hl ho
theorem rt1 (T : Tab P) {rs : List ResultVar} {R : TV → List AObj → Prop} {s : MS} {vs : List TV} (y : PV) (hR : R (.p y) s.H) (h : resV T s rs = some vs := by rfl) (hr : relTs (obM s.o s.H) vs [y] := by (repeat' apply And.intro) <;> first | trivial | rfl | assumption | omega | exact mT rfl | exact mT (by assumption) | exact mM rfl | exact mM (by assumption) | exact mI (by assumption) | exact mS (by assumption) | exact mU (by assumption) | (simp; done) | (simp [Mn.f0, Mn.f1, Mn.f2, Mn.f3, Mn.f4, Tn.f0]; done) | (simp [*]; done) | (simp [relT, eT_eq, eM_eq, PV.cells, Tn.f0, Mn.f4, *]; done) | (simp; omega)) : Ends P rs R .ret (s.st G md) := ret1 T h hr hR
theorem rt2 (T : Tab P) {rs : List ResultVar} {R : TV → List AObj → Prop} {s : MS} {vs : List TV} (y z : PV) (hR : R (.tp [.p y, .p z]) s.H) (h : resV T s rs = some vs := by rfl) (hr : relTs (obM s.o s.H) vs [y, z] := by (repeat' apply And.intro) <;> first | trivial | rfl | assumption | omega | exact mT rfl | exact mT (by assumption) | exact mM rfl | exact mM (by assumption) | exact mI (by assumption) | exact mS (by assumption) | exact mU (by assumption) | (simp; done) | (simp [Mn.f0, Mn.f1, Mn.f2, Mn.f3, Mn.f4, Tn.f0]; done) | (simp [*]; done) | (simp [relT, eT_eq, eM_eq, PV.cells, Tn.f0, Mn.f4, *]; done) | (simp; omega)) : Ends P rs R .ret (s.st G md) := ret2 T h hr hR
theorem rt3 (T : Tab P) {rs : List ResultVar} {R : TV → List AObj → Prop} {s : MS} {vs : List TV} (y z u : PV) (hR : R (.tp [.p y, .p z, .p u]) s.H) (h : resV T s rs = some vs := by rfl) (hr : relTs (obM s.o s.H) vs [y, z, u] := by (repeat' apply And.intro) <;> first | trivial | rfl | assumption | omega | exact mT rfl | exact mT (by assumption) | exact mM rfl | exact mM (by assumption) | exact mI (by assumption) | exact mS (by assumption) | exact mU (by assumption) | (simp; done) | (simp [Mn.f0, Mn.f1, Mn.f2, Mn.f3, Mn.f4, Tn.f0]; done) | (simp [*]; done) | (simp [relT, eT_eq, eM_eq, PV.cells, Tn.f0, Mn.f4, *]; done) | (simp; omega)) : Ends P rs R .ret (s.st G md) := ret3 T h hr hR
theorem bdy {f : FuncId} {fn : Func} {c : Code} {args : List TV} {H : List AObj} {R : TV → List AObj → Prop} (hf : P.funcs[f]? = some fn) (md : Nat → Nat) (hb : fn.body = some c) [Op (AW P c (Ends P fn.results.toList R) ((MS.mk (initL 0 args) fn.ntmps [] H).st G md)) B] (h : B)
    (hcall : callable P f = true := by kernel_rfl) (hn : Nat.ble args.length fn.ntmps = true := by rfl) (hA : shBs args = true := by rfl) : FC P G f args H R := FC.body md hcall hf hb hn hA (op h)
theorem bs0 (T : Tab P) {hbs : Nat → Bool} {ops : Array Oper} {K : St → Prop} {r : List Oper} {i : Nat} {l : List (Nat × TV)} {n : Nat} {o : List (Nat × AObj)} {H : List AObj} {d t : Nat} {parts : Array (Nat × Operand)} {ty : TypeId} {pos : String} {af : Array Edge} {gd : Option (Nat × Bool)} {e z : Nat} {b : Bool}
    [Op (EOps P hbs ops (i + 1) r ((MS.mk ((d, .vw (.L d) 0) :: l) n ((d, .ow z e [] []) :: o) H).st G md) K) B] (k : B)
    (hf : hbs 4294967296 = true := by rfl) (hg : gtM ops.toList l n gd = true := by rfl) (he : T.sl t = some e := by rfl) (hl : T.lay e = some (b, z) := by rfl) (hz : (T.zer e).isSome = true := by rfl) (hq : (Nat.blt 0 z && Nat.ble (0 * z) 16777216 && decide (parts.toList.map (·.1) = List.range 0)) = true := by kernel_rfl)
    (hv : evL l (parts.toList.map (·.2)) = some [] := by rfl) (hfr : (freT d l && freO d o && nmBs d [] && Nat.blt d n) = true := by kernel_rfl) :
    EOps P hbs ops i (⟨some d, .buildSlice t 0 parts, ty, pos, af, gd⟩ :: r) ((MS.mk l n o H).st G md) K := EOps.bs T [] hf hg he hl hz hq hv (fun v hv => by cases hv) hfr (fun m hm => by cases hm) (show EOps P hbs ops (i + 1) r ((MS.mk ((d, .vw (.L d) 0) :: l) n ((d, .ow z e [] []) :: o) H).st G md) K from op k)
theorem aps (T : Tab P) (ps : List PV) {hbs : Nat → Bool} {ops : Array Oper} {K : St → Prop} {r : List Oper} {i : Nat} {l : List (Nat × TV)} {n : Nat} {o : List (Nat × AObj)} {H : List AObj} {d : Nat} {s x : Operand} {t : TypeId} {ty : TypeId} {pos : String} {af : Array Edge} {gd : Option (Nat × Bool)} {e z by_ : Nat} {b : Bool} {zs : List Value} {m : Nat} {len : Nat} {xs : List (List TV)} {X : TV}
    [Op (EOps P hbs ops (i + 1) r ((MS.mk ((d, .vw (.L m) (xs.length + ps.length)) :: l) n ((m, .ow z e [] (xs ++ ps.map fun y => y.cells.map TV.p)) :: o) H).st G md) K) B] (k : B)
    (hf : hbs 4294967296 = true := by rfl) (hg : gtM ops.toList l n gd = true := by rfl) (hs : evM l s = some (.vw (.L m) len) := by rfl) (hn : lkN o m = some (.ow z e [] xs) := by rfl) (hx : evM l x = some X := by rfl) (he : T.sl t = some e := by rfl) (hl : T.lay e = some (b, z) := by rfl) (hz : T.zer e = some zs := by rfl) (hby : T.byt e = some by_ := by rfl)
    (hq : (Nat.beq zs.length z && Nat.blt 0 z && Nat.blt 0 by_ && Nat.blt d n) = true := by kernel_rfl)
    (hlen : xs.length = len := by first | rfl | (simp; done)) (hsrc : RowOf (obM o H) X z ps := by first | exact ⟨rfl, rfl⟩ | exact ⟨rfl, rfl, rfl⟩ | rfl) (hby2 : (xs.length + ps.length) * by_ ≤ 140737488355328 := by simp; try omega) :
    EOps P hbs ops i (⟨some d, .call ⟨.builtin .append, #[s, x], #[t, t]⟩, ty, pos, af, gd⟩ :: r) ((MS.mk l n o H).st G md) K := EOps.apP T ps hf hg hs hn hx he hl hz hby hq hlen hsrc (fun m hm => by cases hm) hby2 (op k)
theorem sos (T : Tab P) (y : PV) (c : List TV) {hbs : Nat → Bool} {ops : Array Oper} {K : St → Prop} {r : List Oper} {i : Nat} {l : List (Nat × TV)} {n : Nat} {o : List (Nat × AObj)} {H : List AObj} {t : Nat} {x yo : Operand} {ty : TypeId} {pos : String} {af : Array Edge} {gd : Option (Nat × Bool)} {z e : Nat} {b : Bool} {sz : Nat} {m : Nat} {len ix off : Nat} {xs : List (List TV)} {Y : TV} (hx : evM l x = some (.ip (.L m) len z ix off)) (hn : lkN o m = some (.ow z e [] xs)) (hc : xs[ix]? = some c)
    (k : EOps P hbs ops (i + 1) r ((MS.mk l n ((m, .ow z e [] (xs.set ix (splice c off (y.cells.map TV.p)))) :: o) H).st G md) K)
    (hf : hbs 4294967296 = true := by rfl) (hg : gtM ops.toList l n gd = true := by rfl) (hY0 : evM l yo = some Y := by rfl) (hY1 : relT (obM o H) Y y := by (repeat' apply And.intro) <;> first | trivial | rfl | assumption | omega | exact mT rfl | exact mT (by assumption) | exact mM rfl | exact mM (by assumption) | exact mI (by assumption) | exact mS (by assumption) | exact mU (by assumption) | (simp; done) | (simp [Mn.f0, Mn.f1, Mn.f2, Mn.f3, Mn.f4, Tn.f0]; done) | (simp [*]; done) | (simp [relT, eT_eq, eM_eq, PV.cells, Tn.f0, Mn.f4, *]; done) | (simp; omega)) (hl : T.lay t = some (b, sz) := by rfl) (hlen : xs.length = len := by first | rfl | (simp; done)) (hsz : y.cells.length = sz := by rfl) (hoff : off + sz ≤ c.length := by exact (Nat.le_of_ble_eq_true rfl)) :
    EOps P hbs ops i (⟨none, .store t x yo, ty, pos, af, gd⟩ :: r) ((MS.mk l n o H).st G md) K := EOps.soP T y c hf hg hx hY0 hY1 hn hl hlen hc hsz hoff (fun m hm => by cases hm) k
end
end Go.Proofs.YtlcmokgnmlklnaaDoor.En
end
section
namespace Go.Proofs.YtlcmokgnmlklnaaDoor.B
set_option linter.unusedVariables false
set_option linter.unusedSimpArgs false
open Go Go.RowKit Go.Proofs.YtlcmokgnmlklnaaDoor.En
inductive Tn where
  | mk (f0 : List Tn)
def Tn.f0 : Tn → List Tn
  | ⟨l⟩ => l
abbrev Ty := List Tn
inductive Mn where
  | mk (f0 f1 : Int) (f2 : ByteArray) (f3 : List Int) (f4 : List Mn)
def Mn.f0 : Mn → Int
  | ⟨a, _, _, _, _⟩ => a
def Mn.f1 : Mn → Int
  | ⟨_, a, _, _, _⟩ => a
def Mn.f2 : Mn → ByteArray
  | ⟨_, _, a, _, _⟩ => a
def Mn.f3 : Mn → List Int
  | ⟨_, _, _, a, _⟩ => a
def Mn.f4 : Mn → List Mn
  | ⟨_, _, _, _, a⟩ => a
mutual
def eT : Tn → PV
  | ⟨l⟩ => .ag [.row 1 (eTs l)]
def eTs : List Tn → List PV
  | [] => []
  | t :: l => eT t :: eTs l
end
theorem eTs_map : ∀ l, eTs l = l.map eT
  | [] => rfl
  | t :: l => by unfold eTs; rw [eTs_map l]; rfl
abbrev pt (l : List Tn) : PV := .ag [.row 1 (l.map eT)]
theorem eT_eq (t : Tn) : eT t = pt t.f0 := by cases t; unfold eT; rw [eTs_map]; rfl
theorem mT {l : List Tn} {i : Nat} {x : Tn} (h : l[i]? = some x) : (l.map eT)[i]? = some (pt x.f0) := by rw [List.getElem?_map, h, Option.map_some, eT_eq]
mutual
def eM : Mn → PV
  | ⟨a, b, s, p, l⟩ => .ag [pi a, pi b, ps s, .row 1 (p.map pi), .row 5 (eMs l)]
def eMs : List Mn → List PV
  | [] => []
  | t :: l => eM t :: eMs l
end
theorem eMs_map : ∀ l, eMs l = l.map eM
  | [] => rfl
  | t :: l => by unfold eMs; rw [eMs_map l]; rfl
abbrev pm (t : Mn) : PV := .ag [pi t.f0, pi t.f1, ps t.f2, .row 1 (t.f3.map pi), .row 5 (t.f4.map eM)]
theorem eM_eq (t : Mn) : eM t = pm t := by cases t; unfold eM; rw [eMs_map]; rfl
theorem mM {l : List Mn} {i : Nat} {x : Mn} (h : l[i]? = some x) : (l.map eM)[i]? = some (pm x) := by rw [List.getElem?_map, h, Option.map_some, eM_eq]
theorem mI {l : List Int} {i : Nat} {x : Int} (h : l[i]? = some x) : (l.map pi)[i]? = some (pi x) := by rw [List.getElem?_map, h, Option.map_some]
theorem mS {l : List ByteArray} {i : Nat} {x : ByteArray} (h : l[i]? = some x) : (l.map ps)[i]? = some (ps x) := by rw [List.getElem?_map, h, Option.map_some]
def dp : Nat → Ty → Bool
  | 0, _ => false
  | _ + 1, [] => true
  | n + 1, [a, b] => dp n a.f0 && dp n b.f0
  | _ + 1, _ => false
theorem dp_nil (n : Nat) : dp (n + 1) [] = true := rfl
theorem dp_two (n : Nat) (a b : Tn) : dp (n + 1) [a, b] = (dp n a.f0 && dp n b.f0) := rfl
theorem dp_odd (n : Nat) (l : Ty) (h0 : l.length ≠ 0) (h2 : l.length ≠ 2) : dp n l = false := by
  cases n with
  | zero => rfl
  | succ n =>
    match l with
    | [] => simp at h0
    | [_] => rfl
    | [_, _] => simp at h2
    | _ :: _ :: _ :: _ => rfl
theorem two_of {l : Ty} (h : l.length = 2) : ∃ a b, l = [a, b] := by
  match l with
  | [a, b] => exact ⟨a, b, rfl⟩
theorem shp (l : Ty) : l = [] ∨ (∃ a b, l = [a, b]) ∨ (l.length ≠ 0 ∧ l.length ≠ 2) := by
  match l with
  | [] => exact .inl rfl
  | [_] => exact .inr (.inr ⟨by simp, by simp⟩)
  | [a, b] => exact .inr (.inl ⟨a, b, rfl⟩)
  | _ :: _ :: _ :: _ => exact .inr (.inr ⟨by simp, by simp⟩)
def teq : Nat → Ty → Ty → Bool
  | _ + 1, [], [] => true
  | n + 1, [a, b], [c, d] => teq n a.f0 c.f0 && teq n b.f0 d.f0
  | _, _, _ => false
theorem teq_eq : ∀ (n : Nat) (a b : Ty), teq n a b = true → a = b := by
  intro n
  induction n with
  | zero => intro a b h; simp [teq] at h
  | succ n ih =>
    intro a b h
    unfold teq at h
    split at h
    · rfl
    · rename_i m x y z u he
      cases he
      rw [Bool.and_eq_true] at h
      have h1 := ih _ _ h.1
      have h2 := ih _ _ h.2
      cases x; cases y; cases z; cases u
      simp only [Tn.f0] at h1 h2
      subst h1
      subst h2
      rfl
    · cases h
theorem teq_refl : ∀ (n : Nat) (a : Ty), dp n a = true → teq n a a = true := by
  intro n
  induction n with
  | zero => intro a h; simp [dp] at h
  | succ n ih =>
    intro a h
    rcases shp a with rfl | ⟨a1, a2, rfl⟩ | ⟨h0, h2⟩
    · rfl
    · rw [dp_two, Bool.and_eq_true] at h
      show (teq n a1.f0 a1.f0 && teq n a2.f0 a2.f0) = true
      rw [ih _ h.1, ih _ h.2]; rfl
    · rw [dp_odd _ _ h0 h2] at h; cases h
def pf : List Int → Ty → Option Ty
  | [], t => some t
  | i :: r, [a, b] => if i = 0 then pf r a.f0 else if i = 1 then pf r b.f0 else none
  | _ :: _, _ => none
theorem pf_nil (t : Ty) : pf [] t = some t := by cases t <;> rfl
theorem pf_two (i : Int) (r : List Int) (a b : Tn) : pf (i :: r) [a, b] = if i = 0 then pf r a.f0 else if i = 1 then pf r b.f0 else none := rfl
theorem pf_odd (i : Int) (r : List Int) (t : Ty) (h : t.length ≠ 2) : pf (i :: r) t = none := by
  match t with
  | [] => rfl
  | [_] => rfl
  | [_, _] => simp at h
  | _ :: _ :: _ :: _ => rfl
theorem pf_app (p q : List Int) : ∀ t, pf (p ++ q) t = (pf p t).bind (pf q) := by
  induction p with
  | nil => intro t; rw [List.nil_append, pf_nil]; rfl
  | cons i r ih =>
    intro t
    by_cases h : t.length = 2
    · obtain ⟨a, b, rfl⟩ := two_of h
      rw [List.cons_append, pf_two, pf_two]
      split
      · exact ih _
      · split
        · exact ih _
        · rfl
    · rw [List.cons_append, pf_odd _ _ _ h, pf_odd _ _ _ h]; rfl
theorem dp_succ : ∀ (n : Nat) (t : Ty), dp n t = true → dp (n + 1) t = true := by
  intro n
  induction n with
  | zero => intro t h; simp [dp] at h
  | succ n ih =>
    intro t h
    rcases shp t with rfl | ⟨a, b, rfl⟩ | ⟨h0, h2⟩
    · rfl
    · rw [dp_two, Bool.and_eq_true] at h ⊢
      exact ⟨ih _ h.1, ih _ h.2⟩
    · rw [dp_odd _ _ h0 h2] at h; cases h
theorem dp_pf (n : Nat) : ∀ (p : List Int) (t u : Ty), dp n t = true → pf p t = some u → dp n u = true := by
  intro p
  induction p with
  | nil => intro t u h e; rw [pf_nil] at e; cases e; exact h
  | cons i r ih =>
    intro t u h e
    by_cases h2 : t.length = 2
    · obtain ⟨a, b, rfl⟩ := two_of h2
      cases n with
      | zero => simp [dp] at h
      | succ n =>
        rw [dp_two, Bool.and_eq_true] at h
        rw [pf_two] at e
        split at e
        · exact ih _ _ (dp_succ _ _ h.1) e
        · split at e
          · exact ih _ _ (dp_succ _ _ h.2) e
          · cases e
    · rw [pf_odd _ _ _ h2] at e; cases e
def at_ (o : Option Ty) : Ty × Bool := match o with | some u => (u, true) | none => ([], false)
def tat (t : Ty) (p : List Int) : Ty × Bool := if dp 4 t = true then at_ (pf p t) else ([], false)
theorem tat_ok (t : Ty) (p : List Int) : dp 4 (tat t p).1 = true := by
  unfold tat
  split
  · rename_i d
    cases e : pf p t with
    | none => rfl
    | some u => exact dp_pf 4 _ _ _ d e
  · rfl
theorem cmp_odd {l : Ty} (h : l.length ≠ 2) : ((((l.map eT).length : Nat) : Int) == 2) = false := by simp; omega
theorem cmp_nz {l : Ty} (h : l.length ≠ 0) : ((((l.map eT).length : Nat) : Int) == 0) = false := by simp; intro e; exact h (by simp [e])
theorem teq_len (n : Nat) (a b : Ty) (h : a.length ≠ b.length) : teq n a b = false := by
  cases h2 : teq n a b with
  | false => rfl
  | true => exact absurd (by rw [teq_eq n a b h2]) h
end Go.Proofs.YtlcmokgnmlklnaaDoor.B
end
section
namespace Go.Proofs.YtlcmokgnmlklnaaDoor.Ty
open Go Go.Proofs.YtlcmokgnmlklnaaDoor.En
set_option maxRecDepth 100000
theorem lay2 : lay Tryd.prog 2 = some (false, 1) := by kernel_rfl
theorem zer2 : zer Tryd.prog 2 = some [(.int .i64 0)] := by kernel_rfl
theorem zrv2 : (Tryd.prog.info? 2).bind (·.zero) = some (.int .i64 0) := by kernel_rfl
theorem byt2 : byt Tryd.prog 2 = some 8 := by kernel_rfl
theorem und2 : Tryd.prog.underlying 2 = some (.int .i64) := by kernel_rfl
theorem con2 : Tryd.prog.concrete 2 = true := by kernel_rfl
theorem lay3 : lay Tryd.prog 3 = some (false, 1) := by kernel_rfl
theorem zer3 : zer Tryd.prog 3 = some [(.int .i64 0)] := by kernel_rfl
theorem zrv3 : (Tryd.prog.info? 3).bind (·.zero) = some (.int .i64 0) := by kernel_rfl
theorem byt3 : byt Tryd.prog 3 = some 8 := by kernel_rfl
theorem und3 : Tryd.prog.underlying 3 = some (.int .i64) := by kernel_rfl
theorem con3 : Tryd.prog.concrete 3 = true := by kernel_rfl
theorem lay4 : lay Tryd.prog 4 = some (false, 1) := by kernel_rfl
theorem zer4 : zer Tryd.prog 4 = some [(.bool false)] := by kernel_rfl
theorem zrv4 : (Tryd.prog.info? 4).bind (·.zero) = some (.bool false) := by kernel_rfl
theorem byt4 : byt Tryd.prog 4 = some 1 := by kernel_rfl
theorem und4 : Tryd.prog.underlying 4 = some .bool := by kernel_rfl
theorem con4 : Tryd.prog.concrete 4 = true := by kernel_rfl
theorem lay5 : lay Tryd.prog 5 = some (false, 1) := by kernel_rfl
theorem zer5 : zer Tryd.prog 5 = some [(.int .u8 0)] := by kernel_rfl
theorem zrv5 : (Tryd.prog.info? 5).bind (·.zero) = some (.int .u8 0) := by kernel_rfl
theorem byt5 : byt Tryd.prog 5 = some 1 := by kernel_rfl
theorem und5 : Tryd.prog.underlying 5 = some (.int .u8) := by kernel_rfl
theorem con5 : Tryd.prog.concrete 5 = true := by kernel_rfl
theorem lay6 : lay Tryd.prog 6 = some (false, 1) := by kernel_rfl
theorem zer6 : zer Tryd.prog 6 = some [(.int .u8 0)] := by kernel_rfl
theorem zrv6 : (Tryd.prog.info? 6).bind (·.zero) = some (.int .u8 0) := by kernel_rfl
theorem byt6 : byt Tryd.prog 6 = some 1 := by kernel_rfl
theorem und6 : Tryd.prog.underlying 6 = some (.int .u8) := by kernel_rfl
theorem con6 : Tryd.prog.concrete 6 = true := by kernel_rfl
theorem lay7 : lay Tryd.prog 7 = some (true, 4) := by kernel_rfl
theorem zer7 : zer Tryd.prog 7 = some [(.int .i64 0), (.int .i64 0), (.bool false), (.int .u8 0)] := by kernel_rfl
theorem zrv7 : (Tryd.prog.info? 7).bind (·.zero) = some (.agg #[(.int .i64 0), (.int .i64 0), (.bool false), (.int .u8 0)]) := by kernel_rfl
theorem byt7 : byt Tryd.prog 7 = some 24 := by kernel_rfl
theorem fld7 : flds Tryd.prog 7 = some [(0, 1, false), (1, 1, false), (2, 1, false), (3, 1, false)] := by kernel_rfl
theorem con7 : Tryd.prog.concrete 7 = true := by kernel_rfl
theorem lay8 : lay Tryd.prog 8 = some (true, 4) := by kernel_rfl
theorem zer8 : zer Tryd.prog 8 = some [(.int .i64 0), (.int .i64 0), (.bool false), (.int .u8 0)] := by kernel_rfl
theorem zrv8 : (Tryd.prog.info? 8).bind (·.zero) = some (.agg #[(.int .i64 0), (.int .i64 0), (.bool false), (.int .u8 0)]) := by kernel_rfl
theorem byt8 : byt Tryd.prog 8 = some 24 := by kernel_rfl
theorem fld8 : flds Tryd.prog 8 = some [(0, 1, false), (1, 1, false), (2, 1, false), (3, 1, false)] := by kernel_rfl
theorem con8 : Tryd.prog.concrete 8 = true := by kernel_rfl
theorem lay9 : lay Tryd.prog 9 = some (false, 1) := by kernel_rfl
theorem zer9 : zer Tryd.prog 9 = some [(.string ByteArray.empty)] := by kernel_rfl
theorem zrv9 : (Tryd.prog.info? 9).bind (·.zero) = some (.string ByteArray.empty) := by kernel_rfl
theorem byt9 : byt Tryd.prog 9 = some 16 := by kernel_rfl
theorem und9 : Tryd.prog.underlying 9 = some .string := by kernel_rfl
theorem con9 : Tryd.prog.concrete 9 = true := by kernel_rfl
theorem lay10 : lay Tryd.prog 10 = some (false, 1) := by kernel_rfl
theorem zer10 : zer Tryd.prog 10 = some [(.string ByteArray.empty)] := by kernel_rfl
theorem zrv10 : (Tryd.prog.info? 10).bind (·.zero) = some (.string ByteArray.empty) := by kernel_rfl
theorem byt10 : byt Tryd.prog 10 = some 16 := by kernel_rfl
theorem und10 : Tryd.prog.underlying 10 = some .string := by kernel_rfl
theorem con10 : Tryd.prog.concrete 10 = true := by kernel_rfl
theorem lay11 : lay Tryd.prog 11 = some (false, 1) := by kernel_rfl
theorem zer11 : zer Tryd.prog 11 = some [(.string ByteArray.empty)] := by kernel_rfl
theorem zrv11 : (Tryd.prog.info? 11).bind (·.zero) = some (.string ByteArray.empty) := by kernel_rfl
theorem byt11 : byt Tryd.prog 11 = some 16 := by kernel_rfl
theorem und11 : Tryd.prog.underlying 11 = some .string := by kernel_rfl
theorem con11 : Tryd.prog.concrete 11 = true := by kernel_rfl
theorem lay12 : lay Tryd.prog 12 = some (false, 1) := by kernel_rfl
theorem zer12 : zer Tryd.prog 12 = some [(.int .u64 0)] := by kernel_rfl
theorem zrv12 : (Tryd.prog.info? 12).bind (·.zero) = some (.int .u64 0) := by kernel_rfl
theorem byt12 : byt Tryd.prog 12 = some 8 := by kernel_rfl
theorem und12 : Tryd.prog.underlying 12 = some (.int .u64) := by kernel_rfl
theorem con12 : Tryd.prog.concrete 12 = true := by kernel_rfl
theorem lay13 : lay Tryd.prog 13 = some (true, 2) := by kernel_rfl
theorem zer13 : zer Tryd.prog 13 = some [(.string ByteArray.empty), (.int .u64 0)] := by kernel_rfl
theorem zrv13 : (Tryd.prog.info? 13).bind (·.zero) = some (.agg #[(.string ByteArray.empty), (.int .u64 0)]) := by kernel_rfl
theorem byt13 : byt Tryd.prog 13 = some 24 := by kernel_rfl
theorem fld13 : flds Tryd.prog 13 = some [(0, 1, false), (1, 1, false)] := by kernel_rfl
theorem con13 : Tryd.prog.concrete 13 = true := by kernel_rfl
theorem lay14 : lay Tryd.prog 14 = some (true, 2) := by kernel_rfl
theorem zer14 : zer Tryd.prog 14 = some [(.string ByteArray.empty), (.int .u64 0)] := by kernel_rfl
theorem zrv14 : (Tryd.prog.info? 14).bind (·.zero) = some (.agg #[(.string ByteArray.empty), (.int .u64 0)]) := by kernel_rfl
theorem byt14 : byt Tryd.prog 14 = some 24 := by kernel_rfl
theorem fld14 : flds Tryd.prog 14 = some [(0, 1, false), (1, 1, false)] := by kernel_rfl
theorem con14 : Tryd.prog.concrete 14 = true := by kernel_rfl
theorem lay15 : lay Tryd.prog 15 = some (false, 1) := by kernel_rfl
theorem zer15 : zer Tryd.prog 15 = some [(.pointer none)] := by kernel_rfl
theorem zrv15 : (Tryd.prog.info? 15).bind (·.zero) = some (.pointer none) := by kernel_rfl
theorem byt15 : byt Tryd.prog 15 = some 8 := by kernel_rfl
theorem und15 : Tryd.prog.underlying 15 = some (.pointer 131) := by kernel_rfl
theorem con15 : Tryd.prog.concrete 15 = true := by kernel_rfl
theorem lay16 : lay Tryd.prog 16 = some (false, 1) := by kernel_rfl
theorem zer16 : zer Tryd.prog 16 = some [(.pointer none)] := by kernel_rfl
theorem zrv16 : (Tryd.prog.info? 16).bind (·.zero) = some (.pointer none) := by kernel_rfl
theorem byt16 : byt Tryd.prog 16 = some 8 := by kernel_rfl
theorem und16 : Tryd.prog.underlying 16 = some (.pointer 134) := by kernel_rfl
theorem con16 : Tryd.prog.concrete 16 = true := by kernel_rfl
theorem lay17 : lay Tryd.prog 17 = some (false, 1) := by kernel_rfl
theorem zer17 : zer Tryd.prog 17 = some [(.pointer none)] := by kernel_rfl
theorem zrv17 : (Tryd.prog.info? 17).bind (·.zero) = some (.pointer none) := by kernel_rfl
theorem byt17 : byt Tryd.prog 17 = some 8 := by kernel_rfl
theorem und17 : Tryd.prog.underlying 17 = some (.pointer 144) := by kernel_rfl
theorem con17 : Tryd.prog.concrete 17 = true := by kernel_rfl
theorem lay18 : lay Tryd.prog 18 = some (true, 1) := by kernel_rfl
theorem zer18 : zer Tryd.prog 18 = some [(.pointer none)] := by kernel_rfl
theorem zrv18 : (Tryd.prog.info? 18).bind (·.zero) = some (.agg #[(.pointer none)]) := by kernel_rfl
theorem byt18 : byt Tryd.prog 18 = some 8 := by kernel_rfl
theorem fld18 : flds Tryd.prog 18 = some [(0, 1, false)] := by kernel_rfl
theorem con18 : Tryd.prog.concrete 18 = true := by kernel_rfl
theorem lay19 : lay Tryd.prog 19 = some (true, 1) := by kernel_rfl
theorem zer19 : zer Tryd.prog 19 = some [(.pointer none)] := by kernel_rfl
theorem zrv19 : (Tryd.prog.info? 19).bind (·.zero) = some (.agg #[(.pointer none)]) := by kernel_rfl
theorem byt19 : byt Tryd.prog 19 = some 8 := by kernel_rfl
theorem fld19 : flds Tryd.prog 19 = some [(0, 1, false)] := by kernel_rfl
theorem con19 : Tryd.prog.concrete 19 = true := by kernel_rfl
theorem lay20 : lay Tryd.prog 20 = some (false, 1) := by kernel_rfl
theorem zer20 : zer Tryd.prog 20 = some [.nilIface] := by kernel_rfl
theorem zrv20 : (Tryd.prog.info? 20).bind (·.zero) = some .nilIface := by kernel_rfl
theorem byt20 : byt Tryd.prog 20 = some 16 := by kernel_rfl
theorem und20 : Tryd.prog.underlying 20 = some (.interface #[]) := by kernel_rfl
theorem lay21 : lay Tryd.prog 21 = some (false, 1) := by kernel_rfl
theorem zer21 : zer Tryd.prog 21 = some [(.int .i32 0)] := by kernel_rfl
theorem zrv21 : (Tryd.prog.info? 21).bind (·.zero) = some (.int .i32 0) := by kernel_rfl
theorem byt21 : byt Tryd.prog 21 = some 4 := by kernel_rfl
theorem und21 : Tryd.prog.underlying 21 = some (.int .i32) := by kernel_rfl
theorem con21 : Tryd.prog.concrete 21 = true := by kernel_rfl
theorem lay22 : lay Tryd.prog 22 = some (false, 1) := by kernel_rfl
theorem zer22 : zer Tryd.prog 22 = some [(.slice none 0 0)] := by kernel_rfl
theorem zrv22 : (Tryd.prog.info? 22).bind (·.zero) = some (.slice none 0 0) := by kernel_rfl
theorem byt22 : byt Tryd.prog 22 = some 24 := by kernel_rfl
theorem und22 : Tryd.prog.underlying 22 = some (.slice 5) := by kernel_rfl
theorem con22 : Tryd.prog.concrete 22 = true := by kernel_rfl
theorem lay23 : lay Tryd.prog 23 = some (false, 1) := by kernel_rfl
theorem zer23 : zer Tryd.prog 23 = some [(.slice none 0 0)] := by kernel_rfl
theorem zrv23 : (Tryd.prog.info? 23).bind (·.zero) = some (.slice none 0 0) := by kernel_rfl
theorem byt23 : byt Tryd.prog 23 = some 24 := by kernel_rfl
theorem und23 : Tryd.prog.underlying 23 = some (.slice 9) := by kernel_rfl
theorem con23 : Tryd.prog.concrete 23 = true := by kernel_rfl
theorem lay24 : lay Tryd.prog 24 = some (false, 1) := by kernel_rfl
theorem zer24 : zer Tryd.prog 24 = some [(.slice none 0 0)] := by kernel_rfl
theorem zrv24 : (Tryd.prog.info? 24).bind (·.zero) = some (.slice none 0 0) := by kernel_rfl
theorem byt24 : byt Tryd.prog 24 = some 24 := by kernel_rfl
theorem und24 : Tryd.prog.underlying 24 = some (.slice 32) := by kernel_rfl
theorem con24 : Tryd.prog.concrete 24 = true := by kernel_rfl
theorem lay25 : lay Tryd.prog 25 = some (false, 1) := by kernel_rfl
theorem zer25 : zer Tryd.prog 25 = some [(.slice none 0 0)] := by kernel_rfl
theorem zrv25 : (Tryd.prog.info? 25).bind (·.zero) = some (.slice none 0 0) := by kernel_rfl
theorem byt25 : byt Tryd.prog 25 = some 24 := by kernel_rfl
theorem und25 : Tryd.prog.underlying 25 = some (.slice 3) := by kernel_rfl
theorem con25 : Tryd.prog.concrete 25 = true := by kernel_rfl
theorem lay26 : lay Tryd.prog 26 = some (false, 1) := by kernel_rfl
theorem zer26 : zer Tryd.prog 26 = some [(.slice none 0 0)] := by kernel_rfl
theorem zrv26 : (Tryd.prog.info? 26).bind (·.zero) = some (.slice none 0 0) := by kernel_rfl
theorem byt26 : byt Tryd.prog 26 = some 24 := by kernel_rfl
theorem und26 : Tryd.prog.underlying 26 = some (.slice 28) := by kernel_rfl
theorem con26 : Tryd.prog.concrete 26 = true := by kernel_rfl
theorem lay27 : lay Tryd.prog 27 = some (true, 5) := by kernel_rfl
theorem zer27 : zer Tryd.prog 27 = some [(.int .i64 0), (.int .i64 0), (.string ByteArray.empty), (.slice none 0 0), (.slice none 0 0)] := by kernel_rfl
theorem zrv27 : (Tryd.prog.info? 27).bind (·.zero) = some (.agg #[(.int .i64 0), (.int .i64 0), (.string ByteArray.empty), (.slice none 0 0), (.slice none 0 0)]) := by kernel_rfl
theorem byt27 : byt Tryd.prog 27 = some 80 := by kernel_rfl
theorem fld27 : flds Tryd.prog 27 = some [(0, 1, false), (1, 1, false), (2, 1, false), (3, 1, false), (4, 1, false)] := by kernel_rfl
theorem con27 : Tryd.prog.concrete 27 = true := by kernel_rfl
theorem lay28 : lay Tryd.prog 28 = some (true, 5) := by kernel_rfl
theorem zer28 : zer Tryd.prog 28 = some [(.int .i64 0), (.int .i64 0), (.string ByteArray.empty), (.slice none 0 0), (.slice none 0 0)] := by kernel_rfl
theorem zrv28 : (Tryd.prog.info? 28).bind (·.zero) = some (.agg #[(.int .i64 0), (.int .i64 0), (.string ByteArray.empty), (.slice none 0 0), (.slice none 0 0)]) := by kernel_rfl
theorem byt28 : byt Tryd.prog 28 = some 80 := by kernel_rfl
theorem fld28 : flds Tryd.prog 28 = some [(0, 1, false), (1, 1, false), (2, 1, false), (3, 1, false), (4, 1, false)] := by kernel_rfl
theorem con28 : Tryd.prog.concrete 28 = true := by kernel_rfl
theorem lay31 : lay Tryd.prog 31 = some (true, 1) := by kernel_rfl
theorem zer31 : zer Tryd.prog 31 = some [(.slice none 0 0)] := by kernel_rfl
theorem zrv31 : (Tryd.prog.info? 31).bind (·.zero) = some (.agg #[(.slice none 0 0)]) := by kernel_rfl
theorem byt31 : byt Tryd.prog 31 = some 24 := by kernel_rfl
theorem fld31 : flds Tryd.prog 31 = some [(0, 1, false)] := by kernel_rfl
theorem con31 : Tryd.prog.concrete 31 = true := by kernel_rfl
theorem lay32 : lay Tryd.prog 32 = some (true, 1) := by kernel_rfl
theorem zer32 : zer Tryd.prog 32 = some [(.slice none 0 0)] := by kernel_rfl
theorem zrv32 : (Tryd.prog.info? 32).bind (·.zero) = some (.agg #[(.slice none 0 0)]) := by kernel_rfl
theorem byt32 : byt Tryd.prog 32 = some 24 := by kernel_rfl
theorem fld32 : flds Tryd.prog 32 = some [(0, 1, false)] := by kernel_rfl
theorem con32 : Tryd.prog.concrete 32 = true := by kernel_rfl
theorem lay38 : lay Tryd.prog 38 = some (false, 1) := by kernel_rfl
theorem zer38 : zer Tryd.prog 38 = some [(.pointer none)] := by kernel_rfl
theorem zrv38 : (Tryd.prog.info? 38).bind (·.zero) = some (.pointer none) := by kernel_rfl
theorem byt38 : byt Tryd.prog 38 = some 8 := by kernel_rfl
theorem und38 : Tryd.prog.underlying 38 = some (.pointer 65) := by kernel_rfl
theorem con38 : Tryd.prog.concrete 38 = true := by kernel_rfl
theorem lay49 : lay Tryd.prog 49 = some (false, 1) := by kernel_rfl
theorem zer49 : zer Tryd.prog 49 = some [(.pointer none)] := by kernel_rfl
theorem zrv49 : (Tryd.prog.info? 49).bind (·.zero) = some (.pointer none) := by kernel_rfl
theorem byt49 : byt Tryd.prog 49 = some 8 := by kernel_rfl
theorem und49 : Tryd.prog.underlying 49 = some (.pointer 51) := by kernel_rfl
theorem con49 : Tryd.prog.concrete 49 = true := by kernel_rfl
theorem lay50 : lay Tryd.prog 50 = some (true, 2) := by kernel_rfl
theorem zer50 : zer Tryd.prog 50 = some [(.slice none 0 0), (.slice none 0 0)] := by kernel_rfl
theorem zrv50 : (Tryd.prog.info? 50).bind (·.zero) = some (.agg #[(.slice none 0 0), (.slice none 0 0)]) := by kernel_rfl
theorem byt50 : byt Tryd.prog 50 = some 48 := by kernel_rfl
theorem fld50 : flds Tryd.prog 50 = some [(0, 1, false), (1, 1, false)] := by kernel_rfl
theorem con50 : Tryd.prog.concrete 50 = true := by kernel_rfl
theorem lay51 : lay Tryd.prog 51 = some (true, 2) := by kernel_rfl
theorem zer51 : zer Tryd.prog 51 = some [(.slice none 0 0), (.slice none 0 0)] := by kernel_rfl
theorem zrv51 : (Tryd.prog.info? 51).bind (·.zero) = some (.agg #[(.slice none 0 0), (.slice none 0 0)]) := by kernel_rfl
theorem byt51 : byt Tryd.prog 51 = some 48 := by kernel_rfl
theorem fld51 : flds Tryd.prog 51 = some [(0, 1, false), (1, 1, false)] := by kernel_rfl
theorem con51 : Tryd.prog.concrete 51 = true := by kernel_rfl
theorem lay56 : lay Tryd.prog 56 = some (false, 1) := by kernel_rfl
theorem zer56 : zer Tryd.prog 56 = some [(.map none)] := by kernel_rfl
theorem zrv56 : (Tryd.prog.info? 56).bind (·.zero) = some (.map none) := by kernel_rfl
theorem byt56 : byt Tryd.prog 56 = some 8 := by kernel_rfl
theorem und56 : Tryd.prog.underlying 56 = some (.map 9 32) := by kernel_rfl
theorem con56 : Tryd.prog.concrete 56 = true := by kernel_rfl
theorem lay57 : lay Tryd.prog 57 = some (false, 1) := by kernel_rfl
theorem zer57 : zer Tryd.prog 57 = some [(.map none)] := by kernel_rfl
theorem zrv57 : (Tryd.prog.info? 57).bind (·.zero) = some (.map none) := by kernel_rfl
theorem byt57 : byt Tryd.prog 57 = some 8 := by kernel_rfl
theorem und57 : Tryd.prog.underlying 57 = some (.map 9 32) := by kernel_rfl
theorem con57 : Tryd.prog.concrete 57 = true := by kernel_rfl
theorem lay59 : lay Tryd.prog 59 = some (false, 1) := by kernel_rfl
theorem zer59 : zer Tryd.prog 59 = some [.nilIface] := by kernel_rfl
theorem zrv59 : (Tryd.prog.info? 59).bind (·.zero) = some .nilIface := by kernel_rfl
theorem byt59 : byt Tryd.prog 59 = some 16 := by kernel_rfl
theorem und59 : Tryd.prog.underlying 59 = some (.interface #[("Error", 129)]) := by kernel_rfl
theorem lay60 : lay Tryd.prog 60 = some (false, 1) := by kernel_rfl
theorem zer60 : zer Tryd.prog 60 = some [.nilIface] := by kernel_rfl
theorem zrv60 : (Tryd.prog.info? 60).bind (·.zero) = some .nilIface := by kernel_rfl
theorem byt60 : byt Tryd.prog 60 = some 16 := by kernel_rfl
theorem und60 : Tryd.prog.underlying 60 = some (.interface #[("Error", 129)]) := by kernel_rfl
theorem lay64 : lay Tryd.prog 64 = some (true, 2) := by kernel_rfl
theorem zer64 : zer Tryd.prog 64 = some [(.slice none 0 0), (.int .i64 0)] := by kernel_rfl
theorem zrv64 : (Tryd.prog.info? 64).bind (·.zero) = some (.agg #[(.slice none 0 0), (.int .i64 0)]) := by kernel_rfl
theorem byt64 : byt Tryd.prog 64 = some 32 := by kernel_rfl
theorem fld64 : flds Tryd.prog 64 = some [(0, 1, false), (1, 1, false)] := by kernel_rfl
theorem con64 : Tryd.prog.concrete 64 = true := by kernel_rfl
theorem lay65 : lay Tryd.prog 65 = some (true, 2) := by kernel_rfl
theorem zer65 : zer Tryd.prog 65 = some [(.slice none 0 0), (.int .i64 0)] := by kernel_rfl
theorem zrv65 : (Tryd.prog.info? 65).bind (·.zero) = some (.agg #[(.slice none 0 0), (.int .i64 0)]) := by kernel_rfl
theorem byt65 : byt Tryd.prog 65 = some 32 := by kernel_rfl
theorem fld65 : flds Tryd.prog 65 = some [(0, 1, false), (1, 1, false)] := by kernel_rfl
theorem con65 : Tryd.prog.concrete 65 = true := by kernel_rfl
theorem lay75 : lay Tryd.prog 75 = some (false, 1) := by kernel_rfl
theorem zer75 : zer Tryd.prog 75 = some [.nilIface] := by kernel_rfl
theorem zrv75 : (Tryd.prog.info? 75).bind (·.zero) = some .nilIface := by kernel_rfl
theorem byt75 : byt Tryd.prog 75 = some 16 := by kernel_rfl
theorem und75 : Tryd.prog.underlying 75 = some (.interface #[("AssignableTo", 146), ("Comparable", 78), ("Elem", 147), ("Implements", 146), ("Kind", 148), ("Name", 129), ("PkgPath", 129), ("Size", 149), ("String", 129), ("internal/reflectlite.common", 150), ("internal/reflectlite.uncommon", 151)]) := by kernel_rfl
theorem lay76 : lay Tryd.prog 76 = some (false, 1) := by kernel_rfl
theorem zer76 : zer Tryd.prog 76 = some [.nilIface] := by kernel_rfl
theorem zrv76 : (Tryd.prog.info? 76).bind (·.zero) = some .nilIface := by kernel_rfl
theorem byt76 : byt Tryd.prog 76 = some 16 := by kernel_rfl
theorem und76 : Tryd.prog.underlying 76 = some (.interface #[("AssignableTo", 146), ("Comparable", 78), ("Elem", 147), ("Implements", 146), ("Kind", 148), ("Name", 129), ("PkgPath", 129), ("Size", 149), ("String", 129), ("internal/reflectlite.common", 150), ("internal/reflectlite.uncommon", 151)]) := by kernel_rfl
theorem lay85 : lay Tryd.prog 85 = some (true, 1) := by kernel_rfl
theorem zer85 : zer Tryd.prog 85 = some [(.pointer none)] := by kernel_rfl
theorem zrv85 : (Tryd.prog.info? 85).bind (·.zero) = some (.agg #[(.pointer none)]) := by kernel_rfl
theorem byt85 : byt Tryd.prog 85 = some 8 := by kernel_rfl
theorem fld85 : flds Tryd.prog 85 = some [(0, 1, false)] := by kernel_rfl
theorem con85 : Tryd.prog.concrete 85 = true := by kernel_rfl
theorem lay86 : lay Tryd.prog 86 = some (true, 1) := by kernel_rfl
theorem zer86 : zer Tryd.prog 86 = some [(.pointer none)] := by kernel_rfl
theorem zrv86 : (Tryd.prog.info? 86).bind (·.zero) = some (.agg #[(.pointer none)]) := by kernel_rfl
theorem byt86 : byt Tryd.prog 86 = some 8 := by kernel_rfl
theorem fld86 : flds Tryd.prog 86 = some [(0, 1, false)] := by kernel_rfl
theorem con86 : Tryd.prog.concrete 86 = true := by kernel_rfl
theorem lay87 : lay Tryd.prog 87 = some (false, 1) := by kernel_rfl
theorem zer87 : zer Tryd.prog 87 = some [(.pointer none)] := by kernel_rfl
theorem zrv87 : (Tryd.prog.info? 87).bind (·.zero) = some (.pointer none) := by kernel_rfl
theorem byt87 : byt Tryd.prog 87 = some 8 := by kernel_rfl
theorem und87 : Tryd.prog.underlying 87 = some (.pointer 153) := by kernel_rfl
theorem con87 : Tryd.prog.concrete 87 = true := by kernel_rfl
theorem lay88 : lay Tryd.prog 88 = some (false, 1) := by kernel_rfl
theorem zer88 : zer Tryd.prog 88 = some [.nilIface] := by kernel_rfl
theorem zrv88 : (Tryd.prog.info? 88).bind (·.zero) = some .nilIface := by kernel_rfl
theorem byt88 : byt Tryd.prog 88 = some 16 := by kernel_rfl
theorem und88 : Tryd.prog.underlying 88 = some (.interface #[("Is", 90)]) := by kernel_rfl
theorem lay91 : lay Tryd.prog 91 = some (false, 1) := by kernel_rfl
theorem zer91 : zer Tryd.prog 91 = some [.nilIface] := by kernel_rfl
theorem zrv91 : (Tryd.prog.info? 91).bind (·.zero) = some .nilIface := by kernel_rfl
theorem byt91 : byt Tryd.prog 91 = some 16 := by kernel_rfl
theorem und91 : Tryd.prog.underlying 91 = some (.interface #[("Unwrap", 92)]) := by kernel_rfl
theorem lay93 : lay Tryd.prog 93 = some (false, 1) := by kernel_rfl
theorem zer93 : zer Tryd.prog 93 = some [.nilIface] := by kernel_rfl
theorem zrv93 : (Tryd.prog.info? 93).bind (·.zero) = some .nilIface := by kernel_rfl
theorem byt93 : byt Tryd.prog 93 = some 16 := by kernel_rfl
theorem und93 : Tryd.prog.underlying 93 = some (.interface #[("Unwrap", 95)]) := by kernel_rfl
theorem lay94 : lay Tryd.prog 94 = some (false, 1) := by kernel_rfl
theorem zer94 : zer Tryd.prog 94 = some [(.slice none 0 0)] := by kernel_rfl
theorem zrv94 : (Tryd.prog.info? 94).bind (·.zero) = some (.slice none 0 0) := by kernel_rfl
theorem byt94 : byt Tryd.prog 94 = some 24 := by kernel_rfl
theorem und94 : Tryd.prog.underlying 94 = some (.slice 60) := by kernel_rfl
theorem con94 : Tryd.prog.concrete 94 = true := by kernel_rfl
theorem lay99 : lay Tryd.prog 99 = some (false, 1) := by kernel_rfl
theorem zer99 : zer Tryd.prog 99 = some [.nilIface] := by kernel_rfl
theorem zrv99 : (Tryd.prog.info? 99).bind (·.zero) = some .nilIface := by kernel_rfl
theorem byt99 : byt Tryd.prog 99 = some 16 := by kernel_rfl
theorem und99 : Tryd.prog.underlying 99 = some (.interface #[("loop.example/handfast/impl.termShaped", 1)]) := by kernel_rfl
theorem lay100 : lay Tryd.prog 100 = some (false, 1) := by kernel_rfl
theorem zer100 : zer Tryd.prog 100 = some [.nilIface] := by kernel_rfl
theorem zrv100 : (Tryd.prog.info? 100).bind (·.zero) = some .nilIface := by kernel_rfl
theorem byt100 : byt Tryd.prog 100 = some 16 := by kernel_rfl
theorem und100 : Tryd.prog.underlying 100 = some (.interface #[("loop.example/handfast/impl.termShaped", 1)]) := by kernel_rfl
theorem lay102 : lay Tryd.prog 102 = some (true, 11) := by kernel_rfl
theorem zer102 : zer Tryd.prog 102 = some [(.int .i64 0), (.int .i64 0), (.int .i64 0), (.string ByteArray.empty), (.slice none 0 0), (.slice none 0 0), (.int .i64 0), (.int .i64 0), (.string ByteArray.empty), (.slice none 0 0), (.slice none 0 0)] := by kernel_rfl
theorem zrv102 : (Tryd.prog.info? 102).bind (·.zero) = some (.agg #[(.int .i64 0), (.int .i64 0), (.int .i64 0), (.string ByteArray.empty), (.slice none 0 0), (.slice none 0 0), (.int .i64 0), (.int .i64 0), (.string ByteArray.empty), (.slice none 0 0), (.slice none 0 0)]) := by kernel_rfl
theorem byt102 : byt Tryd.prog 102 = some 168 := by kernel_rfl
theorem fld102 : flds Tryd.prog 102 = some [(0, 1, false), (1, 5, true), (6, 5, true)] := by kernel_rfl
theorem con102 : Tryd.prog.concrete 102 = true := by kernel_rfl
theorem lay103 : lay Tryd.prog 103 = some (true, 11) := by kernel_rfl
theorem zer103 : zer Tryd.prog 103 = some [(.int .i64 0), (.int .i64 0), (.int .i64 0), (.string ByteArray.empty), (.slice none 0 0), (.slice none 0 0), (.int .i64 0), (.int .i64 0), (.string ByteArray.empty), (.slice none 0 0), (.slice none 0 0)] := by kernel_rfl
theorem zrv103 : (Tryd.prog.info? 103).bind (·.zero) = some (.agg #[(.int .i64 0), (.int .i64 0), (.int .i64 0), (.string ByteArray.empty), (.slice none 0 0), (.slice none 0 0), (.int .i64 0), (.int .i64 0), (.string ByteArray.empty), (.slice none 0 0), (.slice none 0 0)]) := by kernel_rfl
theorem byt103 : byt Tryd.prog 103 = some 168 := by kernel_rfl
theorem fld103 : flds Tryd.prog 103 = some [(0, 1, false), (1, 5, true), (6, 5, true)] := by kernel_rfl
theorem con103 : Tryd.prog.concrete 103 = true := by kernel_rfl
theorem lay105 : lay Tryd.prog 105 = some (true, 6) := by kernel_rfl
theorem zer105 : zer Tryd.prog 105 = some [(.slice none 0 0), (.int .i64 0), (.int .i64 0), (.string ByteArray.empty), (.slice none 0 0), (.slice none 0 0)] := by kernel_rfl
theorem zrv105 : (Tryd.prog.info? 105).bind (·.zero) = some (.agg #[(.slice none 0 0), (.int .i64 0), (.int .i64 0), (.string ByteArray.empty), (.slice none 0 0), (.slice none 0 0)]) := by kernel_rfl
theorem byt105 : byt Tryd.prog 105 = some 104 := by kernel_rfl
theorem fld105 : flds Tryd.prog 105 = some [(0, 1, false), (1, 5, true)] := by kernel_rfl
theorem con105 : Tryd.prog.concrete 105 = true := by kernel_rfl
theorem lay106 : lay Tryd.prog 106 = some (true, 6) := by kernel_rfl
theorem zer106 : zer Tryd.prog 106 = some [(.slice none 0 0), (.int .i64 0), (.int .i64 0), (.string ByteArray.empty), (.slice none 0 0), (.slice none 0 0)] := by kernel_rfl
theorem zrv106 : (Tryd.prog.info? 106).bind (·.zero) = some (.agg #[(.slice none 0 0), (.int .i64 0), (.int .i64 0), (.string ByteArray.empty), (.slice none 0 0), (.slice none 0 0)]) := by kernel_rfl
theorem byt106 : byt Tryd.prog 106 = some 104 := by kernel_rfl
theorem fld106 : flds Tryd.prog 106 = some [(0, 1, false), (1, 5, true)] := by kernel_rfl
theorem con106 : Tryd.prog.concrete 106 = true := by kernel_rfl
theorem lay108 : lay Tryd.prog 108 = some (true, 11) := by kernel_rfl
theorem zer108 : zer Tryd.prog 108 = some [(.slice none 0 0), (.int .i64 0), (.int .i64 0), (.string ByteArray.empty), (.slice none 0 0), (.slice none 0 0), (.int .i64 0), (.int .i64 0), (.string ByteArray.empty), (.slice none 0 0), (.slice none 0 0)] := by kernel_rfl
theorem zrv108 : (Tryd.prog.info? 108).bind (·.zero) = some (.agg #[(.slice none 0 0), (.int .i64 0), (.int .i64 0), (.string ByteArray.empty), (.slice none 0 0), (.slice none 0 0), (.int .i64 0), (.int .i64 0), (.string ByteArray.empty), (.slice none 0 0), (.slice none 0 0)]) := by kernel_rfl
theorem byt108 : byt Tryd.prog 108 = some 184 := by kernel_rfl
theorem fld108 : flds Tryd.prog 108 = some [(0, 1, false), (1, 5, true), (6, 5, true)] := by kernel_rfl
theorem con108 : Tryd.prog.concrete 108 = true := by kernel_rfl
theorem lay109 : lay Tryd.prog 109 = some (true, 11) := by kernel_rfl
theorem zer109 : zer Tryd.prog 109 = some [(.slice none 0 0), (.int .i64 0), (.int .i64 0), (.string ByteArray.empty), (.slice none 0 0), (.slice none 0 0), (.int .i64 0), (.int .i64 0), (.string ByteArray.empty), (.slice none 0 0), (.slice none 0 0)] := by kernel_rfl
theorem zrv109 : (Tryd.prog.info? 109).bind (·.zero) = some (.agg #[(.slice none 0 0), (.int .i64 0), (.int .i64 0), (.string ByteArray.empty), (.slice none 0 0), (.slice none 0 0), (.int .i64 0), (.int .i64 0), (.string ByteArray.empty), (.slice none 0 0), (.slice none 0 0)]) := by kernel_rfl
theorem byt109 : byt Tryd.prog 109 = some 184 := by kernel_rfl
theorem fld109 : flds Tryd.prog 109 = some [(0, 1, false), (1, 5, true), (6, 5, true)] := by kernel_rfl
theorem con109 : Tryd.prog.concrete 109 = true := by kernel_rfl
theorem lay111 : lay Tryd.prog 111 = some (true, 1) := by kernel_rfl
theorem zer111 : zer Tryd.prog 111 = some [(.int .i64 0)] := by kernel_rfl
theorem zrv111 : (Tryd.prog.info? 111).bind (·.zero) = some (.agg #[(.int .i64 0)]) := by kernel_rfl
theorem byt111 : byt Tryd.prog 111 = some 8 := by kernel_rfl
theorem fld111 : flds Tryd.prog 111 = some [(0, 1, false)] := by kernel_rfl
theorem con111 : Tryd.prog.concrete 111 = true := by kernel_rfl
theorem lay112 : lay Tryd.prog 112 = some (true, 1) := by kernel_rfl
theorem zer112 : zer Tryd.prog 112 = some [(.int .i64 0)] := by kernel_rfl
theorem zrv112 : (Tryd.prog.info? 112).bind (·.zero) = some (.agg #[(.int .i64 0)]) := by kernel_rfl
theorem byt112 : byt Tryd.prog 112 = some 8 := by kernel_rfl
theorem fld112 : flds Tryd.prog 112 = some [(0, 1, false)] := by kernel_rfl
theorem con112 : Tryd.prog.concrete 112 = true := by kernel_rfl
theorem lay113 : lay Tryd.prog 113 = some (true, 1) := by kernel_rfl
theorem zer113 : zer Tryd.prog 113 = some [(.string ByteArray.empty)] := by kernel_rfl
theorem zrv113 : (Tryd.prog.info? 113).bind (·.zero) = some (.agg #[(.string ByteArray.empty)]) := by kernel_rfl
theorem byt113 : byt Tryd.prog 113 = some 16 := by kernel_rfl
theorem fld113 : flds Tryd.prog 113 = some [(0, 1, false)] := by kernel_rfl
theorem con113 : Tryd.prog.concrete 113 = true := by kernel_rfl
theorem lay114 : lay Tryd.prog 114 = some (true, 1) := by kernel_rfl
theorem zer114 : zer Tryd.prog 114 = some [(.string ByteArray.empty)] := by kernel_rfl
theorem zrv114 : (Tryd.prog.info? 114).bind (·.zero) = some (.agg #[(.string ByteArray.empty)]) := by kernel_rfl
theorem byt114 : byt Tryd.prog 114 = some 16 := by kernel_rfl
theorem fld114 : flds Tryd.prog 114 = some [(0, 1, false)] := by kernel_rfl
theorem con114 : Tryd.prog.concrete 114 = true := by kernel_rfl
theorem lay115 : lay Tryd.prog 115 = some (false, 1) := by kernel_rfl
theorem zer115 : zer Tryd.prog 115 = some [(.slice none 0 0)] := by kernel_rfl
theorem zrv115 : (Tryd.prog.info? 115).bind (·.zero) = some (.slice none 0 0) := by kernel_rfl
theorem byt115 : byt Tryd.prog 115 = some 24 := by kernel_rfl
theorem und115 : Tryd.prog.underlying 115 = some (.slice 117) := by kernel_rfl
theorem con115 : Tryd.prog.concrete 115 = true := by kernel_rfl
theorem lay116 : lay Tryd.prog 116 = some (true, 2) := by kernel_rfl
theorem zer116 : zer Tryd.prog 116 = some [(.int .i64 0), (.slice none 0 0)] := by kernel_rfl
theorem zrv116 : (Tryd.prog.info? 116).bind (·.zero) = some (.agg #[(.int .i64 0), (.slice none 0 0)]) := by kernel_rfl
theorem byt116 : byt Tryd.prog 116 = some 32 := by kernel_rfl
theorem fld116 : flds Tryd.prog 116 = some [(0, 1, false), (1, 1, false)] := by kernel_rfl
theorem con116 : Tryd.prog.concrete 116 = true := by kernel_rfl
theorem lay117 : lay Tryd.prog 117 = some (true, 2) := by kernel_rfl
theorem zer117 : zer Tryd.prog 117 = some [(.int .i64 0), (.slice none 0 0)] := by kernel_rfl
theorem zrv117 : (Tryd.prog.info? 117).bind (·.zero) = some (.agg #[(.int .i64 0), (.slice none 0 0)]) := by kernel_rfl
theorem byt117 : byt Tryd.prog 117 = some 32 := by kernel_rfl
theorem fld117 : flds Tryd.prog 117 = some [(0, 1, false), (1, 1, false)] := by kernel_rfl
theorem con117 : Tryd.prog.concrete 117 = true := by kernel_rfl
theorem lay125 : lay Tryd.prog 125 = some (false, 1) := by kernel_rfl
theorem zer125 : zer Tryd.prog 125 = some [(.slice none 0 0)] := by kernel_rfl
theorem zrv125 : (Tryd.prog.info? 125).bind (·.zero) = some (.slice none 0 0) := by kernel_rfl
theorem byt125 : byt Tryd.prog 125 = some 24 := by kernel_rfl
theorem und125 : Tryd.prog.underlying 125 = some (.slice 25) := by kernel_rfl
theorem con125 : Tryd.prog.concrete 125 = true := by kernel_rfl
theorem lay128 : lay Tryd.prog 128 = some (false, 1) := by kernel_rfl
theorem zer128 : zer Tryd.prog 128 = some [(.pointer none)] := by kernel_rfl
theorem zrv128 : (Tryd.prog.info? 128).bind (·.zero) = some (.pointer none) := by kernel_rfl
theorem byt128 : byt Tryd.prog 128 = some 8 := by kernel_rfl
theorem und128 : Tryd.prog.underlying 128 = some (.pointer 156) := by kernel_rfl
theorem con128 : Tryd.prog.concrete 128 = true := by kernel_rfl
theorem lay130 : lay Tryd.prog 130 = some (true, 4) := by kernel_rfl
theorem zer130 : zer Tryd.prog 130 = some [(.pointer none), (.pointer none), (.pointer none), (.string ByteArray.empty)] := by kernel_rfl
theorem zrv130 : (Tryd.prog.info? 130).bind (·.zero) = some (.agg #[(.pointer none), (.pointer none), (.pointer none), (.string ByteArray.empty)]) := by kernel_rfl
theorem byt130 : byt Tryd.prog 130 = some 40 := by kernel_rfl
theorem fld130 : flds Tryd.prog 130 = some [(0, 1, false), (1, 1, false), (2, 1, false), (3, 1, false)] := by kernel_rfl
theorem con130 : Tryd.prog.concrete 130 = true := by kernel_rfl
theorem lay131 : lay Tryd.prog 131 = some (true, 4) := by kernel_rfl
theorem zer131 : zer Tryd.prog 131 = some [(.pointer none), (.pointer none), (.pointer none), (.string ByteArray.empty)] := by kernel_rfl
theorem zrv131 : (Tryd.prog.info? 131).bind (·.zero) = some (.agg #[(.pointer none), (.pointer none), (.pointer none), (.string ByteArray.empty)]) := by kernel_rfl
theorem byt131 : byt Tryd.prog 131 = some 40 := by kernel_rfl
theorem fld131 : flds Tryd.prog 131 = some [(0, 1, false), (1, 1, false), (2, 1, false), (3, 1, false)] := by kernel_rfl
theorem con131 : Tryd.prog.concrete 131 = true := by kernel_rfl
theorem lay136 : lay Tryd.prog 136 = some (false, 1) := by kernel_rfl
theorem zer136 : zer Tryd.prog 136 = some [(.int .u32 0)] := by kernel_rfl
theorem zrv136 : (Tryd.prog.info? 136).bind (·.zero) = some (.int .u32 0) := by kernel_rfl
theorem byt136 : byt Tryd.prog 136 = some 4 := by kernel_rfl
theorem und136 : Tryd.prog.underlying 136 = some (.int .u32) := by kernel_rfl
theorem con136 : Tryd.prog.concrete 136 = true := by kernel_rfl
theorem lay137 : lay Tryd.prog 137 = some (false, 1) := by kernel_rfl
theorem zer137 : zer Tryd.prog 137 = some [(.int .u8 0)] := by kernel_rfl
theorem zrv137 : (Tryd.prog.info? 137).bind (·.zero) = some (.int .u8 0) := by kernel_rfl
theorem byt137 : byt Tryd.prog 137 = some 1 := by kernel_rfl
theorem und137 : Tryd.prog.underlying 137 = some (.int .u8) := by kernel_rfl
theorem con137 : Tryd.prog.concrete 137 = true := by kernel_rfl
theorem lay138 : lay Tryd.prog 138 = some (false, 1) := by kernel_rfl
theorem zer138 : zer Tryd.prog 138 = some [(.int .u8 0)] := by kernel_rfl
theorem zrv138 : (Tryd.prog.info? 138).bind (·.zero) = some (.int .u8 0) := by kernel_rfl
theorem byt138 : byt Tryd.prog 138 = some 1 := by kernel_rfl
theorem und138 : Tryd.prog.underlying 138 = some (.int .u8) := by kernel_rfl
theorem con138 : Tryd.prog.concrete 138 = true := by kernel_rfl
theorem lay140 : lay Tryd.prog 140 = some (false, 1) := by kernel_rfl
theorem zer140 : zer Tryd.prog 140 = some [(.pointer none)] := by kernel_rfl
theorem zrv140 : (Tryd.prog.info? 140).bind (·.zero) = some (.pointer none) := by kernel_rfl
theorem byt140 : byt Tryd.prog 140 = some 8 := by kernel_rfl
theorem und140 : Tryd.prog.underlying 140 = some (.pointer 5) := by kernel_rfl
theorem con140 : Tryd.prog.concrete 140 = true := by kernel_rfl
theorem lay141 : lay Tryd.prog 141 = some (false, 1) := by kernel_rfl
theorem zer141 : zer Tryd.prog 141 = some [(.int .i32 0)] := by kernel_rfl
theorem zrv141 : (Tryd.prog.info? 141).bind (·.zero) = some (.int .i32 0) := by kernel_rfl
theorem byt141 : byt Tryd.prog 141 = some 4 := by kernel_rfl
theorem und141 : Tryd.prog.underlying 141 = some (.int .i32) := by kernel_rfl
theorem con141 : Tryd.prog.concrete 141 = true := by kernel_rfl
theorem lay142 : lay Tryd.prog 142 = some (false, 1) := by kernel_rfl
theorem zer142 : zer Tryd.prog 142 = some [(.int .i32 0)] := by kernel_rfl
theorem zrv142 : (Tryd.prog.info? 142).bind (·.zero) = some (.int .i32 0) := by kernel_rfl
theorem byt142 : byt Tryd.prog 142 = some 4 := by kernel_rfl
theorem und142 : Tryd.prog.underlying 142 = some (.int .i32) := by kernel_rfl
theorem con142 : Tryd.prog.concrete 142 = true := by kernel_rfl
theorem lay143 : lay Tryd.prog 143 = some (true, 11) := by kernel_rfl
theorem zer143 : zer Tryd.prog 143 = some [(.int .u64 0), (.int .u64 0), (.int .u32 0), (.int .u8 0), (.int .u8 0), (.int .u8 0), (.int .u8 0), .nilFunc, (.pointer none), (.int .i32 0), (.int .i32 0)] := by kernel_rfl
theorem zrv143 : (Tryd.prog.info? 143).bind (·.zero) = some (.agg #[(.int .u64 0), (.int .u64 0), (.int .u32 0), (.int .u8 0), (.int .u8 0), (.int .u8 0), (.int .u8 0), .nilFunc, (.pointer none), (.int .i32 0), (.int .i32 0)]) := by kernel_rfl
theorem byt143 : byt Tryd.prog 143 = some 48 := by kernel_rfl
theorem fld143 : flds Tryd.prog 143 = some [(0, 1, false), (1, 1, false), (2, 1, false), (3, 1, false), (4, 1, false), (5, 1, false), (6, 1, false), (7, 1, false), (8, 1, false), (9, 1, false), (10, 1, false)] := by kernel_rfl
theorem con143 : Tryd.prog.concrete 143 = true := by kernel_rfl
theorem lay144 : lay Tryd.prog 144 = some (true, 11) := by kernel_rfl
theorem zer144 : zer Tryd.prog 144 = some [(.int .u64 0), (.int .u64 0), (.int .u32 0), (.int .u8 0), (.int .u8 0), (.int .u8 0), (.int .u8 0), .nilFunc, (.pointer none), (.int .i32 0), (.int .i32 0)] := by kernel_rfl
theorem zrv144 : (Tryd.prog.info? 144).bind (·.zero) = some (.agg #[(.int .u64 0), (.int .u64 0), (.int .u32 0), (.int .u8 0), (.int .u8 0), (.int .u8 0), (.int .u8 0), .nilFunc, (.pointer none), (.int .i32 0), (.int .i32 0)]) := by kernel_rfl
theorem byt144 : byt Tryd.prog 144 = some 48 := by kernel_rfl
theorem fld144 : flds Tryd.prog 144 = some [(0, 1, false), (1, 1, false), (2, 1, false), (3, 1, false), (4, 1, false), (5, 1, false), (6, 1, false), (7, 1, false), (8, 1, false), (9, 1, false), (10, 1, false)] := by kernel_rfl
theorem con144 : Tryd.prog.concrete 144 = true := by kernel_rfl
theorem lay152 : lay Tryd.prog 152 = some (true, 2) := by kernel_rfl
theorem zer152 : zer Tryd.prog 152 = some [(.string ByteArray.empty), (.int .u8 0)] := by kernel_rfl
theorem zrv152 : (Tryd.prog.info? 152).bind (·.zero) = some (.agg #[(.string ByteArray.empty), (.int .u8 0)]) := by kernel_rfl
theorem byt152 : byt Tryd.prog 152 = some 24 := by kernel_rfl
theorem fld152 : flds Tryd.prog 152 = some [(0, 1, false), (1, 1, false)] := by kernel_rfl
theorem con152 : Tryd.prog.concrete 152 = true := by kernel_rfl
theorem lay153 : lay Tryd.prog 153 = some (true, 2) := by kernel_rfl
theorem zer153 : zer Tryd.prog 153 = some [(.string ByteArray.empty), (.int .u8 0)] := by kernel_rfl
theorem zrv153 : (Tryd.prog.info? 153).bind (·.zero) = some (.agg #[(.string ByteArray.empty), (.int .u8 0)]) := by kernel_rfl
theorem byt153 : byt Tryd.prog 153 = some 24 := by kernel_rfl
theorem fld153 : flds Tryd.prog 153 = some [(0, 1, false), (1, 1, false)] := by kernel_rfl
theorem con153 : Tryd.prog.concrete 153 = true := by kernel_rfl
theorem lay155 : lay Tryd.prog 155 = some (true, 1) := by kernel_rfl
theorem zer155 : zer Tryd.prog 155 = some [(.string ByteArray.empty)] := by kernel_rfl
theorem zrv155 : (Tryd.prog.info? 155).bind (·.zero) = some (.agg #[(.string ByteArray.empty)]) := by kernel_rfl
theorem byt155 : byt Tryd.prog 155 = some 16 := by kernel_rfl
theorem fld155 : flds Tryd.prog 155 = some [(0, 1, false)] := by kernel_rfl
theorem con155 : Tryd.prog.concrete 155 = true := by kernel_rfl
theorem lay156 : lay Tryd.prog 156 = some (true, 1) := by kernel_rfl
theorem zer156 : zer Tryd.prog 156 = some [(.string ByteArray.empty)] := by kernel_rfl
theorem zrv156 : (Tryd.prog.info? 156).bind (·.zero) = some (.agg #[(.string ByteArray.empty)]) := by kernel_rfl
theorem byt156 : byt Tryd.prog 156 = some 16 := by kernel_rfl
theorem fld156 : flds Tryd.prog 156 = some [(0, 1, false)] := by kernel_rfl
theorem con156 : Tryd.prog.concrete 156 = true := by kernel_rfl
theorem lay157 : lay Tryd.prog 157 = some (false, 1) := by kernel_rfl
theorem zer157 : zer Tryd.prog 157 = some [(.pointer none)] := by kernel_rfl
theorem zrv157 : (Tryd.prog.info? 157).bind (·.zero) = some (.pointer none) := by kernel_rfl
theorem byt157 : byt Tryd.prog 157 = some 8 := by kernel_rfl
theorem con157 : Tryd.prog.concrete 157 = true := by kernel_rfl
theorem lay158 : lay Tryd.prog 158 = some (false, 1) := by kernel_rfl
theorem zer158 : zer Tryd.prog 158 = some [(.pointer none)] := by kernel_rfl
theorem zrv158 : (Tryd.prog.info? 158).bind (·.zero) = some (.pointer none) := by kernel_rfl
theorem byt158 : byt Tryd.prog 158 = some 8 := by kernel_rfl
theorem und158 : Tryd.prog.underlying 158 = some (.pointer 162) := by kernel_rfl
theorem con158 : Tryd.prog.concrete 158 = true := by kernel_rfl
theorem lay160 : lay Tryd.prog 160 = some (false, 1) := by kernel_rfl
theorem zer160 : zer Tryd.prog 160 = some [(.int .u16 0)] := by kernel_rfl
theorem zrv160 : (Tryd.prog.info? 160).bind (·.zero) = some (.int .u16 0) := by kernel_rfl
theorem byt160 : byt Tryd.prog 160 = some 2 := by kernel_rfl
theorem und160 : Tryd.prog.underlying 160 = some (.int .u16) := by kernel_rfl
theorem con160 : Tryd.prog.concrete 160 = true := by kernel_rfl
theorem lay161 : lay Tryd.prog 161 = some (true, 5) := by kernel_rfl
theorem zer161 : zer Tryd.prog 161 = some [(.int .i32 0), (.int .u16 0), (.int .u16 0), (.int .u32 0), (.int .u32 0)] := by kernel_rfl
theorem zrv161 : (Tryd.prog.info? 161).bind (·.zero) = some (.agg #[(.int .i32 0), (.int .u16 0), (.int .u16 0), (.int .u32 0), (.int .u32 0)]) := by kernel_rfl
theorem byt161 : byt Tryd.prog 161 = some 16 := by kernel_rfl
theorem fld161 : flds Tryd.prog 161 = some [(0, 1, false), (1, 1, false), (2, 1, false), (3, 1, false), (4, 1, false)] := by kernel_rfl
theorem con161 : Tryd.prog.concrete 161 = true := by kernel_rfl
theorem lay162 : lay Tryd.prog 162 = some (true, 5) := by kernel_rfl
theorem zer162 : zer Tryd.prog 162 = some [(.int .i32 0), (.int .u16 0), (.int .u16 0), (.int .u32 0), (.int .u32 0)] := by kernel_rfl
theorem zrv162 : (Tryd.prog.info? 162).bind (·.zero) = some (.agg #[(.int .i32 0), (.int .u16 0), (.int .u16 0), (.int .u32 0), (.int .u32 0)]) := by kernel_rfl
theorem byt162 : byt Tryd.prog 162 = some 16 := by kernel_rfl
theorem fld162 : flds Tryd.prog 162 = some [(0, 1, false), (1, 1, false), (2, 1, false), (3, 1, false), (4, 1, false)] := by kernel_rfl
theorem con162 : Tryd.prog.concrete 162 = true := by kernel_rfl
theorem lay163 : lay Tryd.prog 163 = some (false, 1) := by kernel_rfl
theorem zer163 : zer Tryd.prog 163 = some [(.slice none 0 0)] := by kernel_rfl
theorem zrv163 : (Tryd.prog.info? 163).bind (·.zero) = some (.slice none 0 0) := by kernel_rfl
theorem byt163 : byt Tryd.prog 163 = some 24 := by kernel_rfl
theorem und163 : Tryd.prog.underlying 163 = some (.slice 166) := by kernel_rfl
theorem con163 : Tryd.prog.concrete 163 = true := by kernel_rfl
theorem lay164 : lay Tryd.prog 164 = some (false, 1) := by kernel_rfl
theorem zer164 : zer Tryd.prog 164 = some [(.int .i32 0)] := by kernel_rfl
theorem zrv164 : (Tryd.prog.info? 164).bind (·.zero) = some (.int .i32 0) := by kernel_rfl
theorem byt164 : byt Tryd.prog 164 = some 4 := by kernel_rfl
theorem und164 : Tryd.prog.underlying 164 = some (.int .i32) := by kernel_rfl
theorem con164 : Tryd.prog.concrete 164 = true := by kernel_rfl
theorem lay165 : lay Tryd.prog 165 = some (true, 4) := by kernel_rfl
theorem zer165 : zer Tryd.prog 165 = some [(.int .i32 0), (.int .i32 0), (.int .i32 0), (.int .i32 0)] := by kernel_rfl
theorem zrv165 : (Tryd.prog.info? 165).bind (·.zero) = some (.agg #[(.int .i32 0), (.int .i32 0), (.int .i32 0), (.int .i32 0)]) := by kernel_rfl
theorem byt165 : byt Tryd.prog 165 = some 16 := by kernel_rfl
theorem fld165 : flds Tryd.prog 165 = some [(0, 1, false), (1, 1, false), (2, 1, false), (3, 1, false)] := by kernel_rfl
theorem con165 : Tryd.prog.concrete 165 = true := by kernel_rfl
theorem lay166 : lay Tryd.prog 166 = some (true, 4) := by kernel_rfl
theorem zer166 : zer Tryd.prog 166 = some [(.int .i32 0), (.int .i32 0), (.int .i32 0), (.int .i32 0)] := by kernel_rfl
theorem zrv166 : (Tryd.prog.info? 166).bind (·.zero) = some (.agg #[(.int .i32 0), (.int .i32 0), (.int .i32 0), (.int .i32 0)]) := by kernel_rfl
theorem byt166 : byt Tryd.prog 166 = some 16 := by kernel_rfl
theorem fld166 : flds Tryd.prog 166 = some [(0, 1, false), (1, 1, false), (2, 1, false), (3, 1, false)] := by kernel_rfl
theorem con166 : Tryd.prog.concrete 166 = true := by kernel_rfl
def layL : List (Nat × (Bool × Nat)) := [(2, (false, 1)), (3, (false, 1)), (4, (false, 1)), (5, (false, 1)), (6, (false, 1)), (7, (true, 4)), (8, (true, 4)), (9, (false, 1)), (10, (false, 1)), (11, (false, 1)), (12, (false, 1)), (13, (true, 2)), (14, (true, 2)), (15, (false, 1)), (16, (false, 1)), (17, (false, 1)), (18, (true, 1)), (19, (true, 1)), (20, (false, 1)), (21, (false, 1)), (22, (false, 1)), (23, (false, 1)), (24, (false, 1)), (25, (false, 1)), (26, (false, 1)), (27, (true, 5)), (28, (true, 5)), (31, (true, 1)), (32, (true, 1)), (38, (false, 1)), (49, (false, 1)), (50, (true, 2)), (51, (true, 2)), (56, (false, 1)), (57, (false, 1)), (59, (false, 1)), (60, (false, 1)), (64, (true, 2)), (65, (true, 2)), (75, (false, 1)), (76, (false, 1)), (85, (true, 1)), (86, (true, 1)), (87, (false, 1)), (88, (false, 1)), (91, (false, 1)), (93, (false, 1)), (94, (false, 1)), (99, (false, 1)), (100, (false, 1)), (102, (true, 11)), (103, (true, 11)), (105, (true, 6)), (106, (true, 6)), (108, (true, 11)), (109, (true, 11)), (111, (true, 1)), (112, (true, 1)), (113, (true, 1)), (114, (true, 1)), (115, (false, 1)), (116, (true, 2)), (117, (true, 2)), (125, (false, 1)), (128, (false, 1)), (130, (true, 4)), (131, (true, 4)), (136, (false, 1)), (137, (false, 1)), (138, (false, 1)), (140, (false, 1)), (141, (false, 1)), (142, (false, 1)), (143, (true, 11)), (144, (true, 11)), (152, (true, 2)), (153, (true, 2)), (155, (true, 1)), (156, (true, 1)), (157, (false, 1)), (158, (false, 1)), (160, (false, 1)), (161, (true, 5)), (162, (true, 5)), (163, (false, 1)), (164, (false, 1)), (165, (true, 4)), (166, (true, 4))]
theorem layK : layL.all (fun p => lay Tryd.prog p.1 == some p.2) = true := by kernel_rfl
def fldL : List (Nat × List (Nat × Nat × Bool)) := [(7, [(0, 1, false), (1, 1, false), (2, 1, false), (3, 1, false)]), (8, [(0, 1, false), (1, 1, false), (2, 1, false), (3, 1, false)]), (13, [(0, 1, false), (1, 1, false)]), (14, [(0, 1, false), (1, 1, false)]), (18, [(0, 1, false)]), (19, [(0, 1, false)]), (27, [(0, 1, false), (1, 1, false), (2, 1, false), (3, 1, false), (4, 1, false)]), (28, [(0, 1, false), (1, 1, false), (2, 1, false), (3, 1, false), (4, 1, false)]), (31, [(0, 1, false)]), (32, [(0, 1, false)]), (50, [(0, 1, false), (1, 1, false)]), (51, [(0, 1, false), (1, 1, false)]), (64, [(0, 1, false), (1, 1, false)]), (65, [(0, 1, false), (1, 1, false)]), (85, [(0, 1, false)]), (86, [(0, 1, false)]), (102, [(0, 1, false), (1, 5, true), (6, 5, true)]), (103, [(0, 1, false), (1, 5, true), (6, 5, true)]), (105, [(0, 1, false), (1, 5, true)]), (106, [(0, 1, false), (1, 5, true)]), (108, [(0, 1, false), (1, 5, true), (6, 5, true)]), (109, [(0, 1, false), (1, 5, true), (6, 5, true)]), (111, [(0, 1, false)]), (112, [(0, 1, false)]), (113, [(0, 1, false)]), (114, [(0, 1, false)]), (116, [(0, 1, false), (1, 1, false)]), (117, [(0, 1, false), (1, 1, false)]), (130, [(0, 1, false), (1, 1, false), (2, 1, false), (3, 1, false)]), (131, [(0, 1, false), (1, 1, false), (2, 1, false), (3, 1, false)]), (143, [(0, 1, false), (1, 1, false), (2, 1, false), (3, 1, false), (4, 1, false), (5, 1, false), (6, 1, false), (7, 1, false), (8, 1, false), (9, 1, false), (10, 1, false)]), (144, [(0, 1, false), (1, 1, false), (2, 1, false), (3, 1, false), (4, 1, false), (5, 1, false), (6, 1, false), (7, 1, false), (8, 1, false), (9, 1, false), (10, 1, false)]), (152, [(0, 1, false), (1, 1, false)]), (153, [(0, 1, false), (1, 1, false)]), (155, [(0, 1, false)]), (156, [(0, 1, false)]), (161, [(0, 1, false), (1, 1, false), (2, 1, false), (3, 1, false), (4, 1, false)]), (162, [(0, 1, false), (1, 1, false), (2, 1, false), (3, 1, false), (4, 1, false)]), (165, [(0, 1, false), (1, 1, false), (2, 1, false), (3, 1, false)]), (166, [(0, 1, false), (1, 1, false), (2, 1, false), (3, 1, false)])]
theorem fldK : fldL.all (fun p => flds Tryd.prog p.1 == some p.2) = true := by kernel_rfl
def zerL : List (Nat × List Value) := [(2, [(.int .i64 0)]), (3, [(.int .i64 0)]), (4, [(.bool false)]), (5, [(.int .u8 0)]), (6, [(.int .u8 0)]), (7, [(.int .i64 0), (.int .i64 0), (.bool false), (.int .u8 0)]), (8, [(.int .i64 0), (.int .i64 0), (.bool false), (.int .u8 0)]), (9, [(.string ByteArray.empty)]), (10, [(.string ByteArray.empty)]), (11, [(.string ByteArray.empty)]), (12, [(.int .u64 0)]), (13, [(.string ByteArray.empty), (.int .u64 0)]), (14, [(.string ByteArray.empty), (.int .u64 0)]), (15, [(.pointer none)]), (16, [(.pointer none)]), (17, [(.pointer none)]), (18, [(.pointer none)]), (19, [(.pointer none)]), (20, [.nilIface]), (21, [(.int .i32 0)]), (22, [(.slice none 0 0)]), (23, [(.slice none 0 0)]), (24, [(.slice none 0 0)]), (25, [(.slice none 0 0)]), (26, [(.slice none 0 0)]), (27, [(.int .i64 0), (.int .i64 0), (.string ByteArray.empty), (.slice none 0 0), (.slice none 0 0)]), (28, [(.int .i64 0), (.int .i64 0), (.string ByteArray.empty), (.slice none 0 0), (.slice none 0 0)]), (31, [(.slice none 0 0)]), (32, [(.slice none 0 0)]), (38, [(.pointer none)]), (49, [(.pointer none)]), (50, [(.slice none 0 0), (.slice none 0 0)]), (51, [(.slice none 0 0), (.slice none 0 0)]), (56, [(.map none)]), (57, [(.map none)]), (59, [.nilIface]), (60, [.nilIface]), (64, [(.slice none 0 0), (.int .i64 0)]), (65, [(.slice none 0 0), (.int .i64 0)]), (75, [.nilIface]), (76, [.nilIface]), (85, [(.pointer none)]), (86, [(.pointer none)]), (87, [(.pointer none)]), (88, [.nilIface]), (91, [.nilIface]), (93, [.nilIface]), (94, [(.slice none 0 0)]), (99, [.nilIface]), (100, [.nilIface]), (102, [(.int .i64 0), (.int .i64 0), (.int .i64 0), (.string ByteArray.empty), (.slice none 0 0), (.slice none 0 0), (.int .i64 0), (.int .i64 0), (.string ByteArray.empty), (.slice none 0 0), (.slice none 0 0)]), (103, [(.int .i64 0), (.int .i64 0), (.int .i64 0), (.string ByteArray.empty), (.slice none 0 0), (.slice none 0 0), (.int .i64 0), (.int .i64 0), (.string ByteArray.empty), (.slice none 0 0), (.slice none 0 0)]), (105, [(.slice none 0 0), (.int .i64 0), (.int .i64 0), (.string ByteArray.empty), (.slice none 0 0), (.slice none 0 0)]), (106, [(.slice none 0 0), (.int .i64 0), (.int .i64 0), (.string ByteArray.empty), (.slice none 0 0), (.slice none 0 0)]), (108, [(.slice none 0 0), (.int .i64 0), (.int .i64 0), (.string ByteArray.empty), (.slice none 0 0), (.slice none 0 0), (.int .i64 0), (.int .i64 0), (.string ByteArray.empty), (.slice none 0 0), (.slice none 0 0)]), (109, [(.slice none 0 0), (.int .i64 0), (.int .i64 0), (.string ByteArray.empty), (.slice none 0 0), (.slice none 0 0), (.int .i64 0), (.int .i64 0), (.string ByteArray.empty), (.slice none 0 0), (.slice none 0 0)]), (111, [(.int .i64 0)]), (112, [(.int .i64 0)]), (113, [(.string ByteArray.empty)]), (114, [(.string ByteArray.empty)]), (115, [(.slice none 0 0)]), (116, [(.int .i64 0), (.slice none 0 0)]), (117, [(.int .i64 0), (.slice none 0 0)]), (125, [(.slice none 0 0)]), (128, [(.pointer none)]), (130, [(.pointer none), (.pointer none), (.pointer none), (.string ByteArray.empty)]), (131, [(.pointer none), (.pointer none), (.pointer none), (.string ByteArray.empty)]), (136, [(.int .u32 0)]), (137, [(.int .u8 0)]), (138, [(.int .u8 0)]), (140, [(.pointer none)]), (141, [(.int .i32 0)]), (142, [(.int .i32 0)]), (143, [(.int .u64 0), (.int .u64 0), (.int .u32 0), (.int .u8 0), (.int .u8 0), (.int .u8 0), (.int .u8 0), .nilFunc, (.pointer none), (.int .i32 0), (.int .i32 0)]), (144, [(.int .u64 0), (.int .u64 0), (.int .u32 0), (.int .u8 0), (.int .u8 0), (.int .u8 0), (.int .u8 0), .nilFunc, (.pointer none), (.int .i32 0), (.int .i32 0)]), (152, [(.string ByteArray.empty), (.int .u8 0)]), (153, [(.string ByteArray.empty), (.int .u8 0)]), (155, [(.string ByteArray.empty)]), (156, [(.string ByteArray.empty)]), (157, [(.pointer none)]), (158, [(.pointer none)]), (160, [(.int .u16 0)]), (161, [(.int .i32 0), (.int .u16 0), (.int .u16 0), (.int .u32 0), (.int .u32 0)]), (162, [(.int .i32 0), (.int .u16 0), (.int .u16 0), (.int .u32 0), (.int .u32 0)]), (163, [(.slice none 0 0)]), (164, [(.int .i32 0)]), (165, [(.int .i32 0), (.int .i32 0), (.int .i32 0), (.int .i32 0)]), (166, [(.int .i32 0), (.int .i32 0), (.int .i32 0), (.int .i32 0)])]
def zerA : List (Nat × List Value) → Prop
  | [] => True
  | p :: r => (zer Tryd.prog p.1 = some p.2) ∧ zerA r
theorem zerM : ∀ {l : List (Nat × List Value)}, zerA l → ∀ p ∈ l, zer Tryd.prog p.1 = some p.2
  | [], _, p, h => by cases h
  | q :: r, ha, p, h => by
    rcases List.mem_cons.1 h with e | h
    · exact e ▸ ha.1
    · exact zerM ha.2 p h
theorem zerK : zerA zerL := ⟨zer2, zer3, zer4, zer5, zer6, zer7, zer8, zer9, zer10, zer11, zer12, zer13, zer14, zer15, zer16, zer17, zer18, zer19, zer20, zer21, zer22, zer23, zer24, zer25, zer26, zer27, zer28, zer31, zer32, zer38, zer49, zer50, zer51, zer56, zer57, zer59, zer60, zer64, zer65, zer75, zer76, zer85, zer86, zer87, zer88, zer91, zer93, zer94, zer99, zer100, zer102, zer103, zer105, zer106, zer108, zer109, zer111, zer112, zer113, zer114, zer115, zer116, zer117, zer125, zer128, zer130, zer131, zer136, zer137, zer138, zer140, zer141, zer142, zer143, zer144, zer152, zer153, zer155, zer156, zer157, zer158, zer160, zer161, zer162, zer163, zer164, zer165, zer166, trivial⟩
theorem zerO : zerL.all (fun p => p.2.all (·.oneCell')) = true := by rfl
def zpvL : List (Nat × PV) := [(2, (.c (.int .i64 0))), (3, (.c (.int .i64 0))), (4, (.c (.bool false))), (5, (.c (.int .u8 0))), (6, (.c (.int .u8 0))), (7, (.ag [(.c (.int .i64 0)), (.c (.int .i64 0)), (.c (.bool false)), (.c (.int .u8 0))])), (8, (.ag [(.c (.int .i64 0)), (.c (.int .i64 0)), (.c (.bool false)), (.c (.int .u8 0))])), (9, (.c (.string ByteArray.empty))), (10, (.c (.string ByteArray.empty))), (11, (.c (.string ByteArray.empty))), (12, (.c (.int .u64 0))), (13, (.ag [(.c (.string ByteArray.empty)), (.c (.int .u64 0))])), (14, (.ag [(.c (.string ByteArray.empty)), (.c (.int .u64 0))])), (15, (.c (.pointer none))), (16, (.c (.pointer none))), (17, (.c (.pointer none))), (18, (.ag [(.c (.pointer none))])), (19, (.ag [(.c (.pointer none))])), (20, (.c .nilIface)), (21, (.c (.int .i32 0))), (22, (.row 1 [])), (23, (.row 1 [])), (24, (.row 1 [])), (25, (.row 1 [])), (26, (.row 1 [])), (27, (.ag [(.c (.int .i64 0)), (.c (.int .i64 0)), (.c (.string ByteArray.empty)), (.row 1 []), (.row 1 [])])), (28, (.ag [(.c (.int .i64 0)), (.c (.int .i64 0)), (.c (.string ByteArray.empty)), (.row 1 []), (.row 1 [])])), (31, (.ag [(.row 1 [])])), (32, (.ag [(.row 1 [])])), (38, (.c (.pointer none))), (49, (.c (.pointer none))), (50, (.ag [(.row 1 []), (.row 1 [])])), (51, (.ag [(.row 1 []), (.row 1 [])])), (56, (.c (.map none))), (57, (.c (.map none))), (59, (.c .nilIface)), (60, (.c .nilIface)), (64, (.ag [(.row 1 []), (.c (.int .i64 0))])), (65, (.ag [(.row 1 []), (.c (.int .i64 0))])), (75, (.c .nilIface)), (76, (.c .nilIface)), (85, (.ag [(.c (.pointer none))])), (86, (.ag [(.c (.pointer none))])), (87, (.c (.pointer none))), (88, (.c .nilIface)), (91, (.c .nilIface)), (93, (.c .nilIface)), (94, (.row 1 [])), (99, (.c .nilIface)), (100, (.c .nilIface)), (102, (.ag [(.c (.int .i64 0)), (.c (.int .i64 0)), (.c (.int .i64 0)), (.c (.string ByteArray.empty)), (.row 1 []), (.row 1 []), (.c (.int .i64 0)), (.c (.int .i64 0)), (.c (.string ByteArray.empty)), (.row 1 []), (.row 1 [])])), (103, (.ag [(.c (.int .i64 0)), (.c (.int .i64 0)), (.c (.int .i64 0)), (.c (.string ByteArray.empty)), (.row 1 []), (.row 1 []), (.c (.int .i64 0)), (.c (.int .i64 0)), (.c (.string ByteArray.empty)), (.row 1 []), (.row 1 [])])), (105, (.ag [(.row 1 []), (.c (.int .i64 0)), (.c (.int .i64 0)), (.c (.string ByteArray.empty)), (.row 1 []), (.row 1 [])])), (106, (.ag [(.row 1 []), (.c (.int .i64 0)), (.c (.int .i64 0)), (.c (.string ByteArray.empty)), (.row 1 []), (.row 1 [])])), (108, (.ag [(.row 1 []), (.c (.int .i64 0)), (.c (.int .i64 0)), (.c (.string ByteArray.empty)), (.row 1 []), (.row 1 []), (.c (.int .i64 0)), (.c (.int .i64 0)), (.c (.string ByteArray.empty)), (.row 1 []), (.row 1 [])])), (109, (.ag [(.row 1 []), (.c (.int .i64 0)), (.c (.int .i64 0)), (.c (.string ByteArray.empty)), (.row 1 []), (.row 1 []), (.c (.int .i64 0)), (.c (.int .i64 0)), (.c (.string ByteArray.empty)), (.row 1 []), (.row 1 [])])), (111, (.ag [(.c (.int .i64 0))])), (112, (.ag [(.c (.int .i64 0))])), (113, (.ag [(.c (.string ByteArray.empty))])), (114, (.ag [(.c (.string ByteArray.empty))])), (115, (.row 1 [])), (116, (.ag [(.c (.int .i64 0)), (.row 1 [])])), (117, (.ag [(.c (.int .i64 0)), (.row 1 [])])), (125, (.row 1 [])), (128, (.c (.pointer none))), (130, (.ag [(.c (.pointer none)), (.c (.pointer none)), (.c (.pointer none)), (.c (.string ByteArray.empty))])), (131, (.ag [(.c (.pointer none)), (.c (.pointer none)), (.c (.pointer none)), (.c (.string ByteArray.empty))])), (136, (.c (.int .u32 0))), (137, (.c (.int .u8 0))), (138, (.c (.int .u8 0))), (140, (.c (.pointer none))), (141, (.c (.int .i32 0))), (142, (.c (.int .i32 0))), (143, (.ag [(.c (.int .u64 0)), (.c (.int .u64 0)), (.c (.int .u32 0)), (.c (.int .u8 0)), (.c (.int .u8 0)), (.c (.int .u8 0)), (.c (.int .u8 0)), (.c .nilFunc), (.c (.pointer none)), (.c (.int .i32 0)), (.c (.int .i32 0))])), (144, (.ag [(.c (.int .u64 0)), (.c (.int .u64 0)), (.c (.int .u32 0)), (.c (.int .u8 0)), (.c (.int .u8 0)), (.c (.int .u8 0)), (.c (.int .u8 0)), (.c .nilFunc), (.c (.pointer none)), (.c (.int .i32 0)), (.c (.int .i32 0))])), (152, (.ag [(.c (.string ByteArray.empty)), (.c (.int .u8 0))])), (153, (.ag [(.c (.string ByteArray.empty)), (.c (.int .u8 0))])), (155, (.ag [(.c (.string ByteArray.empty))])), (156, (.ag [(.c (.string ByteArray.empty))])), (157, (.c (.pointer none))), (158, (.c (.pointer none))), (160, (.c (.int .u16 0))), (161, (.ag [(.c (.int .i32 0)), (.c (.int .u16 0)), (.c (.int .u16 0)), (.c (.int .u32 0)), (.c (.int .u32 0))])), (162, (.ag [(.c (.int .i32 0)), (.c (.int .u16 0)), (.c (.int .u16 0)), (.c (.int .u32 0)), (.c (.int .u32 0))])), (163, (.row 1 [])), (164, (.c (.int .i32 0))), (165, (.ag [(.c (.int .i32 0)), (.c (.int .i32 0)), (.c (.int .i32 0)), (.c (.int .i32 0))])), (166, (.ag [(.c (.int .i32 0)), (.c (.int .i32 0)), (.c (.int .i32 0)), (.c (.int .i32 0))]))]
def zpvA : List (Nat × PV) → Prop
  | [] => True
  | p :: r => (ZeroP Tryd.prog p.1 p.2) ∧ zpvA r
theorem zpvM : ∀ {l : List (Nat × PV)}, zpvA l → ∀ p ∈ l, ZeroP Tryd.prog p.1 p.2
  | [], _, p, h => by cases h
  | q :: r, ha, p, h => by
    rcases List.mem_cons.1 h with e | h
    · exact e ▸ ha.1
    · exact zpvM ha.2 p h
theorem zpvK : zpvA zpvL := ⟨⟨_, zrv2, .inr ⟨rfl, rfl⟩⟩, ⟨_, zrv3, .inr ⟨rfl, rfl⟩⟩, ⟨_, zrv4, .inr ⟨rfl, rfl⟩⟩, ⟨_, zrv5, .inr ⟨rfl, rfl⟩⟩, ⟨_, zrv6, .inr ⟨rfl, rfl⟩⟩, ⟨_, zrv7, .inl ⟨_, rfl, by simp [Value.oneCell'], rfl⟩⟩, ⟨_, zrv8, .inl ⟨_, rfl, by simp [Value.oneCell'], rfl⟩⟩, ⟨_, zrv9, .inr ⟨rfl, rfl⟩⟩, ⟨_, zrv10, .inr ⟨rfl, rfl⟩⟩, ⟨_, zrv11, .inr ⟨rfl, rfl⟩⟩, ⟨_, zrv12, .inr ⟨rfl, rfl⟩⟩, ⟨_, zrv13, .inl ⟨_, rfl, by simp [Value.oneCell'], rfl⟩⟩, ⟨_, zrv14, .inl ⟨_, rfl, by simp [Value.oneCell'], rfl⟩⟩, ⟨_, zrv15, .inr ⟨rfl, rfl⟩⟩, ⟨_, zrv16, .inr ⟨rfl, rfl⟩⟩, ⟨_, zrv17, .inr ⟨rfl, rfl⟩⟩, ⟨_, zrv18, .inl ⟨_, rfl, by simp [Value.oneCell'], rfl⟩⟩, ⟨_, zrv19, .inl ⟨_, rfl, by simp [Value.oneCell'], rfl⟩⟩, ⟨_, zrv20, .inr ⟨rfl, rfl⟩⟩, ⟨_, zrv21, .inr ⟨rfl, rfl⟩⟩, ⟨_, zrv22, .inr ⟨rfl, rfl⟩⟩, ⟨_, zrv23, .inr ⟨rfl, rfl⟩⟩, ⟨_, zrv24, .inr ⟨rfl, rfl⟩⟩, ⟨_, zrv25, .inr ⟨rfl, rfl⟩⟩, ⟨_, zrv26, .inr ⟨rfl, rfl⟩⟩, ⟨_, zrv27, .inl ⟨_, rfl, by simp [Value.oneCell'], rfl⟩⟩, ⟨_, zrv28, .inl ⟨_, rfl, by simp [Value.oneCell'], rfl⟩⟩, ⟨_, zrv31, .inl ⟨_, rfl, by simp [Value.oneCell'], rfl⟩⟩, ⟨_, zrv32, .inl ⟨_, rfl, by simp [Value.oneCell'], rfl⟩⟩, ⟨_, zrv38, .inr ⟨rfl, rfl⟩⟩, ⟨_, zrv49, .inr ⟨rfl, rfl⟩⟩, ⟨_, zrv50, .inl ⟨_, rfl, by simp [Value.oneCell'], rfl⟩⟩, ⟨_, zrv51, .inl ⟨_, rfl, by simp [Value.oneCell'], rfl⟩⟩, ⟨_, zrv56, .inr ⟨rfl, rfl⟩⟩, ⟨_, zrv57, .inr ⟨rfl, rfl⟩⟩, ⟨_, zrv59, .inr ⟨rfl, rfl⟩⟩, ⟨_, zrv60, .inr ⟨rfl, rfl⟩⟩, ⟨_, zrv64, .inl ⟨_, rfl, by simp [Value.oneCell'], rfl⟩⟩, ⟨_, zrv65, .inl ⟨_, rfl, by simp [Value.oneCell'], rfl⟩⟩, ⟨_, zrv75, .inr ⟨rfl, rfl⟩⟩, ⟨_, zrv76, .inr ⟨rfl, rfl⟩⟩, ⟨_, zrv85, .inl ⟨_, rfl, by simp [Value.oneCell'], rfl⟩⟩, ⟨_, zrv86, .inl ⟨_, rfl, by simp [Value.oneCell'], rfl⟩⟩, ⟨_, zrv87, .inr ⟨rfl, rfl⟩⟩, ⟨_, zrv88, .inr ⟨rfl, rfl⟩⟩, ⟨_, zrv91, .inr ⟨rfl, rfl⟩⟩, ⟨_, zrv93, .inr ⟨rfl, rfl⟩⟩, ⟨_, zrv94, .inr ⟨rfl, rfl⟩⟩, ⟨_, zrv99, .inr ⟨rfl, rfl⟩⟩, ⟨_, zrv100, .inr ⟨rfl, rfl⟩⟩, ⟨_, zrv102, .inl ⟨_, rfl, by simp [Value.oneCell'], rfl⟩⟩, ⟨_, zrv103, .inl ⟨_, rfl, by simp [Value.oneCell'], rfl⟩⟩, ⟨_, zrv105, .inl ⟨_, rfl, by simp [Value.oneCell'], rfl⟩⟩, ⟨_, zrv106, .inl ⟨_, rfl, by simp [Value.oneCell'], rfl⟩⟩, ⟨_, zrv108, .inl ⟨_, rfl, by simp [Value.oneCell'], rfl⟩⟩, ⟨_, zrv109, .inl ⟨_, rfl, by simp [Value.oneCell'], rfl⟩⟩, ⟨_, zrv111, .inl ⟨_, rfl, by simp [Value.oneCell'], rfl⟩⟩, ⟨_, zrv112, .inl ⟨_, rfl, by simp [Value.oneCell'], rfl⟩⟩, ⟨_, zrv113, .inl ⟨_, rfl, by simp [Value.oneCell'], rfl⟩⟩, ⟨_, zrv114, .inl ⟨_, rfl, by simp [Value.oneCell'], rfl⟩⟩, ⟨_, zrv115, .inr ⟨rfl, rfl⟩⟩, ⟨_, zrv116, .inl ⟨_, rfl, by simp [Value.oneCell'], rfl⟩⟩, ⟨_, zrv117, .inl ⟨_, rfl, by simp [Value.oneCell'], rfl⟩⟩, ⟨_, zrv125, .inr ⟨rfl, rfl⟩⟩, ⟨_, zrv128, .inr ⟨rfl, rfl⟩⟩, ⟨_, zrv130, .inl ⟨_, rfl, by simp [Value.oneCell'], rfl⟩⟩, ⟨_, zrv131, .inl ⟨_, rfl, by simp [Value.oneCell'], rfl⟩⟩, ⟨_, zrv136, .inr ⟨rfl, rfl⟩⟩, ⟨_, zrv137, .inr ⟨rfl, rfl⟩⟩, ⟨_, zrv138, .inr ⟨rfl, rfl⟩⟩, ⟨_, zrv140, .inr ⟨rfl, rfl⟩⟩, ⟨_, zrv141, .inr ⟨rfl, rfl⟩⟩, ⟨_, zrv142, .inr ⟨rfl, rfl⟩⟩, ⟨_, zrv143, .inl ⟨_, rfl, by simp [Value.oneCell'], rfl⟩⟩, ⟨_, zrv144, .inl ⟨_, rfl, by simp [Value.oneCell'], rfl⟩⟩, ⟨_, zrv152, .inl ⟨_, rfl, by simp [Value.oneCell'], rfl⟩⟩, ⟨_, zrv153, .inl ⟨_, rfl, by simp [Value.oneCell'], rfl⟩⟩, ⟨_, zrv155, .inl ⟨_, rfl, by simp [Value.oneCell'], rfl⟩⟩, ⟨_, zrv156, .inl ⟨_, rfl, by simp [Value.oneCell'], rfl⟩⟩, ⟨_, zrv157, .inr ⟨rfl, rfl⟩⟩, ⟨_, zrv158, .inr ⟨rfl, rfl⟩⟩, ⟨_, zrv160, .inr ⟨rfl, rfl⟩⟩, ⟨_, zrv161, .inl ⟨_, rfl, by simp [Value.oneCell'], rfl⟩⟩, ⟨_, zrv162, .inl ⟨_, rfl, by simp [Value.oneCell'], rfl⟩⟩, ⟨_, zrv163, .inr ⟨rfl, rfl⟩⟩, ⟨_, zrv164, .inr ⟨rfl, rfl⟩⟩, ⟨_, zrv165, .inl ⟨_, rfl, by simp [Value.oneCell'], rfl⟩⟩, ⟨_, zrv166, .inl ⟨_, rfl, by simp [Value.oneCell'], rfl⟩⟩, trivial⟩
def slL : List (Nat × Nat) := [(22, 5), (23, 9), (24, 32), (25, 3), (26, 28), (94, 60), (115, 117), (125, 25), (163, 166)]
def slA : List (Nat × Nat) → Prop
  | [] => True
  | p :: r => (Tryd.prog.underlying p.1 = some (.slice p.2)) ∧ slA r
theorem slM : ∀ {l : List (Nat × Nat)}, slA l → ∀ p ∈ l, Tryd.prog.underlying p.1 = some (.slice p.2)
  | [], _, p, h => by cases h
  | q :: r, ha, p, h => by
    rcases List.mem_cons.1 h with e | h
    · exact e ▸ ha.1
    · exact slM ha.2 p h
theorem slK : slA slL := ⟨und22, und23, und24, und25, und26, und94, und115, und125, und163, trivial⟩
def intL : List (Nat × IntKind) := [(2, .i64), (3, .i64), (5, .u8), (6, .u8), (12, .u64), (21, .i32), (136, .u32), (137, .u8), (138, .u8), (141, .i32), (142, .i32), (160, .u16), (164, .i32)]
def intA : List (Nat × IntKind) → Prop
  | [] => True
  | p :: r => (Tryd.prog.underlying p.1 = some (.int p.2)) ∧ intA r
theorem intM : ∀ {l : List (Nat × IntKind)}, intA l → ∀ p ∈ l, Tryd.prog.underlying p.1 = some (.int p.2)
  | [], _, p, h => by cases h
  | q :: r, ha, p, h => by
    rcases List.mem_cons.1 h with e | h
    · exact e ▸ ha.1
    · exact intM ha.2 p h
theorem intK : intA intL := ⟨und2, und3, und5, und6, und12, und21, und136, und137, und138, und141, und142, und160, und164, trivial⟩
def strL : List (Nat × Unit) := [(9, ()), (10, ()), (11, ())]
def strA : List (Nat × Unit) → Prop
  | [] => True
  | p :: r => (Tryd.prog.underlying p.1 = some .string) ∧ strA r
theorem strM : ∀ {l : List (Nat × Unit)}, strA l → ∀ p ∈ l, Tryd.prog.underlying p.1 = some .string
  | [], _, p, h => by cases h
  | q :: r, ha, p, h => by
    rcases List.mem_cons.1 h with e | h
    · exact e ▸ ha.1
    · exact strM ha.2 p h
theorem strK : strA strL := ⟨und9, und10, und11, trivial⟩
def booL : List (Nat × Unit) := [(4, ())]
def booA : List (Nat × Unit) → Prop
  | [] => True
  | p :: r => (Tryd.prog.underlying p.1 = some .bool) ∧ booA r
theorem booM : ∀ {l : List (Nat × Unit)}, booA l → ∀ p ∈ l, Tryd.prog.underlying p.1 = some .bool
  | [], _, p, h => by cases h
  | q :: r, ha, p, h => by
    rcases List.mem_cons.1 h with e | h
    · exact e ▸ ha.1
    · exact booM ha.2 p h
theorem booK : booA booL := ⟨und4, trivial⟩
def ifcL : List (Nat × Unit) := [(20, ()), (59, ()), (60, ()), (75, ()), (76, ()), (88, ()), (91, ()), (93, ()), (99, ()), (100, ())]
def ifcA : List (Nat × Unit) → Prop
  | [] => True
  | p :: r => (∃ ms, Tryd.prog.underlying p.1 = some (.interface ms)) ∧ ifcA r
theorem ifcM : ∀ {l : List (Nat × Unit)}, ifcA l → ∀ p ∈ l, ∃ ms, Tryd.prog.underlying p.1 = some (.interface ms)
  | [], _, p, h => by cases h
  | q :: r, ha, p, h => by
    rcases List.mem_cons.1 h with e | h
    · exact e ▸ ha.1
    · exact ifcM ha.2 p h
theorem ifcK : ifcA ifcL := ⟨⟨_, und20⟩, ⟨_, und59⟩, ⟨_, und60⟩, ⟨_, und75⟩, ⟨_, und76⟩, ⟨_, und88⟩, ⟨_, und91⟩, ⟨_, und93⟩, ⟨_, und99⟩, ⟨_, und100⟩, trivial⟩
def conL : List (Nat × Unit) := [(2, ()), (3, ()), (4, ()), (5, ()), (6, ()), (7, ()), (8, ()), (9, ()), (10, ()), (11, ()), (12, ()), (13, ()), (14, ()), (15, ()), (16, ()), (17, ()), (18, ()), (19, ()), (21, ()), (22, ()), (23, ()), (24, ()), (25, ()), (26, ()), (27, ()), (28, ()), (31, ()), (32, ()), (38, ()), (49, ()), (50, ()), (51, ()), (56, ()), (57, ()), (64, ()), (65, ()), (85, ()), (86, ()), (87, ()), (94, ()), (102, ()), (103, ()), (105, ()), (106, ()), (108, ()), (109, ()), (111, ()), (112, ()), (113, ()), (114, ()), (115, ()), (116, ()), (117, ()), (125, ()), (128, ()), (130, ()), (131, ()), (136, ()), (137, ()), (138, ()), (140, ()), (141, ()), (142, ()), (143, ()), (144, ()), (152, ()), (153, ()), (155, ()), (156, ()), (157, ()), (158, ()), (160, ()), (161, ()), (162, ()), (163, ()), (164, ()), (165, ()), (166, ())]
def conA : List (Nat × Unit) → Prop
  | [] => True
  | p :: r => (Tryd.prog.concrete p.1 = true) ∧ conA r
theorem conM : ∀ {l : List (Nat × Unit)}, conA l → ∀ p ∈ l, Tryd.prog.concrete p.1 = true
  | [], _, p, h => by cases h
  | q :: r, ha, p, h => by
    rcases List.mem_cons.1 h with e | h
    · exact e ▸ ha.1
    · exact conM ha.2 p h
theorem conK : conA conL := ⟨con2, con3, con4, con5, con6, con7, con8, con9, con10, con11, con12, con13, con14, con15, con16, con17, con18, con19, con21, con22, con23, con24, con25, con26, con27, con28, con31, con32, con38, con49, con50, con51, con56, con57, con64, con65, con85, con86, con87, con94, con102, con103, con105, con106, con108, con109, con111, con112, con113, con114, con115, con116, con117, con125, con128, con130, con131, con136, con137, con138, con140, con141, con142, con143, con144, con152, con153, con155, con156, con157, con158, con160, con161, con162, con163, con164, con165, con166, trivial⟩
def bytL : List (Nat × Nat) := [(2, 8), (3, 8), (4, 1), (5, 1), (6, 1), (7, 24), (8, 24), (9, 16), (10, 16), (11, 16), (12, 8), (13, 24), (14, 24), (15, 8), (16, 8), (17, 8), (18, 8), (19, 8), (20, 16), (21, 4), (22, 24), (23, 24), (24, 24), (25, 24), (26, 24), (27, 80), (28, 80), (31, 24), (32, 24), (38, 8), (49, 8), (50, 48), (51, 48), (56, 8), (57, 8), (59, 16), (60, 16), (64, 32), (65, 32), (75, 16), (76, 16), (85, 8), (86, 8), (87, 8), (88, 16), (91, 16), (93, 16), (94, 24), (99, 16), (100, 16), (102, 168), (103, 168), (105, 104), (106, 104), (108, 184), (109, 184), (111, 8), (112, 8), (113, 16), (114, 16), (115, 24), (116, 32), (117, 32), (125, 24), (128, 8), (130, 40), (131, 40), (136, 4), (137, 1), (138, 1), (140, 8), (141, 4), (142, 4), (143, 48), (144, 48), (152, 24), (153, 24), (155, 16), (156, 16), (157, 8), (158, 8), (160, 2), (161, 16), (162, 16), (163, 24), (164, 4), (165, 16), (166, 16)]
theorem bytK : bytL.all (fun p => byt Tryd.prog p.1 == some p.2) = true := by kernel_rfl
def mpL : List (Nat × Nat) := [(56, 32), (57, 32)]
def mpA : List (Nat × Nat) → Prop
  | [] => True
  | p :: r => (∃ k, Tryd.prog.underlying p.1 = some (.map k p.2) ∧ Tryd.prog.underlying k = some .string) ∧ mpA r
theorem mpM : ∀ {l : List (Nat × Nat)}, mpA l → ∀ p ∈ l, ∃ k, Tryd.prog.underlying p.1 = some (.map k p.2) ∧ Tryd.prog.underlying k = some .string
  | [], _, p, h => by cases h
  | q :: r, ha, p, h => by
    rcases List.mem_cons.1 h with e | h
    · exact e ▸ ha.1
    · exact mpM ha.2 p h
theorem mpK : mpA mpL := ⟨⟨9, und56, und9⟩, ⟨9, und57, und9⟩, trivial⟩
theorem of_all {α : Type} [BEq α] [LawfulBEq α] {f : Nat → Option α} {l : List (Nat × α)} (h : l.all (fun p => f p.1 == some p.2) = true) {t : Nat} {x : α} (hx : lkN l t = some x) : f t = some x := by
  have := List.all_eq_true.1 h _ (lkN_mem hx)
  simpa using this
def T : Tab Tryd.prog where
  lay t := lkN layL t
  hlay t x h := of_all layK h
  flds t := lkN fldL t
  hflds t x h := of_all fldK h
  zer t := lkN zerL t
  hzer t x h := ⟨zerM zerK _ (lkN_mem h), fun u hu => List.all_eq_true.1 (List.all_eq_true.1 zerO _ (lkN_mem h)) u hu⟩
  sl t := lkN slL t
  hsl t e h := slM slK _ (lkN_mem h)
  str t := (lkN strL t).isSome
  hstr t h := by obtain ⟨x, hx⟩ := Option.isSome_iff_exists.1 h; exact strM strK _ (lkN_mem hx)
  boo t := (lkN booL t).isSome
  hboo t h := by obtain ⟨x, hx⟩ := Option.isSome_iff_exists.1 h; exact booM booK _ (lkN_mem hx)
  int t := lkN intL t
  hint t k h := intM intK _ (lkN_mem h)
  ifc t := (lkN ifcL t).isSome
  hifc t h := by obtain ⟨x, hx⟩ := Option.isSome_iff_exists.1 h; exact ifcM ifcK _ (lkN_mem hx)
  con t := (lkN conL t).isSome
  hcon t h := by obtain ⟨x, hx⟩ := Option.isSome_iff_exists.1 h; exact conM conK _ (lkN_mem hx)
  byt t := lkN bytL t
  hbyt t x h := of_all bytK h
  mp t := lkN mpL t
  hmp t e h := mpM mpK _ (lkN_mem h)
  zpv t := lkN zpvL t
  hzpv t y h := zpvM zpvK _ (lkN_mem h)
end Go.Proofs.YtlcmokgnmlklnaaDoor.Ty
end
section
namespace Go.Proofs.YtlcmokgnmlklnaaDoor.K
open Go Go.RowKit Go.Proofs.YtlcmokgnmlklnaaDoor.En Go.Proofs.YtlcmokgnmlklnaaDoor.Ty Go.Proofs.YtlcmokgnmlklnaaDoor.B
set_option maxRecDepth 100000
set_option linter.unusedSimpArgs false
set_option linter.unusedVariables false
set_option pp.deepTerms false
set_option pp.deepTerms.threshold 8
set_option pp.maxSteps 1000
theorem fits (G : Nat → Option PV) : ∀ (n : Nat), n ≤ 1000 → ∀ (l : List Tn), PF Tryd.prog G 52 [pt l, pi n] (.p (pb (dp n l))) := by
  intro n
  induction n with
  | zero =>
    intro _ l
    refine ⟨(by first | exact .p | exact .tp (fun x hx => by simp at hx; rcases hx with rfl | rfl <;> exact .p) | exact .tp (fun x hx => by simp at hx; rcases hx with rfl | rfl | rfl <;> exact .p)), bdy Tryd.func52 (fun _ => 0) rfl ?_⟩
    refine rn T 99 [] ?_
    refine rn T 99 [] ?_
    refine cts ?_
    refine rn T 99 [] ?_
    exact ⟨[_], ⟨_, _, rfl, .inl rfl, rfl⟩, .p, rfl⟩
  | succ n ih =>
    intro hn l
    have hp := wkP (i := n) (by omega)
    refine ⟨(by first | exact .p | exact .tp (fun x hx => by simp at hx; rcases hx with rfl | rfl <;> exact .p) | exact .tp (fun x hx => by simp at hx; rcases hx with rfl | rfl | rfl <;> exact .p)), bdy Tryd.func52 (fun _ => 0) rfl ?_⟩
    refine rn T 99 [] ?_
    refine rn T 99 [] ?_
    refine cfq rfl (by simp; omega) ?_
    refine rn T 99 [] ?_
    rcases shp l with rfl | ⟨a, b, rfl⟩ | ⟨h0, h2⟩
    · refine ctq rfl (rfl) ?_
      refine rn T 99 [] ?_
      exact ⟨[_], ⟨_, _, rfl, .inl rfl, rfl⟩, .p, rfl⟩
    · refine cfq rfl (rfl) ?_
      refine rn T 99 [pt a.f0] ?_
      rw [hp]
      rw [dp_two]
      have ha := ih (by omega) a.f0
      have hb := ih (by omega) b.f0
      revert ha hb
      cases dp n a.f0 with
      | false =>
        intro ha hb
        refine pcs (ha) ?_
        refine rn T 99 [] ?_
        exact ⟨[_], ⟨_, _, rfl, .inl rfl, rfl⟩, .p, rfl⟩
      | true =>
        intro ha hb
        refine pcs (ha) ?_
        refine rn T 99 [pt b.f0] ?_
        rw [hp]
        refine pcs (hb) ?_
        refine rn T 99 [] ?_
        exact ⟨[_], ⟨_, _, rfl, .inl rfl, rfl⟩, .p, rfl⟩
    · refine cfq rfl (by simp; intro h; exact h0 (by simp [h])) ?_
      refine rn T 4 [] ?_
      rw [show ((((l.map eT).length : Nat) : Int) == 2) = false by simp; omega]
      refine rn T 99 [] ?_
      rw [dp_odd _ _ h0 h2]
      exact ⟨[_], ⟨_, _, rfl, .inl rfl, rfl⟩, .p, rfl⟩
theorem typeOk (G : Nat → Option PV) (l : List Tn) : PF Tryd.prog G 38 [pt l] (.p (pb (dp 4 l))) := by
  refine ⟨(by first | exact .p | exact .tp (fun x hx => by simp at hx; rcases hx with rfl | rfl <;> exact .p) | exact .tp (fun x hx => by simp at hx; rcases hx with rfl | rfl | rfl <;> exact .p)), bdy Tryd.func38 (fun _ => 0) rfl ?_⟩
  refine rn T 99 [] ?_
  refine rn T 99 [] ?_
  refine pcs (fits G 4 (by omega) l) ?_
  refine rn T 99 [] ?_
  exact ⟨[_], ⟨_, _, rfl, .inl rfl, rfl⟩, .p, rfl⟩
theorem typesOk (G : Nat → Option PV) (l : List Tn) (hl : l.length ≤ 1000) : PF Tryd.prog G 22 [.row 1 (l.map eT)] (.p (pb (l.all fun t => dp 4 t.f0))) := by
  refine ⟨(by first | exact .p | exact .tp (fun x hx => by simp at hx; rcases hx with rfl | rfl <;> exact .p) | exact .tp (fun x hx => by simp at hx; rcases hx with rfl | rfl | rfl <;> exact .p)), bdy Tryd.func22 (fun _ => 0) rfl ?_⟩
  refine rn T 99 [] ?_
  refine rn T 99 [] ?_
  refine lpw (fun i : Nat => MS.mk [(7, .p (pi i)), (6, .p (pi (l.map eT).length)), (5, .p (.row 1 (l.map eT))), (2, .p (pb false))] 15 [] []) (fun m i => m + i = l.length ∧ (l.drop i).all (fun t => dp 4 t.f0) = l.all (fun t => dp 4 t.f0)) (l.length) (0) (by simp) ?_
  intro m i ⟨h1, h2⟩
  refine op ?_
  refine rn T 99 [] ?_
  by_cases hi : i < l.length
  · obtain ⟨x, hx, hd⟩ := drop_ix hi
    rw [hd, List.all_cons] at h2
    refine ctq rfl (by simp [hi]) ?_
    refine rn T 99 [pt x.f0] ?_
    refine rn T 99 [] ?_
    have hc := typeOk G x.f0
    revert hc h2
    cases dp 4 x.f0 with
    | false =>
      intro h2 hc
      refine pcs (hc) ?_
      refine rn T 99 [] ?_
      refine cts ?_
      refine rn T 99 [] ?_
      rw [← h2]
      exact ⟨[_], ⟨_, _, rfl, .inl rfl, rfl⟩, .p, rfl⟩
    | true =>
      intro h2 hc
      refine pcs (hc) ?_
      refine rn T 99 [] ?_
      refine cfs ?_
      refine rn T 99 [] ?_
      rw [wkS (by omega)]
      refine nxt (m - 1) (i + 1) (⟨by omega, by simpa using h2⟩)
  · refine cfq rfl (by simp [hi]) ?_
    refine rn T 99 [] ?_
    rw [← h2, List.drop_eq_nil_of_le (by omega)]
    exact ⟨[_], ⟨_, _, rfl, .inl rfl, rfl⟩, .p, rfl⟩
end Go.Proofs.YtlcmokgnmlklnaaDoor.K
end
section
namespace Go.Proofs.YtlcmokgnmlklnaaDoor.K
open Go Go.RowKit Go.Proofs.YtlcmokgnmlklnaaDoor.En Go.Proofs.YtlcmokgnmlklnaaDoor.Ty Go.Proofs.YtlcmokgnmlklnaaDoor.B
set_option maxRecDepth 100000
set_option linter.unusedSimpArgs false
set_option linter.unusedVariables false
set_option pp.deepTerms false
set_option pp.deepTerms.threshold 8
set_option pp.maxSteps 1000
theorem teq_zip (n : Nat) (a b : List Tn) (ha : dp (n + 1) a = true) (hb : dp (n + 1) b = true) (hl : a.length = b.length) : teq (n + 1) a b = (a.zip b).all fun p => teq n p.1.f0 p.2.f0 := by
  rcases shp a with rfl | ⟨a1, a2, rfl⟩ | ⟨h0, h2⟩
  · obtain rfl := List.eq_nil_of_length_eq_zero hl.symm
    rfl
  · obtain ⟨b1, b2, rfl⟩ := two_of hl.symm
    show (teq n a1.f0 b1.f0 && teq n a2.f0 b2.f0) = _
    simp
  · rw [dp_odd _ _ h0 h2] at ha; cases ha
theorem dp_mem (n : Nat) (l : List Tn) (h : dp (n + 1) l = true) {x : Tn} {i : Nat} (hx : l[i]? = some x) : dp n x.f0 = true := by
  rcases shp l with rfl | ⟨a1, a2, rfl⟩ | ⟨h0, h2⟩
  · simp at hx
  · rw [dp_two, Bool.and_eq_true] at h
    match i, hx with
    | 0, hx => cases hx; exact h.1
    | 1, hx => cases hx; exact h.2
  · rw [dp_odd _ _ h0 h2] at h; cases h
theorem dp_len (n : Nat) (l : List Tn) (h : dp n l = true) : l.length ≤ 2 := by
  rcases shp l with rfl | ⟨a1, a2, rfl⟩ | ⟨h0, h2⟩
  · simp
  · simp
  · rw [dp_odd _ _ h0 h2] at h; cases h
theorem lh (G : Nat → Option PV) : ∀ (n : Nat) (a b : List Tn), dp n a = true → dp n b = true → PF Tryd.prog G 7 [pt a, pt b] (.p (pb (teq n a b))) := by
  intro n
  induction n with
  | zero => intro a b h; simp [dp] at h
  | succ n ih =>
    intro a b ha hb
    have la := dp_len _ _ ha
    refine ⟨(by first | exact .p | exact .tp (fun x hx => by simp at hx; rcases hx with rfl | rfl <;> exact .p) | exact .tp (fun x hx => by simp at hx; rcases hx with rfl | rfl | rfl <;> exact .p)), bdy Tryd.func7 (fun _ => 0) rfl ?_⟩
    refine rn T 99 [] ?_
    refine rn T 99 [] ?_
    by_cases hl : a.length = b.length
    · rw [teq_zip n a b ha hb hl]
      refine cfq rfl (by simp [hl]) ?_
      refine rn T 99 [] ?_
      refine lpw (fun i : Nat => MS.mk [(5, .p (pi i)), (2, .ptr (.L 2) 0), (3, .ptr (.L 3) 0)] 32 [(3, .box 32 [.p (.row 1 (b.map eT))]), (2, .box 32 [.p (.row 1 (a.map eT))])] []) (fun m i => m + i = a.length ∧ ((a.drop i).zip (b.drop i)).all (fun p => teq n p.1.f0 p.2.f0) = (a.zip b).all (fun p => teq n p.1.f0 p.2.f0)) (a.length) (0) (by simp) ?_
      intro m i ⟨h1, h2⟩
      refine op ?_
      refine rn T 99 [] ?_
      by_cases hi : i < a.length
      · obtain ⟨x, hx, hd⟩ := drop_ix hi
        obtain ⟨y, hy, hd'⟩ := drop_ix (l := b) (i := i) (by omega)
        rw [hd, hd', List.zip_cons_cons, List.all_cons] at h2
        refine ctq rfl (by simp [hi]) ?_; try (first | refine dr3 ?_ | refine dr4 ?_)
        refine rn T 99 [pt x.f0, pt y.f0] ?_
        have hc := ih x.f0 y.f0 (dp_mem n a ha hx) (dp_mem n b hb hy)
        revert hc h2
        simp only
        cases teq n x.f0 y.f0 with
        | false =>
          intro h2 hc
          refine pcs (hc) ?_
          refine rn T 99 [] ?_
          refine cts ?_
          refine rn T 99 [] ?_
          rw [← h2]
          exact ⟨[_], ⟨_, _, rfl, .inl rfl, rfl⟩, .p, rfl⟩
        | true =>
          intro h2 hc
          refine pcs (hc) ?_
          refine rn T 99 [] ?_
          refine cfs ?_
          refine rn T 99 [] ?_
          rw [wkS (by omega)]
          refine nxt (m - 1) (i + 1) (⟨by omega, by simpa using h2⟩)
      · refine cfq rfl (by simp [hi]) ?_
        refine rn T 99 [] ?_
        rw [← h2, show a.drop i = [] from List.drop_eq_nil_of_le (by omega)]
        exact ⟨[_], ⟨_, _, rfl, .inl rfl, rfl⟩, .p, rfl⟩
    · rw [teq_len _ _ _ hl]
      refine ctq rfl (by simp; omega) ?_
      refine rn T 99 [] ?_
      exact ⟨[_], ⟨_, _, rfl, .inl rfl, rfl⟩, .p, rfl⟩
theorem same1 (G : Nat → Option PV) : ∀ (n : Nat) (a b : List Tn), dp n a = true → dp n b = true → PF Tryd.prog G 35 [pt a, pt b] (.p (pb (teq n a b))) := by
  intro n
  induction n with
  | zero => intro a b h; simp [dp] at h
  | succ n ih =>
    intro a b ha hb
    have la := dp_len _ _ ha
    refine ⟨(by first | exact .p | exact .tp (fun x hx => by simp at hx; rcases hx with rfl | rfl <;> exact .p) | exact .tp (fun x hx => by simp at hx; rcases hx with rfl | rfl | rfl <;> exact .p)), bdy Tryd.func35 (fun _ => 0) rfl ?_⟩
    refine rn T 99 [] ?_
    refine rn T 99 [] ?_
    by_cases hl : a.length = b.length
    · rw [teq_zip n a b ha hb hl]
      refine cfq rfl (by simp [hl]) ?_
      refine rn T 99 [] ?_
      refine lpw (fun i : Nat => MS.mk [(5, .p (pi i)), (2, .ptr (.L 2) 0), (3, .ptr (.L 3) 0)] 32 [(3, .box 32 [.p (.row 1 (b.map eT))]), (2, .box 32 [.p (.row 1 (a.map eT))])] []) (fun m i => m + i = a.length ∧ ((a.drop i).zip (b.drop i)).all (fun p => teq n p.1.f0 p.2.f0) = (a.zip b).all (fun p => teq n p.1.f0 p.2.f0)) (a.length) (0) (by simp) ?_
      intro m i ⟨h1, h2⟩
      refine op ?_
      refine rn T 99 [] ?_
      by_cases hi : i < a.length
      · obtain ⟨x, hx, hd⟩ := drop_ix hi
        obtain ⟨y, hy, hd'⟩ := drop_ix (l := b) (i := i) (by omega)
        rw [hd, hd', List.zip_cons_cons, List.all_cons] at h2
        refine ctq rfl (by simp [hi]) ?_; try (first | refine dr3 ?_ | refine dr4 ?_)
        refine rn T 99 [pt x.f0, pt y.f0] ?_
        have hc := ih x.f0 y.f0 (dp_mem n a ha hx) (dp_mem n b hb hy)
        revert hc h2
        simp only
        cases teq n x.f0 y.f0 with
        | false =>
          intro h2 hc
          refine pcs (hc) ?_
          refine rn T 99 [] ?_
          refine cts ?_
          refine rn T 99 [] ?_
          rw [← h2]
          exact ⟨[_], ⟨_, _, rfl, .inl rfl, rfl⟩, .p, rfl⟩
        | true =>
          intro h2 hc
          refine pcs (hc) ?_
          refine rn T 99 [] ?_
          refine cfs ?_
          refine rn T 99 [] ?_
          rw [wkS (by omega)]
          refine nxt (m - 1) (i + 1) (⟨by omega, by simpa using h2⟩)
      · refine cfq rfl (by simp [hi]) ?_
        refine rn T 99 [] ?_
        rw [← h2, show a.drop i = [] from List.drop_eq_nil_of_le (by omega)]
        exact ⟨[_], ⟨_, _, rfl, .inl rfl, rfl⟩, .p, rfl⟩
    · rw [teq_len _ _ _ hl]
      refine ctq rfl (by simp; omega) ?_
      refine rn T 99 [] ?_
      exact ⟨[_], ⟨_, _, rfl, .inl rfl, rfl⟩, .p, rfl⟩
theorem same2 (G : Nat → Option PV) : ∀ (n : Nat) (a b : List Tn), dp n a = true → dp n b = true → PF Tryd.prog G 42 [pt a, pt b] (.p (pb (teq n a b))) := by
  intro n
  induction n with
  | zero => intro a b h; simp [dp] at h
  | succ n ih =>
    intro a b ha hb
    have la := dp_len _ _ ha
    refine ⟨(by first | exact .p | exact .tp (fun x hx => by simp at hx; rcases hx with rfl | rfl <;> exact .p) | exact .tp (fun x hx => by simp at hx; rcases hx with rfl | rfl | rfl <;> exact .p)), bdy Tryd.func42 (fun _ => 0) rfl ?_⟩
    refine rn T 99 [] ?_
    refine rn T 99 [] ?_
    by_cases hl : a.length = b.length
    · rw [teq_zip n a b ha hb hl]
      refine cfq rfl (by simp [hl]) ?_
      refine rn T 99 [] ?_
      refine lpw (fun i : Nat => MS.mk [(16, .p (pi i)), (15, .p (pi (a.map eT).length)), (2, .ptr (.L 2) 0), (3, .ptr (.L 3) 0)] 32 [(3, .box 32 [.p (.row 1 (b.map eT))]), (2, .box 32 [.p (.row 1 (a.map eT))])] []) (fun m i => m + i = a.length ∧ ((a.drop i).zip (b.drop i)).all (fun p => teq n p.1.f0 p.2.f0) = (a.zip b).all (fun p => teq n p.1.f0 p.2.f0)) (a.length) (0) (by simp) ?_
      intro m i ⟨h1, h2⟩
      refine op ?_
      refine rn T 99 [] ?_
      by_cases hi : i < a.length
      · obtain ⟨x, hx, hd⟩ := drop_ix hi
        obtain ⟨y, hy, hd'⟩ := drop_ix (l := b) (i := i) (by omega)
        rw [hd, hd', List.zip_cons_cons, List.all_cons] at h2
        refine ctq rfl (by simp [hi]) ?_
        refine rn T 99 [] ?_; try (first | refine dr3 ?_ | refine dr4 ?_)
        refine rn T 99 [pt x.f0, pt y.f0] ?_
        have hc := ih x.f0 y.f0 (dp_mem n a ha hx) (dp_mem n b hb hy)
        revert hc h2
        simp only
        cases teq n x.f0 y.f0 with
        | false =>
          intro h2 hc
          refine pcs (hc) ?_
          refine rn T 99 [] ?_
          refine cts ?_
          refine rn T 99 [] ?_
          rw [← h2]
          exact ⟨[_], ⟨_, _, rfl, .inl rfl, rfl⟩, .p, rfl⟩
        | true =>
          intro h2 hc
          refine pcs (hc) ?_
          refine rn T 99 [] ?_
          refine cfs ?_
          refine rn T 99 [] ?_
          rw [wkS (by omega)]
          refine nxt (m - 1) (i + 1) (⟨by omega, by simpa using h2⟩)
      · refine cfq rfl (by simp [hi]) ?_
        refine rn T 99 [] ?_
        rw [← h2, show a.drop i = [] from List.drop_eq_nil_of_le (by omega)]
        exact ⟨[_], ⟨_, _, rfl, .inl rfl, rfl⟩, .p, rfl⟩
    · rw [teq_len _ _ _ hl]
      refine ctq rfl (by simp; omega) ?_
      refine rn T 99 [] ?_
      exact ⟨[_], ⟨_, _, rfl, .inl rfl, rfl⟩, .p, rfl⟩
theorem l6In (G : Nat → Option PV) (n a b : Int) : PF Tryd.prog G 31 [pi n, pi a, pi b] (.p (pb (decide (n ≥ a) && decide (n ≤ b)))) := by
  refine ⟨(by first | exact .p | exact .tp (fun x hx => by simp at hx; rcases hx with rfl | rfl <;> exact .p) | exact .tp (fun x hx => by simp at hx; rcases hx with rfl | rfl | rfl <;> exact .p)), bdy Tryd.func31 (fun _ => 0) rfl ?_⟩
  refine rn T 99 [] ?_
  cases h : decide (n ≥ a) with
  | true =>
    refine rn T 4 [] ?_
    rw [h]
    refine rn T 99 [] ?_
    exact ⟨[_], ⟨_, _, rfl, .inl rfl, rfl⟩, .p, rfl⟩
  | false =>
    refine rn T 4 [] ?_
    rw [h]
    refine rn T 99 [] ?_
    exact ⟨[_], ⟨_, _, rfl, .inl rfl, rfl⟩, .p, rfl⟩
theorem deep1 (G : Nat → Option PV) : ∀ (n : Nat), n ≤ 1000 → ∀ (l : List Tn), PF Tryd.prog G 32 [pt l, pi n] (.p (pb (dp n l))) := by
  intro n
  induction n with
  | zero =>
    intro _ l
    refine ⟨(by first | exact .p | exact .tp (fun x hx => by simp at hx; rcases hx with rfl | rfl <;> exact .p) | exact .tp (fun x hx => by simp at hx; rcases hx with rfl | rfl | rfl <;> exact .p)), bdy Tryd.func32 (fun _ => 0) rfl ?_⟩
    refine rn T 99 [] ?_
    refine rn T 99 [] ?_
    refine cts ?_
    refine rn T 99 [] ?_
    exact ⟨[_], ⟨_, _, rfl, .inl rfl, rfl⟩, .p, rfl⟩
  | succ n ih =>
    intro hn l
    refine ⟨(by first | exact .p | exact .tp (fun x hx => by simp at hx; rcases hx with rfl | rfl <;> exact .p) | exact .tp (fun x hx => by simp at hx; rcases hx with rfl | rfl | rfl <;> exact .p)), bdy Tryd.func32 (fun _ => 0) rfl ?_⟩
    refine rn T 99 [] ?_
    refine rn T 3 [] ?_
    rw [show decide (((n + 1 : Nat) : Int) < 1) = false by simp; omega]
    rcases shp l with rfl | ⟨a, b, rfl⟩ | ⟨h0, h2⟩
    · refine rn T 99 [] ?_
      refine cfs ?_
      refine rn T 99 [] ?_
      refine lpw (fun i : Nat => MS.mk [(5, .p (pi 0)), (2, .ptr (.L 2) 0)] 36 [(2, .box 32 [.p (.row 1 [])])] []) (fun m i => True) (0) (0) (trivial) ?_
      intro m i _
      refine op ?_
      refine rn T 99 [] ?_
      refine cfq rfl (by simp) ?_
      refine rn T 99 [] ?_
      exact ⟨[_], ⟨_, _, rfl, .inl rfl, rfl⟩, .p, rfl⟩
    · refine rn T 99 [] ?_
      refine cfs ?_
      refine rn T 99 [] ?_
      have ha := ih (by omega) a.f0
      have hb := ih (by omega) b.f0
      rw [dp_two]
      refine lpw (fun i : Nat => MS.mk [(5, .p (pi i)), (2, .ptr (.L 2) 0), (1, .p (pi (n + 1 : Nat)))] 36 [(2, .box 32 [.p (.row 1 ([a, b].map eT))])] []) (fun m i => m + i = 2 ∧ ([a, b].drop i).all (fun t => dp n t.f0) = (dp n a.f0 && dp n b.f0)) (2) (0) (by simp) ?_
      intro m i ⟨h1, h2⟩
      refine op ?_
      refine rn T 99 [] ?_
      by_cases hi : i < [a, b].length
      · have hi2 : i < 2 := hi
        obtain ⟨x, hx, hd⟩ := drop_ix hi
        rw [hd, List.all_cons] at h2
        refine ctq rfl (by simp at hi ⊢; omega) ?_
        refine rn T 99 [pt x.f0] ?_
        rw [wkP (by omega)]
        have hc := ih (by omega) x.f0
        revert hc h2
        cases dp n x.f0 with
        | false =>
          intro h2 hc
          refine pcs (hc) ?_
          refine rn T 99 [] ?_
          refine cts ?_
          refine rn T 99 [] ?_
          rw [← h2]
          exact ⟨[_], ⟨_, _, rfl, .inl rfl, rfl⟩, .p, rfl⟩
        | true =>
          intro h2 hc
          refine pcs (hc) ?_
          refine rn T 99 [] ?_
          refine cfs ?_
          refine rn T 99 [] ?_
          rw [wkS (by omega)]
          refine nxt (m - 1) (i + 1) (⟨by simp at hi; omega, by simpa using h2⟩)
      · refine cfq rfl (by simp at hi ⊢; omega) ?_
        refine rn T 99 [] ?_
        rw [← h2, List.drop_eq_nil_of_le (by omega)]
        exact ⟨[_], ⟨_, _, rfl, .inl rfl, rfl⟩, .p, rfl⟩
    · refine rn T 4 [] ?_
      rw [show ((((l.map eT).length : Nat) : Int) != 0) = true by simp; intro e; exact h0 (by simp [e])]
      refine rn T 5 [] ?_
      rw [show ((((l.map eT).length : Nat) : Int) != 2) = true by simp; omega]
      refine rn T 99 [] ?_
      refine cts ?_
      refine rn T 99 [] ?_
      rw [dp_odd _ _ h0 h2]
      exact ⟨[_], ⟨_, _, rfl, .inl rfl, rfl⟩, .p, rfl⟩
theorem ok1 (G : Nat → Option PV) (l : List Tn) : PF Tryd.prog G 18 [pt l] (.p (pb (dp 4 l))) := by
  refine ⟨(by first | exact .p | exact .tp (fun x hx => by simp at hx; rcases hx with rfl | rfl <;> exact .p) | exact .tp (fun x hx => by simp at hx; rcases hx with rfl | rfl | rfl <;> exact .p)), bdy Tryd.func18 (fun _ => 0) rfl ?_⟩
  refine rn T 99 [] ?_
  refine rn T 99 [] ?_
  refine pcs (deep1 G 4 (by omega) l) ?_
  refine rn T 99 [] ?_
  exact ⟨[_], ⟨_, _, rfl, .inl rfl, rfl⟩, .p, rfl⟩
end Go.Proofs.YtlcmokgnmlklnaaDoor.K
end
section
namespace Go.Proofs.YtlcmokgnmlklnaaDoor.K
open Go Go.RowKit Go.Proofs.YtlcmokgnmlklnaaDoor.En Go.Proofs.YtlcmokgnmlklnaaDoor.Ty Go.Proofs.YtlcmokgnmlklnaaDoor.B
set_option maxRecDepth 100000
set_option linter.unusedSimpArgs false
set_option linter.unusedVariables false
set_option pp.deepTerms false
set_option pp.deepTerms.threshold 8
set_option pp.maxSteps 1000
theorem pair_of (G : Nat → Option PV) (a b : List Tn) (ha : PF Tryd.prog G 27 [pt a] (.p (pt a))) (hb : PF Tryd.prog G 27 [pt b] (.p (pt b))) : PF Tryd.prog G 43 [pt a, pt b] (.p (pt [⟨a⟩, ⟨b⟩])) := by
  refine ⟨(by first | exact .p | exact .tp (fun x hx => by simp at hx; rcases hx with rfl | rfl <;> exact .p) | exact .tp (fun x hx => by simp at hx; rcases hx with rfl | rfl | rfl <;> exact .p)), bdy Tryd.func43 (fun _ => 0) rfl ?_⟩
  refine rn T 99 [] ?_; try (first | refine dr3 ?_ | refine dr4 ?_)
  refine rn T 99 [] ?_
  refine pcs (ha) ?_
  refine rn T 99 [] ?_
  refine pcs (hb) ?_
  refine rn T 99 [] ?_
  exact ret1 T rfl (by (repeat' apply And.intro) <;> first | trivial | rfl | assumption | omega | exact mT rfl | exact mT (by assumption) | exact mM rfl | exact mM (by assumption) | exact mI (by assumption) | exact mS (by assumption) | exact mU (by assumption) | (simp; done) | (simp [Mn.f0, Mn.f1, Mn.f2, Mn.f3, Mn.f4, Tn.f0]; done) | (simp [*]; done) | (simp [relT, eT_eq, eM_eq, PV.cells, Tn.f0, Mn.f4, *]; done) | (simp; omega)) rfl
theorem copy2 (G : Nat → Option PV) : ∀ (n : Nat) (l : List Tn), dp n l = true → PF Tryd.prog G 27 [pt l] (.p (pt l)) := by
  intro n
  induction n with
  | zero => intro l h; simp [dp] at h
  | succ n ih =>
    intro l h
    refine ⟨(by first | exact .p | exact .tp (fun x hx => by simp at hx; rcases hx with rfl | rfl <;> exact .p) | exact .tp (fun x hx => by simp at hx; rcases hx with rfl | rfl | rfl <;> exact .p)), bdy Tryd.func27 (fun _ => 0) rfl ?_⟩
    refine rn T 99 [] ?_
    refine rn T 99 [] ?_
    rcases shp l with rfl | ⟨⟨a⟩, ⟨b⟩, rfl⟩ | ⟨h0, h2⟩
    · refine ctq rfl (rfl) ?_
      refine rn T 99 [] ?_
      exact ret1 T rfl (by (repeat' apply And.intro) <;> first | trivial | rfl | assumption | omega | exact mT rfl | exact mT (by assumption) | exact mM rfl | exact mM (by assumption) | exact mI (by assumption) | exact mS (by assumption) | exact mU (by assumption) | (simp; done) | (simp [Mn.f0, Mn.f1, Mn.f2, Mn.f3, Mn.f4, Tn.f0]; done) | (simp [*]; done) | (simp [relT, eT_eq, eM_eq, PV.cells, Tn.f0, Mn.f4, *]; done) | (simp; omega)) rfl
    · rw [dp_two, Bool.and_eq_true] at h
      refine cfq rfl (rfl) ?_; try (first | refine dr3 ?_ | refine dr4 ?_)
      refine rn T 99 [pt a, pt b] ?_
      refine pcs (pair_of G a b (ih a h.1) (ih b h.2)) ?_
      refine rn T 99 [] ?_
      exact ret1 T rfl (by (repeat' apply And.intro) <;> first | trivial | rfl | assumption | omega | exact mT rfl | exact mT (by assumption) | exact mM rfl | exact mM (by assumption) | exact mI (by assumption) | exact mS (by assumption) | exact mU (by assumption) | (simp; done) | (simp [Mn.f0, Mn.f1, Mn.f2, Mn.f3, Mn.f4, Tn.f0]; done) | (simp [*]; done) | (simp [relT, eT_eq, eM_eq, PV.cells, Tn.f0, Mn.f4, *]; done) | (simp; omega)) rfl
    · rw [dp_odd _ _ h0 h2] at h; cases h
theorem pair2 (G : Nat → Option PV) (n : Nat) (a b : List Tn) (ha : dp n a = true) (hb : dp n b = true) : PF Tryd.prog G 43 [pt a, pt b] (.p (pt [⟨a⟩, ⟨b⟩])) := pair_of G a b (copy2 G n a ha) (copy2 G n b hb)
theorem take_eT {l : List Tn} {i : Nat} {x : Tn} (h : l[i]? = some x) : (l.take i).map eT ++ [pt x.f0] = (l.take (i + 1)).map eT := by
  rw [List.take_add_one, h, List.map_append]
  simp [eT_eq]
theorem copy1 (G : Nat → Option PV) : ∀ (n : Nat) (l : List Tn), dp n l = true → PF Tryd.prog G 20 [pt l] (.p (pt l)) := by
  intro n
  induction n with
  | zero => intro l h; simp [dp] at h
  | succ n ih =>
    intro l h
    have hl := dp_len _ _ h
    refine ⟨(by first | exact .p | exact .tp (fun x hx => by simp at hx; rcases hx with rfl | rfl <;> exact .p) | exact .tp (fun x hx => by simp at hx; rcases hx with rfl | rfl | rfl <;> exact .p)), bdy Tryd.func20 (fun d => if d = 22 then 1 else 0) rfl ?_⟩
    refine rn T 99 [] ?_
    refine rn T 99 [] ?_
    refine rn T 99 [] ?_
    refine lpw (fun i : Nat => (match i with | 0 => MS.mk [(4, .p (pi 0)), (1, .ptr (.L 1) 0), (3, .ptr (.L 3) 0), (2, .ptr (.L 2) 0)] 25 [(3, .box 32 [.nil]), (1, .box 32 [.p (.row 1 (l.map eT))]), (2, .box 32 [.nil])] [] | j + 1 => MS.mk [(4, .p (pi (j + 1 : Nat))), (1, .ptr (.L 1) 0), (3, .ptr (.L 3) 0), (2, .ptr (.L 2) 0)] 25 [(3, .box 32 [.vw (.S 0) (j + 1)]), (1, .box 32 [.p (.row 1 (l.map eT))]), (2, .box 32 [.nil])] [.rw 1 32 ((l.take (j + 1)).map eT)])) (fun m i => m + i = l.length) (l.length) (0) (by simp) ?_
    intro m i h1
    cases i with
    | zero =>
      refine op ?_
      refine rn T 99 [] ?_
      by_cases hi : 0 < l.length
      · obtain ⟨x, hx, hd⟩ := drop_ix hi
        refine ctq rfl (by simp [hi]) ?_; try (first | refine dr3 ?_ | refine dr4 ?_)
        refine rn T 99 [pt x.f0] ?_
        refine pcs (ih x.f0 (dp_mem n l h hx)) ?_
        refine rn T 99 [] ?_
        refine rn T 99 [] ?_
        have ht : [pt x.f0] = (l.take (0 + 1)).map eT := take_eT hx
        refine nxt (m - 1) (1) (by omega)
      · refine cfq rfl (by simp [hi]) ?_
        refine rn T 99 [] ?_
        obtain rfl := List.eq_nil_of_length_eq_zero (show l.length = 0 by omega)
        exact ret1 T rfl (by (repeat' apply And.intro) <;> first | trivial | rfl | assumption | omega | exact mT rfl | exact mT (by assumption) | exact mM rfl | exact mM (by assumption) | exact mI (by assumption) | exact mS (by assumption) | exact mU (by assumption) | (simp; done) | (simp [Mn.f0, Mn.f1, Mn.f2, Mn.f3, Mn.f4, Tn.f0]; done) | (simp [*]; done) | (simp [relT, eT_eq, eM_eq, PV.cells, Tn.f0, Mn.f4, *]; done) | (simp; omega)) rfl
    | succ i =>
      have hq : ((l.take (i + 1)).map eT).length = i + 1 := by simp; omega
      refine op ?_
      refine rn T 99 [] ?_
      by_cases hi : i + 1 < l.length
      · obtain ⟨x, hx, hd⟩ := drop_ix hi
        refine ctq rfl (by simp; omega) ?_; try (first | refine dr3 ?_ | refine dr4 ?_)
        refine rn T 99 [pt x.f0] ?_
        refine pcs (ih x.f0 (dp_mem n l h hx)) ?_
        refine rn T 99 [] ?_
        refine rn T 99 [] ?_
        rw [hq, wkS (by omega)]
        have ht := take_eT hx
        refine nxt (m - 1) (i + 1 + 1) (by omega)
      · refine cfq rfl (by simp; omega) ?_
        refine rn T 99 [] ?_
        have ht : l.take (i + 1) = l := List.take_of_length_le (by omega)
        exact ret1 T rfl (by (repeat' apply And.intro) <;> first | trivial | rfl | assumption | omega | exact mT rfl | exact mT (by assumption) | exact mM rfl | exact mM (by assumption) | exact mI (by assumption) | exact mS (by assumption) | exact mU (by assumption) | (simp; done) | (simp [Mn.f0, Mn.f1, Mn.f2, Mn.f3, Mn.f4, Tn.f0]; done) | (simp [*]; done) | (simp [relT, eT_eq, eM_eq, PV.cells, Tn.f0, Mn.f4, *]; done) | (simp; omega)) rfl
end Go.Proofs.YtlcmokgnmlklnaaDoor.K
end
section
namespace Go.Proofs.YtlcmokgnmlklnaaDoor.K
open Go Go.RowKit Go.Proofs.YtlcmokgnmlklnaaDoor.En Go.Proofs.YtlcmokgnmlklnaaDoor.Ty Go.Proofs.YtlcmokgnmlklnaaDoor.B
set_option maxRecDepth 100000
set_option linter.unusedSimpArgs false
set_option linter.unusedVariables false
set_option pp.deepTerms false
set_option pp.deepTerms.threshold 8
set_option pp.maxSteps 1000
theorem parts (G : Nat → Option PV) (l : List Tn) : PF Tryd.prog G 83 [pt l] (.p (.row 1 (l.map eT))) := by
  refine ⟨(by first | exact .p | exact .tp (fun x hx => by simp at hx; rcases hx with rfl | rfl <;> exact .p) | exact .tp (fun x hx => by simp at hx; rcases hx with rfl | rfl | rfl <;> exact .p)), bdy Tryd.func83 (fun _ => 0) rfl ?_⟩; try (first | refine dr3 ?_ | refine dr4 ?_)
  refine rn T 99 [] ?_; try (first | refine dr3 ?_ | refine dr4 ?_)
  refine rn T 99 [] ?_; try (first | refine dr3 ?_ | refine dr4 ?_)
  exact ret1 T rfl (by (repeat' apply And.intro) <;> first | trivial | rfl | assumption | omega | exact mT rfl | exact mT (by assumption) | exact mM rfl | exact mM (by assumption) | exact mI (by assumption) | exact mS (by assumption) | exact mU (by assumption) | (simp; done) | (simp [Mn.f0, Mn.f1, Mn.f2, Mn.f3, Mn.f4, Tn.f0]; done) | (simp [*]; done) | (simp [relT, eT_eq, eM_eq, PV.cells, Tn.f0, Mn.f4, *]; done) | (simp; omega)) rfl
theorem partAt (G : Nat → Option PV) (t : List Tn) (p : List Int) (hp : p.length ≤ 1000) : PF Tryd.prog G 41 [pt t, .row 1 (p.map pi)] (.tp [.p (pt (at_ (pf p t)).1), .p (pb (at_ (pf p t)).2)]) := by
  refine ⟨(by first | exact .p | exact .tp (fun x hx => by simp at hx; rcases hx with rfl | rfl <;> exact .p) | exact .tp (fun x hx => by simp at hx; rcases hx with rfl | rfl | rfl <;> exact .p)), bdy Tryd.func41 (fun _ => 0) rfl ?_⟩; try (first | refine dr3 ?_ | refine dr4 ?_)
  refine rn T 99 [] ?_; try (first | refine dr3 ?_ | refine dr4 ?_)
  refine rn T 99 [] ?_; try (first | refine dr3 ?_ | refine dr4 ?_)
  refine lpw (fun x : Nat × List Tn => MS.mk [(12, .p (pi x.1)), (11, .p (pi (p.map pi).length)), (10, .p (.row 1 (p.map pi))), (2, .ptr (.L 2) 0), (4, .ptr (.L 4) 0), (5, .p (pb false))] 37 [(2, .box 32 [.p (.row 1 (x.2.map eT))]), (4, .box 32 [.nil])] []) (fun m x => m + x.1 = p.length ∧ pf (p.drop x.1) x.2 = pf p t) (p.length) ((0, t)) (by simp) ?_
  intro m ⟨i, u⟩ ⟨h1, h2⟩
  simp only at h1 h2
  refine op ?_; try (first | refine dr3 ?_ | refine dr4 ?_)
  refine rn T 99 [] ?_; try (first | refine dr3 ?_ | refine dr4 ?_)
  by_cases hi : i < p.length
  · obtain ⟨x, hx, hd⟩ := drop_ix hi
    rw [hd] at h2
    refine ctq rfl (by simp [hi]) ?_; try (first | refine dr3 ?_ | refine dr4 ?_)
    refine rn T 99 [pi x] ?_; try (first | refine dr3 ?_ | refine dr4 ?_)
    refine rn T 99 [] ?_; try (first | refine dr3 ?_ | refine dr4 ?_)
    refine ivs (parts G u) ?_; try (first | refine dr3 ?_ | refine dr4 ?_)
    refine rn T 99 [] ?_; try (first | refine dr3 ?_ | refine dr4 ?_)
    by_cases hu : u.length = 2
    · obtain ⟨a, b, rfl⟩ := two_of hu
      rw [pf_two] at h2
      by_cases h0 : x = 0
      · subst h0
        rw [if_pos rfl] at h2
        refine rn T 99 [] ?_; try (first | refine dr3 ?_ | refine dr4 ?_)
        refine cfs ?_; try (first | refine dr3 ?_ | refine dr4 ?_)
        refine rn T 99 [pt a.f0] ?_; try (first | refine dr3 ?_ | refine dr4 ?_)
        refine rn T 99 [] ?_; try (first | refine dr3 ?_ | refine dr4 ?_)
        rw [wkS (by omega)]
        refine nxt (m - 1) ((i + 1, a.f0)) (⟨by simp only; omega, h2⟩)
      · rw [if_neg h0] at h2
        by_cases h3 : x = 1
        · subst h3
          rw [if_pos rfl] at h2
          refine rn T 99 [] ?_; try (first | refine dr3 ?_ | refine dr4 ?_)
          refine cfs ?_; try (first | refine dr3 ?_ | refine dr4 ?_)
          refine rn T 99 [pt b.f0] ?_; try (first | refine dr3 ?_ | refine dr4 ?_)
          refine rn T 99 [] ?_; try (first | refine dr3 ?_ | refine dr4 ?_)
          rw [wkS (by omega)]
          refine nxt (m - 1) ((i + 1, b.f0)) (⟨by simp only; omega, h2⟩)
        · rw [if_neg h3] at h2
          rw [← h2]
          refine rn T 6 [] ?_; try (first | refine dr3 ?_ | refine dr4 ?_)
          cases hn : decide (x < 0) with
          | true =>
            refine rn T 99 [] ?_; try (first | refine dr3 ?_ | refine dr4 ?_)
            refine cts ?_; try (first | refine dr3 ?_ | refine dr4 ?_)
            refine rn T 99 [] ?_; try (first | refine dr3 ?_ | refine dr4 ?_)
            refine rn T 99 [] ?_; try (first | refine dr3 ?_ | refine dr4 ?_)
            exact ret2 T rfl (by (repeat' apply And.intro) <;> first | trivial | rfl | assumption | omega | exact mT rfl | exact mT (by assumption) | exact mM rfl | exact mM (by assumption) | exact mI (by assumption) | exact mS (by assumption) | exact mU (by assumption) | (simp; done) | (simp [Mn.f0, Mn.f1, Mn.f2, Mn.f3, Mn.f4, Tn.f0]; done) | (simp [*]; done) | (simp [relT, eT_eq, eM_eq, PV.cells, Tn.f0, Mn.f4, *]; done) | (simp; omega)) rfl
          | false =>
            refine rn T 5 [] ?_; try (first | refine dr3 ?_ | refine dr4 ?_)
            rw [show decide (x > 1) = true by simp at hn ⊢; omega]
            refine cts ?_; try (first | refine dr3 ?_ | refine dr4 ?_)
            refine rn T 99 [] ?_; try (first | refine dr3 ?_ | refine dr4 ?_)
            refine rn T 99 [] ?_; try (first | refine dr3 ?_ | refine dr4 ?_)
            exact ret2 T rfl (by (repeat' apply And.intro) <;> first | trivial | rfl | assumption | omega | exact mT rfl | exact mT (by assumption) | exact mM rfl | exact mM (by assumption) | exact mI (by assumption) | exact mS (by assumption) | exact mU (by assumption) | (simp; done) | (simp [Mn.f0, Mn.f1, Mn.f2, Mn.f3, Mn.f4, Tn.f0]; done) | (simp [*]; done) | (simp [relT, eT_eq, eM_eq, PV.cells, Tn.f0, Mn.f4, *]; done) | (simp; omega)) rfl
    · rw [pf_odd _ _ _ hu] at h2
      rw [← h2]
      refine rn T 3 [] ?_; try (first | refine dr3 ?_ | refine dr4 ?_)
      rw [show ((((u.map eT).length : Nat) : Int) != 2) = true by simp; omega]
      refine rn T 99 [] ?_; try (first | refine dr3 ?_ | refine dr4 ?_)
      refine cts ?_; try (first | refine dr3 ?_ | refine dr4 ?_)
      refine rn T 99 [] ?_; try (first | refine dr3 ?_ | refine dr4 ?_)
      refine rn T 99 [] ?_; try (first | refine dr3 ?_ | refine dr4 ?_)
      exact ret2 T rfl (by (repeat' apply And.intro) <;> first | trivial | rfl | assumption | omega | exact mT rfl | exact mT (by assumption) | exact mM rfl | exact mM (by assumption) | exact mI (by assumption) | exact mS (by assumption) | exact mU (by assumption) | (simp; done) | (simp [Mn.f0, Mn.f1, Mn.f2, Mn.f3, Mn.f4, Tn.f0]; done) | (simp [*]; done) | (simp [relT, eT_eq, eM_eq, PV.cells, Tn.f0, Mn.f4, *]; done) | (simp; omega)) rfl
  · refine cfq rfl (by simp [hi]) ?_; try (first | refine dr3 ?_ | refine dr4 ?_)
    refine rn T 99 [] ?_; try (first | refine dr3 ?_ | refine dr4 ?_)
    rw [List.drop_eq_nil_of_le (by omega), pf_nil] at h2
    rw [← h2]
    exact ret2 T rfl (by (repeat' apply And.intro) <;> first | trivial | rfl | assumption | omega | exact mT rfl | exact mT (by assumption) | exact mM rfl | exact mM (by assumption) | exact mI (by assumption) | exact mS (by assumption) | exact mU (by assumption) | (simp; done) | (simp [Mn.f0, Mn.f1, Mn.f2, Mn.f3, Mn.f4, Tn.f0]; done) | (simp [*]; done) | (simp [relT, eT_eq, eM_eq, PV.cells, Tn.f0, Mn.f4, *]; done) | (simp; omega)) rfl
end Go.Proofs.YtlcmokgnmlklnaaDoor.K
end
section
namespace Go.Proofs.YtlcmokgnmlklnaaDoor.K
open Go Go.RowKit Go.Proofs.YtlcmokgnmlklnaaDoor.En Go.Proofs.YtlcmokgnmlklnaaDoor.Ty Go.Proofs.YtlcmokgnmlklnaaDoor.B
set_option maxRecDepth 100000
set_option linter.unusedSimpArgs false
set_option linter.unusedVariables false
set_option pp.deepTerms false
set_option pp.deepTerms.threshold 8
set_option pp.maxSteps 1000
theorem typeAt1 (G : Nat → Option PV) (t : List Tn) (p : List Int) (hp : p.length ≤ 1000) : PF Tryd.prog G 34 [pt t, .row 1 (p.map pi)] (.tp [.p (pt (tat t p).1), .p (pb (tat t p).2)]) := by
  refine ⟨(by first | exact .p | exact .tp (fun x hx => by simp at hx; rcases hx with rfl | rfl <;> exact .p) | exact .tp (fun x hx => by simp at hx; rcases hx with rfl | rfl | rfl <;> exact .p)), bdy Tryd.func34 (fun _ => 0) rfl ?_⟩
  refine rn T 99 [] ?_
  refine rn T 99 [] ?_
  have hc := ok1 G t
  unfold tat
  revert hc
  cases hdp : dp 4 t with
  | false =>
    intro hc
    refine pcs (hc) ?_
    refine rn T 99 [] ?_
    refine cts ?_
    refine rn T 99 [] ?_
    exact ret2 T rfl (by (repeat' apply And.intro) <;> first | trivial | rfl | assumption | omega | exact mT rfl | exact mT (by assumption) | exact mM rfl | exact mM (by assumption) | exact mI (by assumption) | exact mS (by assumption) | exact mU (by assumption) | (simp; done) | (simp [Mn.f0, Mn.f1, Mn.f2, Mn.f3, Mn.f4, Tn.f0]; done) | (simp [*]; done) | (simp [relT, eT_eq, eM_eq, PV.cells, Tn.f0, Mn.f4, *]; done) | (simp; omega)) rfl
  | true =>
    intro hc
    refine pcs (hc) ?_
    refine rn T 99 [] ?_
    refine cfs ?_
    refine rn T 99 [] ?_
    rw [if_pos rfl]
    refine lpw (fun x : Nat × List Tn => MS.mk [(6, .p (pi x.1)), (1, .p (.row 1 (p.map pi))), (2, .ptr (.L 2) 0), (4, .ptr (.L 4) 0)] 38 [(2, .box 32 [.p (.row 1 (x.2.map eT))]), (4, .box 32 [.nil])] []) (fun m x => m + x.1 = p.length ∧ pf (p.drop x.1) x.2 = pf p t ∧ dp 4 x.2 = true) (p.length) ((0, t)) (by simp [hdp]) ?_
    intro m ⟨i, u⟩ ⟨h1, h2, h3⟩
    simp only at h1 h2 h3
    refine op ?_
    refine rn T 99 [] ?_
    by_cases hi : i < p.length
    · obtain ⟨x, hx, hd⟩ := drop_ix hi
      rw [hd] at h2
      refine ctq rfl (by simp [hi]) ?_; try (first | refine dr3 ?_ | refine dr4 ?_)
      refine rn T 99 [pi x] ?_
      by_cases hu : u.length = 2
      · obtain ⟨a, b, rfl⟩ := two_of hu
        rw [dp_two, Bool.and_eq_true] at h3
        rw [pf_two] at h2
        have hl := l6In G x 0 1
        by_cases h0 : x = 0
        · subst h0
          rw [if_pos rfl] at h2
          refine pcs (hl) ?_
          refine rn T 99 [] ?_
          refine cfs ?_; try (first | refine dr3 ?_ | refine dr4 ?_)
          refine rn T 99 [pi 0, pt a.f0] ?_
          refine rn T 99 [] ?_
          rw [wkS (by omega)]
          refine nxt (m - 1) ((i + 1, a.f0)) (⟨by simp only; omega, h2, dp_succ _ _ h3.1⟩)
        · rw [if_neg h0] at h2
          by_cases h4 : x = 1
          · subst h4
            rw [if_pos rfl] at h2
            refine pcs (hl) ?_
            refine rn T 99 [] ?_
            refine cfs ?_; try (first | refine dr3 ?_ | refine dr4 ?_)
            refine rn T 99 [pi 1, pt b.f0] ?_
            refine rn T 99 [] ?_
            rw [wkS (by omega)]
            refine nxt (m - 1) ((i + 1, b.f0)) (⟨by simp only; omega, h2, dp_succ _ _ h3.2⟩)
          · rw [if_neg h4] at h2
            rw [← h2]
            rw [show (decide (x ≥ 0) && decide (x ≤ 1)) = false by simp; omega] at hl
            refine pcs (hl) ?_
            refine rn T 99 [] ?_
            refine cts ?_
            refine rn T 99 [] ?_
            exact ret2 T rfl (by (repeat' apply And.intro) <;> first | trivial | rfl | assumption | omega | exact mT rfl | exact mT (by assumption) | exact mM rfl | exact mM (by assumption) | exact mI (by assumption) | exact mS (by assumption) | exact mU (by assumption) | (simp; done) | (simp [Mn.f0, Mn.f1, Mn.f2, Mn.f3, Mn.f4, Tn.f0]; done) | (simp [*]; done) | (simp [relT, eT_eq, eM_eq, PV.cells, Tn.f0, Mn.f4, *]; done) | (simp; omega)) rfl
      · rw [pf_odd _ _ _ hu] at h2
        rw [← h2]
        rcases shp u with rfl | ⟨a, b, rfl⟩ | ⟨h5, h6⟩
        · have hl := l6In G x 0 (-1)
          rw [show (decide (x ≥ 0) && decide (x ≤ -1)) = false by simp; omega] at hl
          refine pcs (hl) ?_
          refine rn T 99 [] ?_
          refine cts ?_
          refine rn T 99 [] ?_
          exact ret2 T rfl (by (repeat' apply And.intro) <;> first | trivial | rfl | assumption | omega | exact mT rfl | exact mT (by assumption) | exact mM rfl | exact mM (by assumption) | exact mI (by assumption) | exact mS (by assumption) | exact mU (by assumption) | (simp; done) | (simp [Mn.f0, Mn.f1, Mn.f2, Mn.f3, Mn.f4, Tn.f0]; done) | (simp [*]; done) | (simp [relT, eT_eq, eM_eq, PV.cells, Tn.f0, Mn.f4, *]; done) | (simp; omega)) rfl
        · simp at hu
        · rw [dp_odd _ _ h5 h6] at h3; cases h3
    · refine cfq rfl (by simp [hi]) ?_
      refine rn T 99 [] ?_
      rw [List.drop_eq_nil_of_le (by omega), pf_nil] at h2
      rw [← h2]
      refine pcs (copy1 G 4 u h3) ?_
      refine rn T 99 [] ?_
      exact ret2 T rfl (by (repeat' apply And.intro) <;> first | trivial | rfl | assumption | omega | exact mT rfl | exact mT (by assumption) | exact mM rfl | exact mM (by assumption) | exact mI (by assumption) | exact mS (by assumption) | exact mU (by assumption) | (simp; done) | (simp [Mn.f0, Mn.f1, Mn.f2, Mn.f3, Mn.f4, Tn.f0]; done) | (simp [*]; done) | (simp [relT, eT_eq, eM_eq, PV.cells, Tn.f0, Mn.f4, *]; done) | (simp; omega)) rfl
end Go.Proofs.YtlcmokgnmlklnaaDoor.K
end
section
namespace Go.Proofs.YtlcmokgnmlklnaaDoor.K
open Go Go.RowKit Go.Proofs.YtlcmokgnmlklnaaDoor.En Go.Proofs.YtlcmokgnmlklnaaDoor.Ty Go.Proofs.YtlcmokgnmlklnaaDoor.B
set_option maxRecDepth 100000
set_option linter.unusedSimpArgs false
set_option linter.unusedVariables false
set_option pp.deepTerms false
set_option pp.deepTerms.threshold 8
set_option pp.maxSteps 1000
def chB (c : Nat) : Bool := decide ((97 ≤ c ∧ c ≤ 122) ∨ (65 ≤ c ∧ c ≤ 90) ∨ (48 ≤ c ∧ c ≤ 57) ∨ c = 95)
def chs (l : List UInt8) : Bool := l.all (fun b => chB b.toNat)
def pw (s : ByteArray) : Bool := decide (1 ≤ s.size) && decide (s.size ≤ 12) && chs s.data.toList
theorem byte_ix {s : ByteArray} {i : Nat} (h : i < s.size) : ∃ b, s.data.getD i 0 = b ∧ s.data.toList.drop i = b :: s.data.toList.drop (i + 1) := by
  refine ⟨s.data.getD i 0, rfl, ?_⟩
  have h' : i < s.data.toList.length := by simpa using h
  rw [List.drop_eq_getElem_cons h']
  congr 1
  have h2 : i < s.data.size := h
  simp only [Array.getD, h2, dif_pos, Array.getElem_toList]
  rfl
theorem word1 (G : Nat → Option PV) (s : ByteArray) : PF Tryd.prog G 16 [ps s] (.p (pb (pw s))) := by
  refine ⟨(by first | exact .p | exact .tp (fun x hx => by simp at hx; rcases hx with rfl | rfl <;> exact .p) | exact .tp (fun x hx => by simp at hx; rcases hx with rfl | rfl | rfl <;> exact .p)), bdy Tryd.func16 (fun _ => 0) rfl ?_⟩
  refine rn T 99 [] ?_
  unfold pw
  by_cases h1 : 1 ≤ s.size
  · by_cases h2 : s.size ≤ 12
    · rw [decide_eq_true h1, decide_eq_true h2, Bool.true_and, Bool.true_and]
      refine rn T 3 [] ?_
      rw [show decide ((s.size : Int) < 1) = false by simp; omega]
      refine rn T 99 [] ?_
      refine cfq rfl (by simp; omega) ?_
      refine rn T 99 [] ?_
      refine lpw (fun i : Nat => MS.mk [(3, .p (pi i)), (0, .p (ps s))] 48 [] []) (fun m i => m + i = s.size ∧ chs (s.data.toList.drop i) = chs s.data.toList) (s.size) (0) (by simp) ?_
      intro m i ⟨h3, h4⟩
      refine op ?_
      refine rn T 99 [] ?_
      by_cases hi : i < s.size
      · obtain ⟨b, hb, hd⟩ := byte_ix hi
        rw [hd, chs, List.all_cons] at h4
        refine ctq rfl (by simp [hi]) ?_
        refine rn T 99 [] ?_
        show EOps _ _ _ _ _ (MS.st _ _ (MS.mk ((4, .p (.c (.int .u8 ((s.data.getD i 0).toNat : Int)))) :: _) _ _ _)) _
        rw [hb]
        obtain ⟨c, hcc⟩ : ∃ c : Int, (b.toNat : Int) = c := ⟨_, rfl⟩
        rw [hcc]
        by_cases hc : chB b.toNat = true
        · have hc2 : (97 ≤ b.toNat ∧ b.toNat ≤ 122) ∨ (65 ≤ b.toNat ∧ b.toNat ≤ 90) ∨ (48 ≤ b.toNat ∧ b.toNat ≤ 57) ∨ b.toNat = 95 := of_decide_eq_true hc
          repeat' (first | (with_reducible refine n16 ?_) | (with_reducible refine EOps.ci ?_; first | refine EOps.one T [] rfl (by first | exact True.intro | exact ⟨True.intro, True.intro⟩) ?_ | (refine EOps.sp rfl ?_ ?_ <;> intro hc_ <;> rw [hc_] <;> first | replace hc_ := of_decide_eq_true hc_ | replace hc_ := of_decide_eq_false hc_ | replace hc_ := of_decide_eq_false (Eq.mp (Bool.not_eq_true' _) hc_) | replace hc_ := of_decide_eq_true (Eq.mp (Bool.not_eq_false' _) hc_) | skip)))
          all_goals (refine cfq rfl (by first | rfl | (exfalso; omega) | (simp; omega)) ?_)
          all_goals (refine rn T 99 [] ?_)
          all_goals (rw [wkS (by omega)])
          all_goals (refine nxt (m - 1) (i + 1) (⟨by omega, by rw [← h4, hc]; rfl⟩))
        · have hc' : chB b.toNat = false := by simpa using hc
          have hc2 : ¬ ((97 ≤ b.toNat ∧ b.toNat ≤ 122) ∨ (65 ≤ b.toNat ∧ b.toNat ≤ 90) ∨ (48 ≤ b.toNat ∧ b.toNat ≤ 57) ∨ b.toNat = 95) := of_decide_eq_false hc'
          rw [← h4, hc', Bool.false_and]
          repeat' (first | (with_reducible refine n16 ?_) | (with_reducible refine EOps.ci ?_; first | refine EOps.one T [] rfl (by first | exact True.intro | exact ⟨True.intro, True.intro⟩) ?_ | (refine EOps.sp rfl ?_ ?_ <;> intro hc_ <;> rw [hc_] <;> first | replace hc_ := of_decide_eq_true hc_ | replace hc_ := of_decide_eq_false hc_ | replace hc_ := of_decide_eq_false (Eq.mp (Bool.not_eq_true' _) hc_) | replace hc_ := of_decide_eq_true (Eq.mp (Bool.not_eq_false' _) hc_) | skip)))
          all_goals (refine ctq rfl (by first | rfl | (exfalso; omega) | (simp; omega)) ?_)
          all_goals (refine rn T 99 [] ?_)
          all_goals (exact ⟨[_], ⟨_, _, rfl, .inl rfl, rfl⟩, .p, rfl⟩)
      · refine cfq rfl (by simp [hi]) ?_
        refine rn T 99 [] ?_
        rw [← h4, List.drop_eq_nil_of_le (by simp; omega)]
        exact ⟨[_], ⟨_, _, rfl, .inl rfl, rfl⟩, .p, rfl⟩
    · rw [decide_eq_false h2, Bool.and_false, Bool.false_and]
      refine rn T 3 [] ?_
      rw [show decide ((s.size : Int) < 1) = false by simp; omega]
      refine rn T 99 [] ?_
      refine ctq rfl (by simp; omega) ?_
      refine rn T 99 [] ?_
      exact ⟨[_], ⟨_, _, rfl, .inl rfl, rfl⟩, .p, rfl⟩
  · rw [decide_eq_false h1, Bool.false_and, Bool.false_and]
    refine rn T 3 [] ?_
    rw [show decide ((s.size : Int) < 1) = true by simp; omega]
    refine rn T 99 [] ?_
    refine cts ?_
    refine rn T 99 [] ?_
    exact ⟨[_], ⟨_, _, rfl, .inl rfl, rfl⟩, .p, rfl⟩
end Go.Proofs.YtlcmokgnmlklnaaDoor.K
end
section
namespace Go.Proofs.YtlcmokgnmlklnaaDoor.K
open Go Go.RowKit Go.Proofs.YtlcmokgnmlklnaaDoor.En Go.Proofs.YtlcmokgnmlklnaaDoor.Ty Go.Proofs.YtlcmokgnmlklnaaDoor.B
set_option maxRecDepth 100000
set_option linter.unusedSimpArgs false
set_option linter.unusedVariables false
set_option pp.deepTerms false
set_option pp.deepTerms.threshold 8
set_option pp.maxSteps 1000
theorem word2 (G : Nat → Option PV) (s : ByteArray) : PF Tryd.prog G 36 [ps s] (.p (pb (pw s))) := by
  refine ⟨(by first | exact .p | exact .tp (fun x hx => by simp at hx; rcases hx with rfl | rfl <;> exact .p) | exact .tp (fun x hx => by simp at hx; rcases hx with rfl | rfl | rfl <;> exact .p)), bdy Tryd.func36 (fun _ => 0) rfl ?_⟩
  refine rn T 99 [] ?_
  unfold pw
  by_cases h1 : 1 ≤ s.size
  · by_cases h2 : s.size ≤ 12
    · rw [decide_eq_true h1, decide_eq_true h2, Bool.true_and, Bool.true_and]
      refine rn T 3 [] ?_
      rw [show decide ((s.size : Int) < 1) = false by simp; omega]
      refine rn T 99 [] ?_
      refine cfq rfl (by simp; omega) ?_
      refine rn T 99 [] ?_
      refine lpw (fun i : Nat => MS.mk [(16, .p (pi i)), (15, .p (pi s.size)), (0, .p (ps s))] 51 [] []) (fun m i => m + i = s.size ∧ chs (s.data.toList.drop i) = chs s.data.toList) (s.size) (0) (by simp) ?_
      intro m i ⟨h3, h4⟩
      refine op ?_
      refine rn T 99 [] ?_
      by_cases hi : i < s.size
      · obtain ⟨b, hb, hd⟩ := byte_ix hi
        rw [hd, chs, List.all_cons] at h4
        refine ctq rfl (by simp [hi]) ?_
        refine rn T 99 [] ?_
        refine rn T 99 [] ?_
        show EOps _ _ _ _ _ (MS.st _ _ (MS.mk ((4, .p (.c (.int .u8 ((s.data.getD i 0).toNat : Int)))) :: _) _ _ _)) _
        rw [hb]
        obtain ⟨c, hcc⟩ : ∃ c : Int, (b.toNat : Int) = c := ⟨_, rfl⟩
        rw [hcc]
        by_cases hc : chB b.toNat = true
        · have hc2 : (97 ≤ b.toNat ∧ b.toNat ≤ 122) ∨ (65 ≤ b.toNat ∧ b.toNat ≤ 90) ∨ (48 ≤ b.toNat ∧ b.toNat ≤ 57) ∨ b.toNat = 95 := of_decide_eq_true hc
          repeat' (first | (with_reducible refine n16 ?_) | (with_reducible refine EOps.ci ?_; first | refine EOps.one T [] rfl (by first | exact True.intro | exact ⟨True.intro, True.intro⟩) ?_ | (refine EOps.sp rfl ?_ ?_ <;> intro hc_ <;> rw [hc_] <;> first | replace hc_ := of_decide_eq_true hc_ | replace hc_ := of_decide_eq_false hc_ | replace hc_ := of_decide_eq_false (Eq.mp (Bool.not_eq_true' _) hc_) | replace hc_ := of_decide_eq_true (Eq.mp (Bool.not_eq_false' _) hc_) | skip)))
          all_goals (refine op ?_)
          all_goals (repeat' (first | (with_reducible refine n16 ?_) | (with_reducible refine EOps.ci ?_; first | refine EOps.one T [] rfl (by first | exact True.intro | exact ⟨True.intro, True.intro⟩) ?_ | (refine EOps.sp rfl ?_ ?_ <;> intro hc_ <;> rw [hc_] <;> first | replace hc_ := of_decide_eq_true hc_ | replace hc_ := of_decide_eq_false hc_ | replace hc_ := of_decide_eq_false (Eq.mp (Bool.not_eq_true' _) hc_) | replace hc_ := of_decide_eq_true (Eq.mp (Bool.not_eq_false' _) hc_) | skip))))
          all_goals (refine cfq rfl (by first | rfl | (exfalso; omega) | (simp; omega)) ?_)
          all_goals (refine rn T 99 [] ?_)
          all_goals (rw [wkS (by omega)])
          all_goals (refine nxt (m - 1) (i + 1) (⟨by omega, by rw [← h4, hc]; rfl⟩))
        · have hc' : chB b.toNat = false := by simpa using hc
          have hc2 : ¬ ((97 ≤ b.toNat ∧ b.toNat ≤ 122) ∨ (65 ≤ b.toNat ∧ b.toNat ≤ 90) ∨ (48 ≤ b.toNat ∧ b.toNat ≤ 57) ∨ b.toNat = 95) := of_decide_eq_false hc'
          rw [← h4, hc', Bool.false_and]
          repeat' (first | (with_reducible refine n16 ?_) | (with_reducible refine EOps.ci ?_; first | refine EOps.one T [] rfl (by first | exact True.intro | exact ⟨True.intro, True.intro⟩) ?_ | (refine EOps.sp rfl ?_ ?_ <;> intro hc_ <;> rw [hc_] <;> first | replace hc_ := of_decide_eq_true hc_ | replace hc_ := of_decide_eq_false hc_ | replace hc_ := of_decide_eq_false (Eq.mp (Bool.not_eq_true' _) hc_) | replace hc_ := of_decide_eq_true (Eq.mp (Bool.not_eq_false' _) hc_) | skip)))
          all_goals (refine op ?_)
          all_goals (repeat' (first | (with_reducible refine n16 ?_) | (with_reducible refine EOps.ci ?_; first | refine EOps.one T [] rfl (by first | exact True.intro | exact ⟨True.intro, True.intro⟩) ?_ | (refine EOps.sp rfl ?_ ?_ <;> intro hc_ <;> rw [hc_] <;> first | replace hc_ := of_decide_eq_true hc_ | replace hc_ := of_decide_eq_false hc_ | replace hc_ := of_decide_eq_false (Eq.mp (Bool.not_eq_true' _) hc_) | replace hc_ := of_decide_eq_true (Eq.mp (Bool.not_eq_false' _) hc_) | skip))))
          all_goals (refine ctq rfl (by first | rfl | (exfalso; omega) | (simp; omega)) ?_)
          all_goals (refine rn T 99 [] ?_)
          all_goals (exact ⟨[_], ⟨_, _, rfl, .inl rfl, rfl⟩, .p, rfl⟩)
      · refine cfq rfl (by simp [hi]) ?_
        refine rn T 99 [] ?_
        rw [← h4, List.drop_eq_nil_of_le (by simp; omega)]
        exact ⟨[_], ⟨_, _, rfl, .inl rfl, rfl⟩, .p, rfl⟩
    · rw [decide_eq_false h2, Bool.and_false, Bool.false_and]
      refine rn T 3 [] ?_
      rw [show decide ((s.size : Int) < 1) = false by simp; omega]
      refine rn T 99 [] ?_
      refine ctq rfl (by simp; omega) ?_
      refine rn T 99 [] ?_
      exact ⟨[_], ⟨_, _, rfl, .inl rfl, rfl⟩, .p, rfl⟩
  · rw [decide_eq_false h1, Bool.false_and, Bool.false_and]
    refine rn T 3 [] ?_
    rw [show decide ((s.size : Int) < 1) = true by simp; omega]
    refine rn T 99 [] ?_
    refine cts ?_
    refine rn T 99 [] ?_
    exact ⟨[_], ⟨_, _, rfl, .inl rfl, rfl⟩, .p, rfl⟩
theorem bq_eq {a b : ByteArray} : (a == b) = true ↔ a = b := by
  rw [show (a == b) = (a.data == b.data) from rfl, beq_iff_eq]
  cases a; cases b; simp
theorem bq_symm (a b : ByteArray) : (a == b) = (b == a) := by
  rw [Bool.eq_iff_iff, bq_eq, bq_eq]
  exact ⟨Eq.symm, Eq.symm⟩
def ixF (v : ByteArray) : List ByteArray → Nat → Int
  | [], _ => -1
  | x :: r, i => if (v == x) = true then i else ixF v r (i + 1)
def hasS (l : List ByteArray) (v : ByteArray) : Bool := l.any (fun x => v == x)
theorem ixF_has (v : ByteArray) : ∀ (l : List ByteArray) (i : Nat), decide (ixF v l i ≥ 0) = hasS l v
  | [], i => rfl
  | x :: r, i => by
    unfold ixF hasS
    rw [List.any_cons]
    cases h : (v == x) with
    | true => simp
    | false => rw [if_neg (by simp), Bool.false_or]; exact ixF_has v r (i + 1)
theorem index2 (G : Nat → Option PV) (l : List ByteArray) (v : ByteArray) (hl : l.length ≤ 1000) : PF Tryd.prog G 51 [.row 1 (l.map ps), ps v] (.p (pi (ixF v l 0))) := by
  refine ⟨(by first | exact .p | exact .tp (fun x hx => by simp at hx; rcases hx with rfl | rfl <;> exact .p) | exact .tp (fun x hx => by simp at hx; rcases hx with rfl | rfl | rfl <;> exact .p)), bdy Tryd.func51 (fun _ => 0) rfl ?_⟩
  refine rn T 99 [] ?_
  refine rn T 99 [] ?_
  refine lpw (fun i : Nat => MS.mk [(8, .p (pi i)), (7, .p (pi (l.map ps).length)), (0, .p (.row 1 (l.map ps))), (1, .p (ps v))] 19 [] []) (fun m i => m + i = l.length ∧ ixF v (l.drop i) i = ixF v l 0) (l.length) (0) (by simp) ?_
  intro m i ⟨h1, h2⟩
  refine op ?_
  refine rn T 99 [] ?_
  by_cases hi : i < l.length
  · obtain ⟨x, hx, hd⟩ := drop_ix hi
    rw [hd, ixF] at h2
    refine ctq rfl (by simp [hi]) ?_
    refine rn T 99 [] ?_
    refine rn T 99 [ps x] ?_
    cases hv : (v == x) with
    | true =>
      rw [hv, if_pos rfl] at h2
      refine cts ?_
      refine rn T 99 [] ?_
      rw [← h2]
      exact ⟨[_], ⟨_, _, rfl, .inl rfl, rfl⟩, .p, rfl⟩
    | false =>
      rw [hv, if_neg (by simp)] at h2
      refine cfs ?_
      refine rn T 99 [] ?_
      rw [wkS (by omega)]
      refine nxt (m - 1) (i + 1) (⟨by omega, h2⟩)
  · refine cfq rfl (by simp [hi]) ?_
    refine rn T 99 [] ?_
    rw [List.drop_eq_nil_of_le (by omega)] at h2
    rw [← h2]
    exact ⟨[_], ⟨_, _, rfl, .inl rfl, rfl⟩, .p, rfl⟩
theorem contains2 (G : Nat → Option PV) (l : List ByteArray) (v : ByteArray) (hl : l.length ≤ 1000) : PF Tryd.prog G 37 [.row 1 (l.map ps), ps v] (.p (pb (hasS l v))) := by
  refine ⟨(by first | exact .p | exact .tp (fun x hx => by simp at hx; rcases hx with rfl | rfl <;> exact .p) | exact .tp (fun x hx => by simp at hx; rcases hx with rfl | rfl | rfl <;> exact .p)), bdy Tryd.func37 (fun _ => 0) rfl ?_⟩
  refine rn T 99 [] ?_
  refine rn T 99 [] ?_
  refine pcs (index2 G l v hl) ?_
  refine rn T 99 [] ?_
  rw [← ixF_has v l 0]
  exact ⟨[_], ⟨_, _, rfl, .inl rfl, rfl⟩, .p, rfl⟩
theorem has1 (G : Nat → Option PV) (l : List ByteArray) (v : ByteArray) (hl : l.length ≤ 1000) : PF Tryd.prog G 17 [.row 1 (l.map ps), ps v] (.p (pb (hasS l v))) := by
  refine ⟨(by first | exact .p | exact .tp (fun x hx => by simp at hx; rcases hx with rfl | rfl <;> exact .p) | exact .tp (fun x hx => by simp at hx; rcases hx with rfl | rfl | rfl <;> exact .p)), bdy Tryd.func17 (fun _ => 0) rfl ?_⟩
  refine rn T 99 [] ?_
  refine rn T 99 [] ?_
  refine lpw (fun i : Nat => MS.mk [(5, .p (pi i)), (0, .p (.row 1 (l.map ps))), (1, .p (ps v))] 18 [] []) (fun m i => m + i = l.length ∧ hasS (l.drop i) v = hasS l v) (l.length) (0) (by simp) ?_
  intro m i ⟨h1, h2⟩
  refine op ?_
  refine rn T 99 [] ?_
  by_cases hi : i < l.length
  · obtain ⟨x, hx, hd⟩ := drop_ix hi
    rw [hd, hasS, List.any_cons] at h2
    refine ctq rfl (by simp [hi]) ?_
    refine rn T 99 [ps x] ?_
    rw [bq_symm x v]
    cases hv : (v == x) with
    | true =>
      rw [hv, Bool.true_or] at h2
      refine cts ?_
      refine rn T 99 [] ?_
      rw [← h2]
      exact ⟨[_], ⟨_, _, rfl, .inl rfl, rfl⟩, .p, rfl⟩
    | false =>
      rw [hv, Bool.false_or] at h2
      refine cfs ?_
      refine rn T 99 [] ?_
      rw [wkS (by omega)]
      refine nxt (m - 1) (i + 1) (⟨by omega, h2⟩)
  · refine cfq rfl (by simp [hi]) ?_
    refine rn T 99 [] ?_
    rw [List.drop_eq_nil_of_le (by omega)] at h2
    rw [← h2]
    exact ⟨[_], ⟨_, _, rfl, .inl rfl, rfl⟩, .p, rfl⟩
end Go.Proofs.YtlcmokgnmlklnaaDoor.K
end
section
namespace Go.Proofs.YtlcmokgnmlklnaaDoor.K
open Go Go.RowKit Go.Proofs.YtlcmokgnmlklnaaDoor.En Go.Proofs.YtlcmokgnmlklnaaDoor.Ty Go.Proofs.YtlcmokgnmlklnaaDoor.B
set_option maxRecDepth 100000
set_option linter.unusedSimpArgs false
set_option linter.unusedVariables false
set_option pp.deepTerms false
set_option pp.deepTerms.threshold 8
set_option pp.maxSteps 1000
def nsF (pre : List ByteArray) : List ByteArray → Bool
  | [] => true
  | x :: r => (pw x && !hasS pre x) && nsF (pre ++ [x]) r
def nsB (l : List ByteArray) : Bool := decide (l.length ≤ 60) && nsF [] l
theorem take_app {α : Type} {l : List α} {i : Nat} {x : α} (h : l[i]? = some x) : l.take i ++ [x] = l.take (i + 1) := by
  rw [List.take_add_one, h]; rfl
theorem names2 (G : Nat → Option PV) (l : List ByteArray) : PF Tryd.prog G 21 [.row 1 (l.map ps)] (.p (pb (nsB l))) := by
  refine ⟨(by first | exact .p | exact .tp (fun x hx => by simp at hx; rcases hx with rfl | rfl <;> exact .p) | exact .tp (fun x hx => by simp at hx; rcases hx with rfl | rfl | rfl <;> exact .p)), bdy Tryd.func21 (fun _ => 0) rfl ?_⟩
  refine rn T 99 [] ?_
  refine rn T 99 [] ?_
  unfold nsB
  by_cases hl : l.length ≤ 60
  · rw [decide_eq_true hl, Bool.true_and]
    refine cfq rfl (by simp; omega) ?_
    refine rn T 99 [] ?_
    refine lpw (fun i : Nat => MS.mk [(10, .p (pi i)), (9, .p (pi (l.map ps).length)), (8, .p (.row 1 (l.map ps))), (0, .p (.row 1 (l.map ps)))] 26 [] []) (fun m i => m + i = l.length ∧ nsF (l.take i) (l.drop i) = nsF [] l) (l.length) (0) (by simp) ?_
    intro m i ⟨h1, h2⟩
    refine op ?_
    refine rn T 99 [] ?_
    by_cases hi : i < l.length
    · obtain ⟨x, hx, hd⟩ := drop_ix hi
      rw [hd, nsF] at h2
      refine ctq rfl (by simp [hi]) ?_
      refine rn T 99 [ps x] ?_
      have hw := word2 G x
      have hh := contains2 G (l.take i) x (by simp; omega)
      refine rn T 1 [] ?_
      revert hw hh h2
      cases pw x with
      | false =>
        intro h2 hw hh
        refine pcs (hw) ?_
        refine rn T 99 [] ?_
        refine cts ?_
        refine rn T 99 [] ?_
        rw [← h2]
        exact ⟨[_], ⟨_, _, rfl, .inl rfl, rfl⟩, .p, rfl⟩
      | true =>
        cases hasS (l.take i) x with
        | true =>
          intro h2 hw hh
          refine pcs (hw) ?_
          refine rn T 99 [] ?_
          refine pqs (hh) ?_
          refine rn T 99 [] ?_
          refine cts ?_
          refine rn T 99 [] ?_
          rw [← h2]
          exact ⟨[_], ⟨_, _, rfl, .inl rfl, rfl⟩, .p, rfl⟩
        | false =>
          intro h2 hw hh
          rw [take_app hx] at h2
          refine pcs (hw) ?_
          refine rn T 99 [] ?_
          refine pqs (hh) ?_
          refine rn T 99 [] ?_
          refine cfs ?_
          refine rn T 99 [] ?_
          rw [wkS (by omega)]
          refine nxt (m - 1) (i + 1) (⟨by omega, by simpa using h2⟩)
    · refine cfq rfl (by simp [hi]) ?_
      refine rn T 99 [] ?_
      rw [List.drop_eq_nil_of_le (by omega)] at h2
      rw [← h2]
      exact ⟨[_], ⟨_, _, rfl, .inl rfl, rfl⟩, .p, rfl⟩
  · rw [decide_eq_false hl, Bool.false_and]
    refine ctq rfl (by simp; omega) ?_
    refine rn T 99 [] ?_
    exact ⟨[_], ⟨_, _, rfl, .inl rfl, rfl⟩, .p, rfl⟩
def bitB (x : Int) : Bool := decide (0 ≤ x ∧ x ≤ 1)
def pathB (p : List Int) : Bool := decide (p.length ≤ 4) && p.all bitB
theorem path2 (G : Nat → Option PV) (p : List Int) : PF Tryd.prog G 39 [.row 1 (p.map pi)] (.p (pb (pathB p))) := by
  refine ⟨(by first | exact .p | exact .tp (fun x hx => by simp at hx; rcases hx with rfl | rfl <;> exact .p) | exact .tp (fun x hx => by simp at hx; rcases hx with rfl | rfl | rfl <;> exact .p)), bdy Tryd.func39 (fun _ => 0) rfl ?_⟩
  refine rn T 99 [] ?_
  refine rn T 99 [] ?_
  unfold pathB
  by_cases hl : p.length ≤ 4
  · rw [decide_eq_true hl, Bool.true_and]
    refine cfq rfl (by simp; omega) ?_
    refine rn T 99 [] ?_
    refine lpw (fun i : Nat => MS.mk [(10, .p (pi i)), (9, .p (pi (p.map pi).length)), (8, .p (.row 1 (p.map pi)))] 21 [] []) (fun m i => m + i = p.length ∧ (p.drop i).all bitB = p.all bitB) (p.length) (0) (by simp) ?_
    intro m i ⟨h1, h2⟩
    refine op ?_
    refine rn T 99 [] ?_
    by_cases hi : i < p.length
    · obtain ⟨x, hx, hd⟩ := drop_ix hi
      rw [hd, List.all_cons] at h2
      refine ctq rfl (by simp [hi]) ?_
      refine rn T 99 [pi x] ?_
      by_cases hb : 0 ≤ x ∧ x ≤ 1
      · rw [show bitB x = true from decide_eq_true hb, Bool.true_and] at h2
        repeat' (first | (with_reducible refine n16 ?_) | (with_reducible refine EOps.ci ?_; first | refine EOps.one T [] rfl (by first | exact True.intro | exact ⟨True.intro, True.intro⟩) ?_ | (refine EOps.sp rfl ?_ ?_ <;> intro hc_ <;> rw [hc_] <;> first | replace hc_ := of_decide_eq_true hc_ | replace hc_ := of_decide_eq_false hc_ | replace hc_ := of_decide_eq_false (Eq.mp (Bool.not_eq_true' _) hc_) | replace hc_ := of_decide_eq_true (Eq.mp (Bool.not_eq_false' _) hc_) | skip)))
        all_goals (refine cfq rfl (by first | rfl | (exfalso; omega) | (simp; omega)) ?_)
        all_goals (refine rn T 99 [] ?_)
        all_goals (rw [wkS (by omega)])
        all_goals (refine nxt (m - 1) (i + 1) (⟨by omega, h2⟩))
      · rw [show bitB x = false from decide_eq_false hb, Bool.false_and] at h2
        rw [← h2]
        repeat' (first | (with_reducible refine n16 ?_) | (with_reducible refine EOps.ci ?_; first | refine EOps.one T [] rfl (by first | exact True.intro | exact ⟨True.intro, True.intro⟩) ?_ | (refine EOps.sp rfl ?_ ?_ <;> intro hc_ <;> rw [hc_] <;> first | replace hc_ := of_decide_eq_true hc_ | replace hc_ := of_decide_eq_false hc_ | replace hc_ := of_decide_eq_false (Eq.mp (Bool.not_eq_true' _) hc_) | replace hc_ := of_decide_eq_true (Eq.mp (Bool.not_eq_false' _) hc_) | skip)))
        all_goals (refine ctq rfl (by first | rfl | (exfalso; omega) | (simp; omega)) ?_)
        all_goals (refine rn T 99 [] ?_)
        all_goals (exact ⟨[_], ⟨_, _, rfl, .inl rfl, rfl⟩, .p, rfl⟩)
    · refine cfq rfl (by simp [hi]) ?_
      refine rn T 99 [] ?_
      rw [List.drop_eq_nil_of_le (by omega)] at h2
      rw [← h2]
      exact ⟨[_], ⟨_, _, rfl, .inl rfl, rfl⟩, .p, rfl⟩
  · rw [decide_eq_false hl, Bool.false_and]
    refine ctq rfl (by simp; omega) ?_
    refine rn T 99 [] ?_
    exact ⟨[_], ⟨_, _, rfl, .inl rfl, rfl⟩, .p, rfl⟩
end Go.Proofs.YtlcmokgnmlklnaaDoor.K
end
section
namespace Go.Proofs.YtlcmokgnmlklnaaDoor.K
open Go Go.RowKit Go.Proofs.YtlcmokgnmlklnaaDoor.En Go.Proofs.YtlcmokgnmlklnaaDoor.Ty Go.Proofs.YtlcmokgnmlklnaaDoor.B
set_option maxRecDepth 100000
set_option linter.unusedSimpArgs false
set_option linter.unusedVariables false
set_option pp.deepTerms false
set_option pp.deepTerms.threshold 8
set_option pp.maxSteps 1000
def Bytes (s : List Int) : Prop := s.length ≤ 2000 ∧ ∀ x ∈ s, 0 ≤ x ∧ x ≤ 255
theorem xor_nonneg (a b : Nat) (ha : a < 2 ^ 62) (hb : b < 2 ^ 62) : 0 ≤ Go.bits .xor .i64 a b := by
  have hp : (2 : Nat) ^ 62 ≤ 2 ^ IntKind.i64.bits := Nat.pow_le_pow_right (by decide) (by decide)
  have ha' : a % 2 ^ IntKind.i64.bits = a := Nat.mod_eq_of_lt (Nat.lt_of_lt_of_le ha hp)
  have hb' : b % 2 ^ IntKind.i64.bits = b := Nat.mod_eq_of_lt (Nat.lt_of_lt_of_le hb hp)
  simp only [Go.bits, BitVec.ofInt_natCast, BitVec.toNat_xor, BitVec.toNat_ofNat, ha', hb']
  rw [IntKind.wrap_i64]
  have := Nat.xor_lt_two_pow ha hb
  omega
theorem xor_nonneg' (x y : Int) (hx : 0 ≤ x) (hx1 : x < 4611686018427387904) (hy : 0 ≤ y) (hy1 : y < 4611686018427387904) : 0 ≤ Go.bits .xor .i64 x y := by
  obtain ⟨a, rfl⟩ := Int.eq_ofNat_of_zero_le hx
  obtain ⟨b, rfl⟩ := Int.eq_ofNat_of_zero_le hy
  exact xor_nonneg a b (by omega) (by omega)
theorem tmod_range (x n : Int) (hx : 0 ≤ x) (hn : 1 ≤ n) : 0 ≤ Int.tmod x n ∧ Int.tmod x n < n := by
  rw [Int.tmod_eq_emod_of_nonneg hx]
  exact ⟨Int.emod_nonneg _ (by omega), Int.emod_lt_of_pos _ (by omega)⟩
theorem tdiv_range (x n : Int) (hx : 0 ≤ x) (hn : 1 ≤ n) : 0 ≤ Int.tdiv x n ∧ Int.tdiv x n ≤ x := by
  rw [Int.tdiv_eq_ediv_of_nonneg hx]
  exact ⟨Int.ediv_nonneg hx (by omega), Int.ediv_le_self _ hx⟩
abbrev pu (n : Int) : PV := .c (.int .u8 n)
abbrev rdr (s : List Int) (k : Int) : AObj := .box 65 [.p (.row 1 (s.map pu)), .p (pi k)]
theorem mU {l : List Int} {i : Int} {x : Int} (h : l[i.toNat]? = some x) : (l.map pu)[i.toNat]? = some (pu x) := by rw [List.getElem?_map, h, Option.map_some]
theorem at_byte {s : List Int} (h : Bytes s) {i : Int} (h0 : 0 ≤ i) (h1 : i < s.length) : ∃ x, s[i.toNat]? = some x ∧ 0 ≤ x ∧ x ≤ 255 := by
  have hi : i.toNat < s.length := by omega
  exact ⟨s[i.toNat], List.getElem?_eq_getElem hi, h.2 _ (List.getElem_mem hi)⟩
theorem hsh_nil : HSh [] := fun i o h => by simp at h
theorem hsh_rdr {s : List Int} {k : Int} {H : List AObj} (h : HSh H) : HSh (rdr s k :: H) := fun i o ho => by
  cases i with
  | zero =>
    simp only [List.getElem?_cons_zero, Option.some.injEq] at ho
    subst ho
    intro c hc
    simp at hc
    rcases hc with rfl | rfl <;> exact .p
  | succ i => exact h i o (by simpa using ho)
theorem pickC (G : Nat → Option PV) (s : List Int) (hs : Bytes s) (k n : Int) (hk : 0 ≤ k) (hk1 : k ≤ 1099511627776) (hn : 1 ≤ n) (H0 : List AObj) : FC Tryd.prog G 12 [.ptr (.S 0) 0, .p (pi n)] (rdr s k :: H0) (fun r H' => ∃ v, 0 ≤ v ∧ v < n ∧ r = .p (pi v) ∧ H' = rdr s (k + 1) :: H0) := by
  refine bdy Tryd.func12 (fun _ => 0) rfl ?_
  refine rn T 99 [] ?_
  refine rn T 99 [] ?_
  rw [wk (n := k + 1) (by omega) (by omega)]
  refine rn T 2 [] ?_
  rw [show decide (n < 1) = false by simp; omega]
  refine rn T 99 [] ?_
  by_cases h0 : s.length = 0
  · obtain rfl := List.eq_nil_of_length_eq_zero h0
    refine cts ?_
    refine rn T 99 [] ?_
    exact ⟨[_], ⟨_, _, rfl, .inl rfl, rfl⟩, .p, 0, by omega, by omega, rfl, rfl⟩
  · have hl := hs.1
    refine cfq rfl (by simp; intro h; exact h0 (by simp [h])) ?_
    refine rn T 99 [] ?_
    rw [show IntKind.i64.wrap (k + 1 - 1) = k by rw [wk (by omega) (by omega)]; omega]
    refine rn T 99 [] ?_
    by_cases hlt : k < (s.length : Int)
    · obtain ⟨x, hx, hx0, hx1⟩ := at_byte hs hk hlt
      refine ctq rfl (by simp; omega) ?_
      refine rn T 8 [pu x] ?_
      rw [wk (n := x) (by omega) (by omega)]
      refine rn T 99 [] ?_
      have hq := tmod_range x n hx0 hn
      exact ⟨[_], ⟨_, _, rfl, .inl rfl, rfl⟩, .p, _, hq.1, hq.2, rfl, rfl⟩
    · refine cfq rfl (by simp; omega) ?_; try (first | refine dr1 ?_ | refine dr2 ?_ | refine dr3 ?_ | refine dr4 ?_)
      have m1 := tmod_range k (s.length : Int) hk (by omega)
      have m2 := tmod_range (k * 7 + 3) (s.length : Int) (by omega) (by omega)
      have d1 := tdiv_range k (s.length : Int) hk (by omega)
      obtain ⟨a, ha, ha0, ha1⟩ := at_byte hs m1.1 m1.2
      obtain ⟨c, hc, hc0, hc1⟩ := at_byte hs m2.1 m2.2
      have hz : (s.length : Int) ≠ 0 := by omega
      refine rn T 10 [] ?_
      rw [List.length_map]
      refine rn T 2 [pu a] ?_
      refine rn T 15 [] ?_
      rw [List.length_map, wk (n := k * 7) (by omega) (by omega), wk (n := k * 7 + 3) (by omega) (by omega), wk (n := a) (by omega) (by omega), wk (n := a * 131) (by omega) (by omega)]
      refine rn T 2 [pu c] ?_
      refine rn T 13 [] ?_
      rw [List.length_map, wk (n := c) (by omega) (by omega), wk (n := c * 1117) (by omega) (by omega), wk (n := a * 131 + c * 1117) (by omega) (by omega), wk (n := k * 29) (by omega) (by omega), wk (n := a * 131 + c * 1117 + k * 29) (by omega) (by omega)]
      refine rn T 1 [] ?_
      generalize Int.tdiv k (s.length : Int) = d at *
      rw [wk (n := d) (by omega) (by omega)]
      refine rn T 2 [] ?_
      rw [wk (n := d * 53) (by omega) (by omega), wk (n := a * 131 + c * 1117 + k * 29 + d * 53) (by omega) (by omega)]
      generalize hx : a * 131 + c * 1117 + k * 29 + d * 53 = x at *
      have d2 := tdiv_range x 64 (by omega) (by omega)
      refine rn T 99 [] ?_
      refine rn T 3 [] ?_
      rw [wk (n := Int.tdiv x 64) (by omega) (by omega)]
      refine rn T 99 [] ?_
      have hxor := xor_nonneg' x (Int.tdiv x 64) (by omega) (by omega) d2.1 (by omega)
      have hq := tmod_range (Go.bits .xor .i64 x (Int.tdiv x 64)) n hxor hn
      refine rn T 99 [] ?_
      exact ⟨[_], ⟨_, _, rfl, .inl rfl, rfl⟩, .p, _, hq.1, hq.2, rfl, rfl⟩
theorem pick (G : Nat → Option PV) (s : List Int) (hs : Bytes s) (k n : Int) (hk : 0 ≤ k) (hk1 : k ≤ 1099511627776) (hn : 1 ≤ n) {H0 : List AObj} (hH : HSh H0) : FE Tryd.prog G 12 [.ptr (.S 0) 0, .p (pi n)] (rdr s k :: H0) (fun r H' => ∃ v, 0 ≤ v ∧ v < n ∧ r = .p (pi v) ∧ H' = rdr s (k + 1) :: H0) :=
  ⟨pickC G s hs k n hk hk1 hn H0, _, _, ⟨0, by omega, by omega, rfl, rfl⟩, .p, hsh_rdr hH⟩
end Go.Proofs.YtlcmokgnmlklnaaDoor.K
end
section
namespace Go.Proofs.YtlcmokgnmlklnaaDoor.K
open Go Go.RowKit Go.Proofs.YtlcmokgnmlklnaaDoor.En Go.Proofs.YtlcmokgnmlklnaaDoor.Ty Go.Proofs.YtlcmokgnmlklnaaDoor.B
set_option maxRecDepth 100000
set_option linter.unusedSimpArgs false
set_option linter.unusedVariables false
set_option pp.deepTerms false
set_option pp.deepTerms.threshold 8
set_option pp.maxSteps 1000
set_option maxHeartbeats 1000000
def tkH (nm : ByteArray → Bool) (t : Mn) : Bool :=
  if t.f0 = 1 then decide (0 ≤ t.f1 ∧ t.f1 ≤ 9999) && (t.f2 == ⟨#[]⟩) && decide (t.f3.length = 0) && decide (t.f4.length = 0)
  else if t.f0 = 2 then nm t.f2 && decide (t.f1 = 0) && decide (t.f3.length = 0) && decide (t.f4.length = 0)
  else if t.f0 = 3 ∨ t.f0 = 4 ∨ t.f0 = 5 ∨ t.f0 = 6 then decide (t.f1 = 0) && (t.f2 == ⟨#[]⟩) && decide (t.f3.length = 0) && decide (t.f4.length = 2)
  else if t.f0 = 7 then pathB t.f3 && decide (t.f1 = 0) && (t.f2 == ⟨#[]⟩) && decide (t.f4.length = 1)
  else if t.f0 = 8 then pathB t.f3 && decide (t.f1 = 0) && (t.f2 == ⟨#[]⟩) && decide (t.f4.length = 2)
  else false
def tk (nm : ByteArray → Bool) : Nat → Mn → Bool
  | 0, _ => false
  | n + 1, t => tkH nm t && t.f4.all (tk nm n)
theorem tk_eq (nm : ByteArray → Bool) (n : Nat) (k m : Int) (s : ByteArray) (p : List Int) (l : List Mn) : tk nm (n + 1) ⟨k, m, s, p, l⟩ = (tkH nm ⟨k, m, s, p, l⟩ && l.all (tk nm n)) := rfl
theorem tkH_1 (nm : ByteArray → Bool) (m : Int) (s : ByteArray) (p : List Int) (l : List Mn) : tkH nm ⟨1, m, s, p, l⟩ = (decide (0 ≤ m ∧ m ≤ 9999) && (s == ⟨#[]⟩) && decide (p.length = 0) && decide (l.length = 0)) := rfl
theorem tkH_2 (nm : ByteArray → Bool) (m : Int) (s : ByteArray) (p : List Int) (l : List Mn) : tkH nm ⟨2, m, s, p, l⟩ = (nm s && decide (m = 0) && decide (p.length = 0) && decide (l.length = 0)) := rfl
theorem tkH_3 (nm : ByteArray → Bool) (k m : Int) (s : ByteArray) (p : List Int) (l : List Mn) (h : k = 3 ∨ k = 4 ∨ k = 5 ∨ k = 6) : tkH nm ⟨k, m, s, p, l⟩ = (decide (m = 0) && (s == ⟨#[]⟩) && decide (p.length = 0) && decide (l.length = 2)) := by
  rcases h with rfl | rfl | rfl | rfl <;> rfl
theorem tkH_7 (nm : ByteArray → Bool) (m : Int) (s : ByteArray) (p : List Int) (l : List Mn) : tkH nm ⟨7, m, s, p, l⟩ = (pathB p && decide (m = 0) && (s == ⟨#[]⟩) && decide (l.length = 1)) := rfl
theorem tkH_8 (nm : ByteArray → Bool) (m : Int) (s : ByteArray) (p : List Int) (l : List Mn) : tkH nm ⟨8, m, s, p, l⟩ = (pathB p && decide (m = 0) && (s == ⟨#[]⟩) && decide (l.length = 2)) := rfl
theorem tkH_o (nm : ByteArray → Bool) (k m : Int) (s : ByteArray) (p : List Int) (l : List Mn) (h1 : k ≠ 1) (h2 : k ≠ 2) (h3 : ¬ (k = 3 ∨ k = 4 ∨ k = 5 ∨ k = 6)) (h7 : k ≠ 7) (h8 : k ≠ 8) : tkH nm ⟨k, m, s, p, l⟩ = false := by
  unfold tkH
  rw [if_neg (by exact h1), if_neg (by exact h2), if_neg (by exact h3), if_neg (by exact h7), if_neg (by exact h8)]
abbrev RB (b : Bool) (H : List AObj) : TV → List AObj → Prop := fun r H' => r = .p (pb b) ∧ H = H'
theorem RB_ne (b : Bool) {H : List AObj} (hH : HSh H) : ∃ r H', RB b H r H' ∧ r.All Nm.isS ∧ HSh H' := ⟨_, _, ⟨rfl, rfl⟩, .p, hH⟩
theorem RB_of {b c : Bool} {H : List AObj} {r : TV} {H' : List AObj} (h : b = c) (k : RB c H r H') : RB b H r H' := by rw [h]; exact k
theorem termOk2 (G : Nat → Option PV) {H : List AObj} (hH : HSh H) (fid : FuncId) (ci : Nat) (bd : ByteArray → Bool) (hb : ∀ s, FE Tryd.prog G fid (.p (ps s) :: [.ptr (.S ci) 0]) H (RB (bd s) H)) :
    ∀ (n : Nat), n ≤ 1000 → ∀ (t : Mn), FE Tryd.prog G 24 [.p (pm t), .p (pi n), .fn fid [.ptr (.S ci) 0]] H (RB (tk (fun s => pw s && bd s) n t) H) := by
  intro n
  induction n with
  | zero =>
    intro _ t
    refine ⟨?_, RB_ne _ hH⟩
    refine bdy Tryd.func24 (fun _ => 0) rfl ?_
    refine rn T 99 [] ?_
    refine rn T 99 [] ?_
    refine cts ?_
    refine rn T 99 [] ?_
    exact ⟨[_], ⟨_, _, rfl, .inl rfl, rfl⟩, .p, rfl, rfl⟩
  | succ n ih =>
    intro hn ⟨k, m, s, p, l⟩
    refine ⟨?_, RB_ne _ hH⟩
    let nmf : ByteArray → Bool := fun s => pw s && bd s
    show FC _ _ _ [.p (.ag [pi k, pi m, ps s, .row 1 (p.map pi), .row 5 (l.map eM)]), _, _] _ _
    refine bdy Tryd.func24 (fun _ => 0) rfl ?_
    refine rn T 99 [] ?_
    refine rn T 99 [] ?_
    refine cfq rfl (by simp; omega) ?_
    refine rn T 99 [] ?_
    refine rn T 99 [] ?_
    refine rn T 99 [] ?_
    by_cases k1 : k = 1
    · subst k1
      refine cts ?_
      repeat' (first | (with_reducible refine n16 ?_) | (with_reducible refine EOps.ci ?_; first | refine EOps.one T [] rfl (by first | exact True.intro | exact ⟨True.intro, True.intro⟩) ?_ | (refine EOps.sp rfl ?_ ?_ <;> intro hc_ <;> rw [hc_] <;> first | replace hc_ := of_decide_eq_true hc_ | replace hc_ := of_decide_eq_false hc_ | replace hc_ := of_decide_eq_false (Eq.mp (Bool.not_eq_true' _) hc_) | replace hc_ := of_decide_eq_true (Eq.mp (Bool.not_eq_false' _) hc_) | skip)))
      all_goals (refine op ?_)
      all_goals (try ((refine cts ?_); (refine rn T 99 [] ?_); (exact ⟨[_], ⟨_, _, rfl, .inl rfl, rfl⟩, .p, RB_of (c := false) (by rw [tk_eq, tkH_1]; refine Bool.eq_false_iff.2 (fun hq => ?_); simp only [Bool.and_eq_true, decide_eq_true_eq] at hq; first | omega | (simp at *; done) | (simp at *; omega) | simp_all | (simp_all; omega)) ⟨rfl, rfl⟩⟩); done))
      by_cases hm : m > 9999
      · refine ctq rfl (by simp [hm]) ?_
        refine rn T 99 [] ?_
        exact ⟨[_], ⟨_, _, rfl, .inl rfl, rfl⟩, .p, RB_of (c := false) (by rw [tk_eq, tkH_1]; refine Bool.eq_false_iff.2 (fun hq => ?_); simp only [Bool.and_eq_true, decide_eq_true_eq] at hq; first | omega | (simp at *; done) | (simp at *; omega) | simp_all | (simp_all; omega)) ⟨rfl, rfl⟩⟩
      · refine cfq rfl (by simp [hm]) ?_
        refine rn T 99 [] ?_
        repeat' (first | (with_reducible refine n16 ?_) | (with_reducible refine EOps.ci ?_; first | refine EOps.one T [] rfl (by first | exact True.intro | exact ⟨True.intro, True.intro⟩) ?_ | (refine EOps.sp rfl ?_ ?_ <;> intro hc_ <;> rw [hc_] <;> first | replace hc_ := of_decide_eq_true hc_ | replace hc_ := of_decide_eq_false hc_ | replace hc_ := of_decide_eq_false (Eq.mp (Bool.not_eq_true' _) hc_) | replace hc_ := of_decide_eq_true (Eq.mp (Bool.not_eq_false' _) hc_) | skip)))
        all_goals (refine op ?_)
        all_goals (try ((refine cts ?_); (refine rn T 99 [] ?_); (exact ⟨[_], ⟨_, _, rfl, .inl rfl, rfl⟩, .p, RB_of (c := false) (by rw [tk_eq, tkH_1]; refine Bool.eq_false_iff.2 (fun hq => ?_); simp only [Bool.and_eq_true, decide_eq_true_eq] at hq; first | omega | (simp at *; done) | (simp at *; omega) | simp_all | (simp_all; omega)) ⟨rfl, rfl⟩⟩); done))
        by_cases hk : l.length = 0
        · refine cfq rfl (by simp [hk]) ?_
          refine rn T 99 [] ?_
          refine lpw (fun i : Nat => MS.mk [(82, .p (pi i)), (81, .p (pi (l.map eM).length)), (80, .p (.row 5 (l.map eM))), (2, .fn fid [.ptr (.S ci) 0]), (1, .p (pi (n + 1 : Nat)))] 93 [] H) (fun m i => m + i = l.length ∧ (l.drop i).all (tk nmf n) = l.all (tk nmf n)) (l.length) (0) (by simp) ?_
          intro m2 i ⟨h1, h2⟩
          refine op ?_
          refine rn T 99 [] ?_
          by_cases hi : i < l.length
          · obtain ⟨x, hx, hd⟩ := drop_ix hi
            rw [hd, List.all_cons] at h2
            refine ctq rfl (by simp [hi]) ?_
            refine rn T 99 [pm x] ?_
            refine rn T 99 [] ?_
            rw [wkP (by omega)]
            refine hes (ih (by omega) x) ?_; rintro _ _ ⟨rfl, rfl⟩ _ _; refine op ?_
            refine rn T 99 [] ?_
            cases hx2 : tk nmf n x with
            | false =>
              refine ctq rfl (by simp [nmf] at hx2; simp [hx2]) ?_
              refine rn T 99 [] ?_
              exact ⟨[_], ⟨_, _, rfl, .inl rfl, rfl⟩, .p, RB_of (c := false) (by rw [tk_eq, ← h2, hx2]; simp) ⟨rfl, rfl⟩⟩
            | true =>
              rw [hx2, Bool.true_and] at h2
              refine cfq rfl (by simp [nmf] at hx2; simp [hx2]) ?_
              refine rn T 99 [] ?_
              rw [wkS (by omega)]
              refine nxt (m2 - 1) (i + 1) (⟨by omega, h2⟩)
          · refine cfq rfl (by simp [hi]) ?_
            refine rn T 99 [] ?_
            exact ⟨[_], ⟨_, _, rfl, .inl rfl, rfl⟩, .p, RB_of (c := true) (by rw [tk_eq, tkH_1, ← h2, List.drop_eq_nil_of_le (by omega)]; simp only [List.all_nil, Bool.and_true, Bool.and_eq_true, decide_eq_true_eq]; (repeat' apply And.intro) <;> first | omega | assumption | (simp at *; assumption) | (simp at *; omega) | (simp_all; done) | (simp_all; omega)) ⟨rfl, rfl⟩⟩
        · refine ctq rfl (by simp only [List.length_map, bne_iff_ne, ne_eq]; omega) ?_
          refine rn T 99 [] ?_
          exact ⟨[_], ⟨_, _, rfl, .inl rfl, rfl⟩, .p, RB_of (c := false) (by rw [tk_eq, tkH_1]; refine Bool.eq_false_iff.2 (fun hq => ?_); simp only [Bool.and_eq_true, decide_eq_true_eq] at hq; first | omega | (simp at *; done) | (simp at *; omega) | simp_all | (simp_all; omega)) ⟨rfl, rfl⟩⟩
    · refine cfq rfl (by simp [k1]) ?_
      refine rn T 99 [] ?_
      by_cases k2 : k = 2
      · subst k2
        refine cts ?_
        cases hw : pw s with
        | false =>
          have hc := word2 G s
          rw [hw] at hc
          refine rn T 99 [] ?_
          refine pcs (hc) ?_
          refine rn T 99 [] ?_
          refine cts ?_
          refine rn T 99 [] ?_
          exact ⟨[_], ⟨_, _, rfl, .inl rfl, rfl⟩, .p, RB_of (c := false) (by rw [tk_eq, tkH_2]; simp [hw]) ⟨rfl, rfl⟩⟩
        | true =>
          have hc := word2 G s
          rw [hw] at hc
          refine rn T 99 [] ?_
          refine pcs (hc) ?_
          refine rn T 99 [] ?_
          refine hes (hb s) ?_; rintro _ _ ⟨rfl, rfl⟩ _ _; refine op ?_
          refine rn T 99 [] ?_
          cases hbd : bd s with
          | false =>
            refine ctq rfl (by simp [hbd]) ?_
            refine rn T 99 [] ?_
            exact ⟨[_], ⟨_, _, rfl, .inl rfl, rfl⟩, .p, RB_of (c := false) (by rw [tk_eq, tkH_2]; simp [hbd]) ⟨rfl, rfl⟩⟩
          | true =>
            refine cfq rfl (by simp [hbd]) ?_
            refine rn T 99 [] ?_
            repeat' (first | (with_reducible refine n16 ?_) | (with_reducible refine EOps.ci ?_; first | refine EOps.one T [] rfl (by first | exact True.intro | exact ⟨True.intro, True.intro⟩) ?_ | (refine EOps.sp rfl ?_ ?_ <;> intro hc_ <;> rw [hc_] <;> first | replace hc_ := of_decide_eq_true hc_ | replace hc_ := of_decide_eq_false hc_ | replace hc_ := of_decide_eq_false (Eq.mp (Bool.not_eq_true' _) hc_) | replace hc_ := of_decide_eq_true (Eq.mp (Bool.not_eq_false' _) hc_) | skip)))
            all_goals (refine op ?_)
            all_goals (try ((refine cts ?_); (refine rn T 99 [] ?_); (exact ⟨[_], ⟨_, _, rfl, .inl rfl, rfl⟩, .p, RB_of (c := false) (by rw [tk_eq, tkH_2]; refine Bool.eq_false_iff.2 (fun hq => ?_); simp only [Bool.and_eq_true, decide_eq_true_eq] at hq; first | omega | (simp at *; done) | (simp at *; omega) | simp_all | (simp_all; omega)) ⟨rfl, rfl⟩⟩); done))
            by_cases hk : l.length = 0
            · refine cfq rfl (by simp [hk]) ?_
              refine rn T 99 [] ?_
              refine lpw (fun i : Nat => MS.mk [(82, .p (pi i)), (81, .p (pi (l.map eM).length)), (80, .p (.row 5 (l.map eM))), (2, .fn fid [.ptr (.S ci) 0]), (1, .p (pi (n + 1 : Nat)))] 93 [] H) (fun m i => m + i = l.length ∧ (l.drop i).all (tk nmf n) = l.all (tk nmf n)) (l.length) (0) (by simp) ?_
              intro m2 i ⟨h1, h2⟩
              refine op ?_
              refine rn T 99 [] ?_
              by_cases hi : i < l.length
              · obtain ⟨x, hx, hd⟩ := drop_ix hi
                rw [hd, List.all_cons] at h2
                refine ctq rfl (by simp [hi]) ?_
                refine rn T 99 [pm x] ?_
                refine rn T 99 [] ?_
                rw [wkP (by omega)]
                refine hes (ih (by omega) x) ?_; rintro _ _ ⟨rfl, rfl⟩ _ _; refine op ?_
                refine rn T 99 [] ?_
                cases hx2 : tk nmf n x with
                | false =>
                  refine ctq rfl (by simp [nmf] at hx2; simp [hx2]) ?_
                  refine rn T 99 [] ?_
                  exact ⟨[_], ⟨_, _, rfl, .inl rfl, rfl⟩, .p, RB_of (c := false) (by rw [tk_eq, ← h2, hx2]; simp) ⟨rfl, rfl⟩⟩
                | true =>
                  rw [hx2, Bool.true_and] at h2
                  refine cfq rfl (by simp [nmf] at hx2; simp [hx2]) ?_
                  refine rn T 99 [] ?_
                  rw [wkS (by omega)]
                  refine nxt (m2 - 1) (i + 1) (⟨by omega, h2⟩)
              · refine cfq rfl (by simp [hi]) ?_
                refine rn T 99 [] ?_
                exact ⟨[_], ⟨_, _, rfl, .inl rfl, rfl⟩, .p, RB_of (c := true) (by rw [tk_eq, tkH_2, ← h2, List.drop_eq_nil_of_le (by omega)]; simp only [List.all_nil, Bool.and_true, Bool.and_eq_true, decide_eq_true_eq]; (repeat' apply And.intro) <;> first | omega | assumption | (simp at *; assumption) | (simp at *; omega) | (simp_all; done) | (simp_all; omega)) ⟨rfl, rfl⟩⟩
            · refine ctq rfl (by simp only [List.length_map, bne_iff_ne, ne_eq]; omega) ?_
              refine rn T 99 [] ?_
              exact ⟨[_], ⟨_, _, rfl, .inl rfl, rfl⟩, .p, RB_of (c := false) (by rw [tk_eq, tkH_2]; refine Bool.eq_false_iff.2 (fun hq => ?_); simp only [Bool.and_eq_true, decide_eq_true_eq] at hq; first | omega | (simp at *; done) | (simp at *; omega) | simp_all | (simp_all; omega)) ⟨rfl, rfl⟩⟩
      · refine cfq rfl (by simp [k2]) ?_
        refine rn T 99 [] ?_
        by_cases k3 : k = 3 ∨ k = 4 ∨ k = 5 ∨ k = 6
        · rcases k3 with rfl | rfl | rfl | rfl
          · refine cts ?_
            refine cts ?_
            refine rn T 99 [] ?_
            repeat' (first | (with_reducible refine n16 ?_) | (with_reducible refine EOps.ci ?_; first | refine EOps.one T [] rfl (by first | exact True.intro | exact ⟨True.intro, True.intro⟩) ?_ | (refine EOps.sp rfl ?_ ?_ <;> intro hc_ <;> rw [hc_] <;> first | replace hc_ := of_decide_eq_true hc_ | replace hc_ := of_decide_eq_false hc_ | replace hc_ := of_decide_eq_false (Eq.mp (Bool.not_eq_true' _) hc_) | replace hc_ := of_decide_eq_true (Eq.mp (Bool.not_eq_false' _) hc_) | skip)))
            all_goals (refine op ?_)
            all_goals (try ((refine cts ?_); (refine rn T 99 [] ?_); (exact ⟨[_], ⟨_, _, rfl, .inl rfl, rfl⟩, .p, RB_of (c := false) (by rw [tk_eq, tkH_3 _ 3 m s p l (by decide)]; refine Bool.eq_false_iff.2 (fun hq => ?_); simp only [Bool.and_eq_true, decide_eq_true_eq] at hq; first | omega | (simp at *; done) | (simp at *; omega) | simp_all | (simp_all; omega)) ⟨rfl, rfl⟩⟩); done))
            by_cases hk : l.length = 2
            · refine cfq rfl (by simp [hk]) ?_
              refine rn T 99 [] ?_
              refine lpw (fun i : Nat => MS.mk [(82, .p (pi i)), (81, .p (pi (l.map eM).length)), (80, .p (.row 5 (l.map eM))), (2, .fn fid [.ptr (.S ci) 0]), (1, .p (pi (n + 1 : Nat)))] 93 [] H) (fun m i => m + i = l.length ∧ (l.drop i).all (tk nmf n) = l.all (tk nmf n)) (l.length) (0) (by simp) ?_
              intro m2 i ⟨h1, h2⟩
              refine op ?_
              refine rn T 99 [] ?_
              by_cases hi : i < l.length
              · obtain ⟨x, hx, hd⟩ := drop_ix hi
                rw [hd, List.all_cons] at h2
                refine ctq rfl (by simp [hi]) ?_
                refine rn T 99 [pm x] ?_
                refine rn T 99 [] ?_
                rw [wkP (by omega)]
                refine hes (ih (by omega) x) ?_; rintro _ _ ⟨rfl, rfl⟩ _ _; refine op ?_
                refine rn T 99 [] ?_
                cases hx2 : tk nmf n x with
                | false =>
                  refine ctq rfl (by simp [nmf] at hx2; simp [hx2]) ?_
                  refine rn T 99 [] ?_
                  exact ⟨[_], ⟨_, _, rfl, .inl rfl, rfl⟩, .p, RB_of (c := false) (by rw [tk_eq, ← h2, hx2]; simp) ⟨rfl, rfl⟩⟩
                | true =>
                  rw [hx2, Bool.true_and] at h2
                  refine cfq rfl (by simp [nmf] at hx2; simp [hx2]) ?_
                  refine rn T 99 [] ?_
                  rw [wkS (by omega)]
                  refine nxt (m2 - 1) (i + 1) (⟨by omega, h2⟩)
              · refine cfq rfl (by simp [hi]) ?_
                refine rn T 99 [] ?_
                exact ⟨[_], ⟨_, _, rfl, .inl rfl, rfl⟩, .p, RB_of (c := true) (by rw [tk_eq, tkH_3 _ 3 m s p l (by decide), ← h2, List.drop_eq_nil_of_le (by omega)]; simp only [List.all_nil, Bool.and_true, Bool.and_eq_true, decide_eq_true_eq]; (repeat' apply And.intro) <;> first | omega | assumption | (simp at *; assumption) | (simp at *; omega) | (simp_all; done) | (simp_all; omega)) ⟨rfl, rfl⟩⟩
            · refine ctq rfl (by simp only [List.length_map, bne_iff_ne, ne_eq]; omega) ?_
              refine rn T 99 [] ?_
              exact ⟨[_], ⟨_, _, rfl, .inl rfl, rfl⟩, .p, RB_of (c := false) (by rw [tk_eq, tkH_3 _ 3 m s p l (by decide)]; refine Bool.eq_false_iff.2 (fun hq => ?_); simp only [Bool.and_eq_true, decide_eq_true_eq] at hq; first | omega | (simp at *; done) | (simp at *; omega) | simp_all | (simp_all; omega)) ⟨rfl, rfl⟩⟩
          · refine cfs ?_
            refine rn T 99 [] ?_
            refine cts ?_
            refine cts ?_
            refine rn T 99 [] ?_
            repeat' (first | (with_reducible refine n16 ?_) | (with_reducible refine EOps.ci ?_; first | refine EOps.one T [] rfl (by first | exact True.intro | exact ⟨True.intro, True.intro⟩) ?_ | (refine EOps.sp rfl ?_ ?_ <;> intro hc_ <;> rw [hc_] <;> first | replace hc_ := of_decide_eq_true hc_ | replace hc_ := of_decide_eq_false hc_ | replace hc_ := of_decide_eq_false (Eq.mp (Bool.not_eq_true' _) hc_) | replace hc_ := of_decide_eq_true (Eq.mp (Bool.not_eq_false' _) hc_) | skip)))
            all_goals (refine op ?_)
            all_goals (try ((refine cts ?_); (refine rn T 99 [] ?_); (exact ⟨[_], ⟨_, _, rfl, .inl rfl, rfl⟩, .p, RB_of (c := false) (by rw [tk_eq, tkH_3 _ 4 m s p l (by decide)]; refine Bool.eq_false_iff.2 (fun hq => ?_); simp only [Bool.and_eq_true, decide_eq_true_eq] at hq; first | omega | (simp at *; done) | (simp at *; omega) | simp_all | (simp_all; omega)) ⟨rfl, rfl⟩⟩); done))
            by_cases hk : l.length = 2
            · refine cfq rfl (by simp [hk]) ?_
              refine rn T 99 [] ?_
              refine lpw (fun i : Nat => MS.mk [(82, .p (pi i)), (81, .p (pi (l.map eM).length)), (80, .p (.row 5 (l.map eM))), (2, .fn fid [.ptr (.S ci) 0]), (1, .p (pi (n + 1 : Nat)))] 93 [] H) (fun m i => m + i = l.length ∧ (l.drop i).all (tk nmf n) = l.all (tk nmf n)) (l.length) (0) (by simp) ?_
              intro m2 i ⟨h1, h2⟩
              refine op ?_
              refine rn T 99 [] ?_
              by_cases hi : i < l.length
              · obtain ⟨x, hx, hd⟩ := drop_ix hi
                rw [hd, List.all_cons] at h2
                refine ctq rfl (by simp [hi]) ?_
                refine rn T 99 [pm x] ?_
                refine rn T 99 [] ?_
                rw [wkP (by omega)]
                refine hes (ih (by omega) x) ?_; rintro _ _ ⟨rfl, rfl⟩ _ _; refine op ?_
                refine rn T 99 [] ?_
                cases hx2 : tk nmf n x with
                | false =>
                  refine ctq rfl (by simp [nmf] at hx2; simp [hx2]) ?_
                  refine rn T 99 [] ?_
                  exact ⟨[_], ⟨_, _, rfl, .inl rfl, rfl⟩, .p, RB_of (c := false) (by rw [tk_eq, ← h2, hx2]; simp) ⟨rfl, rfl⟩⟩
                | true =>
                  rw [hx2, Bool.true_and] at h2
                  refine cfq rfl (by simp [nmf] at hx2; simp [hx2]) ?_
                  refine rn T 99 [] ?_
                  rw [wkS (by omega)]
                  refine nxt (m2 - 1) (i + 1) (⟨by omega, h2⟩)
              · refine cfq rfl (by simp [hi]) ?_
                refine rn T 99 [] ?_
                exact ⟨[_], ⟨_, _, rfl, .inl rfl, rfl⟩, .p, RB_of (c := true) (by rw [tk_eq, tkH_3 _ 4 m s p l (by decide), ← h2, List.drop_eq_nil_of_le (by omega)]; simp only [List.all_nil, Bool.and_true, Bool.and_eq_true, decide_eq_true_eq]; (repeat' apply And.intro) <;> first | omega | assumption | (simp at *; assumption) | (simp at *; omega) | (simp_all; done) | (simp_all; omega)) ⟨rfl, rfl⟩⟩
            · refine ctq rfl (by simp only [List.length_map, bne_iff_ne, ne_eq]; omega) ?_
              refine rn T 99 [] ?_
              exact ⟨[_], ⟨_, _, rfl, .inl rfl, rfl⟩, .p, RB_of (c := false) (by rw [tk_eq, tkH_3 _ 4 m s p l (by decide)]; refine Bool.eq_false_iff.2 (fun hq => ?_); simp only [Bool.and_eq_true, decide_eq_true_eq] at hq; first | omega | (simp at *; done) | (simp at *; omega) | simp_all | (simp_all; omega)) ⟨rfl, rfl⟩⟩
          · refine cfs ?_
            refine rn T 99 [] ?_
            refine cfs ?_
            refine rn T 99 [] ?_
            refine cts ?_
            refine cts ?_
            refine rn T 99 [] ?_
            repeat' (first | (with_reducible refine n16 ?_) | (with_reducible refine EOps.ci ?_; first | refine EOps.one T [] rfl (by first | exact True.intro | exact ⟨True.intro, True.intro⟩) ?_ | (refine EOps.sp rfl ?_ ?_ <;> intro hc_ <;> rw [hc_] <;> first | replace hc_ := of_decide_eq_true hc_ | replace hc_ := of_decide_eq_false hc_ | replace hc_ := of_decide_eq_false (Eq.mp (Bool.not_eq_true' _) hc_) | replace hc_ := of_decide_eq_true (Eq.mp (Bool.not_eq_false' _) hc_) | skip)))
            all_goals (refine op ?_)
            all_goals (try ((refine cts ?_); (refine rn T 99 [] ?_); (exact ⟨[_], ⟨_, _, rfl, .inl rfl, rfl⟩, .p, RB_of (c := false) (by rw [tk_eq, tkH_3 _ 5 m s p l (by decide)]; refine Bool.eq_false_iff.2 (fun hq => ?_); simp only [Bool.and_eq_true, decide_eq_true_eq] at hq; first | omega | (simp at *; done) | (simp at *; omega) | simp_all | (simp_all; omega)) ⟨rfl, rfl⟩⟩); done))
            by_cases hk : l.length = 2
            · refine cfq rfl (by simp [hk]) ?_
              refine rn T 99 [] ?_
              refine lpw (fun i : Nat => MS.mk [(82, .p (pi i)), (81, .p (pi (l.map eM).length)), (80, .p (.row 5 (l.map eM))), (2, .fn fid [.ptr (.S ci) 0]), (1, .p (pi (n + 1 : Nat)))] 93 [] H) (fun m i => m + i = l.length ∧ (l.drop i).all (tk nmf n) = l.all (tk nmf n)) (l.length) (0) (by simp) ?_
              intro m2 i ⟨h1, h2⟩
              refine op ?_
              refine rn T 99 [] ?_
              by_cases hi : i < l.length
              · obtain ⟨x, hx, hd⟩ := drop_ix hi
                rw [hd, List.all_cons] at h2
                refine ctq rfl (by simp [hi]) ?_
                refine rn T 99 [pm x] ?_
                refine rn T 99 [] ?_
                rw [wkP (by omega)]
                refine hes (ih (by omega) x) ?_; rintro _ _ ⟨rfl, rfl⟩ _ _; refine op ?_
                refine rn T 99 [] ?_
                cases hx2 : tk nmf n x with
                | false =>
                  refine ctq rfl (by simp [nmf] at hx2; simp [hx2]) ?_
                  refine rn T 99 [] ?_
                  exact ⟨[_], ⟨_, _, rfl, .inl rfl, rfl⟩, .p, RB_of (c := false) (by rw [tk_eq, ← h2, hx2]; simp) ⟨rfl, rfl⟩⟩
                | true =>
                  rw [hx2, Bool.true_and] at h2
                  refine cfq rfl (by simp [nmf] at hx2; simp [hx2]) ?_
                  refine rn T 99 [] ?_
                  rw [wkS (by omega)]
                  refine nxt (m2 - 1) (i + 1) (⟨by omega, h2⟩)
              · refine cfq rfl (by simp [hi]) ?_
                refine rn T 99 [] ?_
                exact ⟨[_], ⟨_, _, rfl, .inl rfl, rfl⟩, .p, RB_of (c := true) (by rw [tk_eq, tkH_3 _ 5 m s p l (by decide), ← h2, List.drop_eq_nil_of_le (by omega)]; simp only [List.all_nil, Bool.and_true, Bool.and_eq_true, decide_eq_true_eq]; (repeat' apply And.intro) <;> first | omega | assumption | (simp at *; assumption) | (simp at *; omega) | (simp_all; done) | (simp_all; omega)) ⟨rfl, rfl⟩⟩
            · refine ctq rfl (by simp only [List.length_map, bne_iff_ne, ne_eq]; omega) ?_
              refine rn T 99 [] ?_
              exact ⟨[_], ⟨_, _, rfl, .inl rfl, rfl⟩, .p, RB_of (c := false) (by rw [tk_eq, tkH_3 _ 5 m s p l (by decide)]; refine Bool.eq_false_iff.2 (fun hq => ?_); simp only [Bool.and_eq_true, decide_eq_true_eq] at hq; first | omega | (simp at *; done) | (simp at *; omega) | simp_all | (simp_all; omega)) ⟨rfl, rfl⟩⟩
          · refine cfs ?_
            refine rn T 99 [] ?_
            refine cfs ?_
            refine rn T 99 [] ?_
            refine cfs ?_
            refine rn T 99 [] ?_
            refine cts ?_
            refine rn T 99 [] ?_
            repeat' (first | (with_reducible refine n16 ?_) | (with_reducible refine EOps.ci ?_; first | refine EOps.one T [] rfl (by first | exact True.intro | exact ⟨True.intro, True.intro⟩) ?_ | (refine EOps.sp rfl ?_ ?_ <;> intro hc_ <;> rw [hc_] <;> first | replace hc_ := of_decide_eq_true hc_ | replace hc_ := of_decide_eq_false hc_ | replace hc_ := of_decide_eq_false (Eq.mp (Bool.not_eq_true' _) hc_) | replace hc_ := of_decide_eq_true (Eq.mp (Bool.not_eq_false' _) hc_) | skip)))
            all_goals (refine op ?_)
            all_goals (try ((refine cts ?_); (refine rn T 99 [] ?_); (exact ⟨[_], ⟨_, _, rfl, .inl rfl, rfl⟩, .p, RB_of (c := false) (by rw [tk_eq, tkH_3 _ 6 m s p l (by decide)]; refine Bool.eq_false_iff.2 (fun hq => ?_); simp only [Bool.and_eq_true, decide_eq_true_eq] at hq; first | omega | (simp at *; done) | (simp at *; omega) | simp_all | (simp_all; omega)) ⟨rfl, rfl⟩⟩); done))
            by_cases hk : l.length = 2
            · refine cfq rfl (by simp [hk]) ?_
              refine rn T 99 [] ?_
              refine lpw (fun i : Nat => MS.mk [(82, .p (pi i)), (81, .p (pi (l.map eM).length)), (80, .p (.row 5 (l.map eM))), (2, .fn fid [.ptr (.S ci) 0]), (1, .p (pi (n + 1 : Nat)))] 93 [] H) (fun m i => m + i = l.length ∧ (l.drop i).all (tk nmf n) = l.all (tk nmf n)) (l.length) (0) (by simp) ?_
              intro m2 i ⟨h1, h2⟩
              refine op ?_
              refine rn T 99 [] ?_
              by_cases hi : i < l.length
              · obtain ⟨x, hx, hd⟩ := drop_ix hi
                rw [hd, List.all_cons] at h2
                refine ctq rfl (by simp [hi]) ?_
                refine rn T 99 [pm x] ?_
                refine rn T 99 [] ?_
                rw [wkP (by omega)]
                refine hes (ih (by omega) x) ?_; rintro _ _ ⟨rfl, rfl⟩ _ _; refine op ?_
                refine rn T 99 [] ?_
                cases hx2 : tk nmf n x with
                | false =>
                  refine ctq rfl (by simp [nmf] at hx2; simp [hx2]) ?_
                  refine rn T 99 [] ?_
                  exact ⟨[_], ⟨_, _, rfl, .inl rfl, rfl⟩, .p, RB_of (c := false) (by rw [tk_eq, ← h2, hx2]; simp) ⟨rfl, rfl⟩⟩
                | true =>
                  rw [hx2, Bool.true_and] at h2
                  refine cfq rfl (by simp [nmf] at hx2; simp [hx2]) ?_
                  refine rn T 99 [] ?_
                  rw [wkS (by omega)]
                  refine nxt (m2 - 1) (i + 1) (⟨by omega, h2⟩)
              · refine cfq rfl (by simp [hi]) ?_
                refine rn T 99 [] ?_
                exact ⟨[_], ⟨_, _, rfl, .inl rfl, rfl⟩, .p, RB_of (c := true) (by rw [tk_eq, tkH_3 _ 6 m s p l (by decide), ← h2, List.drop_eq_nil_of_le (by omega)]; simp only [List.all_nil, Bool.and_true, Bool.and_eq_true, decide_eq_true_eq]; (repeat' apply And.intro) <;> first | omega | assumption | (simp at *; assumption) | (simp at *; omega) | (simp_all; done) | (simp_all; omega)) ⟨rfl, rfl⟩⟩
            · refine ctq rfl (by simp only [List.length_map, bne_iff_ne, ne_eq]; omega) ?_
              refine rn T 99 [] ?_
              exact ⟨[_], ⟨_, _, rfl, .inl rfl, rfl⟩, .p, RB_of (c := false) (by rw [tk_eq, tkH_3 _ 6 m s p l (by decide)]; refine Bool.eq_false_iff.2 (fun hq => ?_); simp only [Bool.and_eq_true, decide_eq_true_eq] at hq; first | omega | (simp at *; done) | (simp at *; omega) | simp_all | (simp_all; omega)) ⟨rfl, rfl⟩⟩
        · refine cfq rfl (by simp; omega) ?_
          refine rn T 99 [] ?_
          refine cfq rfl (by simp; omega) ?_
          refine rn T 99 [] ?_
          refine cfq rfl (by simp; omega) ?_
          refine rn T 99 [] ?_
          refine cfq rfl (by simp; omega) ?_
          refine rn T 99 [] ?_
          by_cases k7 : k = 7
          · subst k7
            refine cts ?_
            refine cts ?_
            have hc := path2 G p
            cases hp : pathB p with
            | false =>
              rw [hp] at hc
              refine rn T 99 [] ?_
              refine pcs (hc) ?_
              refine rn T 99 [] ?_
              refine cts ?_
              refine rn T 99 [] ?_
              exact ⟨[_], ⟨_, _, rfl, .inl rfl, rfl⟩, .p, RB_of (c := false) (by rw [tk_eq, tkH_7]; simp [hp]) ⟨rfl, rfl⟩⟩
            | true =>
              rw [hp] at hc
              refine rn T 99 [] ?_
              refine pcs (hc) ?_
              refine rn T 99 [] ?_
              refine cfs ?_
              refine rn T 99 [] ?_
              refine rn T 99 [] ?_
              rw [show IntKind.i64.wrap (IntKind.i64.wrap (1 + 7) - 7) = 1 from rfl]
              repeat' (first | (with_reducible refine n16 ?_) | (with_reducible refine EOps.ci ?_; first | refine EOps.one T [] rfl (by first | exact True.intro | exact ⟨True.intro, True.intro⟩) ?_ | (refine EOps.sp rfl ?_ ?_ <;> intro hc_ <;> rw [hc_] <;> first | replace hc_ := of_decide_eq_true hc_ | replace hc_ := of_decide_eq_false hc_ | replace hc_ := of_decide_eq_false (Eq.mp (Bool.not_eq_true' _) hc_) | replace hc_ := of_decide_eq_true (Eq.mp (Bool.not_eq_false' _) hc_) | skip)))
              all_goals (refine op ?_)
              all_goals (try ((refine cts ?_); (refine rn T 99 [] ?_); (exact ⟨[_], ⟨_, _, rfl, .inl rfl, rfl⟩, .p, RB_of (c := false) (by rw [tk_eq, tkH_7]; refine Bool.eq_false_iff.2 (fun hq => ?_); simp only [Bool.and_eq_true, decide_eq_true_eq] at hq; first | omega | (simp at *; done) | (simp at *; omega) | simp_all | (simp_all; omega)) ⟨rfl, rfl⟩⟩); done))
              by_cases hk : l.length = 1
              · refine cfq rfl (by simp [hk]) ?_
                refine rn T 99 [] ?_
                refine lpw (fun i : Nat => MS.mk [(82, .p (pi i)), (81, .p (pi (l.map eM).length)), (80, .p (.row 5 (l.map eM))), (2, .fn fid [.ptr (.S ci) 0]), (1, .p (pi (n + 1 : Nat)))] 93 [] H) (fun m i => m + i = l.length ∧ (l.drop i).all (tk nmf n) = l.all (tk nmf n)) (l.length) (0) (by simp) ?_
                intro m2 i ⟨h1, h2⟩
                refine op ?_
                refine rn T 99 [] ?_
                by_cases hi : i < l.length
                · obtain ⟨x, hx, hd⟩ := drop_ix hi
                  rw [hd, List.all_cons] at h2
                  refine ctq rfl (by simp [hi]) ?_
                  refine rn T 99 [pm x] ?_
                  refine rn T 99 [] ?_
                  rw [wkP (by omega)]
                  refine hes (ih (by omega) x) ?_; rintro _ _ ⟨rfl, rfl⟩ _ _; refine op ?_
                  refine rn T 99 [] ?_
                  cases hx2 : tk nmf n x with
                  | false =>
                    refine ctq rfl (by simp [nmf] at hx2; simp [hx2]) ?_
                    refine rn T 99 [] ?_
                    exact ⟨[_], ⟨_, _, rfl, .inl rfl, rfl⟩, .p, RB_of (c := false) (by rw [tk_eq, ← h2, hx2]; simp) ⟨rfl, rfl⟩⟩
                  | true =>
                    rw [hx2, Bool.true_and] at h2
                    refine cfq rfl (by simp [nmf] at hx2; simp [hx2]) ?_
                    refine rn T 99 [] ?_
                    rw [wkS (by omega)]
                    refine nxt (m2 - 1) (i + 1) (⟨by omega, h2⟩)
                · refine cfq rfl (by simp [hi]) ?_
                  refine rn T 99 [] ?_
                  exact ⟨[_], ⟨_, _, rfl, .inl rfl, rfl⟩, .p, RB_of (c := true) (by rw [tk_eq, tkH_7, ← h2, List.drop_eq_nil_of_le (by omega)]; simp only [List.all_nil, Bool.and_true, Bool.and_eq_true, decide_eq_true_eq]; (repeat' apply And.intro) <;> first | omega | assumption | (simp at *; assumption) | (simp at *; omega) | (simp_all; done) | (simp_all; omega)) ⟨rfl, rfl⟩⟩
              · refine ctq rfl (by simp only [List.length_map, bne_iff_ne, ne_eq]; omega) ?_
                refine rn T 99 [] ?_
                exact ⟨[_], ⟨_, _, rfl, .inl rfl, rfl⟩, .p, RB_of (c := false) (by rw [tk_eq, tkH_7]; refine Bool.eq_false_iff.2 (fun hq => ?_); simp only [Bool.and_eq_true, decide_eq_true_eq] at hq; first | omega | (simp at *; done) | (simp at *; omega) | simp_all | (simp_all; omega)) ⟨rfl, rfl⟩⟩
          · refine cfq rfl (by simp [k7]) ?_
            refine rn T 99 [] ?_
            by_cases k8 : k = 8
            · subst k8
              refine cts ?_
              have hc := path2 G p
              cases hp : pathB p with
              | false =>
                rw [hp] at hc
                refine rn T 99 [] ?_
                refine pcs (hc) ?_
                refine rn T 99 [] ?_
                refine cts ?_
                refine rn T 99 [] ?_
                exact ⟨[_], ⟨_, _, rfl, .inl rfl, rfl⟩, .p, RB_of (c := false) (by rw [tk_eq, tkH_8]; simp [hp]) ⟨rfl, rfl⟩⟩
              | true =>
                rw [hp] at hc
                refine rn T 99 [] ?_
                refine pcs (hc) ?_
                refine rn T 99 [] ?_
                refine cfs ?_
                refine rn T 99 [] ?_
                refine rn T 99 [] ?_
                rw [show IntKind.i64.wrap (IntKind.i64.wrap (1 + 8) - 7) = 2 from rfl]
                repeat' (first | (with_reducible refine n16 ?_) | (with_reducible refine EOps.ci ?_; first | refine EOps.one T [] rfl (by first | exact True.intro | exact ⟨True.intro, True.intro⟩) ?_ | (refine EOps.sp rfl ?_ ?_ <;> intro hc_ <;> rw [hc_] <;> first | replace hc_ := of_decide_eq_true hc_ | replace hc_ := of_decide_eq_false hc_ | replace hc_ := of_decide_eq_false (Eq.mp (Bool.not_eq_true' _) hc_) | replace hc_ := of_decide_eq_true (Eq.mp (Bool.not_eq_false' _) hc_) | skip)))
                all_goals (refine op ?_)
                all_goals (try ((refine cts ?_); (refine rn T 99 [] ?_); (exact ⟨[_], ⟨_, _, rfl, .inl rfl, rfl⟩, .p, RB_of (c := false) (by rw [tk_eq, tkH_8]; refine Bool.eq_false_iff.2 (fun hq => ?_); simp only [Bool.and_eq_true, decide_eq_true_eq] at hq; first | omega | (simp at *; done) | (simp at *; omega) | simp_all | (simp_all; omega)) ⟨rfl, rfl⟩⟩); done))
                by_cases hk : l.length = 2
                · refine cfq rfl (by simp [hk]) ?_
                  refine rn T 99 [] ?_
                  refine lpw (fun i : Nat => MS.mk [(82, .p (pi i)), (81, .p (pi (l.map eM).length)), (80, .p (.row 5 (l.map eM))), (2, .fn fid [.ptr (.S ci) 0]), (1, .p (pi (n + 1 : Nat)))] 93 [] H) (fun m i => m + i = l.length ∧ (l.drop i).all (tk nmf n) = l.all (tk nmf n)) (l.length) (0) (by simp) ?_
                  intro m2 i ⟨h1, h2⟩
                  refine op ?_
                  refine rn T 99 [] ?_
                  by_cases hi : i < l.length
                  · obtain ⟨x, hx, hd⟩ := drop_ix hi
                    rw [hd, List.all_cons] at h2
                    refine ctq rfl (by simp [hi]) ?_
                    refine rn T 99 [pm x] ?_
                    refine rn T 99 [] ?_
                    rw [wkP (by omega)]
                    refine hes (ih (by omega) x) ?_; rintro _ _ ⟨rfl, rfl⟩ _ _; refine op ?_
                    refine rn T 99 [] ?_
                    cases hx2 : tk nmf n x with
                    | false =>
                      refine ctq rfl (by simp [nmf] at hx2; simp [hx2]) ?_
                      refine rn T 99 [] ?_
                      exact ⟨[_], ⟨_, _, rfl, .inl rfl, rfl⟩, .p, RB_of (c := false) (by rw [tk_eq, ← h2, hx2]; simp) ⟨rfl, rfl⟩⟩
                    | true =>
                      rw [hx2, Bool.true_and] at h2
                      refine cfq rfl (by simp [nmf] at hx2; simp [hx2]) ?_
                      refine rn T 99 [] ?_
                      rw [wkS (by omega)]
                      refine nxt (m2 - 1) (i + 1) (⟨by omega, h2⟩)
                  · refine cfq rfl (by simp [hi]) ?_
                    refine rn T 99 [] ?_
                    exact ⟨[_], ⟨_, _, rfl, .inl rfl, rfl⟩, .p, RB_of (c := true) (by rw [tk_eq, tkH_8, ← h2, List.drop_eq_nil_of_le (by omega)]; simp only [List.all_nil, Bool.and_true, Bool.and_eq_true, decide_eq_true_eq]; (repeat' apply And.intro) <;> first | omega | assumption | (simp at *; assumption) | (simp at *; omega) | (simp_all; done) | (simp_all; omega)) ⟨rfl, rfl⟩⟩
                · refine ctq rfl (by simp only [List.length_map, bne_iff_ne, ne_eq]; omega) ?_
                  refine rn T 99 [] ?_
                  exact ⟨[_], ⟨_, _, rfl, .inl rfl, rfl⟩, .p, RB_of (c := false) (by rw [tk_eq, tkH_8]; refine Bool.eq_false_iff.2 (fun hq => ?_); simp only [Bool.and_eq_true, decide_eq_true_eq] at hq; first | omega | (simp at *; done) | (simp at *; omega) | simp_all | (simp_all; omega)) ⟨rfl, rfl⟩⟩
            · refine cfq rfl (by simp [k8]) ?_
              refine rn T 99 [] ?_
              exact ⟨[_], ⟨_, _, rfl, .inl rfl, rfl⟩, .p, RB_of (c := false) (by rw [tk_eq, tkH_o _ k m s p l k1 k2 k3 k7 k8]; rfl) ⟨rfl, rfl⟩⟩
end Go.Proofs.YtlcmokgnmlklnaaDoor.K
end
section
namespace Go.Proofs.YtlcmokgnmlklnaaDoor.PA
open Go.RowKit Go.Extern.Stop Go.Stop Go.Extern
theorem isTypeOf (v : Value) (w : World) : (Extern.ReflectliteType.typeOf #[.iface 128 v]).run Tryd.prog w = .ok (.iface 86 (.agg #[.pointer (some ⟨2, 128, none⟩)])) w := by kernel_rfl
def isCmp : Array Value → Sem Value := Extern.ReflectliteType.method fun t => do Rtype.noPackHeld "Comparable" t; pure (.bool (← typeInfo t).comparable)
theorem isComparable (w : World) : (isCmp #[.agg #[.pointer (some ⟨2, 128, none⟩)]]).run Tryd.prog w = .ok (.bool true) w := by kernel_rfl
theorem isMethodComparable (v : Value) (w : World) : (Go.method (168 + 100) 86 v "Comparable").run Tryd.prog w = .ok (88, v) w := by kernel_rfl
theorem isComp : (Tryd.prog.info? 128).map (·.comparable) = some true := by kernel_rfl
theorem isSize : (Tryd.prog.info? 156).map (·.size) = some 1 := by kernel_rfl
theorem is_same (a : Addr) (w : World) :
    Calls Tryd.prog 26 #[.iface 128 (.pointer (some a)), .iface 128 (.pointer (some a))] w fun e w' => e = .returned (.bool true) ∧ w' = w := by
  obtain ⟨i, hi, hcmp⟩ := Option.map_eq_some_iff.1 isComp
  obtain ⟨j, hj, hjs⟩ := Option.map_eq_some_iff.1 isSize
  have h8 := @run_callFunc_extern Tryd.prog 45 _ Extern.ReflectliteType.typeOf Tryd.func45 (by kernel_rfl) (by kernel_rfl) (by kernel_rfl) (by kernel_rfl)
  have h32 := @run_callFunc_extern Tryd.prog 88 _ isCmp Tryd.func88 (by kernel_rfl) (by kernel_rfl) (by kernel_rfl) (by kernel_rfl)
  have tT := isTypeOf
  have cT := isComparable
  have mR := isMethodComparable
  have heq := run_eql_iface_ptr_same (P := Tryd.prog) w a Tryd.underlying60 Tryd.underlying128 hi hcmp hj
  go_enter Tryd.func26, Tryd.ntmps26
  go_wp2
  refine wp_loop_rounds 1 ?_
  rw [rounds_succ]
  go_wp2
  go_ret
  exact ⟨rfl, rfl⟩
theorem is_nil (b : Addr) (w : World) :
    Calls Tryd.prog 26 #[.nilIface, .iface 128 (.pointer (some b))] w fun e w' => e = .returned (.bool false) ∧ w' = w := by
  have hn := run_eql_iface_nil_left (P := Tryd.prog) w 128 (.pointer (some b)) Tryd.underlying60
  go_enter Tryd.func26, Tryd.ntmps26
  go_wp2
  go_ret
  exact ⟨rfl, rfl⟩
end Go.Proofs.YtlcmokgnmlklnaaDoor.PA
end
section
namespace Go.Proofs.YtlcmokgnmlklnaaDoor.K
open Go Go.RowKit Go.Proofs.YtlcmokgnmlklnaaDoor.En Go.Proofs.YtlcmokgnmlklnaaDoor.Ty Go.Proofs.YtlcmokgnmlklnaaDoor.B
set_option maxRecDepth 100000
set_option linter.unusedSimpArgs false
set_option linter.unusedVariables false
set_option pp.deepTerms false
set_option pp.deepTerms.threshold 8
set_option pp.maxSteps 1000
set_option maxHeartbeats 1000000
abbrev eE (a : Addr) : PV := .ifc 128 (.c (.pointer (some a)))
abbrev eN : PV := .c .nilIface
def GE (a : Addr) : Nat → Option PV
  | 0 => some (eE a)
  | _ => none
theorem PF.of_calls {P : Program} {G : Nat → Option PV} {f : FuncId} {xs : List PV} {c : Value} (hc : callable P f = true) (h1 : c.oneCell' = true) (h : ∀ w S (V : List Value), V.length = xs.length → (∀ (k : Nat) x v, xs[k]? = some x → V[k]? = some v → PRep w S x v) → Calls P f V.toArray w fun e w' => e = .returned c ∧ w' = w) : PF P G f xs (.p (.c c)) := by
  refine ⟨.p, hc, fun w S g V hh hl hv => ?_⟩
  refine (h w S V (by simpa using hl) (fun k x v hx hv' => ?_)).mono ?_
  · have := hv k (.p x) v (by rw [List.getElem?_map, hx]; rfl) hv'
    cases this with | p h => exact h
  · rintro e w' ⟨rfl, rfl⟩
    exact ⟨.p (.c c), [], c, S, g, rfl, rfl, .p, .p (.c h1), hh, Evol.refl _ _ _ _, fun i hi => absurd hi (Nat.not_lt_zero _)⟩
theorem is_same2 (G : Nat → Option PV) (a : Addr) : PF Tryd.prog G 26 [eE a, eE a] (.p (pb true)) := by
  refine PF.of_calls (by kernel_rfl) rfl (fun w S V hl hv => ?_)
  match V, hl with
  | [x, y], _ =>
    have h1 := hv 0 _ x rfl rfl
    have h2 := hv 1 _ y rfl rfl
    cases h1 with | ifc h1 =>
    cases h2 with | ifc h2 =>
    cases h1; cases h2
    exact PA.is_same a w
theorem is_nil2 (G : Nat → Option PV) (b : Addr) : PF Tryd.prog G 26 [eN, eE b] (.p (pb false)) := by
  refine PF.of_calls (by kernel_rfl) rfl (fun w S V hl hv => ?_)
  match V, hl with
  | [x, y], _ =>
    have h1 := hv 0 _ x rfl rfl
    have h2 := hv 1 _ y rfl rfl
    cases h1
    cases h2 with | ifc h2 =>
    cases h2
    exact PA.is_nil b w
def look (es : List (ByteArray × Ty)) (s : ByteArray) : Option Ty := (es.find? (fun p => s == p.1)).map (·.2)
abbrev ems (es : List (ByteArray × Ty)) : List (ByteArray × PV) := es.map fun e => (e.1, pt e.2)
theorem pget_ems (es : List (ByteArray × Ty)) (s : ByteArray) : pget (ems es) s = (look es s).map pt := by
  induction es with
  | nil => rfl
  | cons e es ih =>
    unfold pget look at ih ⊢
    simp only [ems, List.map_cons, List.find?_cons]
    cases (s == e.1) with
    | true => rfl
    | false => exact ih
theorem pget_getD (es : List (ByteArray × Ty)) (s : ByteArray) : (pget (ems es) s).getD (.ag [.row 1 []]) = pt ((look es s).getD []) := by
  rw [pget_ems]
  cases look es s <;> rfl
theorem bound2 (G : Nat → Option PV) (es : List (ByteArray × Ty)) (s : ByteArray) : FE Tryd.prog G 23 [.p (ps s), .ptr (.S 1) 0] [.mp (ems es), .box 57 [.mp (.S 0)]] (RB (look es s).isSome [.mp (ems es), .box 57 [.mp (.S 0)]]) := by
  have hH : HSh [.mp (ems es), .box 57 [.mp (.S 0)]] := fun i o h => by
    match i, h with
    | 0, h => cases h; trivial
    | 1, h => cases h; intro x hx; simp at hx; subst hx; exact .mp trivial
  refine ⟨?_, RB_ne _ hH⟩
  refine bdy Tryd.func23 (fun _ => 0) rfl ?_
  refine rn T 99 [] ?_
  refine rn T 3 [] ?_
  rw [pget_getD]
  refine rn T 99 [] ?_
  refine rn T 99 [] ?_
  refine ⟨[_], ⟨_, _, rfl, .inl rfl, rfl⟩, .p, ?_, rfl⟩
  show TV.p (pb (pget (ems es) s).isSome) = _
  rw [pget_ems, Option.isSome_map]
end Go.Proofs.YtlcmokgnmlklnaaDoor.K
end
section
namespace Go.Proofs.YtlcmokgnmlklnaaDoor.K
open Go Go.RowKit Go.Proofs.YtlcmokgnmlklnaaDoor.En Go.Proofs.YtlcmokgnmlklnaaDoor.Ty Go.Proofs.YtlcmokgnmlklnaaDoor.B
set_option maxRecDepth 100000
set_option linter.unusedSimpArgs false
set_option linter.unusedVariables false
set_option pp.deepTerms false
set_option pp.deepTerms.threshold 8
set_option pp.maxSteps 1000
set_option maxHeartbeats 1000000
def kds (f : Mn → Option Ty) : List Mn → Option (List Tn)
  | [] => some []
  | x :: r => match f x with
    | none => none
    | some u => match kds f r with
      | none => none
      | some ts => some (⟨u⟩ :: ts)
def kk (k : Int) (p : List Int) (ts : List Tn) : Option Ty :=
  if k = 7 then (match ts with | a :: _ => pf p a.f0 | _ => none)
  else if k = 8 then (match ts with | a :: b :: _ => (match pf p a.f0 with | some x => if teq 4 x b.f0 = true then some a.f0 else none | none => none) | _ => none)
  else if k = 6 then (match ts with | a :: b :: _ => if dp 4 [a, b] = true then some [a, b] else none | _ => none)
  else (match ts with | a :: b :: _ => if a.f0.length = 0 ∧ b.f0.length = 0 then some [] else none | _ => none)
def kd (env : ByteArray → Ty) : Nat → Mn → Option Ty
  | 0, _ => none
  | n + 1, t => if t.f0 = 1 then some [] else if t.f0 = 2 then some (env t.f2) else match kds (kd env n) t.f4 with
    | none => none
    | some ts => kk t.f0 t.f3 ts
def errV {α : Type} (a : Addr) : Option α → PV
  | some _ => eN
  | none => eE a
abbrev HK (es : List (ByteArray × Ty)) : List AObj := [.mp (ems es), .box 57 [.mp (.S 0)]]
theorem hsh_HK (es : List (ByteArray × Ty)) : HSh (HK es) := fun i o h => by
  match i, h with
  | 0, h => cases h; trivial
  | 1, h => cases h; intro x hx; simp at hx; subst hx; exact .mp trivial
abbrev KR (a : Addr) (o : Option Ty) (H : List AObj) : TV → List AObj → Prop := fun r H' => r = .tp [.p (pt (o.getD [])), .p (errV a o)] ∧ H = H'
abbrev KRs (a : Addr) (o : Option (List Tn)) (H : List AObj) : TV → List AObj → Prop := fun r H' => r = .tp [.p (.row 1 ((o.getD []).map eT)), .p (errV a o)] ∧ H = H'
theorem all2 {q : Nm → Prop} (x y : PV) : (TV.tp [.p x, .p y]).All q := .tp (fun z hz => by simp at hz; rcases hz with rfl | rfl <;> exact .p)
theorem kds_cons (f : Mn → Option Ty) (x : Mn) (r : List Mn) : kds f (x :: r) = (f x).bind (fun u => (kds f r).map (fun ts => Tn.mk u :: ts)) := by
  show (match f x with | none => none | some u => match kds f r with | none => none | some ts => some (Tn.mk u :: ts)) = _
  cases f x with
  | none => rfl
  | some u => cases kds f r <;> rfl
theorem kds_dp (f : Mn → Option Ty) : ∀ (l : List Mn) (ts : List Tn), (∀ x ∈ l, ∀ u, f x = some u → dp 4 u = true) → kds f l = some ts → ts.length = l.length ∧ ∀ t ∈ ts, dp 4 t.f0 = true
  | [], ts, _, h => by cases h; exact ⟨rfl, fun t ht => by cases ht⟩
  | x :: r, ts, hf, h => by
    unfold kds at h
    cases hx : f x with
    | none => rw [hx] at h; cases h
    | some u =>
      rw [hx] at h
      simp only at h
      cases hr : kds f r with
      | none => rw [hr] at h; cases h
      | some us =>
        rw [hr] at h
        cases h
        obtain ⟨h1, h2⟩ := kds_dp f r us (fun y hy => hf y (by simp [hy])) hr
        refine ⟨by simp [h1], fun t ht => ?_⟩
        rcases List.mem_cons.1 ht with rfl | ht
        · exact hf x (by simp) u hx
        · exact h2 t ht
theorem kk_dp (k : Int) (p : List Int) (ts : List Tn) (u : Ty) (h : ∀ t ∈ ts, dp 4 t.f0 = true) (e : kk k p ts = some u) : dp 4 u = true := by
  unfold kk at e
  split at e
  · split at e
    · rename_i a _; exact dp_pf 4 _ _ _ (h a (by simp)) e
    · cases e
  · split at e
    · split at e
      · rename_i a b _
        split at e
        · split at e
          · cases e; exact h a (by simp)
          · cases e
        · cases e
      · cases e
    · split at e
      · split at e
        · rename_i a b _
          split at e
          · rename_i hq; cases e; exact hq
          · cases e
        · cases e
      · split at e
        · split at e
          · cases e; rfl
          · cases e
        · cases e
theorem kd_dp (env : ByteArray → Ty) (he : ∀ s, dp 4 (env s) = true) : ∀ (n : Nat) (t : Mn) (u : Ty), kd env n t = some u → dp 4 u = true := by
  intro n
  induction n with
  | zero => intro t u h; cases h
  | succ n ih =>
    intro t u h
    unfold kd at h
    split at h
    · cases h; rfl
    · split at h
      · cases h; exact he _
      · cases hk : kds (kd env n) t.f4 with
        | none => rw [hk] at h; cases h
        | some ts =>
          rw [hk] at h
          exact kk_dp _ _ _ _ (kds_dp _ _ _ (fun x _ u hu => ih x u hu) hk).2 h
theorem terms_of (a : Addr) (es : List (ByteArray × Ty)) (f : Mn → Option Ty) (l : List Mn) (hl : l.length ≤ 2) (ih : ∀ x ∈ l, FE Tryd.prog (GE a) 25 [.mp (.S 0), .p (pm x)] (HK es) (KR a (f x) (HK es))) :
    FE Tryd.prog (GE a) 40 [.mp (.S 0), .p (.row 5 (l.map eM))] (HK es) (KRs a (kds f l) (HK es)) := by
  refine ⟨?_, _, _, ⟨rfl, rfl⟩, all2 _ _, hsh_HK es⟩
  refine bdy Tryd.func40 (fun _ => 0) rfl ?_
  refine rn T 99 [] ?_
  refine rn T 99 [] ?_
  refine rn T 99 [] ?_
  refine lpw (fun x : List Tn => (match x with | [] => MS.mk [(13, .p (pi 0)), (12, .p (pi (l.map eM).length)), (11, .p (.row 5 (l.map eM))), (6, .nil), (0, .mp (.S 0))] 32 [] (HK es) | u :: r => MS.mk [(13, .p (pi ((u :: r).length))), (12, .p (pi (l.map eM).length)), (11, .p (.row 5 (l.map eM))), (6, .vw (.L 29) (u :: r).length), (0, .mp (.S 0))] 32 [(29, .rw 1 32 ((u :: r).map eT))] (HK es))) (fun m x => m + x.length = l.length ∧ kds f l = (kds f (l.drop x.length)).map (x ++ ·)) (l.length) ([]) (by simp) ?_
  intro m x ⟨h1, h2⟩
  cases x with
  | nil =>
    refine op ?_
    refine rn T 99 [] ?_
    by_cases hi : 0 < l.length
    · obtain ⟨y, hy, hd⟩ := drop_ix hi
      refine ctq rfl (by simp [hi]) ?_
      refine rn T 99 [pm y] ?_
      refine rn T 99 [] ?_
      have hc := ih y (List.mem_of_getElem? hy)
      rw [show l.drop ([] : List Tn).length = y :: l.drop 1 from hd] at h2
      cases hf : f y with
      | none =>
        rw [hf] at hc
        have hk : kds f l = none := by rw [h2, kds_cons, hf]; rfl
        refine hes (hc) ?_; rintro _ _ ⟨rfl, rfl⟩ _ _; refine op ?_
        refine rn T 99 [] ?_
        refine rn T 99 [] ?_
        refine cts ?_
        refine rn T 99 [] ?_
        rw [hk]
        exact rt2 T _ _ ⟨rfl, rfl⟩
      | some v =>
        rw [hf] at hc
        refine hes (hc) ?_; rintro _ _ ⟨rfl, rfl⟩ _ _; refine op ?_
        refine rn T 99 [] ?_
        refine rn T 99 [] ?_
        refine cfs ?_
        refine rn T 99 [] ?_
        refine rn T 99 [] ?_
        have hm : 0 < m := by simp at h1; omega
        have hap : [pt v] = ([⟨v⟩] : List Tn).map eT := by simp [eT_eq, Tn.f0]
        refine nxt (m - 1) ([⟨v⟩]) (⟨by simp at h1 ⊢; omega, by rw [h2, kds_cons, hf]; show _ = Option.map _ (kds f (l.drop 1)); cases kds f (l.drop 1) <;> rfl⟩)
    · refine cfq rfl (by simp [hi]) ?_
      refine rn T 99 [] ?_
      obtain rfl := List.eq_nil_of_length_eq_zero (show l.length = 0 by omega)
      exact rt2 T _ _ ⟨rfl, rfl⟩
  | cons u r =>
    have hq : ((u :: r).map eT).length = (u :: r).length := by simp
    refine op ?_
    refine rn T 99 [] ?_
    by_cases hi : (u :: r).length < l.length
    · obtain ⟨y, hy, hd⟩ := drop_ix hi
      refine ctq rfl (by simp at hi ⊢; omega) ?_
      have hr1 : r.length ≤ 2 := by simp at hi; omega
      refine rn T 99 [pm y] ?_
      refine rn T 99 [] ?_
      have hc := ih y (List.mem_of_getElem? hy)
      rw [hd] at h2
      cases hf : f y with
      | none =>
        rw [hf] at hc
        have hk : kds f l = none := by rw [h2, kds_cons, hf]; rfl
        refine hes (hc) ?_; rintro _ _ ⟨rfl, rfl⟩ _ _; refine op ?_
        refine rn T 99 [] ?_
        refine rn T 99 [] ?_
        refine cts ?_
        refine rn T 99 [] ?_
        rw [hk]
        exact rt2 T _ _ ⟨rfl, rfl⟩
      | some v =>
        rw [hf] at hc
        refine hes (hc) ?_; rintro _ _ ⟨rfl, rfl⟩ _ _; refine op ?_
        simp only [Option.getD_some]
        refine rn T 99 [] ?_
        refine rn T 99 [] ?_
        refine cfs ?_
        refine rn T 99 [] ?_
        refine rn T 99 [] ?_
        have hap : (u :: r).map eT ++ [pt v] = (u :: (r ++ [(⟨v⟩ : Tn)])).map eT := by simp [eT_eq, Tn.f0]
        rw [hq, show (u :: r).length + [pt v].length = (u :: (r ++ [(⟨v⟩ : Tn)])).length by simp, wkS (by simp at h1 ⊢; omega), show (u :: r).length + 1 = (u :: (r ++ [(⟨v⟩ : Tn)])).length by simp]
        have hm : 0 < m := by simp at h1 hi; omega
        refine nxt (m - 1) (u :: (r ++ [⟨v⟩])) (⟨by simp at h1 ⊢; omega, by rw [h2, kds_cons, hf, show (u :: (r ++ [(⟨v⟩ : Tn)])).length = (u :: r).length + 1 by simp]; cases kds f (l.drop ((u :: r).length + 1)) <;> simp⟩)
    · refine cfq rfl (by simp at hi ⊢; omega) ?_
      refine rn T 99 [] ?_
      have hk : kds f l = some (u :: r) := by rw [h2, List.drop_eq_nil_of_le (by omega)]; simp [kds]
      rw [hk]
      exact rt2 T _ _ ⟨rfl, rfl⟩
theorem tk_kids {nm : ByteArray → Bool} {n : Nat} {t : Mn} (h : tk nm (n + 1) t = true) {x : Mn} (hx : x ∈ t.f4) : tk nm n x = true := by
  unfold tk at h
  rw [Bool.and_eq_true, List.all_eq_true] at h
  exact h.2 x hx
theorem tk_here {nm : ByteArray → Bool} {n : Nat} {t : Mn} (h : tk nm (n + 1) t = true) : tkH nm t = true := by
  unfold tk at h
  rw [Bool.and_eq_true] at h
  exact h.1
theorem tkH_inv {nm : ByteArray → Bool} {k m : Int} {s : ByteArray} {p : List Int} {l : List Mn} (h : tkH nm ⟨k, m, s, p, l⟩ = true) :
    (k = 1 ∧ l = []) ∨ (k = 2 ∧ nm s = true ∧ l = []) ∨ ((k = 3 ∨ k = 4 ∨ k = 5) ∧ l.length = 2) ∨ (k = 6 ∧ l.length = 2) ∨ (k = 7 ∧ pathB p = true ∧ l.length = 1) ∨ (k = 8 ∧ pathB p = true ∧ l.length = 2) := by
  by_cases k1 : k = 1
  · subst k1; rw [tkH_1] at h; simp at h; exact .inl ⟨rfl, h.2⟩
  by_cases k2 : k = 2
  · subst k2; rw [tkH_2] at h; simp at h; exact .inr (.inl ⟨rfl, h.1.1.1, h.2⟩)
  by_cases k3 : k = 3 ∨ k = 4 ∨ k = 5 ∨ k = 6
  · rw [tkH_3 _ _ _ _ _ _ k3] at h
    simp at h
    rcases k3 with e | e | e | e
    · exact .inr (.inr (.inl ⟨.inl e, h.2⟩))
    · exact .inr (.inr (.inl ⟨.inr (.inl e), h.2⟩))
    · exact .inr (.inr (.inl ⟨.inr (.inr e), h.2⟩))
    · exact .inr (.inr (.inr (.inl ⟨e, h.2⟩)))
  by_cases k7 : k = 7
  · subst k7; rw [tkH_7] at h; simp at h; exact .inr (.inr (.inr (.inr (.inl ⟨rfl, h.1.1.1, h.2⟩))))
  by_cases k8 : k = 8
  · subst k8; rw [tkH_8] at h; simp at h; exact .inr (.inr (.inr (.inr (.inr ⟨rfl, h.1.1.1, h.2⟩))))
  rw [tkH_o _ _ _ _ _ _ k1 k2 k3 k7 k8] at h
  cases h
theorem path_len {p : List Int} (h : pathB p = true) : p.length ≤ 1000 := by
  unfold pathB at h
  rw [Bool.and_eq_true, decide_eq_true_eq] at h
  omega
abbrev envM (es : List (ByteArray × Ty)) : ByteArray → Ty := fun s => (look es s).getD []
theorem isNum2 (G : Nat → Option PV) (l : List Tn) : PF Tryd.prog G 44 [pt l] (.p (pb (decide (l.length = 0)))) := by
  refine ⟨(by first | exact .p | exact .tp (fun x hx => by simp at hx; rcases hx with rfl | rfl <;> exact .p) | exact .tp (fun x hx => by simp at hx; rcases hx with rfl | rfl | rfl <;> exact .p)), bdy Tryd.func44 (fun _ => 0) rfl ?_⟩
  refine rn T 99 [] ?_
  refine rn T 99 [] ?_
  by_cases h : l.length = 0
  · rw [decide_eq_true h, show (((l.map eT).length : Int) == 0) = true by simp [List.eq_nil_of_length_eq_zero h]]
    exact ⟨[_], ⟨_, _, rfl, .inl rfl, rfl⟩, .p, rfl⟩
  · rw [decide_eq_false h, cmp_nz h]
    exact ⟨[_], ⟨_, _, rfl, .inl rfl, rfl⟩, .p, rfl⟩
theorem kk_3 {k : Int} (p : List Int) (x y : Tn) (h : k = 3 ∨ k = 4 ∨ k = 5) : kk k p [x, y] = if x.f0.length = 0 ∧ y.f0.length = 0 then some [] else none := by
  rcases h with rfl | rfl | rfl <;> rfl
theorem kterm2 (a : Addr) (es : List (ByteArray × Ty)) (hdp : ∀ s, dp 4 (envM es s) = true) (nm : ByteArray → Bool) : ∀ (n : Nat) (t : Mn), tk nm n t = true →
    FE Tryd.prog (GE a) 25 [.mp (.S 0), .p (pm t)] (HK es) (KR a (kd (envM es) n t) (HK es)) := by
  intro n
  induction n with
  | zero => intro t h; cases h
  | succ n ih =>
    intro ⟨k, m, s, p, l⟩ h
    have hin := tkH_inv (tk_here h)
    have hl2 : l.length ≤ 2 := by
      rcases hin with ⟨_, rfl⟩ | ⟨_, _, rfl⟩ | ⟨_, h⟩ | ⟨_, h⟩ | ⟨_, _, h⟩ | ⟨_, _, h⟩ <;> simp_all
    have hts := terms_of a es (kd (envM es) n) l hl2 (fun x hx => ih x (tk_kids h hx))
    refine ⟨?_, _, _, ⟨rfl, rfl⟩, all2 _ _, hsh_HK es⟩
    show FC _ _ _ [_, .p (.ag [pi k, pi m, ps s, .row 1 (p.map pi), .row 5 (l.map eM)])] _ _
    refine bdy Tryd.func25 (fun _ => 0) rfl ?_
    refine rn T 99 [] ?_
    refine rn T 99 [] ?_
    refine rn T 99 [] ?_
    by_cases k1 : k = 1
    · subst k1
      refine cts ?_
      refine rn T 99 [] ?_
      exact rt2 T _ _ ⟨rfl, rfl⟩
    · refine cfq rfl (by simp [k1]) ?_
      refine rn T 99 [] ?_
      by_cases k2 : k = 2
      · subst k2
        refine cts ?_
        refine rn T 4 [] ?_
        rw [pget_getD]
        refine rn T 99 [] ?_
        exact rt2 T (pt ((look es s).getD [])) eN ⟨rfl, rfl⟩
      · refine cfq rfl (by simp [k2]) ?_
        refine rn T 99 [] ?_
        have hkd : kd (envM es) (n + 1) ⟨k, m, s, p, l⟩ = match kds (kd (envM es) n) l with | none => none | some ts => kk k p ts := by
          show (if k = 1 then _ else if k = 2 then _ else _) = _
          rw [if_neg k1, if_neg k2]
          rfl
        rw [hkd]
        cases hk : kds (kd (envM es) n) l with
        | none =>
          rw [hk] at hts
          refine hes (hts) ?_; rintro _ _ ⟨rfl, rfl⟩ _ _; refine op ?_
          refine rn T 99 [] ?_
          refine rn T 99 [] ?_
          refine cts ?_
          refine rn T 99 [] ?_
          exact rt2 T (pt []) (eE a) ⟨rfl, rfl⟩
        | some ts =>
          rw [hk] at hts
          obtain ⟨q1, q2⟩ := kds_dp _ _ _ (fun x _ u hu => kd_dp _ hdp n x u hu) hk
          simp only
          refine hes (hts) ?_; rintro _ _ ⟨rfl, rfl⟩ _ _; refine op ?_
          simp only [Option.getD_some]
          refine rn T 99 [] ?_
          refine rn T 99 [] ?_
          refine cfs ?_
          refine rn T 99 [] ?_
          refine rn T 99 [] ?_
          rcases hin with ⟨h, _⟩ | ⟨h, _⟩ | ⟨hk3, hl⟩ | ⟨rfl, hl⟩ | ⟨rfl, hp, hl⟩ | ⟨rfl, hp, hl⟩
          · exact absurd h k1
          · exact absurd h k2
          · obtain ⟨x, y, rfl⟩ := two_of (l := ts) (by omega)
            refine cfq rfl (by simp; omega) ?_
            refine rn T 99 [] ?_
            refine cfq rfl (by simp; omega) ?_
            refine rn T 99 [] ?_
            refine cfq rfl (by simp; omega) ?_
            rw [kk_3 p x y hk3]
            have cx := isNum2 (GE a) x.f0
            have cy := isNum2 (GE a) y.f0
            refine rn T 99 [pt x.f0] ?_
            by_cases hx : x.f0.length = 0
            · rw [decide_eq_true hx] at cx
              refine pcs (cx) ?_
              refine rn T 99 [pt y.f0] ?_
              by_cases hy : y.f0.length = 0
              · rw [decide_eq_true hy] at cy
                rw [if_pos ⟨hx, hy⟩]
                refine pcs (cy) ?_
                refine rn T 99 [] ?_
                refine cts ?_
                refine rn T 99 [] ?_
                exact rt2 T (pt []) eN ⟨rfl, rfl⟩
              · rw [decide_eq_false hy] at cy
                rw [if_neg (fun q => hy q.2)]
                refine pcs (cy) ?_
                refine rn T 99 [] ?_
                refine cfs ?_; try (first | refine dr3 ?_ | refine dr4 ?_)
                refine rn T 99 [] ?_
                exact rt2 T (pt []) (eE a) ⟨rfl, rfl⟩
            · rw [decide_eq_false hx] at cx
              rw [if_neg (fun q => hx q.1)]
              refine pcs (cx) ?_
              refine rn T 99 [] ?_
              refine cfs ?_; try (first | refine dr3 ?_ | refine dr4 ?_)
              refine rn T 99 [] ?_
              exact rt2 T (pt []) (eE a) ⟨rfl, rfl⟩
          · obtain ⟨⟨x⟩, ⟨y⟩, rfl⟩ := two_of (l := ts) (by omega)
            have qx : dp 4 x = true := q2 ⟨x⟩ (by simp)
            have qy : dp 4 y = true := q2 ⟨y⟩ (by simp)
            refine cfq rfl (by simp) ?_
            refine rn T 99 [] ?_
            refine cfq rfl (by simp) ?_
            refine rn T 99 [] ?_
            refine cts ?_; try (first | refine dr3 ?_ | refine dr4 ?_)
            rw [show kk 6 p [⟨x⟩, ⟨y⟩] = if dp 4 [⟨x⟩, ⟨y⟩] = true then some [⟨x⟩, ⟨y⟩] else none from rfl]
            refine rn T 99 [pt x, pt y] ?_
            refine pcs (pair2 (GE a) 4 x y qx qy) ?_
            refine rn T 99 [] ?_
            have cp := typeOk (GE a) [⟨x⟩, ⟨y⟩]
            refine rn T 99 [] ?_
            cases hd : dp 4 [⟨x⟩, ⟨y⟩] with
            | true =>
              rw [hd] at cp
              refine pcs (cp) ?_
              refine cts ?_
              refine rn T 99 [] ?_
              rw [if_pos rfl]
              exact rt2 T (pt [⟨x⟩, ⟨y⟩]) eN ⟨rfl, rfl⟩
            | false =>
              rw [hd] at cp
              refine pcs (cp) ?_
              refine cfs ?_; try (first | refine dr3 ?_ | refine dr4 ?_)
              refine rn T 99 [] ?_
              rw [if_neg (by simp)]
              exact rt2 T (pt []) (eE a) ⟨rfl, rfl⟩
          · obtain ⟨x, rfl⟩ : ∃ x, ts = [x] := by
              match ts, (show ts.length = 1 by omega) with
              | [x], _ => exact ⟨x, rfl⟩
            refine cts ?_; try (first | refine dr3 ?_ | refine dr4 ?_)
            rw [show kk 7 p [x] = pf p x.f0 from rfl]
            have cp := partAt (GE a) x.f0 p (path_len hp)
            refine rn T 99 [pt x.f0] ?_
            cases hq : pf p x.f0 with
            | none =>
              rw [hq] at cp
              refine pcs (cp) ?_
              refine rn T 99 [] ?_
              refine rn T 99 [] ?_
              refine cfs ?_; try (first | refine dr3 ?_ | refine dr4 ?_)
              refine rn T 99 [] ?_
              exact rt2 T (pt []) (eE a) ⟨rfl, rfl⟩
            | some u =>
              rw [hq] at cp
              refine pcs (cp) ?_
              refine rn T 99 [] ?_
              refine rn T 99 [] ?_
              refine cts ?_
              refine rn T 99 [] ?_
              exact rt2 T (pt u) eN ⟨rfl, rfl⟩
          · obtain ⟨x, y, rfl⟩ := two_of (l := ts) (by omega)
            refine cfq rfl (by simp) ?_
            refine rn T 99 [] ?_
            refine cts ?_; try (first | refine dr3 ?_ | refine dr4 ?_)
            rw [show kk 8 p [x, y] = (match pf p x.f0 with | some u => if teq 4 u y.f0 = true then some x.f0 else none | none => none) from rfl]
            have cp := partAt (GE a) x.f0 p (path_len hp)
            refine rn T 99 [pt x.f0] ?_
            cases hq : pf p x.f0 with
            | none =>
              rw [hq] at cp
              refine pcs (cp) ?_
              refine rn T 99 [] ?_; try (first | refine dr3 ?_ | refine dr4 ?_)
              refine rn T 99 [] ?_
              refine cfs ?_; try (first | refine dr3 ?_ | refine dr4 ?_)
              refine rn T 99 [] ?_
              exact rt2 T (pt []) (eE a) ⟨rfl, rfl⟩
            | some u =>
              rw [hq] at cp
              have cs := same2 (GE a) 4 u y.f0 (dp_pf 4 _ _ _ (q2 x (by simp)) hq) (q2 y (by simp))
              refine pcs (cp) ?_
              refine rn T 99 [] ?_; try (first | refine dr3 ?_ | refine dr4 ?_)
              refine rn T 99 [pt y.f0] ?_
              simp only
              cases hs : teq 4 u y.f0 with
              | true =>
                rw [hs] at cs
                refine pcs (cs) ?_
                refine rn T 99 [] ?_
                refine cts ?_
                refine rn T 99 [pt x.f0] ?_
                rw [if_pos rfl]
                exact rt2 T (pt x.f0) eN ⟨rfl, rfl⟩
              | false =>
                rw [hs] at cs
                refine pcs (cs) ?_
                refine rn T 99 [] ?_
                refine cfs ?_; try (first | refine dr3 ?_ | refine dr4 ?_)
                refine rn T 99 [] ?_
                rw [if_neg (by simp)]
                exact rt2 T (pt []) (eE a) ⟨rfl, rfl⟩
end Go.Proofs.YtlcmokgnmlklnaaDoor.K
end
section
namespace Go.Proofs.YtlcmokgnmlklnaaDoor.K
open Go Go.RowKit Go.Proofs.YtlcmokgnmlklnaaDoor.En Go.Proofs.YtlcmokgnmlklnaaDoor.Ty Go.Proofs.YtlcmokgnmlklnaaDoor.B
set_option maxRecDepth 100000
set_option linter.unusedSimpArgs false
set_option linter.unusedVariables false
set_option pp.deepTerms false
set_option pp.deepTerms.threshold 8
set_option pp.maxSteps 1000
set_option maxHeartbeats 1000000
def gl (ns : List ByteArray) (ts : List Tn) (s : ByteArray) : Nat → Option Ty
  | 0 => none
  | m + 1 => match ns[m]?, ts[m]? with
    | some x, some u => if (x == s) = true then some u.f0 else gl ns ts s m
    | _, _ => none
abbrev HE (ns : List ByteArray) (ts : List Tn) : List AObj := [.box 51 [.p (.row 1 (ns.map ps)), .p (.row 1 (ts.map eT))]]
abbrev GR (o : Option Ty) (H : List AObj) : TV → List AObj → Prop := fun r H' => r = .tp [.p (pt (o.getD [])), .p (pb o.isSome)] ∧ H = H'
theorem hsh_HE (ns : List ByteArray) (ts : List Tn) : HSh (HE ns ts) := fun i o h => by
  match i, h with
  | 0, h => cases h; intro x hx; simp at hx; rcases hx with rfl | rfl <;> exact .p
theorem wkM1 {n : Nat} (h : n ≤ 1000) : IntKind.i64.wrap ((n : Int) - 1) = (n : Int) - 1 := wk (by omega) (by omega)
theorem get1 (G : Nat → Option PV) (ns : List ByteArray) (ts : List Tn) (s : ByteArray) (hl : ns.length = ts.length) (hb : ns.length ≤ 60) :
    FE Tryd.prog G 33 [.ptr (.S 0) 0, .p (ps s)] (HE ns ts) (GR (gl ns ts s ns.length) (HE ns ts)) := by
  refine ⟨?_, _, _, ⟨rfl, rfl⟩, all2 _ _, hsh_HE ns ts⟩
  refine bdy Tryd.func33 (fun _ => 0) rfl ?_
  refine rn T 99 [] ?_
  refine rn T 99 [] ?_
  rw [List.length_map, wkM1 (by omega)]
  refine lpw (fun x : Nat => MS.mk [(6, .p (pi ((x : Int) - 1))), (5, .p (pb false)), (0, .ptr (.S 0) 0), (1, .p (ps s)), (4, .ptr (.L 4) 0)] 34 [(4, .box 32 [.nil])] (HE ns ts)) (fun m x => m = x ∧ x ≤ ns.length ∧ gl ns ts s x = gl ns ts s ns.length) (ns.length) (ns.length) (by simp) ?_
  intro m x ⟨h1, h2, h3⟩
  subst h1
  refine op ?_
  refine rn T 99 [] ?_
  match m with
  | 0 =>
    refine cfs ?_
    refine rn T 99 [] ?_
    rw [← h3]
    exact rt2 T _ _ ⟨rfl, rfl⟩
  | i + 1 =>
    have hx : ns[i]? = some (ns[i]'(by omega)) := List.getElem?_eq_getElem _
    have hy : ts[i]? = some (ts[i]'(by omega)) := List.getElem?_eq_getElem _
    generalize ns[i]'(by omega) = x at hx
    generalize ts[i]'(by omega) = u at hy
    rw [gl, hx, hy] at h3
    rw [show ((i + 1 : Nat) : Int) - 1 = (i : Int) by omega]
    refine ctq rfl (by simp) ?_
    refine rn T 99 [ps x] ?_
    simp only at h3
    cases hv : (x == s) with
    | true =>
      rw [hv, if_pos rfl] at h3
      refine cts ?_
      refine rn T 99 [pt u.f0] ?_
      rw [← h3]
      exact rt2 T (pt u.f0) _ ⟨rfl, rfl⟩
    | false =>
      rw [hv, if_neg (by simp)] at h3
      refine cfs ?_
      refine rn T 99 [] ?_
      rw [wkM1 (by omega)]
      refine nxt (i) (i) (⟨rfl, by omega, h3⟩)
abbrev envS (ns : List ByteArray) (ts : List Tn) : ByteArray → Ty := fun s => (gl ns ts s ns.length).getD []
theorem term1 (G : Nat → Option PV) (ns : List ByteArray) (ts : List Tn) (hl : ns.length = ts.length) (hb : ns.length ≤ 60) (hdp : ∀ s, dp 4 (envS ns ts s) = true) (nm : ByteArray → Bool) (hnm : ∀ s, nm s = true → (gl ns ts s ns.length).isSome = true) : ∀ (n : Nat) (t : Mn), tk nm n t = true →
    FE Tryd.prog G 19 [.ptr (.S 0) 0, .p (pm t)] (HE ns ts) (fun r H' => ∃ T, r = .tp [.p (pt T), .p (pb (kd (envS ns ts) n t).isSome)] ∧ (∀ u, kd (envS ns ts) n t = some u → T = u) ∧ HE ns ts = H') := by
  intro n
  induction n with
  | zero => intro t h; cases h
  | succ n ih =>
    intro ⟨k, m, s, p, l⟩ h
    have hin := tkH_inv (tk_here h)
    have hl2 : l.length ≤ 2 := by
      rcases hin with ⟨_, rfl⟩ | ⟨_, _, rfl⟩ | ⟨_, h⟩ | ⟨_, h⟩ | ⟨_, _, h⟩ | ⟨_, _, h⟩ <;> simp_all
    have ihx : ∀ x ∈ l, _ := fun x hx => ih x (tk_kids h hx)
    refine ⟨?_, .tp [.p (pt ((kd (envS ns ts) (n + 1) ⟨k, m, s, p, l⟩).getD [])), .p (pb (kd (envS ns ts) (n + 1) ⟨k, m, s, p, l⟩).isSome)], _, ⟨_, rfl, fun u hu => by rw [hu]; rfl, rfl⟩, all2 _ _, hsh_HE ns ts⟩
    show FC _ _ _ [_, .p (.ag [pi k, pi m, ps s, .row 1 (p.map pi), .row 5 (l.map eM)])] _ _
    refine bdy Tryd.func19 (fun _ => 0) rfl ?_
    refine rn T 99 [] ?_
    refine rn T 99 [] ?_
    refine rn T 99 [] ?_
    by_cases k1 : k = 1
    · subst k1
      refine cts ?_
      refine rn T 99 [] ?_
      exact rt2 T (pt []) _ ⟨_, rfl, fun u hu => by cases hu; rfl, rfl⟩
    · refine cfq rfl (by simp [k1]) ?_
      refine rn T 99 [] ?_
      by_cases k2 : k = 2
      · subst k2
        refine cts ?_
        refine rn T 99 [] ?_
        have hs : nm s = true := by
          rcases hin with ⟨h, _⟩ | ⟨_, h, _⟩ | ⟨h, _⟩ | ⟨h, _⟩ | ⟨h, _⟩ | ⟨h, _⟩
          · cases h
          · exact h
          all_goals first | (cases h; done) | (rcases h with h | h | h <;> cases h)
        have hg := get1 G ns ts s hl hb
        obtain ⟨v, hv⟩ := Option.isSome_iff_exists.1 (hnm s hs)
        rw [hv] at hg
        refine hes (hg) ?_; rintro _ _ ⟨rfl, rfl⟩ _ _; refine op ?_
        simp only [Option.getD_some]
        refine rn T 99 [] ?_
        exact rt2 T (pt v) _ ⟨_, rfl, fun u hu => by cases hu; show _ = (gl ns ts s ns.length).getD []; rw [hv]; rfl, rfl⟩
      · refine cfq rfl (by simp [k2]) ?_
        refine rn T 99 [] ?_
        have hkd : kd (envS ns ts) (n + 1) ⟨k, m, s, p, l⟩ = match kds (kd (envS ns ts) n) l with | none => none | some us => kk k p us := by
          show (if k = 1 then _ else if k = 2 then _ else _) = _
          rw [if_neg k1, if_neg k2]
          rfl
        rw [hkd]
        refine rn T 99 [] ?_
        refine lpw (fun x : List Tn => MS.mk [(8, .p (pi (x.length))), (7, .vw (.L 28) x.length), (0, .ptr (.S 0) 0), (3, .ptr (.L 3) 0), (4, .ptr (.L 4) 0), (6, .ptr (.L 6) 0)] 107 [(28, .rw 1 32 (x.map eT)), (3, .box 28 [.p (pi k), .p (pi m), .p (ps s), .p (.row 1 (p.map pi)), .p (.row 5 (l.map eM))]), (4, .box 32 [.nil]), (6, .box 32 [.nil])] (HE ns ts)) (fun mm x => mm + x.length = l.length ∧ kds (kd (envS ns ts) n) l = (kds (kd (envS ns ts) n) (l.drop x.length)).map (x ++ ·)) (l.length) ([]) (by simp) ?_
        intro mm x ⟨h1, h2⟩
        have hq : (x.map eT).length = x.length := by simp
        refine op ?_
        refine rn T 99 [] ?_
        by_cases hi : x.length < l.length
        · obtain ⟨y, hy, hd⟩ := drop_ix hi
          refine ctq rfl (by simp at hi ⊢; omega) ?_
          have hr1 : x.length ≤ 2 := by omega
          refine rn T 99 [pm y] ?_
          have hc := ihx y (List.mem_of_getElem? hy)
          rw [hd] at h2
          cases hf : kd (envS ns ts) n y with
          | none =>
            rw [hf] at hc
            have hk : kds (kd (envS ns ts) n) l = none := by rw [h2, kds_cons, hf]; rfl
            refine hes (hc) ?_; rintro _ _ ⟨V, rfl, _, rfl⟩ _ _; refine op ?_
            refine rn T 99 [] ?_
            refine rn T 99 [] ?_
            refine cts ?_
            refine rn T 99 [] ?_
            rw [hk]
            exact rt2 T (pt []) (pb false) ⟨_, rfl, fun u hu => (nomatch hu), rfl⟩
          | some v =>
            rw [hf] at hc
            refine hes (hc) ?_; rintro _ _ ⟨V, rfl, hV, rfl⟩ _ _; refine op ?_
            obtain rfl := hV v rfl
            refine rn T 99 [] ?_
            refine rn T 99 [] ?_
            refine cfs ?_
            refine rn T 99 [] ?_
            refine rn T 99 [] ?_
            have hap : x.map eT ++ [pt V] = (x ++ [(⟨V⟩ : Tn)]).map eT := by simp [eT_eq, Tn.f0]
            rw [hq, show x.length + [pt V].length = (x ++ [(⟨V⟩ : Tn)]).length by simp, wkS (by omega), show x.length + 1 = (x ++ [(⟨V⟩ : Tn)]).length by simp]
            have hm : 0 < mm := by omega
            refine nxt (mm - 1) (x ++ [⟨V⟩]) (⟨by simp at h1 ⊢; omega, by rw [h2, kds_cons, hf, show (x ++ [(⟨V⟩ : Tn)]).length = x.length + 1 by simp]; cases kds (kd (envS ns ts) n) (l.drop (x.length + 1)) <;> simp⟩)
        · refine cfq rfl (by simp at hi ⊢; omega) ?_
          refine rn T 99 [] ?_
          have hk : kds (kd (envS ns ts) n) l = some x := by rw [h2, List.drop_eq_nil_of_le (by omega)]; simp [kds]
          rw [hk]
          simp only
          obtain ⟨q1, q2⟩ := kds_dp _ _ _ (fun x _ u hu => kd_dp _ hdp n x u hu) hk
          refine rn T 99 [] ?_
          rcases hin with ⟨h, _⟩ | ⟨h, _⟩ | ⟨hk3, hll⟩ | ⟨rfl, hll⟩ | ⟨rfl, hp, hll⟩ | ⟨rfl, hp, hll⟩
          · exact absurd h k1
          · exact absurd h k2
          · obtain ⟨⟨x⟩, ⟨y⟩, rfl⟩ := two_of (l := x) (by omega)
            refine cfq rfl (by simp; omega) ?_
            refine rn T 99 [] ?_
            refine cfq rfl (by simp; omega) ?_
            refine rn T 99 [] ?_
            refine cfq rfl (by simp; omega) ?_; try (first | refine dr1 ?_ | refine dr2 ?_ | refine dr3 ?_ | refine dr4 ?_)
            have hkk : kk k p [⟨x⟩, ⟨y⟩] = if x.length = 0 ∧ y.length = 0 then some [] else none := kk_3 p ⟨x⟩ ⟨y⟩ hk3
            rw [hkk]
            refine rn T 99 [pt x, pt y] ?_
            simp only [List.length_map]
            have lx := dp_len 4 x (q2 ⟨x⟩ (by simp))
            have ly := dp_len 4 y (q2 ⟨y⟩ (by simp))
            rw [wk (by omega) (by omega)]
            by_cases hxy : x.length = 0 ∧ y.length = 0
            · rw [if_pos hxy, show (((x.length : Int) + (y.length : Int)) == 0) = true by simp; omega]
              exact rt2 T (pt []) (pb true) ⟨_, rfl, fun u hu => by cases hu; rfl, rfl⟩
            · rw [if_neg hxy, show (((x.length : Int) + (y.length : Int)) == 0) = false by simp; omega]
              exact rt2 T (pt []) (pb false) ⟨_, rfl, fun u hu => (nomatch hu), rfl⟩
          · obtain ⟨⟨x⟩, ⟨y⟩, rfl⟩ := two_of (l := x) (by omega)
            refine cfs ?_
            refine rn T 99 [] ?_
            refine cfs ?_
            refine rn T 99 [] ?_
            refine cts ?_
            refine rn T 99 [] ?_; try (first | refine dr1 ?_ | refine dr2 ?_ | refine dr3 ?_ | refine dr4 ?_)
            refine rn T 99 [] ?_
            have cp := ok1 G [⟨x⟩, ⟨y⟩]
            rw [show kk 6 p [⟨x⟩, ⟨y⟩] = if dp 4 [⟨x⟩, ⟨y⟩] = true then some [⟨x⟩, ⟨y⟩] else none from rfl]
            cases hd : dp 4 [⟨x⟩, ⟨y⟩] with
            | true =>
              rw [hd] at cp
              refine pcs (cp) ?_
              refine rn T 99 [] ?_
              rw [if_pos rfl]
              exact rt2 T (pt [⟨x⟩, ⟨y⟩]) _ ⟨_, rfl, fun u hu => by cases hu; rfl, rfl⟩
            | false =>
              rw [hd] at cp
              refine pcs (cp) ?_
              refine rn T 99 [] ?_
              rw [if_neg (by simp)]
              exact rt2 T (pt [⟨x⟩, ⟨y⟩]) (pb false) ⟨_, rfl, fun u hu => (nomatch hu), rfl⟩
          · obtain ⟨⟨x⟩, rfl⟩ : ∃ y, x = [y] := by
              match x, (show x.length = 1 by omega) with
              | [y], _ => exact ⟨y, rfl⟩
            refine cts ?_; try (first | refine dr1 ?_ | refine dr2 ?_ | refine dr3 ?_ | refine dr4 ?_)
            have cp := typeAt1 G x p (path_len hp)
            have qx : dp 4 x = true := q2 ⟨x⟩ (by simp)
            rw [tat, if_pos qx] at cp
            rw [show kk 7 p [⟨x⟩] = pf p x from rfl]
            refine rn T 99 [pt x] ?_
            cases hq : pf p x with
            | none =>
              rw [hq] at cp
              refine pcs (cp) ?_
              refine rn T 99 [] ?_
              exact rt2 T (pt []) (pb false) ⟨_, rfl, fun u hu => (nomatch hu), rfl⟩
            | some v =>
              rw [hq] at cp
              refine pcs (cp) ?_
              refine rn T 99 [] ?_
              exact rt2 T (pt v) _ ⟨_, rfl, fun u hu => by cases hu; rfl, rfl⟩
          · obtain ⟨⟨x⟩, ⟨y⟩, rfl⟩ := two_of (l := x) (by omega)
            refine cfs ?_
            refine rn T 99 [] ?_
            refine cts ?_; try (first | refine dr1 ?_ | refine dr2 ?_ | refine dr3 ?_ | refine dr4 ?_)
            have cp := typeAt1 G x p (path_len hp)
            have qx : dp 4 x = true := q2 ⟨x⟩ (by simp)
            rw [tat, if_pos qx] at cp
            rw [show kk 8 p [⟨x⟩, ⟨y⟩] = (match pf p x with | some u => if teq 4 u y = true then some x else none | none => none) from rfl]
            refine rn T 99 [pt x] ?_
            cases hq : pf p x with
            | none =>
              rw [hq] at cp
              refine pcs (cp) ?_
              refine rn T 99 [] ?_; try (first | refine dr1 ?_ | refine dr2 ?_ | refine dr3 ?_ | refine dr4 ?_)
              refine rn T 99 [pt x] ?_
              exact rt2 T (pt x) (pb false) ⟨_, rfl, fun u hu => (nomatch hu), rfl⟩
            | some v =>
              rw [hq] at cp
              have cs := same1 G 4 v y (dp_pf 4 _ _ _ qx hq) (q2 ⟨y⟩ (by simp))
              refine pcs (cp) ?_
              refine rn T 99 [] ?_; try (first | refine dr1 ?_ | refine dr2 ?_ | refine dr3 ?_ | refine dr4 ?_)
              refine rn T 99 [pt x, pt y] ?_
              simp only
              cases hs : teq 4 v y with
              | true =>
                rw [hs] at cs
                refine pcs (cs) ?_
                refine rn T 99 [] ?_
                rw [if_pos rfl]
                exact rt2 T (pt x) _ ⟨_, rfl, fun u hu => by cases hu; rfl, rfl⟩
              | false =>
                rw [hs] at cs
                refine pcs (cs) ?_
                refine rn T 99 [] ?_
                rw [if_neg (by simp)]
                exact rt2 T (pt x) (pb false) ⟨_, rfl, fun u hu => (nomatch hu), rfl⟩
end Go.Proofs.YtlcmokgnmlklnaaDoor.K
end
