-- YtglkkbgflnpjeaaGreatDoor's texts for the statement FnSimpNum, one behind the other (merge.py).
import Derived.WalkKit
import Derived.Below
import Derived.RowKit
import Derived.Laws.OwnMore
import Derived.Laws.MakeOwn
import Derived.Deep.MidRow
import Derived.Maps.OwnOps
import Derived.Orders
import Derived.Test.YtglkkbgflnpjeaaGreatDoorProg
import Derived.LaidEql
import Derived.WideLaws
section
namespace Go.Proofs.YtglkkbgflnpjeaaGreatDoor.En
set_option linter.unusedVariables false
set_option linter.unusedSimpArgs false
open Go Go.RowKit
inductive Nm where
  | L (t : Nat)
  | S (i : Nat)
  deriving DecidableEq
inductive PV where
  | c (v : Value)
  | ag (l : List PV)
  | ifc (t : TypeId) (v : PV)
  | row (z : Nat) (xs : List PV)
  | own (z t : Nat) (xs : List PV)
  | any
def PV.cells : PV → List PV
  | .ag l => l
  | v => [v]
def flat (xs : List PV) : List PV := xs.flatMap PV.cells
theorem flat_nil : flat [] = [] := rfl
theorem flat_cons (x : PV) (xs : List PV) : flat (x :: xs) = x.cells ++ flat xs := by simp [flat]
theorem flat_append (xs ys : List PV) : flat (xs ++ ys) = flat xs ++ flat ys := by simp [flat]
theorem flat_len {z : Nat} : ∀ {xs : List PV}, (∀ x ∈ xs, x.cells.length = z) → (flat xs).length = xs.length * z
  | [], _ => by simp [flat]
  | x :: xs, h => by
    rw [flat_cons, List.length_append, h x (by simp), flat_len (fun y hy => h y (by simp [hy])), List.length_cons, Nat.succ_mul]
    omega
theorem flat_get {z : Nat} : ∀ {xs : List PV} (_ : ∀ x ∈ xs, x.cells.length = z) {i : Nat} {x : PV} (_ : xs[i]? = some x) (j : Nat), j < z → (flat xs)[i * z + j]? = x.cells[j]?
  | [], _, i, x, hi, _, _ => by simp at hi
  | y :: ys, h, 0, x, hi, j, hj => by
    simp only [List.getElem?_cons_zero, Option.some.injEq] at hi
    subst hi
    rw [flat_cons, Nat.zero_mul, Nat.zero_add, List.getElem?_append_left (by rw [h y (by simp)]; exact hj)]
  | y :: ys, h, i + 1, x, hi, j, hj => by
    simp only [List.getElem?_cons_succ] at hi
    have hl := h y (by simp)
    rw [flat_cons, List.getElem?_append_right (by rw [hl, Nat.succ_mul]; omega), hl, show (i + 1) * z + j - z = i * z + j by rw [Nat.succ_mul]; omega]
    exact flat_get (fun u hu => h u (by simp [hu])) hi j hj
inductive PRep (w : World) (S : Nat → Nat → Prop) : PV → Value → Prop
  | c {v : Value} (h : v.oneCell' = true) : PRep w S (.c v) v
  | ag {l : List PV} {A : List Value} (hs : A.length = l.length) (h : ∀ (k : Nat) y u, l[k]? = some y → A[k]? = some u → PRep w S y u) (h1 : ∀ u ∈ A, u.oneCell' = true) : PRep w S (.ag l) (.agg A.toArray)
  | ifc {t : TypeId} {v : PV} {u : Value} (h : PRep w S v u) : PRep w S (.ifc t v) (.iface t u)
  | nl {z : Nat} {a : Option Addr} {c : Nat} : PRep w S (.row z []) (.slice a 0 c)
  | row {z : Nat} {xs : List PV} {b off c : Nat} (U : Nat → Value) (hc : xs.length ≤ c) (hz : ∀ x ∈ xs, x.cells.length = z)
      (hU : ∀ (k : Nat) y, (flat xs)[k]? = some y → PRep w S y (U k))
      (hcell : ∀ k, k < xs.length * z → S b (off + k) ∧ w.cell? ⟨b, off + k, none⟩ = some (U k) ∧ (U k).oneCell' = true) : PRep w S (.row z xs) (.slice (some ⟨b, off, none⟩) xs.length c)
theorem PRep.move {w w' : World} {S S' : Nat → Nat → Prop} (hm : ∀ b i, S b i → S' b i ∧ w'.cell? ⟨b, i, none⟩ = w.cell? ⟨b, i, none⟩) {v : PV} {V : Value} (h : PRep w S v V) : PRep w' S' v V := by
  induction h with
  | c h => exact .c h
  | ag hs h h1 ih => exact .ag hs ih h1
  | ifc h ih => exact .ifc ih
  | nl => exact .nl
  | row U hc hz hU hcell ih =>
    refine .row U hc hz ih (fun k hk => ?_)
    obtain ⟨h1, h2, h3⟩ := hcell k hk
    obtain ⟨h4, h5⟩ := hm _ _ h1
    exact ⟨h4, h5.trans h2, h3⟩
theorem PRep.one {w : World} {S : Nat → Nat → Prop} {v : PV} {V : Value} (h : PRep w S v V) (hv : ∀ l, v ≠ .ag l) : V.oneCell' = true := by
  cases h with
  | c h => exact h
  | ag => exact absurd rfl (hv _)
  | ifc => rfl
  | nl => rfl
  | row => rfl
inductive TV where
  | p (v : PV)
  | o (v : PV)
  | ip (n : Nm) (len z i off : Nat)
  | u
  | nil
  | ag (l : List TV)
  | tp (l : List TV)
  | ptr (n : Nm) (off : Nat)
  | pe (l : List PV)
  | vw (n : Nm) (len : Nat)
  | sl (n : Nm) (len : Nat)
  | mp (n : Nm)
  | fn (f : FuncId) (l : List TV)
  | bf (f : FuncId) (l : List TV)
inductive AObj where
  | box (t : TypeId) (l : List TV)
  | rw (z : Nat) (t : TypeId) (xs : List PV)
  | mp (es : List (ByteArray × PV))
  | ow (z : Nat) (t : TypeId) (ks : List Nm) (xs : List (List TV))
  | gone
structure GV where
  v : Value
  B : Nat → Prop
structure Env where
  w : World
  S : Nat → Nat → Prop
  g : Nm → GV
  ln : Nm → Option Nat
  nH : Nat
def Nm.lt (n : Nm) (k : Nat) : Prop := match n with
  | .L _ => True
  | .S i => i < k
inductive TRep (Γ : Env) : TV → Value → Prop
  | p {v : PV} {V : Value} (h : PRep Γ.w Γ.S v V) : TRep Γ (.p v) V
  | u {V : Value} : TRep Γ .u V
  | nil : TRep Γ .nil (.slice none 0 0)
  | ag {l : List TV} {A : List Value} (hs : A.length = l.length) (h : ∀ (k : Nat) y u, l[k]? = some y → A[k]? = some u → TRep Γ y u) (h1 : ∀ u ∈ A, u.oneCell' = true) : TRep Γ (.ag l) (.agg A.toArray)
  | tp {l : List TV} {A : List Value} (hs : A.length = l.length) (h : ∀ (k : Nat) y u, l[k]? = some y → A[k]? = some u → TRep Γ y u) : TRep Γ (.tp l) (.tuple A.toArray)
  | ptr {n : Nm} {off b : Nat} (hn : n.lt Γ.nH) (h : (Γ.g n).v = .pointer (some ⟨b, 0, none⟩)) : TRep Γ (.ptr n off) (.pointer (some ⟨b, off, none⟩))
  | pe {l : List PV} {b off : Nat} (U : Nat → Value) (h : ∀ (k : Nat) y, l[k]? = some y → Γ.S b (off + k) ∧ Γ.w.cell? ⟨b, off + k, none⟩ = some (U k) ∧ (U k).oneCell' = true ∧ PRep Γ.w Γ.S y (U k)) : TRep Γ (.pe l) (.pointer (some ⟨b, off, none⟩))
  | vw {n : Nm} {len : Nat} {V : Value} (hn : n.lt Γ.nH) (h1 : V.oneCell' = true) (h : ∀ k, Γ.ln n = some k → len ≤ k ∧ (len = k → V = (Γ.g n).v)) : TRep Γ (.vw n len) V
  | ip {n : Nm} {len z i off b : Nat} (hn : n.lt Γ.nH) (h : ∀ k, Γ.ln n = some k → len ≤ k ∧ (len = k → ∃ c, (Γ.g n).v = .slice (some ⟨b, 0, none⟩) len c)) : TRep Γ (.ip n len z i off) (.pointer (some ⟨b, i * z + off, none⟩))
  | sl {n : Nm} {len c b : Nat} (hn : n.lt Γ.nH) (hc : len ≤ c) (h : (Γ.g n).v = .pointer (some ⟨b, 0, none⟩)) : TRep Γ (.sl n len) (.slice (some ⟨b, 0, none⟩) len c)
  | mp {n : Nm} {b : Nat} (hn : n.lt Γ.nH) (h : (Γ.g n).v = .map (some b)) : TRep Γ (.mp n) (.map (some b))
  | fn {f : FuncId} {l : List TV} {A : List Value} (hs : A.length = l.length) (h : ∀ (k : Nat) y u, l[k]? = some y → A[k]? = some u → TRep Γ y u) : TRep Γ (.fn f l) (.func (.func f) #[] A.toArray)
  | bf {f : FuncId} {l : List TV} {A : List Value} (hs : A.length = l.length) (h : ∀ (k : Nat) y u, l[k]? = some y → A[k]? = some u → TRep Γ y u) : TRep Γ (.bf f l) (.func (.func f) A.toArray #[])
inductive TV.All (q : Nm → Prop) : TV → Prop
  | p {v : PV} : TV.All q (.p v)
  | o {v : PV} : TV.All q (.o v)
  | ip {n : Nm} {len z i off : Nat} (h : q n) : TV.All q (.ip n len z i off)
  | u : TV.All q .u
  | nil : TV.All q .nil
  | ag {l : List TV} (h : ∀ x, x ∈ l → TV.All q x) : TV.All q (.ag l)
  | tp {l : List TV} (h : ∀ x, x ∈ l → TV.All q x) : TV.All q (.tp l)
  | ptr {n : Nm} {off : Nat} (h : q n) : TV.All q (.ptr n off)
  | pe {l : List PV} : TV.All q (.pe l)
  | vw {n : Nm} {len : Nat} (h : q n) : TV.All q (.vw n len)
  | sl {n : Nm} {len : Nat} (h : q n) : TV.All q (.sl n len)
  | mp {n : Nm} (h : q n) : TV.All q (.mp n)
  | fn {f : FuncId} {l : List TV} (h : ∀ x, x ∈ l → TV.All q x) : TV.All q (.fn f l)
  | bf {f : FuncId} {l : List TV} (h : ∀ x, x ∈ l → TV.All q x) : TV.All q (.bf f l)
theorem TV.All.mono {q q' : Nm → Prop} (hq : ∀ n, q n → q' n) {v : TV} (h : v.All q) : v.All q' := by
  induction h with
  | p => exact .p
  | o => exact .o
  | ip h => exact .ip (hq _ h)
  | u => exact .u
  | nil => exact .nil
  | ag _ ih => exact .ag ih
  | tp _ ih => exact .tp ih
  | ptr h => exact .ptr (hq _ h)
  | pe => exact .pe
  | vw h => exact .vw (hq _ h)
  | sl h => exact .sl (hq _ h)
  | mp h => exact .mp (hq _ h)
  | fn _ ih => exact .fn ih
  | bf _ ih => exact .bf ih
def AObj.All (q : Nm → Prop) : AObj → Prop
  | .box _ l => ∀ x ∈ l, x.All q
  | .rw .. => True
  | .mp _ => True
  | .ow _ _ ks _ => ∀ n ∈ ks, q n
  | .gone => True
theorem AObj.All.mono {q q' : Nm → Prop} (hq : ∀ n, q n → q' n) {o : AObj} (h : o.All q) : o.All q' := by
  cases o with
  | box t l => exact fun x hx => (h x hx).mono hq
  | rw => trivial
  | mp => trivial
  | ow z t ks xs => exact fun n hn => hq n (h n hn)
  | gone => trivial
def NmOk (Γ Γ' : Env) (n : Nm) : Prop :=
  ((Γ'.g n).v = (Γ.g n).v ∧ (Γ'.ln n = none ∨ Γ'.ln n = Γ.ln n)) ∨
  ((∃ a b c, (Γ.g n).v = .slice a b c) ∧ (Γ'.ln n = none ∨ ∃ k k', Γ.ln n = some k ∧ Γ'.ln n = some k' ∧ k < k'))
theorem NmOk.refl (Γ : Env) (n : Nm) : NmOk Γ Γ n := .inl ⟨rfl, .inr rfl⟩
theorem NmOk.trans {Γ Γ' Γ'' : Env} {n : Nm} (h : NmOk Γ Γ' n) (k : NmOk Γ' Γ'' n) : NmOk Γ Γ'' n := by
  rcases h with ⟨h1, h2⟩ | ⟨⟨a, b, c, h1⟩, h2⟩
  · rcases k with ⟨q1, q2⟩ | ⟨⟨a, b, c, q1⟩, q2⟩
    · refine .inl ⟨q1.trans h1, ?_⟩
      rcases q2 with q2 | q2
      · exact .inl q2
      · rcases h2 with h2 | h2
        · exact .inl (q2.trans h2)
        · exact .inr (q2.trans h2)
    · rcases q2 with q2 | ⟨k0, k1, q2, q3, q4⟩
      · exact .inr ⟨⟨a, b, c, h1 ▸ q1⟩, .inl q2⟩
      · rcases h2 with h2 | h2
        · rw [h2] at q2; cases q2
        · exact .inr ⟨⟨a, b, c, h1 ▸ q1⟩, .inr ⟨k0, k1, h2 ▸ q2, q3, q4⟩⟩
  · refine .inr ⟨⟨a, b, c, h1⟩, ?_⟩
    rcases k with ⟨q1, q2⟩ | ⟨_, q2⟩
    · rcases q2 with q2 | q2
      · exact .inl q2
      · rcases h2 with h2 | ⟨k0, k1, h2, h3, h4⟩
        · exact .inl (q2.trans h2)
        · exact .inr ⟨k0, k1, h2, q2.trans h3, h4⟩
    · rcases q2 with q2 | ⟨k0', k1', q2, q3, q4⟩
      · exact .inl q2
      · rcases h2 with h2 | ⟨k0, k1, h2, h3, h4⟩
        · rw [h2] at q2; cases q2
        · rw [h3] at q2; cases q2
          exact .inr ⟨k0, k1', h2, q3, by omega⟩
theorem Nm.lt_mono {n : Nm} {k k' : Nat} (h : n.lt k) (hk : k ≤ k') : n.lt k' := by
  cases n with
  | L => trivial
  | S i => exact Nat.lt_of_lt_of_le h hk
theorem TRep.move {Γ Γ' : Env} {q : Nm → Prop} (hS : ∀ b i, Γ.S b i → Γ'.S b i ∧ Γ'.w.cell? ⟨b, i, none⟩ = Γ.w.cell? ⟨b, i, none⟩) (hH : Γ.nH ≤ Γ'.nH) (hg : ∀ n, n.lt Γ.nH → q n → NmOk Γ Γ' n) {v : TV} {V : Value}
    (h : TRep Γ v V) (hq : v.All q) : TRep Γ' v V := by
  induction h with
  | p h => exact .p (h.move hS)
  | u => exact .u
  | nil => exact .nil
  | ag hs h h1 ih => cases hq with | ag hq => exact .ag hs (fun k y u hy hu => ih k y u hy hu (hq y (List.mem_of_getElem? hy))) h1
  | tp hs h ih => cases hq with | tp hq => exact .tp hs (fun k y u hy hu => ih k y u hy hu (hq y (List.mem_of_getElem? hy)))
  | ptr hn h =>
    cases hq with
    | ptr hq =>
      rcases hg _ hn hq with ⟨e, _⟩ | ⟨⟨a, b, c, e⟩, _⟩
      · exact .ptr (Nm.lt_mono hn hH) (e.trans h)
      · rw [h] at e; cases e
  | pe U h =>
    refine .pe U (fun k y hy => ?_)
    obtain ⟨h1, h2, h3, h4⟩ := h k y hy
    obtain ⟨h5, h6⟩ := hS _ _ h1
    exact ⟨h5, h6.trans h2, h3, h4.move hS⟩
  | vw hn h1 h =>
    cases hq with
    | vw hq =>
      refine .vw (Nm.lt_mono hn hH) h1 (fun k hk => ?_)
      rcases hg _ hn hq with ⟨e, h0 | h0⟩ | ⟨_, h0 | ⟨k0, k1, e0, e1, hlt⟩⟩
      · rw [h0] at hk; cases hk
      · rw [h0] at hk
        have h2 := h k hk
        exact ⟨h2.1, fun e2 => (h2.2 e2).trans e.symm⟩
      · rw [h0] at hk; cases hk
      · rw [e1] at hk
        cases hk
        have h2 := h k0 e0
        exact ⟨by omega, fun e2 => by omega⟩
  | ip hn h =>
    cases hq with
    | ip hq =>
      refine .ip (Nm.lt_mono hn hH) (fun k hk => ?_)
      rcases hg _ hn hq with ⟨e, h0 | h0⟩ | ⟨_, h0 | ⟨k0, k1, e0, e1, hlt⟩⟩
      · rw [h0] at hk; cases hk
      · rw [h0] at hk
        have h2 := h k hk
        exact ⟨h2.1, fun e2 => by obtain ⟨c, hc⟩ := h2.2 e2; exact ⟨c, e.trans hc⟩⟩
      · rw [h0] at hk; cases hk
      · rw [e1] at hk
        cases hk
        have h2 := h k0 e0
        exact ⟨by omega, fun e2 => by omega⟩
  | sl hn hc h =>
    cases hq with
    | sl hq =>
      rcases hg _ hn hq with ⟨e, _⟩ | ⟨⟨a, b, c, e⟩, _⟩
      · exact .sl (Nm.lt_mono hn hH) hc (e.trans h)
      · rw [h] at e; cases e
  | mp hn h =>
    cases hq with
    | mp hq =>
      rcases hg _ hn hq with ⟨e, _⟩ | ⟨⟨a, b, c, e⟩, _⟩
      · exact .mp (Nm.lt_mono hn hH) (e.trans h)
      · rw [h] at e; cases e
  | fn hs h ih => cases hq with | fn hq => exact .fn hs (fun k y u hy hu => ih k y u hy hu (hq y (List.mem_of_getElem? hy)))
  | bf hs h ih => cases hq with | bf hq => exact .bf hs (fun k y u hy hu => ih k y u hy hu (hq y (List.mem_of_getElem? hy)))
theorem TRep.names {Γ : Env} {v : TV} {V : Value} (h : TRep Γ v V) : v.All (fun n => n.lt Γ.nH) := by
  induction h with
  | p => exact .p
  | u => exact .u
  | nil => exact .nil
  | @ag l A hs h h1 ih =>
    refine .ag (fun x hx => ?_)
    obtain ⟨k, hk, rfl⟩ := List.mem_iff_getElem.1 hx
    exact ih k _ _ (List.getElem?_eq_getElem hk) (List.getElem?_eq_getElem (hs ▸ hk))
  | @tp l A hs h ih =>
    refine .tp (fun x hx => ?_)
    obtain ⟨k, hk, rfl⟩ := List.mem_iff_getElem.1 hx
    exact ih k _ _ (List.getElem?_eq_getElem hk) (List.getElem?_eq_getElem (hs ▸ hk))
  | ptr hn => exact .ptr hn
  | pe => exact .pe
  | vw hn => exact .vw hn
  | ip hn => exact .ip hn
  | sl hn => exact .sl hn
  | mp hn => exact .mp hn
  | @fn f l A hs h ih =>
    refine .fn (fun x hx => ?_)
    obtain ⟨k, hk, rfl⟩ := List.mem_iff_getElem.1 hx
    exact ih k _ _ (List.getElem?_eq_getElem hk) (List.getElem?_eq_getElem (hs ▸ hk))
  | @bf f l A hs h ih =>
    refine .bf (fun x hx => ?_)
    obtain ⟨k, hk, rfl⟩ := List.mem_iff_getElem.1 hx
    exact ih k _ _ (List.getElem?_eq_getElem hk) (List.getElem?_eq_getElem (hs ▸ hk))
end Go.Proofs.YtglkkbgflnpjeaaGreatDoor.En
end
section
namespace Go.Proofs.YtglkkbgflnpjeaaGreatDoor.PA
open Go.RowKit Go.MapKept
open Go.ChangeMaps (setBlock modify_eq_set heap_setBlock_same heap_setBlock_other)
theorem ba_beq {a b : ByteArray} : (a == b) = true ↔ a = b := by
  obtain ⟨x⟩ := a
  obtain ⟨y⟩ := b
  show (x == y) = true ↔ _
  simp
def MapIs (w : World) (a : Nat) (l : List (ByteArray × Value)) : Prop := ∃ es clock, w.heap[a]? = some (.map es clock) ∧ es.toList.map (fun e => (e.key, e.val)) = l.map (fun p => (Value.string p.1, p.2))
def mget (l : List (ByteArray × Value)) (s : ByteArray) : Option Value := (l.find? (fun p => s == p.1)).map (·.2)
def mput : List (ByteArray × Value) → ByteArray → Value → List (ByteArray × Value)
  | [], s, v => [(s, v)]
  | p :: l, s, v => if s == p.1 then (s, v) :: l else p :: mput l s v
theorem MapIs.lt {w : World} {a : Nat} {l} (h : MapIs w a l) : a < w.heap.size := by
  obtain ⟨es, clock, hb, _⟩ := h
  exact (Array.getElem?_eq_some_iff.1 hb).1
theorem MapIs.below {w w' : World} {a n : Nat} {l} (h : MapIs w a l) (hb : Below n w w') (hn : a < n) : MapIs w' a l := by
  obtain ⟨es, clock, h1, h2⟩ := h
  exact ⟨es, clock, (hb.block _ hn).trans h1, h2⟩
theorem MapIs.gd {w w' : World} {a : Nat} {l} (h : MapIs w a l) (hb : Below w.heap.size w w') : MapIs w' a l := h.below hb h.lt
theorem MapIs.alloc {w : World} {a : Nat} {l} (h : MapIs w a l) (o : Obj) : MapIs (w.alloc o) a l := h.gd ((Below.refl _ w).alloc (Nat.le_refl _) o)
theorem MapIs.drew {w : World} {a : Nat} {l} (h : MapIs w a l) : MapIs w.drew a l := h
theorem MapIs.made (w : World) : MapIs (w.alloc (.map #[] 0)) w.heap.size [] := ⟨#[], 0, (MapKept.heap_alloc w _).1, rfl⟩
theorem findNow_str (s : ByteArray) : ∀ (es : List MapEntry) (l : List (ByteArray × Value)) (i : Nat), es.map (fun e => (e.key, e.val)) = l.map (fun p => (Value.string p.1, p.2)) →
    (Instr.findNow .string (.string s) es i = some none ∧ mget l s = none ∧ ∀ v, mput l s v = l ++ [(s, v)]) ∨
    ∃ j e, Instr.findNow .string (.string s) es i = some (some (i + j, e.val)) ∧ es[j]? = some e ∧ e.key = .string s ∧ mget l s = some e.val ∧ ∀ v, (es.set j { e with key := .string s, val := v }).map (fun e => (e.key, e.val)) = (mput l s v).map (fun p => (Value.string p.1, p.2))
  | [], [], i, _ => .inl ⟨rfl, rfl, fun _ => rfl⟩
  | [], _ :: _, _, h => by simp at h
  | _ :: _, [], _, h => by simp at h
  | e :: es, p :: l, i, h => by
    simp only [List.map_cons, List.cons.injEq, Prod.mk.injEq] at h
    obtain ⟨⟨hk, hv⟩, ht⟩ := h
    by_cases hs : (s == p.1) = true
    · have e1 : s = p.1 := ba_beq.1 hs
      refine .inr ⟨0, e, ?_, rfl, by rw [hk, e1], ?_, fun v => ?_⟩
      · simp only [Instr.findNow, Instr.sameNow, hk, hs, Nat.add_zero]
      · simp only [mget, List.find?_cons, hs, Option.map_some, hv]
      · simp only [List.set_cons_zero, List.map_cons, mput, hs, if_true, ht]
    · have hs' : (s == p.1) = false := by simpa using hs
      rcases findNow_str s es l (i + 1) ht with ⟨h1, h2, h3⟩ | ⟨j, e', h1, h2, h3, h4, h5⟩
      · refine .inl ⟨?_, ?_, fun v => ?_⟩
        · simp only [Instr.findNow, Instr.sameNow, hk, hs', h1]
        · simpa only [mget, List.find?_cons, hs'] using h2
        · simp only [mput, hs', h3, List.cons_append]; rfl
      · refine .inr ⟨j + 1, e', ?_, by simpa using h2, h3, ?_, fun v => ?_⟩
        · simp only [Instr.findNow, Instr.sameNow, hk, hs', h1]; congr 3; omega
        · simpa only [mget, List.find?_cons, hs'] using h4
        · have := h5 v
          simp only [List.set_cons_succ, List.map_cons, mput, hs']
          rw [this]
          simp [hk, hv]
section
variable {P : Program} {t k e : TypeId} {w : World} {a : Nat} {l : List (ByteArray × Value)}
theorem run_findKey_str (hk : P.underlying k = some .string) (s : ByteArray) (es : List MapEntry) {r : Option (Nat × Value)} (h : Instr.findNow .string (.string s) es 0 = some r) : (Instr.findKey k (.string s) es).run P w = .ok r w := by
  simp [Instr.findKey, run_underlying hk, h, Result.andThen]
theorem run_checkKey_str (hk : P.underlying k = some .string) (b : Bool) (s : ByteArray) : (Instr.checkKey b 10000 k (.string s)).run P w = .ok () w := by
  rw [show (10000 : Nat) = 9999 + 1 from rfl]
  unfold Instr.checkKey
  simp [run_underlying hk, Result.andThen]
theorem map_lookup (ht : P.underlying t = some (.map k e)) (hk : P.underlying k = some .string) (hm : MapIs w a l) {z : Value} (hz : (zeroValue e).run P w = .ok z w) (s : ByteArray) (c : Bool) :
    (Instr.lookup t (.map (some a)) (.string s) c).run P w = .ok (if c then .tuple #[(mget l s).getD z, .bool (mget l s).isSome] else (mget l s).getD z) w := by
  obtain ⟨es, clock, hb, he⟩ := hm
  rcases findNow_str s es.toList l 0 he with ⟨h1, h2, _⟩ | ⟨j, e', h1, _, _, h4, _⟩
  · simp [Instr.lookup, run_underlying ht, MapKept.run_getObj_map hb, run_checkKey_str hk, run_findKey_str hk s _ h1, hz, h2, Result.andThen]
  · simp [Instr.lookup, run_underlying ht, MapKept.run_getObj_map hb, run_checkKey_str hk, run_findKey_str hk s _ h1, h4, Result.andThen]
theorem run_stays_str (s : ByteArray) : (Instr.keyThatStays (.string s) (.string s)).run P w = .ok (.string s) w := by
  have h : (s == s) = true := ba_beq.2 rfl
  simp [Instr.keyThatStays, Instr.sameBits, h]
theorem map_update (ht : P.underlying t = some (.map k e)) (hk : P.underlying k = some .string) (hm : MapIs w a l) (s : ByteArray) (v : Value) :
    ∃ w', (Instr.mapUpdate t (.map (some a)) (.string s) v).run P w = .ok () w' ∧ MapIs w' a (mput l s v) ∧ w.grownBy w' (some a) := by
  obtain ⟨es, clock, hb, he⟩ := hm
  rcases findNow_str s es.toList l 0 he with ⟨h1, h2, h3⟩ | ⟨j, e', h1, h2, h3, h4, h5⟩
  · refine ⟨setBlock w a (.map (es.push ⟨.string s, v, clock⟩) (clock + 1)), ?_, ⟨_, _, heap_setBlock_same hb _, ?_⟩, ⟨rfl, rfl, rfl, by simp [setBlock], fun i _ hi => heap_setBlock_other hb _ (fun e => hi (by rw [e]))⟩⟩
    · simp [Instr.mapUpdate, run_underlying ht, MapKept.run_getObj_map hb, run_checkKey_str hk, run_findKey_str hk s _ h1, MapKept.run_setObj_map _ hb, Result.andThen, setBlock]
    · rw [h3, Array.toList_push]
      simp [he]
  · have hj : es[j]? = some e' := by simpa using h2
    have hlist : (es.modify j (fun e => { e with key := .string s, val := v })).toList = es.toList.set j { e' with key := .string s, val := v } := by rw [Array.toList_modify, modify_eq_set _ _ _ _ h2]
    refine ⟨setBlock w a (.map (es.modify j (fun e => { e with key := .string s, val := v })) clock), ?_, ⟨_, _, heap_setBlock_same hb _, ?_⟩, ⟨rfl, rfl, rfl, by simp [setBlock], fun i _ hi => heap_setBlock_other hb _ (fun e => hi (by rw [e]))⟩⟩
    · simp [Instr.mapUpdate, run_underlying ht, MapKept.run_getObj_map hb, run_checkKey_str hk, run_findKey_str hk s _ h1, hj, h3, run_stays_str, MapKept.run_setObj_map _ hb, Result.andThen, setBlock]
    · rw [hlist]; exact h5 v
end
theorem wpList_lookup_any {P : Program} (w : World) {ops : Array Oper} {rest : List Oper} {o : Oper} {a : Act} {Q : Exit → Act → World → Prop}
    (hg : o.guard = none) (m x : Operand) (t : TypeId) (c : Bool) (hop : o.op = Op.lookup t m x c) (mv xv v : Value) (hm : a.eval m = mv) (hx : a.eval x = xv)
    (hrun : (Instr.lookup t mv xv c).run P w = .ok v w) (hK : wpList P ops Q rest (a.put o.dst v) w) :
    wpList P ops Q (o :: rest) a w := by
  refine wpList_plain hg fun K' hK' => ?_
  unfold Oper.wp
  simp [execOp, hop, hm, hx, hrun, Result.andThen]
  exact hK' _ _ hK
theorem wpList_mapUpdate_any {P : Program} (w : World) {ops : Array Oper} {rest : List Oper} {o : Oper} {a : Act} {Q : Exit → Act → World → Prop}
    (hg : o.guard = none) (m x v : Operand) (t : TypeId) (hop : o.op = Op.mapUpdate t m x v) (k e : TypeId) (ht : P.underlying t = some (.map k e)) (hk : P.underlying k = some .string) (b : Nat) (l : List (ByteArray × Value))
    (hm : a.eval m = .map (some b)) (hmap : MapIs w b l) (s : ByteArray) (val : Value) (hx : a.eval x = .string s) (hv : a.eval v = val)
    (hK : ∀ w', MapIs w' b (mput l s val) → w.grownBy w' (some b) → wpList P ops Q rest (a.put o.dst undef) w') :
    wpList P ops Q (o :: rest) a w := by
  refine wpList_plain hg fun K' hK' => ?_
  obtain ⟨w', hrun, r1, r2⟩ := map_update ht hk hmap s val
  unfold Oper.wp
  simp [execOp, hop, hm, hx, hv, hrun, Result.andThen]
  exact hK' _ _ (hK w' r1 r2)
end Go.Proofs.YtglkkbgflnpjeaaGreatDoor.PA
end
section
namespace Go.Proofs.YtglkkbgflnpjeaaGreatDoor.En
set_option linter.unusedVariables false
set_option linter.unusedSimpArgs false
open Go Go.RowKit Go.Proofs.YtglkkbgflnpjeaaGreatDoor.PA
def blk : Value → Option Nat
  | .pointer (some a) => some a.block
  | .slice (some a) _ _ => some a.block
  | .map (some b) => some b
  | _ => none
inductive LRep (w : World) (S : Nat → Nat → Prop) : PV → Value → (Nat → Prop) → Prop
  | p {v : PV} {V : Value} {B : Nat → Prop} (h : PRep w S v V) (hB : ∀ b, ¬ B b) : LRep w S v V B
  | any {V : Value} {B : Nat → Prop} (h : V.oneCell' = true) (hB : ∀ b, ¬ B b) : LRep w S .any V B
  | ag {l : List PV} {A : List Value} {B : Nat → Prop} (F : Nat → Nat → Prop) (hs : A.length = l.length) (h : ∀ (k : Nat) y u, l[k]? = some y → A[k]? = some u → LRep w S y u (F k)) (h1 : ∀ u ∈ A, u.oneCell' = true)
      (hd : ∀ i j b, i < l.length → j < l.length → i ≠ j → F i b → ¬ F j b) (hB : ∀ b, B b ↔ ∃ k, k < l.length ∧ F k b) : LRep w S (.ag l) (.agg A.toArray) B
  | own {z : Nat} {t : TypeId} {xs : List PV} {V : Value} {B : Nat → Prop} (fl : List Value) (F : Nat → Nat → Prop) (ho : w.ownsRow 0 t z V xs.length fl) (hz : ∀ x ∈ xs, x.cells.length = z)
      (h : ∀ (k : Nat) y u, (flat xs)[k]? = some y → fl[k]? = some u → LRep w S y u (F k)) (h1 : ∀ u ∈ fl, u.oneCell' = true) (hd : ∀ i j b, i < fl.length → j < fl.length → i ≠ j → F i b → ¬ F j b)
      (hb : ∀ i b, i < fl.length → F i b → blk V ≠ some b) (hB : ∀ b, B b ↔ blk V = some b ∨ ∃ k, k < fl.length ∧ F k b) : LRep w S (.own z t xs) V B
theorem own_lt {w : World} {base : Nat} {e : TypeId} {size : Nat} {v : Value} {n : Nat} {xs : List Value} (h : w.ownsRow base e size v n xs) {b : Nat} (hb : blk v = some b) : b < w.heap.size := by
  rcases h.2 with ⟨h1, _⟩ | ⟨g, cap, cur, e1, e2, e3, e4⟩
  · rw [h1] at hb; cases hb
  · rw [e1] at hb
    cases hb
    exact (Array.getElem?_eq_some_iff.1 e3).1
theorem own_move {w w' : World} {base : Nat} {e : TypeId} {size : Nat} {v : Value} {n : Nat} {xs : List Value} (h : w.ownsRow base e size v n xs) (hb : ∀ b, blk v = some b → w'.heap[b]? = w.heap[b]?) : w'.ownsRow base e size v n xs := by
  refine ⟨h.1, ?_⟩
  rcases h.2 with h1 | ⟨g, cap, cur, e1, e2, e3, e4⟩
  · exact .inl h1
  · exact .inr ⟨g, cap, cur, e1, e2, (hb g (by rw [e1]; rfl)).trans e3, e4⟩
theorem own_one {w : World} {base : Nat} {e : TypeId} {size : Nat} {v : Value} {n : Nat} {xs : List Value} (h : w.ownsRow base e size v n xs) : v.oneCell' = true := by
  rcases h.2 with ⟨h1, _⟩ | ⟨g, cap, cur, e1, _⟩
  · rw [h1]; rfl
  · rw [e1]; rfl
theorem LRep.move {w w' : World} {S S' : Nat → Nat → Prop} (hS : ∀ b i, S b i → S' b i ∧ w'.cell? ⟨b, i, none⟩ = w.cell? ⟨b, i, none⟩) {v : PV} {V : Value} {B : Nat → Prop} (h : LRep w S v V B) :
    (∀ b, B b → w'.heap[b]? = w.heap[b]?) → LRep w' S' v V B := by
  induction h with
  | p h hB => exact fun _ => .p (h.move hS) hB
  | any h hB => exact fun _ => .any h hB
  | ag F hs h h1 hd hB ih => exact fun hb => .ag F hs (fun k y u hy hu => ih k y u hy hu (fun b hF => hb b ((hB b).2 ⟨k, (List.getElem?_eq_some_iff.1 hy).1, hF⟩))) h1 hd hB
  | own fl F ho hz h h1 hd hb hB ih =>
    exact fun hw => .own fl F (own_move ho (fun b e => hw b ((hB b).2 (.inl e)))) hz (fun k y u hy hu => ih k y u hy hu (fun b hF => hw b ((hB b).2 (.inr ⟨k, (List.getElem?_eq_some_iff.1 hu).1, hF⟩)))) h1 hd hb hB
theorem LRep.lt {w : World} {S : Nat → Nat → Prop} {v : PV} {V : Value} {B : Nat → Prop} (h : LRep w S v V B) : ∀ b, B b → b < w.heap.size := by
  induction h with
  | p h hB => exact fun b hb => absurd hb (hB b)
  | any h hB => exact fun b hb => absurd hb (hB b)
  | ag F hs h h1 hd hB ih =>
    intro b hb
    obtain ⟨k, hk, hF⟩ := (hB b).1 hb
    exact ih k _ _ (List.getElem?_eq_getElem hk) (List.getElem?_eq_getElem (by omega)) b hF
  | @own z t xs V B fl F ho hz h h1 hd hb hB ih =>
    intro b hbb
    rcases (hB b).1 hbb with e | ⟨k, hk, hF⟩
    · exact own_lt ho e
    · have hk2 : k < (flat xs).length := by rw [flat_len hz, ← ho.1]; exact hk
      exact ih k _ _ (List.getElem?_eq_getElem hk2) (List.getElem?_eq_getElem hk) b hF
inductive CellRep (Γ : Env) : TV → Value → (Nat → Prop) → Prop
  | t {y : TV} {u : Value} {F : Nat → Prop} (h : TRep Γ y u) (hF : ∀ b, ¬ F b) : CellRep Γ y u F
  | o {v : PV} {u : Value} {F : Nat → Prop} (h : LRep Γ.w Γ.S v u F) : CellRep Γ (.o v) u F
theorem CellRep.move {Γ Γ' : Env} {q : Nm → Prop} (hS : ∀ b i, Γ.S b i → Γ'.S b i ∧ Γ'.w.cell? ⟨b, i, none⟩ = Γ.w.cell? ⟨b, i, none⟩) (hH : Γ.nH ≤ Γ'.nH) (hg : ∀ n, n.lt Γ.nH → q n → NmOk Γ Γ' n) {y : TV} {u : Value} {F : Nat → Prop}
    (h : CellRep Γ y u F) (hq : y.All q) (hb : ∀ b, F b → Γ'.w.heap[b]? = Γ.w.heap[b]?) : CellRep Γ' y u F := by
  cases h with
  | t h hF => exact .t (h.move hS hH hg hq) hF
  | o h => exact .o (h.move hS hb)
theorem CellRep.lt {Γ : Env} {y : TV} {u : Value} {F : Nat → Prop} (h : CellRep Γ y u F) {b : Nat} (hb : F b) : b < Γ.w.heap.size := by
  cases h with
  | t h hF => exact absurd hb (hF b)
  | o h => exact h.lt b hb
structure St where
  tm : Nat → TV
  nt : Nat
  lm : Nat → Option AObj
  H : List AObj
  G : Nat → Option PV
  md : Nat → Nat
def St.ob (σ : St) : Nm → Option AObj
  | .L t => σ.lm t
  | .S i => σ.H[i]?
def AObj.ln : AObj → Option Nat
  | .rw _ _ xs => some xs.length
  | .ow _ _ _ xs => some xs.length
  | _ => none
def St.ln (σ : St) (n : Nm) : Option Nat := (σ.ob n).bind AObj.ln
def St.env (σ : St) (w : World) (S : Nat → Nat → Prop) (g : Nm → GV) : Env := ⟨w, S, g, σ.ln, σ.H.length⟩
def ORep (Γ : Env) (n : Nm) : AObj → Prop
  | .box t l => ∃ (b : Nat) (arr : Array Value), (Γ.g n).v = .pointer (some ⟨b, 0, none⟩) ∧ (∀ b', (Γ.g n).B b' ↔ b' = b) ∧ Γ.w.heap[b]? = some (.cells arr t (0, 0)) ∧ arr.size = l.length ∧ (∀ (k : Nat) y u, l[k]? = some y → arr[k]? = some u → TRep Γ y u) ∧ (∀ u ∈ arr.toList, u.oneCell' = true) ∧ ∀ k, ¬ Γ.S b k
  | .rw z t xs => ∃ fl : List Value, Γ.w.ownsRow 0 t z (Γ.g n).v xs.length fl ∧ (∀ b', (Γ.g n).B b' ↔ blk (Γ.g n).v = some b') ∧ (∀ x ∈ xs, x.cells.length = z) ∧ (∀ (k : Nat) y u, (flat xs)[k]? = some y → fl[k]? = some u → PRep Γ.w Γ.S y u ∧ u.oneCell' = true) ∧ ∀ b, blk (Γ.g n).v = some b → ∀ k, Γ.S b k ↔ k < xs.length * z
  | .mp es => ∃ (b : Nat) (vs : List (ByteArray × Value)), (Γ.g n).v = .map (some b) ∧ (∀ b', (Γ.g n).B b' ↔ b' = b) ∧ MapIs Γ.w b vs ∧ vs.length = es.length ∧ ∀ (k : Nat) e v, es[k]? = some e → vs[k]? = some v → e.1 = v.1 ∧ PRep Γ.w Γ.S e.2 v.2
  | .ow z t ks xs => (∀ n ∈ ks, n.lt Γ.nH) ∧ (∀ c ∈ xs, ∀ x ∈ c, x.All (· ∈ ks)) ∧ ∃ (fl : List Value) (F : Nat → Nat → Prop), Γ.w.ownsRow 0 t z (Γ.g n).v xs.length fl ∧ (∀ x ∈ xs, x.length = z) ∧ (∀ (k : Nat) y u, xs.flatten[k]? = some y → fl[k]? = some u → CellRep Γ y u (F k)) ∧ (∀ u ∈ fl, u.oneCell' = true) ∧
      (∀ i j b, i < fl.length → j < fl.length → i ≠ j → F i b → ¬ F j b) ∧ (∀ i b, i < fl.length → F i b → blk (Γ.g n).v ≠ some b) ∧ (∀ b, (Γ.g n).B b ↔ blk (Γ.g n).v = some b ∨ ∃ k, k < fl.length ∧ F k b) ∧ ∀ b, (Γ.g n).B b → ∀ k, ¬ Γ.S b k
  | .gone => ∀ b, ¬ (Γ.g n).B b
theorem flatten_len {α : Type} {z : Nat} : ∀ {xs : List (List α)}, (∀ x ∈ xs, x.length = z) → xs.flatten.length = xs.length * z
  | [], _ => by simp
  | x :: xs, h => by
    rw [List.flatten_cons, List.length_append, h x (by simp), flatten_len (fun y hy => h y (by simp [hy])), List.length_cons, Nat.succ_mul]
    omega
theorem ORep.move {Γ Γ' : Env} {q : Nm → Prop} (hS : ∀ b i, Γ.S b i → Γ'.S b i ∧ Γ'.w.cell? ⟨b, i, none⟩ = Γ.w.cell? ⟨b, i, none⟩) (hH : Γ.nH ≤ Γ'.nH) (hg : ∀ n, n.lt Γ.nH → q n → NmOk Γ Γ' n)
    {n : Nm} {o : AObj} (h : ORep Γ n o) (hq : o.All q) (hn : Γ'.g n = Γ.g n) (hb : ∀ b, (Γ.g n).B b → Γ'.w.heap[b]? = Γ.w.heap[b]? ∧ ∀ k, Γ'.S b k → Γ.S b k) : ORep Γ' n o := by
  cases o with
  | box t l =>
    obtain ⟨b, arr, h1, hB, h2, h3, h4, h5, h6⟩ := h
    obtain ⟨hb1, hb2⟩ := hb b ((hB b).2 rfl)
    exact ⟨b, arr, (congrArg GV.v hn).trans h1, by rw [hn]; exact hB, hb1.trans h2, h3, fun k y u hy hu => (h4 k y u hy hu).move hS hH hg (hq y (List.mem_of_getElem? hy)), h5, fun k hk => h6 k (hb2 k hk)⟩
  | rw z t xs =>
    obtain ⟨fl, h1, hB, h2, h3, h4⟩ := h
    refine ⟨fl, ?_, by rw [hn]; exact hB, h2, fun k y u hy hu => ⟨(h3 k y u hy hu).1.move hS, (h3 k y u hy hu).2⟩, fun b e k => ?_⟩
    · rw [hn]
      exact own_move h1 (fun b e => (hb b ((hB b).2 e)).1)
    · rw [hn] at e
      refine ⟨fun hk => (h4 b e k).1 ((hb b ((hB b).2 e)).2 k hk), fun hk => (hS b k ((h4 b e k).2 hk)).1⟩
  | mp es =>
    obtain ⟨b, vs, h1, hB, ⟨ar, clock, h2, h3⟩, h4, h5⟩ := h
    exact ⟨b, vs, (congrArg GV.v hn).trans h1, by rw [hn]; exact hB, ⟨ar, clock, (hb b ((hB b).2 rfl)).1.trans h2, h3⟩, h4, fun k e v he hv => ⟨(h5 k e v he hv).1, (h5 k e v he hv).2.move hS⟩⟩
  | ow z t ks xs =>
    obtain ⟨hk0, h0, fl, F, h1, h2, h3, h4, h5, h6, h7, h8⟩ := h
    refine ⟨fun n hn => Nm.lt_mono (hk0 n hn) hH, h0, fl, F, by rw [hn]; exact own_move h1 (fun b e => (hb b ((h7 b).2 (.inl e))).1), h2, fun k y u hy hu => (h3 k y u hy hu).move hS hH hg ?_ (fun b hF => (hb b ((h7 b).2 (.inr ⟨k, (List.getElem?_eq_some_iff.1 hu).1, hF⟩))).1), h4, h5, by rw [hn]; exact h6, by rw [hn]; exact h7, by rw [hn]; exact fun b e k hk => h8 b e k ((hb b e).2 k hk)⟩
    obtain ⟨c, hc, hyc⟩ := List.mem_flatten.1 (List.mem_of_getElem? hy)
    exact (h0 c hc y hyc).mono (fun n hn => hq n hn)
  | gone => intro b; rw [hn]; exact h b
theorem ORep.lt {Γ : Env} {n : Nm} {o : AObj} (h : ORep Γ n o) {b : Nat} (hb : (Γ.g n).B b) : b < Γ.w.heap.size := by
  cases o with
  | box t l =>
    obtain ⟨b', arr, h1, hB, h2, _⟩ := h
    obtain rfl := (hB b).1 hb
    exact (Array.getElem?_eq_some_iff.1 h2).1
  | rw z t xs =>
    obtain ⟨fl, h1, hB, _⟩ := h
    exact own_lt h1 ((hB b).1 hb)
  | mp es =>
    obtain ⟨b', vs, h1, hB, h2, _⟩ := h
    obtain rfl := (hB b).1 hb
    exact h2.lt
  | ow z t ks xs =>
    obtain ⟨_, _, fl, F, h1, h2, h3, h4, h5, h6, h7, h8⟩ := h
    rcases (h7 b).1 hb with e | ⟨k, hk, hF⟩
    · exact own_lt h1 e
    · have hk2 : k < xs.flatten.length := by rw [flatten_len h2, ← h1.1]; exact hk
      exact (h3 k _ _ (List.getElem?_eq_getElem hk2) (List.getElem?_eq_getElem hk)).lt hF
  | gone => exact absurd hb (h b)
def Nm.isS : Nm → Prop
  | .L _ => False
  | .S _ => True
structure Evol (w0 : World) (S0 : Nat → Nat → Prop) (g0 : Nm → GV) (n0 : Nat) (w : World) (S : Nat → Nat → Prop) (g : Nm → GV) (n1 : Nat) : Prop where
  os : w.os = w0.os
  tape : w.tape = w0.tape
  output : w.output = w0.output
  size : w0.heap.size ≤ w.heap.size
  n : n0 ≤ n1
  block : ∀ b, b < w0.heap.size → (∀ i, i < n0 → ¬ (g0 (.S i)).B b) → w.heap[b]? = w0.heap[b]?
  stb : ∀ b k, S0 b k → S b k ∧ w.cell? ⟨b, k, none⟩ = w0.cell? ⟨b, k, none⟩
  new : ∀ b k, S b k → S0 b k ∨ w0.heap.size ≤ b ∨ ∃ i, i < n0 ∧ (g0 (.S i)).B b
  own : ∀ i, i < n1 → ∀ b, (g (.S i)).B b → w0.heap.size ≤ b ∨ ∃ j, j < n0 ∧ (g0 (.S j)).B b
theorem Evol.refl (w : World) (S : Nat → Nat → Prop) (g : Nm → GV) (n : Nat) : Evol w S g n w S g n :=
  ⟨rfl, rfl, rfl, Nat.le_refl _, Nat.le_refl _, fun _ _ _ => rfl, fun _ _ h => ⟨h, rfl⟩, fun _ _ h => .inl h, fun i hi b hb => .inr ⟨i, hi, hb⟩⟩
theorem Evol.trans {w0 S0 g0 n0 w1 S1 g1 n1 w2 S2 g2 n2} (h : Evol w0 S0 g0 n0 w1 S1 g1 n1) (k : Evol w1 S1 g1 n1 w2 S2 g2 n2) : Evol w0 S0 g0 n0 w2 S2 g2 n2 where
  os := k.os.trans h.os
  tape := k.tape.trans h.tape
  output := k.output.trans h.output
  size := Nat.le_trans h.size k.size
  n := Nat.le_trans h.n k.n
  block := fun b hb hno => (k.block b (Nat.lt_of_lt_of_le hb h.size) (fun i hi e => by
    rcases h.own i hi b e with h1 | ⟨j, hj, e2⟩
    · omega
    · exact hno j hj e2)).trans (h.block b hb hno)
  stb := fun b i hs => ⟨(k.stb b i (h.stb b i hs).1).1, (k.stb b i (h.stb b i hs).1).2.trans (h.stb b i hs).2⟩
  new := fun b i hs => by
    rcases k.new b i hs with h1 | h1 | ⟨j, hj, e⟩
    · exact h.new b i h1
    · exact .inr (.inl (Nat.le_trans h.size h1))
    · rcases h.own j hj b e with h2 | h2
      · exact .inr (.inl h2)
      · exact .inr (.inr h2)
  own := fun i hi b e => by
    rcases k.own i hi b e with h1 | ⟨j, hj, e2⟩
    · exact .inl (Nat.le_trans h.size h1)
    · exact h.own j hj b e2
structure Ent where
  w : World
  S : Nat → Nat → Prop
  g : Nm → GV
  ln : Nm → Option Nat
  n : Nat
  G : Nat → Option PV
def Ent.env (E : Ent) : Env := ⟨E.w, E.S, E.g, E.ln, E.n⟩
structure Rep (E : Ent) (σ : St) (a : Act) (w : World) (S : Nat → Nat → Prop) (g : Nm → GV) : Prop where
  tm : ∀ t, TRep (σ.env w S g) (σ.tm t) (a.tmps.getD t undef)
  nt : a.tmps.size = σ.nt
  df : a.defers = []
  ob : ∀ n o, σ.ob n = some o → ORep (σ.env w S g) n o
  dj : ∀ n m, n ≠ m → (σ.ob n).isSome → (σ.ob m).isSome → ∀ b, (g n).B b → ¬ (g m).B b
  st : ∀ b k, S b k → b < w.heap.size
  lo : ∀ t, (σ.lm t).isSome → ∀ b, (g (.L t)).B b → E.w.heap.size ≤ b ∨ ∃ j, j < E.n ∧ (E.g (.S j)).B b
  hs : ∀ (i : Nat) (o : AObj), σ.H[i]? = some o → o.All Nm.isS
  ev : Evol E.w E.S E.g E.n w S g σ.H.length
  gl : ∀ i y, σ.G i = some y → ∃ u, S i 0 ∧ w.cell? ⟨i, 0, none⟩ = some u ∧ u.oneCell' = true ∧ PRep w S y u
  nm : ∀ i, i < E.n → NmOk E.env (σ.env w S g) (.S i)
  eG : σ.G = E.G
theorem Rep.names {E : Ent} {σ : St} {a : Act} {w : World} {S : Nat → Nat → Prop} {g : Nm → GV} (h : Rep E σ a w S g) (t : Nat) : (σ.tm t).All (fun n => n.lt σ.H.length) := (h.tm t).names
theorem Rep.upd {E : Ent} {σ σ' : St} {a a' : Act} {w w' : World} {S S' : Nat → Nat → Prop} {g g' : Nm → GV} {m : Nm} {r : Option Nat} {q : Nm → Prop} (h : Rep E σ a w S g)
    (hσ : ∀ n, n ≠ m → σ'.ob n = σ.ob n) (hH : σ.H.length ≤ σ'.H.length) (hg : ∀ n, n ≠ m → g' n = g n) (hw : w.grownBy w' r)
    (hr : ∀ b, r = some b → (σ.ob m).isSome ∧ (g m).B b)
    (hS : ∀ b k, S b k → S' b k ∧ w'.cell? ⟨b, k, none⟩ = w.cell? ⟨b, k, none⟩)
    (hS2 : ∀ b k, S' b k → S b k ∨ (w.heap.size ≤ b ∧ b < w'.heap.size) ∨ ((σ.ob m).isSome ∧ (g m).B b))
    (hb : ∀ b, (g' m).B b → w.heap.size ≤ b ∨ ((σ.ob m).isSome ∧ (g m).B b))
    (hq : ∀ n, q n → n = m → NmOk (σ.env w S g) (σ'.env w' S' g') m) (hqo : ∀ n (o : AObj), n ≠ m → σ.ob n = some o → o.All q)
    (hom : ∀ o, σ'.ob m = some o → ORep (σ'.env w' S' g') m o)
    (hHm : ∀ (i : Nat) (o : AObj), m = .S i → σ'.H[i]? = some o → o.All Nm.isS)
    (hnt : a'.tmps.size = σ'.nt) (hdf : a'.defers = []) (hG : σ'.G = σ.G) (hN : ∀ i, m = .S i → i < σ.H.length → NmOk (σ.env w S g) (σ'.env w' S' g') m)
    (htm : ∀ t, TRep (σ'.env w' S' g') (σ'.tm t) (a'.tmps.getD t undef)) : Rep E σ' a' w' S' g' := by
  have hln : ∀ n, n ≠ m → σ'.ln n = σ.ln n := fun n hn => by simp only [St.ln, hσ n hn]
  have hnm : ∀ n, n.lt σ.H.length → q n → NmOk (σ.env w S g) (σ'.env w' S' g') n := by
    intro n _ hqn
    by_cases e : n = m
    · subst e; exact hq n hqn rfl
    · exact .inl ⟨congrArg GV.v (hg n e), .inr (hln n e)⟩
  have hblk : ∀ n, n ≠ m → (σ.ob n).isSome → ∀ b, (g n).B b → w'.heap[b]? = w.heap[b]? ∧ ∀ k, S' b k → S b k := by
    intro n hn hs b e
    obtain ⟨o, ho⟩ := Option.isSome_iff_exists.1 hs
    have hlt : b < w.heap.size := (h.ob n o ho).lt e
    have hne : r ≠ some b := fun e2 => by
      obtain ⟨h1, h2⟩ := hr b e2
      exact h.dj n m hn hs h1 b e h2
    refine ⟨hw.block b hlt (fun e2 => hne e2.symm), fun k hk => ?_⟩
    rcases hS2 b k hk with h1 | ⟨h1, _⟩ | h1
    · exact h1
    · omega
    · exact absurd h1.2 (h.dj n m hn hs h1.1 b e)
  refine ⟨htm, hnt, hdf, ?_, ?_, ?_, ?_, ?_, ?_, ?_, ?_, hG.trans h.eG⟩
  · intro n o ho
    by_cases e : n = m
    · subst e; exact hom o ho
    · rw [hσ n e] at ho
      exact (h.ob n o ho).move (q := q) hS hH hnm (hqo n o e ho) (hg n e) (hblk n e (by rw [ho]; rfl))
  · intro n1 n2 hne h1 h2 b e1 e2
    have key : ∀ n, n ≠ m → (σ'.ob n).isSome → (g' n).B b → (g' m).B b → False := by
      intro n hn hs e3 e4
      rw [hσ n hn] at hs
      rw [hg n hn] at e3
      obtain ⟨o, ho⟩ := Option.isSome_iff_exists.1 hs
      have hlt : b < w.heap.size := (h.ob n o ho).lt e3
      rcases hb b e4 with h5 | h5
      · omega
      · exact h.dj n m hn hs h5.1 b e3 h5.2
    by_cases c1 : n1 = m
    · subst c1
      exact key n2 (fun e => hne e.symm) h2 e2 e1
    · by_cases c2 : n2 = m
      · subst c2
        exact key n1 c1 h1 e1 e2
      · rw [hσ _ c1] at h1
        rw [hσ _ c2] at h2
        rw [hg _ c1] at e1
        rw [hg _ c2] at e2
        exact h.dj n1 n2 hne h1 h2 b e1 e2
  · intro b k hk
    rcases hS2 b k hk with h1 | ⟨_, h1⟩ | h1
    · exact Nat.lt_of_lt_of_le (h.st b k h1) hw.size
    · exact h1
    · obtain ⟨h2, h3⟩ := h1
      obtain ⟨o, ho⟩ := Option.isSome_iff_exists.1 h2
      exact Nat.lt_of_lt_of_le ((h.ob m o ho).lt h3) hw.size
  · intro t hs b e
    by_cases c : Nm.L t = m
    · subst c
      rcases hb b e with h1 | h1
      · exact .inl (Nat.le_trans h.ev.size h1)
      · exact h.lo t h1.1 b h1.2
    · have h1 : σ'.lm t = σ.lm t := hσ (.L t) c
      rw [h1] at hs
      rw [hg _ c] at e
      exact h.lo t hs b e
  · intro i o ho
    by_cases c : Nm.S i = m
    · exact hHm i o c.symm ho
    · have h1 : σ'.H[i]? = σ.H[i]? := hσ (.S i) c
      rw [h1] at ho
      exact h.hs i o ho
  · have hrE : ∀ b, ((σ.ob m).isSome ∧ (g m).B b) → E.w.heap.size ≤ b ∨ ∃ j, j < E.n ∧ (E.g (.S j)).B b := by
      rintro b ⟨h2, h3⟩
      cases m with
      | L t => exact h.lo t h2 b h3
      | S i =>
        have hi : i < σ.H.length := by
          obtain ⟨o, ho⟩ := Option.isSome_iff_exists.1 h2
          exact (List.getElem?_eq_some_iff.1 ho).1
        exact h.ev.own i hi b h3
    refine ⟨hw.os.trans h.ev.os, hw.tape.trans h.ev.tape, hw.output.trans h.ev.output, Nat.le_trans h.ev.size hw.size, Nat.le_trans h.ev.n hH, ?_, ?_, ?_, ?_⟩
    · intro b hbl hno
      refine (hw.block b (Nat.lt_of_lt_of_le hbl h.ev.size) (fun e => ?_)).trans (h.ev.block b hbl hno)
      rcases hrE b (hr b e.symm) with h1 | ⟨j, h1, h2⟩
      · omega
      · exact hno j h1 h2
    · intro b k hk
      have h1 := h.ev.stb b k hk
      have h2 := hS b k h1.1
      exact ⟨h2.1, h2.2.trans h1.2⟩
    · intro b k hk
      rcases hS2 b k hk with h1 | ⟨h1, _⟩ | h1
      · exact h.ev.new b k h1
      · exact .inr (.inl (Nat.le_trans h.ev.size h1))
      · exact .inr (hrE b h1)
    · intro i hi b e
      by_cases c : Nm.S i = m
      · subst c
        rcases hb b e with h1 | h1
        · exact .inl (Nat.le_trans h.ev.size h1)
        · exact hrE b h1
      · rw [hg _ c] at e
        have h1 : σ'.H[i]? = σ.H[i]? := hσ (.S i) c
        have hi2 : i < σ.H.length := by
          rw [List.getElem?_eq_getElem hi] at h1
          exact (List.getElem?_eq_some_iff.1 h1.symm).1
        exact h.ev.own i hi2 b e
  · intro i y hy
    rw [hG] at hy
    obtain ⟨u, h1, h2, h3, h4⟩ := h.gl i y hy
    obtain ⟨h5, h6⟩ := hS _ _ h1
    exact ⟨u, h5, h6.trans h2, h3, h4.move hS⟩
  · intro i hi
    refine (h.nm i hi).trans ?_
    by_cases c : Nm.S i = m
    · subst c
      exact hN i rfl (Nat.lt_of_lt_of_le hi h.ev.n)
    · exact .inl ⟨congrArg GV.v (hg _ c), .inr (hln _ c)⟩
end Go.Proofs.YtglkkbgflnpjeaaGreatDoor.En
end
section
namespace Go.Proofs.YtglkkbgflnpjeaaGreatDoor.En
set_option linter.unusedVariables false
set_option linter.unusedSimpArgs false
open Go Go.RowKit Go.Proofs.YtglkkbgflnpjeaaGreatDoor.PA
def lay (P : Program) (t : TypeId) : Option (Bool × Nat) := match P.info? t, P.underlying t with
  | some i, some d => some (d.isRow, i.size)
  | _, _ => none
def flds (P : Program) (t : TypeId) : Option (List (Nat × Nat × Bool)) := match P.underlying t with
  | some (.struct fs) => fs.toList.mapM (fun f => (lay P f.type).map fun l => (f.offset, l.2, l.1))
  | _ => none
def zer (P : Program) (t : TypeId) : Option (List Value) := ((P.info? t).bind (·.zero)).map (·.cells.toList)
theorem lay_some {P : Program} {t : TypeId} {b : Bool} {k : Nat} (h : lay P t = some (b, k)) : ∃ i d, P.info? t = some i ∧ P.underlying t = some d ∧ d.isRow = b ∧ i.size = k := by
  unfold lay at h
  cases hi : P.info? t with
  | none => rw [hi] at h; cases h
  | some i =>
    cases hd : P.underlying t with
    | none => rw [hi, hd] at h; cases h
    | some d =>
      rw [hi, hd] at h
      simp only [Option.some.injEq, Prod.mk.injEq] at h
      exact ⟨i, d, rfl, rfl, h.1, h.2⟩
theorem lay_size {P : Program} {t : TypeId} {b : Bool} {k : Nat} (h : lay P t = some (b, k)) (w : World) : (sizeOf t).run P w = .ok k w := by
  obtain ⟨i, d, h1, _, _, h4⟩ := lay_some h
  simp [sizeOf, typeInfo, h1, h4]
theorem lay_agg {P : Program} {t : TypeId} {b : Bool} {k : Nat} (h : lay P t = some (b, k)) (w : World) : (isAgg t).run P w = .ok b w := by
  obtain ⟨i, d, h1, h2, h3, h4⟩ := lay_some h
  unfold isAgg
  rw [Sem.run_bind, run_underlying h2 w]
  subst h3
  cases d <;> rfl
structure Obs (Γ : Env) (ob : Nm → Option AObj) : Prop where
  rep : ∀ n o, ob n = some o → ORep Γ n o
  ln : ∀ n, Γ.ln n = (ob n).bind AObj.ln
theorem Rep.obs {E : Ent} {σ : St} {a : Act} {w : World} {S : Nat → Nat → Prop} {g : Nm → GV} (h : Rep E σ a w S g) : Obs (σ.env w S g) σ.ob := ⟨h.ob, fun _ => rfl⟩
def noO : TV → Prop
  | .o _ => False
  | _ => True
theorem flatten_get {α : Type} {z : Nat} : ∀ {xs : List (List α)} (_ : ∀ x ∈ xs, x.length = z) {i : Nat} {c : List α} (_ : xs[i]? = some c) (j : Nat), j < z → xs.flatten[i * z + j]? = c[j]?
  | [], _, i, c, hi, _, _ => by simp at hi
  | y :: ys, h, 0, c, hi, j, hj => by
    simp only [List.getElem?_cons_zero, Option.some.injEq] at hi
    subst hi
    rw [List.flatten_cons, Nat.zero_mul, Nat.zero_add, List.getElem?_append_left (by rw [h y (by simp)]; exact hj)]
  | y :: ys, h, i + 1, c, hi, j, hj => by
    simp only [List.getElem?_cons_succ] at hi
    have hl := h y (by simp)
    rw [List.flatten_cons, List.getElem?_append_right (by rw [hl, Nat.succ_mul]; omega), hl, show (i + 1) * z + j - z = i * z + j by rw [Nat.succ_mul]; omega]
    exact flatten_get (fun u hu => h u (by simp [hu])) hi j hj
def NonNil : TV → Prop
  | .ptr _ _ | .pe _ | .fn _ _ | .ip _ _ _ _ _ => True
  | _ => False
def LoadV (P : Program) (ob : Nm → Option AObj) (t : TypeId) : TV → TV → Prop
  | .ptr n off, v => match ob n with
    | some (.box _ l) => match lay P t with
      | some (true, k) => off + k ≤ l.length ∧ v = .ag ((l.drop off).take k)
      | some (false, _) => l[off]? = some v
      | none => False
    | _ => False
  | .ip n len z i off, v => match ob n with
    | some (.ow z' _ ks xs) => xs.length = len ∧ z' = z ∧ ∃ c, xs[i]? = some c ∧ match lay P t with
      | some (true, k) => off + k ≤ c.length ∧ (∀ y ∈ (c.drop off).take k, noO y ∧ y.All (· ∈ ks)) ∧ (v = .ag ((c.drop off).take k) ∨ ∃ r : List PV, (c.drop off).take k = r.map TV.p ∧ v = .p (.ag r))
      | some (false, _) => c[off]? = some v ∧ noO v ∧ v.All (· ∈ ks)
      | none => False
    | _ => False
  | .pe l, v => match lay P t with
    | some (true, k) => k ≤ l.length ∧ v = .p (.ag (l.take k))
    | some (false, _) => ∃ y, l[0]? = some y ∧ v = .p y
    | none => False
  | _, _ => False
def AddV (off : Nat) : TV → TV → Prop
  | .ptr n o, v => v = .ptr n (o + off)
  | .ip n len z i o, v => v = .ip n len z i (o + off)
  | .pe l, v => off < l.length ∧ v = .pe (l.drop off)
  | _, _ => False
def PartV (off k : Nat) (b : Bool) : TV → TV → Prop
  | .ag l, v => off + k ≤ l.length ∧ (if b then v = .ag ((l.drop off).take k) else l[off]? = some v)
  | .p (.ag l), v => off + k ≤ l.length ∧ (if b then v = .p (.ag ((l.drop off).take k)) else ∃ y, l[off]? = some y ∧ v = .p y)
  | _, _ => False
def binF : BinOp → Value → Value → Option Value
  | .add, .int k a, .int k' b => if k = k' then some (.int k (k.wrap (a + b))) else none
  | .sub, .int k a, .int k' b => if k = k' then some (.int k (k.wrap (a - b))) else none
  | .mul, .int k a, .int k' b => if k = k' then some (.int k (k.wrap (a * b))) else none
  | .quo, .int k a, .int k' b => if k = k' then some (.int k (k.wrap (a.tdiv b))) else none
  | .rem, .int k a, .int k' b => if k = k' then some (.int k (a.tmod b)) else none
  | .xor, .int k a, .int k' b => if k = k' then some (.int k (bits .xor k a b)) else none
  | .and, .int k a, .int k' b => if k = k' then some (.int k (bits .and k a b)) else none
  | .eql, .int k a, .int k' b => if k = k' then some (.bool (a == b)) else none
  | .neq, .int k a, .int k' b => if k = k' then some (.bool (a != b)) else none
  | .lss, .int k a, .int k' b => if k = k' then some (.bool (a < b)) else none
  | .leq, .int k a, .int k' b => if k = k' then some (.bool (a ≤ b)) else none
  | .gtr, .int k a, .int k' b => if k = k' then some (.bool (a > b)) else none
  | .geq, .int k a, .int k' b => if k = k' then some (.bool (a ≥ b)) else none
  | .add, .string a, .string b => some (.string (a ++ b))
  | .eql, .string a, .string b => some (.bool (a == b))
  | .neq, .string a, .string b => some (.bool (!(a == b)))
  | .eql, .bool a, .bool b => some (.bool (a == b))
  | .neq, .bool a, .bool b => some (.bool (!(a == b)))
  | .eql, .nilIface, .nilIface => some (.bool true)
  | .neq, .nilIface, .nilIface => some (.bool false)
  | _, _, _ => none
def BinOk (P : Program) (op : BinOp) (t : TypeId) (y : Operand) : Value → Value → Prop
  | .int _ _, .int _ b => (op = .quo ∨ op = .rem) → b ≠ 0
  | .string a, .string b => op = .add → a.size + b.size ≤ 9223372036854775807
  | .bool _, .bool _ => P.underlying t = some .bool
  | .nilIface, .nilIface => (∃ c, y = .const c) ∧ ∃ ms, P.underlying t = some (.interface ms)
  | _, _ => True
def BinV (P : Program) (op : BinOp) (t : TypeId) (y : Operand) : TV → TV → TV → Prop
  | .p (.c a), .p (.c b), v => BinOk P op t y a b ∧ ∃ r, binF op a b = some r ∧ v = .p (.c r)
  | .p (.ifc _ _), .p (.c .nilIface), v => (∃ ms, P.underlying t = some (.interface ms)) ∧ ((op = .eql ∧ v = .p (.c (.bool false))) ∨ (op = .neq ∧ v = .p (.c (.bool true))))
  | _, _, _ => False
def UnV (op : UnOp) : TV → TV → Prop
  | .p (.c (.bool b)), v => op = .not ∧ v = .p (.c (.bool !b))
  | .p (.c (.int k n)), v => op = .neg ∧ v = .p (.c (.int k (k.wrap (0 - n))))
  | _, _ => False
section
variable {P : Program}
theorem LoadV.sound {Γ : Env} {ob : Nm → Option AObj} (hob : Obs Γ ob) {t : TypeId} {x v : TV} {X : Value} (h : LoadV P ob t x v) (hx : TRep Γ x X) : ∃ V, TRep Γ v V ∧ (Instr.loadAt t X).run P Γ.w = .ok V Γ.w := by
  cases x <;> try exact h.elim
  case ptr n off =>
    cases hx with
    | @ptr _ _ b hn hg =>
    simp only [LoadV] at h
    cases ho : ob n with
    | none => rw [ho] at h; exact h.elim
    | some o =>
      cases o <;> (rw [ho] at h) <;> try exact h.elim
      case box t' l =>
        obtain ⟨b', arr, e1, _, e2, e3, e4, e5, e6⟩ := hob.rep n _ ho
        rw [hg] at e1
        cases e1
        have hcell : ∀ j, Γ.w.cell? ⟨b, j, none⟩ = arr[j]? := fun j => cell_of_row Γ.w b j arr t' (0, 0) e2
        cases hl : lay P t with
        | none => rw [hl] at h; exact h.elim
        | some bk =>
          obtain ⟨bb, k⟩ := bk
          rw [hl] at h
          cases bb with
          | true =>
            obtain ⟨h1, rfl⟩ := h
            obtain ⟨i, d, q1, q2, q3, q4⟩ := lay_some hl
            have hlen : ((arr.toList.drop off).take k).length = k := by simp; omega
            refine ⟨.agg ((arr.toList.drop off).take k).toArray, .ag (by simp; omega) ?_ ?_, ?_⟩
            · intro j y u hy hu
              rw [List.getElem?_take] at hy hu
              split at hy
              · rename_i hj
                rw [if_pos hj] at hu
                rw [List.getElem?_drop] at hy hu
                exact e4 (off + j) y u hy (by simpa using hu)
              · cases hy
            · intro u hu
              exact e5 u (List.mem_of_mem_drop (List.mem_of_mem_take hu))
            · refine run_loadAt_mid Γ.w b off t _ d ?_ q2 q3 (by rw [q1]; simp only [Option.map_some, hlen, q4])
              intro j u hu
              rw [List.getElem?_take] at hu
              split at hu
              · rw [List.getElem?_drop] at hu
                rw [hcell]
                simpa using hu
              · cases hu
          | false =>
            simp only at h
            have hlt : off < arr.size := by rw [e3]; exact (List.getElem?_eq_some_iff.1 h).1
            refine ⟨arr[off], e4 off v _ h (Array.getElem?_eq_getElem hlt), ?_⟩
            have hld : (load ⟨b, off, none⟩).run P Γ.w = .ok arr[off] Γ.w := by simp [load, Sem.run, hcell, Array.getElem?_eq_getElem hlt]
            simp only [Instr.loadAt, Instr.sureAddr, loadVar, Sem.run_bind, Sem.run_pure, Result.andThen_ok, lay_agg hl]
            simpa using hld
  case ip n len z i off =>
    cases hx with
    | @ip _ _ _ _ _ b hn hg =>
    simp only [LoadV] at h
    cases ho : ob n with
    | none => rw [ho] at h; exact h.elim
    | some o =>
      cases o <;> (rw [ho] at h) <;> try exact h.elim
      case ow z' t' ks xs =>
        obtain ⟨h1, rfl, c, hc, h⟩ := h
        obtain ⟨_, _, fl, F, o1, o2, o3, o4, o5, o6, o7, o8⟩ := hob.rep n _ ho
        obtain ⟨cap, hg2⟩ := (hg len (by rw [hob.ln, ho]; simp [AObj.ln, h1])).2 rfl
        have hcl : c.length = z' := o2 c (List.mem_of_getElem? hc)
        have hcell : ∀ j u, fl[j]? = some u → Γ.w.cell? ⟨b, j, none⟩ = some u := fun j u hu => by
          have := World.ownsRow.cells (h := o1) (g := b) (by rw [hg2]; rfl) j u hu
          rwa [Addr.add_mid, Nat.zero_add] at this
        have hfl : xs.flatten.length = fl.length := by rw [flatten_len o2, o1.1]
        have hat : ∀ j y, c[j]? = some y → ∃ u, fl[i * z' + j]? = some u ∧ CellRep Γ y u (F (i * z' + j)) ∧ u.oneCell' = true := by
          intro j y hy
          have hj : j < z' := by rw [← hcl]; exact (List.getElem?_eq_some_iff.1 hy).1
          have h3 := flatten_get o2 hc j hj
          rw [hy] at h3
          have h4 : i * z' + j < fl.length := by rw [← hfl]; exact (List.getElem?_eq_some_iff.1 h3).1
          exact ⟨_, List.getElem?_eq_getElem h4, o3 _ _ _ h3 (List.getElem?_eq_getElem h4), o4 _ (List.getElem_mem h4)⟩
        have hplain : ∀ {y : TV} {u : Value} {G : Nat → Prop}, noO y → CellRep Γ y u G → TRep Γ y u := by
          intro y u G hy hc
          cases hc with
          | t h _ => exact h
          | o h => exact hy.elim
        cases hl : lay P t with
        | none => rw [hl] at h; exact h.elim
        | some bk =>
          obtain ⟨bb, k⟩ := bk
          rw [hl] at h
          cases bb with
          | true =>
            obtain ⟨h1, h2, h9⟩ := h
            obtain ⟨ii, d, q1, q2, q3, q4⟩ := lay_some hl
            have hdl : ((c.drop off).take k).length = k := by simp; omega
            have hU : ∀ j, j < k → ∃ y u, ((c.drop off).take k)[j]? = some y ∧ fl[i * z' + off + j]? = some u ∧ TRep Γ y u ∧ u.oneCell' = true := by
              intro j hj
              have hj2 : off + j < c.length := by omega
              obtain ⟨u, hu1, hu2, hu3⟩ := hat (off + j) _ (List.getElem?_eq_getElem hj2)
              have hy : ((c.drop off).take k)[j]? = some c[off + j] := by rw [List.getElem?_take, if_pos hj, List.getElem?_drop]; exact List.getElem?_eq_getElem hj2
              exact ⟨_, u, hy, by rw [Nat.add_assoc]; exact hu1, hplain (h2 _ (List.mem_of_getElem? hy)).1 hu2, hu3⟩
            have hfl2 : ∀ j, j < k → i * z' + off + j < fl.length := fun j hj => by
              obtain ⟨y, u, _, hu, _⟩ := hU j hj
              exact (List.getElem?_eq_some_iff.1 hu).1
            have hrep : TRep Γ (.ag ((c.drop off).take k)) (.agg ((fl.drop (i * z' + off)).take k).toArray) := by
              refine .ag ?_ ?_ ?_
              · rw [hdl, List.length_take, List.length_drop]
                by_cases hk : k = 0
                · omega
                · have := hfl2 (k - 1) (by omega); omega
              · intro j y u hy hu
                have hj : j < k := by rw [← hdl]; exact (List.getElem?_eq_some_iff.1 hy).1
                obtain ⟨y', u', e1, e2, e3, _⟩ := hU j hj
                rw [List.getElem?_take, if_pos hj, List.getElem?_drop, e2] at hu
                rw [e1] at hy
                cases hu; cases hy
                exact e3
              · exact fun u hu => o4 u (List.mem_of_mem_drop (List.mem_of_mem_take hu))
            refine ⟨.agg ((fl.drop (i * z' + off)).take k).toArray, ?_, ?_⟩
            · rcases h9 with rfl | ⟨r, e1, rfl⟩
              · exact hrep
              · rw [e1] at hrep
                generalize (Value.agg ((fl.drop (i * z' + off)).take k).toArray) = X at hrep
                cases hrep with
                | ag hs hh h1 =>
                  refine .p (.ag (by simpa using hs) (fun j y u hy hu => ?_) h1)
                  have := hh j (.p y) u (by rw [List.getElem?_map, hy]; rfl) hu
                  cases this with | p h => exact h
            · refine run_loadAt_mid Γ.w b (i * z' + off) t _ d ?_ q2 q3 (by
                rw [q1]; simp only [Option.map_some, q4, Option.some.injEq, List.length_take, List.length_drop]
                by_cases hk : k = 0
                · omega
                · have := hfl2 (k - 1) (by omega); omega)
              intro j u hu
              rw [List.getElem?_take] at hu
              split at hu
              · rw [List.getElem?_drop] at hu
                exact hcell _ _ hu
              · cases hu
          | false =>
            obtain ⟨h2, h3, _⟩ := h
            obtain ⟨u, hu1, hu2, hu3⟩ := hat off v h2
            refine ⟨u, hplain h3 hu2, ?_⟩
            have hld : (load ⟨b, i * z' + off, none⟩).run P Γ.w = .ok u Γ.w := by simp [load, Sem.run, hcell _ _ hu1]
            simp only [Instr.loadAt, Instr.sureAddr, loadVar, Sem.run_bind, Sem.run_pure, Result.andThen_ok, lay_agg hl]
            simpa using hld
  case pe l =>
    cases hx with
    | @pe _ b off U hU =>
    simp only [LoadV] at h
    cases hl : lay P t with
    | none => rw [hl] at h; exact h.elim
    | some bk =>
      obtain ⟨bb, k⟩ := bk
      rw [hl] at h
      cases bb with
      | true =>
        obtain ⟨h1, rfl⟩ := h
        obtain ⟨i, d, q1, q2, q3, q4⟩ := lay_some hl
        refine ⟨.agg ((List.range k).map U).toArray, .p (.ag (by simp; omega) ?_ ?_), ?_⟩
        · intro j y u hy hu
          rw [List.getElem?_take] at hy
          split at hy
          · rename_i hj
            rw [List.getElem?_map, List.getElem?_range hj] at hu
            cases hu
            exact (hU j y hy).2.2.2
          · cases hy
        · intro u hu
          obtain ⟨j, hj, rfl⟩ := List.mem_map.1 hu
          have hj2 : j < l.length := by have := List.mem_range.1 hj; omega
          exact (hU j _ (List.getElem?_eq_getElem hj2)).2.2.1
        · refine run_loadAt_mid Γ.w b off t _ d ?_ q2 q3 (by rw [q1]; simp [q4])
          intro j u hu
          rw [List.getElem?_map] at hu
          by_cases hj : j < k
          · rw [List.getElem?_range hj] at hu
            cases hu
            exact (hU j _ (List.getElem?_eq_getElem (by omega))).2.1
          · rw [List.getElem?_eq_none (by simp; omega)] at hu
            cases hu
      | false =>
        obtain ⟨y, h1, rfl⟩ := h
        obtain ⟨_, h3, h4, h5⟩ := hU 0 y h1
        refine ⟨U 0, .p h5, ?_⟩
        rw [Nat.add_zero] at h3
        have hld : (load ⟨b, off, none⟩).run P Γ.w = .ok (U 0) Γ.w := by simp [load, Sem.run, h3]
        simp only [Instr.loadAt, Instr.sureAddr, loadVar, Sem.run_bind, Sem.run_pure, Result.andThen_ok, lay_agg hl]
        simpa using hld
theorem AddV.sound {Γ : Env} {off : Nat} {x v : TV} {X : Value} (h : AddV off x v) (hx : TRep Γ x X) : ∃ b o, X = .pointer (some ⟨b, o, none⟩) ∧ TRep Γ v (.pointer (some ⟨b, o + off, none⟩)) := by
  cases x <;> try exact h.elim
  case ptr n o =>
    cases hx with
    | @ptr _ _ b hn hg =>
    obtain rfl : v = .ptr n (o + off) := h
    exact ⟨b, o, rfl, .ptr hn hg⟩
  case ip n len z i o =>
    cases hx with
    | @ip _ _ _ _ _ b hn hg =>
    obtain rfl : v = .ip n len z i (o + off) := h
    refine ⟨b, i * z + o, rfl, ?_⟩
    have : TRep Γ (.ip n len z i (o + off)) (.pointer (some ⟨b, i * z + (o + off), none⟩)) := .ip hn hg
    rwa [← Nat.add_assoc] at this
  case pe l =>
    cases hx with
    | @pe _ b o U hU =>
    obtain ⟨h1, rfl⟩ : off < l.length ∧ v = .pe (l.drop off) := h
    refine ⟨b, o, rfl, .pe (fun k => U (off + k)) (fun k y hy => ?_)⟩
    rw [List.getElem?_drop] at hy
    have := hU (off + k) y hy
    rwa [← Nat.add_assoc] at this
theorem flds_some {s : TypeId} {l : List (Nat × Nat × Bool)} (h : flds P s = some l) {f off k : Nat} {b : Bool} (hf : l[f]? = some (off, k, b)) :
    ∃ fs fd, P.underlying s = some (.struct fs) ∧ fs[f]? = some fd ∧ fd.offset = off ∧ lay P fd.type = some (b, k) := by
  unfold flds at h
  cases hu : P.underlying s with
  | none => rw [hu] at h; cases h
  | some d =>
    rw [hu] at h
    cases d <;> try (cases h; done)
    case struct fs =>
      simp only at h
      have key : ∀ (l0 : List Field) (l : List (Nat × Nat × Bool)), l0.mapM (fun f => (lay P f.type).map fun l => (f.offset, l.2, l.1)) = some l → ∀ f : Nat, l[f]? = some (off, k, b) → ∃ fd, l0[f]? = some fd ∧ fd.offset = off ∧ lay P fd.type = some (b, k) := by
        intro l0
        induction l0 with
        | nil => intro l h f hf; simp at h; subst h; simp at hf
        | cons x l0 ih =>
          intro l h f hf
          simp only [List.mapM_cons, Option.bind_eq_bind, Option.pure_def] at h
          cases hx : lay P x.type with
          | none => rw [hx] at h; simp at h
          | some bk =>
            rw [hx] at h
            cases hr : l0.mapM (fun f => (lay P f.type).map fun l => (f.offset, l.2, l.1)) with
            | none => rw [hr] at h; simp at h
            | some r =>
              rw [hr] at h
              simp only [Option.map_some, Option.bind_some, Option.some.injEq] at h
              subst h
              cases f with
              | zero =>
                simp only [List.getElem?_cons_zero, Option.some.injEq, Prod.mk.injEq] at hf
                obtain ⟨rfl, rfl, rfl⟩ := hf
                exact ⟨x, rfl, rfl, hx⟩
              | succ f => simpa using ih r hr f (by simpa using hf)
      obtain ⟨fd, e1, e2, e3⟩ := key _ l h f hf
      exact ⟨fs, fd, rfl, by simpa using e1, e2, e3⟩
theorem fieldAt_sound {Γ : Env} {s : TypeId} {l : List (Nat × Nat × Bool)} (h : flds P s = some l) {f off k : Nat} {b : Bool} (hf : l[f]? = some (off, k, b)) (hk : k ≠ 0) {x v : TV} {X : Value} (hv : AddV off x v) (hx : TRep Γ x X) :
    ∃ V, TRep Γ v V ∧ (Instr.fieldAt s X f).run P Γ.w = .ok V Γ.w := by
  obtain ⟨fs, fd, e1, e2, e3, e4⟩ := flds_some h hf
  obtain ⟨bb, o, rfl, h2⟩ := hv.sound hx
  refine ⟨_, h2, ?_⟩
  simp [Instr.fieldAt, run_underlying e1, e2, Instr.sureAddr, fieldPlace, lay_size e4, hk, e3, Addr.add_mid]
theorem ext_take (A : List Value) (off k : Nat) : A.toArray.extract off (off + k) = ((A.drop off).take k).toArray := by
  rw [List.extract_toArray, List.extract_eq_take_drop, Nat.add_sub_cancel_left]
theorem PartV.sound {Γ : Env} {off k : Nat} {b : Bool} {t : TypeId} (hl : lay P t = some (b, k)) {x v : TV} {X : Value} (h : PartV off k b x v) (hx : TRep Γ x X) : ∃ A V, X = .agg A ∧ TRep Γ v V ∧ (part t A off).run P Γ.w = .ok V Γ.w := by
  cases x <;> try exact h.elim
  case ag l =>
    cases hx with
    | @ag _ A hs hA h1 =>
    obtain ⟨h2, h3⟩ := h
    cases b with
    | true =>
      obtain rfl : v = .ag ((l.drop off).take k) := h3
      refine ⟨_, .agg ((A.drop off).take k).toArray, rfl, .ag (by simp; omega) ?_ ?_, ?_⟩
      · intro j y u hy hu
        rw [List.getElem?_take] at hy hu
        split at hy
        · rename_i hj
          rw [if_pos hj] at hu
          rw [List.getElem?_drop] at hy hu
          exact hA _ y u hy hu
        · cases hy
      · intro u hu
        exact h1 u (List.mem_of_mem_drop (List.mem_of_mem_take hu))
      · simp only [part, Sem.run_bind, lay_agg hl, lay_size hl, Result.andThen_ok, if_true, Sem.run_pure, ext_take]
    | false =>
      have h3 : l[off]? = some v := h3
      have hlt : off < A.length := by rw [hs]; exact (List.getElem?_eq_some_iff.1 h3).1
      refine ⟨_, A[off], rfl, hA off v _ h3 (List.getElem?_eq_getElem hlt), ?_⟩
      simp [part, lay_agg hl, hlt]
  case p pv =>
    cases pv <;> try exact h.elim
    case ag l =>
      cases hx with
      | p hx =>
      cases hx with
      | @ag _ A hs hA h1 =>
      obtain ⟨h2, h3⟩ := h
      cases b with
      | true =>
        obtain rfl : v = .p (.ag ((l.drop off).take k)) := h3
        refine ⟨_, .agg ((A.drop off).take k).toArray, rfl, .p (.ag (by simp; omega) ?_ ?_), ?_⟩
        · intro j y u hy hu
          rw [List.getElem?_take] at hy hu
          split at hy
          · rename_i hj
            rw [if_pos hj] at hu
            rw [List.getElem?_drop] at hy hu
            exact hA _ y u hy hu
          · cases hy
        · intro u hu
          exact h1 u (List.mem_of_mem_drop (List.mem_of_mem_take hu))
        · simp only [part, Sem.run_bind, lay_agg hl, lay_size hl, Result.andThen_ok, if_true, Sem.run_pure, ext_take]
      | false =>
        obtain ⟨y, h3, rfl⟩ := h3
        have hlt : off < A.length := by rw [hs]; exact (List.getElem?_eq_some_iff.1 h3).1
        refine ⟨_, A[off], rfl, .p (hA off y _ h3 (List.getElem?_eq_getElem hlt)), ?_⟩
        simp [part, lay_agg hl, hlt]
end
end Go.Proofs.YtglkkbgflnpjeaaGreatDoor.En
end
section
namespace Go.Proofs.YtglkkbgflnpjeaaGreatDoor.En
set_option linter.unusedVariables false
set_option linter.unusedSimpArgs false
open Go Go.RowKit Go.Proofs.YtglkkbgflnpjeaaGreatDoor.PA
inductive ToPV (ob : Nm → Option AObj) : TV → PV → Prop
  | p {v : PV} : ToPV ob (.p v) v
  | nl {z : Nat} : ToPV ob .nil (.row z [])
  | vw {n : Nm} {len z : Nat} {t : TypeId} {xs : List PV} (h : ob n = some (.rw z t xs)) (hl : xs.length = len) : ToPV ob (.vw n len) (.row z xs)
  | ag {l : List TV} {l' : List PV} (hs : l.length = l'.length) (h : ∀ (k : Nat) x y, l[k]? = some x → l'[k]? = some y → ToPV ob x y) : ToPV ob (.ag l) (.ag l')
def RowOf (ob : Nm → Option AObj) : TV → Nat → List PV → Prop
  | .p (.row z' xs'), z, xs => z = z' ∧ xs = xs'
  | .vw n len, z, xs => match ob n with
    | some (.rw z' _ xs') => xs'.length = len ∧ z = z' ∧ xs = xs'
    | _ => False
  | .nil, _, xs => xs = []
  | _, _, _ => False
def IndexV (P : Program) (ob : Nm → Option AObj) (t : TypeId) (x i v : TV) : Prop :=
  (∃ z xs e b k n y, RowOf ob x z xs ∧ P.underlying t = some (.slice e) ∧ lay P e = some (b, z) ∧ i = .p (.c (.int k n)) ∧ 0 ≤ n ∧ xs[n.toNat]? = some y ∧ v = .pe y.cells) ∨
  (∃ m len e b z k n, x = .sl m len ∧ P.underlying t = some (.slice e) ∧ lay P e = some (b, z) ∧ i = .p (.c (.int k n)) ∧ 0 ≤ n ∧ n < len ∧ v = .ptr m (n.toNat * z)) ∨
  (∃ m len e b z k n t' ks xs, x = .vw m len ∧ ob m = some (.ow z t' ks xs) ∧ xs.length = len ∧ P.underlying t = some (.slice e) ∧ lay P e = some (b, z) ∧ i = .p (.c (.int k n)) ∧ 0 ≤ n ∧ n < len ∧ v = .ip m len z n.toNat 0)
def LenV (ob : Nm → Option AObj) : TV → TV → Prop
  | .p (.row _ xs), v => v = .p (.c (.int .i64 xs.length))
  | .p (.c (.string s)), v => v = .p (.c (.int .i64 s.size))
  | .nil, v => v = .p (.c (.int .i64 0))
  | .vw n len, v => match ob n with
    | some (.rw _ _ xs) => xs.length = len ∧ v = .p (.c (.int .i64 len))
    | some (.ow _ _ _ xs) => xs.length = len ∧ v = .p (.c (.int .i64 len))
    | _ => False
  | .sl _ len, v => v = .p (.c (.int .i64 len))
  | _, _ => False
theorem ORep.prep {Γ : Env} {n : Nm} {z : Nat} {t : TypeId} {xs : List PV} (h : ORep Γ n (.rw z t xs)) : PRep Γ.w Γ.S (.row z xs) (Γ.g n).v := by
  obtain ⟨fl, h1, _, h2, h3, h4⟩ := h
  have hfl := h1.1
  rcases h1.2 with ⟨e1, e2⟩ | ⟨b, cap, cur, e1, e2, e3, e4, e5, e6, e7⟩
  · obtain rfl := List.length_eq_zero_iff.1 e2
    rw [e1]; exact .nl
  · have hc : ∀ k, k < xs.length * z → Γ.w.cell? ⟨b, k, none⟩ = fl[k]? := by
      intro k hk
      rw [cell_of_row Γ.w b k cur t (0, 0) e3, ← e7, List.getElem?_take, if_pos hk]
      simp
    rw [e1]
    have hflat : (flat xs).length = xs.length * z := flat_len h2
    refine .row (fun k => fl.getD k undef) e4 h2 ?_ ?_
    · intro k y hy
      have hk : k < fl.length := by rw [hfl, ← hflat]; exact (List.getElem?_eq_some_iff.1 hy).1
      have := (h3 k y _ hy (List.getElem?_eq_getElem hk)).1
      simpa [List.getD, List.getElem?_eq_getElem hk] using this
    · intro k hk
      have hk2 : k < fl.length := by rw [hfl]; exact hk
      have hk3 : k < (flat xs).length := by rw [hflat]; exact hk
      refine ⟨by rw [Nat.zero_add]; exact (h4 b (by rw [e1]; rfl) k).2 hk, ?_, ?_⟩
      · rw [Nat.zero_add, hc k hk]
        simp [List.getD, List.getElem?_eq_getElem hk2]
      · have := (h3 k _ _ (List.getElem?_eq_getElem hk3) (List.getElem?_eq_getElem hk2)).2
        simpa [List.getD, List.getElem?_eq_getElem hk2] using this
theorem vw_g {Γ : Env} {ob : Nm → Option AObj} (hob : Obs Γ ob) {n : Nm} {len : Nat} {V : Value} (h : TRep Γ (.vw n len) V) {z : Nat} {t : TypeId} {xs : List PV} (ho : ob n = some (.rw z t xs)) (hl : xs.length = len) : V = (Γ.g n).v := by
  cases h with
  | vw hn h1 h =>
    refine (h xs.length ?_).2 hl.symm
    rw [hob.ln, ho]; rfl
theorem RowOf.sound {Γ : Env} {ob : Nm → Option AObj} (hob : Obs Γ ob) {x : TV} {X : Value} (hx : TRep Γ x X) {z : Nat} {xs : List PV} (h : RowOf ob x z xs) : PRep Γ.w Γ.S (.row z xs) X := by
  cases x <;> try exact h.elim
  case p v =>
    cases v <;> try exact h.elim
    case row z' xs' =>
      obtain ⟨rfl, rfl⟩ := h
      cases hx with | p hx => exact hx
  case nil =>
    obtain rfl : xs = [] := h
    cases hx
    exact .nl
  case vw n len =>
    simp only [RowOf] at h
    cases ho : ob n with
    | none => rw [ho] at h; exact h.elim
    | some o =>
      cases o <;> (rw [ho] at h) <;> try exact h.elim
      case rw z' t xs' =>
        obtain ⟨h1, rfl, rfl⟩ := h
        rw [vw_g hob hx ho h1]
        exact (hob.rep n _ ho).prep
theorem ToPV.one {ob : Nm → Option AObj} {x : TV} {y : PV} (h : ToPV ob x y) (hy : ∀ l, y ≠ .ag l) : ∀ l, x ≠ .ag l := by
  rintro l rfl
  cases h with
  | ag hs h => exact hy _ rfl
theorem ToPV.sound {Γ : Env} {ob : Nm → Option AObj} (hob : Obs Γ ob) {x : TV} {y : PV} (h : ToPV ob x y) : ∀ {X : Value}, TRep Γ x X → PRep Γ.w Γ.S y X := by
  induction h with
  | p => intro X hx; cases hx with | p hx => exact hx
  | nl => intro X hx; cases hx; exact .nl
  | vw h hl =>
    intro X hx
    rw [vw_g hob hx h hl]
    exact (hob.rep _ _ h).prep
  | @ag l l' hs h ih =>
    intro X hx
    cases hx with
    | @ag _ A hA h1 h2 =>
    refine .ag (hA.trans hs) (fun k y u hy hu => ?_) h2
    have hk : k < l.length := by rw [hs]; exact (List.getElem?_eq_some_iff.1 hy).1
    exact ih k _ y (List.getElem?_eq_getElem hk) hy (h1 k _ u (List.getElem?_eq_getElem hk) hu)
theorem row_at {w : World} {S : Nat → Nat → Prop} {z : Nat} {xs : List PV} {X : Value} (h : PRep w S (.row z xs) X) {i : Nat} {y : PV} (hi : xs[i]? = some y) :
    ∃ b off c, X = .slice (some ⟨b, off, none⟩) xs.length c ∧ ∀ g ln nH, TRep ⟨w, S, g, ln, nH⟩ (.pe y.cells) (.pointer (some ⟨b, off + i * z, none⟩)) := by
  cases h with
  | nl => simp at hi
  | @row _ _ b off c U hc hz hU hcell =>
    have hlt := (List.getElem?_eq_some_iff.1 hi).1
    have hyl : y.cells.length = z := hz y (List.mem_of_getElem? hi)
    refine ⟨b, off, c, rfl, fun g ln nH => .pe (fun k => U (i * z + k)) (fun k y' hy' => ?_)⟩
    have hk : k < z := by rw [← hyl]; exact (List.getElem?_eq_some_iff.1 hy').1
    have hkk : i * z + k < xs.length * z := by
      have : (i + 1) * z ≤ xs.length * z := Nat.mul_le_mul_right z hlt
      rw [Nat.succ_mul] at this; omega
    obtain ⟨h1, h2, h3⟩ := hcell _ hkk
    have h4 := hU (i * z + k) y' (by rw [flat_get hz hi k hk]; exact hy')
    rw [← Nat.add_assoc] at h1 h2
    exact ⟨h1, h2, h3, h4⟩
section
variable {P : Program}
theorem IndexV.sound {Γ : Env} {ob : Nm → Option AObj} (hob : Obs Γ ob) {t : TypeId} {x i v : TV} {X I : Value} (h : IndexV P ob t x i v) (hx : TRep Γ x X) (hi : TRep Γ i I) : ∃ V, TRep Γ v V ∧ (Instr.indexAt t X I).run P Γ.w = .ok V Γ.w := by
  rcases h with ⟨z, xs, e, b, k, n, y, h1, h2, h3, rfl, h5, h6, rfl⟩ | ⟨m, len, e, b, z, k, n, rfl, h2, h3, rfl, h5, h6, rfl⟩ | ⟨m, len, e, b, z, k, n, t', ks, xs, rfl, ho, hl, h2, h3, rfl, h5, h6, rfl⟩
  · obtain ⟨bl, off, c, rfl, h7⟩ := row_at (h1.sound hob hx) h6
    refine ⟨_, h7 _ _ _, ?_⟩
    cases hi with
    | p hi =>
    cases hi
    have hlt : n.toNat < xs.length := (List.getElem?_eq_some_iff.1 h6).1
    have hn : 0 ≤ n ∧ n < (xs.length : Int) := ⟨h5, by omega⟩
    simp [Instr.indexAt, run_underlying h2, asIntOf, hn, lay_size h3, Addr.add_mid]
  · cases hx with
    | @sl _ _ c bl hn hc hg =>
    cases hi with
    | p hi =>
    cases hi
    refine ⟨_, .ptr hn hg, ?_⟩
    have hn : 0 ≤ n ∧ n < (len : Int) := ⟨h5, h6⟩
    simp [Instr.indexAt, run_underlying h2, asIntOf, hn, lay_size h3, Addr.add_mid]
  · cases hx with
    | vw hn h1 hg =>
    cases hi with
    | p hi =>
    cases hi
    have hV := (hg xs.length (by rw [hob.ln, ho]; rfl)).2 hl.symm
    obtain ⟨_, _, fl, F, o1, _⟩ := hob.rep m _ ho
    rcases o1.2 with ⟨e1, e2⟩ | ⟨gb, cap, cur, e1, _⟩
    · omega
    · rw [e1] at hV
      rw [hl] at hV e1
      subst hV
      refine ⟨.pointer (some ⟨gb, n.toNat * z + 0, none⟩), .ip hn (fun k hk => ?_), ?_⟩
      · rw [hob.ln, ho] at hk
        simp only [Option.bind_some, AObj.ln, Option.some.injEq] at hk
        exact ⟨by omega, fun _ => ⟨cap, e1⟩⟩
      · have hn : 0 ≤ n ∧ n < (len : Int) := ⟨h5, h6⟩
        simp [Instr.indexAt, run_underlying h2, asIntOf, hn, lay_size h3, Addr.add_mid]
theorem LenV.sound {Γ : Env} {ob : Nm → Option AObj} (hob : Obs Γ ob) {t ty : TypeId} {x v : TV} {X : Value} (h : LenV ob x v) (hx : TRep Γ x X) (ht : P.underlying t = some .string ∨ ∃ e, P.underlying t = some (.slice e)) (hts : (∃ s, x = .p (.c (.string s))) → P.underlying t = some .string) (htl : (∀ s, x ≠ .p (.c (.string s))) → ∃ e, P.underlying t = some (.slice e)) :
    ∃ V, TRep Γ v V ∧ (Builtin.len_ #[t] ty #[X]).run P Γ.w = .ok V Γ.w := by
  have key : ∀ a n c, (∀ s, x ≠ .p (.c (.string s))) → (Builtin.len_ #[t] ty #[.slice a n c]).run P Γ.w = .ok (.int .i64 n) Γ.w := by
    intro a n c hs
    obtain ⟨e, he⟩ := htl hs
    simp [Builtin.len_, run_underlying he, goInt]
  cases x <;> try exact h.elim
  case p pv =>
    cases pv <;> try exact h.elim
    case c cv =>
      cases cv <;> try exact h.elim
      case string s =>
        obtain rfl : v = _ := h
        cases hx with
        | p hx =>
        cases hx
        exact ⟨_, .p (.c rfl), by simp [Builtin.len_, run_underlying (hts ⟨s, rfl⟩), goInt]⟩
    case row z xs =>
      obtain rfl : v = _ := h
      cases hx with
      | p hx =>
      cases hx with
      | nl => exact ⟨_, .p (.c rfl), key _ _ _ (by simp)⟩
      | row => exact ⟨_, .p (.c rfl), key _ _ _ (by simp)⟩
  case nil =>
    obtain rfl : v = _ := h
    cases hx
    exact ⟨_, .p (.c rfl), key _ _ _ (by simp)⟩
  case vw n len =>
    simp only [LenV] at h
    cases ho : ob n with
    | none => rw [ho] at h; exact h.elim
    | some o =>
      cases o <;> (rw [ho] at h) <;> try exact h.elim
      case rw z' t xs' =>
        obtain ⟨h1, rfl⟩ := h
        have hp := (hob.rep n _ ho).prep
        rw [← vw_g hob hx ho h1] at hp
        subst h1
        cases hp with
        | nl => exact ⟨_, .p (.c rfl), key _ _ _ (by simp)⟩
        | row => exact ⟨_, .p (.c rfl), key _ _ _ (by simp)⟩
      case ow z' t ks xs' =>
        obtain ⟨h1, rfl⟩ := h
        cases hx with
        | vw hn _ hg =>
        have hV := (hg xs'.length (by rw [hob.ln, ho]; rfl)).2 h1.symm
        obtain ⟨_, _, fl, F, o1, _⟩ := hob.rep n _ ho
        rcases o1.2 with ⟨e1, e2⟩ | ⟨gb, cap, cur, e1, _⟩
        · rw [hV, e1]
          rw [e2] at h1
          rw [← h1]
          exact ⟨_, .p (.c rfl), key _ _ _ (by simp)⟩
        · rw [hV, e1, h1]; exact ⟨_, .p (.c rfl), key _ _ _ (by simp)⟩
  case sl n len =>
    obtain rfl : v = _ := h
    cases hx
    exact ⟨_, .p (.c rfl), key _ _ _ (by simp)⟩
theorem UnV.sound {Γ : Env} {op : UnOp} {x v : TV} {X : Value} (h : UnV op x v) (hx : TRep Γ x X) : ∃ V, TRep Γ v V ∧ (Op.unary op X).run P Γ.w = .ok V Γ.w := by
  cases x <;> try exact h.elim
  case p pv =>
    cases pv <;> try exact h.elim
    case c cv =>
      cases cv <;> try exact h.elim
      case bool b =>
        obtain ⟨rfl, rfl⟩ := h
        cases hx with
        | p hx => cases hx; exact ⟨_, .p (.c rfl), by simp [Op.unary]⟩
      case int k n =>
        obtain ⟨rfl, rfl⟩ := h
        cases hx with
        | p hx => cases hx; exact ⟨_, .p (.c rfl), by simp [Op.unary, Op.intArith]⟩
theorem bytes_beq (a b : ByteArray) : (a.toList == b.toList) = (a == b) := by
  have h : a.toList = b.toList ↔ a = b := ⟨fun h => by
    rw [ByteArray.toList_eq, ByteArray.toList_eq] at h
    exact ByteArray.ext (Array.toList_inj.mp h), fun h => h ▸ rfl⟩
  rw [Bool.eq_iff_iff, beq_iff_eq, h, ba_beq]
theorem meth_at {t : TypeId} {ms : Array (String × TypeId)} (h : P.underlying t = some (.interface ms)) : P.underlying t = some (.interface (P.methodsAt t)) := by
  rw [h]; simp [Program.methodsAt, h]
theorem BinC.sound {op : BinOp} {t : TypeId} {x y : Operand} {a b r : Value} {w : World} (hok : BinOk P op t y a b) (h : binF op a b = some r) : r.oneCell' = true ∧ (do eqGuard op t x y a b; binOp op t a b : Sem Value).run P w = .ok r w := by
  unfold binF at h
  split at h
  case h_4 =>
    split at h <;> cases h
    rename_i hk
    subst hk
    have := hok (.inl rfl)
    exact ⟨rfl, by simp [eqGuard, binOp_quo, Op.intDiv, this]⟩
  case h_5 =>
    split at h <;> cases h
    rename_i hk
    subst hk
    have := hok (.inr rfl)
    exact ⟨rfl, by simp [eqGuard, binOp_rem, Op.intDiv, this]⟩
  case h_14 =>
    cases h
    have := hok rfl
    rename_i sa sb
    have h2 : ¬ ((((sa.size + sb.size : Nat)) : Int) > IntKind.i64.max) := by simp only [IntKind.max, IntKind.bits, IntKind.signed]; simp; omega
    exact ⟨rfl, by simp [eqGuard, binOp, Op.stringOp]; omega⟩
  case h_17 => cases h; have := hok; exact ⟨rfl, by simp only [eqGuard_at_bool]; simp [run_eql_bool w t _ _ this]⟩
  case h_18 => cases h; have := hok; exact ⟨rfl, by simp only [eqGuard_at_bool]; simp [run_neq_bool w t _ _ this]⟩
  case h_19 =>
    cases h
    obtain ⟨⟨c, rfl⟩, ms, hms⟩ := hok
    exact ⟨rfl, by simp only [eqGuard_nil_constR]; simp [run_eql_nil_nil w t (meth_at hms)]⟩
  case h_20 =>
    cases h
    obtain ⟨⟨c, rfl⟩, ms, hms⟩ := hok
    exact ⟨rfl, by simp only [eqGuard_nil_constR]; simp [run_neq_nil_nil w t (meth_at hms)]⟩
  case h_21 => cases h
  all_goals first
    | (split at h <;> cases h; rename_i hk; subst hk; exact ⟨rfl, by simp [eqGuard, binOp, Op.intArith, Op.intCmp, intBits_and, intBits_xor]⟩)
    | (cases h; exact ⟨rfl, by simp [eqGuard, binOp, Op.stringOp, bytes_beq]⟩)
theorem BinV.sound {Γ : Env} {op : BinOp} {t : TypeId} {x y : Operand} {a b v : TV} {A B : Value} (h : BinV P op t y a b v) (hA : TRep Γ a A) (hB : TRep Γ b B) : ∃ V, TRep Γ v V ∧ (do eqGuard op t x y A B; binOp op t A B : Sem Value).run P Γ.w = .ok V Γ.w := by
  unfold BinV at h
  split at h
  · obtain ⟨h1, r, h2, rfl⟩ := h
    cases hA with | p hA => cases hB with | p hB =>
    cases hA
    cases hB
    obtain ⟨h3, h4⟩ := BinC.sound (w := Γ.w) (x := x) h1 h2
    exact ⟨r, .p (.c h3), h4⟩
  · obtain ⟨⟨ms, hms⟩, h2⟩ := h
    cases hA with | p hA => cases hB with | p hB =>
    cases hA
    cases hB
    rcases h2 with ⟨rfl, rfl⟩ | ⟨rfl, rfl⟩
    · exact ⟨_, .p (.c rfl), by simp [eqGuard, run_eql_held_nil Γ.w t _ _ (meth_at hms)]⟩
    · exact ⟨_, .p (.c rfl), by simp [eqGuard, run_neq_held_nil Γ.w t _ _ (meth_at hms)]⟩
  · exact h.elim
end
end Go.Proofs.YtglkkbgflnpjeaaGreatDoor.En
end
section
namespace Go.Proofs.YtglkkbgflnpjeaaGreatDoor.En
set_option linter.unusedVariables false
set_option linter.unusedSimpArgs false
open Go Go.RowKit Go.Proofs.YtglkkbgflnpjeaaGreatDoor.PA
def Bnd (ev : Operand → TV) (x : Option Operand) (d : Nat) (n : Nat) : Prop := match x with
  | none => n = d
  | some o => ∃ k m, ev o = .p (.c (.int k m)) ∧ 0 ≤ m ∧ n = m.toNat
def SliceV (P : Program) (ob : Nm → Option AObj) (ev : Operand → TV) (t : TypeId) (x : TV) (lo hi : Option Operand) (v : TV) : Prop :=
  (∃ s l h, x = .p (.c (.string s)) ∧ P.underlying t = some .string ∧ Bnd ev lo 0 l ∧ Bnd ev hi s.size h ∧ l ≤ h ∧ h ≤ s.size ∧ v = .p (.c (.string (s.extract l h)))) ∨
  (∃ z xs e b l h, RowOf ob x z xs ∧ P.underlying t = some (.slice e) ∧ lay P e = some (b, z) ∧ Bnd ev lo 0 l ∧ Bnd ev hi xs.length h ∧ l ≤ h ∧ h ≤ xs.length ∧ v = .p (.row z ((xs.take h).drop l)))
def tcells : TV → List TV
  | .ag l => l
  | .p (.ag l) => l.map .p
  | v => [v]
def hasCells : TV → Prop
  | .u | .tp _ => False
  | _ => True
def splice {α : Type} (c : List α) (off : Nat) (l : List α) : List α := c.take off ++ l ++ c.drop (off + l.length)
def FillT (places : List (Nat × Nat × Bool)) : List (Nat × TV) → List TV → List TV → Prop
  | [], cells, r => r = cells
  | (i, v) :: rest, cells, r => match places[i]? with
    | none => False
    | some (off, size, _) => hasCells v ∧ (tcells v).length = size ∧ off + size ≤ cells.length ∧ FillT places rest (splice cells off (tcells v)) r
def cv : Value → TV
  | .slice none 0 0 => .nil
  | v => if v.oneCell' then .p (.c v) else .u
def BuildV (P : Program) (ev : Operand → TV) (t : TypeId) (parts : List (Nat × Operand)) (v : TV) : Prop :=
  ∃ places z r, flds P t = some places ∧ zer P t = some z ∧ (∀ u ∈ z, u.oneCell' = true) ∧ FillT places (parts.map fun p => (p.1, ev p.2)) (z.map cv) r ∧ v = .ag r
def ConvV (P : Program) (src dst : TypeId) : TV → TV → Prop
  | .p (.c (.int k n)), v => (∃ d, P.underlying src = some d) ∧ ∃ k', P.underlying dst = some (.int k') ∧ v = .p (.c (.int k' (k'.wrap n)))
  | .p (.c (.string s)), v => (∃ d, P.underlying src = some d) ∧ P.underlying dst = some .string ∧ v = .p (.c (.string s))
  | _, _ => False
def AssertV (P : Program) (xType t : TypeId) (ok : Bool) : TV → TV → Prop
  | .p (.ifc t' y), v => (∀ ms, P.underlying t ≠ some (.interface ms)) ∧ (∃ d, P.underlying t = some d) ∧ ((t' = t ∧ v = if ok then .tp [.p y, .p (.c (.bool true))] else .p y) ∨ (t' ≠ t ∧ ok = true ∧ (∃ Z, (P.info? t).bind (·.zero) = some Z) ∧ v = .tp [.u, .p (.c (.bool false))]))
  | _, _ => False
def StrIdxV (P : Program) (t : TypeId) : TV → TV → TV → Prop
  | .p (.c (.string s)), .p (.c (.int k i)), v => P.underlying t = some .string ∧ 0 ≤ i ∧ ∃ b, s.data[i.toNat]? = some b ∧ v = .p (.c (.int .u8 b.toNat))
  | _, _, _ => False
structure CRep (Γ : Env) (l : List TV) (A : List Value) : Prop where
  len : A.length = l.length
  get : ∀ (k : Nat) y u, l[k]? = some y → A[k]? = some u → TRep Γ y u
  one : ∀ u ∈ A, u.oneCell' = true
theorem CRep.append {Γ : Env} {l l2 : List TV} {A A2 : List Value} (h : CRep Γ l A) (h2 : CRep Γ l2 A2) : CRep Γ (l ++ l2) (A ++ A2) := by
  refine ⟨by simp [h.len, h2.len], fun k y u hy hu => ?_, fun u hu => ?_⟩
  · by_cases hk : k < l.length
    · rw [List.getElem?_append_left hk] at hy
      rw [List.getElem?_append_left (by rw [h.len]; exact hk)] at hu
      exact h.get k y u hy hu
    · rw [List.getElem?_append_right (by omega)] at hy
      rw [List.getElem?_append_right (by rw [h.len]; omega), h.len] at hu
      exact h2.get _ y u hy hu
  · rcases List.mem_append.1 hu with h3 | h3
    · exact h.one u h3
    · exact h2.one u h3
theorem CRep.take {Γ : Env} {l : List TV} {A : List Value} (h : CRep Γ l A) (n : Nat) : CRep Γ (l.take n) (A.take n) := by
  refine ⟨by simp [h.len], fun k y u hy hu => ?_, fun u hu => h.one u (List.mem_of_mem_take hu)⟩
  rw [List.getElem?_take] at hy hu
  split at hy
  · rename_i hk
    rw [if_pos hk] at hu
    exact h.get k y u hy hu
  · cases hy
theorem CRep.drop {Γ : Env} {l : List TV} {A : List Value} (h : CRep Γ l A) (n : Nat) : CRep Γ (l.drop n) (A.drop n) := by
  refine ⟨by simp [h.len], fun k y u hy hu => ?_, fun u hu => h.one u (List.mem_of_mem_drop hu)⟩
  rw [List.getElem?_drop] at hy hu
  exact h.get _ y u hy hu
theorem CRep.splice {Γ : Env} {l l2 : List TV} {A A2 : List Value} (h : CRep Γ l A) (h2 : CRep Γ l2 A2) (off : Nat) : CRep Γ (splice l off l2) (splice A off A2) := by
  unfold En.splice
  rw [h2.len]
  exact ((h.take off).append h2).append (h.drop _)
theorem CRep.consts {Γ : Env} {z : List Value} (h : ∀ u ∈ z, u.oneCell' = true) : CRep Γ (z.map cv) z := by
  refine ⟨by simp, fun k y u hy hu => ?_, h⟩
  rw [List.getElem?_map, hu] at hy
  simp only [Option.map_some, Option.some.injEq] at hy
  subst hy
  have h1 := h u (List.mem_of_getElem? hu)
  unfold cv
  split
  · exact .nil
  · rw [if_pos h1]; exact .p (.c h1)
theorem tcells_rep {Γ : Env} {v : TV} {V : Value} (h : TRep Γ v V) (hc : hasCells v) : CRep Γ (tcells v) V.cells.toList := by
  have single : ∀ {v : TV} {V : Value}, TRep Γ v V → V.oneCell' = true → CRep Γ [v] V.cells.toList := by
    intro v V h h1
    have : V.cells = #[V] := by cases V <;> first | rfl | (simp [Value.oneCell'] at h1)
    rw [this]
    refine ⟨rfl, fun k y u hy hu => ?_, fun u hu => ?_⟩
    · cases k with
      | zero => simp at hy hu; subst hy; subst hu; exact h
      | succ k => simp at hy
    · simp at hu; subst hu; exact h1
  cases v with
  | p pv =>
    cases h with
    | p h =>
    cases pv with
    | ag l =>
      cases h with
      | @ag _ A hs hA h1 =>
      refine ⟨by simp [tcells, Value.cells, hs], fun k y u hy hu => ?_, fun u hu => h1 u (by simpa [Value.cells] using hu)⟩
      simp only [tcells, List.getElem?_map] at hy
      cases hl : l[k]? with
      | none => rw [hl] at hy; cases hy
      | some q =>
        rw [hl] at hy
        cases hy
        exact .p (hA k q u hl (by simpa [Value.cells] using hu))
    | c cvv => exact single (.p h) (h.one (by simp))
    | ifc t y => exact single (.p h) (h.one (by simp))
    | row z xs => exact single (.p h) (h.one (by simp))
    | own z t xs => cases h
    | any => cases h
  | o v => cases h
  | ip n len z i off => exact single h (by cases h; rfl)
  | u => exact hc.elim
  | tp l => exact hc.elim
  | ag l =>
    cases h with
    | @ag _ A hs hA h1 => exact ⟨by simp [tcells, Value.cells, hs], fun k y u hy hu => hA k y u hy (by simpa [Value.cells] using hu), fun u hu => h1 u (by simpa [Value.cells] using hu)⟩
  | nil => exact single h (by cases h; rfl)
  | ptr n o => exact single h (by cases h; rfl)
  | pe l => exact single h (by cases h; rfl)
  | vw n l => exact single h (by cases h; assumption)
  | sl n l => exact single h (by cases h; rfl)
  | mp n => exact single h (by cases h; rfl)
  | fn f l => exact single h (by cases h; rfl)
  | bf f l => exact single h (by cases h; rfl)
theorem splice_cons {α : Type} (c : List α) (o : Nat) (x : α) (vs : List α) (h : o + (vs.length + 1) ≤ c.length) : splice (c.set o x) (o + 1) vs = splice c o (x :: vs) := by
  unfold splice
  rw [List.length_cons, show o + 1 + vs.length = o + (vs.length + 1) by omega, List.take_set, List.drop_set_of_lt (by omega)]
  have : (c.take (o + 1)).set o x = c.take o ++ [x] := by
    rw [List.take_succ_eq_append_getElem (by omega), List.set_append_right _ _ (by simp; omega)]
    simp [List.length_take, Nat.min_eq_left (show o ≤ c.length by omega)]
  rw [this]
  simp
theorem foldl_splice (off : Nat) : ∀ (vs : List Value) (i0 : Nat) (cs : Array Value), off + i0 + vs.length ≤ cs.size → ((vs.zipIdx i0).foldl (fun cs (c, j) => cs.setIfInBounds (off + j) c) cs).toList = splice cs.toList (off + i0) vs
  | [], i0, cs, h => by simp [splice]
  | x :: vs, i0, cs, h => by
    simp only [List.zipIdx_cons, List.foldl_cons]
    rw [foldl_splice off vs (i0 + 1) _ (by simp; simp at h; omega), Array.toList_setIfInBounds, ← splice_cons _ _ _ _ (by simp at h ⊢; omega)]
    rfl
theorem fill_sound {Γ : Env} {places : List (Nat × Nat × Bool)} {place : Nat → Option (Nat × Nat)} (hp : ∀ i o s b, places[i]? = some (o, s, b) → place i = some (o, s)) :
    ∀ (parts : List (Nat × TV)) (pv : List (Nat × Value)) (cells : List TV) (A : Array Value) (r : List TV), pv.length = parts.length → (∀ (k : Nat) x y, parts[k]? = some x → pv[k]? = some y → y.1 = x.1 ∧ TRep Γ x.2 y.2) → CRep Γ cells A.toList → FillT places parts cells r →
      ∃ A', Instr.fill place A pv = some A' ∧ CRep Γ r A'.toList
  | [], [], cells, A, r, _, _, hc, h => by
    obtain rfl : r = cells := h
    exact ⟨A, rfl, hc⟩
  | [], _ :: _, _, _, _, hl, _, _, _ => by simp at hl
  | _ :: _, [], _, _, _, hl, _, _, _ => by simp at hl
  | (i, v) :: parts, (j, V) :: pv, cells, A, r, hl, hall, hc, h => by
    obtain ⟨e1, e2⟩ := hall 0 _ _ rfl rfl
    simp only at e1 e2
    subst e1
    simp only [FillT] at h
    cases hpl : places[j]? with
    | none => rw [hpl] at h; exact h.elim
    | some osb =>
      obtain ⟨o, s, b⟩ := osb
      rw [hpl] at h
      obtain ⟨h1, h2, h3, h4⟩ := h
      have hv := tcells_rep e2 h1
      have hVs : V.cells.size = s := by rw [← h2, ← hv.len]; simp
      have hfold : (V.cells.zipIdx.foldl (fun cs (c, j) => cs.setIfInBounds (o + j) c) A).toList = splice A.toList o V.cells.toList := by
        have := foldl_splice o V.cells.toList 0 A (by have := hc.len; simp at this ⊢; omega)
        rw [Nat.add_zero] at this
        rw [← this, ← Array.foldl_toList, Array.toList_zipIdx]
      obtain ⟨A', q1, q2⟩ := fill_sound hp parts pv _ (V.cells.zipIdx.foldl (fun cs (c, j) => cs.setIfInBounds (o + j) c) A) r (by simpa using hl) (fun k x y hx hy => hall (k + 1) x y (by simpa using hx) (by simpa using hy)) (by rw [hfold]; exact hc.splice hv o) h4
      refine ⟨A', ?_, q2⟩
      have hA : A.size = cells.length := by have := hc.len; simpa using this
      simp only [Instr.fill, hp _ _ _ _ hpl, hVs]
      rw [if_neg (by simp; omega)]
      exact q1
section
variable {P : Program}
theorem sbound_run (w : World) (k : IntKind) (m : Int) (y : Nat) (c : BoundsCode) (h0 : 0 ≤ m) (h1 : m.toNat ≤ y) : (Instr.sliceBound (.int k m) y c).run P w = .ok m.toNat w := by
  have h2 : 0 ≤ m ∧ m ≤ (y : Int) := ⟨h0, by omega⟩
  simp [Instr.sliceBound, asIntOf, h2]
theorem sbounds_run {Γ : Env} {ev : Operand → TV} {ρ : Operand → Value} (hev : ∀ x, TRep Γ (ev x) (ρ x)) (s : Bool) (len cap : Nat) {lo hi : Option Operand} {l h : Nat} (hl : Bnd ev lo 0 l) (hh : Bnd ev hi len h) (h1 : l ≤ h) (h2 : h ≤ cap) :
    (Instr.sliceBounds s len cap (lo.map ρ) (hi.map ρ) none).run P Γ.w = .ok (l, h, cap) Γ.w := by
  have val : ∀ x k m, ev x = .p (.c (.int k m)) → ρ x = .int k m := by
    intro x k m e
    have h0 := hev x
    rw [e] at h0
    generalize ρ x = X at h0
    cases h0 with | p h => cases h; rfl
  cases lo with
  | none =>
    obtain rfl : l = 0 := hl
    cases hi with
    | none =>
      obtain rfl : h = len := hh
      simp [Instr.sliceBounds]
    | some x =>
      obtain ⟨k, m, e, e0, rfl⟩ := hh
      simp [Instr.sliceBounds, val x k m e, sbound_run Γ.w k m _ _ e0 h2]
  | some y =>
    obtain ⟨k', m', e', e0', rfl⟩ := hl
    cases hi with
    | none =>
      obtain rfl : h = len := hh
      simp [Instr.sliceBounds, val y k' m' e', sbound_run Γ.w k' m' _ _ e0' h1]
    | some x =>
      obtain ⟨k, m, e, e0, rfl⟩ := hh
      simp [Instr.sliceBounds, val x k m e, val y k' m' e', sbound_run Γ.w k m _ _ e0 h2, sbound_run Γ.w k' m' _ _ e0' h1]
theorem flat_take {z : Nat} {xs : List PV} (hz : ∀ x ∈ xs, x.cells.length = z) (h l : Nat) : ∀ (k : Nat) y, (flat ((xs.take h).drop l))[k]? = some y → (flat xs)[l * z + k]? = some y := by
  intro k y hy
  have e : xs = xs.take l ++ ((xs.take h).drop l ++ xs.drop (max h l)) := by
    by_cases hlh : l ≤ h
    · rw [List.drop_take, Nat.max_eq_left hlh]
      conv => lhs; rw [← List.take_append_drop l xs]
      congr 1
      conv => lhs; rw [← List.take_append_drop (h - l) (xs.drop l)]
      rw [List.drop_drop, show l + (h - l) = h by omega]
    · rw [List.drop_take, show h - l = 0 by omega, Nat.max_eq_right (by omega)]
      simp
  by_cases hl : l ≤ xs.length
  · rw [e, flat_append, flat_append, List.getElem?_append_right (by rw [flat_len (fun x hx => hz x (List.mem_of_mem_take hx)), List.length_take, Nat.min_eq_left hl]; omega), flat_len (fun x hx => hz x (List.mem_of_mem_take hx)), List.length_take, Nat.min_eq_left hl, Nat.add_sub_cancel_left, List.getElem?_append_left (List.getElem?_eq_some_iff.1 hy).1]
    exact hy
  · rw [List.drop_eq_nil_of_le (by simp; omega)] at hy
    simp [flat] at hy
theorem SliceV.sound {Γ : Env} {ob : Nm → Option AObj} (hob : Obs Γ ob) {ev : Operand → TV} {ρ : Operand → Value} (hev : ∀ x, TRep Γ (ev x) (ρ x)) {t : TypeId} {x v : TV} {X : Value} {lo hi : Option Operand} (h : SliceV P ob ev t x lo hi v) (hx : TRep Γ x X) :
    ∃ V, TRep Γ v V ∧ (Instr.sliceAt t X (lo.map ρ) (hi.map ρ) none).run P Γ.w = .ok V Γ.w := by
  rcases h with ⟨s, l, h, rfl, h1, h2, h3, h4, h5, rfl⟩ | ⟨z, xs, e, b, l, h, h0, h1, h2, h3, h4, h5, h6, rfl⟩
  · cases hx with | p hx =>
    cases hx
    have hb := sbounds_run (P := P) hev false s.size s.size h2 h3 h4 h5
    refine ⟨_, .p (.c rfl), ?_⟩
    simp [Instr.sliceAt, Instr.slice, run_underlying h1, hb]
  · have hp := h0.sound hob hx
    cases hp with
    | @nl _ a c =>
      obtain rfl : h = 0 := by simpa using h6
      obtain rfl : l = 0 := by omega
      have hb := sbounds_run (P := P) hev true 0 c h3 h4 (Nat.le_refl _) (Nat.zero_le _)
      refine ⟨.slice (if c = 0 then a else a.map (·.add (0 * z))) 0 c, .p (by simpa using PRep.nl), ?_⟩
      simp [Instr.sliceAt, Instr.slice, run_underlying h1, hb, lay_size h2]
    | @row _ _ bb off c U hc hz hU hcell =>
      have hb := sbounds_run (P := P) hev true xs.length c h3 h4 h5 (Nat.le_trans h6 hc)
      refine ⟨.slice (if c = l then some ⟨bb, off, none⟩ else some ⟨bb, off + l * z, none⟩) (h - l) (c - l), .p ?_, ?_⟩
      · by_cases hcl : c = l
        · have e0 : (xs.take h).drop l = [] := List.drop_eq_nil_of_le (by simp; omega)
          rw [if_pos hcl, e0, show h - l = 0 by omega]
          exact .nl
        · rw [if_neg hcl]
          have hlen : ((xs.take h).drop l).length = h - l := by simp; omega
          rw [← hlen]
          refine .row (fun k => U (l * z + k)) (by rw [hlen]; omega) (fun x hx => hz x (List.mem_of_mem_take (List.mem_of_mem_drop hx))) ?_ ?_
          · intro k y hy
            exact hU _ y (flat_take hz h l k y hy)
          · intro k hk
            rw [hlen] at hk
            have hk2 : l * z + k < xs.length * z := by
              have : h * z ≤ xs.length * z := Nat.mul_le_mul_right z h6
              have e1 : l * z + (h - l) * z = h * z := by rw [← Nat.add_mul]; congr 1; omega
              omega
            have := hcell _ hk2
            rw [← Nat.add_assoc] at this
            exact this
      · by_cases hcl : c = l
        · subst hcl
          simp [Instr.sliceAt, Instr.slice, run_underlying h1, hb, lay_size h2]
        · simp [Instr.sliceAt, Instr.slice, run_underlying h1, hb, lay_size h2, hcl, Addr.add_mid]
theorem places_of {t : TypeId} {places : List (Nat × Nat × Bool)} (h : flds P t = some places) : ∃ fs pl, P.underlying t = some (.struct fs) ∧ fs.toList.mapM (fun f => (P.info? f.type).map fun i => (f.offset, i.size)) = some pl ∧ ∀ (i : Nat) o s b, places[i]? = some (o, s, b) → pl[i]? = some (o, s) := by
  unfold flds at h
  cases hu : P.underlying t with
  | none => rw [hu] at h; cases h
  | some d =>
    rw [hu] at h
    cases d <;> try (cases h; done)
    case struct fs =>
      simp only at h
      have key : ∀ (l0 : List Field) (l : List (Nat × Nat × Bool)), l0.mapM (fun f => (lay P f.type).map fun l => (f.offset, l.2, l.1)) = some l → ∃ pl, l0.mapM (fun f => (P.info? f.type).map fun i => (f.offset, i.size)) = some pl ∧ ∀ (i : Nat) o s b, l[i]? = some (o, s, b) → pl[i]? = some (o, s) := by
        intro l0
        induction l0 with
        | nil => intro l h; simp at h; subst h; exact ⟨[], rfl, by simp⟩
        | cons x l0 ih =>
          intro l h
          simp only [List.mapM_cons, Option.bind_eq_bind, Option.pure_def] at h
          cases hx : lay P x.type with
          | none => rw [hx] at h; simp at h
          | some bk =>
            obtain ⟨bb, k⟩ := bk
            rw [hx] at h
            cases hr : l0.mapM (fun f => (lay P f.type).map fun l => (f.offset, l.2, l.1)) with
            | none => rw [hr] at h; simp at h
            | some r =>
              rw [hr] at h
              simp only [Option.map_some, Option.bind_some, Option.some.injEq] at h
              subst h
              obtain ⟨i, d, q1, q2, q3, q4⟩ := lay_some hx
              obtain ⟨pl, p1, p2⟩ := ih r hr
              refine ⟨(x.offset, i.size) :: pl, by simp [q1, p1], ?_⟩
              intro f o s b hf
              cases f with
              | zero =>
                simp only [List.getElem?_cons_zero, Option.some.injEq, Prod.mk.injEq] at hf
                obtain ⟨rfl, rfl, rfl⟩ := hf
                simp [q4]
              | succ f => simpa using p2 f o s b (by simpa using hf)
      obtain ⟨pl, p1, p2⟩ := key _ _ h
      exact ⟨fs, pl, rfl, p1, p2⟩
theorem BuildV.sound {Γ : Env} {ev : Operand → TV} {ρ : Operand → Value} (hev : ∀ x, TRep Γ (ev x) (ρ x)) {t : TypeId} {parts : Array (Nat × Operand)} {v : TV} (h : BuildV P ev t parts.toList v) :
    ∃ V, TRep Γ v V ∧ (Instr.build t (parts.map fun (i, x) => (i, ρ x))).run P Γ.w = .ok V Γ.w := by
  obtain ⟨places, z, r, h1, h2, h3, h4, rfl⟩ := h
  obtain ⟨fs, pl, q1, q2, q3⟩ := places_of h1
  unfold zer at h2
  cases hi : P.info? t with
  | none => rw [hi] at h2; cases h2
  | some it =>
    cases hz : it.zero with
    | none => rw [hi] at h2; simp [hz] at h2
    | some Z =>
      rw [hi] at h2
      simp only [Option.bind_some, hz, Option.map_some, Option.some.injEq] at h2
      obtain ⟨A', e1, e2⟩ := fill_sound (Γ := Γ) (places := places) (place := (pl.toArray[·]?)) (fun i o s b hi => by simpa using q3 i o s b hi) (parts.toList.map fun p => (p.1, ev p.2)) (parts.toList.map fun p => (p.1, ρ p.2)) (z.map cv) Z.cells r (by simp)
        (fun k x y hx hy => by
          rw [List.getElem?_map] at hx hy
          cases hk : parts.toList[k]? with
          | none => rw [hk] at hx; cases hx
          | some q =>
            rw [hk] at hx hy
            cases hx
            cases hy
            exact ⟨rfl, hev _⟩) (by rw [h2]; exact CRep.consts h3) h4
      refine ⟨.agg A', by have := TRep.ag (Γ := Γ) (l := r) (A := A'.toList) e2.len e2.get e2.one; simpa using this, ?_⟩
      refine run_build Γ.w t _ A' ?_
      unfold Program.built
      simp only [hi, q1, hz, q2]
      simpa using e1
theorem ConvV.sound {Γ : Env} {src dst : TypeId} {x v : TV} {X : Value} (h : ConvV P src dst x v) (hx : TRep Γ x X) : ∃ V, TRep Γ v V ∧ (convert src dst X).run P Γ.w = .ok V Γ.w := by
  unfold ConvV at h
  split at h
  · obtain ⟨⟨d, hd⟩, k', h1, rfl⟩ := h
    cases hx with | p hx =>
    cases hx
    exact ⟨_, .p (.c rfl), by simp [convert, run_underlying hd, run_underlying h1, Conv.intToInt]⟩
  · obtain ⟨⟨d, hd⟩, h1, rfl⟩ := h
    cases hx with | p hx =>
    cases hx
    exact ⟨_, .p (.c rfl), by cases d <;> simp [convert, run_underlying hd, run_underlying h1]⟩
  · exact h.elim
theorem AssertV.sound {Γ : Env} {xType t : TypeId} {ok : Bool} {x v : TV} {X : Value} (h : AssertV P xType t ok x v) (hx : TRep Γ x X) : ∃ V, TRep Γ v V ∧ (Instr.typeAssert X xType t ok).run P Γ.w = .ok V Γ.w := by
  unfold AssertV at h
  split at h
  · obtain ⟨h0, ⟨d, hd⟩, h1⟩ := h
    cases hx with | p hx =>
    cases hx with
    | @ifc _ _ u hu =>
    rcases h1 with ⟨rfl, rfl⟩ | ⟨hne, rfl, ⟨Z, hZ⟩, rfl⟩
    · cases ok with
      | true =>
        refine ⟨.tuple #[u, .bool true], .tp (l := [.p _, .p _]) (A := [u, .bool true]) rfl ?_, ?_⟩
        · intro k y q hy hq
          match k with
          | 0 => simp at hy hq; subst hy; subst hq; exact .p hu
          | 1 => simp at hy hq; subst hy; subst hq; exact .p (.c rfl)
          | k + 2 => simp at hy
        · cases d <;> first | (exact absurd hd (h0 _)) | simp [Instr.typeAssert, run_underlying hd]
      | false =>
        refine ⟨u, .p hu, ?_⟩
        cases d <;> first | (exact absurd hd (h0 _)) | simp [Instr.typeAssert, run_underlying hd]
    · have hz : (zeroValue t).run P Γ.w = .ok Z Γ.w := by
        cases hi : P.info? t with
        | none => rw [hi] at hZ; cases hZ
        | some i => rw [hi] at hZ; simp only [Option.bind_some] at hZ; simp [zeroValue, typeInfo, hi, hZ]
      refine ⟨.tuple #[Z, .bool false], .tp (l := [.u, .p _]) (A := [Z, .bool false]) rfl ?_, ?_⟩
      · intro k y q hy hq
        match k with
        | 0 => simp at hy hq; subst hy; subst hq; exact .u
        | 1 => simp at hy hq; subst hy; subst hq; exact .p (.c rfl)
        | k + 2 => simp at hy
      · cases d <;> first | (exact absurd hd (h0 _)) | simp [Instr.typeAssert, run_underlying hd, hne, hz]
  · exact h.elim
theorem StrIdxV.sound {Γ : Env} {t : TypeId} {x i v : TV} {X I : Value} (h : StrIdxV P t x i v) (hx : TRep Γ x X) (hi : TRep Γ i I) : ∃ V, TRep Γ v V ∧ (Instr.index t X I).run P Γ.w = .ok V Γ.w := by
  unfold StrIdxV at h
  split at h
  · obtain ⟨h1, h2, b, h3, rfl⟩ := h
    cases hx with | p hx => cases hi with | p hi =>
    cases hx
    cases hi
    refine ⟨_, .p (.c rfl), ?_⟩
    have key : ∀ (s : ByteArray) (n : Nat), s.data[n]? = some b → s[n]? = some b := by
      intro s n h
      obtain ⟨q1, q2⟩ := Array.getElem?_eq_some_iff.1 h
      rw [getElem?_pos s n q1]
      exact congrArg some q2
    simp [Instr.index, run_underlying h1, asIntOf, h2, key _ _ h3]
  · exact h.elim
end
end Go.Proofs.YtglkkbgflnpjeaaGreatDoor.En
end
section
namespace Go.Proofs.YtglkkbgflnpjeaaGreatDoor.En
set_option linter.unusedVariables false
set_option linter.unusedSimpArgs false
open Go Go.RowKit Go.Proofs.YtglkkbgflnpjeaaGreatDoor.PA
def St.ev (σ : St) : Operand → TV
  | .tmp t => σ.tm t
  | .const v => cv v
  | .global g => match σ.G g with
    | some y => .pe [y]
    | none => .u
  | .func f => .fn f []
def updT {α : Type} (f : Nat → α) (d : Nat) (v : α) : Nat → α := fun t => match Nat.beq t d with
  | true => v
  | false => f t
theorem updT_eq {α : Type} (f : Nat → α) (d : Nat) (v : α) (t : Nat) : updT f d v t = if t = d then v else f t := by
  unfold updT
  by_cases h : t = d
  · subst h; rw [if_pos rfl]; simp
  · cases hb : Nat.beq t d with
    | true => exact absurd (Nat.eq_of_beq_eq_true hb) h
    | false => rw [if_neg h]
def St.put (σ : St) (d : Option Tmp) (v : TV) : St := match d with
  | some d => if d < σ.nt then { σ with tm := updT σ.tm d v } else σ
  | none => σ
theorem St.put_ob (σ : St) (d : Option Tmp) (v : TV) : (σ.put d v).ob = σ.ob := by
  cases d with
  | none => rfl
  | some d => unfold St.put; simp only; split <;> rfl
theorem St.put_H (σ : St) (d : Option Tmp) (v : TV) : (σ.put d v).H = σ.H := by
  cases d with
  | none => rfl
  | some d => unfold St.put; simp only; split <;> rfl
theorem St.put_env (σ : St) (d : Option Tmp) (v : TV) (w : World) (S : Nat → Nat → Prop) (g : Nm → GV) : (σ.put d v).env w S g = σ.env w S g := by
  unfold St.env
  have : (σ.put d v).ln = σ.ln := by funext n; unfold St.ln; rw [St.put_ob]
  rw [this, St.put_H]
theorem St.put_lm (σ : St) (d : Option Tmp) (v : TV) : (σ.put d v).lm = σ.lm := by
  cases d with
  | none => rfl
  | some d => unfold St.put; simp only; split <;> rfl
theorem St.put_G (σ : St) (d : Option Tmp) (v : TV) : (σ.put d v).G = σ.G := by
  cases d with
  | none => rfl
  | some d => unfold St.put; simp only; split <;> rfl
theorem St.put_nt (σ : St) (d : Option Tmp) (v : TV) : (σ.put d v).nt = σ.nt := by
  cases d with
  | none => rfl
  | some d => unfold St.put; simp only; split <;> rfl
variable {P : Program} {E : Ent} {σ : St} {a : Act} {w : World} {S : Nat → Nat → Prop} {g : Nm → GV}
theorem Rep.put (h : Rep E σ a w S g) {v : TV} {V : Value} (hv : TRep (σ.env w S g) v V) (d : Option Tmp) : Rep E (σ.put d v) (a.put d V) w S g := by
  refine ⟨?_, ?_, ?_, ?_, ?_, h.st, ?_, ?_, ?_, ?_, ?_, (St.put_G σ d v).trans h.eG⟩
  · intro t
    rw [St.put_env]
    cases d with
    | none => exact h.tm t
    | some d =>
      unfold St.put
      simp only
      split
      · rename_i hd
        simp only [Act.put, updT_eq]
        by_cases e : t = d
        · subst e
          rw [if_pos rfl]
          have : (a.tmps.setIfInBounds t V).getD t undef = V := by
            have hd2 : t < a.tmps.size := by rw [h.nt]; exact hd
            simp [Array.getD, hd2]
          rw [this]; exact hv
        · rw [if_neg e]
          have : (a.tmps.setIfInBounds d V).getD t undef = a.tmps.getD t undef := by
            simp only [Array.getD_eq_getD_getElem?, Array.getElem?_setIfInBounds_ne (fun q => e q.symm)]
          rw [this]; exact h.tm t
      · rename_i hd
        have : a.tmps.setIfInBounds d V = a.tmps := Array.setIfInBounds_eq_of_size_le (by rw [h.nt]; exact Nat.le_of_not_lt hd)
        simp only [Act.put, this]
        exact h.tm t
  · rw [St.put_nt, ← h.nt]
    cases d <;> simp [Act.put]
  · rw [← h.df]
    cases d <;> rfl
  · intro n o ho
    rw [St.put_env]
    rw [St.put_ob] at ho
    exact h.ob n o ho
  · rw [St.put_ob]; exact h.dj
  · rw [St.put_lm]; exact h.lo
  · rw [St.put_H]; exact h.hs
  · rw [St.put_H]; exact h.ev
  · rw [St.put_G]; exact h.gl
  · rw [St.put_env]; exact h.nm
theorem Rep.eval (h : Rep E σ a w S g) (x : Operand) : TRep (σ.env w S g) (σ.ev x) (a.eval x) := by
  cases x with
  | tmp t => exact h.tm t
  | const v =>
    show TRep _ (cv v) v
    unfold cv
    split
    · exact .nil
    · split
      · rename_i h1; exact .p (.c h1)
      · exact .u
  | global i =>
    simp only [St.ev, Act.eval]
    cases hG : σ.G i with
    | none => exact .u
    | some y =>
      obtain ⟨u, h1, h2, h3, h4⟩ := h.gl i y hG
      refine .pe (fun _ => u) (fun k y' hy => ?_)
      cases k with
      | zero => simp at hy; subst hy; exact ⟨h1, h2, h3, h4⟩
      | succ k => simp at hy
  | func f => exact .fn (A := []) rfl (fun k y u hy => by simp at hy)
def czp : Value → PV
  | .slice none 0 0 => .row 1 []
  | v => .c v
def ZeroP (P : Program) (e : TypeId) (y : PV) : Prop := ∃ Z, (P.info? e).bind (·.zero) = some Z ∧ ((∃ A, Z = .agg A ∧ (∀ u ∈ A.toList, u.oneCell' = true) ∧ y = .ag (A.toList.map czp)) ∨ (Z.oneCell' = true ∧ y = czp Z))
def pget (l : List (ByteArray × PV)) (s : ByteArray) : Option PV := (l.find? (fun p => s == p.1)).map (·.2)
def LookV (P : Program) (ob : Nm → Option AObj) (t : TypeId) (x : TV) (ok : Bool) : TV → TV → Prop
  | .mp n, v => match ob n with
    | some (.mp es) => ∃ s k e y, x = .p (.c (.string s)) ∧ P.underlying t = some (.map k e) ∧ P.underlying k = some .string ∧ ZeroP P e y ∧ v = if ok then .tp [.p ((pget es s).getD y), .p (.c (.bool (pget es s).isSome))] else .p ((pget es s).getD y)
    | _ => False
  | _, _ => False
def RV (P : Program) (ob : Nm → Option AObj) (ev : Operand → TV) (v : TV) : Op → Prop
  | .move x => v = ev x
  | .assign x => v = ev x
  | .pick c a b => (ev c = .p (.c (.bool true)) ∧ v = ev a) ∨ (ev c = .p (.c (.bool false)) ∧ v = ev b)
  | .load t x => LoadV P ob t (ev x) v
  | .nilCheck x => NonNil (ev x) ∧ v = ev x
  | .binOp op t x y _ => BinV P op t y (ev x) (ev y) v
  | .unOp op _ x => UnV op (ev x) v
  | .makeInterface t x => P.concrete t = true ∧ ∃ y, ToPV ob (ev x) y ∧ v = .p (.ifc t y)
  | .makeFunc (.func f) first caps => first = #[] ∧ v = .fn f (caps.toList.map ev)
  | .fieldAddr s x f => ∃ l off k b, flds P s = some l ∧ l[f]? = some (off, k, b) ∧ k ≠ 0 ∧ AddV off (ev x) v
  | .field s x f => ∃ l off k b, flds P s = some l ∧ l[f]? = some (off, k, b) ∧ PartV off k b (ev x) v
  | .indexAddr t x i => IndexV P ob t (ev x) (ev i) v
  | .index t x i => StrIdxV P t (ev x) (ev i) v
  | .extract x i => ∃ l, ev x = .tp l ∧ l[i]? = some v
  | .slice t x lo hi none => SliceV P ob ev t (ev x) lo hi v
  | .convert s d x => ConvV P s d (ev x) v
  | .build t parts => BuildV P ev t parts.toList v
  | .typeAssert x xt t ok => AssertV P xt t ok (ev x) v
  | .lookup t x i ok => LookV P ob t (ev i) ok (ev x) v
  | .call ⟨.builtin .len, args, ats⟩ => ∃ x t, args = #[x] ∧ ats = #[t] ∧ LenV ob (ev x) v ∧ ((∃ s, ev x = .p (.c (.string s))) ∧ P.underlying t = some .string ∨ (∀ s, ev x ≠ .p (.c (.string s))) ∧ ∃ e, P.underlying t = some (.slice e))
  | _ => False
def MRep (w : World) (S : Nat → Nat → Prop) (es : List (ByteArray × PV)) (vs : List (ByteArray × Value)) : Prop := vs.length = es.length ∧ ∀ (k : Nat) e v, es[k]? = some e → vs[k]? = some v → e.1 = v.1 ∧ PRep w S e.2 v.2
theorem MRep.cons {e : ByteArray × PV} {v : ByteArray × Value} {es : List (ByteArray × PV)} {vs : List (ByteArray × Value)} : MRep w S (e :: es) (v :: vs) ↔ (e.1 = v.1 ∧ PRep w S e.2 v.2) ∧ MRep w S es vs := by
  constructor
  · rintro ⟨h1, h2⟩
    exact ⟨h2 0 e v rfl rfl, by simpa using h1, fun k e' v' he hv => h2 (k + 1) e' v' (by simpa using he) (by simpa using hv)⟩
  · rintro ⟨h1, h2, h3⟩
    refine ⟨by simpa using h2, fun k e' v' he hv => ?_⟩
    cases k with
    | zero => simp at he hv; subst he; subst hv; exact h1
    | succ k => exact h3 k e' v' (by simpa using he) (by simpa using hv)
theorem MRep.get (s : ByteArray) : ∀ {es : List (ByteArray × PV)} {vs : List (ByteArray × Value)}, MRep w S es vs → (mget vs s).isSome = (pget es s).isSome ∧ ∀ y u, pget es s = some y → mget vs s = some u → PRep w S y u
  | [], [], _ => ⟨rfl, fun y u h => by simp [pget] at h⟩
  | [], _ :: _, h => by simp [MRep] at h
  | _ :: _, [], h => by simp [MRep] at h
  | e :: es, v :: vs, h => by
    rw [MRep.cons] at h
    have ih := MRep.get s h.2
    unfold mget pget at ih ⊢
    simp only [List.find?_cons]
    rw [h.1.1]
    cases hq : (s == v.1) with
    | true => exact ⟨rfl, fun y u hy hu => by simp at hy hu; subst hy; subst hu; exact h.1.2⟩
    | false => exact ih
theorem czp_sound {u : Value} (h : u.oneCell' = true) : PRep w S (czp u) u := by
  unfold czp
  split
  · exact .nl
  · exact .c h
theorem ZeroP.sound {e : TypeId} {y : PV} (h : ZeroP P e y) : ∃ Z, (zeroValue e).run P w = .ok Z w ∧ PRep w S y Z := by
  obtain ⟨Z, h1, h2⟩ := h
  refine ⟨Z, ?_, ?_⟩
  · cases hi : P.info? e with
    | none => rw [hi] at h1; cases h1
    | some i => rw [hi] at h1; simp only [Option.bind_some] at h1; simp [zeroValue, typeInfo, hi, h1]
  · rcases h2 with ⟨A, rfl, h3, rfl⟩ | ⟨h3, rfl⟩
    · have := PRep.ag (w := w) (S := S) (l := A.toList.map czp) (A := A.toList) (by simp) (fun k y u hy hu => by
        rw [List.getElem?_map, hu] at hy
        cases hy
        exact czp_sound (h3 u (List.mem_of_getElem? hu))) h3
      simpa using this
    · exact czp_sound h3
theorem LookV.sound {Γ : Env} {ob : Nm → Option AObj} (hob : Obs Γ ob) {t : TypeId} {x i v : TV} {ok : Bool} {X I : Value} (h : LookV P ob t i ok x v) (hx : TRep Γ x X) (hi : TRep Γ i I) : ∃ V, TRep Γ v V ∧ (Instr.lookup t X I ok).run P Γ.w = .ok V Γ.w := by
  unfold LookV at h
  split at h
  · rename_i n
    cases ho : ob n with
    | none => rw [ho] at h; exact h.elim
    | some o =>
      cases o <;> (rw [ho] at h) <;> try exact h.elim
      case mp es =>
        obtain ⟨s, k, e, y, rfl, h1, h2, h3, rfl⟩ := h
        obtain ⟨b, vs, e1, _, e2, e3, e4⟩ := hob.rep n _ ho
        obtain ⟨Z, z1, z2⟩ := ZeroP.sound (w := Γ.w) (S := Γ.S) h3
        have hm : MRep Γ.w Γ.S es vs := ⟨e3, e4⟩
        obtain ⟨g1, g2⟩ := hm.get s
        cases hi with | p hi =>
        cases hi
        cases hx with
        | @mp _ b' hn hg =>
        rw [e1] at hg
        cases hg
        have hr := map_lookup h1 h2 e2 z1 s ok
        have hv : PRep Γ.w Γ.S ((pget es s).getD y) ((mget vs s).getD Z) := by
          cases hp : pget es s with
          | none =>
            rw [hp] at g1
            have : mget vs s = none := by simpa using g1
            rw [this]; exact z2
          | some q =>
            rw [hp] at g1
            obtain ⟨u, hu⟩ := Option.isSome_iff_exists.1 (show (mget vs s).isSome = true by simpa using g1)
            rw [hu]; exact g2 q u hp hu
        cases ok with
        | false => exact ⟨_, .p hv, hr⟩
        | true =>
          refine ⟨_, .tp (l := [_, _]) (A := [(mget vs s).getD Z, .bool (mget vs s).isSome]) rfl ?_, hr⟩
          intro k y' u hy hu
          match k with
          | 0 => simp at hy hu; subst hy; subst hu; exact .p hv
          | 1 => simp at hy hu; subst hy; subst hu; rw [g1]; exact .p (.c rfl)
          | k + 2 => simp at hy
  · exact h.elim
theorem tp_get {Γ : Env} {l : List TV} {X : Value} (h : TRep Γ (.tp l) X) {i : Nat} {v : TV} (hi : l[i]? = some v) : ∃ A V, X = .tuple A ∧ A[i]? = some V ∧ TRep Γ v V := by
  cases h with
  | @tp _ A hs h =>
    have hlt : i < A.length := by rw [hs]; exact (List.getElem?_eq_some_iff.1 hi).1
    exact ⟨_, A[i], rfl, by simp [hlt], h i v _ hi (List.getElem?_eq_getElem hlt)⟩
theorem RV.sound (h : Rep E σ a w S g) {o : Oper} {v : TV} (hv : RV P σ.ob σ.ev v o.op) : ∃ V, TRep (σ.env w S g) v V ∧ (execOp a.eval o).run P w = .ok (.value V) w := by
  have hev := h.eval
  have hob := h.obs
  obtain ⟨dst, op, type, pos, after, guard⟩ := o
  simp only at hv
  unfold RV at hv
  split at hv
  case h_1 x => subst hv; exact ⟨_, hev x, by simp [execOp]⟩
  case h_2 x => subst hv; exact ⟨_, hev x, by simp [execOp]⟩
  case h_3 c x y =>
    have hc := hev c
    generalize hX : a.eval c = X at hc
    rcases hv with ⟨h1, rfl⟩ | ⟨h1, rfl⟩
    · rw [h1] at hc
      cases hc with | p hc => cases hc; exact ⟨_, hev x, by simp [execOp, hX, asBool]⟩
    · rw [h1] at hc
      cases hc with | p hc => cases hc; exact ⟨_, hev y, by simp [execOp, hX, asBool]⟩
  case h_4 t x =>
    obtain ⟨V, h1, h2⟩ := hv.sound hob (hev x)
    have h3 : (Instr.loadAt t (a.eval x)).run P w = .ok V w := h2
    exact ⟨V, h1, by simp [execOp, h3]⟩
  case h_5 x =>
    obtain ⟨h1, rfl⟩ := hv
    refine ⟨_, hev x, ?_⟩
    have hx := hev x
    generalize hX : a.eval x = X at hx
    generalize σ.ev x = y at hx h1
    cases y <;> try exact h1.elim
    · cases hx; simp [execOp, hX]
    · cases hx; simp [execOp, hX]
    · cases hx; simp [execOp, hX]
    · cases hx; simp [execOp, hX]
  case h_6 op t x y ty =>
    obtain ⟨V, h1, h2⟩ := hv.sound (x := x) (hev x) (hev y)
    have h3 : (do eqGuard op t x y (a.eval x) (a.eval y); binOp op t (a.eval x) (a.eval y) : Sem Value).run P w = .ok V w := h2
    exact ⟨V, h1, by simp only [execOp]; rw [Sem.run_bind, h3]; rfl⟩
  case h_7 op t x =>
    obtain ⟨V, h1, h2⟩ := UnV.sound (P := P) hv (hev x)
    have h3 : (Op.unary op (a.eval x)).run P w = .ok V w := h2
    exact ⟨V, h1, by simp [execOp, h3]⟩
  case h_8 t x =>
    obtain ⟨h1, y, h2, rfl⟩ := hv
    have h3 := h2.sound hob (hev x)
    exact ⟨_, .p (.ifc h3), by simp [execOp, run_makeInterface w t _ h1]⟩
  case h_9 f first caps =>
    obtain ⟨rfl, rfl⟩ := hv
    refine ⟨.func (.func f) #[] (caps.toList.map a.eval).toArray, .fn (by simp) ?_, by simp [execOp, Instr.makeFunc, ← Array.toList_map]⟩
    intro k y u hy hu
    rw [List.getElem?_map] at hy hu
    cases hk : caps.toList[k]? with
    | none => rw [hk] at hy; cases hy
    | some q => rw [hk] at hy hu; cases hy; cases hu; exact hev q
  case h_10 s x f =>
    obtain ⟨l, off, k, b, h1, h2, h3, h4⟩ := hv
    obtain ⟨V, h5, h6⟩ := fieldAt_sound h1 h2 h3 h4 (hev x)
    have h7 : (Instr.fieldAt s (a.eval x) f).run P w = .ok V w := h6
    exact ⟨V, h5, by simp [execOp, h7]⟩
  case h_11 s x f =>
    obtain ⟨l, off, k, b, h1, h2, h3⟩ := hv
    obtain ⟨fs, fd, e1, e2, e3, e4⟩ := flds_some h1 h2
    obtain ⟨A, V, h5, h6, h7⟩ := h3.sound e4 (hev x)
    have h8 : (part fd.type A off).run P w = .ok V w := h7
    exact ⟨V, h6, by simp [execOp, Instr.field, run_underlying e1, e2, h5, asAgg, e3, h8]⟩
  case h_12 t x i =>
    obtain ⟨V, h1, h2⟩ := hv.sound hob (hev x) (hev i)
    have h3 : (Instr.indexAt t (a.eval x) (a.eval i)).run P w = .ok V w := h2
    exact ⟨V, h1, by simp [execOp, h3]⟩
  case h_13 t x i =>
    obtain ⟨V, h1, h2⟩ := hv.sound (hev x) (hev i)
    have h3 : (Instr.index t (a.eval x) (a.eval i)).run P w = .ok V w := h2
    exact ⟨V, h1, by simp [execOp, h3]⟩
  case h_14 x i =>
    obtain ⟨l, h1, h2⟩ := hv
    have hx := hev x
    rw [h1] at hx
    obtain ⟨A, V, h3, h4, h5⟩ := tp_get hx h2
    exact ⟨V, h5, by simp [execOp, Instr.extract, h3, h4]⟩
  case h_15 t x lo hi =>
    obtain ⟨V, h1, h2⟩ := hv.sound hob hev (hev x)
    have h3 : (Instr.sliceAt t (a.eval x) (lo.map a.eval) (hi.map a.eval) none).run P w = .ok V w := h2
    exact ⟨V, h1, by simp [execOp, h3]⟩
  case h_16 s d x =>
    obtain ⟨V, h1, h2⟩ := hv.sound (hev x)
    have h3 : (convert s d (a.eval x)).run P w = .ok V w := h2
    exact ⟨V, h1, by simp [execOp, h3]⟩
  case h_17 t parts =>
    obtain ⟨V, h1, h2⟩ := hv.sound hev
    have h3 : (Instr.build t (parts.map fun (i, x) => (i, a.eval x))).run P w = .ok V w := h2
    exact ⟨V, h1, by simp [execOp, h3]⟩
  case h_18 x xt t ok =>
    obtain ⟨V, h1, h2⟩ := hv.sound (hev x)
    have h3 : (Instr.typeAssert (a.eval x) xt t ok).run P w = .ok V w := h2
    exact ⟨V, h1, by simp [execOp, h3]⟩
  case h_19 t x i ok =>
    obtain ⟨V, h1, h2⟩ := hv.sound hob (hev x) (hev i)
    have h3 : (Instr.lookup t (a.eval x) (a.eval i) ok).run P w = .ok V w := h2
    exact ⟨V, h1, by simp [execOp, h3]⟩
  case h_20 args ats =>
    obtain ⟨x, t, rfl, rfl, h1, h2⟩ := hv
    have ht : (∃ V, TRep (σ.env w S g) v V ∧ (Builtin.len_ #[t] type #[a.eval x]).run P (σ.env w S g).w = .ok V (σ.env w S g).w) := by
      rcases h2 with ⟨⟨s, e⟩, h3⟩ | ⟨e, h3⟩
      · exact h1.sound hob (hev x) (.inl h3) (fun _ => h3) (fun q => absurd e (q s))
      · exact h1.sound hob (hev x) (.inr h3) (fun ⟨s, q⟩ => absurd q (e s)) (fun _ => h3)
    obtain ⟨V, h4, h5⟩ := ht
    have h6 : (Builtin.len_ #[t] type #[a.eval x]).run P w = .ok V w := h5
    exact ⟨V, h4, by simp [execOp, resolve, invoke, builtin, h6]⟩
  case h_21 => exact hv.elim
end Go.Proofs.YtglkkbgflnpjeaaGreatDoor.En
end
section
namespace Go.Proofs.YtglkkbgflnpjeaaGreatDoor.En
set_option linter.unusedVariables false
set_option linter.unusedSimpArgs false
open Go Go.RowKit Go.Proofs.YtglkkbgflnpjeaaGreatDoor.PA
def St.add (σ : St) (m : Nm) (o : AObj) : St := match m with
  | .L d => { σ with lm := updT σ.lm d (some o) }
  | .S _ => { σ with H := σ.H ++ [o] }
def Fresh (σ : St) (m : Nm) : Prop := match m with
  | .L d => σ.lm d = none ∧ (∀ t, (σ.tm t).All (· ≠ .L d)) ∧ ∀ t o, σ.lm t = some o → o.All (· ≠ .L d)
  | .S i => i = σ.H.length
def updG (g : Nm → GV) (m : Nm) (v : GV) : Nm → GV := fun n => if n = m then v else g n
def gvOf (v : Value) : GV := ⟨v, fun b => blk v = some b⟩
variable {P : Program} {E : Ent} {σ : St} {a : Act} {w : World} {S : Nat → Nat → Prop} {g : Nm → GV}
theorem add_same {m : Nm} (o : AObj) (hm : Fresh σ m) : (σ.add m o).ob m = some o := by
  cases m with
  | L d => show updT σ.lm d (some o) d = _; rw [updT_eq]; exact if_pos rfl
  | S i => obtain rfl : i = _ := hm; show (σ.H ++ [o])[σ.H.length]? = _; simp
theorem add_other {m n : Nm} (o : AObj) (hm : Fresh σ m) (hn : n ≠ m) : (σ.add m o).ob n = σ.ob n := by
  cases m with
  | L d =>
    cases n with
    | L t => show updT σ.lm d (some o) t = _; rw [updT_eq]; exact if_neg (fun e => hn (by rw [e]))
    | S i => rfl
  | S i =>
    obtain rfl : i = _ := hm
    cases n with
    | L t => rfl
    | S j =>
      show (σ.H ++ [o])[j]? = σ.H[j]?
      have hj : j ≠ σ.H.length := fun e => hn (by rw [e])
      by_cases hlt : j < σ.H.length
      · rw [List.getElem?_append_left hlt]
      · rw [List.getElem?_eq_none (by simp; omega), List.getElem?_eq_none (by omega)]
theorem add_H {m : Nm} (o : AObj) : σ.H.length ≤ (σ.add m o).H.length := by
  cases m with
  | L d => exact Nat.le_refl _
  | S i => show _ ≤ (σ.H ++ [o]).length; simp
theorem isS_ne {n : Nm} {d : Nat} (h : n.isS) : n ≠ .L d := by rintro rfl; exact h
theorem Fresh.tm (h : Rep E σ a w S g) {m : Nm} (hm : Fresh σ m) (t : Nat) : (σ.tm t).All (· ≠ m) := by
  cases m with
  | L d => exact hm.2.1 t
  | S i =>
    obtain rfl : i = _ := hm
    exact (h.names t).mono (fun n hn e => by subst e; exact absurd hn (Nat.lt_irrefl _))
theorem Fresh.ob (h : Rep E σ a w S g) {m : Nm} (hm : Fresh σ m) : ∀ n (o : AObj), σ.ob n = some o → o.All (· ≠ m) := by
  intro n o ho
  cases m with
  | L d =>
    cases n with
    | L t => exact hm.2.2 t o ho
    | S i => exact (h.hs i o ho).mono (fun n hn => isS_ne hn)
  | S i =>
    obtain rfl : i = _ := hm
    have hr := h.ob n o ho
    cases o with
    | box t l =>
      obtain ⟨b, arr, e1, _, e2, e3, e4, e5, e6⟩ := hr
      intro x hx
      obtain ⟨k, hk, rfl⟩ := List.mem_iff_getElem.1 hx
      exact (e4 k _ _ (List.getElem?_eq_getElem hk) (Array.getElem?_eq_getElem (by omega))).names.mono (fun n hn e => by subst e; exact absurd hn (Nat.lt_irrefl _))
    | rw => trivial
    | mp => trivial
    | gone => trivial
    | ow z t ks xs => exact fun n hn e => by subst e; exact absurd (hr.1 _ hn) (Nat.lt_irrefl _)
theorem Fresh.gone {m : Nm} (hm : Fresh σ m) : σ.ob m = none := by
  cases m with
  | L d => exact hm.1
  | S i => obtain rfl : i = _ := hm; show σ.H[σ.H.length]? = none; simp
theorem Rep.new (h : Rep E σ a w S g) {m : Nm} (hm : Fresh σ m) {o : AObj} {gv : GV} {w' : World} {S' : Nat → Nat → Prop} (hw : w.grownBy w' none)
    (hb : ∀ b, gv.B b → w.heap.size ≤ b) (hS : ∀ b k, S b k → S' b k) (hS2 : ∀ b k, S' b k → S b k ∨ (w.heap.size ≤ b ∧ b < w'.heap.size))
    (hoS : ∀ i, m = .S i → o.All Nm.isS)
    (ho : (∀ (v : TV) V, TRep (σ.env w S g) v V → v.All (· ≠ m) → TRep ((σ.add m o).env w' S' (updG g m gv)) v V) → ORep ((σ.add m o).env w' S' (updG g m gv)) m o) :
    Rep E (σ.add m o) a w' S' (updG g m gv) ∧ ∀ (v : TV) V, TRep (σ.env w S g) v V → v.All (· ≠ m) → TRep ((σ.add m o).env w' S' (updG g m gv)) v V := by
  have hcell : ∀ b k, S b k → S' b k ∧ w'.cell? ⟨b, k, none⟩ = w.cell? ⟨b, k, none⟩ := fun b k hk => ⟨hS b k hk, World.cell?_of_block (hw.block b (h.st b k hk) (by simp))⟩
  have hgn : ∀ n, n ≠ m → updG g m gv n = g n := fun n hn => if_neg hn
  have hmove : ∀ (v : TV) V, TRep (σ.env w S g) v V → v.All (· ≠ m) → TRep ((σ.add m o).env w' S' (updG g m gv)) v V := by
    intro v V hv hq
    refine hv.move (q := (· ≠ m)) hcell (add_H o) (fun n _ hn => .inl ⟨congrArg GV.v (hgn n hn), .inr ?_⟩) hq
    show ((σ.add m o).ob n).bind AObj.ln = (σ.ob n).bind AObj.ln
    rw [add_other o hm hn]
  refine ⟨h.upd (m := m) (r := none) (q := (· ≠ m)) (fun n hn => add_other o hm hn) (add_H o) hgn hw (fun b e => by cases e) hcell (fun b k hk => (hS2 b k hk).imp id .inl) ?_ (fun n hn e => absurd e hn) (fun n o _ ho => hm.ob h n o ho) ?_ ?_ ?_ h.df ?_ ?_ ?_, hmove⟩
  · intro b e
    rw [show updG g m gv m = gv from if_pos rfl] at e
    exact .inl (hb b e)
  · intro o' ho'
    rw [add_same o hm] at ho'
    cases ho'
    exact ho hmove
  · rintro i o' rfl ho'
    obtain rfl : i = _ := hm
    have : (σ.add (.S σ.H.length) o).H[σ.H.length]? = some o := by show (σ.H ++ [o])[σ.H.length]? = _; simp
    rw [this] at ho'
    cases ho'
    exact hoS _ rfl
  · rw [h.nt]; cases m <;> rfl
  · cases m <;> rfl
  · rintro i rfl hi
    obtain rfl : i = _ := hm
    exact absurd hi (Nat.lt_irrefl _)
  · intro t
    have e : (σ.add m o).tm = σ.tm := by cases m <;> rfl
    rw [e]
    exact hmove _ _ (h.tm t) (hm.tm h t)
theorem updG_same (g : Nm → GV) (m : Nm) (v : GV) : updG g m v m = v := if_pos rfl
theorem updG_v (g : Nm → GV) (m : Nm) (v : Value) : (updG g m (gvOf v) m).v = v := by rw [updG_same]; rfl
theorem Rep.newBox (h : Rep E σ a w S g) {m : Nm} (hm : Fresh σ m) {t : TypeId} {l : List TV} {A : Array Value} (hl : CRep (σ.env w S g) l A.toList) (hq : ∀ x ∈ l, x.All (· ≠ m)) (hoS : ∀ i, m = .S i → ∀ x ∈ l, x.All Nm.isS) :
    Rep E (σ.add m (.box t l)) a (w.alloc (.cells A t)) S (updG g m (gvOf (.pointer (some ⟨w.heap.size, 0, none⟩)))) := by
  refine (h.new hm (w' := w.alloc (.cells A t)) (S' := S) (gv := gvOf (.pointer (some ⟨w.heap.size, 0, none⟩))) (o := .box t l) (World.grownBy_alloc w _ _) (fun b e => by cases e; exact Nat.le_refl _) (fun _ _ h => h) (fun _ _ h => .inl h) hoS (fun mv => ?_)).1
  refine ⟨w.heap.size, A, congrArg GV.v (updG_same _ _ _), fun b' => by rw [show ((σ.add m (.box t l)).env (w.alloc (.cells A t)) S (updG g m (gvOf (.pointer (some ⟨w.heap.size, 0, none⟩))))).g m = _ from updG_same _ _ _]; exact ⟨fun e => by cases e; rfl, fun e => by rw [e]; rfl⟩, heap_alloc_new w _, by have := hl.len; simpa using this, fun k y u hy hu => ?_, hl.one, fun k hk => Nat.lt_irrefl _ (h.st _ _ hk)⟩
  exact mv y u (hl.get k y u hy (by simpa using hu)) (hq y (List.mem_of_getElem? hy))
structure PC (w : World) (S : Nat → Nat → Prop) (l : List PV) (A : List Value) : Prop where
  len : A.length = l.length
  get : ∀ (k : Nat) y u, l[k]? = some y → A[k]? = some u → PRep w S y u ∧ u.oneCell' = true
theorem PC.nil (w : World) (S : Nat → Nat → Prop) : PC w S [] [] := ⟨rfl, fun k y u hy => by simp at hy⟩
theorem PC.append {l l2 : List PV} {A A2 : List Value} (h : PC w S l A) (h2 : PC w S l2 A2) : PC w S (l ++ l2) (A ++ A2) := by
  refine ⟨by simp [h.len, h2.len], fun k y u hy hu => ?_⟩
  by_cases hk : k < l.length
  · rw [List.getElem?_append_left hk] at hy
    rw [List.getElem?_append_left (by rw [h.len]; exact hk)] at hu
    exact h.get k y u hy hu
  · rw [List.getElem?_append_right (by omega)] at hy
    rw [List.getElem?_append_right (by rw [h.len]; omega), h.len] at hu
    exact h2.get _ y u hy hu
theorem PC.one {l : List PV} {A : List Value} (h : PC w S l A) : ∀ u ∈ A, u.oneCell' = true := by
  intro u hu
  obtain ⟨k, hk, rfl⟩ := List.mem_iff_getElem.1 hu
  exact (h.get k _ _ (List.getElem?_eq_getElem (by rw [← h.len]; exact hk)) (List.getElem?_eq_getElem hk)).2
theorem PC.of_prep {x : PV} {X : Value} (h : PRep w S x X) : PC w S x.cells X.cells.toList := by
  have single : ∀ {x : PV} {X : Value}, PRep w S x X → X.oneCell' = true → PC w S [x] X.cells.toList := by
    intro x X h h1
    have : X.cells = #[X] := by cases X <;> first | rfl | (simp [Value.oneCell'] at h1)
    rw [this]
    refine ⟨rfl, fun k y u hy hu => ?_⟩
    cases k with
    | zero => simp at hy hu; subst hy; subst hu; exact ⟨h, h1⟩
    | succ k => simp at hy
  cases x with
  | ag l =>
    cases h with
    | @ag _ A hs hA h1 => exact ⟨by simp [PV.cells, Value.cells, hs], fun k y u hy hu => ⟨hA k y u hy (by simpa [Value.cells] using hu), h1 u (List.mem_of_getElem? (by simpa [Value.cells] using hu))⟩⟩
  | c v => exact single h (h.one (by simp))
  | ifc t v => exact single h (h.one (by simp))
  | row z xs => exact single h (h.one (by simp))
  | own z t xs => cases h
  | any => cases h
theorem Rep.newRow (h : Rep E σ a w S g) {m : Nm} (hm : Fresh σ m) {z : Nat} {t : TypeId} {xs : List PV} {gv : Value} {w' : World} {fl : List Value} (hw : w.grownBy w' none) (hown : w'.ownsRow w.heap.size t z gv xs.length fl)
    (hz : ∀ x ∈ xs, x.cells.length = z) (hfl : PC w S (flat xs) fl) :
    Rep E (σ.add m (.rw z t xs)) a w' (fun b k => S b k ∨ (blk gv = some b ∧ k < xs.length * z)) (updG g m (gvOf gv)) := by
  have hlt : ∀ b, blk gv = some b → w.heap.size ≤ b ∧ b < w'.heap.size := by
    intro b e
    rcases hown.2 with ⟨h1, _⟩ | ⟨gb, cap, cur, e1, e2, e3, _⟩
    · rw [h1] at e; cases e
    · rw [e1] at e; cases e; exact ⟨e2, (Array.getElem?_eq_some_iff.1 e3).1⟩
  refine (h.new hm (w' := w') (S' := fun b k => S b k ∨ (blk gv = some b ∧ k < xs.length * z)) (gv := gvOf gv) (o := .rw z t xs) hw (fun b e => (hlt b e).1) (fun _ _ h => .inl h) (fun b k hk => hk.imp id (fun q => hlt b q.1)) (fun _ _ => trivial) (fun mv => ?_)).1
  refine ⟨fl, ?_, fun b' => by rw [show ((σ.add m (.rw z t xs)).env w' (fun b k => S b k ∨ (blk gv = some b ∧ k < xs.length * z)) (updG g m (gvOf gv))).g m = gvOf gv from updG_same _ _ _]; exact Iff.rfl, hz, fun k y u hy hu => ?_, fun b e k => ?_⟩
  · show w'.ownsRow 0 t z (updG g m (gvOf gv) m).v xs.length fl
    rw [updG_same]
    refine ⟨hown.1, hown.2.imp id ?_⟩
    rintro ⟨gb, cap, cur, e1, e2, e3⟩
    exact ⟨gb, cap, cur, e1, Nat.zero_le _, e3⟩
  · obtain ⟨h1, h2⟩ := hfl.get k y u hy hu
    refine ⟨h1.move (fun b i hb => ⟨.inl hb, World.cell?_of_block (hw.block b (h.st b i hb) (by simp))⟩), h2⟩
  · have e' : blk gv = some b := by have := e; rwa [show ((σ.add m (.rw z t xs)).env w' (fun b k => S b k ∨ (blk gv = some b ∧ k < xs.length * z)) (updG g m (gvOf gv))).g m = gvOf gv from updG_same _ _ _] at this
    refine ⟨fun hk => ?_, fun hk => .inr ⟨e', hk⟩⟩
    rcases hk with h1 | h1
    · have := h.st b k h1; have := (hlt b e').1; omega
    · exact h1.2
theorem Rep.newOw (h : Rep E σ a w S g) {m : Nm} (hm : Fresh σ m) {z : Nat} {t : TypeId} {ks : List Nm} {xs : List (List TV)} {v : Value} {w' : World} {fl : List Value} (hw : w.grownBy w' none) (hown : w'.ownsRow w.heap.size t z v xs.length fl)
    (hz : ∀ x ∈ xs, x.length = z) (hfl : CRep (σ.env w S g) xs.flatten fl) (hks : ∀ x ∈ xs.flatten, x.All (· ∈ ks)) (hkl : ∀ n ∈ ks, n.lt σ.H.length) (hq : ∀ n ∈ ks, n ≠ m) (hoS : ∀ i, m = .S i → ∀ n ∈ ks, n.isS) :
    Rep E (σ.add m (.ow z t ks xs)) a w' S (updG g m (gvOf v)) := by
  have hlt : ∀ b, blk v = some b → w.heap.size ≤ b := by
    intro b e
    rcases hown.2 with ⟨h1, _⟩ | ⟨gb, cap, cur, e1, e2, e3, _⟩
    · rw [h1] at e; cases e
    · rw [e1] at e; cases e; exact e2
  refine (h.new hm (w' := w') (S' := S) (gv := gvOf v) (o := .ow z t ks xs) hw (fun b e => hlt b e) (fun _ _ h => h) (fun _ _ h => .inl h) (fun i e => hoS i e) (fun mv => ?_)).1
  have hg : ((σ.add m (.ow z t ks xs)).env w' S (updG g m (gvOf v))).g m = gvOf v := updG_same _ _ _
  refine ⟨fun n hn => Nm.lt_mono (hkl n hn) (add_H _), fun c hc x hx => hks x (List.mem_flatten.2 ⟨c, hc, hx⟩), fl, fun _ _ => False, ?_, hz, fun k y u hy hu => .t (mv y u (hfl.get k y u hy hu) ((hks y (List.mem_of_getElem? hy)).mono (fun n hn => hq n hn))) (fun _ h => h), hfl.one, fun _ _ _ _ _ _ h => h.elim, fun _ _ _ h => h.elim, fun b => ?_, fun b hb k hk => ?_⟩
  · rw [hg]
    refine ⟨hown.1, hown.2.imp id ?_⟩
    rintro ⟨gb, cap, cur, e1, e2, e3⟩
    exact ⟨gb, cap, cur, e1, Nat.zero_le _, e3⟩
  · rw [hg]
    exact ⟨.inl, fun h => h.elim id (fun ⟨_, _, q⟩ => q.elim)⟩
  · rw [hg] at hb
    have h1 := hlt b hb
    have h2 := h.st b k hk
    omega
theorem Rep.newMap (h : Rep E σ a w S g) {m : Nm} (hm : Fresh σ m) : Rep E (σ.add m (.mp [])) a (w.alloc (.map #[] 0)) S (updG g m (gvOf (.map (some w.heap.size)))) := by
  refine (h.new hm (w' := w.alloc (.map #[] 0)) (S' := S) (gv := gvOf (.map (some w.heap.size))) (o := .mp []) (World.grownBy_alloc w _ _) (fun b e => by cases e; exact Nat.le_refl _) (fun _ _ h => h) (fun _ _ h => .inl h) (fun _ _ => trivial) (fun mv => ?_)).1
  exact ⟨w.heap.size, [], congrArg GV.v (updG_same _ _ _), fun b' => by rw [show ((σ.add m (.mp [])).env (w.alloc (.map #[] 0)) S (updG g m (gvOf (.map (some w.heap.size))))).g m = _ from updG_same _ _ _]; exact ⟨fun e => by cases e; rfl, fun e => by rw [e]; rfl⟩, MapIs.made w, rfl, fun k e v he => by simp at he⟩
end Go.Proofs.YtglkkbgflnpjeaaGreatDoor.En
end
section
namespace Go.Proofs.YtglkkbgflnpjeaaGreatDoor.En
set_option linter.unusedVariables false
set_option linter.unusedSimpArgs false
open Go Go.RowKit Go.Proofs.YtglkkbgflnpjeaaGreatDoor.PA
def St.set (σ : St) (m : Nm) (o : AObj) : St := match m with
  | .L d => { σ with lm := updT σ.lm d (some o) }
  | .S i => { σ with H := σ.H.set i o }
variable {P : Program} {E : Ent} {σ : St} {a : Act} {w : World} {S : Nat → Nat → Prop} {g : Nm → GV}
theorem set_same {m : Nm} {o0 : AObj} (o : AObj) (hm : σ.ob m = some o0) : (σ.set m o).ob m = some o := by
  cases m with
  | L d => show updT σ.lm d (some o) d = _; rw [updT_eq]; exact if_pos rfl
  | S i =>
    have hi : i < σ.H.length := (List.getElem?_eq_some_iff.1 hm).1
    show (σ.H.set i o)[i]? = _
    simp [hi]
theorem set_other {m n : Nm} (o : AObj) (hn : n ≠ m) : (σ.set m o).ob n = σ.ob n := by
  cases m with
  | L d =>
    cases n with
    | L t => show updT σ.lm d (some o) t = _; rw [updT_eq]; exact if_neg (fun e => hn (by rw [e]))
    | S i => rfl
  | S i =>
    cases n with
    | L t => rfl
    | S j =>
      show (σ.H.set i o)[j]? = σ.H[j]?
      have hj : i ≠ j := fun e => hn (by rw [e])
      simp [hj]
theorem set_H {m : Nm} (o : AObj) : (σ.set m o).H.length = σ.H.length := by
  cases m with
  | L d => rfl
  | S i => show (σ.H.set i o).length = _; simp
theorem set_tm {m : Nm} (o : AObj) : (σ.set m o).tm = σ.tm := by cases m <;> rfl
theorem set_nt {m : Nm} (o : AObj) : (σ.set m o).nt = σ.nt := by cases m <;> rfl
theorem set_G {m : Nm} (o : AObj) : (σ.set m o).G = σ.G := by cases m <;> rfl
theorem Rep.chg (h : Rep E σ a w S g) {m : Nm} {o0 o : AObj} (hm : σ.ob m = some o0) {gv : GV} {w' : World} {S' : Nat → Nat → Prop} {r : Option Nat} (hw : w.grownBy w' r) (hr : ∀ b, r = some b → (g m).B b)
    (hS : ∀ b k, S b k → S' b k ∧ w'.cell? ⟨b, k, none⟩ = w.cell? ⟨b, k, none⟩)
    (hS2 : ∀ b k, S' b k → S b k ∨ (w.heap.size ≤ b ∧ b < w'.heap.size) ∨ (g m).B b)
    (hb : ∀ b, gv.B b → w.heap.size ≤ b ∨ (g m).B b)
    (hN : NmOk (σ.env w S g) ((σ.set m o).env w' S' (updG g m gv)) m)
    (hoS : ∀ i, m = .S i → o.All Nm.isS)
    (ho : (∀ (v : TV) V, TRep (σ.env w S g) v V → TRep ((σ.set m o).env w' S' (updG g m gv)) v V) → ORep ((σ.set m o).env w' S' (updG g m gv)) m o) :
    Rep E (σ.set m o) a w' S' (updG g m gv) ∧ ∀ (v : TV) V, TRep (σ.env w S g) v V → TRep ((σ.set m o).env w' S' (updG g m gv)) v V := by
  have hgn : ∀ n, n ≠ m → updG g m gv n = g n := fun n hn => if_neg hn
  have hnm : ∀ n, n.lt (σ.env w S g).nH → True → NmOk (σ.env w S g) ((σ.set m o).env w' S' (updG g m gv)) n := by
    intro n _ _
    by_cases e : n = m
    · subst e; exact hN
    · refine .inl ⟨congrArg GV.v (hgn n e), .inr ?_⟩
      show ((σ.set m o).ob n).bind AObj.ln = (σ.ob n).bind AObj.ln
      rw [set_other o e]
  have hAll : ∀ v : TV, v.All (fun _ => True) := by
    intro v
    have : ∀ {Γ : Env} {v : TV} {V : Value}, TRep Γ v V → v.All (fun _ => True) := fun h => h.names.mono (fun _ _ => trivial)
    exact TV.rec (motive_1 := fun v => v.All (fun _ => True)) (motive_2 := fun l => ∀ x ∈ l, TV.All (fun _ => True) x) (fun _ => .p) (fun _ => .o) (fun _ _ _ _ _ => .ip trivial) .u .nil (fun _ h => .ag h) (fun _ h => .tp h) (fun _ _ => .ptr trivial) (fun _ => .pe) (fun _ _ => .vw trivial) (fun _ _ => .sl trivial) (fun _ => .mp trivial) (fun _ _ h => .fn h) (fun _ _ h => .bf h) (fun x hx => by cases hx) (fun _ _ h1 h2 x hx => by cases hx with | head => exact h1 | tail _ q => exact h2 x q) v
  have hmove : ∀ (v : TV) V, TRep (σ.env w S g) v V → TRep ((σ.set m o).env w' S' (updG g m gv)) v V :=
    fun v V hv => hv.move (q := fun _ => True) hS (Nat.le_of_eq (set_H o).symm) hnm (hAll v)
  refine ⟨h.upd (m := m) (r := r) (q := fun _ => True) (fun n hn => set_other o hn) (Nat.le_of_eq (set_H o).symm) hgn hw (fun b e => ⟨by rw [hm]; rfl, hr b e⟩) hS (fun b k hk => (hS2 b k hk).imp id (fun q => q.imp id (fun q => ⟨by rw [hm]; rfl, q⟩))) ?_ (fun n _ e => by subst e; exact hN) ?_ ?_ ?_ ?_ h.df ?_ (fun _ _ _ => hN) ?_, hmove⟩
  · intro b e
    rw [updG_same] at e
    exact (hb b e).imp id (fun q => ⟨by rw [hm]; rfl, q⟩)
  · intro n o' _ _
    cases o' with
    | box t l => exact fun x _ => hAll x
    | rw => trivial
    | mp => trivial
    | ow z t ks xs => exact fun _ _ => trivial
    | gone => trivial
  · intro o' ho'
    rw [set_same o hm] at ho'
    cases ho'
    exact ho hmove
  · rintro i o' rfl ho'
    have hi : i < σ.H.length := (List.getElem?_eq_some_iff.1 hm).1
    have e2 : (σ.set (.S i) o).H[i]? = some o := by show (σ.H.set i o)[i]? = _; simp [hi]
    rw [e2] at ho'
    cases ho'
    exact hoS _ rfl
  · rw [set_nt]; exact h.nt
  · exact set_G o
  · intro t
    rw [set_tm]
    exact hmove _ _ (h.tm t)
theorem Rep.setBox (h : Rep E σ a w S g) {m : Nm} {t : TypeId} {l l2 : List TV} {off : Nat} (hm : σ.ob m = some (.box t l)) {V : List Value} (hV : CRep (σ.env w S g) l2 V) (hoff : off + l2.length ≤ l.length) (hoS : ∀ i, m = .S i → ∀ x ∈ l2, x.All Nm.isS) :
    ∃ b, (g m).v = .pointer (some ⟨b, 0, none⟩) ∧ ∃ w', (storeCells ⟨b, off, none⟩ V).run P w = .ok () w' ∧ Rep E (σ.set m (.box t (splice l off l2))) a w' S g := by
  obtain ⟨b, arr, e1, eB, e2, e3, e4, e5, e6⟩ := h.ob m _ hm
  have eB' : ∀ b', (g m).B b' ↔ b' = b := eB
  have e1' : (g m).v = .pointer (some ⟨b, 0, none⟩) := e1
  have e2' : w.heap[b]? = some (.cells arr t (0, 0)) := e2
  have hVl := hV.len
  have hrun := run_storeCells_at P b off t V 0 arr w e2' (by omega) hV.one
  simp only [Nat.add_zero] at hrun
  refine ⟨b, e1', _, hrun, ?_⟩
  have hgu : updG g m (g m) = g := by funext n; unfold updG; split <;> simp_all
  have hst : ∀ b' k, S b' k → b' ≠ b := fun b' k hk e => e6 k (e ▸ hk)
  have hx := (h.chg hm (w' := w.setRow b (arr.toList.take off ++ V ++ arr.toList.drop (off + V.length)).toArray) (S' := S) (gv := g m) (o := .box t (splice l off l2)) (r := some b) ?_ (fun b' e => by cases e; exact (eB' b).2 rfl) ?_ ?_ ?_ ?_ ?_ ?_).1
  · rwa [hgu] at hx
  · exact ⟨rfl, rfl, rfl, by simp, fun k _ hk => setRow_other w b k _ (fun e => hk (by rw [e]))⟩
  · exact fun b' k hk => ⟨hk, World.cell?_of_block (setRow_other w b b' _ (hst b' k hk))⟩
  · exact fun b' k hk => .inl hk
  · exact fun b' e => .inr e
  · refine .inl ⟨congrArg GV.v (updG_same _ _ _), .inl ?_⟩
    show ((σ.set m _).ob m).bind AObj.ln = none
    rw [set_same _ hm]; rfl
  · intro i e x hx
    unfold splice at hx
    rcases List.mem_append.1 hx with hx | hx
    · rcases List.mem_append.1 hx with hx | hx
      · subst e; exact h.hs i _ hm x (List.mem_of_mem_take hx)
      · exact hoS i e x hx
    · subst e; exact h.hs i _ hm x (List.mem_of_mem_drop hx)
  · intro mv
    have hc : CRep (σ.env w S g) l arr.toList := ⟨by simpa using e3, fun k y u hy hu => e4 k y u hy (by simpa using hu), e5⟩
    have hc2 := hc.splice hV off
    refine ⟨b, (arr.toList.take off ++ V ++ arr.toList.drop (off + V.length)).toArray, (congrArg GV.v (updG_same _ _ _)).trans e1', by rw [show ((σ.set m (.box t (splice l off l2))).env (w.setRow b (arr.toList.take off ++ V ++ arr.toList.drop (off + V.length)).toArray) S (updG g m (g m))).g m = g m from updG_same _ _ _]; exact eB', setRow_heap w b arr _ t (0, 0) e2', ?_, fun k y u hy hu => mv y u (hc2.get k y u hy (by simpa [splice] using hu)), fun u hu => hc2.one u (by simpa [splice] using hu), e6⟩
    have := hc2.len
    simpa [splice] using this
def pput : List (ByteArray × PV) → ByteArray → PV → List (ByteArray × PV)
  | [], s, v => [(s, v)]
  | p :: l, s, v => if s == p.1 then (s, v) :: l else p :: pput l s v
theorem MRep.put (s : ByteArray) {y : PV} {u : Value} (hy : PRep w S y u) : ∀ {es : List (ByteArray × PV)} {vs : List (ByteArray × Value)}, MRep w S es vs → MRep w S (pput es s y) (mput vs s u)
  | [], [], _ => MRep.cons.2 ⟨⟨rfl, hy⟩, rfl, fun k e v h => by simp at h⟩
  | [], _ :: _, h => by simp [MRep] at h
  | _ :: _, [], h => by simp [MRep] at h
  | e :: es, v :: vs, h => by
    rw [MRep.cons] at h
    have ih := MRep.put s hy h.2
    simp only [pput, mput]
    rw [h.1.1]
    cases hq : (s == v.1) with
    | true => exact MRep.cons.2 ⟨⟨rfl, hy⟩, h.2⟩
    | false => exact MRep.cons.2 ⟨h.1, ih⟩
theorem MRep.move {w' : World} {S' : Nat → Nat → Prop} (hS : ∀ b i, S b i → S' b i ∧ w'.cell? ⟨b, i, none⟩ = w.cell? ⟨b, i, none⟩) {es : List (ByteArray × PV)} {vs : List (ByteArray × Value)} (h : MRep w S es vs) : MRep w' S' es vs :=
  ⟨h.1, fun k e v he hv => ⟨(h.2 k e v he hv).1, (h.2 k e v he hv).2.move hS⟩⟩
theorem Rep.setMap (h : Rep E σ a w S g) {m : Nm} {es : List (ByteArray × PV)} (hm : σ.ob m = some (.mp es)) {t k e : TypeId} (ht : P.underlying t = some (.map k e)) (hk : P.underlying k = some .string) (s : ByteArray) {y : PV} {u : Value} (hy : PRep w S y u) :
    ∃ b, (g m).v = .map (some b) ∧ ∃ w', (Instr.mapUpdate t (.map (some b)) (.string s) u).run P w = .ok () w' ∧ Rep E (σ.set m (.mp (pput es s y))) a w' S g := by
  obtain ⟨b, vs, e1, eB, e2, e3, e4⟩ := h.ob m _ hm
  have eB' : ∀ b', (g m).B b' ↔ b' = b := eB
  have e1' : (g m).v = .map (some b) := e1
  obtain ⟨w', r1, r2, r3⟩ := map_update (P := P) ht hk e2 s u
  refine ⟨b, e1', w', r1, ?_⟩
  have hgu : updG g m (g m) = g := by funext n; unfold updG; split <;> simp_all
  obtain ⟨ar, clock, q1, q2⟩ := e2
  have q1' : w.heap[b]? = some (.map ar clock) := q1
  have hstb : ∀ b' k, S b' k → w'.cell? ⟨b', k, none⟩ = w.cell? ⟨b', k, none⟩ := by
    intro b' k hk
    by_cases e : b' = b
    · subst e
      obtain ⟨ar', clock', q3, _⟩ := r2
      simp [World.cell?, q1', q3]
    · exact World.cell?_of_block (r3.block b' (h.st b' k hk) (fun q => e (by cases q; rfl)))
  have hx := (h.chg hm (w' := w') (S' := S) (gv := g m) (o := .mp (pput es s y)) r3 (fun b' e => by cases e; exact (eB' b).2 rfl) (fun b' k hk => ⟨hk, hstb b' k hk⟩) (fun b' k hk => .inl hk) (fun b' e => .inr e) ?_ (fun _ _ => trivial) ?_).1
  · rwa [hgu] at hx
  · refine .inl ⟨congrArg GV.v (updG_same _ _ _), .inl ?_⟩
    show ((σ.set m _).ob m).bind AObj.ln = none
    rw [set_same _ hm]; rfl
  · intro mv
    have hr : MRep w S es vs := ⟨e3, e4⟩
    have hr2 := (hr.put s hy).move (w' := w') (S' := S) (fun b' k hk => ⟨hk, hstb b' k hk⟩)
    exact ⟨b, mput vs s u, (congrArg GV.v (updG_same _ _ _)).trans e1', by rw [show ((σ.set m (.mp (pput es s y))).env w' S (updG g m (g m))).g m = g m from updG_same _ _ _]; exact eB', r2, hr2.1, hr2.2⟩
theorem flatten_splice {α : Type} {z : Nat} : ∀ {xs : List (List α)} (_ : ∀ x ∈ xs, x.length = z) {i : Nat} {c : List α} (_ : xs[i]? = some c) (off : Nat) (l : List α), off + l.length ≤ z → (xs.set i (splice c off l)).flatten = splice xs.flatten (i * z + off) l
  | [], _, i, c, hi, _, _, _ => by simp at hi
  | y :: ys, h, 0, c, hi, off, l, hl => by
    simp only [List.getElem?_cons_zero, Option.some.injEq] at hi
    subst hi
    have hy := h y (by simp)
    simp only [List.set_cons_zero, List.flatten_cons, Nat.zero_mul, Nat.zero_add, splice]
    rw [List.take_append_of_le_length (by omega), List.drop_append_of_le_length (by omega)]
    simp
  | y :: ys, h, i + 1, c, hi, off, l, hl => by
    simp only [List.getElem?_cons_succ] at hi
    have hy := h y (by simp)
    simp only [List.set_cons_succ, List.flatten_cons]
    rw [flatten_splice (fun u hu => h u (by simp [hu])) hi off l hl]
    have e1 : (i + 1) * z + off = y.length + (i * z + off) := by rw [Nat.succ_mul, hy]; omega
    rw [e1]
    unfold splice
    rw [List.take_length_add_append, show y.length + (i * z + off) + l.length = y.length + (i * z + off + l.length) by omega, List.drop_length_add_append]
    simp
theorem hAllT : ∀ v : TV, v.All (fun _ => True) := by
  intro v
  exact TV.rec (motive_1 := fun v => v.All (fun _ => True)) (motive_2 := fun l => ∀ x ∈ l, TV.All (fun _ => True) x) (fun _ => .p) (fun _ => .o) (fun _ _ _ _ _ => .ip trivial) .u .nil (fun _ h => .ag h) (fun _ h => .tp h) (fun _ _ => .ptr trivial) (fun _ => .pe) (fun _ _ => .vw trivial) (fun _ _ => .sl trivial) (fun _ => .mp trivial) (fun _ _ h => .fn h) (fun _ _ h => .bf h) (fun x hx => by cases hx) (fun _ _ h1 h2 x hx => by cases hx with | head => exact h1 | tail _ q => exact h2 x q) v
theorem hAllO : ∀ o : AObj, o.All (fun _ => True) := by
  intro o
  cases o with
  | box t l => exact fun x _ => hAllT x
  | rw => trivial
  | mp => trivial
  | ow z t ks xs => exact fun _ _ => trivial
  | gone => trivial
theorem Rep.setOw (h : Rep E σ a w S g) {m : Nm} {z : Nat} {t : TypeId} {ks ks' : List Nm} {xs : List (List TV)} (hm : σ.ob m = some (.ow z t ks xs)) {i off : Nat} {c : List TV} (hi : xs[i]? = some c) {l2 : List TV} {V : List Value} (hV : CRep (σ.env w S g) l2 V) (hoff : off + l2.length ≤ c.length)
    (hk1 : ∀ n ∈ ks, n ∈ ks') (hk2 : ∀ x ∈ l2, x.All (· ∈ ks')) (hkl : ∀ n ∈ ks', n.lt σ.H.length) (hoS : ∀ i, m = .S i → ∀ n ∈ ks', n.isS) {b cap : Nat} (hgm : (g m).v = .slice (some ⟨b, 0, none⟩) xs.length cap) :
    ∃ w' g', (storeCells ⟨b, i * z + off, none⟩ V).run P w = .ok () w' ∧ Rep E (σ.set m (.ow z t ks' (xs.set i (splice c off l2)))) a w' S g' := by
  obtain ⟨ok, on, fl, F, o1, o2, o3, o4, o5, o6, o7, o8⟩ := h.ob m _ hm
  have o1' : w.ownsRow 0 t z (g m).v xs.length fl := o1
  have o6' : ∀ k b, k < fl.length → F k b → blk (g m).v ≠ some b := o6
  have o7' : ∀ b, (g m).B b ↔ blk (g m).v = some b ∨ ∃ k, k < fl.length ∧ F k b := o7
  have o8' : ∀ b, (g m).B b → ∀ k, ¬ S b k := o8
  have hcl : c.length = z := o2 c (List.mem_of_getElem? hi)
  have hil : i < xs.length := (List.getElem?_eq_some_iff.1 hi).1
  have hVl := hV.len
  have hbl : blk (g m).v = some b := by rw [hgm]; rfl
  obtain ⟨gb, cap', cur, e1, e2, e3, e4, e5, e6, e7⟩ : ∃ gb cap cur, (g m).v = .slice (some ⟨gb, 0, none⟩) xs.length cap ∧ 0 ≤ gb ∧ w.heap[gb]? = some (.cells cur t (0, 0)) ∧ xs.length ≤ cap ∧ cap ≤ maxLen ∧ cur.size = cap * z ∧ cur.toList.take (xs.length * z) = fl := by
    rcases o1'.2 with ⟨e1, _⟩ | e
    · rw [hgm] at e1; cases e1
    · exact e
  rw [hgm] at e1
  cases e1
  have hiz : i * z + z ≤ xs.length * z := by
    have : (i + 1) * z ≤ xs.length * z := Nat.mul_le_mul_right z hil
    rwa [Nat.succ_mul] at this
  have hcz : xs.length * z ≤ cap * z := Nat.mul_le_mul_right z e4
  have hpos : i * z + off + V.length ≤ xs.length * z := by omega
  have hfln : fl.length = xs.length * z := o1'.1
  have hrun := run_storeCells_at P b (i * z + off) t V 0 cur w e3 (by omega) hV.one
  simp only [Nat.add_zero] at hrun
  generalize hcur' : (cur.toList.take (i * z + off) ++ V ++ cur.toList.drop (i * z + off + V.length)).toArray = cur' at hrun
  have hcurs : cur'.size = cur.size := by subst hcur'; simp; omega
  have hfl' : cur'.toList.take (xs.length * z) = splice fl (i * z + off) V := by
    subst hcur'
    simp only [splice]
    rw [← e7, List.take_take, show min (i * z + off) (xs.length * z) = i * z + off by omega, List.drop_take, List.take_append, List.take_of_length_le (by simp; omega)]
    congr 2
    simp
    omega
  let F' : Nat → Nat → Prop := fun k b => F k b ∧ (k < i * z + off ∨ i * z + off + V.length ≤ k)
  let gv : GV := ⟨(g m).v, fun b' => blk (g m).v = some b' ∨ ∃ k, k < fl.length ∧ F' k b'⟩
  refine ⟨w.setRow b cur', updG g m gv, hrun, ?_⟩
  have hst : ∀ b' k, S b' k → b' ≠ b := fun b' k hk e => o8' b' ((o7' b').2 (.inl (e ▸ hbl))) k hk
  have hoth : ∀ b', b' ≠ b → (w.setRow b cur').heap[b']? = w.heap[b']? := fun b' hne => setRow_other w b b' _ hne
  refine (h.chg hm (w' := w.setRow b cur') (S' := S) (gv := gv) (o := .ow z t ks' (xs.set i (splice c off l2))) (r := some b) ?_ (fun b' e => by cases e; exact (o7' b).2 (.inl hbl)) ?_ ?_ ?_ ?_ ?_ ?_).1
  · exact ⟨rfl, rfl, rfl, by simp, fun k _ hk => hoth k (fun e => hk (by rw [e]))⟩
  · exact fun b' k hk => ⟨hk, World.cell?_of_block (hoth b' (hst b' k hk))⟩
  · exact fun b' k hk => .inl hk
  · intro b' hb'
    refine .inr ((o7' b').2 ?_)
    rcases hb' with q | ⟨k, q1, q2⟩
    · exact .inl q
    · exact .inr ⟨k, q1, q2.1⟩
  · refine .inl ⟨by show (updG g m gv m).v = (g m).v; rw [updG_same], .inr ?_⟩
    show ((σ.set m _).ob m).bind AObj.ln = (σ.ob m).bind AObj.ln
    rw [set_same _ hm, hm]
    simp [AObj.ln]
  · exact hoS
  · intro mv
    have hgs : ((σ.set m (.ow z t ks' (xs.set i (splice c off l2)))).env (w.setRow b cur') S (updG g m gv)).g m = gv := updG_same _ _ _
    have hflat : (xs.set i (splice c off l2)).flatten = splice xs.flatten (i * z + off) l2 := flatten_splice o2 hi off l2 (by omega)
    have hfx : xs.flatten.length = fl.length := by rw [flatten_len o2, hfln]
    have hslen : (splice fl (i * z + off) V).length = fl.length := by unfold splice; simp; omega
    refine ⟨fun n hn => Nm.lt_mono (hkl n hn) (Nat.le_of_eq (set_H _).symm), ?_, splice fl (i * z + off) V, F', ?_, ?_, ?_, ?_, ?_, ?_, ?_, ?_⟩
    · intro y hy x hx
      rcases List.mem_or_eq_of_mem_set hy with hy | rfl
      · exact (on y hy x hx).mono hk1
      · unfold splice at hx
        rcases List.mem_append.1 hx with hx | hx
        · rcases List.mem_append.1 hx with hx | hx
          · exact (on c (List.mem_of_getElem? hi) x (List.mem_of_mem_take hx)).mono hk1
          · exact hk2 x hx
        · exact (on c (List.mem_of_getElem? hi) x (List.mem_of_mem_drop hx)).mono hk1
    · rw [hgs]
      refine ⟨by rw [hslen, hfln]; simp, .inr ⟨b, cap, cur', by show (g m).v = _; rw [hgm]; simp, Nat.zero_le _, setRow_heap w b cur _ t (0, 0) e3, by simpa using e4, e5, by rw [hcurs, e6], by simpa using hfl'⟩⟩
    · intro x hx
      rcases List.mem_or_eq_of_mem_set hx with hx | rfl
      · exact o2 x hx
      · unfold splice; simp; omega
    · intro k y u hy hu
      rw [hflat] at hy
      unfold splice at hy hu
      have hk : k < fl.length := by
        have := (List.getElem?_eq_some_iff.1 hu).1
        simp at this; omega
      by_cases k1 : k < i * z + off
      · rw [List.append_assoc, List.getElem?_append_left (by simp only [List.length_append, List.length_take, List.length_drop]; omega), List.getElem?_take, if_pos k1] at hy hu
        have h0 := o3 k y u hy hu
        cases h0 with
        | t h0 hF => exact .t (mv _ _ h0) (fun b' q => hF b' q.1)
        | @o v _ _ h0 =>
          have : F' k = F k := by funext b'; exact propext ⟨fun q => q.1, fun q => ⟨q, .inl k1⟩⟩
          rw [this]
          exact .o (h0.move (w' := w.setRow b cur') (S' := S) (fun b' j hj => ⟨hj, World.cell?_of_block (hoth b' (hst b' j hj))⟩) (fun b' hF => hoth b' (fun e => o6' k b' hk hF (e ▸ hbl))))
      · by_cases k2 : k < i * z + off + V.length
        · rw [List.append_assoc, List.getElem?_append_right (by simp only [List.length_append, List.length_take, List.length_drop]; omega), List.getElem?_append_left (by simp only [List.length_append, List.length_take, List.length_drop]; omega)] at hy hu
          simp only [List.length_take] at hy hu
          rw [show min (i * z + off) xs.flatten.length = min (i * z + off) fl.length by rw [hfx]] at hy
          exact .t (mv _ _ (hV.get _ y u hy hu)) (fun b' q => by rcases q.2 with q | q <;> omega)
        · rw [List.getElem?_append_right (by simp only [List.length_append, List.length_take, List.length_drop]; omega), List.getElem?_drop] at hy hu
          simp only [List.length_append, List.length_take] at hy hu
          rw [show i * z + off + l2.length + (k - (min (i * z + off) xs.flatten.length + l2.length)) = k by omega] at hy
          rw [show i * z + off + V.length + (k - (min (i * z + off) fl.length + V.length)) = k by omega] at hu
          have h0 := o3 k y u hy hu
          cases h0 with
          | t h0 hF => exact .t (mv _ _ h0) (fun b' q => hF b' q.1)
          | @o v _ _ h0 =>
            have : F' k = F k := by funext b'; exact propext ⟨fun q => q.1, fun q => ⟨q, .inr (by omega)⟩⟩
            rw [this]
            exact .o (h0.move (w' := w.setRow b cur') (S' := S) (fun b' j hj => ⟨hj, World.cell?_of_block (hoth b' (hst b' j hj))⟩) (fun b' hF => hoth b' (fun e => o6' k b' hk hF (e ▸ hbl))))
    · intro u hu
      unfold splice at hu
      rcases List.mem_append.1 hu with hu | hu
      · rcases List.mem_append.1 hu with hu | hu
        · exact o4 u (List.mem_of_mem_take hu)
        · exact hV.one u hu
      · exact o4 u (List.mem_of_mem_drop hu)
    · rw [hslen]; exact fun i' j' b' h1 h2 h3 h4 h5 => o5 i' j' b' h1 h2 h3 h4.1 h5.1
    · rw [hslen, hgs]; exact fun i' b' h1 h2 => o6' i' b' h1 h2.1
    · rw [hslen, hgs]; exact fun b' => Iff.rfl
    · rw [hgs]
      intro b' hb' k hk
      refine o8' b' ((o7' b').2 ?_) k hk
      rcases hb' with q | ⟨k, q1, q2⟩
      · exact .inl q
      · exact .inr ⟨k, q1, q2.1⟩
end Go.Proofs.YtglkkbgflnpjeaaGreatDoor.En
end
section
namespace Go.Proofs.YtglkkbgflnpjeaaGreatDoor.En
set_option linter.unusedVariables false
set_option linter.unusedSimpArgs false
open Go Go.RowKit Go.Proofs.YtglkkbgflnpjeaaGreatDoor.PA
variable {P : Program} {E : Ent} {σ : St} {a : Act} {w : World} {S : Nat → Nat → Prop} {g : Nm → GV}
theorem blk_own {v : Value} {b : Nat} (h : v.ownBlock = some b) : blk v = some b := by
  cases v <;> simp [Value.ownBlock] at h
  rename_i a _ _
  cases a <;> simp [Value.ownBlock] at h
  subst h; rfl
theorem own_blk {w : World} {base : Nat} {e : TypeId} {size : Nat} {v : Value} {n : Nat} {xs : List Value} (h : w.ownsRow base e size v n xs) : blk v = v.ownBlock := by
  rcases h.2 with ⟨rfl, _⟩ | ⟨gb, cap, cur, rfl, _⟩ <;> rfl
theorem append_run (t ty e : TypeId) (i : TypeInfo) (z : Value) (ht : P.underlying t = some (.slice e)) (hi : P.info? e = some i) (hz : i.zero = some z)
    (hzs : z.cells.size = i.size) (hsz : 0 < i.size) (v : Value) (n : Nat) (xs : List Value) (hown : w.ownsRow 0 e i.size v n xs)
    (ad : Option Addr) (m c : Nat) (news : List Value) (hl : news.length = m * i.size) (hnews : ∀ b, ad = some b → ∀ j u, news[j]? = some u → w.cell? (b.add j) = some u) (hnil : ad = none → m = 0) (h1 : ∀ u ∈ news, u.oneCell' = true)
    (hbytes : (n + m) * i.bytes ≤ 140737488355328) (h63 : n + m ≤ 140737488355328) :
    ∃ v' w', (Builtin.append_ #[t, t] ty #[v, .slice ad m c]).run P w = .ok v' w' ∧ w'.ownsRow 0 e i.size v' (n + m) (xs ++ news) ∧ (m = 0 → v' = v) ∧
      ((blk v' = blk v ∧ w.grownBy w' (blk v)) ∨ (blk v' = some w.heap.size ∧ w.grownBy w' none)) := by
  have hlen : (xs ++ news).length = (n + m) * i.size := by rw [List.length_append, hown.1, hl, Nat.add_mul]
  have hsm : n + m ≤ maxLen := by simp only [maxLen]; omega
  have hbv := own_blk hown
  by_cases hm : m = 0
  · subst hm
    have hn : news = [] := List.eq_nil_of_length_eq_zero (by simpa using hl)
    subst hn
    refine ⟨v, w, ?_, by simpa using hown, fun _ => rfl, .inl ⟨rfl, rfl, rfl, rfl, Nat.le_refl _, fun _ _ _ => rfl⟩⟩
    rcases hown.2 with ⟨rfl, rfl⟩ | ⟨gb, cap, cur, rfl, _, _, hnc, _⟩
    · cases ad <;> simp [Builtin.append_, run_underlying ht, sizeOf, typeInfo, hi, Builtin.lenOf, Builtin.firstCells, loadCells, loadCellsFrom]
    · cases ad <;> simp [Builtin.append_, run_underlying ht, sizeOf, typeInfo, hi, Builtin.lenOf, Builtin.firstCells, hnc, storeCells, loadCells, loadCellsFrom]
  · cases ad with
    | none => exact absurd (hnil rfl) hm
    | some b =>
      have hnews := hnews b rfl
      have grown : ∀ (old : Nat), old < n + m →
          (w.drew.alloc (.cells (xs.toArray ++ news.toArray ++ Builtin.zeroCells z.cells (grownCap w (n + m) old e - (n + m))) e)).ownsRow 0 e i.size
            (.slice (some ⟨w.heap.size, 0, none⟩) (n + m) (grownCap w (n + m) old e)) (n + m) (xs ++ news) ∧
          w.grownBy (w.drew.alloc (.cells (xs.toArray ++ news.toArray ++ Builtin.zeroCells z.cells (grownCap w (n + m) old e - (n + m))) e)) none := by
        intro old ho
        have hge := grownCap_ge w (n + m) old e
        have hcm : grownCap w (n + m) old e ≤ maxLen := grownCap_le_maxLen w (n + m) old e hsm
        refine ⟨⟨hlen, .inr ⟨w.heap.size, _, _, rfl, Nat.zero_le _, heap_alloc_new w.drew _, hge, hcm, ?_, ?_⟩⟩, ⟨rfl, rfl, rfl, by simp, fun k hk _ => Below.heap_alloc w.drew _ k hk⟩⟩
        · simp only [Array.size_append, List.size_toArray, size_zeroCells, hzs, hown.1, hl, ← Nat.add_mul]
          congr 1
          omega
        · simp only [Array.toList_append, List.append_assoc]
          rw [← List.append_assoc, ← hlen]
          exact List.take_left
      rcases hown.2 with ⟨rfl, rfl⟩ | ⟨gb, cap, cur, rfl, hbg, hg, hnc, hcm, hcs, htake⟩
      · have hx : xs = [] := List.eq_nil_of_length_eq_zero (by simpa using hown.1)
        subst hx
        have hr := run_append_nil (P := P) w t ty e i z ht hi hz b m c news hl hnews (by omega) (by simp only [maxLen] at hsm; omega) (by have hb := hbytes; simp only [Nat.zero_add] at hb; omega)
        have hgr := grown 0 (by omega)
        simp only [Nat.zero_add, List.nil_append, Array.empty_append] at hgr ⊢
        exact ⟨_, _, hr, hgr.1, fun e => absurd e hm, .inr ⟨rfl, hgr.2⟩⟩
      · by_cases hroom : n + m ≤ cap
        · have hfit : n * i.size + news.length ≤ cur.size := by rw [hl, hcs, ← Nat.add_mul]; exact Nat.mul_le_mul_right _ hroom
          have hr := run_append_room (P := P) w t ty e i ht hi gb n cap cur hg b m c news hl hnews h1 hroom hfit
          refine ⟨_, _, hr, ⟨hlen, .inr ⟨gb, cap, _, rfl, hbg, setRow_heap w gb cur _ e _ hg, hroom, hcm, ?_, ?_⟩⟩, fun e => absurd e hm, .inl ⟨rfl, rfl, rfl, rfl, by simp, fun k _ hk => setRow_other w gb k _ (fun e => hk (by rw [e]; rfl))⟩⟩
          · simp only [List.size_toArray, List.length_append, List.length_take, List.length_drop, Array.length_toList]
            omega
          · rw [htake, ← hlen]
            exact List.take_left
        · have holds : ∀ j u, xs[j]? = some u → w.cell? ((⟨gb, 0, none⟩ : Addr).add j) = some u := hown.cells (g := gb) rfl
          have hr := run_append_grow (P := P) w t ty e i z ht hi hz ⟨gb, 0, none⟩ n cap xs hown.1 holds b m c news hl hnews (by omega) (by simp only [maxLen] at hsm; omega) (growslice_fits (by omega) hbytes)
          have hgr := grown cap (by omega)
          exact ⟨_, _, hr, hgr.1, fun e => absurd e hm, .inr ⟨rfl, hgr.2⟩⟩
theorem row_cells {z : Nat} {ys : List PV} {X : Value} (h : PRep w S (.row z ys) X) : ∃ ad c news, X = .slice ad ys.length c ∧ news.length = ys.length * z ∧ (∀ b, ad = some b → ∀ j u, news[j]? = some u → w.cell? (b.add j) = some u) ∧ (ad = none → ys.length = 0) ∧ PC w S (flat ys) news ∧ ∀ y ∈ ys, y.cells.length = z := by
  cases h with
  | @nl _ ad c => exact ⟨ad, c, [], rfl, by simp, fun _ _ j u hu => by simp at hu, fun _ => rfl, PC.nil _ _, fun y hy => by cases hy⟩
  | @row _ _ b off c U hc hz hU hcell =>
    refine ⟨_, c, (List.range (ys.length * z)).map U, rfl, by simp, fun b' e j u hu => ?_, (fun e => by cases e), ⟨by simp [flat_len hz], fun k y u hy hu => ?_⟩, hz⟩
    · cases e
      rw [List.getElem?_map] at hu
      by_cases hj : j < ys.length * z
      · rw [List.getElem?_range hj] at hu
        cases hu
        rw [Addr.add_mid]
        exact (hcell j hj).2.1
      · rw [List.getElem?_eq_none (by simp; omega)] at hu
        cases hu
    · have hk : k < ys.length * z := by rw [← flat_len hz]; exact (List.getElem?_eq_some_iff.1 hy).1
      rw [List.getElem?_map, List.getElem?_range hk] at hu
      cases hu
      exact ⟨hU k y hy, (hcell k hk).2.2⟩
def byt (P : Program) (t : TypeId) : Option Nat := (P.info? t).map (·.bytes)
structure AppOk (P : Program) (t e : TypeId) (z n : Nat) : Prop where
  ht : P.underlying t = some (.slice e)
  lay : ∃ b, lay P e = some (b, z)
  zer : ∃ zs, zer P e = some zs ∧ zs.length = z
  pos : 0 < z
  byt : ∃ by_, byt P e = some by_ ∧ n * by_ ≤ 140737488355328
  len : n ≤ 140737488355328
theorem AppOk.info {t e : TypeId} {z n : Nat} (h : AppOk P t e z n) : ∃ i Z, P.info? e = some i ∧ i.zero = some Z ∧ Z.cells.size = i.size ∧ i.size = z ∧ n * i.bytes ≤ 140737488355328 := by
  obtain ⟨b, hl⟩ := h.lay
  obtain ⟨zs, hz, hzl⟩ := h.zer
  obtain ⟨by_, hb, hb2⟩ := h.byt
  obtain ⟨i, d, q1, q2, q3, q4⟩ := lay_some hl
  unfold En.zer at hz
  unfold En.byt at hb
  rw [q1] at hz hb
  simp only [Option.bind_some, Option.map_some, Option.some.injEq] at hz hb
  cases hz0 : i.zero with
  | none => rw [hz0] at hz; cases hz
  | some Z =>
    rw [hz0] at hz
    simp only [Option.map_some, Option.some.injEq] at hz
    exact ⟨i, Z, q1, hz0, by rw [q4, ← hzl, ← hz]; simp, q4, by rw [hb]; exact hb2⟩
theorem Rep.grow (h : Rep E σ a w S g) {m : Nm} {z : Nat} {e t ty : TypeId} {xs ys : List PV} (hm : σ.ob m = some (.rw z e xs)) (hok : AppOk P t e z (xs.length + ys.length)) {X : Value} (hX : PRep w S (.row z ys) X) :
    ∃ v' w' S', (Builtin.append_ #[t, t] ty #[(g m).v, X]).run P w = .ok v' w' ∧ v'.oneCell' = true ∧ Rep E (σ.set m (.rw z e (xs ++ ys))) a w' S' (updG g m (gvOf v')) := by
  obtain ⟨fl, o1, oB, o2, o3, o4⟩ := h.ob m _ hm
  have oB' : ∀ b', (g m).B b' ↔ blk (g m).v = some b' := oB
  have o1' : w.ownsRow 0 e z (g m).v xs.length fl := o1
  have o4' : ∀ b, blk (g m).v = some b → ∀ k, S b k ↔ k < xs.length * z := o4
  obtain ⟨i, Z, i1, i2, i3, rfl, i5⟩ := hok.info
  obtain ⟨ad, c, news, rfl, n1, n2, n3, n4, n5⟩ := row_cells hX
  obtain ⟨v', w', r1, r2, r3, r4⟩ := append_run (P := P) t ty e i Z hok.ht i1 i2 i3 hok.pos (g m).v xs.length fl o1' ad ys.length c news n1 n2 n3 n4.one i5 hok.len
  have hgw : w.grownBy w' (blk (g m).v) := by
    rcases r4 with ⟨_, q⟩ | ⟨_, q⟩
    · exact q
    · exact ⟨q.os, q.tape, q.output, q.size, fun k hk _ => q.block k hk (by simp)⟩
  have hlt : ∀ b, blk v' = some b → b < w'.heap.size := by
    intro b hb
    rcases r2.2 with ⟨e1, _⟩ | ⟨gb, cap, cur, e1, e2, e3, _⟩
    · rw [e1] at hb; cases hb
    · rw [e1] at hb; cases hb; exact (Array.getElem?_eq_some_iff.1 e3).1
  have hlen : (xs ++ ys).length = xs.length + ys.length := List.length_append
  have hst : ∀ b k, S b k → w'.cell? ⟨b, k, none⟩ = w.cell? ⟨b, k, none⟩ := by
    intro b k hk
    rcases r4 with ⟨q1, q2⟩ | ⟨_, q⟩
    · by_cases hb : blk (g m).v = some b
      · have hk2 := (o4' b hb k).1 hk
        have c1 : w.cell? ⟨b, k, none⟩ = fl[k]? := by
          rcases o1'.2 with ⟨e1, _⟩ | ⟨gb, cap, cur, e1, e2, e3, e4, e5, e6, e7⟩
          · rw [e1] at hb; cases hb
          · rw [e1] at hb; cases hb
            rw [cell_of_row w gb k cur e (0, 0) e3, ← e7, List.getElem?_take, if_pos hk2]; simp
        have c2 : w'.cell? ⟨b, k, none⟩ = (fl ++ news)[k]? := by
          rw [hb] at q1
          rcases r2.2 with ⟨e1, _⟩ | ⟨gb, cap, cur, e1, e2, e3, e4, e5, e6, e7⟩
          · rw [e1] at q1; cases q1
          · rw [e1] at q1; cases q1
            rw [cell_of_row w' gb k cur e (0, 0) e3, ← e7, List.getElem?_take, if_pos (by rw [Nat.add_mul]; omega)]; simp
        rw [c1, c2, List.getElem?_append_left (by rw [o1'.1]; exact hk2)]
      · exact World.cell?_of_block (q2.block b (h.st b k hk) (fun q => hb q.symm))
    · exact World.cell?_of_block (q.block b (h.st b k hk) (by simp))
  refine ⟨v', w', fun b k => S b k ∨ (blk v' = some b ∧ k < (xs ++ ys).length * i.size), r1, ?_, ?_⟩
  · rcases r2.2 with ⟨e1, _⟩ | ⟨gb, cap, cur, e1, _⟩ <;> rw [e1] <;> rfl
  refine (h.chg (o := .rw i.size e (xs ++ ys)) (gv := gvOf v') hm hgw (fun b e => (oB' b).2 e) (fun b k hk => ⟨.inl hk, hst b k hk⟩) ?_ ?_ ?_ (fun _ _ => trivial) (fun mv => ?_)).1
  · intro b k hk
    rcases hk with hk | ⟨hk, _⟩
    · exact .inl hk
    · rcases r4 with ⟨q1, _⟩ | ⟨q1, _⟩
      · exact .inr (.inr ((oB' b).2 (q1 ▸ hk)))
      · rw [hk] at q1; cases q1; exact .inr (.inl ⟨Nat.le_refl _, hlt _ hk⟩)
  · intro b hb
    rcases r4 with ⟨q1, _⟩ | ⟨q1, _⟩
    · exact .inr ((oB' b).2 (q1 ▸ hb))
    · rw [show blk v' = some b from hb] at q1; cases q1; exact .inl (Nat.le_refl _)
  · by_cases hy : ys.length = 0
    · have hy0 : ys = [] := List.length_eq_zero_iff.1 hy
      refine .inl ⟨by show (updG g m (gvOf v') m).v = (g m).v; rw [updG_same]; exact r3 hy, .inr ?_⟩
      show ((σ.set m _).ob m).bind AObj.ln = (σ.ob m).bind AObj.ln
      rw [set_same _ hm, hm, hy0]; simp
    · refine .inr ⟨?_, .inr ⟨xs.length, xs.length + ys.length, ?_, ?_, by omega⟩⟩
      · rcases o1'.2 with ⟨e1, _⟩ | ⟨gb, cap, cur, e1, _⟩
        · exact ⟨_, _, _, e1⟩
        · exact ⟨_, _, _, e1⟩
      · show (σ.ob m).bind AObj.ln = _
        rw [hm]; rfl
      · show ((σ.set m _).ob m).bind AObj.ln = _
        rw [set_same _ hm]; simp [AObj.ln]
  · refine ⟨fl ++ news, ?_, ?_, ?_, ?_, ?_⟩
    · show w'.ownsRow 0 e i.size (updG g m (gvOf v') m).v (xs ++ ys).length (fl ++ news)
      rw [updG_same, hlen]; exact r2
    · intro b'
      rw [show ((σ.set m (.rw i.size e (xs ++ ys))).env w' (fun b k => S b k ∨ (blk v' = some b ∧ k < (xs ++ ys).length * i.size)) (updG g m (gvOf v'))).g m = gvOf v' from updG_same _ _ _]; exact Iff.rfl
    · intro x hx
      rcases List.mem_append.1 hx with hx | hx
      · exact o2 x hx
      · exact n5 x hx
    · intro k y u hy hu
      have hpc : PC w S (flat xs) fl := ⟨by rw [o1'.1, flat_len o2], fun k y u hy hu => o3 k y u hy hu⟩
      rw [flat_append] at hy
      obtain ⟨p1, p2⟩ := (hpc.append n4).get k y u hy hu
      exact ⟨p1.move (fun b k hk => ⟨.inl hk, hst b k hk⟩), p2⟩
    · intro b hb k
      have hb' : blk v' = some b := by have := hb; rwa [show ((σ.set m (.rw i.size e (xs ++ ys))).env w' (fun b k => S b k ∨ (blk v' = some b ∧ k < (xs ++ ys).length * i.size)) (updG g m (gvOf v'))).g m = gvOf v' from updG_same _ _ _] at this
      refine ⟨fun hk => ?_, fun hk => .inr ⟨hb', hk⟩⟩
      rcases hk with hk | hk
      · rcases r4 with ⟨q1, _⟩ | ⟨q1, _⟩
        · have := (o4' b (q1 ▸ hb') k).1 hk
          rw [hlen, Nat.add_mul]; omega
        · rw [hb'] at q1; cases q1
          exact absurd (h.st _ _ hk) (Nat.lt_irrefl _)
      · exact hk.2
theorem Rep.grow0 (h : Rep E σ a w S g) {m : Nm} (hm : Fresh σ m) {z : Nat} {e t ty : TypeId} {ys : List PV} (hok : AppOk P t e z ys.length) {X : Value} (hX : PRep w S (.row z ys) X) :
    ∃ v' w' S', (Builtin.append_ #[t, t] ty #[.slice none 0 0, X]).run P w = .ok v' w' ∧ v'.oneCell' = true ∧ Rep E (σ.add m (.rw z e ys)) a w' S' (updG g m (gvOf v')) := by
  obtain ⟨i, Z, i1, i2, i3, rfl, i5⟩ := hok.info
  obtain ⟨ad, c, news, rfl, n1, n2, n3, n4, n5⟩ := row_cells hX
  obtain ⟨v', w', r1, r2, r3, r4⟩ := append_run (P := P) (w := w) t ty e i Z hok.ht i1 i2 i3 hok.pos (.slice none 0 0) 0 [] (World.ownsRow_nil _ _ _ _) ad ys.length c news n1 n2 n3 n4.one (by simpa using i5) (by have := hok.len; omega)
  simp only [Nat.zero_add, List.nil_append] at r2
  have hgw : w.grownBy w' none := by
    rcases r4 with ⟨_, q⟩ | ⟨_, q⟩
    · exact q
    · exact q
  refine ⟨v', w', _, r1, ?_, h.newRow hm hgw (fl := news) ?_ n5 n4⟩
  · rcases r2.2 with ⟨e1, _⟩ | ⟨gb, cap, cur, e1, _⟩ <;> rw [e1] <;> rfl
  · refine ⟨r2.1, r2.2.imp id ?_⟩
    rintro ⟨gb, cap, cur, e1, e2, e3⟩
    refine ⟨gb, cap, cur, e1, ?_, e3⟩
    rcases r4 with ⟨q, _⟩ | ⟨q, _⟩
    · rw [e1] at q; cases q
    · rw [e1] at q; cases q; exact Nat.le_refl _
structure SrcRow (Γ : Env) (z : Nat) (ys : List (List TV)) (X : Value) (ad : Option Addr) (c : Nat) (news : List Value) : Prop where
  eq : X = .slice ad ys.length c
  len : news.length = ys.length * z
  cell : ∀ b, ad = some b → ∀ j u, news[j]? = some u → Γ.w.cell? (b.add j) = some u
  nil : ad = none → ys.length = 0
  rep : CRep Γ ys.flatten news
  hz : ∀ y ∈ ys, y.length = z
theorem flat_cells (ys : List PV) : (ys.map fun y => y.cells.map TV.p).flatten = (flat ys).map TV.p := by
  induction ys with
  | nil => rfl
  | cons y ys ih => rw [List.map_cons, List.flatten_cons, ih, flat_cons, List.map_append]
theorem SrcRow.pure {Γ : Env} {z : Nat} {ys : List PV} {X : Value} (h : PRep Γ.w Γ.S (.row z ys) X) : ∃ ad c news, SrcRow Γ z (ys.map fun y => y.cells.map TV.p) X ad c news := by
  obtain ⟨ad, c, news, rfl, n1, n2, n3, n4, n5⟩ := row_cells h
  refine ⟨ad, c, news, by simp, by simpa using n1, n2, by simpa using n3, ?_, ?_⟩
  · rw [flat_cells]
    refine ⟨by simpa using n4.len, fun k y u hy hu => ?_, n4.one⟩
    rw [List.getElem?_map] at hy
    cases hk : (flat ys)[k]? with
    | none => rw [hk] at hy; cases hy
    | some q => rw [hk] at hy; cases hy; exact .p (n4.get k q u hk hu).1
  · intro y hy
    obtain ⟨q, hq, rfl⟩ := List.mem_map.1 hy
    simpa using n5 q hq
theorem SrcRow.ow {Γ : Env} {n : Nm} {z : Nat} {t : TypeId} {ks : List Nm} {ys : List (List TV)} (h : ORep Γ n (.ow z t ks ys)) (hp : ∀ y ∈ ys.flatten, noO y) : ∃ ad c news, SrcRow Γ z ys (Γ.g n).v ad c news := by
  obtain ⟨_, _, fl, F, o1, o2, o3, o4, _⟩ := h
  have hfl : ys.flatten.length = fl.length := by rw [flatten_len o2, o1.1]
  have hr : CRep Γ ys.flatten fl := ⟨hfl.symm, fun k y u hy hu => by
    have h0 := o3 k y u hy hu
    have hy2 := hp y (List.mem_of_getElem? hy)
    cases h0 with
    | t h _ => exact h
    | o h => exact hy2.elim, o4⟩
  rcases o1.2 with ⟨e1, e2⟩ | ⟨gb, cap, cur, e1, _⟩
  · exact ⟨none, 0, fl, by rw [e1, e2], o1.1, (fun b e => by cases e), fun _ => e2, hr, o2⟩
  · exact ⟨some ⟨gb, 0, none⟩, cap, fl, e1, o1.1, (fun b e => by cases e; exact World.ownsRow.cells (h := o1) (by rw [e1]; rfl)), (fun e => by cases e), hr, o2⟩
theorem Rep.growOw (h : Rep E σ a w S g) {m : Nm} {z : Nat} {e t ty : TypeId} {ks ks' : List Nm} {xs ys : List (List TV)} (hm : σ.ob m = some (.ow z e ks xs)) (hok : AppOk P t e z (xs.length + ys.length)) {X : Value} {ad : Option Addr} {c : Nat} {news : List Value}
    (hX : SrcRow (σ.env w S g) z ys X ad c news) (hk1 : ∀ n ∈ ks, n ∈ ks') (hk2 : ∀ x ∈ ys.flatten, x.All (· ∈ ks')) (hkl : ∀ n ∈ ks', n.lt σ.H.length) (hoS : ∀ i, m = .S i → ∀ n ∈ ks', n.isS) :
    ∃ v' w' g', (Builtin.append_ #[t, t] ty #[(g m).v, X]).run P w = .ok v' w' ∧ v'.oneCell' = true ∧ (g' m).v = v' ∧ Rep E (σ.set m (.ow z e ks' (xs ++ ys))) a w' S g' := by
  obtain ⟨ok, on, fl, F, o1, o2, o3, o4, o5, o6, o7, o8⟩ := h.ob m _ hm
  have o1' : w.ownsRow 0 e z (g m).v xs.length fl := o1
  have o6' : ∀ k b, k < fl.length → F k b → blk (g m).v ≠ some b := o6
  have o7' : ∀ b, (g m).B b ↔ blk (g m).v = some b ∨ ∃ k, k < fl.length ∧ F k b := o7
  have o8' : ∀ b, (g m).B b → ∀ k, ¬ S b k := o8
  obtain ⟨i, Z, i1, i2, i3, rfl, i5⟩ := hok.info
  obtain ⟨rfl, n1, n2, n3, n4, n5⟩ := hX
  obtain ⟨v', w', r1, r2, r3, r4⟩ := append_run (P := P) t ty e i Z hok.ht i1 i2 i3 hok.pos (g m).v xs.length fl o1' ad ys.length c news n1 n2 n3 n4.one i5 hok.len
  have hgw : w.grownBy w' (blk (g m).v) := by
    rcases r4 with ⟨_, q⟩ | ⟨_, q⟩
    · exact q
    · exact ⟨q.os, q.tape, q.output, q.size, fun k hk _ => q.block k hk (by simp)⟩
  have hlen : (xs ++ ys).length = xs.length + ys.length := List.length_append
  have hfln : fl.length = xs.length * i.size := o1'.1
  have hfx : xs.flatten.length = fl.length := by rw [flatten_len o2, hfln]
  have hst : ∀ b k, S b k → blk (g m).v ≠ some b := fun b k hk e => o8' b ((o7' b).2 (.inl e)) k hk
  have hlt : ∀ b, (g m).B b → b < w.heap.size := fun b hb => (h.ob m _ hm).lt hb
  have hoth : ∀ b, b < w.heap.size → blk (g m).v ≠ some b → w'.heap[b]? = w.heap[b]? := fun b hb hne => hgw.block b hb (fun e => hne e.symm)
  have hv' : ∀ b, blk v' = some b → blk (g m).v = some b ∨ b = w.heap.size := by
    intro b hb
    rcases r4 with ⟨q, _⟩ | ⟨q, _⟩
    · exact .inl (q ▸ hb)
    · rw [hb] at q; cases q; exact .inr rfl
  let F' : Nat → Nat → Prop := fun k b => F k b ∧ k < fl.length
  let gv : GV := ⟨v', fun b' => blk v' = some b' ∨ ∃ k, k < (fl ++ news).length ∧ F' k b'⟩
  refine ⟨v', w', updG g m gv, r1, ?_, by rw [updG_same], ?_⟩
  · exact own_one r2
  refine (h.chg (o := .ow i.size e ks' (xs ++ ys)) (gv := gv) (S' := S) hm hgw (fun b e => (o7' b).2 (.inl e)) (fun b k hk => ⟨hk, World.cell?_of_block (hoth b (h.st b k hk) (hst b k hk))⟩) (fun b k hk => .inl hk) ?_ ?_ ?_ (fun mv => ?_)).1
  · intro b hb
    rcases hb with hb | ⟨k, _, q1, q2⟩
    · rcases hv' b hb with q | q
      · exact .inr ((o7' b).2 (.inl q))
      · exact .inl (Nat.le_of_eq q.symm)
    · exact .inr ((o7' b).2 (.inr ⟨k, q2, q1⟩))
  · by_cases hy : ys.length = 0
    · have hy0 : ys = [] := List.length_eq_zero_iff.1 hy
      refine .inl ⟨by show (updG g m gv m).v = (g m).v; rw [updG_same]; exact r3 hy, .inr ?_⟩
      show ((σ.set m _).ob m).bind AObj.ln = (σ.ob m).bind AObj.ln
      rw [set_same _ hm, hm, hy0]; simp [AObj.ln]
    · refine .inr ⟨?_, .inr ⟨xs.length, xs.length + ys.length, ?_, ?_, by omega⟩⟩
      · rcases o1'.2 with ⟨e1, _⟩ | ⟨gb, cap, cur, e1, _⟩
        · exact ⟨_, _, _, e1⟩
        · exact ⟨_, _, _, e1⟩
      · show (σ.ob m).bind AObj.ln = _
        rw [hm]; rfl
      · show ((σ.set m _).ob m).bind AObj.ln = _
        rw [set_same _ hm]; simp [AObj.ln]
  · exact hoS
  · have hgs : ((σ.set m (.ow i.size e ks' (xs ++ ys))).env w' S (updG g m gv)).g m = gv := updG_same _ _ _
    have hnl : news.length = ys.length * i.size := n1
    refine ⟨fun n hn => Nm.lt_mono (hkl n hn) (Nat.le_of_eq (set_H _).symm), ?_, fl ++ news, F', ?_, ?_, ?_, ?_, ?_, ?_, ?_, ?_⟩
    · intro cc hcc x hx
      rcases List.mem_append.1 hcc with hcc | hcc
      · exact (on cc hcc x hx).mono hk1
      · exact hk2 x (List.mem_flatten.2 ⟨cc, hcc, hx⟩)
    · rw [hgs, hlen]; exact r2
    · intro x hx
      rcases List.mem_append.1 hx with hx | hx
      · exact o2 x hx
      · exact n5 x hx
    · intro k y u hy hu
      rw [List.flatten_append] at hy
      by_cases hk : k < fl.length
      · rw [List.getElem?_append_left (by rw [hfx]; exact hk)] at hy
        rw [List.getElem?_append_left hk] at hu
        have h0 := o3 k y u hy hu
        cases h0 with
        | t h0 hF => exact .t (mv _ _ h0) (fun b' q => hF b' q.1)
        | @o v _ _ h0 =>
          have : F' k = F k := by funext b'; exact propext ⟨fun q => q.1, fun q => ⟨q, hk⟩⟩
          rw [this]
          exact .o (h0.move (w' := w') (S' := S) (fun b' j hj => ⟨hj, World.cell?_of_block (hoth b' (h.st b' j hj) (hst b' j hj))⟩) (fun b' hF => hoth b' (hlt b' ((o7' b').2 (.inr ⟨k, hk, hF⟩))) (fun e => o6' k b' hk hF e)))
      · rw [List.getElem?_append_right (by rw [hfx]; omega), hfx] at hy
        rw [List.getElem?_append_right (by omega)] at hu
        exact .t (mv _ _ (n4.get _ y u hy hu)) (fun b' q => hk q.2)
    · intro u hu
      rcases List.mem_append.1 hu with hu | hu
      · exact o4 u hu
      · exact n4.one u hu
    · exact fun i' j' b' _ _ h3 h4 h5 => o5 i' j' b' h4.2 h5.2 h3 h4.1 h5.1
    · rw [hgs]
      intro i' b' _ h2 e'
      rcases hv' b' e' with q | q
      · exact o6' i' b' h2.2 h2.1 q
      · have := hlt b' ((o7' b').2 (.inr ⟨i', h2.2, h2.1⟩)); omega
    · rw [hgs]; exact fun b' => Iff.rfl
    · rw [hgs]
      intro b' hb' k hk
      rcases hb' with q | ⟨k', _, q1, q2⟩
      · rcases hv' b' q with q | q
        · exact hst b' k hk q
        · have := h.st b' k hk; omega
      · exact o8' b' ((o7' b').2 (.inr ⟨k', q2, q1⟩)) k hk
theorem Rep.grow0Ow (h : Rep E σ a w S g) {m : Nm} (hm : Fresh σ m) {z : Nat} {e t ty : TypeId} {ks : List Nm} {ys : List (List TV)} (hok : AppOk P t e z ys.length) {X : Value} {ad : Option Addr} {c : Nat} {news : List Value}
    (hX : SrcRow (σ.env w S g) z ys X ad c news) (hks : ∀ x ∈ ys.flatten, x.All (· ∈ ks)) (hkl : ∀ n ∈ ks, n.lt σ.H.length) (hq : ∀ n ∈ ks, n ≠ m) (hoS : ∀ i, m = .S i → ∀ n ∈ ks, n.isS) :
    ∃ v' w', (Builtin.append_ #[t, t] ty #[.slice none 0 0, X]).run P w = .ok v' w' ∧ v'.oneCell' = true ∧ Rep E (σ.add m (.ow z e ks ys)) a w' S (updG g m (gvOf v')) := by
  obtain ⟨i, Z, i1, i2, i3, rfl, i5⟩ := hok.info
  obtain ⟨rfl, n1, n2, n3, n4, n5⟩ := hX
  obtain ⟨v', w', r1, r2, r3, r4⟩ := append_run (P := P) (w := w) t ty e i Z hok.ht i1 i2 i3 hok.pos (.slice none 0 0) 0 [] (World.ownsRow_nil _ _ _ _) ad ys.length c news n1 n2 n3 n4.one (by simpa using i5) (by have := hok.len; omega)
  simp only [Nat.zero_add, List.nil_append] at r2
  have hgw : w.grownBy w' none := by
    rcases r4 with ⟨_, q⟩ | ⟨_, q⟩
    · exact q
    · exact q
  refine ⟨v', w', r1, own_one r2, h.newOw hm hgw (fl := news) ?_ n5 n4 hks hkl hq hoS⟩
  refine ⟨r2.1, r2.2.imp id ?_⟩
  rintro ⟨gb, cap, cur, e1, e2, e3⟩
  refine ⟨gb, cap, cur, e1, ?_, e3⟩
  rcases r4 with ⟨q, _⟩ | ⟨q, _⟩
  · rw [e1] at q; cases q
  · rw [e1] at q; cases q; exact Nat.le_refl _
end Go.Proofs.YtglkkbgflnpjeaaGreatDoor.En
end
section
namespace Go.Proofs.YtglkkbgflnpjeaaGreatDoor.En
set_option linter.unusedVariables false
set_option linter.unusedSimpArgs false
open Go Go.RowKit Go.Proofs.YtglkkbgflnpjeaaGreatDoor.PA
def hln (H : List AObj) : Nm → Option Nat
  | .S i => (H[i]?).bind AObj.ln
  | .L _ => none
def henv (H : List AObj) (w : World) (S : Nat → Nat → Prop) (g : Nm → GV) : Env := ⟨w, S, g, hln H, H.length⟩
structure HRep (G : Nat → Option PV) (H : List AObj) (w : World) (S : Nat → Nat → Prop) (g : Nm → GV) : Prop where
  ob : ∀ (i : Nat) o, H[i]? = some o → ORep (henv H w S g) (.S i) o
  dj : ∀ i j, i ≠ j → i < H.length → j < H.length → ∀ b, (g (.S i)).B b → ¬ (g (.S j)).B b
  st : ∀ b k, S b k → b < w.heap.size
  hs : ∀ (i : Nat) (o : AObj), H[i]? = some o → o.All Nm.isS
  gl : ∀ i y, G i = some y → ∃ u, S i 0 ∧ w.cell? ⟨i, 0, none⟩ = some u ∧ u.oneCell' = true ∧ PRep w S y u
def callable (P : Program) (f : FuncId) : Bool := match P.funcs[f]? with
  | some fn => fn.body.isSome && !(fn.name == "runtime.NumGoroutine")
  | none => false
def Post (G : Nat → Option PV) (H : List AObj) (w : World) (S : Nat → Nat → Prop) (g : Nm → GV) (R : TV → List AObj → Prop) (e : Ending) (w' : World) : Prop :=
  ∃ r H' v S' g', e = .returned v ∧ R r H' ∧ r.All Nm.isS ∧ TRep (henv H' w' S' g') r v ∧ HRep G H' w' S' g' ∧ Evol w S g H.length w' S' g' H'.length ∧ ∀ i, i < H.length → NmOk (henv H w S g) (henv H' w' S' g') (.S i)
def FC (P : Program) (G : Nat → Option PV) (f : FuncId) (args : List TV) (H : List AObj) (R : TV → List AObj → Prop) : Prop :=
  callable P f = true ∧ ∀ w S g (V : List Value), HRep G H w S g → V.length = args.length → (∀ (k : Nat) x v, args[k]? = some x → V[k]? = some v → TRep (henv H w S g) x v) → Calls P f V.toArray w (Post G H w S g R)
def PF (P : Program) (G : Nat → Option PV) (f : FuncId) (xs : List PV) (r : TV) : Prop := r.All (fun _ => False) ∧ FC P G f (xs.map .p) [] (fun r' _ => r' = r)
theorem FC.mono {P : Program} {G : Nat → Option PV} {f : FuncId} {args : List TV} {H : List AObj} {R R' : TV → List AObj → Prop} (h : FC P G f args H R) (hR : ∀ r H', R r H' → R' r H') : FC P G f args H R' :=
  ⟨h.1, fun w S g V h1 h2 h3 => (h.2 w S g V h1 h2 h3).mono fun e w' ⟨r, H', v, S', g', q1, q2, q3⟩ => ⟨r, H', v, S', g', q1, hR _ _ q2, q3⟩⟩
theorem TRep.move' {Γ Γ' : Env} (hw : Γ'.w = Γ.w) (hS : Γ'.S = Γ.S) {v : TV} {V : Value} (h : TRep Γ v V) (hv : v.All (fun _ => False)) : TRep Γ' v V := by
  induction h with
  | p h => exact .p (by rw [hw, hS]; exact h)
  | u => exact .u
  | nil => exact .nil
  | ag hs h h1 ih => cases hv with | ag hq => exact .ag hs (fun k y u hy hu => ih k y u hy hu (hq y (List.mem_of_getElem? hy))) h1
  | tp hs h ih => cases hv with | tp hq => exact .tp hs (fun k y u hy hu => ih k y u hy hu (hq y (List.mem_of_getElem? hy)))
  | ptr hn h => cases hv with | ptr hq => exact hq.elim
  | pe U h => exact .pe U (by rw [hw, hS]; exact h)
  | vw hn h1 h => cases hv with | vw hq => exact hq.elim
  | ip hn h => cases hv with | ip hq => exact hq.elim
  | sl hn hc h => cases hv with | sl hq => exact hq.elim
  | mp hn h => cases hv with | mp hq => exact hq.elim
  | fn hs h ih => cases hv with | fn hq => exact .fn hs (fun k y u hy hu => ih k y u hy hu (hq y (List.mem_of_getElem? hy)))
  | bf hs h ih => cases hv with | bf hq => exact .bf hs (fun k y u hy hu => ih k y u hy hu (hq y (List.mem_of_getElem? hy)))
variable {P : Program} {E : Ent} {σ : St} {a : Act} {w : World} {S : Nat → Nat → Prop} {g : Nm → GV}
theorem env_S (σ : St) (w : World) (S : Nat → Nat → Prop) (g : Nm → GV) (i : Nat) : NmOk (σ.env w S g) (henv σ.H w S g) (.S i) ∧ NmOk (henv σ.H w S g) (σ.env w S g) (.S i) := ⟨.inl ⟨rfl, .inr rfl⟩, .inl ⟨rfl, .inr rfl⟩⟩
theorem to_henv {v : TV} {V : Value} (h : TRep (σ.env w S g) v V) (hv : v.All Nm.isS) : TRep (henv σ.H w S g) v V :=
  h.move (Γ' := henv σ.H w S g) (q := Nm.isS) (by exact fun b i hb => ⟨hb, rfl⟩) (by exact Nat.le_refl _) (fun n _ hn => by cases n with | L t => exact hn.elim | S i => exact (env_S σ w S g i).1) hv
theorem Rep.heap (h : Rep E σ a w S g) : HRep σ.G σ.H w S g where
  ob := fun i o ho => (h.ob (.S i) o ho).move (Γ' := henv σ.H w S g) (q := Nm.isS) (by exact fun b i hb => ⟨hb, rfl⟩) (by exact Nat.le_refl _) (fun n _ hn => by cases n with | L t => exact hn.elim | S i => exact (env_S σ w S g i).1) (h.hs i o ho) rfl (fun b e => ⟨rfl, fun k hk => hk⟩)
  dj := fun i j hij hi hj => h.dj (.S i) (.S j) (fun e => hij (by cases e; rfl)) (by show (σ.H[i]?).isSome = true; simp [hi]) (by show (σ.H[j]?).isSome = true; simp [hj])
  st := h.st
  hs := h.hs
  gl := h.gl
def mixG (g g' : Nm → GV) : Nm → GV
  | .L t => g (.L t)
  | .S i => g' (.S i)
theorem Rep.callH (h : Rep E σ a w S g) {H' : List AObj} {w' : World} {S' : Nat → Nat → Prop} {g' : Nm → GV} (hh : HRep σ.G H' w' S' g') (he : Evol w S g σ.H.length w' S' g' H'.length)
    (hn : ∀ i, i < σ.H.length → NmOk (henv σ.H w S g) (henv H' w' S' g') (.S i)) :
    Rep E { σ with H := H' } a w' S' (mixG g g') ∧ ∀ r v, TRep (henv H' w' S' g') r v → r.All Nm.isS → TRep (({ σ with H := H' } : St).env w' S' (mixG g g')) r v := by
  have hmv : ∀ n, n.lt σ.H.length → NmOk (σ.env w S g) (({ σ with H := H' } : St).env w' S' (mixG g g')) n := by
    intro n hnl
    cases n with
    | L t => exact .inl ⟨rfl, .inr rfl⟩
    | S i =>
      have h1 := hn i hnl
      exact h1
  have hmvS : ∀ n, n.lt H'.length → n.isS → NmOk (henv H' w' S' g') (({ σ with H := H' } : St).env w' S' (mixG g g')) n := by
    intro n _ hs
    cases n with
    | L t => exact hs.elim
    | S i => exact .inl ⟨rfl, .inr rfl⟩
  have hAll : ∀ v : TV, v.All (fun _ => True) := by
    intro v
    exact TV.rec (motive_1 := fun v => v.All (fun _ => True)) (motive_2 := fun l => ∀ x ∈ l, TV.All (fun _ => True) x) (fun _ => .p) (fun _ => .o) (fun _ _ _ _ _ => .ip trivial) .u .nil (fun _ h => .ag h) (fun _ h => .tp h) (fun _ _ => .ptr trivial) (fun _ => .pe) (fun _ _ => .vw trivial) (fun _ _ => .sl trivial) (fun _ => .mp trivial) (fun _ _ h => .fn h) (fun _ _ h => .bf h) (fun x hx => by cases hx) (fun _ _ h1 h2 x hx => by cases hx with | head => exact h1 | tail _ q => exact h2 x q) v
  have hoAll : ∀ o : AObj, o.All (fun _ => True) := by
    intro o
    cases o with
    | box t l => exact fun x _ => hAll x
    | rw => trivial
    | mp => trivial
    | ow z t ks xs => exact fun _ _ => trivial
    | gone => trivial
  have hLb : ∀ t, (σ.lm t).isSome → ∀ b, (g (.L t)).B b → b < w.heap.size ∧ (∀ i, i < σ.H.length → ¬ (g (.S i)).B b) := by
    intro t ht b hb
    obtain ⟨o, ho⟩ := Option.isSome_iff_exists.1 ht
    refine ⟨(h.ob (.L t) o ho).lt hb, fun i hi e => h.dj (.L t) (.S i) (by simp) ht (by show (σ.H[i]?).isSome = true; simp [hi]) b hb e⟩
  have hLn : ∀ t, (σ.lm t).isSome → ∀ b, (g (.L t)).B b → w'.heap[b]? = w.heap[b]? ∧ ∀ k, S' b k → S b k := by
    intro t ht b hb
    obtain ⟨h1, h2⟩ := hLb t ht b hb
    refine ⟨he.block b h1 h2, fun k hk => ?_⟩
    rcases he.new b k hk with q | q | ⟨j, q1, q2⟩
    · exact q
    · omega
    · exact absurd q2 (h2 j q1)
  refine ⟨⟨?_, h.nt, h.df, ?_, ?_, hh.st, ?_, hh.hs, ?_, hh.gl, ?_, h.eG⟩, fun r v hr hra => hr.move (Γ' := ({ σ with H := H' } : St).env w' S' (mixG g g')) (q := Nm.isS) (by exact fun b i hb => ⟨hb, rfl⟩) (by exact Nat.le_refl _) hmvS hra⟩
  · intro t
    exact (h.tm t).move (q := fun _ => True) he.stb he.n (fun n hnl _ => hmv n hnl) (hAll _)
  · intro n o ho
    cases n with
    | L t =>
      have ho' : σ.lm t = some o := ho
      exact (h.ob (.L t) o ho').move (q := fun _ => True) he.stb he.n (fun n hnl _ => hmv n hnl) (hoAll o) rfl (hLn t (by rw [ho']; rfl))
    | S i =>
      have ho' : H'[i]? = some o := ho
      exact (hh.ob i o ho').move (Γ' := ({ σ with H := H' } : St).env w' S' (mixG g g')) (q := Nm.isS) (by exact fun b i hb => ⟨hb, rfl⟩) (by exact Nat.le_refl _) hmvS (hh.hs i o ho') rfl (fun b e => ⟨rfl, fun k hk => hk⟩)
  · intro n m hne h1 h2 b e1 e2
    have cross : ∀ t i, (σ.lm t).isSome → i < H'.length → (g (.L t)).B b → (g' (.S i)).B b → False := by
      intro t i ht hi q1 q2
      obtain ⟨h3, h4⟩ := hLb t ht b q1
      rcases he.own i hi b q2 with h5 | ⟨j, h5, h6⟩
      · omega
      · exact h4 j h5 h6
    cases n with
    | L t =>
      cases m with
      | L t' => exact h.dj (.L t) (.L t') hne h1 h2 b e1 e2
      | S i =>
        have hi : i < H'.length := by
          obtain ⟨o, ho⟩ := Option.isSome_iff_exists.1 h2
          exact (List.getElem?_eq_some_iff.1 ho).1
        exact cross t i h1 hi e1 e2
    | S i =>
      have hi : i < H'.length := by
        obtain ⟨o, ho⟩ := Option.isSome_iff_exists.1 h1
        exact (List.getElem?_eq_some_iff.1 ho).1
      cases m with
      | L t' => exact cross t' i h2 hi e2 e1
      | S j =>
        have hj : j < H'.length := by
          obtain ⟨o, ho⟩ := Option.isSome_iff_exists.1 h2
          exact (List.getElem?_eq_some_iff.1 ho).1
        exact hh.dj i j (fun e => hne (by rw [e])) hi hj b e1 e2
  · exact h.lo
  · have hev := h.ev.trans he
    exact ⟨hev.os, hev.tape, hev.output, hev.size, hev.n, hev.block, hev.stb, hev.new, hev.own⟩
  · intro i hi
    exact (h.nm i hi).trans (hmv (.S i) (Nat.lt_of_lt_of_le hi h.ev.n))
theorem Rep.call0 (h : Rep E σ a w S g) {H' : List AObj} {w' : World} {S' : Nat → Nat → Prop} {g' : Nm → GV} (hst : ∀ b k, S' b k → b < w'.heap.size) (he : Evol w S g 0 w' S' g' H'.length) :
    Rep E σ a w' S' g ∧ ∀ r v, TRep (henv H' w' S' g') r v → r.All (fun _ => False) → TRep (σ.env w' S' g) r v := by
  have hmv : ∀ n, NmOk (σ.env w S g) (σ.env w' S' g) n := fun n => .inl ⟨rfl, .inr rfl⟩
  have hAll : ∀ v : TV, v.All (fun _ => True) := by
    intro v
    exact TV.rec (motive_1 := fun v => v.All (fun _ => True)) (motive_2 := fun l => ∀ x ∈ l, TV.All (fun _ => True) x) (fun _ => .p) (fun _ => .o) (fun _ _ _ _ _ => .ip trivial) .u .nil (fun _ h => .ag h) (fun _ h => .tp h) (fun _ _ => .ptr trivial) (fun _ => .pe) (fun _ _ => .vw trivial) (fun _ _ => .sl trivial) (fun _ => .mp trivial) (fun _ _ h => .fn h) (fun _ _ h => .bf h) (fun x hx => by cases hx) (fun _ _ h1 h2 x hx => by cases hx with | head => exact h1 | tail _ q => exact h2 x q) v
  have hoAll : ∀ o : AObj, o.All (fun _ => True) := by
    intro o
    cases o with
    | box t l => exact fun x _ => hAll x
    | rw => trivial
    | mp => trivial
    | ow z t ks xs => exact fun _ _ => trivial
    | gone => trivial
  have hnew : ∀ b k, S' b k → S b k ∨ w.heap.size ≤ b := by
    intro b k hk
    rcases he.new b k hk with q | q | ⟨j, q1, q2⟩
    · exact .inl q
    · exact .inr q
    · exact absurd q1 (Nat.not_lt_zero _)
  have hblk : ∀ b, b < w.heap.size → w'.heap[b]? = w.heap[b]? := fun b hb => he.block b hb (fun i hi => absurd hi (Nat.not_lt_zero _))
  refine ⟨⟨?_, h.nt, h.df, ?_, h.dj, hst, h.lo, h.hs, ?_, ?_, ?_, h.eG⟩, fun r v hr hra => ?_⟩
  · intro t
    exact (h.tm t).move (Γ' := σ.env w' S' g) (q := fun _ => True) he.stb (by exact Nat.le_refl _) (fun n _ _ => hmv n) (hAll _)
  · intro n o ho
    refine (h.ob n o ho).move (Γ' := σ.env w' S' g) (q := fun _ => True) he.stb (by exact Nat.le_refl _) (fun n _ _ => hmv n) (hoAll o) rfl (fun b e => ?_)
    have hlt := (h.ob n o ho).lt e
    refine ⟨hblk b hlt, fun k hk => ?_⟩
    rcases hnew b k hk with q | q
    · exact q
    · have hlt' : b < w.heap.size := hlt
      omega
  · refine h.ev.trans ⟨he.os, he.tape, he.output, he.size, Nat.le_refl _, fun b hb _ => hblk b hb, he.stb, fun b k hk => (hnew b k hk).imp id .inl, fun i hi b e => .inr ⟨i, hi, e⟩⟩
  · intro i y hy
    obtain ⟨u, h1, h2, h3, h4⟩ := h.gl i y hy
    obtain ⟨h5, h6⟩ := he.stb _ _ h1
    exact ⟨u, h5, h6.trans h2, h3, h4.move he.stb⟩
  · intro i hi
    exact (h.nm i hi).trans (hmv (.S i))
  · exact TRep.move' (Γ := henv H' w' S' g') (Γ' := σ.env w' S' g) rfl rfl hr hra
end Go.Proofs.YtglkkbgflnpjeaaGreatDoor.En
end
section
namespace Go.Proofs.YtglkkbgflnpjeaaGreatDoor.En
set_option linter.unusedVariables false
set_option linter.unusedSimpArgs false
open Go Go.RowKit Go.Proofs.YtglkkbgflnpjeaaGreatDoor.PA
def nameOf (σ : St) (d : Nat) : Nm := match σ.md d with
  | 0 => .L d
  | _ + 1 => .S σ.H.length
def HSh (H : List AObj) : Prop := ∀ (i : Nat) (o : AObj), H[i]? = some o → o.All Nm.isS
def mayNew (o : Oper) : Bool := match o.op with
  | .alloc _ | .box _ _ | .buildSlice _ _ _ | .makeMap _ _ | .makeSlice _ _ _ => true
  | .call c => match c.callee with
    | .builtin .append => true
    | _ => false
  | _ => false
def RelV (ob : Nm → Option AObj) (v x : TV) : Prop := x = v ∨ ∃ y, ToPV ob v y ∧ x = .p y
def RelVs (ob : Nm → Option AObj) (vs xs : List TV) : Prop := xs.length = vs.length ∧ ∀ (k : Nat) v x, vs[k]? = some v → xs[k]? = some x → RelV ob v x
theorem inv2 (r : Value) (A : Array Value) : (#[r] ++ A).extract 1 (#[r] ++ A).size = A := by
  apply Array.ext'
  simp
theorem inv3 (r : Value) (A : Array Operand) (f : Operand → Value) : (#[r] ++ A.map f) = (r :: A.toList.map f).toArray := by
  apply Array.ext'
  simp
theorem inv4 (P : Program) (W : World) (r : Value) (A : Array Value) (m : String) (c : Array Value) : (invoke (.fn (.method m) c) (#[r] ++ A)).run P W = (callMethod r m A).run P W := by
  have h1 : (#[r] ++ A)[0]? = some r := by rw [Array.getElem?_append]; simp
  simp only [invoke, h1, inv2]
def MethOk (P : Program) (t : TypeId) (m : String) (f : FuncId) : Prop := ∀ (u : Value) (args : Array Value) (W : World), (callMethod (.iface t u) m args).run P W = (callFunc f (#[u] ++ args)).run P W
inductive OStep (P : Program) (hb : Bool) (o : Oper) (σ : St) (K : St → Prop) : Prop
  | rv (v : TV) (h : RV P σ.ob σ.ev v o.op) (k : K (σ.put o.dst v))
  | alloc (t d : Nat) (z : List Value) (ho : o.op = .alloc t) (hd : o.dst = some d) (hz : zer P t = some z) (h1 : ∀ u ∈ z, u.oneCell' = true) (hf : Fresh σ (nameOf σ d)) (k : K ((σ.add (nameOf σ d) (.box t (z.map cv))).put (some d) (.ptr (nameOf σ d) 0)))
  | box (t d : Nat) (x : Operand) (ho : o.op = .box t x) (hd : o.dst = some d) (hc : hasCells (σ.ev x)) (hf : Fresh σ (nameOf σ d)) (hS : ∀ i, nameOf σ d = .S i → ∀ c ∈ tcells (σ.ev x), c.All Nm.isS) (k : K ((σ.add (nameOf σ d) (.box t (tcells (σ.ev x)))).put (some d) (.ptr (nameOf σ d) 0)))
  | row (t d len : Nat) (parts : Array (Nat × Operand)) (e z : Nat) (b : Bool) (xs : List PV) (ho : o.op = .buildSlice t len parts) (hd : o.dst = some d) (ht : P.underlying t = some (.slice e)) (hl : lay P e = some (b, z)) (hzz : zer P e ≠ none) (hz0 : 0 < z) (hn : len * z ≤ 16777216)
      (hi : parts.toList.map (·.1) = List.range len) (hx : xs.length = len) (hp : ∀ (k : Nat) q x, parts.toList[k]? = some q → xs[k]? = some x → ToPV σ.ob (σ.ev q.2) x) (hc : ∀ x ∈ xs, x.cells.length = z)
      (hf : Fresh σ (nameOf σ d)) (k : K ((σ.add (nameOf σ d) (.rw z e xs)).put (some d) (.vw (nameOf σ d) len)))
  | mkmap (t d : Nat) (ho : o.op = .makeMap t none) (hd : o.dst = some d) (hf : Fresh σ (nameOf σ d)) (k : K ((σ.add (nameOf σ d) (.mp [])).put (some d) (.mp (nameOf σ d))))
  | store (t : Nat) (x y : Operand) (n : Nm) (off t' sz : Nat) (b : Bool) (l : List TV) (ho : o.op = .store t x y) (hx : σ.ev x = .ptr n off) (hn : σ.ob n = some (.box t' l)) (hl : lay P t = some (b, sz)) (hy : hasCells (σ.ev y)) (hk : (tcells (σ.ev y)).length = sz) (hoff : off + sz ≤ l.length)
      (hS : ∀ i, n = .S i → ∀ c ∈ tcells (σ.ev y), c.All Nm.isS) (k : K ((σ.set n (.box t' (splice l off (tcells (σ.ev y))))).put o.dst .u))
  | app (s x : Operand) (t e z : Nat) (n : Nm) (len : Nat) (xs ys : List PV) (ho : o.op = .call { callee := .builtin .append, args := #[s, x], argTypes := #[t, t] }) (hs : σ.ev s = .vw n len) (hn : σ.ob n = some (.rw z e xs)) (hlen : xs.length = len) (hx : RowOf σ.ob (σ.ev x) z ys)
      (hok : AppOk P t e z (xs.length + ys.length)) (k : K ((σ.set n (.rw z e (xs ++ ys))).put o.dst (.vw n (xs.length + ys.length))))
  | app0 (s x : Operand) (t d e z : Nat) (ys : List PV) (ho : o.op = .call { callee := .builtin .append, args := #[s, x], argTypes := #[t, t] }) (hd : o.dst = some d) (hs : σ.ev s = .nil) (hx : RowOf σ.ob (σ.ev x) z ys) (hok : AppOk P t e z ys.length)
      (hf : Fresh σ (nameOf σ d)) (k : K ((σ.add (nameOf σ d) (.rw z e ys)).put (some d) (.vw (nameOf σ d) ys.length)))
  | mput (t : Nat) (m x y : Operand) (n : Nm) (kt e : Nat) (es : List (ByteArray × PV)) (s : ByteArray) (v : PV) (ho : o.op = .mapUpdate t m x y) (hm : σ.ev m = .mp n) (hn : σ.ob n = some (.mp es)) (ht : P.underlying t = some (.map kt e)) (hk : P.underlying kt = some .string)
      (hx : σ.ev x = .p (.c (.string s))) (hy : ToPV σ.ob (σ.ev y) v) (k : K ((σ.set n (.mp (pput es s v))).put o.dst .u))
  | pcall (f : FuncId) (x : Operand) (args : Array Operand) (ats : Array TypeId) (xs : List PV) (r : TV) (ho : o.op = .call { callee := .value x, args := args, argTypes := ats }) (hf : σ.ev x = .fn f []) (hl : xs.length = args.size)
      (hp : ∀ (k : Nat) q y, args.toList[k]? = some q → xs[k]? = some y → ToPV σ.ob (σ.ev q) y) (hc : PF P σ.G f xs r) (k : K (σ.put o.dst r))
  | icall (f : FuncId) (x : Operand) (m : String) (args : Array Operand) (ats : Array TypeId) (t : TypeId) (u : PV) (xs : List PV) (r : TV) (ho : o.op = .call { callee := .invoke x m, args := args, argTypes := ats }) (hf : σ.ev x = .p (.ifc t u)) (hm : MethOk P t m f) (hl : xs.length = args.size)
      (hp : ∀ (k : Nat) q y, args.toList[k]? = some q → xs[k]? = some y → ToPV σ.ob (σ.ev q) y) (hc : PF P σ.G f (u :: xs) r) (k : K (σ.put o.dst r))
  | hcall (f : FuncId) (x : Operand) (caps : List TV) (args : Array Operand) (ats : Array TypeId) (xs : List TV) (R : TV → List AObj → Prop) (ho : o.op = .call { callee := .value x, args := args, argTypes := ats }) (hf : σ.ev x = .fn f caps)
      (hp : RelVs σ.ob (args.toList.map σ.ev ++ caps) xs) (hS : ∀ x ∈ xs, x.All Nm.isS) (hc : FC P σ.G f xs σ.H R) (hne : ∃ r H', R r H' ∧ r.All Nm.isS ∧ HSh H') (hbb : hb = true) (k : ∀ r H', R r H' → r.All Nm.isS → HSh H' → K (({ σ with H := H' } : St).put o.dst r))
section
variable {P : Program} {E : Ent} {σ : St} {a : Act} {w : World} {S : Nat → Nat → Prop} {g : Nm → GV}
theorem zer_run {t : TypeId} {z : List Value} (h : zer P t = some z) : ∃ Z, (zeroValue t).run P w = .ok Z w ∧ Z.cells.toList = z ∧ ∃ i, P.info? t = some i ∧ i.zero = some Z := by
  unfold zer at h
  cases hi : P.info? t with
  | none => rw [hi] at h; cases h
  | some i =>
    rw [hi] at h
    simp only [Option.bind_some] at h
    cases hz : i.zero with
    | none => rw [hz] at h; cases h
    | some Z =>
      rw [hz] at h
      simp only [Option.map_some, Option.some.injEq] at h
      exact ⟨Z, by simp [zeroValue, typeInfo, hi, hz], h, i, rfl, hz⟩
theorem RelV.sound {Γ : Env} {ob : Nm → Option AObj} (hob : Obs Γ ob) {v x : TV} {V : Value} (h : RelV ob v x) (hv : TRep Γ v V) : TRep Γ x V := by
  rcases h with rfl | ⟨y, h1, rfl⟩
  · exact hv
  · exact .p (h1.sound hob hv)
theorem splice_len {α : Type} (c : List α) (o : Nat) (l : List α) (h : o + l.length ≤ c.length) : (splice c o l).length = c.length := by
  unfold splice
  simp only [List.length_append, List.length_take, List.length_drop]
  omega
theorem fresh_lt {m : Nm} (hm : Fresh σ m) (o : AObj) : m.lt (σ.add m o).H.length := by
  cases m with
  | L d => trivial
  | S i => obtain rfl : i = _ := hm; show σ.H.length < (σ.H ++ [o]).length; simp
theorem ob_lt {n : Nm} {o : AObj} (h : σ.ob n = some o) : n.lt σ.H.length := by
  cases n with
  | L d => trivial
  | S i => exact (List.getElem?_eq_some_iff.1 h).1
theorem callable_run {f : FuncId} (h : callable P f = true) (args : Array Value) : (callFunc f args).run P w = .ok (.enter f args) w := by
  unfold callable at h
  cases hf : P.funcs[f]? with
  | none => rw [hf] at h; cases h
  | some fn =>
    rw [hf] at h
    simp only [Bool.and_eq_true, Bool.not_eq_true'] at h
    obtain ⟨h1, h2⟩ := h
    have h3 : fn.body ≠ none := by intro e; rw [e] at h1; cases h1
    have h4 : fn.name ≠ "runtime.NumGoroutine" := by simpa using h2
    simp [callFunc, hf, h3, h4]
theorem tcells_all {q : Nm → Prop} {v : TV} (h : v.All q) : ∀ x ∈ tcells v, x.All q := by
  intro x hx
  cases v <;> try (simp only [tcells, List.mem_singleton] at hx; subst hx; exact h)
  case p pv =>
    cases pv <;> try (simp only [tcells, List.mem_singleton] at hx; subst hx; exact .p)
    case ag l =>
      simp only [tcells, List.mem_map] at hx
      obtain ⟨y, _, rfl⟩ := hx
      exact .p
  case ag l => cases h with | ag h => exact h x hx
theorem cv_all {q : Nm → Prop} (u : Value) : (cv u).All q := by
  unfold cv; split
  · exact .nil
  · split
    · exact .p
    · exact .u
theorem ev_fresh (h : Rep E σ a w S g) {m : Nm} (hf : Fresh σ m) (x : Operand) : (σ.ev x).All (· ≠ m) := by
  cases x with
  | tmp t => exact hf.tm h t
  | const v => exact cv_all v
  | global g => simp only [St.ev]; split; exact .pe; exact .u
  | func f => exact .fn (fun x hx => by cases hx)
theorem fill_seq {z : Nat} : ∀ (Vs : List Value) (k : Nat) (A : Array Value) (pre : List Value), (∀ V ∈ Vs, V.cells.size = z) → pre.length = k * z → A.toList.take (k * z) = pre → A.size = (k + Vs.length) * z →
    ∃ A', Instr.fill (fun i => some (i * z, z)) A ((List.range' k Vs.length).zip Vs) = some A' ∧ A'.toList = pre ++ Vs.flatMap (fun V => V.cells.toList)
  | [], k, A, pre, _, h1, h2, h3 => by
    refine ⟨A, rfl, ?_⟩
    simp only [List.length_nil, Nat.add_zero] at h3
    rw [List.take_of_length_le (by simp [h3])] at h2
    simp [h2]
  | V :: Vs, k, A, pre, hV, h1, h2, h3 => by
    have hz : V.cells.size = z := hV V (by simp)
    have hsz : k * z + z ≤ A.size := by
      rw [h3]
      have : (k + 1) * z ≤ (k + (V :: Vs).length) * z := Nat.mul_le_mul_right z (by simp)
      rw [Nat.succ_mul] at this; exact this
    have hfold : (V.cells.zipIdx.foldl (fun cs (c, j) => cs.setIfInBounds (k * z + j) c) A).toList = splice A.toList (k * z) V.cells.toList := by
      have := foldl_splice (k * z) V.cells.toList 0 A (by simp [hz]; omega)
      rw [Nat.add_zero] at this
      rw [← this, ← Array.foldl_toList, Array.toList_zipIdx]
    have hlen2 : (V.cells.zipIdx.foldl (fun cs (c, j) => cs.setIfInBounds (k * z + j) c) A).size = A.size := by
      have h := congrArg List.length hfold
      rw [splice_len _ _ _ (by simp [hz]; omega), Array.length_toList, Array.length_toList] at h
      exact h
    obtain ⟨A', q1, q2⟩ := fill_seq Vs (k + 1) (V.cells.zipIdx.foldl (fun cs (c, j) => cs.setIfInBounds (k * z + j) c) A) (pre ++ V.cells.toList) (fun U hU => hV U (by simp [hU])) (by simp [h1, hz, Nat.succ_mul])
      (by rw [hfold, Nat.succ_mul]; unfold splice; rw [h2, List.take_append_of_le_length (by simp [h1, hz]), List.take_of_length_le (by simp [h1, hz])])
      (by rw [hlen2, h3, List.length_cons]; congr 1; omega)
    refine ⟨A', ?_, by rw [q2]; simp⟩
    simp only [List.length_cons, List.range'_succ, List.zip_cons_cons, Instr.fill, hz]
    rw [if_neg (by simp; omega)]
    exact q1
theorem OStep.sound {hb : Bool} {o : Oper} {K : St → Prop} (h : Rep E σ a w S g) (hs : OStep P hb o σ K) (Q : Exit → Act → World → Prop) : o.wp P a w (fun a' w' => ∃ σ' S' g', K σ' ∧ Rep E σ' a' w' S' g') Q := by
  have hev := h.eval
  have hob := h.obs
  unfold Oper.wp
  cases hs with
  | rv v hv k =>
    obtain ⟨V, h1, h2⟩ := RV.sound h hv
    rw [h2, Oper.upon_value]
    exact ⟨_, S, g, k, h.put h1 o.dst⟩
  | alloc t d z ho hd hz h1 hf k =>
    obtain ⟨Z, z1, z2, _⟩ := zer_run (w := w) hz
    have hr : (execOp a.eval o).run P w = .ok (.value (.pointer (some ⟨w.heap.size, 0, none⟩))) (w.alloc (.cells Z.cells t)) := by
      simp [execOp, ho, Instr.alloc, z1, newVar, newRow]
    rw [hr, Oper.upon_value, hd]
    have hn := h.newBox hf (t := t) (l := z.map cv) (A := Z.cells) (by rw [z2]; exact CRep.consts h1) (fun x hx => by
      obtain ⟨u, _, rfl⟩ := List.mem_map.1 hx
      unfold cv; split
      · exact .nil
      · split
        · exact .p
        · exact .u) (fun i _ x hx => by
      obtain ⟨u, _, rfl⟩ := List.mem_map.1 hx
      unfold cv; split
      · exact .nil
      · split
        · exact .p
        · exact .u)
    exact ⟨_, _, _, k, hn.put (.ptr (fresh_lt hf _) (congrArg GV.v (updG_same _ _ _))) (some d)⟩
  | box t d x ho hd hc hf hS k =>
    have hr : (execOp a.eval o).run P w = .ok (.value (.pointer (some ⟨w.heap.size, 0, none⟩))) (w.alloc (.cells (a.eval x).cells t)) := by
      simp [execOp, ho, Instr.box, newVar, newRow]
    rw [hr, Oper.upon_value, hd]
    have hn := h.newBox hf (t := t) (l := tcells (σ.ev x)) (A := (a.eval x).cells) (tcells_rep (hev x) hc) (tcells_all (ev_fresh h hf x)) hS
    exact ⟨_, _, _, k, hn.put (.ptr (fresh_lt hf _) (congrArg GV.v (updG_same _ _ _))) (some d)⟩
  | row t d len parts e z b xs ho hd ht hl hzz hz0 hn hi hx hp hc hf k =>
    obtain ⟨zs, hzs⟩ := Option.ne_none_iff_exists'.1 hzz
    obtain ⟨Z, z1, z2, _⟩ := zer_run (w := w) hzs
    have hsz : (sizeOf e).run P w = .ok z w := lay_size hl w
    have hpl : parts.toList.length = len := by have := congrArg List.length hi; simpa using this
    have hval : ∀ (k : Nat) q x, parts.toList[k]? = some q → xs[k]? = some x → PRep w S x (a.eval q.2) := fun k q x hq hx' => (hp k q x hq hx').sound hob (hev q.2)
    have hVs : ∀ V ∈ parts.toList.map (fun q => a.eval q.2), V.cells.size = z := by
      intro V hV
      obtain ⟨q, hq, rfl⟩ := List.mem_map.1 hV
      obtain ⟨k, hk, rfl⟩ := List.mem_iff_getElem.1 hq
      have hk2 : k < xs.length := by rw [hx, ← hpl]; exact hk
      have h1 := PC.of_prep (hval k _ _ (List.getElem?_eq_getElem hk) (List.getElem?_eq_getElem hk2))
      have h2 := hc _ (List.getElem_mem hk2)
      rw [← h2, ← h1.len]; simp
    have hparts : (parts.map fun (i, x) => (i, a.eval x)).toList = (List.range' 0 (parts.toList.map (fun q => a.eval q.2)).length).zip (parts.toList.map (fun q => a.eval q.2)) := by
      rw [List.length_map, hpl, ← List.range_eq_range', ← hi, Array.toList_map, List.zip_map', ]
    obtain ⟨A', f1, f2⟩ := fill_seq (z := z) (parts.toList.map (fun q => a.eval q.2)) 0 ((Array.range (len * z)).map (fun i => (if len * z = 0 then #[] else Z.cells)[i % (if len * z = 0 then #[] else Z.cells).size]!)) [] hVs (by simp) (by simp) (by simp [hpl])
    rw [← hparts] at f1
    have hAl : A'.size = len * z := by
      have h3 := congrArg List.length f2
      simp only [List.nil_append, Array.length_toList, List.length_flatMap] at h3
      rw [h3, ← hpl]
      have : ∀ l : List (Nat × Operand), (∀ V ∈ l.map (fun q => a.eval q.2), V.cells.size = z) → ((l.map (fun q => a.eval q.2)).map (fun V => V.cells.size)).sum = l.length * z := by
        intro l
        induction l with
        | nil => intro _; simp
        | cons q l ih =>
          intro hq
          have h4 : (a.eval q.2).cells.size = z := hq _ (by simp)
          have h5 := ih (fun V hV => hq V (by simp at hV ⊢; exact .inr hV))
          simp only [List.map_cons, List.sum_cons, h5, h4, List.length_cons, Nat.succ_mul]; omega
      exact this _ hVs
    have hr : (execOp a.eval o).run P w = .ok (.value (.slice (some ⟨w.heap.size, 0, none⟩) len len)) (w.alloc (.cells A' e)) := by
      by_cases h0 : len * z = 0
      · simp [h0] at f1
        simp [execOp, ho, Instr.buildSlice, run_underlying ht, hsz, h0, f1, newRow]
      · simp [h0] at f1
        have hn' : ¬ (16777216 < len * z) := by omega
        simp [execOp, ho, Instr.buildSlice, run_underlying ht, hsz, h0, hn', z1, f1, newRow]
    rw [hr, Oper.upon_value, hd]
    have hpc : PC w S (flat xs) A'.toList := by
      rw [f2, List.nil_append]
      have : ∀ (l : List (Nat × Operand)) (xs : List PV), l.length = xs.length → (∀ (k : Nat) q x, l[k]? = some q → xs[k]? = some x → PRep w S x (a.eval q.2)) → PC w S (flat xs) ((l.map (fun q => a.eval q.2)).flatMap (fun V => V.cells.toList)) := by
        intro l
        induction l with
        | nil => intro xs hl _; cases xs with | nil => exact PC.nil _ _ | cons => simp at hl
        | cons q l ih =>
          intro xs hl hv
          cases xs with
          | nil => simp at hl
          | cons x xs =>
            rw [flat_cons]
            simp only [List.map_cons, List.flatMap_cons]
            exact (PC.of_prep (hv 0 q x rfl rfl)).append (ih xs (by simpa using hl) (fun k q' x' h1 h2 => hv (k + 1) q' x' (by simpa using h1) (by simpa using h2)))
      exact this _ _ (by rw [hpl, hx]) hval
    have hnew := h.newRow hf (z := z) (t := e) (xs := xs) (gv := .slice (some ⟨w.heap.size, 0, none⟩) len len) (w' := w.alloc (.cells A' e)) (fl := A'.toList) (World.grownBy_alloc w _ _)
      (by rw [hx]; exact World.ownsRow_lit w A' len (Nat.le_refl _) (by simp only [maxLen]; have : len ≤ len * z := Nat.le_mul_of_pos_right len hz0; omega) hAl) hc hpc
    refine ⟨_, _, _, k, hnew.put (.vw (fresh_lt hf _) rfl (fun k' hk' => ?_)) (some d)⟩
    have e' : ((σ.add (nameOf σ d) (.rw z e xs)).ob (nameOf σ d)).bind AObj.ln = some k' := hk'
    rw [add_same _ hf] at e'
    simp only [Option.bind_some, AObj.ln, Option.some.injEq] at e'
    exact ⟨by omega, fun _ => (updG_v _ _ _).symm⟩
  | mkmap t d ho hd hf k =>
    have hr : (execOp a.eval o).run P w = .ok (.value (.map (some w.heap.size))) (w.alloc (.map #[] 0)) := by
      simp [execOp, ho, Instr.makeMap]
    rw [hr, Oper.upon_value, hd]
    exact ⟨_, _, _, k, (h.newMap hf).put (.mp (fresh_lt hf _) (congrArg GV.v (updG_same _ _ _))) (some d)⟩
  | store t x y n off t' sz b l ho hx hn hl hy hk hoff hS k =>
    have hxr := hev x
    rw [hx] at hxr
    have hyr := tcells_rep (hev y) hy
    obtain ⟨bb, g1, w', r1, r2⟩ := h.setBox (P := P) hn (off := off) hyr (by rw [hk]; exact hoff) hS
    generalize hX : a.eval x = X at hxr
    cases hxr with
    | @ptr _ _ b' hnl hg =>
    have hg' : (g n).v = .pointer (some ⟨b', 0, none⟩) := hg
    rw [g1] at hg'
    cases hg'
    have hsz : (a.eval y).cells.size = sz := by rw [← hk, ← hyr.len]; simp
    have hr : (execOp a.eval o).run P w = .ok .skip w' := by
      have hs : (sizeOf t).run P w = .ok sz w := lay_size hl w
      simp [execOp, ho, Instr.storeAt, hX, Instr.sureAddr, storeVar, hs, hsz, r1]
    rw [hr, Oper.upon_skip]
    exact ⟨_, _, _, k, r2.put .u o.dst⟩
  | app s x t e z n len xs ys ho hs hn hlen hx hok k =>
    have hX := hx.sound hob (hev x)
    obtain ⟨v', w', S', r1, r2, r3⟩ := h.grow hn hok hX (ty := o.type)
    have hsv : a.eval s = (g n).v := by
      have := hev s
      rw [hs] at this
      exact vw_g hob this hn hlen
    have hr : (execOp a.eval o).run P w = .ok (.value v') w' := by
      simp [execOp, ho, resolve, invoke, builtin, hsv, r1]
    rw [hr, Oper.upon_value]
    refine ⟨_, _, _, k, r3.put (.vw ?_ r2 (fun k' hk' => ?_)) o.dst⟩
    · show n.lt (σ.set n _).H.length
      rw [set_H]; exact ob_lt hn
    · have e : ((σ.set n (.rw z e (xs ++ ys))).ob n).bind AObj.ln = some k' := hk'
      rw [set_same _ hn] at e
      simp only [Option.bind_some, AObj.ln, List.length_append, Option.some.injEq] at e
      exact ⟨Nat.le_of_eq e, fun _ => (updG_v _ _ _).symm⟩
  | app0 s x t d e z ys ho hd hs hx hok hf k =>
    have hX := hx.sound hob (hev x)
    obtain ⟨v', w', S', r1, r2, r3⟩ := h.grow0 hf hok hX (ty := o.type)
    have hsv : a.eval s = .slice none 0 0 := by
      have h0 := hev s
      rw [hs] at h0
      generalize a.eval s = X at h0
      cases h0; rfl
    have hr : (execOp a.eval o).run P w = .ok (.value v') w' := by
      simp [execOp, ho, resolve, invoke, builtin, hsv, r1]
    rw [hr, Oper.upon_value, hd]
    refine ⟨_, _, _, k, r3.put (.vw (fresh_lt hf _) r2 (fun k' hk' => ?_)) (some d)⟩
    have e' : ((σ.add (nameOf σ d) (.rw z e ys)).ob (nameOf σ d)).bind AObj.ln = some k' := hk'
    rw [add_same _ hf] at e'
    simp only [Option.bind_some, AObj.ln, Option.some.injEq] at e'
    exact ⟨Nat.le_of_eq e', fun _ => (updG_v _ _ _).symm⟩
  | mput t m x y n kt e es s v ho hm hn ht hk hx hy k =>
    have hY := hy.sound hob (hev y)
    obtain ⟨b, g1, w', r1, r2⟩ := h.setMap hn ht hk s hY
    have h0 := hev m
    rw [hm] at h0
    have h1 := hev x
    rw [hx] at h1
    generalize hM : a.eval m = M at h0
    generalize hXX : a.eval x = X at h1
    cases h0 with
    | @mp _ b' hnl hg =>
    cases h1 with | p h1 =>
    cases h1
    have hg' : (g n).v = .map (some b') := hg
    rw [g1] at hg'
    cases hg'
    have hr : (execOp a.eval o).run P w = .ok .skip w' := by
      simp [execOp, ho, hM, hXX, r1]
    rw [hr, Oper.upon_skip]
    exact ⟨_, _, _, k, r2.put .u o.dst⟩
  | pcall f x args ats xs r ho hf hl hp hc k =>
    have hx := hev x
    rw [hf] at hx
    generalize hX : a.eval x = X at hx
    cases hx with
    | @fn _ _ A hs hA =>
    have hA0 : A = [] := List.length_eq_zero_iff.1 (by simpa using hs)
    subst hA0
    have hr : (execOp a.eval o).run P w = .ok (.enter f (args.toList.map a.eval).toArray) w := by
      simp [execOp, ho, resolve, hX, Deferred.ofValue, invoke, callable_run hc.2.1, ← Array.toList_map]
    rw [hr, Oper.upon_enter]
    refine (hc.2.2 w S g (args.toList.map a.eval) ⟨fun i o ho => by simp at ho, fun i j _ hi => by simp at hi, h.st, fun i o ho => by simp at ho, h.gl⟩ (by simp [hl]) (fun k y V hy hV => ?_)).mono ?_
    · rw [List.getElem?_map] at hy hV
      cases hk : xs[k]? with
      | none => rw [hk] at hy; cases hy
      | some pv =>
        cases hk2 : args.toList[k]? with
        | none => rw [hk2] at hV; cases hV
        | some q =>
          rw [hk] at hy; rw [hk2] at hV
          cases hy; cases hV
          exact .p ((hp k q pv hk2 hk).sound hob (hev q))
    · rintro e w' ⟨r', H', v, S', g', rfl, rfl, _, h2, h3, h4, _⟩
      obtain ⟨q1, q2⟩ := h.call0 h3.st h4
      exact ⟨_, _, _, k, q1.put (q2 _ _ h2 hc.1) o.dst⟩
  | icall f x m args ats t u xs r ho hf hm hl hp hc k =>
    have hx := hev x
    rw [hf] at hx
    generalize hX : a.eval x = X at hx
    cases hx with | p hx =>
    cases hx with
    | @ifc _ _ U hU =>
    have hr : (execOp a.eval o).run P w = .ok (.enter f (U :: args.toList.map a.eval).toArray) w := by
      have h1 := hm U (args.map a.eval) w
      rw [callable_run hc.2.1] at h1
      rw [inv3] at h1
      have h2 : (execOp a.eval o).run P w = (invoke (.fn (.method m) #[]) (#[a.eval x] ++ args.map a.eval)).run P w := by simp [execOp, ho, resolve]
      rw [hX, inv4] at h2
      rw [h2]; exact h1
    rw [hr, Oper.upon_enter]
    refine (hc.2.2 w S g (U :: args.toList.map a.eval) ⟨fun i o ho => by simp at ho, fun i j _ hi => by simp at hi, h.st, fun i o ho => by simp at ho, h.gl⟩ (by simp [hl]) (fun k y V hy hV => ?_)).mono ?_
    · cases k with
      | zero =>
        simp at hy hV
        subst hy
        subst hV
        exact .p hU
      | succ k =>
        rw [List.map_cons, List.getElem?_cons_succ] at hy
        rw [List.getElem?_cons_succ] at hV
        rw [List.getElem?_map] at hy hV
        cases hk : xs[k]? with
        | none => rw [hk] at hy; cases hy
        | some pv =>
          cases hk2 : args.toList[k]? with
          | none => rw [hk2] at hV; cases hV
          | some q =>
            rw [hk] at hy; rw [hk2] at hV
            cases hy; cases hV
            exact .p ((hp k q pv hk2 hk).sound hob (hev q))
    · rintro e w' ⟨r', H', v, S', g', rfl, rfl, _, h2, h3, h4, _⟩
      obtain ⟨q1, q2⟩ := h.call0 h3.st h4
      exact ⟨_, _, _, k, q1.put (q2 _ _ h2 hc.1) o.dst⟩
  | hcall f x caps args ats xs R ho hf hp hS hc hne hbb k =>
    have hx := hev x
    rw [hf] at hx
    generalize hX : a.eval x = X at hx
    cases hx with
    | @fn _ _ A hs hA =>
    have hr : (execOp a.eval o).run P w = .ok (.enter f (args.toList.map a.eval ++ A).toArray) w := by
      simp [execOp, ho, resolve, hX, Deferred.ofValue, invoke, callable_run hc.1, ← Array.toList_map]
    rw [hr, Oper.upon_enter]
    have hargs : ∀ (k : Nat) v V, (args.toList.map σ.ev ++ caps)[k]? = some v → (args.toList.map a.eval ++ A)[k]? = some V → TRep (σ.env w S g) v V := by
      intro k v V h1 h2
      by_cases hk : k < args.toList.length
      · rw [List.getElem?_append_left (by simpa using hk), List.getElem?_map] at h1 h2
        rw [List.getElem?_eq_getElem hk] at h1 h2
        cases h1; cases h2
        exact hev _
      · rw [List.getElem?_append_right (by simp at hk ⊢; omega)] at h1 h2
        simp only [List.length_map] at h1 h2
        exact hA _ v V h1 h2
    refine (hc.2 w S g (args.toList.map a.eval ++ A) h.heap (by rw [hp.1]; simp [hs]) (fun k y V hy hV => ?_)).mono ?_
    · have hk : k < (args.toList.map σ.ev ++ caps).length := by rw [← hp.1]; exact (List.getElem?_eq_some_iff.1 hy).1
      have h1 := (hp.2 k _ y (List.getElem?_eq_getElem hk) hy).sound hob (hargs k _ V (List.getElem?_eq_getElem hk) hV)
      exact to_henv h1 (hS y (List.mem_of_getElem? hy))
    · rintro e w' ⟨r', H', v, S', g', rfl, h1, h2, h3, h4, h5, h6⟩
      obtain ⟨q1, q2⟩ := h.callH h4 h5 h6
      exact ⟨_, _, _, k r' H' h1 h2 h4.hs, q1.put (q2 _ _ h3 h2) o.dst⟩
end
end Go.Proofs.YtglkkbgflnpjeaaGreatDoor.En
end
section
namespace Go.Proofs.YtglkkbgflnpjeaaGreatDoor.En
set_option linter.unusedVariables false
set_option linter.unusedSimpArgs false
open Go Go.RowKit Go.Proofs.YtglkkbgflnpjeaaGreatDoor.PA
variable {P : Program}
theorem Bnd_ev {ev ev' : Operand → TV} {x : Option Operand} {d n : Nat} (h : ∀ y, x = some y → ev y = ev' y) (hb : Bnd ev x d n) : Bnd ev' x d n := by
  cases x with
  | none => exact hb
  | some y => obtain ⟨k, m, h1, h2⟩ := hb; exact ⟨k, m, (h y rfl) ▸ h1, h2⟩
theorem RV_ev {ob : Nm → Option AObj} {ev ev' : Operand → TV} {v : TV} {op : Op} (h : ∀ x ∈ op.operands.toList, ev x = ev' x) (hv : RV P ob ev v op) : RV P ob ev' v op := by
  unfold RV at hv
  split at hv
  case h_1 x => rw [h x (by simp [Op.operands])] at hv; exact hv
  case h_2 x => rw [h x (by simp [Op.operands])] at hv; exact hv
  case h_3 c x y => rw [h c (by simp [Op.operands]), h x (by simp [Op.operands]), h y (by simp [Op.operands])] at hv; exact hv
  case h_4 t x => rw [h x (by simp [Op.operands])] at hv; exact hv
  case h_5 x => rw [h x (by simp [Op.operands])] at hv; exact hv
  case h_6 op t x y ty => rw [h x (by simp [Op.operands]), h y (by simp [Op.operands])] at hv; exact hv
  case h_7 op t x => rw [h x (by simp [Op.operands])] at hv; exact hv
  case h_8 t x => rw [h x (by simp [Op.operands])] at hv; exact hv
  case h_9 f first caps =>
    refine ⟨hv.1, hv.2.trans ?_⟩
    congr 1
    exact List.map_congr_left (fun x hx => h x (by simp [Op.operands]; exact .inr (by simpa using hx)))
  case h_10 s x f => rw [h x (by simp [Op.operands])] at hv; exact hv
  case h_11 s x f => rw [h x (by simp [Op.operands])] at hv; exact hv
  case h_12 t x i => rw [h x (by simp [Op.operands]), h i (by simp [Op.operands])] at hv; exact hv
  case h_13 t x i => rw [h x (by simp [Op.operands]), h i (by simp [Op.operands])] at hv; exact hv
  case h_14 x i => rw [h x (by simp [Op.operands])] at hv; exact hv
  case h_15 t x lo hi =>
    rw [h x (by simp [Op.operands])] at hv
    have hl : ∀ y, lo = some y → ev y = ev' y := fun y e => h y (by subst e; simp [Op.operands])
    have hh : ∀ y, hi = some y → ev y = ev' y := fun y e => h y (by subst e; simp [Op.operands])
    rcases hv with ⟨s, l, q, h1, h2, h3, h4, h5⟩ | ⟨z, xs, e, b, l, q, h0, h1, h2, h3, h4, h5⟩
    · exact .inl ⟨s, l, q, h1, h2, Bnd_ev hl h3, Bnd_ev hh h4, h5⟩
    · exact .inr ⟨z, xs, e, b, l, q, h0, h1, h2, Bnd_ev hl h3, Bnd_ev hh h4, h5⟩
  case h_16 s d x => rw [h x (by simp [Op.operands])] at hv; exact hv
  case h_17 t parts =>
    obtain ⟨places, z, r, h1, h2, h3, h4, h5⟩ := hv
    refine ⟨places, z, r, h1, h2, h3, ?_, h5⟩
    have : parts.toList.map (fun p => (p.1, ev p.2)) = parts.toList.map (fun p => (p.1, ev' p.2)) := List.map_congr_left (fun p hp => by rw [h p.2 (by simp only [Op.operands, List.mem_map]; exact ⟨p, hp, rfl⟩)])
    rw [← this]; exact h4
  case h_18 x xt t ok => rw [h x (by simp [Op.operands])] at hv; exact hv
  case h_19 t x i ok => rw [h x (by simp [Op.operands]), h i (by simp [Op.operands])] at hv; exact hv
  case h_20 args ats =>
    obtain ⟨x, t, rfl, rfl, h1, h2⟩ := hv
    rw [h x (by simp [Op.operands, Call.operands])] at h1 h2
    exact ⟨x, t, rfl, rfl, h1, h2⟩
  case h_21 => exact hv.elim
def ObLe (q : Nm → Prop) (ob ob' : Nm → Option AObj) : Prop := ∀ n o, q n → ob n = some o → ob' n = some o
theorem ToPV_le {q : Nm → Prop} {ob ob' : Nm → Option AObj} (hl : ObLe q ob ob') {x : TV} {y : PV} (h : ToPV ob x y) : x.All q → ToPV ob' x y := by
  induction h with
  | p => intro _; exact .p
  | nl => intro _; exact .nl
  | vw h hlen => intro hq; cases hq with | vw hq => exact .vw (hl _ _ hq h) hlen
  | ag hs h ih => intro hq; cases hq with | ag hq => exact .ag hs (fun k x y hx hy => ih k x y hx hy (hq x (List.mem_of_getElem? hx)))
theorem RowOf_le {q : Nm → Prop} {ob ob' : Nm → Option AObj} (hl : ObLe q ob ob') {x : TV} {z : Nat} {xs : List PV} (h : RowOf ob x z xs) (hq : x.All q) : RowOf ob' x z xs := by
  cases x <;> try exact h.elim
  case p v => cases v <;> first | exact h.elim | exact h
  case nil => exact h
  case vw n len =>
    cases hq with | vw hq =>
    simp only [RowOf] at h ⊢
    cases ho : ob n with
    | none => rw [ho] at h; exact h.elim
    | some o => rw [ho] at h; rw [hl n o hq ho]; exact h
theorem RV_ob {q : Nm → Prop} {ob ob' : Nm → Option AObj} (hl : ObLe q ob ob') {ev : Operand → TV} {v : TV} {op : Op} (hq : ∀ x, (ev x).All q) (hv : RV P ob ev v op) : RV P ob' ev v op := by
  unfold RV at hv
  split at hv <;> try exact hv
  case h_4 t x =>
    have hx := hq x
    show LoadV P ob' t (ev x) v
    generalize ev x = X at hv hx
    cases X <;> try exact hv
    case ptr n off =>
      cases hx with | ptr hx =>
      simp only [LoadV] at hv ⊢
      cases ho : ob n with
      | none => rw [ho] at hv; exact hv.elim
      | some o => rw [ho] at hv; rw [hl n o hx ho]; exact hv
    case ip n len z i off =>
      cases hx with | ip hx =>
      simp only [LoadV] at hv ⊢
      cases ho : ob n with
      | none => rw [ho] at hv; exact hv.elim
      | some o => rw [ho] at hv; rw [hl n o hx ho]; exact hv
  case h_8 t x =>
    obtain ⟨h1, y, h2, h3⟩ := hv
    exact ⟨h1, y, ToPV_le hl h2 (hq x), h3⟩
  case h_12 t x i =>
    rcases hv with ⟨z, xs, e, b, k, n, y, h1, h2⟩ | h | ⟨m, len, e, b, z, k, n, t', ks, xs, h1, h2, h3⟩
    · exact .inl ⟨z, xs, e, b, k, n, y, RowOf_le hl h1 (hq x), h2⟩
    · exact .inr (.inl h)
    · have hx := hq x
      rw [h1] at hx
      cases hx with | vw hx =>
      exact .inr (.inr ⟨m, len, e, b, z, k, n, t', ks, xs, h1, hl m _ hx h2, h3⟩)
  case h_15 t x lo hi =>
    rcases hv with h | ⟨z, xs, e, b, l, r, h0, h1⟩
    · exact .inl h
    · exact .inr ⟨z, xs, e, b, l, r, RowOf_le hl h0 (hq x), h1⟩
  case h_19 t x i ok =>
    have hx := hq x
    show LookV P ob' t (ev i) ok (ev x) v
    generalize ev x = X at hv hx
    cases X <;> try exact hv
    case mp n =>
      cases hx with | mp hx =>
      simp only [LookV] at hv ⊢
      cases ho : ob n with
      | none => rw [ho] at hv; exact hv.elim
      | some o => rw [ho] at hv; rw [hl n o hx ho]; exact hv
  case h_20 args ats =>
    obtain ⟨x, t, rfl, rfl, h1, h2⟩ := hv
    refine ⟨x, t, rfl, rfl, ?_, h2⟩
    have hx := hq x
    clear h2
    generalize ev x = X at h1 hx
    cases X <;> try exact h1
    case vw n len =>
      cases hx with | vw hx =>
      simp only [LenV] at h1 ⊢
      cases ho : ob n with
      | none => rw [ho] at h1; exact h1.elim
      | some o => rw [ho] at h1; rw [hl n o hx ho]; exact h1
    case p pv => cases pv <;> first | exact h1 | (rename_i c; cases c <;> exact h1)
  case h_21 => exact hv.elim
def inert : Op → Bool
  | .move _ | .assign _ | .pick _ _ _ | .nilCheck _ | .binOp _ _ _ _ _ | .unOp _ _ _ | .makeFunc _ _ _ | .fieldAddr _ _ _ | .field _ _ _ | .index _ _ _ | .extract _ _ | .convert _ _ _ | .build _ _ | .typeAssert _ _ _ _ => true
  | .load _ (.global _) => true
  | _ => false
def GlbE (ev : Operand → TV) : Prop := ∀ g, ev (.global g) = .u ∨ ∃ y, ev (.global g) = .pe [y]
theorem St.glbE (σ : St) : GlbE σ.ev := fun g => by
  have he : σ.ev (.global g) = (match σ.G g with | some y => TV.pe [y] | none => .u) := rfl
  rw [he]
  cases σ.G g with
  | none => exact .inl rfl
  | some y => exact .inr ⟨y, rfl⟩
theorem RV_inert {ob ob' : Nm → Option AObj} {ev : Operand → TV} {v : TV} {op : Op} (hgl : GlbE ev) (hi : inert op = true) (hv : RV P ob ev v op) : RV P ob' ev v op := by
  unfold RV at hv
  split at hv <;> first | exact hv | exact hv.elim | (simp [inert] at hi; done) | skip
  rename_i t x
  cases x with
  | global g =>
    have h : LoadV P ob t (ev (.global g)) v := hv
    show LoadV P ob' t (ev (.global g)) v
    rcases hgl g with e | ⟨y, e⟩
    · rw [e] at h; exact h.elim
    · rw [e] at h ⊢; exact h
  | tmp t => cases hi
  | const v => cases hi
  | func f => cases hi
theorem AddV_det {off : Nat} {x v v' : TV} (h : AddV off x v) (h' : AddV off x v') : v = v' := by
  cases x <;> try exact h.elim
  case ip => exact h.trans h'.symm
  case ptr => exact h.trans h'.symm
  case pe => exact h.2.trans h'.2.symm
theorem FillT_det (places : List (Nat × Nat × Bool)) : ∀ (parts : List (Nat × TV)) (c r r' : List TV), FillT places parts c r → FillT places parts c r' → r = r'
  | [], c, r, r', h, h' => h.trans h'.symm
  | (i, v) :: rest, c, r, r', h, h' => by
    simp only [FillT] at h h'
    cases hp : places[i]? with
    | none => rw [hp] at h; exact h.elim
    | some q =>
      obtain ⟨o, s, b⟩ := q
      rw [hp] at h h'
      exact FillT_det places rest _ r r' h.2.2.2 h'.2.2.2
theorem RV_det {ob ob' : Nm → Option AObj} {ev : Operand → TV} {v v' : TV} {op : Op} (hgl : GlbE ev) (hi : inert op = true) (hv : RV P ob ev v op) (hv' : RV P ob' ev v' op) : v = v' := by
  cases op <;> try (simp only [inert, Bool.false_eq_true] at hi)
  case load t x =>
    cases x with
    | global g =>
      have h : LoadV P ob t (ev (.global g)) v := hv
      have h' : LoadV P ob' t (ev (.global g)) v' := hv'
      rcases hgl g with e | ⟨y, e⟩
      · rw [e] at h; exact h.elim
      · rw [e] at h h'
        simp only [LoadV] at h h'
        cases hl : lay P t with
        | none => rw [hl] at h; exact h.elim
        | some bk =>
          obtain ⟨b, k⟩ := bk
          rw [hl] at h h'
          cases b with
          | true => exact h.2.trans h'.2.symm
          | false =>
            obtain ⟨y1, h1, rfl⟩ := h
            obtain ⟨y2, h2, rfl⟩ := h'
            rw [h1] at h2; cases h2; rfl
    | tmp t => cases hi
    | const v => cases hi
    | func f => cases hi
  case move x => exact hv.trans hv'.symm
  case assign x => exact hv.trans hv'.symm
  case pick c x y =>
    rcases hv with ⟨h1, rfl⟩ | ⟨h1, rfl⟩ <;> rcases hv' with ⟨h2, rfl⟩ | ⟨h2, rfl⟩ <;> first | rfl | (rw [h1] at h2; simp at h2)
  case nilCheck x => exact hv.2.trans hv'.2.symm
  case binOp op t x y ty =>
    simp only [RV] at hv hv'
    unfold BinV at hv hv'
    split at hv
    · rename_i e1 e2
      simp only [e1, e2] at hv'
      obtain ⟨_, r, h1, rfl⟩ := hv
      obtain ⟨_, r', h2, rfl⟩ := hv'
      rw [h1] at h2; cases h2; rfl
    · rename_i e1 e2
      simp only [e1, e2] at hv'
      rcases hv.2 with ⟨h1, rfl⟩ | ⟨h1, rfl⟩ <;> rcases hv'.2 with ⟨h2, rfl⟩ | ⟨h2, rfl⟩ <;> first | rfl | (rw [h1] at h2; cases h2)
    · exact hv.elim
  case unOp op t x =>
    simp only [RV] at hv hv'
    unfold UnV at hv hv'
    split at hv
    · rename_i e1; simp only [e1] at hv'; exact hv.2.trans hv'.2.symm
    · rename_i e1; simp only [e1] at hv'; exact hv.2.trans hv'.2.symm
    · exact hv.elim
  case makeFunc fn first caps =>
    cases fn <;> first | exact hv.elim | exact hv.2.trans hv'.2.symm
  case fieldAddr s x f =>
    obtain ⟨l, off, k, b, h1, h2, h3, h4⟩ := hv
    obtain ⟨l', off', k', b', q1, q2, q3, q4⟩ := hv'
    rw [h1] at q1; cases q1
    rw [h2] at q2; cases q2
    exact AddV_det h4 q4
  case field s x f =>
    obtain ⟨l, off, k, b, h1, h2, h3⟩ := hv
    obtain ⟨l', off', k', b', q1, q2, q3⟩ := hv'
    rw [h1] at q1; cases q1
    rw [h2] at q2; cases q2
    generalize ev x = X at h3 q3
    cases X <;> try exact h3.elim
    case ag l =>
      obtain ⟨_, h3⟩ := h3
      obtain ⟨_, q3⟩ := q3
      cases b
      · simp only [if_false, Bool.false_eq_true] at h3 q3; rw [h3] at q3; cases q3; rfl
      · exact h3.trans q3.symm
    case p pv =>
      cases pv <;> try exact h3.elim
      case ag l =>
        obtain ⟨_, h3⟩ := h3
        obtain ⟨_, q3⟩ := q3
        cases b
        · simp only [if_false, Bool.false_eq_true] at h3 q3
          obtain ⟨y, h4, rfl⟩ := h3
          obtain ⟨y', q4, rfl⟩ := q3
          rw [h4] at q4; cases q4; rfl
        · exact h3.trans q3.symm
  case index t x i =>
    simp only [RV] at hv hv'
    unfold StrIdxV at hv hv'
    split at hv
    · rename_i e1 e2
      simp only [e1, e2] at hv'
      obtain ⟨_, _, b, h1, rfl⟩ := hv
      obtain ⟨_, _, b', h2, rfl⟩ := hv'
      rw [h1] at h2; cases h2; rfl
    · exact hv.elim
  case extract x i =>
    obtain ⟨l, h1, h2⟩ := hv
    obtain ⟨l', q1, q2⟩ := hv'
    rw [h1] at q1; cases q1
    rw [h2] at q2; cases q2; rfl
  case convert s d x =>
    simp only [RV] at hv hv'
    unfold ConvV at hv hv'
    split at hv
    · rename_i e1
      simp only [e1] at hv'
      obtain ⟨_, k, h1, rfl⟩ := hv
      obtain ⟨_, k', h2, rfl⟩ := hv'
      rw [h1] at h2; cases h2; rfl
    · rename_i e1
      simp only [e1] at hv'
      exact hv.2.2.trans hv'.2.2.symm
    · exact hv.elim
  case build t parts =>
    obtain ⟨places, z, r, h1, h2, h3, h4, rfl⟩ := hv
    obtain ⟨places', z', r', q1, q2, q3, q4, rfl⟩ := hv'
    rw [h1] at q1; cases q1
    rw [h2] at q2; cases q2
    rw [FillT_det _ _ _ _ _ h4 q4]
  case typeAssert x xt t ok =>
    simp only [RV] at hv hv'
    unfold AssertV at hv hv'
    split at hv
    · rename_i e1
      simp only [e1] at hv'
      rcases hv.2.2 with ⟨h1, rfl⟩ | ⟨h1, _, _, rfl⟩ <;> rcases hv'.2.2 with ⟨h2, rfl⟩ | ⟨h2, _, _, rfl⟩ <;> first | rfl | exact absurd h1 h2 | exact absurd h2 h1
    · exact hv.elim
theorem FillT_all {q : Nm → Prop} (places : List (Nat × Nat × Bool)) : ∀ (parts : List (Nat × TV)) (c r : List TV), (∀ p ∈ parts, p.2.All q) → (∀ x ∈ c, x.All q) → FillT places parts c r → ∀ x ∈ r, x.All q
  | [], c, r, _, hc, h => by obtain rfl : r = c := h; exact hc
  | (i, v) :: rest, c, r, hp, hc, h => by
    simp only [FillT] at h
    cases hpl : places[i]? with
    | none => rw [hpl] at h; exact h.elim
    | some q' =>
      obtain ⟨o, s, b⟩ := q'
      rw [hpl] at h
      refine FillT_all places rest _ r (fun p hp' => hp p (by simp [hp'])) (fun x hx => ?_) h.2.2.2
      unfold splice at hx
      rcases List.mem_append.1 hx with hx | hx
      · rcases List.mem_append.1 hx with hx | hx
        · exact hc x (List.mem_of_mem_take hx)
        · exact tcells_all (hp (i, v) (by simp)) x hx
      · exact hc x (List.mem_of_mem_drop hx)
theorem RV_all {q : Nm → Prop} {ob : Nm → Option AObj} {ev : Operand → TV} {v : TV} {op : Op} (hq : ∀ x, (ev x).All q) (ho : ∀ n (o : AObj), ob n = some o → o.All q) (hv : RV P ob ev v op) : v.All q := by
  unfold RV at hv
  split at hv
  case h_1 x => rw [hv]; exact hq x
  case h_2 x => rw [hv]; exact hq x
  case h_3 c x y => rcases hv with ⟨_, rfl⟩ | ⟨_, rfl⟩ <;> exact hq _
  case h_4 t x =>
    generalize ev x = X at hv
    cases X <;> try exact hv.elim
    case ptr n off =>
      simp only [LoadV] at hv
      cases hob : ob n with
      | none => rw [hob] at hv; exact hv.elim
      | some o =>
        cases o <;> (rw [hob] at hv) <;> try exact hv.elim
        case box t' l =>
          have hl : ∀ x ∈ l, x.All q := ho n _ hob
          cases hlay : lay P t with
          | none => rw [hlay] at hv; exact hv.elim
          | some bk =>
            obtain ⟨b, k⟩ := bk
            rw [hlay] at hv
            cases b with
            | true => rw [hv.2]; exact .ag (fun x hx => hl x (List.mem_of_mem_drop (List.mem_of_mem_take hx)))
            | false => exact hl v (List.mem_of_getElem? hv)
    case ip n len z i off =>
      simp only [LoadV] at hv
      cases hob : ob n with
      | none => rw [hob] at hv; exact hv.elim
      | some o =>
        cases o <;> (rw [hob] at hv) <;> try exact hv.elim
        case ow z' t' ks xs =>
          obtain ⟨_, _, c, hc, hv⟩ := hv
          have hl : ∀ n ∈ ks, q n := ho n _ hob
          cases hlay : lay P t with
          | none => rw [hlay] at hv; exact hv.elim
          | some bk =>
            obtain ⟨b, k⟩ := bk
            rw [hlay] at hv
            cases b with
            | true =>
              rcases hv.2.2 with h | ⟨r, _, h⟩
              · rw [h]; exact .ag (fun x hx => (hv.2.1 x hx).2.mono hl)
              · rw [h]; exact .p
            | false => exact hv.2.2.mono hl
    case pe l =>
      simp only [LoadV] at hv
      cases hlay : lay P t with
      | none => rw [hlay] at hv; exact hv.elim
      | some bk =>
        obtain ⟨b, k⟩ := bk
        rw [hlay] at hv
        cases b with
        | true => rw [hv.2]; exact .p
        | false => obtain ⟨y, _, rfl⟩ := hv; exact .p
  case h_5 x => rw [hv.2]; exact hq x
  case h_6 op t x y ty =>
    unfold BinV at hv
    split at hv
    · obtain ⟨_, r, _, rfl⟩ := hv; exact .p
    · rcases hv.2 with ⟨_, rfl⟩ | ⟨_, rfl⟩ <;> exact .p
    · exact hv.elim
  case h_7 op t x =>
    unfold UnV at hv
    split at hv
    · rw [hv.2]; exact .p
    · rw [hv.2]; exact .p
    · exact hv.elim
  case h_8 t x => obtain ⟨_, y, _, rfl⟩ := hv; exact .p
  case h_9 f first caps =>
    rw [hv.2]
    refine .fn (fun x hx => ?_)
    obtain ⟨y, _, rfl⟩ := List.mem_map.1 hx
    exact hq y
  case h_10 s x f =>
    obtain ⟨l, off, k, b, _, _, _, h4⟩ := hv
    have hx := hq x
    generalize ev x = X at h4 hx
    cases X <;> try exact h4.elim
    case ptr n o => rw [show v = .ptr n (o + off) from h4]; cases hx with | ptr hx => exact .ptr hx
    case ip n len z i o => rw [show v = .ip n len z i (o + off) from h4]; cases hx with | ip hx => exact .ip hx
    case pe l => rw [h4.2]; exact .pe
  case h_11 s x f =>
    obtain ⟨l, off, k, b, _, _, h3⟩ := hv
    have hx := hq x
    generalize ev x = X at h3 hx
    cases X <;> try exact h3.elim
    case ag l =>
      cases hx with | ag hx =>
      obtain ⟨_, h3⟩ := h3
      cases b
      · exact hx v (List.mem_of_getElem? h3)
      · rw [show v = .ag ((l.drop off).take k) from h3]; exact .ag (fun x h => hx x (List.mem_of_mem_drop (List.mem_of_mem_take h)))
    case p pv =>
      cases pv <;> try exact h3.elim
      case ag l =>
        obtain ⟨_, h3⟩ := h3
        cases b
        · obtain ⟨y, _, rfl⟩ := h3; exact .p
        · rw [show v = .p (.ag ((l.drop off).take k)) from h3]; exact .p
  case h_12 t x i =>
    rcases hv with ⟨z, xs, e, b, k, n, y, _, _, _, _, _, _, rfl⟩ | ⟨m, len, e, b, z, k, n, h1, _, _, _, _, _, rfl⟩ | ⟨m, len, e, b, z, k, n, t', ks, xs, h1, _, _, _, _, _, _, _, rfl⟩
    · exact .pe
    · have hx := hq x
      rw [h1] at hx
      cases hx with | sl hx => exact .ptr hx
    · have hx := hq x
      rw [h1] at hx
      cases hx with | vw hx => exact .ip hx
  case h_13 t x i =>
    unfold StrIdxV at hv
    split at hv
    · obtain ⟨_, _, b, _, rfl⟩ := hv; exact .p
    · exact hv.elim
  case h_14 x i =>
    obtain ⟨l, h1, h2⟩ := hv
    have hx := hq x
    rw [h1] at hx
    cases hx with | tp hx => exact hx v (List.mem_of_getElem? h2)
  case h_15 t x lo hi =>
    rcases hv with ⟨s, l, h, _, _, _, _, _, _, rfl⟩ | ⟨z, xs, e, b, l, h, _, _, _, _, _, _, _, rfl⟩ <;> exact .p
  case h_16 s d x =>
    unfold ConvV at hv
    split at hv
    · obtain ⟨_, k, _, rfl⟩ := hv; exact .p
    · rw [hv.2.2]; exact .p
    · exact hv.elim
  case h_17 t parts =>
    obtain ⟨places, z, r, _, _, _, h4, rfl⟩ := hv
    refine .ag (FillT_all places _ _ r (fun p hp => ?_) (fun x hx => ?_) h4)
    · obtain ⟨p', _, rfl⟩ := List.mem_map.1 hp
      exact hq _
    · obtain ⟨u, _, rfl⟩ := List.mem_map.1 hx
      exact cv_all u
  case h_18 x xt t ok =>
    unfold AssertV at hv
    split at hv
    · rcases hv.2.2 with ⟨_, rfl⟩ | ⟨_, _, _, rfl⟩
      · cases ok
        · exact .p
        · exact .tp (fun x hx => by simp at hx; rcases hx with rfl | rfl <;> exact .p)
      · exact .tp (fun x hx => by simp at hx; rcases hx with rfl | rfl; exact .u; exact .p)
    · exact hv.elim
  case h_19 t x i ok =>
    unfold LookV at hv
    split at hv
    · split at hv
      · obtain ⟨s, k, e, y, _, _, _, _, rfl⟩ := hv
        cases ok
        · exact .p
        · exact .tp (fun x hx => by simp at hx; rcases hx with rfl | rfl <;> exact .p)
      · exact hv.elim
    · exact hv.elim
  case h_20 args ats =>
    obtain ⟨x, t, rfl, rfl, h1, _⟩ := hv
    unfold LenV at h1
    split at h1 <;> try exact h1.elim
    · rw [h1]; exact .p
    · rw [h1]; exact .p
    · rw [h1]; exact .p
    · split at h1
      · rw [h1.2]; exact .p
      · rw [h1.2]; exact .p
      · exact h1.elim
    · rw [h1]; exact .p
  case h_21 => exact hv.elim
end Go.Proofs.YtglkkbgflnpjeaaGreatDoor.En
end
section
namespace Go.Proofs.YtglkkbgflnpjeaaGreatDoor.En
set_option linter.unusedVariables false
set_option linter.unusedSimpArgs false
open Go Go.RowKit Go.Proofs.YtglkkbgflnpjeaaGreatDoor.PA
variable {P : Program} {σ : St}
theorem put_add (d : Option Tmp) (v : TV) (m : Nm) (o : AObj) : (σ.put d v).add m o = (σ.add m o).put d v := by
  cases d with
  | none => rfl
  | some d =>
    by_cases h : d < σ.nt
    · have h2 : d < (σ.add m o).nt := by cases m <;> exact h
      simp only [St.put, if_pos h, if_pos h2]
      cases m <;> rfl
    · have h2 : ¬ d < (σ.add m o).nt := by cases m <;> exact h
      simp only [St.put, if_neg h, if_neg h2]
theorem put_set (d : Option Tmp) (v : TV) (m : Nm) (o : AObj) : (σ.put d v).set m o = (σ.set m o).put d v := by
  cases d with
  | none => rfl
  | some d =>
    by_cases h : d < σ.nt
    · have h2 : d < (σ.set m o).nt := by cases m <;> exact h
      simp only [St.put, if_pos h, if_pos h2]
      cases m <;> rfl
    · have h2 : ¬ d < (σ.set m o).nt := by cases m <;> exact h
      simp only [St.put, if_neg h, if_neg h2]
theorem put_withH (d : Option Tmp) (v : TV) (H : List AObj) : ({ σ.put d v with H := H } : St) = ({ σ with H := H } : St).put d v := by
  cases d with
  | none => rfl
  | some d =>
    by_cases h : d < σ.nt
    · simp only [St.put, if_pos h]
    · simp only [St.put, if_neg h]
theorem put_put {d e : Option Tmp} (h : ∀ x, d = some x → e ≠ some x) (v vv : TV) : (σ.put d v).put e vv = (σ.put e vv).put d v := by
  cases d with
  | none => rfl
  | some d =>
    cases e with
    | none => rfl
    | some e =>
      have hne : d ≠ e := fun q => h d rfl (by rw [q])
      by_cases h1 : d < σ.nt <;> by_cases h2 : e < σ.nt <;> simp only [St.put, h1, h2, if_true, if_false]
      congr 1
      funext t
      simp only [updT_eq]
      by_cases q1 : t = e
      · subst q1; simp [Ne.symm hne]
      · simp [q1]
theorem put_ev {d : Option Tmp} {v : TV} {x : Operand} (h : ∀ t, d = some t → x ≠ .tmp t) : (σ.put d v).ev x = σ.ev x := by
  cases d with
  | none => rfl
  | some d =>
    by_cases h1 : d < σ.nt
    · simp only [St.put, if_pos h1]
      cases x with
      | tmp t =>
        show updT σ.tm d v t = σ.tm t
        rw [updT_eq, if_neg (fun e => h d rfl (by rw [e]))]
      | const c => rfl
      | global g => rfl
      | func f => rfl
    · simp only [St.put, if_neg h1]
theorem put_md (d : Option Tmp) (v : TV) : (σ.put d v).md = σ.md := by
  cases d with
  | none => rfl
  | some d => unfold St.put; simp only; split <;> rfl
theorem nameOf_put (d : Option Tmp) (v : TV) (e : Nat) : nameOf (σ.put d v) e = nameOf σ e := by unfold nameOf; rw [put_md, St.put_H]
theorem Fresh_put {m : Nm} {d : Option Tmp} {v : TV} (h : Fresh σ m) (hv : v.All (· ≠ m)) : Fresh (σ.put d v) m := by
  cases m with
  | S i => obtain rfl : i = _ := h; show _ = _; rw [St.put_H]
  | L e =>
    refine ⟨by rw [St.put_lm]; exact h.1, fun t => ?_, fun t o ho => h.2.2 t o (by rw [St.put_lm] at ho; exact ho)⟩
    cases d with
    | none => exact h.2.1 t
    | some d =>
      unfold St.put
      simp only
      split
      · show (updT σ.tm d v t).All _
        rw [updT_eq]; split
        · exact hv
        · exact h.2.1 t
      · exact h.2.1 t
def seen (o : Oper) : List Tmp := o.op.operands.toList.filterMap fun | .tmp t => some t | _ => none
def apartB (d : Option Tmp) (o : Oper) : Bool := match d with
  | none => true
  | some d => !(seen o).contains d && o.dst != some d
theorem apartB_spec {d : Option Tmp} {o : Oper} (h : apartB d o = true) : (∀ t, d = some t → o.dst ≠ some t) ∧ ∀ x ∈ o.op.operands.toList, ∀ t, d = some t → x ≠ .tmp t := by
  cases d with
  | none => exact ⟨(fun t e => by cases e), (fun x _ t e => by cases e)⟩
  | some d =>
    simp only [apartB, Bool.and_eq_true, Bool.not_eq_true'] at h
    obtain ⟨h1, h2⟩ := h
    refine ⟨fun t e => by cases e; simpa using h2, fun x hx t e q => ?_⟩
    cases e
    subst q
    have : (seen o).contains d = true := by
      rw [List.contains_iff_mem]
      exact List.mem_filterMap.2 ⟨.tmp d, hx, rfl⟩
    rw [this] at h1; cases h1
theorem ToPV_ev {ob : Nm → Option AObj} {x x' : TV} {y : PV} (h : x = x') (ht : ToPV ob x y) : ToPV ob x' y := h ▸ ht
theorem mem_parts {t len : Nat} {parts : Array (Nat × Operand)} {k : Nat} {q : Nat × Operand} (h : parts.toList[k]? = some q) : q.2 ∈ (Op.buildSlice t len parts).operands.toList := by
  simp only [Op.operands, List.mem_map]
  exact ⟨q, List.mem_of_getElem? h, rfl⟩
theorem mem_args {f : Operand} {args : Array Operand} {ats : Array TypeId} {k : Nat} {q : Operand} (h : args.toList[k]? = some q) : q ∈ (Op.call { callee := .value f, args := args, argTypes := ats }).operands.toList := by
  simp only [Op.operands, Call.operands, Array.toList_append, List.mem_append]
  exact .inr (List.mem_of_getElem? h)
theorem mem_fn {f : Operand} {args : Array Operand} {ats : Array TypeId} : f ∈ (Op.call { callee := .value f, args := args, argTypes := ats }).operands.toList := by
  simp [Op.operands, Call.operands]
theorem mem_argsI {f : Operand} {m : String} {args : Array Operand} {ats : Array TypeId} {k : Nat} {q : Operand} (h : args.toList[k]? = some q) : q ∈ (Op.call { callee := .invoke f m, args := args, argTypes := ats }).operands.toList := by
  simp only [Op.operands, Call.operands, Array.toList_append, List.mem_append]
  exact .inr (List.mem_of_getElem? h)
theorem mem_fnI {f : Operand} {m : String} {args : Array Operand} {ats : Array TypeId} : f ∈ (Op.call { callee := .invoke f m, args := args, argTypes := ats }).operands.toList := by
  simp [Op.operands, Call.operands]
theorem map_args {f : Operand} {args : Array Operand} {ats : Array TypeId} {ev ev' : Operand → TV} (h : ∀ x ∈ (Op.call { callee := .value f, args := args, argTypes := ats }).operands.toList, ev x = ev' x) : args.toList.map ev = args.toList.map ev' :=
  List.map_congr_left (fun x hx => h x (by simp only [Op.operands, Call.operands, Array.toList_append, List.mem_append]; exact .inr hx))
theorem OStep.put_back {hb : Bool} {o : Oper} {d : Option Tmp} {v : TV} {K : St → Prop} (ha : apartB d o = true) (hfr : mayNew o = true → ∀ e, o.dst = some e → Fresh (σ.put d v) (nameOf σ e) → Fresh σ (nameOf σ e)) (h : OStep P hb o (σ.put d v) K) : OStep P hb o σ (fun τ => K (τ.put d v)) := by
  obtain ⟨h1, h2⟩ := apartB_spec ha
  have hev : ∀ x ∈ o.op.operands.toList, (σ.put d v).ev x = σ.ev x := fun x hx => put_ev (h2 x hx)
  cases h with
  | rv uu hu k =>
    rw [St.put_ob] at hu
    refine .rv uu (RV_ev hev hu) ?_
    rwa [put_put h1] at k
  | alloc t e z ho hd hz h3 hf k =>
    rw [nameOf_put] at hf k
    rw [put_add, put_put (by rw [← hd]; exact h1)] at k
    exact .alloc t e z ho hd hz h3 (hfr (by rw [mayNew, ho]) e hd hf) k
  | box t e x ho hd hc hf hS k =>
    rw [ho] at hev
    rw [nameOf_put] at hf hS k
    rw [hev x (by simp [Op.operands])] at hc hS k
    rw [put_add, put_put (by rw [← hd]; exact h1)] at k
    exact .box t e x ho hd hc (hfr (by rw [mayNew, ho]) e hd hf) hS k
  | row t e len parts el z b xs ho hd ht hl hzz hz0 hn hi hx hp hc hf k =>
    rw [ho] at hev
    rw [nameOf_put] at hf k
    rw [put_add, put_put (by rw [← hd]; exact h1)] at k
    exact .row t e len parts el z b xs ho hd ht hl hzz hz0 hn hi hx (fun k q x hq hx' => by rw [← hev q.2 (mem_parts hq), ← St.put_ob σ d v]; exact hp k q x hq hx') hc (hfr (by rw [mayNew, ho]) e hd hf) k
  | mkmap t e ho hd hf k =>
    rw [nameOf_put] at hf k
    rw [put_add, put_put (by rw [← hd]; exact h1)] at k
    exact .mkmap t e ho hd (hfr (by rw [mayNew, ho]) e hd hf) k
  | store t x y n off t' sz b l ho hx hn hl hy hk hoff hS k =>
    rw [ho] at hev
    rw [hev x (by simp [Op.operands])] at hx
    rw [hev y (by simp [Op.operands])] at hy hk hS k
    rw [St.put_ob] at hn
    rw [put_set, put_put h1] at k
    exact .store t x y n off t' sz b l ho hx hn hl hy hk hoff hS k
  | app s x t e z n len xs ys ho hs hn hlen hx hok k =>
    rw [ho] at hev
    rw [hev s (by simp [Op.operands, Call.operands])] at hs
    rw [hev x (by simp [Op.operands, Call.operands]), St.put_ob] at hx
    rw [St.put_ob] at hn
    rw [put_set, put_put h1] at k
    exact .app s x t e z n len xs ys ho hs hn hlen hx hok k
  | app0 s x t e el z ys ho hd hs hx hok hf k =>
    rw [ho] at hev
    rw [hev s (by simp [Op.operands, Call.operands])] at hs
    rw [hev x (by simp [Op.operands, Call.operands]), St.put_ob] at hx
    rw [nameOf_put] at hf k
    rw [put_add, put_put (by rw [← hd]; exact h1)] at k
    exact .app0 s x t e el z ys ho hd hs hx hok (hfr (by rw [mayNew, ho]) e hd hf) k
  | mput t m x y n kt e es s uu ho hm hn ht hk hx hy k =>
    rw [ho] at hev
    rw [hev m (by simp [Op.operands])] at hm
    rw [hev x (by simp [Op.operands])] at hx
    rw [hev y (by simp [Op.operands]), St.put_ob] at hy
    rw [St.put_ob] at hn
    rw [put_set, put_put h1] at k
    exact .mput t m x y n kt e es s uu ho hm hn ht hk hx hy k
  | pcall f x args ats xs r ho hf hl hp hc k =>
    rw [ho] at hev
    rw [hev x mem_fn] at hf
    rw [St.put_G] at hc
    rw [put_put h1] at k
    exact .pcall f x args ats xs r ho hf hl (fun k q y hq hy => by rw [← hev q (mem_args hq), ← St.put_ob σ d v]; exact hp k q y hq hy) hc k
  | icall f x m args ats t u xs r ho hf hm hl hp hc k =>
    rw [ho] at hev
    rw [hev x mem_fnI] at hf
    rw [St.put_G] at hc
    rw [put_put h1] at k
    exact .icall f x m args ats t u xs r ho hf hm hl (fun k q y hq hy => by rw [← hev q (mem_argsI hq), ← St.put_ob σ d v]; exact hp k q y hq hy) hc k
  | hcall f x caps args ats xs R ho hf hp hS hc hne hbb k =>
    rw [ho] at hev
    rw [hev x mem_fn] at hf
    rw [St.put_G, St.put_H] at hc
    rw [St.put_ob, map_args hev] at hp
    refine .hcall f x caps args ats xs R ho hf hp hS hc hne hbb (fun r H' hR hA hB => ?_)
    have := k r H' hR hA hB
    rwa [put_withH, put_put h1] at this
theorem OStep.mono {hb : Bool} {o : Oper} {K K' : St → Prop} (hK : ∀ τ, K τ → K' τ) (h : OStep P hb o σ K) : OStep P hb o σ K' := by
  cases h with
  | rv uu hu k => exact .rv uu hu (hK _ k)
  | alloc t e z ho hd hz h3 hf k => exact .alloc t e z ho hd hz h3 hf (hK _ k)
  | box t e x ho hd hc hf hS k => exact .box t e x ho hd hc hf hS (hK _ k)
  | row t e len parts el z b xs ho hd ht hl hzz hz0 hn hi hx hp hc hf k => exact .row t e len parts el z b xs ho hd ht hl hzz hz0 hn hi hx hp hc hf (hK _ k)
  | mkmap t e ho hd hf k => exact .mkmap t e ho hd hf (hK _ k)
  | store t x y n off t' sz b l ho hx hn hl hy hk hoff hS k => exact .store t x y n off t' sz b l ho hx hn hl hy hk hoff hS (hK _ k)
  | app s x t e z n len xs ys ho hs hn hlen hx hok k => exact .app s x t e z n len xs ys ho hs hn hlen hx hok (hK _ k)
  | app0 s x t e el z ys ho hd hs hx hok hf k => exact .app0 s x t e el z ys ho hd hs hx hok hf (hK _ k)
  | mput t m x y n kt e es s uu ho hm hn ht hk hx hy k => exact .mput t m x y n kt e es s uu ho hm hn ht hk hx hy (hK _ k)
  | pcall f x args ats xs r ho hf hl hp hc k => exact .pcall f x args ats xs r ho hf hl hp hc (hK _ k)
  | icall f x m args ats t u xs r ho hf hm hl hp hc k => exact .icall f x m args ats t u xs r ho hf hm hl hp hc (hK _ k)
  | hcall f x caps args ats xs R ho hf hp hS hc hne hbb k => exact .hcall f x caps args ats xs R ho hf hp hS hc hne hbb (fun r H' hR hA hB => hK _ (k r H' hR hA hB))
theorem OStep.put_fwd {hb : Bool} {o : Oper} {d : Option Tmp} {v : TV} {K : St → Prop} (ha : apartB d o = true) (hfr : mayNew o = true → ∀ e, o.dst = some e → Fresh σ (nameOf σ e) → Fresh (σ.put d v) (nameOf σ e)) (h : OStep P hb o σ (fun τ => K (τ.put d v))) : OStep P hb o (σ.put d v) K := by
  obtain ⟨h1, h2⟩ := apartB_spec ha
  have hev : ∀ x ∈ o.op.operands.toList, σ.ev x = (σ.put d v).ev x := fun x hx => (put_ev (h2 x hx)).symm
  cases h with
  | rv uu hu k =>
    refine .rv uu (by rw [St.put_ob]; exact RV_ev hev hu) ?_
    rwa [put_put h1]
  | alloc t e z ho hd hz h3 hf k =>
    refine .alloc t e z ho hd hz h3 (by rw [nameOf_put]; exact hfr (by rw [mayNew, ho]) e hd hf) ?_
    rwa [nameOf_put, put_add, put_put (by rw [← hd]; exact h1)]
  | box t e x ho hd hc hf hS k =>
    rw [ho] at hev
    rw [hev x (by simp [Op.operands])] at hc hS k
    refine .box t e x ho hd hc (by rw [nameOf_put]; exact hfr (by rw [mayNew, ho]) e hd hf) (by rw [nameOf_put]; exact hS) ?_
    rwa [nameOf_put, put_add, put_put (by rw [← hd]; exact h1)]
  | row t e len parts el z b xs ho hd ht hl hzz hz0 hn hi hx hp hc hf k =>
    rw [ho] at hev
    refine .row t e len parts el z b xs ho hd ht hl hzz hz0 hn hi hx (fun k q x hq hx' => by rw [← hev q.2 (mem_parts hq), St.put_ob σ d v]; exact hp k q x hq hx') hc (by rw [nameOf_put]; exact hfr (by rw [mayNew, ho]) e hd hf) ?_
    rwa [nameOf_put, put_add, put_put (by rw [← hd]; exact h1)]
  | mkmap t e ho hd hf k =>
    refine .mkmap t e ho hd (by rw [nameOf_put]; exact hfr (by rw [mayNew, ho]) e hd hf) ?_
    rwa [nameOf_put, put_add, put_put (by rw [← hd]; exact h1)]
  | store t x y n off t' sz b l ho hx hn hl hy hk hoff hS k =>
    rw [ho] at hev
    rw [hev x (by simp [Op.operands])] at hx
    rw [hev y (by simp [Op.operands])] at hy hk hS k
    refine .store t x y n off t' sz b l ho hx (by rw [St.put_ob]; exact hn) hl hy hk hoff hS ?_
    rwa [put_set, put_put h1]
  | app s x t e z n len xs ys ho hs hn hlen hx hok k =>
    rw [ho] at hev
    rw [hev s (by simp [Op.operands, Call.operands])] at hs
    rw [hev x (by simp [Op.operands, Call.operands])] at hx
    refine .app s x t e z n len xs ys ho hs (by rw [St.put_ob]; exact hn) hlen (by rw [St.put_ob]; exact hx) hok ?_
    rwa [put_set, put_put h1]
  | app0 s x t e el z ys ho hd hs hx hok hf k =>
    rw [ho] at hev
    rw [hev s (by simp [Op.operands, Call.operands])] at hs
    rw [hev x (by simp [Op.operands, Call.operands])] at hx
    refine .app0 s x t e el z ys ho hd hs (by rw [St.put_ob]; exact hx) hok (by rw [nameOf_put]; exact hfr (by rw [mayNew, ho]) e hd hf) ?_
    rwa [nameOf_put, put_add, put_put (by rw [← hd]; exact h1)]
  | mput t m x y n kt e es s uu ho hm hn ht hk hx hy k =>
    rw [ho] at hev
    rw [hev m (by simp [Op.operands])] at hm
    rw [hev x (by simp [Op.operands])] at hx
    rw [hev y (by simp [Op.operands])] at hy
    refine .mput t m x y n kt e es s uu ho hm (by rw [St.put_ob]; exact hn) ht hk hx (by rw [St.put_ob]; exact hy) ?_
    rwa [put_set, put_put h1]
  | pcall f x args ats xs r ho hf hl hp hc k =>
    rw [ho] at hev
    rw [hev x mem_fn] at hf
    refine .pcall f x args ats xs r ho hf hl (fun k q y hq hy => by rw [← hev q (mem_args hq), St.put_ob σ d v]; exact hp k q y hq hy) (by rw [St.put_G]; exact hc) ?_
    rwa [put_put h1]
  | icall f x m args ats t u xs r ho hf hm hl hp hc k =>
    rw [ho] at hev
    rw [hev x mem_fnI] at hf
    refine .icall f x m args ats t u xs r ho hf hm hl (fun k q y hq hy => by rw [← hev q (mem_argsI hq), St.put_ob σ d v]; exact hp k q y hq hy) (by rw [St.put_G]; exact hc) ?_
    rwa [put_put h1]
  | hcall f x caps args ats xs R ho hf hp hS hc hne hbb k =>
    rw [ho] at hev
    rw [hev x mem_fn] at hf
    rw [map_args hev] at hp
    refine .hcall f x caps args ats xs R ho hf (by rw [St.put_ob]; exact hp) hS (by rw [St.put_G, St.put_H]; exact hc) hne hbb (fun r H' hR hA hB => ?_)
    have := k r H' hR hA hB
    rwa [put_withH, put_put h1]
end Go.Proofs.YtglkkbgflnpjeaaGreatDoor.En
end
section
namespace Go.Proofs.YtglkkbgflnpjeaaGreatDoor.En
set_option linter.unusedVariables false
set_option linter.unusedSimpArgs false
open Go Go.RowKit Go.Proofs.YtglkkbgflnpjeaaGreatDoor.PA
variable {P : Program} {σ : St}
def isV (hb : Bool) (o : Oper) : Bool := match o.op with
  | .alloc _ | .box _ _ | .buildSlice _ _ _ | .makeMap _ _ | .makeSlice _ _ _ | .store _ _ _ | .mapUpdate _ _ _ _ => false
  | .call c => match c.callee with
    | .value _ => !hb
    | .invoke _ _ => true
    | .builtin .len => true
    | _ => false
  | _ => true
def isN (o : Oper) : Bool := match o.op with
  | .alloc _ | .box _ _ | .buildSlice _ _ _ | .makeMap _ _ => true
  | _ => false
theorem no_all (q : Nm → Prop) : (TV.tp []).All q := .tp (fun x hx => by cases hx)
def GStep (P : Program) (hb w : Bool) (o : Oper) (σ : St) (K : St → Prop) : Prop := match w with
  | true => OStep P hb o σ K
  | false => K (σ.put o.dst (.tp []))
theorem GStep.mono {hb w : Bool} {o : Oper} {K K' : St → Prop} (hK : ∀ τ, K τ → K' τ) (h : GStep P hb w o σ K) : GStep P hb w o σ K' := by
  cases w with
  | true => exact OStep.mono hK h
  | false => exact hK _ h
theorem GStep.put_back {hb w : Bool} {o : Oper} {d : Option Tmp} {v : TV} {K : St → Prop} (ha : apartB d o = true) (hfr : mayNew o = true → ∀ e, o.dst = some e → Fresh (σ.put d v) (nameOf σ e) → Fresh σ (nameOf σ e)) (h : GStep P hb w o (σ.put d v) K) : GStep P hb w o σ (fun τ => K (τ.put d v)) := by
  cases w with
  | true => exact OStep.put_back ha hfr h
  | false =>
    have := (apartB_spec ha).1
    show K ((σ.put o.dst (.tp [])).put d v)
    rw [← put_put this]; exact h
theorem GStep.put_fwd {hb w : Bool} {o : Oper} {d : Option Tmp} {v : TV} {K : St → Prop} (ha : apartB d o = true) (hfr : mayNew o = true → ∀ e, o.dst = some e → Fresh σ (nameOf σ e) → Fresh (σ.put d v) (nameOf σ e)) (h : GStep P hb w o σ (fun τ => K (τ.put d v))) : GStep P hb w o (σ.put d v) K := by
  cases w with
  | true => exact OStep.put_fwd ha hfr h
  | false =>
    have := (apartB_spec ha).1
    show K ((σ.put d v).put o.dst (.tp []))
    rw [put_put this]; exact h
structure Like (q : Nm → Prop) (o : Oper) (σ σ2 : St) : Prop where
  ev : ∀ x ∈ o.op.operands.toList, σ.ev x = σ2.ev x
  ob : ObLe q σ.ob σ2.ob
  all : ∀ x, (σ2.ev x).All q
  G : σ2.G = σ.G
theorem V_out {hb w : Bool} {o : Oper} {K : St → Prop} (hv : (!w || isV hb o) = true) (h : GStep P hb w o σ K) :
    ∃ v, K (σ.put o.dst v) ∧ (∀ q, (∀ x, (σ.ev x).All q) → (∀ n (o : AObj), σ.ob n = some o → o.All q) → v.All q) ∧ ∀ q σ2, Like q o σ σ2 → ∀ K', K' (σ2.put o.dst v) → GStep P hb w o σ2 K' := by
  cases w with
  | false => exact ⟨.tp [], h, fun _ _ _ => no_all _, fun _ _ _ _ h => h⟩
  | true =>
    have hv : isV hb o = true := by simpa using hv
    cases h with
    | rv v hu k => exact ⟨v, k, fun q h1 h2 => RV_all h1 h2 hu, fun q σ2 hl K' h => .rv v (RV_ob hl.ob hl.all (RV_ev hl.ev hu)) h⟩
    | pcall f x args ats xs r ho hf hl hp hc k =>
      refine ⟨r, k, fun q _ _ => hc.1.mono (fun _ h => h.elim), fun q σ2 hk K' h => ?_⟩
      have hev := hk.ev
      rw [ho] at hev
      exact .pcall f x args ats xs r ho ((hev x mem_fn) ▸ hf) hl (fun k q hq hy h => ToPV_le hk.ob ((hev _ (mem_args hy)) ▸ hp k q hq hy h) (hk.all _)) (hk.G ▸ hc) h
    | icall f x m args ats t u xs r ho hf hm hl hp hc k =>
      refine ⟨r, k, fun q _ _ => hc.1.mono (fun _ h => h.elim), fun q σ2 hk K' h => ?_⟩
      have hev := hk.ev
      rw [ho] at hev
      exact .icall f x m args ats t u xs r ho ((hev x mem_fnI) ▸ hf) hm hl (fun k q hq hy h => ToPV_le hk.ob ((hev _ (mem_argsI hy)) ▸ hp k q hq hy h) (hk.all _)) (hk.G ▸ hc) h
    | hcall f x caps args ats xs R ho hf hp hS hc hne hbb k => rw [isV, ho] at hv; simp [hbb] at hv
    | alloc t e z ho hd hz h3 hf k => rw [isV, ho] at hv; cases hv
    | box t e x ho hd hc hf hS k => rw [isV, ho] at hv; cases hv
    | row t e len parts el z b xs ho hd ht hl hzz hz0 hn hi hx hp hc hf k => rw [isV, ho] at hv; cases hv
    | mkmap t e ho hd hf k => rw [isV, ho] at hv; cases hv
    | store t x y n off t' sz b l ho hx hn hl hy hk hoff hS k => rw [isV, ho] at hv; cases hv
    | app s x t e z n len xs ys ho hs hn hlen hx hok k => rw [isV, ho] at hv; cases hv
    | app0 s x t e el z ys ho hd hs hx hok hf k => rw [isV, ho] at hv; cases hv
    | mput t m x y n kt e es s uu ho hm hn ht hk hx hy k => rw [isV, ho] at hv; cases hv
theorem N_out {hb : Bool} {o : Oper} {K : St → Prop} (hv : isN o = true) (h : OStep P hb o σ K) :
    ∃ d obj v, o.dst = some d ∧ Fresh σ (nameOf σ d) ∧ K ((σ.add (nameOf σ d) obj).put (some d) v) ∧ (∀ q, (∀ x, (σ.ev x).All q) → obj.All q ∧ (q (nameOf σ d) → v.All q)) ∧
      ∀ q σ2, Like q o σ σ2 → nameOf σ2 d = nameOf σ d → Fresh σ2 (nameOf σ d) → ∀ K', K' ((σ2.add (nameOf σ d) obj).put (some d) v) → OStep P hb o σ2 K' := by
  cases h with
  | alloc t d z ho hd hz h3 hf k =>
    exact ⟨d, _, _, hd, hf, k, fun q hq => ⟨fun x hx => by obtain ⟨u', _, rfl⟩ := List.mem_map.1 hx; exact cv_all u', fun h => .ptr h⟩, fun q σ2 hl hn hf2 K' h => .alloc t d z ho hd hz h3 (hn ▸ hf2) (by rw [hn]; exact h)⟩
  | box t d x ho hd hc hf hS k =>
    refine ⟨d, _, _, hd, hf, k, fun q hq => ⟨tcells_all (hq x), fun h => .ptr h⟩, fun q σ2 hl hn hf2 K' h => ?_⟩
    have e : σ.ev x = σ2.ev x := hl.ev x (by rw [ho]; simp [Op.operands])
    exact .box t d x ho hd (e ▸ hc) (hn ▸ hf2) (by rw [hn, ← e]; exact hS) (by rw [hn, ← e]; exact h)
  | row t d len parts el z b xs ho hd ht hl hzz hz0 hn hi hx hp hc hf k =>
    refine ⟨d, _, _, hd, hf, k, fun q hq => ⟨trivial, fun h => .vw h⟩, fun q σ2 hlk hnm hf2 K' h => ?_⟩
    have hev := hlk.ev
    rw [ho] at hev
    exact .row t d len parts el z b xs ho hd ht hl hzz hz0 hn hi hx (fun k q x hq hx' => ToPV_le hlk.ob ((hev _ (mem_parts hq)) ▸ hp k q x hq hx') (hlk.all _)) hc (hnm ▸ hf2) (by rw [hnm]; exact h)
  | mkmap t d ho hd hf k =>
    exact ⟨d, _, _, hd, hf, k, fun q hq => ⟨trivial, fun h => .mp h⟩, fun q σ2 hl hn hf2 K' h => .mkmap t d ho hd (hn ▸ hf2) (by rw [hn]; exact h)⟩
  | rv v hu k => exfalso; unfold isN at hv; split at hv <;> first | (rename_i e; rw [e] at hu; exact hu) | cases hv
  | store t x y n off t' sz b l ho hx hn hl hy hk hoff hS k => rw [isN, ho] at hv; cases hv
  | app s x t e z n len xs ys ho hs hn hlen hx hok k => rw [isN, ho] at hv; cases hv
  | app0 s x t e el z ys ho hd hs hx hok hf k => rw [isN, ho] at hv; cases hv
  | mput t m x y n kt e es s uu ho hm hn ht hk hx hy k => rw [isN, ho] at hv; cases hv
  | pcall f x args ats xs r ho hf hl hp hc k => rw [isN, ho] at hv; cases hv
  | icall f x m args ats t u xs r ho hf hm hl hp hc k => rw [isN, ho] at hv; cases hv
  | hcall f x caps args ats xs R ho hf hp hS hc hne hbb k => rw [isN, ho] at hv; cases hv
def EvOff (d : Option Tmp) (σ τ : St) : Prop := (∀ x, (∀ t, d = some t → x ≠ .tmp t) → τ.ev x = σ.ev x) ∧ τ.G = σ.G
theorem evoff_put (d : Option Tmp) (v : TV) : EvOff d σ (σ.put d v) := ⟨fun x hx => put_ev hx, St.put_G σ d v⟩
theorem add_ev (m : Nm) (o : AObj) (x : Operand) : (σ.add m o).ev x = σ.ev x := by cases m <;> rfl
theorem set_ev (m : Nm) (o : AObj) (x : Operand) : (σ.set m o).ev x = σ.ev x := by cases m <;> rfl
theorem add_G (m : Nm) (o : AObj) : (σ.add m o).G = σ.G := by cases m <;> rfl
theorem EvOff.of {d : Option Tmp} {σ' : St} {v : TV} (h : ∀ x, σ'.ev x = σ.ev x) (hG : σ'.G = σ.G) : EvOff d σ (σ'.put d v) :=
  ⟨fun x hx => (put_ev hx).trans (h x), (St.put_G σ' d v).trans hG⟩
theorem OStep.off {hb : Bool} {o : Oper} {K : St → Prop} (h : OStep P hb o σ K) : OStep P hb o σ (fun τ => K τ ∧ EvOff o.dst σ τ) := by
  cases h with
  | rv v hu k => exact .rv v hu ⟨k, evoff_put _ _⟩
  | alloc t e z ho hd hz h3 hf k => exact .alloc t e z ho hd hz h3 hf ⟨k, by rw [hd]; exact .of (fun x => add_ev _ _ x) (add_G _ _)⟩
  | box t e x ho hd hc hf hS k => exact .box t e x ho hd hc hf hS ⟨k, by rw [hd]; exact .of (fun x => add_ev _ _ x) (add_G _ _)⟩
  | row t e len parts el z b xs ho hd ht hl hzz hz0 hn hi hx hp hc hf k => exact .row t e len parts el z b xs ho hd ht hl hzz hz0 hn hi hx hp hc hf ⟨k, by rw [hd]; exact .of (fun x => add_ev _ _ x) (add_G _ _)⟩
  | mkmap t e ho hd hf k => exact .mkmap t e ho hd hf ⟨k, by rw [hd]; exact .of (fun x => add_ev _ _ x) (add_G _ _)⟩
  | store t x y n off t' sz b l ho hx hn hl hy hk hoff hS k => exact .store t x y n off t' sz b l ho hx hn hl hy hk hoff hS ⟨k, .of (fun x => set_ev _ _ x) (set_G _)⟩
  | app s x t e z n len xs ys ho hs hn hlen hx hok k => exact .app s x t e z n len xs ys ho hs hn hlen hx hok ⟨k, .of (fun x => set_ev _ _ x) (set_G _)⟩
  | app0 s x t e el z ys ho hd hs hx hok hf k => exact .app0 s x t e el z ys ho hd hs hx hok hf ⟨k, by rw [hd]; exact .of (fun x => add_ev _ _ x) (add_G _ _)⟩
  | mput t m x y n kt e es s uu ho hm hn ht hk hx hy k => exact .mput t m x y n kt e es s uu ho hm hn ht hk hx hy ⟨k, .of (fun x => set_ev _ _ x) (set_G _)⟩
  | pcall f x args ats xs r ho hf hl hp hc k => exact .pcall f x args ats xs r ho hf hl hp hc ⟨k, evoff_put _ _⟩
  | icall f x m args ats t u xs r ho hf hm hl hp hc k => exact .icall f x m args ats t u xs r ho hf hm hl hp hc ⟨k, evoff_put _ _⟩
  | hcall f x caps args ats xs R ho hf hp hS hc hne hbb k => exact .hcall f x caps args ats xs R ho hf hp hS hc hne hbb (fun r H' hR hA hB => ⟨k r H' hR hA hB, .of (fun _ => rfl) rfl⟩)
theorem OStep.ex {hb : Bool} {o : Oper} {K : St → Prop} (h : OStep P hb o σ K) : ∃ τ, K τ := by
  cases h with
  | hcall f x caps args ats xs R ho hf hp hS hc hne hbb k => obtain ⟨r, H', hR, hA, hB⟩ := hne; exact ⟨_, k r H' hR hA hB⟩
  | rv v hu k => exact ⟨_, k⟩
  | alloc t e z ho hd hz h3 hf k => exact ⟨_, k⟩
  | box t e x ho hd hc hf hS k => exact ⟨_, k⟩
  | row t e len parts el z b xs ho hd ht hl hzz hz0 hn hi hx hp hc hf k => exact ⟨_, k⟩
  | mkmap t e ho hd hf k => exact ⟨_, k⟩
  | store t x y n off t' sz b l ho hx hn hl hy hk hoff hS k => exact ⟨_, k⟩
  | app s x t e z n len xs ys ho hs hn hlen hx hok k => exact ⟨_, k⟩
  | app0 s x t e el z ys ho hd hs hx hok hf k => exact ⟨_, k⟩
  | mput t m x y n kt e es s uu ho hm hn ht hk hx hy k => exact ⟨_, k⟩
  | pcall f x args ats xs r ho hf hl hp hc k => exact ⟨_, k⟩
  | icall f x m args ats t u xs r ho hf hm hl hp hc k => exact ⟨_, k⟩
theorem GStep.off {hb w : Bool} {o : Oper} {K : St → Prop} (h : GStep P hb w o σ K) : GStep P hb w o σ (fun τ => K τ ∧ EvOff o.dst σ τ) := by
  cases w with
  | true => exact OStep.off h
  | false => exact ⟨h, evoff_put _ _⟩
theorem GStep.ex {hb w : Bool} {o : Oper} {K : St → Prop} (h : GStep P hb w o σ K) : ∃ τ, K τ := by
  cases w with
  | true => exact OStep.ex h
  | false => exact ⟨_, h⟩
theorem I_out {hb w : Bool} {o : Oper} {K : St → Prop} (hv : (!w || inert o.op) = true) (h : GStep P hb w o σ K) :
    ∃ v, K (σ.put o.dst v) ∧ (∀ σ2, (∀ x ∈ o.op.operands.toList, σ.ev x = σ2.ev x) → σ2.G = σ.G → (∀ K', K' (σ2.put o.dst v) → GStep P hb w o σ2 K') ∧ ∀ K', GStep P hb w o σ2 K' → K' (σ2.put o.dst v)) ∧ (∀ q, (∀ x, (σ.ev x).All q) → v.All q) := by
  cases w with
  | false => exact ⟨.tp [], h, fun _ _ _ => ⟨fun _ h => h, fun _ h => h⟩, fun _ _ => no_all _⟩
  | true =>
    have hv : inert o.op = true := by simpa using hv
    have hrv : ∀ {σ2 : St} {K' : St → Prop}, OStep P hb o σ2 K' → ∃ v, RV P σ2.ob σ2.ev v o.op ∧ K' (σ2.put o.dst v) := by
      intro σ2 K' h
      cases h with
      | rv v hu k => exact ⟨v, hu, k⟩
      | pcall f x args ats xs r ho hf hl hp hc k => rw [ho] at hv; cases hv
      | icall f x m args ats t u xs r ho hf hm hl hp hc k => rw [ho] at hv; cases hv
      | hcall f x caps args ats xs R ho hf hp hS hc hne hbb k => rw [ho] at hv; cases hv
      | alloc t e z ho hd hz h3 hf k => rw [ho] at hv; cases hv
      | box t e x ho hd hc hf hS k => rw [ho] at hv; cases hv
      | row t e len parts el z b xs ho hd ht hl hzz hz0 hn hi hx hp hc hf k => rw [ho] at hv; cases hv
      | mkmap t e ho hd hf k => rw [ho] at hv; cases hv
      | store t x y n off t' sz b l ho hx hn hl hy hk hoff hS k => rw [ho] at hv; cases hv
      | app s x t e z n len xs ys ho hs hn hlen hx hok k => rw [ho] at hv; cases hv
      | app0 s x t e el z ys ho hd hs hx hok hf k => rw [ho] at hv; cases hv
      | mput t m x y n kt e es s uu ho hm hn ht hk hx hy k => rw [ho] at hv; cases hv
    obtain ⟨v, hu, k⟩ := hrv h
    refine ⟨v, k, fun σ2 hev hG => ⟨fun K' h => .rv v (RV_inert (St.glbE σ2) hv (RV_ev hev hu)) h, fun K' h => ?_⟩, fun q hq => RV_all (ob := fun _ => none) hq (fun n o h => by cases h) (RV_inert (St.glbE σ) hv hu)⟩
    obtain ⟨v', hu', k'⟩ := hrv h
    rwa [RV_det (St.glbE σ2) hv (RV_ev hev hu) hu']
end Go.Proofs.YtglkkbgflnpjeaaGreatDoor.En
end
section
namespace Go.Proofs.YtglkkbgflnpjeaaGreatDoor.En
set_option linter.unusedVariables false
set_option linter.unusedSimpArgs false
open Go Go.RowKit Go.Proofs.YtglkkbgflnpjeaaGreatDoor.PA
variable {P : Program} {σ : St}
theorem TV.all_true (v : TV) : v.All (fun _ => True) := hAllT v
structure Clean (σ : St) (m : Nm) : Prop where
  fr : Fresh σ m
  tm : ∀ t, (σ.tm t).All (· ≠ m)
  ob : ∀ n (o : AObj), σ.ob n = some o → o.All (· ≠ m)
theorem Clean.ev {m : Nm} (h : Clean σ m) (x : Operand) : (σ.ev x).All (· ≠ m) := by
  cases x with
  | tmp t => exact h.tm t
  | const v => exact cv_all v
  | global g => simp only [St.ev]; split; exact .pe; exact .u
  | func f => exact .fn (fun x hx => by cases hx)
theorem nameOf_add {m : Nm} {o : AObj} {d : Nat} (hm : ∃ e, m = .L e) : nameOf (σ.add m o) d = nameOf σ d := by
  obtain ⟨e, rfl⟩ := hm
  rfl
theorem add_md (m : Nm) (o : AObj) : (σ.add m o).md = σ.md := by cases m <;> rfl
theorem Fresh_add {m : Nm} {e : Nat} {o : AObj} (h : Fresh σ (.L e)) (hne : m ≠ .L e) (ho : ∀ t, m = .L t → o.All (· ≠ .L e)) : Fresh (σ.add m o) (.L e) := by
  cases m with
  | S i => exact h
  | L t =>
    have hte : e ≠ t := fun q => hne (by rw [q])
    refine ⟨?_, h.2.1, fun t' o' ho' => ?_⟩
    · show updT σ.lm t (some o) e = none
      rw [updT_eq, if_neg hte]; exact h.1
    · have h2 : updT σ.lm t (some o) t' = some o' := ho'
      rw [updT_eq] at h2
      split at h2
      · cases h2; exact ho t rfl
      · exact h.2.2 t' o' h2
theorem add_add {e t : Nat} {o o' : AObj} (h : e ≠ t) : (σ.add (.L e) o).add (.L t) o' = (σ.add (.L t) o').add (.L e) o := by
  show ({ σ with lm := updT (updT σ.lm e (some o)) t (some o') } : St) = { σ with lm := updT (updT σ.lm t (some o')) e (some o) }
  congr 1
  funext i
  simp only [updT_eq]
  by_cases q1 : i = t
  · subst q1; simp [Ne.symm h]
  · simp [q1]
def isNL (md : Nat → Nat) (o : Oper) : Bool := isN o && (match o.dst with | some d => md d == 0 | none => false)
def classB (md : Nat → Nat) (hj hi : Bool) (oj oi : Oper) : Bool :=
  (isV hj oj && (isV hi oi || isNL md oi)) || (isNL md oj && (isV hi oi || isNL md oi)) || inert oj.op || inert oi.op
theorem like_put {o : Oper} {d : Option Tmp} {v : TV} (h : ∀ x ∈ o.op.operands.toList, ∀ t, d = some t → x ≠ .tmp t) : Like (fun _ => True) o σ (σ.put d v) :=
  ⟨fun x hx => (put_ev (h x hx)).symm, fun n a _ ha => by rw [St.put_ob]; exact ha, fun x => TV.all_true _, St.put_G σ d v⟩
theorem like_unput {o : Oper} {d : Option Tmp} {v : TV} (h : ∀ x ∈ o.op.operands.toList, ∀ t, d = some t → x ≠ .tmp t) : Like (fun _ => True) o (σ.put d v) σ :=
  ⟨fun x hx => put_ev (h x hx), fun n a _ ha => by rw [St.put_ob] at ha; exact ha, fun x => TV.all_true _, (St.put_G σ d v).symm⟩
theorem swap_step {hj hi wj wi : Bool} {oj oi : Oper} {K : St → Prop} (h1 : apartB oj.dst oi = true) (h2 : apartB oi.dst oj = true) (hc : classB σ.md hj hi oj oi = true)
    (cj : mayNew oj = true → ∀ d, oj.dst = some d → σ.md d = 0 → Clean σ (.L d)) (ci : mayNew oi = true → ∀ d, oi.dst = some d → σ.md d = 0 → Clean σ (.L d))
    (h : GStep P hj wj oj σ (fun τ => GStep P hi wi oi τ K)) : GStep P hi wi oi σ (fun τ => GStep P hj wj oj τ K) := by
  obtain ⟨a1, a2⟩ := apartB_spec h1
  obtain ⟨b1, b2⟩ := apartB_spec h2
  have hL : ∀ d, σ.md d = 0 → nameOf σ d = .L d := fun d hd => by unfold nameOf; rw [hd]
  have hNL : ∀ {o : Oper}, isNL σ.md o = true → isN o = true ∧ ∀ d, o.dst = some d → σ.md d = 0 := by
    intro o q
    simp only [isNL, Bool.and_eq_true] at q
    refine ⟨q.1, fun d hd => ?_⟩
    rw [hd] at q
    simpa using q.2
  have hNj : isN oj = true → mayNew oj = true := by unfold isN mayNew; intro q; split at q <;> simp_all
  have hNi : isN oi = true → mayNew oi = true := by unfold isN mayNew; intro q; split at q <;> simp_all
  have caseVV : (!wj || isV hj oj) = true → (!wi || isV hi oi) = true → GStep P hi wi oi σ (fun τ => GStep P hj wj oj τ K) := by
    intro qj qi
    obtain ⟨v, k, _, tr⟩ := V_out qj h
    obtain ⟨vi, ki, _, tri⟩ := V_out qi k
    refine tri _ σ (like_unput a2) _ (tr _ (σ.put oi.dst vi) (like_put b2) _ ?_)
    rwa [put_put b1]
  have caseVN : (!wj || isV hj oj) = true → wi = true → isNL σ.md oi = true → GStep P hi wi oi σ (fun τ => GStep P hj wj oj τ K) := by
    intro qj qw qi
    obtain ⟨qi, m2⟩ := hNL qi
    subst qw
    obtain ⟨v, k, _, tr⟩ := V_out qj h
    obtain ⟨d, obj, vi, e1, e2, e3, e4, e5⟩ := N_out qi k
    rw [nameOf_put] at e3 e5
    have hcl := ci (hNi qi) d e1 (m2 d e1)
    rw [← hL d (m2 d e1)] at hcl
    refine e5 _ σ (like_unput a2) (by rfl) hcl.fr _ (tr (fun _ => True) _ ⟨fun x hx => ?_, fun n a _ ha => ?_, fun x => TV.all_true _, ?_⟩ _ ?_)
    · rw [put_ev (fun t q => b2 x hx t (by rw [e1]; exact q)), add_ev]
    · rw [St.put_ob, add_other _ hcl.fr (fun q => by subst q; rw [Fresh.gone hcl.fr] at ha; cases ha)]; exact ha
    · rw [St.put_G, add_G]
    · rw [put_add, put_put (by rw [← e1]; exact a1)] at e3
      exact e3
  have caseNV : wj = true → isNL σ.md oj = true → (!wi || isV hi oi) = true → GStep P hi wi oi σ (fun τ => GStep P hj wj oj τ K) := by
    intro qw qj qi
    obtain ⟨qj, m1⟩ := hNL qj
    subst qw
    obtain ⟨d, obj, vj, e1, e2, e3, e4, e5⟩ := N_out qj h
    have hcl := cj (hNj qj) d e1 (m1 d e1)
    rw [← hL d (m1 d e1)] at hcl
    obtain ⟨vi, ki, _, tri⟩ := V_out qi e3
    have trσ : ∀ K', K' (σ.put oi.dst vi) → GStep P hi wi oi σ K' := fun K' hK => tri (· ≠ nameOf σ d) σ ⟨fun x hx => by rw [put_ev (fun t q => a2 x hx t (by rw [e1]; exact q)), add_ev], fun n a hn ha => by rw [St.put_ob, add_other _ hcl.fr hn] at ha; exact ha, hcl.ev, by rw [St.put_G, add_G]⟩ K' hK
    obtain ⟨v', q1, q2, _⟩ := V_out qi (trσ (fun τ => τ = σ.put oi.dst vi) rfl)
    have hf : Fresh (σ.put oi.dst vi) (nameOf σ d) := by rw [← q1]; exact Fresh_put hcl.fr (q2 _ hcl.ev hcl.ob)
    refine trσ _ (e5 (fun _ => True) (σ.put oi.dst vi) (like_put b2) (nameOf_put _ _ _) hf _ ?_)
    rw [put_add, put_put (by rw [← e1]; exact b1)]
    exact ki
  have caseNN : wj = true → wi = true → isN oj = true → isN oi = true → (∀ d, oj.dst = some d → σ.md d = 0) → (∀ d, oi.dst = some d → σ.md d = 0) → GStep P hi wi oi σ (fun τ => GStep P hj wj oj τ K) := by
    intro qw1 qw2 qj qi m1 m2
    subst qw1
    subst qw2
    obtain ⟨d, obj, vj, e1, e2, e3, e4, e5⟩ := N_out qj h
    obtain ⟨d', obj', vi, f1, f2, f3, f4, f5⟩ := N_out qi e3
    have n1 : nameOf σ d = .L d := by unfold nameOf; rw [m1 d e1]
    have n2 : nameOf σ d' = .L d' := by unfold nameOf; rw [m2 d' f1]
    have n3 : nameOf ((σ.add (.L d) obj).put (some d) vj) d' = .L d' := by unfold nameOf; rw [put_md, add_md, m2 d' f1]
    rw [n1] at e2 e3 e5
    rw [n1] at f2 f3 f5
    rw [n3] at f2 f3 f5
    have hclj := cj (hNj qj) d e1 (m1 d e1)
    have hcli := ci (hNi qi) d' f1 (m2 d' f1)
    have hdd : d ≠ d' := fun q => a1 d e1 (by rw [f1, q])
    have trσ : ∀ K', K' ((σ.add (.L d') obj').put (some d') vi) → OStep P hi oi σ K' := fun K' hK => f5 (· ≠ .L d) σ ⟨fun x hx => by rw [put_ev (fun t q => a2 x hx t (by rw [e1]; exact q)), add_ev], fun n a hn ha => by rw [St.put_ob, add_other _ hclj.fr hn] at ha; exact ha, hclj.ev, by rw [St.put_G, add_G]⟩ n2 hcli.fr K' hK
    obtain ⟨d2, obj2, v2, g1, g2, g3, g4, g5⟩ := N_out qi (trσ (fun τ => τ = (σ.add (.L d') obj').put (some d') vi) rfl)
    rw [f1] at g1
    cases g1
    rw [n2] at g3 g4
    obtain ⟨g6, g7⟩ := g4 (· ≠ .L d) hclj.ev
    have hf : Fresh ((σ.add (.L d') obj').put (some d') vi) (.L d) := by
      rw [← g3]
      exact Fresh_put (Fresh_add hclj.fr (fun q => hdd (by cases q; rfl)) (fun _ _ => g6)) (g7 (fun q => hdd (by cases q; rfl)))
    refine trσ _ (e5 (fun _ => True) _ ⟨fun x hx => ?_, fun n a _ ha => ?_, fun x => TV.all_true _, ?_⟩ (by rw [nameOf_put]; exact n1) hf _ ?_)
    · rw [put_ev (fun t q => b2 x hx t (by rw [f1]; exact q)), add_ev]
    · rw [St.put_ob, add_other _ hcli.fr (fun q => by subst q; rw [Fresh.gone hcli.fr] at ha; cases ha)]; exact ha
    · rw [St.put_G, add_G]
    · rw [put_add, add_add (fun q => hdd q.symm), put_put (fun x hx => by cases hx; intro q; cases q; exact hdd rfl)]
      rw [put_add] at f3
      exact f3
  have caseIX : (!wj || inert oj.op) = true → GStep P hi wi oi σ (fun τ => GStep P hj wj oj τ K) := by
    intro qj
    obtain ⟨v, k, tr, hall⟩ := I_out qj h
    have hb := k.put_back h1 (fun hm e he _ => (by
      cases hmd : σ.md e with
      | zero => rw [hL e hmd]; exact (ci hm e he hmd).fr
      | succ n => have q : nameOf σ e = .S σ.H.length := (by unfold nameOf; rw [hmd]); rw [q]; exact rfl : Fresh σ (nameOf σ e)))
    refine hb.off.mono (fun τ hτ => ?_)
    exact ((tr τ (fun x hx => (hτ.2.1 x (fun t q => b2 x hx t q)).symm) hτ.2.2).1 _ hτ.1)
  have caseXI : (!wi || inert oi.op) = true → GStep P hi wi oi σ (fun τ => GStep P hj wj oj τ K) := by
    intro qi
    obtain ⟨τ0, k0, o0⟩ := h.off.ex
    obtain ⟨v, k, tr, hall⟩ := I_out qi k0
    have ev0 : ∀ x ∈ oi.op.operands.toList, τ0.ev x = σ.ev x := fun x hx => o0.1 x (fun t q => a2 x hx t q)
    have trσ := tr σ ev0 o0.2.symm
    obtain ⟨v', q1, _, q2⟩ := I_out qi (trσ.1 (fun τ => τ = σ.put oi.dst v) rfl)
    refine trσ.1 _ (GStep.put_fwd h2 (fun hm e he hf => ?_) (h.off.mono (fun τ hτ => ?_)))
    · cases hmd : σ.md e with
      | zero => rw [hL e hmd] at hf ⊢; rw [← q1]; exact Fresh_put hf (q2 _ (cj hm e he hmd).ev)
      | succ n => have q : nameOf σ e = .S σ.H.length := (by unfold nameOf; rw [hmd]); rw [q]; exact (congrArg List.length (St.put_H σ oi.dst v)).symm
    · exact (tr τ (fun x hx => (ev0 x hx).trans (hτ.2.1 x (fun t q => a2 x hx t q)).symm) (hτ.2.2.trans o0.2.symm)).2 _ hτ.1
  cases wj with
  | false => exact caseIX rfl
  | true =>
    cases wi with
    | false => exact caseXI rfl
    | true =>
      simp only [classB, Bool.or_eq_true, Bool.and_eq_true] at hc
      rcases hc with ((⟨q1, q2 | q2⟩ | ⟨q1, q2 | q2⟩) | q1) | q1
      · exact caseVV (by simpa using q1) (by simpa using q2)
      · exact caseVN (by simpa using q1) rfl q2
      · exact caseNV rfl q1 (by simpa using q2)
      · exact caseNN rfl rfl (hNL q1).1 (hNL q2).1 (hNL q1).2 (hNL q2).2
      · exact caseIX (by simpa using q1)
      · exact caseXI (by simpa using q1)
theorem GStep.fresh {hb w : Bool} {o : Oper} {K : St → Prop} {e : Nat} (hcl : Clean σ (.L e)) (hd : ∀ d, mayNew o = true → o.dst = some d → d ≠ e) (h : GStep P hb w o σ K) : GStep P hb w o σ (fun τ => K τ ∧ Fresh τ (.L e)) := by
  have hname : ∀ d, d ≠ e → nameOf σ d ≠ .L e := by
    intro d hde q
    unfold nameOf at q
    split at q
    · cases q; exact hde rfl
    · cases q
  cases w with
  | false => exact ⟨h, Fresh_put hcl.fr (no_all _)⟩
  | true =>
    have hset : ∀ {n : Nm} {o' : AObj}, o'.All (· ≠ .L e) → (σ.ob n).isSome → Fresh (σ.set n o') (.L e) := by
      intro n o' ho' hs
      cases n with
      | S i => exact hcl.fr
      | L t =>
        have hte : e ≠ t := by
          rintro rfl
          have : σ.lm e = none := hcl.fr.1
          have hs' : (σ.lm e).isSome := hs
          rw [this] at hs'; cases hs'
        refine ⟨?_, hcl.fr.2.1, fun t' o'' h2 => ?_⟩
        · show updT σ.lm t (some o') e = none
          rw [updT_eq, if_neg hte]; exact hcl.fr.1
        · have h3 : updT σ.lm t (some o') t' = some o'' := h2
          rw [updT_eq] at h3
          split at h3
          · cases h3; exact ho'
          · exact hcl.fr.2.2 t' o'' h3
    cases h with
    | rv v hu k => exact .rv v hu ⟨k, Fresh_put hcl.fr (RV_all hcl.ev hcl.ob hu)⟩
    | alloc t d z ho hdd hz h3 hf k =>
      have hn := hname d (hd d (by rw [mayNew, ho]) hdd)
      exact .alloc t d z ho hdd hz h3 hf ⟨k, Fresh_put (Fresh_add hcl.fr hn (fun _ _ x hx => by obtain ⟨u', _, rfl⟩ := List.mem_map.1 hx; exact cv_all u')) (.ptr hn)⟩
    | box t d x ho hdd hc hf hS k =>
      have hn := hname d (hd d (by rw [mayNew, ho]) hdd)
      exact .box t d x ho hdd hc hf hS ⟨k, Fresh_put (Fresh_add hcl.fr hn (fun _ _ => tcells_all (hcl.ev x))) (.ptr hn)⟩
    | row t d len parts el z b xs ho hdd ht hl hzz hz0 hn' hi hx hp hc hf k =>
      have hn := hname d (hd d (by rw [mayNew, ho]) hdd)
      exact .row t d len parts el z b xs ho hdd ht hl hzz hz0 hn' hi hx hp hc hf ⟨k, Fresh_put (Fresh_add hcl.fr hn (fun _ _ => trivial)) (.vw hn)⟩
    | mkmap t d ho hdd hf k =>
      have hn := hname d (hd d (by rw [mayNew, ho]) hdd)
      exact .mkmap t d ho hdd hf ⟨k, Fresh_put (Fresh_add hcl.fr hn (fun _ _ => trivial)) (.mp hn)⟩
    | store t x y n off t' sz b l ho hx hn hl hy hk hoff hS k =>
      refine .store t x y n off t' sz b l ho hx hn hl hy hk hoff hS ⟨k, Fresh_put (hset (fun c hc => ?_) (by rw [hn]; rfl)) .u⟩
      unfold splice at hc
      rcases List.mem_append.1 hc with hc | hc
      · rcases List.mem_append.1 hc with hc | hc
        · exact hcl.ob n _ hn c (List.mem_of_mem_take hc)
        · exact tcells_all (hcl.ev y) c hc
      · exact hcl.ob n _ hn c (List.mem_of_mem_drop hc)
    | app s x t el z n len xs ys ho hs hn hlen hx hok k =>
      refine .app s x t el z n len xs ys ho hs hn hlen hx hok ⟨k, Fresh_put (hset trivial (by rw [hn]; rfl)) (.vw ?_)⟩
      have := hcl.ev s
      rw [hs] at this
      cases this with | vw h => exact h
    | app0 s x t d el z ys ho hdd hs hx hok hf k =>
      have hn := hname d (hd d (by rw [mayNew, ho]) hdd)
      exact .app0 s x t d el z ys ho hdd hs hx hok hf ⟨k, Fresh_put (Fresh_add hcl.fr hn (fun _ _ => trivial)) (.vw hn)⟩
    | mput t m x y n kt el es s uu ho hm hn ht hk hx hy k => exact .mput t m x y n kt el es s uu ho hm hn ht hk hx hy ⟨k, Fresh_put (hset trivial (by rw [hn]; rfl)) .u⟩
    | pcall f x args ats xs r ho hf hl hp hc k => exact .pcall f x args ats xs r ho hf hl hp hc ⟨k, Fresh_put hcl.fr (hc.1.mono (fun _ h => h.elim))⟩
    | icall f x m args ats t u xs r ho hf hm hl hp hc k => exact .icall f x m args ats t u xs r ho hf hm hl hp hc ⟨k, Fresh_put hcl.fr (hc.1.mono (fun _ h => h.elim))⟩
    | hcall f x caps args ats xs R ho hf hp hS hc hne hbb k =>
      exact .hcall f x caps args ats xs R ho hf hp hS hc hne hbb (fun r H' hR hA hB => ⟨k r H' hR hA hB, Fresh_put (σ := { σ with H := H' }) hcl.fr (hA.mono (fun n hn => isS_ne hn))⟩)
theorem add_nt (m : Nm) (o : AObj) : (σ.add m o).nt = σ.nt := by cases m <;> rfl
theorem OStep.nt {hb : Bool} {o : Oper} {K : St → Prop} (h : OStep P hb o σ K) : OStep P hb o σ (fun τ => K τ ∧ τ.nt = σ.nt ∧ τ.md = σ.md) := by
  have s1 : ∀ (m : Nm) (o : AObj), (σ.set m o).md = σ.md := fun m o => by cases m <;> rfl
  cases h with
  | rv v hu k => exact .rv v hu ⟨k, St.put_nt _ _ _, put_md _ _⟩
  | alloc t e z ho hd hz h3 hf k => exact .alloc t e z ho hd hz h3 hf ⟨k, by rw [St.put_nt, add_nt], by rw [put_md, add_md]⟩
  | box t e x ho hd hc hf hS k => exact .box t e x ho hd hc hf hS ⟨k, by rw [St.put_nt, add_nt], by rw [put_md, add_md]⟩
  | row t e len parts el z b xs ho hd ht hl hzz hz0 hn hi hx hp hc hf k => exact .row t e len parts el z b xs ho hd ht hl hzz hz0 hn hi hx hp hc hf ⟨k, by rw [St.put_nt, add_nt], by rw [put_md, add_md]⟩
  | mkmap t e ho hd hf k => exact .mkmap t e ho hd hf ⟨k, by rw [St.put_nt, add_nt], by rw [put_md, add_md]⟩
  | store t x y n off t' sz b l ho hx hn hl hy hk hoff hS k => exact .store t x y n off t' sz b l ho hx hn hl hy hk hoff hS ⟨k, by rw [St.put_nt, set_nt], by rw [put_md, s1]⟩
  | app s x t e z n len xs ys ho hs hn hlen hx hok k => exact .app s x t e z n len xs ys ho hs hn hlen hx hok ⟨k, by rw [St.put_nt, set_nt], by rw [put_md, s1]⟩
  | app0 s x t e el z ys ho hd hs hx hok hf k => exact .app0 s x t e el z ys ho hd hs hx hok hf ⟨k, by rw [St.put_nt, add_nt], by rw [put_md, add_md]⟩
  | mput t m x y n kt e es s uu ho hm hn ht hk hx hy k => exact .mput t m x y n kt e es s uu ho hm hn ht hk hx hy ⟨k, by rw [St.put_nt, set_nt], by rw [put_md, s1]⟩
  | pcall f x args ats xs r ho hf hl hp hc k => exact .pcall f x args ats xs r ho hf hl hp hc ⟨k, St.put_nt _ _ _, put_md _ _⟩
  | icall f x m args ats t u xs r ho hf hm hl hp hc k => exact .icall f x m args ats t u xs r ho hf hm hl hp hc ⟨k, St.put_nt _ _ _, put_md _ _⟩
  | hcall f x caps args ats xs R ho hf hp hS hc hne hbb k => exact .hcall f x caps args ats xs R ho hf hp hS hc hne hbb (fun r H' hR hA hB => ⟨k r H' hR hA hB, St.put_nt _ _ _, put_md _ _⟩)
theorem GStep.nt {hb b : Bool} {o : Oper} {K : St → Prop} (h : GStep P hb b o σ K) : GStep P hb b o σ (fun τ => K τ ∧ τ.nt = σ.nt ∧ τ.md = σ.md) := by
  cases b with
  | true => exact OStep.nt h
  | false => exact ⟨h, St.put_nt _ _ _, put_md _ _⟩
end Go.Proofs.YtglkkbgflnpjeaaGreatDoor.En
end
