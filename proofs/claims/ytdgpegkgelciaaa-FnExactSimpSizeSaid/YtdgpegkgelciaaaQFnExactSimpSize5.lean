-- Ytdgpegkgelciaaa's texts for the statement FnExactSimpSize, one behind the other (merge.py).
import Derived.Test.YtdgpegkgelciaaaQFnExactSimpSize4
import Derived.Test.YtdgpegkgelciaaaQFnExactSimpSize0
import Derived.Test.YtdgpegkgelciaaaQFnExactSimpSize1
import Derived.Test.YtdgpegkgelciaaaQFnExactSimpSize2
import Derived.Test.YtdgpegkgelciaaaQFnExactSimpSize3
import Derived.SizedLaws
import Derived.ChangeSlices
import Derived.Test.YtdgpegkgelciaaaRows
import Derived.WalkKit
import Derived.ProofKit
import Derived.OpenShut
import Derived.ShutString
import Derived.ChangeOld
import Derived.Below
section
namespace Go.Proofs.Ytdgpegkgelciaaa.ExU
open Go.RowKit Go.Proofs.Ytdgpegkgelciaaa.PA Go.Proofs.YtdgpegkgelciaaaW.PrintWords Go.Proofs.YtdgpegkgelciaaaW.PrintLast Go.Proofs.YtdgpegkgelciaaaW.PrintMore Go.Proofs.Ytdgpegkgelciaaa.OpenU
open Go.Proofs.Ytdgpegkgelciaaa.PA (Ev.pos Ev.neg Ev.val Ev.cast Ev.shift)
theorem suc63 (i : Nat) (h : i < 9223372036854775807) : wrap64 ((i : Int) + 1) = ((i + 1 : Nat) : Int) := by rw [w64 _ (by omega)]; omega
def left (a n : Nat) : Int := if n ≤ a then ((a - n : Nat) : Int) else -1
theorem left_neg (a n : Nat) : left a n < 0 ↔ a < n := by unfold left; split <;> omega
theorem left_ok {a n : Nat} (h : n ≤ a) : left a n = ((a - n : Nat) : Int) := by unfold left; rw [if_pos h]
theorem left_bad {a n : Nat} (h : a < n) : left a n = -1 := by unfold left; rw [if_neg (by omega)]
theorem left_add {a n : Nat} (h : n ≤ a) (m : Nat) : left (a - n) m = left a (n + m) := by
  unfold left
  by_cases h2 : m ≤ a - n
  · rw [if_pos h2, if_pos (by omega)]; omega
  · rw [if_neg h2, if_neg (by omega)]
def Cut (a n : Nat) (t : Int) : Prop := (n ≤ a → t = ((a - n : Nat) : Int)) ∧ (a < n → t < 0)
theorem cut_left (a n : Nat) : Cut a n (left a n) := ⟨fun h => left_ok h, fun h => by rw [left_neg]; exact h⟩
theorem cut_wrap {a n : Nat} (ha : a ≤ 1048576) (hn : n ≤ 9223372036854775807) : Cut a n (wrap64 ((a : Int) - (n : Int))) := by
  rw [w64 _ (by omega)]
  exact ⟨fun h => by omega, fun h => by omega⟩
theorem evC {a n m : Nat} {t : Int} {g : Nat → Option Int} {f : Nat → Int → Option Int} (hg : Ev g t) (hc : Cut a n t) (hf : n ≤ a → Ev (fun k => f k ((a - n : Nat) : Int)) (left (a - n) m)) : Ev (fun k => (g k).bind fun t => if t < 0 then some (-1) else f k t) (left a (n + m)) := by
  refine Ev.bind (g := g) (f := fun k t => if t < 0 then some (-1) else f k t) hg ?_
  by_cases h : n ≤ a
  · rw [hc.1 h]
    exact Ev.neg (by omega) (Ev.cast (hf h) (left_add h m))
  · exact Ev.pos (hc.2 (by omega)) (Ev.val (left_bad (by omega)).symm)
theorem evB {a n m : Nat} {g : Nat → Option Int} {f : Nat → Int → Option Int} (hg : Ev g (left a n)) (hf : n ≤ a → Ev (fun k => f k ((a - n : Nat) : Int)) (left (a - n) m)) : Ev (fun k => (g k).bind fun t => if t < 0 then some (-1) else f k t) (left a (n + m)) :=
  evC hg (cut_left a n) hf
theorem evI {a n m : Nat} {f : Nat → Int → Option Int} (ha : a ≤ 1048576) (hn : n ≤ 9223372036854775807) (hf : n ≤ a → Ev (fun k => f k ((a - n : Nat) : Int)) (left (a - n) m)) : Ev (fun k => if wrap64 ((a : Int) - (n : Int)) < 0 then some (-1) else f k (wrap64 ((a : Int) - (n : Int)))) (left a (n + m)) := by
  rw [w64 _ (by omega)]
  by_cases h : n ≤ a
  · exact Ev.neg (by omega) (Ev.cast (by rw [show (a : Int) - (n : Int) = ((a - n : Nat) : Int) by omega]; exact hf h) (left_add h m))
  · exact Ev.pos (by omega) (Ev.val (left_bad (by omega)).symm)
theorem ev0 {a : Nat} : Ev (fun _ => some (a : Int)) (left a 0) := Ev.val (by rw [left_ok (by omega)]; rfl)
def sums {α : Type} (c : α → Nat) : List α → Nat
  | [] => 0
  | x :: r => c x + sums c r
theorem sums_mem {α : Type} {c : α → Nat} {x : α} : ∀ {l : List α}, x ∈ l → c x ≤ sums c l
  | y :: l, h => by
    rw [sums]
    rcases List.mem_cons.1 h with rfl | h
    · omega
    · have := sums_mem (c := c) h; omega
theorem loopSz {α : Type} (l : List α) (hl : l.length ≤ 9223372036854775807) (c : α → Nat) (F : Nat → α → Int → Option Int) (hF : ∀ x ∈ l, ∀ a : Nat, a ≤ 1048576 → ∃ t, Ev (fun k => F k x a) t ∧ Cut a (c x) t) :
    ∀ (d i a : Nat) (L : Nat → Int → Int → Option Int), (∀ k (a i : Nat) (h : i < l.length), L (k + 1) a i = (F k (l[i]'h) a).bind fun t => if t < 0 then some (-1) else L k t (wrap64 ((i : Int) + 1))) → (∀ k (a : Nat), L (k + 1) a l.length = some (a : Int)) →
      i + d = l.length → a ≤ 1048576 → Ev (fun k => L k a i) (left a (sums c (l.drop i)))
  | 0, i, a, L, hS, hE, hi, ha => by
    obtain rfl : i = l.length := by omega
    rw [List.drop_eq_nil_of_le (Nat.le_refl _)]
    exact Ev.step (f := fun _ => some (a : Int)) (fun k => hE k a) ev0
  | d + 1, i, a, L, hS, hE, hi, ha => by
    have h : i < l.length := by omega
    rw [List.drop_eq_getElem_cons h, sums]
    refine Ev.step (f := fun k => (F k (l[i]'h) a).bind fun t => if t < 0 then some (-1) else L k t (i + 1 : Nat)) (fun k => by rw [hS k a i h, suc63 i (by omega)]) ?_
    obtain ⟨t, ht, hc⟩ := hF _ (List.getElem_mem h) a ha
    exact evC (f := fun k t => L k t (i + 1 : Nat)) ht hc (fun hn => loopSz l hl c F hF d (i + 1) _ L hS hE (by omega) (by omega))
theorem loopTo {α β γ : Type} (l : List α) (hl : l.length ≤ 1000000000) (cv : α → β) (z : β) (F : Nat → α → Option γ) (g : γ → β) (r : α → γ) (hr : ∀ x, g (r x) = cv x) (hF : ∀ x ∈ l, Ev (fun k => F k x) (r x)) (L : Nat → List β → Int → Option (List β))
    (hS : ∀ k (acc : List β) (i : Nat) (h : i < l.length), L (k + 1) acc i = (F k (l[i]'h)).bind fun t => if (i : Int) < (acc.length : Int) then L k (acc.set (i : Int).toNat (g t)) (wrap64 ((i : Int) + 1)) else none) (hE : ∀ k acc, L (k + 1) acc l.length = some acc) :
    ∀ d i : Nat, i + d = l.length → Ev (fun k => L k ((l.take i).map cv ++ List.replicate d z) i) (l.map cv)
  | 0, i, hi => by
    obtain rfl : i = l.length := by omega
    exact Ev.step (f := fun _ => some (l.map cv)) (fun k => by rw [hE, List.take_length]; simp) (Ev.val rfl)
  | d + 1, i, hi => by
    have h : i < l.length := by omega
    refine Ev.step (f := fun k => (F k (l[i]'h)).bind fun t => if (i : Int) < (((l.take i).map cv ++ List.replicate (d + 1) z).length : Int) then L k (((l.take i).map cv ++ List.replicate (d + 1) z).set (i : Int).toNat (g t)) (i + 1 : Nat) else none) (fun k => by rw [hS k _ i h, suc63 i (by omega)]) ?_
    have hlen : ((l.take i).map cv).length = i := by rw [List.length_map, List.length_take]; omega
    refine Ev.bind (g := fun k => F k (l[i]'h)) (f := fun k t => if (i : Int) < (((l.take i).map cv ++ List.replicate (d + 1) z).length : Int) then L k (((l.take i).map cv ++ List.replicate (d + 1) z).set (i : Int).toNat (g t)) (i + 1 : Nat) else none) (hF _ (List.getElem_mem h)) ?_
    refine Ev.pos (by rw [List.length_append, hlen, List.length_replicate]; omega) ?_
    have e : ((l.take i).map cv ++ List.replicate (d + 1) z).set (i : Int).toNat (g (r (l[i]'h))) = (l.take (i + 1)).map cv ++ List.replicate d z := by
      rw [Int.toNat_natCast, hr, List.set_append_right _ _ (by omega), hlen, Nat.sub_self, List.replicate_succ, List.set_cons_zero, List.take_add_one, List.getElem?_eq_getElem h, Option.toList_some, List.map_append, List.append_assoc]
      rfl
    rw [e]
    exact loopTo l hl cv z F g r hr hF L hS hE d (i + 1) (by omega)
theorem loopEq {α : Type} (l : List α) (hl : l.length ≤ 1000000000) (F : Nat → α → Option Bool) (hF : ∀ x ∈ l, Ev (fun k => F k x) true) (L : Nat → Int → Option Bool)
    (hS : ∀ k (i : Nat) (h : i < l.length), L (k + 1) i = (F k (l[i]'h)).bind fun t => if t = true then L k (wrap64 ((i : Int) + 1)) else some false) (hE : ∀ k, L (k + 1) l.length = some true) :
    ∀ d i : Nat, i + d = l.length → Ev (fun k => L k i) true
  | 0, i, hi => by
    obtain rfl : i = l.length := by omega
    exact Ev.step (f := fun _ => some true) (fun k => hE k) (Ev.val rfl)
  | d + 1, i, hi => by
    have h : i < l.length := by omega
    refine Ev.step (f := fun k => (F k (l[i]'h)).bind fun t => if t = true then L k (i + 1 : Nat) else some false) (fun k => by rw [hS k i h, suc63 i (by omega)]) ?_
    exact Ev.bind (g := fun k => F k (l[i]'h)) (f := fun k t => if t = true then L k (i + 1 : Nat) else some false) (hF _ (List.getElem_mem h)) (Ev.pos rfl (loopEq l hl F hF L hS hE d (i + 1) (by omega)))
theorem rdS {l : List ByteArray} {i : Nat} (h : i < l.length) : rdOf ByteArray.empty l i = l[i] := by simp [rdOf, h]
theorem rdI {l : List Int} {i : Nat} (h : i < l.length) : rd l i = l[i] := by simp [rd, h]
theorem rdLT {l : List S96} {i : Nat} (h : i < l.length) : rd_T96 l i = l[i] := by simp [rd_T96, h]
theorem rdLB {l : List S93} {i : Nat} (h : i < l.length) : rd_T93 l i = l[i] := by simp [rd_T93, h]
theorem rdLU {l : List S37} {i : Nat} (h : i < l.length) : rd_T37 l i = l[i] := by simp [rd_T37, h]
theorem rdIT {l : List S78} {i : Nat} (h : i < l.length) : rd_T78 l i = l[i] := by simp [rd_T78, h]
theorem rdIB {l : List S64} {i : Nat} (h : i < l.length) : rd_T64 l i = l[i] := by simp [rd_T64, h]
theorem rdIU {l : List S45} {i : Nat} (h : i < l.length) : rd_T45 l i = l[i] := by simp [rd_T45, h]
mutual
def cntT : S96 → Nat
  | ⟨_, _, s, p, l⟩ => s.size + (p.length + cntTs l)
def cntTs : List S96 → Nat
  | [] => 0
  | x :: r => 1 + cntT x + cntTs r
end
mutual
def cvT : S96 → S78
  | ⟨a, b, s, p, l⟩ => ⟨a, b, s, p, cvTs l⟩
def cvTs : List S96 → List S78
  | [] => []
  | x :: r => cvT x :: cvTs r
end
theorem cntT_eq (x : S96) : cntT x = x.f2.size + (x.f3.length + cntTs x.f4) := by cases x; rw [cntT]
theorem cvT_eq (x : S96) : cvT x = ⟨x.f0, x.f1, x.f2, x.f3, cvTs x.f4⟩ := by cases x; rw [cvT]
theorem cntTs_eq : ∀ l : List S96, cntTs l = l.length + sums cntT l
  | [] => rfl
  | x :: r => by rw [cntTs, sums, List.length_cons, cntTs_eq r]; omega
theorem cvTs_eq : ∀ l : List S96, cvTs l = l.map cvT
  | [] => rfl
  | x :: r => by rw [cvTs, List.map_cons, cvTs_eq r]
def cntSs (l : List ByteArray) : Nat := l.length + sums ByteArray.size l
mutual
def cntB : S93 → Nat
  | ⟨_, ns, s, ts, ⟨b0, t0⟩, ⟨b1, t1⟩⟩ => cntSs ns + (s.size + (cntTs ts + ((cntBs b0 + cntTs t0) + (cntBs b1 + cntTs t1))))
def cntBs : List S93 → Nat
  | [] => 0
  | x :: r => 1 + cntB x + cntBs r
end
mutual
def cvB : S93 → S64
  | ⟨a, ns, s, ts, ⟨b0, t0⟩, ⟨b1, t1⟩⟩ => ⟨a, ns, s, cvTs ts, ⟨cvBs b0, cvTs t0⟩, ⟨cvBs b1, cvTs t1⟩⟩
def cvBs : List S93 → List S64
  | [] => []
  | x :: r => cvB x :: cvBs r
end
theorem cntB_eq (x : S93) : cntB x = cntSs x.f1 + (x.f2.size + (cntTs x.f3 + ((cntBs x.f4.f0 + cntTs x.f4.f1) + (cntBs x.f5.f0 + cntTs x.f5.f1)))) := by
  obtain ⟨_, _, _, _, ⟨_, _⟩, ⟨_, _⟩⟩ := x
  rw [cntB]
theorem cvB_eq (x : S93) : cvB x = ⟨x.f0, x.f1, x.f2, cvTs x.f3, ⟨cvBs x.f4.f0, cvTs x.f4.f1⟩, ⟨cvBs x.f5.f0, cvTs x.f5.f1⟩⟩ := by
  obtain ⟨_, _, _, _, ⟨_, _⟩, ⟨_, _⟩⟩ := x
  rw [cvB]
theorem cntBs_eq : ∀ l : List S93, cntBs l = l.length + sums cntB l
  | [] => rfl
  | x :: r => by rw [cntBs, sums, List.length_cons, cntBs_eq r]; omega
theorem cvBs_eq : ∀ l : List S93, cvBs l = l.map cvB
  | [] => rfl
  | x :: r => by rw [cvBs, List.map_cons, cvBs_eq r]
def cntU (p : S37) : Nat := p.f0.size + (cntSs p.f1 + (cntBs p.f2.f0 + cntTs p.f2.f1))
def cntUs (l : List S37) : Nat := l.length + sums cntU l
def cvU (p : S37) : S45 := ⟨p.f0, p.f1, ⟨cvBs p.f2.f0, cvTs p.f2.f1⟩⟩
def cvUs (l : List S37) : List S45 := l.map cvU
theorem szIntS_ev {l : List Int} (hl : l.length ≤ 9223372036854775807) {a : Nat} (ha : a ≤ 1048576) : Ev (fun _ => laws_szIntS.f l a) (left a l.length) :=
  evI (m := 0) (f := fun _ t => some t) ha hl (fun _ => ev0)
theorem szStr_ev {l : List ByteArray} (h : OkSs l) {a : Nat} (ha : a ≤ 1048576) : Ev (fun k => laws_szStringS.f k l a) (left a (cntSs l)) := by
  refine evI (f := fun k t => laws_szStringS.l0 k l t 0) ha h.1 (fun hn => ?_)
  have hh := loopSz l h.1 ByteArray.size (fun _ x t => some (wrap64 (t - (x.size : Int)))) (fun x hx b hb => ⟨_, Ev.now _, cut_wrap hb (h.2 x hx)⟩) l.length 0 (a - l.length) (fun k t i => laws_szStringS.l0 k l t i)
    (fun k b i hi => by simp only [laws_szStringS.l0]; rw [if_pos (by omega), if_pos (by omega), rdS hi]; rfl) (fun k b => by simp only [laws_szStringS.l0]; rw [if_neg (by omega)]) (by omega) (by omega)
  rw [List.drop_zero] at hh
  exact hh
theorem szTs_ev {l : List S96} (hl : l.length ≤ 9223372036854775807) (hF : ∀ x ∈ l, ∀ a : Nat, a ≤ 1048576 → Ev (fun k => laws_szTerm.F (laws_szTermS.f k) k x.f0 x.f1 x.f2 x.f3 x.f4 a) (left a (cntT x))) {a : Nat} (ha : a ≤ 1048576) : Ev (fun k => laws_szTermS.f k l a) (left a (cntTs l)) := by
  refine Ev.step (f := fun k => if wrap64 ((a : Int) - (l.length : Int)) < 0 then some (-1) else laws_szTermS.l0 k l (wrap64 ((a : Int) - (l.length : Int))) 0) (fun k => by simp only [laws_szTermS.f]) ?_
  rw [cntTs_eq]
  refine evI (f := fun k t => laws_szTermS.l0 k l t 0) ha hl (fun hn => ?_)
  have hh := loopSz l hl cntT (fun k x t => laws_szTerm.F (laws_szTermS.f k) k x.f0 x.f1 x.f2 x.f3 x.f4 t) (fun x hx b hb => ⟨_, hF x hx b hb, cut_left _ _⟩) l.length 0 (a - l.length) (fun k t i => laws_szTermS.l0 k l t i)
    (fun k b i hi => by simp only [laws_szTermS.l0]; rw [if_pos (by omega), if_pos (by omega), rdLT hi]) (fun k b => by simp only [laws_szTermS.l0]; rw [if_neg (by omega)]) (by omega) (by omega)
  rw [List.drop_zero] at hh
  exact hh
theorem szT_ev {x : S96} (h : Ok96 x) : ∀ a : Nat, a ≤ 1048576 → Ev (fun k => laws_szTerm.F (laws_szTermS.f k) k x.f0 x.f1 x.f2 x.f3 x.f4 a) (left a (cntT x)) := by
  induction h with
  | mk t h0 h1 h2 h3 h4 h5 h6 ih =>
    intro a ha
    rw [cntT_eq]
    refine evI (f := fun k s => (laws_szIntS.f t.f3 s).bind fun u => if u < 0 then some (-1) else ((laws_szTermS.f k t.f4 u).bind fun v => if v < 0 then some (-1) else some v)) ha h2 (fun hn => ?_)
    refine evB (f := fun k u => (laws_szTermS.f k t.f4 u).bind fun v => if v < 0 then some (-1) else some v) (szIntS_ev h3 (by omega)) (fun hn2 => ?_)
    exact evB (m := 0) (f := fun _ v => some v) (szTs_ev h5 ih (by omega)) (fun _ => ev0)
theorem szTl_ev {l : List S96} (h : OkTs l) {a : Nat} (ha : a ≤ 1048576) : Ev (fun k => laws_szTermS.f k l a) (left a (cntTs l)) := szTs_ev h.1 (fun x hx => szT_ev (h.2 x hx)) ha
theorem szBs_ev {l : List S93} (hl : l.length ≤ 9223372036854775807) (hF : ∀ x ∈ l, ∀ a : Nat, a ≤ 1048576 → Ev (fun k => laws_szBind.F (laws_szBindS.f k) k x.f0 x.f1 x.f2 x.f3 x.f4.f0 x.f4.f1 x.f5.f0 x.f5.f1 a) (left a (cntB x))) {a : Nat} (ha : a ≤ 1048576) : Ev (fun k => laws_szBindS.f k l a) (left a (cntBs l)) := by
  refine Ev.step (f := fun k => if wrap64 ((a : Int) - (l.length : Int)) < 0 then some (-1) else laws_szBindS.l0 k l (wrap64 ((a : Int) - (l.length : Int))) 0) (fun k => by simp only [laws_szBindS.f]) ?_
  rw [cntBs_eq]
  refine evI (f := fun k t => laws_szBindS.l0 k l t 0) ha hl (fun hn => ?_)
  have hh := loopSz l hl cntB (fun k x t => laws_szBind.F (laws_szBindS.f k) k x.f0 x.f1 x.f2 x.f3 x.f4.f0 x.f4.f1 x.f5.f0 x.f5.f1 t) (fun x hx b hb => ⟨_, hF x hx b hb, cut_left _ _⟩) l.length 0 (a - l.length) (fun k t i => laws_szBindS.l0 k l t i)
    (fun k b i hi => by simp only [laws_szBindS.l0]; rw [if_pos (by omega), if_pos (by omega), rdLB hi]) (fun k b => by simp only [laws_szBindS.l0]; rw [if_neg (by omega)]) (by omega) (by omega)
  rw [List.drop_zero] at hh
  exact hh
theorem szY_ev {bs : List S93} {ts : List S96} {R : Nat → List S93 → Int → Option Int} {a : Nat} (hb : ∀ a : Nat, a ≤ 1048576 → Ev (fun k => R k bs a) (left a (cntBs bs))) (ht : OkTs ts) (ha : a ≤ 1048576) : Ev (fun k => laws_szBody.F (R k) k bs ts a) (left a (cntBs bs + cntTs ts)) :=
  evB (f := fun k t => (laws_szTermS.f k ts t).bind fun u => if u < 0 then some (-1) else some u) (hb a ha) (fun hn => evB (m := 0) (f := fun _ v => some v) (szTl_ev ht (by omega)) (fun _ => ev0))
theorem szB_ev {x : S93} (h : Ok93 x) : ∀ a : Nat, a ≤ 1048576 → Ev (fun k => laws_szBind.F (laws_szBindS.f k) k x.f0 x.f1 x.f2 x.f3 x.f4.f0 x.f4.f1 x.f5.f0 x.f5.f1 a) (left a (cntB x)) := by
  induction h with
  | mk t h0 h1 h2 h3 h4 h5 h6 h7 h8 h9 ih1 ih2 =>
    intro a ha
    rw [cntB_eq]
    refine evB (f := fun k s => if wrap64 (s - (t.f2.size : Int)) < 0 then some (-1) else ((laws_szTermS.f k t.f3 (wrap64 (s - (t.f2.size : Int)))).bind fun u => if u < 0 then some (-1) else ((laws_szBody.F (laws_szBindS.f k) k t.f4.f0 t.f4.f1 u).bind fun v => if v < 0 then some (-1) else ((laws_szBody.F (laws_szBindS.f k) k t.f5.f0 t.f5.f1 v).bind fun z => if z < 0 then some (-1) else some z)))) (szStr_ev h1 ha) (fun hn => ?_)
    refine evI (f := fun k s => (laws_szTermS.f k t.f3 s).bind fun u => if u < 0 then some (-1) else ((laws_szBody.F (laws_szBindS.f k) k t.f4.f0 t.f4.f1 u).bind fun v => if v < 0 then some (-1) else ((laws_szBody.F (laws_szBindS.f k) k t.f5.f0 t.f5.f1 v).bind fun z => if z < 0 then some (-1) else some z))) (by omega) h2 (fun hn2 => ?_)
    refine evB (f := fun k u => (laws_szBody.F (laws_szBindS.f k) k t.f4.f0 t.f4.f1 u).bind fun v => if v < 0 then some (-1) else ((laws_szBody.F (laws_szBindS.f k) k t.f5.f0 t.f5.f1 v).bind fun z => if z < 0 then some (-1) else some z)) (szTl_ev h3 (by omega)) (fun hn3 => ?_)
    refine evB (f := fun k v => (laws_szBody.F (laws_szBindS.f k) k t.f5.f0 t.f5.f1 v).bind fun z => if z < 0 then some (-1) else some z) (szY_ev (R := laws_szBindS.f) (fun a ha => szBs_ev h4 ih1 ha) h6 (by omega)) (fun hn4 => ?_)
    exact evB (m := 0) (f := fun _ v => some v) (szY_ev (R := laws_szBindS.f) (fun a ha => szBs_ev h7 ih2 ha) h9 (by omega)) (fun _ => ev0)
theorem szBl_ev {l : List S93} (h : OkBs l) {a : Nat} (ha : a ≤ 1048576) : Ev (fun k => laws_szBindS.f k l a) (left a (cntBs l)) := szBs_ev h.1 (fun x hx => szB_ev (h.2 x hx)) ha
theorem szU_ev {x : S37} (h : OkU x) {a : Nat} (ha : a ≤ 1048576) : Ev (fun k => laws_szPure.f k x.f0 x.f1 x.f2.f0 x.f2.f1 a) (left a (cntU x)) := by
  obtain ⟨h0, h1, h2, h3⟩ := h
  refine evI (f := fun k s => (laws_szStringS.f k x.f1 s).bind fun u => if u < 0 then some (-1) else ((laws_szBody.f k x.f2.f0 x.f2.f1 u).bind fun v => if v < 0 then some (-1) else some v)) ha h0 (fun hn => ?_)
  refine evB (f := fun k u => (laws_szBody.f k x.f2.f0 x.f2.f1 u).bind fun v => if v < 0 then some (-1) else some v) (szStr_ev h1 (by omega)) (fun hn2 => ?_)
  exact evB (m := 0) (f := fun _ v => some v) (szY_ev (R := laws_szBindS.f) (fun a ha => szBl_ev h2 ha) h3 (by omega)) (fun _ => ev0)
theorem szUs_ev {l : List S37} (h : OkUs l) {a : Nat} (ha : a ≤ 1048576) : Ev (fun k => laws_szPureS.f k l a) (left a (cntUs l)) := by
  refine evI (f := fun k t => laws_szPureS.l0 k l t 0) ha h.1 (fun hn => ?_)
  have hh := loopSz l h.1 cntU (fun k x t => laws_szPure.f k x.f0 x.f1 x.f2.f0 x.f2.f1 t) (fun x hx b hb => ⟨_, szU_ev (h.2 x hx) hb, cut_left _ _⟩) l.length 0 (a - l.length) (fun k t i => laws_szPureS.l0 k l t i)
    (fun k b i hi => by simp only [laws_szPureS.l0]; rw [if_pos (by omega), if_pos (by omega), rdLU hi]) (fun k b => by simp only [laws_szPureS.l0]; rw [if_neg (by omega)]) (by omega) (by omega)
  rw [List.drop_zero] at hh
  exact hh
theorem toStr_ev {l : List ByteArray} (h : l.length ≤ 1048576) : Ev (fun k => laws_toStringS.f k l) l := by
  refine Ev.congr (f := fun k => laws_toStringS.l0 k l (List.replicate l.length ⟨#[]⟩) (0 : Nat)) (fun k => by rw [laws_toStringS.f, if_pos (by omega), if_pos (by omega), Int.toNat_natCast]; rfl) ?_
  have hh := loopTo l (by omega) id ⟨#[]⟩ (fun _ x => some x) id id (fun _ => rfl) (fun x _ => Ev.now x) (fun k acc i => laws_toStringS.l0 k l acc i) (fun k acc i hi => by simp only [laws_toStringS.l0]; rw [if_pos (by omega), if_pos (by omega), rdS hi]; rfl) (fun k acc => by simp only [laws_toStringS.l0]; rw [if_neg (by omega)]) l.length 0 (by omega)
  simpa using hh
theorem toInt_ev {l : List Int} (h : l.length ≤ 1048576) : Ev (fun k => laws_toIntS.f k l) l := by
  refine Ev.congr (f := fun k => laws_toIntS.l0 k l (List.replicate l.length 0) (0 : Nat)) (fun k => by rw [laws_toIntS.f, if_pos (by omega), if_pos (by omega), Int.toNat_natCast]; rfl) ?_
  have hh := loopTo l (by omega) id 0 (fun _ x => some x) id id (fun _ => rfl) (fun x _ => Ev.now x) (fun k acc i => laws_toIntS.l0 k l acc i) (fun k acc i hi => by simp only [laws_toIntS.l0]; rw [if_pos (by omega), if_pos (by omega), rdI hi]; rfl) (fun k acc => by simp only [laws_toIntS.l0]; rw [if_neg (by omega)]) l.length 0 (by omega)
  simpa using hh
theorem toTs_ev {l : List S96} (hl : cntTs l ≤ 1048576) (hF : ∀ x ∈ l, Ev (fun k => laws_toTerm.F (laws_toTermS.f k) k x.f0 x.f1 x.f2 x.f3 x.f4) (x.f0, x.f1, x.f2, x.f3, cvTs x.f4)) : Ev (fun k => laws_toTermS.f k l) (cvTs l) := by
  rw [cntTs_eq] at hl
  rw [cvTs_eq]
  refine Ev.step (f := fun k => laws_toTermS.l0 k l (List.replicate l.length z78) (0 : Nat)) (fun k => by simp only [laws_toTermS.f]; rw [if_pos (by omega), if_pos (by omega), Int.toNat_natCast]; rfl) ?_
  have hh := loopTo l (by omega) cvT z78 (fun k x => laws_toTerm.F (laws_toTermS.f k) k x.f0 x.f1 x.f2 x.f3 x.f4) (fun b => (⟨b.1, b.2.1, b.2.2.1, b.2.2.2.1, b.2.2.2.2⟩ : S78)) (fun x => (x.f0, x.f1, x.f2, x.f3, cvTs x.f4)) (fun x => (cvT_eq x).symm) hF (fun k acc i => laws_toTermS.l0 k l acc i)
    (fun k acc i hi => by simp only [laws_toTermS.l0]; rw [if_pos (by omega), if_pos (by omega), rdLT hi]) (fun k acc => by simp only [laws_toTermS.l0]; rw [if_neg (by omega)]) l.length 0 (by omega)
  simpa using hh
theorem cnt_kid {x : S96} {l : List S96} (h : x ∈ l) : cntT x ≤ cntTs l := by rw [cntTs_eq]; have := sums_mem (c := cntT) h; omega
theorem cnt_bind {x : S93} {l : List S93} (h : x ∈ l) : cntB x ≤ cntBs l := by rw [cntBs_eq]; have := sums_mem (c := cntB) h; omega
theorem toT_ev {x : S96} (h : Ok96 x) : cntT x ≤ 1048576 → Ev (fun k => laws_toTerm.F (laws_toTermS.f k) k x.f0 x.f1 x.f2 x.f3 x.f4) (x.f0, x.f1, x.f2, x.f3, cvTs x.f4) := by
  induction h with
  | mk t h0 h1 h2 h3 h4 h5 h6 ih =>
    intro hc
    rw [cntT_eq] at hc
    refine Ev.bind (g := fun k => laws_toIntS.f k t.f3) (f := fun k u => (laws_toTermS.f k t.f4).bind fun v => some (t.f0, t.f1, t.f2, u, v)) (toInt_ev (by omega)) ?_
    exact Ev.bind (g := fun k => laws_toTermS.f k t.f4) (f := fun _ v => some (t.f0, t.f1, t.f2, t.f3, v)) (toTs_ev (by omega) (fun x hx => ih x hx (by have := cnt_kid hx; omega))) (Ev.now _)
theorem toTl_ev {l : List S96} (h : OkTs l) (hc : cntTs l ≤ 1048576) : Ev (fun k => laws_toTermS.f k l) (cvTs l) := toTs_ev hc (fun x hx => toT_ev (h.2 x hx) (by have := cnt_kid hx; omega))
theorem toBs_ev {l : List S93} (hl : cntBs l ≤ 1048576) (hF : ∀ x ∈ l, Ev (fun k => laws_toBind.F (laws_toBindS.f k) k x.f0 x.f1 x.f2 x.f3 x.f4.f0 x.f4.f1 x.f5.f0 x.f5.f1) (x.f0, x.f1, x.f2, cvTs x.f3, cvBs x.f4.f0, cvTs x.f4.f1, cvBs x.f5.f0, cvTs x.f5.f1)) : Ev (fun k => laws_toBindS.f k l) (cvBs l) := by
  rw [cntBs_eq] at hl
  rw [cvBs_eq]
  refine Ev.step (f := fun k => laws_toBindS.l0 k l (List.replicate l.length z64) (0 : Nat)) (fun k => by simp only [laws_toBindS.f]; rw [if_pos (by omega), if_pos (by omega), Int.toNat_natCast]; rfl) ?_
  have hh := loopTo l (by omega) cvB z64 (fun k x => laws_toBind.F (laws_toBindS.f k) k x.f0 x.f1 x.f2 x.f3 x.f4.f0 x.f4.f1 x.f5.f0 x.f5.f1) (fun b => (⟨b.1, b.2.1, b.2.2.1, b.2.2.2.1, (⟨b.2.2.2.2.1, b.2.2.2.2.2.1⟩ : S43), (⟨b.2.2.2.2.2.2.1, b.2.2.2.2.2.2.2⟩ : S43)⟩ : S64)) (fun x => (x.f0, x.f1, x.f2, cvTs x.f3, cvBs x.f4.f0, cvTs x.f4.f1, cvBs x.f5.f0, cvTs x.f5.f1)) (fun x => (cvB_eq x).symm) hF (fun k acc i => laws_toBindS.l0 k l acc i)
    (fun k acc i hi => by simp only [laws_toBindS.l0]; rw [if_pos (by omega), if_pos (by omega), rdLB hi]) (fun k acc => by simp only [laws_toBindS.l0]; rw [if_neg (by omega)]) l.length 0 (by omega)
  simpa using hh
theorem toY_ev {bs : List S93} {ts : List S96} {R : Nat → List S93 → Option (List S64)} (hb : Ev (fun k => R k bs) (cvBs bs)) (ht : OkTs ts) (hc : cntTs ts ≤ 1048576) : Ev (fun k => laws_toBody.F (R k) k bs ts) (cvBs bs, cvTs ts) :=
  Ev.bind (g := fun k => R k bs) (f := fun k u => (laws_toTermS.f k ts).bind fun v => some (u, v)) hb (Ev.bind (g := fun k => laws_toTermS.f k ts) (f := fun _ v => some (cvBs bs, v)) (toTl_ev ht hc) (Ev.now _))
theorem toB_ev {x : S93} (h : Ok93 x) : cntB x ≤ 1048576 → Ev (fun k => laws_toBind.F (laws_toBindS.f k) k x.f0 x.f1 x.f2 x.f3 x.f4.f0 x.f4.f1 x.f5.f0 x.f5.f1) (x.f0, x.f1, x.f2, cvTs x.f3, cvBs x.f4.f0, cvTs x.f4.f1, cvBs x.f5.f0, cvTs x.f5.f1) := by
  induction h with
  | mk t h0 h1 h2 h3 h4 h5 h6 h7 h8 h9 ih1 ih2 =>
    intro hc
    rw [cntB_eq] at hc
    have hs : cntSs t.f1 = t.f1.length + sums ByteArray.size t.f1 := rfl
    refine Ev.bind (g := fun k => laws_toStringS.f k t.f1) (f := fun k u => (laws_toTermS.f k t.f3).bind fun v => ((laws_toBody.F (laws_toBindS.f k) k t.f4.f0 t.f4.f1).bind fun p => ((laws_toBody.F (laws_toBindS.f k) k t.f5.f0 t.f5.f1).bind fun q => some (t.f0, u, t.f2, v, p.1, p.2, q.1, q.2)))) (toStr_ev (by omega)) ?_
    refine Ev.bind (g := fun k => laws_toTermS.f k t.f3) (f := fun k v => ((laws_toBody.F (laws_toBindS.f k) k t.f4.f0 t.f4.f1).bind fun p => ((laws_toBody.F (laws_toBindS.f k) k t.f5.f0 t.f5.f1).bind fun q => some (t.f0, t.f1, t.f2, v, p.1, p.2, q.1, q.2)))) (toTl_ev h3 (by omega)) ?_
    refine Ev.bind (g := fun k => laws_toBody.F (laws_toBindS.f k) k t.f4.f0 t.f4.f1) (f := fun k p => ((laws_toBody.F (laws_toBindS.f k) k t.f5.f0 t.f5.f1).bind fun q => some (t.f0, t.f1, t.f2, cvTs t.f3, p.1, p.2, q.1, q.2))) (toY_ev (R := laws_toBindS.f) (toBs_ev (by omega) (fun x hx => ih1 x hx (by have := cnt_bind hx; omega))) h6 (by omega)) ?_
    exact Ev.bind (g := fun k => laws_toBody.F (laws_toBindS.f k) k t.f5.f0 t.f5.f1) (f := fun _ q => some (t.f0, t.f1, t.f2, cvTs t.f3, cvBs t.f4.f0, cvTs t.f4.f1, q.1, q.2)) (toY_ev (R := laws_toBindS.f) (toBs_ev (by omega) (fun x hx => ih2 x hx (by have := cnt_bind hx; omega))) h9 (by omega)) (Ev.now _)
theorem toBl_ev {l : List S93} (h : OkBs l) (hc : cntBs l ≤ 1048576) : Ev (fun k => laws_toBindS.f k l) (cvBs l) := toBs_ev hc (fun x hx => toB_ev (h.2 x hx) (by have := cnt_bind hx; omega))
theorem toU_ev {x : S37} (h : OkU x) (hc : cntU x ≤ 1048576) : Ev (fun k => laws_toPure.f k x.f0 x.f1 x.f2.f0 x.f2.f1) (x.f0, x.f1, cvBs x.f2.f0, cvTs x.f2.f1) := by
  obtain ⟨h0, h1, h2, h3⟩ := h
  unfold cntU at hc
  have hs : cntSs x.f1 = x.f1.length + sums ByteArray.size x.f1 := rfl
  refine Ev.bind (g := fun k => laws_toStringS.f k x.f1) (f := fun k u => (laws_toBody.f k x.f2.f0 x.f2.f1).bind fun p => some (x.f0, u, p.1, p.2)) (toStr_ev (by omega)) ?_
  exact Ev.bind (g := fun k => laws_toBody.f k x.f2.f0 x.f2.f1) (f := fun _ p => some (x.f0, x.f1, p.1, p.2)) (toY_ev (R := laws_toBindS.f) (toBl_ev h2 (by omega)) h3 (by omega)) (Ev.now _)
theorem toUs_ev {l : List S37} (h : OkUs l) (hc : cntUs l ≤ 1048576) : Ev (fun k => laws_toPureS.f k l) (cvUs l) := by
  unfold cntUs at hc
  refine Ev.congr (f := fun k => laws_toPureS.l0 k l (List.replicate l.length z45) (0 : Nat)) (fun k => by rw [laws_toPureS.f, if_pos (by omega), if_pos (by omega), Int.toNat_natCast]; rfl) ?_
  have hh := loopTo l (by omega) cvU z45 (fun k x => laws_toPure.f k x.f0 x.f1 x.f2.f0 x.f2.f1) (fun b => (⟨b.1, b.2.1, (⟨b.2.2.1, b.2.2.2⟩ : S43)⟩ : S45)) (fun x => (x.f0, x.f1, cvBs x.f2.f0, cvTs x.f2.f1)) (fun _ => rfl) (fun x hx => toU_ev (h.2 x hx) (by have := sums_mem (c := cntU) hx; omega)) (fun k acc i => laws_toPureS.l0 k l acc i)
    (fun k acc i hi => by simp only [laws_toPureS.l0]; rw [if_pos (by omega), if_pos (by omega), rdLU hi]) (fun k acc => by simp only [laws_toPureS.l0]; rw [if_neg (by omega)]) l.length 0 (by omega)
  simpa [cvUs] using hh
theorem cvTs_len (l : List S96) : (cvTs l).length = l.length := by rw [cvTs_eq, List.length_map]
theorem cvBs_len (l : List S93) : (cvBs l).length = l.length := by rw [cvBs_eq, List.length_map]
theorem len_cntTs (l : List S96) : l.length ≤ cntTs l := by rw [cntTs_eq]; omega
theorem len_cntBs (l : List S93) : l.length ≤ cntBs l := by rw [cntBs_eq]; omega
theorem eqStr_ev {l : List ByteArray} (h : l.length ≤ 1048576) : Ev (fun k => laws_eqStringS.f k l l) true := by
  refine Ev.congr (f := fun k => laws_eqStringS.l0 k l l (0 : Nat)) (fun k => by rw [laws_eqStringS.f, if_pos rfl]; rfl) ?_
  exact loopEq l (by omega) (fun _ _ => some true) (fun _ _ => Ev.now true) (fun k i => laws_eqStringS.l0 k l l i) (fun k i hi => by simp only [laws_eqStringS.l0]; rw [if_pos (by omega), if_pos (by omega), if_pos (by omega)]; rfl) (fun k => by simp only [laws_eqStringS.l0]; rw [if_neg (by omega)]) l.length 0 (by omega)
theorem eqInt_ev {l : List Int} (h : l.length ≤ 1048576) : Ev (fun k => laws_eqIntS.f k l l) true := by
  refine Ev.congr (f := fun k => laws_eqIntS.l0 k l l (0 : Nat)) (fun k => by rw [laws_eqIntS.f, if_pos rfl]; rfl) ?_
  exact loopEq l (by omega) (fun _ _ => some true) (fun _ _ => Ev.now true) (fun k i => laws_eqIntS.l0 k l l i) (fun k i hi => by simp only [laws_eqIntS.l0]; rw [if_pos (by omega), if_pos (by omega), if_pos (by omega)]; rfl) (fun k => by simp only [laws_eqIntS.l0]; rw [if_neg (by omega)]) l.length 0 (by omega)
theorem eqTs_ev {l : List S78} (hl : l.length ≤ 1048576) (hF : ∀ x ∈ l, Ev (fun k => laws_eqTerm.F (laws_eqTermS.f k) k x.f0 x.f1 x.f2 x.f3 x.f4 x.f0 x.f1 x.f2 x.f3 x.f4) true) : Ev (fun k => laws_eqTermS.f k l l) true := by
  refine Ev.step (f := fun k => laws_eqTermS.l0 k l l (0 : Nat)) (fun k => by simp only [laws_eqTermS.f]; rw [if_pos (by first | trivial | rfl)]; rfl) ?_
  exact loopEq l (by omega) (fun k x => laws_eqTerm.F (laws_eqTermS.f k) k x.f0 x.f1 x.f2 x.f3 x.f4 x.f0 x.f1 x.f2 x.f3 x.f4) hF (fun k i => laws_eqTermS.l0 k l l i) (fun k i hi => by simp only [laws_eqTermS.l0]; rw [if_pos (by omega), if_pos (by omega), if_pos (by omega), rdIT hi]) (fun k => by simp only [laws_eqTermS.l0]; rw [if_neg (by omega)]) l.length 0 (by omega)
theorem evT {g : Nat → Option Bool} {f : Nat → Option Bool} (hg : Ev g true) (hf : Ev f true) : Ev (fun k => (g k).bind fun t => if t = true then f k else some false) true := Ev.bind (g := g) (f := fun k t => if t = true then f k else some false) hg (Ev.pos rfl hf)
theorem eqT_ev {x : S96} (h : Ok96 x) : cntT x ≤ 1048576 → Ev (fun k => laws_eqTerm.F (laws_eqTermS.f k) k (cvT x).f0 (cvT x).f1 (cvT x).f2 (cvT x).f3 (cvT x).f4 (cvT x).f0 (cvT x).f1 (cvT x).f2 (cvT x).f3 (cvT x).f4) true := by
  induction h with
  | mk t h0 h1 h2 h3 h4 h5 h6 ih =>
    intro hc
    rw [cntT_eq] at hc
    rw [cvT_eq]
    refine Ev.congr (f := fun k => (laws_eqIntS.f k t.f3 t.f3).bind fun u => if u = true then ((laws_eqTermS.f k (cvTs t.f4) (cvTs t.f4)).bind fun v => if v = true then some true else some false) else some false) (fun k => by rw [laws_eqTerm.F, if_pos rfl, if_pos rfl, if_pos rfl]) ?_
    have hk := len_cntTs t.f4
    refine evT (eqInt_ev (by omega)) (evT (f := fun _ => some true) (eqTs_ev (by rw [cvTs_len]; omega) (fun y hy => ?_)) (Ev.now true))
    rw [cvTs_eq] at hy
    obtain ⟨x, hx, rfl⟩ := List.mem_map.1 hy
    exact ih x hx (by have := cnt_kid hx; omega)
theorem eqTl_ev {l : List S96} (h : OkTs l) (hc : cntTs l ≤ 1048576) : Ev (fun k => laws_eqTermS.f k (cvTs l) (cvTs l)) true := by
  have hk := len_cntTs l
  refine eqTs_ev (by rw [cvTs_len]; omega) (fun y hy => ?_)
  rw [cvTs_eq] at hy
  obtain ⟨x, hx, rfl⟩ := List.mem_map.1 hy
  exact eqT_ev (h.2 x hx) (by have := cnt_kid hx; omega)
theorem eqBs_ev {l : List S64} (hl : l.length ≤ 1048576) (hF : ∀ x ∈ l, Ev (fun k => laws_eqBind.F (laws_eqBindS.f k) k x.f0 x.f1 x.f2 x.f3 x.f4.f0 x.f4.f1 x.f5.f0 x.f5.f1 x.f0 x.f1 x.f2 x.f3 x.f4.f0 x.f4.f1 x.f5.f0 x.f5.f1) true) : Ev (fun k => laws_eqBindS.f k l l) true := by
  refine Ev.step (f := fun k => laws_eqBindS.l0 k l l (0 : Nat)) (fun k => by simp only [laws_eqBindS.f]; rw [if_pos (by first | trivial | rfl)]; rfl) ?_
  exact loopEq l (by omega) (fun k x => laws_eqBind.F (laws_eqBindS.f k) k x.f0 x.f1 x.f2 x.f3 x.f4.f0 x.f4.f1 x.f5.f0 x.f5.f1 x.f0 x.f1 x.f2 x.f3 x.f4.f0 x.f4.f1 x.f5.f0 x.f5.f1) hF (fun k i => laws_eqBindS.l0 k l l i) (fun k i hi => by simp only [laws_eqBindS.l0]; rw [if_pos (by omega), if_pos (by omega), if_pos (by omega), rdIB hi]) (fun k => by simp only [laws_eqBindS.l0]; rw [if_neg (by omega)]) l.length 0 (by omega)
theorem eqY_ev {bs : List S93} {ts : List S96} {R : Nat → List S64 → List S64 → Option Bool} (hb : Ev (fun k => R k (cvBs bs) (cvBs bs)) true) (ht : OkTs ts) (hc : cntTs ts ≤ 1048576) : Ev (fun k => laws_eqBody.F (R k) k (cvBs bs) (cvTs ts) (cvBs bs) (cvTs ts)) true :=
  evT (f := fun k => (laws_eqTermS.f k (cvTs ts) (cvTs ts)).bind fun v => if v = true then some true else some false) hb (evT (f := fun _ => some true) (eqTl_ev ht hc) (Ev.now true))
theorem eqB_ev {x : S93} (h : Ok93 x) : cntB x ≤ 1048576 → Ev (fun k => laws_eqBind.F (laws_eqBindS.f k) k (cvB x).f0 (cvB x).f1 (cvB x).f2 (cvB x).f3 (cvB x).f4.f0 (cvB x).f4.f1 (cvB x).f5.f0 (cvB x).f5.f1 (cvB x).f0 (cvB x).f1 (cvB x).f2 (cvB x).f3 (cvB x).f4.f0 (cvB x).f4.f1 (cvB x).f5.f0 (cvB x).f5.f1) true := by
  induction h with
  | mk t h0 h1 h2 h3 h4 h5 h6 h7 h8 h9 ih1 ih2 =>
    intro hc
    rw [cntB_eq] at hc
    rw [cvB_eq]
    have hs : cntSs t.f1 = t.f1.length + sums ByteArray.size t.f1 := rfl
    have g1 := len_cntBs t.f4.f0
    have g2 := len_cntBs t.f5.f0
    refine Ev.congr (f := fun k => (laws_eqStringS.f k t.f1 t.f1).bind fun u => if u = true then ((laws_eqTermS.f k (cvTs t.f3) (cvTs t.f3)).bind fun v => if v = true then ((laws_eqBody.F (laws_eqBindS.f k) k (cvBs t.f4.f0) (cvTs t.f4.f1) (cvBs t.f4.f0) (cvTs t.f4.f1)).bind fun p => if p = true then ((laws_eqBody.F (laws_eqBindS.f k) k (cvBs t.f5.f0) (cvTs t.f5.f1) (cvBs t.f5.f0) (cvTs t.f5.f1)).bind fun q => if q = true then some true else some false) else some false) else some false) else some false) (fun k => by rw [laws_eqBind.F, if_pos rfl]; simp only [if_true]) ?_
    refine evT (eqStr_ev (by omega)) (evT (eqTl_ev h3 (by omega)) (evT (eqY_ev (R := laws_eqBindS.f) (eqBs_ev (by rw [cvBs_len]; omega) (fun y hy => ?_)) h6 (by omega)) (evT (f := fun _ => some true) (eqY_ev (R := laws_eqBindS.f) (eqBs_ev (by rw [cvBs_len]; omega) (fun y hy => ?_)) h9 (by omega)) (Ev.now true))))
    · rw [cvBs_eq] at hy
      obtain ⟨x, hx, rfl⟩ := List.mem_map.1 hy
      exact ih1 x hx (by have := cnt_bind hx; omega)
    · rw [cvBs_eq] at hy
      obtain ⟨x, hx, rfl⟩ := List.mem_map.1 hy
      exact ih2 x hx (by have := cnt_bind hx; omega)
theorem eqU_ev {x : S37} (h : OkU x) (hc : cntU x ≤ 1048576) : Ev (fun k => laws_eqPure.f k (cvU x).f0 (cvU x).f1 (cvU x).f2.f0 (cvU x).f2.f1 (cvU x).f0 (cvU x).f1 (cvU x).f2.f0 (cvU x).f2.f1) true := by
  obtain ⟨h0, h1, h2, h3⟩ := h
  unfold cntU at hc
  have hs : cntSs x.f1 = x.f1.length + sums ByteArray.size x.f1 := rfl
  have g1 := len_cntBs x.f2.f0
  refine Ev.congr (f := fun k => (laws_eqStringS.f k x.f1 x.f1).bind fun u => if u = true then ((laws_eqBody.f k (cvBs x.f2.f0) (cvTs x.f2.f1) (cvBs x.f2.f0) (cvTs x.f2.f1)).bind fun v => if v = true then some true else some false) else some false) (fun k => by rw [laws_eqPure.f, if_pos rfl]; rfl) ?_
  refine evT (eqStr_ev (by omega)) (evT (f := fun _ => some true) (eqY_ev (R := laws_eqBindS.f) (eqBs_ev (by rw [cvBs_len]; omega) (fun y hy => ?_)) h3 (by omega)) (Ev.now true))
  rw [cvBs_eq] at hy
  obtain ⟨b, hb, rfl⟩ := List.mem_map.1 hy
  exact eqB_ev (h2.2 b hb) (by have := cnt_bind hb; omega)
theorem eqUs_ev {l : List S37} (h : OkUs l) (hc : cntUs l ≤ 1048576) : Ev (fun k => laws_eqPureS.f k (cvUs l) (cvUs l)) true := by
  unfold cntUs at hc
  refine Ev.congr (f := fun k => laws_eqPureS.l0 k (cvUs l) (cvUs l) (0 : Nat)) (fun k => by rw [laws_eqPureS.f, if_pos rfl]; rfl) ?_
  have hl : (cvUs l).length = l.length := List.length_map ..
  refine loopEq (cvUs l) (by omega) (fun k x => laws_eqPure.f k x.f0 x.f1 x.f2.f0 x.f2.f1 x.f0 x.f1 x.f2.f0 x.f2.f1) (fun y hy => ?_) (fun k i => laws_eqPureS.l0 k (cvUs l) (cvUs l) i) (fun k i hi => by simp only [laws_eqPureS.l0]; rw [if_pos (by omega), if_pos (by omega), if_pos (by omega), rdIU hi]) (fun k => by simp only [laws_eqPureS.l0]; rw [if_neg (by omega)]) (cvUs l).length 0 (by omega)
  obtain ⟨x, hx, rfl⟩ := List.mem_map.1 hy
  exact eqU_ev (h.2 x hx) (by have := sums_mem (c := cntU) hx; omega)
end Go.Proofs.Ytdgpegkgelciaaa.ExU
end
section
namespace Go.Proofs.Ytdgpegkgelciaaa.PA
open Go.RowKit Go.Proofs.YtdgpegkgelciaaaW.PrintWords Go.Proofs.YtdgpegkgelciaaaW.PrintLast Go.Proofs.YtdgpegkgelciaaaW.PrintMore
theorem in_eq (a b c : Int) : spec_l6In.f a b c = some (decide (b ≤ a ∧ a ≤ c)) := by
  unfold spec_l6In.f
  by_cases h : a ≥ b
  · rw [if_pos h]; simp [show b ≤ a from h]
  · rw [if_neg h]; simp [show ¬ b ≤ a from h]
theorem len_beq (n m : Nat) : ((n : Int) == (m : Int)) = decide (n = m) := by
  by_cases h : n = m
  · simp [h]
  · rw [decide_eq_false h, beq_eq_false_iff_ne]; omega
theorem sw_l0 (s : ByteArray) (hs : s.size ≤ 12) : ∀ d i : Nat, i + d = s.size → Ev (fun k => spec_l12Word.l0 k s i) (pwFrom s i)
  | 0, i, hi => by
    refine Ev.step (f := fun _ => some true) (fun k => by simp only [spec_l12Word.l0]; rw [if_neg (by omega)]) (Ev.val ?_)
    rw [pwFrom, all_end (by omega)]
  | d + 1, i, hi => by
    refine Ev.step (f := fun k => if chP (bt s i) = true then spec_l12Word.l0 k s (i + 1 : Nat) else some false) (fun k => ?_) ?_
    · simp only [spec_l12Word.l0]
      rw [if_pos (by omega), if_pos (by omega), suc64 i (by omega)]
      generalize spec_l12Word.l0 k s (i + 1 : Nat) = L
      generalize bt s i = c
      simp only [chP, decide_eq_true_eq]
      repeat' split
      all_goals first | rfl | omega
    · rw [pwFrom, all_step (by omega)]
      cases h : chP (bt s i) with
      | true => exact Ev.pos rfl (by rw [Bool.true_and]; exact sw_l0 s hs d (i + 1) (by omega))
      | false => exact Ev.neg (by simp) (Ev.val (by simp))
theorem sw_ev (s : ByteArray) : Ev (fun k => spec_l12Word.f k s) (pwP s) := by
  unfold pwP
  by_cases h1 : 1 ≤ s.size
  · by_cases h2 : s.size ≤ 12
    · refine Ev.congr (g := fun k => spec_l12Word.f k s) (f := fun k => spec_l12Word.j0 k s false) (fun k => by rw [spec_l12Word.f, if_neg (by omega), decide_eq_false (by omega)]) ?_
      refine Ev.step (f := fun k => spec_l12Word.l0 k s (0 : Nat)) (fun k => by simp only [spec_l12Word.j0]; rw [if_neg (by simp)]; rfl) ?_
      simpa [h1, h2] using sw_l0 s h2 s.size 0 (by omega)
    · refine Ev.congr (g := fun k => spec_l12Word.f k s) (f := fun k => spec_l12Word.j0 k s true) (fun k => by rw [spec_l12Word.f, if_neg (by omega), decide_eq_true (by omega)]) ?_
      exact Ev.step (f := fun _ => some false) (fun k => by simp only [spec_l12Word.j0]; rw [if_pos (by first | trivial | rfl)]) (Ev.val (by simp [h2]))
  · refine Ev.congr (g := fun k => spec_l12Word.f k s) (f := fun k => spec_l12Word.j0 k s true) (fun k => by rw [spec_l12Word.f, if_pos (by omega)]) ?_
    exact Ev.step (f := fun _ => some false) (fun k => by simp only [spec_l12Word.j0]; rw [if_pos (by first | trivial | rfl)]) (Ev.val (by simp [h1]))
theorem sh_l0 (l : List ByteArray) (x : ByteArray) (hl : l.length ≤ 1000000000) : ∀ d i : Nat, i + d = l.length → Ev (fun k => spec_l12Has.l0 k l x i) (nhas (l.drop i) x)
  | 0, i, hi => by
    refine Ev.step (f := fun _ => some false) (fun k => by simp only [spec_l12Has.l0]; rw [if_neg (by omega)]) (Ev.val ?_)
    rw [List.drop_eq_nil_of_le (by omega)]
    rfl
  | d + 1, i, hi => by
    rw [drop_rd (show i < l.length by omega), nhas_cons]
    by_cases h : x = rdOf ByteArray.empty l i
    · refine Ev.step (f := fun _ => some true) (fun k => by simp only [spec_l12Has.l0]; rw [if_pos (by omega), if_pos (by omega), if_pos (ba_tl.2 h.symm)]) (Ev.val ?_)
      rw [ba_beq.2 h, Bool.true_or]
    · refine Ev.step (f := fun k => spec_l12Has.l0 k l x (i + 1 : Nat)) (fun k => by simp only [spec_l12Has.l0]; rw [if_pos (by omega), if_pos (by omega), if_neg (fun e => h (ba_tl.1 e).symm), suc64 i (by omega)]) ?_
      rw [show (x == rdOf ByteArray.empty l i) = false from by rw [Bool.eq_false_iff]; exact fun e => h (ba_beq.1 e), Bool.false_or]
      exact sh_l0 l x hl d (i + 1) (by omega)
theorem sh_ev (l : List ByteArray) (x : ByteArray) (hl : l.length ≤ 1000000000) : Ev (fun k => spec_l12Has.f k l x) (nhas l x) := by
  have h := sh_l0 l x hl l.length 0 (by omega)
  rw [List.drop_zero] at h
  exact h
def sw (b : ByteArray → Bool) (x0 x1 : Int) (x2 : ByteArray) (n : Nat) : Bool :=
  if x0 = 1 then decide (0 ≤ x1 ∧ x1 ≤ 9999) && decide (n = 0) else if x0 = 2 then b x2 && decide (n = 0) else if x0 = 7 then decide (n = 1) else decide (3 ≤ x0 ∧ x0 ≤ 8) && decide (n = 2)
def kc (x0 x1 : Int) (x2 : ByteArray) (x3 : List Int) : Bool := (decide (x0 = 1) || decide (x1 = 0)) && (decide (x0 = 2) || x2.toList.isEmpty) && (decide (x0 = 7) || decide (x0 = 8) || decide (x3.length = 0))
def stP (b : ByteArray → Bool) : Nat → S78 → Bool
  | 0, _ => false
  | n + 1, t => decide (t.f4.length ≤ 2) && decide (t.f3.length ≤ 4) && t.f4.all (stP b n) && t.f3.all bitP && (kc t.f0 t.f1 t.f2 t.f3 && sw b t.f0 t.f1 t.f2 t.f4.length)
section
variable (names : List ByteArray) (hl : names.length ≤ 1000000000) (x0 x1 : Int) (x2 : ByteArray) (x3 : List Int) (l : List S78)
include hl
theorem st_j4 (c : Bool) : Ev (fun k => spec_l12Term.j4 k names c x0 x1 x2 x3 l) (!c && sw (nhas names) x0 x1 x2 l.length) := by
  cases c with
  | true => exact Ev.step (f := fun _ => some false) (fun k => by simp only [spec_l12Term.j4]; rw [if_pos (by first | trivial | rfl)]) (Ev.val rfl)
  | false =>
    unfold sw
    by_cases k1 : x0 = 1
    · rw [if_pos k1]
      refine Ev.step (f := fun _ => some (decide (0 ≤ x1 ∧ x1 ≤ 9999) && decide (l.length = 0))) (fun k => ?_) (Ev.val rfl)
      simp only [spec_l12Term.j4, in_eq, Option.bind_some]
      rw [if_neg (by simp), if_pos k1, show ((l.length : Int) == 0) = decide (l.length = 0) from len_beq _ 0]
      cases decide (0 ≤ x1 ∧ x1 ≤ 9999) <;> rfl
    rw [if_neg k1]
    by_cases k2 : x0 = 2
    · rw [if_pos k2]
      refine Ev.step (f := fun k => (spec_l12Has.f k names x2).bind fun t => if t = true then some ((l.length : Int) == 0) else some false) (fun k => by simp only [spec_l12Term.j4]; rw [if_neg (by simp), if_neg k1, if_pos k2]) ?_
      refine Ev.bind (g := fun k => spec_l12Has.f k names x2) (f := fun _ t => if t = true then some ((l.length : Int) == 0) else some false) (sh_ev names x2 hl) ?_
      rw [show ((l.length : Int) == 0) = decide (l.length = 0) from len_beq _ 0]
      cases nhas names x2 <;> exact Ev.val rfl
    rw [if_neg k2]
    by_cases k7 : x0 = 7
    · rw [if_pos k7]
      exact Ev.step (f := fun _ => some (decide (l.length = 1))) (fun k => by simp only [spec_l12Term.j4]; rw [if_neg (by simp), if_neg k1, if_neg k2, if_pos k7, show ((l.length : Int) == 1) = decide (l.length = 1) from len_beq _ 1]) (Ev.val rfl)
    rw [if_neg k7]
    refine Ev.step (f := fun _ => some (decide (3 ≤ x0 ∧ x0 ≤ 8) && decide (l.length = 2))) (fun k => ?_) (Ev.val rfl)
    simp only [spec_l12Term.j4, in_eq, Option.bind_some]
    rw [if_neg (by simp), if_neg k1, if_neg k2, if_neg k7, show ((l.length : Int) == 2) = decide (l.length = 2) from len_beq _ 2]
    cases decide (3 ≤ x0 ∧ x0 ≤ 8) <;> rfl
omit hl in
theorem empty_not {l : List UInt8} (h : ¬ l = []) : l.isEmpty = false := by cases l <;> simp_all
theorem st_j3 : Ev (fun k => spec_l12Term.j3 k names (decide (x0 = 7) || decide (x0 = 8)) x0 x1 x2 x3 l) (kc x0 x1 x2 x3 && sw (nhas names) x0 x1 x2 l.length) := by
  refine Ev.step (f := fun k => spec_l12Term.j4 k names (!kc x0 x1 x2 x3) x0 x1 x2 x3 l) (fun k => ?_) (by simpa only [Bool.not_not] using st_j4 names hl x0 x1 x2 x3 l (!kc x0 x1 x2 x3))
  simp only [spec_l12Term.j3, kc]
  by_cases h7 : (decide (x0 = 7) || decide (x0 = 8)) = true
  · have e7 : (decide (x0 = 7) || decide (x0 = 8)) = true := h7
    rw [e7]
    by_cases h1 : x0 = 1
    · simp [h1] at h7
    · by_cases h2 : x0 = 2
      · simp [h2] at h7
      · by_cases h3 : x1 = 0 <;> by_cases h4 : x2.toList = [] <;> simp [h1, h2, h3, h4, empty_not]
  · have e7 : (decide (x0 = 7) || decide (x0 = 8)) = false := by simpa using h7
    rw [e7]
    by_cases h1 : x0 = 1 <;> by_cases h2 : x0 = 2 <;> by_cases h3 : x1 = 0 <;> by_cases h4 : x2.toList = [] <;> by_cases h5 : x3 = [] <;> simp [h1, h2, h3, h4, h5, List.length_pos_iff, empty_not]
theorem st_l1 (h3 : x3.length ≤ 4) : ∀ d i : Nat, i + d = x3.length → Ev (fun k => spec_l12Term.l1 k names i x0 x1 x2 x3 l) ((x3.drop i).all bitP && (kc x0 x1 x2 x3 && sw (nhas names) x0 x1 x2 l.length))
  | 0, i, hi => by
    refine Ev.step (f := fun k => spec_l12Term.j3 k names (decide (x0 = 7) || decide (x0 = 8)) x0 x1 x2 x3 l) (fun k => ?_) ?_
    · simp only [spec_l12Term.l1]
      rw [if_neg (by omega)]
      by_cases h7 : x0 = 7
      · rw [if_pos h7]; simp [h7]
      · rw [if_neg h7, show (x0 == 8) = decide (x0 = 8) from by by_cases h : x0 = 8 <;> simp [h]]; simp [h7]
    · rw [List.drop_eq_nil_of_le (by omega)]
      exact st_j3 names hl x0 x1 x2 x3 l
  | d + 1, i, hi => by
    have e : x3.drop i = rd x3 i :: x3.drop (i + 1) := by
      rw [List.drop_eq_getElem_cons (by omega)]
      simp [rd, show i < x3.length by omega]
    refine Ev.step (f := fun k => if bitP (rd x3 i) = true then spec_l12Term.l1 k names (i + 1 : Nat) x0 x1 x2 x3 l else some false) (fun k => ?_) ?_
    · simp only [spec_l12Term.l1, in_eq, Option.bind_some]
      rw [if_pos (by omega), if_pos (by omega), suc64 i (by omega)]
      rfl
    · rw [e, List.all_cons]
      cases h : bitP (rd x3 i) with
      | true => exact Ev.pos rfl (by rw [Bool.true_and]; exact st_l1 h3 d (i + 1) (by omega))
      | false => exact Ev.neg (by simp) (Ev.val (by simp))
section
variable {n : Nat} (hn : n ≤ 100) (ih : ∀ t : S78, Ev (fun k => spec_l12Term.f k names t.f0 t.f1 t.f2 t.f3 t.f4 (n : Nat)) (stP (nhas names) n t))
include hn ih
theorem st_l0 (h3 : x3.length ≤ 4) (h4 : l.length ≤ 2) : ∀ d i : Nat, i + d = l.length → Ev (fun k => spec_l12Term.l0 k names ((n + 1 : Nat) : Int) i x0 x1 x2 x3 l) ((l.drop i).all (stP (nhas names) n) && (x3.all bitP && (kc x0 x1 x2 x3 && sw (nhas names) x0 x1 x2 l.length)))
  | 0, i, hi => by
    refine Ev.step (f := fun k => spec_l12Term.l1 k names (0 : Nat) x0 x1 x2 x3 l) (fun k => by simp only [spec_l12Term.l0]; rw [if_neg (by omega)]; rfl) ?_
    rw [List.drop_eq_nil_of_le (by omega)]
    have h := st_l1 names hl x0 x1 x2 x3 l h3 x3.length 0 (by omega)
    rw [List.drop_zero] at h
    exact h
  | d + 1, i, hi => by
    have e : l.drop i = rd_T78 l i :: l.drop (i + 1) := by
      rw [List.drop_eq_getElem_cons (by omega)]
      simp [rd_T78, show i < l.length by omega]
    refine Ev.step (f := fun k => (spec_l12Term.f k names (rd_T78 l i).f0 (rd_T78 l i).f1 (rd_T78 l i).f2 (rd_T78 l i).f3 (rd_T78 l i).f4 (n : Nat)).bind fun t => if t = true then spec_l12Term.l0 k names ((n + 1 : Nat) : Int) (i + 1 : Nat) x0 x1 x2 x3 l else some false) (fun k => ?_) ?_
    · simp only [spec_l12Term.l0]
      rw [if_pos (by omega), if_pos (by omega), suc64 i (by omega), show wrap64 (((n + 1 : Nat) : Int) - 1) = (n : Int) from by rw [w64 _ (by omega)]; omega]
    · refine Ev.bind (g := fun k => spec_l12Term.f k names (rd_T78 l i).f0 (rd_T78 l i).f1 (rd_T78 l i).f2 (rd_T78 l i).f3 (rd_T78 l i).f4 (n : Nat)) (f := fun k t => if t = true then spec_l12Term.l0 k names ((n + 1 : Nat) : Int) (i + 1 : Nat) x0 x1 x2 x3 l else some false) (ih _) ?_
      rw [e, List.all_cons]
      cases h : stP (nhas names) n (rd_T78 l i) with
      | true => exact Ev.pos rfl (by rw [Bool.true_and]; exact st_l0 h3 h4 d (i + 1) (by omega))
      | false => exact Ev.neg (by simp) (Ev.val (by simp))
end
omit hl in
theorem st_j0f (dd : Int) : Ev (fun k => spec_l12Term.j0 k names dd true x0 x1 x2 x3 l) false := Ev.step (f := fun _ => some false) (fun k => by simp only [spec_l12Term.j0]; rw [if_pos (by first | trivial | rfl)]) (Ev.val rfl)
end
theorem st_ev (names : List ByteArray) (hl : names.length ≤ 1000000000) : ∀ n : Nat, n ≤ 100 → ∀ t : S78, Ev (fun k => spec_l12Term.f k names t.f0 t.f1 t.f2 t.f3 t.f4 (n : Nat)) (stP (nhas names) n t)
  | 0, _, t => Ev.step (f := fun k => spec_l12Term.j0 k names (0 : Nat) true t.f0 t.f1 t.f2 t.f3 t.f4) (fun k => by simp only [spec_l12Term.f]; rw [if_pos (by omega)]) (st_j0f names _ _ _ _ _ _)
  | n + 1, hn, t => by
    obtain ⟨x0, x1, x2, x3, l⟩ := t
    rw [stP]
    simp only
    by_cases h4 : l.length ≤ 2
    · by_cases h3 : x3.length ≤ 4
      · refine Ev.step (f := fun k => spec_l12Term.j0 k names ((n + 1 : Nat) : Int) false x0 x1 x2 x3 l) (fun k => by simp only [spec_l12Term.f]; rw [if_neg (by omega), if_neg (by omega), decide_eq_false (by omega)]) ?_
        refine Ev.step (f := fun k => spec_l12Term.l0 k names ((n + 1 : Nat) : Int) (0 : Nat) x0 x1 x2 x3 l) (fun k => by simp only [spec_l12Term.j0]; rw [if_neg (by simp)]; rfl) ?_
        have h := st_l0 names hl x0 x1 x2 x3 l (by omega) (st_ev names hl n (by omega)) h3 h4 l.length 0 (by omega)
        rw [List.drop_zero] at h
        exact Ev.cast h (by simp [h3, h4, Bool.and_assoc])
      · refine Ev.step (f := fun k => spec_l12Term.j0 k names ((n + 1 : Nat) : Int) true x0 x1 x2 x3 l) (fun k => by simp only [spec_l12Term.f]; rw [if_neg (by omega), if_neg (by omega), decide_eq_true (by omega)]) ?_
        exact Ev.cast (st_j0f names _ _ _ _ _ _) (by simp [h3])
    · refine Ev.step (f := fun k => spec_l12Term.j0 k names ((n + 1 : Nat) : Int) true x0 x1 x2 x3 l) (fun k => by simp only [spec_l12Term.f]; rw [if_neg (by omega), if_pos (by omega)]) ?_
      exact Ev.cast (st_j0f names _ _ _ _ _ _) (by simp [h4])
def sTerms (names : List ByteArray) (ts : List S78) : Bool := decide (ts.length ≤ 60) && ts.all (stP (nhas names) 8)
theorem sTerms_l0 (names : List ByteArray) (hl : names.length ≤ 1000000000) (ts : List S78) (ht : ts.length ≤ 60) : ∀ d i : Nat, i + d = ts.length → Ev (fun k => spec_l12Terms.l0 k names ts i) ((ts.drop i).all (stP (nhas names) 8))
  | 0, i, hi => by
    refine Ev.step (f := fun _ => some true) (fun k => by simp only [spec_l12Terms.l0]; rw [if_neg (by omega)]) (Ev.val ?_)
    rw [List.drop_eq_nil_of_le (by omega)]
    rfl
  | d + 1, i, hi => by
    have e : ts.drop i = rd_T78 ts i :: ts.drop (i + 1) := by
      rw [List.drop_eq_getElem_cons (by omega)]
      simp [rd_T78, show i < ts.length by omega]
    refine Ev.step (f := fun k => (spec_l12Term.f k names (rd_T78 ts i).f0 (rd_T78 ts i).f1 (rd_T78 ts i).f2 (rd_T78 ts i).f3 (rd_T78 ts i).f4 (8 : Nat)).bind fun t => if t = true then spec_l12Terms.l0 k names ts (i + 1 : Nat) else some false) (fun k => ?_) ?_
    · simp only [spec_l12Terms.l0]
      rw [if_pos (by omega), if_pos (by omega), suc64 i (by omega)]
      rfl
    · refine Ev.bind (g := fun k => spec_l12Term.f k names (rd_T78 ts i).f0 (rd_T78 ts i).f1 (rd_T78 ts i).f2 (rd_T78 ts i).f3 (rd_T78 ts i).f4 (8 : Nat)) (f := fun k t => if t = true then spec_l12Terms.l0 k names ts (i + 1 : Nat) else some false) (st_ev names hl 8 (by omega) _) ?_
      rw [e, List.all_cons]
      cases h : stP (nhas names) 8 (rd_T78 ts i) with
      | true => exact Ev.pos rfl (by rw [Bool.true_and]; exact sTerms_l0 names hl ts ht d (i + 1) (by omega))
      | false => exact Ev.neg (by simp) (Ev.val (by simp))
theorem sTerms_ev (names : List ByteArray) (hl : names.length ≤ 1000000000) (ts : List S78) : Ev (fun k => spec_l12Terms.f k names ts) (sTerms names ts) := by
  unfold sTerms
  by_cases h : ts.length ≤ 60
  · refine Ev.congr (g := fun k => spec_l12Terms.f k names ts) (f := fun k => spec_l12Terms.l0 k names ts (0 : Nat)) (fun k => by rw [spec_l12Terms.f, if_neg (by omega)]; rfl) ?_
    simpa [h] using sTerms_l0 names hl ts h ts.length 0 (by omega)
  · exact Ev.congr (g := fun k => spec_l12Terms.f k names ts) (f := fun _ => some false) (fun k => by rw [spec_l12Terms.f, if_pos (by omega)]) (Ev.val (by simp [h]))
def arP (l : List S45) (name : ByteArray) : Int × Int × Bool := if (pfind l name).2 then ((pfind l name).1.f1.length, (pfind l name).1.f2.f1.length, true) else (0, 0, false)
theorem arP_nil (name : ByteArray) : arP [] name = (0, 0, false) := rfl
theorem arP_cons (p : S45) (l : List S45) (name : ByteArray) : arP (p :: l) name = if p.f0 = name then ((p.f1.length : Int), (p.f2.f1.length : Int), true) else arP l name := by
  unfold arP pfind
  by_cases h : p.f0 = name
  · rw [List.find?_cons_of_pos (by simp [fmatch, h]), if_pos h]; rfl
  · rw [List.find?_cons_of_neg (by simpa [fmatch, ba_tl] using h), if_neg h]
theorem ar_l0 (l : List S45) (m : Nat) (hm : m ≤ l.length) (hl : l.length ≤ 10) (name : ByteArray) : ∀ d i : Nat, i + d = m → Ev (fun k => spec_l12Arity.l0 k l m name i) (arP ((l.take m).drop i) name)
  | 0, i, hi => by
    refine Ev.step (f := fun _ => some (0, 0, false)) (fun k => by simp only [spec_l12Arity.l0]; rw [if_neg (by omega)]) (Ev.val ?_)
    rw [List.drop_eq_nil_of_le (by rw [List.length_take]; omega), arP_nil]
  | d + 1, i, hi => by
    have e : (l.take m).drop i = rd_T45 l i :: (l.take m).drop (i + 1) := by
      rw [List.drop_eq_getElem_cons (by rw [List.length_take]; omega)]
      simp [rd_T45, show i < l.length by omega]
    rw [e, arP_cons]
    by_cases h : (rd_T45 l i).f0 = name
    · rw [if_pos h]
      exact Ev.step (f := fun _ => some (((rd_T45 l i).f1.length : Int), ((rd_T45 l i).f2.f1.length : Int), true)) (fun k => by simp only [spec_l12Arity.l0]; rw [if_pos (by omega), if_pos (by omega), if_pos (by omega), if_pos (ba_tl.2 h)]) (Ev.val rfl)
    · rw [if_neg h]
      exact Ev.step (f := fun k => spec_l12Arity.l0 k l m name (i + 1 : Nat)) (fun k => by simp only [spec_l12Arity.l0]; rw [if_pos (by omega), if_pos (by omega), if_pos (by omega), if_neg (fun e => h (ba_tl.1 e)), suc64 i (by omega)]) (ar_l0 l m hm hl name d (i + 1) (by omega))
theorem ar_ev (l : List S45) (m : Nat) (hm : m ≤ l.length) (hl : l.length ≤ 10) (name : ByteArray) : Ev (fun k => spec_l12Arity.f k l m name) (arP (l.take m) name) := by
  have h := ar_l0 l m hm hl name m 0 (by omega)
  rw [List.drop_zero] at h
  exact h
def FewB (b : S64) : Prop := b.f4.f0.length + b.f4.f1.length + b.f5.f0.length + b.f5.f1.length ≤ 1000000000
def nothS (b : S64) : Bool := decide (b.f4.f0.length + b.f4.f1.length + b.f5.f0.length + b.f5.f1.length = 0)
def sEnd (ar : Int × Int × Bool) (rt re : Bool) (b : S64) : Bool :=
  if b.f0 = 1 then nothS b && (decide (b.f2.toList = []) && (decide (b.f1.length = 1) && decide (b.f3.length = 1)))
  else if b.f0 = 2 then nothS b && (ar.2.2 && (decide (ar.1 = (b.f3.length : Int)) && decide (ar.2.1 = (b.f1.length : Int))))
  else if b.f0 = 3 then decide (b.f2.toList = []) && (decide (b.f3.length = 1) && (rt && (re && (decide (b.f4.f1.length = b.f1.length) && decide (b.f5.f1.length = b.f1.length)))))
  else false
def sWith (ahead : List S45) (rec : List ByteArray → S43 → Bool) (names : List ByteArray) (b : S64) : Bool :=
  decide (b.f1.length ≤ 60) && (sTerms names b.f3 && (pnFrom b.f1 0 && sEnd (arP ahead b.f2) (rec names b.f4) (rec names b.f5) b))
theorem ite_and {c : Prop} [Decidable c] {x : Bool} : (if c then some x else some false) = some (decide c && x) := by by_cases h : c <;> simp [h]
section
variable {l : List S45} {m : Nat} (hm : m ≤ l.length) (hl : l.length ≤ 10) {names : List ByteArray} {n : Nat} (hn : n ≤ 100) (b : S64) (hb : FewB b) {rt re : Bool}
include hm hl hn hb
theorem sb_end {R : Nat → List S45 → Int → List ByteArray → List S64 → List S78 → Int → Option Bool} (ht : Ev (fun k => R k l m names b.f4.f0 b.f4.f1 (n : Nat)) rt) (he : Ev (fun k => R k l m names b.f5.f0 b.f5.f1 (n : Nat)) re) : Ev (fun k => spec_l12Bind.l0 (R k) k l m names ((n + 1 : Nat) : Int) b.f1.length b.f0 b.f1 b.f2 b.f3 b.f4.f0 b.f4.f1 b.f5.f0 b.f5.f1) (sEnd (arP (l.take m) b.f2) rt re b) := by
  unfold FewB at hb
  have hs : (wrap64 (wrap64 (wrap64 ((b.f4.f0.length : Int) + (b.f4.f1.length : Int)) + (b.f5.f0.length : Int)) + (b.f5.f1.length : Int)) = 0) = (b.f4.f0.length + b.f4.f1.length + b.f5.f0.length + b.f5.f1.length = 0) := by
    rw [w64 ((b.f4.f0.length : Int) + (b.f4.f1.length : Int)) (by omega), w64 ((b.f4.f0.length : Int) + (b.f4.f1.length : Int) + (b.f5.f0.length : Int)) (by omega), w64 _ (by omega)]
    exact propext ⟨fun h => by omega, fun h => by omega⟩
  have hw : wrap64 (((n + 1 : Nat) : Int) - 1) = (n : Int) := by rw [w64 _ (by omega)]; omega
  have c1 : ∀ q : Nat, ((q : Int) = 1) = (q = 1) := fun q => propext ⟨fun h => by omega, fun h => by omega⟩
  have e1 : ∀ q : Nat, ((q : Int) == 1) = decide (q = 1) := fun q => len_beq q 1
  unfold sEnd nothS
  by_cases k1 : b.f0 = 1
  · rw [if_pos k1]
    refine Ev.step (f := fun _ => some (decide (b.f4.f0.length + b.f4.f1.length + b.f5.f0.length + b.f5.f1.length = 0) && (decide (b.f2.toList = []) && (decide (b.f1.length = 1) && decide (b.f3.length = 1))))) (fun k => ?_) (Ev.val rfl)
    simp only [spec_l12Bind.l0]
    rw [if_neg (by omega), if_pos k1]
    simp only [hs, e1, c1, ite_and]
  rw [if_neg k1]
  by_cases k2 : b.f0 = 2
  · rw [if_pos k2]
    refine Ev.step (f := fun k => (spec_l12Arity.f k l m b.f2).bind fun t => some (decide (b.f4.f0.length + b.f4.f1.length + b.f5.f0.length + b.f5.f1.length = 0) && (t.2.2 && (decide (t.1 = (b.f3.length : Int)) && (t.2.1 == (b.f1.length : Int)))))) (fun k => ?_) ?_
    · simp only [spec_l12Bind.l0]
      rw [if_neg (by omega), if_neg k1, if_pos k2]
      simp only [hs, ite_and, Bool.decide_eq_true]
    · exact Ev.bind (g := fun k => spec_l12Arity.f k l m b.f2) (f := fun _ t => some (decide (b.f4.f0.length + b.f4.f1.length + b.f5.f0.length + b.f5.f1.length = 0) && (t.2.2 && (decide (t.1 = (b.f3.length : Int)) && (t.2.1 == (b.f1.length : Int)))))) (ar_ev l m hm hl b.f2) (Ev.val (by rw [show ((arP (l.take m) b.f2).2.1 == (b.f1.length : Int)) = decide ((arP (l.take m) b.f2).2.1 = (b.f1.length : Int)) from by rw [Bool.eq_iff_iff]; simp]))
  rw [if_neg k2]
  by_cases k3 : b.f0 = 3
  · rw [if_pos k3]
    refine Ev.step (f := fun k => if b.f2.toList = [] then (if (b.f3.length : Int) = 1 then ((R (k + 1) l m names b.f4.f0 b.f4.f1 (n : Nat)).bind fun t => if t = true then ((R (k + 1) l m names b.f5.f0 b.f5.f1 (n : Nat)).bind fun u => if u = true then some (decide (b.f4.f1.length = b.f1.length) && decide (b.f5.f1.length = b.f1.length)) else some false) else some false) else some false) else some false) (fun k => ?_) ?_
    · simp only [spec_l12Bind.l0]
      rw [if_neg (by omega), if_neg k1, if_neg k2, if_pos k3, hw]
      simp only [len_beq, ite_and, Int.ofNat_inj]
    · by_cases h1 : b.f2.toList = []
      · refine Ev.pos h1 ?_
        by_cases h2 : b.f3.length = 1
        · refine Ev.pos (by omega) (Ev.bind (g := fun k => R (k + 1) l m names b.f4.f0 b.f4.f1 (n : Nat)) (f := fun k t => if t = true then ((R (k + 1) l m names b.f5.f0 b.f5.f1 (n : Nat)).bind fun u => if u = true then some (decide (b.f4.f1.length = b.f1.length) && decide (b.f5.f1.length = b.f1.length)) else some false) else some false) (Ev.shift ht) ?_)
          cases rt with
          | false => exact Ev.neg (by simp) (Ev.val (by simp))
          | true =>
            refine Ev.pos rfl (Ev.bind (g := fun k => R (k + 1) l m names b.f5.f0 b.f5.f1 (n : Nat)) (f := fun _ u => if u = true then some (decide (b.f4.f1.length = b.f1.length) && decide (b.f5.f1.length = b.f1.length)) else some false) (Ev.shift he) ?_)
            cases re with
            | false => exact Ev.neg (by simp) (Ev.val (by simp))
            | true => exact Ev.pos rfl (Ev.val (by rw [decide_eq_true h1, decide_eq_true h2]; simp))
        · exact Ev.neg (by omega) (Ev.val (by rw [decide_eq_false h2]; simp))
      · exact Ev.neg h1 (Ev.val (by rw [decide_eq_false h1]; simp))
  rw [if_neg k3]
  refine Ev.step (f := fun _ => some false) (fun k => ?_) (Ev.val rfl)
  simp only [spec_l12Bind.l0]
  rw [if_neg (by omega), if_neg k1, if_neg k2, if_neg k3]
theorem sb_l0 (h60 : b.f1.length ≤ 60) (hna : names.length ≤ 1000000000) : ∀ (d i : Nat) {R : Nat → List S45 → Int → List ByteArray → List S64 → List S78 → Int → Option Bool} (_ : Ev (fun k => R k l m names b.f4.f0 b.f4.f1 (n : Nat)) rt) (_ : Ev (fun k => R k l m names b.f5.f0 b.f5.f1 (n : Nat)) re), i + d = b.f1.length → Ev (fun k => spec_l12Bind.l0 (R k) k l m names ((n + 1 : Nat) : Int) i b.f0 b.f1 b.f2 b.f3 b.f4.f0 b.f4.f1 b.f5.f0 b.f5.f1) (pnFrom b.f1 i && sEnd (arP (l.take m) b.f2) rt re b)
  | 0, i, _, ht, he, hi => by
    obtain rfl : i = b.f1.length := by omega
    rw [pnFrom, all_end (by omega), Bool.true_and]
    exact sb_end hm hl hn b hb ht he
  | d + 1, i, R, ht, he, hi => by
    have ih := sb_l0 h60 hna d (i + 1) (R := fun k => R (k + 1)) (Ev.shift ht) (Ev.shift he) (by omega)
    refine Ev.step (f := fun k => (spec_l12Word.f k (rdOf ByteArray.empty b.f1 i)).bind fun t => if t = true then ((spec_l12Has.f k (b.f1.take i) (rdOf ByteArray.empty b.f1 i)).bind fun u => if u = true then some false else spec_l12Bind.l0 (R (k + 1)) k l m names ((n + 1 : Nat) : Int) (i + 1 : Nat) b.f0 b.f1 b.f2 b.f3 b.f4.f0 b.f4.f1 b.f5.f0 b.f5.f1) else some false) (fun k => ?_) ?_
    · simp only [spec_l12Bind.l0]
      rw [if_pos (by omega), if_pos (by omega), suc64 i (by omega)]
      simp only [if_pos (show (i : Int) ≤ (b.f1.length : Int) by omega), Int.toNat_natCast]
    · rw [pnFrom, all_step (by omega)]
      refine Ev.bind (g := fun k => spec_l12Word.f k (rdOf ByteArray.empty b.f1 i)) (f := fun k t => if t = true then ((spec_l12Has.f k (b.f1.take i) (rdOf ByteArray.empty b.f1 i)).bind fun u => if u = true then some false else spec_l12Bind.l0 (R (k + 1)) k l m names ((n + 1 : Nat) : Int) (i + 1 : Nat) b.f0 b.f1 b.f2 b.f3 b.f4.f0 b.f4.f1 b.f5.f0 b.f5.f1) else some false) (sw_ev _) ?_
      cases h : pwP (rdOf ByteArray.empty b.f1 i) with
      | false => exact Ev.neg (by simp) (Ev.val (by simp [pnAt, h]))
      | true =>
        refine Ev.pos rfl (Ev.bind (g := fun k => spec_l12Has.f k (b.f1.take i) (rdOf ByteArray.empty b.f1 i)) (f := fun k u => if u = true then some false else spec_l12Bind.l0 (R (k + 1)) k l m names ((n + 1 : Nat) : Int) (i + 1 : Nat) b.f0 b.f1 b.f2 b.f3 b.f4.f0 b.f4.f1 b.f5.f0 b.f5.f1) (sh_ev _ _ (by rw [List.length_take]; omega)) ?_)
        cases h2 : nhas (b.f1.take i) (rdOf ByteArray.empty b.f1 i) with
        | true => exact Ev.pos rfl (Ev.val (by simp [pnAt, h, h2]))
        | false => exact Ev.neg (by simp) (by rw [pnAt, h, h2]; exact ih)
theorem sb_ev (hna : names.length ≤ 1000000000) {rec : List ByteArray → S43 → Bool} {R : Nat → List S45 → Int → List ByteArray → List S64 → List S78 → Int → Option Bool} (ht : Ev (fun k => R k l m names b.f4.f0 b.f4.f1 (n : Nat)) (rec names b.f4)) (he : Ev (fun k => R k l m names b.f5.f0 b.f5.f1 (n : Nat)) (rec names b.f5)) :
    Ev (fun k => spec_l12Bind.F (R k) k l m names b.f0 b.f1 b.f2 b.f3 b.f4.f0 b.f4.f1 b.f5.f0 b.f5.f1 ((n + 1 : Nat) : Int)) (sWith (l.take m) rec names b) := by
  have hj : ∀ c, (c = false → b.f1.length ≤ 60) → Ev (fun k => spec_l12Bind.j0 (R k) k l m names ((n + 1 : Nat) : Int) c b.f0 b.f1 b.f2 b.f3 b.f4.f0 b.f4.f1 b.f5.f0 b.f5.f1) (!c && (pnFrom b.f1 0 && sEnd (arP (l.take m) b.f2) (rec names b.f4) (rec names b.f5) b)) := by
    intro c hc
    cases c with
    | true => exact Ev.step (f := fun _ => some false) (fun k => by simp only [spec_l12Bind.j0]; rw [if_pos (by first | trivial | rfl)]) (Ev.val rfl)
    | false =>
      have h := sb_l0 hm hl hn b hb (hc rfl) hna b.f1.length 0 (R := fun k => R (k + 1)) (Ev.shift ht) (Ev.shift he) (by omega)
      exact Ev.step (f := fun k => spec_l12Bind.l0 (R (k + 1)) k l m names ((n + 1 : Nat) : Int) (0 : Nat) b.f0 b.f1 b.f2 b.f3 b.f4.f0 b.f4.f1 b.f5.f0 b.f5.f1) (fun k => by simp only [spec_l12Bind.j0]; rw [if_neg (by simp)]; rfl) (Ev.cast h (by simp))
  unfold sWith
  by_cases h60 : b.f1.length ≤ 60
  · refine Ev.congr (f := fun k => (spec_l12Terms.f k names b.f3).bind fun t => spec_l12Bind.j0 (R k) k l m names ((n + 1 : Nat) : Int) (!t) b.f0 b.f1 b.f2 b.f3 b.f4.f0 b.f4.f1 b.f5.f0 b.f5.f1) (fun k => by rw [spec_l12Bind.F, if_neg (by omega)]) ?_
    refine Ev.bind (g := fun k => spec_l12Terms.f k names b.f3) (f := fun k t => spec_l12Bind.j0 (R k) k l m names ((n + 1 : Nat) : Int) (!t) b.f0 b.f1 b.f2 b.f3 b.f4.f0 b.f4.f1 b.f5.f0 b.f5.f1) (sTerms_ev names hna b.f3) ?_
    exact Ev.cast (hj _ (fun _ => h60)) (by rw [decide_eq_true h60, Bool.not_not, Bool.true_and])
  · refine Ev.congr (f := fun k => spec_l12Bind.j0 (R k) k l m names ((n + 1 : Nat) : Int) true b.f0 b.f1 b.f2 b.f3 b.f4.f0 b.f4.f1 b.f5.f0 b.f5.f1) (fun k => by rw [spec_l12Bind.F, if_pos (by omega)]) ?_
    exact Ev.cast (hj true (fun e => by simp at e)) (by rw [decide_eq_false h60]; rfl)
end
def sBinds (step : List ByteArray → S64 → Bool) : List ByteArray → List S64 → Option (List ByteArray)
  | l, [] => some l
  | l, b :: bs => if step l b then sBinds step (l ++ b.f1) bs else none
def sSays (ts : List S78) : Option (List ByteArray) → Bool
  | some l => sTerms l ts
  | none => false
def sBody (ahead : List S45) : Nat → List ByteArray → S43 → Bool
  | 0, _, _ => false
  | n + 1, l, b => decide (b.f0.length ≤ 400) && sSays b.f1 (sBinds (sWith ahead (sBody ahead n)) l b.f0)
inductive FewY : S43 → Prop
  | mk (b : S43) (h : ∀ x ∈ b.f0, FewB x) (h1 : ∀ x ∈ b.f0, FewY x.f4) (h2 : ∀ x ∈ b.f0, FewY x.f5) : FewY b
section
variable {l : List S45} {m : Nat} (hm : m ≤ l.length) (hl : l.length ≤ 10)
include hm hl
theorem by_l0 {n : Nat} (hn : n ≤ 100) (ih : ∀ (names : List ByteArray) (b : S43), FewY b → names.length + 24000 * n ≤ 1000000 → Ev (fun k => spec_l12Body.f k l m names b.f0 b.f1 (n : Nat)) (sBody (l.take m) n names b))
    (b : S43) (hf : FewY b) (h400 : b.f0.length ≤ 400) : ∀ (d i : Nat) (names : List ByteArray), i + d = b.f0.length → names.length + 60 * d + 24000 * n ≤ 1000000 →
      Ev (fun k => spec_l12Body.l0 k l m names ((n + 1 : Nat) : Int) i b.f0 b.f1) (sSays b.f1 (sBinds (sWith (l.take m) (sBody (l.take m) n)) names (b.f0.drop i)))
  | 0, i, names, hi, hk => by
    refine Ev.step (f := fun k => (spec_l12Terms.f k names b.f1).bind fun t => some t) (fun k => by simp only [spec_l12Body.l0]; rw [if_neg (by omega)]) ?_
    rw [List.drop_eq_nil_of_le (by omega)]
    exact Ev.bind (g := fun k => spec_l12Terms.f k names b.f1) (f := fun _ t => some t) (sTerms_ev names (by omega) b.f1) (Ev.val rfl)
  | d + 1, i, names, hi, hk => by
    have e : b.f0.drop i = rd_T64 b.f0 i :: b.f0.drop (i + 1) := by
      rw [List.drop_eq_getElem_cons (by omega)]
      simp [rd_T64, show i < b.f0.length by omega]
    have hx : FewB (rd_T64 b.f0 i) ∧ FewY (rd_T64 b.f0 i).f4 ∧ FewY (rd_T64 b.f0 i).f5 := by
      have hx : rd_T64 b.f0 i ∈ b.f0 := List.mem_of_mem_drop (e ▸ List.mem_cons_self)
      cases hf with
      | mk _ h h1 h2 => exact ⟨h _ hx, h1 _ hx, h2 _ hx⟩
    refine Ev.step (f := fun k => (spec_l12Bind.F (spec_l12Body.f k) k l m names (rd_T64 b.f0 i).f0 (rd_T64 b.f0 i).f1 (rd_T64 b.f0 i).f2 (rd_T64 b.f0 i).f3 (rd_T64 b.f0 i).f4.f0 (rd_T64 b.f0 i).f4.f1 (rd_T64 b.f0 i).f5.f0 (rd_T64 b.f0 i).f5.f1 ((n + 1 : Nat) : Int)).bind fun t => if t = true then (if names.length + (rd_T64 b.f0 i).f1.length < 8796093022208 then spec_l12Body.l0 k l m (names ++ (rd_T64 b.f0 i).f1) ((n + 1 : Nat) : Int) (i + 1 : Nat) b.f0 b.f1 else none) else some false) (fun k => ?_) ?_
    · simp only [spec_l12Body.l0]
      rw [if_pos (by omega), if_pos (by omega), suc64 i (by omega)]
    · refine Ev.bind (g := fun k => spec_l12Bind.F (spec_l12Body.f k) k l m names (rd_T64 b.f0 i).f0 (rd_T64 b.f0 i).f1 (rd_T64 b.f0 i).f2 (rd_T64 b.f0 i).f3 (rd_T64 b.f0 i).f4.f0 (rd_T64 b.f0 i).f4.f1 (rd_T64 b.f0 i).f5.f0 (rd_T64 b.f0 i).f5.f1 ((n + 1 : Nat) : Int)) (f := fun k t => if t = true then (if names.length + (rd_T64 b.f0 i).f1.length < 8796093022208 then spec_l12Body.l0 k l m (names ++ (rd_T64 b.f0 i).f1) ((n + 1 : Nat) : Int) (i + 1 : Nat) b.f0 b.f1 else none) else some false)
        (sb_ev hm hl hn (rd_T64 b.f0 i) hx.1 (by omega) (rec := sBody (l.take m) n) (R := spec_l12Body.f) (ih _ _ hx.2.1 (by omega)) (ih _ _ hx.2.2 (by omega))) ?_
      rw [e, sBinds]
      cases h : sWith (l.take m) (sBody (l.take m) n) names (rd_T64 b.f0 i) with
      | false => exact Ev.neg (by simp) (Ev.val (by simp [sSays]))
      | true =>
        have h60 : (rd_T64 b.f0 i).f1.length ≤ 60 := by
          simp only [sWith, Bool.and_eq_true, decide_eq_true_eq] at h
          exact h.1
        exact Ev.pos rfl (Ev.pos (by omega) (by rw [if_pos rfl]; exact by_l0 hn ih b hf h400 d (i + 1) _ (by omega) (by rw [List.length_append]; omega)))
theorem by_ev : ∀ n : Nat, n ≤ 10 → ∀ (names : List ByteArray) (b : S43), FewY b → names.length + 24000 * n ≤ 1000000 → Ev (fun k => spec_l12Body.f k l m names b.f0 b.f1 (n : Nat)) (sBody (l.take m) n names b)
  | 0, _, names, b, _, _ => Ev.step (f := fun k => spec_l12Body.j0 k l m names (0 : Nat) true b.f0 b.f1) (fun k => by simp only [spec_l12Body.f]; rw [if_pos (by omega)]) (Ev.step (f := fun _ => some false) (fun k => by simp only [spec_l12Body.j0]; rw [if_pos (by first | trivial | rfl)]) (Ev.val rfl))
  | n + 1, hn, names, b, hf, hk => by
    rw [sBody]
    by_cases h : b.f0.length ≤ 400
    · refine Ev.step (f := fun k => spec_l12Body.j0 k l m names ((n + 1 : Nat) : Int) false b.f0 b.f1) (fun k => by simp only [spec_l12Body.f]; rw [if_neg (by omega), decide_eq_false (by omega)]) ?_
      refine Ev.step (f := fun k => spec_l12Body.l0 k l m names ((n + 1 : Nat) : Int) (0 : Nat) b.f0 b.f1) (fun k => ?_) ?_
      · simp only [spec_l12Body.j0, Option.bind_some, List.length_nil, List.nil_append]
        rw [if_neg (by simp), if_pos (by omega)]
        rfl
      · have h2 := by_l0 hm hl (show n ≤ 100 by omega) (by_ev n (by omega)) b hf h b.f0.length 0 names (by omega) (by omega)
        rw [List.drop_zero] at h2
        exact Ev.cast h2 (by rw [decide_eq_true h, Bool.true_and])
    · refine Ev.step (f := fun k => spec_l12Body.j0 k l m names ((n + 1 : Nat) : Int) true b.f0 b.f1) (fun k => by simp only [spec_l12Body.f]; rw [if_neg (by omega), decide_eq_true (by omega)]) ?_
      exact Ev.step (f := fun _ => some false) (fun k => by simp only [spec_l12Body.j0]; rw [if_pos (by first | trivial | rfl)]) (Ev.val (by rw [decide_eq_false h]; rfl))
end
def sAt (l : List S45) (i : Nat) : Bool :=
  !(arP (l.take i) (rd_T45 l i).f0).2.2 && (pwP (rd_T45 l i).f0 && (decide ((rd_T45 l i).f1.length ≤ 60) && (sBody (l.take i) 6 (rd_T45 l i).f1 (rd_T45 l i).f2 && pnFrom (rd_T45 l i).f1 0)))
def sFrom (l : List S45) (i : Nat) : Bool := (List.range' i (l.length - i)).all (sAt l)
theorem pu_l1 (l : List S45) (hl : l.length ≤ 10) (i : Nat) (hi : i < l.length) (h60 : (rd_T45 l i).f1.length ≤ 60) {r : Bool} :
    ∀ (d j : Nat), j + d = (rd_T45 l i).f1.length → Ev (fun k => spec_PureOk.l0 k l (i + 1 : Nat)) r → Ev (fun k => spec_PureOk.l1 k l i j) (pnFrom (rd_T45 l i).f1 j && r)
  | 0, j, hj, h => by
    rw [pnFrom, all_end (by omega), Bool.true_and]
    refine Ev.step (f := fun k => spec_PureOk.l0 k l (i + 1 : Nat)) (fun k => ?_) h
    simp only [spec_PureOk.l1]
    rw [if_pos (by omega), if_pos (by omega), if_neg (by omega), suc64 i (by omega)]
  | d + 1, j, hj, h => by
    have ih := pu_l1 l hl i hi h60 d (j + 1) (by omega) h
    refine Ev.step (f := fun k => (spec_l12Word.f k (rdOf ByteArray.empty (rd_T45 l i).f1 j)).bind fun t => if t = true then ((spec_l12Has.f k ((rd_T45 l i).f1.take j) (rdOf ByteArray.empty (rd_T45 l i).f1 j)).bind fun u => if u = true then some false else spec_PureOk.l1 k l i (j + 1 : Nat)) else some false) (fun k => ?_) ?_
    · simp only [spec_PureOk.l1]
      rw [if_pos (by omega), if_pos (by omega), if_pos (by omega), if_pos (by omega), suc64 j (by omega)]
      simp only [if_pos (show (j : Int) ≤ ((rd_T45 l i).f1.length : Int) by omega), Int.toNat_natCast]
    · rw [pnFrom, all_step (by omega)]
      refine Ev.bind (g := fun k => spec_l12Word.f k (rdOf ByteArray.empty (rd_T45 l i).f1 j)) (f := fun k t => if t = true then ((spec_l12Has.f k ((rd_T45 l i).f1.take j) (rdOf ByteArray.empty (rd_T45 l i).f1 j)).bind fun u => if u = true then some false else spec_PureOk.l1 k l i (j + 1 : Nat)) else some false) (sw_ev _) ?_
      cases h : pwP (rdOf ByteArray.empty (rd_T45 l i).f1 j) with
      | false => exact Ev.neg (by simp) (Ev.val (by simp [pnAt, h]))
      | true =>
        refine Ev.pos rfl (Ev.bind (g := fun k => spec_l12Has.f k ((rd_T45 l i).f1.take j) (rdOf ByteArray.empty (rd_T45 l i).f1 j)) (f := fun k u => if u = true then some false else spec_PureOk.l1 k l i (j + 1 : Nat)) (sh_ev _ _ (by rw [List.length_take]; omega)) ?_)
        cases h2 : nhas ((rd_T45 l i).f1.take j) (rdOf ByteArray.empty (rd_T45 l i).f1 j) with
        | true => exact Ev.pos rfl (Ev.val (by simp [pnAt, h, h2]))
        | false => exact Ev.neg (by simp) (by rw [pnAt, h, h2]; exact ih)
theorem pu_l0 (l : List S45) (hl : l.length ≤ 10) (hf : ∀ x ∈ l, FewY x.f2) : ∀ d i : Nat, i + d = l.length → Ev (fun k => spec_PureOk.l0 k l i) (sFrom l i)
  | 0, i, hi => by
    refine Ev.step (f := fun _ => some true) (fun k => by simp only [spec_PureOk.l0]; rw [if_neg (by omega)]) (Ev.val ?_)
    rw [sFrom, all_end (by omega)]
  | d + 1, i, hi => by
    have ih := pu_l0 l hl hf d (i + 1) (by omega)
    have hj : Ev (fun k => spec_PureOk.j1 k l i true) false := Ev.step (f := fun _ => some false) (fun k => by simp only [spec_PureOk.j1]; rw [if_pos (by first | trivial | rfl)]) (Ev.val rfl)
    have hy : FewY (rd_T45 l i).f2 := by
      have e : rd_T45 l i = l[i]'(by omega) := by simp [rd_T45, show i < l.length by omega]
      rw [e]
      exact hf _ (List.getElem_mem _)
    refine Ev.step (f := fun k => (spec_l12Arity.f k l i (rd_T45 l i).f0).bind fun bt => if bt.2.2 = true then spec_PureOk.j1 k l i true else ((spec_l12Word.f k (rd_T45 l i).f0).bind fun t => if t = true then (if ((rd_T45 l i).f1.length : Int) > 60 then spec_PureOk.j1 k l i true else ((spec_l12Body.f k l i (rd_T45 l i).f1 (rd_T45 l i).f2.f0 (rd_T45 l i).f2.f1 (6 : Nat)).bind fun u => spec_PureOk.j1 k l i (!u))) else spec_PureOk.j1 k l i true)) (fun k => ?_) ?_
    · simp only [spec_PureOk.l0]
      rw [if_pos (by omega), if_pos (by omega)]
      rfl
    · rw [sFrom, all_step (by omega), sAt]
      refine Ev.bind (g := fun k => spec_l12Arity.f k l i (rd_T45 l i).f0) (f := fun k bt => if bt.2.2 = true then spec_PureOk.j1 k l i true else ((spec_l12Word.f k (rd_T45 l i).f0).bind fun t => if t = true then (if ((rd_T45 l i).f1.length : Int) > 60 then spec_PureOk.j1 k l i true else ((spec_l12Body.f k l i (rd_T45 l i).f1 (rd_T45 l i).f2.f0 (rd_T45 l i).f2.f1 (6 : Nat)).bind fun u => spec_PureOk.j1 k l i (!u))) else spec_PureOk.j1 k l i true)) (ar_ev l i (by omega) hl _) ?_
      cases h1 : (arP (l.take i) (rd_T45 l i).f0).2.2 with
      | true => exact Ev.pos rfl (Ev.cast hj (by simp))
      | false =>
        refine Ev.neg (by simp) (Ev.bind (g := fun k => spec_l12Word.f k (rd_T45 l i).f0) (f := fun k t => if t = true then (if ((rd_T45 l i).f1.length : Int) > 60 then spec_PureOk.j1 k l i true else ((spec_l12Body.f k l i (rd_T45 l i).f1 (rd_T45 l i).f2.f0 (rd_T45 l i).f2.f1 (6 : Nat)).bind fun u => spec_PureOk.j1 k l i (!u))) else spec_PureOk.j1 k l i true) (sw_ev _) ?_)
        cases h2 : pwP (rd_T45 l i).f0 with
        | false => exact Ev.neg (by simp) (Ev.cast hj (by simp))
        | true =>
          refine Ev.pos rfl ?_
          by_cases h3 : (rd_T45 l i).f1.length ≤ 60
          · refine Ev.neg (by omega) (Ev.bind (g := fun k => spec_l12Body.f k l i (rd_T45 l i).f1 (rd_T45 l i).f2.f0 (rd_T45 l i).f2.f1 (6 : Nat)) (f := fun k u => spec_PureOk.j1 k l i (!u)) (by_ev (by omega) hl 6 (by omega) (rd_T45 l i).f1 (rd_T45 l i).f2 hy (by omega)) ?_)
            cases h4 : sBody (l.take i) 6 (rd_T45 l i).f1 (rd_T45 l i).f2 with
            | false => exact Ev.cast hj (by simp)
            | true =>
              refine Ev.step (f := fun k => spec_PureOk.l1 k l i (0 : Nat)) (fun k => by simp only [Bool.not_true, spec_PureOk.j1]; rw [if_neg (by simp)]; rfl) ?_
              exact Ev.cast (pu_l1 l hl i (by omega) h3 (rd_T45 l i).f1.length 0 (by omega) ih) (by rw [decide_eq_true h3]; simp [sFrom])
          · exact Ev.pos (by omega) (Ev.cast hj (by rw [decide_eq_false h3]; simp))
def sPure (l : List S45) : Bool := decide (l.length ≤ 10) && sFrom l 0
theorem sPure_ev (l : List S45) (hf : ∀ x ∈ l, FewY x.f2) : Ev (fun k => spec_PureOk.f k l) (sPure l) := by
  unfold sPure
  by_cases h : l.length ≤ 10
  · refine Ev.congr (g := fun k => spec_PureOk.f k l) (f := fun k => spec_PureOk.l0 k l (0 : Nat)) (fun k => by rw [spec_PureOk.f, if_neg (by omega)]; rfl) ?_
    exact Ev.cast (pu_l0 l h hf l.length 0 (by omega)) (by rw [decide_eq_true h, Bool.true_and])
  · exact Ev.congr (g := fun k => spec_PureOk.f k l) (f := fun _ => some false) (fun k => by rw [spec_PureOk.f, if_pos (by omega)]) (Ev.val (by rw [decide_eq_false h]; rfl))
end Go.Proofs.Ytdgpegkgelciaaa.PA
end
section
namespace Go.Proofs.Ytdgpegkgelciaaa.PA
open Go.RowKit Go.Proofs.YtdgpegkgelciaaaW.PrintWords Go.Proofs.YtdgpegkgelciaaaW.PrintLast Go.Proofs.YtdgpegkgelciaaaW.PrintMore
theorem all_congr {α : Type} {p q : α → Bool} : ∀ {l : List α}, (∀ x ∈ l, p x = q x) → l.all p = l.all q
  | [], _ => rfl
  | x :: l, h => by rw [List.all_cons, List.all_cons, h x List.mem_cons_self, all_congr fun y hy => h y (List.mem_cons_of_mem _ hy)]
theorem isEmpty_len {α : Type} (l : List α) : l.isEmpty = decide (l.length = 0) := by cases l <;> simp
theorem tb1 : ∀ A P N S L3 L4 L2 K : Bool, (L3 = true → P = true ∧ L4 = true) → (K = true → L2 = true) → (L2 && L4 && A && P && (S && L3 && (N && K))) = (N && S && L3 && K && A) := by decide
theorem tb2 : ∀ A P W B Z L3 L4 L2 K : Bool, (L3 = true → P = true ∧ L4 = true) → (K = true → L2 = true) → (B = true → W = true) → (L2 && L4 && A && P && (Z && L3 && (B && K))) = (W && B && Z && L3 && K && A) := by decide
theorem tb3 : ∀ A P Z S L3 L4 L2 K : Bool, (L3 = true → P = true ∧ L4 = true) → (K = true → L2 = true) → (L2 && L4 && A && P && (Z && S && L3 && K)) = (Z && S && L3 && K && A) := by decide
theorem tb7 : ∀ A P Z S L4 L2 K : Bool, (K = true → L2 = true) → (L2 && L4 && A && P && (Z && S && K)) = (L4 && P && Z && S && K && A) := by decide
theorem st_tk {b : ByteArray → Bool} (hb : ∀ s, b s = true → pwP s = true) : ∀ (n : Nat) (t : S78), stP b n t = tkP b n t
  | 0, _ => rfl
  | n + 1, t => by
    obtain ⟨x0, x1, x2, x3, l⟩ := t
    rw [stP, tkP]
    simp only
    rw [all_congr (q := tkP b n) fun x _ => st_tk hb n x]
    unfold kc sw pathP
    rw [isEmpty_len x3, isEmpty_len l]
    have h3 : decide (x3.length = 0) = true → x3.all bitP = true ∧ decide (x3.length ≤ 4) = true := by
      intro h
      have e := List.length_eq_zero_iff.1 (of_decide_eq_true h)
      subst e
      exact ⟨rfl, rfl⟩
    have hk : ∀ m : Nat, m ≤ 2 → decide (l.length = m) = true → decide (l.length ≤ 2) = true := fun m hm h => decide_eq_true (by have := of_decide_eq_true h; omega)
    by_cases k1 : x0 = 1
    · subst k1
      simpa using tb1 _ _ (decide (0 ≤ x1 ∧ x1 ≤ 9999)) x2.toList.isEmpty _ _ _ _ h3 (hk 0 (by omega))
    by_cases k2 : x0 = 2
    · subst k2
      simpa using tb2 _ _ _ _ (decide (x1 = 0)) _ _ _ _ h3 (hk 0 (by omega)) (hb x2)
    by_cases k3 : 3 ≤ x0 ∧ x0 ≤ 6
    · have k7 : x0 ≠ 7 := by omega
      have k8 : x0 ≠ 8 := by omega
      have k9 : x0 ≤ 8 := by omega
      simpa [k1, k2, k3, k7, k8, k9] using tb3 _ _ (decide (x1 = 0)) x2.toList.isEmpty _ _ _ _ h3 (hk 2 (by omega))
    by_cases k7 : x0 = 7
    · subst k7
      simpa using tb7 _ _ (decide (x1 = 0)) x2.toList.isEmpty (decide (x3.length ≤ 4)) _ _ (hk 1 (by omega))
    by_cases k8 : x0 = 8
    · subst k8
      simpa using tb7 _ _ (decide (x1 = 0)) x2.toList.isEmpty (decide (x3.length ≤ 4)) _ _ (hk 2 (by omega))
    have k9 : ¬ (3 ≤ x0 ∧ x0 ≤ 8) := by omega
    simp [k1, k2, k3, k7, k8, k9]
theorem noth_eq (b : S64) : nothS b = (nB b.f4.f0.length b.f4.f1.length && nB b.f5.f0.length b.f5.f1.length) := by
  unfold nothS nB zB
  rw [Bool.eq_iff_iff]
  simp only [decide_eq_true_eq, Bool.and_eq_true, beq_iff_eq]
  omega
theorem sB_eq (s : ByteArray) : decide (s.toList = []) = sB s := by unfold sB; cases h : s.toList <;> simp
theorem oB_d (n : Nat) : decide (n = 1) = oB n := by unfold oB; rw [Bool.eq_iff_iff]; simp
theorem qB_d (n m : Nat) : decide ((n : Int) = (m : Int)) = qB m n := by
  unfold qB
  rw [Bool.eq_iff_iff]
  simp only [decide_eq_true_eq, beq_iff_eq]
  omega
theorem qB_n (n m : Nat) : decide (n = m) = qB m n := by
  unfold qB
  rw [Bool.eq_iff_iff]
  simp only [decide_eq_true_eq, beq_iff_eq]
  omega
theorem pfind_mem {l : List S45} {name : ByteArray} (h : (pfind l name).2 = true) : (pfind l name).1 ∈ l := by
  unfold pfind at h ⊢
  cases hf : l.find? (fmatch name) with
  | none => rw [hf] at h; simp at h
  | some p => exact List.mem_of_find?_eq_some hf
theorem wb1 : ∀ D T A F N S O1 O3 : Bool, (O3 = true → T = true) → (D && (T && A && (F && (N && (S && (O1 && O3)))))) = (D && F && (N && S && (O1 && O3 && A))) := by decide
theorem wb2 : ∀ D T A F N Q1 Q2 : Bool, (Q1 = true → T = true) → (D && (T && A && (F && (N && (Q1 && Q2))))) = (D && F && (N && (Q1 && Q2 && A))) := by decide
theorem wb3 : ∀ D T A F S O3 R1 R2 Q1 Q2 : Bool, (O3 = true → T = true) → (D && (T && A && (F && (S && (O3 && (R1 && (R2 && (Q1 && Q2)))))))) = (D && F && (S && (O3 && A && Q1 && Q2 && R1 && R2))) := by decide
theorem with_eq {ahead : List S45} (ha : ∀ p ∈ ahead, p.f1.length ≤ 60) {rec1 rec2 : List ByteArray → S43 → Bool} {l1 l2 : List ByteArray} (hm : nhas l1 = nhas l2) (hp : ∀ s, nhas l1 s = true → pwP s = true)
    (b : S64) (r1 : rec1 l1 b.f4 = rec2 l2 b.f4) (r2 : rec1 l1 b.f5 = rec2 l2 b.f5) : sWith ahead rec1 l1 b = (pnP b.f1 && okW tk8 ahead rec2 l2 b) := by
  unfold sWith sTerms pnP okW sEnd
  have e : b.f3.all (stP (nhas l1) 8) = b.f3.all (tk8 l2) := all_congr fun x _ => by rw [st_tk hp, tk8, hm]
  rw [e, r1, r2, noth_eq, sB_eq, oB_d, oB_d, qB_n, qB_n]
  have h1 : oB b.f3.length = true → decide (b.f3.length ≤ 60) = true := fun h => decide_eq_true (by rw [oB, beq_iff_eq] at h; omega)
  by_cases k1 : b.f0 = 1
  · rw [if_pos k1, if_pos k1]
    exact wb1 _ _ _ _ _ _ _ _ h1
  rw [if_neg k1, if_neg k1]
  by_cases k2 : b.f0 = 2
  · rw [if_pos k2, if_pos k2]
    cases hf : (pfind ahead b.f2).2 with
    | false =>
      rw [show arP ahead b.f2 = (0, 0, false) from by rw [arP, hf]; rfl]
      simp
    | true =>
      rw [show arP ahead b.f2 = (((pfind ahead b.f2).1.f1.length : Int), ((pfind ahead b.f2).1.f2.f1.length : Int), true) from by rw [arP, hf]; rfl]
      simp only [Bool.true_and, qB_d]
      have h60 := ha _ (pfind_mem hf)
      exact wb2 _ _ _ _ _ _ _ (fun h => decide_eq_true (by rw [qB, beq_iff_eq] at h; omega))
  rw [if_neg k2, if_neg k2]
  by_cases k3 : b.f0 = 3
  · rw [if_pos k3, if_pos k3]
    exact wb3 _ _ _ _ _ _ _ _ _ _ h1
  rw [if_neg k3, if_neg k3]
  simp
theorem nhas_app (l r : List ByteArray) (s : ByteArray) : nhas (l ++ r) s = (nhas l s || nhas r s) := by unfold nhas; rw [List.any_append]
theorem nhas_add (l : List ByteArray) (x s : ByteArray) : nhas (nadd l x) s = (nhas l s || (s == x)) := by
  unfold nadd
  split
  · rename_i h
    cases hs : nhas l s with
    | true => rfl
    | false =>
      rw [Bool.false_or]
      refine (Bool.eq_false_iff.2 fun e => ?_).symm
      rw [ba_beq.1 e, h] at hs
      exact absurd hs (by simp)
  · rw [nhas_app]
    simp [nhas]
theorem nhas_fold (s : ByteArray) : ∀ (r l : List ByteArray), nhas (r.foldl nadd l) s = (nhas l s || nhas r s)
  | [], l => by simp [nhas]
  | x :: r, l => by rw [List.foldl_cons, nhas_fold s r, nhas_add, nhas_cons, Bool.or_assoc]
theorem pnFrom_mem {l : List ByteArray} (h : pnFrom l 0 = true) {s : ByteArray} (hs : nhas l s = true) : pwP s = true := by
  obtain ⟨i, hi, e⟩ := List.getElem_of_mem (nhas_iff.1 hs)
  unfold pnFrom at h
  rw [List.all_eq_true] at h
  have := h i (by rw [List.mem_range']; exact ⟨i, by omega, by omega⟩)
  unfold pnAt at this
  rw [Bool.and_eq_true] at this
  rw [← e]
  simpa [rdOf, hi] using this.1
theorem says_eq {l1 l2 : List ByteArray} (hm : nhas l1 = nhas l2) (hp : ∀ s, nhas l1 s = true → pwP s = true) (ts : List S78) : sTerms l1 ts = (decide (ts.length ≤ 60) && ts.all (tk8 l2)) := by
  unfold sTerms
  rw [all_congr (q := tk8 l2) fun x _ => by rw [st_tk hp, tk8, hm]]
theorem binds_eq {ahead : List S45} (ha : ∀ p ∈ ahead, p.f1.length ≤ 60) {rec1 rec2 : List ByteArray → S43 → Bool} (ih : ∀ (l1 l2 : List ByteArray) (b : S43), nhas l1 = nhas l2 → (∀ s, nhas l1 s = true → pwP s = true) → rec1 l1 b = rec2 l2 b) (says : List S78) :
    ∀ (bs : List S64) (l1 l2 : List ByteArray), nhas l1 = nhas l2 → (∀ s, nhas l1 s = true → pwP s = true) → sSays says (sBinds (sWith ahead rec1) l1 bs) = (decide (says.length ≤ 60) && okSays tk8 says (okBinds pnP (okW tk8 ahead rec2) l2 bs))
  | [], l1, l2, hm, hp => says_eq hm hp says
  | b :: bs, l1, l2, hm, hp => by
    rw [sBinds, okBinds, with_eq ha hm hp b (ih l1 l2 _ hm hp) (ih l1 l2 _ hm hp)]
    cases h : (pnP b.f1 && okW tk8 ahead rec2 l2 b) with
    | false => simp [sSays, okSays]
    | true =>
      rw [if_pos rfl, if_pos rfl]
      have hn : pnFrom b.f1 0 = true := by
        simp only [pnP, Bool.and_eq_true] at h
        exact h.1.2
      refine binds_eq ha ih says bs _ _ (funext fun s => by rw [nhas_app, nhas_fold, hm]) (fun s hs => ?_)
      rw [nhas_app, Bool.or_eq_true] at hs
      exact hs.elim (hp s) (pnFrom_mem hn)
theorem body_eq {ahead : List S45} (ha : ∀ p ∈ ahead, p.f1.length ≤ 60) : ∀ (n : Nat) (l1 l2 : List ByteArray) (b : S43), nhas l1 = nhas l2 → (∀ s, nhas l1 s = true → pwP s = true) → sBody ahead n l1 b = okBody tk8 pnP ahead n l2 b
  | 0, _, _, _, _, _ => rfl
  | n + 1, l1, l2, b, hm, hp => by rw [sBody, okBody, binds_eq ha (body_eq ha n) b.f1 b.f0 l1 l2 hm hp, Bool.and_assoc]
theorem at_eq (l : List S45) (i : Nat) (ha : ∀ p ∈ l.take i, p.f1.length ≤ 60) : sAt l i = okAt tk8 pnP pwP l i := by
  unfold sAt okAt
  have e : (arP (l.take i) (rd_T45 l i).f0).2.2 = (pfind (l.take i) (rd_T45 l i).f0).2 := by
    unfold arP
    cases (pfind (l.take i) (rd_T45 l i).f0).2 <;> rfl
  rw [e]
  cases hn : pnP (rd_T45 l i).f1 with
  | false =>
    have : (decide ((rd_T45 l i).f1.length ≤ 60) && pnFrom (rd_T45 l i).f1 0) = false := hn
    rcases Bool.and_eq_false_iff.1 this with h | h <;> simp [h]
  | true =>
    have h := hn
    simp only [pnP, Bool.and_eq_true] at h
    rw [body_eq ha 6 (rd_T45 l i).f1 ((rd_T45 l i).f1.foldl nadd []) _ (funext fun s => by rw [nhas_fold]; rfl) (fun s hs => pnFrom_mem h.2 hs), h.1, h.2]
    simp [Bool.and_assoc]
theorem from_eq (l : List S45) : ∀ d i : Nat, i + d = l.length → (∀ p ∈ l.take i, p.f1.length ≤ 60) → sFrom l i = okFrom tk8 pnP pwP l i
  | 0, i, hi, _ => by rw [sFrom, all_end (by omega), okFrom_end (by omega)]
  | d + 1, i, hi, ha => by
    rw [sFrom, all_step (by omega), at_eq l i ha, okFrom_step (by omega)]
    cases h : okAt tk8 pnP pwP l i with
    | false => rfl
    | true =>
      rw [Bool.true_and, Bool.true_and]
      refine from_eq l d (i + 1) (by omega) (fun p hp => ?_)
      have hi' : i < l.length := by omega
      rw [List.take_add_one, List.getElem?_eq_getElem hi'] at hp
      rcases List.mem_append.1 hp with hp | hp
      · exact ha p hp
      · have e : p = rd_T45 l i := by
          rw [Option.toList_some, List.mem_singleton] at hp
          rw [hp]
          simp [rd_T45, hi']
        rw [e]
        simp only [okAt, pnP, Bool.and_eq_true, decide_eq_true_eq] at h
        exact h.1.2.1
theorem pure_eq (l : List S45) : sPure l = okPure tk8 pnP pwP l := by
  unfold sPure okPure
  rw [from_eq l l.length 0 (by omega) (fun p hp => by simp at hp)]
end Go.Proofs.Ytdgpegkgelciaaa.PA
end
section
namespace Go.Proofs.Ytdgpegkgelciaaa.ExU
open Go.RowKit Go.Proofs.Ytdgpegkgelciaaa.PA Go.Proofs.YtdgpegkgelciaaaW.PrintWords Go.Proofs.YtdgpegkgelciaaaW.PrintLast Go.Proofs.YtdgpegkgelciaaaW.PrintMore Go.Proofs.Ytdgpegkgelciaaa.OpenU
theorem few_B {x : S93} (h : Ok93 x) : cntB x ≤ 1048576 → FewB (cvB x) ∧ FewY (cvB x).f4 ∧ FewY (cvB x).f5 := by
  induction h with
  | mk t h0 h1 h2 h3 h4 h5 h6 h7 h8 h9 ih1 ih2 =>
    intro hc
    rw [cntB_eq] at hc
    rw [cvB_eq]
    have g1 := len_cntBs t.f4.f0
    have g2 := len_cntTs t.f4.f1
    have g3 := len_cntBs t.f5.f0
    have g4 := len_cntTs t.f5.f1
    have k1 : ∀ y ∈ cvBs t.f4.f0, FewB y ∧ FewY y.f4 ∧ FewY y.f5 := fun y hy => by
      rw [cvBs_eq] at hy
      obtain ⟨x, hx, rfl⟩ := List.mem_map.1 hy
      exact ih1 x hx (by have := cnt_bind hx; omega)
    have k2 : ∀ y ∈ cvBs t.f5.f0, FewB y ∧ FewY y.f4 ∧ FewY y.f5 := fun y hy => by
      rw [cvBs_eq] at hy
      obtain ⟨x, hx, rfl⟩ := List.mem_map.1 hy
      exact ih2 x hx (by have := cnt_bind hx; omega)
    refine ⟨?_, .mk _ (fun y hy => (k1 y hy).1) (fun y hy => (k1 y hy).2.1) (fun y hy => (k1 y hy).2.2), .mk _ (fun y hy => (k2 y hy).1) (fun y hy => (k2 y hy).2.1) (fun y hy => (k2 y hy).2.2)⟩
    unfold FewB
    simp only [cvBs_len, cvTs_len]
    omega
theorem few_U {x : S37} (h : OkU x) (hc : cntU x ≤ 1048576) : FewY (cvU x).f2 := by
  unfold cntU at hc
  have k1 : ∀ y ∈ cvBs x.f2.f0, FewB y ∧ FewY y.f4 ∧ FewY y.f5 := fun y hy => by
    rw [cvBs_eq] at hy
    obtain ⟨b, hb, rfl⟩ := List.mem_map.1 hy
    exact few_B (h.2.2.1.2 b hb) (by have := cnt_bind hb; omega)
  exact .mk _ (fun y hy => (k1 y hy).1) (fun y hy => (k1 y hy).2.1) (fun y hy => (k1 y hy).2.2)
theorem pure_ev {l : List S37} (h : OkUs l) (hc : cntUs l ≤ 1048576) : Ev (fun k => spec_PureOk.f k (cvUs l)) (okPure tk8 pnP pwP (cvUs l)) := by
  rw [← pure_eq]
  refine sPure_ev _ (fun y hy => ?_)
  obtain ⟨x, hx, rfl⟩ := List.mem_map.1 hy
  unfold cntUs at hc
  exact few_U (h.2 x hx) (by have := sums_mem (c := cntU) hx; omega)
end Go.Proofs.Ytdgpegkgelciaaa.ExU
end
section
namespace Go.Proofs.Ytdgpegkgelciaaa.PA
open Go.RowKit Go.Proofs.YtdgpegkgelciaaaW.PrintWords Go.Proofs.YtdgpegkgelciaaaW.PrintLast Go.Proofs.YtdgpegkgelciaaaW.PrintMore
attribute [local go_sem] max2_int min2_int max_two min_two max_three min_three max_four min_four
set_option linter.unusedVariables false
set_option linter.unusedSimpArgs false
mutual
def spec_l22Size.l0 : Nat → Int → Int → List (S64) → List (S78) → Option (Int)
 | 0, _, _, _, _ => none
 | k + 1, x3, x4, x514000, x514001 => if x4 < (x514000.length : Int) then (if 0 ≤ x4 then ((spec_l22Size.f k ((rd_T64 x514000 x4).f4.f0) ((rd_T64 x514000 x4).f4.f1)).bind fun t515 => ((spec_l22Size.f k ((rd_T64 x514000 x4).f5.f0) ((rd_T64 x514000 x4).f5.f1)).bind fun t517 => (spec_l22Size.l0 k (wrap64 ((wrap64 (x3 + t515)) + t517)) (wrap64 (x4 + 1)) x514000 x514001))) else (none)) else (some x3)
def spec_l22Size.f : Nat → List (S64) → List (S78) → Option (Int)
 | 0, _, _ => none
 | k + 1, l0_0, l0_1 => spec_l22Size.l0 k (l0_0.length : Int) 0 l0_0 l0_1
end
theorem spec_l22Size.mono_l : ∀ k, (∀ y0 y1, LeO (spec_l22Size.f k y0 y1) (spec_l22Size.f (k + 1) y0 y1)) ∧ (∀ y0 y1 y2 y3, LeO (spec_l22Size.l0 k y0 y1 y2 y3) (spec_l22Size.l0 (k + 1) y0 y1 y2 y3))
 | 0 => ⟨fun _ _ r h => by simp [spec_l22Size.f] at h, fun _ _ _ _ r h => by simp [spec_l22Size.l0] at h⟩
 | k + 1 => by
  obtain ⟨ih0, ih1⟩ := spec_l22Size.mono_l k
  refine ⟨?_, ?_⟩
  ·intro y0 y1
   unfold spec_l22Size.f
   repeat' first
   | (with_reducible exact ih0 _ _)
   | (with_reducible exact ih1 _ _ _ _)
   | (with_reducible exact LeO.refl _)
   | (with_reducible exact LeO.none _)
   | (with_reducible refine LeO.ite ?_ ?_)
   | (with_reducible refine LeO.bind ?_ (fun _ => ?_))
   | exact ih0 _ _
   | exact ih1 _ _ _ _
   | exact LeO.none _
   | refine LeO.ite ?_ ?_
   | refine LeO.bind ?_ (fun _ => ?_)
  ·intro y0 y1 y2 y3
   unfold spec_l22Size.l0
   repeat' first
   | (with_reducible exact ih0 _ _)
   | (with_reducible exact ih1 _ _ _ _)
   | (with_reducible exact LeO.refl _)
   | (with_reducible exact LeO.none _)
   | (with_reducible refine LeO.ite ?_ ?_)
   | (with_reducible refine LeO.bind ?_ (fun _ => ?_))
   | exact ih0 _ _
   | exact ih1 _ _ _ _
   | exact LeO.none _
   | refine LeO.ite ?_ ?_
   | refine LeO.bind ?_ (fun _ => ?_)
theorem spec_l22Size.mono : ∀ a0 a1 k, LeO (spec_l22Size.f k a0 a1) (spec_l22Size.f (k + 1) a0 a1) := by
 intro a0 a1 k
 obtain ⟨ih0, ih1⟩ := spec_l22Size.mono_l k
 exact ih0 a0 a1
def spec_l22Size.T5 : Bool × List (List Nat × List Nat) := (true, [([], []), ([], []), ([1], [1]), ([], []), ([2, 3], [2, 3]), ([4], [4]), ([5], [5]), ([6], [6]), ([0, 7], [0, 7]), ([], []), ([9], [9]), ([], []), ([10, 11], [10, 11]), ([12], [12]), ([13], [13]), ([14, 7], [14]), ([8, 15], [8, 15]), ([16, 15, 0, 1, 2, 3, 4, 5, 6, 7, 8, 9, 10, 11, 12, 13, 14, 15, 16], [0, 16])])
def spec_l22Size.B5 : List Nat := [0, 0, 2, 0, 14, 30, 62, 126, 255, 0, 512, 0, 3584, 7680, 15872, 32510, 65535, 131071]
theorem spec_l22Size.tab5 : rtab .any (opsOf Try.f27 5) = spec_l22Size.T5 := by kernel_rfl
theorem spec_l22Size.bits5 : waitsOk spec_l22Size.T5.2 spec_l22Size.B5 = true := by kernel_rfl
set_option maxHeartbeats 8000000 in
set_option maxRecDepth 100000 in
theorem spec_l22Size.calls (k : Nat) : ∀ (A0_0 : Option Addr) (c0_0 : Nat) (l0_0 : List (S64)) (A0_1 : Option Addr) (c0_1 : Nat) (l0_1 : List (S78)) (r : Int) (w : World) (hr0_0 : Kd.C k64 w A0_0 l0_0.length l0_0) (hc0_0 : l0_0.length ≤ c0_0) (hr0_1 : Kd.C k78 w A0_1 l0_1.length l0_1) (hc0_1 : l0_1.length ≤ c0_1) (h : spec_l22Size.f k l0_0 l0_1 = some r),
  Calls Try.prog 27 #[.agg #[.slice A0_0 l0_0.length c0_0, .slice A0_1 l0_1.length c0_1]] w fun e w' => e = .returned (.int .i64 r) ∧ Below w.heap.size w w' := by
 induction k using Nat.strongRecOn with
 | _ k ih =>
 intro A0_0 c0_0 l0_0 A0_1 c0_1 l0_1 r w hr0_0 hc0_0 hr0_1 hc0_1 h
 cases k with
 | zero => exact absurd h (by simp [spec_l22Size.f])
 | succ k =>
 simp only [spec_l22Size.f] at h
 have hu43 := Try.underlying43
 have HR0_0 := Aside0.mk hr0_0
 have HC0_0 := Aside0.mk hc0_0
 clear hr0_0 hc0_0
 have HR0_1 := Aside0.mk hr0_1
 have HC0_1 := Aside0.mk hc0_1
 clear hr0_1 hc0_1
 have HB := Aside0.mk (Below.refl w.heap.size w)
 have H : (spec_l22Size.l0 k (l0_0.length : Int) 0 l0_0 l0_1) = some r := h
 clear h
 have H' := Aside0.mk H
 clear H
 go_enter Try.func27, Try.ntmps27
 go_wp2_with (first | ((with_reducible refine gate_dst (N := 1) rfl ?_); refine zbx 1 #[.slice A0_0 l0_0.length c0_0, .slice A0_1 l0_1.length c0_1] 43 ?_; intro gb513 hg w2 hbox hb; have BK513 := Aside0.mk hbox; have GW513 := Aside0.mk ((y9 hg HB.out : w.heap.size ≤ gb513)); have GE513 := Aside0.mk ((y9 hg HB.out : w.heap.size ≤ gb513)); replace HB := Aside0.mk (below_step (y1 HB.out) hb); clear hb hbox hg; have hcz3_0 := zh BK513; have hcz3_1 := zh1 BK513; have hfz3_0 := zfr BK513 0; have hfz3_1 := zfr BK513 1))
 go_loopg [3, 4] k (fun kq v3 v4 w' => ∃ (x3_1 : Int) (x4_1 : Int), v3 = .int .i64 x3_1 ∧ v4 = .int .i64 x4_1 ∧ Aside0 (spec_l22Size.l0 kq x3_1 x4_1 l0_0 l0_1 = some r) ∧ Aside0 (kq ≤ k) ∧ Aside0 (w'.heap[gb513]? = some (.cells #[(.slice A0_0 l0_0.length c0_0), (.slice A0_1 l0_1.length c0_1)] 43 (0, 0))) ∧ Aside0 (Below w.heap.size w w'))
 case atStart => exact ⟨((l0_0.length : Int)), (0), y7, y7, H', ⟨Nat.le_refl _⟩, ⟨(y8 BK513.out)⟩, ⟨(y2 HB.out GE513.out)⟩⟩
 case round =>
  clear H'
  try clear c2
  try clear p2
  try clear hcz3_0
  try clear hcz3_1
  try clear hfz3_0
  try clear hfz3_1
  (try clear BK513)
  obtain ⟨x3_1, x4_1, rfl, rfl, HA, HK1, BK513, HB⟩ := hrel
  cases gk with
  | zero => exact absurd HA.out (by simp [spec_l22Size.l0])
  | succ k1 =>
   have H := HA.out
   clear HA
   simp only [spec_l22Size.l0] at H
   by_cases c4 : x4_1 < (l0_0.length : Int)
   ·rw [if_pos c4] at H
    have c4b0 : decide (x4_1 < (l0_0.length : Int)) = true := decide_eq_true c4
    clear c4
    by_cases c5 : 0 ≤ x4_1
    ·rw [if_pos c5] at H
     have c5b0 : decide (0 ≤ x4_1) = true := decide_eq_true c5
     clear c5
     obtain ⟨t515, A60, H⟩ := ob H
     have A6 := Aside0.mk A60
     clear A60
     obtain ⟨t517, A70, H⟩ := ob H
     have A7 := Aside0.mk A70
     clear A70
     have H' := Aside0.mk H
     clear H
     have hcz8_0 := zh BK513
     have hcz8_1 := zh1 BK513
     have hfz8_0 := zfr BK513 0
     have hfz8_1 := zfr BK513 1
     try go_wp2
     replace BK513 := Aside0.mk (blk_drew BK513.out)
     replace HB := Aside0.mk (below_drew1 HB.out)
     have p514 : 0 ≤ (x4_1 : Int) := of_decide_eq_true y4
     have q514 : x4_1 < (l0_0.length : Int) := of_decide_eq_true y4
     obtain ⟨ad514, A514_1, c514_1, A514_3, c514_3, A514_4, c514_4, A514_5, c514_5, A514_6, c514_6, A514_7, c514_7, e514, hx514_0, hx514_1, hx514_2, hx514_3, hx514_4, hx514_5, hx514_6, hx514_7, hl514_1, hi514_1, hl514_3, hi514_3, hl514_4, hi514_4, hl514_5, hi514_5, hl514_6, hi514_6, hl514_7, hi514_7⟩ := at_T64 HR0_0.out x4_1 p514 q514
     have hw514_7 := hx514_7
     have hw514_6 := hx514_6
     have hw514_5 := hx514_5
     have hw514_4 := hx514_4
     have hw514_3 := hx514_3
     have hw514_2 := hx514_2
     have hw514_1 := hx514_1
     have hw514_0 := hx514_0
     cases e514
     replace hx514_0 := (HB.out.cell (World.block_lt_of_cell? w _ hx514_0)).trans hx514_0
     replace hx514_1 := (HB.out.cell (World.block_lt_of_cell? w _ hx514_1)).trans hx514_1
     replace hx514_2 := (HB.out.cell (World.block_lt_of_cell? w _ hx514_2)).trans hx514_2
     replace hx514_3 := (HB.out.cell (World.block_lt_of_cell? w _ hx514_3)).trans hx514_3
     replace hx514_4 := (HB.out.cell (World.block_lt_of_cell? w _ hx514_4)).trans hx514_4
     replace hx514_5 := (HB.out.cell (World.block_lt_of_cell? w _ hx514_5)).trans hx514_5
     replace hx514_6 := (HB.out.cell (World.block_lt_of_cell? w _ hx514_6)).trans hx514_6
     replace hx514_7 := (HB.out.cell (World.block_lt_of_cell? w _ hx514_7)).trans hx514_7
     have HR514_1 := Aside0.mk hi514_1
     have HC514_1 := Aside0.mk hl514_1
     clear hi514_1 hl514_1
     have HR514_3 := Aside0.mk hi514_3
     have HC514_3 := Aside0.mk hl514_3
     clear hi514_3 hl514_3
     have HR514_4 := Aside0.mk hi514_4
     have HC514_4 := Aside0.mk hl514_4
     clear hi514_4 hl514_4
     have HR514_5 := Aside0.mk hi514_5
     have HC514_5 := Aside0.mk hl514_5
     clear hi514_5 hl514_5
     have HR514_6 := Aside0.mk hi514_6
     have HC514_6 := Aside0.mk hl514_6
     clear hi514_6 hl514_6
     have HR514_7 := Aside0.mk hi514_7
     have HC514_7 := Aside0.mk hl514_7
     clear hi514_7 hl514_7
     replace p514 := eq_true p514
     replace q514 := eq_true q514
     have p516 : 0 ≤ (x4_1 : Int) := of_decide_eq_true y4
     have q516 : x4_1 < (l0_0.length : Int) := of_decide_eq_true y4
     obtain ⟨ad516, A516_1, c516_1, A516_3, c516_3, A516_4, c516_4, A516_5, c516_5, A516_6, c516_6, A516_7, c516_7, e516, hx516_0, hx516_1, hx516_2, hx516_3, hx516_4, hx516_5, hx516_6, hx516_7, hl516_1, hi516_1, hl516_3, hi516_3, hl516_4, hi516_4, hl516_5, hi516_5, hl516_6, hi516_6, hl516_7, hi516_7⟩ := at_T64 HR0_0.out x4_1 p516 q516
     have hw516_7 := hx516_7
     have hw516_6 := hx516_6
     have hw516_5 := hx516_5
     have hw516_4 := hx516_4
     have hw516_3 := hx516_3
     have hw516_2 := hx516_2
     have hw516_1 := hx516_1
     have hw516_0 := hx516_0
     obtain rfl : ad514 = ad516 := (by injection e516)
     replace hx516_0 := (HB.out.cell (World.block_lt_of_cell? w _ hx516_0)).trans hx516_0
     replace hx516_1 := (HB.out.cell (World.block_lt_of_cell? w _ hx516_1)).trans hx516_1
     replace hx516_2 := (HB.out.cell (World.block_lt_of_cell? w _ hx516_2)).trans hx516_2
     replace hx516_3 := (HB.out.cell (World.block_lt_of_cell? w _ hx516_3)).trans hx516_3
     replace hx516_4 := (HB.out.cell (World.block_lt_of_cell? w _ hx516_4)).trans hx516_4
     replace hx516_5 := (HB.out.cell (World.block_lt_of_cell? w _ hx516_5)).trans hx516_5
     replace hx516_6 := (HB.out.cell (World.block_lt_of_cell? w _ hx516_6)).trans hx516_6
     replace hx516_7 := (HB.out.cell (World.block_lt_of_cell? w _ hx516_7)).trans hx516_7
     have HR516_1 := Aside0.mk hi516_1
     have HC516_1 := Aside0.mk hl516_1
     clear hi516_1 hl516_1
     have HR516_3 := Aside0.mk hi516_3
     have HC516_3 := Aside0.mk hl516_3
     clear hi516_3 hl516_3
     have HR516_4 := Aside0.mk hi516_4
     have HC516_4 := Aside0.mk hl516_4
     clear hi516_4 hl516_4
     have HR516_5 := Aside0.mk hi516_5
     have HC516_5 := Aside0.mk hl516_5
     clear hi516_5 hl516_5
     have HR516_6 := Aside0.mk hi516_6
     have HC516_6 := Aside0.mk hl516_6
     clear hi516_6 hl516_6
     have HR516_7 := Aside0.mk hi516_7
     have HC516_7 := Aside0.mk hl516_7
     clear hi516_7 hl516_7
     replace p516 := eq_true p516
     replace q516 := eq_true q516
     have ea_ := Option.some.inj (hx514_1.symm.trans hx516_1)
     injection ea_ with ea_ en_ ec_
     subst ea_
     subst ec_
     clear en_
     have ea_ := Option.some.inj (hx514_3.symm.trans hx516_3)
     injection ea_ with ea_ en_ ec_
     subst ea_
     subst ec_
     clear en_
     have ea_ := Option.some.inj (hx514_4.symm.trans hx516_4)
     injection ea_ with ea_ en_ ec_
     subst ea_
     subst ec_
     clear en_
     have ea_ := Option.some.inj (hx514_5.symm.trans hx516_5)
     injection ea_ with ea_ en_ ec_
     subst ea_
     subst ec_
     clear en_
     have ea_ := Option.some.inj (hx514_6.symm.trans hx516_6)
     injection ea_ with ea_ en_ ec_
     subst ea_
     subst ec_
     clear en_
     have ea_ := Option.some.inj (hx514_7.symm.trans hx516_7)
     injection ea_ with ea_ en_ ec_
     subst ea_
     subst ec_
     clear en_
     refine start_ (n := 18) (S := fun w' => w'.cell? ⟨gb513, 0, none⟩ = some (.slice (some ad514) l0_0.length c0_0) ∧ w'.cell? ⟨gb513, 1, none⟩ = some (.slice A0_1 l0_1.length c0_1) ∧ w'.cell? (ad514.add ((x4_1).toNat * 8)) = some (.int .i64 ((rd_T64 l0_0 x4_1).f0)) ∧ w'.cell? ⟨(ad514.add ((x4_1).toNat * 8)).block, (ad514.add ((x4_1).toNat * 8)).off + 1, none⟩ = some (.slice A514_1 ((rd_T64 l0_0 x4_1).f1).length c514_1) ∧ w'.cell? ⟨(ad514.add ((x4_1).toNat * 8)).block, (ad514.add ((x4_1).toNat * 8)).off + 2, none⟩ = some (.string ((rd_T64 l0_0 x4_1).f2)) ∧ w'.cell? ⟨(ad514.add ((x4_1).toNat * 8)).block, (ad514.add ((x4_1).toNat * 8)).off + 3, none⟩ = some (.slice A514_3 ((rd_T64 l0_0 x4_1).f3).length c514_3) ∧ w'.cell? ⟨(ad514.add ((x4_1).toNat * 8)).block, (ad514.add ((x4_1).toNat * 8)).off + 4, none⟩ = some (.slice A514_4 ((rd_T64 l0_0 x4_1).f4.f0).length c514_4) ∧ w'.cell? ⟨(ad514.add ((x4_1).toNat * 8)).block, (ad514.add ((x4_1).toNat * 8)).off + 5, none⟩ = some (.slice A514_5 ((rd_T64 l0_0 x4_1).f4.f1).length c514_5) ∧ w'.cell? ⟨(ad514.add ((x4_1).toNat * 8)).block, (ad514.add ((x4_1).toNat * 8)).off + 6, none⟩ = some (.slice A514_6 ((rd_T64 l0_0 x4_1).f5.f0).length c514_6) ∧ w'.cell? ⟨(ad514.add ((x4_1).toNat * 8)).block, (ad514.add ((x4_1).toNat * 8)).off + 7, none⟩ = some (.slice A514_7 ((rd_T64 l0_0 x4_1).f5.f1).length c514_7) ∧ w'.cell? (ad514.add ((x4_1).toNat * 8)) = some (.int .i64 ((rd_T64 l0_0 x4_1).f0)) ∧ w'.cell? ⟨(ad514.add ((x4_1).toNat * 8)).block, (ad514.add ((x4_1).toNat * 8)).off + 1, none⟩ = some (.slice A514_1 ((rd_T64 l0_0 x4_1).f1).length c514_1) ∧ w'.cell? ⟨(ad514.add ((x4_1).toNat * 8)).block, (ad514.add ((x4_1).toNat * 8)).off + 2, none⟩ = some (.string ((rd_T64 l0_0 x4_1).f2)) ∧ w'.cell? ⟨(ad514.add ((x4_1).toNat * 8)).block, (ad514.add ((x4_1).toNat * 8)).off + 3, none⟩ = some (.slice A514_3 ((rd_T64 l0_0 x4_1).f3).length c514_3) ∧ w'.cell? ⟨(ad514.add ((x4_1).toNat * 8)).block, (ad514.add ((x4_1).toNat * 8)).off + 4, none⟩ = some (.slice A514_4 ((rd_T64 l0_0 x4_1).f4.f0).length c514_4) ∧ w'.cell? ⟨(ad514.add ((x4_1).toNat * 8)).block, (ad514.add ((x4_1).toNat * 8)).off + 5, none⟩ = some (.slice A514_5 ((rd_T64 l0_0 x4_1).f4.f1).length c514_5) ∧ w'.cell? ⟨(ad514.add ((x4_1).toNat * 8)).block, (ad514.add ((x4_1).toNat * 8)).off + 6, none⟩ = some (.slice A514_6 ((rd_T64 l0_0 x4_1).f5.f0).length c514_6) ∧ w'.cell? ⟨(ad514.add ((x4_1).toNat * 8)).block, (ad514.add ((x4_1).toNat * 8)).off + 7, none⟩ = some (.slice A514_7 ((rd_T64 l0_0 x4_1).f5.f1).length c514_7)) (ds := []) #[false, false, false, false, false, false, false, false, false, false, false, false, false, false, false, false, false, false] (by kernel_rfl) rfl rfl ⟨(blk_cell BK513.out 0).trans rfl, (blk_cell BK513.out 1).trans rfl, ((HB.out.cell (World.block_lt_of_cell? w _ hw514_0)).trans hw514_0), ((HB.out.cell (World.block_lt_of_cell? w _ hw514_1)).trans hw514_1), ((HB.out.cell (World.block_lt_of_cell? w _ hw514_2)).trans hw514_2), ((HB.out.cell (World.block_lt_of_cell? w _ hw514_3)).trans hw514_3), ((HB.out.cell (World.block_lt_of_cell? w _ hw514_4)).trans hw514_4), ((HB.out.cell (World.block_lt_of_cell? w _ hw514_5)).trans hw514_5), ((HB.out.cell (World.block_lt_of_cell? w _ hw514_6)).trans hw514_6), ((HB.out.cell (World.block_lt_of_cell? w _ hw514_7)).trans hw514_7), ((HB.out.cell (World.block_lt_of_cell? w _ hw516_0)).trans hw516_0), ((HB.out.cell (World.block_lt_of_cell? w _ hw516_1)).trans hw516_1), ((HB.out.cell (World.block_lt_of_cell? w _ hw516_2)).trans hw516_2), ((HB.out.cell (World.block_lt_of_cell? w _ hw516_3)).trans hw516_3), ((HB.out.cell (World.block_lt_of_cell? w _ hw516_4)).trans hw516_4), ((HB.out.cell (World.block_lt_of_cell? w _ hw516_5)).trans hw516_5), ((HB.out.cell (World.block_lt_of_cell? w _ hw516_6)).trans hw516_6), ((HB.out.cell (World.block_lt_of_cell? w _ hw516_7)).trans hw516_7)⟩ (fun hHeld => ?_); refine with_tabW spec_l22Size.tab5 spec_l22Size.bits5 (fun HT_ HW_ => ?_)
     generalize wr.drew = w9 at BK513 HB HR514_1 HR514_3 HR514_4 HR514_5 HR514_6 HR514_7 HR516_1 HR516_3 HR516_4 HR516_5 HR516_6 HR516_7 hx514_0 hx514_1 hx514_2 hx514_3 hx514_4 hx514_5 hx514_6 hx514_7 hx516_0 hx516_1 hx516_2 hx516_3 hx516_4 hx516_5 hx516_6 hx516_7 hHeld ⊢
     refine zp 0 (some 15) HT_ ?_
     refine zp 1 (some 16) HT_ ?_
     refine zp 3 (some 18) HT_ ?_
     refine zp 9 (some 24) HT_ ?_
     refine zp 11 (some 26) HT_ ?_
     refine zt18 2 (some 17) HT_ HW_ hHeld ?_
     refine zp 4 (some 19) HT_ ?_
     refine zp 5 (some 20) HT_ ?_
     refine zt18 6 (some 21) HT_ HW_ hHeld ?_
     refine zt18 10 (some 25) HT_ HW_ hHeld ?_
     refine zp 12 (some 27) HT_ ?_
     refine zp 13 (some 28) HT_ ?_
     refine zt18 14 (some 29) HT_ HW_ hHeld ?_
     refine one_ (i := 7) (N := some 22) #[true, true, true, true, true, true, true, true, false, true, true, true, true, true, true, false, false, false] rfl rfl (one_of HT_.out (by kernel_rfl)) (by decide) (fun K hK => ?_)
     refine goes_ Try.func27 (by kernel_rfl) rfl #[.agg #[.slice A514_4 ((rd_T64 l0_0 x4_1).f4.f0).length c514_4, .slice A514_5 ((rd_T64 l0_0 x4_1).f4.f1).length c514_5]] (by rfl) rfl rfl y3 ?_
     with_reducible refine (ih k1 (y30 HK1.out) _ _ ((rd_T64 l0_0 x4_1).f4.f0) _ _ ((rd_T64 l0_0 x4_1).f4.f1) t515 _ ?side1 ?side2 ?side3 ?side4 A6.out).mono ?_
     (case side1 => exact y0 HR514_4.out HB.out)
     (case side2 => exact HC514_4.out)
     (case side3 => exact y0 HR514_5.out HB.out)
     (case side4 => exact HC514_5.out)
     rintro e w10 ⟨rfl, hb⟩
     refine ⟨_, rfl, ?_⟩
     replace BK513 := zbb BK513 hb
     replace HB := Aside0.mk (below_step (y2 HB.out GE513.out) hb)
     (try clear hb)
     (try clear hb2)
     (try clear hk)
     (try clear hi)
     refine hK.out _ _ ⟨(blk_cell BK513.out 0).trans rfl, (blk_cell BK513.out 1).trans rfl, ((HB.out.cell (World.block_lt_of_cell? w _ hw514_0)).trans hw514_0), ((HB.out.cell (World.block_lt_of_cell? w _ hw514_1)).trans hw514_1), ((HB.out.cell (World.block_lt_of_cell? w _ hw514_2)).trans hw514_2), ((HB.out.cell (World.block_lt_of_cell? w _ hw514_3)).trans hw514_3), ((HB.out.cell (World.block_lt_of_cell? w _ hw514_4)).trans hw514_4), ((HB.out.cell (World.block_lt_of_cell? w _ hw514_5)).trans hw514_5), ((HB.out.cell (World.block_lt_of_cell? w _ hw514_6)).trans hw514_6), ((HB.out.cell (World.block_lt_of_cell? w _ hw514_7)).trans hw514_7), ((HB.out.cell (World.block_lt_of_cell? w _ hw516_0)).trans hw516_0), ((HB.out.cell (World.block_lt_of_cell? w _ hw516_1)).trans hw516_1), ((HB.out.cell (World.block_lt_of_cell? w _ hw516_2)).trans hw516_2), ((HB.out.cell (World.block_lt_of_cell? w _ hw516_3)).trans hw516_3), ((HB.out.cell (World.block_lt_of_cell? w _ hw516_4)).trans hw516_4), ((HB.out.cell (World.block_lt_of_cell? w _ hw516_5)).trans hw516_5), ((HB.out.cell (World.block_lt_of_cell? w _ hw516_6)).trans hw516_6), ((HB.out.cell (World.block_lt_of_cell? w _ hw516_7)).trans hw516_7)⟩ (fun hHeld => ?_)
     clear hK K
     refine norm_ (a' := ?_) ?_ ?_
     rotate_left
     ·show Act.put _ (some 22) _ = _
      simp only [Act.put, List.setIfInBounds_toArray, List.set_cons_zero, List.set_cons_succ, i64_w, i32_w]
      rfl
     refine zp 8 (some 23) HT_ ?_
     refine one_ (i := 15) (N := some 30) #[true, true, true, true, true, true, true, true, true, true, true, true, true, true, true, true, false, false] rfl rfl (one_of HT_.out (by kernel_rfl)) (by decide) (fun K hK => ?_)
     refine goes_ Try.func27 (by kernel_rfl) rfl #[.agg #[.slice A514_6 ((rd_T64 l0_0 x4_1).f5.f0).length c514_6, .slice A514_7 ((rd_T64 l0_0 x4_1).f5.f1).length c514_7]] (by rfl) rfl rfl y3 ?_
     with_reducible refine (ih k1 (y30 HK1.out) _ _ ((rd_T64 l0_0 x4_1).f5.f0) _ _ ((rd_T64 l0_0 x4_1).f5.f1) t517 _ ?side1 ?side2 ?side3 ?side4 A7.out).mono ?_
     (case side1 => exact y0 HR516_6.out HB.out)
     (case side2 => exact HC516_6.out)
     (case side3 => exact y0 HR516_7.out HB.out)
     (case side4 => exact HC516_7.out)
     rintro e w11 ⟨rfl, hb⟩
     refine ⟨_, rfl, ?_⟩
     replace BK513 := zbb BK513 hb
     replace HB := Aside0.mk (below_step (y2 HB.out GE513.out) hb)
     (try clear hb)
     (try clear hb2)
     (try clear hk)
     (try clear hi)
     refine hK.out _ _ ⟨(blk_cell BK513.out 0).trans rfl, (blk_cell BK513.out 1).trans rfl, ((HB.out.cell (World.block_lt_of_cell? w _ hw514_0)).trans hw514_0), ((HB.out.cell (World.block_lt_of_cell? w _ hw514_1)).trans hw514_1), ((HB.out.cell (World.block_lt_of_cell? w _ hw514_2)).trans hw514_2), ((HB.out.cell (World.block_lt_of_cell? w _ hw514_3)).trans hw514_3), ((HB.out.cell (World.block_lt_of_cell? w _ hw514_4)).trans hw514_4), ((HB.out.cell (World.block_lt_of_cell? w _ hw514_5)).trans hw514_5), ((HB.out.cell (World.block_lt_of_cell? w _ hw514_6)).trans hw514_6), ((HB.out.cell (World.block_lt_of_cell? w _ hw514_7)).trans hw514_7), ((HB.out.cell (World.block_lt_of_cell? w _ hw516_0)).trans hw516_0), ((HB.out.cell (World.block_lt_of_cell? w _ hw516_1)).trans hw516_1), ((HB.out.cell (World.block_lt_of_cell? w _ hw516_2)).trans hw516_2), ((HB.out.cell (World.block_lt_of_cell? w _ hw516_3)).trans hw516_3), ((HB.out.cell (World.block_lt_of_cell? w _ hw516_4)).trans hw516_4), ((HB.out.cell (World.block_lt_of_cell? w _ hw516_5)).trans hw516_5), ((HB.out.cell (World.block_lt_of_cell? w _ hw516_6)).trans hw516_6), ((HB.out.cell (World.block_lt_of_cell? w _ hw516_7)).trans hw516_7)⟩ (fun hHeld => ?_)
     clear hK K
     refine norm_ (a' := ?_) ?_ ?_
     rotate_left
     ·show Act.put _ (some 30) _ = _
      simp only [Act.put, List.setIfInBounds_toArray, List.set_cons_zero, List.set_cons_succ, i64_w, i32_w]
      rfl
     refine zp 16 (some 31) HT_ ?_
     refine zp 17 (some 3) HT_ ?_
     refine done_ (done_of HT_.out (by kernel_rfl)) ?_
     try go_wp2
     go_roundg k1
     case measure => have := HK1.out; omega
     case rel => exact ⟨(wrap64 ((wrap64 (x3_1 + t515)) + t517)), (wrap64 (x4_1 + 1)), y7, y7, H', ⟨(y30 HK1.out)⟩, ⟨(y8 BK513.out)⟩, ⟨(y2 HB.out GE513.out)⟩⟩
    ·rw [if_neg c5] at H
     exact absurd H (by simp)
   ·rw [if_neg c4] at H
    have c4b0 : decide (x4_1 < (l0_0.length : Int)) = false := decide_eq_false c4
    clear c4
    obtain rfl := Option.some.inj H
    have hcz12_0 := zh BK513
    have hcz12_1 := zh1 BK513
    have hfz12_0 := zfr BK513 0
    have hfz12_1 := zfr BK513 1
    go_wp2
    go_ret
    exact ⟨y6, (y2 HB.out GE513.out)⟩
end Go.Proofs.Ytdgpegkgelciaaa.PA
end
section
namespace Go.Proofs.Ytdgpegkgelciaaa.PA
open Go.RowKit Go.Proofs.YtdgpegkgelciaaaW.PrintWords Go.Proofs.YtdgpegkgelciaaaW.PrintLast Go.Proofs.YtdgpegkgelciaaaW.PrintMore
attribute [local go_sem] max2_int min2_int max_two min_two max_three min_three max_four min_four
set_option linter.unusedVariables false
set_option linter.unusedSimpArgs false
def spec_TidySize.l0 : Nat → List (S45) → Int → Int → Option (Int)
 | 0, _, _, _ => none
 | k + 1, x0, x3, x4 => if x4 < (x0.length : Int) then (if 0 ≤ x4 then ((spec_l22Size.f k ((rd_T45 x0 x4).f2.f0) ((rd_T45 x0 x4).f2.f1)).bind fun t520 => (spec_TidySize.l0 k x0 (wrap64 (x3 + t520)) (wrap64 (x4 + 1)))) else (none)) else (some x3)
def spec_TidySize.f (k : Nat) (l0 : List (S45)) : Option (Int) := (spec_PureOk.f k l0).bind fun t518 => (if t518 = true then (spec_TidySize.l0 k l0 0 0) else (some (-1)))
theorem spec_TidySize.mono_l : ∀ k, (∀ y0 y1 y2, LeO (spec_TidySize.l0 k y0 y1 y2) (spec_TidySize.l0 (k + 1) y0 y1 y2))
 | 0 => fun _ _ _ r h => by simp [spec_TidySize.l0] at h
 | k + 1 => by
  have ih0 := spec_TidySize.mono_l k
  ·intro y0 y1 y2
   unfold spec_TidySize.l0
   repeat' first
   | (with_reducible exact ih0 _ _ _)
   | (with_reducible exact spec_PureOk.mono _ _)
   | (with_reducible exact spec_l22Size.mono _ _ _)
   | (with_reducible exact LeO.refl _)
   | (with_reducible exact LeO.none _)
   | (with_reducible refine LeO.ite ?_ ?_)
   | (with_reducible refine LeO.bind ?_ (fun _ => ?_))
   | exact ih0 _ _ _
   | exact spec_PureOk.mono _ _
   | exact spec_l22Size.mono _ _ _
   | exact LeO.none _
   | refine LeO.ite ?_ ?_
   | refine LeO.bind ?_ (fun _ => ?_)
theorem spec_TidySize.mono : ∀ a0 k, LeO (spec_TidySize.f k a0) (spec_TidySize.f (k + 1) a0) := by
 intro a0 k
 have ih0 := spec_TidySize.mono_l k
 unfold spec_TidySize.f
 repeat' first
   | (with_reducible exact ih0 _ _ _)
   | (with_reducible exact spec_PureOk.mono _ _)
   | (with_reducible exact spec_l22Size.mono _ _ _)
   | (with_reducible exact LeO.refl _)
   | (with_reducible exact LeO.none _)
   | (with_reducible refine LeO.ite ?_ ?_)
   | (with_reducible refine LeO.bind ?_ (fun _ => ?_))
   | exact ih0 _ _ _
   | exact spec_PureOk.mono _ _
   | exact spec_l22Size.mono _ _ _
   | exact LeO.none _
   | refine LeO.ite ?_ ?_
   | refine LeO.bind ?_ (fun _ => ?_)
set_option maxHeartbeats 8000000 in
set_option maxRecDepth 100000 in
theorem spec_TidySize.calls (k : Nat) (A0 : Option Addr) (c0 : Nat) (l0 : List (S45)) (r : Int) (w : World) (hr0 : Kd.C k45 w A0 l0.length l0) (hc0 : l0.length ≤ c0) (h : spec_TidySize.f k l0 = some r) :
  Calls Try.prog 11 #[.slice A0 l0.length c0] w fun e w' => e = .returned (.int .i64 r) ∧ Below w.heap.size w w' := by
 have hu43 := Try.underlying43
 have HR0 := Aside0.mk hr0
 have HC0 := Aside0.mk hc0
 clear hr0 hc0
 have HB := Aside0.mk (Below.refl w.heap.size w)
 have H : ((spec_PureOk.f k l0).bind fun t518 => (if t518 = true then (spec_TidySize.l0 k l0 0 0) else (some (-1)))) = some r := h
 clear h
 obtain ⟨t518, A20, H⟩ := ob H
 have A2 := Aside0.mk A20
 clear A20
 have HZ3 := Aside0.mk H
 clear H
 go_enter Try.func11, Try.ntmps11
 go_upto_if 7 with (first | ((with_reducible refine gate_callee (f := 7) rfl ?_); refine goesL_ (some 6) rfl rfl Try.func7 (by kernel_rfl) rfl #[.slice A0 l0.length c0] rfl y3 ?_; (with_reducible refine (spec_PureOk.calls k _ _ l0 t518 _ ?side1 ?side2 A2.out).mono ?_); (case side1 => exact y24 HR0.out); (case side2 => exact HC0.out); rintro e w4 ⟨rfl, hb⟩; refine ⟨_, rfl, ?_⟩; replace HB := Aside0.mk (below_step (y1 HB.out) hb); (try clear hb); (try clear hb2); (try clear hk); (try clear hi)))
 (try simp only [Act.put, List.setIfInBounds_toArray, List.set_cons_zero, List.set_cons_succ])
 have H := HZ3.out
 clear HZ3
 by_cases c5 : t518 = true
 ·subst c5
  rw [if_pos rfl] at H
  have H' := Aside0.mk H
  clear H
  go_wp2
  go_loopg [3, 4] k (fun kq v3 v4 w' => ∃ (x3_1 : Int) (x4_1 : Int), v3 = .int .i64 x3_1 ∧ v4 = .int .i64 x4_1 ∧ Aside0 (spec_TidySize.l0 kq l0 x3_1 x4_1 = some r) ∧ Aside0 (kq ≤ k) ∧ Aside0 (Below w.heap.size w w'))
  case atStart => exact ⟨(0), (0), y7, y7, H', ⟨Nat.le_refl _⟩, ⟨(y1 HB.out)⟩⟩
  case round =>
   clear H'
   try clear c1
   try clear p2
   try clear c5
   obtain ⟨x3_1, x4_1, rfl, rfl, HA, HK1, HB⟩ := hrel
   cases gk with
   | zero => exact absurd HA.out (by simp [spec_TidySize.l0])
   | succ k1 =>
    have H := HA.out
    clear HA
    simp only [spec_TidySize.l0] at H
    by_cases c6 : x4_1 < (l0.length : Int)
    ·rw [if_pos c6] at H
     have c6b0 : decide (x4_1 < (l0.length : Int)) = true := decide_eq_true c6
     clear c6
     (first | rw [c6b0] | (simp only [i64_w, i32_w]; rw [c6b0]) | skip)
     by_cases c7 : 0 ≤ x4_1
     ·rw [if_pos c7] at H
      have c7b0 : decide (0 ≤ x4_1) = true := decide_eq_true c7
      clear c7
      obtain ⟨t520, A80, H⟩ := ob H
      have A8 := Aside0.mk A80
      clear A80
      have H' := Aside0.mk H
      clear H
      have p519 : 0 ≤ (x4_1 : Int) := of_decide_eq_true y4
      have q519 : x4_1 < (l0.length : Int) := of_decide_eq_true y4
      obtain ⟨ad519, A519_1, c519_1, A519_2, c519_2, A519_3, c519_3, e519, hx519_0, hx519_1, hx519_2, hx519_3, hl519_1, hi519_1, hl519_2, hi519_2, hl519_3, hi519_3⟩ := at_T45 HR0.out x4_1 p519 q519
      cases e519
      replace hx519_0 := (HB.out.cell (World.block_lt_of_cell? w _ hx519_0)).trans hx519_0
      replace hx519_1 := (HB.out.cell (World.block_lt_of_cell? w _ hx519_1)).trans hx519_1
      replace hx519_2 := (HB.out.cell (World.block_lt_of_cell? w _ hx519_2)).trans hx519_2
      replace hx519_3 := (HB.out.cell (World.block_lt_of_cell? w _ hx519_3)).trans hx519_3
      have HR519_1 := Aside0.mk hi519_1
      have HC519_1 := Aside0.mk hl519_1
      clear hi519_1 hl519_1
      have HR519_2 := Aside0.mk hi519_2
      have HC519_2 := Aside0.mk hl519_2
      clear hi519_2 hl519_2
      have HR519_3 := Aside0.mk hi519_3
      have HC519_3 := Aside0.mk hl519_3
      clear hi519_3 hl519_3
      replace p519 := eq_true p519
      replace q519 := eq_true q519
      go_wp2_with (first | ((with_reducible refine gate_callee (f := 27) rfl ?_); refine goesL_ (some 20) rfl rfl Try.func27 (by kernel_rfl) rfl #[.agg #[.slice A519_2 ((rd_T45 l0 x4_1).f2.f0).length c519_2, .slice A519_3 ((rd_T45 l0 x4_1).f2.f1).length c519_3]] rfl y3 ?_; (with_reducible refine (spec_l22Size.calls k1 _ _ ((rd_T45 l0 x4_1).f2.f0) _ _ ((rd_T45 l0 x4_1).f2.f1) t520 _ ?side1 ?side2 ?side3 ?side4 A8.out).mono ?_); (case side1 => exact y0 HR519_2.out HB.out); (case side2 => exact HC519_2.out); (case side3 => exact y0 HR519_3.out HB.out); (case side4 => exact HC519_3.out); rintro e w9 ⟨rfl, hb⟩; refine ⟨_, rfl, ?_⟩; replace HB := Aside0.mk (below_step (y1 HB.out) hb); (try clear hb); (try clear hb2); (try clear hk); (try clear hi)))
      go_roundg k1
      case measure => have := HK1.out; omega
      case rel => exact ⟨(wrap64 (x3_1 + t520)), (wrap64 (x4_1 + 1)), y7, y7, H', ⟨(y30 HK1.out)⟩, ⟨(y1 HB.out)⟩⟩
     ·rw [if_neg c7] at H
      exact absurd H (by simp)
    ·rw [if_neg c6] at H
     have c6b0 : decide (x4_1 < (l0.length : Int)) = false := decide_eq_false c6
     clear c6
     (first | rw [c6b0] | (simp only [i64_w, i32_w]; rw [c6b0]) | skip)
     obtain rfl := Option.some.inj H
     go_wp2
     go_ret
     exact ⟨y6, (y1 HB.out)⟩
 ·replace c5 := Bool.eq_false_iff.mpr c5
  subst c5
  rw [if_neg (show ¬ (false = true) by decide)] at H
  obtain rfl := Option.some.inj H
  go_wp2
  go_ret
  exact ⟨y6, (y1 HB.out)⟩
end Go.Proofs.Ytdgpegkgelciaaa.PA
end
section
namespace Go.Proofs.Ytdgpegkgelciaaa.PA
open Go.RowKit Go.Proofs.YtdgpegkgelciaaaW.PrintWords Go.Proofs.YtdgpegkgelciaaaW.PrintLast Go.Proofs.YtdgpegkgelciaaaW.PrintMore
attribute [local go_sem] max2_int min2_int max_two min_two max_three min_three max_four min_four
set_option linter.unusedVariables false
set_option linter.unusedSimpArgs false
mutual
def impl_bodySize.l0 : Nat → Int → List (S64) → Int → Int → Option (Int)
 | 0, _, _, _, _ => none
 | k + 1, x3, x10, x11, x12 => if x12 < x11 then (if 0 ≤ x12 then (if x12 < (x10.length : Int) then ((impl_bodySize.f k ((rd_T64 x10 x12).f4.f0) ((rd_T64 x10 x12).f4.f1)).bind fun t524 => ((impl_bodySize.f k ((rd_T64 x10 x12).f5.f0) ((rd_T64 x10 x12).f5.f1)).bind fun t525 => (impl_bodySize.l0 k (wrap64 (x3 + (wrap64 (t524 + t525)))) x10 x11 (wrap64 (x12 + 1))))) else (none)) else (none)) else (some x3)
def impl_bodySize.f : Nat → List (S64) → List (S78) → Option (Int)
 | 0, _, _ => none
 | k + 1, l0_0, l0_1 => impl_bodySize.l0 k (l0_0.length : Int) l0_0 (l0_0.length : Int) 0
end
theorem impl_bodySize.mono_l : ∀ k, (∀ y0 y1, LeO (impl_bodySize.f k y0 y1) (impl_bodySize.f (k + 1) y0 y1)) ∧ (∀ y0 y1 y2 y3, LeO (impl_bodySize.l0 k y0 y1 y2 y3) (impl_bodySize.l0 (k + 1) y0 y1 y2 y3))
 | 0 => ⟨fun _ _ r h => by simp [impl_bodySize.f] at h, fun _ _ _ _ r h => by simp [impl_bodySize.l0] at h⟩
 | k + 1 => by
  obtain ⟨ih0, ih1⟩ := impl_bodySize.mono_l k
  refine ⟨?_, ?_⟩
  ·intro y0 y1
   unfold impl_bodySize.f
   repeat' first
   | (with_reducible exact ih0 _ _)
   | (with_reducible exact ih1 _ _ _ _)
   | (with_reducible exact LeO.refl _)
   | (with_reducible exact LeO.none _)
   | (with_reducible refine LeO.ite ?_ ?_)
   | (with_reducible refine LeO.bind ?_ (fun _ => ?_))
   | exact ih0 _ _
   | exact ih1 _ _ _ _
   | exact LeO.none _
   | refine LeO.ite ?_ ?_
   | refine LeO.bind ?_ (fun _ => ?_)
  ·intro y0 y1 y2 y3
   unfold impl_bodySize.l0
   repeat' first
   | (with_reducible exact ih0 _ _)
   | (with_reducible exact ih1 _ _ _ _)
   | (with_reducible exact LeO.refl _)
   | (with_reducible exact LeO.none _)
   | (with_reducible refine LeO.ite ?_ ?_)
   | (with_reducible refine LeO.bind ?_ (fun _ => ?_))
   | exact ih0 _ _
   | exact ih1 _ _ _ _
   | exact LeO.none _
   | refine LeO.ite ?_ ?_
   | refine LeO.bind ?_ (fun _ => ?_)
theorem impl_bodySize.mono : ∀ a0 a1 k, LeO (impl_bodySize.f k a0 a1) (impl_bodySize.f (k + 1) a0 a1) := by
 intro a0 a1 k
 obtain ⟨ih0, ih1⟩ := impl_bodySize.mono_l k
 exact ih0 a0 a1
def impl_bodySize.T5 : Bool × List (List Nat × List Nat) := (true, [([], []), ([], []), ([1], [1]), ([2], [2]), ([], []), ([4], [4]), ([5, 3], [5]), ([3, 6], [3, 6]), ([0, 7], [0, 7]), ([8, 6, 0, 1, 2, 3, 4, 5, 6, 7, 8], [0, 8])])
def impl_bodySize.B5 : List Nat := [0, 0, 2, 6, 0, 16, 62, 126, 255, 511]
theorem impl_bodySize.tab5 : rtab .any (opsOf Try.f28 5) = impl_bodySize.T5 := by kernel_rfl
theorem impl_bodySize.bits5 : waitsOk impl_bodySize.T5.2 impl_bodySize.B5 = true := by kernel_rfl
set_option maxHeartbeats 8000000 in
set_option maxRecDepth 100000 in
theorem impl_bodySize.calls (k : Nat) : ∀ (A0_0 : Option Addr) (c0_0 : Nat) (l0_0 : List (S64)) (A0_1 : Option Addr) (c0_1 : Nat) (l0_1 : List (S78)) (r : Int) (w : World) (hr0_0 : Kd.C k64 w A0_0 l0_0.length l0_0) (hc0_0 : l0_0.length ≤ c0_0) (hr0_1 : Kd.C k78 w A0_1 l0_1.length l0_1) (hc0_1 : l0_1.length ≤ c0_1) (h : impl_bodySize.f k l0_0 l0_1 = some r),
  Calls Try.prog 28 #[.agg #[.slice A0_0 l0_0.length c0_0, .slice A0_1 l0_1.length c0_1]] w fun e w' => e = .returned (.int .i64 r) ∧ Below w.heap.size w w' := by
 induction k using Nat.strongRecOn with
 | _ k ih =>
 intro A0_0 c0_0 l0_0 A0_1 c0_1 l0_1 r w hr0_0 hc0_0 hr0_1 hc0_1 h
 cases k with
 | zero => exact absurd h (by simp [impl_bodySize.f])
 | succ k =>
 simp only [impl_bodySize.f] at h
 have hu43 := Try.underlying43
 have hu64 := Try.underlying64
 have HR0_0 := Aside0.mk hr0_0
 have HC0_0 := Aside0.mk hc0_0
 clear hr0_0 hc0_0
 have HR0_1 := Aside0.mk hr0_1
 have HC0_1 := Aside0.mk hc0_1
 clear hr0_1 hc0_1
 have HB := Aside0.mk (Below.refl w.heap.size w)
 have H : (impl_bodySize.l0 k (l0_0.length : Int) l0_0 (l0_0.length : Int) 0) = some r := h
 clear h
 have H' := Aside0.mk H
 clear H
 go_enter Try.func28, Try.ntmps28
 go_wp2_with (first | ((with_reducible refine gate_dst (N := 1) rfl ?_); refine zbx 1 #[.slice A0_0 l0_0.length c0_0, .slice A0_1 l0_1.length c0_1] 43 ?_; intro gb521 hg w2 hbox hb; have BK521 := Aside0.mk hbox; have GW521 := Aside0.mk ((y9 hg HB.out : w.heap.size ≤ gb521)); have GE521 := Aside0.mk ((y9 hg HB.out : w.heap.size ≤ gb521)); replace HB := Aside0.mk (below_step (y1 HB.out) hb); clear hb hbox hg; have hcz3_0 := zh BK521; have hcz3_1 := zh1 BK521; have hfz3_0 := zfr BK521 0; have hfz3_1 := zfr BK521 1))
 go_loopg [3, 12] k (fun kq v3 v12 w' => ∃ (x3_1 : Int) (x12_1 : Int), v3 = .int .i64 x3_1 ∧ v12 = .int .i64 x12_1 ∧ Aside0 (impl_bodySize.l0 kq x3_1 l0_0 (l0_0.length : Int) x12_1 = some r) ∧ Aside0 (kq ≤ k) ∧ Aside0 (w'.heap[gb521]? = some (.cells #[(.slice A0_0 l0_0.length c0_0), (.slice A0_1 l0_1.length c0_1)] 43 (0, 0))) ∧ Aside0 (Below w.heap.size w w'))
 case atStart => exact ⟨((l0_0.length : Int)), (0), y7, y7, H', ⟨Nat.le_refl _⟩, ⟨(y8 BK521.out)⟩, ⟨(y2 HB.out GE521.out)⟩⟩
 case round =>
  clear H'
  try clear c2
  try clear p2
  try clear hcz3_0
  try clear hcz3_1
  try clear hfz3_0
  try clear hfz3_1
  (try clear BK521)
  obtain ⟨x3_1, x12_1, rfl, rfl, HA, HK1, BK521, HB⟩ := hrel
  cases gk with
  | zero => exact absurd HA.out (by simp [impl_bodySize.l0])
  | succ k1 =>
   have H := HA.out
   clear HA
   simp only [impl_bodySize.l0] at H
   by_cases c4 : x12_1 < (l0_0.length : Int)
   ·rw [if_pos c4] at H
    have c4b0 : decide (x12_1 < (l0_0.length : Int)) = true := decide_eq_true c4
    clear c4
    by_cases c5 : 0 ≤ x12_1
    ·rw [if_pos c5] at H
     have c5b0 : decide (0 ≤ x12_1) = true := decide_eq_true c5
     clear c5
     by_cases c6 : x12_1 < (l0_0.length : Int)
     ·rw [if_pos c6] at H
      have c6b0 : decide (x12_1 < (l0_0.length : Int)) = true := decide_eq_true c6
      clear c6
      obtain ⟨t524, A70, H⟩ := ob H
      have A7 := Aside0.mk A70
      clear A70
      obtain ⟨t525, A80, H⟩ := ob H
      have A8 := Aside0.mk A80
      clear A80
      have H' := Aside0.mk H
      clear H
      have p522 : 0 ≤ (x12_1 : Int) := of_decide_eq_true y4
      have q522 : x12_1 < (l0_0.length : Int) := of_decide_eq_true y4
      obtain ⟨ad522, A522_1, c522_1, A522_3, c522_3, A522_4, c522_4, A522_5, c522_5, A522_6, c522_6, A522_7, c522_7, e522, hx522_0, hx522_1, hx522_2, hx522_3, hx522_4, hx522_5, hx522_6, hx522_7, hl522_1, hi522_1, hl522_3, hi522_3, hl522_4, hi522_4, hl522_5, hi522_5, hl522_6, hi522_6, hl522_7, hi522_7⟩ := at_T64 HR0_0.out x12_1 p522 q522
      cases e522
      replace hx522_0 := (HB.out.cell (World.block_lt_of_cell? w _ hx522_0)).trans hx522_0
      replace hx522_1 := (HB.out.cell (World.block_lt_of_cell? w _ hx522_1)).trans hx522_1
      replace hx522_2 := (HB.out.cell (World.block_lt_of_cell? w _ hx522_2)).trans hx522_2
      replace hx522_3 := (HB.out.cell (World.block_lt_of_cell? w _ hx522_3)).trans hx522_3
      replace hx522_4 := (HB.out.cell (World.block_lt_of_cell? w _ hx522_4)).trans hx522_4
      replace hx522_5 := (HB.out.cell (World.block_lt_of_cell? w _ hx522_5)).trans hx522_5
      replace hx522_6 := (HB.out.cell (World.block_lt_of_cell? w _ hx522_6)).trans hx522_6
      replace hx522_7 := (HB.out.cell (World.block_lt_of_cell? w _ hx522_7)).trans hx522_7
      have HR522_1 := Aside0.mk hi522_1
      have HC522_1 := Aside0.mk hl522_1
      clear hi522_1 hl522_1
      have HR522_3 := Aside0.mk hi522_3
      have HC522_3 := Aside0.mk hl522_3
      clear hi522_3 hl522_3
      have HR522_4 := Aside0.mk hi522_4
      have HC522_4 := Aside0.mk hl522_4
      clear hi522_4 hl522_4
      have HR522_5 := Aside0.mk hi522_5
      have HC522_5 := Aside0.mk hl522_5
      clear hi522_5 hl522_5
      have HR522_6 := Aside0.mk hi522_6
      have HC522_6 := Aside0.mk hl522_6
      clear hi522_6 hl522_6
      have HR522_7 := Aside0.mk hi522_7
      have HC522_7 := Aside0.mk hl522_7
      clear hi522_7 hl522_7
      replace p522 := eq_true p522
      replace q522 := eq_true q522
      try go_wp2_with (first | ((with_reducible refine gate_dst (N := 5) rfl ?_); refine zbx 5 #[.int .i64 0, .slice none 0 0, .string (⟨#[]⟩ : ByteArray), .slice none 0 0, .slice none 0 0, .slice none 0 0, .slice none 0 0, .slice none 0 0] 64 ?_; intro gb523 hg w9 hbox hb; have BK523 := Aside0.mk hbox; have GW523 := Aside0.mk ((y15 hg HB.out GE521.out : w.heap.size ≤ gb523)); have GE523 := Aside0.mk ((y15 hg HB.out GE521.out : w.heap.size ≤ gb523)); replace HB := Aside0.mk (below_step (y2 HB.out GE521.out) hb); have NB521_523 := zltn hg BK521; have NB523_521 := zgtn hg BK521; replace BK521 := zbb BK521 hb; clear hb hbox hg; have hnb10 := NB523_521.out; have hnc10 := NB521_523.out; have hcz11_0 := zh BK523; have hcz11_1 := zh1 BK523; have hcz11_2 := zh2 BK523; have hcz11_3 : w9.cell? ⟨gb523, 3, none⟩ = some (.slice none 0 0) := (blk_cell BK523.out 3).trans rfl; have hcz11_4 : w9.cell? ⟨gb523, 4, none⟩ = some (.slice none 0 0) := (blk_cell BK523.out 4).trans rfl; have hcz11_5 : w9.cell? ⟨gb523, 5, none⟩ = some (.slice none 0 0) := (blk_cell BK523.out 5).trans rfl; have hcz11_6 : w9.cell? ⟨gb523, 6, none⟩ = some (.slice none 0 0) := (blk_cell BK523.out 6).trans rfl; have hcz11_7 : w9.cell? ⟨gb523, 7, none⟩ = some (.slice none 0 0) := (blk_cell BK523.out 7).trans rfl; have hfz11_0 := zfr BK523 0; have hfz11_1 := zfr BK523 1; have hfz11_2 := zfr BK523 2; have hfz11_3 := zfr BK523 3; have hfz11_4 := zfr BK523 4; have hfz11_5 := zfr BK523 5; have hfz11_6 := zfr BK523 6; have hfz11_7 := zfr BK523 7))
      have n0_ : Aside0 (((((((((w9.setCell ⟨gb523, 0, none⟩ (.int .i64 ((rd_T64 l0_0 x12_1).f0))).setCell ⟨gb523, 1, none⟩ (.slice A522_1 ((rd_T64 l0_0 x12_1).f1).length c522_1)).setCell ⟨gb523, 2, none⟩ (.string ((rd_T64 l0_0 x12_1).f2))).setCell ⟨gb523, 3, none⟩ (.slice A522_3 ((rd_T64 l0_0 x12_1).f3).length c522_3)).setCell ⟨gb523, 4, none⟩ (.slice A522_4 ((rd_T64 l0_0 x12_1).f4.f0).length c522_4)).setCell ⟨gb523, 5, none⟩ (.slice A522_5 ((rd_T64 l0_0 x12_1).f4.f1).length c522_5)).setCell ⟨gb523, 6, none⟩ (.slice A522_6 ((rd_T64 l0_0 x12_1).f5.f0).length c522_6)).setCell ⟨gb523, 7, none⟩ (.slice A522_7 ((rd_T64 l0_0 x12_1).f5.f1).length c522_7)).heap[gb521]? = some (.cells #[.slice (some ad522) l0_0.length c0_0, .slice A0_1 l0_1.length c0_1] 43 (0, 0))) := ⟨(y19 NB521_523.out BK521.out)⟩
      have n1_ : Aside0 (((((((((w9.setCell ⟨gb523, 0, none⟩ (.int .i64 ((rd_T64 l0_0 x12_1).f0))).setCell ⟨gb523, 1, none⟩ (.slice A522_1 ((rd_T64 l0_0 x12_1).f1).length c522_1)).setCell ⟨gb523, 2, none⟩ (.string ((rd_T64 l0_0 x12_1).f2))).setCell ⟨gb523, 3, none⟩ (.slice A522_3 ((rd_T64 l0_0 x12_1).f3).length c522_3)).setCell ⟨gb523, 4, none⟩ (.slice A522_4 ((rd_T64 l0_0 x12_1).f4.f0).length c522_4)).setCell ⟨gb523, 5, none⟩ (.slice A522_5 ((rd_T64 l0_0 x12_1).f4.f1).length c522_5)).setCell ⟨gb523, 6, none⟩ (.slice A522_6 ((rd_T64 l0_0 x12_1).f5.f0).length c522_6)).setCell ⟨gb523, 7, none⟩ (.slice A522_7 ((rd_T64 l0_0 x12_1).f5.f1).length c522_7)).heap[gb523]? = some (.cells #[.int .i64 ((rd_T64 l0_0 x12_1).f0), .slice A522_1 ((rd_T64 l0_0 x12_1).f1).length c522_1, .string ((rd_T64 l0_0 x12_1).f2), .slice A522_3 ((rd_T64 l0_0 x12_1).f3).length c522_3, .slice A522_4 ((rd_T64 l0_0 x12_1).f4.f0).length c522_4, .slice A522_5 ((rd_T64 l0_0 x12_1).f4.f1).length c522_5, .slice A522_6 ((rd_T64 l0_0 x12_1).f5.f0).length c522_6, .slice A522_7 ((rd_T64 l0_0 x12_1).f5.f1).length c522_7] 64 (0, 0))) := ⟨(by (with_reducible repeat (first | refine blk_drewN ?_ _ | refine blk_drew ?_ | refine blk_alloc ?_ _)); refine blk_put (cs := #[.int .i64 ((rd_T64 l0_0 x12_1).f0), .slice A522_1 ((rd_T64 l0_0 x12_1).f1).length c522_1, .string ((rd_T64 l0_0 x12_1).f2), .slice A522_3 ((rd_T64 l0_0 x12_1).f3).length c522_3, .slice A522_4 ((rd_T64 l0_0 x12_1).f4.f0).length c522_4, .slice A522_5 ((rd_T64 l0_0 x12_1).f4.f1).length c522_5, .slice A522_6 ((rd_T64 l0_0 x12_1).f5.f0).length c522_6, .slice none 0 0]) ?_ 7 _ rfl; (with_reducible repeat (first | refine blk_drewN ?_ _ | refine blk_drew ?_ | refine blk_alloc ?_ _)); refine blk_put (cs := #[.int .i64 ((rd_T64 l0_0 x12_1).f0), .slice A522_1 ((rd_T64 l0_0 x12_1).f1).length c522_1, .string ((rd_T64 l0_0 x12_1).f2), .slice A522_3 ((rd_T64 l0_0 x12_1).f3).length c522_3, .slice A522_4 ((rd_T64 l0_0 x12_1).f4.f0).length c522_4, .slice A522_5 ((rd_T64 l0_0 x12_1).f4.f1).length c522_5, .slice none 0 0, .slice none 0 0]) ?_ 6 _ rfl; (with_reducible repeat (first | refine blk_drewN ?_ _ | refine blk_drew ?_ | refine blk_alloc ?_ _)); refine blk_put (cs := #[.int .i64 ((rd_T64 l0_0 x12_1).f0), .slice A522_1 ((rd_T64 l0_0 x12_1).f1).length c522_1, .string ((rd_T64 l0_0 x12_1).f2), .slice A522_3 ((rd_T64 l0_0 x12_1).f3).length c522_3, .slice A522_4 ((rd_T64 l0_0 x12_1).f4.f0).length c522_4, .slice none 0 0, .slice none 0 0, .slice none 0 0]) ?_ 5 _ rfl; (with_reducible repeat (first | refine blk_drewN ?_ _ | refine blk_drew ?_ | refine blk_alloc ?_ _)); refine blk_put (cs := #[.int .i64 ((rd_T64 l0_0 x12_1).f0), .slice A522_1 ((rd_T64 l0_0 x12_1).f1).length c522_1, .string ((rd_T64 l0_0 x12_1).f2), .slice A522_3 ((rd_T64 l0_0 x12_1).f3).length c522_3, .slice none 0 0, .slice none 0 0, .slice none 0 0, .slice none 0 0]) ?_ 4 _ rfl; (with_reducible repeat (first | refine blk_drewN ?_ _ | refine blk_drew ?_ | refine blk_alloc ?_ _)); refine blk_put (cs := #[.int .i64 ((rd_T64 l0_0 x12_1).f0), .slice A522_1 ((rd_T64 l0_0 x12_1).f1).length c522_1, .string ((rd_T64 l0_0 x12_1).f2), .slice none 0 0, .slice none 0 0, .slice none 0 0, .slice none 0 0, .slice none 0 0]) ?_ 3 _ rfl; (with_reducible repeat (first | refine blk_drewN ?_ _ | refine blk_drew ?_ | refine blk_alloc ?_ _)); refine blk_put (cs := #[.int .i64 ((rd_T64 l0_0 x12_1).f0), .slice A522_1 ((rd_T64 l0_0 x12_1).f1).length c522_1, .string (⟨#[]⟩ : ByteArray), .slice none 0 0, .slice none 0 0, .slice none 0 0, .slice none 0 0, .slice none 0 0]) ?_ 2 _ rfl; (with_reducible repeat (first | refine blk_drewN ?_ _ | refine blk_drew ?_ | refine blk_alloc ?_ _)); refine blk_put (cs := #[.int .i64 ((rd_T64 l0_0 x12_1).f0), .slice none 0 0, .string (⟨#[]⟩ : ByteArray), .slice none 0 0, .slice none 0 0, .slice none 0 0, .slice none 0 0, .slice none 0 0]) ?_ 1 _ rfl; (with_reducible repeat (first | refine blk_drewN ?_ _ | refine blk_drew ?_ | refine blk_alloc ?_ _)); refine blk_put (cs := #[.int .i64 0, .slice none 0 0, .string (⟨#[]⟩ : ByteArray), .slice none 0 0, .slice none 0 0, .slice none 0 0, .slice none 0 0, .slice none 0 0]) ?_ 0 _ rfl; (with_reducible repeat (first | refine blk_drewN ?_ _ | refine blk_drew ?_ | refine blk_alloc ?_ _)); exact BK523.out)⟩
      have n2_ : Aside0 (Below w.heap.size w ((((((((w9.setCell ⟨gb523, 0, none⟩ (.int .i64 ((rd_T64 l0_0 x12_1).f0))).setCell ⟨gb523, 1, none⟩ (.slice A522_1 ((rd_T64 l0_0 x12_1).f1).length c522_1)).setCell ⟨gb523, 2, none⟩ (.string ((rd_T64 l0_0 x12_1).f2))).setCell ⟨gb523, 3, none⟩ (.slice A522_3 ((rd_T64 l0_0 x12_1).f3).length c522_3)).setCell ⟨gb523, 4, none⟩ (.slice A522_4 ((rd_T64 l0_0 x12_1).f4.f0).length c522_4)).setCell ⟨gb523, 5, none⟩ (.slice A522_5 ((rd_T64 l0_0 x12_1).f4.f1).length c522_5)).setCell ⟨gb523, 6, none⟩ (.slice A522_6 ((rd_T64 l0_0 x12_1).f5.f0).length c522_6)).setCell ⟨gb523, 7, none⟩ (.slice A522_7 ((rd_T64 l0_0 x12_1).f5.f1).length c522_7))) := ⟨(y5 HB.out GE521.out GE523.out)⟩
      (try clear BK521)
      (try clear BK523)
      (try clear HB)
      generalize ((((((((w9.setCell ⟨gb523, 0, none⟩ (.int .i64 ((rd_T64 l0_0 x12_1).f0))).setCell ⟨gb523, 1, none⟩ (.slice A522_1 ((rd_T64 l0_0 x12_1).f1).length c522_1)).setCell ⟨gb523, 2, none⟩ (.string ((rd_T64 l0_0 x12_1).f2))).setCell ⟨gb523, 3, none⟩ (.slice A522_3 ((rd_T64 l0_0 x12_1).f3).length c522_3)).setCell ⟨gb523, 4, none⟩ (.slice A522_4 ((rd_T64 l0_0 x12_1).f4.f0).length c522_4)).setCell ⟨gb523, 5, none⟩ (.slice A522_5 ((rd_T64 l0_0 x12_1).f4.f1).length c522_5)).setCell ⟨gb523, 6, none⟩ (.slice A522_6 ((rd_T64 l0_0 x12_1).f5.f0).length c522_6)).setCell ⟨gb523, 7, none⟩ (.slice A522_7 ((rd_T64 l0_0 x12_1).f5.f1).length c522_7)) = w12 at n0_ n1_ n2_ ⊢
      have BK521 := n0_
      have BK523 := n1_
      have HB := n2_
      clear n0_ n1_ n2_
      replace BK521 := Aside0.mk (blk_drew BK521.out)
      replace BK523 := Aside0.mk (blk_drew BK523.out)
      replace HB := Aside0.mk (below_drew1 HB.out)
      refine start_ (n := 10) (S := fun w' => w'.cell? ⟨gb523, 0, none⟩ = some (.int .i64 ((rd_T64 l0_0 x12_1).f0)) ∧ w'.cell? ⟨gb523, 1, none⟩ = some (.slice A522_1 ((rd_T64 l0_0 x12_1).f1).length c522_1) ∧ w'.cell? ⟨gb523, 2, none⟩ = some (.string ((rd_T64 l0_0 x12_1).f2)) ∧ w'.cell? ⟨gb523, 3, none⟩ = some (.slice A522_3 ((rd_T64 l0_0 x12_1).f3).length c522_3) ∧ w'.cell? ⟨gb523, 4, none⟩ = some (.slice A522_4 ((rd_T64 l0_0 x12_1).f4.f0).length c522_4) ∧ w'.cell? ⟨gb523, 5, none⟩ = some (.slice A522_5 ((rd_T64 l0_0 x12_1).f4.f1).length c522_5) ∧ w'.cell? ⟨gb523, 6, none⟩ = some (.slice A522_6 ((rd_T64 l0_0 x12_1).f5.f0).length c522_6) ∧ w'.cell? ⟨gb523, 7, none⟩ = some (.slice A522_7 ((rd_T64 l0_0 x12_1).f5.f1).length c522_7)) (ds := []) #[false, false, false, false, false, false, false, false, false, false] (by kernel_rfl) rfl rfl ⟨(blk_cell BK523.out 0).trans rfl, (blk_cell BK523.out 1).trans rfl, (blk_cell BK523.out 2).trans rfl, (blk_cell BK523.out 3).trans rfl, (blk_cell BK523.out 4).trans rfl, (blk_cell BK523.out 5).trans rfl, (blk_cell BK523.out 6).trans rfl, (blk_cell BK523.out 7).trans rfl⟩ (fun hHeld => ?_); refine with_tabW impl_bodySize.tab5 impl_bodySize.bits5 (fun HT_ HW_ => ?_)
      generalize w12.drew = w13 at BK521 BK523 HB hHeld ⊢
      refine zp 0 (some 16) HT_ ?_
      refine zp 1 (some 17) HT_ ?_
      refine zp 4 (some 20) HT_ ?_
      refine zt8 2 (some 18) HT_ HW_ hHeld ?_
      refine zt8 5 (some 21) HT_ HW_ hHeld ?_
      refine one_ (i := 3) (N := some 19) #[true, true, true, true, true, true, false, false, false, false] rfl rfl (one_of HT_.out (by kernel_rfl)) (by decide) (fun K hK => ?_)
      refine goes_ Try.func28 (by kernel_rfl) rfl #[.agg #[.slice A522_4 ((rd_T64 l0_0 x12_1).f4.f0).length c522_4, .slice A522_5 ((rd_T64 l0_0 x12_1).f4.f1).length c522_5]] (by rfl) rfl rfl y3 ?_
      with_reducible refine (ih k1 (y30 HK1.out) _ _ ((rd_T64 l0_0 x12_1).f4.f0) _ _ ((rd_T64 l0_0 x12_1).f4.f1) t524 _ ?side1 ?side2 ?side3 ?side4 A7.out).mono ?_
      (case side1 => exact y0 HR522_4.out HB.out)
      (case side2 => exact HC522_4.out)
      (case side3 => exact y0 HR522_5.out HB.out)
      (case side4 => exact HC522_5.out)
      rintro e w14 ⟨rfl, hb⟩
      refine ⟨_, rfl, ?_⟩
      replace BK521 := zbb BK521 hb
      replace BK523 := zbb BK523 hb
      replace HB := Aside0.mk (below_step (y5 HB.out GE521.out GE523.out) hb)
      (try clear hb)
      (try clear hb2)
      (try clear hk)
      (try clear hi)
      refine hK.out _ _ ⟨(blk_cell BK523.out 0).trans rfl, (blk_cell BK523.out 1).trans rfl, (blk_cell BK523.out 2).trans rfl, (blk_cell BK523.out 3).trans rfl, (blk_cell BK523.out 4).trans rfl, (blk_cell BK523.out 5).trans rfl, (blk_cell BK523.out 6).trans rfl, (blk_cell BK523.out 7).trans rfl⟩ (fun hHeld => ?_)
      clear hK K
      refine norm_ (a' := ?_) ?_ ?_
      rotate_left
      ·show Act.put _ (some 19) _ = _
       simp only [Act.put, List.setIfInBounds_toArray, List.set_cons_zero, List.set_cons_succ, i64_w, i32_w]
       rfl
      refine one_ (i := 6) (N := some 22) #[true, true, true, true, true, true, true, false, false, false] rfl rfl (one_of HT_.out (by kernel_rfl)) (by decide) (fun K hK => ?_)
      refine goes_ Try.func28 (by kernel_rfl) rfl #[.agg #[.slice A522_6 ((rd_T64 l0_0 x12_1).f5.f0).length c522_6, .slice A522_7 ((rd_T64 l0_0 x12_1).f5.f1).length c522_7]] (by rfl) rfl rfl y3 ?_
      with_reducible refine (ih k1 (y30 HK1.out) _ _ ((rd_T64 l0_0 x12_1).f5.f0) _ _ ((rd_T64 l0_0 x12_1).f5.f1) t525 _ ?side1 ?side2 ?side3 ?side4 A8.out).mono ?_
      (case side1 => exact y0 HR522_6.out HB.out)
      (case side2 => exact HC522_6.out)
      (case side3 => exact y0 HR522_7.out HB.out)
      (case side4 => exact HC522_7.out)
      rintro e w15 ⟨rfl, hb⟩
      refine ⟨_, rfl, ?_⟩
      replace BK521 := zbb BK521 hb
      replace BK523 := zbb BK523 hb
      replace HB := Aside0.mk (below_step (y5 HB.out GE521.out GE523.out) hb)
      (try clear hb)
      (try clear hb2)
      (try clear hk)
      (try clear hi)
      refine hK.out _ _ ⟨(blk_cell BK523.out 0).trans rfl, (blk_cell BK523.out 1).trans rfl, (blk_cell BK523.out 2).trans rfl, (blk_cell BK523.out 3).trans rfl, (blk_cell BK523.out 4).trans rfl, (blk_cell BK523.out 5).trans rfl, (blk_cell BK523.out 6).trans rfl, (blk_cell BK523.out 7).trans rfl⟩ (fun hHeld => ?_)
      clear hK K
      refine norm_ (a' := ?_) ?_ ?_
      rotate_left
      ·show Act.put _ (some 22) _ = _
       simp only [Act.put, List.setIfInBounds_toArray, List.set_cons_zero, List.set_cons_succ, i64_w, i32_w]
       rfl
      refine zp 7 (some 23) HT_ ?_
      refine zp 8 (some 24) HT_ ?_
      refine zp 9 (some 3) HT_ ?_
      refine done_ (done_of HT_.out (by kernel_rfl)) ?_
      try go_wp2
      go_roundg k1
      case measure => have := HK1.out; omega
      case rel => exact ⟨(wrap64 (x3_1 + (wrap64 (t524 + t525)))), (wrap64 (x12_1 + 1)), y7, y7, H', ⟨(y30 HK1.out)⟩, ⟨(y8 BK521.out)⟩, ⟨(y5 HB.out GE521.out GE523.out)⟩⟩
     ·rw [if_neg c6] at H
      exact absurd H (by simp)
    ·rw [if_neg c5] at H
     exact absurd H (by simp)
   ·rw [if_neg c4] at H
    have c4b0 : decide (x12_1 < (l0_0.length : Int)) = false := decide_eq_false c4
    clear c4
    obtain rfl := Option.some.inj H
    go_wp2
    go_ret
    exact ⟨y6, (y2 HB.out GE521.out)⟩
end Go.Proofs.Ytdgpegkgelciaaa.PA
end
section
namespace Go.Proofs.Ytdgpegkgelciaaa.PA
open Go.RowKit Go.Proofs.YtdgpegkgelciaaaW.PrintWords Go.Proofs.YtdgpegkgelciaaaW.PrintLast Go.Proofs.YtdgpegkgelciaaaW.PrintMore
attribute [local go_sem] max2_int min2_int max_two min_two max_three min_three max_four min_four
set_option linter.unusedVariables false
set_option linter.unusedSimpArgs false
def impl_TidySize.l0 : Nat → Int → List (S45) → Int → Int → Option (Int)
 | 0, _, _, _, _ => none
 | k + 1, x3, x9, x10, x11 => if x11 < x10 then (if 0 ≤ x11 then (if x11 < (x9.length : Int) then ((impl_bodySize.f k ((rd_T45 x9 x11).f2.f0) ((rd_T45 x9 x11).f2.f1)).bind fun t529 => (impl_TidySize.l0 k (wrap64 (x3 + t529)) x9 x10 (wrap64 (x11 + 1)))) else (none)) else (none)) else (some x3)
def impl_TidySize.f (k : Nat) (l0 : List (S45)) : Option (Int) := (impl_PureOk.f l0).bind fun t526 => (if t526 = true then (impl_TidySize.l0 k 0 l0 (l0.length : Int) 0) else (some (-1)))
theorem impl_TidySize.mono_l : ∀ k, (∀ y0 y1 y2 y3, LeO (impl_TidySize.l0 k y0 y1 y2 y3) (impl_TidySize.l0 (k + 1) y0 y1 y2 y3))
 | 0 => fun _ _ _ _ r h => by simp [impl_TidySize.l0] at h
 | k + 1 => by
  have ih0 := impl_TidySize.mono_l k
  ·intro y0 y1 y2 y3
   unfold impl_TidySize.l0
   repeat' first
   | (with_reducible exact ih0 _ _ _ _)
   | (with_reducible exact impl_bodySize.mono _ _ _)
   | (with_reducible exact LeO.refl _)
   | (with_reducible exact LeO.none _)
   | (with_reducible refine LeO.ite ?_ ?_)
   | (with_reducible refine LeO.bind ?_ (fun _ => ?_))
   | exact ih0 _ _ _ _
   | exact impl_bodySize.mono _ _ _
   | exact LeO.none _
   | refine LeO.ite ?_ ?_
   | refine LeO.bind ?_ (fun _ => ?_)
theorem impl_TidySize.mono : ∀ a0 k, LeO (impl_TidySize.f k a0) (impl_TidySize.f (k + 1) a0) := by
 intro a0 k
 have ih0 := impl_TidySize.mono_l k
 unfold impl_TidySize.f
 repeat' first
   | (with_reducible exact ih0 _ _ _ _)
   | (with_reducible exact impl_bodySize.mono _ _ _)
   | (with_reducible exact LeO.refl _)
   | (with_reducible exact LeO.none _)
   | (with_reducible refine LeO.ite ?_ ?_)
   | (with_reducible refine LeO.bind ?_ (fun _ => ?_))
   | exact ih0 _ _ _ _
   | exact impl_bodySize.mono _ _ _
   | exact LeO.none _
   | refine LeO.ite ?_ ?_
   | refine LeO.bind ?_ (fun _ => ?_)
set_option maxHeartbeats 8000000 in
set_option maxRecDepth 100000 in
theorem impl_TidySize.calls (k : Nat) (A0 : Option Addr) (c0 : Nat) (l0 : List (S45)) (r : Int) (w : World) (hr0 : Kd.C k45 w A0 l0.length l0) (hc0 : l0.length ≤ c0) (h : impl_TidySize.f k l0 = some r) :
  Calls Try.prog 12 #[.slice A0 l0.length c0] w fun e w' => e = .returned (.int .i64 r) ∧ Below w.heap.size w w' := by
 have hu45 := Try.underlying45
 have hu43 := Try.underlying43
 have HR0 := Aside0.mk hr0
 have HC0 := Aside0.mk hc0
 clear hr0 hc0
 have HB := Aside0.mk (Below.refl w.heap.size w)
 have H : ((impl_PureOk.f l0).bind fun t526 => (if t526 = true then (impl_TidySize.l0 k 0 l0 (l0.length : Int) 0) else (some (-1)))) = some r := h
 clear h
 obtain ⟨t526, A20, H⟩ := ob H
 have A2 := Aside0.mk A20
 clear A20
 have HZ3 := Aside0.mk H
 clear H
 go_enter Try.func12, Try.ntmps12
 go_upto_if 8 with (first | ((with_reducible refine gate_callee (f := 9) rfl ?_); refine goesL_ (some 7) rfl rfl Try.func9 (by kernel_rfl) rfl #[.slice A0 l0.length c0] rfl y3 ?_; (with_reducible refine (impl_PureOk.calls _ _ l0 t526 _ ?side1 ?side2 A2.out).mono ?_); (case side1 => exact y24 HR0.out); (case side2 => exact HC0.out); rintro e w4 ⟨rfl, hb⟩; refine ⟨_, rfl, ?_⟩; replace HB := Aside0.mk (below_step (y1 HB.out) hb); (try clear hb); (try clear hb2); (try clear hk); (try clear hi)))
 (try simp only [Act.put, List.setIfInBounds_toArray, List.set_cons_zero, List.set_cons_succ])
 have H := HZ3.out
 clear HZ3
 by_cases c5 : t526 = true
 ·subst c5
  rw [if_pos rfl] at H
  have H' := Aside0.mk H
  clear H
  go_wp2
  go_loopg [3, 11] k (fun kq v3 v11 w' => ∃ (x3_1 : Int) (x11_1 : Int), v3 = .int .i64 x3_1 ∧ v11 = .int .i64 x11_1 ∧ Aside0 (impl_TidySize.l0 kq x3_1 l0 (l0.length : Int) x11_1 = some r) ∧ Aside0 (kq ≤ k) ∧ Aside0 (Below w.heap.size w w'))
  case atStart => exact ⟨(0), (0), y7, y7, H', ⟨Nat.le_refl _⟩, ⟨(y1 HB.out)⟩⟩
  case round =>
   clear H'
   try clear c1
   try clear p2
   try clear c5
   obtain ⟨x3_1, x11_1, rfl, rfl, HA, HK1, HB⟩ := hrel
   cases gk with
   | zero => exact absurd HA.out (by simp [impl_TidySize.l0])
   | succ k1 =>
    have H := HA.out
    clear HA
    simp only [impl_TidySize.l0] at H
    by_cases c6 : x11_1 < (l0.length : Int)
    ·rw [if_pos c6] at H
     have c6b0 : decide (x11_1 < (l0.length : Int)) = true := decide_eq_true c6
     clear c6
     (first | rw [c6b0] | (simp only [i64_w, i32_w]; rw [c6b0]) | skip)
     by_cases c7 : 0 ≤ x11_1
     ·rw [if_pos c7] at H
      have c7b0 : decide (0 ≤ x11_1) = true := decide_eq_true c7
      clear c7
      by_cases c8 : x11_1 < (l0.length : Int)
      ·rw [if_pos c8] at H
       have c8b0 : decide (x11_1 < (l0.length : Int)) = true := decide_eq_true c8
       clear c8
       obtain ⟨t529, A90, H⟩ := ob H
       have A9 := Aside0.mk A90
       clear A90
       have H' := Aside0.mk H
       clear H
       have p527 : 0 ≤ (x11_1 : Int) := of_decide_eq_true y4
       have q527 : x11_1 < (l0.length : Int) := of_decide_eq_true y4
       obtain ⟨ad527, A527_1, c527_1, A527_2, c527_2, A527_3, c527_3, e527, hx527_0, hx527_1, hx527_2, hx527_3, hl527_1, hi527_1, hl527_2, hi527_2, hl527_3, hi527_3⟩ := at_T45 HR0.out x11_1 p527 q527
       cases e527
       replace hx527_0 := (HB.out.cell (World.block_lt_of_cell? w _ hx527_0)).trans hx527_0
       replace hx527_1 := (HB.out.cell (World.block_lt_of_cell? w _ hx527_1)).trans hx527_1
       replace hx527_2 := (HB.out.cell (World.block_lt_of_cell? w _ hx527_2)).trans hx527_2
       replace hx527_3 := (HB.out.cell (World.block_lt_of_cell? w _ hx527_3)).trans hx527_3
       have HR527_1 := Aside0.mk hi527_1
       have HC527_1 := Aside0.mk hl527_1
       clear hi527_1 hl527_1
       have HR527_2 := Aside0.mk hi527_2
       have HC527_2 := Aside0.mk hl527_2
       clear hi527_2 hl527_2
       have HR527_3 := Aside0.mk hi527_3
       have HC527_3 := Aside0.mk hl527_3
       clear hi527_3 hl527_3
       replace p527 := eq_true p527
       replace q527 := eq_true q527
       go_wp2_with (first | ((with_reducible refine gate_dst (N := 5) rfl ?_); refine zbx 5 #[.string (⟨#[]⟩ : ByteArray), .slice none 0 0, .slice none 0 0, .slice none 0 0] 45 ?_; intro gb528 hg w10 hbox hb; have BK528 := Aside0.mk hbox; have GW528 := Aside0.mk ((y9 hg HB.out : w.heap.size ≤ gb528)); have GE528 := Aside0.mk ((y9 hg HB.out : w.heap.size ≤ gb528)); replace HB := Aside0.mk (below_step (y1 HB.out) hb); clear hb hbox hg; have hcz11_0 := zh BK528; have hcz11_1 := zh1 BK528; have hcz11_2 := zh2 BK528; have hcz11_3 : w10.cell? ⟨gb528, 3, none⟩ = some (.slice none 0 0) := (blk_cell BK528.out 3).trans rfl; have hfz11_0 := zfr BK528 0; have hfz11_1 := zfr BK528 1; have hfz11_2 := zfr BK528 2; have hfz11_3 := zfr BK528 3) | ((with_reducible refine gate_callee (f := 28) rfl ?_); refine goesL_ (some 18) rfl rfl Try.func28 (by kernel_rfl) rfl #[.agg #[.slice A527_2 ((rd_T45 l0 x11_1).f2.f0).length c527_2, .slice A527_3 ((rd_T45 l0 x11_1).f2.f1).length c527_3]] rfl y3 ?_; (with_reducible refine (impl_bodySize.calls k1 _ _ ((rd_T45 l0 x11_1).f2.f0) _ _ ((rd_T45 l0 x11_1).f2.f1) t529 _ ?side1 ?side2 ?side3 ?side4 A9.out).mono ?_); (case side1 => exact y29 HR527_2.out HB.out GE528.out); (case side2 => exact HC527_2.out); (case side3 => exact y29 HR527_3.out HB.out GE528.out); (case side4 => exact HC527_3.out); rintro e w12 ⟨rfl, hb⟩; refine ⟨_, rfl, ?_⟩; replace BK528 := Aside0.mk (blk_below (g := gb528) (o := .cells #[.string ((rd_T45 l0 x11_1).f0), .slice A527_1 ((rd_T45 l0 x11_1).f1).length c527_1, .slice A527_2 ((rd_T45 l0 x11_1).f2.f0).length c527_2, .slice A527_3 ((rd_T45 l0 x11_1).f2.f1).length c527_3] 45 (0, 0)) (by (with_reducible repeat (first | refine blk_drewN ?_ _ | refine blk_drew ?_ | refine blk_alloc ?_ _)); refine blk_put (cs := #[.string ((rd_T45 l0 x11_1).f0), .slice A527_1 ((rd_T45 l0 x11_1).f1).length c527_1, .slice A527_2 ((rd_T45 l0 x11_1).f2.f0).length c527_2, .slice none 0 0]) ?_ 3 _ rfl; (with_reducible repeat (first | refine blk_drewN ?_ _ | refine blk_drew ?_ | refine blk_alloc ?_ _)); refine blk_put (cs := #[.string ((rd_T45 l0 x11_1).f0), .slice A527_1 ((rd_T45 l0 x11_1).f1).length c527_1, .slice none 0 0, .slice none 0 0]) ?_ 2 _ rfl; (with_reducible repeat (first | refine blk_drewN ?_ _ | refine blk_drew ?_ | refine blk_alloc ?_ _)); refine blk_put (cs := #[.string ((rd_T45 l0 x11_1).f0), .slice none 0 0, .slice none 0 0, .slice none 0 0]) ?_ 1 _ rfl; (with_reducible repeat (first | refine blk_drewN ?_ _ | refine blk_drew ?_ | refine blk_alloc ?_ _)); apply blk_put (i := 0); (case h => exact y8 BK528.out); (case e => rfl)) hb); replace HB := Aside0.mk (below_step (y2 HB.out GE528.out) hb); (try clear hb); (try clear hb2); (try clear hk); (try clear hi)))
       go_roundg k1
       case measure => have := HK1.out; omega
       case rel => exact ⟨(wrap64 (x3_1 + t529)), (wrap64 (x11_1 + 1)), y7, y7, H', ⟨(y30 HK1.out)⟩, ⟨(y2 HB.out GE528.out)⟩⟩
      ·rw [if_neg c8] at H
       exact absurd H (by simp)
     ·rw [if_neg c7] at H
      exact absurd H (by simp)
    ·rw [if_neg c6] at H
     have c6b0 : decide (x11_1 < (l0.length : Int)) = false := decide_eq_false c6
     clear c6
     (first | rw [c6b0] | (simp only [i64_w, i32_w]; rw [c6b0]) | skip)
     obtain rfl := Option.some.inj H
     go_wp2
     go_ret
     exact ⟨y6, (y1 HB.out)⟩
 ·replace c5 := Bool.eq_false_iff.mpr c5
  subst c5
  rw [if_neg (show ¬ (false = true) by decide)] at H
  obtain rfl := Option.some.inj H
  go_wp2
  go_ret
  exact ⟨y6, (y1 HB.out)⟩
end Go.Proofs.Ytdgpegkgelciaaa.PA
end
section
namespace Go.Proofs.Ytdgpegkgelciaaa.ExU
open Go.RowKit Go.Proofs.Ytdgpegkgelciaaa.PA Go.Proofs.YtdgpegkgelciaaaW.PrintWords Go.Proofs.YtdgpegkgelciaaaW.PrintLast Go.Proofs.YtdgpegkgelciaaaW.PrintMore Go.Proofs.Ytdgpegkgelciaaa.OpenU
open Go.Proofs.Ytdgpegkgelciaaa.PA (Ev.pos Ev.neg Ev.val Ev.cast Ev.shift)
theorem loopAdd {α : Type} (l : List α) (hl : l.length ≤ 1000000000) (c : α → Nat) (B : Nat) (F : Nat → α → Int → Option Int) (hF : ∀ x ∈ l, ∀ a : Nat, a + c x ≤ B → Ev (fun k => F k x a) ((a + c x : Nat) : Int)) (L : Nat → Int → Int → Option Int)
    (hS : ∀ k (a i : Nat) (h : i < l.length), L (k + 1) a i = (F k (l[i]'h) a).bind fun t => L k t (wrap64 ((i : Int) + 1))) (hE : ∀ k (a : Nat), L (k + 1) a l.length = some (a : Int)) :
    ∀ d i a : Nat, i + d = l.length → a + sums c (l.drop i) ≤ B → Ev (fun k => L k a i) ((a + sums c (l.drop i) : Nat) : Int)
  | 0, i, a, hi, ha => by
    obtain rfl : i = l.length := by omega
    rw [List.drop_eq_nil_of_le (Nat.le_refl _)]
    exact Ev.step (f := fun _ => some (a : Int)) (fun k => hE k a) (Ev.val rfl)
  | d + 1, i, a, hi, ha => by
    have h : i < l.length := by omega
    rw [List.drop_eq_getElem_cons h, sums] at ha ⊢
    refine Ev.step (f := fun k => (F k (l[i]'h) a).bind fun t => L k t (i + 1 : Nat)) (fun k => by rw [hS k a i h, suc63 i (by omega)]) ?_
    refine Ev.bind (f := fun k t => L k t (i + 1 : Nat)) (hF _ (List.getElem_mem h) a (by omega)) ?_
    exact Ev.cast (loopAdd l hl c B F hF L hS hE d (i + 1) (a + c l[i]) (by omega) (by omega)) (by omega)
def kidsB (x : S93) (f : List S93 → Nat) : Nat := f x.f4.f0 + f x.f5.f0
mutual
def nb : S64 → Nat
  | ⟨_, _, _, _, ⟨b0, _⟩, ⟨b1, _⟩⟩ => nbs b0 + nbs b1
def nbs : List S64 → Nat
  | [] => 0
  | x :: r => 1 + nb x + nbs r
end
theorem nb_eq (x : S64) : nb x = nbs x.f4.f0 + nbs x.f5.f0 := by
  obtain ⟨_, _, _, _, ⟨_, _⟩, ⟨_, _⟩⟩ := x
  rw [nb]
theorem nbs_eq : ∀ l : List S64, nbs l = l.length + sums nb l
  | [] => rfl
  | x :: r => by rw [nbs, sums, List.length_cons, nbs_eq r]; omega
theorem nb_mem {x : S64} {l : List S64} (h : x ∈ l) : 1 + nb x ≤ nbs l := by
  rw [nbs_eq]
  have := sums_mem (c := nb) h
  have := List.length_pos_of_mem h
  omega
theorem wadd {a b : Nat} (h : a + b ≤ 1000000000000) : wrap64 ((a : Int) + (b : Int)) = ((a + b : Nat) : Int) := by rw [w64 _ (by omega)]; omega
theorem sSize_ev : ∀ (n : Nat) (l : List S64) (ts : List S78), nbs l ≤ n → n ≤ 1048576 → Ev (fun k => spec_l22Size.f k l ts) ((nbs l : Nat) : Int) := by
  intro n
  induction n using Nat.strongRecOn with
  | _ n ih =>
    intro l ts hn hb
    have hq := nbs_eq l
    refine Ev.step (f := fun k => spec_l22Size.l0 k l.length (0 : Nat) l ts) (fun k => by simp only [spec_l22Size.f]; rfl) ?_
    have hh := loopAdd l (by omega) nb 1048576 (fun k x a => (spec_l22Size.f k x.f4.f0 x.f4.f1).bind fun t => ((spec_l22Size.f k x.f5.f0 x.f5.f1).bind fun u => some (wrap64 (wrap64 (a + t) + u)))) (fun x hx a ha => ?_) (fun k a i => spec_l22Size.l0 k a i l ts)
      (fun k a i hi => by simp only [spec_l22Size.l0, Option.bind_assoc, Option.bind_some]; rw [if_pos (by omega), if_pos (by omega), rdIB hi]) (fun k a => by simp only [spec_l22Size.l0]; rw [if_neg (by omega)]) l.length 0 l.length (by omega) (by rw [List.drop_zero]; omega)
    · rw [List.drop_zero] at hh
      exact Ev.cast hh (by rw [hq])
    · have hm := nb_mem hx
      have e := nb_eq x
      refine Ev.bind (f := fun k t => (spec_l22Size.f k x.f5.f0 x.f5.f1).bind fun u => some (wrap64 (wrap64 (a + t) + u))) (ih (nbs x.f4.f0) (by omega) _ x.f4.f1 (Nat.le_refl _) (by omega)) ?_
      exact Ev.bind (f := fun _ u => some (wrap64 (wrap64 ((a : Int) + (nbs x.f4.f0 : Nat)) + u))) (ih (nbs x.f5.f0) (by omega) _ x.f5.f1 (Nat.le_refl _) (by omega)) (Ev.val (by rw [wadd (by omega), wadd (by omega)]; omega))
theorem iSize_ev : ∀ (n : Nat) (l : List S64) (ts : List S78), nbs l ≤ n → n ≤ 1048576 → Ev (fun k => impl_bodySize.f k l ts) ((nbs l : Nat) : Int) := by
  intro n
  induction n using Nat.strongRecOn with
  | _ n ih =>
    intro l ts hn hb
    have hq := nbs_eq l
    refine Ev.step (f := fun k => impl_bodySize.l0 k l.length l l.length (0 : Nat)) (fun k => by simp only [impl_bodySize.f]; rfl) ?_
    have hh := loopAdd l (by omega) nb 1048576 (fun k x a => (impl_bodySize.f k x.f4.f0 x.f4.f1).bind fun t => ((impl_bodySize.f k x.f5.f0 x.f5.f1).bind fun u => some (wrap64 (a + wrap64 (t + u))))) (fun x hx a ha => ?_) (fun k a i => impl_bodySize.l0 k a l l.length i)
      (fun k a i hi => by simp only [impl_bodySize.l0, Option.bind_assoc, Option.bind_some]; rw [if_pos (by omega), if_pos (by omega), if_pos (by omega), rdIB hi]) (fun k a => by simp only [impl_bodySize.l0]; rw [if_neg (by omega)]) l.length 0 l.length (by omega) (by rw [List.drop_zero]; omega)
    · rw [List.drop_zero] at hh
      exact Ev.cast hh (by rw [hq])
    · have hm := nb_mem hx
      have e := nb_eq x
      refine Ev.bind (f := fun k t => (impl_bodySize.f k x.f5.f0 x.f5.f1).bind fun u => some (wrap64 (a + wrap64 (t + u)))) (ih (nbs x.f4.f0) (by omega) _ x.f4.f1 (Nat.le_refl _) (by omega)) ?_
      exact Ev.bind (f := fun _ u => some (wrap64 ((a : Int) + wrap64 (((nbs x.f4.f0 : Nat) : Int) + u)))) (ih (nbs x.f5.f0) (by omega) _ x.f5.f1 (Nat.le_refl _) (by omega)) (Ev.val (by rw [wadd (by omega), wadd (by omega)]; omega))
theorem nbs_cnt {x : S93} (h : Ok93 x) : nb (cvB x) ≤ cntB x := by
  induction h with
  | mk t h0 h1 h2 h3 h4 h5 h6 h7 h8 h9 ih1 ih2 =>
    rw [cntB_eq, cvB_eq, nb_eq]
    have key : ∀ l : List S93, (∀ x ∈ l, nb (cvB x) ≤ cntB x) → nbs (cvBs l) ≤ cntBs l := by
      intro l
      induction l with
      | nil => intro _; simp [cvBs, nbs]
      | cons y r ihr =>
        intro hy
        rw [cvBs, nbs, cntBs]
        have := hy y List.mem_cons_self
        have := ihr fun z hz => hy z (List.mem_cons_of_mem _ hz)
        omega
    have := key _ ih1
    have := key _ ih2
    simp only
    omega
theorem nbs_cnts : ∀ l : List S93, (∀ x ∈ l, Ok93 x) → nbs (cvBs l) ≤ cntBs l
  | [], _ => by simp [cvBs, nbs]
  | y :: r, h => by
    rw [cvBs, nbs, cntBs]
    have := nbs_cnt (h y List.mem_cons_self)
    have := nbs_cnts r fun z hz => h z (List.mem_cons_of_mem _ hz)
    omega
def tidyN (l : List S45) : Int := if okPure tk8 pnP pwP l = true then ((sums (fun p => nbs p.f2.f0) l : Nat) : Int) else -1
theorem tidy_sum {l : List S37} (h : OkUs l) : sums (fun p => nbs p.f2.f0) (cvUs l) ≤ sums cntU l := by
  have key : ∀ l : List S37, (∀ x ∈ l, OkU x) → sums (fun p => nbs p.f2.f0) (cvUs l) ≤ sums cntU l := by
    intro l
    induction l with
    | nil => intro _; exact Nat.le_refl _
    | cons y r ihr =>
      intro hy
      have h1 := nbs_cnts y.f2.f0 (hy y List.mem_cons_self).2.2.1.2
      have h2 := ihr fun z hz => hy z (List.mem_cons_of_mem _ hz)
      show nbs (cvBs y.f2.f0) + sums (fun p => nbs p.f2.f0) (cvUs r) ≤ cntU y + sums cntU r
      unfold cntU at *
      omega
  exact key l h.2
theorem sTidy_ev {l : List S37} (h : OkUs l) (hc : cntUs l ≤ 1048576) : Ev (fun k => spec_TidySize.f k (cvUs l)) (tidyN (cvUs l)) := by
  have hs := tidy_sum h
  have hlen : (cvUs l).length = l.length := List.length_map ..
  unfold cntUs at hc
  refine Ev.bind (f := fun k t => if t = true then spec_TidySize.l0 k (cvUs l) 0 0 else some (-1)) (pure_ev h hc) ?_
  unfold tidyN
  cases okPure tk8 pnP pwP (cvUs l) with
  | false => exact Ev.neg (by simp) (Ev.now _)
  | true =>
    refine Ev.pos rfl ?_
    rw [if_pos rfl]
    have hh := loopAdd (cvUs l) (by omega) (fun p => nbs p.f2.f0) 1048576 (fun k x a => (spec_l22Size.f k x.f2.f0 x.f2.f1).bind fun t => some (wrap64 (a + t))) (fun x hx a ha => ?_) (fun k a i => spec_TidySize.l0 k (cvUs l) a i)
      (fun k a i hi => by simp only [spec_TidySize.l0, Option.bind_assoc, Option.bind_some]; rw [if_pos (by omega), if_pos (by omega), rdIU hi]) (fun k a => by simp only [spec_TidySize.l0]; rw [if_neg (by omega)]) (cvUs l).length 0 0 (by omega) (by rw [List.drop_zero]; omega)
    · rw [List.drop_zero] at hh
      exact Ev.cast hh (by omega)
    · exact Ev.bind (f := fun _ t => some (wrap64 ((a : Int) + t))) (sSize_ev _ _ _ (Nat.le_refl _) (by omega)) (Ev.val (by rw [wadd (by omega)]))
theorem iTidy_ev {l : List S37} (h : OkUs l) (hc : cntUs l ≤ 1048576) : Ev (fun k => impl_TidySize.f k (cvUs l)) (tidyN (cvUs l)) := by
  have hs := tidy_sum h
  have hlen : (cvUs l).length = l.length := List.length_map ..
  unfold cntUs at hc
  refine Ev.bind (g := fun _ => impl_PureOk.f (cvUs l)) (f := fun k t => if t = true then impl_TidySize.l0 k 0 (cvUs l) (cvUs l).length 0 else some (-1)) (Ev.now _) ?_
  unfold tidyN
  cases okPure tk8 pnP pwP (cvUs l) with
  | false => exact Ev.neg (by simp) (Ev.now _)
  | true =>
    refine Ev.pos rfl ?_
    rw [if_pos rfl]
    have hh := loopAdd (cvUs l) (by omega) (fun p => nbs p.f2.f0) 1048576 (fun k x a => (impl_bodySize.f k x.f2.f0 x.f2.f1).bind fun t => some (wrap64 (a + t))) (fun x hx a ha => ?_) (fun k a i => impl_TidySize.l0 k a (cvUs l) (cvUs l).length i)
      (fun k a i hi => by simp only [impl_TidySize.l0, Option.bind_assoc, Option.bind_some]; rw [if_pos (by omega), if_pos (by omega), if_pos (by omega), rdIU hi]) (fun k a => by simp only [impl_TidySize.l0]; rw [if_neg (by omega)]) (cvUs l).length 0 0 (by omega) (by rw [List.drop_zero]; omega)
    · rw [List.drop_zero] at hh
      exact Ev.cast hh (by omega)
    · exact Ev.bind (f := fun _ t => some (wrap64 ((a : Int) + t))) (iSize_ev _ _ _ (Nat.le_refl _) (by omega)) (Ev.val (by rw [wadd (by omega)]))
end Go.Proofs.Ytdgpegkgelciaaa.ExU
end
section
namespace Go.Proofs.Ytdgpegkgelciaaa.ExU
open Go.RowKit Go.Proofs.Ytdgpegkgelciaaa.PA Go.Proofs.YtdgpegkgelciaaaW.PrintWords Go.Proofs.YtdgpegkgelciaaaW.PrintLast Go.Proofs.YtdgpegkgelciaaaW.PrintMore Go.Proofs.Ytdgpegkgelciaaa.OpenU
open Go.Proofs.Ytdgpegkgelciaaa.PA (Ev.pos Ev.neg Ev.val Ev.cast Ev.shift)
mutual
def nt : S78 → Nat
  | ⟨_, _, _, _, l⟩ => nts l
def nts : List S78 → Nat
  | [] => 0
  | x :: r => 1 + nt x + nts r
end
theorem nt_eq (x : S78) : nt x = nts x.f4 := by cases x; rw [nt]
theorem nts_eq : ∀ l : List S78, nts l = l.length + sums nt l
  | [] => rfl
  | x :: r => by rw [nts, sums, List.length_cons, nts_eq r]; omega
theorem nts_eq1 : ∀ l : List S78, nts l = sums (fun x => 1 + nt x) l
  | [] => rfl
  | x :: r => by rw [nts, sums, nts_eq1 r]
theorem nt_mem {x : S78} {l : List S78} (h : x ∈ l) : 1 + nt x ≤ nts l := by rw [nts_eq1]; exact sums_mem (c := fun x => 1 + nt x) h
mutual
def mb : S64 → Nat
  | ⟨_, _, _, ts, ⟨b0, t0⟩, ⟨b1, t1⟩⟩ => nts ts + ((nts t0 + mbs b0) + (nts t1 + mbs b1))
def mbs : List S64 → Nat
  | [] => 0
  | x :: r => 1 + mb x + mbs r
end
mutual
def qb : S64 → Nat
  | ⟨_, _, _, ts, ⟨b0, t0⟩, ⟨b1, t1⟩⟩ => nts ts + ((nts t0 + qbs b0) + (nts t1 + qbs b1))
def qbs : List S64 → Nat
  | [] => 0
  | x :: r => qb x + qbs r
end
theorem mb_eq (x : S64) : mb x = nts x.f3 + ((nts x.f4.f1 + mbs x.f4.f0) + (nts x.f5.f1 + mbs x.f5.f0)) := by
  obtain ⟨_, _, _, _, ⟨_, _⟩, ⟨_, _⟩⟩ := x
  rw [mb]
theorem qb_eq (x : S64) : qb x = nts x.f3 + ((nts x.f4.f1 + qbs x.f4.f0) + (nts x.f5.f1 + qbs x.f5.f0)) := by
  obtain ⟨_, _, _, _, ⟨_, _⟩, ⟨_, _⟩⟩ := x
  rw [qb]
theorem mbs_eq : ∀ l : List S64, mbs l = l.length + sums mb l
  | [] => rfl
  | x :: r => by rw [mbs, sums, List.length_cons, mbs_eq r]; omega
theorem qbs_eq : ∀ l : List S64, qbs l = sums qb l
  | [] => rfl
  | x :: r => by rw [qbs, sums, qbs_eq r]
theorem mb_mem {x : S64} {l : List S64} (h : x ∈ l) : 1 + mb x ≤ mbs l := by
  rw [mbs_eq]
  have := sums_mem (c := mb) h
  have := List.length_pos_of_mem h
  omega
mutual
theorem qb_mb : ∀ x : S64, qb x ≤ mb x
  | ⟨_, _, _, ts, ⟨b0, t0⟩, ⟨b1, t1⟩⟩ => by
    rw [qb, mb]
    have := qbs_mbs b0
    have := qbs_mbs b1
    omega
theorem qbs_mbs : ∀ l : List S64, qbs l ≤ mbs l
  | [] => Nat.le_refl _
  | x :: r => by
    rw [qbs, mbs]
    have := qb_mb x
    have := qbs_mbs r
    omega
end
theorem sCount_ev : ∀ (n : Nat) (x : S78), nt x ≤ n → n ≤ 1048576 → Ev (fun k => spec_l23Count.f k x.f0 x.f1 x.f2 x.f3 x.f4) ((1 + nt x : Nat) : Int) := by
  intro n
  induction n using Nat.strongRecOn with
  | _ n ih =>
    intro x hn hb
    have hq := nts_eq x.f4
    have e := nt_eq x
    refine Ev.step (f := fun k => spec_l23Count.l0 k (1 : Nat) (0 : Nat) x.f0 x.f1 x.f2 x.f3 x.f4) (fun k => by simp only [spec_l23Count.f]; rfl) ?_
    have hh := loopAdd x.f4 (by omega) (fun y => 1 + nt y) 1048577 (fun k y a => (spec_l23Count.f k y.f0 y.f1 y.f2 y.f3 y.f4).bind fun t => some (wrap64 (a + t))) (fun y hy a ha => ?_) (fun k a i => spec_l23Count.l0 k a i x.f0 x.f1 x.f2 x.f3 x.f4)
      (fun k a i hi => by simp only [spec_l23Count.l0, Option.bind_assoc, Option.bind_some]; rw [if_pos (by omega), if_pos (by omega), rdIT hi]) (fun k a => by simp only [spec_l23Count.l0]; rw [if_neg (by omega)]) x.f4.length 0 1 (by omega) (by rw [List.drop_zero, ← nts_eq1]; omega)
    · rw [List.drop_zero, ← nts_eq1] at hh
      exact Ev.cast hh (by rw [e])
    · have hm := nt_mem hy
      exact Ev.bind (f := fun _ t => some (wrap64 ((a : Int) + t))) (ih (nt y) (by omega) y (Nat.le_refl _) (by omega)) (Ev.val (by rw [wadd (by omega)]))
theorem iTerms_ev : ∀ (n : Nat) (l : List S78), nts l ≤ n → n ≤ 1048576 → Ev (fun k => impl_termsSize.f k l) ((nts l : Nat) : Int) := by
  intro n
  induction n using Nat.strongRecOn with
  | _ n ih =>
    intro l hn hb
    have hq := nts_eq l
    refine Ev.step (f := fun k => impl_termsSize.l0 k l.length l l.length (0 : Nat)) (fun k => by simp only [impl_termsSize.f]; rfl) ?_
    have hh := loopAdd l (by omega) nt 1048576 (fun k y a => (impl_termsSize.f k y.f4).bind fun t => some (wrap64 (a + t))) (fun y hy a ha => ?_) (fun k a i => impl_termsSize.l0 k a l l.length i)
      (fun k a i hi => by simp only [impl_termsSize.l0, Option.bind_assoc, Option.bind_some]; rw [if_pos (by omega), if_pos (by omega), if_pos (by omega), rdIT hi]) (fun k a => by simp only [impl_termsSize.l0]; rw [if_neg (by omega)]) l.length 0 l.length (by omega) (by rw [List.drop_zero]; omega)
    · rw [List.drop_zero] at hh
      exact Ev.cast hh (by rw [hq])
    · have hm := nt_mem hy
      have e := nt_eq y
      exact Ev.bind (f := fun _ t => some (wrap64 ((a : Int) + t))) (ih (nts y.f4) (by omega) _ (Nat.le_refl _) (by omega)) (Ev.val (by rw [wadd (by omega)]; omega))
theorem iBody_ev : ∀ (n : Nat) (l : List S64) (ts : List S78), mbs l ≤ n → n ≤ 1048576 → nts ts + mbs l ≤ 1048576 → Ev (fun k => impl_bodyTerms.f k l ts) ((nts ts + qbs l : Nat) : Int) := by
  intro n
  induction n using Nat.strongRecOn with
  | _ n ih =>
    intro l ts hn hb ht
    have hq := mbs_eq l
    have hle := qbs_mbs l
    refine Ev.step (f := fun k => (impl_termsSize.f k ts).bind fun t => impl_bodyTerms.l0 k t l l.length (0 : Nat)) (fun k => by simp only [impl_bodyTerms.f]; rfl) ?_
    refine Ev.bind (f := fun k t => impl_bodyTerms.l0 k t l l.length (0 : Nat)) (iTerms_ev _ ts (Nat.le_refl _) (by omega)) ?_
    have hh := loopAdd l (by omega) qb 1048576 (fun k x a => (impl_termsSize.f k x.f3).bind fun s => ((impl_bodyTerms.f k x.f4.f0 x.f4.f1).bind fun t => ((impl_bodyTerms.f k x.f5.f0 x.f5.f1).bind fun u => some (wrap64 (a + wrap64 (wrap64 (s + t) + u)))))) (fun x hx a ha => ?_) (fun k a i => impl_bodyTerms.l0 k a l l.length i)
      (fun k a i hi => by simp only [impl_bodyTerms.l0, Option.bind_assoc, Option.bind_some]; rw [if_pos (by omega), if_pos (by omega), if_pos (by omega), rdIB hi]) (fun k a => by simp only [impl_bodyTerms.l0]; rw [if_neg (by omega)]) l.length 0 (nts ts) (by omega) (by rw [List.drop_zero, ← qbs_eq]; omega)
    · rw [List.drop_zero, ← qbs_eq] at hh
      exact hh
    · have hm := mb_mem hx
      have e := mb_eq x
      have e2 := qb_eq x
      refine Ev.bind (f := fun k s => (impl_bodyTerms.f k x.f4.f0 x.f4.f1).bind fun t => ((impl_bodyTerms.f k x.f5.f0 x.f5.f1).bind fun u => some (wrap64 (a + wrap64 (wrap64 (s + t) + u))))) (iTerms_ev _ x.f3 (Nat.le_refl _) (by omega)) ?_
      refine Ev.bind (f := fun k t => (impl_bodyTerms.f k x.f5.f0 x.f5.f1).bind fun u => some (wrap64 (a + wrap64 (wrap64 (((nts x.f3 : Nat) : Int) + t) + u)))) (ih (mbs x.f4.f0) (by omega) _ x.f4.f1 (Nat.le_refl _) (by omega) (by omega)) ?_
      exact Ev.bind (f := fun _ u => some (wrap64 ((a : Int) + wrap64 (wrap64 (((nts x.f3 : Nat) : Int) + ((nts x.f4.f1 + qbs x.f4.f0 : Nat) : Int)) + u)))) (ih (mbs x.f5.f0) (by omega) _ x.f5.f1 (Nat.le_refl _) (by omega) (by omega)) (Ev.val (by rw [wadd (by omega), wadd (by omega), wadd (by omega)]; omega))
def tailQ (l : List S64) (x : S64) (ts : List S78) (i : Nat) (k : Nat) (a : Int) : Option Int :=
  (spec_l23Size.f k x.f4.f0 x.f4.f1).bind fun t => ((spec_l23Size.f k x.f5.f0 x.f5.f1).bind fun u => spec_l23Size.l1 k (wrap64 (wrap64 (a + t) + u)) (i + 1 : Nat) l ts)
theorem sq_l2 (l : List S64) (hl : l.length ≤ 1048576) (ts : List S78) (i : Nat) (hi : i < l.length) (hts : l[i].f3.length ≤ 1048576) (r : Int) : ∀ d j a : Nat, j + d = l[i].f3.length → a + sums (fun y => 1 + nt y) (l[i].f3.drop j) ≤ 1048576 →
    Ev (fun k => tailQ l l[i] ts i k ((a + sums (fun y => 1 + nt y) (l[i].f3.drop j) : Nat) : Int)) r → Ev (fun k => spec_l23Size.l2 k a i j l ts) r
  | 0, j, a, hj, ha, h => by
    rw [List.drop_eq_nil_of_le (by omega)] at h
    refine Ev.step (f := fun k => tailQ l l[i] ts i k (a : Int)) (fun k => ?_) h
    simp only [spec_l23Size.l2, rdIB hi]
    rw [if_pos (by omega), if_pos (by omega), if_neg (by omega), suc63 i (by omega)]
    rfl
  | d + 1, j, a, hj, ha, h => by
    have hjl : j < l[i].f3.length := by omega
    rw [List.drop_eq_getElem_cons hjl, sums] at ha h
    refine Ev.step (f := fun k => (spec_l23Count.f k l[i].f3[j].f0 l[i].f3[j].f1 l[i].f3[j].f2 l[i].f3[j].f3 l[i].f3[j].f4).bind fun t => spec_l23Size.l2 k (wrap64 ((a : Int) + t)) i (j + 1 : Nat) l ts) (fun k => ?_) ?_
    · simp only [spec_l23Size.l2, rdIB hi, rdIT hjl]
      rw [if_pos (by omega), if_pos (by omega), if_pos (by omega), if_pos (by omega), suc63 j (by omega)]
    · refine Ev.bind (f := fun k t => spec_l23Size.l2 k (wrap64 ((a : Int) + t)) i (j + 1 : Nat) l ts) (sCount_ev _ l[i].f3[j] (Nat.le_refl _) (by omega)) ?_
      rw [wadd (by omega)]
      exact sq_l2 l hl ts i hi hts r d (j + 1) _ (by omega) (by omega) (by rwa [Nat.add_assoc])
theorem sq_l1 (l : List S64) (hl : l.length ≤ 1048576) (ts : List S78) (B : Nat) (hB : B ≤ 1048576)
    (h0 : ∀ x ∈ l, Ev (fun k => spec_l23Size.f k x.f4.f0 x.f4.f1) ((nts x.f4.f1 + qbs x.f4.f0 : Nat) : Int)) (h1 : ∀ x ∈ l, Ev (fun k => spec_l23Size.f k x.f5.f0 x.f5.f1) ((nts x.f5.f1 + qbs x.f5.f0 : Nat) : Int)) :
    ∀ d i a : Nat, i + d = l.length → a + sums qb (l.drop i) ≤ B → Ev (fun k => spec_l23Size.l1 k a i l ts) ((a + sums qb (l.drop i) : Nat) : Int)
  | 0, i, a, hi, ha => by
    rw [List.drop_eq_nil_of_le (by omega)]
    exact Ev.step (f := fun _ => some (a : Int)) (fun k => by simp only [spec_l23Size.l1]; rw [if_neg (by omega)]) (Ev.val rfl)
  | d + 1, i, a, hi, ha => by
    have h : i < l.length := by omega
    rw [List.drop_eq_getElem_cons h, sums] at ha ⊢
    have e := qb_eq l[i]
    refine Ev.step (f := fun k => spec_l23Size.l2 k a i (0 : Nat) l ts) (fun k => by simp only [spec_l23Size.l1]; rw [if_pos (by omega)]; rfl) ?_
    refine sq_l2 l hl ts i h (by have := nts_eq l[i].f3; omega) _ l[i].f3.length 0 a (by omega) (by rw [List.drop_zero, ← nts_eq1]; omega) ?_
    rw [List.drop_zero, ← nts_eq1]
    refine Ev.bind (f := fun k t => (spec_l23Size.f k l[i].f5.f0 l[i].f5.f1).bind fun u => spec_l23Size.l1 k (wrap64 (wrap64 (((a + nts l[i].f3 : Nat) : Int) + t) + u)) (i + 1 : Nat) l ts) (h0 _ (List.getElem_mem h)) ?_
    refine Ev.bind (f := fun k u => spec_l23Size.l1 k (wrap64 (wrap64 (((a + nts l[i].f3 : Nat) : Int) + ((nts l[i].f4.f1 + qbs l[i].f4.f0 : Nat) : Int)) + u)) (i + 1 : Nat) l ts) (h1 _ (List.getElem_mem h)) ?_
    rw [wadd (by omega), wadd (by omega)]
    exact Ev.cast (sq_l1 l hl ts B hB h0 h1 d (i + 1) _ (by omega) (by omega)) (by omega)
theorem sq_l0 (l : List S64) (ts : List S78) (hts : ts.length ≤ 1048576) (r : Int) : ∀ d j a : Nat, j + d = ts.length → a + sums (fun y => 1 + nt y) (ts.drop j) ≤ 1048576 →
    Ev (fun k => spec_l23Size.l1 k ((a + sums (fun y => 1 + nt y) (ts.drop j) : Nat) : Int) (0 : Nat) l ts) r → Ev (fun k => spec_l23Size.l0 k a j l ts) r
  | 0, j, a, hj, ha, h => by
    rw [List.drop_eq_nil_of_le (by omega)] at h
    exact Ev.step (f := fun k => spec_l23Size.l1 k a (0 : Nat) l ts) (fun k => by simp only [spec_l23Size.l0]; rw [if_neg (by omega)]; rfl) h
  | d + 1, j, a, hj, ha, h => by
    have hjl : j < ts.length := by omega
    rw [List.drop_eq_getElem_cons hjl, sums] at ha h
    refine Ev.step (f := fun k => (spec_l23Count.f k ts[j].f0 ts[j].f1 ts[j].f2 ts[j].f3 ts[j].f4).bind fun t => spec_l23Size.l0 k (wrap64 ((a : Int) + t)) (j + 1 : Nat) l ts) (fun k => ?_) ?_
    · simp only [spec_l23Size.l0, rdIT hjl]
      rw [if_pos (by omega), if_pos (by omega), suc63 j (by omega)]
    · refine Ev.bind (f := fun k t => spec_l23Size.l0 k (wrap64 ((a : Int) + t)) (j + 1 : Nat) l ts) (sCount_ev _ ts[j] (Nat.le_refl _) (by omega)) ?_
      rw [wadd (by omega)]
      exact sq_l0 l ts hts r d (j + 1) _ (by omega) (by omega) (by rwa [Nat.add_assoc])
theorem sBody_ev : ∀ (n : Nat) (l : List S64) (ts : List S78), mbs l ≤ n → n ≤ 1048576 → nts ts + mbs l ≤ 1048576 → Ev (fun k => spec_l23Size.f k l ts) ((nts ts + qbs l : Nat) : Int) := by
  intro n
  induction n using Nat.strongRecOn with
  | _ n ih =>
    intro l ts hn hb ht
    have hq := mbs_eq l
    have hle := qbs_mbs l
    refine Ev.step (f := fun k => spec_l23Size.l0 k (0 : Nat) (0 : Nat) l ts) (fun k => by simp only [spec_l23Size.f]; rfl) ?_
    refine sq_l0 l ts (by have := nts_eq ts; omega) _ ts.length 0 0 (by omega) (by rw [List.drop_zero, ← nts_eq1]; omega) ?_
    rw [List.drop_zero, ← nts_eq1]
    have hh := sq_l1 l (by omega) ts 1048576 (Nat.le_refl _) (fun x hx => ih (mbs x.f4.f0) (by have := mb_mem hx; have := mb_eq x; omega) _ x.f4.f1 (Nat.le_refl _) (by have := mb_mem hx; have := mb_eq x; omega) (by have := mb_mem hx; have := mb_eq x; omega))
      (fun x hx => ih (mbs x.f5.f0) (by have := mb_mem hx; have := mb_eq x; omega) _ x.f5.f1 (Nat.le_refl _) (by have := mb_mem hx; have := mb_eq x; omega) (by have := mb_mem hx; have := mb_eq x; omega)) l.length 0 (0 + nts ts) (by omega) (by rw [List.drop_zero, ← qbs_eq]; omega)
    rw [List.drop_zero, ← qbs_eq] at hh
    exact Ev.cast hh (by omega)
theorem nt_cnt {x : S96} (h : Ok96 x) : nt (cvT x) ≤ cntT x := by
  induction h with
  | mk t h0 h1 h2 h3 h4 h5 h6 ih =>
    rw [cntT_eq, cvT_eq, nt_eq]
    have key : ∀ l : List S96, (∀ x ∈ l, nt (cvT x) ≤ cntT x) → nts (cvTs l) ≤ cntTs l := by
      intro l
      induction l with
      | nil => intro _; simp [cvTs, nts]
      | cons y r ihr =>
        intro hy
        rw [cvTs, nts, cntTs]
        have := hy y List.mem_cons_self
        have := ihr fun z hz => hy z (List.mem_cons_of_mem _ hz)
        omega
    have := key _ ih
    simp only
    omega
theorem nts_cnts : ∀ l : List S96, (∀ x ∈ l, Ok96 x) → nts (cvTs l) ≤ cntTs l
  | [], _ => by simp [cvTs, nts]
  | y :: r, h => by
    rw [cvTs, nts, cntTs]
    have := nt_cnt (h y List.mem_cons_self)
    have := nts_cnts r fun z hz => h z (List.mem_cons_of_mem _ hz)
    omega
theorem mb_cnt {x : S93} (h : Ok93 x) : mb (cvB x) ≤ cntB x := by
  induction h with
  | mk t h0 h1 h2 h3 h4 h5 h6 h7 h8 h9 ih1 ih2 =>
    rw [cntB_eq, cvB_eq, mb_eq]
    have key : ∀ l : List S93, (∀ x ∈ l, mb (cvB x) ≤ cntB x) → mbs (cvBs l) ≤ cntBs l := by
      intro l
      induction l with
      | nil => intro _; simp [cvBs, mbs]
      | cons y r ihr =>
        intro hy
        rw [cvBs, mbs, cntBs]
        have := hy y List.mem_cons_self
        have := ihr fun z hz => hy z (List.mem_cons_of_mem _ hz)
        omega
    have := key _ ih1
    have := key _ ih2
    have := nts_cnts _ h3.2
    have := nts_cnts _ h6.2
    have := nts_cnts _ h9.2
    simp only
    omega
theorem mbs_cnts : ∀ l : List S93, (∀ x ∈ l, Ok93 x) → mbs (cvBs l) ≤ cntBs l
  | [], _ => by simp [cvBs, mbs]
  | y :: r, h => by
    rw [cvBs, mbs, cntBs]
    have := mb_cnt (h y List.mem_cons_self)
    have := mbs_cnts r fun z hz => h z (List.mem_cons_of_mem _ hz)
    omega
def qU (p : S45) : Nat := nts p.f2.f1 + qbs p.f2.f0
def simpN (l : List S45) : Int := if okPure tk8 pnP pwP l = true then ((sums qU l : Nat) : Int) else -1
theorem simp_one {y : S37} (h : OkU y) : nts (cvU y).f2.f1 + mbs (cvU y).f2.f0 ≤ cntU y := by
  have h1 := mbs_cnts y.f2.f0 h.2.2.1.2
  have h2 := nts_cnts y.f2.f1 h.2.2.2.2
  show nts (cvTs y.f2.f1) + mbs (cvBs y.f2.f0) ≤ cntU y
  unfold cntU
  omega
theorem simp_sum {l : List S37} (h : OkUs l) : sums qU (cvUs l) ≤ sums cntU l := by
  have key : ∀ l : List S37, (∀ x ∈ l, OkU x) → sums qU (cvUs l) ≤ sums cntU l := by
    intro l
    induction l with
    | nil => intro _; exact Nat.le_refl _
    | cons y r ihr =>
      intro hy
      have h1 := simp_one (hy y List.mem_cons_self)
      have h2 := ihr fun z hz => hy z (List.mem_cons_of_mem _ hz)
      have h3 := qbs_mbs (cvU y).f2.f0
      show qU (cvU y) + sums qU (cvUs r) ≤ cntU y + sums cntU r
      unfold qU at *
      omega
  exact key l h.2
theorem simp_few {l : List S37} (h : OkUs l) (hc : cntUs l ≤ 1048576) {x : S45} (hx : x ∈ cvUs l) : nts x.f2.f1 + mbs x.f2.f0 ≤ 1048576 := by
  obtain ⟨y, hy, rfl⟩ := List.mem_map.1 hx
  have := simp_one (h.2 y hy)
  have := sums_mem (c := cntU) hy
  unfold cntUs at hc
  omega
theorem sSimp_ev {l : List S37} (h : OkUs l) (hc : cntUs l ≤ 1048576) : Ev (fun k => spec_SimpSize.f k (cvUs l)) (simpN (cvUs l)) := by
  have hs := simp_sum h
  have hf := @simp_few l h hc
  have hlen : (cvUs l).length = l.length := List.length_map ..
  refine Ev.bind (f := fun k t => if t = true then spec_SimpSize.l0 k (cvUs l) 0 0 else some (-1)) (pure_ev h hc) ?_
  unfold cntUs at hc
  unfold simpN
  cases okPure tk8 pnP pwP (cvUs l) with
  | false => exact Ev.neg (by simp) (Ev.now _)
  | true =>
    refine Ev.pos rfl ?_
    rw [if_pos rfl]
    have hh := loopAdd (cvUs l) (by omega) qU 1048576 (fun k x a => (spec_l23Size.f k x.f2.f0 x.f2.f1).bind fun t => some (wrap64 (a + t))) (fun x hx a ha => ?_) (fun k a i => spec_SimpSize.l0 k (cvUs l) a i)
      (fun k a i hi => by simp only [spec_SimpSize.l0, Option.bind_assoc, Option.bind_some]; rw [if_pos (by omega), if_pos (by omega), rdIU hi]) (fun k a => by simp only [spec_SimpSize.l0]; rw [if_neg (by omega)]) (cvUs l).length 0 0 (by omega) (by rw [List.drop_zero]; omega)
    · rw [List.drop_zero] at hh
      exact Ev.cast hh (by omega)
    · have := hf hx
      exact Ev.bind (f := fun _ t => some (wrap64 ((a : Int) + t))) (sBody_ev _ _ _ (Nat.le_refl _) (by omega) (by omega)) (Ev.val (by unfold qU at *; rw [wadd (by omega)]))
theorem iSimp_ev {l : List S37} (h : OkUs l) (hc : cntUs l ≤ 1048576) : Ev (fun k => impl_SimpSize.f k (cvUs l)) (simpN (cvUs l)) := by
  have hs := simp_sum h
  have hf := @simp_few l h hc
  have hlen : (cvUs l).length = l.length := List.length_map ..
  unfold cntUs at hc
  refine Ev.bind (g := fun _ => impl_PureOk.f (cvUs l)) (f := fun k t => if t = true then impl_SimpSize.l0 k 0 (cvUs l) (cvUs l).length 0 else some (-1)) (Ev.now _) ?_
  unfold simpN
  cases okPure tk8 pnP pwP (cvUs l) with
  | false => exact Ev.neg (by simp) (Ev.now _)
  | true =>
    refine Ev.pos rfl ?_
    rw [if_pos rfl]
    have hh := loopAdd (cvUs l) (by omega) qU 1048576 (fun k x a => (impl_bodyTerms.f k x.f2.f0 x.f2.f1).bind fun t => some (wrap64 (a + t))) (fun x hx a ha => ?_) (fun k a i => impl_SimpSize.l0 k a (cvUs l) (cvUs l).length i)
      (fun k a i hi => by simp only [impl_SimpSize.l0, Option.bind_assoc, Option.bind_some]; rw [if_pos (by omega), if_pos (by omega), if_pos (by omega), rdIU hi]) (fun k a => by simp only [impl_SimpSize.l0]; rw [if_neg (by omega)]) (cvUs l).length 0 0 (by omega) (by rw [List.drop_zero]; omega)
    · rw [List.drop_zero] at hh
      exact Ev.cast hh (by omega)
    · have := hf hx
      exact Ev.bind (f := fun _ t => some (wrap64 ((a : Int) + t))) (iBody_ev _ _ _ (Nat.le_refl _) (by omega) (by omega)) (Ev.val (by unfold qU at *; rw [wadd (by omega)]))
end Go.Proofs.Ytdgpegkgelciaaa.ExU
end
section
namespace Go.Proofs.Ytdgpegkgelciaaa.Pure
open Go.RowKit Go.Proofs.Ytdgpegkgelciaaa.PA Go.Proofs.YtdgpegkgelciaaaW.PrintWords Go.Proofs.YtdgpegkgelciaaaW.PrintLast Go.Proofs.YtdgpegkgelciaaaW.PrintMore Go.Proofs.Ytdgpegkgelciaaa.OpenU Go.Proofs.Ytdgpegkgelciaaa.ExU
open Go.Proofs.Ytdgpegkgelciaaa.PA (Ev.pos Ev.neg Ev.val Ev.cast Ev.shift)
theorem FnExactSimpSize (l : List S37) (h : OkUs l) : ∃ k, laws_FnExactSimpSize.f k l = some true := by
  refine Ev.rounds (g := fun k => laws_FnExactSimpSize.f k l) ?_
  unfold laws_FnExactSimpSize.f
  refine Ev.bind (g := fun k => laws_szPureS.f k l 1048576) (f := fun k t => if t < 0 then some true else ((laws_toPureS.f k l).bind fun a => ((spec_SimpSize.f k a).bind fun b => ((laws_toPureS.f k l).bind fun c => ((impl_SimpSize.f k c).bind fun d => (if d = b then ((laws_toPureS.f k l).bind fun e => ((laws_eqPureS.f k c e).bind fun u => (if u = true then (some true) else (some false)))) else (some false))))))) (szUs_ev h (a := 1048576) (Nat.le_refl _)) ?_
  by_cases hc : cntUs l ≤ 1048576
  · have ht := toUs_ev h hc
    refine Ev.neg (by rw [left_neg]; omega) ?_
    refine Ev.bind (f := fun k a => (spec_SimpSize.f k a).bind fun b => ((laws_toPureS.f k l).bind fun c => ((impl_SimpSize.f k c).bind fun d => (if d = b then ((laws_toPureS.f k l).bind fun e => ((laws_eqPureS.f k c e).bind fun u => (if u = true then (some true) else (some false)))) else (some false))))) ht ?_
    refine Ev.bind (f := fun k b => (laws_toPureS.f k l).bind fun c => ((impl_SimpSize.f k c).bind fun d => (if d = b then ((laws_toPureS.f k l).bind fun e => ((laws_eqPureS.f k c e).bind fun u => (if u = true then (some true) else (some false)))) else (some false)))) (sSimp_ev h hc) ?_
    refine Ev.bind (f := fun k c => (impl_SimpSize.f k c).bind fun d => (if d = _ then ((laws_toPureS.f k l).bind fun e => ((laws_eqPureS.f k c e).bind fun u => (if u = true then (some true) else (some false)))) else (some false))) ht ?_
    refine Ev.bind (f := fun k d => if d = _ then ((laws_toPureS.f k l).bind fun e => ((laws_eqPureS.f k (cvUs l) e).bind fun u => (if u = true then (some true) else (some false)))) else (some false)) (iSimp_ev h hc) (Ev.pos rfl ?_)
    exact Ev.bind (f := fun k e => (laws_eqPureS.f k (cvUs l) e).bind fun u => (if u = true then (some true) else (some false))) ht (evT (f := fun _ => some true) (eqUs_ev h hc) (Ev.now true))
  · exact Ev.pos (by rw [left_neg]; omega) (Ev.now true)
end Go.Proofs.Ytdgpegkgelciaaa.Pure
end
section
namespace Go.Proofs.YtdgpegkgelciaaaW.PrintWords
open Go.ChangeShapes Go.WideShapes
end Go.Proofs.YtdgpegkgelciaaaW.PrintWords
end
section
namespace Go.Proofs.Ytdgpegkgelciaaa.fnExactSimpSize
open Go.ChangeShapes Go.WideShapes Go.ChangeAt Go.RowKit Go.Proofs.Ytdgpegkgelciaaa.PA Go.Proofs.Ytdgpegkgelciaaa.OpenU Go.Proofs.YtdgpegkgelciaaaW.PrintWords
open Go.ChangeMaps (open_string shut_string)
set_option linter.unusedVariables false
theorem own : ownKnob Try.prog.godebug = none := by kernel_rfl
theorem laidOut : laidOutB Try.prog = true := by kernel_rfl
def IsRow (k : IntKind) (w : World) (a : Option Addr) (len cap : Nat) (zs : List Int) : Prop :=
  (a = none ∧ len = 0 ∧ cap = 0 ∧ zs = []) ∨
  ∃ x, a = some x ∧ len ≤ cap ∧ cap ≤ maxLen ∧ zs.length = cap ∧ (∀ i, i < zs.length → w.cell? (x.add i) = some (.int k (zs.getD i 0))) ∧ ∀ n ∈ zs, (Lit.int k n).wf = true
set_option maxRecDepth 100000 in
theorem lifted (os : Os) (started : os.Started) (H : Type) (enc : TypeId × Value → H) :
    ReturnsInHanded {} Try.checked os 5 .any (Rows.fnExactSimpSizeSpec.pre6 enc Try.prog Try.f5 Rows.fnExactSimpSizeRow.domain false) (Rows.fnExactSimpSizeSpec.post enc Try.prog Try.f5 false true false false) := by
  refine returnsInHanded_of_change_sized (C := Try.checked) own started (by kernel_rfl) Try.func5
    (ChangeSpec.witness6 (enc := enc) (C := Try.checked) false ⟨#[], #[.slice none 0 0], []⟩ 8 (by kernel_rfl) (by kernel_rfl) (by kernel_rfl) (by kernel_rfl)) ?_
  intro W base args ds gs before hval0 hW hcnd hsz0 _
  have hsz : (DataW.weightsEach Try.prog (Try.f5.params.toList ++ Rows.fnExactSimpSizeSpec.plain.varTypes Try.prog) (ds ++ gs)).all (· ≤ reachBytes) = true := hsz0
  have hval : ∀ (j : Nat) t v, Try.f5.params[j]? = some t → args[j]? = some v → Value.okWide Try.prog W .any base t v := hval0
  have hW' := hW
  obtain ⟨p, q, hA0, hV, rfl, hfz, hnd⟩ := hW
  have hA : DataW.TrodAll enc Try.prog W 0 (fun _ => true) true Try.f5.params.toList args.toList ds p := hA0
  rw [Try.params5] at hA hval hsz
  obtain ⟨v0, vs0, d0, ds0, p0, q0, hargs, rfl, rfl, h0, r0⟩ := trodAll_cons hA
  obtain ⟨rfl, rfl, rfl⟩ := trodAll_nil r0
  obtain rfl : args = #[v0] := by cases args; simp_all
  obtain ⟨rfl, rfl⟩ := trodVars_none hV
  have k0 := h0
  have lt0 : ∀ x ∈ p0, x.block < W.heap.size := by obtain ⟨m, hm⟩ := k0; exact DataW.trod_lt m _ _ _ hm
  obtain ⟨a0, len0, cap0, rfl⟩ := okWide_slice Try.underlying22 (hval 0 22 v0 rfl rfl)
  obtain ⟨l0, rfl, c0, b0, bd0⟩ := argU h0
  clear hA0 hval0 hsz0 hsz
  obtain ⟨k, hk⟩ := Pure.FnExactSimpSize l0 bd0
  refine (laws_FnExactSimpSize.calls k _ _ l0 true W c0 b0 hk ⟨rfl⟩).mono fun e W' ⟨he, bel⟩ => ?_
  subst he
  exact ⟨_, rfl, _, _, _, [], _, [], hW', trodAll_mk1 (shut_bool Try.underlying4 _), (trodAll_cons_mk (Below.trod laidOut (by kernel_rfl) (of_decide_eq_true (by kernel_rfl)) k0 bel lt0) trodAll_mk0), rfl, bel.frame _, fun h => by cases h⟩
theorem over : Rows.fnExactSimpSizeRow.holds Try.pinned (OpenSpec.ofChange Rows.fnExactSimpSizeSpec) :=
  OpenClaim.holds_of_wide 5 Try.f5 rfl rfl rfl rfl rfl rfl rfl ⟨rfl, rfl, rfl, rfl, rfl⟩ rfl rfl rfl rfl rfl (by kernel_rfl) Try.func5 (by kernel_rfl)
    (of_decide_eq_true (by kernel_rfl)) (by unfold Func.isWrapper; first | (rw [if_pos (by decide +kernel)]; kernel_rfl) | (rw [if_neg (by decide +kernel)]; exact ⟨rfl, rfl⟩))
    (fun os started H enc _ => lifted os started H enc)
theorem proved : Rows.FnExactSimpSizeSaid := over
end Go.Proofs.Ytdgpegkgelciaaa.fnExactSimpSize
namespace Go.Proofs.Ytdgpegkgelciaaa
theorem fnExactSimpSize_holds : Rows.FnExactSimpSizeSaid := fnExactSimpSize.proved
end Go.Proofs.Ytdgpegkgelciaaa
end
